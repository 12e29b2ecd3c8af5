/-
 The machine computes these plain functions (written by a program of ours).
-/
import Derived.Test.YtjhcehhmdmbleaaGreatDoorFacts
import Derived.Test.YtjhcehhmdmbleaaGreatDoorDefs
import Derived.Test.YtjhcehhmdmbleaaGreatDoorPf2
open Go Go.Eng Go.Proofs
namespace Go.Proofs.YtjhcehhmdmbleaaGreatDoor.Law
set_option maxRecDepth 100000
set_option linter.unusedVariables false
set_option maxHeartbeats 1000000
theorem iQ {s_1:(List Span)} {del2_3:(List Int)} {del2_4:Int} {r:(List Span)} (hF:bB s_1 del2_3 del2_4=some r) :
  FnM Tryz.prog 174 [(vV (ax 2) 3 s_1),(.fn 175 [(.ref (ax 0) 0 0),(.ref (ax 1) 0 0)])] (([(.cells 1 [(vL eI del2_3)]),(.cells 1 [(vI del2_4)])]:List Box) ++ [(bV 3 Span.enc s_1)]) (vV (ax 2) 3 r) ((([(.cells 1 [(vL eI del2_3)]),(.cells 1 [(vI del2_4)])]:List Box)).map some ++ [some (bV 3 Span.enc r)]):=by
 refine FnM.of_wH ⟨Tryz.prog,42,[],[]⟩ rfl Tryz.func174 rfl rfl (Nat.le_of_ble_eq_true rfl) (by kernel_rfl) ?_
 unfold bB at hF
 refine af (aa (ae .nil wz rfl (aj (af (aa (ae (vV (ax 2) 3 s_1) wz rfl (ae (.fn 175 [(.ref (ax 0) 0 0),(.ref (ax 1) 0 0)]) wz rfl ?_)))))))
 obtain ⟨r_5,hr_6,hF⟩:=bind_some hF
 refine GD 0 [0,1] 2 0 il ft (jc hr_6) rfl hb230 rfl rfl rfl (by kernel_rfl) rfl rfl (by kernel_rfl) (by kernel_rfl) (by kernel_rfl) (by kernel_rfl) rfl (by decide) (by kernel_rfl) bV_ok wz (vI r_5) (by kernel_rfl) ([((ax 0),some (.cells 1 [(vL eI del2_3)])),((ax 1),some (.cells 1 [(vI del2_4)])),((ax 2),some (bV 3 Span.enc s_1))]:Hp) (by kernel_rfl) (ae (vI r_5) wz rfl (aj (af (af (aa (ae (vI r_5) wz rfl (ae (vB (r_5 == (-1))) wz rfl (aj ?_))))))))
 rcases au hF with⟨hc_7,hF⟩ | ⟨hc_7,hF⟩
 ·refine aA rfl hc_7 (af (aa (ae (vV (ax 2) 3 s_1) wz rfl (ae (vV (ax 2) 3 s_1) wz rfl (aj ?_)))))
  obtain rfl:=ah hF
  exact aB (xK (.inr rfl) [(vV (ax 2) 3 s_1)] _ [0,1,2] [ax 0,ax 1,ax 2] ⟨rfl,trivial⟩ (.cons (Dv _) (.nil)) (by kernel_rfl) ⟨(by kernel_rfl),⟨(by kernel_rfl),⟨(by kernel_rfl),trivial⟩⟩⟩ (by decide) (by kernel_rfl))
 ·refine ay rfl hc_7 (av (af (af (aa (ae (vI r_5) wz rfl (ae (vI (w64 (r_5 + 1))) wz rfl (ae (vI (w64 (r_5 + 1))) wz rfl (aj ?_))))))))
  obtain ⟨o_16,hj_17,hF⟩:=bind_some hF
  obtain ⟨nq_34,hj_17⟩:=cz hj_17
  refine aH (β:=((List Span)×Int×Int)) (fun (s_13:(List Span)×Int×Int)=>([(0,(vV (ax 2) 3 s_13.1)),(5,(vI s_13.2.1))]:List (Nat×V))) (fun (s_13:(List Span)×Int×Int)=>([((ax 0),some (.cells 1 [(vL eI del2_3)])),((ax 1),some (.cells 1 [(vI del2_4)])),((ax 2),some (bV 3 Span.enc s_13.1))]:Hp)) (fun p=>o_16 = .go p) ?_ ?_
  ·refine aC (aV (β:=Nat×((List Span)×Int×Int)) (fun p=>(fun (k_8:Nat) (s_13:(List Span)×Int×Int)=>([(0,(vV (ax 2) 3 s_13.1)),(1,(.fn 175 [(.ref (ax 0) 0 0),(.ref (ax 1) 0 0)])),(5,(vI s_13.2.1)),(6,(vI s_13.2.2))]:List (Nat×V))) p.1 p.2) (fun p=>(fun (k_8:Nat) (s_13:(List Span)×Int×Int)=>([((ax 0),some (.cells 1 [(vL eI del2_3)])),((ax 1),some (.cells 1 [(vI del2_4)])),((ax 2),some (bV 3 Span.enc s_13.1))]:Hp)) p.1 p.2) (fun p=>iterN (fun s=>dx del2_3 del2_4 s) p.1 p.2=some o_16) (fun p=>p.1) (nq_34,(s_1,r_5,(w64 (r_5 + 1)))) hj_17 rfl (aJ rfl) ?_)
   rintro ⟨k_8,s_13⟩ hL_15
   dsimp only at hL_15
   cases k_8 with
   | zero=>cases hL_15
   | succ k_8 =>
    obtain ⟨c_,hc_14,hL_15⟩:=bind_some hL_15
    unfold dx at hc_14
    refine af (af (aa (ae (vI s_13.2.2) wz rfl (ae (vV (ax 2) 3 s_13.1) wz rfl (F4 sV rfl wz (ae (vB (decide (s_13.2.2 < (s_13.1.length:Int)))) wz rfl (aj ?_)))))))
    rcases au hc_14 with⟨hc_18,hc_14⟩ | ⟨hc_18,hc_14⟩
    ·refine aA rfl hc_18 (av (af (aC (af (aa (ae (vV (ax 2) 3 s_13.1) wz rfl (ae (vI s_13.2.2) wz rfl ?_)))))))
     obtain ⟨_,hi_19,hc_14⟩:=bind_some hc_14
     refine zH ny rfl rfl (jf hi_19) (gm hi_19) wz ?_
     obtain ⟨e_20,hy_21,hc_14⟩:=bind_some hc_14
     refine EU 0 2 il ft iX o6 rfl rfl hy_21 (.d (.agg (Span.enc e_20))) rfl wz (dB 0 (.inl rfl) Ho rfl wz (fun n_22=>fH 0 il ft 3 iX rfl rfl [(.d (dP Entry.enc e_20.f_e)),(vI e_20.f_time.From),(vI e_20.f_time.To)] (ze rfl (bI (kU _ _) (bI rfl (bI rfl rfl))) rfl rfl) wz (aj (af (aa (ae (.fn 175 [(.ref (ax 0) 0 0),(.ref (ax 1) 0 0)]) wz rfl (aD 0 3 il ft iX o6 rfl rfl (.d (.agg (Span.enc e_20))) rfl wz ?_)))))))
     obtain ⟨r_23,hr_24,hc_14⟩:=bind_some hc_14
     refine eD 0 [0,1] il ft (kL hr_24) rfl Ls rfl (by kernel_rfl) (by kernel_rfl) (by kernel_rfl) (by kernel_rfl) (by kernel_rfl) (by kernel_rfl) (by kernel_rfl) (by decide) (by kernel_rfl) wz (vB r_23) (by kernel_rfl) ([((ax 0),some (.cells 1 [(vL eI del2_3)])),((ax 1),some (.cells 1 [(vI del2_4)])),((ax 2),some (bV 3 Span.enc s_13.1)),(n_22,some (.cells 3 [(.d (dP Entry.enc e_20.f_e)),(vI e_20.f_time.From),(vI e_20.f_time.To)]))]:Hp) (by kernel_rfl) (ae (vB (!r_23)) wz rfl (aj ?_))
     obtain ⟨v_26,h_27,hc_14⟩:=bind_some hc_14
     refine aH (β:=Unit) (fun _=>([(0,(vV (ax 2) 3 v_26.1)),(1,(.fn 175 [(.ref (ax 0) 0 0),(.ref (ax 1) 0 0)])),(5,(vI v_26.2)),(6,(vI s_13.2.2))]:List (Nat×V))) (fun _=>([((ax 0),some (.cells 1 [(vL eI del2_3)])),((ax 1),some (.cells 1 [(vI del2_4)])),((ax 2),some (bV 3 Span.enc v_26.1)),(n_22,some (.cells 3 [(.d (dP Entry.enc e_20.f_e)),(vI e_20.f_time.From),(vI e_20.f_time.To)]))]:Hp)) (fun _=>True) ?_ ?_
     ·rcases au h_27 with⟨hc_28,h_27⟩ | ⟨hc_28,h_27⟩
      ·refine aA rfl hc_28 (af (aa (ae (vV (ax 2) 3 s_13.1) wz rfl (ae (vI s_13.2.1) wz rfl (aD 0 3 il ft iX o6 rfl rfl (.d (.agg (Span.enc e_20))) rfl wz ?_)))))
       obtain ⟨_,hi_29,h_27⟩:=bind_some h_27
       refine zH ny rfl rfl (jf hi_29) (gm hi_29) wz ?_
       obtain ⟨e_30,hy_31,h_27⟩:=bind_some h_27
       refine Li 0 il ft 2 iX rfl rfl hy_31 e_20 (Fz rfl rfl (bI (kU _ _) (bI rfl (bI rfl rfl))) rfl rfl) wz (dN (v':=(vV (ax 2) 3 (s_13.1.set (0 + (s_13.2.1).toNat) e_20))) 0 rfl (sD (by simp)) (dN (v':=(vV (ax 2) 3 (s_13.1.set (0 + (s_13.2.1).toNat) e_20))) 17 rfl (sD (by simp)) (dN (v':=(vV (ax 2) 3 (s_13.1.set (0 + (s_13.2.1).toNat) e_20))) 22 rfl (sD (by simp)) (dN (v':=(vV (ax 2) 3 (s_13.1.set (0 + (s_13.2.1).toNat) e_20))) 30 rfl (sD (by simp)) (aj (aa (ae (vI s_13.2.1) wz rfl (ae (vI (w64 (s_13.2.1 + 1))) wz rfl (ae (vI (w64 (s_13.2.1 + 1))) wz rfl (aj ?_))))))))))
       obtain rfl:=ah h_27
       exact cu
      ·refine ay rfl hc_28 (av ?_)
       obtain rfl:=ah h_27
       exact cu
     ·rintro ⟨⟩ _ sl_ H_ hp_ hq_
      refine aL _ hp_ hq_ (aa (ae (vI s_13.2.2) wz rfl (ae (vI (w64 (s_13.2.2 + 1))) wz rfl (ae (vI (w64 (s_13.2.2 + 1))) wz rfl (aj ?_)))))
      obtain rfl:=ah hc_14
      exact aP (k_8,(v_26.1,v_26.2,(w64 (s_13.2.2 + 1)))) hL_15 (Nat.lt_succ_self _) rfl (aJ rfl)
    ·refine ay rfl hc_18 (aQ ?_)
     obtain rfl:=ah hc_14
     obtain rfl:=ah hL_15
     exact aR ((s_13.1,s_13.2.1,s_13.2.2)) rfl rfl (aJ rfl)
  ·rintro s_13 ho_ sl_ H_ hp_ hq_
   subst ho_
   refine aL _ hp_ hq_ (af (aa (ae (vV (ax 2) 3 s_13.1) wz rfl (ae (vI s_13.2.1) wz rfl ?_))))
   obtain ⟨_,hr_32,hF⟩:=bind_some hF
   refine DD sV iX rfl rfl hr_32 wz (J8 (i:=2) 0 il ft (⟨none,(⟨0,0⟩:Window)⟩:Span) C8 iX Ho rfl rfl rfl (by decide) rfl (qF hr_32) rfl wz (dN (v':=(vV (ax 2) 3 (s_13.1.take ((s_13.2.1).toNat)++List.replicate (((s_13.1.length:Int)).toNat - (s_13.2.1).toNat) (⟨none,(⟨0,0⟩:Window)⟩:Span)++s_13.1.drop (((s_13.2.1).toNat) + (((s_13.1.length:Int)).toNat - (s_13.2.1).toNat))))) 0 rfl (sD (xu (qF hr_32))) (dN (v':=(vV (ax 2) 3 (s_13.1.take ((s_13.2.1).toNat)++List.replicate (((s_13.1.length:Int)).toNat - (s_13.2.1).toNat) (⟨none,(⟨0,0⟩:Window)⟩:Span)++s_13.1.drop (((s_13.2.1).toNat) + (((s_13.1.length:Int)).toNat - (s_13.2.1).toNat))))) 36 rfl (sD (xu (qF hr_32))) (aj (af (aa (ae (vV (ax 2) 3 (s_13.1.take ((s_13.2.1).toNat)++List.replicate (((s_13.1.length:Int)).toNat - (s_13.2.1).toNat) (⟨none,(⟨0,0⟩:Window)⟩:Span)++s_13.1.drop (((s_13.2.1).toNat) + (((s_13.1.length:Int)).toNat - (s_13.2.1).toNat)))) wz rfl (ae (vI s_13.2.1) wz rfl ?_))))))))
   obtain ⟨_,hr_33,hF⟩:=bind_some hF
   refine GN sV iX rfl rfl hr_33 wz (ae (.vs (ax 2) 3 0 ((s_13.2.1).toNat)) wz rfl (aj (wH_re (v':=(vV (ax 2) 3 ((s_13.1.take ((s_13.2.1).toNat)++List.replicate (((s_13.1.length:Int)).toNat - (s_13.2.1).toNat) (⟨none,(⟨0,0⟩:Window)⟩:Span)++s_13.1.drop (((s_13.2.1).toNat) + (((s_13.1.length:Int)).toNat - (s_13.2.1).toNat))).take ((s_13.2.1).toNat)))) 4 rfl (vV_take (qF hr_33)) (wH_shr 2 ((s_13.2.1).toNat) rfl ?_))))
   obtain rfl:=ah hF
   exact aB (xK (.inr rfl) [(vV (ax 2) 3 ((s_13.1.take ((s_13.2.1).toNat)++List.replicate (((s_13.1.length:Int)).toNat - (s_13.2.1).toNat) (⟨none,(⟨0,0⟩:Window)⟩:Span)++s_13.1.drop (((s_13.2.1).toNat) + (((s_13.1.length:Int)).toNat - (s_13.2.1).toNat))).take ((s_13.2.1).toNat)))] _ [0,1,2] [ax 0,ax 1,ax 2] ⟨rfl,trivial⟩ (.cons (Dv _) (.nil)) (by kernel_rfl) ⟨(by kernel_rfl),⟨(by kernel_rfl),⟨(by kernel_rfl),trivial⟩⟩⟩ (by decide) (by kernel_rfl))
theorem jA {s_1:(List Span)} {f_2:Span→Option Bool} {r:Int} {gid:FuncId} {caps:List V} {Sin:List Box} (hfn:∀ x0 r,f_2 x0=some r→FnM Tryz.prog gid ([(.d (.agg (Span.enc x0)))]++caps) Sin (vB r) (Sin.map some)) (hbF:aK Tryz.prog gid=true) (hcapF:caps.flatMap frz = []∧caps.map co0=caps) (hokF:okL Sin.length caps=true) (hsF:∀ b∈Sin,b.ok Sin.length=true) (hmF:∀ b∈Sin,b.mut=true) (hF:bK s_1 f_2=some r) :
  FnM Tryz.prog 230 [(vL Span.enc s_1),(.fn gid caps)] Sin (vI r) (Sin.map some):=by
 refine FnM.of_wH ⟨Tryz.prog,19,[],[]⟩ rfl Tryz.func230 rfl rfl (Nat.le_of_ble_eq_true rfl) (by kernel_rfl) ?_
 unfold bK at hF
 refine af (aa (ae (vI 0) wz rfl (aj (af (af (aa (ae (vL Span.enc s_1) wz rfl (cO sV rfl wz (ae (vI 0) wz rfl (aj ?_))))))))))
 obtain ⟨o_11,hj_12,hF⟩:=bind_some hF
 obtain ⟨hn_7,hj_12⟩:=bv hj_12
 refine aH (β:=(Unit)) (fun (s_8:Unit)=>([]:List (Nat×V))) (fun (s_8:Unit)=>(nD 0 Sin)) (fun p=>o_11 = .go p) ?_ ?_
 ·refine aC (aV (β:=Nat×(List Span)×(Unit)) (fun p=>(fun (k_3:Nat) (l_4:List Span) (s_8:Unit)=>([(0,(vL Span.enc s_1)),(1,(.fn gid caps)),(7,(vI (s_1.length:Int))),(8,(vI (k_3:Int)))]:List (Nat×V))) p.1 p.2.1 p.2.2) (fun p=>(fun (k_3:Nat) (l_4:List Span) (s_8:Unit)=>(nD 0 Sin)) p.1 p.2.1 p.2.2) (fun p=>forR (fun k x s=>dH f_2 k x s) p.2.1 p.1 p.2.2=some o_11∧(s_1).drop p.1=p.2.1) (fun p=>p.2.1.length) (0,s_1,()) ⟨hj_12,rfl⟩ rfl (tV _) ?_)
  rintro ⟨k_3,l_4,s_8⟩ ⟨hL_10,hD_6⟩
  dsimp only at hL_10 hD_6
  cases l_4 with
  | nil =>
   obtain rfl:=ah hL_10
   refine af (aa (ae (vB (decide ((k_3:Int) < (s_1.length:Int)))) wz rfl (aj ?_)))
   refine af (ay rfl (drop_nil hD_6) (aQ ?_))
   exact aR (s_8) rfl rfl (tV _)
  | cons x_5 l_4 =>
   obtain ⟨c_,hc_9,hL_10⟩:=bind_some hL_10
   refine af (aa (ae (vB (decide ((k_3:Int) < (s_1.length:Int)))) wz rfl (aj ?_)))
   refine af (aA rfl (bL hD_6) (av ?_))
   unfold dH at hc_9
   refine af (aC (af (aa (ae (vI (k_3:Int)) wz rfl (ae (vI (k_3:Int)) wz rfl (aj (af (aa (ae (.fn gid caps) wz rfl (ae (vL Span.enc s_1) wz rfl (ae (vI (k_3:Int)) wz rfl (dU ny rfl rfl (bT hD_6) rfl wz (bN iX o6 rfl (.d (.agg (Span.enc x_5))) rfl wz ?_)))))))))))))
   obtain ⟨r_13,hr_14,hc_9⟩:=bind_some hc_9
   refine FQ (hfn _ _ hr_14) rfl hbF rfl rfl hcapF hokF hsF hmF rfl wz rfl (aj ?_)
   rcases au hc_9 with⟨hc_15,hc_9⟩ | ⟨hc_15,hc_9⟩
   ·refine aA rfl hc_15 (af (aa (ae (vI (k_3:Int)) wz rfl (ae (vI (k_3:Int)) wz rfl (aj ?_)))))
    obtain rfl:=ah hc_9
    obtain rfl:=ah hL_10
    obtain rfl:=ah hF
    exact aB (LP hsF (.inr rfl) [(vI (k_3:Int))] ⟨rfl,trivial⟩ rfl rfl rfl)
   ·refine ay rfl hc_15 (av (aa (fJ (bO hD_6 hn_7) wz rfl (ae (vI ((k_3 + 1:Nat):Int)) wz rfl (aj ?_)))))
    obtain rfl:=ah hc_9
    exact aP (k_3 + 1,l_4,()) ⟨hL_10,aW hD_6⟩ (Nat.lt_succ_self _) rfl (tV _)
 ·rintro s_8 ho_ sl_ H_ hp_ hq_
  subst ho_
  refine aL _ hp_ hq_ (af (aa (ae (vI (-1)) wz rfl (aj ?_))))
  obtain rfl:=ah hF
  exact aB (LP hsF (.inr rfl) [(vI (-1))] ⟨rfl,trivial⟩ rfl rfl rfl)
theorem iP {del2_3:(List Int)} {del2_4:Int} {r:Unit} (hF:bA del2_3 del2_4=some r) :
  FnM Tryz.prog 174 [.nil,(.fn 175 [(.ref (ax 0) 0 0),(.ref (ax 1) 0 0)])] [(.cells 1 [(vL eI del2_3)]),(.cells 1 [(vI del2_4)])] .nil [some (.cells 1 [(vL eI del2_3)]),some (.cells 1 [(vI del2_4)])]:=by
 refine FnM.of_wH ⟨Tryz.prog,42,[],[]⟩ rfl Tryz.func174 rfl rfl (Nat.le_of_ble_eq_true rfl) (by kernel_rfl) ?_
 unfold bA at hF
 refine af (aa (ae .nil wz rfl (aj (af (aa (ae .nil wz rfl (ae (.fn 175 [(.ref (ax 0) 0 0),(.ref (ax 1) 0 0)]) wz rfl ?_)))))))
 obtain ⟨r_5,hr_6,hF⟩:=bind_some hF
 refine eD 0 [0,1] il ft (jA (gid:=175) (caps := [.ref (ax 0) 0 0,.ref (ax 1) 0 0]) (Sin := [(.cells 1 [(vL eI del2_3)]),(.cells 1 [(vI del2_4)])]) (fun _ _ h_=>kL h_) Ls ⟨rfl,rfl⟩ (by kernel_rfl) (Ma (by kernel_rfl)) (Js (by kernel_rfl)) hr_6) rfl hb230 rfl (by kernel_rfl) (by kernel_rfl) (by kernel_rfl) (by kernel_rfl) (by kernel_rfl) (by kernel_rfl) (by kernel_rfl) (by decide) (by kernel_rfl) wz (vI r_5) (by kernel_rfl) ([((ax 0),some (.cells 1 [(vL eI del2_3)])),((ax 1),some (.cells 1 [(vI del2_4)]))]:Hp) (by kernel_rfl) (ae (vI r_5) wz rfl (aj (af (af (aa (ae (vI r_5) wz rfl (ae (vB (r_5 == (-1))) wz rfl (aj ?_))))))))
 rcases au hF with⟨hc_8,hF⟩ | ⟨hc_8,hF⟩
 ·refine aA rfl hc_8 (af (aa (ae .nil wz rfl (ae .nil wz rfl (aj ?_)))))
  obtain rfl:=ah hF
  exact aB (xK (.inr rfl) [.nil] _ [0,1] [ax 0,ax 1] ⟨rfl,trivial⟩ (.cons (Dv _) (.nil)) (by kernel_rfl) ⟨(by kernel_rfl),⟨(by kernel_rfl),trivial⟩⟩ (by decide) (by kernel_rfl))
 ·refine ay rfl hc_8 (av (af (af (aa (ae (vI r_5) wz rfl (ae (vI (w64 (r_5 + 1))) wz rfl (ae (vI (w64 (r_5 + 1))) wz rfl (aj ?_))))))))
  obtain ⟨o_17,hj_18,hF⟩:=bind_some hF
  obtain ⟨nq_20,hj_18⟩:=cz hj_18
  refine aH (β:=(Unit)) (fun (s_14:Unit)=>([(0,.nil),(5,(vI r_5))]:List (Nat×V))) (fun (s_14:Unit)=>([((ax 0),some (.cells 1 [(vL eI del2_3)])),((ax 1),some (.cells 1 [(vI del2_4)]))]:Hp)) (fun p=>o_17 = .go p) ?_ ?_
  ·refine aC (aV (β:=Nat×(Unit)) (fun p=>(fun (k_9:Nat) (s_14:Unit)=>([(0,.nil),(1,(.fn 175 [(.ref (ax 0) 0 0),(.ref (ax 1) 0 0)])),(5,(vI r_5)),(6,(vI (w64 (r_5 + 1))))]:List (Nat×V))) p.1 p.2) (fun p=>(fun (k_9:Nat) (s_14:Unit)=>([((ax 0),some (.cells 1 [(vL eI del2_3)])),((ax 1),some (.cells 1 [(vI del2_4)]))]:Hp)) p.1 p.2) (fun p=>iterN (fun s=>dw r_5 s) p.1 p.2=some o_17) (fun p=>p.1) (nq_20,()) hj_18 rfl (aJ rfl) ?_)
   rintro ⟨k_9,s_14⟩ hL_16
   dsimp only at hL_16
   cases k_9 with
   | zero=>cases hL_16
   | succ k_9 =>
    obtain ⟨c_,hc_15,hL_16⟩:=bind_some hL_16
    unfold dw at hc_15
    refine af (af (aa (ae (vI (w64 (r_5 + 1))) wz rfl (ae .nil wz rfl (IB sV rfl wz (ae (vB (decide ((w64 (r_5 + 1)) < 0))) wz rfl (aj ?_)))))))
    rcases au hc_15 with⟨hc_19,hc_15⟩ | ⟨hc_19,hc_15⟩
    ·refine aA rfl hc_19 (av (af (aC (af (aa (ae .nil wz rfl (ae (vI (w64 (r_5 + 1))) wz rfl ?_)))))))
     cases hc_15
    ·refine ay rfl hc_19 (aQ ?_)
     obtain rfl:=ah hc_15
     obtain rfl:=ah hL_16
     exact aR (()) rfl rfl (aJ rfl)
  ·rintro s_14 ho_ sl_ H_ hp_ hq_
   subst ho_
   refine aL _ hp_ hq_ (af (aa (ae .nil wz rfl (ae (vI r_5) wz rfl ?_))))
   cases hF
theorem nG {a_1:ByteArray} {b_2:ByteArray} {r:Int} (hF:ic a_1 b_2=some r) :
  FnM Tryz.prog 181 [(vS a_1),(vS b_2)] [] (vI r) []:=by
 refine FnM.of_wH ⟨Tryz.prog,8,[],[]⟩ rfl Tryz.func181 rfl rfl (Nat.le_of_ble_eq_true rfl) (by kernel_rfl) ?_
 unfold ic at hF
 refine af (aa (ae (vI 0) wz rfl (aj (af (aa (ae (vS a_1) wz rfl (ae (vS b_2) wz rfl (h_ext (Mk (f:=248) Tryz.func248 rfl rfl (by kernel_rfl) (by kernel_rfl) _ _) rfl nb248 rfl wz (ae (vI (BB a_1 b_2)) wz rfl (aj ?_))))))))))
 obtain rfl:=ah hF
 exact aB (aO (.inr rfl) [(vI (BB a_1 b_2))] ⟨rfl,trivial⟩ rfl rfl rfl)
theorem nu {a_1:ByteArray} {b_2:ByteArray} {r:Int} (hF:strings_Compare a_1 b_2=some r) :
  FnM Tryz.prog 108 [(vS a_1),(vS b_2)] [] (vI r) []:=by
 refine FnM.of_wH ⟨Tryz.prog,8,[],[]⟩ rfl Tryz.func108 rfl rfl (Nat.le_of_ble_eq_true rfl) (by kernel_rfl) ?_
 unfold strings_Compare at hF
 refine af (aa (ae (vI 0) wz rfl (aj (af (aa (ae (vS a_1) wz rfl (ae (vS b_2) wz rfl ?_)))))))
 obtain ⟨r_3,hr_4,hF⟩:=bind_some hF
 refine aG (nG hr_4) rfl hb181 rfl rfl rfl rfl wz (ae (vI r_3) wz rfl (aj ?_))
 obtain rfl:=ah hF
 exact aB (aO (.inr rfl) [(vI r_3)] ⟨rfl,trivial⟩ rfl rfl rfl)
theorem si {vals_1:(List Int)} {r:Int} (hF:ni vals_1=some r) :
  FnM Tryz.prog 107 [(vL eI vals_1)] [] (vI r) []:=by
 refine FnM.of_wH ⟨Tryz.prog,18,[],[]⟩ rfl Tryz.func107 rfl rfl (Nat.le_of_ble_eq_true rfl) (by kernel_rfl) ?_
 unfold ni at hF
 refine af (aa (ae (vI 0) wz rfl (aj (af (aa (ae (vI 0) wz rfl (aj (af (af (aa (ae (vL eI vals_1) wz rfl (cO vW rfl wz (ae (vI 0) wz rfl (aj ?_))))))))))))))
 obtain ⟨o_10,hj_11,hF⟩:=bind_some hF
 obtain ⟨hn_6,hj_11⟩:=bv hj_11
 refine aH (β:=(Unit)) (fun (s_7:Unit)=>([(3,(vI 0))]:List (Nat×V))) (fun (s_7:Unit)=>([]:Hp)) (fun p=>o_10 = .go p) ?_ ?_
 ·refine aC (aV (β:=Nat×(List Int)×(Unit)) (fun p=>(fun (k_2:Nat) (l_3:List Int) (s_7:Unit)=>([(3,(vI 0)),(6,(vL eI vals_1)),(7,(vI (vals_1.length:Int))),(8,(vI (k_2:Int)))]:List (Nat×V))) p.1 p.2.1 p.2.2) (fun p=>(fun (k_2:Nat) (l_3:List Int) (s_7:Unit)=>([]:Hp)) p.1 p.2.1 p.2.2) (fun p=>forR (fun k x s=>oW k x s) p.2.1 p.1 p.2.2=some o_10∧(vals_1).drop p.1=p.2.1) (fun p=>p.2.1.length) (0,vals_1,()) ⟨hj_11,rfl⟩ rfl (aJ rfl) ?_)
  rintro ⟨k_2,l_3,s_7⟩ ⟨hL_9,hD_5⟩
  dsimp only at hL_9 hD_5
  cases l_3 with
  | nil =>
   obtain rfl:=ah hL_9
   refine af (aa (ae (vB (decide ((k_2:Int) < (vals_1.length:Int)))) wz rfl (aj ?_)))
   refine af (ay rfl (drop_nil hD_5) (aQ ?_))
   exact aR (s_7) rfl rfl (aJ rfl)
  | cons x_4 l_3 =>
   obtain ⟨c_,hc_8,hL_9⟩:=bind_some hL_9
   refine af (aa (ae (vB (decide ((k_2:Int) < (vals_1.length:Int)))) wz rfl (aj ?_)))
   refine af (aA rfl (bL hD_5) (av ?_))
   unfold oW at hc_8
   refine af (aC (af (aa (dU kw rfl rfl (bT hD_5) rfl wz (bN sz3 ag3 rfl (vI x_4) rfl wz (ae (vI x_4) wz rfl (aj (af (aa (ae (vI x_4) wz rfl (ae (vI 0) wz rfl (ae (vB (x_4 != 0)) wz rfl (aj ?_)))))))))))))
   rcases au hc_8 with⟨hc_12,hc_8⟩ | ⟨hc_12,hc_8⟩
   ·refine aA rfl hc_12 (af (aa (ae (vI x_4) wz rfl (ae (vI x_4) wz rfl (aj ?_)))))
    obtain rfl:=ah hc_8
    obtain rfl:=ah hL_9
    obtain rfl:=ah hF
    exact aB (aO (.inr rfl) [(vI x_4)] ⟨rfl,trivial⟩ rfl rfl rfl)
   ·refine ay rfl hc_12 (av (aa (fJ (bO hD_5 hn_6) wz rfl (ae (vI ((k_2 + 1:Nat):Int)) wz rfl (aj ?_)))))
    obtain rfl:=ah hc_8
    exact aP (k_2 + 1,l_3,()) ⟨hL_9,aW hD_5⟩ (Nat.lt_succ_self _) rfl (aJ rfl)
 ·rintro s_7 ho_ sl_ H_ hp_ hq_
  subst ho_
  refine aL _ hp_ hq_ (af (aa (ae (vI 0) wz rfl (ae (vI 0) wz rfl (aj ?_)))))
  obtain rfl:=ah hF
  exact aB (aO (.inr rfl) [(vI 0)] ⟨rfl,trivial⟩ rfl rfl rfl)
theorem qp {a_1:Span} {b_2:Span} {r:Int} (hF:eX a_1 b_2=some r) :
  FnM Tryz.prog 177 [(.d (.agg (Span.enc a_1))),(.d (.agg (Span.enc b_2)))] [] (vI r) []:=by
 refine FnM.of_wH ⟨Tryz.prog,36,[],[]⟩ rfl Tryz.func177 rfl rfl (Nat.le_of_ble_eq_true rfl) (by kernel_rfl) ?_
 unfold eX at hF
 refine af (aa (ek 0 (.inl rfl) [(.d (dP Entry.enc a_1.f_e)),(vI a_1.f_time.From),(vI a_1.f_time.To)] rfl (bI (kU _ _) (bI rfl (bI rfl rfl))) wz (fun n_3=>ek 0 (.inl rfl) [(.d (dP Entry.enc b_2.f_e)),(vI b_2.f_time.From),(vI b_2.f_time.To)] rfl (bI (kU _ _) (bI rfl (bI rfl rfl))) wz (fun n_4=>ae (vI 0) wz rfl (aj (af (bC (aI zL rfl 0 rfl wz (aD 1 1 (.inr (by kernel_rfl)) (fun _ _ ag=>trivial) Ig GK rfl rfl (.d (dP Entry.enc b_2.f_e)) rfl wz ?_)))))))))
 obtain ⟨y_5,hy_6,hF⟩:=bind_some hF
 refine dN (v':=(.d (.ptr [.str y_5.Key,.str y_5.Item,.int .i64 y_5.Version,.int .i64 y_5.First,.int .i64 y_5.Last,.int .i64 y_5.Every,.int .i64 y_5.Days,dl eI y_5.Except,.int .i64 y_5.From,.int .i64 y_5.To,.int .i64 y_5.Prio,dl eS y_5.Tags,.bool y_5.Gone]))) 6 rfl (xg (enc:=Entry.enc) (y:=y_5) hy_6) (ae (.d (.ptr [.str y_5.Key,.str y_5.Item,.int .i64 y_5.Version,.int .i64 y_5.First,.int .i64 y_5.Last,.int .i64 y_5.Every,.int .i64 y_5.Days,dl eI y_5.Except,.int .i64 y_5.From,.int .i64 y_5.To,.int .i64 y_5.Prio,dl eS y_5.Tags,.bool y_5.Gone])) wz rfl (kY Dk rfl [.int .i64 y_5.Prio,dl eS y_5.Tags,.bool y_5.Gone] rfl rfl wz (bN sz3 ag3 rfl (vI y_5.Prio) rfl wz (aI zL rfl 0 rfl wz (aD 6 0 (.inr (by kernel_rfl)) (fun _ _ ag=>⟨.inl ⟨rfl,rfl⟩,trivial⟩) Ig GK rfl rfl (.d (dP Entry.enc a_1.f_e)) rfl wz ?_)))))
 obtain ⟨y_7,hy_8,hF⟩:=bind_some hF
 refine dN (v':=(.d (.ptr [.str y_7.Key,.str y_7.Item,.int .i64 y_7.Version,.int .i64 y_7.First,.int .i64 y_7.Last,.int .i64 y_7.Every,.int .i64 y_7.Days,dl eI y_7.Except,.int .i64 y_7.From,.int .i64 y_7.To,.int .i64 y_7.Prio,dl eS y_7.Tags,.bool y_7.Gone]))) 11 rfl (xg (enc:=Entry.enc) (y:=y_7) hy_8) (ae (.d (.ptr [.str y_7.Key,.str y_7.Item,.int .i64 y_7.Version,.int .i64 y_7.First,.int .i64 y_7.Last,.int .i64 y_7.Every,.int .i64 y_7.Days,dl eI y_7.Except,.int .i64 y_7.From,.int .i64 y_7.To,.int .i64 y_7.Prio,dl eS y_7.Tags,.bool y_7.Gone])) wz rfl (kY Dk rfl [.int .i64 y_7.Prio,dl eS y_7.Tags,.bool y_7.Gone] rfl rfl wz (bN sz3 ag3 rfl (vI y_7.Prio) rfl wz ?_)))
 obtain ⟨r_9,hr_10,hF⟩:=bind_some hF
 refine aG (iT hr_10) rfl GV rfl rfl rfl rfl wz (aI uX rfl 1 rfl wz (aI iH rfl 1 rfl wz (aD 13 1 (.inr (by kernel_rfl)) (fun _ _ ag=>⟨.inl ⟨rfl,rfl⟩,⟨.inl ⟨rfl,rfl⟩,trivial⟩⟩) sz3 ag3 rfl rfl (vI b_2.f_time.From) rfl wz (aI uX rfl 1 rfl wz (aI iH rfl 1 rfl wz (aD 16 0 (.inr (by kernel_rfl)) (fun _ _ ag=>⟨.inl ⟨rfl,rfl⟩,⟨.inl ⟨rfl,rfl⟩,⟨.inl ⟨rfl,rfl⟩,trivial⟩⟩⟩) sz3 ag3 rfl rfl (vI a_1.f_time.From) rfl wz ?_))))))
 obtain ⟨r_11,hr_12,hF⟩:=bind_some hF
 refine aG (iT hr_12) rfl GV rfl rfl rfl rfl wz (aI zL rfl 0 rfl wz (aD 19 1 (.inr (by kernel_rfl)) (fun _ _ ag=>⟨.inl ⟨rfl,rfl⟩,⟨.inl ⟨rfl,rfl⟩,⟨.inl ⟨rfl,rfl⟩,⟨.inl ⟨rfl,rfl⟩,trivial⟩⟩⟩⟩) Ig GK rfl rfl (.d (dP Entry.enc b_2.f_e)) rfl wz ?_))
 obtain ⟨y_13,hy_14,hF⟩:=bind_some hF
 refine dN (v':=(.d (.ptr [.str y_13.Key,.str y_13.Item,.int .i64 y_13.Version,.int .i64 y_13.First,.int .i64 y_13.Last,.int .i64 y_13.Every,.int .i64 y_13.Days,dl eI y_13.Except,.int .i64 y_13.From,.int .i64 y_13.To,.int .i64 y_13.Prio,dl eS y_13.Tags,.bool y_13.Gone]))) 24 rfl (xg (enc:=Entry.enc) (y:=y_13) hy_14) (ae (.d (.ptr [.str y_13.Key,.str y_13.Item,.int .i64 y_13.Version,.int .i64 y_13.First,.int .i64 y_13.Last,.int .i64 y_13.Every,.int .i64 y_13.Days,dl eI y_13.Except,.int .i64 y_13.From,.int .i64 y_13.To,.int .i64 y_13.Prio,dl eS y_13.Tags,.bool y_13.Gone])) wz rfl (kY uK rfl [.str y_13.Key,.str y_13.Item,.int .i64 y_13.Version,.int .i64 y_13.First,.int .i64 y_13.Last,.int .i64 y_13.Every,.int .i64 y_13.Days,dl eI y_13.Except,.int .i64 y_13.From,.int .i64 y_13.To,.int .i64 y_13.Prio,dl eS y_13.Tags,.bool y_13.Gone] rfl rfl wz (bN sz9 ag9 rfl (vS y_13.Key) rfl wz (aI zL rfl 0 rfl wz (aD 24 0 (.inr (by kernel_rfl)) (fun _ _ ag=>⟨.inl ⟨rfl,rfl⟩,⟨.inl ⟨rfl,rfl⟩,⟨.inl ⟨rfl,rfl⟩,⟨.inl ⟨rfl,rfl⟩,⟨.inl ⟨rfl,rfl⟩,trivial⟩⟩⟩⟩⟩) Ig GK rfl rfl (.d (dP Entry.enc a_1.f_e)) rfl wz ?_)))))
 obtain ⟨y_15,hy_16,hF⟩:=bind_some hF
 refine dN (v':=(.d (.ptr [.str y_15.Key,.str y_15.Item,.int .i64 y_15.Version,.int .i64 y_15.First,.int .i64 y_15.Last,.int .i64 y_15.Every,.int .i64 y_15.Days,dl eI y_15.Except,.int .i64 y_15.From,.int .i64 y_15.To,.int .i64 y_15.Prio,dl eS y_15.Tags,.bool y_15.Gone]))) 29 rfl (xg (enc:=Entry.enc) (y:=y_15) hy_16) (ae (.d (.ptr [.str y_15.Key,.str y_15.Item,.int .i64 y_15.Version,.int .i64 y_15.First,.int .i64 y_15.Last,.int .i64 y_15.Every,.int .i64 y_15.Days,dl eI y_15.Except,.int .i64 y_15.From,.int .i64 y_15.To,.int .i64 y_15.Prio,dl eS y_15.Tags,.bool y_15.Gone])) wz rfl (kY uK rfl [.str y_15.Key,.str y_15.Item,.int .i64 y_15.Version,.int .i64 y_15.First,.int .i64 y_15.Last,.int .i64 y_15.Every,.int .i64 y_15.Days,dl eI y_15.Except,.int .i64 y_15.From,.int .i64 y_15.To,.int .i64 y_15.Prio,dl eS y_15.Tags,.bool y_15.Gone] rfl rfl wz (bN sz9 ag9 rfl (vS y_15.Key) rfl wz ?_)))
 obtain ⟨r_17,hr_18,hF⟩:=bind_some hF
 refine aG (nu hr_18) rfl Lc rfl rfl rfl rfl wz (eU (([r_9,r_11,r_17]:List Int).map eI) kw wQ rfl rfl rfl rfl rfl wz ?_)
 obtain ⟨r_19,hr_20,hF⟩:=bind_some hF
 refine aG (si hr_20) rfl Lb rfl rfl rfl rfl wz (ae (vI r_19) wz rfl (aj (aL (H0:=([(n_3,some (.cells 3 [(.d (dP Entry.enc a_1.f_e)),(vI a_1.f_time.From),(vI a_1.f_time.To)])),(n_4,some (.cells 3 [(.d (dP Entry.enc b_2.f_e)),(vI b_2.f_time.From),(vI b_2.f_time.To)]))]:Hp)) ([(4,(vI r_19))]:List (Nat×V)) (by kernel_rfl) (sF (by kernel_rfl)) ?_)))
 obtain rfl:=ah hF
 exact aB (aO (.inr rfl) [(vI r_19)] ⟨rfl,trivial⟩ rfl rfl rfl)
theorem jg {x_1:(List Span)} {r:Span} (hF:aZ x_1=some r) :
  FnM Tryz.prog 176 [(dV (ax 0) 3 x_1),(.fn 177 [])] (([]:List Box)++gI 3 Span.enc x_1) (.d (.agg (Span.enc r))) (([]:List Box).map some++gT x_1 (gB 3 Span.enc x_1)):=by
 refine FnM.of_wHv ⟨Tryz.prog,33,[],[]⟩ rfl Tryz.func176 rfl rfl (Nat.le_of_ble_eq_true rfl) (by kernel_rfl) ?_
 unfold aZ at hF
 refine af (aa (dB 0 (.inl rfl) Ho rfl wz (fun n_3=>aj (af (af (aa (ae (dV (ax 0) 3 x_1) wz rfl (AB sV rfl wz (ae (vB (decide ((x_1.length:Int) < 1))) wz rfl (aj ?_))))))))))
 obtain ⟨v_4,h_5,hF⟩:=bind_some hF
 refine aH (β:=Unit) (fun _=>([(0,(dV (ax 0) 3 x_1)),(1,(.fn 177 [])),(4,(.ref n_3 0 0))]:List (Nat×V))) (fun _=>([((ax 0),gB 3 Span.enc x_1),(n_3,some (.cells 3 [(.d .nilp),(vI 0),(vI 0)]))]:Hp)) (fun _=>True) ?_ ?_
 ·rcases au h_5 with⟨hc_6,h_5⟩ | ⟨hc_6,h_5⟩
  ·refine aA rfl hc_6 (aa ?_)
   cases h_5
  ·refine ay rfl hc_6 (av ?_)
   obtain rfl:=ah h_5
   exact cu
 ·rintro ⟨⟩ _ sl_ H_ hp_ hq_
  refine aL _ hp_ hq_ (af (aa (ae (dV (ax 0) 3 x_1) wz rfl ?_)))
  obtain ⟨_,hi_7,hF⟩:=bind_some hF
  refine lM ny rfl rfl (jf hi_7) (gm hi_7) wz ?_
  obtain ⟨e_8,hy_9,hF⟩:=bind_some hF
  refine ko 0 0 il ft iX o6 rfl rfl hy_9 (.d (.agg (Span.enc e_8))) rfl wz (dB 0 (.inl rfl) Ho rfl wz (fun n_10=>fH 0 il ft 2 iX rfl rfl [(.d (dP Entry.enc e_8.f_e)),(vI e_8.f_time.From),(vI e_8.f_time.To)] (ze rfl (bI (kU _ _) (bI rfl (bI rfl rfl))) rfl rfl) wz (aj (af (af (aa (ae (vI 1) wz rfl (aj ?_))))))))
  obtain ⟨o_19,hj_20,hF⟩:=bind_some hF
  obtain ⟨nq_33,hj_20⟩:=cz hj_20
  refine aH (β:=(Int×(Option Entry)×Int×Int)) (fun (s_16:Int×(Option Entry)×Int×Int)=>([(4,(.ref n_3 0 0)),(5,(.ref n_10 0 0))]:List (Nat×V))) (fun (s_16:Int×(Option Entry)×Int×Int)=>([((ax 0),gB 3 Span.enc x_1),(n_3,some (.cells 3 [(.d .nilp),(vI 0),(vI 0)])),(n_10,some (.cells 3 [(.d (dP Entry.enc s_16.2.1)),(vI s_16.2.2.1),(vI s_16.2.2.2)]))]:Hp)) (fun p=>o_19 = .go p) ?_ ?_
  ·refine aC (aV (β:=Nat×(Int×(Option Entry)×Int×Int)) (fun p=>(fun (k_11:Nat) (s_16:Int×(Option Entry)×Int×Int)=>([(0,(dV (ax 0) 3 x_1)),(1,(.fn 177 [])),(4,(.ref n_3 0 0)),(5,(.ref n_10 0 0)),(6,(vI s_16.1))]:List (Nat×V))) p.1 p.2) (fun p=>(fun (k_11:Nat) (s_16:Int×(Option Entry)×Int×Int)=>([((ax 0),gB 3 Span.enc x_1),(n_3,some (.cells 3 [(.d .nilp),(vI 0),(vI 0)])),(n_10,some (.cells 3 [(.d (dP Entry.enc s_16.2.1)),(vI s_16.2.2.1),(vI s_16.2.2.2)]))]:Hp)) p.1 p.2) (fun p=>iterN (fun s=>aX x_1 s) p.1 p.2=some o_19) (fun p=>p.1) (nq_33,(1,e_8.f_e,e_8.f_time.From,e_8.f_time.To)) hj_20 rfl (aJ rfl) ?_)
   rintro ⟨k_11,s_16⟩ hL_18
   dsimp only at hL_18
   cases k_11 with
   | zero=>cases hL_18
   | succ k_11 =>
    obtain ⟨c_,hc_17,hL_18⟩:=bind_some hL_18
    unfold aX at hc_17
    refine af (af (aa (ae (vI s_16.1) wz rfl (ae (dV (ax 0) 3 x_1) wz rfl (AB sV rfl wz (ae (vB (decide (s_16.1 < (x_1.length:Int)))) wz rfl (aj ?_)))))))
    rcases au hc_17 with⟨hc_21,hc_17⟩ | ⟨hc_21,hc_17⟩
    ·refine aA rfl hc_21 (av (af (aC (af (bC (ae (.fn 177 []) wz rfl (ae (dV (ax 0) 3 x_1) wz rfl (ae (vI s_16.1) wz rfl ?_))))))))
     obtain ⟨_,hi_22,hc_17⟩:=bind_some hc_17
     refine lM ny rfl rfl (jf hi_22) (gm hi_22) wz ?_
     obtain ⟨e_23,hy_24,hc_17⟩:=bind_some hc_17
     refine ko 4 0 (.inr (by kernel_rfl)) (fun _ _ ag=>trivial) iX o6 rfl rfl hy_24 (.d (.agg (Span.enc e_23))) rfl wz (aD 5 2 (.inr (by kernel_rfl)) (fun _ _ ag=>⟨.inl ⟨rfl,rfl⟩,trivial⟩) iX o6 rfl rfl (.d (.agg (Span.enc (⟨s_16.2.1,(⟨s_16.2.2.1,s_16.2.2.2⟩:Window)⟩:Span)))) rfl wz ?_)
     obtain ⟨r_25,hr_26,hc_17⟩:=bind_some hc_17
     refine aG (qp hr_26) rfl hb177 rfl rfl rfl rfl wz (ae (vB (decide (r_25 < 0))) wz rfl (aj ?_))
     obtain ⟨v_27,h_28,hc_17⟩:=bind_some hc_17
     refine aH (β:=Unit) (fun _=>([(0,(dV (ax 0) 3 x_1)),(1,(.fn 177 [])),(4,(.ref n_3 0 0)),(5,(.ref n_10 0 0)),(6,(vI s_16.1))]:List (Nat×V))) (fun _=>([((ax 0),gB 3 Span.enc x_1),(n_3,some (.cells 3 [(.d .nilp),(vI 0),(vI 0)])),(n_10,some (.cells 3 [(.d (dP Entry.enc v_27.1)),(vI v_27.2.1),(vI v_27.2.2)]))]:Hp)) (fun _=>True) ?_ ?_
     ·rcases au h_28 with⟨hc_29,h_28⟩ | ⟨hc_29,h_28⟩
      ·refine aA rfl hc_29 (aa (ae (dV (ax 0) 3 x_1) wz rfl (ae (vI s_16.1) wz rfl ?_)))
       obtain ⟨_,hi_30,h_28⟩:=bind_some h_28
       refine lM ny rfl rfl (jf hi_30) (gm hi_30) wz ?_
       obtain ⟨e_31,hy_32,h_28⟩:=bind_some h_28
       refine ko 0 0 il ft iX o6 rfl rfl hy_32 (.d (.agg (Span.enc e_31))) rfl wz (fH 0 il ft 2 iX rfl rfl [(.d (dP Entry.enc e_31.f_e)),(vI e_31.f_time.From),(vI e_31.f_time.To)] (ze rfl (bI (kU _ _) (bI rfl (bI rfl rfl))) rfl rfl) wz (aj ?_))
       obtain rfl:=ah h_28
       exact cu
      ·refine ay rfl hc_29 (av ?_)
       obtain rfl:=ah h_28
       exact cu
     ·rintro ⟨⟩ _ sl_ H_ hp_ hq_
      refine aL _ hp_ hq_ (aa (ae (vI s_16.1) wz rfl (ae (vI (w64 (s_16.1 + 1))) wz rfl (ae (vI (w64 (s_16.1 + 1))) wz rfl (aj ?_)))))
      obtain rfl:=ah hc_17
      exact aP (k_11,((w64 (s_16.1 + 1)),v_27.1,v_27.2.1,v_27.2.2)) hL_18 (Nat.lt_succ_self _) rfl (aJ rfl)
    ·refine ay rfl hc_21 (aQ ?_)
     obtain rfl:=ah hc_17
     obtain rfl:=ah hL_18
     exact aR ((s_16.1,s_16.2.1,s_16.2.2.1,s_16.2.2.2)) rfl rfl (aJ rfl)
  ·rintro s_16 ho_ sl_ H_ hp_ hq_
   subst ho_
   refine aL _ hp_ hq_ (af (aa (aD 0 2 il ft iX o6 rfl rfl (.d (.agg (Span.enc (⟨s_16.2.1,(⟨s_16.2.2.1,s_16.2.2.2⟩:Window)⟩:Span)))) rfl wz (fH 0 il ft 1 iX rfl rfl [(.d (dP Entry.enc s_16.2.1)),(vI s_16.2.2.1),(vI s_16.2.2.2)] (ze rfl (bI (kU _ _) (bI rfl (bI rfl rfl))) rfl rfl) wz (aj ?_)))))
   obtain rfl:=ah hF
   exact aB (BM (bs:=([]:List Box)) (os:=([]:List Box)) (xs:=x_1) (o:=gB 3 Span.enc x_1) (.inr rfl) [(.d (.agg (Span.enc (⟨s_16.2.1,(⟨s_16.2.2.1,s_16.2.2.2⟩:Window)⟩:Span))))] ⟨⟨1,_,_,_,_,_,_,_,rfl,rfl,iX,o6,rfl⟩,trivial⟩ rfl rfl rfl rfl rfl (by kernel_rfl) nT rfl)
theorem xR {l_1:(List Entry)} {p_2:Player} {wv_3:Window} {r:(List Slot_)} (hF:jS l_1 p_2 wv_3=some r) :
  FnM Tryz.prog 94 [(vL Entry.enc l_1),(.d (.agg (Player.enc p_2))),(.d (.agg (Window.enc wv_3)))] [] (vL Slot_.enc r) []:=by
 refine FnM.of_wH ⟨Tryz.prog,111,[],[]⟩ rfl Tryz.func94 rfl rfl (Nat.le_of_ble_eq_true rfl) (by kernel_rfl) ?_
 unfold jS at hF
 refine af (aa (ek 0 (.inl rfl) [(vS p_2.Key),(vS p_2.Screen),(vI p_2.Zone),(vL eS p_2.Tags)] rfl rfl wz (fun n_4=>ek 0 (.inl rfl) [(vI wv_3.From),(vI wv_3.To)] rfl rfl wz (fun n_5=>ae .nil wz rfl (aj (af (aa (ae (vL Entry.enc l_1) wz rfl (aD 0 0 il ft uJ wO rfl rfl (.d (.agg (Player.enc p_2))) rfl wz (aD 0 1 il ft mE sw rfl rfl (.d (.agg (Window.enc wv_3))) rfl wz ?_))))))))))
 obtain ⟨r_6,hr_7,hF⟩:=bind_some hF
 refine Gu [] (rF hr_7) rfl MV rfl (by kernel_rfl) (by kernel_rfl) (by kernel_rfl) (by kernel_rfl) (by kernel_rfl) rfl (by decide) (by kernel_rfl) wz ([(n_4,some (.cells 4 [(vS p_2.Key),(vS p_2.Screen),(vI p_2.Zone),(vL eS p_2.Tags)])),(n_5,some (.cells 2 [(vI wv_3.From),(vI wv_3.To)]))]:Hp) (fun _=>by kernel_rfl) (fun n_9=>ae (gV n_9 3 r_6) wz rfl (aj (af (aa (ae (gV n_9 3 r_6) wz rfl ?_)))))
 obtain ⟨r_10,hr_11,hF⟩:=bind_some hF
 obtain ⟨_,hs_12,hF⟩:=bind_some hF
 replace hs_12:=nH hs_12
 refine mP 0 [] 2 0 il ft (mh hr_11) rfl hb171 rfl rfl rfl (by kernel_rfl) rfl (.inl rfl) rfl (by kernel_rfl) (by kernel_rfl) (by kernel_rfl) (by kernel_rfl) rfl (by decide) (by kernel_rfl) nT (yh hs_12) wz ([(n_4,some (.cells 4 [(vS p_2.Key),(vS p_2.Screen),(vI p_2.Zone),(vL eS p_2.Tags)])),(n_5,some (.cells 2 [(vI wv_3.From),(vI wv_3.To)])),(n_9,gB 3 Span.enc r_10)]:Hp) (by kernel_rfl) (dN (v':=(gV n_9 3 r_10)) 18 rfl (jQ hs_12.symm) (dN (v':=(gV n_9 3 r_10)) 19 rfl (jQ hs_12.symm) (dN (v':=(gV n_9 3 r_10)) 7 rfl (jQ hs_12.symm) (aj (af (aa (ae (vL Entry.enc l_1) wz rfl (aD 0 0 il ft uJ wO rfl rfl (.d (.agg (Player.enc p_2))) rfl wz (aD 0 1 il ft mE sw rfl rfl (.d (.agg (Window.enc wv_3))) rfl wz ?_)))))))))
 obtain ⟨r_13,hr_14,hF⟩:=bind_some hF
 refine aG (zX hr_14) rfl hb173 rfl rfl rfl rfl wz (dB 0 (.inl rfl) z22 rfl wz (fun n_15=>fH 0 il ft 3 yI rfl rfl [(vL eI r_13)] rfl wz (aj (af (aa (ae .nil wz rfl (aj (af (aa (ae .nil wz rfl (aj (af (aa (ae (vI 0) wz rfl (aj (af (af (aa (dB 0 (.inl rfl) z3 rfl wz (fun n_16=>fH 0 il ft 4 sz3 rfl rfl [(vI 0)] rfl wz (aj (mo (fun n_23=>mo (fun n_24 => ?_))))))))))))))))))))))))
 obtain ⟨o_35,hj_36,hF⟩:=bind_some hF
 obtain ⟨nq_101,hj_36⟩:=cz hj_36
 refine aH (β:=((List Slot_)×(List Span)×Int×Int)×Nm×Nm×Nm×Bool) (fun p=>(fun (s_22:(List Slot_)×(List Span)×Int×Int) (n_29:Nm) (n_30:Nm) (n_31:Nm) (gb_32:Bool)=>([(9,(gV n_30 3 s_22.1))]:List (Nat×V))) p.1 p.2.1 p.2.2.1 p.2.2.2.1 p.2.2.2.2) (fun p=>(fun (s_22:(List Slot_)×(List Span)×Int×Int) (n_29:Nm) (n_30:Nm) (n_31:Nm) (gb_32:Bool)=>([(n_4,some (.cells 4 [(vS p_2.Key),(vS p_2.Screen),(vI p_2.Zone),(vL eS p_2.Tags)])),(n_5,some (.cells 2 [(vI wv_3.From),(vI wv_3.To)])),(n_9,gB 3 Span.enc r_10),(n_15,some (.cells 1 [(vL eI r_13)])),(n_29,some (.cells 1 [(vI s_22.2.2.2)])),(n_30,gB 3 Slot_.enc s_22.1),(n_31,kB gb_32 3 Span.enc s_22.2.1)]:Hp)) p.1 p.2.1 p.2.2.1 p.2.2.2.1 p.2.2.2.2) (fun p=>o_35 = .go p.1) ?_ ?_
 ·refine aC (aV (β:=Nat×((List Slot_)×(List Span)×Int×Int)×Nm×Nm×Nm×Bool) (fun p=>(fun (k_17:Nat) (s_22:(List Slot_)×(List Span)×Int×Int) (n_29:Nm) (n_30:Nm) (n_31:Nm) (gb_32:Bool)=>([(7,(gV n_9 3 r_10)),(8,(.ref n_15 0 0)),(9,(gV n_30 3 s_22.1)),(10,(kV gb_32 n_31 3 s_22.2.1)),(11,(vI s_22.2.2.1)),(12,(.ref n_29 0 0))]:List (Nat×V))) p.1 p.2.1 p.2.2.1 p.2.2.2.1 p.2.2.2.2.1 p.2.2.2.2.2) (fun p=>(fun (k_17:Nat) (s_22:(List Slot_)×(List Span)×Int×Int) (n_29:Nm) (n_30:Nm) (n_31:Nm) (gb_32:Bool)=>([(n_4,some (.cells 4 [(vS p_2.Key),(vS p_2.Screen),(vI p_2.Zone),(vL eS p_2.Tags)])),(n_5,some (.cells 2 [(vI wv_3.From),(vI wv_3.To)])),(n_9,gB 3 Span.enc r_10),(n_15,some (.cells 1 [(vL eI r_13)])),(n_29,some (.cells 1 [(vI s_22.2.2.2)])),(n_30,gB 3 Slot_.enc s_22.1),(n_31,kB gb_32 3 Span.enc s_22.2.1)]:Hp)) p.1 p.2.1 p.2.2.1 p.2.2.2.1 p.2.2.2.2.1 p.2.2.2.2.2) (fun p=>iterN (fun s=>fC r_13 r_10 s) p.1 p.2.1=some o_35) (fun p=>p.1) (nq_101,(([]:List Slot_),([]:List Span),0,0),n_16,n_23,n_24,false) hj_36 rfl (aJ rfl) ?_)
  rintro ⟨k_17,s_22,n_29,n_30,n_31,gb_32⟩ hL_34
  dsimp only at hL_34
  cases k_17 with
  | zero=>cases hL_34
  | succ k_17 =>
   obtain ⟨c_,hc_33,hL_34⟩:=bind_some hL_34
   unfold fC at hc_33
   refine af (af (aa (aD 0 4 il ft sz3 ag3 rfl rfl (vI s_22.2.2.2) rfl wz (ae (vI (w64 (s_22.2.2.2 + 1))) wz rfl (aD 0 3 il ft yI Ac rfl rfl (vL eI r_13) rfl wz (cO vW rfl wz (ae (vB (decide ((w64 (s_22.2.2.2 + 1)) < (r_13.length:Int)))) wz rfl (aj ?_))))))))
   rcases au hc_33 with⟨hc_37,hc_33⟩ | ⟨hc_37,hc_33⟩
   ·refine aA rfl hc_37 (av (af (aC (af ?_))))
    obtain ⟨o_48,hj_49,hc_33⟩:=bind_some hc_33
    obtain ⟨nq_100,hj_49⟩:=cz hj_49
    refine aH (β:=((List Span)×Int)×Nm) (fun p=>(fun (s_43:(List Span)×Int) (n_45:Nm)=>([(7,(gV n_9 3 r_10)),(8,(.ref n_15 0 0)),(9,(gV n_30 3 s_22.1)),(10,(kV gb_32 n_45 3 s_43.1)),(11,(vI s_43.2)),(12,(.ref n_29 0 0))]:List (Nat×V))) p.1 p.2) (fun p=>(fun (s_43:(List Span)×Int) (n_45:Nm)=>([(n_4,some (.cells 4 [(vS p_2.Key),(vS p_2.Screen),(vI p_2.Zone),(vL eS p_2.Tags)])),(n_5,some (.cells 2 [(vI wv_3.From),(vI wv_3.To)])),(n_9,gB 3 Span.enc r_10),(n_15,some (.cells 1 [(vL eI r_13)])),(n_29,some (.cells 1 [(vI s_22.2.2.2)])),(n_30,gB 3 Slot_.enc s_22.1),(n_45,kB gb_32 3 Span.enc s_43.1)]:Hp)) p.1 p.2) (fun p=>o_48 = .go p.1) ?_ ?_
    ·refine aC (aV (β:=Nat×((List Span)×Int)×Nm) (fun p=>(fun (k_38:Nat) (s_43:(List Span)×Int) (n_45:Nm)=>([(7,(gV n_9 3 r_10)),(8,(.ref n_15 0 0)),(9,(gV n_30 3 s_22.1)),(10,(kV gb_32 n_45 3 s_43.1)),(11,(vI s_43.2)),(12,(.ref n_29 0 0))]:List (Nat×V))) p.1 p.2.1 p.2.2) (fun p=>(fun (k_38:Nat) (s_43:(List Span)×Int) (n_45:Nm)=>([(n_4,some (.cells 4 [(vS p_2.Key),(vS p_2.Screen),(vI p_2.Zone),(vL eS p_2.Tags)])),(n_5,some (.cells 2 [(vI wv_3.From),(vI wv_3.To)])),(n_9,gB 3 Span.enc r_10),(n_15,some (.cells 1 [(vL eI r_13)])),(n_29,some (.cells 1 [(vI s_22.2.2.2)])),(n_30,gB 3 Slot_.enc s_22.1),(n_45,kB gb_32 3 Span.enc s_43.1)]:Hp)) p.1 p.2.1 p.2.2) (fun p=>iterN (fun s=>fB r_10 r_13 s_22 s) p.1 p.2.1=some o_48) (fun p=>p.1) (nq_100,(s_22.2.1,s_22.2.2.1),n_31) hj_49 rfl (aJ rfl) ?_)
     rintro ⟨k_38,s_43,n_45⟩ hL_47
     dsimp only at hL_47
     cases k_38 with
     | zero=>cases hL_47
     | succ k_38 =>
      obtain ⟨c_,hc_46,hL_47⟩:=bind_some hL_47
      unfold fB at hc_46
      refine af (af ?_)
      obtain ⟨v_50,h_51,hc_46⟩:=bind_some hc_46
      refine aH (β:=Unit) (fun _=>([(7,(gV n_9 3 r_10)),(8,(.ref n_15 0 0)),(9,(gV n_30 3 s_22.1)),(10,(kV gb_32 n_45 3 s_43.1)),(11,(vI s_43.2)),(12,(.ref n_29 0 0)),(48,(vB v_50))]:List (Nat×V))) (fun _=>([(n_4,some (.cells 4 [(vS p_2.Key),(vS p_2.Screen),(vI p_2.Zone),(vL eS p_2.Tags)])),(n_5,some (.cells 2 [(vI wv_3.From),(vI wv_3.To)])),(n_9,gB 3 Span.enc r_10),(n_15,some (.cells 1 [(vL eI r_13)])),(n_29,some (.cells 1 [(vI s_22.2.2.2)])),(n_30,gB 3 Slot_.enc s_22.1),(n_45,kB gb_32 3 Span.enc s_43.1)]:Hp)) (fun _=>True) ?_ ?_
      ·refine bC (ae (vI s_43.2) wz rfl (ae (gV n_9 3 r_10) wz rfl (Ao sV rfl wz (ae (vB (decide (s_43.2 < (r_10.length:Int)))) wz rfl ?_))))
       rcases au h_51 with⟨hc_52,h_51⟩ | ⟨hc_52,h_51⟩
       ·refine aF rfl hc_52 wz (ae (gV n_9 3 r_10) wa rfl (ae (vI s_43.2) wa rfl ?_))
        obtain ⟨_,hi_53,h_51⟩:=bind_some h_51
        refine vk ny rfl rfl (jf hi_53) (gm hi_53) wa (aI uX rfl 1 rfl wa (aI iH rfl 1 rfl wa ?_))
        obtain ⟨e_54,hy_55,h_51⟩:=bind_some h_51
        refine ko 10 2 (.inr (by kernel_rfl)) (fun _ _ ag=>trivial) sz3 ag3 rfl rfl hy_55 (vI e_54.f_time.From) rfl wa (aD 11 3 (.inr (by kernel_rfl)) (fun _ _ ag=>⟨.inl ⟨rfl,rfl⟩,trivial⟩) yI Ac rfl rfl (vL eI r_13) rfl wa (aD 12 4 (.inr (by kernel_rfl)) (fun _ _ ag=>⟨.inl ⟨rfl,rfl⟩,⟨.inl ⟨rfl,rfl⟩,trivial⟩⟩) sz3 ag3 rfl rfl (vI s_22.2.2.2) rfl wa ?_))
        obtain ⟨y_56,hy_57,h_51⟩:=bind_some h_51
        refine dU kw rfl rfl hy_57 rfl wa (bN sz3 ag3 rfl (vI y_56) rfl wa (ae (vB (decide (e_54.f_time.From≤y_56))) wa rfl (ae (vB (decide (e_54.f_time.From≤y_56))) wz rfl (aj ?_))))
        obtain rfl:=ah h_51
        exact cu
       ·refine aF rfl hc_52 wz (ak wa (ak wa (ak wa (ak wa (ak wa (ak wa (ak wa (ak wa (ak wa (ak wa (ak wa (ae (vB false) wz rfl (aj ?_)))))))))))))
        obtain rfl:=ah h_51
        exact cu
      ·rintro ⟨⟩ _ sl_ H_ hp_ hq_
       refine aL _ hp_ hq_ ?_
       rcases au hc_46 with⟨hc_58,hc_46⟩ | ⟨hc_58,hc_46⟩
       ·refine aA rfl hc_58 (av (af (aC (aa (ae (kV gb_32 n_45 3 s_43.1) wz rfl (ae (gV n_9 3 r_10) wz rfl (ae (vI s_43.2) wz rfl ?_)))))))
        obtain ⟨_,hi_59,hc_46⟩:=bind_some hc_46
        refine vk ny rfl rfl (jf hi_59) (gm hi_59) wz ?_
        obtain ⟨e_60,hy_61,hc_46⟩:=bind_some hc_46
        refine ko 0 2 il ft iX o6 rfl rfl hy_61 (.d (.agg (Span.enc e_60))) rfl wz (eU (([e_60]:List Span).map Span.enc) ny K9 rfl (ML rfl rfl (bI (kU _ _) (bI rfl (bI rfl rfl))) rfl) rfl rfl rfl wz ?_)
        obtain ⟨a_62,hz_63,hc_46⟩:=bind_some hc_46
        refine M0 0 il ft (i:=6) C8 C8 iX Ho rfl (by decide) Md (by decide) (fun _=>rfl) rfl rfl rfl hz_63 wz (fun n_64=>ae (kV gb_32 n_64 3 a_62) wz rfl (aj (aa (ae (vI s_43.2) wz rfl (ae (vI (w64 (s_43.2 + 1))) wz rfl (ae (vI (w64 (s_43.2 + 1))) wz rfl (aj ?_)))))))
        obtain rfl:=ah hc_46
        exact aP (k_38,(a_62,(w64 (s_43.2 + 1))),n_64) hL_47 (Nat.lt_succ_self _) rfl (aJ rfl)
       ·refine ay rfl hc_58 (aQ ?_)
        obtain rfl:=ah hc_46
        obtain rfl:=ah hL_47
        exact aR ((s_43.1,s_43.2),n_45) rfl rfl (aJ rfl)
    ·rintro ⟨s_43,n_45⟩ ho_ sl_ H_ hp_ hq_
     subst ho_
     refine aL _ hp_ hq_ (af (aa (ae (kV gb_32 n_45 3 s_43.1) wz rfl (ae (.fn 175 [(.ref n_15 0 0),(.ref n_29 0 0)]) wz rfl ?_))))
     obtain ⟨r_65,hr_66,hc_33⟩:=bind_some hc_33
     obtain ⟨_,hl_68,hc_33⟩:=bind_some hc_33
     obtain ⟨_,hr_67,hc_33⟩:=bind_some hc_33
     replace hl_68:=leL_le hl_68
     refine KR [3,4] 6 0 (iQ hr_66) (iP hr_67) hl_68 rfl hb174 rfl rfl rfl (by kernel_rfl) rfl rfl (by kernel_rfl) (by kernel_rfl) (by kernel_rfl) (by kernel_rfl) rfl (by decide) wz ([(n_4,some (.cells 4 [(vS p_2.Key),(vS p_2.Screen),(vI p_2.Zone),(vL eS p_2.Tags)])),(n_5,some (.cells 2 [(vI wv_3.From),(vI wv_3.To)])),(n_9,gB 3 Span.enc r_10),(n_15,some (.cells 1 [(vL eI r_13)])),(n_29,some (.cells 1 [(vI s_22.2.2.2)])),(n_30,gB 3 Slot_.enc s_22.1),(n_45,kB (gb_32 || !s_43.1.isEmpty) 3 Span.enc r_65)]:Hp) (by kernel_rfl) (ae (kV (gb_32 || !s_43.1.isEmpty) n_45 3 r_65) wz rfl (aj (af (aa (ae (vS (⟨#[]⟩:ByteArray)) wz rfl (aj (af (af (aa (ae (kV (gb_32 || !s_43.1.isEmpty) n_45 3 r_65) wz rfl (h_lenk sV rfl wz (ae (vB (decide ((r_65.length:Int) > 0))) wz rfl (aj ?_)))))))))))))
     obtain ⟨v_69,h_70,hc_33⟩:=bind_some hc_33
     refine aH (β:=Unit) (fun _=>([(7,(gV n_9 3 r_10)),(8,(.ref n_15 0 0)),(9,(gV n_30 3 s_22.1)),(10,(kV (gb_32 || !s_43.1.isEmpty) n_45 3 r_65)),(11,(vI s_43.2)),(12,(.ref n_29 0 0)),(13,(vS v_69))]:List (Nat×V))) (fun _=>([(n_4,some (.cells 4 [(vS p_2.Key),(vS p_2.Screen),(vI p_2.Zone),(vL eS p_2.Tags)])),(n_5,some (.cells 2 [(vI wv_3.From),(vI wv_3.To)])),(n_9,gB 3 Span.enc r_10),(n_15,some (.cells 1 [(vL eI r_13)])),(n_29,some (.cells 1 [(vI s_22.2.2.2)])),(n_30,gB 3 Slot_.enc s_22.1),(n_45,kB (gb_32 || !s_43.1.isEmpty) 3 Span.enc r_65)]:Hp)) (fun _=>True) ?_ ?_
     ·rcases au h_70 with⟨hc_71,h_70⟩ | ⟨hc_71,h_70⟩
      ·refine aA rfl hc_71 (aa (ae (kV (gb_32 || !s_43.1.isEmpty) n_45 3 r_65) wz rfl ?_))
       obtain ⟨_,hn_72,h_70⟩:=bind_some h_70
       replace hn_72:=Jh hn_72
       refine dN (v':=(gV n_45 3 r_65)) 10 rfl (Bu hn_72) (dN (v':=(gV n_45 3 r_65)) 60 rfl (Bu hn_72) (dN (v':=(gV n_45 3 r_65)) 61 rfl (Bu hn_72) (dN (v':=(gV n_45 3 r_65)) 64 rfl (Bu hn_72) (Hz 6 rfl (kB_gB hn_72) ?_))))
       obtain ⟨r_73,hr_74,h_70⟩:=bind_some h_70
       refine mP 0 [] 6 0 il ft (jg hr_74) rfl hb176 rfl rfl rfl (by kernel_rfl) rfl (.inl rfl) rfl (by kernel_rfl) (by kernel_rfl) (by kernel_rfl) (by kernel_rfl) rfl (by decide) (by kernel_rfl) nT (yh rfl) wz ([(n_4,some (.cells 4 [(vS p_2.Key),(vS p_2.Screen),(vI p_2.Zone),(vL eS p_2.Tags)])),(n_5,some (.cells 2 [(vI wv_3.From),(vI wv_3.To)])),(n_9,gB 3 Span.enc r_10),(n_15,some (.cells 1 [(vL eI r_13)])),(n_29,some (.cells 1 [(vI s_22.2.2.2)])),(n_30,gB 3 Slot_.enc s_22.1),(n_45,gB 3 Span.enc r_65)]:Hp) (by kernel_rfl) (dN (v':=(kV (gb_32 || !s_43.1.isEmpty) n_45 3 r_65)) 10 rfl (Bu hn_72).symm (dN (v':=(kV (gb_32 || !s_43.1.isEmpty) n_45 3 r_65)) 60 rfl (Bu hn_72).symm (dN (v':=(kV (gb_32 || !s_43.1.isEmpty) n_45 3 r_65)) 61 rfl (Bu hn_72).symm (dN (v':=(kV (gb_32 || !s_43.1.isEmpty) n_45 3 r_65)) 64 rfl (Bu hn_72).symm (Hz (b':=kB (gb_32 || !s_43.1.isEmpty) 3 Span.enc r_65) 6 rfl (kB_gB hn_72).symm (h_field fr181_0 rfl (.d (dP Entry.enc r_73.f_e)) rfl wz ?_))))))
       obtain ⟨y_75,hy_76,h_70⟩:=bind_some h_70
       refine dN (v':=(.d (.ptr [.str y_75.Key,.str y_75.Item,.int .i64 y_75.Version,.int .i64 y_75.First,.int .i64 y_75.Last,.int .i64 y_75.Every,.int .i64 y_75.Days,dl eI y_75.Except,.int .i64 y_75.From,.int .i64 y_75.To,.int .i64 y_75.Prio,dl eS y_75.Tags,.bool y_75.Gone]))) 66 rfl (xg (enc:=Entry.enc) (y:=y_75) hy_76) (ae (.d (.ptr [.str y_75.Key,.str y_75.Item,.int .i64 y_75.Version,.int .i64 y_75.First,.int .i64 y_75.Last,.int .i64 y_75.Every,.int .i64 y_75.Days,dl eI y_75.Except,.int .i64 y_75.From,.int .i64 y_75.To,.int .i64 y_75.Prio,dl eS y_75.Tags,.bool y_75.Gone])) wz rfl (kY uK rfl [.str y_75.Key,.str y_75.Item,.int .i64 y_75.Version,.int .i64 y_75.First,.int .i64 y_75.Last,.int .i64 y_75.Every,.int .i64 y_75.Days,dl eI y_75.Except,.int .i64 y_75.From,.int .i64 y_75.To,.int .i64 y_75.Prio,dl eS y_75.Tags,.bool y_75.Gone] rfl rfl wz (bN sz9 ag9 rfl (vS y_75.Key) rfl wz (ae (vS y_75.Key) wz rfl (aj ?_)))))
       obtain rfl:=ah h_70
       exact cu
      ·refine ay rfl hc_71 (av ?_)
       obtain rfl:=ah h_70
       exact cu
     ·rintro ⟨⟩ _ sl_ H_ hp_ hq_
      refine aL _ hp_ hq_ (af (aa (ae (gV n_30 3 s_22.1) wz rfl (Ao un67 rfl wz (ae (vI (w64 ((s_22.1.length:Int) - 1))) wz rfl (ae (vI (w64 ((s_22.1.length:Int) - 1))) wz rfl (aj (af ?_))))))))
      obtain ⟨v_77,h_78,hc_33⟩:=bind_some hc_33
      refine aH (β:=Unit) (fun _=>([(7,(gV n_9 3 r_10)),(8,(.ref n_15 0 0)),(9,(gV n_30 3 s_22.1)),(10,(kV (gb_32 || !s_43.1.isEmpty) n_45 3 r_65)),(11,(vI s_43.2)),(12,(.ref n_29 0 0)),(13,(vS v_69)),(14,(vI (w64 ((s_22.1.length:Int) - 1)))),(83,(vB v_77))]:List (Nat×V))) (fun _=>([(n_4,some (.cells 4 [(vS p_2.Key),(vS p_2.Screen),(vI p_2.Zone),(vL eS p_2.Tags)])),(n_5,some (.cells 2 [(vI wv_3.From),(vI wv_3.To)])),(n_9,gB 3 Span.enc r_10),(n_15,some (.cells 1 [(vL eI r_13)])),(n_29,some (.cells 1 [(vI s_22.2.2.2)])),(n_30,gB 3 Slot_.enc s_22.1),(n_45,kB (gb_32 || !s_43.1.isEmpty) 3 Span.enc r_65)]:Hp)) (fun _=>True) ?_ ?_
      ·refine aa (ae (vI (w64 ((s_22.1.length:Int) - 1))) wz rfl (ae (vB (decide ((w64 ((s_22.1.length:Int) - 1))≥0))) wz rfl ?_))
       rcases au h_78 with⟨hc_79,h_78⟩ | ⟨hc_79,h_78⟩
       ·refine aF rfl hc_79 wz (ae (gV n_30 3 s_22.1) wa rfl (ae (vI (w64 ((s_22.1.length:Int) - 1))) wa rfl ?_))
        obtain ⟨_,hi_80,h_78⟩:=bind_some h_78
        refine vk es67 rfl rfl (jf hi_80) (gm hi_80) wa (aI pl76_1 rfl 2 rfl wa ?_)
        obtain ⟨e_81,hy_82,h_78⟩:=bind_some h_78
        refine ko 0 5 il ft sz9 ag9 rfl rfl hy_82 (vS e_81.Entry) rfl wa (ae (vS v_69) wa rfl (ae (vB (sEq e_81.Entry v_69)) wa rfl (ae (vB (sEq e_81.Entry v_69)) wz rfl (aj ?_))))
        obtain rfl:=ah h_78
        exact cu
       ·refine aF rfl hc_79 wz (ak wa (ak wa (ak wa (ak wa (ak wa (ak wa (ak wa (ae (vB false) wz rfl (aj ?_)))))))))
        obtain rfl:=ah h_78
        exact cu
      ·rintro ⟨⟩ _ sl_ H_ hp_ hq_
       refine aL _ hp_ hq_ ?_
       obtain ⟨v_83,h_84,hc_33⟩:=bind_some hc_33
       refine aH (β:=Nm) (fun (n_85:Nm)=>([(7,(gV n_9 3 r_10)),(8,(.ref n_15 0 0)),(9,(gV n_85 3 v_83)),(10,(kV (gb_32 || !s_43.1.isEmpty) n_45 3 r_65)),(11,(vI s_43.2)),(12,(.ref n_29 0 0))]:List (Nat×V))) (fun (n_85:Nm)=>([(n_4,some (.cells 4 [(vS p_2.Key),(vS p_2.Screen),(vI p_2.Zone),(vL eS p_2.Tags)])),(n_5,some (.cells 2 [(vI wv_3.From),(vI wv_3.To)])),(n_9,gB 3 Span.enc r_10),(n_15,some (.cells 1 [(vL eI r_13)])),(n_29,some (.cells 1 [(vI s_22.2.2.2)])),(n_85,gB 3 Slot_.enc v_83),(n_45,kB (gb_32 || !s_43.1.isEmpty) 3 Span.enc r_65)]:Hp)) (fun _=>True) ?_ ?_
       ·rcases au h_84 with⟨hc_86,h_84⟩ | ⟨hc_86,h_84⟩
        ·refine aA rfl hc_86 (aa (ae (gV n_30 3 s_22.1) wz rfl (ae (vI (w64 ((s_22.1.length:Int) - 1))) wz rfl (aD 0 3 il ft yI Ac rfl rfl (vL eI r_13) rfl wz (aD 0 4 il ft sz3 ag3 rfl rfl (vI s_22.2.2.2) rfl wz (ae (vI (w64 (s_22.2.2.2 + 1))) wz rfl ?_))))))
         obtain ⟨y_87,hy_88,h_84⟩:=bind_some h_84
         refine dU kw rfl rfl hy_88 rfl wz (bN sz3 ag3 rfl (vI y_87) rfl wz ?_)
         obtain ⟨_,hi_89,h_84⟩:=bind_some h_84
         refine vk es67 rfl rfl (jf hi_89) (gm hi_89) wz (aI LQ rfl 0 rfl wz (aI jF rfl 1 rfl wz ?_))
         obtain ⟨e_90,hy_91,h_84⟩:=bind_some h_84
         refine yX 0 il ft 5 sz3 rfl rfl hy_91 (⟨(⟨e_90.Time.From,y_87⟩:Window),e_90.Entry⟩:Slot_) rfl wz (dN (v':=(gV n_30 3 (s_22.1.set (0 + ((w64 ((s_22.1.length:Int) - 1))).toNat) (⟨(⟨e_90.Time.From,y_87⟩:Window),e_90.Entry⟩:Slot_)))) 9 rfl (jQ (by simp)) (dN (v':=(gV n_30 3 (s_22.1.set (0 + ((w64 ((s_22.1.length:Int) - 1))).toNat) (⟨(⟨e_90.Time.From,y_87⟩:Window),e_90.Entry⟩:Slot_)))) 84 rfl (jQ (by simp)) (aj ?_)))
         obtain rfl:=ah h_84
         exact aR n_30 trivial rfl (aJ rfl)
        ·refine ay rfl hc_86 (bC (ae (gV n_30 3 s_22.1) wz rfl (aD 1 3 (.inr (by kernel_rfl)) (fun _ _ ag=>trivial) yI Ac rfl rfl (vL eI r_13) rfl wz (aD 2 4 (.inr (by kernel_rfl)) (fun _ _ ag=>⟨.inl ⟨rfl,rfl⟩,trivial⟩) sz3 ag3 rfl rfl (vI s_22.2.2.2) rfl wz ?_))))
         obtain ⟨y_92,hy_93,h_84⟩:=bind_some h_84
         refine dU kw rfl rfl hy_93 rfl wz (bN sz3 ag3 rfl (vI y_92) rfl wz (aD 5 3 (.inr (by kernel_rfl)) (fun _ _ ag=>⟨.inl ⟨rfl,rfl⟩,⟨.inl ⟨rfl,rfl⟩,trivial⟩⟩) yI Ac rfl rfl (vL eI r_13) rfl wz (aD 6 4 (.inr (by kernel_rfl)) (fun _ _ ag=>⟨.inl ⟨rfl,rfl⟩,⟨.inl ⟨rfl,rfl⟩,⟨.inl ⟨rfl,rfl⟩,trivial⟩⟩⟩) sz3 ag3 rfl rfl (vI s_22.2.2.2) rfl wz (ae (vI (w64 (s_22.2.2.2 + 1))) wz rfl ?_))))
         obtain ⟨y_94,hy_95,h_84⟩:=bind_some h_84
         refine dU kw rfl rfl hy_95 rfl wz (bN sz3 ag3 rfl (vI y_94) rfl wz (ae (.d (.agg (Window.enc (⟨y_92,y_94⟩:Window)))) wz (by kernel_rfl) (ae (vS v_69) wz rfl (ae (.d (.agg (Slot_.enc (⟨(⟨y_92,y_94⟩:Window),v_69⟩:Slot_)))) wz (by kernel_rfl) (eU (([(⟨(⟨y_92,y_94⟩:Window),v_69⟩:Slot_)]:List Slot_).map Slot_.enc) es67 ez67 rfl rfl rfl rfl rfl wz ?_)))))
         obtain ⟨a_96,hz_97,h_84⟩:=bind_some h_84
         refine lJ 14 (.inr (by kernel_rfl)) (fun _ _ ag=>⟨.inr (.inl (M6 (Ib ag (i:=5) (j:=3) rfl rfl (by decide)))),⟨.inr (.inl (M6 (Ib ag (i:=5) (j:=4) rfl rfl (by decide)))),⟨.inr (.inl (M6 (Ib ag (i:=5) (j:=3) rfl rfl (by decide)))),⟨.inr (.inl (M6 (Ib ag (i:=5) (j:=4) rfl rfl (by decide)))),trivial⟩⟩⟩⟩) (i:=5) el67 el67 sz76 z76 rfl (by decide) by76 (by decide) (fun _=>rfl) rfl rfl rfl hz_97 wz (fun n_98=>ae (gV n_98 3 a_96) wz rfl (aj ?_))
         obtain rfl:=ah h_84
         exact aR n_98 trivial rfl (aJ rfl)
       ·rintro n_85 _ sl_ H_ hp_ hq_
        refine aL _ hp_ hq_ (af (af (aa (aD 0 4 il ft sz3 ag3 rfl rfl (vI s_22.2.2.2) rfl wz (aj (aa (dB 0 (.inl rfl) z3 rfl wz (fun n_99=>fH 0 il ft 7 sz3 rfl rfl [(vI s_22.2.2.2)] rfl wz (aj (aa (aD 0 7 il ft sz3 ag3 rfl rfl (vI s_22.2.2.2) rfl wz (ae (vI (w64 (s_22.2.2.2 + 1))) wz rfl (fH 0 il ft 7 sz3 rfl rfl [(vI (w64 (s_22.2.2.2 + 1)))] rfl wz (aj ?_))))))))))))))
        obtain rfl:=ah hc_33
        exact aP (k_17,(v_83,r_65,s_43.2,(w64 (s_22.2.2.2 + 1))),n_99,n_85,n_45,(gb_32 || !s_43.1.isEmpty)) hL_34 (Nat.lt_succ_self _) rfl (pre_is [0,1,2,3,7,5,6] (by decide) rfl)
   ·refine ay rfl hc_37 (aQ ?_)
    obtain rfl:=ah hc_33
    obtain rfl:=ah hL_34
    exact aR ((s_22.1,s_22.2.1,s_22.2.2.1,s_22.2.2.2),n_29,n_30,n_31,gb_32) rfl rfl (aJ rfl)
 ·rintro ⟨s_22,n_29,n_30,n_31,gb_32⟩ ho_ sl_ H_ hp_ hq_
  subst ho_
  refine aL _ hp_ hq_ (af (aa (ae (gV n_30 3 s_22.1) wz rfl (ae (gV n_30 3 s_22.1) wz rfl (aj (iK 5 rfl (eH 6 5 rfl rfl (eH 9 5 rfl rfl (eH 110 5 rfl rfl ?_)))))))))
  obtain rfl:=ah hF
  exact aB (aO (.inr rfl) [(vL Slot_.enc s_22.1)] ⟨rfl,trivial⟩ rfl rfl rfl)
theorem gN {n_1:Int} {r:Bool} (hF:di n_1=some r) :
  FnM Tryz.prog 101 [(vI n_1)] [] (vB r) []:=by
 refine FnM.of_wH ⟨Tryz.prog,9,[],[]⟩ rfl Tryz.func101 rfl rfl (Nat.le_of_ble_eq_true rfl) (by kernel_rfl) ?_
 unfold di at hF
 refine af (aa (ae (vB false) wz rfl (aj (af ?_))))
 obtain ⟨v_2,h_3,hF⟩:=bind_some hF
 refine aH (β:=Unit) (fun _=>([(2,(vB v_2))]:List (Nat×V))) (fun _=>([]:Hp)) (fun _=>True) ?_ ?_
 ·refine aa (ae (vI n_1) wz rfl (ae (vB (decide (n_1≥0))) wz rfl ?_))
  rcases au h_3 with⟨hc_4,h_3⟩ | ⟨hc_4,h_3⟩
  ·refine aF rfl hc_4 wz (ae (vI n_1) wa rfl (ae (vB (decide (n_1 < 345686400000))) wa rfl (ae (vB (decide (n_1 < 345686400000))) wz rfl (ae (vB (decide (n_1 < 345686400000))) wz rfl (aj ?_)))))
   obtain rfl:=ah h_3
   exact cu
  ·refine aF rfl hc_4 wz (ak wa (ak wa (ae (vB false) wz rfl (ae (vB false) wz rfl (aj ?_)))))
   obtain rfl:=ah h_3
   exact cu
 ·rintro ⟨⟩ _ sl_ H_ hp_ hq_
  refine aL _ hp_ hq_ ?_
  obtain rfl:=ah hF
  exact aB (aO (.inr rfl) [(vB v_2)] ⟨rfl,trivial⟩ rfl rfl rfl)
theorem nz {l_1:(List Entry)} {p_2:Player} {atv_3:Int} {r:Int} (hF:dD l_1 p_2 atv_3=some r) :
  FnM Tryz.prog 95 [(vL Entry.enc l_1),(.d (.agg (Player.enc p_2))),(vI atv_3)] [] (vI r) []:=by
 refine FnM.of_wH ⟨Tryz.prog,22,[],[]⟩ rfl Tryz.func95 rfl rfl (Nat.le_of_ble_eq_true rfl) (by kernel_rfl) ?_
 unfold dD at hF
 refine af (aa (ek 0 (.inl rfl) [(vS p_2.Key),(vS p_2.Screen),(vI p_2.Zone),(vL eS p_2.Tags)] rfl rfl wz (fun n_4=>ae (vI 0) wz rfl (aj (af (af (aa (ae (vL Entry.enc l_1) wz rfl ?_))))))))
 obtain ⟨r_5,hr_6,hF⟩:=bind_some hF
 refine aG (mH hr_6) rfl hb152 rfl rfl rfl rfl wz (ae (vI r_5) wz rfl (aj (af (aa (ae (vI r_5) wz rfl (ae (vB (r_5 != 0)) wz rfl (aj ?_)))))))
 rcases au hF with⟨hc_7,hF⟩ | ⟨hc_7,hF⟩
 ·refine aA rfl hc_7 (af (aa (ae (vI r_5) wz rfl (ae (vI r_5) wz rfl (aj ?_)))))
  obtain rfl:=ah hF
  exact aB (aO (.inr rfl) [(vI r_5)] ⟨rfl,trivial⟩ rfl rfl rfl)
 ·refine ay rfl hc_7 (av (af (af (aa (aD 0 0 il ft uJ wO rfl rfl (.d (.agg (Player.enc p_2))) rfl wz ?_)))))
  obtain ⟨r_8,hr_9,hF⟩:=bind_some hF
  refine aG (tY hr_9) rfl hb169 rfl rfl rfl rfl wz (ae (vI r_8) wz rfl (aj (af (aa (ae (vI r_8) wz rfl (ae (vB (r_8 != 0)) wz rfl (aj ?_)))))))
  rcases au hF with⟨hc_10,hF⟩ | ⟨hc_10,hF⟩
  ·refine aA rfl hc_10 (af (aa (ae (vI r_8) wz rfl (ae (vI r_8) wz rfl (aj ?_)))))
   obtain rfl:=ah hF
   exact aB (aO (.inr rfl) [(vI r_8)] ⟨rfl,trivial⟩ rfl rfl rfl)
  ·refine ay rfl hc_10 (av (af (af (aa (ae (vI atv_3) wz rfl ?_)))))
   obtain ⟨r_11,hr_12,hF⟩:=bind_some hF
   refine aG (gN hr_12) rfl Bw rfl rfl rfl rfl wz (ae (vB (!r_11)) wz rfl (aj ?_))
   rcases au hF with⟨hc_13,hF⟩ | ⟨hc_13,hF⟩
   ·refine aA rfl hc_13 (af (aa (ae (vI 1) wz rfl (aj ?_))))
    obtain rfl:=ah hF
    exact aB (aO (.inr rfl) [(vI 1)] ⟨rfl,trivial⟩ rfl rfl rfl)
   ·refine ay rfl hc_13 (av (af (aa (ae (vI 0) wz rfl (aj ?_)))))
    obtain rfl:=ah hF
    exact aB (aO (.inr rfl) [(vI 0)] ⟨rfl,trivial⟩ rfl rfl rfl)
theorem yB {x_1:Int} {r:Int} (hF:qd x_1=some r) :
  FnM Tryz.prog 224 [(.d (.int .u64 x_1))] [] (vI r) []:=by
 refine FnM.of_wH ⟨Tryz.prog,25,[],[]⟩ rfl Tryz.func224 rfl rfl (Nat.le_of_ble_eq_true rfl) (by kernel_rfl) ?_
 unfold qd at hF
 refine af (aa (ae (vI 0) wz rfl (aj (af (af (aa (ae (.d (.int .u64 x_1)) wz rfl (ae (vB (decide (x_1≥4294967296))) wz rfl (aj ?_)))))))))
 obtain ⟨v_2,h_3,hF⟩:=bind_some hF
 refine aH (β:=Unit) (fun _=>([(0,(.d (.int .u64 v_2.1))),(2,(vI v_2.2))]:List (Nat×V))) (fun _=>([]:Hp)) (fun _=>True) ?_ ?_
 ·rcases au h_3 with⟨hc_4,h_3⟩ | ⟨hc_4,h_3⟩
  ·refine aA rfl hc_4 (af (aa (ae (.d (.int .u64 x_1)) wz rfl ?_)))
   obtain ⟨q_5,hz_6,h_3⟩:=bind_some h_3
   refine Ii rfl rfl hz_6 wz (ae (.d (.int .u64 q_5)) wz rfl (aj (aa (ae (vI 32) wz rfl (aj ?_)))))
   obtain rfl:=ah h_3
   exact cu
  ·refine ay rfl hc_4 (av ?_)
   obtain rfl:=ah h_3
   exact cu
 ·rintro ⟨⟩ _ sl_ H_ hp_ hq_
  refine aL _ hp_ hq_ (af (af (aa (ae (.d (.int .u64 v_2.1)) wz rfl (ae (vB (decide (v_2.1≥65536))) wz rfl (aj ?_))))))
  obtain ⟨v_7,h_8,hF⟩:=bind_some hF
  refine aH (β:=Unit) (fun _=>([(0,(.d (.int .u64 v_7.1))),(2,(vI v_7.2))]:List (Nat×V))) (fun _=>([]:Hp)) (fun _=>True) ?_ ?_
  ·rcases au h_8 with⟨hc_9,h_8⟩ | ⟨hc_9,h_8⟩
   ·refine aA rfl hc_9 (af (aa (ae (.d (.int .u64 v_2.1)) wz rfl ?_)))
    obtain ⟨q_10,hz_11,h_8⟩:=bind_some h_8
    refine Ii rfl rfl hz_11 wz (ae (.d (.int .u64 q_10)) wz rfl (aj (aa (ae (vI v_2.2) wz rfl (ae (vI (w64 (v_2.2 + 16))) wz rfl (ae (vI (w64 (v_2.2 + 16))) wz rfl (aj ?_)))))))
    obtain rfl:=ah h_8
    exact cu
   ·refine ay rfl hc_9 (av ?_)
    obtain rfl:=ah h_8
    exact cu
  ·rintro ⟨⟩ _ sl_ H_ hp_ hq_
   refine aL _ hp_ hq_ (af (af (aa (ae (.d (.int .u64 v_7.1)) wz rfl (ae (vB (decide (v_7.1≥256))) wz rfl (aj ?_))))))
   obtain ⟨v_12,h_13,hF⟩:=bind_some hF
   refine aH (β:=Unit) (fun _=>([(0,(.d (.int .u64 v_12.1))),(2,(vI v_12.2))]:List (Nat×V))) (fun _=>([]:Hp)) (fun _=>True) ?_ ?_
   ·rcases au h_13 with⟨hc_14,h_13⟩ | ⟨hc_14,h_13⟩
    ·refine aA rfl hc_14 (af (aa (ae (.d (.int .u64 v_7.1)) wz rfl ?_)))
     obtain ⟨q_15,hz_16,h_13⟩:=bind_some h_13
     refine Ii rfl rfl hz_16 wz (ae (.d (.int .u64 q_15)) wz rfl (aj (aa (ae (vI v_7.2) wz rfl (ae (vI (w64 (v_7.2 + 8))) wz rfl (ae (vI (w64 (v_7.2 + 8))) wz rfl (aj ?_)))))))
     obtain rfl:=ah h_13
     exact cu
    ·refine ay rfl hc_14 (av ?_)
     obtain rfl:=ah h_13
     exact cu
   ·rintro ⟨⟩ _ sl_ H_ hp_ hq_
    refine aL _ hp_ hq_ (af (aa (ae (vI v_12.2) wz rfl (ae (.d (.int .u64 v_12.1)) wz rfl (mr zm un5 rfl wz ?_)))))
    obtain ⟨b_17,hy_18,hF⟩:=bind_some hF
    refine kP un9 rfl rfl hy_18 wz (mr un5 un3 rfl wz (ae (vI (w64 (v_12.2 + (w64 (b_17.toNat:Int))))) wz rfl (ae (vI (w64 (v_12.2 + (w64 (b_17.toNat:Int))))) wz rfl (aj ?_))))
    obtain rfl:=ah hF
    exact aB (aO (.inr rfl) [(vI (w64 (v_12.2 + (w64 (b_17.toNat:Int)))))] ⟨rfl,trivial⟩ rfl rfl rfl)
theorem tX {x_1:Int} {r:Int} (hF:iM x_1=some r) :
  FnM Tryz.prog 167 [(.d (.int .u64 x_1))] [] (vI r) []:=by
 refine FnM.of_wH ⟨Tryz.prog,8,[],[]⟩ rfl Tryz.func167 rfl rfl (Nat.le_of_ble_eq_true rfl) (by kernel_rfl) ?_
 unfold iM at hF
 refine af (aa (ae (vI 0) wz rfl (aj (af (ay rfl rfl (av (af (aa (ae (.d (.int .u64 x_1)) wz rfl ?_)))))))))
 obtain ⟨r_2,hr_3,hF⟩:=bind_some hF
 refine aG (yB hr_3) rfl hb224 rfl rfl rfl rfl wz (ae (vI r_2) wz rfl (aj ?_))
 obtain rfl:=ah hF
 exact aB (aO (.inr rfl) [(vI r_2)] ⟨rfl,trivial⟩ rfl rfl rfl)
theorem jy {data_1:(List Span)} {a_2:Int} {b_3:Int} {r:(List Span)} (hF:dK data_1 a_2 b_3=some r) :
  FnM Tryz.prog 287 [(dV (ax 0) 3 data_1),(vI a_2),(vI b_3),(.fn 177 [])] (([]:List Box)++gI 3 Span.enc data_1) (.tup []) (([]:List Box).map some++gT data_1 (gB 3 Span.enc r)):=by
 refine FnM.of_wHv ⟨Tryz.prog,53,[],[]⟩ rfl Tryz.func287 rfl rfl (Nat.le_of_ble_eq_true rfl) (by kernel_rfl) ?_
 unfold dK at hF
 refine af (aa (ae (vI a_2) wz rfl (ae (vI (w64 (a_2 + 1))) wz rfl (ae (vI (w64 (a_2 + 1))) wz rfl (aj ?_)))))
 obtain ⟨o_13,hj_14,hF⟩:=bind_some hF
 obtain ⟨nq_51,hj_14⟩:=cz hj_14
 refine aH (β:=((List Span)×Int)) (fun (s_10:(List Span)×Int)=>([]:List (Nat×V))) (fun (s_10:(List Span)×Int)=>([((ax 0),gB 3 Span.enc s_10.1)]:Hp)) (fun p=>o_13 = .go p) ?_ ?_
 ·refine aC (aV (β:=Nat×((List Span)×Int)) (fun p=>(fun (k_5:Nat) (s_10:(List Span)×Int)=>([(0,(dV (ax 0) 3 s_10.1)),(1,(vI a_2)),(2,(vI b_3)),(3,(.fn 177 [])),(8,(vI s_10.2))]:List (Nat×V))) p.1 p.2) (fun p=>(fun (k_5:Nat) (s_10:(List Span)×Int)=>([((ax 0),gB 3 Span.enc s_10.1)]:Hp)) p.1 p.2) (fun p=>iterN (fun s=>dE b_3 a_2 s) p.1 p.2=some o_13) (fun p=>p.1) (nq_51,(data_1,(w64 (a_2 + 1)))) hj_14 rfl (aJ rfl) ?_)
  rintro ⟨k_5,s_10⟩ hL_12
  dsimp only at hL_12
  cases k_5 with
  | zero=>cases hL_12
  | succ k_5 =>
   obtain ⟨c_,hc_11,hL_12⟩:=bind_some hL_12
   unfold dE at hc_11
   refine af (af (aa (ae (vI s_10.2) wz rfl (ae (vI b_3) wz rfl (ae (vB (decide (s_10.2 < b_3))) wz rfl (aj ?_))))))
   rcases au hc_11 with⟨hc_15,hc_11⟩ | ⟨hc_15,hc_11⟩
   ·refine aA rfl hc_15 (av (af (aC (af (aa (ae (vI s_10.2) wz rfl (ae (vI s_10.2) wz rfl (aj ?_))))))))
    obtain ⟨o_24,hj_25,hc_11⟩:=bind_some hc_11
    obtain ⟨nq_50,hj_25⟩:=cz hj_25
    refine aH (β:=((List Span)×Int)) (fun (s_21:(List Span)×Int)=>([(0,(dV (ax 0) 3 s_21.1)),(1,(vI a_2)),(2,(vI b_3)),(3,(.fn 177 [])),(8,(vI s_10.2))]:List (Nat×V))) (fun (s_21:(List Span)×Int)=>([((ax 0),gB 3 Span.enc s_21.1)]:Hp)) (fun p=>o_24 = .go p) ?_ ?_
    ·refine aC (aV (β:=Nat×((List Span)×Int)) (fun p=>(fun (k_16:Nat) (s_21:(List Span)×Int)=>([(0,(dV (ax 0) 3 s_21.1)),(1,(vI a_2)),(2,(vI b_3)),(3,(.fn 177 [])),(8,(vI s_10.2)),(9,(vI s_21.2))]:List (Nat×V))) p.1 p.2) (fun p=>(fun (k_16:Nat) (s_21:(List Span)×Int)=>([((ax 0),gB 3 Span.enc s_21.1)]:Hp)) p.1 p.2) (fun p=>iterN (fun s=>dG a_2 s) p.1 p.2=some o_24) (fun p=>p.1) (nq_50,(s_10.1,s_10.2)) hj_25 rfl (aJ rfl) ?_)
     rintro ⟨k_16,s_21⟩ hL_23
     dsimp only at hL_23
     cases k_16 with
     | zero=>cases hL_23
     | succ k_16 =>
      obtain ⟨c_,hc_22,hL_23⟩:=bind_some hL_23
      unfold dG at hc_22
      refine af (af ?_)
      obtain ⟨v_26,h_27,hc_22⟩:=bind_some hc_22
      refine aH (β:=Unit) (fun _=>([(0,(dV (ax 0) 3 s_21.1)),(1,(vI a_2)),(2,(vI b_3)),(3,(.fn 177 [])),(8,(vI s_10.2)),(9,(vI s_21.2)),(34,(vB v_26))]:List (Nat×V))) (fun _=>([((ax 0),gB 3 Span.enc s_21.1)]:Hp)) (fun _=>True) ?_ ?_
      ·refine bC (ae (vI s_21.2) wz rfl (ae (vI a_2) wz rfl (ae (vB (decide (s_21.2 > a_2))) wz rfl ?_)))
       rcases au h_27 with⟨hc_28,h_27⟩ | ⟨hc_28,h_27⟩
       ·refine aF rfl hc_28 wz (ae (.fn 177 []) wa rfl (ae (dV (ax 0) 3 s_21.1) wa rfl (ae (vI s_21.2) wa rfl ?_)))
        obtain ⟨_,hi_29,h_27⟩:=bind_some h_27
        refine lM ny rfl rfl (jf hi_29) (gm hi_29) wa ?_
        obtain ⟨e_30,hy_31,h_27⟩:=bind_some h_27
        refine ko 8 0 (.inr (by kernel_rfl)) (fun _ _ ag=>trivial) iX o6 rfl rfl hy_31 (.d (.agg (Span.enc e_30))) rfl wa (ae (dV (ax 0) 3 s_21.1) wa rfl (ae (vI s_21.2) wa rfl (ae (vI (w64 (s_21.2 - 1))) wa rfl ?_)))
        obtain ⟨_,hi_32,h_27⟩:=bind_some h_27
        refine lM ny rfl rfl (jf hi_32) (gm hi_32) wa ?_
        obtain ⟨e_33,hy_34,h_27⟩:=bind_some h_27
        refine ko 13 0 (.inr (by kernel_rfl)) (fun _ _ ag=>⟨.inl ⟨rfl,rfl⟩,trivial⟩) iX o6 rfl rfl hy_34 (.d (.agg (Span.enc e_33))) rfl wa ?_
        obtain ⟨r_35,hr_36,h_27⟩:=bind_some h_27
        refine aG (qp hr_36) rfl hb177 rfl rfl rfl rfl wa (ae (vB (decide (r_35 < 0))) wa rfl (ae (vB (decide (r_35 < 0))) wz rfl (aj ?_)))
        obtain rfl:=ah h_27
        exact cu
       ·refine aF rfl hc_28 wz (ak wa (ak wa (ak wa (ak wa (ak wa (ak wa (ak wa (ak wa (ak wa (ak wa (ak wa (ak wa (ae (vB false) wz rfl (aj ?_))))))))))))))
        obtain rfl:=ah h_27
        exact cu
      ·rintro ⟨⟩ _ sl_ H_ hp_ hq_
       refine aL _ hp_ hq_ ?_
       rcases au hc_22 with⟨hc_37,hc_22⟩ | ⟨hc_37,hc_22⟩
       ·refine aA rfl hc_37 (av (af (aC (bC (ae (dV (ax 0) 3 s_21.1) wz rfl (ae (vI s_21.2) wz rfl (ae (dV (ax 0) 3 s_21.1) wz rfl (ae (vI s_21.2) wz rfl (ae (vI (w64 (s_21.2 - 1))) wz rfl (ae (dV (ax 0) 3 s_21.1) wz rfl (ae (vI s_21.2) wz rfl (ae (vI (w64 (s_21.2 - 1))) wz rfl ?_))))))))))))
        obtain ⟨_,hi_38,hc_22⟩:=bind_some hc_22
        refine lM ny rfl rfl (jf hi_38) (gm hi_38) wz ?_
        obtain ⟨e_39,hy_40,hc_22⟩:=bind_some hc_22
        refine ko 9 0 (.inr (by kernel_rfl)) (fun _ _ ag=>trivial) iX o6 rfl rfl hy_40 (.d (.agg (Span.enc e_39))) rfl wz (ae (dV (ax 0) 3 s_21.1) wz rfl (ae (vI s_21.2) wz rfl ?_))
        obtain ⟨_,hi_41,hc_22⟩:=bind_some hc_22
        refine lM ny rfl rfl (jf hi_41) (gm hi_41) wz ?_
        obtain ⟨e_42,hy_43,hc_22⟩:=bind_some hc_22
        refine ko 13 0 (.inr (by kernel_rfl)) (fun _ _ ag=>⟨.inl ⟨rfl,rfl⟩,trivial⟩) iX o6 rfl rfl hy_43 (.d (.agg (Span.enc e_42))) rfl wz ?_
        obtain ⟨_,hi_44,hc_22⟩:=bind_some hc_22
        refine lM ny rfl rfl (jf hi_44) (gm hi_44) wz ?_
        obtain ⟨e_45,hy_46,hc_22⟩:=bind_some hc_22
        refine yX 15 (.inr (by kernel_rfl)) (fun _ _ ag=>⟨.inr (.inr (by kernel_rfl)),⟨.inr (.inr (by kernel_rfl)),trivial⟩⟩) 0 iX rfl rfl hy_46 e_39 (Fz rfl rfl (bI (kU _ _) (bI rfl (bI rfl rfl))) rfl rfl) wz (dN (v':=(dV (ax 0) 3 (s_21.1.set (0 + (s_21.2).toNat) e_39))) 0 rfl (fV (by simp)) (dN (v':=(dV (ax 0) 3 (s_21.1.set (0 + (s_21.2).toNat) e_39))) 37 rfl (fV (by simp)) (dN (v':=(dV (ax 0) 3 (s_21.1.set (0 + (s_21.2).toNat) e_39))) 39 rfl (fV (by simp)) (dN (v':=(dV (ax 0) 3 (s_21.1.set (0 + (s_21.2).toNat) e_39))) 42 rfl (fV (by simp)) (dN (v':=(dV (ax 0) 3 (s_21.1.set (0 + (s_21.2).toNat) e_39))) 47 rfl (fV (by simp)) ?_)))))
        obtain ⟨_,hi_47,hc_22⟩:=bind_some hc_22
        refine lM ny rfl rfl (jf hi_47) (gm hi_47) wz ?_
        obtain ⟨e_48,hy_49,hc_22⟩:=bind_some hc_22
        refine yX 17 (.inr (by kernel_rfl)) (fun _ _ ag=>⟨.inr (.inr (by kernel_rfl)),⟨.inr (.inr (by kernel_rfl)),⟨.inr (.inr (by kernel_rfl)),trivial⟩⟩⟩) 0 iX rfl rfl hy_49 e_42 (Fz rfl rfl (bI (kU _ _) (bI rfl (bI rfl rfl))) rfl rfl) wz (dN (v':=(dV (ax 0) 3 ((s_21.1.set (0 + (s_21.2).toNat) e_39).set (0 + ((w64 (s_21.2 - 1))).toNat) e_42))) 0 rfl (fV (by simp)) (dN (v':=(dV (ax 0) 3 ((s_21.1.set (0 + (s_21.2).toNat) e_39).set (0 + ((w64 (s_21.2 - 1))).toNat) e_42))) 37 rfl (fV (by simp)) (dN (v':=(dV (ax 0) 3 ((s_21.1.set (0 + (s_21.2).toNat) e_39).set (0 + ((w64 (s_21.2 - 1))).toNat) e_42))) 39 rfl (fV (by simp)) (dN (v':=(dV (ax 0) 3 ((s_21.1.set (0 + (s_21.2).toNat) e_39).set (0 + ((w64 (s_21.2 - 1))).toNat) e_42))) 42 rfl (fV (by simp)) (dN (v':=(dV (ax 0) 3 ((s_21.1.set (0 + (s_21.2).toNat) e_39).set (0 + ((w64 (s_21.2 - 1))).toNat) e_42))) 47 rfl (fV (by simp)) (aj (aa (ae (vI s_21.2) wz rfl (ae (vI (w64 (s_21.2 - 1))) wz rfl (ae (vI (w64 (s_21.2 - 1))) wz rfl (aj ?_)))))))))))
        obtain rfl:=ah hc_22
        exact aP (k_16,(((s_21.1.set (0 + (s_21.2).toNat) e_39).set (0 + ((w64 (s_21.2 - 1))).toNat) e_42),(w64 (s_21.2 - 1)))) hL_23 (Nat.lt_succ_self _) rfl (aJ rfl)
       ·refine ay rfl hc_37 (aQ ?_)
        obtain rfl:=ah hc_22
        obtain rfl:=ah hL_23
        exact aR ((s_21.1,s_21.2)) rfl rfl (aJ rfl)
    ·rintro s_21 ho_ sl_ H_ hp_ hq_
     subst ho_
     refine aL _ hp_ hq_ (aa (ae (vI s_10.2) wz rfl (ae (vI (w64 (s_10.2 + 1))) wz rfl (ae (vI (w64 (s_10.2 + 1))) wz rfl (aj ?_)))))
     obtain rfl:=ah hc_11
     exact aP (k_5,(s_21.1,(w64 (s_10.2 + 1)))) hL_12 (Nat.lt_succ_self _) rfl (aJ rfl)
   ·refine ay rfl hc_15 (aQ ?_)
    obtain rfl:=ah hc_11
    obtain rfl:=ah hL_12
    exact aR ((s_10.1,s_10.2)) rfl rfl (aJ rfl)
 ·rintro s_10 ho_ sl_ H_ hp_ hq_
  subst ho_
  show vQ _ _ _ _ _ _ _ _
  obtain rfl:=ah hF
  exact BO (H0:=([((ax 0),gB 3 Span.enc s_10.1)]:Hp)) (sl':=envS []) hq_ (BM (bs:=([]:List Box)) (os:=([]:List Box)) (xs:=data_1) (o:=gB 3 Span.enc s_10.1) (.inl rfl) [] trivial rfl rfl rfl rfl rfl (by kernel_rfl) nT rfl)
theorem kI {data_1:(List Span)} {a_2:Int} {b_3:Int} {limit_4:Int} {r:(List Span)} (hF:eP data_1 a_2 b_3 limit_4=some r) :
  FnM Tryz.prog 229 [(dV (ax 0) 3 data_1),(vI a_2),(vI b_3),(vI limit_4),(.fn 177 [])] (([]:List Box)++gI 3 Span.enc data_1) (.tup []) (([]:List Box).map some++gT data_1 (gB 3 Span.enc r)):=by
 refine FnM.of_wHv ⟨Tryz.prog,148,[],[]⟩ rfl Tryz.func229 rfl rfl (Nat.le_of_ble_eq_true rfl) (by kernel_rfl) ?_
 unfold eP at hF
 refine af (aa (ae (vB true) wz rfl (aj (af (aa (ae (vB true) wz rfl (aj ?_)))))))
 obtain ⟨o_14,hj_15,hF⟩:=bind_some hF
 obtain ⟨nq_21,hj_15⟩:=cz hj_15
 refine aH (β:=(Unit)) (fun (s_11:Unit)=>([]:List (Nat×V))) (fun (s_11:Unit)=>([((ax 0),gB 3 Span.enc data_1)]:Hp)) (fun p=>o_14 = .go p) ?_ ?_
 ·refine aC (aV (β:=Nat×(Unit)) (fun p=>(fun (k_6:Nat) (s_11:Unit)=>([(0,(dV (ax 0) 3 data_1)),(1,(vI a_2)),(2,(vI b_3)),(3,(vI limit_4)),(4,(.fn 177 [])),(10,(vB true)),(11,(vB true))]:List (Nat×V))) p.1 p.2) (fun p=>(fun (k_6:Nat) (s_11:Unit)=>([((ax 0),gB 3 Span.enc data_1)]:Hp)) p.1 p.2) (fun p=>iterN (fun s=>dY b_3 a_2 data_1 limit_4 s) p.1 p.2=some o_14) (fun p=>p.1) (nq_21,()) hj_15 rfl (aJ rfl) ?_)
  rintro ⟨k_6,s_11⟩ hL_13
  dsimp only at hL_13
  cases k_6 with
  | zero=>cases hL_13
  | succ k_6 =>
   obtain ⟨c_,hc_12,hL_13⟩:=bind_some hL_13
   unfold dY at hc_12
   refine aC (af (aa (ae (vI b_3) wz rfl (ae (vI a_2) wz rfl (ae (vI (w64 (b_3 - a_2))) wz rfl (ae (vI (w64 (b_3 - a_2))) wz rfl (aj (af (af (aa (ae (vI (w64 (b_3 - a_2))) wz rfl (ae (vB (decide ((w64 (b_3 - a_2))≤12))) wz rfl (aj ?_)))))))))))))
   rcases au hc_12 with⟨hc_16,hc_12⟩ | ⟨hc_16,hc_12⟩
   ·refine aA rfl hc_16 (af (aa (ae (dV (ax 0) 3 data_1) wz rfl (ae (vI a_2) wz rfl (ae (vI b_3) wz rfl (ae (.fn 177 []) wz rfl ?_))))))
    obtain ⟨r_17,hr_18,hc_12⟩:=bind_some hc_12
    obtain ⟨_,hs_19,hc_12⟩:=bind_some hc_12
    replace hs_19:=nH hs_19
    refine mP 0 [] 0 0 il ft (jy hr_18) rfl hb287 rfl rfl rfl (by kernel_rfl) rfl (.inr (.inl rfl)) rfl (by kernel_rfl) (by kernel_rfl) (by kernel_rfl) (by kernel_rfl) rfl (by decide) (by kernel_rfl) nT (yh hs_19) wz ([((ax 0),gB 3 Span.enc r_17)]:Hp) (by kernel_rfl) (dN (v':=(dV (ax 0) 3 r_17)) 0 rfl (fV hs_19.symm) (dN (v':=(dV (ax 0) 3 r_17)) 26 rfl (fV hs_19.symm) (aj ?_)))
    obtain rfl:=ah hc_12
    obtain rfl:=ah hL_13
    obtain rfl:=ah hF
    exact aB (BM (bs:=([]:List Box)) (os:=([]:List Box)) (xs:=data_1) (o:=gB 3 Span.enc r_17) (.inr rfl) [] trivial rfl rfl rfl rfl rfl (by kernel_rfl) nT rfl)
   ·refine ay rfl hc_16 (av (af (af (aa (ae (vI limit_4) wz rfl (ae (vB (limit_4 == 0)) wz rfl (aj ?_)))))))
    rcases au hc_12 with⟨hc_20,hc_12⟩ | ⟨hc_20,hc_12⟩
    ·refine aA rfl hc_20 (af (aa (ae (dV (ax 0) 3 data_1) wz rfl (ae (vI a_2) wz rfl (ae (vI b_3) wz rfl (ae (.fn 177 []) wz rfl ?_))))))
     cases hc_12
    ·refine ay rfl hc_20 (av (af (af (aa (ae (vB true) wz rfl (ae (vB false) wz rfl (aj (ay rfl rfl (av (af (aa (ae (dV (ax 0) 3 data_1) wz rfl (ae (vI a_2) wz rfl (ae (vI b_3) wz rfl (ae (.fn 177 []) wz rfl ?_)))))))))))))))
     cases hc_12
 ·rintro s_11 ho_ sl_ H_ hp_ hq_
  subst ho_
  show vQ _ _ _ _ _ _ _ _
  obtain rfl:=ah hF
  exact BO (H0:=([((ax 0),gB 3 Span.enc data_1)]:Hp)) (sl':=envS []) hq_ (BM (bs:=([]:List Box)) (os:=([]:List Box)) (xs:=data_1) (o:=gB 3 Span.enc data_1) (.inl rfl) [] trivial rfl rfl rfl rfl rfl (by kernel_rfl) nT rfl)
theorem je {x_1:(List Span)} {r:(List Span)} (hF:bZ x_1=some r) :
  FnM Tryz.prog 171 [(dV (ax 0) 3 x_1),(.fn 177 [])] (([]:List Box)++gI 3 Span.enc x_1) (.tup []) (([]:List Box).map some++gT x_1 (gB 3 Span.enc r)):=by
 refine FnM.of_wHv ⟨Tryz.prog,14,[],[]⟩ rfl Tryz.func171 rfl rfl (Nat.le_of_ble_eq_true rfl) (by kernel_rfl) ?_
 unfold bZ at hF
 refine af (aa (ae (dV (ax 0) 3 x_1) wz rfl (AB sV rfl wz (ae (vI (x_1.length:Int)) wz rfl (aj (aa (ae (dV (ax 0) 3 x_1) wz rfl (ae (vI (x_1.length:Int)) wz rfl (ae (vI (x_1.length:Int)) wz rfl (mr un3 EK rfl wz ?_))))))))))
 obtain ⟨r_3,hr_4,hF⟩:=bind_some hF
 refine aG (tX hr_4) rfl hb167 rfl rfl rfl rfl wz (ae (.fn 177 []) wz rfl ?_)
 obtain ⟨r_5,hr_6,hF⟩:=bind_some hF
 obtain ⟨_,hs_7,hF⟩:=bind_some hF
 replace hs_7:=nH hs_7
 refine mP 0 [] 0 0 il ft (kI hr_6) rfl hb229 rfl rfl rfl (by kernel_rfl) rfl (.inr (.inl rfl)) rfl (by kernel_rfl) (by kernel_rfl) (by kernel_rfl) (by kernel_rfl) rfl (by decide) (by kernel_rfl) nT (yh hs_7) wz ([((ax 0),gB 3 Span.enc r_5)]:Hp) (by kernel_rfl) (dN (v':=(dV (ax 0) 3 r_5)) 0 rfl (fV hs_7.symm) (dN (v':=(dV (ax 0) 3 r_5)) 5 rfl (fV hs_7.symm) (dN (v':=(dV (ax 0) 3 r_5)) 7 rfl (fV hs_7.symm) (aj ?_))))
 show vQ _ _ _ _ _ _ _ _
 obtain rfl:=ah hF
 exact BM (bs:=([]:List Box)) (os:=([]:List Box)) (xs:=x_1) (o:=gB 3 Span.enc r_5) (.inl rfl) [] trivial rfl rfl rfl rfl rfl (by kernel_rfl) nT rfl
theorem DK {l_1:(List Entry)} {p_2:Player} {atv_3:Int} {r:(List Span)} (hF:pz l_1 p_2 atv_3=some r) :
  FnM Tryz.prog 96 [(vL Entry.enc l_1),(.d (.agg (Player.enc p_2))),(vI atv_3)] [] (vL Span.enc r) []:=by
 refine FnM.of_wH ⟨Tryz.prog,18,[],[]⟩ rfl Tryz.func96 rfl rfl (Nat.le_of_ble_eq_true rfl) (by kernel_rfl) ?_
 unfold pz at hF
 refine af (aa (ek 0 (.inl rfl) [(vS p_2.Key),(vS p_2.Screen),(vI p_2.Zone),(vL eS p_2.Tags)] rfl rfl wz (fun n_4=>ae .nil wz rfl (aj (af (aa (ae (vL Entry.enc l_1) wz rfl (aD 0 0 il ft uJ wO rfl rfl (.d (.agg (Player.enc p_2))) rfl wz (ae (vI atv_3) wz rfl (ae (vI atv_3) wz rfl (ae (vI (w64 (atv_3 + 1))) wz rfl (ae (.d (.agg (Window.enc (⟨atv_3,(w64 (atv_3 + 1))⟩:Window)))) wz (by kernel_rfl) ?_))))))))))))
 obtain ⟨r_5,hr_6,hF⟩:=bind_some hF
 refine Gu [] (rF hr_6) rfl MV rfl (by kernel_rfl) (by kernel_rfl) (by kernel_rfl) (by kernel_rfl) (by kernel_rfl) rfl (by decide) (by kernel_rfl) wz ([(n_4,some (.cells 4 [(vS p_2.Key),(vS p_2.Screen),(vI p_2.Zone),(vL eS p_2.Tags)]))]:Hp) (fun _=>by kernel_rfl) (fun n_8=>ae (gV n_8 3 r_5) wz rfl (aj (af (aa (ae (gV n_8 3 r_5) wz rfl ?_)))))
 obtain ⟨r_9,hr_10,hF⟩:=bind_some hF
 obtain ⟨_,hs_11,hF⟩:=bind_some hF
 replace hs_11:=nH hs_11
 refine mP 0 [] 1 0 il ft (je hr_10) rfl hb171 rfl rfl rfl (by kernel_rfl) rfl (.inl rfl) rfl (by kernel_rfl) (by kernel_rfl) (by kernel_rfl) (by kernel_rfl) rfl (by decide) (by kernel_rfl) nT (yh hs_11) wz ([(n_4,some (.cells 4 [(vS p_2.Key),(vS p_2.Screen),(vI p_2.Zone),(vL eS p_2.Tags)])),(n_8,gB 3 Span.enc r_9)]:Hp) (by kernel_rfl) (dN (v':=(gV n_8 3 r_9)) 14 rfl (jQ hs_11.symm) (dN (v':=(gV n_8 3 r_9)) 15 rfl (jQ hs_11.symm) (dN (v':=(gV n_8 3 r_9)) 7 rfl (jQ hs_11.symm) (aj (af (aa (ae (gV n_8 3 r_9) wz rfl (ae (gV n_8 3 r_9) wz rfl (aj (iK 1 rfl (eH 6 1 rfl rfl (eH 7 1 rfl rfl (eH 14 1 rfl rfl (eH 15 1 rfl rfl (eH 17 1 rfl rfl ?_)))))))))))))))
 obtain rfl:=ah hF
 exact aB (aO (.inr rfl) [(vL Span.enc r_9)] ⟨rfl,trivial⟩ rfl rfl rfl)
theorem nY {l_1:(List Entry)} {p_2:Player} {atv_3:Int} {r:ByteArray×Bool×Int} (hF:jB l_1 p_2 atv_3=some r) :
  FnM Tryz.prog 35 [(vL Entry.enc l_1),(.d (.agg (Player.enc p_2))),(vI atv_3)] [] (.tup [(vS r.1),(vB r.2.1),(vI r.2.2)]) []:=by
 refine FnM.of_wH ⟨Tryz.prog,32,[],[]⟩ rfl Tryz.func35 rfl rfl (Nat.le_of_ble_eq_true rfl) (by kernel_rfl) ?_
 unfold jB at hF
 refine af (aa (ek 0 (.inl rfl) [(vS p_2.Key),(vS p_2.Screen),(vI p_2.Zone),(vL eS p_2.Tags)] rfl rfl wz (fun n_4=>ae (vS (⟨#[]⟩:ByteArray)) wz rfl (ae (vB false) wz rfl (ae (vI 0) wz rfl (aj (af (af (aa (ae (vL Entry.enc l_1) wz rfl (aD 0 0 il ft uJ wO rfl rfl (.d (.agg (Player.enc p_2))) rfl wz (ae (vI atv_3) wz rfl ?_))))))))))))
 obtain ⟨r_5,hr_6,hF⟩:=bind_some hF
 refine aG (nz hr_6) rfl hb95 rfl rfl rfl rfl wz (ae (vI r_5) wz rfl (aj (af (aa (ae (vI r_5) wz rfl (ae (vB (r_5 != 0)) wz rfl (aj ?_)))))))
 rcases au hF with⟨hc_7,hF⟩ | ⟨hc_7,hF⟩
 ·refine aA rfl hc_7 (af (aa (ae (vI r_5) wz rfl (ae (vS (⟨#[]⟩:ByteArray)) wz rfl (ae (vB false) wz rfl (ae (vI r_5) wz rfl (aj ?_)))))))
  obtain rfl:=ah hF
  exact aB (aO (.inr rfl) [(vS (⟨#[]⟩:ByteArray)),(vB false),(vI r_5)] ⟨rfl,⟨rfl,⟨rfl,trivial⟩⟩⟩ rfl rfl rfl)
 ·refine ay rfl hc_7 (av (af (aa (ae (vL Entry.enc l_1) wz rfl (aD 0 0 il ft uJ wO rfl rfl (.d (.agg (Player.enc p_2))) rfl wz (ae (vI atv_3) wz rfl ?_))))))
  obtain ⟨r_8,hr_9,hF⟩:=bind_some hF
  refine aG (DK hr_9) rfl hb96 rfl rfl rfl rfl wz (ae (vL Span.enc r_8) wz rfl (aj (af (af (aa (ae (vL Span.enc r_8) wz rfl (cO sV rfl wz (ae (vB ((r_8.length:Int) == 0)) wz rfl (aj ?_)))))))))
  rcases au hF with⟨hc_10,hF⟩ | ⟨hc_10,hF⟩
  ·refine aA rfl hc_10 (af (aa (ae (vS (⟨#[]⟩:ByteArray)) wz rfl (ae (vB false) wz rfl (ae (vI 0) wz rfl (aj ?_))))))
   obtain rfl:=ah hF
   exact aB (aO (.inr rfl) [(vS (⟨#[]⟩:ByteArray)),(vB false),(vI 0)] ⟨rfl,⟨rfl,⟨rfl,trivial⟩⟩⟩ rfl rfl rfl)
  ·refine ay rfl hc_10 (av (af (aa (ae (vL Span.enc r_8) wz rfl ?_))))
   obtain ⟨y_11,hy_12,hF⟩:=bind_some hF
   refine dU ny rfl rfl hy_12 rfl wz (kY zL rfl [dP Entry.enc y_11.f_e,.int .i64 y_11.f_time.From,.int .i64 y_11.f_time.To] rfl rfl wz (bN Ig GK rfl (.d (dP Entry.enc y_11.f_e)) rfl wz ?_))
   obtain ⟨y_13,hy_14,hF⟩:=bind_some hF
   refine dN (v':=(.d (.ptr [.str y_13.Key,.str y_13.Item,.int .i64 y_13.Version,.int .i64 y_13.First,.int .i64 y_13.Last,.int .i64 y_13.Every,.int .i64 y_13.Days,dl eI y_13.Except,.int .i64 y_13.From,.int .i64 y_13.To,.int .i64 y_13.Prio,dl eS y_13.Tags,.bool y_13.Gone]))) 28 rfl (xg (enc:=Entry.enc) (y:=y_13) hy_14) (ae (.d (.ptr [.str y_13.Key,.str y_13.Item,.int .i64 y_13.Version,.int .i64 y_13.First,.int .i64 y_13.Last,.int .i64 y_13.Every,.int .i64 y_13.Days,dl eI y_13.Except,.int .i64 y_13.From,.int .i64 y_13.To,.int .i64 y_13.Prio,dl eS y_13.Tags,.bool y_13.Gone])) wz rfl (kY uK rfl [.str y_13.Key,.str y_13.Item,.int .i64 y_13.Version,.int .i64 y_13.First,.int .i64 y_13.Last,.int .i64 y_13.Every,.int .i64 y_13.Days,dl eI y_13.Except,.int .i64 y_13.From,.int .i64 y_13.To,.int .i64 y_13.Prio,dl eS y_13.Tags,.bool y_13.Gone] rfl rfl wz (bN sz9 ag9 rfl (vS y_13.Key) rfl wz (ae (vS y_13.Key) wz rfl (ae (vB true) wz rfl (ae (vI 0) wz rfl (aj ?_)))))))
   obtain rfl:=ah hF
   exact aB (aO (.inr rfl) [(vS y_13.Key),(vB true),(vI 0)] ⟨rfl,⟨rfl,⟨rfl,trivial⟩⟩⟩ rfl rfl rfl)
theorem F9 {l_1:(List Int)} {r:Int} (hF:xB l_1=some r) :
  FnM Tryz.prog 14 [(vL eI l_1)] [] (vI r) []:=by
 refine FnM.of_wH ⟨Tryz.prog,15,[],[]⟩ rfl Tryz.func14 rfl rfl (Nat.le_of_ble_eq_true rfl) (by kernel_rfl) ?_
 unfold xB at hF
 refine af (aa (ae (vI 0) wz rfl (aj (af (af (aa (ae (vL eI l_1) wz rfl (cO un140 rfl wz (ae (vI 0) wz rfl (aj ?_))))))))))
 obtain ⟨o_10,hj_11,hF⟩:=bind_some hF
 obtain ⟨hn_6,hj_11⟩:=bv hj_11
 refine aH (β:=(Unit)) (fun (s_7:Unit)=>([]:List (Nat×V))) (fun (s_7:Unit)=>([]:Hp)) (fun p=>o_10 = .go p) ?_ ?_
 ·refine aC (aV (β:=Nat×(List Int)×(Unit)) (fun p=>(fun (k_2:Nat) (l_3:List Int) (s_7:Unit)=>([(5,(vL eI l_1)),(6,(vI (l_1.length:Int))),(7,(vI (k_2:Int)))]:List (Nat×V))) p.1 p.2.1 p.2.2) (fun p=>(fun (k_2:Nat) (l_3:List Int) (s_7:Unit)=>([]:Hp)) p.1 p.2.1 p.2.2) (fun p=>forR (fun k x s=>vw k x s) p.2.1 p.1 p.2.2=some o_10∧(l_1).drop p.1=p.2.1) (fun p=>p.2.1.length) (0,l_1,()) ⟨hj_11,rfl⟩ rfl (aJ rfl) ?_)
  rintro ⟨k_2,l_3,s_7⟩ ⟨hL_9,hD_5⟩
  dsimp only at hL_9 hD_5
  cases l_3 with
  | nil =>
   obtain rfl:=ah hL_9
   refine af (aa (ae (vB (decide ((k_2:Int) < (l_1.length:Int)))) wz rfl (aj ?_)))
   refine af (ay rfl (drop_nil hD_5) (aQ ?_))
   exact aR (s_7) rfl rfl (aJ rfl)
  | cons x_4 l_3 =>
   obtain ⟨c_,hc_8,hL_9⟩:=bind_some hL_9
   refine af (aa (ae (vB (decide ((k_2:Int) < (l_1.length:Int)))) wz rfl (aj ?_)))
   refine af (aA rfl (bL hD_5) (av ?_))
   unfold vw at hc_8
   refine af (aC (af (aa (dU es140 rfl rfl (bT hD_5) rfl wz (bN sz35 ag35 rfl (vI x_4) rfl wz (ae (vI x_4) wz rfl (aj (af (aa (ae (vI x_4) wz rfl (ae (vB (x_4 != 0)) wz rfl (aj ?_))))))))))))
   rcases au hc_8 with⟨hc_12,hc_8⟩ | ⟨hc_12,hc_8⟩
   ·refine aA rfl hc_12 (af (aa (ae (vI x_4) wz rfl (ae (vI x_4) wz rfl (aj ?_)))))
    obtain rfl:=ah hc_8
    obtain rfl:=ah hL_9
    obtain rfl:=ah hF
    exact aB (aO (.inr rfl) [(vI x_4)] ⟨rfl,trivial⟩ rfl rfl rfl)
   ·refine ay rfl hc_12 (av (aa (fJ (bO hD_5 hn_6) wz rfl (ae (vI ((k_2 + 1:Nat):Int)) wz rfl (aj ?_)))))
    obtain rfl:=ah hc_8
    exact aP (k_2 + 1,l_3,()) ⟨hL_9,aW hD_5⟩ (Nat.lt_succ_self _) rfl (aJ rfl)
 ·rintro s_7 ho_ sl_ H_ hp_ hq_
  subst ho_
  refine aL _ hp_ hq_ (af (aa (ae (vI 0) wz rfl (aj ?_))))
  obtain rfl:=ah hF
  exact aB (aO (.inr rfl) [(vI 0)] ⟨rfl,trivial⟩ rfl rfl rfl)
theorem ql {r_1:Rect} {r:Int} (hF:lZ r_1=some r) :
  FnM Tryz.prog 73 [(.d (.agg (Rect.enc r_1)))] [] (vI r) []:=by
 refine FnM.of_wH ⟨Tryz.prog,25,[],[]⟩ rfl Tryz.func73 rfl rfl (Nat.le_of_ble_eq_true rfl) (by kernel_rfl) ?_
 unfold lZ at hF
 refine af (aa (ek 0 (.inl rfl) [(vI r_1.X),(vI r_1.Y),(vI r_1.W),(vI r_1.H)] rfl rfl wz (fun n_2=>ae (vI 0) wz rfl (aj (af (af ?_))))))
 obtain ⟨v_3,h_4,hF⟩:=bind_some hF
 refine aH (β:=Unit) (fun _=>([(1,(.ref n_2 0 0)),(10,(vB v_3))]:List (Nat×V))) (fun _=>([(n_2,some (.cells 4 [(vI r_1.X),(vI r_1.Y),(vI r_1.W),(vI r_1.H)]))]:Hp)) (fun _=>True) ?_ ?_
 ·refine aa (aI Ad rfl 0 rfl wz (aD 0 0 il ft sz3 ag3 rfl rfl (vI r_1.X) rfl wz ?_))
  obtain ⟨r_5,hr_6,h_4⟩:=bind_some h_4
  refine aG (bg hr_6) rfl qE rfl rfl rfl rfl wz ?_
  rcases au h_4 with⟨hc_7,h_4⟩ | ⟨hc_7,h_4⟩
  ·refine aF rfl hc_7 wz (ak wa (ak wa (ak wa (ae (vB true) wz rfl (aj ?_)))))
   obtain rfl:=ah h_4
   exact cu
  ·refine aF rfl hc_7 wz (aI wZ rfl 1 rfl wa (aD 0 0 il ft sz3 ag3 rfl rfl (vI r_1.Y) rfl wa ?_))
   obtain ⟨r_8,hr_9,h_4⟩:=bind_some h_4
   refine aG (bg hr_9) rfl qE rfl rfl rfl rfl wa (ae (vB r_8) wz rfl (aj ?_))
   obtain rfl:=ah h_4
   exact cu
 ·rintro ⟨⟩ _ sl_ H_ hp_ hq_
  refine aL _ hp_ hq_ ?_
  rcases au hF with⟨hc_10,hF⟩ | ⟨hc_10,hF⟩
  ·refine aA rfl hc_10 (af (aa (ae (vI 1) wz rfl (aj ?_))))
   obtain rfl:=ah hF
   exact aB (aO (.inr rfl) [(vI 1)] ⟨rfl,trivial⟩ rfl rfl rfl)
  ·refine ay rfl hc_10 (av (af (af ?_)))
   obtain ⟨v_11,h_12,hF⟩:=bind_some hF
   refine aH (β:=Unit) (fun _=>([(24,(vB v_11))]:List (Nat×V))) (fun _=>([(n_2,some (.cells 4 [(vI r_1.X),(vI r_1.Y),(vI r_1.W),(vI r_1.H)]))]:Hp)) (fun _=>True) ?_ ?_
   ·refine aa (aI FD rfl 2 rfl wz (aD 0 0 il ft sz3 ag3 rfl rfl (vI r_1.W) rfl wz (aI Ad rfl 0 rfl wz (aD 0 0 il ft sz3 ag3 rfl rfl (vI r_1.X) rfl wz (ae (vI (w64 (100000 - r_1.X))) wz rfl ?_)))))
    obtain ⟨r_13,hr_14,h_12⟩:=bind_some h_12
    refine aG (bg hr_14) rfl qE rfl rfl rfl rfl wz ?_
    rcases au h_12 with⟨hc_15,h_12⟩ | ⟨hc_15,h_12⟩
    ·refine aF rfl hc_15 wz (ak wa (ak wa (ak wa (ak wa (ak wa (ak wa (ae (vB true) wz rfl (aj ?_))))))))
     obtain rfl:=ah h_12
     exact cu
    ·refine aF rfl hc_15 wz (aI Dy rfl 3 rfl wa (aD 0 0 il ft sz3 ag3 rfl rfl (vI r_1.H) rfl wa (aI wZ rfl 1 rfl wa (aD 0 0 il ft sz3 ag3 rfl rfl (vI r_1.Y) rfl wa (ae (vI (w64 (100000 - r_1.Y))) wa rfl ?_)))))
     obtain ⟨r_16,hr_17,h_12⟩:=bind_some h_12
     refine aG (bg hr_17) rfl qE rfl rfl rfl rfl wa (ae (vB r_16) wz rfl (aj ?_))
     obtain rfl:=ah h_12
     exact cu
   ·rintro ⟨⟩ _ sl_ H_ hp_ hq_
    refine aL _ hp_ hq_ ?_
    rcases au hF with⟨hc_18,hF⟩ | ⟨hc_18,hF⟩
    ·refine aA rfl hc_18 (af (aa (ae (vI 1) wz rfl (aj ?_))))
     obtain rfl:=ah hF
     exact aB (aO (.inr rfl) [(vI 1)] ⟨rfl,trivial⟩ rfl rfl rfl)
    ·refine ay rfl hc_18 (av (af (aa (ae (vI 0) wz rfl (aj ?_)))))
     obtain rfl:=ah hF
     exact aB (aO (.inr rfl) [(vI 0)] ⟨rfl,trivial⟩ rfl rfl rfl)
theorem ww {l_1:(List Rect)} {r:Int} (hF:kT l_1=some r) :
  FnM Tryz.prog 151 [(vL Rect.enc l_1)] [] (vI r) []:=by
 refine FnM.of_wH ⟨Tryz.prog,21,[],[]⟩ rfl Tryz.func151 rfl rfl (Nat.le_of_ble_eq_true rfl) (by kernel_rfl) ?_
 unfold kT at hF
 refine af (aa (ae (vI 0) wz rfl (aj (af (af (aa (ae (vL Rect.enc l_1) wz rfl (cO AA rfl wz (ae (vB (decide ((l_1.length:Int) > 2000))) wz rfl (aj ?_))))))))))
 rcases au hF with⟨hc_2,hF⟩ | ⟨hc_2,hF⟩
 ·refine aA rfl hc_2 (af (aa (ae (vI 2) wz rfl (aj ?_))))
  obtain rfl:=ah hF
  exact aB (aO (.inr rfl) [(vI 2)] ⟨rfl,trivial⟩ rfl rfl rfl)
 ·refine ay rfl hc_2 (av (af (af (aa (ae (vL Rect.enc l_1) wz rfl (cO AA rfl wz (ae (vI 0) wz rfl (aj ?_))))))))
  obtain ⟨o_11,hj_12,hF⟩:=bind_some hF
  obtain ⟨hn_7,hj_12⟩:=bv hj_12
  refine aH (β:=(Unit)) (fun (s_8:Unit)=>([]:List (Nat×V))) (fun (s_8:Unit)=>([]:Hp)) (fun p=>o_11 = .go p) ?_ ?_
  ·refine aC (aV (β:=Nat×(List Rect)×(Unit)) (fun p=>(fun (k_3:Nat) (l_4:List Rect) (s_8:Unit)=>([(9,(vL Rect.enc l_1)),(10,(vI (l_1.length:Int))),(11,(vI (k_3:Int)))]:List (Nat×V))) p.1 p.2.1 p.2.2) (fun p=>(fun (k_3:Nat) (l_4:List Rect) (s_8:Unit)=>([]:Hp)) p.1 p.2.1 p.2.2) (fun p=>forR (fun k x s=>lh k x s) p.2.1 p.1 p.2.2=some o_11∧(l_1).drop p.1=p.2.1) (fun p=>p.2.1.length) (0,l_1,()) ⟨hj_12,rfl⟩ rfl (aJ rfl) ?_)
   rintro ⟨k_3,l_4,s_8⟩ ⟨hL_10,hD_6⟩
   dsimp only at hL_10 hD_6
   cases l_4 with
   | nil =>
    obtain rfl:=ah hL_10
    refine af (aa (ae (vB (decide ((k_3:Int) < (l_1.length:Int)))) wz rfl (aj ?_)))
    refine af (ay rfl (drop_nil hD_6) (aQ ?_))
    exact aR (s_8) rfl rfl (aJ rfl)
   | cons x_5 l_4 =>
    obtain ⟨c_,hc_9,hL_10⟩:=bind_some hL_10
    refine af (aa (ae (vB (decide ((k_3:Int) < (l_1.length:Int)))) wz rfl (aj ?_)))
    refine af (aA rfl (bL hD_6) (av ?_))
    unfold lh at hc_9
    refine af (aC (af (aa (dU F3 rfl rfl (bT hD_6) rfl wz (bN wB GL rfl (.d (.agg (Rect.enc x_5))) rfl wz (dB 0 (.inl rfl) z45 rfl wz (fun n_13=>fH 0 il ft 0 wB rfl rfl [(vI x_5.X),(vI x_5.Y),(vI x_5.W),(vI x_5.H)] rfl wz (aj (af (aa (aD 0 0 il ft wB GL rfl rfl (.d (.agg (Rect.enc x_5))) rfl wz ?_)))))))))))
    obtain ⟨r_14,hr_15,hc_9⟩:=bind_some hc_9
    refine aG (ql hr_15) rfl hb73 rfl rfl rfl rfl wz (ae (vI r_14) wz rfl (aj (af (aa (ae (vI r_14) wz rfl (ae (vB (r_14 != 0)) wz rfl (aj ?_)))))))
    rcases au hc_9 with⟨hc_16,hc_9⟩ | ⟨hc_16,hc_9⟩
    ·refine aA rfl hc_16 (af (aa (ae (vI r_14) wz rfl (ae (vI r_14) wz rfl (aj ?_)))))
     obtain rfl:=ah hc_9
     obtain rfl:=ah hL_10
     obtain rfl:=ah hF
     exact aB (aO (.inr rfl) [(vI r_14)] ⟨rfl,trivial⟩ rfl rfl rfl)
    ·refine ay rfl hc_16 (av (aa (fJ (bO hD_6 hn_7) wz rfl (ae (vI ((k_3 + 1:Nat):Int)) wz rfl (aj ?_)))))
     obtain rfl:=ah hc_9
     exact aP (k_3 + 1,l_4,()) ⟨hL_10,aW hD_6⟩ (Nat.lt_succ_self _) rfl (aJ rfl)
  ·rintro s_8 ho_ sl_ H_ hp_ hq_
   subst ho_
   refine aL _ hp_ hq_ (af (aa (ae (vI 0) wz rfl (aj ?_))))
   obtain rfl:=ah hF
   exact aB (aO (.inr rfl) [(vI 0)] ⟨rfl,trivial⟩ rfl rfl rfl)
theorem mZ {n_1:Int} {r:Bool} (hF:gP n_1=some r) :
  FnM Tryz.prog 193 [.nil,(vI n_1)] [] (kV r (ax 0) 4 ([]:List Rect)) (kO r 4):=by
 refine FnM.of_wH ⟨Tryz.prog,27,[],[]⟩ rfl Tryz.func193 rfl rfl (Nat.le_of_ble_eq_true rfl) (by kernel_rfl) ?_
 unfold gP at hF
 refine af (aa (ae .nil wz rfl (aj (af (af (aa (ae (vI n_1) wz rfl (ae (vB (decide (n_1 < 0))) wz rfl (aj ?_)))))))))
 rcases au hF with⟨hc_2,hF⟩ | ⟨hc_2,hF⟩
 ·refine aA rfl hc_2 (aa ?_)
  cases hF
 ·refine ay rfl hc_2 (av (af (af (aa (ae (vI n_1) wz rfl (ae .nil wz rfl (Mg Je rfl wz (ae .nil wz rfl (IB AA rfl wz (ae (vI (w64 (0 - 0))) wz rfl (ae (vI (w64 (n_1 - (w64 (0 - 0))))) wz rfl (ae (vI (w64 (n_1 - (w64 (0 - 0))))) wz rfl (aj (af (aa (ae (vI (w64 (n_1 - (w64 (0 - 0))))) wz rfl (ae (vB (decide ((w64 (n_1 - (w64 (0 - 0)))) > 0))) wz rfl (aj ?_))))))))))))))))))
  rcases au hF with⟨hc_3,hF⟩ | ⟨hc_3,hF⟩
  ·refine aA rfl hc_3 (aa (ae .nil wz rfl (ae .nil wz rfl (Mg Je rfl wz (ae .nil wz (by kernel_rfl) (ae (vI (w64 (n_1 - (w64 (0 - 0))))) wz rfl ?_))))))
   obtain ⟨_,hz_5,hF⟩:=bind_some hF
   refine h_appz (enc:=Rect.enc) 0 (.inl rfl) Je (by kernel_rfl) wB z45 rfl (by decide) by45 rfl rfl hz_5 wz (fun n_4=>ae .nil wz rfl (IB AA rfl wz (h_cutm (m:=0) AA wB rfl rfl rfl (Nat.zero_le _) wz (ae (.vs n_4 4 0 0) wz rfl (aj (af (aa (ae (.vs n_4 4 0 0) wz rfl (ae (.vs n_4 4 0 0) wz rfl (aj ?_))))))))))
   obtain rfl:=ah hF
   exact aB (finK (.inr rfl) 0 rfl rfl)
  ·refine ay rfl hc_3 (av (af (aa (ae .nil wz rfl (ae .nil wz rfl (aj ?_))))))
   obtain rfl:=ah hF
   exact aB (finK0 (.inr rfl) rfl)
end Go.Proofs.YtjhcehhmdmbleaaGreatDoor.Law

