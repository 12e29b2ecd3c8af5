/-
 The machine computes these plain functions (written by a program of ours).
-/
import Derived.Test.YtdenjndllgahgaaGreatDoorFacts
import Derived.Test.YtdenjndllgahgaaGreatDoorDefs
import Derived.Test.YtdenjndllgahgaaGreatDoorPf3
open Go Go.Eng Go.Proofs
namespace Go.Proofs.YtdenjndllgahgaaGreatDoor.Law
set_option maxRecDepth 100000
set_option linter.unusedVariables false
set_option maxHeartbeats 1000000
theorem nR {b_1:Beat} {p_2:ByteArray} {r:Bool} (hF:iW b_1 p_2=some r) :
  FnM Tryz.prog 177 [(.d (.agg (Beat.enc b_1))),(.ref (au 0) 0 0)] [(.cells 1 [(vS p_2)])] (vB r) [some (.cells 1 [(vS p_2)])]:=by
 refine FnM.of_wH ⟨Tryz.prog,8,[],[]⟩ rfl Tryz.func177 rfl rfl (lb_ rfl) (by kernel_rfl) ?_
 unfold iW at hF
 refine af (aa (kN 0 (.inl rfl) [(vS b_1.Player),(vI b_1.At),(vI b_1.Clock)] rfl rfl wz (λn_3=>ae (vB false) wz rfl (ai (af (aa (aJ gZ rfl 0 rfl wz (aK 0 1 il ft sz9 ag9 rfl rfl (vS b_1.Player) rfl wz (aK 0 0 il ft sz9 ag9 rfl rfl (vS p_2) rfl wz (ae (vB (sNe b_1.Player p_2)) wz rfl (ae (vB (sNe b_1.Player p_2)) wz rfl (ai ?_))))))))))))
 obtain rfl:=ah hF
 exact aB (tV (.inr rfl) [(vB (sNe b_1.Player p_2))] _ [0] [au 0] ⟨rfl,trivial⟩ (.cons (iL rfl rfl) (.nil)) (by kernel_rfl) ⟨(by kernel_rfl),trivial⟩ (by decide) (by kernel_rfl))
theorem iY {s_1:(List Beat)} {f2_3:ByteArray} {r:Int} (hF:dG s_1 f2_3=some r) :
  FnM Tryz.prog 210 [(dV (au 1) 3 s_1),(.fn 177 [(.ref (au 0) 0 0)])] (([(.cells 1 [(vS f2_3)])]:List Box)++gI 3 Beat.enc s_1) (vI r) (([(.cells 1 [(vS f2_3)])]:List Box).map some++gT s_1 (gB 3 Beat.enc s_1)):=by
 refine FnM.of_wHv ⟨Tryz.prog,19,[],[]⟩ rfl Tryz.func210 rfl rfl (lb_ rfl) (by kernel_rfl) ?_
 unfold dG at hF
 refine af (aa (ae (vI 0) wz rfl (ai (af (af (aa (ae (dV (au 1) 3 s_1) wz rfl (zU rG rfl wz (ae (vI 0) wz rfl (ai ?_))))))))))
 obtain ⟨o_12,hj_13,hF⟩:=bind_some hF
 obtain ⟨hn_8,hj_13⟩:=bX hj_13
 refine aG (β:=(Unit)) (λ(s_9:Unit)=>([]:SL_)) (λ(s_9:Unit)=>([((au 0),some (.cells 1 [(vS f2_3)])),((au 1),gB 3 Beat.enc s_1)]:Hp)) (λp=>o_12 = .go p) ?_ ?_
 ·refine ax (bA (β:=Nat×(List Nat)×(Unit)) (λp=>(λ(k_4:Nat) (l_5:List Nat) (s_9:Unit)=>([(0,(dV (au 1) 3 s_1)),(1,(.fn 177 [(.ref (au 0) 0 0)])),(7,(vI (s_1.length:Int))),(8,(vI (k_4:Int)))]:SL_)) p.1 p.2.1 p.2.2) (λp=>(λ(k_4:Nat) (l_5:List Nat) (s_9:Unit)=>([((au 0),some (.cells 1 [(vS f2_3)])),((au 1),gB 3 Beat.enc s_1)]:Hp)) p.1 p.2.1 p.2.2) (λp=>dY (λk x s=>cZ s_1 f2_3 k x s) p.2.1 p.1 p.2.2=some o_12/\((List.range ((s_1.length:Int)).toNat)).drop p.1=p.2.1) (λp=>p.2.1.length) (0,(List.range ((s_1.length:Int)).toNat),()) ⟨hj_13,rfl⟩ rfl (aL rfl) ?_)
  rintro ⟨k_4,l_5,s_9⟩ ⟨hL_11,hD_7⟩
  dsimp only at hL_11 hD_7
  cases l_5 with
  | nil =>
   obtain rfl:=ah hL_11
   refine af (aa (ae (vB (decide ((k_4:Int)<(s_1.length:Int)))) wz rfl (ai ?_)))
   refine af (aA rfl (nW hD_7) (aY ?_))
   exact bz (s_9) rfl rfl (aL rfl)
  | cons x_6 l_5 =>
   obtain ⟨c_,hc_10,hL_11⟩:=bind_some hL_11
   refine af (aa (ae (vB (decide ((k_4:Int)<(s_1.length:Int)))) wz rfl (ai ?_)))
   refine af (ay rfl (mE hD_7) (av ?_))
   unfold cZ at hc_10
   refine af (ax (af (aa (ae (vI (k_4:Int)) wz rfl (ae (vI (k_4:Int)) wz rfl (ai (af (aa (ae (.fn 177 [(.ref (au 0) 0 0)]) wz rfl (ae (dV (au 1) 3 s_1) wz rfl (ae (vI (k_4:Int)) wz rfl ?_)))))))))))
   obtain ⟨_,hi_14,hc_10⟩:=bind_some hc_10
   refine jQ oN rfl rfl (jA hi_14) (gu hi_14) wz ?_
   obtain ⟨e_15,hy_16,hc_10⟩:=bind_some hc_10
   refine jD 0 1 il ft iP oW rfl rfl hy_16 (.d (.agg (Beat.enc e_15))) rfl wz ?_
   obtain ⟨r_17,hr_18,hc_10⟩:=bind_some hc_10
   refine bn 0 [0] il ft (nR hr_18) rfl hb177 rfl (by kernel_rfl) (by kernel_rfl) (by kernel_rfl) (by kernel_rfl) (by kernel_rfl) (by kernel_rfl) (by kernel_rfl) (by decide) (by kernel_rfl) wz (vB r_17) (by kernel_rfl) ([((au 0),some (.cells 1 [(vS f2_3)])),((au 1),gB 3 Beat.enc s_1)]:Hp) (by kernel_rfl) (ai ?_)
   rcases ak hc_10 with⟨hc_20,hc_10⟩|⟨hc_20,hc_10⟩
   ·refine ay rfl hc_20 (af (aa (ae (vI (k_4:Int)) wz rfl (ae (vI (k_4:Int)) wz rfl (ai ?_)))))
    obtain rfl:=ah hc_10
    obtain rfl:=ah hL_11
    obtain rfl:=ah hF
    exact aB (kQ (bs:=([(.cells 1 [(vS f2_3)])]:List Box)) (os:=([(.cells 1 [(vS f2_3)])]:List Box)) (xs:=s_1) (o:=gB 3 Beat.enc s_1) (.inr rfl) [(vI (k_4:Int))] ⟨rfl,trivial⟩ rfl rfl rfl rfl rfl (by kernel_rfl) kE rfl)
   ·refine aA rfl hc_20 (av (aa (gW (nM hD_7 hn_8) wz rfl (ae (vI ((k_4+1:Nat):Int)) wz rfl (ai ?_)))))
    obtain rfl:=ah hc_10
    exact bf (k_4+1,l_5,()) ⟨hL_11,aU hD_7⟩ (ls_ _) rfl (aL rfl)
 ·rintro s_9 ho_ sl_ H_ hp_ hq_
  subst ho_
  refine aQ _ hp_ hq_ (af (aa (ae (vI (-1)) wz rfl (ai ?_))))
  obtain rfl:=ah hF
  exact aB (kQ (bs:=([(.cells 1 [(vS f2_3)])]:List Box)) (os:=([(.cells 1 [(vS f2_3)])]:List Box)) (xs:=s_1) (o:=gB 3 Beat.enc s_1) (.inr rfl) [(vI (-1))] ⟨rfl,trivial⟩ rfl rfl rfl rfl rfl (by kernel_rfl) kE rfl)
theorem iQ {s_1:(List Beat)} {del2_3:ByteArray} {r:(List Beat)} (hF:bE s_1 del2_3=some r) :
  FnM Tryz.prog 175 [(dV (au 1) 3 s_1),(.fn 177 [(.ref (au 0) 0 0)])] (([(.cells 1 [(vS del2_3)])]:List Box)++gI 3 Beat.enc s_1) (vL Beat.enc r) (([(.cells 1 [(vS del2_3)])]:List Box).map some++gT s_1 none):=by
 refine FnM.of_wHv ⟨Tryz.prog,42,[],[]⟩ rfl Tryz.func175 rfl rfl (lb_ rfl) (by kernel_rfl) ?_
 unfold bE at hF
 refine af (aa (ae .nil wz rfl (ai (af (aa (ae (dV (au 1) 3 s_1) wz rfl (ae (.fn 177 [(.ref (au 0) 0 0)]) wz rfl ?_)))))))
 obtain ⟨r_4,hr_5,hF⟩:=bind_some hF
 refine jM 0 [0] 1 0 il ft (iY hr_5) rfl hb210 rfl rfl rfl (by kernel_rfl) rfl (.inr (.inl rfl)) rfl (by kernel_rfl) (by kernel_rfl) (by kernel_rfl) (by kernel_rfl) rfl (by decide) (by kernel_rfl) kE (pQ rfl) wz ([((au 0),some (.cells 1 [(vS del2_3)])),((au 1),gB 3 Beat.enc s_1)]:Hp) (by kernel_rfl) (ae (vI r_4) wz rfl (ai (af (af (aa (ae (vI r_4) wz rfl (ae (vB (r_4==(-1))) wz rfl (ai ?_))))))))
 rcases ak hF with⟨hc_6,hF⟩|⟨hc_6,hF⟩
 ·refine ay rfl hc_6 (af (aa (ae (dV (au 1) 3 s_1) wz rfl (ae (dV (au 1) 3 s_1) wz rfl (ai (iR 1 rfl (zZ 0 1 rfl rfl (zZ 4 1 rfl rfl (zZ 8 1 rfl rfl (zZ 13 1 rfl rfl (DF (i:=1) rfl ?_)))))))))))
  obtain rfl:=ah hF
  exact aB (kQ (bs:=([(.cells 1 [(vS del2_3)])]:List Box)) (os:=([(.cells 1 [(vS del2_3)])]:List Box)) (xs:=s_1) (o:=none) (.inr rfl) [(vL Beat.enc s_1)] ⟨rfl,trivial⟩ rfl rfl rfl rfl rfl (by kernel_rfl) z8 rfl)
 ·refine aA rfl hc_6 (av (af (af (aa (ae (vI r_4) wz rfl (ae (vI (w64 (r_4+1))) wz rfl (ae (vI (w64 (r_4+1))) wz rfl (ai ?_))))))))
  obtain ⟨o_15,hj_16,hF⟩:=bind_some hF
  obtain ⟨nq_34,hj_16⟩:=dM hj_16
  refine aG (β:=((List Beat)×Int×Int)) (λ(s_12:(List Beat)×Int×Int)=>([(0,(dV (au 1) 3 s_12.1)),(5,(vI s_12.2.1))]:SL_)) (λ(s_12:(List Beat)×Int×Int)=>([((au 0),some (.cells 1 [(vS del2_3)])),((au 1),gB 3 Beat.enc s_12.1)]:Hp)) (λp=>o_15 = .go p) ?_ ?_
  ·refine ax (bA (β:=Nat×((List Beat)×Int×Int)) (λp=>(λ(k_7:Nat) (s_12:(List Beat)×Int×Int)=>([(0,(dV (au 1) 3 s_12.1)),(1,(.fn 177 [(.ref (au 0) 0 0)])),(5,(vI s_12.2.1)),(6,(vI s_12.2.2))]:SL_)) p.1 p.2) (λp=>(λ(k_7:Nat) (s_12:(List Beat)×Int×Int)=>([((au 0),some (.cells 1 [(vS del2_3)])),((au 1),gB 3 Beat.enc s_12.1)]:Hp)) p.1 p.2) (λp=>bL (λs=>cz del2_3 s) p.1 p.2=some o_15) (λp=>p.1) (nq_34,(s_1,r_4,(w64 (r_4+1)))) hj_16 rfl (aL rfl) ?_)
   rintro ⟨k_7,s_12⟩ hL_14
   dsimp only at hL_14
   cases k_7 with
   | zero=>cases hL_14
   | succ k_7 =>
    obtain ⟨c_,hc_13,hL_14⟩:=bind_some hL_14
    unfold cz at hc_13
    refine af (af (aa (ae (vI s_12.2.2) wz rfl (ae (dV (au 1) 3 s_12.1) wz rfl (zU rG rfl wz (ae (vB (decide (s_12.2.2<(s_12.1.length:Int)))) wz rfl (ai ?_)))))))
    rcases ak hc_13 with⟨hc_17,hc_13⟩|⟨hc_17,hc_13⟩
    ·refine ay rfl hc_17 (av (af (ax (af (aa (ae (dV (au 1) 3 s_12.1) wz rfl (ae (vI s_12.2.2) wz rfl ?_)))))))
     obtain ⟨_,hi_18,hc_13⟩:=bind_some hc_13
     refine jQ oN rfl rfl (jA hi_18) (gu hi_18) wz ?_
     obtain ⟨e_19,hy_20,hc_13⟩:=bind_some hc_13
     refine jD 0 1 il ft iP oW rfl rfl hy_20 (.d (.agg (Beat.enc e_19))) rfl wz (gM 0 (.inl rfl) yc rfl wz (λn_21=>jE 0 il ft 2 iP rfl rfl [(vS e_19.Player),(vI e_19.At),(vI e_19.Clock)] rfl wz (ai (af (aa (ae (.fn 177 [(.ref (au 0) 0 0)]) wz rfl (aK 0 2 il ft iP oW rfl rfl (.d (.agg (Beat.enc e_19))) rfl wz ?_)))))))
     obtain ⟨r_22,hr_23,hc_13⟩:=bind_some hc_13
     refine bn 0 [0] il ft (nR hr_23) rfl hb177 rfl (by kernel_rfl) (by kernel_rfl) (by kernel_rfl) (by kernel_rfl) (by kernel_rfl) (by kernel_rfl) (by kernel_rfl) (by decide) (by kernel_rfl) wz (vB r_22) (by kernel_rfl) ([((au 0),some (.cells 1 [(vS del2_3)])),((au 1),gB 3 Beat.enc s_12.1),(n_21,some (.cells 3 [(vS e_19.Player),(vI e_19.At),(vI e_19.Clock)]))]:Hp) (by kernel_rfl) (ae (vB (!r_22)) wz rfl (ai ?_))
     obtain ⟨v_25,h_26,hc_13⟩:=bind_some hc_13
     refine aG (β:=Unit) (λ_=>([(0,(dV (au 1) 3 v_25.1)),(1,(.fn 177 [(.ref (au 0) 0 0)])),(5,(vI v_25.2)),(6,(vI s_12.2.2))]:SL_)) (λ_=>([((au 0),some (.cells 1 [(vS del2_3)])),((au 1),gB 3 Beat.enc v_25.1),(n_21,some (.cells 3 [(vS e_19.Player),(vI e_19.At),(vI e_19.Clock)]))]:Hp)) (λ_=>True) ?_ ?_
     ·rcases ak h_26 with⟨hc_27,h_26⟩|⟨hc_27,h_26⟩
      ·refine ay rfl hc_27 (af (aa (ae (dV (au 1) 3 s_12.1) wz rfl (ae (vI s_12.2.1) wz rfl (aK 0 2 il ft iP oW rfl rfl (.d (.agg (Beat.enc e_19))) rfl wz ?_)))))
       obtain ⟨_,hi_28,h_26⟩:=bind_some h_26
       refine jQ oN rfl rfl (jA hi_28) (gu hi_28) wz ?_
       obtain ⟨e_29,hy_30,h_26⟩:=bind_some h_26
       refine je 0 il ft 1 iP rfl rfl hy_30 e_19 rfl wz (bM (v':=(dV (au 1) 3 (s_12.1.set (0+(s_12.2.1).toNat) e_19))) 0 rfl (bZ (by simp)) (bM (v':=(dV (au 1) 3 (s_12.1.set (0+(s_12.2.1).toNat) e_19))) 17 rfl (bZ (by simp)) (bM (v':=(dV (au 1) 3 (s_12.1.set (0+(s_12.2.1).toNat) e_19))) 22 rfl (bZ (by simp)) (bM (v':=(dV (au 1) 3 (s_12.1.set (0+(s_12.2.1).toNat) e_19))) 30 rfl (bZ (by simp)) (ai (aa (ae (vI s_12.2.1) wz rfl (ae (vI (w64 (s_12.2.1+1))) wz rfl (ae (vI (w64 (s_12.2.1+1))) wz rfl (ai ?_))))))))))
       obtain rfl:=ah h_26
       exact cu
      ·refine aA rfl hc_27 (av ?_)
       obtain rfl:=ah h_26
       exact cu
     ·rintro ⟨⟩ _ sl_ H_ hp_ hq_
      refine aQ _ hp_ hq_ (aa (ae (vI s_12.2.2) wz rfl (ae (vI (w64 (s_12.2.2+1))) wz rfl (ae (vI (w64 (s_12.2.2+1))) wz rfl (ai ?_)))))
      obtain rfl:=ah hc_13
      exact bf (k_7,(v_25.1,v_25.2,(w64 (s_12.2.2+1)))) hL_14 (ls_ _) rfl (aL rfl)
    ·refine aA rfl hc_17 (aY ?_)
     obtain rfl:=ah hc_13
     obtain rfl:=ah hL_14
     exact bz ((s_12.1,s_12.2.1,s_12.2.2)) rfl rfl (aL rfl)
  ·rintro s_12 ho_ sl_ H_ hp_ hq_
   subst ho_
   refine aQ _ hp_ hq_ (af (aa (ae (dV (au 1) 3 s_12.1) wz rfl (ae (vI s_12.2.1) wz rfl ?_))))
   obtain ⟨_,hn_31,hF⟩:=bind_some hF
   replace hn_31:=neL_ne hn_31
   refine bM (v':=(vV (au 1) 3 s_12.1)) 0 rfl (D7 hn_31) (bM (v':=(vV (au 1) 3 s_12.1)) 36 rfl (D7 hn_31) (h_reH 1 rfl (gB_cons hn_31) ?_))
   obtain ⟨_,hr_32,hF⟩:=bind_some hF
   refine GH rG iP rfl rfl hr_32 wz (h_clear (i:=1) 0 il ft (⟨(⟨#[]⟩:ByteArray),0,0⟩:Beat) Gi iP yc rfl rfl rfl (by decide) rfl (sS hr_32) rfl wz (bM (v':=(vV (au 1) 3 (s_12.1.take ((s_12.2.1).toNat)++List.replicate (((s_12.1.length:Int)).toNat-(s_12.2.1).toNat) (⟨(⟨#[]⟩:ByteArray),0,0⟩:Beat)++s_12.1.drop (((s_12.2.1).toNat)+(((s_12.1.length:Int)).toNat-(s_12.2.1).toNat))))) 0 rfl (Fe (yU (sS hr_32))) (bM (v':=(vV (au 1) 3 (s_12.1.take ((s_12.2.1).toNat)++List.replicate (((s_12.1.length:Int)).toNat-(s_12.2.1).toNat) (⟨(⟨#[]⟩:ByteArray),0,0⟩:Beat)++s_12.1.drop (((s_12.2.1).toNat)+(((s_12.1.length:Int)).toNat-(s_12.2.1).toNat))))) 36 rfl (Fe (yU (sS hr_32))) (ai (af (aa (ae (vV (au 1) 3 (s_12.1.take ((s_12.2.1).toNat)++List.replicate (((s_12.1.length:Int)).toNat-(s_12.2.1).toNat) (⟨(⟨#[]⟩:ByteArray),0,0⟩:Beat)++s_12.1.drop (((s_12.2.1).toNat)+(((s_12.1.length:Int)).toNat-(s_12.2.1).toNat)))) wz rfl (ae (vI s_12.2.1) wz rfl ?_))))))))
   obtain ⟨_,hr_33,hF⟩:=bind_some hF
   refine Fu rG iP rfl rfl hr_33 wz (ae (.vs (au 1) 3 0 ((s_12.2.1).toNat)) wz rfl (ai (DW 1 rfl (Ap 0 1 rfl rfl (Gm 4 1 rfl rfl (sS hr_33) (Ap 36 1 rfl rfl (Ap 39 1 rfl rfl (Gm 41 1 rfl rfl (sS hr_33) (DF (i:=1) rfl ?_)))))))))
   obtain rfl:=ah hF
   exact aB (kQ (bs:=([(.cells 1 [(vS del2_3)])]:List Box)) (os:=([(.cells 1 [(vS del2_3)])]:List Box)) (xs:=s_1) (o:=none) (.inr rfl) [(vL Beat.enc (cutL (s_12.1.take ((s_12.2.1).toNat)++List.replicate (((s_12.1.length:Int)).toNat-(s_12.2.1).toNat) (⟨(⟨#[]⟩:ByteArray),0,0⟩:Beat)++s_12.1.drop (((s_12.2.1).toNat)+(((s_12.1.length:Int)).toNat-(s_12.2.1).toNat))) 0 ((s_12.2.1).toNat)))] ⟨rfl,trivial⟩ rfl rfl rfl rfl rfl (by kernel_rfl) z8 rfl)
theorem jO {s_1:(List Beat)} {r:(List Beat)} (hF:bP s_1=some r) :
  FnM Tryz.prog 176 [(vL Beat.enc s_1)] [] (gV (au 0) 3 r) (([]:List Box).map some++gO 3 Beat.enc r):=by
 refine FnM.of_wH ⟨Tryz.prog,8,[],[]⟩ rfl Tryz.func176 rfl rfl (lb_ rfl) (by kernel_rfl) ?_
 unfold bP at hF
 refine af (aa (ae .nil wz rfl (ai (af (af (aa (ae (vL Beat.enc s_1) wz rfl (h_nileq rG rfl wz (λb_2 hb_3=>ai ?_)))))))))
 cases b_2 with
 | true =>
  refine ay rfl rfl ?_
  obtain rfl:=hb_3 rfl
  replace hF:=Ep hF
  refine af (aa (ae .nil wz rfl (ai (lJ (λn_4 => ?_)))))
  obtain rfl:=ah hF
  exact aB (Fa (outs:=([]:List Box)) (.inr rfl) 0 rfl rfl rfl (by kernel_rfl) (by kernel_rfl))
 | false =>
  refine aA rfl rfl (av (af (aa (h_lit0 oN ez74 rfl wz (ae (vL Beat.enc s_1) wz rfl ?_)))))
  obtain ⟨a_5,hz_6,hF⟩:=bind_some hF
  refine h_appn 0 (.inl rfl) Gi Gi iP yc rfl (by decide) by101 (by decide) (λ_=>rfl) rfl rfl hz_6 wz (λn_7=>ae (gV n_7 3 a_5) wz rfl (ai ?_))
  obtain rfl:=ah hF
  exact aB (Fa (outs:=([]:List Box)) (.inr rfl) 0 rfl rfl rfl (by kernel_rfl) (by kernel_rfl))
theorem xe {l_1:(List Beat)} {player_2:ByteArray} {r:(List Beat)} (hF:jU l_1 player_2=some r) :
  FnM Tryz.prog 137 [(vL Beat.enc l_1),(vS player_2)] [] (vL Beat.enc r) []:=by
 refine FnM.of_wH ⟨Tryz.prog,9,[],[]⟩ rfl Tryz.func137 rfl rfl (lb_ rfl) (by kernel_rfl) ?_
 unfold jU at hF
 refine af (aa (kN 0 (.inl rfl) [(vS player_2)] rfl rfl wz (λn_3=>ae .nil wz rfl (ai (af (aa (ae (vL Beat.enc l_1) wz rfl ?_)))))))
 obtain ⟨r_4,hr_5,hF⟩:=bind_some hF
 refine vP [] (jO hr_5) rfl hb176 rfl (by kernel_rfl) (by kernel_rfl) (by kernel_rfl) (by kernel_rfl) (by kernel_rfl) rfl (by decide) (by kernel_rfl) wz ([(n_3,some (.cells 1 [(vS player_2)]))]:Hp) (λ_=>by kernel_rfl) (λn_7=>ae (.fn 177 [(.ref n_3 0 0)]) wz rfl ?_)
 obtain ⟨r_8,hr_9,hF⟩:=bind_some hF
 refine jM 0 [0] 1 0 il ft (iQ hr_9) rfl hb175 rfl rfl rfl (by kernel_rfl) rfl (.inl rfl) rfl (by kernel_rfl) (by kernel_rfl) (by kernel_rfl) (by kernel_rfl) rfl (by decide) (by kernel_rfl) z8 (λ_=>rfl) wz ([(n_3,some (.cells 1 [(vS player_2)])),(n_7,none)]:Hp) (by kernel_rfl) (ae (vL Beat.enc r_8) wz rfl (ai ?_))
 obtain rfl:=ah hF
 exact aB (bu (.inr rfl) [(vL Beat.enc r_8)] ⟨rfl,trivial⟩ rfl rfl rfl)
theorem wX {all_1:(List Beat)} {player_2:ByteArray} {clock_3:Int} {r:Int×Int} (hF:jX all_1 player_2 clock_3=some r) :
  FnM Tryz.prog 104 [(vL Beat.enc all_1),(vS player_2),(vI clock_3)] [] (.tup [(vI r.1),(vI r.2)]) []:=by
 refine FnM.of_wH ⟨Tryz.prog,106,[],[]⟩ rfl Tryz.func104 rfl rfl (lb_ rfl) (by kernel_rfl) ?_
 unfold jX at hF
 refine af (aa (ae (vI 0) wz rfl (ae (vI 0) wz rfl (ai (af (aa (ae (vL Beat.enc all_1) wz rfl (ae (vS player_2) wz rfl ?_))))))))
 obtain ⟨r_4,hr_5,hF⟩:=bind_some hF
 refine aH (xe hr_5) rfl hb137 rfl rfl rfl rfl wz (ae (vL Beat.enc r_4) wz rfl (ai (af (af (aa (ae (vL Beat.enc r_4) wz rfl (eY rG rfl wz (ae (vB ((r_4.length:Int)==0)) wz rfl (ai ?_)))))))))
 rcases ak hF with⟨hc_6,hF⟩|⟨hc_6,hF⟩
 ·refine ay rfl hc_6 (af (aa (ae (vI 0) wz rfl (ae (vI 8) wz rfl (ai ?_)))))
  obtain rfl:=ah hF
  exact aB (bu (.inr rfl) [(vI 0),(vI 8)] ⟨rfl,⟨rfl,trivial⟩⟩ rfl rfl rfl)
 ·refine aA rfl hc_6 (av (af (bK (ae (vL Beat.enc r_4) wz rfl ?_))))
  obtain ⟨y_7,hy_8,hF⟩:=bind_some hF
  refine fH oN rfl rfl hy_8 rfl wz (kg gY rfl [.int .i64 y_7.At,.int .i64 y_7.Clock] rfl rfl wz (cO sz3 ag3 rfl (vI y_7.At) rfl wz (ae (vI clock_3) wz rfl (ae (vI (w64 (y_7.At+clock_3))) wz rfl (ae (vL Beat.enc r_4) wz rfl ?_)))))
  obtain ⟨y_9,hy_10,hF⟩:=bind_some hF
  refine fH oN rfl rfl hy_10 rfl wz (kg gm rfl [.int .i64 y_9.Clock] rfl rfl wz (cO sz3 ag3 rfl (vI y_9.Clock) rfl wz (ae (vI (w64 ((w64 (y_7.At+clock_3))-y_9.Clock))) wz rfl (ae (vI (w64 ((w64 (y_7.At+clock_3))-y_9.Clock))) wz rfl (ai (af (af (aa (ae (vL Beat.enc r_4) wz rfl (eY rG rfl wz (ae (vI 0) wz rfl (ai ?_))))))))))))
  obtain ⟨o_19,hj_20,hF⟩:=bind_some hF
  obtain ⟨hn_15,hj_20⟩:=bX hj_20
  refine aG (β:=(Int)) (λ(s_16:Int)=>([(9,(vI s_16))]:SL_)) (λ(s_16:Int)=>([]:Hp)) (λp=>o_19 = .go p) ?_ ?_
  ·refine ax (bA (β:=Nat×(List Beat)×(Int)) (λp=>(λ(k_11:Nat) (l_12:List Beat) (s_16:Int)=>([(2,(vI clock_3)),(8,(vL Beat.enc r_4)),(9,(vI s_16)),(30,(vL Beat.enc r_4)),(31,(vI (r_4.length:Int))),(32,(vI (k_11:Int)))]:SL_)) p.1 p.2.1 p.2.2) (λp=>(λ(k_11:Nat) (l_12:List Beat) (s_16:Int)=>([]:Hp)) p.1 p.2.1 p.2.2) (λp=>dY (λk x s=>bR clock_3 r_4 k x s) p.2.1 p.1 p.2.2=some o_19/\(r_4).drop p.1=p.2.1) (λp=>p.2.1.length) (0,r_4,(w64 ((w64 (y_7.At+clock_3))-y_9.Clock))) ⟨hj_20,rfl⟩ rfl (aL rfl) ?_)
   rintro ⟨k_11,l_12,s_16⟩ ⟨hL_18,hD_14⟩
   dsimp only at hL_18 hD_14
   cases l_12 with
   | nil =>
    obtain rfl:=ah hL_18
    refine af (aa (ae (vB (decide ((k_11:Int)<(r_4.length:Int)))) wz rfl (ai ?_)))
    refine af (aA rfl (drop_nil hD_14) (aY ?_))
    exact bz (s_16) rfl rfl (aL rfl)
   | cons x_13 l_12 =>
    obtain ⟨c_,hc_17,hL_18⟩:=bind_some hL_18
    refine af (aa (ae (vB (decide ((k_11:Int)<(r_4.length:Int)))) wz rfl (ai ?_)))
    refine af (ay rfl (ek hD_14) (av ?_))
    unfold bR at hc_17
    refine af (ax (af (aa (ae (vI (k_11:Int)) wz rfl (fH oN rfl rfl (eU hD_14) rfl wz (cO iP oW rfl (.d (.agg (Beat.enc x_13))) rfl wz (gM 0 (.inl rfl) yc rfl wz (λn_21=>ae (vI (k_11:Int)) wz rfl (jE 0 il ft 0 iP rfl rfl [(vS x_13.Player),(vI x_13.At),(vI x_13.Clock)] rfl wz (ai (af (af (aa (aJ gm rfl 2 rfl wz (aK 0 0 il ft sz3 ag3 rfl rfl (vI x_13.Clock) rfl wz (ae (vI clock_3) wz rfl (ae (vB (decide (x_13.Clock>clock_3))) wz rfl (ai ?_))))))))))))))))))
    rcases ak hc_17 with⟨hc_22,hc_17⟩|⟨hc_22,hc_17⟩
    ·refine ay rfl hc_22 (aY ?_)
     obtain rfl:=ah hc_17
     obtain rfl:=ah hL_18
     exact bz (s_16) rfl rfl (aL rfl)
    ·refine aA rfl hc_22 (av (af (aa (aJ gY rfl 1 rfl wz (aK 0 0 il ft sz3 ag3 rfl rfl (vI x_13.At) rfl wz (ae (vI clock_3) wz rfl (ae (vI (w64 (x_13.At+clock_3))) wz rfl (aJ gm rfl 2 rfl wz (aK 0 0 il ft sz3 ag3 rfl rfl (vI x_13.Clock) rfl wz (ae (vI (w64 ((w64 (x_13.At+clock_3))-x_13.Clock))) wz rfl (ae (vI (w64 ((w64 (x_13.At+clock_3))-x_13.Clock))) wz rfl (ai (af (af ?_))))))))))))))
     obtain ⟨v_23,h_24,hc_17⟩:=bind_some hc_17
     refine aG (β:=Unit) (λ_=>([(2,(vI clock_3)),(8,(vL Beat.enc r_4)),(9,(vI (w64 ((w64 (x_13.At+clock_3))-x_13.Clock)))),(10,(vI (k_11:Int))),(11,(.ref n_21 0 0)),(30,(vL Beat.enc r_4)),(31,(vI (r_4.length:Int))),(32,(vI (k_11:Int))),(62,(vB v_23))]:SL_)) (λ_=>([(n_21,some (.cells 3 [(vS x_13.Player),(vI x_13.At),(vI x_13.Clock)]))]:Hp)) (λ_=>True) ?_ ?_
     ·refine aa (ae (vI (k_11:Int)) wz rfl (ae (vI (w64 ((k_11:Int)+1))) wz rfl (ae (vL Beat.enc r_4) wz rfl (eY rG rfl wz (ae (vB ((w64 ((k_11:Int)+1))==(r_4.length:Int))) wz rfl ?_)))))
      rcases ak h_24 with⟨hc_25,h_24⟩|⟨hc_25,h_24⟩
      ·refine aC rfl hc_25 wz (aj wa (aj wa (aj wa (aj wa (aj wa (aj wa (aj wa (aj wa (ae (vB true) wz rfl (ai ?_))))))))))
       obtain rfl:=ah h_24
       exact cu
      ·refine aC rfl hc_25 wz (ae (vL Beat.enc r_4) wa rfl (ae (vI (k_11:Int)) wa rfl (ae (vI (w64 ((k_11:Int)+1))) wa rfl ?_)))
       obtain ⟨y_26,hy_27,h_24⟩:=bind_some h_24
       refine fH oN rfl rfl hy_27 rfl wa (kg gm rfl [.int .i64 y_26.Clock] rfl rfl wa (cO sz3 ag3 rfl (vI y_26.Clock) rfl wa (ae (vI clock_3) wa rfl (ae (vB (decide (y_26.Clock<=clock_3))) wa rfl (ae (vB (decide (y_26.Clock<=clock_3))) wz rfl (ai ?_))))))
       obtain rfl:=ah h_24
       exact cu
     ·rintro ⟨⟩ _ sl_ H_ hp_ hq_
      refine aQ _ hp_ hq_ ?_
      rcases ak hc_17 with⟨hc_28,hc_17⟩|⟨hc_28,hc_17⟩
      ·refine ay rfl hc_28 (aY (aa (gW (dh hD_14 hn_15) wz rfl (ae (vI ((k_11+1:Nat):Int)) wz rfl (ai ?_)))))
       obtain rfl:=ah hc_17
       exact bf (k_11+1,l_12,(w64 ((w64 (x_13.At+clock_3))-x_13.Clock))) ⟨hL_18,aU hD_14⟩ (ls_ _) rfl (aL rfl)
      ·refine aA rfl hc_28 (av (af (aa (ae (vL Beat.enc r_4) wz rfl (ae (vI (k_11:Int)) wz rfl (ae (vI (w64 ((k_11:Int)+1))) wz rfl ?_))))))
       obtain ⟨y_29,hy_30,hc_17⟩:=bind_some hc_17
       refine fH oN rfl rfl hy_30 rfl wz (cO iP oW rfl (.d (.agg (Beat.enc y_29))) rfl wz (gM 0 (.inl rfl) yc rfl wz (λn_31=>jE 0 il ft 1 iP rfl rfl [(vS y_29.Player),(vI y_29.At),(vI y_29.Clock)] rfl wz (ai (af (af ?_))))))
       obtain ⟨v_32,h_33,hc_17⟩:=bind_some hc_17
       refine aG (β:=Unit) (λ_=>([(2,(vI clock_3)),(8,(vL Beat.enc r_4)),(11,(.ref n_21 0 0)),(12,(.ref n_31 0 0)),(30,(vL Beat.enc r_4)),(31,(vI (r_4.length:Int))),(32,(vI (k_11:Int))),(81,(vB v_32))]:SL_)) (λ_=>([(n_21,some (.cells 3 [(vS x_13.Player),(vI x_13.At),(vI x_13.Clock)])),(n_31,some (.cells 3 [(vS y_29.Player),(vI y_29.At),(vI y_29.Clock)]))]:Hp)) (λ_=>True) ?_ ?_
       ·refine aa (aJ gY rfl 1 rfl wz (aK 0 1 il ft sz3 ag3 rfl rfl (vI y_29.At) rfl wz (aJ gY rfl 1 rfl wz (aK 0 0 il ft sz3 ag3 rfl rfl (vI x_13.At) rfl wz (ae (vI (w64 (y_29.At-x_13.At))) wz rfl (ae (vB (decide ((w64 (y_29.At-x_13.At))>2592000000))) wz rfl ?_))))))
        rcases ak h_33 with⟨hc_34,h_33⟩|⟨hc_34,h_33⟩
        ·refine aC rfl hc_34 wz (aj wa (aj wa (aj wa (aj wa (aj wa (aj wa (ae (vB true) wz rfl (ai ?_))))))))
         obtain rfl:=ah h_33
         exact cu
        ·refine aC rfl hc_34 wz (aJ gm rfl 2 rfl wa (aK 0 1 il ft sz3 ag3 rfl rfl (vI y_29.Clock) rfl wa (aJ gm rfl 2 rfl wa (aK 0 0 il ft sz3 ag3 rfl rfl (vI x_13.Clock) rfl wa (ae (vI (w64 (y_29.Clock-x_13.Clock))) wa rfl (ae (vB (decide ((w64 (y_29.Clock-x_13.Clock))>2592000000))) wa rfl (ae (vB (decide ((w64 (y_29.Clock-x_13.Clock))>2592000000))) wz rfl (ai ?_))))))))
         obtain rfl:=ah h_33
         exact cu
       ·rintro ⟨⟩ _ sl_ H_ hp_ hq_
        refine aQ _ hp_ hq_ ?_
        rcases ak hc_17 with⟨hc_35,hc_17⟩|⟨hc_35,hc_17⟩
        ·refine ay rfl hc_35 (af (aa (ae (vI 0) wz rfl (ae (vI 2) wz rfl (ai ?_)))))
         obtain rfl:=ah hc_17
         obtain rfl:=ah hL_18
         obtain rfl:=ah hF
         exact aB (bu (.inr rfl) [(vI 0),(vI 2)] ⟨rfl,⟨rfl,trivial⟩⟩ rfl rfl rfl)
        ·refine aA rfl hc_35 (av (bK (aJ gY rfl 1 rfl wz (aK 1 0 (.inr (by kernel_rfl)) (λ_ _ ag=>trivial) sz3 ag3 rfl rfl (vI x_13.At) rfl wz (ae (vI clock_3) wz rfl (aJ gm rfl 2 rfl wz (aK 4 0 (.inr (by kernel_rfl)) (λ_ _ ag=>⟨.inl ⟨rfl,rfl⟩,trivial⟩) sz3 ag3 rfl rfl (vI x_13.Clock) rfl wz (ae (vI (w64 (clock_3-x_13.Clock))) wz rfl (aJ gY rfl 1 rfl wz (aK 7 1 (.inr (by kernel_rfl)) (λ_ _ ag=>⟨.inl ⟨rfl,rfl⟩,⟨.inl ⟨rfl,rfl⟩,trivial⟩⟩) sz3 ag3 rfl rfl (vI y_29.At) rfl wz (aJ gY rfl 1 rfl wz (aK 9 0 (.inr (by kernel_rfl)) (λ_ _ ag=>⟨.inl ⟨rfl,rfl⟩,⟨.inl ⟨rfl,rfl⟩,⟨.inl ⟨rfl,rfl⟩,trivial⟩⟩⟩) sz3 ag3 rfl rfl (vI x_13.At) rfl wz (ae (vI (w64 (y_29.At-x_13.At))) wz rfl (ae (vI (w64 ((w64 (clock_3-x_13.Clock))*(w64 (y_29.At-x_13.At))))) wz rfl (aJ gm rfl 2 rfl wz (aK 13 1 (.inr (by kernel_rfl)) (λ_ _ ag=>⟨.inl ⟨rfl,rfl⟩,⟨.inl ⟨rfl,rfl⟩,⟨.inl ⟨rfl,rfl⟩,⟨.inl ⟨rfl,rfl⟩,trivial⟩⟩⟩⟩) sz3 ag3 rfl rfl (vI y_29.Clock) rfl wz (aJ gm rfl 2 rfl wz (aK 15 0 (.inr (by kernel_rfl)) (λ_ _ ag=>⟨.inl ⟨rfl,rfl⟩,⟨.inl ⟨rfl,rfl⟩,⟨.inl ⟨rfl,rfl⟩,⟨.inl ⟨rfl,rfl⟩,⟨.inl ⟨rfl,rfl⟩,trivial⟩⟩⟩⟩⟩) sz3 ag3 rfl rfl (vI x_13.Clock) rfl wz (ae (vI (w64 (y_29.Clock-x_13.Clock))) wz rfl ?_)))))))))))))))))))
         obtain ⟨q_36,hz_37,hc_17⟩:=bind_some hc_17
         refine Gg rfl rfl hz_37 wz (ae (vI (w64 (x_13.At+q_36))) wz rfl (ae (vI (w64 (x_13.At+q_36))) wz rfl (ai (aa (gW (dh hD_14 hn_15) wz rfl (ae (vI ((k_11+1:Nat):Int)) wz rfl (ai ?_)))))))
         obtain rfl:=ah hc_17
         exact bf (k_11+1,l_12,(w64 (x_13.At+q_36))) ⟨hL_18,aU hD_14⟩ (ls_ _) rfl (aL rfl)
  ·rintro s_16 ho_ sl_ H_ hp_ hq_
   subst ho_
   refine aQ _ hp_ hq_ (af (af (aa (ae (vI s_16) wz rfl ?_))))
   obtain ⟨r_38,hr_39,hF⟩:=bind_some hF
   refine aH (jF hr_39) rfl Gy rfl rfl rfl rfl wz (ae (vB (!r_38)) wz rfl (ai ?_))
   rcases ak hF with⟨hc_40,hF⟩|⟨hc_40,hF⟩
   ·refine ay rfl hc_40 (af (aa (ae (vI 0) wz rfl (ae (vI 11) wz rfl (ai ?_)))))
    obtain rfl:=ah hF
    exact aB (bu (.inr rfl) [(vI 0),(vI 11)] ⟨rfl,⟨rfl,trivial⟩⟩ rfl rfl rfl)
   ·refine aA rfl hc_40 (av (af (aa (ae (vI s_16) wz rfl (ae (vI s_16) wz rfl (ae (vI 0) wz rfl (ai ?_)))))))
    obtain rfl:=ah hF
    exact aB (bu (.inr rfl) [(vI s_16),(vI 0)] ⟨rfl,⟨rfl,trivial⟩⟩ rfl rfl rfl)
theorem tF {a_1:Dated} {b_2:Dated} {p_3:(List Log_)} {r:Int} (hF:iX a_1 b_2 p_3=some r) :
  FnM Tryz.prog 106 [(.d (.agg (Dated.enc a_1))),(.d (.agg (Dated.enc b_2))),(.ref (au 0) 0 0)] [(.cells 1 [(vL Log_.enc p_3)])] (vI r) [some (.cells 1 [(vL Log_.enc p_3)])]:=by
 refine FnM.of_wH ⟨Tryz.prog,29,[],[]⟩ rfl Tryz.func106 rfl rfl (lb_ rfl) (by kernel_rfl) ?_
 unfold iX at hF
 refine af (aa (kN 0 (.inl rfl) [(vI a_1.f_at),(vI a_1.f_i)] rfl rfl wz (λn_4=>kN 0 (.inl rfl) [(vI b_2.f_at),(vI b_2.f_i)] rfl rfl wz (λn_5=>ae (vI 0) wz rfl (ai (af (af (bK (aK 0 0 (.inr (by kernel_rfl)) (λ_ _ ag=>trivial) EM EJ rfl rfl (vL Log_.enc p_3) rfl wz (aJ qx rfl 1 rfl wz (aK 2 1 (.inr (by kernel_rfl)) (λ_ _ ag=>⟨.inl ⟨rfl,rfl⟩,trivial⟩) sz3 ag3 rfl rfl (vI a_1.f_i) rfl wz ?_)))))))))))
 obtain ⟨y_6,hy_7,hF⟩:=bind_some hF
 refine fH nU rfl rfl hy_7 rfl wz (kg iJ rfl [.str y_6.Player,.str y_6.Item,.int .i64 y_6.No,.int .i64 y_6.Clock,.int .i64 y_6.Long,.str y_6.Sum] rfl rfl wz (cO sz9 ag9 rfl (vS y_6.Player) rfl wz (aK 6 0 (.inr (by kernel_rfl)) (λ_ _ ag=>⟨.inl ⟨rfl,rfl⟩,⟨.inl ⟨rfl,rfl⟩,trivial⟩⟩) EM EJ rfl rfl (vL Log_.enc p_3) rfl wz (aJ qx rfl 1 rfl wz (aK 8 2 (.inr (by kernel_rfl)) (λ_ _ ag=>⟨.inl ⟨rfl,rfl⟩,⟨.inl ⟨rfl,rfl⟩,⟨.inl ⟨rfl,rfl⟩,trivial⟩⟩⟩) sz3 ag3 rfl rfl (vI b_2.f_i) rfl wz ?_)))))
 obtain ⟨y_8,hy_9,hF⟩:=bind_some hF
 refine fH nU rfl rfl hy_9 rfl wz (kg iJ rfl [.str y_8.Player,.str y_8.Item,.int .i64 y_8.No,.int .i64 y_8.Clock,.int .i64 y_8.Long,.str y_8.Sum] rfl rfl wz (cO sz9 ag9 rfl (vS y_8.Player) rfl wz ?_))
 obtain ⟨r_10,hr_11,hF⟩:=bind_some hF
 refine aH (iI hr_11) rfl DD rfl rfl rfl rfl wz (ae (vI r_10) wz rfl (ai (af (aa (ae (vI r_10) wz rfl (ae (vB (r_10 != 0)) wz rfl (ai ?_)))))))
 rcases ak hF with⟨hc_12,hF⟩|⟨hc_12,hF⟩
 ·refine ay rfl hc_12 (af (aa (ae (vI r_10) wz rfl (ae (vI r_10) wz rfl (ai ?_)))))
  obtain rfl:=ah hF
  exact aB (tV (.inr rfl) [(vI r_10)] _ [0] [au 0] ⟨rfl,trivial⟩ (.cons (iL rfl rfl) (.nil)) (by kernel_rfl) ⟨(by kernel_rfl),trivial⟩ (by decide) (by kernel_rfl))
 ·refine aA rfl hc_12 (av (af (aa (aJ Ae rfl 0 rfl wz (aK 0 1 il ft sz3 ag3 rfl rfl (vI a_1.f_at) rfl wz (aJ Ae rfl 0 rfl wz (aK 0 2 il ft sz3 ag3 rfl rfl (vI b_2.f_at) rfl wz (ae (vI (w64 (a_1.f_at-b_2.f_at))) wz rfl ?_))))))))
  obtain ⟨r_13,hr_14,hF⟩:=bind_some hF
  refine aH (uD hr_14) rfl hb108 rfl rfl rfl rfl wz (ae (vI r_13) wz rfl (ai ?_))
  obtain rfl:=ah hF
  exact aB (tV (.inr rfl) [(vI r_13)] _ [0] [au 0] ⟨rfl,trivial⟩ (.cons (iL rfl rfl) (.nil)) (by kernel_rfl) ⟨(by kernel_rfl),trivial⟩ (by decide) (by kernel_rfl))
theorem eH {data_1:(List Dated)} {a_2:Int} {b_3:Int} {cmp4_5:(List Log_)} {r:(List Dated)} (hF:bB data_1 a_2 b_3 cmp4_5=some r) :
  FnM Tryz.prog 178 [(dV (au 1) 2 data_1),(vI a_2),(vI b_3),(.fn 106 [(.ref (au 0) 0 0)])] (([(.cells 1 [(vL Log_.enc cmp4_5)])]:List Box)++gI 2 Dated.enc data_1) (.tup []) (([(.cells 1 [(vL Log_.enc cmp4_5)])]:List Box).map some++gT data_1 (gB 2 Dated.enc r)):=by
 refine FnM.of_wHv ⟨Tryz.prog,53,[],[]⟩ rfl Tryz.func178 rfl rfl (lb_ rfl) (by kernel_rfl) ?_
 unfold bB at hF
 refine af (aa (ae (vI a_2) wz rfl (ae (vI (w64 (a_2+1))) wz rfl (ae (vI (w64 (a_2+1))) wz rfl (ai ?_)))))
 obtain ⟨o_14,hj_15,hF⟩:=bind_some hF
 obtain ⟨nq_53,hj_15⟩:=dM hj_15
 refine aG (β:=((List Dated)×Int)) (λ(s_11:(List Dated)×Int)=>([]:SL_)) (λ(s_11:(List Dated)×Int)=>([((au 0),some (.cells 1 [(vL Log_.enc cmp4_5)])),((au 1),gB 2 Dated.enc s_11.1)]:Hp)) (λp=>o_14 = .go p) ?_ ?_
 ·refine ax (bA (β:=Nat×((List Dated)×Int)) (λp=>(λ(k_6:Nat) (s_11:(List Dated)×Int)=>([(0,(dV (au 1) 2 s_11.1)),(1,(vI a_2)),(2,(vI b_3)),(3,(.fn 106 [(.ref (au 0) 0 0)])),(8,(vI s_11.2))]:SL_)) p.1 p.2) (λp=>(λ(k_6:Nat) (s_11:(List Dated)×Int)=>([((au 0),some (.cells 1 [(vL Log_.enc cmp4_5)])),((au 1),gB 2 Dated.enc s_11.1)]:Hp)) p.1 p.2) (λp=>bL (λs=>bW b_3 a_2 cmp4_5 s) p.1 p.2=some o_14) (λp=>p.1) (nq_53,(data_1,(w64 (a_2+1)))) hj_15 rfl (aL rfl) ?_)
  rintro ⟨k_6,s_11⟩ hL_13
  dsimp only at hL_13
  cases k_6 with
  | zero=>cases hL_13
  | succ k_6 =>
   obtain ⟨c_,hc_12,hL_13⟩:=bind_some hL_13
   unfold bW at hc_12
   refine af (af (aa (ae (vI s_11.2) wz rfl (ae (vI b_3) wz rfl (ae (vB (decide (s_11.2<b_3))) wz rfl (ai ?_))))))
   rcases ak hc_12 with⟨hc_16,hc_12⟩|⟨hc_16,hc_12⟩
   ·refine ay rfl hc_16 (av (af (ax (af (aa (ae (vI s_11.2) wz rfl (ae (vI s_11.2) wz rfl (ai ?_))))))))
    obtain ⟨o_25,hj_26,hc_12⟩:=bind_some hc_12
    obtain ⟨nq_52,hj_26⟩:=dM hj_26
    refine aG (β:=((List Dated)×Int)) (λ(s_22:(List Dated)×Int)=>([(0,(dV (au 1) 2 s_22.1)),(1,(vI a_2)),(2,(vI b_3)),(3,(.fn 106 [(.ref (au 0) 0 0)])),(8,(vI s_11.2))]:SL_)) (λ(s_22:(List Dated)×Int)=>([((au 0),some (.cells 1 [(vL Log_.enc cmp4_5)])),((au 1),gB 2 Dated.enc s_22.1)]:Hp)) (λp=>o_25 = .go p) ?_ ?_
    ·refine ax (bA (β:=Nat×((List Dated)×Int)) (λp=>(λ(k_17:Nat) (s_22:(List Dated)×Int)=>([(0,(dV (au 1) 2 s_22.1)),(1,(vI a_2)),(2,(vI b_3)),(3,(.fn 106 [(.ref (au 0) 0 0)])),(8,(vI s_11.2)),(9,(vI s_22.2))]:SL_)) p.1 p.2) (λp=>(λ(k_17:Nat) (s_22:(List Dated)×Int)=>([((au 0),some (.cells 1 [(vL Log_.enc cmp4_5)])),((au 1),gB 2 Dated.enc s_22.1)]:Hp)) p.1 p.2) (λp=>bL (λs=>bU a_2 cmp4_5 s) p.1 p.2=some o_25) (λp=>p.1) (nq_52,(s_11.1,s_11.2)) hj_26 rfl (aL rfl) ?_)
     rintro ⟨k_17,s_22⟩ hL_24
     dsimp only at hL_24
     cases k_17 with
     | zero=>cases hL_24
     | succ k_17 =>
      obtain ⟨c_,hc_23,hL_24⟩:=bind_some hL_24
      unfold bU at hc_23
      refine af (af ?_)
      obtain ⟨v_27,h_28,hc_23⟩:=bind_some hc_23
      refine aG (β:=Unit) (λ_=>([(0,(dV (au 1) 2 s_22.1)),(1,(vI a_2)),(2,(vI b_3)),(3,(.fn 106 [(.ref (au 0) 0 0)])),(8,(vI s_11.2)),(9,(vI s_22.2)),(34,(vB v_27))]:SL_)) (λ_=>([((au 0),some (.cells 1 [(vL Log_.enc cmp4_5)])),((au 1),gB 2 Dated.enc s_22.1)]:Hp)) (λ_=>True) ?_ ?_
      ·refine bK (ae (vI s_22.2) wz rfl (ae (vI a_2) wz rfl (ae (vB (decide (s_22.2>a_2))) wz rfl ?_)))
       rcases ak h_28 with⟨hc_29,h_28⟩|⟨hc_29,h_28⟩
       ·refine aC rfl hc_29 wz (ae (.fn 106 [(.ref (au 0) 0 0)]) wa rfl (ae (dV (au 1) 2 s_22.1) wa rfl (ae (vI s_22.2) wa rfl ?_)))
        obtain ⟨_,hi_30,h_28⟩:=bind_some h_28
        refine jQ rM rfl rfl (jA hi_30) (gu hi_30) wa ?_
        obtain ⟨e_31,hy_32,h_28⟩:=bind_some h_28
        refine jD 8 1 (.inr (by kernel_rfl)) (λ_ _ ag=>trivial) qF Ay rfl rfl hy_32 (.d (.agg (Dated.enc e_31))) rfl wa (ae (dV (au 1) 2 s_22.1) wa rfl (ae (vI s_22.2) wa rfl (ae (vI (w64 (s_22.2-1))) wa rfl ?_)))
        obtain ⟨_,hi_33,h_28⟩:=bind_some h_28
        refine jQ rM rfl rfl (jA hi_33) (gu hi_33) wa ?_
        obtain ⟨e_34,hy_35,h_28⟩:=bind_some h_28
        refine jD 13 1 (.inr (by kernel_rfl)) (λ_ _ ag=>⟨.inl ⟨rfl,rfl⟩,trivial⟩) qF Ay rfl rfl hy_35 (.d (.agg (Dated.enc e_34))) rfl wa ?_
        obtain ⟨r_36,hr_37,h_28⟩:=bind_some h_28
        refine h_callr 14 [0] (.inr (by kernel_rfl)) (λ_ _ ag=>by exact⟨.inl ⟨rfl,rfl⟩,⟨.inl ⟨rfl,rfl⟩,trivial⟩⟩) (tF hr_37) rfl hb106 rfl (by kernel_rfl) (by kernel_rfl) (by kernel_rfl) (by kernel_rfl) (by kernel_rfl) (by kernel_rfl) (by decide) wa (vI r_36) (by kernel_rfl) (ae (vB (decide (r_36<0))) wa rfl (ae (vB (decide (r_36<0))) wz rfl (ai ?_)))
        obtain rfl:=ah h_28
        exact cu
       ·refine aC rfl hc_29 wz (aj wa (aj wa (aj wa (aj wa (aj wa (aj wa (aj wa (aj wa (aj wa (aj wa (aj wa (aj wa (ae (vB false) wz rfl (ai ?_))))))))))))))
        obtain rfl:=ah h_28
        exact cu
      ·rintro ⟨⟩ _ sl_ H_ hp_ hq_
       refine aQ _ hp_ hq_ ?_
       rcases ak hc_23 with⟨hc_39,hc_23⟩|⟨hc_39,hc_23⟩
       ·refine ay rfl hc_39 (av (af (ax (bK (ae (dV (au 1) 2 s_22.1) wz rfl (ae (vI s_22.2) wz rfl (ae (dV (au 1) 2 s_22.1) wz rfl (ae (vI s_22.2) wz rfl (ae (vI (w64 (s_22.2-1))) wz rfl (ae (dV (au 1) 2 s_22.1) wz rfl (ae (vI s_22.2) wz rfl (ae (vI (w64 (s_22.2-1))) wz rfl ?_))))))))))))
        obtain ⟨_,hi_40,hc_23⟩:=bind_some hc_23
        refine jQ rM rfl rfl (jA hi_40) (gu hi_40) wz ?_
        obtain ⟨e_41,hy_42,hc_23⟩:=bind_some hc_23
        refine jD 9 1 (.inr (by kernel_rfl)) (λ_ _ ag=>trivial) qF Ay rfl rfl hy_42 (.d (.agg (Dated.enc e_41))) rfl wz (ae (dV (au 1) 2 s_22.1) wz rfl (ae (vI s_22.2) wz rfl ?_))
        obtain ⟨_,hi_43,hc_23⟩:=bind_some hc_23
        refine jQ rM rfl rfl (jA hi_43) (gu hi_43) wz ?_
        obtain ⟨e_44,hy_45,hc_23⟩:=bind_some hc_23
        refine jD 13 1 (.inr (by kernel_rfl)) (λ_ _ ag=>⟨.inl ⟨rfl,rfl⟩,trivial⟩) qF Ay rfl rfl hy_45 (.d (.agg (Dated.enc e_44))) rfl wz ?_
        obtain ⟨_,hi_46,hc_23⟩:=bind_some hc_23
        refine jQ rM rfl rfl (jA hi_46) (gu hi_46) wz ?_
        obtain ⟨e_47,hy_48,hc_23⟩:=bind_some hc_23
        refine je 15 (.inr (by kernel_rfl)) (λ_ _ ag=>⟨.inr (.inr (by kernel_rfl)),⟨.inr (.inr (by kernel_rfl)),trivial⟩⟩) 1 qF rfl rfl hy_48 e_41 rfl wz (bM (v':=(dV (au 1) 2 (s_22.1.set (0+(s_22.2).toNat) e_41))) 0 rfl (bZ (by simp)) (bM (v':=(dV (au 1) 2 (s_22.1.set (0+(s_22.2).toNat) e_41))) 37 rfl (bZ (by simp)) (bM (v':=(dV (au 1) 2 (s_22.1.set (0+(s_22.2).toNat) e_41))) 39 rfl (bZ (by simp)) (bM (v':=(dV (au 1) 2 (s_22.1.set (0+(s_22.2).toNat) e_41))) 42 rfl (bZ (by simp)) (bM (v':=(dV (au 1) 2 (s_22.1.set (0+(s_22.2).toNat) e_41))) 47 rfl (bZ (by simp)) ?_)))))
        obtain ⟨_,hi_49,hc_23⟩:=bind_some hc_23
        refine jQ rM rfl rfl (jA hi_49) (gu hi_49) wz ?_
        obtain ⟨e_50,hy_51,hc_23⟩:=bind_some hc_23
        refine je 17 (.inr (by kernel_rfl)) (λ_ _ ag=>⟨.inr (.inr (by kernel_rfl)),⟨.inr (.inr (by kernel_rfl)),⟨.inr (.inr (by kernel_rfl)),trivial⟩⟩⟩) 1 qF rfl rfl hy_51 e_44 rfl wz (bM (v':=(dV (au 1) 2 ((s_22.1.set (0+(s_22.2).toNat) e_41).set (0+((w64 (s_22.2-1))).toNat) e_44))) 0 rfl (bZ (by simp)) (bM (v':=(dV (au 1) 2 ((s_22.1.set (0+(s_22.2).toNat) e_41).set (0+((w64 (s_22.2-1))).toNat) e_44))) 37 rfl (bZ (by simp)) (bM (v':=(dV (au 1) 2 ((s_22.1.set (0+(s_22.2).toNat) e_41).set (0+((w64 (s_22.2-1))).toNat) e_44))) 39 rfl (bZ (by simp)) (bM (v':=(dV (au 1) 2 ((s_22.1.set (0+(s_22.2).toNat) e_41).set (0+((w64 (s_22.2-1))).toNat) e_44))) 42 rfl (bZ (by simp)) (bM (v':=(dV (au 1) 2 ((s_22.1.set (0+(s_22.2).toNat) e_41).set (0+((w64 (s_22.2-1))).toNat) e_44))) 47 rfl (bZ (by simp)) (ai (aa (ae (vI s_22.2) wz rfl (ae (vI (w64 (s_22.2-1))) wz rfl (ae (vI (w64 (s_22.2-1))) wz rfl (ai ?_)))))))))))
        obtain rfl:=ah hc_23
        exact bf (k_17,(((s_22.1.set (0+(s_22.2).toNat) e_41).set (0+((w64 (s_22.2-1))).toNat) e_44),(w64 (s_22.2-1)))) hL_24 (ls_ _) rfl (aL rfl)
       ·refine aA rfl hc_39 (aY ?_)
        obtain rfl:=ah hc_23
        obtain rfl:=ah hL_24
        exact bz ((s_22.1,s_22.2)) rfl rfl (aL rfl)
    ·rintro s_22 ho_ sl_ H_ hp_ hq_
     subst ho_
     refine aQ _ hp_ hq_ (aa (ae (vI s_11.2) wz rfl (ae (vI (w64 (s_11.2+1))) wz rfl (ae (vI (w64 (s_11.2+1))) wz rfl (ai ?_)))))
     obtain rfl:=ah hc_12
     exact bf (k_6,(s_22.1,(w64 (s_11.2+1)))) hL_13 (ls_ _) rfl (aL rfl)
   ·refine aA rfl hc_16 (aY ?_)
    obtain rfl:=ah hc_12
    obtain rfl:=ah hL_13
    exact bz ((s_11.1,s_11.2)) rfl rfl (aL rfl)
 ·rintro s_11 ho_ sl_ H_ hp_ hq_
  subst ho_
  show rf _ _ _ _ _ _ _ _
  obtain rfl:=ah hF
  exact vM (H0:=([((au 0),some (.cells 1 [(vL Log_.enc cmp4_5)])),((au 1),gB 2 Dated.enc s_11.1)]:Hp)) (sl':=envS []) hq_ (kQ (bs:=([(.cells 1 [(vL Log_.enc cmp4_5)])]:List Box)) (os:=([(.cells 1 [(vL Log_.enc cmp4_5)])]:List Box)) (xs:=data_1) (o:=gB 2 Dated.enc s_11.1) (.inl rfl) [] trivial rfl rfl rfl rfl rfl (by kernel_rfl) kE rfl)
theorem jB {data_1:(List Dated)} {n_2:Int} {cmp3_4:(List Log_)} {r:(List Dated)} (hF:cK data_1 n_2 cmp3_4=some r) :
  FnM Tryz.prog 138 [(dV (au 1) 2 data_1),(vI n_2),(.fn 106 [(.ref (au 0) 0 0)])] (([(.cells 1 [(vL Log_.enc cmp3_4)])]:List Box)++gI 2 Dated.enc data_1) (.tup []) (([(.cells 1 [(vL Log_.enc cmp3_4)])]:List Box).map some++gT data_1 (gB 2 Dated.enc r)):=by
 refine FnM.of_wHv ⟨Tryz.prog,63,[],[]⟩ rfl Tryz.func138 rfl rfl (lb_ rfl) (by kernel_rfl) ?_
 unfold cK at hF
 refine af (aa (ae (vI 20) wz rfl (ai (af (aa (ae (vI 20) wz rfl (ae (vI 0) wz rfl (ae (vI 20) wz rfl (ai (af ?_))))))))))
 obtain ⟨o_13,hj_14,hF⟩:=bind_some hF
 obtain ⟨nq_49,hj_14⟩:=dM hj_14
 refine aG (β:=((List Dated)×Int×Int)) (λ(s_10:(List Dated)×Int×Int)=>([(0,(dV (au 1) 2 s_10.1)),(1,(vI n_2)),(2,(.fn 106 [(.ref (au 0) 0 0)])),(6,(vI 20)),(7,(vI s_10.2.1))]:SL_)) (λ(s_10:(List Dated)×Int×Int)=>([((au 0),some (.cells 1 [(vL Log_.enc cmp3_4)])),((au 1),gB 2 Dated.enc s_10.1)]:Hp)) (λp=>o_13 = .go p) ?_ ?_
 ·refine ax (bA (β:=Nat×((List Dated)×Int×Int)) (λp=>(λ(k_5:Nat) (s_10:(List Dated)×Int×Int)=>([(0,(dV (au 1) 2 s_10.1)),(1,(vI n_2)),(2,(.fn 106 [(.ref (au 0) 0 0)])),(6,(vI 20)),(7,(vI s_10.2.1)),(8,(vI s_10.2.2))]:SL_)) p.1 p.2) (λp=>(λ(k_5:Nat) (s_10:(List Dated)×Int×Int)=>([((au 0),some (.cells 1 [(vL Log_.enc cmp3_4)])),((au 1),gB 2 Dated.enc s_10.1)]:Hp)) p.1 p.2) (λp=>bL (λs=>dL n_2 cmp3_4 s) p.1 p.2=some o_13) (λp=>p.1) (nq_49,(data_1,0,20)) hj_14 rfl (aL rfl) ?_)
  rintro ⟨k_5,s_10⟩ hL_12
  dsimp only at hL_12
  cases k_5 with
  | zero=>cases hL_12
  | succ k_5 =>
   obtain ⟨c_,hc_11,hL_12⟩:=bind_some hL_12
   unfold dL at hc_11
   refine af (af (aa (ae (vI s_10.2.2) wz rfl (ae (vI n_2) wz rfl (ae (vB (decide (s_10.2.2<=n_2))) wz rfl (ai ?_))))))
   rcases ak hc_11 with⟨hc_15,hc_11⟩|⟨hc_15,hc_11⟩
   ·refine ay rfl hc_15 (av (ax (af (aa (ae (dV (au 1) 2 s_10.1) wz rfl (ae (vI s_10.2.1) wz rfl (ae (vI s_10.2.2) wz rfl (ae (.fn 106 [(.ref (au 0) 0 0)]) wz rfl ?_))))))))
    obtain ⟨r_16,hr_17,hc_11⟩:=bind_some hc_11
    obtain ⟨_,hs_18,hc_11⟩:=bind_some hc_11
    replace hs_18:=jG hs_18
    refine jM 0 [0] 1 0 il ft (eH hr_17) rfl hb178 rfl rfl rfl (by kernel_rfl) rfl (.inr (.inl rfl)) rfl (by kernel_rfl) (by kernel_rfl) (by kernel_rfl) (by kernel_rfl) rfl (by decide) (by kernel_rfl) kE (pQ hs_18) wz ([((au 0),some (.cells 1 [(vL Log_.enc cmp3_4)])),((au 1),gB 2 Dated.enc r_16)]:Hp) (by kernel_rfl) (bM (v':=(dV (au 1) 2 r_16)) 0 rfl (bZ hs_18.symm) (bM (v':=(dV (au 1) 2 r_16)) 14 rfl (bZ hs_18.symm) (ai (af (aa (ae (vI s_10.2.2) wz rfl (ae (vI s_10.2.2) wz rfl (ai (aa (ae (vI s_10.2.2) wz rfl (ae (vI 20) wz rfl (ae (vI (w64 (s_10.2.2+20))) wz rfl (ae (vI (w64 (s_10.2.2+20))) wz rfl (ai ?_))))))))))))))
    obtain rfl:=ah hc_11
    exact bf (k_5,(r_16,s_10.2.2,(w64 (s_10.2.2+20)))) hL_12 (ls_ _) rfl (aL rfl)
   ·refine aA rfl hc_15 (aY ?_)
    obtain rfl:=ah hc_11
    obtain rfl:=ah hL_12
    exact bz ((s_10.1,s_10.2.1,s_10.2.2)) rfl rfl (aL rfl)
 ·rintro s_10 ho_ sl_ H_ hp_ hq_
  subst ho_
  refine aQ _ hp_ hq_ (af (aa (ae (dV (au 1) 2 s_10.1) wz rfl (ae (vI s_10.2.1) wz rfl (ae (vI n_2) wz rfl (ae (.fn 106 [(.ref (au 0) 0 0)]) wz rfl ?_))))))
  obtain ⟨r_19,hr_20,hF⟩:=bind_some hF
  obtain ⟨_,hs_21,hF⟩:=bind_some hF
  replace hs_21:=jG hs_21
  refine jM 0 [0] 1 0 il ft (eH hr_20) rfl hb178 rfl rfl rfl (by kernel_rfl) rfl (.inr (.inl rfl)) rfl (by kernel_rfl) (by kernel_rfl) (by kernel_rfl) (by kernel_rfl) rfl (by decide) (by kernel_rfl) kE (pQ hs_21) wz ([((au 0),some (.cells 1 [(vL Log_.enc cmp3_4)])),((au 1),gB 2 Dated.enc r_19)]:Hp) (by kernel_rfl) (bM (v':=(dV (au 1) 2 r_19)) 0 rfl (bZ hs_21.symm) (bM (v':=(dV (au 1) 2 r_19)) 23 rfl (bZ hs_21.symm) (ai ?_)))
  obtain ⟨o_30,hj_31,hF⟩:=bind_some hF
  obtain ⟨nq_48,hj_31⟩:=dM hj_31
  refine aG (β:=(Int)) (λ(s_27:Int)=>([]:SL_)) (λ(s_27:Int)=>([((au 0),some (.cells 1 [(vL Log_.enc cmp3_4)])),((au 1),gB 2 Dated.enc r_19)]:Hp)) (λp=>o_30 = .go p) ?_ ?_
  ·refine ax (bA (β:=Nat×(Int)) (λp=>(λ(k_22:Nat) (s_27:Int)=>([(0,(dV (au 1) 2 r_19)),(1,(vI n_2)),(2,(.fn 106 [(.ref (au 0) 0 0)])),(6,(vI s_27))]:SL_)) p.1 p.2) (λp=>(λ(k_22:Nat) (s_27:Int)=>([((au 0),some (.cells 1 [(vL Log_.enc cmp3_4)])),((au 1),gB 2 Dated.enc r_19)]:Hp)) p.1 p.2) (λp=>bL (λs=>dN n_2 s) p.1 p.2=some o_30) (λp=>p.1) (nq_48,20) hj_31 rfl (aL rfl) ?_)
   rintro ⟨k_22,s_27⟩ hL_29
   dsimp only at hL_29
   cases k_22 with
   | zero=>cases hL_29
   | succ k_22 =>
    obtain ⟨c_,hc_28,hL_29⟩:=bind_some hL_29
    unfold dN at hc_28
    refine af (af (aa (ae (vI s_27) wz rfl (ae (vI n_2) wz rfl (ae (vB (decide (s_27<n_2))) wz rfl (ai ?_))))))
    rcases ak hc_28 with⟨hc_32,hc_28⟩|⟨hc_32,hc_28⟩
    ·refine ay rfl hc_32 (av (ax (af (aa (ae (vI s_27) wz rfl (ae (vI (w64 (2*s_27))) wz rfl (ae (vI 0) wz rfl (ae (vI (w64 (2*s_27))) wz rfl (ai (af ?_))))))))))
     obtain ⟨o_41,hj_42,hc_28⟩:=bind_some hc_28
     obtain ⟨nq_47,hj_42⟩:=dM hj_42
     refine aG (β:=(Unit)) (λ(s_38:Unit)=>([(0,(dV (au 1) 2 r_19)),(1,(vI n_2)),(2,(.fn 106 [(.ref (au 0) 0 0)])),(6,(vI s_27)),(7,(vI 0))]:SL_)) (λ(s_38:Unit)=>([((au 0),some (.cells 1 [(vL Log_.enc cmp3_4)])),((au 1),gB 2 Dated.enc r_19)]:Hp)) (λp=>o_41 = .go p) ?_ ?_
     ·refine ax (bA (β:=Nat×(Unit)) (λp=>(λ(k_33:Nat) (s_38:Unit)=>([(0,(dV (au 1) 2 r_19)),(1,(vI n_2)),(2,(.fn 106 [(.ref (au 0) 0 0)])),(6,(vI s_27)),(7,(vI 0)),(8,(vI (w64 (2*s_27))))]:SL_)) p.1 p.2) (λp=>(λ(k_33:Nat) (s_38:Unit)=>([((au 0),some (.cells 1 [(vL Log_.enc cmp3_4)])),((au 1),gB 2 Dated.enc r_19)]:Hp)) p.1 p.2) (λp=>bL (λs=>dP s_27 n_2 s) p.1 p.2=some o_41) (λp=>p.1) (nq_47,()) hj_42 rfl (aL rfl) ?_)
      rintro ⟨k_33,s_38⟩ hL_40
      dsimp only at hL_40
      cases k_33 with
      | zero=>cases hL_40
      | succ k_33 =>
       obtain ⟨c_,hc_39,hL_40⟩:=bind_some hL_40
       unfold dP at hc_39
       refine af (af (aa (ae (vI (w64 (2*s_27))) wz rfl (ae (vI n_2) wz rfl (ae (vB (decide ((w64 (2*s_27))<=n_2))) wz rfl (ai ?_))))))
       rcases ak hc_39 with⟨hc_43,hc_39⟩|⟨hc_43,hc_39⟩
       ·refine ay rfl hc_43 (av (ax (af (aa (ae (dV (au 1) 2 r_19) wz rfl (ae (vI 0) wz rfl (ae (vI 0) wz rfl (ae (vI s_27) wz rfl (ae (vI (w64 (0+s_27))) wz rfl (ae (vI (w64 (2*s_27))) wz rfl (ae (.fn 106 [(.ref (au 0) 0 0)]) wz rfl ?_)))))))))))
        cases hc_39
       ·refine aA rfl hc_43 (aY ?_)
        obtain rfl:=ah hc_39
        obtain rfl:=ah hL_40
        exact bz (()) rfl rfl (aL rfl)
     ·rintro s_38 ho_ sl_ H_ hp_ hq_
      subst ho_
      refine aQ _ hp_ hq_ (af (af (aa (ae (vI 0) wz rfl (ae (vI s_27) wz rfl (ae (vI (w64 (0+s_27))) wz rfl (ae (vI (w64 (0+s_27))) wz rfl (ai (af (aa (ae (vI (w64 (0+s_27))) wz rfl (ae (vI n_2) wz rfl (ae (vB (decide ((w64 (0+s_27))<n_2))) wz rfl (ai ?_))))))))))))))
      obtain ⟨v_44,h_45,hc_28⟩:=bind_some hc_28
      refine aG (β:=Unit) (λ_=>([(0,(dV (au 1) 2 r_19)),(1,(vI n_2)),(2,(.fn 106 [(.ref (au 0) 0 0)])),(6,(vI s_27))]:SL_)) (λ_=>([((au 0),some (.cells 1 [(vL Log_.enc cmp3_4)])),((au 1),gB 2 Dated.enc r_19)]:Hp)) (λ_=>True) ?_ ?_
      ·rcases ak h_45 with⟨hc_46,h_45⟩|⟨hc_46,h_45⟩
       ·refine ay rfl hc_46 (aa (ae (dV (au 1) 2 r_19) wz rfl (ae (vI 0) wz rfl (ae (vI (w64 (0+s_27))) wz rfl (ae (vI n_2) wz rfl (ae (.fn 106 [(.ref (au 0) 0 0)]) wz rfl ?_))))))
        cases h_45
       ·refine aA rfl hc_46 (av ?_)
        obtain rfl:=ah h_45
        exact cu
      ·rintro ⟨⟩ _ sl_ H_ hp_ hq_
       refine aQ _ hp_ hq_ (aa (ae (vI s_27) wz rfl (ae (vI (w64 (s_27*2))) wz rfl (ae (vI (w64 (s_27*2))) wz rfl (ai ?_)))))
       obtain rfl:=ah hc_28
       exact bf (k_22,(w64 (s_27*2))) hL_29 (ls_ _) rfl (aL rfl)
    ·refine aA rfl hc_32 (aY ?_)
     obtain rfl:=ah hc_28
     obtain rfl:=ah hL_29
     exact bz (s_27) rfl rfl (aL rfl)
  ·rintro s_27 ho_ sl_ H_ hp_ hq_
   subst ho_
   show rf _ _ _ _ _ _ _ _
   obtain rfl:=ah hF
   exact vM (H0:=([((au 0),some (.cells 1 [(vL Log_.enc cmp3_4)])),((au 1),gB 2 Dated.enc r_19)]:Hp)) (sl':=envS []) hq_ (kQ (bs:=([(.cells 1 [(vL Log_.enc cmp3_4)])]:List Box)) (os:=([(.cells 1 [(vL Log_.enc cmp3_4)])]:List Box)) (xs:=data_1) (o:=gB 2 Dated.enc r_19) (.inl rfl) [] trivial rfl rfl rfl rfl rfl (by kernel_rfl) kE rfl)
theorem gG {x_1:(List Dated)} {cmp2_3:(List Log_)} {r:(List Dated)} (hF:aS x_1 cmp2_3=some r) :
  FnM Tryz.prog 105 [(dV (au 1) 2 x_1),(.fn 106 [(.ref (au 0) 0 0)])] (([(.cells 1 [(vL Log_.enc cmp2_3)])]:List Box)++gI 2 Dated.enc x_1) (.tup []) (([(.cells 1 [(vL Log_.enc cmp2_3)])]:List Box).map some++gT x_1 (gB 2 Dated.enc r)):=by
 refine FnM.of_wHv ⟨Tryz.prog,9,[],[]⟩ rfl Tryz.func105 rfl rfl (lb_ rfl) (by kernel_rfl) ?_
 unfold aS at hF
 refine aa (ae (dV (au 1) 2 x_1) wz rfl (ae (dV (au 1) 2 x_1) wz rfl (zU un129 rfl wz (ae (.fn 106 [(.ref (au 0) 0 0)]) wz rfl ?_))))
 obtain ⟨r_4,hr_5,hF⟩:=bind_some hF
 obtain ⟨_,hs_6,hF⟩:=bind_some hF
 replace hs_6:=jG hs_6
 refine jM 0 [0] 1 0 il ft (jB hr_5) rfl hb138 rfl rfl rfl (by kernel_rfl) rfl (.inr (.inl rfl)) rfl (by kernel_rfl) (by kernel_rfl) (by kernel_rfl) (by kernel_rfl) rfl (by decide) (by kernel_rfl) kE (pQ hs_6) wz ([((au 0),some (.cells 1 [(vL Log_.enc cmp2_3)])),((au 1),gB 2 Dated.enc r_4)]:Hp) (by kernel_rfl) (bM (v':=(dV (au 1) 2 r_4)) 0 rfl (bZ hs_6.symm) (bM (v':=(dV (au 1) 2 r_4)) 4 rfl (bZ hs_6.symm) (bM (v':=(dV (au 1) 2 r_4)) 5 rfl (bZ hs_6.symm) (ai ?_))))
 show rf _ _ _ _ _ _ _ _
 obtain rfl:=ah hF
 exact kQ (bs:=([(.cells 1 [(vL Log_.enc cmp2_3)])]:List Box)) (os:=([(.cells 1 [(vL Log_.enc cmp2_3)])]:List Box)) (xs:=x_1) (o:=gB 2 Dated.enc r_4) (.inl rfl) [] trivial rfl rfl rfl rfl rfl (by kernel_rfl) kE rfl
theorem xg {l_1:(List Log_)} {beats_2:(List Beat)} {r:(List Play)×(List Int)} (hF:j6 l_1 beats_2=some r) :
  FnM Tryz.prog 55 [(vL Log_.enc l_1),(vL Beat.enc beats_2)] [] (.tup [(vL Play.enc r.1),(vL eI r.2)]) []:=by
 refine FnM.of_wH ⟨Tryz.prog,146,[],[]⟩ rfl Tryz.func55 rfl rfl (lb_ rfl) (by kernel_rfl) ?_
 unfold j6 at hF
 refine af (aa (kN 0 (.inl rfl) [(vL Log_.enc l_1)] rfl rfl wz (λn_3=>ae .nil wz rfl (ae .nil wz rfl (ai (af (aa (ae .nil wz rfl (ai (af (aa (ae .nil wz rfl (ai (af (af (aa (aK 0 0 il ft EM EJ rfl rfl (vL Log_.enc l_1) rfl wz (eY tu rfl wz (ae (vI 0) wz rfl (ai (lJ (λn_10=>lJ (λn_11 => ?_)))))))))))))))))))))))
 obtain ⟨o_18,hj_19,hF⟩:=bind_some hF
 obtain ⟨hn_8,hj_19⟩:=bX hj_19
 refine aG (β:=((List Dated)×(List Int))×Nm×Nm) (λp=>(λ(s_9:(List Dated)×(List Int)) (n_14:Nm) (n_15:Nm)=>([(2,(.ref n_3 0 0)),(6,(gV n_14 2 s_9.1)),(7,(gV n_15 1 s_9.2))]:SL_)) p.1 p.2.1 p.2.2) (λp=>(λ(s_9:(List Dated)×(List Int)) (n_14:Nm) (n_15:Nm)=>([(n_3,some (.cells 1 [(vL Log_.enc l_1)])),(n_14,gB 2 Dated.enc s_9.1),(n_15,gB 1 eI s_9.2)]:Hp)) p.1 p.2.1 p.2.2) (λp=>o_18 = .go p.1) ?_ ?_
 ·refine ax (bA (β:=Nat×(List Log_)×((List Dated)×(List Int))×Nm×Nm) (λp=>(λ(k_4:Nat) (l_5:List Log_) (s_9:(List Dated)×(List Int)) (n_14:Nm) (n_15:Nm)=>([(1,(vL Beat.enc beats_2)),(2,(.ref n_3 0 0)),(6,(gV n_14 2 s_9.1)),(7,(gV n_15 1 s_9.2)),(18,(vL Log_.enc l_1)),(19,(vI (l_1.length:Int))),(20,(vI (k_4:Int)))]:SL_)) p.1 p.2.1 p.2.2.1 p.2.2.2.1 p.2.2.2.2) (λp=>(λ(k_4:Nat) (l_5:List Log_) (s_9:(List Dated)×(List Int)) (n_14:Nm) (n_15:Nm)=>([(n_3,some (.cells 1 [(vL Log_.enc l_1)])),(n_14,gB 2 Dated.enc s_9.1),(n_15,gB 1 eI s_9.2)]:Hp)) p.1 p.2.1 p.2.2.1 p.2.2.2.1 p.2.2.2.2) (λp=>dY (λk x s=>iA beats_2 k x s) p.2.1 p.1 p.2.2.1=some o_18/\(l_1).drop p.1=p.2.1) (λp=>p.2.1.length) (0,l_1,(([]:List Dated),([]:List Int)),n_10,n_11) ⟨hj_19,rfl⟩ rfl (aL rfl) ?_)
  rintro ⟨k_4,l_5,s_9,n_14,n_15⟩ ⟨hL_17,hD_7⟩
  dsimp only at hL_17 hD_7
  cases l_5 with
  | nil =>
   obtain rfl:=ah hL_17
   refine af (aa (ae (vB (decide ((k_4:Int)<(l_1.length:Int)))) wz rfl (ai ?_)))
   refine af (aA rfl (drop_nil hD_7) (aY ?_))
   exact bz (s_9,n_14,n_15) rfl rfl (aL rfl)
  | cons x_6 l_5 =>
   obtain ⟨c_,hc_16,hL_17⟩:=bind_some hL_17
   refine af (aa (ae (vB (decide ((k_4:Int)<(l_1.length:Int)))) wz rfl (ai ?_)))
   refine af (ay rfl (ek hD_7) (av ?_))
   unfold iA at hc_16
   refine af (ax (af (aa (ae (vI (k_4:Int)) wz rfl (fH nU rfl rfl (eU hD_7) rfl wz (cO om tO rfl (.d (.agg (Log_.enc x_6))) rfl wz (gM 0 (.inl rfl) z43 rfl wz (λn_20=>ae (vI (k_4:Int)) wz rfl (jE 0 il ft 3 om rfl rfl [(vS x_6.Player),(vS x_6.Item),(vI x_6.No),(vI x_6.Clock),(vI x_6.Long),(vS x_6.Sum)] rfl wz (ai (af (aa (ae (vL Beat.enc beats_2) wz rfl (aJ iJ rfl 0 rfl wz (aK 0 3 il ft sz9 ag9 rfl rfl (vS x_6.Player) rfl wz (aJ ou rfl 3 rfl wz (aK 0 3 il ft sz3 ag3 rfl rfl (vI x_6.Clock) rfl wz ?_)))))))))))))))))
   obtain ⟨r_21,hr_22,hc_16⟩:=bind_some hc_16
   refine aH (wX hr_22) rfl hb104 rfl rfl rfl rfl wz (ae (.tup [(vI r_21.1),(vI r_21.2)]) wz rfl (ae (vI r_21.1) wz rfl (ae (vI r_21.2) wz rfl (ae (vI r_21.1) wz rfl (ae (vI r_21.2) wz rfl (ai (af (af (aa (ae (vI r_21.2) wz rfl (ai (ax (af (aa (ae (vB (r_21.2==8)) wz rfl (ae (vB (r_21.2==8)) wz rfl (ai ?_)))))))))))))))))
   rcases ak hc_16 with⟨hc_23,hc_16⟩|⟨hc_23,hc_16⟩
   ·refine ay rfl hc_23 (aa (aJ ou rfl 3 rfl wz (aK 0 3 il ft sz3 ag3 rfl rfl (vI x_6.Clock) rfl wz (ae (vI x_6.Clock) wz rfl (ai (aa (ae (gV n_14 2 s_9.1) wz rfl (ae (vI x_6.Clock) wz rfl (ae (vI (k_4:Int)) wz rfl (ae (.d (.agg (Dated.enc (⟨x_6.Clock,(k_4:Int)⟩:Dated)))) wz (by kernel_rfl) (fw (([(⟨x_6.Clock,(k_4:Int)⟩:Dated)]:List Dated).map Dated.enc) rM ez129 rfl rfl rfl rfl rfl wz ?_)))))))))))
    obtain ⟨a_24,hz_25,hc_16⟩:=bind_some hc_16
    refine jC 0 il ft (i:=1) Ed Ed qF z131 rfl (by decide) by131 (by decide) (λ_=>rfl) rfl rfl rfl hz_25 wz (λn_26=>ae (gV n_26 2 a_24) wz rfl (ai (aQ (H0:=([(n_3,some (.cells 1 [(vL Log_.enc l_1)])),(n_26,gB 2 Dated.enc a_24),(n_15,gB 1 eI s_9.2),(n_20,some (.cells 6 [(vS x_6.Player),(vS x_6.Item),(vI x_6.No),(vI x_6.Clock),(vI x_6.Long),(vS x_6.Sum)]))]:Hp)) ([(1,(vL Beat.enc beats_2)),(2,(.ref n_3 0 0)),(6,(gV n_26 2 a_24)),(7,(gV n_15 1 s_9.2)),(18,(vL Log_.enc l_1)),(19,(vI (l_1.length:Int))),(20,(vI (k_4:Int)))]:SL_) (by kernel_rfl) (tL (by kernel_rfl)) (aa (gW (dh hD_7 hn_8) wz rfl (ae (vI ((k_4+1:Nat):Int)) wz rfl (ai ?_)))))))
    obtain rfl:=ah hc_16
    exact bf (k_4+1,l_5,(a_24,s_9.2),n_26,n_15) ⟨hL_17,aU hD_7⟩ (ls_ _) rfl (aL rfl)
   ·refine aA rfl hc_23 (af (af (aa (ae (vB (r_21.2==11)) wz rfl (ae (vB (r_21.2==11)) wz rfl (ai ?_))))))
    obtain ⟨v_27,h_28,hc_16⟩:=bind_some hc_16
    refine aG (β:=Unit) (λ_=>([(1,(vL Beat.enc beats_2)),(2,(.ref n_3 0 0)),(6,(gV n_14 2 s_9.1)),(7,(gV n_15 1 s_9.2)),(8,(vI (k_4:Int))),(10,(vI r_21.1)),(18,(vL Log_.enc l_1)),(19,(vI (l_1.length:Int))),(20,(vI (k_4:Int))),(39,(vB v_27))]:SL_)) (λ_=>([(n_3,some (.cells 1 [(vL Log_.enc l_1)])),(n_14,gB 2 Dated.enc s_9.1),(n_15,gB 1 eI s_9.2),(n_20,some (.cells 6 [(vS x_6.Player),(vS x_6.Item),(vI x_6.No),(vI x_6.Clock),(vI x_6.Long),(vS x_6.Sum)]))]:Hp)) (λ_=>True) ?_ ?_
    ·rcases ak h_28 with⟨hc_29,h_28⟩|⟨hc_29,h_28⟩
     ·refine ay rfl hc_29 (av ?_)
      obtain rfl:=ah h_28
      exact cu
     ·refine aA rfl hc_29 (aa (ae (vB (r_21.2==2)) wz rfl (ae (vB (r_21.2==2)) wz rfl (ai ?_))))
      obtain rfl:=ah h_28
      exact cu
    ·rintro ⟨⟩ _ sl_ H_ hp_ hq_
     refine aQ _ hp_ hq_ ?_
     rcases ak hc_16 with⟨hc_30,hc_16⟩|⟨hc_30,hc_16⟩
     ·refine ay rfl hc_30 (af (aa (ae (gV n_15 1 s_9.2) wz rfl (ae (vI (k_4:Int)) wz rfl (fw (([(k_4:Int)]:List Int).map eI) oC ut rfl rfl rfl rfl rfl wz ?_)))))
      obtain ⟨a_31,hz_32,hc_16⟩:=bind_some hc_16
      refine jC 0 il ft (i:=2) yu yu sz3 z3 rfl (by decide) by3 (by decide) (λ_=>rfl) rfl rfl rfl hz_32 wz (λn_33=>ae (gV n_33 1 a_31) wz rfl (ai (aY (aa (gW (dh hD_7 hn_8) wz rfl (ae (vI ((k_4+1:Nat):Int)) wz rfl (ai ?_)))))))
      obtain rfl:=ah hc_16
      exact bf (k_4+1,l_5,(s_9.1,a_31),n_14,n_33) ⟨hL_17,aU hD_7⟩ (ls_ _) rfl (aL rfl)
     ·refine aA rfl hc_30 (av (aa (ae (gV n_14 2 s_9.1) wz rfl (ae (vI r_21.1) wz rfl (ae (vI (k_4:Int)) wz rfl (ae (.d (.agg (Dated.enc (⟨r_21.1,(k_4:Int)⟩:Dated)))) wz (by kernel_rfl) (fw (([(⟨r_21.1,(k_4:Int)⟩:Dated)]:List Dated).map Dated.enc) rM ez129 rfl rfl rfl rfl rfl wz ?_)))))))
      obtain ⟨a_34,hz_35,hc_16⟩:=bind_some hc_16
      refine jC 0 il ft (i:=1) Ed Ed qF z131 rfl (by decide) by131 (by decide) (λ_=>rfl) rfl rfl rfl hz_35 wz (λn_36=>ae (gV n_36 2 a_34) wz rfl (ai (aa (gW (dh hD_7 hn_8) wz rfl (ae (vI ((k_4+1:Nat):Int)) wz rfl (ai ?_))))))
      obtain rfl:=ah hc_16
      exact bf (k_4+1,l_5,(a_34,s_9.2),n_36,n_15) ⟨hL_17,aU hD_7⟩ (ls_ _) rfl (aL rfl)
 ·rintro ⟨s_9,n_14,n_15⟩ ho_ sl_ H_ hp_ hq_
  subst ho_
  refine aQ _ hp_ hq_ (af (aa (ae (gV n_14 2 s_9.1) wz rfl (ae (.fn 106 [(.ref n_3 0 0)]) wz rfl ?_))))
  obtain ⟨r_37,hr_38,hF⟩:=bind_some hF
  obtain ⟨_,hs_39,hF⟩:=bind_some hF
  replace hs_39:=jG hs_39
  refine jM 0 [0] 1 0 il ft (gG hr_38) rfl hb105 rfl rfl rfl (by kernel_rfl) rfl (.inl rfl) rfl (by kernel_rfl) (by kernel_rfl) (by kernel_rfl) (by kernel_rfl) rfl (by decide) (by kernel_rfl) kE (pQ hs_39) wz ([(n_3,some (.cells 1 [(vL Log_.enc l_1)])),(n_14,gB 2 Dated.enc r_37),(n_15,gB 1 eI s_9.2)]:Hp) (by kernel_rfl) (bM (v':=(gV n_14 2 r_37)) 53 rfl (bH hs_39.symm) (bM (v':=(gV n_14 2 r_37)) 6 rfl (bH hs_39.symm) (ai (af (aa (ae .nil wz rfl (ai (af (af (aa (ae (gV n_14 2 r_37) wz rfl (ni un129 rfl wz (ae (vI 0) wz rfl (ai (iR 1 rfl (dS 6 1 rfl rfl (dS 53 1 rfl rfl (dS 56 1 rfl rfl (lJ (λn_46 => ?_))))))))))))))))))))
  obtain ⟨o_53,hj_54,hF⟩:=bind_some hF
  obtain ⟨hn_44,hj_54⟩:=bX hj_54
  refine aG (β:=((List Int)×(List Play))×Nm×Nm) (λp=>(λ(s_45:(List Int)×(List Play)) (n_49:Nm) (n_50:Nm)=>([(7,(gV n_49 1 s_45.1)),(12,(gV n_50 4 s_45.2))]:SL_)) p.1 p.2.1 p.2.2) (λp=>(λ(s_45:(List Int)×(List Play)) (n_49:Nm) (n_50:Nm)=>([(n_3,some (.cells 1 [(vL Log_.enc l_1)])),(n_14,gF 2 Dated.enc r_37),(n_49,gB 1 eI s_45.1),(n_50,gB 4 Play.enc s_45.2)]:Hp)) p.1 p.2.1 p.2.2) (λp=>o_53 = .go p.1) ?_ ?_
  ·refine ax (bA (β:=Nat×(List Dated)×((List Int)×(List Play))×Nm×Nm) (λp=>(λ(k_40:Nat) (l_41:List Dated) (s_45:(List Int)×(List Play)) (n_49:Nm) (n_50:Nm)=>([(2,(.ref n_3 0 0)),(7,(gV n_49 1 s_45.1)),(12,(gV n_50 4 s_45.2)),(56,(vL Dated.enc r_37)),(57,(vI (r_37.length:Int))),(58,(vI (k_40:Int)))]:SL_)) p.1 p.2.1 p.2.2.1 p.2.2.2.1 p.2.2.2.2) (λp=>(λ(k_40:Nat) (l_41:List Dated) (s_45:(List Int)×(List Play)) (n_49:Nm) (n_50:Nm)=>([(n_3,some (.cells 1 [(vL Log_.enc l_1)])),(n_14,gF 2 Dated.enc r_37),(n_49,gB 1 eI s_45.1),(n_50,gB 4 Play.enc s_45.2)]:Hp)) p.1 p.2.1 p.2.2.1 p.2.2.2.1 p.2.2.2.2) (λp=>dY (λk x s=>iB l_1 k x s) p.2.1 p.1 p.2.2.1=some o_53/\(r_37).drop p.1=p.2.1) (λp=>p.2.1.length) (0,r_37,(s_9.2,([]:List Play)),n_15,n_46) ⟨hj_54,rfl⟩ rfl (aL rfl) ?_)
   rintro ⟨k_40,l_41,s_45,n_49,n_50⟩ ⟨hL_52,hD_43⟩
   dsimp only at hL_52 hD_43
   cases l_41 with
   | nil =>
    obtain rfl:=ah hL_52
    refine af (aa (ae (vB (decide ((k_40:Int)<(r_37.length:Int)))) wz rfl (ai ?_)))
    refine af (aA rfl (drop_nil hD_43) (aY ?_))
    exact bz (s_45,n_49,n_50) rfl rfl (aL rfl)
   | cons x_42 l_41 =>
    obtain ⟨c_,hc_51,hL_52⟩:=bind_some hL_52
    refine af (aa (ae (vB (decide ((k_40:Int)<(r_37.length:Int)))) wz rfl (ai ?_)))
    refine af (ay rfl (ek hD_43) (av ?_))
    unfold iB at hc_51
    refine af (ax (af (aa (fH rM rfl rfl (eU hD_43) rfl wz (cO qF Ay rfl (.d (.agg (Dated.enc x_42))) rfl wz (gM 0 (.inl rfl) z131 rfl wz (λn_55=>jE 0 il ft 4 qF rfl rfl [(vI x_42.f_at),(vI x_42.f_i)] rfl wz (ai (af (bK (aK 0 0 (.inr (by kernel_rfl)) (λ_ _ ag=>trivial) EM EJ rfl rfl (vL Log_.enc l_1) rfl wz (aJ qx rfl 1 rfl wz (aK 2 4 (.inr (by kernel_rfl)) (λ_ _ ag=>⟨.inl ⟨rfl,rfl⟩,trivial⟩) sz3 ag3 rfl rfl (vI x_42.f_i) rfl wz ?_)))))))))))))
    obtain ⟨y_56,hy_57,hc_51⟩:=bind_some hc_51
    refine fH nU rfl rfl hy_57 rfl wz (kg iJ rfl [.str y_56.Player,.str y_56.Item,.int .i64 y_56.No,.int .i64 y_56.Clock,.int .i64 y_56.Long,.str y_56.Sum] rfl rfl wz (cO sz9 ag9 rfl (vS y_56.Player) rfl wz (aK 6 0 (.inr (by kernel_rfl)) (λ_ _ ag=>⟨.inl ⟨rfl,rfl⟩,⟨.inl ⟨rfl,rfl⟩,trivial⟩⟩) EM EJ rfl rfl (vL Log_.enc l_1) rfl wz (aJ qx rfl 1 rfl wz (aK 8 4 (.inr (by kernel_rfl)) (λ_ _ ag=>⟨.inl ⟨rfl,rfl⟩,⟨.inl ⟨rfl,rfl⟩,⟨.inl ⟨rfl,rfl⟩,trivial⟩⟩⟩) sz3 ag3 rfl rfl (vI x_42.f_i) rfl wz ?_)))))
    obtain ⟨y_58,hy_59,hc_51⟩:=bind_some hc_51
    refine fH nU rfl rfl hy_59 rfl wz (kg rq rfl [.str y_58.Item,.int .i64 y_58.No,.int .i64 y_58.Clock,.int .i64 y_58.Long,.str y_58.Sum] rfl rfl wz (cO sz9 ag9 rfl (vS y_58.Item) rfl wz (aJ Ae rfl 0 rfl wz (aK 13 4 (.inr (by kernel_rfl)) (λ_ _ ag=>⟨.inl ⟨rfl,rfl⟩,⟨.inl ⟨rfl,rfl⟩,⟨.inl ⟨rfl,rfl⟩,⟨.inl ⟨rfl,rfl⟩,trivial⟩⟩⟩⟩) sz3 ag3 rfl rfl (vI x_42.f_at) rfl wz (aK 14 0 (.inr (by kernel_rfl)) (λ_ _ ag=>⟨.inl ⟨rfl,rfl⟩,⟨.inl ⟨rfl,rfl⟩,⟨.inl ⟨rfl,rfl⟩,⟨.inl ⟨rfl,rfl⟩,⟨.inl ⟨rfl,rfl⟩,trivial⟩⟩⟩⟩⟩) EM EJ rfl rfl (vL Log_.enc l_1) rfl wz (aJ qx rfl 1 rfl wz (aK 16 4 (.inr (by kernel_rfl)) (λ_ _ ag=>⟨.inl ⟨rfl,rfl⟩,⟨.inl ⟨rfl,rfl⟩,⟨.inl ⟨rfl,rfl⟩,⟨.inl ⟨rfl,rfl⟩,⟨.inl ⟨rfl,rfl⟩,⟨.inl ⟨rfl,rfl⟩,trivial⟩⟩⟩⟩⟩⟩) sz3 ag3 rfl rfl (vI x_42.f_i) rfl wz ?_)))))))
    obtain ⟨y_60,hy_61,hc_51⟩:=bind_some hc_51
    refine fH nU rfl rfl hy_61 rfl wz (kg sV rfl [.int .i64 y_60.Long,.str y_60.Sum] rfl rfl wz (cO sz3 ag3 rfl (vI y_60.Long) rfl wz (ae (.d (.agg (Play.enc (⟨y_56.Player,y_58.Item,x_42.f_at,y_60.Long⟩:Play)))) wz (by kernel_rfl) (gM 21 (.inr (by kernel_rfl)) z84 rfl wz (λn_62=>jE 22 (.inr (by kernel_rfl)) (λ_ _ ag=>⟨.inr (.inr (by kernel_rfl)),⟨.inr (.inr (by kernel_rfl)),⟨.inr (.inr (by kernel_rfl)),⟨.inr (.inr (by kernel_rfl)),⟨.inr (.inr (by kernel_rfl)),⟨.inr (.inr (by kernel_rfl)),⟨.inr (.inr (by kernel_rfl)),⟨.inr (.inr (by kernel_rfl)),trivial⟩⟩⟩⟩⟩⟩⟩⟩) 5 EA rfl rfl [(vS y_56.Player),(vS y_58.Item),(vI x_42.f_at),(vI y_60.Long)] rfl wz (ai (af (af (aa (ae (gV n_50 4 s_45.2) wz rfl (ni F9 rfl wz (ae (vI (w64 ((s_45.2.length:Int)-1))) wz rfl (ae (vI (w64 ((s_45.2.length:Int)-1))) wz rfl (ai (aQ (H0:=([(n_3,some (.cells 1 [(vL Log_.enc l_1)])),(n_14,gF 2 Dated.enc r_37),(n_49,gB 1 eI s_45.1),(n_50,gB 4 Play.enc s_45.2),(n_55,some (.cells 2 [(vI x_42.f_at),(vI x_42.f_i)])),(n_62,some (.cells 4 [(vS y_56.Player),(vS y_58.Item),(vI x_42.f_at),(vI y_60.Long)]))]:Hp)) ([(2,(.ref n_3 0 0)),(7,(gV n_49 1 s_45.1)),(12,(gV n_50 4 s_45.2)),(14,(.ref n_55 0 0)),(15,(.ref n_62 0 0)),(16,(vI (w64 ((s_45.2.length:Int)-1)))),(56,(vL Dated.enc r_37)),(57,(vI (r_37.length:Int))),(58,(vI (k_40:Int)))]:SL_) (by kernel_rfl) (tL (by kernel_rfl)) (af ?_))))))))))))))))
    obtain ⟨v_63,h_64,hc_51⟩:=bind_some hc_51
    refine aG (β:=Unit) (λ_=>([(2,(.ref n_3 0 0)),(7,(gV n_49 1 s_45.1)),(12,(gV n_50 4 s_45.2)),(14,(.ref n_55 0 0)),(15,(.ref n_62 0 0)),(16,(vI (w64 ((s_45.2.length:Int)-1)))),(56,(vL Dated.enc r_37)),(57,(vI (r_37.length:Int))),(58,(vI (k_40:Int))),(97,(vB v_63))]:SL_)) (λ_=>([(n_3,some (.cells 1 [(vL Log_.enc l_1)])),(n_14,gF 2 Dated.enc r_37),(n_49,gB 1 eI s_45.1),(n_50,gB 4 Play.enc s_45.2),(n_55,some (.cells 2 [(vI x_42.f_at),(vI x_42.f_i)])),(n_62,some (.cells 4 [(vS y_56.Player),(vS y_58.Item),(vI x_42.f_at),(vI y_60.Long)]))]:Hp)) (λ_=>True) ?_ ?_
    ·refine bK (ae (vI (w64 ((s_45.2.length:Int)-1))) wz rfl (ae (vB (decide ((w64 ((s_45.2.length:Int)-1))>=0))) wz rfl ?_))
     rcases ak h_64 with⟨hc_65,h_64⟩|⟨hc_65,h_64⟩
     ·refine aC rfl hc_65 wz (ae (gV n_50 4 s_45.2) wa rfl (ae (vI (w64 ((s_45.2.length:Int)-1))) wa rfl ?_))
      obtain ⟨_,hi_66,h_64⟩:=bind_some h_64
      refine qV CY rfl rfl (jA hi_66) (gu hi_66) wa (aJ Gs rfl 0 rfl wa ?_)
      obtain ⟨e_67,hy_68,h_64⟩:=bind_some h_64
      refine jD 7 3 (.inr (by kernel_rfl)) (λ_ _ ag=>trivial) sz9 ag9 rfl rfl hy_68 (vS e_67.Player) rfl wa (aJ Gs rfl 0 rfl wa (aK 9 5 (.inr (by kernel_rfl)) (λ_ _ ag=>⟨.inl ⟨rfl,rfl⟩,trivial⟩) sz9 ag9 rfl rfl (vS y_56.Player) rfl wa (ae (vB (sEq e_67.Player y_56.Player)) wa rfl (ae (vB (sEq e_67.Player y_56.Player)) wz rfl (ai ?_)))))
      obtain rfl:=ah h_64
      exact cu
     ·refine aC rfl hc_65 wz (aj wa (aj wa (aj wa (aj wa (aj wa (aj wa (aj wa (aj wa (ae (vB false) wz rfl (ai ?_))))))))))
      obtain rfl:=ah h_64
      exact cu
    ·rintro ⟨⟩ _ sl_ H_ hp_ hq_
     refine aQ _ hp_ hq_ ?_
     obtain ⟨v_69,h_70,hc_51⟩:=bind_some hc_51
     refine aG (β:=Unit) (λ_=>([(2,(.ref n_3 0 0)),(7,(gV n_49 1 s_45.1)),(12,(gV n_50 4 s_45.2)),(14,(.ref n_55 0 0)),(15,(.ref n_62 0 0)),(56,(vL Dated.enc r_37)),(57,(vI (r_37.length:Int))),(58,(vI (k_40:Int)))]:SL_)) (λ_=>([(n_3,some (.cells 1 [(vL Log_.enc l_1)])),(n_14,gF 2 Dated.enc r_37),(n_49,gB 1 eI s_45.1),(n_50,gB 4 Play.enc s_45.2),(n_55,some (.cells 2 [(vI x_42.f_at),(vI x_42.f_i)])),(n_62,some (.cells 4 [(vS y_56.Player),(vS y_58.Item),(vI v_69.1),(vI v_69.2)]))]:Hp)) (λ_=>True) ?_ ?_
     ·rcases ak h_70 with⟨hc_71,h_70⟩|⟨hc_71,h_70⟩
      ·refine ay rfl hc_71 (af (bK (ae (gV n_50 4 s_45.2) wz rfl (ae (vI (w64 ((s_45.2.length:Int)-1))) wz rfl ?_))))
       obtain ⟨_,hi_72,h_70⟩:=bind_some h_70
       refine qV CY rfl rfl (jA hi_72) (gu hi_72) wz (aJ xu rfl 2 rfl wz ?_)
       obtain ⟨e_73,hy_74,h_70⟩:=bind_some h_70
       refine jD 4 3 (.inr (by kernel_rfl)) (λ_ _ ag=>trivial) sz3 ag3 rfl rfl hy_74 (vI e_73.At) rfl wz (ae (gV n_50 4 s_45.2) wz rfl (ae (vI (w64 ((s_45.2.length:Int)-1))) wz rfl ?_))
       obtain ⟨_,hi_75,h_70⟩:=bind_some h_70
       refine qV CY rfl rfl (jA hi_75) (gu hi_75) wz (aJ Aj rfl 3 rfl wz ?_)
       obtain ⟨e_76,hy_77,h_70⟩:=bind_some h_70
       refine jD 9 3 (.inr (by kernel_rfl)) (λ_ _ ag=>⟨.inl ⟨rfl,rfl⟩,trivial⟩) sz3 ag3 rfl rfl hy_77 (vI e_76.Long) rfl wz (ae (vI (w64 (e_73.At+e_76.Long))) wz rfl (ae (vI (w64 (e_73.At+e_76.Long))) wz rfl (ai (af (aa (ae (vI (w64 (e_73.At+e_76.Long))) wz rfl (aJ xu rfl 2 rfl wz (aK 0 5 il ft sz3 ag3 rfl rfl (vI x_42.f_at) rfl wz (ae (vB (decide ((w64 (e_73.At+e_76.Long))>x_42.f_at))) wz rfl (ai ?_))))))))))
       rcases ak h_70 with⟨hc_78,h_70⟩|⟨hc_78,h_70⟩
       ·refine ay rfl hc_78 (aa (ae (vI (w64 (e_73.At+e_76.Long))) wz rfl (aJ xu rfl 2 rfl wz (aK 0 5 il ft sz3 ag3 rfl rfl (vI x_42.f_at) rfl wz (aJ Aj rfl 3 rfl wz (aK 0 5 il ft sz3 ag3 rfl rfl (vI y_60.Long) rfl wz (ae (vI (w64 (x_42.f_at+y_60.Long))) wz rfl (ae (vI (w64 (e_73.At+e_76.Long))) wz rfl (ae (vI (w64 ((w64 (x_42.f_at+y_60.Long))-(w64 (e_73.At+e_76.Long))))) wz rfl (aJ xu rfl 2 rfl wz (jE 0 il ft 5 sz3 rfl rfl [(vS y_56.Player),(vS y_58.Item),(vI (w64 (e_73.At+e_76.Long))),(vI y_60.Long)] rfl wz (aJ Aj rfl 3 rfl wz (jE 0 il ft 5 sz3 rfl rfl [(vS y_56.Player),(vS y_58.Item),(vI (w64 (e_73.At+e_76.Long))),(vI (w64 ((w64 (x_42.f_at+y_60.Long))-(w64 (e_73.At+e_76.Long)))))] rfl wz (ai ?_))))))))))))))
        obtain rfl:=ah h_70
        exact cu
       ·refine aA rfl hc_78 (av ?_)
        obtain rfl:=ah h_70
        exact cu
      ·refine aA rfl hc_71 (av ?_)
       obtain rfl:=ah h_70
       exact cu
     ·rintro ⟨⟩ _ sl_ H_ hp_ hq_
      refine aQ _ hp_ hq_ (af (af ?_))
      obtain ⟨v_79,h_80,hc_51⟩:=bind_some hc_51
      refine aG (β:=Unit) (λ_=>([(2,(.ref n_3 0 0)),(7,(gV n_49 1 s_45.1)),(12,(gV n_50 4 s_45.2)),(14,(.ref n_55 0 0)),(15,(.ref n_62 0 0)),(56,(vL Dated.enc r_37)),(57,(vI (r_37.length:Int))),(58,(vI (k_40:Int))),(131,(vB v_79))]:SL_)) (λ_=>([(n_3,some (.cells 1 [(vL Log_.enc l_1)])),(n_14,gF 2 Dated.enc r_37),(n_49,gB 1 eI s_45.1),(n_50,gB 4 Play.enc s_45.2),(n_55,some (.cells 2 [(vI x_42.f_at),(vI x_42.f_i)])),(n_62,some (.cells 4 [(vS y_56.Player),(vS y_58.Item),(vI v_69.1),(vI v_69.2)]))]:Hp)) (λ_=>True) ?_ ?_
      ·refine aa (aJ Aj rfl 3 rfl wz (aK 0 5 il ft sz3 ag3 rfl rfl (vI v_69.2) rfl wz (ae (vB (decide (v_69.2<=0))) wz rfl ?_)))
       rcases ak h_80 with⟨hc_81,h_80⟩|⟨hc_81,h_80⟩
       ·refine aC rfl hc_81 wz (aj wa (aj wa (aj wa (aj wa (ae (vB true) wz rfl (ai ?_))))))
        obtain rfl:=ah h_80
        exact cu
       ·refine aC rfl hc_81 wz (aJ xu rfl 2 rfl wa (aK 0 5 il ft sz3 ag3 rfl rfl (vI v_69.1) rfl wa ?_))
        obtain ⟨r_82,hr_83,h_80⟩:=bind_some h_80
        refine aH (jF hr_83) rfl Gy rfl rfl rfl rfl wa (ae (vB (!r_82)) wa rfl (ae (vB (!r_82)) wz rfl (ai ?_)))
        obtain rfl:=ah h_80
        exact cu
      ·rintro ⟨⟩ _ sl_ H_ hp_ hq_
       refine aQ _ hp_ hq_ ?_
       rcases ak hc_51 with⟨hc_84,hc_51⟩|⟨hc_84,hc_51⟩
       ·refine ay rfl hc_84 (af (aa (ae (gV n_49 1 s_45.1) wz rfl (aJ qx rfl 1 rfl wz (aK 0 4 il ft sz3 ag3 rfl rfl (vI x_42.f_i) rfl wz (fw (([x_42.f_i]:List Int).map eI) oC ut rfl rfl rfl rfl rfl wz ?_))))))
        obtain ⟨a_85,hz_86,hc_51⟩:=bind_some hc_51
        refine jC 0 il ft (i:=2) yu yu sz3 z3 rfl (by decide) by3 (by decide) (λ_=>rfl) rfl rfl rfl hz_86 wz (λn_87=>ae (gV n_87 1 a_85) wz rfl (ai (aY (aa (gW (dh hD_43 hn_44) wz rfl (ae (vI ((k_40+1:Nat):Int)) wz rfl (ai ?_)))))))
        obtain rfl:=ah hc_51
        exact bf (k_40+1,l_41,(a_85,s_45.2),n_87,n_50) ⟨hL_52,aU hD_43⟩ (ls_ _) rfl (aL rfl)
       ·refine aA rfl hc_84 (av (aa (ae (gV n_50 4 s_45.2) wz rfl (aK 0 5 il ft EA ag84 rfl rfl (.d (.agg (Play.enc (⟨y_56.Player,y_58.Item,v_69.1,v_69.2⟩:Play)))) rfl wz (fw (([(⟨y_56.Player,y_58.Item,v_69.1,v_69.2⟩:Play)]:List Play).map Play.enc) CY ez76 rfl rfl rfl rfl rfl wz ?_)))))
        obtain ⟨a_88,hz_89,hc_51⟩:=bind_some hc_51
        refine jC 0 il ft (i:=3) el76 el76 EA z84 rfl (by decide) by84 (by decide) (λ_=>rfl) rfl rfl rfl hz_89 wz (λn_90=>ae (gV n_90 4 a_88) wz rfl (ai (aa (gW (dh hD_43 hn_44) wz rfl (ae (vI ((k_40+1:Nat):Int)) wz rfl (ai ?_))))))
        obtain rfl:=ah hc_51
        exact bf (k_40+1,l_41,(s_45.1,a_88),n_49,n_90) ⟨hL_52,aU hD_43⟩ (ls_ _) rfl (aL rfl)
  ·rintro ⟨s_45,n_49,n_50⟩ ho_ sl_ H_ hp_ hq_
   subst ho_
   refine aQ _ hp_ hq_ (af (aa (ae (gV n_49 1 s_45.1) wz rfl ?_)))
   obtain ⟨r_91,hr_92,hF⟩:=bind_some hF
   obtain ⟨_,hs_93,hF⟩:=bind_some hF
   replace hs_93:=jG hs_93
   refine jM 0 [] 2 0 il ft (jy hr_92) rfl hb103 rfl rfl rfl (by kernel_rfl) rfl (.inl rfl) rfl (by kernel_rfl) (by kernel_rfl) (by kernel_rfl) (by kernel_rfl) rfl (by decide) (by kernel_rfl) kE (pQ hs_93) wz ([(n_3,some (.cells 1 [(vL Log_.enc l_1)])),(n_14,gF 2 Dated.enc r_37),(n_49,gB 1 eI r_91),(n_50,gB 4 Play.enc s_45.2)]:Hp) (by kernel_rfl) (bM (v':=(gV n_49 1 r_91)) 142 rfl (bH hs_93.symm) (bM (v':=(gV n_49 1 r_91)) 7 rfl (bH hs_93.symm) (ai (af (aa (ae (gV n_50 4 s_45.2) wz rfl (ae (gV n_49 1 r_91) wz rfl (ae (gV n_50 4 s_45.2) wz rfl (ae (gV n_49 1 r_91) wz rfl (ai (iR 3 rfl (dS 4 3 rfl rfl (dS 12 3 rfl rfl (dS 144 3 rfl rfl (iR 2 rfl (dS 5 2 rfl rfl (dS 7 2 rfl rfl (dS 142 2 rfl rfl (dS 145 2 rfl rfl ?_)))))))))))))))))))
   obtain rfl:=ah hF
   exact aB (bu (.inr rfl) [(vL Play.enc s_45.2),(vL eI r_91)] ⟨rfl,⟨rfl,trivial⟩⟩ rfl rfl rfl)
theorem kw {s1_1:(List Play)} {s2_2:(List Play)} {r:Bool} (hF:bT s1_1 s2_2=some r) :
  FnM Tryz.prog 56 [(vL Play.enc s1_1),(vL Play.enc s2_2)] [] (vB r) []:=by
 refine FnM.of_wH ⟨Tryz.prog,26,[],[]⟩ rfl Tryz.func56 rfl rfl (lb_ rfl) (by kernel_rfl) ?_
 unfold bT at hF
 refine af (aa (ae (vB false) wz rfl (ai (af (af (aa (ae (vL Play.enc s1_1) wz rfl (eY F9 rfl wz (ae (vL Play.enc s2_2) wz rfl (eY F9 rfl wz (ae (vB ((s1_1.length:Int) != (s2_2.length:Int))) wz rfl (ai ?_))))))))))))
 rcases ak hF with⟨hc_3,hF⟩|⟨hc_3,hF⟩
 ·refine ay rfl hc_3 (af (aa (ae (vB false) wz rfl (ai ?_))))
  obtain rfl:=ah hF
  exact aB (bu (.inr rfl) [(vB false)] ⟨rfl,trivial⟩ rfl rfl rfl)
 ·refine aA rfl hc_3 (av (af (af (aa (ae (vL Play.enc s1_1) wz rfl (eY F9 rfl wz (ae (vI 0) wz rfl (ai ?_))))))))
  obtain ⟨o_12,hj_13,hF⟩:=bind_some hF
  obtain ⟨hn_8,hj_13⟩:=bX hj_13
  refine aG (β:=(Unit)) (λ(s_9:Unit)=>([]:SL_)) (λ(s_9:Unit)=>([]:Hp)) (λp=>o_12 = .go p) ?_ ?_
  ·refine ax (bA (β:=Nat×(List Play)×(Unit)) (λp=>(λ(k_4:Nat) (l_5:List Play) (s_9:Unit)=>([(0,(vL Play.enc s1_1)),(1,(vL Play.enc s2_2)),(12,(vI (s1_1.length:Int))),(13,(vI (k_4:Int)))]:SL_)) p.1 p.2.1 p.2.2) (λp=>(λ(k_4:Nat) (l_5:List Play) (s_9:Unit)=>([]:Hp)) p.1 p.2.1 p.2.2) (λp=>dY (λk x s=>aZ s2_2 k x s) p.2.1 p.1 p.2.2=some o_12/\(s1_1).drop p.1=p.2.1) (λp=>p.2.1.length) (0,s1_1,()) ⟨hj_13,rfl⟩ rfl (aL rfl) ?_)
   rintro ⟨k_4,l_5,s_9⟩ ⟨hL_11,hD_7⟩
   dsimp only at hL_11 hD_7
   cases l_5 with
   | nil =>
    obtain rfl:=ah hL_11
    refine af (aa (ae (vB (decide ((k_4:Int)<(s1_1.length:Int)))) wz rfl (ai ?_)))
    refine af (aA rfl (drop_nil hD_7) (aY ?_))
    exact bz (s_9) rfl rfl (aL rfl)
   | cons x_6 l_5 =>
    obtain ⟨c_,hc_10,hL_11⟩:=bind_some hL_11
    refine af (aa (ae (vB (decide ((k_4:Int)<(s1_1.length:Int)))) wz rfl (ai ?_)))
    refine af (ay rfl (ek hD_7) (av ?_))
    unfold aZ at hc_10
    refine af (ax (af (aa (ae (vI (k_4:Int)) wz rfl (ae (vI (k_4:Int)) wz rfl (ai (af (bK (ae (vL Play.enc s1_1) wz rfl (ae (vI (k_4:Int)) wz rfl (fH CY rfl rfl (eU hD_7) rfl wz (cO EA ag84 rfl (.d (.agg (Play.enc x_6))) rfl wz (ae (vL Play.enc s2_2) wz rfl (ae (vI (k_4:Int)) wz rfl ?_))))))))))))))
    obtain ⟨y_14,hy_15,hc_10⟩:=bind_some hc_10
    refine fH CY rfl rfl hy_15 rfl wz (cO EA ag84 rfl (.d (.agg (Play.enc y_14))) rfl wz (ae (vB (!((x_6.Player.toList==y_14.Player.toList)&&((x_6.Item.toList==y_14.Item.toList)&&((x_6.At==y_14.At)&&((x_6.Long==y_14.Long)&&true)))))) wz (by kernel_rfl) (ai ?_)))
    rcases ak hc_10 with⟨hc_16,hc_10⟩|⟨hc_16,hc_10⟩
    ·refine ay rfl hc_16 (af (aa (ae (vB false) wz rfl (ai ?_))))
     obtain rfl:=ah hc_10
     obtain rfl:=ah hL_11
     obtain rfl:=ah hF
     exact aB (bu (.inr rfl) [(vB false)] ⟨rfl,trivial⟩ rfl rfl rfl)
    ·refine aA rfl hc_16 (av (aa (gW (dh hD_7 hn_8) wz rfl (ae (vI ((k_4+1:Nat):Int)) wz rfl (ai ?_)))))
     obtain rfl:=ah hc_10
     exact bf (k_4+1,l_5,()) ⟨hL_11,aU hD_7⟩ (ls_ _) rfl (aL rfl)
  ·rintro s_9 ho_ sl_ H_ hp_ hq_
   subst ho_
   refine aQ _ hp_ hq_ (af (aa (ae (vB true) wz rfl (ai ?_))))
   obtain rfl:=ah hF
   exact aB (bu (.inr rfl) [(vB true)] ⟨rfl,trivial⟩ rfl rfl rfl)
theorem nP {s1_1:(List Int)} {s2_2:(List Int)} {r:Bool} (hF:fB s1_1 s2_2=some r) :
  FnM Tryz.prog 38 [(vL eI s1_1),(vL eI s2_2)] [] (vB r) []:=by
 refine FnM.of_wH ⟨Tryz.prog,26,[],[]⟩ rfl Tryz.func38 rfl rfl (lb_ rfl) (by kernel_rfl) ?_
 unfold fB at hF
 refine af (aa (ae (vB false) wz rfl (ai (af (af (aa (ae (vL eI s1_1) wz rfl (eY yl rfl wz (ae (vL eI s2_2) wz rfl (eY yl rfl wz (ae (vB ((s1_1.length:Int) != (s2_2.length:Int))) wz rfl (ai ?_))))))))))))
 rcases ak hF with⟨hc_3,hF⟩|⟨hc_3,hF⟩
 ·refine ay rfl hc_3 (af (aa (ae (vB false) wz rfl (ai ?_))))
  obtain rfl:=ah hF
  exact aB (bu (.inr rfl) [(vB false)] ⟨rfl,trivial⟩ rfl rfl rfl)
 ·refine aA rfl hc_3 (av (af (af (aa (ae (vL eI s1_1) wz rfl (eY yl rfl wz (ae (vI 0) wz rfl (ai ?_))))))))
  obtain ⟨o_12,hj_13,hF⟩:=bind_some hF
  obtain ⟨hn_8,hj_13⟩:=bX hj_13
  refine aG (β:=(Unit)) (λ(s_9:Unit)=>([]:SL_)) (λ(s_9:Unit)=>([]:Hp)) (λp=>o_12 = .go p) ?_ ?_
  ·refine ax (bA (β:=Nat×(List Int)×(Unit)) (λp=>(λ(k_4:Nat) (l_5:List Int) (s_9:Unit)=>([(0,(vL eI s1_1)),(1,(vL eI s2_2)),(12,(vI (s1_1.length:Int))),(13,(vI (k_4:Int)))]:SL_)) p.1 p.2.1 p.2.2) (λp=>(λ(k_4:Nat) (l_5:List Int) (s_9:Unit)=>([]:Hp)) p.1 p.2.1 p.2.2) (λp=>dY (λk x s=>dA s2_2 k x s) p.2.1 p.1 p.2.2=some o_12/\(s1_1).drop p.1=p.2.1) (λp=>p.2.1.length) (0,s1_1,()) ⟨hj_13,rfl⟩ rfl (aL rfl) ?_)
   rintro ⟨k_4,l_5,s_9⟩ ⟨hL_11,hD_7⟩
   dsimp only at hL_11 hD_7
   cases l_5 with
   | nil =>
    obtain rfl:=ah hL_11
    refine af (aa (ae (vB (decide ((k_4:Int)<(s1_1.length:Int)))) wz rfl (ai ?_)))
    refine af (aA rfl (drop_nil hD_7) (aY ?_))
    exact bz (s_9) rfl rfl (aL rfl)
   | cons x_6 l_5 =>
    obtain ⟨c_,hc_10,hL_11⟩:=bind_some hL_11
    refine af (aa (ae (vB (decide ((k_4:Int)<(s1_1.length:Int)))) wz rfl (ai ?_)))
    refine af (ay rfl (ek hD_7) (av ?_))
    unfold dA at hc_10
    refine af (ax (af (aa (ae (vI (k_4:Int)) wz rfl (ae (vI (k_4:Int)) wz rfl (ai (af (bK (ae (vL eI s1_1) wz rfl (ae (vI (k_4:Int)) wz rfl (fH oC rfl rfl (eU hD_7) rfl wz (cO sz3 ag3 rfl (vI x_6) rfl wz (ae (vL eI s2_2) wz rfl (ae (vI (k_4:Int)) wz rfl ?_))))))))))))))
    obtain ⟨y_14,hy_15,hc_10⟩:=bind_some hc_10
    refine fH oC rfl rfl hy_15 rfl wz (cO sz3 ag3 rfl (vI y_14) rfl wz (ae (vB (x_6 != y_14)) wz rfl (ai ?_)))
    rcases ak hc_10 with⟨hc_16,hc_10⟩|⟨hc_16,hc_10⟩
    ·refine ay rfl hc_16 (af (aa (ae (vB false) wz rfl (ai ?_))))
     obtain rfl:=ah hc_10
     obtain rfl:=ah hL_11
     obtain rfl:=ah hF
     exact aB (bu (.inr rfl) [(vB false)] ⟨rfl,trivial⟩ rfl rfl rfl)
    ·refine aA rfl hc_16 (av (aa (gW (dh hD_7 hn_8) wz rfl (ae (vI ((k_4+1:Nat):Int)) wz rfl (ai ?_)))))
     obtain rfl:=ah hc_10
     exact bf (k_4+1,l_5,()) ⟨hL_11,aU hD_7⟩ (ls_ _) rfl (aL rfl)
  ·rintro s_9 ho_ sl_ H_ hp_ hq_
   subst ho_
   refine aQ _ hp_ hq_ (af (aa (ae (vB true) wz rfl (ai ?_))))
   obtain rfl:=ah hF
   exact aB (bu (.inr rfl) [(vB true)] ⟨rfl,trivial⟩ rfl rfl rfl)
theorem rW {l_1:(List Int)} {r:Bool} (hF:kJ l_1=some r) :
  FnM Tryz.prog 7 [(vL eI l_1)] [] (vB r) []:=by
 refine FnM.of_wH ⟨Tryz.prog,82,[],[]⟩ rfl Tryz.func7 rfl rfl (lb_ rfl) (by kernel_rfl) ?_
 unfold kJ at hF
 refine af (aa (ae (vB false) wz rfl (ai (af (aa (ae (vL eI l_1) wz rfl (ae (.d (.agg (Stream.enc (⟨l_1,0⟩:Stream)))) wz (by kernel_rfl) (kN 0 (.inl rfl) [(vL eI l_1),(vI 0)] rfl rfl wz (λn_2=>ae (.ref n_2 0 0) wz rfl (ai (af (aa (ae (.ref n_2 0 0) wz rfl ?_)))))))))))))
 obtain ⟨r_3,hr_4,hF⟩:=bind_some hF
 refine vP [0] (rC hr_4) rfl hb8 rfl (by kernel_rfl) (by kernel_rfl) (by kernel_rfl) (by kernel_rfl) (by kernel_rfl) rfl (by decide) (by kernel_rfl) wz ([(n_2,some (.cells 2 [(vL eI r_3.2.L),(vI r_3.2.f_at)]))]:Hp) (λ_=>by kernel_rfl) (λn_6=>ae (.ref n_2 0 0) wz rfl ?_)
 obtain ⟨r_7,hr_8,hF⟩:=bind_some hF
 refine bn 0 [0] il ft (qX hr_8) rfl hb52 rfl (by kernel_rfl) (by kernel_rfl) (by kernel_rfl) (by kernel_rfl) (by kernel_rfl) (by kernel_rfl) (by kernel_rfl) (by decide) (by kernel_rfl) wz (vL Beat.enc r_7.1) (by kernel_rfl) ([(n_2,some (.cells 2 [(vL eI r_7.2.L),(vI r_7.2.f_at)])),(n_6,gB 6 Log_.enc r_3.1)]:Hp) (by kernel_rfl) (ae (gV n_6 6 r_3.1) wz rfl (ae (vL Beat.enc r_7.1) wz rfl (ai (af (af ?_)))))
 obtain ⟨v_10,h_11,hF⟩:=bind_some hF
 refine aG (β:=Unit) (λ_=>([(4,(gV n_6 6 r_3.1)),(5,(vL Beat.enc r_7.1)),(25,(vB v_10.1))]:SL_)) (λ_=>([(n_2,some (.cells 2 [(vL eI v_10.2.1),(vI v_10.2.2)])),(n_6,gB 6 Log_.enc r_3.1)]:Hp)) (λ_=>True) ?_ ?_
 ·refine aa (ae (gV n_6 6 r_3.1) wz rfl (ni tu rfl wz (ae (vB (decide ((r_3.1.length:Int)>0))) wz rfl ?_)))
  rcases ak h_11 with⟨hc_12,h_11⟩|⟨hc_12,h_11⟩
  ·refine aC rfl hc_12 wz (ae (.ref n_2 0 0) wa rfl ?_)
   obtain ⟨r_13,hr_14,h_11⟩:=bind_some h_11
   refine bn 0 [0] il ft (fF hr_14) rfl ET rfl (by kernel_rfl) (by kernel_rfl) (by kernel_rfl) (by kernel_rfl) (by kernel_rfl) (by kernel_rfl) (by kernel_rfl) (by decide) (by kernel_rfl) wa (vB r_13.1) (by kernel_rfl) ([(n_2,some (.cells 2 [(vL eI r_13.2.L),(vI r_13.2.f_at)])),(n_6,gB 6 Log_.enc r_3.1)]:Hp) (by kernel_rfl) (ae (vB r_13.1) wz rfl (ai ?_))
   obtain rfl:=ah h_11
   exact cu
  ·refine aC rfl hc_12 wz (aj wa (aj wa (ae (vB false) wz rfl (ai ?_))))
   obtain rfl:=ah h_11
   exact cu
 ·rintro ⟨⟩ _ sl_ H_ hp_ hq_
  refine aQ _ hp_ hq_ ?_
  obtain ⟨v_16,h_17,hF⟩:=bind_some hF
  refine aG (β:=Unit) (λ_=>([(4,(gV n_6 6 v_16)),(5,(vL Beat.enc r_7.1))]:SL_)) (λ_=>([(n_2,some (.cells 2 [(vL eI v_10.2.1),(vI v_10.2.2)])),(n_6,gB 6 Log_.enc v_16)]:Hp)) (λ_=>True) ?_ ?_
  ·rcases ak h_17 with⟨hc_18,h_17⟩|⟨hc_18,h_17⟩
   ·refine ay rfl hc_18 (aa (ae (gV n_6 6 r_3.1) wz rfl (ae (gV n_6 6 r_3.1) wz rfl (ni tu rfl wz (ae (vI (w64 ((r_3.1.length:Int)-1))) wz rfl ?_)))))
    obtain ⟨_,hi_19,h_17⟩:=bind_some h_17
    refine qV nU rfl rfl (jA hi_19) (gu hi_19) wz (aJ ou rfl 3 rfl wz ?_)
    obtain ⟨e_20,hy_21,h_17⟩:=bind_some h_17
    refine je 0 il ft 1 sz3 rfl rfl hy_21 (⟨e_20.Player,e_20.Item,e_20.No,345686399999,e_20.Long,e_20.Sum⟩:Log_) rfl wz (bM (v':=(gV n_6 6 (r_3.1.set (0+((w64 ((r_3.1.length:Int)-1))).toNat) (⟨e_20.Player,e_20.Item,e_20.No,345686399999,e_20.Long,e_20.Sum⟩:Log_)))) 4 rfl (bH (by simp)) (bM (v':=(gV n_6 6 (r_3.1.set (0+((w64 ((r_3.1.length:Int)-1))).toNat) (⟨e_20.Player,e_20.Item,e_20.No,345686399999,e_20.Long,e_20.Sum⟩:Log_)))) 26 rfl (bH (by simp)) (bM (v':=(gV n_6 6 (r_3.1.set (0+((w64 ((r_3.1.length:Int)-1))).toNat) (⟨e_20.Player,e_20.Item,e_20.No,345686399999,e_20.Long,e_20.Sum⟩:Log_)))) 27 rfl (bH (by simp)) (ai ?_))))
    obtain rfl:=ah h_17
    exact cu
   ·refine aA rfl hc_18 (av ?_)
    obtain rfl:=ah h_17
    exact cu
  ·rintro ⟨⟩ _ sl_ H_ hp_ hq_
   refine aQ _ hp_ hq_ (af (iR 1 rfl (dS 4 1 rfl rfl (aa (ae (vL Log_.enc v_16) wz rfl (ae (vL Beat.enc r_7.1) wz rfl ?_))))))
   obtain ⟨r_22,hr_23,hF⟩:=bind_some hF
   refine aH (xN hr_23) rfl hb53 rfl rfl rfl rfl wz (ae (.tup [(vL Play.enc r_22.1),(vL eI r_22.2.1),(vI r_22.2.2)]) wz rfl (ae (vL Play.enc r_22.1) wz rfl (ae (vL eI r_22.2.1) wz rfl (ae (vI r_22.2.2) wz rfl (ae (vL Play.enc r_22.1) wz rfl (ae (vL eI r_22.2.1) wz rfl (ae (vI r_22.2.2) wz rfl (ai (af (aa (ae (vL Log_.enc v_16) wz rfl ?_)))))))))))
   obtain ⟨r_24,hr_25,hF⟩:=bind_some hF
   refine aH (uB hr_25) rfl hb10 rfl rfl rfl rfl wz (ae (vL Beat.enc r_7.1) wz rfl ?_)
   obtain ⟨r_26,hr_27,hF⟩:=bind_some hF
   refine aH (sK hr_27) rfl hb54 rfl rfl rfl rfl wz (fw (([r_24,r_26]:List Int).map eI) es90 ez90 rfl rfl rfl rfl rfl wz ?_)
   obtain ⟨r_28,hr_29,hF⟩:=bind_some hF
   refine aH (BM hr_29) rfl hb14 rfl rfl rfl rfl wz (ae (vI r_28) wz rfl (ai (af (af (aa (ae (vI r_28) wz rfl (ae (vB (r_28 != 0)) wz rfl (ai ?_))))))))
   rcases ak hF with⟨hc_30,hF⟩|⟨hc_30,hF⟩
   ·refine ay rfl hc_30 (af ?_)
    obtain ⟨v_31,h_32,hF⟩:=bind_some hF
    refine aG (β:=Unit) (λ_=>([(2,(vB v_31))]:SL_)) (λ_=>([(n_2,some (.cells 2 [(vL eI v_10.2.1),(vI v_10.2.2)])),(n_6,gF 6 Log_.enc v_16)]:Hp)) (λ_=>True) ?_ ?_
    ·refine aa (ae (vI r_22.2.2) wz rfl (ae (vI r_28) wz rfl (ae (vB (r_22.2.2==r_28)) wz rfl ?_)))
     rcases ak h_32 with⟨hc_33,h_32⟩|⟨hc_33,h_32⟩
     ·refine aC rfl hc_33 wz (ae (vL Play.enc r_22.1) wa rfl (eY F9 rfl wa (ae (vL eI r_22.2.1) wa rfl (eY yl rfl wa (ae (vI (w64 ((r_22.1.length:Int)+(r_22.2.1.length:Int)))) wa rfl (ae (vB ((w64 ((r_22.1.length:Int)+(r_22.2.1.length:Int)))==0)) wa rfl (ae (vB ((w64 ((r_22.1.length:Int)+(r_22.2.1.length:Int)))==0)) wz rfl ?_)))))))
      rcases ak h_32 with⟨hc_34,h_32⟩|⟨hc_34,h_32⟩
      ·refine aC rfl hc_34 wz ?_
       obtain ⟨r_35,hr_36,h_32⟩:=bind_some h_32
       refine aH (qL hr_36) rfl hb28 rfl rfl rfl rfl wa (ae (vB r_35) wz rfl (ae (vB r_35) wz rfl (ai ?_)))
       obtain rfl:=ah h_32
       exact cu
      ·refine aC rfl hc_34 wz (aj wa (ae (vB false) wz rfl (ae (vB false) wz rfl (ai ?_))))
       obtain rfl:=ah h_32
       exact cu
     ·refine aC rfl hc_33 wz (aj wa (aj wa (aj wa (aj wa (aj wa (aj wa (ae (vB false) wz rfl (ae (vB false) wz rfl (aj wa (ae (vB false) wz rfl (ae (vB false) wz rfl (ai ?_))))))))))))
      obtain rfl:=ah h_32
      exact cu
    ·rintro ⟨⟩ _ sl_ H_ hp_ hq_
     refine aQ _ hp_ hq_ ?_
     obtain rfl:=ah hF
     exact aB (bu (.inr rfl) [(vB v_31)] ⟨rfl,trivial⟩ rfl rfl rfl)
   ·refine aA rfl hc_30 (av (af (aa (ae (vL Log_.enc v_16) wz rfl (ae (vL Beat.enc r_7.1) wz rfl ?_)))))
    obtain ⟨r_37,hr_38,hF⟩:=bind_some hF
    refine aH (xg hr_38) rfl hb55 rfl rfl rfl rfl wz (ae (.tup [(vL Play.enc r_37.1),(vL eI r_37.2)]) wz rfl (ae (vL Play.enc r_37.1) wz rfl (ae (vL eI r_37.2) wz rfl (ae (vL Play.enc r_37.1) wz rfl (ae (vL eI r_37.2) wz rfl (ai (af ?_)))))))
    obtain ⟨v_39,h_40,hF⟩:=bind_some hF
    refine aG (β:=Unit) (λ_=>([(2,(vB v_39))]:SL_)) (λ_=>([(n_2,some (.cells 2 [(vL eI v_10.2.1),(vI v_10.2.2)])),(n_6,gF 6 Log_.enc v_16)]:Hp)) (λ_=>True) ?_ ?_
    ·refine aa (ae (vI r_22.2.2) wz rfl (ae (vB (r_22.2.2==0)) wz rfl ?_))
     rcases ak h_40 with⟨hc_41,h_40⟩|⟨hc_41,h_40⟩
     ·refine aC rfl hc_41 wz (ae (vL Play.enc r_22.1) wa rfl (ae (vL Play.enc r_37.1) wa rfl ?_))
      obtain ⟨r_42,hr_43,h_40⟩:=bind_some h_40
      refine aH (kw hr_43) rfl hb56 rfl rfl rfl rfl wa (ae (vB r_42) wz rfl ?_)
      rcases ak h_40 with⟨hc_44,h_40⟩|⟨hc_44,h_40⟩
      ·refine aC rfl hc_44 wz (ae (vL eI r_22.2.1) wa rfl (ae (vL eI r_37.2) wa rfl ?_))
       obtain ⟨r_45,hr_46,h_40⟩:=bind_some h_40
       refine aH (nP hr_46) rfl hb38 rfl rfl rfl rfl wa (ae (vB r_45) wz rfl ?_)
       rcases ak h_40 with⟨hc_47,h_40⟩|⟨hc_47,h_40⟩
       ·refine aC rfl hc_47 wz ?_
        obtain ⟨r_48,hr_49,h_40⟩:=bind_some h_40
        refine aH (qL hr_49) rfl hb28 rfl rfl rfl rfl wa (ae (vB r_48) wz rfl (ae (vB r_48) wz rfl (ai ?_)))
        obtain rfl:=ah h_40
        exact cu
       ·refine aC rfl hc_47 wz (aj wa (ae (vB false) wz rfl (ae (vB false) wz rfl (ai ?_))))
        obtain rfl:=ah h_40
        exact cu
      ·refine aC rfl hc_44 wz (aj wa (aj wa (aj wa (ae (vB false) wz rfl (ae (vB false) wz rfl (aj wa (ae (vB false) wz rfl (ae (vB false) wz rfl (ai ?_)))))))))
       obtain rfl:=ah h_40
       exact cu
     ·refine aC rfl hc_41 wz (aj wa (aj wa (aj wa (ae (vB false) wz rfl (ae (vB false) wz rfl (aj wa (aj wa (aj wa (ae (vB false) wz rfl (ae (vB false) wz rfl (aj wa (ae (vB false) wz rfl (ae (vB false) wz rfl (ai ?_))))))))))))))
      obtain rfl:=ah h_40
      exact cu
    ·rintro ⟨⟩ _ sl_ H_ hp_ hq_
     refine aQ _ hp_ hq_ ?_
     obtain rfl:=ah hF
     exact aB (bu (.inr rfl) [(vB v_39)] ⟨rfl,trivial⟩ rfl rfl rfl)
end Go.Proofs.YtdenjndllgahgaaGreatDoor.Law

