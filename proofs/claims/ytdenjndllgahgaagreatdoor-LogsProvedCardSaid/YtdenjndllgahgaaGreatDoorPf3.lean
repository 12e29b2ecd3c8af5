/-
 The machine computes these plain functions (written by a program of ours).
-/
import Derived.Test.YtdenjndllgahgaaGreatDoorFacts
import Derived.Test.YtdenjndllgahgaaGreatDoorDefs
import Derived.Test.YtdenjndllgahgaaGreatDoorPf2
open Go Go.Eng Go.Proofs
namespace Go.Proofs.YtdenjndllgahgaaGreatDoor.Law
set_option maxRecDepth 100000
set_option linter.unusedVariables false
set_option maxHeartbeats 1000000
theorem wQ {l_1:(List Log_)} {i_2:Int} {r:(List ByteArray)×Int} (hF:jW l_1 i_2=some r) :
  FnM Tryz.prog 13 [(vL Log_.enc l_1),(vI i_2)] [] (.tup [(vL eS r.1),(vI r.2)]) []:=by
 refine FnM.of_wH ⟨Tryz.prog,43,[],[]⟩ rfl Tryz.func13 rfl rfl (lb_ rfl) (by kernel_rfl) ?_
 unfold jW at hF
 refine af (aa (ae .nil wz rfl (ae (vI 0) wz rfl (ai (af (af (aa (ae (vL Log_.enc l_1) wz rfl ?_))))))))
 obtain ⟨r_3,hr_4,hF⟩:=bind_some hF
 refine au (lM hr_4) rfl hb39 rfl rfl rfl rfl wz (ae (vI r_3) wz rfl (ai (af (aa (ae (vI r_3) wz rfl (ae (vB (r_3 != 0)) wz rfl (ai ?_)))))))
 rcases aj hF with⟨hc_5,hF⟩|⟨hc_5,hF⟩
 ·refine ay rfl hc_5 (af (aa (ae (vI r_3) wz rfl (ae .nil wz rfl (ae (vI r_3) wz rfl (ai ?_))))))
  obtain rfl:=ah hF
  exact av (aQ (.inr rfl) [.nil,(vI r_3)] ⟨rfl,⟨rfl,trivial⟩⟩ rfl rfl rfl)
 ·refine aA rfl hc_5 (ax (af (af (aa (ae (vI i_2) wz rfl (ae (vL Log_.enc l_1) wz rfl (bS rR rfl wz (ae (vI (w64 ((l_1.length:Int)-1))) wz rfl ?_))))))))
  obtain ⟨r_6,hr_7,hF⟩:=bind_some hF
  refine au (eT hr_7) rfl Bl rfl rfl rfl rfl wz (ai ?_)
  rcases aj hF with⟨hc_8,hF⟩|⟨hc_8,hF⟩
  ·refine ay rfl hc_8 (af (aa (ae .nil wz rfl (ae (vI 1) wz rfl (ai ?_)))))
   obtain rfl:=ah hF
   exact av (aQ (.inr rfl) [.nil,(vI 1)] ⟨rfl,⟨rfl,trivial⟩⟩ rfl rfl rfl)
  ·refine aA rfl hc_8 (ax (af (aa (ae .nil wz rfl (ai (af (af (aa (ae (vL Log_.enc l_1) wz rfl ?_)))))))))
   obtain ⟨r_9,hr_10,hF⟩:=bind_some hF
   refine au (nZ hr_10) rfl hb59 rfl rfl rfl rfl wz (ae (vL eS r_9) wz rfl (ai (mO (λn_17 => ?_))))
   obtain ⟨o_22,hj_23,hF⟩:=bind_some hF
   obtain ⟨nq_36,hj_23⟩:=dV hj_23
   refine aD (β:=((List ByteArray)×Int×(List ByteArray))×Nm) (λp=>(λ(s_16:(List ByteArray)×Int×(List ByteArray)) (n_19:Nm)=>([(7,(gV n_19 1 s_16.1))]:SL_)) p.1 p.2) (λp=>(λ(s_16:(List ByteArray)×Int×(List ByteArray)) (n_19:Nm)=>([(n_19,gB 1 eS s_16.1)]:Hp)) p.1 p.2) (λp=>o_22 = .go p.1) ?_ ?_
   ·refine aF (bI (β:=Nat×((List ByteArray)×Int×(List ByteArray))×Nm) (λp=>(λ(k_11:Nat) (s_16:(List ByteArray)×Int×(List ByteArray)) (n_19:Nm)=>([(1,(vI s_16.2.1)),(7,(gV n_19 1 s_16.1)),(8,(vL eS s_16.2.2))]:SL_)) p.1 p.2.1 p.2.2) (λp=>(λ(k_11:Nat) (s_16:(List ByteArray)×Int×(List ByteArray)) (n_19:Nm)=>([(n_19,gB 1 eS s_16.1)]:Hp)) p.1 p.2.1 p.2.2) (λp=>aZ (λs=>eB s) p.1 p.2.1=some o_22) (λp=>p.1) (nq_36,(([]:List ByteArray),i_2,r_9),n_17) hj_23 rfl (aI rfl) ?_)
    rintro ⟨k_11,s_16,n_19⟩ hL_21
    dsimp only at hL_21
    cases k_11 with
    | zero=>cases hL_21
    | succ k_11 =>
     obtain ⟨c_,hc_20,hL_21⟩:=bind_some hL_21
     unfold eB at hc_20
     refine af (af (aa (ae (vL eS s_16.2.2) wz rfl (bS kM rfl wz (ae (vB (decide ((s_16.2.2.length:Int)>1))) wz rfl (ai ?_))))))
     rcases aj hc_20 with⟨hc_24,hc_20⟩|⟨hc_24,hc_20⟩
     ·refine ay rfl hc_24 (ax (af (aF (af (af (aa (ae (vI s_16.2.1) wz rfl (ae (vI (iH .i64 s_16.2.1 1)) wz rfl (ae (vI (iH .i64 s_16.2.1 1)) wz rfl (ai (af (aa (ae (vI (iH .i64 s_16.2.1 1)) wz rfl (ae (vL eS s_16.2.2) wz rfl (bS kM rfl wz (ae (vB (decide ((iH .i64 s_16.2.1 1)<(s_16.2.2.length:Int)))) wz rfl (ai ?_)))))))))))))))))
      obtain ⟨v_25,h_26,hc_20⟩:=bind_some hc_20
      refine aD (β:=Nm) (λ(n_27:Nm)=>([(1,(vI s_16.2.1)),(7,(gV n_27 1 v_25)),(8,(vL eS s_16.2.2))]:SL_)) (λ(n_27:Nm)=>([(n_27,gB 1 eS v_25)]:Hp)) (λ_=>True) ?_ ?_
      ·rcases aj h_26 with⟨hc_28,h_26⟩|⟨hc_28,h_26⟩
       ·refine ay rfl hc_28 (aa (ae (gV n_19 1 s_16.1) wz rfl (ae (vL eS s_16.2.2) wz rfl (ae (vI (iH .i64 s_16.2.1 1)) wz rfl ?_))))
        obtain ⟨y_29,hy_30,h_26⟩:=bind_some h_26
        refine fB gu rfl rfl hy_30 rfl wz (di sz9 ag9 rfl (vS y_29) rfl wz (dC (([y_29]:List ByteArray).map eS) gu mY rfl rfl rfl rfl rfl wz ?_))
        obtain ⟨a_31,hz_32,h_26⟩:=bind_some h_26
        refine ko 0 il ft (i:=0) l9 l9 sz9 z9 rfl (by decide) by9 (by decide) (λ_=>rfl) rfl rfl rfl hz_32 wz (λn_33=>ae (gV n_33 1 a_31) wz rfl (ai ?_))
        obtain rfl:=ah h_26
        exact bg n_33 trivial rfl (aI rfl)
       ·refine aA rfl hc_28 (ax ?_)
        obtain rfl:=ah h_26
        exact bg n_19 trivial rfl (aI rfl)
      ·rintro n_27 _ sl_ H_ hp_ hq_
       refine aL _ hp_ hq_ (aa (ae (vI s_16.2.1) wz rfl (ae (vI (w64 (s_16.2.1.tdiv 2))) wz rfl (ae (vI (w64 (s_16.2.1.tdiv 2))) wz rfl (ai (aa (ae (vL eS s_16.2.2) wz rfl ?_)))))))
       obtain ⟨r_34,hr_35,hc_20⟩:=bind_some hc_20
       refine au (nX hr_35) rfl hb61 rfl rfl rfl rfl wz (ae (vL eS r_34) wz rfl (ai ?_))
       obtain rfl:=ah hc_20
       exact bB (k_11,(v_25,(w64 (s_16.2.1.tdiv 2)),r_34),n_27) hL_21 (ls_ _) rfl (aI rfl)
     ·refine aA rfl hc_24 (bA ?_)
      obtain rfl:=ah hc_20
      obtain rfl:=ah hL_21
      exact bg ((s_16.1,s_16.2.1,s_16.2.2),n_19) rfl rfl (aI rfl)
   ·rintro ⟨s_16,n_19⟩ ho_ sl_ H_ hp_ hq_
    subst ho_
    refine aL _ hp_ hq_ (af (aa (ae (gV n_19 1 s_16.1) wz rfl (ae (gV n_19 1 s_16.1) wz rfl (ae (vI 0) wz rfl (ai (iO 0 rfl (dQ 4 0 rfl rfl (dQ 7 0 rfl rfl (dQ 42 0 rfl rfl ?_))))))))))
    obtain rfl:=ah hF
    exact av (aQ (.inr rfl) [(vL eS s_16.1),(vI 0)] ⟨rfl,⟨rfl,trivial⟩⟩ rfl rfl rfl)
theorem dI {is_1:Bool} {e_2:Int} {r:Int} (hF:bz is_1 e_2=some r) :
  FnM Tryz.prog 15 [(vB is_1),(vI e_2)] [] (vI r) []:=by
 refine FnM.of_wH ⟨Tryz.prog,7,[],[]⟩ rfl Tryz.func15 rfl rfl (lb_ rfl) (by kernel_rfl) ?_
 unfold bz at hF
 refine af (aa (ae (vI 0) wz rfl (ai (af (af (aa (ae (vB is_1) wz rfl (ai ?_))))))))
 rcases aj hF with⟨hc_3,hF⟩|⟨hc_3,hF⟩
 ·refine ay rfl hc_3 (af (aa (ae (vI e_2) wz rfl (ae (vI e_2) wz rfl (ai ?_)))))
  obtain rfl:=ah hF
  exact av (aQ (.inr rfl) [(vI e_2)] ⟨rfl,trivial⟩ rfl rfl rfl)
 ·refine aA rfl hc_3 (ax (af (aa (ae (vI 0) wz rfl (ai ?_)))))
  obtain rfl:=ah hF
  exact av (aQ (.inr rfl) [(vI 0)] ⟨rfl,trivial⟩ rfl rfl rfl)
theorem gU {l_1:(List Int)} {r:Int} (hF:dF l_1=some r) :
  FnM Tryz.prog 14 [(vL eI l_1)] [] (vI r) []:=by
 refine FnM.of_wH ⟨Tryz.prog,15,[],[]⟩ rfl Tryz.func14 rfl rfl (lb_ rfl) (by kernel_rfl) ?_
 unfold dF at hF
 refine af (aa (ae (vI 0) wz rfl (ai (af (af (aa (ae (vL eI l_1) wz rfl (bS un90 rfl wz (ae (vI 0) wz rfl (ai ?_))))))))))
 obtain ⟨o_10,hj_11,hF⟩:=bind_some hF
 obtain ⟨hn_6,hj_11⟩:=dx hj_11
 refine aD (β:=(Unit)) (λ(s_7:Unit)=>([]:SL_)) (λ(s_7:Unit)=>([]:Hp)) (λp=>o_10 = .go p) ?_ ?_
 ·refine aF (bI (β:=Nat×(List Int)×(Unit)) (λp=>(λ(k_2:Nat) (l_3:List Int) (s_7:Unit)=>([(5,(vL eI l_1)),(6,(vI (l_1.length:Int))),(7,(vI (k_2:Int)))]:SL_)) p.1 p.2.1 p.2.2) (λp=>(λ(k_2:Nat) (l_3:List Int) (s_7:Unit)=>([]:Hp)) p.1 p.2.1 p.2.2) (λp=>dW (λk x s=>ic k x s) p.2.1 p.1 p.2.2=some o_10/\(l_1).drop p.1=p.2.1) (λp=>p.2.1.length) (0,l_1,()) ⟨hj_11,rfl⟩ rfl (aI rfl) ?_)
  rintro ⟨k_2,l_3,s_7⟩ ⟨hL_9,hD_5⟩
  dsimp only at hL_9 hD_5
  cases l_3 with
  | nil =>
   obtain rfl:=ah hL_9
   refine af (aa (ae (vB (decide ((k_2:Int)<(l_1.length:Int)))) wz rfl (ai ?_)))
   refine af (aA rfl (drop_nil hD_5) (bA ?_))
   exact bg (s_7) rfl rfl (aI rfl)
  | cons x_4 l_3 =>
   obtain ⟨c_,hc_8,hL_9⟩:=bind_some hL_9
   refine af (aa (ae (vB (decide ((k_2:Int)<(l_1.length:Int)))) wz rfl (ai ?_)))
   refine af (ay rfl (eG hD_5) (ax ?_))
   unfold ic at hc_8
   refine af (aF (af (aa (fB zy rfl rfl (fe hD_5) rfl wz (di sz28 ag28 rfl (vI x_4) rfl wz (ae (vI x_4) wz rfl (ai (af (aa (ae (vI x_4) wz rfl (ae (vB (x_4 != 0)) wz rfl (ai ?_))))))))))))
   rcases aj hc_8 with⟨hc_12,hc_8⟩|⟨hc_12,hc_8⟩
   ·refine ay rfl hc_12 (af (aa (ae (vI x_4) wz rfl (ae (vI x_4) wz rfl (ai ?_)))))
    obtain rfl:=ah hc_8
    obtain rfl:=ah hL_9
    obtain rfl:=ah hF
    exact av (aQ (.inr rfl) [(vI x_4)] ⟨rfl,trivial⟩ rfl rfl rfl)
   ·refine aA rfl hc_12 (ax (aa (kF (fu hD_5 hn_6) wz rfl (ae (vI ((k_2+1:Nat):Int)) wz rfl (ai ?_)))))
    obtain rfl:=ah hc_8
    exact bB (k_2+1,l_3,()) ⟨hL_9,bT hD_5⟩ (ls_ _) rfl (aI rfl)
 ·rintro s_7 ho_ sl_ H_ hp_ hq_
  subst ho_
  refine aL _ hp_ hq_ (af (aa (ae (vI 0) wz rfl (ai ?_))))
  obtain rfl:=ah hF
  exact av (aQ (.inr rfl) [(vI 0)] ⟨rfl,trivial⟩ rfl rfl rfl)
theorem wV {l_1:(List Log_)} {i_2:Int} {r:(List ByteArray)} (hF:jU l_1 i_2=some r) :
  FnM Tryz.prog 16 [(vL Log_.enc l_1),(vI i_2)] [] (vL eS r) []:=by
 refine FnM.of_wH ⟨Tryz.prog,31,[],[]⟩ rfl Tryz.func16 rfl rfl (lb_ rfl) (by kernel_rfl) ?_
 unfold jU at hF
 refine af (aa (ae .nil wz rfl (ai (af (aa (ae .nil wz rfl (ai (af (af (aa (ae (vL Log_.enc l_1) wz rfl ?_)))))))))))
 obtain ⟨r_3,hr_4,hF⟩:=bind_some hF
 refine au (ql hr_4) rfl hb63 rfl rfl rfl rfl wz (ae (vL eS r_3) wz rfl (ai (mO (λn_11 => ?_))))
 obtain ⟨o_16,hj_17,hF⟩:=bind_some hF
 obtain ⟨nq_30,hj_17⟩:=dV hj_17
 refine aD (β:=((List ByteArray)×Int×(List ByteArray))×Nm) (λp=>(λ(s_10:(List ByteArray)×Int×(List ByteArray)) (n_13:Nm)=>([(5,(gV n_13 1 s_10.1))]:SL_)) p.1 p.2) (λp=>(λ(s_10:(List ByteArray)×Int×(List ByteArray)) (n_13:Nm)=>([(n_13,gB 1 eS s_10.1)]:Hp)) p.1 p.2) (λp=>o_16 = .go p.1) ?_ ?_
 ·refine aF (bI (β:=Nat×((List ByteArray)×Int×(List ByteArray))×Nm) (λp=>(λ(k_5:Nat) (s_10:(List ByteArray)×Int×(List ByteArray)) (n_13:Nm)=>([(1,(vI s_10.2.1)),(5,(gV n_13 1 s_10.1)),(6,(vL eS s_10.2.2))]:SL_)) p.1 p.2.1 p.2.2) (λp=>(λ(k_5:Nat) (s_10:(List ByteArray)×Int×(List ByteArray)) (n_13:Nm)=>([(n_13,gB 1 eS s_10.1)]:Hp)) p.1 p.2.1 p.2.2) (λp=>aZ (λs=>fH s) p.1 p.2.1=some o_16) (λp=>p.1) (nq_30,(([]:List ByteArray),i_2,r_3),n_11) hj_17 rfl (aI rfl) ?_)
  rintro ⟨k_5,s_10,n_13⟩ hL_15
  dsimp only at hL_15
  cases k_5 with
  | zero=>cases hL_15
  | succ k_5 =>
   obtain ⟨c_,hc_14,hL_15⟩:=bind_some hL_15
   unfold fH at hc_14
   refine af (af (aa (ae (vL eS s_10.2.2) wz rfl (bS kM rfl wz (ae (vB (decide ((s_10.2.2.length:Int)>1))) wz rfl (ai ?_))))))
   rcases aj hc_14 with⟨hc_18,hc_14⟩|⟨hc_18,hc_14⟩
   ·refine ay rfl hc_18 (ax (af (aF (af (aa (ae (vI s_10.2.1) wz rfl (ae (vI (iH .i64 s_10.2.1 1)) wz rfl (ae (vI (iH .i64 s_10.2.1 1)) wz rfl (ai (af (aa (ae (vI (iH .i64 s_10.2.1 1)) wz rfl (ae (vL eS s_10.2.2) wz rfl (bS kM rfl wz (ae (vB (decide ((iH .i64 s_10.2.1 1)<(s_10.2.2.length:Int)))) wz rfl (ai ?_))))))))))))))))
    obtain ⟨v_19,h_20,hc_14⟩:=bind_some hc_14
    refine aD (β:=Nm) (λ(n_21:Nm)=>([(1,(vI s_10.2.1)),(5,(gV n_21 1 v_19)),(6,(vL eS s_10.2.2))]:SL_)) (λ(n_21:Nm)=>([(n_21,gB 1 eS v_19)]:Hp)) (λ_=>True) ?_ ?_
    ·rcases aj h_20 with⟨hc_22,h_20⟩|⟨hc_22,h_20⟩
     ·refine ay rfl hc_22 (aa (ae (gV n_13 1 s_10.1) wz rfl (ae (vL eS s_10.2.2) wz rfl (ae (vI (iH .i64 s_10.2.1 1)) wz rfl ?_))))
      obtain ⟨y_23,hy_24,h_20⟩:=bind_some h_20
      refine fB gu rfl rfl hy_24 rfl wz (di sz9 ag9 rfl (vS y_23) rfl wz (dC (([y_23]:List ByteArray).map eS) gu mY rfl rfl rfl rfl rfl wz ?_))
      obtain ⟨a_25,hz_26,h_20⟩:=bind_some h_20
      refine ko 0 il ft (i:=0) l9 l9 sz9 z9 rfl (by decide) by9 (by decide) (λ_=>rfl) rfl rfl rfl hz_26 wz (λn_27=>ae (gV n_27 1 a_25) wz rfl (ai ?_))
      obtain rfl:=ah h_20
      exact bg n_27 trivial rfl (aI rfl)
     ·refine aA rfl hc_22 (ax ?_)
      obtain rfl:=ah h_20
      exact bg n_13 trivial rfl (aI rfl)
    ·rintro n_21 _ sl_ H_ hp_ hq_
     refine aL _ hp_ hq_ (aa (ae (vL eS s_10.2.2) wz rfl ?_))
     obtain ⟨r_28,hr_29,hc_14⟩:=bind_some hc_14
     refine au (qx hr_29) rfl hb64 rfl rfl rfl rfl wz (ae (vI s_10.2.1) wz rfl (ae (vI (w64 (s_10.2.1.tdiv 2))) wz rfl (ae (vL eS r_28) wz rfl (ae (vI (w64 (s_10.2.1.tdiv 2))) wz rfl (ai ?_)))))
     obtain rfl:=ah hc_14
     exact bB (k_5,(v_19,(w64 (s_10.2.1.tdiv 2)),r_28),n_21) hL_15 (ls_ _) rfl (aI rfl)
   ·refine aA rfl hc_18 (bA ?_)
    obtain rfl:=ah hc_14
    obtain rfl:=ah hL_15
    exact bg ((s_10.1,s_10.2.1,s_10.2.2),n_13) rfl rfl (aI rfl)
 ·rintro ⟨s_10,n_13⟩ ho_ sl_ H_ hp_ hq_
  subst ho_
  refine aL _ hp_ hq_ (af (aa (ae (gV n_13 1 s_10.1) wz rfl (ae (gV n_13 1 s_10.1) wz rfl (ai (iO 0 rfl (dQ 4 0 rfl rfl (dQ 5 0 rfl rfl (dQ 30 0 rfl rfl ?_)))))))))
  obtain rfl:=ah hF
  exact av (aQ (.inr rfl) [(vL eS s_10.1)] ⟨rfl,trivial⟩ rfl rfl rfl)
theorem kJ {s1_1:(List ByteArray)} {s2_2:(List ByteArray)} {r:Bool} (hF:bO s1_1 s2_2=some r) :
  FnM Tryz.prog 17 [(vL eS s1_1),(vL eS s2_2)] [] (vB r) []:=by
 refine FnM.of_wH ⟨Tryz.prog,26,[],[]⟩ rfl Tryz.func17 rfl rfl (lb_ rfl) (by kernel_rfl) ?_
 unfold bO at hF
 refine af (aa (ae (vB false) wz rfl (ai (af (af (aa (ae (vL eS s1_1) wz rfl (bS kM rfl wz (ae (vL eS s2_2) wz rfl (bS kM rfl wz (ae (vB ((s1_1.length:Int) != (s2_2.length:Int))) wz rfl (ai ?_))))))))))))
 rcases aj hF with⟨hc_3,hF⟩|⟨hc_3,hF⟩
 ·refine ay rfl hc_3 (af (aa (ae (vB false) wz rfl (ai ?_))))
  obtain rfl:=ah hF
  exact av (aQ (.inr rfl) [(vB false)] ⟨rfl,trivial⟩ rfl rfl rfl)
 ·refine aA rfl hc_3 (ax (af (af (aa (ae (vL eS s1_1) wz rfl (bS kM rfl wz (ae (vI 0) wz rfl (ai ?_))))))))
  obtain ⟨o_12,hj_13,hF⟩:=bind_some hF
  obtain ⟨hn_8,hj_13⟩:=dx hj_13
  refine aD (β:=(Unit)) (λ(s_9:Unit)=>([]:SL_)) (λ(s_9:Unit)=>([]:Hp)) (λp=>o_12 = .go p) ?_ ?_
  ·refine aF (bI (β:=Nat×(List ByteArray)×(Unit)) (λp=>(λ(k_4:Nat) (l_5:List ByteArray) (s_9:Unit)=>([(0,(vL eS s1_1)),(1,(vL eS s2_2)),(12,(vI (s1_1.length:Int))),(13,(vI (k_4:Int)))]:SL_)) p.1 p.2.1 p.2.2) (λp=>(λ(k_4:Nat) (l_5:List ByteArray) (s_9:Unit)=>([]:Hp)) p.1 p.2.1 p.2.2) (λp=>dW (λk x s=>aY s2_2 k x s) p.2.1 p.1 p.2.2=some o_12/\(s1_1).drop p.1=p.2.1) (λp=>p.2.1.length) (0,s1_1,()) ⟨hj_13,rfl⟩ rfl (aI rfl) ?_)
   rintro ⟨k_4,l_5,s_9⟩ ⟨hL_11,hD_7⟩
   dsimp only at hL_11 hD_7
   cases l_5 with
   | nil =>
    obtain rfl:=ah hL_11
    refine af (aa (ae (vB (decide ((k_4:Int)<(s1_1.length:Int)))) wz rfl (ai ?_)))
    refine af (aA rfl (drop_nil hD_7) (bA ?_))
    exact bg (s_9) rfl rfl (aI rfl)
   | cons x_6 l_5 =>
    obtain ⟨c_,hc_10,hL_11⟩:=bind_some hL_11
    refine af (aa (ae (vB (decide ((k_4:Int)<(s1_1.length:Int)))) wz rfl (ai ?_)))
    refine af (ay rfl (eG hD_7) (ax ?_))
    unfold aY at hc_10
    refine af (aF (af (aa (ae (vI (k_4:Int)) wz rfl (ae (vI (k_4:Int)) wz rfl (ai (af (dw (ae (vL eS s1_1) wz rfl (ae (vI (k_4:Int)) wz rfl (fB gu rfl rfl (fe hD_7) rfl wz (di sz9 ag9 rfl (vS x_6) rfl wz (ae (vL eS s2_2) wz rfl (ae (vI (k_4:Int)) wz rfl ?_))))))))))))))
    obtain ⟨y_14,hy_15,hc_10⟩:=bind_some hc_10
    refine fB gu rfl rfl hy_15 rfl wz (di sz9 ag9 rfl (vS y_14) rfl wz (ae (vB (sNe x_6 y_14)) wz rfl (ai ?_)))
    rcases aj hc_10 with⟨hc_16,hc_10⟩|⟨hc_16,hc_10⟩
    ·refine ay rfl hc_16 (af (aa (ae (vB false) wz rfl (ai ?_))))
     obtain rfl:=ah hc_10
     obtain rfl:=ah hL_11
     obtain rfl:=ah hF
     exact av (aQ (.inr rfl) [(vB false)] ⟨rfl,trivial⟩ rfl rfl rfl)
    ·refine aA rfl hc_16 (ax (aa (kF (fu hD_7 hn_8) wz rfl (ae (vI ((k_4+1:Nat):Int)) wz rfl (ai ?_)))))
     obtain rfl:=ah hc_10
     exact bB (k_4+1,l_5,()) ⟨hL_11,bT hD_7⟩ (ls_ _) rfl (aI rfl)
  ·rintro s_9 ho_ sl_ H_ hp_ hq_
   subst ho_
   refine aL _ hp_ hq_ (af (aa (ae (vB true) wz rfl (ai ?_))))
   obtain rfl:=ah hF
   exact av (aQ (.inr rfl) [(vB true)] ⟨rfl,trivial⟩ rfl rfl rfl)
theorem jN {s_1:(List ByteArray)} {r:(List ByteArray)} (hF:bM s_1=some r) :
  FnM Tryz.prog 20 [(vL eS s_1)] [] (gV (aG 0) 1 r) (([]:List Box).map some++gO 1 eS r):=by
 refine FnM.of_wH ⟨Tryz.prog,8,[],[]⟩ rfl Tryz.func20 rfl rfl (lb_ rfl) (by kernel_rfl) ?_
 unfold bM at hF
 refine af (aa (ae .nil wz rfl (ai (af (af (aa (ae (vL eS s_1) wz rfl (h_nileq kM rfl wz (λb_2 hb_3=>ai ?_)))))))))
 cases b_2 with
 | true =>
  refine ay rfl rfl ?_
  obtain rfl:=hb_3 rfl
  replace hF:=CX hF
  refine af (aa (ae .nil wz rfl (ai (mO (λn_4 => ?_)))))
  obtain rfl:=ah hF
  exact av (finG (outs:=([]:List Box)) (.inr rfl) 0 rfl rfl rfl (by kernel_rfl) (by kernel_rfl))
 | false =>
  refine aA rfl rfl (ax (af (aa (h_lit0 gu mY rfl wz (ae (vL eS s_1) wz rfl ?_)))))
  obtain ⟨a_5,hz_6,hF⟩:=bind_some hF
  refine h_appn 0 (.inl rfl) l9 l9 sz9 z9 rfl (by decide) by9 (by decide) (λ_=>rfl) rfl rfl hz_6 wz (λn_7=>ae (gV n_7 1 a_5) wz rfl (ai ?_))
  obtain rfl:=ah hF
  exact av (finG (outs:=([]:List Box)) (.inr rfl) 0 rfl rfl rfl (by kernel_rfl) (by kernel_rfl))
theorem nM {s_1:ByteArray} {r:Bool} (hF:d9 s_1=some r) :
  FnM Tryz.prog 112 [(vS s_1)] [] (vB r) []:=by
 refine FnM.of_wH ⟨Tryz.prog,6,[],[]⟩ rfl Tryz.func112 rfl rfl (lb_ rfl) (by kernel_rfl) ?_
 unfold d9 at hF
 refine af (aa (ae (vB false) wz rfl (ai (af (aa (ae (vS s_1) wz rfl ?_))))))
 obtain ⟨r_2,hr_3,hF⟩:=bind_some hF
 refine au (iX hr_3) rfl hb84 rfl rfl rfl rfl wz (ae (vB (!r_2)) wz rfl (ae (vB (!r_2)) wz rfl (ai ?_)))
 obtain rfl:=ah hF
 exact av (aQ (.inr rfl) [(vB (!r_2))] ⟨rfl,trivial⟩ rfl rfl rfl)
theorem jq {s_1:(List ByteArray)} {f_2:ByteArray->Option Bool} {r:Int} {gid:FuncId} {caps:List V} {Sin:List Box} (hfn:∀x0 r,f_2 x0=some r->FnM Tryz.prog gid ([(vS x0)]++caps) Sin (vB r) (Sin.map some)) (hbF:aB Tryz.prog gid=true) (hcapF:caps.flatMap frz=[]/\caps.map co0=caps) (hokF:okL Sin.length caps=true) (hsF:∀b∈Sin,b.ok Sin.length=true) (hmF:∀b∈Sin,b.mut=true) (hF:cz s_1 f_2=some r) :
  FnM Tryz.prog 73 [(vL eS s_1),(.fn gid caps)] Sin (vI r) (Sin.map some):=by
 refine FnM.of_wH ⟨Tryz.prog,19,[],[]⟩ rfl Tryz.func73 rfl rfl (lb_ rfl) (by kernel_rfl) ?_
 unfold cz at hF
 refine af (aa (ae (vI 0) wz rfl (ai (af (af (aa (ae (vL eS s_1) wz rfl (bS kM rfl wz (ae (vI 0) wz rfl (ai ?_))))))))))
 obtain ⟨o_11,hj_12,hF⟩:=bind_some hF
 obtain ⟨hn_7,hj_12⟩:=dx hj_12
 refine aD (β:=(Unit)) (λ(s_8:Unit)=>([]:SL_)) (λ(s_8:Unit)=>(kZ 0 Sin)) (λp=>o_11 = .go p) ?_ ?_
 ·refine aF (bI (β:=Nat×(List ByteArray)×(Unit)) (λp=>(λ(k_3:Nat) (l_4:List ByteArray) (s_8:Unit)=>([(0,(vL eS s_1)),(1,(.fn gid caps)),(7,(vI (s_1.length:Int))),(8,(vI (k_3:Int)))]:SL_)) p.1 p.2.1 p.2.2) (λp=>(λ(k_3:Nat) (l_4:List ByteArray) (s_8:Unit)=>(kZ 0 Sin)) p.1 p.2.1 p.2.2) (λp=>dW (λk x s=>aP f_2 k x s) p.2.1 p.1 p.2.2=some o_11/\(s_1).drop p.1=p.2.1) (λp=>p.2.1.length) (0,s_1,()) ⟨hj_12,rfl⟩ rfl (vU _) ?_)
  rintro ⟨k_3,l_4,s_8⟩ ⟨hL_10,hD_6⟩
  dsimp only at hL_10 hD_6
  cases l_4 with
  | nil =>
   obtain rfl:=ah hL_10
   refine af (aa (ae (vB (decide ((k_3:Int)<(s_1.length:Int)))) wz rfl (ai ?_)))
   refine af (aA rfl (drop_nil hD_6) (bA ?_))
   exact bg (s_8) rfl rfl (vU _)
  | cons x_5 l_4 =>
   obtain ⟨c_,hc_9,hL_10⟩:=bind_some hL_10
   refine af (aa (ae (vB (decide ((k_3:Int)<(s_1.length:Int)))) wz rfl (ai ?_)))
   refine af (ay rfl (eG hD_6) (ax ?_))
   unfold aP at hc_9
   refine af (aF (af (aa (ae (vI (k_3:Int)) wz rfl (ae (vI (k_3:Int)) wz rfl (ai (af (aa (ae (.fn gid caps) wz rfl (ae (vL eS s_1) wz rfl (ae (vI (k_3:Int)) wz rfl (fB gu rfl rfl (fe hD_6) rfl wz (di sz9 ag9 rfl (vS x_5) rfl wz ?_)))))))))))))
   obtain ⟨r_13,hr_14,hc_9⟩:=bind_some hc_9
   refine BR (hfn _ _ hr_14) rfl hbF rfl rfl hcapF hokF hsF hmF rfl wz rfl (ai ?_)
   rcases aj hc_9 with⟨hc_15,hc_9⟩|⟨hc_15,hc_9⟩
   ·refine ay rfl hc_15 (af (aa (ae (vI (k_3:Int)) wz rfl (ae (vI (k_3:Int)) wz rfl (ai ?_)))))
    obtain rfl:=ah hc_9
    obtain rfl:=ah hL_10
    obtain rfl:=ah hF
    exact av (finS hsF (.inr rfl) [(vI (k_3:Int))] ⟨rfl,trivial⟩ rfl rfl rfl)
   ·refine aA rfl hc_15 (ax (aa (kF (fu hD_6 hn_7) wz rfl (ae (vI ((k_3+1:Nat):Int)) wz rfl (ai ?_)))))
    obtain rfl:=ah hc_9
    exact bB (k_3+1,l_4,()) ⟨hL_10,bT hD_6⟩ (ls_ _) rfl (vU _)
 ·rintro s_8 ho_ sl_ H_ hp_ hq_
  subst ho_
  refine aL _ hp_ hq_ (af (aa (ae (vI (-1)) wz rfl (ai ?_))))
  obtain rfl:=ah hF
  exact av (finS hsF (.inr rfl) [(vI (-1))] ⟨rfl,trivial⟩ rfl rfl rfl)
theorem dY {s_1:(List ByteArray)} {f_2:ByteArray->Option Bool} {r:Bool} {gid:FuncId} {caps:List V} {Sin:List Box} (hfn:∀x0 r,f_2 x0=some r->FnM Tryz.prog gid ([(vS x0)]++caps) Sin (vB r) (Sin.map some)) (hbF:aB Tryz.prog gid=true) (hcapF:caps.flatMap frz=[]/\caps.map co0=caps) (hokF:okL Sin.length caps=true) (hsF:∀b∈Sin,b.ok Sin.length=true) (hmF:∀b∈Sin,b.mut=true) (hF:aS s_1 f_2=some r) :
  FnM Tryz.prog 25 [(vL eS s_1),(.fn gid caps)] Sin (vB r) (Sin.map some):=by
 refine FnM.of_wH ⟨Tryz.prog,9,[],[]⟩ rfl Tryz.func25 rfl rfl (lb_ rfl) (by kernel_rfl) ?_
 unfold aS at hF
 refine af (aa (ae (vB false) wz rfl (ai (af (aa (ae (vL eS s_1) wz rfl (ae (.fn gid caps) wz rfl ?_)))))))
 obtain ⟨r_3,hr_4,hF⟩:=bind_some hF
 refine BR (jq (gid:=gid) (caps:=caps) (Sin:=Sin) hfn hbF hcapF hokF hsF hmF hr_4) rfl hb73 rfl rfl ⟨rfl,rfl⟩ (by simp [okL,okV,hokF]) hsF hmF rfl wz rfl (ae (vB (decide (r_3>=0))) wz rfl (ae (vB (decide (r_3>=0))) wz rfl (ai ?_)))
 obtain rfl:=ah hF
 exact av (finS hsF (.inr rfl) [(vB (decide (r_3>=0)))] ⟨rfl,trivial⟩ rfl rfl rfl)
theorem o5 {root_1:ByteArray} {many_2:Int} {i_3:Int} {l_4:Log_} {path_5:(List ByteArray)} {r:Int} (hF:fA root_1 many_2 i_3 l_4 path_5=some r) :
  FnM Tryz.prog 66 [(vS root_1),(vI many_2),(vI i_3),(.d (.agg (Log_.enc l_4))),(vL eS path_5)] [] (vI r) []:=by
 refine FnM.of_wH ⟨Tryz.prog,36,[],[]⟩ rfl Tryz.func66 rfl rfl (lb_ rfl) (by kernel_rfl) ?_
 unfold fA at hF
 refine af (aa (kN 0 (.inl rfl) [(vS l_4.Player),(vS l_4.Item),(vI l_4.No),(vI l_4.Clock),(vI l_4.Long),(vS l_4.Sum)] rfl rfl wz (λn_6=>ae (vI 0) wz rfl (ai (af (af (aa (ae (vS root_1) wz rfl ?_))))))))
 obtain ⟨r_7,hr_8,hF⟩:=bind_some hF
 refine au (iX hr_8) rfl hb84 rfl rfl rfl rfl wz (ae (vB (!r_7)) wz rfl (ai ?_))
 rcases aj hF with⟨hc_9,hF⟩|⟨hc_9,hF⟩
 ·refine ay rfl hc_9 (af (aa (ae (vI 3) wz rfl (ai ?_))))
  obtain rfl:=ah hF
  exact av (aQ (.inr rfl) [(vI 3)] ⟨rfl,trivial⟩ rfl rfl rfl)
 ·refine aA rfl hc_9 (ax (af (af ?_)))
  obtain ⟨v_10,h_11,hF⟩:=bind_some hF
  refine aD (β:=Unit) (λ_=>([(4,(vL eS path_5)),(8,(.ref n_6 0 0)),(22,(vB v_10))]:SL_)) (λ_=>([(n_6,some (.cells 6 [(vS l_4.Player),(vS l_4.Item),(vI l_4.No),(vI l_4.Clock),(vI l_4.Long),(vS l_4.Sum)]))]:Hp)) (λ_=>True) ?_ ?_
  ·refine aa (ae (vI many_2) wz rfl ?_)
   obtain ⟨r_12,hr_13,h_11⟩:=bind_some h_11
   refine au (eT hr_13) rfl Bl rfl rfl rfl rfl wz ?_
   rcases aj h_11 with⟨hc_14,h_11⟩|⟨hc_14,h_11⟩
   ·refine aC rfl hc_14 wz (ak wa (ak wa (ak wa (ak wa (ae (vB true) wz rfl (ai ?_))))))
    obtain rfl:=ah h_11
    exact cu
   ·refine aC rfl hc_14 wz (ae (vI i_3) wa rfl (ae (vI many_2) wa rfl (ae (vI (w64 (many_2-1))) wa rfl ?_)))
    obtain ⟨r_15,hr_16,h_11⟩:=bind_some h_11
    refine au (eT hr_16) rfl Bl rfl rfl rfl rfl wa (ae (vB r_15) wz rfl (ai ?_))
    obtain rfl:=ah h_11
    exact cu
  ·rintro ⟨⟩ _ sl_ H_ hp_ hq_
   refine aL _ hp_ hq_ ?_
   rcases aj hF with⟨hc_17,hF⟩|⟨hc_17,hF⟩
   ·refine ay rfl hc_17 (af (aa (ae (vI 1) wz rfl (ai ?_))))
    obtain rfl:=ah hF
    exact av (aQ (.inr rfl) [(vI 1)] ⟨rfl,trivial⟩ rfl rfl rfl)
   ·refine aA rfl hc_17 (ax (af (af (aa (aK 0 0 il ft gP jK rfl rfl (.d (.agg (Log_.enc l_4))) rfl wz ?_)))))
    obtain ⟨r_18,hr_19,hF⟩:=bind_some hF
    refine au (mf hr_19) rfl hb83 rfl rfl rfl rfl wz (ae (vI r_18) wz rfl (ai (af (aa (ae (vI r_18) wz rfl (ae (vB (r_18 != 0)) wz rfl (ai ?_)))))))
    rcases aj hF with⟨hc_20,hF⟩|⟨hc_20,hF⟩
    ·refine ay rfl hc_20 (af (aa (ae (vI r_18) wz rfl (ae (vI r_18) wz rfl (ai ?_)))))
     obtain rfl:=ah hF
     exact av (aQ (.inr rfl) [(vI r_18)] ⟨rfl,trivial⟩ rfl rfl rfl)
    ·refine aA rfl hc_20 (ax (af (af ?_)))
     obtain ⟨v_21,h_22,hF⟩:=bind_some hF
     refine aD (β:=Unit) (λ_=>([(35,(vB v_21))]:SL_)) (λ_=>([(n_6,some (.cells 6 [(vS l_4.Player),(vS l_4.Item),(vI l_4.No),(vI l_4.Clock),(vI l_4.Long),(vS l_4.Sum)]))]:Hp)) (λ_=>True) ?_ ?_
     ·refine aa (aN jH rfl 5 rfl wz (aK 0 0 il ft sz9 ag9 rfl rfl (vS l_4.Sum) rfl wz ?_))
      obtain ⟨r_23,hr_24,h_22⟩:=bind_some h_22
      refine au (iX hr_24) rfl hb84 rfl rfl rfl rfl wz (ae (vB (!r_23)) wz rfl ?_)
      rcases aj h_22 with⟨hc_25,h_22⟩|⟨hc_25,h_22⟩
      ·refine aC rfl hc_25 wz (ak wa (ak wa (ae (vB true) wz rfl (ai ?_))))
       obtain rfl:=ah h_22
       exact cu
      ·refine aC rfl hc_25 wz (ae (vL eS path_5) wa rfl ?_)
       obtain ⟨r_26,hr_27,h_22⟩:=bind_some h_22
       refine au (dY (gid:=112) (caps:=[]) (Sin:=[]) (λ_ _ h_=>nM h_) hb112 ⟨rfl,rfl⟩ (by kernel_rfl) (Eo (by kernel_rfl)) (Ca (by kernel_rfl)) hr_27) rfl hb25 rfl rfl rfl rfl wa (ae (vB r_26) wz rfl (ai ?_))
       obtain rfl:=ah h_22
       exact cu
     ·rintro ⟨⟩ _ sl_ H_ hp_ hq_
      refine aL _ hp_ hq_ ?_
      rcases aj hF with⟨hc_28,hF⟩|⟨hc_28,hF⟩
      ·refine ay rfl hc_28 (af (aa (ae (vI 3) wz rfl (ai ?_))))
       obtain rfl:=ah hF
       exact av (aQ (.inr rfl) [(vI 3)] ⟨rfl,trivial⟩ rfl rfl rfl)
      ·refine aA rfl hc_28 (ax (af (aa (ae (vI 0) wz rfl (ai ?_)))))
       obtain rfl:=ah hF
       exact av (aQ (.inr rfl) [(vI 0)] ⟨rfl,trivial⟩ rfl rfl rfl)
theorem ul {root_1:ByteArray} {many_2:Int} {i_3:Int} {l_4:Log_} {path_5:(List ByteArray)} {r:Bool×Int} (hF:jB root_1 many_2 i_3 l_4 path_5=some r) :
  FnM Tryz.prog 22 [(vS root_1),(vI many_2),(vI i_3),(.d (.agg (Log_.enc l_4))),(vL eS path_5)] [] (.tup [(vB r.1),(vI r.2)]) []:=by
 refine FnM.of_wH ⟨Tryz.prog,62,[],[]⟩ rfl Tryz.func22 rfl rfl (lb_ rfl) (by kernel_rfl) ?_
 unfold jB at hF
 refine af (aa (kN 0 (.inl rfl) [(vS l_4.Player),(vS l_4.Item),(vI l_4.No),(vI l_4.Clock),(vI l_4.Long),(vS l_4.Sum)] rfl rfl wz (λn_6=>ae (vB false) wz rfl (ae (vI 0) wz rfl (ai (af (af (aa (ae (vS root_1) wz rfl (ae (vI many_2) wz rfl (ae (vI i_3) wz rfl (aK 0 0 il ft gP jK rfl rfl (.d (.agg (Log_.enc l_4))) rfl wz (ae (vL eS path_5) wz rfl ?_)))))))))))))
 obtain ⟨r_7,hr_8,hF⟩:=bind_some hF
 refine au (o5 hr_8) rfl hb66 rfl rfl rfl rfl wz (ae (vI r_7) wz rfl (ai (af (aa (ae (vI r_7) wz rfl (ae (vB (r_7 != 0)) wz rfl (ai ?_)))))))
 rcases aj hF with⟨hc_9,hF⟩|⟨hc_9,hF⟩
 ·refine ay rfl hc_9 (af (aa (ae (vI r_7) wz rfl (ae (vB false) wz rfl (ae (vI r_7) wz rfl (ai ?_))))))
  obtain rfl:=ah hF
  exact av (aQ (.inr rfl) [(vB false),(vI r_7)] ⟨rfl,⟨rfl,trivial⟩⟩ rfl rfl rfl)
 ·refine aA rfl hc_9 (ax (af (aa (aK 0 0 il ft gP jK rfl rfl (.d (.agg (Log_.enc l_4))) rfl wz ?_))))
  obtain ⟨r_10,hr_11,hF⟩:=bind_some hF
  refine au (qF hr_11) rfl hb67 rfl rfl rfl rfl wz (ae (vS r_10) wz rfl (ai (af ?_)))
  obtain ⟨o_20,hj_21,hF⟩:=bind_some hF
  obtain ⟨nq_41,hj_21⟩:=dV hj_21
  refine aD (β:=(Int×Int×(List ByteArray)×ByteArray)) (λ(s_17:Int×Int×(List ByteArray)×ByteArray)=>([(0,(vS root_1)),(4,(vL eS s_17.2.2.1)),(13,(vS s_17.2.2.2))]:SL_)) (λ(s_17:Int×Int×(List ByteArray)×ByteArray)=>([(n_6,some (.cells 6 [(vS l_4.Player),(vS l_4.Item),(vI l_4.No),(vI l_4.Clock),(vI l_4.Long),(vS l_4.Sum)]))]:Hp)) (λp=>o_20 = .go p) ?_ ?_
  ·refine aF (bI (β:=Nat×(Int×Int×(List ByteArray)×ByteArray)) (λp=>(λ(k_12:Nat) (s_17:Int×Int×(List ByteArray)×ByteArray)=>([(0,(vS root_1)),(1,(vI s_17.1)),(2,(vI s_17.2.1)),(4,(vL eS s_17.2.2.1)),(13,(vS s_17.2.2.2))]:SL_)) p.1 p.2) (λp=>(λ(k_12:Nat) (s_17:Int×Int×(List ByteArray)×ByteArray)=>([(n_6,some (.cells 6 [(vS l_4.Player),(vS l_4.Item),(vI l_4.No),(vI l_4.Clock),(vI l_4.Long),(vS l_4.Sum)]))]:Hp)) p.1 p.2) (λp=>aZ (λs=>bC s) p.1 p.2=some o_20) (λp=>p.1) (nq_41,(many_2,i_3,path_5,r_10)) hj_21 rfl (aI rfl) ?_)
   rintro ⟨k_12,s_17⟩ hL_19
   dsimp only at hL_19
   cases k_12 with
   | zero=>cases hL_19
   | succ k_12 =>
    obtain ⟨c_,hc_18,hL_19⟩:=bind_some hL_19
    unfold bC at hc_18
    refine af (af (aa (ae (vI s_17.1) wz rfl (ae (vB (decide (s_17.1>1))) wz rfl (ai ?_)))))
    rcases aj hc_18 with⟨hc_22,hc_18⟩|⟨hc_22,hc_18⟩
    ·refine ay rfl hc_22 (ax (af (aF (af (af (aa (ae (vI s_17.2.1) wz rfl (ae (vI (iH .i64 s_17.2.1 1)) wz rfl (ae (vI s_17.1) wz rfl (ae (vB (decide ((iH .i64 s_17.2.1 1)>=s_17.1))) wz rfl (ai ?_)))))))))))
     rcases aj hc_18 with⟨hc_23,hc_18⟩|⟨hc_23,hc_18⟩
     ·refine ay rfl hc_23 (bA (aa (ae (vI s_17.2.1) wz rfl (ae (vI (w64 (s_17.2.1.tdiv 2))) wz rfl (ae (vI s_17.1) wz rfl (ae (vI (w64 (s_17.1+1))) wz rfl (ae (vI (w64 ((w64 (s_17.1+1)).tdiv 2))) wz rfl (ae (vI (w64 (s_17.2.1.tdiv 2))) wz rfl (ae (vI (w64 ((w64 (s_17.1+1)).tdiv 2))) wz rfl (ai ?_))))))))))
      obtain rfl:=ah hc_18
      exact bB (k_12,((w64 ((w64 (s_17.1+1)).tdiv 2)),(w64 (s_17.2.1.tdiv 2)),s_17.2.2.1,s_17.2.2.2)) hL_19 (ls_ _) rfl (aI rfl)
     ·refine aA rfl hc_23 (ax (af (af (aa (ae (vL eS s_17.2.2.1) wz rfl (bS kM rfl wz (ae (vB ((s_17.2.2.1.length:Int)==0)) wz rfl (ai ?_))))))))
      rcases aj hc_18 with⟨hc_24,hc_18⟩|⟨hc_24,hc_18⟩
      ·refine ay rfl hc_24 (af (aa (ae (vB false) wz rfl (ae (vI 0) wz rfl (ai ?_)))))
       obtain rfl:=ah hc_18
       obtain rfl:=ah hL_19
       obtain rfl:=ah hF
       exact av (aQ (.inr rfl) [(vB false),(vI 0)] ⟨rfl,⟨rfl,trivial⟩⟩ rfl rfl rfl)
      ·refine aA rfl hc_24 (ax (af (af (aa (ae (vI s_17.2.1) wz rfl (ae (vI (s_17.2.1.tmod 2)) wz rfl (ae (vB ((s_17.2.1.tmod 2)==1)) wz rfl (ai ?_))))))))
       obtain ⟨v_25,h_26,hc_18⟩:=bind_some hc_18
       refine aD (β:=Unit) (λ_=>([(0,(vS root_1)),(1,(vI s_17.1)),(2,(vI s_17.2.1)),(4,(vL eS s_17.2.2.1)),(13,(vS v_25))]:SL_)) (λ_=>([(n_6,some (.cells 6 [(vS l_4.Player),(vS l_4.Item),(vI l_4.No),(vI l_4.Clock),(vI l_4.Long),(vS l_4.Sum)]))]:Hp)) (λ_=>True) ?_ ?_
       ·rcases aj h_26 with⟨hc_27,h_26⟩|⟨hc_27,h_26⟩
        ·refine ay rfl hc_27 (aa (ae (vL eS s_17.2.2.1) wz rfl ?_))
         obtain ⟨y_28,hy_29,h_26⟩:=bind_some h_26
         refine fB gu rfl rfl hy_29 rfl wz (di sz9 ag9 rfl (vS y_28) rfl wz (ae (vS s_17.2.2.2) wz rfl ?_))
         obtain ⟨r_30,hr_31,h_26⟩:=bind_some h_26
         refine au (mK hr_31) rfl hb68 rfl rfl rfl rfl wz (ae (vS r_30) wz rfl (ai ?_))
         obtain rfl:=ah h_26
         exact cu
        ·refine aA rfl hc_27 (aa (ae (vS s_17.2.2.2) wz rfl (ae (vL eS s_17.2.2.1) wz rfl ?_)))
         obtain ⟨y_32,hy_33,h_26⟩:=bind_some h_26
         refine fB gu rfl rfl hy_33 rfl wz (di sz9 ag9 rfl (vS y_32) rfl wz ?_)
         obtain ⟨r_34,hr_35,h_26⟩:=bind_some h_26
         refine au (mK hr_35) rfl hb68 rfl rfl rfl rfl wz (ae (vS r_34) wz rfl (ai ?_))
         obtain rfl:=ah h_26
         exact cu
       ·rintro ⟨⟩ _ sl_ H_ hp_ hq_
        refine aL _ hp_ hq_ (aa (ae (vL eS s_17.2.2.1) wz rfl ?_))
        obtain ⟨y_36,hy_37,hc_18⟩:=bind_some hc_18
        refine kQ kM sz9 (λ_=>rfl) rfl rfl hy_37 wz (ae (vL eS y_36) wz rfl (ai (aa (ae (vI s_17.2.1) wz rfl (ae (vI (w64 (s_17.2.1.tdiv 2))) wz rfl (ae (vI s_17.1) wz rfl (ae (vI (w64 (s_17.1+1))) wz rfl (ae (vI (w64 ((w64 (s_17.1+1)).tdiv 2))) wz rfl (ae (vI (w64 (s_17.2.1.tdiv 2))) wz rfl (ae (vI (w64 ((w64 (s_17.1+1)).tdiv 2))) wz rfl (ai ?_)))))))))))
        obtain rfl:=ah hc_18
        exact bB (k_12,((w64 ((w64 (s_17.1+1)).tdiv 2)),(w64 (s_17.2.1.tdiv 2)),y_36,v_25)) hL_19 (ls_ _) rfl (aI rfl)
    ·refine aA rfl hc_22 (bA ?_)
     obtain rfl:=ah hc_18
     obtain rfl:=ah hL_19
     exact bg ((s_17.1,s_17.2.1,s_17.2.2.1,s_17.2.2.2)) rfl rfl (aI rfl)
  ·rintro s_17 ho_ sl_ H_ hp_ hq_
   subst ho_
   refine aL _ hp_ hq_ (af ?_)
   obtain ⟨v_38,h_39,hF⟩:=bind_some hF
   refine aD (β:=Unit) (λ_=>([(10,(vB v_38)),(11,(vI 0))]:SL_)) (λ_=>([(n_6,some (.cells 6 [(vS l_4.Player),(vS l_4.Item),(vI l_4.No),(vI l_4.Clock),(vI l_4.Long),(vS l_4.Sum)]))]:Hp)) (λ_=>True) ?_ ?_
   ·refine aa (ae (vL eS s_17.2.2.1) wz rfl (bS kM rfl wz (ae (vB ((s_17.2.2.1.length:Int)==0)) wz rfl ?_)))
    rcases aj h_39 with⟨hc_40,h_39⟩|⟨hc_40,h_39⟩
    ·refine aC rfl hc_40 wz (ae (vS s_17.2.2.2) wa rfl (ae (vS root_1) wa rfl (ae (vB (sEq s_17.2.2.2 root_1)) wa rfl (ae (vB (sEq s_17.2.2.2 root_1)) wz rfl (ae (vB (sEq s_17.2.2.2 root_1)) wz rfl (ae (vI 0) wz rfl (ai ?_)))))))
     obtain rfl:=ah h_39
     exact cu
    ·refine aC rfl hc_40 wz (ak wa (ak wa (ak wa (ae (vB false) wz rfl (ae (vB false) wz rfl (ae (vI 0) wz rfl (ai ?_)))))))
     obtain rfl:=ah h_39
     exact cu
   ·rintro ⟨⟩ _ sl_ H_ hp_ hq_
    refine aL _ hp_ hq_ ?_
    obtain rfl:=ah hF
    exact av (aQ (.inr rfl) [(vB v_38),(vI 0)] ⟨rfl,⟨rfl,trivial⟩⟩ rfl rfl rfl)
theorem qf {m_1:ByteArray} {r:Bool} (hF:fZ m_1=some r) :
  FnM Tryz.prog 26 [(vS m_1)] [] (vB r) []:=by
 refine FnM.of_wH ⟨Tryz.prog,6,[],[]⟩ rfl Tryz.func26 rfl rfl (lb_ rfl) (by kernel_rfl) ?_
 unfold fZ at hF
 refine af (aa (ae (vB false) wz rfl (ai (af (aa (ae (vS m_1) wz rfl ?_))))))
 obtain ⟨r_2,hr_3,hF⟩:=bind_some hF
 refine au (fG hr_3) rfl Br rfl rfl rfl rfl wz (ae (vB (!r_2)) wz rfl (ae (vB (!r_2)) wz rfl (ai ?_)))
 obtain rfl:=ah hF
 exact av (aQ (.inr rfl) [(vB (!r_2))] ⟨rfl,trivial⟩ rfl rfl rfl)
theorem uA {root_1:ByteArray} {many_2:Int} {i_3:Int} {l_4:Log_} {path_5:(List ByteArray)} {r:Bool} (hF:jF root_1 many_2 i_3 l_4 path_5=some r) :
  FnM Tryz.prog 27 [(vS root_1),(vI many_2),(vI i_3),(.d (.agg (Log_.enc l_4))),(vL eS path_5)] [] (vB r) []:=by
 refine FnM.of_wH ⟨Tryz.prog,51,[],[]⟩ rfl Tryz.func27 rfl rfl (lb_ rfl) (by kernel_rfl) ?_
 unfold jF at hF
 refine af (aa (kN 0 (.inl rfl) [(vS l_4.Player),(vS l_4.Item),(vI l_4.No),(vI l_4.Clock),(vI l_4.Long),(vS l_4.Sum)] rfl rfl wz (λn_6=>ae (vB false) wz rfl (ai (af (aa (aK 0 0 il ft gP jK rfl rfl (.d (.agg (Log_.enc l_4))) rfl wz ?_)))))))
 obtain ⟨r_7,hr_8,hF⟩:=bind_some hF
 refine au (tZ hr_8) rfl hb74 rfl rfl rfl rfl wz (ae (vS r_7) wz rfl (ai (af ?_)))
 obtain ⟨o_17,hj_18,hF⟩:=bind_some hF
 obtain ⟨nq_38,hj_18⟩:=dV hj_18
 refine aD (β:=(Int×Int×(List ByteArray)×ByteArray)) (λ(s_14:Int×Int×(List ByteArray)×ByteArray)=>([(0,(vS root_1)),(4,(vL eS s_14.2.2.1)),(11,(vS s_14.2.2.2))]:SL_)) (λ(s_14:Int×Int×(List ByteArray)×ByteArray)=>([(n_6,some (.cells 6 [(vS l_4.Player),(vS l_4.Item),(vI l_4.No),(vI l_4.Clock),(vI l_4.Long),(vS l_4.Sum)]))]:Hp)) (λp=>o_17 = .go p) ?_ ?_
 ·refine aF (bI (β:=Nat×(Int×Int×(List ByteArray)×ByteArray)) (λp=>(λ(k_9:Nat) (s_14:Int×Int×(List ByteArray)×ByteArray)=>([(0,(vS root_1)),(1,(vI s_14.1)),(2,(vI s_14.2.1)),(4,(vL eS s_14.2.2.1)),(11,(vS s_14.2.2.2))]:SL_)) p.1 p.2) (λp=>(λ(k_9:Nat) (s_14:Int×Int×(List ByteArray)×ByteArray)=>([(n_6,some (.cells 6 [(vS l_4.Player),(vS l_4.Item),(vI l_4.No),(vI l_4.Clock),(vI l_4.Long),(vS l_4.Sum)]))]:Hp)) p.1 p.2) (λp=>aZ (λs=>bE s) p.1 p.2=some o_17) (λp=>p.1) (nq_38,(many_2,i_3,path_5,r_7)) hj_18 rfl (aI rfl) ?_)
  rintro ⟨k_9,s_14⟩ hL_16
  dsimp only at hL_16
  cases k_9 with
  | zero=>cases hL_16
  | succ k_9 =>
   obtain ⟨c_,hc_15,hL_16⟩:=bind_some hL_16
   unfold bE at hc_15
   refine af (af (aa (ae (vI s_14.1) wz rfl (ae (vB (decide (s_14.1>1))) wz rfl (ai ?_)))))
   rcases aj hc_15 with⟨hc_19,hc_15⟩|⟨hc_19,hc_15⟩
   ·refine ay rfl hc_19 (ax (af (aF (af (af (aa (ae (vI s_14.2.1) wz rfl (ae (vI (iH .i64 s_14.2.1 1)) wz rfl (ae (vI s_14.1) wz rfl (ae (vB (decide ((iH .i64 s_14.2.1 1)>=s_14.1))) wz rfl (ai ?_)))))))))))
    rcases aj hc_15 with⟨hc_20,hc_15⟩|⟨hc_20,hc_15⟩
    ·refine ay rfl hc_20 (bA (aa (ae (vI s_14.1) wz rfl (ae (vI (w64 (s_14.1+1))) wz rfl (ae (vI (w64 ((w64 (s_14.1+1)).tdiv 2))) wz rfl (ae (vI s_14.2.1) wz rfl (ae (vI (w64 (s_14.2.1.tdiv 2))) wz rfl (ae (vI (w64 ((w64 (s_14.1+1)).tdiv 2))) wz rfl (ae (vI (w64 (s_14.2.1.tdiv 2))) wz rfl (ai ?_))))))))))
     obtain rfl:=ah hc_15
     exact bB (k_9,((w64 ((w64 (s_14.1+1)).tdiv 2)),(w64 (s_14.2.1.tdiv 2)),s_14.2.2.1,s_14.2.2.2)) hL_16 (ls_ _) rfl (aI rfl)
    ·refine aA rfl hc_20 (ax (af (af (aa (ae (vL eS s_14.2.2.1) wz rfl (bS kM rfl wz (ae (vB ((s_14.2.2.1.length:Int)==0)) wz rfl (ai ?_))))))))
     rcases aj hc_15 with⟨hc_21,hc_15⟩|⟨hc_21,hc_15⟩
     ·refine ay rfl hc_21 (af (aa (ae (vB false) wz rfl (ai ?_))))
      obtain rfl:=ah hc_15
      obtain rfl:=ah hL_16
      obtain rfl:=ah hF
      exact av (aQ (.inr rfl) [(vB false)] ⟨rfl,trivial⟩ rfl rfl rfl)
     ·refine aA rfl hc_21 (ax (af (af (aa (ae (vI s_14.2.1) wz rfl (ae (vI (s_14.2.1.tmod 2)) wz rfl (ae (vB ((s_14.2.1.tmod 2)==0)) wz rfl (ai ?_))))))))
      obtain ⟨v_22,h_23,hc_15⟩:=bind_some hc_15
      refine aD (β:=Unit) (λ_=>([(0,(vS root_1)),(1,(vI s_14.1)),(2,(vI s_14.2.1)),(4,(vL eS s_14.2.2.1)),(11,(vS v_22))]:SL_)) (λ_=>([(n_6,some (.cells 6 [(vS l_4.Player),(vS l_4.Item),(vI l_4.No),(vI l_4.Clock),(vI l_4.Long),(vS l_4.Sum)]))]:Hp)) (λ_=>True) ?_ ?_
      ·rcases aj h_23 with⟨hc_24,h_23⟩|⟨hc_24,h_23⟩
       ·refine ay rfl hc_24 (aa (ae (vS s_14.2.2.2) wz rfl (ae (vL eS s_14.2.2.1) wz rfl ?_)))
        obtain ⟨y_25,hy_26,h_23⟩:=bind_some h_23
        refine fB gu rfl rfl hy_26 rfl wz (di sz9 ag9 rfl (vS y_25) rfl wz ?_)
        obtain ⟨r_27,hr_28,h_23⟩:=bind_some h_23
        refine au (oC hr_28) rfl hb75 rfl rfl rfl rfl wz (ae (vS r_27) wz rfl (ai ?_))
        obtain rfl:=ah h_23
        exact cu
       ·refine aA rfl hc_24 (aa (ae (vL eS s_14.2.2.1) wz rfl ?_))
        obtain ⟨y_29,hy_30,h_23⟩:=bind_some h_23
        refine fB gu rfl rfl hy_30 rfl wz (di sz9 ag9 rfl (vS y_29) rfl wz (ae (vS s_14.2.2.2) wz rfl ?_))
        obtain ⟨r_31,hr_32,h_23⟩:=bind_some h_23
        refine au (oC hr_32) rfl hb75 rfl rfl rfl rfl wz (ae (vS r_31) wz rfl (ai ?_))
        obtain rfl:=ah h_23
        exact cu
      ·rintro ⟨⟩ _ sl_ H_ hp_ hq_
       refine aL _ hp_ hq_ (aa (ae (vL eS s_14.2.2.1) wz rfl ?_))
       obtain ⟨y_33,hy_34,hc_15⟩:=bind_some hc_15
       refine kQ kM sz9 (λ_=>rfl) rfl rfl hy_34 wz (ae (vL eS y_33) wz rfl (ai (aa (ae (vI s_14.1) wz rfl (ae (vI (w64 (s_14.1+1))) wz rfl (ae (vI (w64 ((w64 (s_14.1+1)).tdiv 2))) wz rfl (ae (vI s_14.2.1) wz rfl (ae (vI (w64 (s_14.2.1.tdiv 2))) wz rfl (ae (vI (w64 ((w64 (s_14.1+1)).tdiv 2))) wz rfl (ae (vI (w64 (s_14.2.1.tdiv 2))) wz rfl (ai ?_)))))))))))
       obtain rfl:=ah hc_15
       exact bB (k_9,((w64 ((w64 (s_14.1+1)).tdiv 2)),(w64 (s_14.2.1.tdiv 2)),y_33,v_22)) hL_16 (ls_ _) rfl (aI rfl)
   ·refine aA rfl hc_19 (bA ?_)
    obtain rfl:=ah hc_15
    obtain rfl:=ah hL_16
    exact bg ((s_14.1,s_14.2.1,s_14.2.2.1,s_14.2.2.2)) rfl rfl (aI rfl)
 ·rintro s_14 ho_ sl_ H_ hp_ hq_
  subst ho_
  refine aL _ hp_ hq_ (af ?_)
  obtain ⟨v_35,h_36,hF⟩:=bind_some hF
  refine aD (β:=Unit) (λ_=>([(10,(vB v_35))]:SL_)) (λ_=>([(n_6,some (.cells 6 [(vS l_4.Player),(vS l_4.Item),(vI l_4.No),(vI l_4.Clock),(vI l_4.Long),(vS l_4.Sum)]))]:Hp)) (λ_=>True) ?_ ?_
  ·refine aa (ae (vL eS s_14.2.2.1) wz rfl (bS kM rfl wz (ae (vB ((s_14.2.2.1.length:Int)==0)) wz rfl ?_)))
   rcases aj h_36 with⟨hc_37,h_36⟩|⟨hc_37,h_36⟩
   ·refine aC rfl hc_37 wz (ae (vS s_14.2.2.2) wa rfl (ae (vS root_1) wa rfl (ae (vB (sEq s_14.2.2.2 root_1)) wa rfl (ae (vB (sEq s_14.2.2.2 root_1)) wz rfl (ae (vB (sEq s_14.2.2.2 root_1)) wz rfl (ai ?_))))))
    obtain rfl:=ah h_36
    exact cu
   ·refine aC rfl hc_37 wz (ak wa (ak wa (ak wa (ae (vB false) wz rfl (ae (vB false) wz rfl (ai ?_))))))
    obtain rfl:=ah h_36
    exact cu
  ·rintro ⟨⟩ _ sl_ H_ hp_ hq_
   refine aL _ hp_ hq_ ?_
   obtain rfl:=ah hF
   exact av (aQ (.inr rfl) [(vB v_35)] ⟨rfl,trivial⟩ rfl rfl rfl)
theorem gD {n_1:Int} {r:Bool} (hF:dP n_1=some r) :
  FnM Tryz.prog 102 [(vI n_1)] [] (vB r) []:=by
 refine FnM.of_wH ⟨Tryz.prog,9,[],[]⟩ rfl Tryz.func102 rfl rfl (lb_ rfl) (by kernel_rfl) ?_
 unfold dP at hF
 refine af (aa (ae (vB false) wz rfl (ai (af ?_))))
 obtain ⟨v_2,h_3,hF⟩:=bind_some hF
 refine aD (β:=Unit) (λ_=>([(2,(vB v_2))]:SL_)) (λ_=>([]:Hp)) (λ_=>True) ?_ ?_
 ·refine aa (ae (vI n_1) wz rfl (ae (vB (decide (n_1>=0))) wz rfl ?_))
  rcases aj h_3 with⟨hc_4,h_3⟩|⟨hc_4,h_3⟩
  ·refine aC rfl hc_4 wz (ae (vI n_1) wa rfl (ae (vB (decide (n_1<345686400000))) wa rfl (ae (vB (decide (n_1<345686400000))) wz rfl (ae (vB (decide (n_1<345686400000))) wz rfl (ai ?_)))))
   obtain rfl:=ah h_3
   exact cu
  ·refine aC rfl hc_4 wz (ak wa (ak wa (ae (vB false) wz rfl (ae (vB false) wz rfl (ai ?_)))))
   obtain rfl:=ah h_3
   exact cu
 ·rintro ⟨⟩ _ sl_ H_ hp_ hq_
  refine aL _ hp_ hq_ ?_
  obtain rfl:=ah hF
  exact av (aQ (.inr rfl) [(vB v_2)] ⟨rfl,trivial⟩ rfl rfl rfl)
theorem oq {a_1:Beat} {b_2:Beat} {r:Int} (hF:eH a_1 b_2=some r) :
  FnM Tryz.prog 130 [(.d (.agg (Beat.enc a_1))),(.d (.agg (Beat.enc b_2)))] [] (vI r) []:=by
 refine FnM.of_wH ⟨Tryz.prog,17,[],[]⟩ rfl Tryz.func130 rfl rfl (lb_ rfl) (by kernel_rfl) ?_
 unfold eH at hF
 refine af (aa (kN 0 (.inl rfl) [(vS a_1.Player),(vI a_1.At),(vI a_1.Clock)] rfl rfl wz (λn_3=>kN 0 (.inl rfl) [(vS b_2.Player),(vI b_2.At),(vI b_2.Clock)] rfl rfl wz (λn_4=>ae (vI 0) wz rfl (ai (af (dw (aN p8 rfl 0 rfl wz (aK 1 0 (.inr (by kernel_rfl)) (λ_ _ ag=>trivial) sz9 ag9 rfl rfl (vS a_1.Player) rfl wz (aN p8 rfl 0 rfl wz (aK 3 1 (.inr (by kernel_rfl)) (λ_ _ ag=>⟨.inl ⟨rfl,rfl⟩,trivial⟩) sz9 ag9 rfl rfl (vS b_2.Player) rfl wz ?_)))))))))))
 obtain ⟨r_5,hr_6,hF⟩:=bind_some hF
 refine au (jb hr_6) rfl DN rfl rfl rfl rfl wz (aN rV rfl 1 rfl wz (aK 6 0 (.inr (by kernel_rfl)) (λ_ _ ag=>⟨.inl ⟨rfl,rfl⟩,⟨.inl ⟨rfl,rfl⟩,trivial⟩⟩) sz3 ag3 rfl rfl (vI a_1.At) rfl wz (aN rV rfl 1 rfl wz (aK 8 1 (.inr (by kernel_rfl)) (λ_ _ ag=>⟨.inl ⟨rfl,rfl⟩,⟨.inl ⟨rfl,rfl⟩,⟨.inl ⟨rfl,rfl⟩,trivial⟩⟩⟩) sz3 ag3 rfl rfl (vI b_2.At) rfl wz ?_))))
 obtain ⟨r_7,hr_8,hF⟩:=bind_some hF
 refine au (lS hr_8) rfl hb118 rfl rfl rfl rfl wz (dC (([r_5,r_7]:List Int).map eI) sZ y5 rfl rfl rfl rfl rfl wz ?_)
 obtain ⟨r_9,hr_10,hF⟩:=bind_some hF
 refine au (qC hr_10) rfl hb117 rfl rfl rfl rfl wz (ae (vI r_9) wz rfl (ai ?_))
 obtain rfl:=ah hF
 exact av (aQ (.inr rfl) [(vI r_9)] ⟨rfl,trivial⟩ rfl rfl rfl)
theorem qj {l_1:(List Beat)} {r:Int} (hF:fP l_1=some r) :
  FnM Tryz.prog 100 [(vL Beat.enc l_1)] [] (vI r) []:=by
 refine FnM.of_wH ⟨Tryz.prog,69,[],[]⟩ rfl Tryz.func100 rfl rfl (lb_ rfl) (by kernel_rfl) ?_
 unfold fP at hF
 refine af (aa (ae (vI 0) wz rfl (ai (af (af (aa (ae (vL Beat.enc l_1) wz rfl (bS un74 rfl wz (ae (vB (decide ((l_1.length:Int)>500))) wz rfl (ai ?_))))))))))
 rcases aj hF with⟨hc_2,hF⟩|⟨hc_2,hF⟩
 ·refine ay rfl hc_2 (af (aa (ae (vI 2) wz rfl (ai ?_))))
  obtain rfl:=ah hF
  exact av (aQ (.inr rfl) [(vI 2)] ⟨rfl,trivial⟩ rfl rfl rfl)
 ·refine aA rfl hc_2 (ax (af (af (aa (ae (vL Beat.enc l_1) wz rfl (bS un74 rfl wz (ae (vI 0) wz rfl (ai ?_))))))))
  obtain ⟨o_11,hj_12,hF⟩:=bind_some hF
  obtain ⟨hn_7,hj_12⟩:=dx hj_12
  refine aD (β:=(Unit)) (λ(s_8:Unit)=>([]:SL_)) (λ(s_8:Unit)=>([]:Hp)) (λp=>o_11 = .go p) ?_ ?_
  ·refine aF (bI (β:=Nat×(List Beat)×(Unit)) (λp=>(λ(k_3:Nat) (l_4:List Beat) (s_8:Unit)=>([(0,(vL Beat.enc l_1)),(8,(vL Beat.enc l_1)),(9,(vI (l_1.length:Int))),(10,(vI (k_3:Int)))]:SL_)) p.1 p.2.1 p.2.2) (λp=>(λ(k_3:Nat) (l_4:List Beat) (s_8:Unit)=>([]:Hp)) p.1 p.2.1 p.2.2) (λp=>dW (λk x s=>fJ l_1 k x s) p.2.1 p.1 p.2.2=some o_11/\(l_1).drop p.1=p.2.1) (λp=>p.2.1.length) (0,l_1,()) ⟨hj_12,rfl⟩ rfl (aI rfl) ?_)
   rintro ⟨k_3,l_4,s_8⟩ ⟨hL_10,hD_6⟩
   dsimp only at hL_10 hD_6
   cases l_4 with
   | nil =>
    obtain rfl:=ah hL_10
    refine af (aa (ae (vB (decide ((k_3:Int)<(l_1.length:Int)))) wz rfl (ai ?_)))
    refine af (aA rfl (drop_nil hD_6) (bA ?_))
    exact bg (s_8) rfl rfl (aI rfl)
   | cons x_5 l_4 =>
    obtain ⟨c_,hc_9,hL_10⟩:=bind_some hL_10
    refine af (aa (ae (vB (decide ((k_3:Int)<(l_1.length:Int)))) wz rfl (ai ?_)))
    refine af (ay rfl (eG hD_6) (ax ?_))
    unfold fJ at hc_9
    refine af (aF (af (aa (ae (vI (k_3:Int)) wz rfl (fB Dr rfl rfl (fe hD_6) rfl wz (di xE Cb rfl (.d (.agg (Beat.enc x_5))) rfl wz (kC 0 (.inl rfl) z101 rfl wz (λn_13=>ae (vI (k_3:Int)) wz rfl (ni 0 il ft 0 xE rfl rfl [(vS x_5.Player),(vI x_5.At),(vI x_5.Clock)] rfl wz (ai (aF (af (aa (aN p8 rfl 0 rfl wz (aK 0 0 il ft sz9 ag9 rfl rfl (vS x_5.Player) rfl wz ?_)))))))))))))))
    obtain ⟨r_14,hr_15,hc_9⟩:=bind_some hc_9
    refine au (lw hr_15) rfl BX rfl rfl rfl rfl wz (ae (vB (!r_14)) wz rfl (ae (vB (!r_14)) wz rfl (ai ?_)))
    rcases aj hc_9 with⟨hc_16,hc_9⟩|⟨hc_16,hc_9⟩
    ·refine ay rfl hc_16 (af (aa (ae (vI 5) wz rfl (ai ?_))))
     obtain rfl:=ah hc_9
     obtain rfl:=ah hL_10
     obtain rfl:=ah hF
     exact av (aQ (.inr rfl) [(vI 5)] ⟨rfl,trivial⟩ rfl rfl rfl)
    ·refine aA rfl hc_16 (af ?_)
     obtain ⟨v_17,h_18,hc_9⟩:=bind_some hc_9
     refine aD (β:=Unit) (λ_=>([(0,(vL Beat.enc l_1)),(3,(vI (k_3:Int))),(4,(.ref n_13 0 0)),(8,(vL Beat.enc l_1)),(9,(vI (l_1.length:Int))),(10,(vI (k_3:Int))),(20,(vB v_17))]:SL_)) (λ_=>([(n_13,some (.cells 3 [(vS x_5.Player),(vI x_5.At),(vI x_5.Clock)]))]:Hp)) (λ_=>True) ?_ ?_
     ·refine aa (aN rV rfl 1 rfl wz (aK 0 0 il ft sz3 ag3 rfl rfl (vI x_5.At) rfl wz ?_))
      obtain ⟨r_19,hr_20,h_18⟩:=bind_some h_18
      refine au (gD hr_20) rfl Ao rfl rfl rfl rfl wz (ae (vB (!r_19)) wz rfl ?_)
      rcases aj h_18 with⟨hc_21,h_18⟩|⟨hc_21,h_18⟩
      ·refine aC rfl hc_21 wz (ak wa (ak wa (ak wa (ae (vB true) wz rfl (ae (vB true) wz rfl (ai ?_))))))
       obtain rfl:=ah h_18
       exact cu
      ·refine aC rfl hc_21 wz (aN qX rfl 2 rfl wa (aK 0 0 il ft sz3 ag3 rfl rfl (vI x_5.Clock) rfl wa ?_))
       obtain ⟨r_22,hr_23,h_18⟩:=bind_some h_18
       refine au (eT hr_23) rfl Bl rfl rfl rfl rfl wa (ae (vB r_22) wz rfl (ae (vB r_22) wz rfl (ai ?_)))
       obtain rfl:=ah h_18
       exact cu
     ·rintro ⟨⟩ _ sl_ H_ hp_ hq_
      refine aL _ hp_ hq_ ?_
      rcases aj hc_9 with⟨hc_24,hc_9⟩|⟨hc_24,hc_9⟩
      ·refine ay rfl hc_24 (af (aa (ae (vI 1) wz rfl (ai ?_))))
       obtain rfl:=ah hc_9
       obtain rfl:=ah hL_10
       obtain rfl:=ah hF
       exact av (aQ (.inr rfl) [(vI 1)] ⟨rfl,trivial⟩ rfl rfl rfl)
      ·refine aA rfl hc_24 (af ?_)
       obtain ⟨v_25,h_26,hc_9⟩:=bind_some hc_9
       refine aD (β:=Unit) (λ_=>([(0,(vL Beat.enc l_1)),(3,(vI (k_3:Int))),(4,(.ref n_13 0 0)),(8,(vL Beat.enc l_1)),(9,(vI (l_1.length:Int))),(10,(vI (k_3:Int))),(30,(vB v_25))]:SL_)) (λ_=>([(n_13,some (.cells 3 [(vS x_5.Player),(vI x_5.At),(vI x_5.Clock)]))]:Hp)) (λ_=>True) ?_ ?_
       ·refine dw (ae (vI (k_3:Int)) wz rfl (ae (vB (decide ((k_3:Int)>0))) wz rfl ?_))
        rcases aj h_26 with⟨hc_27,h_26⟩|⟨hc_27,h_26⟩
        ·refine aC rfl hc_27 wz (ae (vL Beat.enc l_1) wa rfl (ae (vI (k_3:Int)) wa rfl (ae (vI (w64 ((k_3:Int)-1))) wa rfl ?_)))
         obtain ⟨y_28,hy_29,h_26⟩:=bind_some h_26
         refine fB Dr rfl rfl hy_29 rfl wa (di xE Cb rfl (.d (.agg (Beat.enc y_28))) rfl wa (aK 8 0 (.inr (by kernel_rfl)) (λ_ _ ag=>trivial) xE Cb rfl rfl (.d (.agg (Beat.enc x_5))) rfl wa ?_))
         obtain ⟨r_30,hr_31,h_26⟩:=bind_some h_26
         refine au (oq hr_31) rfl hb130 rfl rfl rfl rfl wa (ae (vB (decide (r_30>=0))) wa rfl (ae (vB (decide (r_30>=0))) wz rfl (ae (vB (decide (r_30>=0))) wz rfl (ai ?_))))
         obtain rfl:=ah h_26
         exact cu
        ·refine aC rfl hc_27 wz (ak wa (ak wa (ak wa (ak wa (ak wa (ak wa (ak wa (ak wa (ae (vB false) wz rfl (ae (vB false) wz rfl (ai ?_)))))))))))
         obtain rfl:=ah h_26
         exact cu
       ·rintro ⟨⟩ _ sl_ H_ hp_ hq_
        refine aL _ hp_ hq_ ?_
        rcases aj hc_9 with⟨hc_32,hc_9⟩|⟨hc_32,hc_9⟩
        ·refine ay rfl hc_32 (af (aa (ae (vI 7) wz rfl (ai ?_))))
         obtain rfl:=ah hc_9
         obtain rfl:=ah hL_10
         obtain rfl:=ah hF
         exact av (aQ (.inr rfl) [(vI 7)] ⟨rfl,trivial⟩ rfl rfl rfl)
        ·refine aA rfl hc_32 (af ?_)
         obtain ⟨v_33,h_34,hc_9⟩:=bind_some hc_9
         refine aD (β:=Unit) (λ_=>([(0,(vL Beat.enc l_1)),(8,(vL Beat.enc l_1)),(9,(vI (l_1.length:Int))),(10,(vI (k_3:Int))),(43,(vB v_33))]:SL_)) (λ_=>([(n_13,some (.cells 3 [(vS x_5.Player),(vI x_5.At),(vI x_5.Clock)]))]:Hp)) (λ_=>True) ?_ ?_
         ·refine dw (ae (vI (k_3:Int)) wz rfl (ae (vB (decide ((k_3:Int)>0))) wz rfl ?_))
          rcases aj h_34 with⟨hc_35,h_34⟩|⟨hc_35,h_34⟩
          ·refine aC rfl hc_35 wz (aN p8 rfl 0 rfl wa (aK 4 0 (.inr (by kernel_rfl)) (λ_ _ ag=>trivial) sz9 ag9 rfl rfl (vS x_5.Player) rfl wa (ae (vL Beat.enc l_1) wa rfl (ae (vI (k_3:Int)) wa rfl (ae (vI (w64 ((k_3:Int)-1))) wa rfl ?_)))))
           obtain ⟨y_36,hy_37,h_34⟩:=bind_some h_34
           refine fB Dr rfl rfl hy_37 rfl wa (uR p8 rfl [.str y_36.Player,.int .i64 y_36.At,.int .i64 y_36.Clock] rfl rfl wa (di sz9 ag9 rfl (vS y_36.Player) rfl wa (ae (vB (sEq x_5.Player y_36.Player)) wa rfl (ae (vB (sEq x_5.Player y_36.Player)) wz rfl ?_))))
           rcases aj h_34 with⟨hc_38,h_34⟩|⟨hc_38,h_34⟩
           ·refine aC rfl hc_38 wz (aN qX rfl 2 rfl wa (aK 15 0 (.inr (by kernel_rfl)) (λ_ _ ag=>⟨.inl ⟨rfl,rfl⟩,trivial⟩) sz3 ag3 rfl rfl (vI x_5.Clock) rfl wa (ae (vL Beat.enc l_1) wa rfl (ae (vI (k_3:Int)) wa rfl (ae (vI (w64 ((k_3:Int)-1))) wa rfl ?_)))))
            obtain ⟨y_39,hy_40,h_34⟩:=bind_some h_34
            refine fB Dr rfl rfl hy_40 rfl wa (uR qX rfl [.int .i64 y_39.Clock] rfl rfl wa (di sz3 ag3 rfl (vI y_39.Clock) rfl wa (ae (vB (decide (x_5.Clock<=y_39.Clock))) wa rfl (ae (vB (decide (x_5.Clock<=y_39.Clock))) wz rfl (ae (vB (decide (x_5.Clock<=y_39.Clock))) wz rfl (ai ?_))))))
            obtain rfl:=ah h_34
            exact cu
           ·refine aC rfl hc_38 wz (ak wa (ak wa (ak wa (ak wa (ak wa (ak wa (ak wa (ak wa (ak wa (ae (vB false) wz rfl (ae (vB false) wz rfl (ai ?_))))))))))))
            obtain rfl:=ah h_34
            exact cu
          ·refine aC rfl hc_35 wz (ak wa (ak wa (ak wa (ak wa (ak wa (ak wa (ak wa (ak wa (ak wa (ae (vB false) wz rfl (ae (vB false) wz rfl (ak wa (ak wa (ak wa (ak wa (ak wa (ak wa (ak wa (ak wa (ak wa (ae (vB false) wz rfl (ae (vB false) wz rfl (ai ?_)))))))))))))))))))))))
           obtain rfl:=ah h_34
           exact cu
         ·rintro ⟨⟩ _ sl_ H_ hp_ hq_
          refine aL _ hp_ hq_ ?_
          rcases aj hc_9 with⟨hc_41,hc_9⟩|⟨hc_41,hc_9⟩
          ·refine ay rfl hc_41 (af (aa (ae (vI 16) wz rfl (ai ?_))))
           obtain rfl:=ah hc_9
           obtain rfl:=ah hL_10
           obtain rfl:=ah hF
           exact av (aQ (.inr rfl) [(vI 16)] ⟨rfl,trivial⟩ rfl rfl rfl)
          ·refine aA rfl hc_41 (ax (aa (kF (fu hD_6 hn_7) wz rfl (ae (vI ((k_3+1:Nat):Int)) wz rfl (ai ?_)))))
           obtain rfl:=ah hc_9
           exact bB (k_3+1,l_4,()) ⟨hL_10,bT hD_6⟩ (ls_ _) rfl (aI rfl)
  ·rintro s_8 ho_ sl_ H_ hp_ hq_
   subst ho_
   refine aL _ hp_ hq_ (af (aa (ae (vI 0) wz rfl (ai ?_))))
   obtain rfl:=ah hF
   exact av (aQ (.inr rfl) [(vI 0)] ⟨rfl,trivial⟩ rfl rfl rfl)
theorem rZ {l_1:(List Beat)} {player_2:ByteArray} {back_3:Bool} {r:(List Beat_)} (hF:iM l_1 player_2 back_3=some r) :
  FnM Tryz.prog 131 [(vL Beat.enc l_1),(vS player_2),(vB back_3)] [] (vL Beat_.enc r) []:=by
 refine FnM.of_wH ⟨Tryz.prog,41,[],[]⟩ rfl Tryz.func131 rfl rfl (lb_ rfl) (by kernel_rfl) ?_
 unfold iM at hF
 refine af (aa (ae .nil wz rfl (ai (af (aa (ae .nil wz rfl (ai (af (af (aa (ae (vL Beat.enc l_1) wz rfl (bS un74 rfl wz (ae (vI 0) wz rfl (ai (mO (λn_10 => ?_))))))))))))))))
 obtain ⟨o_15,hj_16,hF⟩:=bind_some hF
 obtain ⟨hn_8,hj_16⟩:=dx hj_16
 refine aD (β:=((List Beat_))×Nm) (λp=>(λ(s_9:List Beat_) (n_12:Nm)=>([(7,(gV n_12 2 s_9))]:SL_)) p.1 p.2) (λp=>(λ(s_9:List Beat_) (n_12:Nm)=>([(n_12,gB 2 Beat_.enc s_9)]:Hp)) p.1 p.2) (λp=>o_15 = .go p.1) ?_ ?_
 ·refine aF (bI (β:=Nat×(List Beat)×((List Beat_))×Nm) (λp=>(λ(k_4:Nat) (l_5:List Beat) (s_9:List Beat_) (n_12:Nm)=>([(1,(vS player_2)),(2,(vB back_3)),(7,(gV n_12 2 s_9)),(10,(vL Beat.enc l_1)),(11,(vI (l_1.length:Int))),(12,(vI (k_4:Int)))]:SL_)) p.1 p.2.1 p.2.2.1 p.2.2.2) (λp=>(λ(k_4:Nat) (l_5:List Beat) (s_9:List Beat_) (n_12:Nm)=>([(n_12,gB 2 Beat_.enc s_9)]:Hp)) p.1 p.2.1 p.2.2.1 p.2.2.2) (λp=>dW (λk x s=>eD player_2 back_3 k x s) p.2.1 p.1 p.2.2.1=some o_15/\(l_1).drop p.1=p.2.1) (λp=>p.2.1.length) (0,l_1,([]:List Beat_),n_10) ⟨hj_16,rfl⟩ rfl (aI rfl) ?_)
  rintro ⟨k_4,l_5,s_9,n_12⟩ ⟨hL_14,hD_7⟩
  dsimp only at hL_14 hD_7
  cases l_5 with
  | nil =>
   obtain rfl:=ah hL_14
   refine af (aa (ae (vB (decide ((k_4:Int)<(l_1.length:Int)))) wz rfl (ai ?_)))
   refine af (aA rfl (drop_nil hD_7) (bA ?_))
   exact bg (s_9,n_12) rfl rfl (aI rfl)
  | cons x_6 l_5 =>
   obtain ⟨c_,hc_13,hL_14⟩:=bind_some hL_14
   refine af (aa (ae (vB (decide ((k_4:Int)<(l_1.length:Int)))) wz rfl (ai ?_)))
   refine af (ay rfl (eG hD_7) (ax ?_))
   unfold eD at hc_13
   refine af (aF (af (aa (fB Dr rfl rfl (fe hD_7) rfl wz (di xE Cb rfl (.d (.agg (Beat.enc x_6))) rfl wz (kC 0 (.inl rfl) z101 rfl wz (λn_17=>ni 0 il ft 1 xE rfl rfl [(vS x_6.Player),(vI x_6.At),(vI x_6.Clock)] rfl wz (ai (aF (af (aa (aN p8 rfl 0 rfl wz (aK 0 1 il ft sz9 ag9 rfl rfl (vS x_6.Player) rfl wz (ae (vS player_2) wz rfl (ae (vB (sNe x_6.Player player_2)) wz rfl (ae (vB (sNe x_6.Player player_2)) wz rfl (ai ?_)))))))))))))))))
   obtain ⟨v_18,h_19,hc_13⟩:=bind_some hc_13
   refine aD (β:=Nm) (λ(n_20:Nm)=>([(1,(vS player_2)),(2,(vB back_3)),(7,(gV n_20 2 v_18)),(10,(vL Beat.enc l_1)),(11,(vI (l_1.length:Int))),(12,(vI (k_4:Int)))]:SL_)) (λ(n_20:Nm)=>([(n_20,gB 2 Beat_.enc v_18),(n_17,some (.cells 3 [(vS x_6.Player),(vI x_6.At),(vI x_6.Clock)]))]:Hp)) (λ_=>True) ?_ ?_
   ·rcases aj h_19 with⟨hc_21,h_19⟩|⟨hc_21,h_19⟩
    ·refine ay rfl hc_21 (ax ?_)
     obtain rfl:=ah h_19
     exact bg n_12 trivial rfl (aI rfl)
    ·refine aA rfl hc_21 (af (aa (ae (vB back_3) wz rfl (ae (vB back_3) wz rfl (ai ?_)))))
     rcases aj h_19 with⟨hc_22,h_19⟩|⟨hc_22,h_19⟩
     ·refine ay rfl hc_22 (aa (ae (gV n_12 2 s_9) wz rfl (aN rV rfl 1 rfl wz (aK 0 1 il ft sz3 ag3 rfl rfl (vI x_6.At) rfl wz (aN qX rfl 2 rfl wz (aK 0 1 il ft sz3 ag3 rfl rfl (vI x_6.Clock) rfl wz (ae (.d (.agg (Beat_.enc (⟨x_6.At,x_6.Clock⟩:Beat_)))) wz (by kernel_rfl) (dC (([(⟨x_6.At,x_6.Clock⟩:Beat_)]:List Beat_).map Beat_.enc) rF ez151 rfl rfl rfl rfl rfl wz ?_))))))))
      obtain ⟨a_23,hz_24,h_19⟩:=bind_some h_19
      refine ko 0 il ft (i:=0) BZ BZ xL z179 rfl (by decide) by179 (by decide) (λ_=>rfl) rfl rfl rfl hz_24 wz (λn_25=>ae (gV n_25 2 a_23) wz rfl (ai ?_))
      obtain rfl:=ah h_19
      exact bg n_25 trivial rfl (aI rfl)
     ·refine aA rfl hc_22 (aa (ae (gV n_12 2 s_9) wz rfl (aN qX rfl 2 rfl wz (aK 0 1 il ft sz3 ag3 rfl rfl (vI x_6.Clock) rfl wz (aN rV rfl 1 rfl wz (aK 0 1 il ft sz3 ag3 rfl rfl (vI x_6.At) rfl wz (ae (.d (.agg (Beat_.enc (⟨x_6.Clock,x_6.At⟩:Beat_)))) wz (by kernel_rfl) (dC (([(⟨x_6.Clock,x_6.At⟩:Beat_)]:List Beat_).map Beat_.enc) rF ez151 rfl rfl rfl rfl rfl wz ?_))))))))
      obtain ⟨a_26,hz_27,h_19⟩:=bind_some h_19
      refine ko 0 il ft (i:=0) BZ BZ xL z179 rfl (by decide) by179 (by decide) (λ_=>rfl) rfl rfl rfl hz_27 wz (λn_28=>ae (gV n_28 2 a_26) wz rfl (ai ?_))
      obtain rfl:=ah h_19
      exact bg n_28 trivial rfl (aI rfl)
   ·rintro n_20 _ sl_ H_ hp_ hq_
    refine aL _ hp_ hq_ (aa (kF (fu hD_7 hn_8) wz rfl (ae (vI ((k_4+1:Nat):Int)) wz rfl (ai ?_))))
    obtain rfl:=ah hc_13
    exact bB (k_4+1,l_5,v_18,n_20) ⟨hL_14,bT hD_7⟩ (ls_ _) rfl (aI rfl)
 ·rintro ⟨s_9,n_12⟩ ho_ sl_ H_ hp_ hq_
  subst ho_
  refine aL _ hp_ hq_ (af (aa (ae (gV n_12 2 s_9) wz rfl (ae (gV n_12 2 s_9) wz rfl (ai (iO 0 rfl (dQ 6 0 rfl rfl (dQ 7 0 rfl rfl (dQ 40 0 rfl rfl ?_)))))))))
  obtain rfl:=ah hF
  exact av (aQ (.inr rfl) [(vL Beat_.enc s_9)] ⟨rfl,trivial⟩ rfl rfl rfl)
theorem uB {l_1:(List Beat_)} {n_2:Int} {r:Int×Int} (hF:jG l_1 n_2=some r) :
  FnM Tryz.prog 132 [(vL Beat_.enc l_1),(vI n_2)] [] (.tup [(vI r.1),(vI r.2)]) []:=by
 refine FnM.of_wH ⟨Tryz.prog,108,[],[]⟩ rfl Tryz.func132 rfl rfl (lb_ rfl) (by kernel_rfl) ?_
 unfold jG at hF
 refine af (aa (ae (vI 0) wz rfl (ae (vI 0) wz rfl (ai (af (af (aa (ae (vL Beat_.enc l_1) wz rfl (bS EQ rfl wz (ae (vB ((l_1.length:Int)==0)) wz rfl (ai ?_)))))))))))
 rcases aj hF with⟨hc_3,hF⟩|⟨hc_3,hF⟩
 ·refine ay rfl hc_3 (af (aa (ae (vI 0) wz rfl (ae (vI 8) wz rfl (ai ?_)))))
  obtain rfl:=ah hF
  exact av (aQ (.inr rfl) [(vI 0),(vI 8)] ⟨rfl,⟨rfl,trivial⟩⟩ rfl rfl rfl)
 ·refine aA rfl hc_3 (ax (af (aa (ae (vI 0) wz rfl (ai (af ?_))))))
  obtain ⟨o_12,hj_13,hF⟩:=bind_some hF
  obtain ⟨nq_51,hj_13⟩:=dV hj_13
  refine aD (β:=(Int)) (λ(s_9:Int)=>([(0,(vL Beat_.enc l_1)),(1,(vI n_2)),(6,(vI s_9))]:SL_)) (λ(s_9:Int)=>([]:Hp)) (λp=>o_12 = .go p) ?_ ?_
  ·refine aF (bI (β:=Nat×(Int)) (λp=>(λ(k_4:Nat) (s_9:Int)=>([(0,(vL Beat_.enc l_1)),(1,(vI n_2)),(6,(vI s_9))]:SL_)) p.1 p.2) (λp=>(λ(k_4:Nat) (s_9:Int)=>([]:Hp)) p.1 p.2) (λp=>aZ (λs=>dJ l_1 n_2 s) p.1 p.2=some o_12) (λp=>p.1) (nq_51,0) hj_13 rfl (aI rfl) ?_)
   rintro ⟨k_4,s_9⟩ hL_11
   dsimp only at hL_11
   cases k_4 with
   | zero=>cases hL_11
   | succ k_4 =>
    obtain ⟨c_,hc_10,hL_11⟩:=bind_some hL_11
    unfold dJ at hc_10
    refine af (af ?_)
    obtain ⟨v_14,h_15,hc_10⟩:=bind_some hc_10
    refine aD (β:=Unit) (λ_=>([(0,(vL Beat_.enc l_1)),(1,(vI n_2)),(6,(vI s_9)),(25,(vB v_14))]:SL_)) (λ_=>([]:Hp)) (λ_=>True) ?_ ?_
    ·refine aa (ae (vI s_9) wz rfl (ae (vL Beat_.enc l_1) wz rfl (bS EQ rfl wz (ae (vB (decide (s_9<(l_1.length:Int)))) wz rfl ?_))))
     rcases aj h_15 with⟨hc_16,h_15⟩|⟨hc_16,h_15⟩
     ·refine aC rfl hc_16 wz (ae (vL Beat_.enc l_1) wa rfl (ae (vI s_9) wa rfl ?_))
      obtain ⟨y_17,hy_18,h_15⟩:=bind_some h_15
      refine fB rF rfl rfl hy_18 rfl wa (uR mG rfl [.int .i64 y_17.f_from,.int .i64 y_17.f_to] rfl rfl wa (di sz3 ag3 rfl (vI y_17.f_from) rfl wa (ae (vI n_2) wa rfl (ae (vB (decide (y_17.f_from<=n_2))) wa rfl (ae (vB (decide (y_17.f_from<=n_2))) wz rfl (ai ?_))))))
      obtain rfl:=ah h_15
      exact cu
     ·refine aC rfl hc_16 wz (ak wa (ak wa (ak wa (ak wa (ak wa (ak wa (ak wa (ae (vB false) wz rfl (ai ?_)))))))))
      obtain rfl:=ah h_15
      exact cu
    ·rintro ⟨⟩ _ sl_ H_ hp_ hq_
     refine aL _ hp_ hq_ ?_
     rcases aj hc_10 with⟨hc_19,hc_10⟩|⟨hc_19,hc_10⟩
     ·refine ay rfl hc_19 (ax (aF (aa (ae (vI s_9) wz rfl (ae (vI (w64 (s_9+1))) wz rfl (ae (vI (w64 (s_9+1))) wz rfl (ai ?_)))))))
      obtain rfl:=ah hc_10
      exact bB (k_4,(w64 (s_9+1))) hL_11 (ls_ _) rfl (aI rfl)
     ·refine aA rfl hc_19 (bA ?_)
      obtain rfl:=ah hc_10
      obtain rfl:=ah hL_11
      exact bg (s_9) rfl rfl (aI rfl)
  ·rintro s_9 ho_ sl_ H_ hp_ hq_
   subst ho_
   refine aL _ hp_ hq_ (af (aa (ae (vI 0) wz rfl (ai (af (aF (af (aa (ae (vI s_9) wz rfl (ae (vB (s_9==0)) wz rfl (ae (vB (s_9==0)) wz rfl (ai ?_))))))))))))
   rcases aj hF with⟨hc_20,hF⟩|⟨hc_20,hF⟩
   ·refine ay rfl hc_20 (dw (ae (vL Beat_.enc l_1) wz rfl ?_))
    obtain ⟨y_21,hy_22,hF⟩:=bind_some hF
    refine fB rF rfl rfl hy_22 rfl wz (uR nT rfl [.int .i64 y_21.f_to] rfl rfl wz (di sz3 ag3 rfl (vI y_21.f_to) rfl wz (ae (vL Beat_.enc l_1) wz rfl ?_)))
    obtain ⟨y_23,hy_24,hF⟩:=bind_some hF
    refine fB rF rfl rfl hy_24 rfl wz (uR mG rfl [.int .i64 y_23.f_from,.int .i64 y_23.f_to] rfl rfl wz (di sz3 ag3 rfl (vI y_23.f_from) rfl wz (ae (vI n_2) wz rfl (ae (vI (w64 (y_23.f_from-n_2))) wz rfl (ae (vI (w64 (y_21.f_to-(w64 (y_23.f_from-n_2))))) wz rfl (ae (vI (w64 (y_21.f_to-(w64 (y_23.f_from-n_2))))) wz rfl (ai (af (af (aa (ae (vI (w64 (y_21.f_to-(w64 (y_23.f_from-n_2))))) wz rfl ?_)))))))))))
    obtain ⟨r_25,hr_26,hF⟩:=bind_some hF
    refine au (gD hr_26) rfl Ao rfl rfl rfl rfl wz (ae (vB (!r_25)) wz rfl (ai ?_))
    rcases aj hF with⟨hc_27,hF⟩|⟨hc_27,hF⟩
    ·refine ay rfl hc_27 (af (aa (ae (vI 0) wz rfl (ae (vI 11) wz rfl (ai ?_)))))
     obtain rfl:=ah hF
     exact av (aQ (.inr rfl) [(vI 0),(vI 11)] ⟨rfl,⟨rfl,trivial⟩⟩ rfl rfl rfl)
    ·refine aA rfl hc_27 (ax (af (aa (ae (vI (w64 (y_21.f_to-(w64 (y_23.f_from-n_2))))) wz rfl (ae (vI (w64 (y_21.f_to-(w64 (y_23.f_from-n_2))))) wz rfl (ae (vI 0) wz rfl (ai ?_)))))))
     obtain rfl:=ah hF
     exact av (aQ (.inr rfl) [(vI (w64 (y_21.f_to-(w64 (y_23.f_from-n_2))))),(vI 0)] ⟨rfl,⟨rfl,trivial⟩⟩ rfl rfl rfl)
   ·refine aA rfl hc_20 (af (aa (ae (vI s_9) wz rfl (ae (vL Beat_.enc l_1) wz rfl (bS EQ rfl wz (ae (vB (s_9==(l_1.length:Int))) wz rfl (ae (vB (s_9==(l_1.length:Int))) wz rfl (ai ?_))))))))
    rcases aj hF with⟨hc_28,hF⟩|⟨hc_28,hF⟩
    ·refine ay rfl hc_28 (dw (ae (vL Beat_.enc l_1) wz rfl (ae (vI s_9) wz rfl (ae (vI (w64 (s_9-1))) wz rfl ?_))))
     obtain ⟨y_29,hy_30,hF⟩:=bind_some hF
     refine fB rF rfl rfl hy_30 rfl wz (uR nT rfl [.int .i64 y_29.f_to] rfl rfl wz (di sz3 ag3 rfl (vI y_29.f_to) rfl wz (ae (vI n_2) wz rfl (ae (vI (w64 (y_29.f_to+n_2))) wz rfl (ae (vL Beat_.enc l_1) wz rfl (ae (vI s_9) wz rfl (ae (vI (w64 (s_9-1))) wz rfl ?_)))))))
     obtain ⟨y_31,hy_32,hF⟩:=bind_some hF
     refine fB rF rfl rfl hy_32 rfl wz (uR mG rfl [.int .i64 y_31.f_from,.int .i64 y_31.f_to] rfl rfl wz (di sz3 ag3 rfl (vI y_31.f_from) rfl wz (ae (vI (w64 ((w64 (y_29.f_to+n_2))-y_31.f_from))) wz rfl (ae (vI (w64 ((w64 (y_29.f_to+n_2))-y_31.f_from))) wz rfl (ai (af (af (aa (ae (vI (w64 ((w64 (y_29.f_to+n_2))-y_31.f_from))) wz rfl ?_)))))))))
     obtain ⟨r_33,hr_34,hF⟩:=bind_some hF
     refine au (gD hr_34) rfl Ao rfl rfl rfl rfl wz (ae (vB (!r_33)) wz rfl (ai ?_))
     rcases aj hF with⟨hc_35,hF⟩|⟨hc_35,hF⟩
     ·refine ay rfl hc_35 (af (aa (ae (vI 0) wz rfl (ae (vI 11) wz rfl (ai (aL (H0:=([]:Hp)) ([(4,(vI 0)),(5,(vI 11))]:SL_) (by kernel_rfl) (yf (by kernel_rfl)) ?_))))))
      obtain rfl:=ah hF
      exact av (aQ (.inr rfl) [(vI 0),(vI 11)] ⟨rfl,⟨rfl,trivial⟩⟩ rfl rfl rfl)
     ·refine aA rfl hc_35 (ax (af (aa (ae (vI (w64 ((w64 (y_29.f_to+n_2))-y_31.f_from))) wz rfl (ae (vI (w64 ((w64 (y_29.f_to+n_2))-y_31.f_from))) wz rfl (ae (vI 0) wz rfl (ai (aL (H0:=([]:Hp)) ([(4,(vI (w64 ((w64 (y_29.f_to+n_2))-y_31.f_from)))),(5,(vI 0))]:SL_) (by kernel_rfl) (yf (by kernel_rfl)) ?_))))))))
      obtain rfl:=ah hF
      exact av (aQ (.inr rfl) [(vI (w64 ((w64 (y_29.f_to+n_2))-y_31.f_from))),(vI 0)] ⟨rfl,⟨rfl,trivial⟩⟩ rfl rfl rfl)
    ·refine aA rfl hc_28 (af (dw (ae (vL Beat_.enc l_1) wz rfl (ae (vI s_9) wz rfl (ae (vI (w64 (s_9-1))) wz rfl ?_)))))
     obtain ⟨y_36,hy_37,hF⟩:=bind_some hF
     refine fB rF rfl rfl hy_37 rfl wz (di xL ag179 rfl (.d (.agg (Beat_.enc y_36))) rfl wz (ae (vL Beat_.enc l_1) wz rfl (ae (vI s_9) wz rfl ?_)))
     obtain ⟨y_38,hy_39,hF⟩:=bind_some hF
     refine fB rF rfl rfl hy_39 rfl wz (di xL ag179 rfl (.d (.agg (Beat_.enc y_38))) rfl wz (kC 9 (.inr (by kernel_rfl)) z179 rfl wz (λn_40=>kC 10 (.inr (by kernel_rfl)) z179 rfl wz (λn_41=>ni 11 (.inr (by kernel_rfl)) (λ_ _ ag=>⟨.inr (.inr (by kernel_rfl)),⟨.inr (.inr (by kernel_rfl)),trivial⟩⟩) 0 xL rfl rfl [(vI y_36.f_from),(vI y_36.f_to)] rfl wz (ni 12 (.inr (by kernel_rfl)) (λ_ _ ag=>⟨.inr (.inr (by kernel_rfl)),⟨.inr (.inr (by kernel_rfl)),⟨.inr (.inr (by kernel_rfl)),trivial⟩⟩⟩) 1 xL rfl rfl [(vI y_38.f_from),(vI y_38.f_to)] rfl wz (ai (af (af ?_))))))))
     obtain ⟨v_42,h_43,hF⟩:=bind_some hF
     refine aD (β:=Unit) (λ_=>([(1,(vI n_2)),(8,(.ref n_40 0 0)),(9,(.ref n_41 0 0)),(50,(vB v_42))]:SL_)) (λ_=>([(n_40,some (.cells 2 [(vI y_36.f_from),(vI y_36.f_to)])),(n_41,some (.cells 2 [(vI y_38.f_from),(vI y_38.f_to)]))]:Hp)) (λ_=>True) ?_ ?_
     ·refine aa (aN mG rfl 0 rfl wz (aK 0 1 il ft sz3 ag3 rfl rfl (vI y_38.f_from) rfl wz (aN mG rfl 0 rfl wz (aK 0 0 il ft sz3 ag3 rfl rfl (vI y_36.f_from) rfl wz (ae (vI (w64 (y_38.f_from-y_36.f_from))) wz rfl (ae (vB (decide ((w64 (y_38.f_from-y_36.f_from))>2592000000))) wz rfl ?_))))))
      rcases aj h_43 with⟨hc_44,h_43⟩|⟨hc_44,h_43⟩
      ·refine aC rfl hc_44 wz (ak wa (ak wa (ak wa (ak wa (ak wa (ak wa (ae (vB true) wz rfl (ai ?_))))))))
       obtain rfl:=ah h_43
       exact cu
      ·refine aC rfl hc_44 wz (aN nT rfl 1 rfl wa (aK 0 1 il ft sz3 ag3 rfl rfl (vI y_38.f_to) rfl wa (aN nT rfl 1 rfl wa (aK 0 0 il ft sz3 ag3 rfl rfl (vI y_36.f_to) rfl wa (ae (vI (w64 (y_38.f_to-y_36.f_to))) wa rfl (ae (vB (decide ((w64 (y_38.f_to-y_36.f_to))>2592000000))) wa rfl (ae (vB (decide ((w64 (y_38.f_to-y_36.f_to))>2592000000))) wz rfl (ai ?_))))))))
       obtain rfl:=ah h_43
       exact cu
     ·rintro ⟨⟩ _ sl_ H_ hp_ hq_
      refine aL _ hp_ hq_ ?_
      rcases aj hF with⟨hc_45,hF⟩|⟨hc_45,hF⟩
      ·refine ay rfl hc_45 (af (aa (ae (vI 0) wz rfl (ae (vI 2) wz rfl (ai ?_)))))
       obtain rfl:=ah hF
       exact av (aQ (.inr rfl) [(vI 0),(vI 2)] ⟨rfl,⟨rfl,trivial⟩⟩ rfl rfl rfl)
      ·refine aA rfl hc_45 (ax (dw (aN nT rfl 1 rfl wz (aK 1 0 (.inr (by kernel_rfl)) (λ_ _ ag=>trivial) sz3 ag3 rfl rfl (vI y_36.f_to) rfl wz (ae (vI n_2) wz rfl (aN mG rfl 0 rfl wz (aK 4 0 (.inr (by kernel_rfl)) (λ_ _ ag=>⟨.inl ⟨rfl,rfl⟩,trivial⟩) sz3 ag3 rfl rfl (vI y_36.f_from) rfl wz (ae (vI (w64 (n_2-y_36.f_from))) wz rfl (aN nT rfl 1 rfl wz (aK 7 1 (.inr (by kernel_rfl)) (λ_ _ ag=>⟨.inl ⟨rfl,rfl⟩,⟨.inl ⟨rfl,rfl⟩,trivial⟩⟩) sz3 ag3 rfl rfl (vI y_38.f_to) rfl wz (aN nT rfl 1 rfl wz (aK 9 0 (.inr (by kernel_rfl)) (λ_ _ ag=>⟨.inl ⟨rfl,rfl⟩,⟨.inl ⟨rfl,rfl⟩,⟨.inl ⟨rfl,rfl⟩,trivial⟩⟩⟩) sz3 ag3 rfl rfl (vI y_36.f_to) rfl wz (ae (vI (w64 (y_38.f_to-y_36.f_to))) wz rfl (ae (vI (w64 ((w64 (n_2-y_36.f_from))*(w64 (y_38.f_to-y_36.f_to))))) wz rfl (aN mG rfl 0 rfl wz (aK 13 1 (.inr (by kernel_rfl)) (λ_ _ ag=>⟨.inl ⟨rfl,rfl⟩,⟨.inl ⟨rfl,rfl⟩,⟨.inl ⟨rfl,rfl⟩,⟨.inl ⟨rfl,rfl⟩,trivial⟩⟩⟩⟩) sz3 ag3 rfl rfl (vI y_38.f_from) rfl wz (aN mG rfl 0 rfl wz (aK 15 0 (.inr (by kernel_rfl)) (λ_ _ ag=>⟨.inl ⟨rfl,rfl⟩,⟨.inl ⟨rfl,rfl⟩,⟨.inl ⟨rfl,rfl⟩,⟨.inl ⟨rfl,rfl⟩,⟨.inl ⟨rfl,rfl⟩,trivial⟩⟩⟩⟩⟩) sz3 ag3 rfl rfl (vI y_36.f_from) rfl wz (ae (vI (w64 (y_38.f_from-y_36.f_from))) wz rfl ?_)))))))))))))))))))
       obtain ⟨q_46,hz_47,hF⟩:=bind_some hF
       refine DJ rfl rfl hz_47 wz (ae (vI (w64 (y_36.f_to+q_46))) wz rfl (ae (vI (w64 (y_36.f_to+q_46))) wz rfl (ai (af (af (aa (ae (vI (w64 (y_36.f_to+q_46))) wz rfl ?_)))))))
       obtain ⟨r_48,hr_49,hF⟩:=bind_some hF
       refine au (gD hr_49) rfl Ao rfl rfl rfl rfl wz (ae (vB (!r_48)) wz rfl (ai ?_))
       rcases aj hF with⟨hc_50,hF⟩|⟨hc_50,hF⟩
       ·refine ay rfl hc_50 (af (aa (ae (vI 0) wz rfl (ae (vI 11) wz rfl (ai ?_)))))
        obtain rfl:=ah hF
        exact av (aQ (.inr rfl) [(vI 0),(vI 11)] ⟨rfl,⟨rfl,trivial⟩⟩ rfl rfl rfl)
       ·refine aA rfl hc_50 (ax (af (aa (ae (vI (w64 (y_36.f_to+q_46))) wz rfl (ae (vI (w64 (y_36.f_to+q_46))) wz rfl (ae (vI 0) wz rfl (ai ?_)))))))
        obtain rfl:=ah hF
        exact av (aQ (.inr rfl) [(vI (w64 (y_36.f_to+q_46))),(vI 0)] ⟨rfl,⟨rfl,trivial⟩⟩ rfl rfl rfl)
theorem vY {l_1:(List Beat)} {player_2:ByteArray} {n_3:Int} {back_4:Bool} {r:Int×Int} (hF:jl l_1 player_2 n_3 back_4=some r) :
  FnM Tryz.prog 114 [(vL Beat.enc l_1),(vS player_2),(vI n_3),(vB back_4)] [] (.tup [(vI r.1),(vI r.2)]) []:=by
 refine FnM.of_wH ⟨Tryz.prog,30,[],[]⟩ rfl Tryz.func114 rfl rfl (lb_ rfl) (by kernel_rfl) ?_
 unfold jl at hF
 refine af (aa (ae (vI 0) wz rfl (ae (vI 0) wz rfl (ai (af (af (aa (ae (vL Beat.enc l_1) wz rfl ?_))))))))
 obtain ⟨r_5,hr_6,hF⟩:=bind_some hF
 refine au (qj hr_6) rfl hb100 rfl rfl rfl rfl wz (ae (vI r_5) wz rfl (ai (af (aa (ae (vI r_5) wz rfl (ae (vB (r_5 != 0)) wz rfl (ai ?_)))))))
 rcases aj hF with⟨hc_7,hF⟩|⟨hc_7,hF⟩
 ·refine ay rfl hc_7 (af (aa (ae (vI r_5) wz rfl (ae (vI 0) wz rfl (ae (vI r_5) wz rfl (ai ?_))))))
  obtain rfl:=ah hF
  exact av (aQ (.inr rfl) [(vI 0),(vI r_5)] ⟨rfl,⟨rfl,trivial⟩⟩ rfl rfl rfl)
 ·refine aA rfl hc_7 (ax (af (af (aa (ae (vS player_2) wz rfl ?_)))))
  obtain ⟨r_8,hr_9,hF⟩:=bind_some hF
  refine au (lw hr_9) rfl BX rfl rfl rfl rfl wz (ae (vB (!r_8)) wz rfl (ai ?_))
  rcases aj hF with⟨hc_10,hF⟩|⟨hc_10,hF⟩
  ·refine ay rfl hc_10 (af (aa (ae (vI 0) wz rfl (ae (vI 5) wz rfl (ai ?_)))))
   obtain rfl:=ah hF
   exact av (aQ (.inr rfl) [(vI 0),(vI 5)] ⟨rfl,⟨rfl,trivial⟩⟩ rfl rfl rfl)
  ·refine aA rfl hc_10 (ax (af (af (aa (ae (vI n_3) wz rfl ?_)))))
   obtain ⟨r_11,hr_12,hF⟩:=bind_some hF
   refine au (gD hr_12) rfl Ao rfl rfl rfl rfl wz (ae (vB (!r_11)) wz rfl (ai ?_))
   rcases aj hF with⟨hc_13,hF⟩|⟨hc_13,hF⟩
   ·refine ay rfl hc_13 (af (aa (ae (vI 0) wz rfl (ae (vI 1) wz rfl (ai ?_)))))
    obtain rfl:=ah hF
    exact av (aQ (.inr rfl) [(vI 0),(vI 1)] ⟨rfl,⟨rfl,trivial⟩⟩ rfl rfl rfl)
   ·refine aA rfl hc_13 (ax (af (aa (ae (vL Beat.enc l_1) wz rfl (ae (vS player_2) wz rfl (ae (vB back_4) wz rfl ?_))))))
    obtain ⟨r_14,hr_15,hF⟩:=bind_some hF
    refine au (rZ hr_15) rfl hb131 rfl rfl rfl rfl wz (ae (vI n_3) wz rfl ?_)
    obtain ⟨r_16,hr_17,hF⟩:=bind_some hF
    refine au (uB hr_17) rfl hb132 rfl rfl rfl rfl wz (ae (vI r_16.1) wz rfl (ae (vI r_16.2) wz rfl (ae (vI r_16.1) wz rfl (ae (vI r_16.2) wz rfl (ai ?_)))))
    obtain rfl:=ah hF
    exact av (aQ (.inr rfl) [(vI r_16.1),(vI r_16.2)] ⟨rfl,⟨rfl,trivial⟩⟩ rfl rfl rfl)
theorem wo {l_1:(List Beat)} {player_2:ByteArray} {clock_3:Int} {r:Int×Int} (hF:mH l_1 player_2 clock_3=some r) :
  FnM Tryz.prog 76 [(vL Beat.enc l_1),(vS player_2),(vI clock_3)] [] (.tup [(vI r.1),(vI r.2)]) []:=by
 refine FnM.of_wH ⟨Tryz.prog,14,[],[]⟩ rfl Tryz.func76 rfl rfl (lb_ rfl) (by kernel_rfl) ?_
 unfold mH at hF
 refine af (aa (ae (vI 0) wz rfl (ae (vI 0) wz rfl (ai (af (aa (ae (vL Beat.enc l_1) wz rfl (ae (vS player_2) wz rfl (ae (vI clock_3) wz rfl ?_)))))))))
 obtain ⟨r_4,hr_5,hF⟩:=bind_some hF
 refine au (vY hr_5) rfl hb114 rfl rfl rfl rfl wz (ae (vI r_4.1) wz rfl (ae (vI r_4.2) wz rfl (ae (vI r_4.1) wz rfl (ae (vI r_4.2) wz rfl (ai ?_)))))
 obtain rfl:=ah hF
 exact av (aQ (.inr rfl) [(vI r_4.1),(vI r_4.2)] ⟨rfl,⟨rfl,trivial⟩⟩ rfl rfl rfl)
theorem qE {r:Bool} (hF:jL  = some r) :
  FnM Tryz.prog 28 [] [] (vB r) []:=by
 refine FnM.of_wH ⟨Tryz.prog,16,[],[]⟩ rfl Tryz.func28 rfl rfl (lb_ rfl) (by kernel_rfl) ?_
 unfold jL at hF
 refine af (aa (ae (vB false) wz rfl (ai (af (aa (ae (.d (.agg (Beat.enc (⟨(⟨#[112]⟩:ByteArray),0,100⟩:Beat)))) wz (by kernel_rfl) (ae (.d (.agg (Beat.enc (⟨(⟨#[112]⟩:ByteArray),1000,1300⟩:Beat)))) wz (by kernel_rfl) (dC (([(⟨(⟨#[112]⟩:ByteArray),0,100⟩:Beat),(⟨(⟨#[112]⟩:ByteArray),1000,1300⟩:Beat)]:List Beat).map Beat.enc) Dr ez74 rfl rfl rfl rfl rfl wz ?_))))))))
 obtain ⟨r_1,hr_2,hF⟩:=bind_some hF
 refine au (wo hr_2) rfl hb76 rfl rfl rfl rfl wz (ae (.tup [(vI r_1.1),(vI r_1.2)]) wz rfl (ae (vI r_1.1) wz rfl (ae (vI r_1.2) wz rfl (ae (vI r_1.1) wz rfl (ae (vI r_1.2) wz rfl (ai (af ?_)))))))
 obtain ⟨v_3,h_4,hF⟩:=bind_some hF
 refine aD (β:=Unit) (λ_=>([(0,(vB v_3))]:SL_)) (λ_=>([]:Hp)) (λ_=>True) ?_ ?_
 ·refine aa (ae (vI r_1.2) wz rfl (ae (vB (r_1.2==0)) wz rfl ?_))
  rcases aj h_4 with⟨hc_5,h_4⟩|⟨hc_5,h_4⟩
  ·refine aC rfl hc_5 wz (ae (vI r_1.1) wa rfl (ae (vB (r_1.1==500)) wa rfl (ae (vB (r_1.1==500)) wz rfl (ae (vB (r_1.1==500)) wz rfl (ai ?_)))))
   obtain rfl:=ah h_4
   exact cu
  ·refine aC rfl hc_5 wz (ak wa (ak wa (ae (vB false) wz rfl (ae (vB false) wz rfl (ai ?_)))))
   obtain rfl:=ah h_4
   exact cu
 ·rintro ⟨⟩ _ sl_ H_ hp_ hq_
  refine aL _ hp_ hq_ ?_
  obtain rfl:=ah hF
  exact av (aQ (.inr rfl) [(vB v_3)] ⟨rfl,trivial⟩ rfl rfl rfl)
end Go.Proofs.YtdenjndllgahgaaGreatDoor.Law

