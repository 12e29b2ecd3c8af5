/-
 The machine computes these plain functions (written by a program of ours).
-/
import Derived.Test.YtnfedlledilojaaGreatDoorFacts
import Derived.Test.YtnfedlledilojaaGreatDoorDefs
import Derived.Test.YtnfedlledilojaaGreatDoorPf1
import Derived.Test.YtnfedlledilojaaGreatDoorShelf
open Go Go.Eng Go.Proofs
namespace Go.Proofs.YtnfedlledilojaaGreatDoor.Law
set_option maxRecDepth 100000
set_option linter.unusedVariables false
set_option maxHeartbeats 1000000
theorem mR {x_1:Int} {r:Bool} (hF:cmp_isNaN_int x_1=some r) :
  FnM Tryz.prog 85 [(vI x_1)] [] (vB r) []:=by
 refine FnM.of_wH ⟨Tryz.prog,6,[],[]⟩ rfl Tryz.func85 rfl rfl (lb_ rfl) (by kernel_rfl) ?_
 unfold cmp_isNaN_int at hF
 refine ai (aa (vB false) (af (ai (aa (vI x_1) (aa (vI x_1) (aa (vB (x_1 != x_1)) (aa (vB (x_1 != x_1)) (af ?_))))))))
 obtain rfl:=ae hF
 exact av (aJ [(vB (x_1 != x_1))] ⟨rfl,trivial⟩)
theorem lD {x_1:Int} {y_2:Int} {r:Int} (hF:cmp_Compare_int x_1 y_2=some r) :
  FnM Tryz.prog 63 [(vI x_1),(vI y_2)] [] (vI r) []:=by
 refine FnM.of_wH ⟨Tryz.prog,20,[],[]⟩ rfl Tryz.func63 rfl rfl (lb_ rfl) (by kernel_rfl) ?_
 unfold cmp_Compare_int at hF
 refine ai (aa (vI 0) (af (ai (aa (vI x_1) ?_))))
 obtain ⟨r_3,hr_4,hF⟩:=bind_some hF
 refine ay (mR hr_4) rfl hb85 rfl rfl rfl rfl wz (aa (vB r_3) (af (ai (aa (vI y_2) ?_))))
 obtain ⟨r_5,hr_6,hF⟩:=bind_some hF
 refine ay (mR hr_6) rfl hb85 rfl rfl rfl rfl wz (aa (vB r_5) (af (ak (ai (aa (vB r_3) (af ?_))))))
 rcases aj hF with⟨hc_7,hF⟩|⟨hc_7,hF⟩
 ·refine aD rfl hc_7 (ak (ai (aa (vB r_5) (af ?_))))
  rcases aj hF with⟨hc_8,hF⟩|⟨hc_8,hF⟩
  ·refine aD rfl hc_8 (ai (aa (vI 0) (af ?_)))
   obtain rfl:=ae hF
   exact av (aJ [(vI 0)] ⟨rfl,trivial⟩)
  ·refine aF rfl hc_8 (aC (ai (aa (vI (-1)) (af ?_))))
   obtain rfl:=ae hF
   exact av (aJ [(vI (-1))] ⟨rfl,trivial⟩)
 ·refine aF rfl hc_7 (aC (ak (ai (aa (vB r_5) (af ?_)))))
  rcases aj hF with⟨hc_9,hF⟩|⟨hc_9,hF⟩
  ·refine aD rfl hc_9 (ai (aa (vI 1) (af ?_)))
   obtain rfl:=ae hF
   exact av (aJ [(vI 1)] ⟨rfl,trivial⟩)
  ·refine aF rfl hc_9 (aC (ak (ai (aa (vI x_1) (aa (vI y_2) (aa (vB (decide (x_1<y_2))) (af ?_)))))))
   rcases aj hF with⟨hc_10,hF⟩|⟨hc_10,hF⟩
   ·refine aD rfl hc_10 (ai (aa (vI (-1)) (af ?_)))
    obtain rfl:=ae hF
    exact av (aJ [(vI (-1))] ⟨rfl,trivial⟩)
   ·refine aF rfl hc_10 (aC (ak (ai (aa (vI x_1) (aa (vI y_2) (aa (vB (decide (x_1>y_2))) (af ?_)))))))
    rcases aj hF with⟨hc_11,hF⟩|⟨hc_11,hF⟩
    ·refine aD rfl hc_11 (ai (aa (vI 1) (af ?_)))
     obtain rfl:=ae hF
     exact av (aJ [(vI 1)] ⟨rfl,trivial⟩)
    ·refine aF rfl hc_11 (aC (ai (aa (vI 0) (af ?_))))
     obtain rfl:=ae hF
     exact av (aJ [(vI 0)] ⟨rfl,trivial⟩)
theorem qg {vals_1:(List Int)} {r:Int} (hF:jH vals_1=some r) :
  FnM Tryz.prog 62 [(vL eI vals_1)] [] (vI r) []:=by
 refine FnM.of_wH ⟨Tryz.prog,18,[],[]⟩ rfl Tryz.func62 rfl rfl (lb_ rfl) (by kernel_rfl) ?_
 unfold jH at hF
 refine ai (aa (vI 0) (af (ai (aa (vI 0) (af (ak (ai (aa (vL eI vals_1) (dX Dl rfl wz (aa (vI 0) (af ?_)))))))))))
 obtain ⟨o_10,hj_11,hF⟩:=bind_some hF
 obtain ⟨hn_6,hj_11⟩:=bQ hj_11
 refine fI (λ(s_7:Unit)=>[(3,(vI 0))]) (λ(s_7:Unit)=>[]) (λ(k_2:Nat)=>(λ(s_7:Unit)=>[(3,(vI 0)),(6,(vL eI vals_1)),(7,(vI (vals_1.length:Int))),(8,(vI (k_2:Int)))])) (λk x s=>jL k x s) o_10 vals_1 () hj_11 rfl (aN rfl) ?_ ?_
 ·rintro ⟨k_2,l_3,s_7⟩ ⟨hL_9,hD_5⟩
  dsimp only at hL_9 hD_5
  cases l_3 with
  | nil =>
   obtain rfl:=ae hL_9
   refine ai (aa (vB (decide ((k_2:Int)<(vals_1.length:Int)))) (af ?_))
   refine ak (aF rfl (drop_nil hD_5) (dw ?_))
   exact bO (s_7) rfl rfl (aN rfl)
  | cons x_4 l_3 =>
   obtain ⟨c_,hc_8,hL_9⟩:=bind_some hL_9
   refine ai (aa (vB (decide ((k_2:Int)<(vals_1.length:Int)))) (af ?_))
   refine ak (aD rfl (dG hD_5) (aC ?_))
   unfold jL at hc_8
   refine ak (aU (ai (eT nK rfl rfl (dU hD_5) rfl wz (cz sz3 ag3 rfl (vI x_4) rfl wz (aa (vI x_4) (af (ai (aa (vI x_4) (aa (vI 0) (aa (vB (x_4 != 0)) (af ?_)))))))))))
   rcases aj hc_8 with⟨hc_12,hc_8⟩|⟨hc_12,hc_8⟩
   ·refine aD rfl hc_12 (ai (aa (vI x_4) (aa (vI x_4) (af ?_))))
    obtain rfl:=ae hc_8
    obtain rfl:=ae hL_9
    obtain rfl:=ae hF
    exact av (aJ [(vI x_4)] ⟨rfl,trivial⟩)
   ·refine aF rfl hc_12 (aC (ax (iZ (dV hD_5 hn_6) wz rfl (aa (vI ((k_2+1:Nat):Int)) (af ?_)))))
    obtain rfl:=ae hc_8
    exact dx (k_2+1,l_3,()) ⟨hL_9,bJ hD_5⟩ (ls_ _) rfl (aN rfl)
 ·rintro s_7 ho_ sl_ H_ hp_ hq_
  subst ho_
  refine aV _ hp_ hq_ (ai (aa (vI 0) (aa (vI 0) (af ?_))))
  obtain rfl:=ae hF
  exact av (aJ [(vI 0)] ⟨rfl,trivial⟩)
theorem oo {a_1:Log_} {b_2:Log_} {r:Int} (hF:fe a_1 b_2=some r) :
  FnM Tryz.prog 42 [(.d (.agg (Log_.enc a_1))),(.d (.agg (Log_.enc b_2)))] [] (vI r) []:=by
 refine FnM.of_wH ⟨Tryz.prog,17,[],[]⟩ rfl Tryz.func42 rfl rfl (lb_ rfl) (by kernel_rfl) ?_
 unfold fe at hF
 refine ai (nT 0 (.inl rfl) (Log_.v a_1) rfl rfl wz (λn_3=>nT 0 (.inl rfl) (Log_.v b_2) rfl rfl wz (λn_4=>aa (vI 0) (af (ak (bM (aQ kv rfl 0 rfl wz (aO 1 0 (.inr (by kernel_rfl)) (λ_ _ ag=>trivial) sz9 ag9 rfl rfl (vS a_1.Player) rfl wz (aQ kv rfl 0 rfl wz (aO 3 1 (.inr (by kernel_rfl)) (λ_ _ ag=>⟨.inl ⟨rfl,rfl⟩,trivial⟩) sz9 ag9 rfl rfl (vS b_2.Player) rfl wz ?_))))))))))
 obtain ⟨r_5,hr_6,hF⟩:=bind_some hF
 refine ay (iK hr_6) rfl hb49 rfl rfl rfl rfl wz (aQ nP rfl 2 rfl wz (aO 6 0 (.inr (by kernel_rfl)) (λ_ _ ag=>⟨.inl ⟨rfl,rfl⟩,⟨.inl ⟨rfl,rfl⟩,trivial⟩⟩) sz3 ag3 rfl rfl (vI a_1.No) rfl wz (aQ nP rfl 2 rfl wz (aO 8 1 (.inr (by kernel_rfl)) (λ_ _ ag=>⟨.inl ⟨rfl,rfl⟩,⟨.inl ⟨rfl,rfl⟩,⟨.inl ⟨rfl,rfl⟩,trivial⟩⟩⟩) sz3 ag3 rfl rfl (vI b_2.No) rfl wz ?_))))
 obtain ⟨r_7,hr_8,hF⟩:=bind_some hF
 refine ay (lD hr_8) rfl hb63 rfl rfl rfl rfl wz (fo (([r_5,r_7]:List Int).map eI) nK uJ rfl rfl rfl rfl rfl wz ?_)
 obtain ⟨r_9,hr_10,hF⟩:=bind_some hF
 refine ay (qg hr_10) rfl hb62 rfl rfl rfl rfl wz (aa (vI r_9) (af ?_))
 obtain rfl:=ae hF
 exact av (aJ [(vI r_9)] ⟨rfl,trivial⟩)
theorem lq {l_1:(List Log_)} {r:Int} (hF:dF l_1=some r) :
  FnM Tryz.prog 21 [(vL Log_.enc l_1)] [] (vI r) []:=by
 refine FnM.of_wH ⟨Tryz.prog,38,[],[]⟩ rfl Tryz.func21 rfl rfl (lb_ rfl) (by kernel_rfl) ?_
 unfold dF at hF
 refine ai (aa (vI 0) (af (ak (ai (aa (vL Log_.enc l_1) (dX sQ rfl wz (aa (vB (decide ((l_1.length:Int)>2000))) (af ?_))))))))
 rcases aj hF with⟨hc_2,hF⟩|⟨hc_2,hF⟩
 ·refine aD rfl hc_2 (ai (aa (vI 2) (af ?_)))
  obtain rfl:=ae hF
  exact av (aJ [(vI 2)] ⟨rfl,trivial⟩)
 ·refine aF rfl hc_2 (aC (ak (ai (aa (vL Log_.enc l_1) (dX sQ rfl wz (aa (vI 0) (af ?_)))))))
  obtain ⟨o_11,hj_12,hF⟩:=bind_some hF
  obtain ⟨hn_7,hj_12⟩:=bQ hj_12
  refine fI (λ(s_8:Unit)=>[]) (λ(s_8:Unit)=>[]) (λ(k_3:Nat)=>(λ(s_8:Unit)=>[(0,(vL Log_.enc l_1)),(9,(vL Log_.enc l_1)),(10,(vI (l_1.length:Int))),(11,(vI (k_3:Int)))])) (λk x s=>fU l_1 k x s) o_11 l_1 () hj_12 rfl (aN rfl) ?_ ?_
  ·rintro ⟨k_3,l_4,s_8⟩ ⟨hL_10,hD_6⟩
   dsimp only at hL_10 hD_6
   cases l_4 with
   | nil =>
    obtain rfl:=ae hL_10
    refine ai (aa (vB (decide ((k_3:Int)<(l_1.length:Int)))) (af ?_))
    refine ak (aF rfl (drop_nil hD_6) (dw ?_))
    exact bO (s_8) rfl rfl (aN rfl)
   | cons x_5 l_4 =>
    obtain ⟨c_,hc_9,hL_10⟩:=bind_some hL_10
    refine ai (aa (vB (decide ((k_3:Int)<(l_1.length:Int)))) (af ?_))
    refine ak (aD rfl (dG hD_6) (aC ?_))
    unfold fU at hc_9
    refine ak (aU (ai (aa (vI (k_3:Int)) (eT rE rfl rfl (dU hD_6) rfl wz (cz gz lN rfl (.d (.agg (Log_.enc x_5))) rfl wz (gY 0 (.inl rfl) z38 rfl wz (λn_13=>aa (vI (k_3:Int)) (je 0 il ft 0 gz rfl rfl (Log_.v x_5) rfl wz (af (ak (ai (aO 0 0 il ft gz lN rfl rfl (.d (.agg (Log_.enc x_5))) rfl wz ?_))))))))))))
    obtain ⟨r_14,hr_15,hc_9⟩:=bind_some hc_9
    refine ay (q9 hr_15) rfl hb40 rfl rfl rfl rfl wz (aa (vI r_14) (af (ai (aa (vI r_14) (aa (vB (r_14 != 0)) (af ?_))))))
    rcases aj hc_9 with⟨hc_16,hc_9⟩|⟨hc_16,hc_9⟩
    ·refine aD rfl hc_16 (ai (aa (vI r_14) (aa (vI r_14) (af ?_))))
     obtain rfl:=ae hc_9
     obtain rfl:=ae hL_10
     obtain rfl:=ae hF
     exact av (aJ [(vI r_14)] ⟨rfl,trivial⟩)
    ·refine aF rfl hc_16 (aC (ak (ai (aQ kV rfl 5 rfl wz (aO 0 0 il ft sz9 ag9 rfl rfl (vS x_5.Sum) rfl wz ?_)))))
     obtain ⟨r_17,hr_18,hc_9⟩:=bind_some hc_9
     refine ay (uq hr_18) rfl hb41 rfl rfl rfl rfl wz (aa (vB (!r_17)) (af ?_))
     rcases aj hc_9 with⟨hc_19,hc_9⟩|⟨hc_19,hc_9⟩
     ·refine aD rfl hc_19 (ai (aa (vI 3) (af ?_)))
      obtain rfl:=ae hc_9
      obtain rfl:=ae hL_10
      obtain rfl:=ae hF
      exact av (aJ [(vI 3)] ⟨rfl,trivial⟩)
     ·refine aF rfl hc_19 (aC (ak ?_))
      obtain ⟨v_20,h_21,hc_9⟩:=bind_some hc_9
      refine aS [(0,(vL Log_.enc l_1)),(9,(vL Log_.enc l_1)),(10,(vI (l_1.length:Int))),(11,(vI (k_3:Int))),(36,(vB v_20))] [(n_13,some (.cells 6 (Log_.v x_5)))] ?_ ?_
      ·refine bM (aa (vI (k_3:Int)) (aa (vB (decide ((k_3:Int)>0))) ?_))
       rcases aj h_21 with⟨hc_22,h_21⟩|⟨hc_22,h_21⟩
       ·refine aA rfl hc_22 wz (aG (vL Log_.enc l_1) wa rfl (aG (vI (k_3:Int)) wa rfl (aG (vI (w64 ((k_3:Int)-1))) wa rfl ?_)))
        obtain ⟨y_23,hy_24,h_21⟩:=bind_some h_21
        refine eT rE rfl rfl hy_24 rfl wa (cz gz lN rfl (.d (.agg (Log_.enc y_23))) rfl wa (aO 8 0 (.inr (by kernel_rfl)) (λ_ _ ag=>trivial) gz lN rfl rfl (.d (.agg (Log_.enc x_5))) rfl wa ?_))
        obtain ⟨r_25,hr_26,h_21⟩:=bind_some h_21
        refine ay (oo hr_26) rfl hb42 rfl rfl rfl rfl wa (aG (vB (decide (r_25>=0))) wa rfl (aa (vB (decide (r_25>=0))) (af ?_)))
        obtain rfl:=ae h_21
        exact cu
       ·refine aA rfl hc_22 wz (ah (ah (ah (ah (ah (ah (ah (ah (aa (vB false) (af ?_))))))))))
        obtain rfl:=ae h_21
        exact cu
      ·rintro ⟨⟩ _ sl_ H_ hp_ hq_
       refine aV _ hp_ hq_ ?_
       rcases aj hc_9 with⟨hc_27,hc_9⟩|⟨hc_27,hc_9⟩
       ·refine aD rfl hc_27 (ai (aa (vI 7) (af ?_)))
        obtain rfl:=ae hc_9
        obtain rfl:=ae hL_10
        obtain rfl:=ae hF
        exact av (aJ [(vI 7)] ⟨rfl,trivial⟩)
       ·refine aF rfl hc_27 (aC (ax (iZ (dV hD_6 hn_7) wz rfl (aa (vI ((k_3+1:Nat):Int)) (af ?_)))))
        obtain rfl:=ae hc_9
        exact dx (k_3+1,l_4,()) ⟨hL_10,bJ hD_6⟩ (ls_ _) rfl (aN rfl)
  ·rintro s_8 ho_ sl_ H_ hp_ hq_
   subst ho_
   refine aV _ hp_ hq_ (ai (aa (vI 0) (af ?_)))
   obtain rfl:=ae hF
   exact av (aJ [(vI 0)] ⟨rfl,trivial⟩)
theorem xN {l_1:Log_} {r:ByteArray} (hF:kZ l_1=some r) :
  FnM Tryz.prog 23 [(.d (.agg (Log_.enc l_1)))] [] (vS r) []:=by
 refine FnM.of_wH ⟨Tryz.prog,24,[],[]⟩ rfl Tryz.func23 rfl rfl (lb_ rfl) (by kernel_rfl) ?_
 unfold kZ at hF
 refine ai (nT 0 (.inl rfl) (Log_.v l_1) rfl rfl wz (λn_2=>aa (vS (⟨#[]⟩:ByteArray)) (af (ak (bM (aQ kv rfl 0 rfl wz (aO 1 0 (.inr (by kernel_rfl)) (λ_ _ ag=>trivial) sz9 ag9 rfl rfl (vS l_1.Player) rfl wz ?_)))))))
 obtain ⟨s_3,hz_4,hF⟩:=bind_some hF
 refine fH rfl rfl hz_4 wz (aQ sO rfl 1 rfl wz (aO 4 0 (.inr (by kernel_rfl)) (λ_ _ ag=>⟨.inl ⟨rfl,rfl⟩,trivial⟩) sz9 ag9 rfl rfl (vS l_1.Item) rfl wz ?_))
 obtain ⟨s_5,hz_6,hF⟩:=bind_some hF
 refine fH rfl rfl hz_6 wz ?_
 obtain ⟨s_7,hz_8,hF⟩:=bind_some hF
 refine fH rfl rfl hz_8 wz (aQ nP rfl 2 rfl wz (aO 8 0 (.inr (by kernel_rfl)) (λ_ _ ag=>⟨.inl ⟨rfl,rfl⟩,⟨.inl ⟨rfl,rfl⟩,trivial⟩⟩) sz3 ag3 rfl rfl (vI l_1.No) rfl wz ?_))
 obtain ⟨r_9,hr_10,hF⟩:=bind_some hF
 refine ay (gq hr_10) rfl FZ rfl rfl rfl rfl wz ?_
 obtain ⟨s_11,hz_12,hF⟩:=bind_some hF
 refine fH rfl rfl hz_12 wz ?_
 obtain ⟨s_13,hz_14,hF⟩:=bind_some hF
 refine fH rfl rfl hz_14 wz (aQ xq rfl 3 rfl wz (aO 13 0 (.inr (by kernel_rfl)) (λ_ _ ag=>⟨.inl ⟨rfl,rfl⟩,⟨.inl ⟨rfl,rfl⟩,⟨.inl ⟨rfl,rfl⟩,trivial⟩⟩⟩) sz3 ag3 rfl rfl (vI l_1.Clock) rfl wz ?_))
 obtain ⟨r_15,hr_16,hF⟩:=bind_some hF
 refine ay (gq hr_16) rfl FZ rfl rfl rfl rfl wz ?_
 obtain ⟨s_17,hz_18,hF⟩:=bind_some hF
 refine fH rfl rfl hz_18 wz ?_
 obtain ⟨s_19,hz_20,hF⟩:=bind_some hF
 refine fH rfl rfl hz_20 wz (aQ wm rfl 4 rfl wz (aO 18 0 (.inr (by kernel_rfl)) (λ_ _ ag=>⟨.inl ⟨rfl,rfl⟩,⟨.inl ⟨rfl,rfl⟩,⟨.inl ⟨rfl,rfl⟩,⟨.inl ⟨rfl,rfl⟩,trivial⟩⟩⟩⟩) sz3 ag3 rfl rfl (vI l_1.Long) rfl wz ?_))
 obtain ⟨r_21,hr_22,hF⟩:=bind_some hF
 refine ay (gq hr_22) rfl FZ rfl rfl rfl rfl wz ?_
 obtain ⟨s_23,hz_24,hF⟩:=bind_some hF
 refine fH rfl rfl hz_24 wz (aa (vS s_23) (af ?_))
 obtain rfl:=ae hF
 exact av (aJ [(vS s_23)] ⟨rfl,trivial⟩)
theorem Ez:mK Tryz.prog 22 52 50 9 :=
 Ej Tryz.lays166 Tryz.Builder_Extra_166
theorem FJ:BldT Tryz.prog 50 9 5 :=
 ⟨by kernel_rfl,by kernel_rfl,by kernel_rfl,by kernel_rfl,by kernel_rfl,rfl⟩
theorem FC:qN Tryz.prog 24 52 :=
 lenDoes Tryz.lays170
theorem FM:pQ Tryz.prog 25 52 :=
 strDoes Tryz.lays169 Tryz.Builder_Extra_169 rfl
theorem xJ {l_1:(List Log_)} {r:ByteArray×Int} (hF:iL l_1=some r) :
  FnM Tryz.prog 6 [(vL Log_.enc l_1)] [] (.tup [(vS r.1),(vI r.2)]) []:=by
 refine FnM.of_wH ⟨Tryz.prog,31,[5],[]⟩ rfl Tryz.func6 rfl rfl (lb_ rfl) (by kernel_rfl) ?_
 unfold iL at hF
 refine ai (aa (vS (⟨#[]⟩:ByteArray)) (aa (vI 0) (af (ak (ai (aa (vL Log_.enc l_1) ?_))))))
 obtain ⟨r_2,hr_3,hF⟩:=bind_some hF
 refine ay (lq hr_3) rfl hb21 rfl rfl rfl rfl wz (aa (vI r_2) (af (ai (aa (vI r_2) (aa (vB (r_2 != 0)) (af ?_))))))
 rcases aj hF with⟨hc_4,hF⟩|⟨hc_4,hF⟩
 ·refine aD rfl hc_4 (ai (aa (vI r_2) (aa (vS (⟨#[]⟩:ByteArray)) (aa (vI r_2) (af ?_)))))
  obtain rfl:=ae hF
  exact av (aJ [(vS (⟨#[]⟩:ByteArray)),(vI r_2)] ⟨rfl,⟨rfl,trivial⟩⟩)
 ·refine aF rfl hc_4 (aC (ai (FT 0 (.inl rfl) z52 wz (λn_5=>qR (λn_6=>Ev (b':=some (.cells (1048576+52) [.any,gV n_6 1 ([]:List Int)])) 0 rfl rfl (af (ak (ai (aa (vL Log_.enc l_1) (dX sQ rfl wz (aa (vI 0) (af ?_))))))))))))
  obtain ⟨o_17,hj_18,hF⟩:=bind_some hF
  obtain ⟨hn_11,hj_18⟩:=bQ hj_18
  refine ji (σ:=(List Int)) (N:=Nm) (λp=>(λ(s_12:List Int) (n_14:Nm)=>([(5,(.ref n_5 0 0))]:SL_)) p.1 p.2) (λp=>(λ(s_12:List Int) (n_14:Nm)=>([(n_5,some (.cells (1048576+52) [.any,(gV n_14 1 s_12)])),(n_14,gB 1 (eK .u8) s_12)]:Hp)) p.1 p.2) (λ(k_7:Nat)=>(λp=>(λ(s_12:List Int) (n_14:Nm)=>([(5,(.ref n_5 0 0)),(13,(vL Log_.enc l_1)),(14,(vI (l_1.length:Int))),(15,(vI (k_7:Int)))]:SL_)) p.1 p.2)) (λk x s=>gu k x s) o_17 l_1 (([]:List Int),n_6) hj_18 rfl (aN rfl) ?_ ?_
  ·rintro ⟨k_7,l_8,s_12,n_14⟩ ⟨hL_16,hD_10⟩
   dsimp only at hL_16 hD_10
   cases l_8 with
   | nil =>
    obtain rfl:=ae hL_16
    refine ai (aa (vB (decide ((k_7:Int)<(l_1.length:Int)))) (af ?_))
    refine ak (aF rfl (drop_nil hD_10) (dw ?_))
    exact bO (s_12,n_14) rfl rfl (aN rfl)
   | cons x_9 l_8 =>
    obtain ⟨c_,hc_15,hL_16⟩:=bind_some hL_16
    refine ai (aa (vB (decide ((k_7:Int)<(l_1.length:Int)))) (af ?_))
    refine ak (aD rfl (dG hD_10) (aC ?_))
    unfold gu at hc_15
    refine ak (aU (ai (eT rE rfl rfl (dU hD_10) rfl wz (cz gz lN rfl (.d (.agg (Log_.enc x_9))) rfl wz (gY 0 (.inl rfl) z38 rfl wz (λn_19=>je 0 il ft 2 gz rfl rfl (Log_.v x_9) rfl wz (af (bM (aO 0 2 (.inr (by kernel_rfl)) (λ_ _ ag=>trivial) gz lN rfl rfl (.d (.agg (Log_.enc x_9))) rfl wz ?_)))))))))
    obtain ⟨r_20,hr_21,hc_15⟩:=bind_some hc_15
    refine ay (xN hr_21) rfl hb23 rfl rfl rfl rfl wz ?_
    obtain ⟨s_22,hz_23,hc_15⟩:=bind_some hc_15
    refine fH rfl rfl hz_23 wz (aQ kV rfl 5 rfl wz (aO 4 2 (.inr (by kernel_rfl)) (λ_ _ ag=>⟨.inl ⟨rfl,rfl⟩,trivial⟩) sz9 ag9 rfl rfl (vS x_9.Sum) rfl wz ?_))
    obtain ⟨s_24,hz_25,hc_15⟩:=bind_some hc_15
    refine fH rfl rfl hz_25 wz ?_
    obtain ⟨s_26,hz_27,hc_15⟩:=bind_some hc_15
    refine fH rfl rfl hz_27 wz ?_
    obtain ⟨a_28,hz_29,hc_15⟩:=bind_some hc_15
    refine Dh 7 0 1 (.inr (by kernel_rfl)) (λ_ _ ag=>⟨.inr (.inr (by kernel_rfl)),⟨.inr (.inr (by kernel_rfl)),trivial⟩⟩) Ez FJ rfl hb22 rfl rfl rfl rfl (by decide) hz_29 wz (λn_30=>af (ax (iZ (dV hD_10 hn_11) wz rfl (aa (vI ((k_7+1:Nat):Int)) (af ?_)))))
    obtain rfl:=ae hc_15
    exact dx (k_7+1,l_8,a_28,n_30) ⟨hL_16,bJ hD_10⟩ (ls_ _) rfl (aN rfl)
  ·rintro ⟨s_12,n_14⟩ ho_ sl_ H_ hp_ hq_
   subst ho_
   refine aV _ hp_ hq_ (ak (ai (h_blenL 0 0 1 il ft FC rfl hb24 rfl rfl rfl (by decide) wz (aa (vB (decide ((s_12.length:Int)>200000))) (af ?_)))))
   rcases aj hF with⟨hc_31,hF⟩|⟨hc_31,hF⟩
   ·refine aD rfl hc_31 (ai (aa (vS (⟨#[]⟩:ByteArray)) (aa (vI 2) (af ?_))))
    obtain rfl:=ae hF
    exact av (aJ [(vS (⟨#[]⟩:ByteArray)),(vI 2)] ⟨rfl,⟨rfl,trivial⟩⟩)
   ·refine aF rfl hc_31 (aC (ai ?_))
    obtain ⟨s_32,hz_33,hF⟩:=bind_some hF
    refine h_bstrL 0 0 1 il ft FM rfl hb25 rfl rfl rfl (by decide) hz_33 wz (aa (vS s_32) (aa (vI 0) (af ?_)))
    obtain rfl:=ae hF
    exact av (aJ [(vS s_32),(vI 0)] ⟨rfl,⟨rfl,trivial⟩⟩)
theorem pF {n_1:Int} {low_2:Int} {high_3:Int} {r:Bool} (hF:nA n_1 low_2 high_3=some r) :
  FnM Tryz.prog 46 [(vI n_1),(vI low_2),(vI high_3)] [] (vB r) []:=by
 refine FnM.of_wH ⟨Tryz.prog,15,[],[]⟩ rfl Tryz.func46 rfl rfl (lb_ rfl) (by kernel_rfl) ?_
 unfold nA at hF
 refine ai (aa (vB false) (af (ak ?_)))
 obtain ⟨v_4,h_5,hF⟩:=bind_some hF
 refine aS [(6,(vB v_4))] [] ?_ ?_
 ·refine ax (aa (vI low_2) (aa (vI n_1) (aa (vB (decide (low_2<=n_1))) ?_)))
  rcases aj h_5 with⟨hc_6,h_5⟩|⟨hc_6,h_5⟩
  ·refine aA rfl hc_6 wz (aG (vI n_1) wa rfl (aG (vI high_3) wa rfl (aG (vB (decide (n_1<=high_3))) wa rfl (aa (vB (decide (n_1<=high_3))) (aa (vB (decide (n_1<=high_3))) (af ?_))))))
   obtain rfl:=ae h_5
   exact cu
  ·refine aA rfl hc_6 wz (ah (ah (ah (aa (vB false) (aa (vB false) (af ?_))))))
   obtain rfl:=ae h_5
   exact cu
 ·rintro ⟨⟩ _ sl_ H_ hp_ hq_
  refine aV _ hp_ hq_ ?_
  obtain rfl:=ae hF
  exact av (aJ [(vB v_4)] ⟨rfl,trivial⟩)
theorem eF {s_1:ByteArray} {c_2:Int} {r:Int} (hF:bD s_1 c_2=some r) :
  FnM Tryz.prog 87 [(vS s_1),(.d (.int .u8 c_2))] [] (vI r) []:=by
 refine FnM.of_wH ⟨Tryz.prog,8,[],[]⟩ rfl Tryz.func87 rfl rfl (lb_ rfl) (by kernel_rfl) ?_
 unfold bD at hF
 refine ai (aa (vI 0) (af (ai (aa (vS s_1) (aa (.d (.int .u8 c_2)) (h_ext (ext_ixB (f:=106) Tryz.func106 rfl rfl (by kernel_rfl) (by kernel_rfl) _ _) rfl nb106 rfl wz (aa (vI (ixB s_1 c_2)) (af ?_))))))))
 obtain rfl:=ae hF
 exact av (aJ [(vI (ixB s_1 c_2))] ⟨rfl,trivial⟩)
theorem oJ {s_1:ByteArray} {c_2:Int} {r:Int} (hF:strings_IndexByte s_1 c_2=some r) :
  FnM Tryz.prog 66 [(vS s_1),(.d (.int .u8 c_2))] [] (vI r) []:=by
 refine FnM.of_wH ⟨Tryz.prog,8,[],[]⟩ rfl Tryz.func66 rfl rfl (lb_ rfl) (by kernel_rfl) ?_
 unfold strings_IndexByte at hF
 refine ai (aa (vI 0) (af (ai (aa (vS s_1) (aa (.d (.int .u8 c_2)) ?_)))))
 obtain ⟨r_3,hr_4,hF⟩:=bind_some hF
 refine ay (eF hr_4) rfl hb87 rfl rfl rfl rfl wz (aa (vI r_3) (af ?_))
 obtain rfl:=ae hF
 exact av (aJ [(vI r_3)] ⟨rfl,trivial⟩)
theorem lY {s_1:ByteArray} {somev_2:ByteArray} {r:Bool} (hF:iw s_1 somev_2=some r) :
  FnM Tryz.prog 48 [(vS s_1),(vS somev_2)] [] (vB r) []:=by
 refine FnM.of_wH ⟨Tryz.prog,18,[],[]⟩ rfl Tryz.func48 rfl rfl (lb_ rfl) (by kernel_rfl) ?_
 unfold iw at hF
 refine ai (aa (vB false) (af (ak (ai (aa (vS s_1) (fF un9 rfl wz (aa (vI 0) (af ?_))))))))
 obtain ⟨o_11,hj_12,hF⟩:=bind_some hF
 obtain ⟨hn_7,hj_12⟩:=bQ hj_12
 refine fI (λ(s_8:Unit)=>[]) (λ(s_8:Unit)=>[]) (λ(k_3:Nat)=>(λ(s_8:Unit)=>[(0,(vS s_1)),(1,(vS somev_2)),(7,(vI (s_1.size:Int))),(8,(vI (k_3:Int)))])) (λk x s=>iX s_1 somev_2 k x s) o_11 (List.range ((s_1.size:Int)).toNat) () hj_12 rfl (aN rfl) ?_ ?_
 ·rintro ⟨k_3,l_4,s_8⟩ ⟨hL_10,hD_6⟩
  dsimp only at hL_10 hD_6
  cases l_4 with
  | nil =>
   obtain rfl:=ae hL_10
   refine ai (aa (vB (decide ((k_3:Int)<(s_1.size:Int)))) (af ?_))
   refine ak (aF rfl (mP hD_6) (dw ?_))
   exact bO (s_8) rfl rfl (aN rfl)
  | cons x_5 l_4 =>
   obtain ⟨c_,hc_9,hL_10⟩:=bind_some hL_10
   refine ai (aa (vB (decide ((k_3:Int)<(s_1.size:Int)))) (af ?_))
   refine ak (aD rfl (kX hD_6) (aC ?_))
   unfold iX at hc_9
   refine ak (aU (ai (aa (vI (k_3:Int)) (aa (vI (k_3:Int)) (af (ai (aa (vS somev_2) (aa (vS s_1) (aa (vI (k_3:Int)) ?_)))))))))
   obtain ⟨b_13,hy_14,hc_9⟩:=bind_some hc_9
   refine qG un9 rfl rfl hy_14 wz ?_
   obtain ⟨r_15,hr_16,hc_9⟩:=bind_some hc_9
   refine ay (oJ hr_16) rfl hb66 rfl rfl rfl rfl wz (aa (vB (decide (r_15<0))) (af ?_))
   rcases aj hc_9 with⟨hc_17,hc_9⟩|⟨hc_17,hc_9⟩
   ·refine aD rfl hc_17 (ai (aa (vB false) (af ?_)))
    obtain rfl:=ae hc_9
    obtain rfl:=ae hL_10
    obtain rfl:=ae hF
    exact av (aJ [(vB false)] ⟨rfl,trivial⟩)
   ·refine aF rfl hc_17 (aC (ax (iZ (mJ hD_6 hn_7) wz rfl (aa (vI ((k_3+1:Nat):Int)) (af ?_)))))
    obtain rfl:=ae hc_9
    exact dx (k_3+1,l_4,()) ⟨hL_10,bJ hD_6⟩ (ls_ _) rfl (aN rfl)
 ·rintro s_8 ho_ sl_ H_ hp_ hq_
  subst ho_
  refine aV _ hp_ hq_ (ai (aa (vB true) (af ?_)))
  obtain rfl:=ae hF
  exact av (aJ [(vB true)] ⟨rfl,trivial⟩)
theorem vO {s_1:ByteArray} {r:Bool} (hF:pK s_1=some r) :
  FnM Tryz.prog 45 [(vS s_1)] [] (vB r) []:=by
 refine FnM.of_wH ⟨Tryz.prog,15,[],[]⟩ rfl Tryz.func45 rfl rfl (lb_ rfl) (by kernel_rfl) ?_
 unfold pK at hF
 refine ai (aa (vB false) (af (ak ?_)))
 obtain ⟨v_2,h_3,hF⟩:=bind_some hF
 refine aS [(2,(vB v_2))] [] ?_ ?_
 ·refine ax (aa (vS s_1) (fF un9 rfl wz ?_))
  obtain ⟨r_4,hr_5,h_3⟩:=bind_some h_3
  refine ay (pF hr_5) rfl hb46 rfl rfl rfl rfl wz ?_
  rcases aj h_3 with⟨hc_6,h_3⟩|⟨hc_6,h_3⟩
  ·refine aA rfl hc_6 wz (aG (vS s_1) wa rfl ?_)
   obtain ⟨y_7,hy_8,h_3⟩:=bind_some h_3
   refine fM un9 rfl rfl hy_8 wa ?_
   obtain ⟨r_9,hr_10,h_3⟩:=bind_some h_3
   refine ay (lY hr_10) rfl hb48 rfl rfl rfl rfl wa (aa (vB r_9) ?_)
   rcases aj h_3 with⟨hc_11,h_3⟩|⟨hc_11,h_3⟩
   ·refine aA rfl hc_11 wz (aG (vS s_1) wa rfl ?_)
    obtain ⟨r_12,hr_13,h_3⟩:=bind_some h_3
    refine ay (lY hr_13) rfl hb48 rfl rfl rfl rfl wa (aa (vB r_12) (aa (vB r_12) (af ?_)))
    obtain rfl:=ae h_3
    exact cu
   ·refine aA rfl hc_11 wz (ah (ah (aa (vB false) (aa (vB false) (af ?_)))))
    obtain rfl:=ae h_3
    exact cu
  ·refine aA rfl hc_6 wz (ah (ah (ah (aa (vB false) (aa (vB false) (ah (ah (aa (vB false) (aa (vB false) (af ?_))))))))))
   obtain rfl:=ae h_3
   exact cu
 ·rintro ⟨⟩ _ sl_ H_ hp_ hq_
  refine aV _ hp_ hq_ ?_
  obtain rfl:=ae hF
  exact av (aJ [(vB v_2)] ⟨rfl,trivial⟩)
theorem xz {atv_1:Int} {r:Bool} (hF:lu atv_1=some r) :
  FnM Tryz.prog 47 [(vI atv_1)] [] (vB r) []:=by
 refine FnM.of_wH ⟨Tryz.prog,5,[],[]⟩ rfl Tryz.func47 rfl rfl (lb_ rfl) (by kernel_rfl) ?_
 unfold lu at hF
 refine ai (aa (vB false) (af (ai (aa (vI atv_1) ?_))))
 obtain ⟨r_2,hr_3,hF⟩:=bind_some hF
 refine ay (pF hr_3) rfl hb46 rfl rfl rfl rfl wz (aa (vB r_2) (af ?_))
 obtain rfl:=ae hF
 exact av (aJ [(vB r_2)] ⟨rfl,trivial⟩)
theorem ww {l_1:Log_} {r:Int} (hF:jS l_1=some r) :
  FnM Tryz.prog 26 [(.d (.agg (Log_.enc l_1)))] [] (vI r) []:=by
 refine FnM.of_wH ⟨Tryz.prog,31,[],[]⟩ rfl Tryz.func26 rfl rfl (lb_ rfl) (by kernel_rfl) ?_
 unfold jS at hF
 refine ai (nT 0 (.inl rfl) (Log_.v l_1) rfl rfl wz (λn_2=>aa (vI 0) (af (ak (aU (ak ?_))))))
 obtain ⟨v_3,h_4,hF⟩:=bind_some hF
 refine aS [(1,(.ref n_2 0 0)),(3,(vB v_3))] [(n_2,some (.cells 6 (Log_.v l_1)))] ?_ ?_
 ·refine ax (aQ kv rfl 0 rfl wz (aO 0 0 il ft sz9 ag9 rfl rfl (vS l_1.Player) rfl wz ?_))
  obtain ⟨r_5,hr_6,h_4⟩:=bind_some h_4
  refine ay (vO hr_6) rfl hb45 rfl rfl rfl rfl wz (aa (vB (!r_5)) ?_)
  rcases aj h_4 with⟨hc_7,h_4⟩|⟨hc_7,h_4⟩
  ·refine aA rfl hc_7 wz (ah (ah (ah (ah (aa (vB true) (aa (vB true) (af ?_)))))))
   obtain rfl:=ae h_4
   exact cu
  ·refine aA rfl hc_7 wz (aQ sO rfl 1 rfl wa (aO 0 0 il ft sz9 ag9 rfl rfl (vS l_1.Item) rfl wa ?_))
   obtain ⟨r_8,hr_9,h_4⟩:=bind_some h_4
   refine ay (vO hr_9) rfl hb45 rfl rfl rfl rfl wa (aG (vB (!r_8)) wa rfl (aa (vB (!r_8)) (aa (vB (!r_8)) (af ?_))))
   obtain rfl:=ae h_4
   exact cu
 ·rintro ⟨⟩ _ sl_ H_ hp_ hq_
  refine aV _ hp_ hq_ ?_
  rcases aj hF with⟨hc_10,hF⟩|⟨hc_10,hF⟩
  ·refine aD rfl hc_10 (ai (aa (vI 5) (af ?_)))
   obtain rfl:=ae hF
   exact av (aJ [(vI 5)] ⟨rfl,trivial⟩)
  ·refine aF rfl hc_10 (ak ?_)
   obtain ⟨v_11,h_12,hF⟩:=bind_some hF
   refine aS [(14,(vB v_11))] [(n_2,some (.cells 6 (Log_.v l_1)))] ?_ ?_
   ·refine ax (aQ nP rfl 2 rfl wz (aO 0 0 il ft sz3 ag3 rfl rfl (vI l_1.No) rfl wz ?_))
    obtain ⟨r_13,hr_14,h_12⟩:=bind_some h_12
    refine ay (pF hr_14) rfl hb46 rfl rfl rfl rfl wz (aa (vB (!r_13)) ?_)
    rcases aj h_12 with⟨hc_15,h_12⟩|⟨hc_15,h_12⟩
    ·refine aA rfl hc_15 wz (ah (ah (ah (ah (aa (vB true) (aa (vB true) (ah (ah (ah (ah (aa (vB true) (aa (vB true) (af ?_)))))))))))))
     obtain rfl:=ae h_12
     exact cu
    ·refine aA rfl hc_15 wz (aQ xq rfl 3 rfl wa (aO 0 0 il ft sz3 ag3 rfl rfl (vI l_1.Clock) rfl wa ?_))
     obtain ⟨r_16,hr_17,h_12⟩:=bind_some h_12
     refine ay (xz hr_17) rfl hb47 rfl rfl rfl rfl wa (aG (vB (!r_16)) wa rfl (aa (vB (!r_16)) ?_))
     rcases aj h_12 with⟨hc_18,h_12⟩|⟨hc_18,h_12⟩
     ·refine aA rfl hc_18 wz (ah (ah (ah (ah (aa (vB true) (aa (vB true) (af ?_)))))))
      obtain rfl:=ae h_12
      exact cu
     ·refine aA rfl hc_18 wz (aQ wm rfl 4 rfl wa (aO 0 0 il ft sz3 ag3 rfl rfl (vI l_1.Long) rfl wa ?_))
      obtain ⟨r_19,hr_20,h_12⟩:=bind_some h_12
      refine ay (pF hr_20) rfl hb46 rfl rfl rfl rfl wa (aG (vB (!r_19)) wa rfl (aa (vB (!r_19)) (aa (vB (!r_19)) (af ?_))))
      obtain rfl:=ae h_12
      exact cu
   ·rintro ⟨⟩ _ sl_ H_ hp_ hq_
    refine aV _ hp_ hq_ ?_
    rcases aj hF with⟨hc_21,hF⟩|⟨hc_21,hF⟩
    ·refine aD rfl hc_21 (ai (aa (vI 1) (af ?_)))
     obtain rfl:=ae hF
     exact av (aJ [(vI 1)] ⟨rfl,trivial⟩)
    ·refine aF rfl hc_21 (aC (ai (aa (vI 0) (af ?_))))
     obtain rfl:=ae hF
     exact av (aJ [(vI 0)] ⟨rfl,trivial⟩)
theorem xR {s_1:ByteArray} {r:Bool} (hF:lI s_1=some r) :
  FnM Tryz.prog 27 [(vS s_1)] [] (vB r) []:=by
 refine FnM.of_wH ⟨Tryz.prog,10,[],[]⟩ rfl Tryz.func27 rfl rfl (lb_ rfl) (by kernel_rfl) ?_
 unfold lI at hF
 refine ai (aa (vB false) (af (ak ?_)))
 obtain ⟨v_2,h_3,hF⟩:=bind_some hF
 refine aS [(2,(vB v_2))] [] ?_ ?_
 ·refine ax (aa (vS s_1) (fF un9 rfl wz (aa (vB ((s_1.size:Int)==16)) ?_)))
  rcases aj h_3 with⟨hc_4,h_3⟩|⟨hc_4,h_3⟩
  ·refine aA rfl hc_4 wz (aG (vS s_1) wa rfl ?_)
   obtain ⟨r_5,hr_6,h_3⟩:=bind_some h_3
   refine ay (lY hr_6) rfl hb48 rfl rfl rfl rfl wa (aa (vB r_5) (aa (vB r_5) (af ?_)))
   obtain rfl:=ae h_3
   exact cu
  ·refine aA rfl hc_4 wz (ah (ah (aa (vB false) (aa (vB false) (af ?_)))))
   obtain rfl:=ae h_3
   exact cu
 ·rintro ⟨⟩ _ sl_ H_ hp_ hq_
  refine aV _ hp_ hq_ ?_
  obtain rfl:=ae hF
  exact av (aJ [(vB v_2)] ⟨rfl,trivial⟩)
theorem zM {n_1:Int} {r:Int} (hF:oO n_1=some r) :
  FnM Tryz.prog 50 [(vI n_1)] [] (vI r) []:=by
 refine FnM.of_wH ⟨Tryz.prog,9,[],[]⟩ rfl Tryz.func50 rfl rfl (lb_ rfl) (by kernel_rfl) ?_
 unfold oO at hF
 refine ai (aa (vI 0) (af (ak (aU (ai (aa (vI n_1) (aa (vB (decide (n_1<0))) (aa (vB (decide (n_1<0))) (af ?_)))))))))
 rcases aj hF with⟨hc_2,hF⟩|⟨hc_2,hF⟩
 ·refine aD rfl hc_2 (ai (aa (vI (-1)) (af ?_)))
  obtain rfl:=ae hF
  exact av (aJ [(vI (-1))] ⟨rfl,trivial⟩)
 ·refine aF rfl hc_2 (ai (aa (vI n_1) (aa (vB (decide (n_1>0))) (aa (vB (decide (n_1>0))) (af ?_)))))
  rcases aj hF with⟨hc_3,hF⟩|⟨hc_3,hF⟩
  ·refine aD rfl hc_3 (ai (aa (vI 1) (af ?_)))
   obtain rfl:=ae hF
   exact av (aJ [(vI 1)] ⟨rfl,trivial⟩)
  ·refine aF rfl hc_3 (aC (ai (aa (vI 0) (af ?_))))
   obtain rfl:=ae hF
   exact av (aJ [(vI 0)] ⟨rfl,trivial⟩)
theorem uG {a_1:Log_} {b_2:Log_} {r:Int} (hF:jl a_1 b_2=some r) :
  FnM Tryz.prog 28 [(.d (.agg (Log_.enc a_1))),(.d (.agg (Log_.enc b_2)))] [] (vI r) []:=by
 refine FnM.of_wH ⟨Tryz.prog,21,[],[]⟩ rfl Tryz.func28 rfl rfl (lb_ rfl) (by kernel_rfl) ?_
 unfold jl at hF
 refine ai (nT 0 (.inl rfl) (Log_.v a_1) rfl rfl wz (λn_3=>nT 0 (.inl rfl) (Log_.v b_2) rfl rfl wz (λn_4=>aa (vI 0) (af (ak (ai (aQ kv rfl 0 rfl wz (aO 0 0 il ft sz9 ag9 rfl rfl (vS a_1.Player) rfl wz (aQ kv rfl 0 rfl wz (aO 0 1 il ft sz9 ag9 rfl rfl (vS b_2.Player) rfl wz (aa (vB (sNe a_1.Player b_2.Player)) (af ?_))))))))))))
 rcases aj hF with⟨hc_5,hF⟩|⟨hc_5,hF⟩
 ·refine aD rfl hc_5 (ai (aQ kv rfl 0 rfl wz (aO 0 0 il ft sz9 ag9 rfl rfl (vS a_1.Player) rfl wz (aQ kv rfl 0 rfl wz (aO 0 1 il ft sz9 ag9 rfl rfl (vS b_2.Player) rfl wz ?_)))))
  obtain ⟨r_6,hr_7,hF⟩:=bind_some hF
  refine ay (iK hr_7) rfl hb49 rfl rfl rfl rfl wz (aa (vI r_6) (af ?_))
  obtain rfl:=ae hF
  exact av (aJ [(vI r_6)] ⟨rfl,trivial⟩)
 ·refine aF rfl hc_5 (aC (ai (aQ nP rfl 2 rfl wz (aO 0 0 il ft sz3 ag3 rfl rfl (vI a_1.No) rfl wz (aQ nP rfl 2 rfl wz (aO 0 1 il ft sz3 ag3 rfl rfl (vI b_2.No) rfl wz (aa (vI (w64 (a_1.No-b_2.No))) ?_)))))))
  obtain ⟨r_8,hr_9,hF⟩:=bind_some hF
  refine ay (zM hr_9) rfl hb50 rfl rfl rfl rfl wz (aa (vI r_8) (af ?_))
  obtain rfl:=ae hF
  exact av (aJ [(vI r_8)] ⟨rfl,trivial⟩)
theorem mD {l_1:(List Log_)} {r:Int} (hF:fA l_1=some r) :
  FnM Tryz.prog 7 [(vL Log_.enc l_1)] [] (vI r) []:=by
 refine FnM.of_wH ⟨Tryz.prog,40,[],[]⟩ rfl Tryz.func7 rfl rfl (lb_ rfl) (by kernel_rfl) ?_
 unfold fA at hF
 refine ai (aa (vI 0) (af (ak (ai (aa (vL Log_.enc l_1) (dX sQ rfl wz (aa (vB (decide ((l_1.length:Int)>2000))) (af ?_))))))))
 rcases aj hF with⟨hc_2,hF⟩|⟨hc_2,hF⟩
 ·refine aD rfl hc_2 (ai (aa (vI 2) (af ?_)))
  obtain rfl:=ae hF
  exact av (aJ [(vI 2)] ⟨rfl,trivial⟩)
 ·refine aF rfl hc_2 (aC (ak (ai (aa (vL Log_.enc l_1) (dX sQ rfl wz (aa (vI 0) (af ?_)))))))
  obtain ⟨o_11,hj_12,hF⟩:=bind_some hF
  obtain ⟨hn_7,hj_12⟩:=bQ hj_12
  refine fI (λ(s_8:Unit)=>[]) (λ(s_8:Unit)=>[]) (λ(k_3:Nat)=>(λ(s_8:Unit)=>[(0,(vL Log_.enc l_1)),(9,(vL Log_.enc l_1)),(10,(vI (l_1.length:Int))),(11,(vI (k_3:Int)))])) (λk x s=>ib l_1 k x s) o_11 l_1 () hj_12 rfl (aN rfl) ?_ ?_
  ·rintro ⟨k_3,l_4,s_8⟩ ⟨hL_10,hD_6⟩
   dsimp only at hL_10 hD_6
   cases l_4 with
   | nil =>
    obtain rfl:=ae hL_10
    refine ai (aa (vB (decide ((k_3:Int)<(l_1.length:Int)))) (af ?_))
    refine ak (aF rfl (drop_nil hD_6) (dw ?_))
    exact bO (s_8) rfl rfl (aN rfl)
   | cons x_5 l_4 =>
    obtain ⟨c_,hc_9,hL_10⟩:=bind_some hL_10
    refine ai (aa (vB (decide ((k_3:Int)<(l_1.length:Int)))) (af ?_))
    refine ak (aD rfl (dG hD_6) (aC ?_))
    unfold ib at hc_9
    refine ak (aU (ai (aa (vI (k_3:Int)) (eT rE rfl rfl (dU hD_6) rfl wz (cz gz lN rfl (.d (.agg (Log_.enc x_5))) rfl wz (gY 0 (.inl rfl) z38 rfl wz (λn_13=>aa (vI (k_3:Int)) (je 0 il ft 0 gz rfl rfl (Log_.v x_5) rfl wz (af (ak (ai (aO 0 0 il ft gz lN rfl rfl (.d (.agg (Log_.enc x_5))) rfl wz ?_))))))))))))
    obtain ⟨r_14,hr_15,hc_9⟩:=bind_some hc_9
    refine ay (ww hr_15) rfl hb26 rfl rfl rfl rfl wz (aa (vI r_14) (af (ai (aa (vI r_14) (aa (vB (r_14 != 0)) (af ?_))))))
    rcases aj hc_9 with⟨hc_16,hc_9⟩|⟨hc_16,hc_9⟩
    ·refine aD rfl hc_16 (ai (aa (vI r_14) (aa (vI r_14) (af ?_))))
     obtain rfl:=ae hc_9
     obtain rfl:=ae hL_10
     obtain rfl:=ae hF
     exact av (aJ [(vI r_14)] ⟨rfl,trivial⟩)
    ·refine aF rfl hc_16 (aC (aU (ai (aQ kV rfl 5 rfl wz (aO 0 0 il ft sz9 ag9 rfl rfl (vS x_5.Sum) rfl wz ?_)))))
     obtain ⟨r_17,hr_18,hc_9⟩:=bind_some hc_9
     refine ay (xR hr_18) rfl hb27 rfl rfl rfl rfl wz (aa (vB (!r_17)) (aa (vB (!r_17)) (af ?_)))
     rcases aj hc_9 with⟨hc_19,hc_9⟩|⟨hc_19,hc_9⟩
     ·refine aD rfl hc_19 (ai (aa (vI 3) (af ?_)))
      obtain rfl:=ae hc_9
      obtain rfl:=ae hL_10
      obtain rfl:=ae hF
      exact av (aJ [(vI 3)] ⟨rfl,trivial⟩)
     ·refine aF rfl hc_19 (ak ?_)
      obtain ⟨v_20,h_21,hc_9⟩:=bind_some hc_9
      refine aS [(0,(vL Log_.enc l_1)),(9,(vL Log_.enc l_1)),(10,(vI (l_1.length:Int))),(11,(vI (k_3:Int))),(26,(vB v_20))] [(n_13,some (.cells 6 (Log_.v x_5)))] ?_ ?_
      ·refine bM (aa (vI (k_3:Int)) (aa (vB (decide ((k_3:Int)>0))) ?_))
       rcases aj h_21 with⟨hc_22,h_21⟩|⟨hc_22,h_21⟩
       ·refine aA rfl hc_22 wz (aG (vL Log_.enc l_1) wa rfl (aG (vI (k_3:Int)) wa rfl (aG (vI (w64 ((k_3:Int)-1))) wa rfl ?_)))
        obtain ⟨y_23,hy_24,h_21⟩:=bind_some h_21
        refine eT rE rfl rfl hy_24 rfl wa (cz gz lN rfl (.d (.agg (Log_.enc y_23))) rfl wa (aO 8 0 (.inr (by kernel_rfl)) (λ_ _ ag=>trivial) gz lN rfl rfl (.d (.agg (Log_.enc x_5))) rfl wa ?_))
        obtain ⟨r_25,hr_26,h_21⟩:=bind_some h_21
        refine ay (uG hr_26) rfl hb28 rfl rfl rfl rfl wa (aG (vB (decide (r_25>=0))) wa rfl (aa (vB (decide (r_25>=0))) (aa (vB (decide (r_25>=0))) (af ?_))))
        obtain rfl:=ae h_21
        exact cu
       ·refine aA rfl hc_22 wz (ah (ah (ah (ah (ah (ah (ah (ah (aa (vB false) (aa (vB false) (af ?_)))))))))))
        obtain rfl:=ae h_21
        exact cu
      ·rintro ⟨⟩ _ sl_ H_ hp_ hq_
       refine aV _ hp_ hq_ ?_
       rcases aj hc_9 with⟨hc_27,hc_9⟩|⟨hc_27,hc_9⟩
       ·refine aD rfl hc_27 (ai (aa (vI 7) (af ?_)))
        obtain rfl:=ae hc_9
        obtain rfl:=ae hL_10
        obtain rfl:=ae hF
        exact av (aJ [(vI 7)] ⟨rfl,trivial⟩)
       ·refine aF rfl hc_27 (aC (ax (iZ (dV hD_6 hn_7) wz rfl (aa (vI ((k_3+1:Nat):Int)) (af ?_)))))
        obtain rfl:=ae hc_9
        exact dx (k_3+1,l_4,()) ⟨hL_10,bJ hD_6⟩ (ls_ _) rfl (aN rfl)
  ·rintro s_8 ho_ sl_ H_ hp_ hq_
   subst ho_
   refine aV _ hp_ hq_ (ai (aa (vI 0) (af ?_)))
   obtain rfl:=ae hF
   exact av (aJ [(vI 0)] ⟨rfl,trivial⟩)
theorem jG {x0:ByteArray} {x1:ByteArray} {r:(List ByteArray)} (hF:strings_Split x0 x1=some r) :
  FnM Tryz.prog 52 [(vS x0),(vS x1)] [] (vL eS r) [] :=
 EA rfl Tryz.strings_Split zW hF
theorem yJ {s_1:ByteArray} {r:(List ByteArray)×Bool} (hF:pz s_1=some r) :
  FnM Tryz.prog 30 [(vS s_1)] [] (.tup [(vL eS r.1),(vB r.2)]) []:=by
 refine FnM.of_wH ⟨Tryz.prog,19,[],[]⟩ rfl Tryz.func30 rfl rfl (lb_ rfl) (by kernel_rfl) ?_
 unfold pz at hF
 refine ai (aa .nil (aa (vB false) (af (ai (aa (vS s_1) ?_)))))
 obtain ⟨r_2,hr_3,hF⟩:=bind_some hF
 refine ay (jG hr_3) rfl hb52 rfl rfl rfl rfl wz (aa (vL eS r_2) (af (ai (aa (vL eS r_2) (dX uH rfl wz (aa (vI (w64 ((r_2.length:Int)-1))) (aa (vI (w64 ((r_2.length:Int)-1))) (af (ak (ai (aa (vL eS r_2) (aa (vI (w64 ((r_2.length:Int)-1))) ?_))))))))))))
 obtain ⟨y_4,hy_5,hF⟩:=bind_some hF
 refine eT jR rfl rfl hy_5 rfl wz (cz sz9 ag9 rfl (vS y_4) rfl wz (aa (vB (sEq y_4 (⟨#[]⟩:ByteArray))) (af ?_)))
 rcases aj hF with⟨hc_6,hF⟩|⟨hc_6,hF⟩
 ·refine aD rfl hc_6 (ai (aa (vL eS r_2) (aa (vI (w64 ((r_2.length:Int)-1))) ?_)))
  obtain ⟨y_7,hy_8,hF⟩:=bind_some hF
  refine uu uH sz9 (λ_=>rfl) rfl rfl hy_8 wz (aa (vL eS y_7) (aa (vB true) (af ?_)))
  obtain rfl:=ae hF
  exact av (aJ [(vL eS y_7),(vB true)] ⟨rfl,⟨rfl,trivial⟩⟩)
 ·refine aF rfl hc_6 (aC (ai (aa (vL eS r_2) (aa (vL eS r_2) (aa (vB false) (af ?_))))))
  obtain rfl:=ae hF
  exact av (aJ [(vL eS r_2),(vB false)] ⟨rfl,⟨rfl,trivial⟩⟩)
theorem jW {s_1:(List ByteArray)} {v_2:ByteArray} {r:Int} (hF:dD s_1 v_2=some r) :
  FnM Tryz.prog 73 [(vL eS s_1),(vS v_2)] [] (vI r) []:=by
 refine FnM.of_wH ⟨Tryz.prog,19,[],[]⟩ rfl Tryz.func73 rfl rfl (lb_ rfl) (by kernel_rfl) ?_
 unfold dD at hF
 refine ai (aa (vI 0) (af (ak (ai (aa (vL eS s_1) (dX uH rfl wz (aa (vI 0) (af ?_))))))))
 obtain ⟨o_11,hj_12,hF⟩:=bind_some hF
 obtain ⟨hn_7,hj_12⟩:=bQ hj_12
 refine fI (λ(s_8:Unit)=>[]) (λ(s_8:Unit)=>[]) (λ(k_3:Nat)=>(λ(s_8:Unit)=>[(0,(vL eS s_1)),(1,(vS v_2)),(7,(vI (s_1.length:Int))),(8,(vI (k_3:Int)))])) (λk x s=>bI v_2 k x s) o_11 s_1 () hj_12 rfl (aN rfl) ?_ ?_
 ·rintro ⟨k_3,l_4,s_8⟩ ⟨hL_10,hD_6⟩
  dsimp only at hL_10 hD_6
  cases l_4 with
  | nil =>
   obtain rfl:=ae hL_10
   refine ai (aa (vB (decide ((k_3:Int)<(s_1.length:Int)))) (af ?_))
   refine ak (aF rfl (drop_nil hD_6) (dw ?_))
   exact bO (s_8) rfl rfl (aN rfl)
  | cons x_5 l_4 =>
   obtain ⟨c_,hc_9,hL_10⟩:=bind_some hL_10
   refine ai (aa (vB (decide ((k_3:Int)<(s_1.length:Int)))) (af ?_))
   refine ak (aD rfl (dG hD_6) (aC ?_))
   unfold bI at hc_9
   refine ak (aU (ai (aa (vI (k_3:Int)) (aa (vI (k_3:Int)) (af (ai (aa (vS v_2) (aa (vL eS s_1) (aa (vI (k_3:Int)) (eT jR rfl rfl (dU hD_6) rfl wz (cz sz9 ag9 rfl (vS x_5) rfl wz (aa (vB (sEq v_2 x_5)) (af ?_)))))))))))))
   rcases aj hc_9 with⟨hc_13,hc_9⟩|⟨hc_13,hc_9⟩
   ·refine aD rfl hc_13 (ai (aa (vI (k_3:Int)) (aa (vI (k_3:Int)) (af ?_))))
    obtain rfl:=ae hc_9
    obtain rfl:=ae hL_10
    obtain rfl:=ae hF
    exact av (aJ [(vI (k_3:Int))] ⟨rfl,trivial⟩)
   ·refine aF rfl hc_13 (aC (ax (iZ (dV hD_6 hn_7) wz rfl (aa (vI ((k_3+1:Nat):Int)) (af ?_)))))
    obtain rfl:=ae hc_9
    exact dx (k_3+1,l_4,()) ⟨hL_10,bJ hD_6⟩ (ls_ _) rfl (aN rfl)
 ·rintro s_8 ho_ sl_ H_ hp_ hq_
  subst ho_
  refine aV _ hp_ hq_ (ai (aa (vI (-1)) (af ?_)))
  obtain rfl:=ae hF
  exact av (aJ [(vI (-1))] ⟨rfl,trivial⟩)
theorem eQ {s_1:(List ByteArray)} {v_2:ByteArray} {r:Bool} (hF:bn s_1 v_2=some r) :
  FnM Tryz.prog 56 [(vL eS s_1),(vS v_2)] [] (vB r) []:=by
 refine FnM.of_wH ⟨Tryz.prog,9,[],[]⟩ rfl Tryz.func56 rfl rfl (lb_ rfl) (by kernel_rfl) ?_
 unfold bn at hF
 refine ai (aa (vB false) (af (ai (aa (vL eS s_1) (aa (vS v_2) ?_)))))
 obtain ⟨r_3,hr_4,hF⟩:=bind_some hF
 refine ay (jW hr_4) rfl hb73 rfl rfl rfl rfl wz (aa (vB (decide (r_3>=0))) (aa (vB (decide (r_3>=0))) (af ?_)))
 obtain rfl:=ae hF
 exact av (aJ [(vB (decide (r_3>=0)))] ⟨rfl,trivial⟩)
theorem y9 {s_1:ByteArray} {r:(List ByteArray)×Bool} (hF:kN s_1=some r) :
  FnM Tryz.prog 53 [(vS s_1)] [] (.tup [(vL eS r.1),(vB r.2)]) []:=by
 refine FnM.of_wH ⟨Tryz.prog,11,[],[]⟩ rfl Tryz.func53 rfl rfl (lb_ rfl) (by kernel_rfl) ?_
 unfold kN at hF
 refine ai (aa .nil (aa (vB false) (af (ai (aa (vS s_1) ?_)))))
 obtain ⟨r_2,hr_3,hF⟩:=bind_some hF
 refine ay (jG hr_3) rfl hb52 rfl rfl rfl rfl wz (aa (vL eS r_2) (af (ai (aa (vL eS r_2) (aa (vL eS r_2) ?_)))))
 obtain ⟨r_4,hr_5,hF⟩:=bind_some hF
 refine ay (eQ hr_5) rfl hb56 rfl rfl rfl rfl wz (aa (vB (!r_4)) (aa (vL eS r_2) (aa (vB (!r_4)) (af ?_))))
 obtain rfl:=ae hF
 exact av (aJ [(vL eS r_2),(vB (!r_4))] ⟨rfl,⟨rfl,trivial⟩⟩)
theorem jc {s_1:ByteArray} {prefixv_2:ByteArray} {r:Bool} (hF:bE s_1 prefixv_2=some r) :
  FnM Tryz.prog 110 [(vS s_1),(vS prefixv_2)] [] (vB r) []:=by
 refine FnM.of_wH ⟨Tryz.prog,18,[],[]⟩ rfl Tryz.func110 rfl rfl (lb_ rfl) (by kernel_rfl) ?_
 unfold bE at hF
 refine ai (aa (vB false) (af (ak ?_)))
 obtain ⟨v_3,h_4,hF⟩:=bind_some hF
 refine aS [(4,(vB v_3))] [] ?_ ?_
 ·refine ax (aa (vS s_1) (fF un9 rfl wz (aa (vS prefixv_2) (fF un9 rfl wz (aa (vB (decide ((s_1.size:Int)>=(prefixv_2.size:Int)))) ?_)))))
  rcases aj h_4 with⟨hc_5,h_4⟩|⟨hc_5,h_4⟩
  ·refine aA rfl hc_5 wz (aG (vS s_1) wa rfl (aG (vS prefixv_2) wa rfl (fF un9 rfl wa ?_)))
   obtain ⟨y_6,hy_7,h_4⟩:=bind_some h_4
   refine fM un9 rfl rfl hy_7 wa (aG (vS prefixv_2) wa rfl (aG (vB (sEq y_6 prefixv_2)) wa rfl (aa (vB (sEq y_6 prefixv_2)) (aa (vB (sEq y_6 prefixv_2)) (af ?_)))))
   obtain rfl:=ae h_4
   exact cu
  ·refine aA rfl hc_5 wz (ah (ah (ah (ah (ah (ah (aa (vB false) (aa (vB false) (af ?_)))))))))
   obtain rfl:=ae h_4
   exact cu
 ·rintro ⟨⟩ _ sl_ H_ hp_ hq_
  refine aV _ hp_ hq_ ?_
  obtain rfl:=ae hF
  exact av (aJ [(vB v_3)] ⟨rfl,trivial⟩)
theorem iJ {s_1:ByteArray} {prefixv_2:ByteArray} {r:ByteArray} (hF:bA s_1 prefixv_2=some r) :
  FnM Tryz.prog 93 [(vS s_1),(vS prefixv_2)] [] (vS r) []:=by
 refine FnM.of_wH ⟨Tryz.prog,13,[],[]⟩ rfl Tryz.func93 rfl rfl (lb_ rfl) (by kernel_rfl) ?_
 unfold bA at hF
 refine ai (aa (vS (⟨#[]⟩:ByteArray)) (af (ak (ai (aa (vS s_1) (aa (vS prefixv_2) ?_))))))
 obtain ⟨r_3,hr_4,hF⟩:=bind_some hF
 refine ay (jc hr_4) rfl hb110 rfl rfl rfl rfl wz (af ?_)
 rcases aj hF with⟨hc_5,hF⟩|⟨hc_5,hF⟩
 ·refine aD rfl hc_5 (ai (aa (vS s_1) (aa (vS prefixv_2) (fF un9 rfl wz ?_))))
  obtain ⟨y_6,hy_7,hF⟩:=bind_some hF
  refine gN un9 rfl rfl hy_7 wz (aa (vS y_6) (af ?_))
  obtain rfl:=ae hF
  exact av (aJ [(vS y_6)] ⟨rfl,trivial⟩)
 ·refine aF rfl hc_5 (aC (ai (aa (vS s_1) (aa (vS s_1) (af ?_)))))
  obtain rfl:=ae hF
  exact av (aJ [(vS s_1)] ⟨rfl,trivial⟩)
theorem jy {s_1:ByteArray} {prefixv_2:ByteArray} {r:ByteArray} (hF:strings_TrimPrefix s_1 prefixv_2=some r) :
  FnM Tryz.prog 70 [(vS s_1),(vS prefixv_2)] [] (vS r) []:=by
 refine FnM.of_wH ⟨Tryz.prog,8,[],[]⟩ rfl Tryz.func70 rfl rfl (lb_ rfl) (by kernel_rfl) ?_
 unfold strings_TrimPrefix at hF
 refine ai (aa (vS (⟨#[]⟩:ByteArray)) (af (ai (aa (vS s_1) (aa (vS prefixv_2) ?_)))))
 obtain ⟨r_3,hr_4,hF⟩:=bind_some hF
 refine ay (iJ hr_4) rfl hb93 rfl rfl rfl rfl wz (aa (vS r_3) (af ?_))
 obtain rfl:=ae hF
 exact av (aJ [(vS r_3)] ⟨rfl,trivial⟩)
theorem strconv_Atoi_ok {x0:ByteArray} {r:Int} (hF:strconv_Atoi x0=some r) :
  FnM Tryz.prog 71 [(.d (.str x0))] [] (.tup [(.d (.int .i64 r)),.nili]) [] :=
 atoi_ok rfl Tryz.strconv_Atoi hF
theorem mg {s_1:ByteArray} {most_2:Int} {r:Int×Bool} (hF:iM s_1 most_2=some r) :
  FnM Tryz.prog 54 [(vS s_1),(vI most_2)] [] (.tup [(vI r.1),(vB r.2)]) []:=by
 refine FnM.of_wH ⟨Tryz.prog,53,[],[]⟩ rfl Tryz.func54 rfl rfl (lb_ rfl) (by kernel_rfl) ?_
 unfold iM at hF
 refine ai (aa (vI 0) (aa (vB false) (af (ai (aa (vS s_1) ?_)))))
 obtain ⟨r_3,hr_4,hF⟩:=bind_some hF
 refine ay (jy hr_4) rfl hb70 rfl rfl rfl rfl wz (aa (vS r_3) (af (ak (ak ?_))))
 obtain ⟨v_5,h_6,hF⟩:=bind_some hF
 refine aS [(0,(vS s_1)),(6,(vS r_3)),(28,(vB v_5))] [] ?_ ?_
 ·refine ax (aa (vS r_3) (aa (vB (sEq r_3 (⟨#[]⟩:ByteArray))) ?_))
  rcases aj h_6 with⟨hc_7,h_6⟩|⟨hc_7,h_6⟩
  ·refine aA rfl hc_7 wz (ah (ah (ah (ah (aa (vB true) (aa (vB true) (ah (ah (ah (ah (bP (wn rfl rfl) (bP (wn rfl rfl) (ah (aa (vB true) (af ?_)))))))))))))))
   obtain rfl:=ae h_6
   exact cu
  ·refine aA rfl hc_7 wz (aG (vS r_3) wa rfl (fF un9 rfl wa (aG (vI most_2) wa rfl (aG (vB (decide ((r_3.size:Int)>most_2))) wa rfl (aa (vB (decide ((r_3.size:Int)>most_2))) ?_)))))
   rcases aj h_6 with⟨hc_8,h_6⟩|⟨hc_8,h_6⟩
   ·refine aA rfl hc_8 wz (ah (ah (ah (ah (bP (wn rfl rfl) (bP (wn rfl rfl) (ah (aa (vB true) (af ?_)))))))))
    obtain rfl:=ae h_6
    exact cu
   ·refine aA rfl hc_8 wz (aG (vS r_3) wa rfl ?_)
    obtain ⟨b_9,hy_10,h_6⟩:=bind_some h_6
    refine qG un9 rfl rfl hy_10 wa (aG (vB ((b_9.toNat:Int)==48)) wa rfl ?_)
    rcases aj h_6 with⟨hc_11,h_6⟩|⟨hc_11,h_6⟩
    ·refine aA rfl hc_11 wa (aG (vS s_1) wa rfl (aG (vB (sNe s_1 (⟨#[48]⟩:ByteArray))) wa rfl (aG (vB (sNe s_1 (⟨#[48]⟩:ByteArray))) wa rfl (aa (vB (sNe s_1 (⟨#[48]⟩:ByteArray))) (af ?_)))))
     obtain rfl:=ae h_6
     exact cu
    ·refine aA rfl hc_11 wa (ah (ah (aG (vB false) wa rfl (aa (vB false) (af ?_)))))
     obtain rfl:=ae h_6
     exact cu
 ·rintro ⟨⟩ _ sl_ H_ hp_ hq_
  refine aV _ hp_ hq_ ?_
  rcases aj hF with⟨hc_12,hF⟩|⟨hc_12,hF⟩
  ·refine aD rfl hc_12 (ai (aa (vI 0) (aa (vB false) (af ?_))))
   obtain rfl:=ae hF
   exact av (aJ [(vI 0),(vB false)] ⟨rfl,⟨rfl,trivial⟩⟩)
  ·refine aF rfl hc_12 (aC (ak (ai (aa (vI 0) (af ?_)))))
   obtain ⟨o_21,hj_22,hF⟩:=bind_some hF
   obtain ⟨nq_34,hj_22⟩:=nG hj_22
   refine sw (λ(s_18:Int)=>[(0,(vS s_1))]) (λ(s_18:Int)=>[]) (λ(k_13:Nat)=>(λ(s_18:Int)=>[(0,(vS s_1)),(6,(vS r_3)),(7,(vI s_18))])) (λs=>dL r_3 s) o_21 nq_34 0 hj_22 rfl (aN rfl) ?_ ?_
   ·rintro ⟨k_13,s_18⟩ hL_20
    dsimp only at hL_20
    cases k_13 with
    | zero=>cases hL_20
    | succ k_13 =>
     obtain ⟨c_,hc_19,hL_20⟩:=bind_some hL_20
     unfold dL at hc_19
     refine ak (ai (aa (vI s_18) (aa (vS r_3) (fF un9 rfl wz (aa (vB (decide (s_18<(r_3.size:Int)))) (af ?_))))))
     rcases aj hc_19 with⟨hc_23,hc_19⟩|⟨hc_23,hc_19⟩
     ·refine aD rfl hc_23 (aC (ak (aU (ak ?_))))
      obtain ⟨v_24,h_25,hc_19⟩:=bind_some hc_19
      refine aS [(0,(vS s_1)),(6,(vS r_3)),(7,(vI s_18)),(44,(vB v_24))] [] ?_ ?_
      ·refine ax (aa (vS r_3) (aa (vI s_18) ?_))
       obtain ⟨b_26,hy_27,h_25⟩:=bind_some h_25
       refine qG un9 rfl rfl hy_27 wz (aa (vB (decide ((b_26.toNat:Int)<48))) ?_)
       rcases aj h_25 with⟨hc_28,h_25⟩|⟨hc_28,h_25⟩
       ·refine aA rfl hc_28 wz (ah (ah (ah (ah (aa (vB true) (af ?_))))))
        obtain rfl:=ae h_25
        exact cu
       ·refine aA rfl hc_28 wz (aG (vS r_3) wa rfl (aG (vI s_18) wa rfl ?_))
        obtain ⟨b_29,hy_30,h_25⟩:=bind_some h_25
        refine qG un9 rfl rfl hy_30 wa (aG (vB (decide ((b_29.toNat:Int)>57))) wa rfl (aa (vB (decide ((b_29.toNat:Int)>57))) (af ?_)))
        obtain rfl:=ae h_25
        exact cu
      ·rintro ⟨⟩ _ sl_ H_ hp_ hq_
       refine aV _ hp_ hq_ ?_
       rcases aj hc_19 with⟨hc_31,hc_19⟩|⟨hc_31,hc_19⟩
       ·refine aD rfl hc_31 (ai (aa (vI 0) (aa (vB false) (af ?_))))
        obtain rfl:=ae hc_19
        obtain rfl:=ae hL_20
        obtain rfl:=ae hF
        exact av (aJ [(vI 0),(vB false)] ⟨rfl,⟨rfl,trivial⟩⟩)
       ·refine aF rfl hc_31 (aC (ax (aa (vI s_18) (aa (vI (w64 (s_18+1))) (aa (vI (w64 (s_18+1))) (af ?_))))))
        obtain rfl:=ae hc_19
        exact dx (k_13,(w64 (s_18+1))) hL_20 (ls_ _) rfl (aN rfl)
     ·refine aF rfl hc_23 (dw ?_)
      obtain rfl:=ae hc_19
      obtain rfl:=ae hL_20
      exact bO (s_18) rfl rfl (aN rfl)
   ·rintro s_18 ho_ sl_ H_ hp_ hq_
    subst ho_
    refine aV _ hp_ hq_ (ai (aa (vS s_1) ?_))
    obtain ⟨r_32,hr_33,hF⟩:=bind_some hF
    refine ay (strconv_Atoi_ok hr_33) rfl hb71 rfl rfl rfl rfl wz (aa (.tup [(vI r_32),.nili]) (aa (vI r_32) (aa .nili (aa (vI r_32) (aa .nili (af (ak (bM (aa (vI r_32) (aa .nili (h_ieq if54 rfl rfl rfl wz (aa (vI r_32) (aa (vB true) (af ?_))))))))))))))
    obtain rfl:=ae hF
    exact av (aJ [(vI r_32),(vB true)] ⟨rfl,⟨rfl,trivial⟩⟩)
theorem sD {s_1:ByteArray} {r:Log_×Bool} (hF:fu s_1=some r) :
  FnM Tryz.prog 31 [(vS s_1)] [] (.tup [(.d (.agg (Log_.enc r.1))),(vB r.2)]) []:=by
 refine FnM.of_wH ⟨Tryz.prog,66,[],[]⟩ rfl Tryz.func31 rfl rfl (lb_ rfl) (by kernel_rfl) ?_
 unfold fu at hF
 refine ai (gY 0 (.inl rfl) z38 rfl wz (λn_2=>aa (vB false) (af (ai (aa (vS s_1) ?_)))))
 obtain ⟨r_3,hr_4,hF⟩:=bind_some hF
 refine ay (y9 hr_4) rfl hb53 rfl rfl rfl rfl wz (aa (.tup [(vL eS r_3.1),(vB r_3.2)]) (aa (vL eS r_3.1) (aa (vB r_3.2) (aa (vL eS r_3.1) (aa (vB r_3.2) (af (ak (ak ?_))))))))
 obtain ⟨v_5,h_6,hF⟩:=bind_some hF
 refine aS [(2,(.ref n_2 0 0)),(4,(vL eS r_3.1)),(23,(vB v_5))] [(n_2,some (.cells 6 [(vS (⟨#[]⟩:ByteArray)),(vS (⟨#[]⟩:ByteArray)),(vI 0),(vI 0),(vI 0),(vS (⟨#[]⟩:ByteArray))]))] ?_ ?_
 ·refine ax (aa (vB r_3.2) (aa (vB (!r_3.2)) ?_))
  rcases aj h_6 with⟨hc_7,h_6⟩|⟨hc_7,h_6⟩
  ·refine aA rfl hc_7 wz (ah (ah (ah (aa (vB true) (af ?_)))))
   obtain rfl:=ae h_6
   exact cu
  ·refine aA rfl hc_7 wz (aG (vL eS r_3.1) wa rfl (dX uH rfl wa (aG (vB ((r_3.1.length:Int) != 6)) wa rfl (aa (vB ((r_3.1.length:Int) != 6)) (af ?_)))))
   obtain rfl:=ae h_6
   exact cu
 ·rintro ⟨⟩ _ sl_ H_ hp_ hq_
  refine aV _ hp_ hq_ ?_
  rcases aj hF with⟨hc_8,hF⟩|⟨hc_8,hF⟩
  ·refine aD rfl hc_8 (ai (aG (.d (.agg (Log_.enc (⟨(⟨#[]⟩:ByteArray),(⟨#[]⟩:ByteArray),0,0,0,(⟨#[]⟩:ByteArray)⟩:Log_)))) wz (by kernel_rfl) (je 0 il ft 0 gz rfl rfl [(vS (⟨#[]⟩:ByteArray)),(vS (⟨#[]⟩:ByteArray)),(vI 0),(vI 0),(vI 0),(vS (⟨#[]⟩:ByteArray))] rfl wz (aa (vB false) (af ?_)))))
   obtain rfl:=ae hF
   exact av (aJ [(.d (.agg (Log_.enc (⟨(⟨#[]⟩:ByteArray),(⟨#[]⟩:ByteArray),0,0,0,(⟨#[]⟩:ByteArray)⟩:Log_)))),(vB false)] ⟨⟨0,_,_,_,_,_,_,_,rfl,rfl,gz,lN,rfl⟩,⟨rfl,trivial⟩⟩)
  ·refine aF rfl hc_8 (aC (ai (aa (vL eS r_3.1) ?_)))
   obtain ⟨y_9,hy_10,hF⟩:=bind_some hF
   refine eT jR rfl rfl hy_10 rfl wz (cz sz9 ag9 rfl (vS y_9) rfl wz ?_)
   obtain ⟨r_11,hr_12,hF⟩:=bind_some hF
   refine ay (mg hr_12) rfl hb54 rfl rfl rfl rfl wz (aa (.tup [(vI r_11.1),(vB r_11.2)]) (aa (vI r_11.1) (aa (vB r_11.2) (aa (vI r_11.1) (aa (vB r_11.2) (af (ai (aa (vL eS r_3.1) ?_))))))))
   obtain ⟨y_13,hy_14,hF⟩:=bind_some hF
   refine eT jR rfl rfl hy_14 rfl wz (cz sz9 ag9 rfl (vS y_13) rfl wz ?_)
   obtain ⟨r_15,hr_16,hF⟩:=bind_some hF
   refine ay (mg hr_16) rfl hb54 rfl rfl rfl rfl wz (aa (.tup [(vI r_15.1),(vB r_15.2)]) (aa (vI r_15.1) (aa (vB r_15.2) (aa (vI r_15.1) (aa (vB r_15.2) (af (ai (aa (vL eS r_3.1) ?_))))))))
   obtain ⟨y_17,hy_18,hF⟩:=bind_some hF
   refine eT jR rfl rfl hy_18 rfl wz (cz sz9 ag9 rfl (vS y_17) rfl wz ?_)
   obtain ⟨r_19,hr_20,hF⟩:=bind_some hF
   refine ay (mg hr_20) rfl hb54 rfl rfl rfl rfl wz (aa (.tup [(vI r_19.1),(vB r_19.2)]) (aa (vI r_19.1) (aa (vB r_19.2) (aa (vI r_19.1) (aa (vB r_19.2) (af (ak ?_)))))))
   obtain ⟨v_21,h_22,hF⟩:=bind_some hF
   refine aS [(2,(.ref n_2 0 0)),(3,(vB v_21.1))] [(n_2,some (.cells 6 [(vS v_21.2.1),(vS v_21.2.2.1),(vI r_11.1),(vI r_15.1),(vI r_19.1),(vS v_21.2.2.2)]))] ?_ ?_
   ·refine bM (aa (vL eS r_3.1) ?_)
    obtain ⟨y_23,hy_24,h_22⟩:=bind_some h_22
    refine eT jR rfl rfl hy_24 rfl wz (cz sz9 ag9 rfl (vS y_23) rfl wz (aa (vL eS r_3.1) ?_))
    obtain ⟨y_25,hy_26,h_22⟩:=bind_some h_22
    refine eT jR rfl rfl hy_26 rfl wz (cz sz9 ag9 rfl (vS y_25) rfl wz (aa (vI r_11.1) (aa (vI r_15.1) (aa (vI r_19.1) (aa (vL eS r_3.1) ?_)))))
    obtain ⟨y_27,hy_28,h_22⟩:=bind_some h_22
    refine eT jR rfl rfl hy_28 rfl wz (cz sz9 ag9 rfl (vS y_27) rfl wz (aG (.d (.agg (Log_.enc (⟨y_23,y_25,r_11.1,r_15.1,r_19.1,y_27⟩:Log_)))) wz (by kernel_rfl) (aa (vB r_11.2) ?_)))
    rcases aj h_22 with⟨hc_29,h_22⟩|⟨hc_29,h_22⟩
    ·refine aA rfl hc_29 wz (aG (vB r_15.2) wa rfl (aa (vB r_15.2) ?_))
     rcases aj h_22 with⟨hc_30,h_22⟩|⟨hc_30,h_22⟩
     ·refine aA rfl hc_30 wz (aG (vB r_19.2) wa rfl (aa (vB r_19.2) (je 20 (.inr (by kernel_rfl)) (λ_ _ ag=>trivial) 0 gz rfl rfl [(vS y_23),(vS y_25),(vI r_11.1),(vI r_15.1),(vI r_19.1),(vS y_27)] rfl wz (aa (vB r_19.2) (af ?_)))))
      obtain rfl:=ae h_22
      exact cu
     ·refine aA rfl hc_30 wz (ah (aa (vB false) (je 20 (.inr (by kernel_rfl)) (λ_ _ ag=>trivial) 0 gz rfl rfl [(vS y_23),(vS y_25),(vI r_11.1),(vI r_15.1),(vI r_19.1),(vS y_27)] rfl wz (aa (vB false) (af ?_)))))
      obtain rfl:=ae h_22
      exact cu
    ·refine aA rfl hc_29 wz (ah (aa (vB false) (aa (vB false) (ah (aa (vB false) (je 20 (.inr (by kernel_rfl)) (λ_ _ ag=>trivial) 0 gz rfl rfl [(vS y_23),(vS y_25),(vI r_11.1),(vI r_15.1),(vI r_19.1),(vS y_27)] rfl wz (aa (vB false) (af ?_))))))))
     obtain rfl:=ae h_22
     exact cu
   ·rintro ⟨⟩ _ sl_ H_ hp_ hq_
    refine aV _ hp_ hq_ ?_
    obtain rfl:=ae hF
    exact av (aJ [(.d (.agg (Log_.enc (⟨v_21.2.1,v_21.2.2.1,r_11.1,r_15.1,r_19.1,v_21.2.2.2⟩:Log_)))),(vB v_21.1)] ⟨⟨0,_,_,_,_,_,_,_,rfl,rfl,gz,lN,rfl⟩,⟨rfl,trivial⟩⟩)
theorem xB {text_1:ByteArray} {r:(List Log_)×Int×Int} (hF:jC text_1=some r) :
  FnM Tryz.prog 9 [(vS text_1)] [] (.tup [(vL Log_.enc r.1),(vI r.2.1),(vI r.2.2)]) []:=by
 refine FnM.of_wH ⟨Tryz.prog,58,[],[]⟩ rfl Tryz.func9 rfl rfl (lb_ rfl) (by kernel_rfl) ?_
 unfold jC at hF
 refine ai (aa .nil (aa (vI 0) (aa (vI 0) (af (ak (ai (aa (vS text_1) (fF un9 rfl wz (aa (vB (decide ((text_1.size:Int)>200000))) (af ?_))))))))))
 rcases aj hF with⟨hc_2,hF⟩|⟨hc_2,hF⟩
 ·refine aD rfl hc_2 (ai (aa .nil (aa (vI 0) (aa (vI 2) (af ?_)))))
  obtain rfl:=ae hF
  exact av (aJ [.nil,(vI 0),(vI 2)] ⟨rfl,⟨rfl,⟨rfl,trivial⟩⟩⟩)
 ·refine aF rfl hc_2 (aC (ai (aa (vS text_1) ?_)))
  obtain ⟨r_3,hr_4,hF⟩:=bind_some hF
  refine ay (yJ hr_4) rfl hb30 rfl rfl rfl rfl wz (aa (.tup [(vL eS r_3.1),(vB r_3.2)]) (aa (vL eS r_3.1) (aa (vB r_3.2) (aa (vL eS r_3.1) (aa (vB r_3.2) (af (ai (aa .nil (af (ak (ai (aa (vL eS r_3.1) (dX uH rfl wz (aa (vI 0) (af (rW (λn_11 => ?_)))))))))))))))))
  obtain ⟨o_16,hj_17,hF⟩:=bind_some hF
  obtain ⟨hn_9,hj_17⟩:=bQ hj_17
  refine ji (σ:=(List Log_)) (N:=Nm) (λp=>(λ(s_10:List Log_) (n_13:Nm)=>([(7,(gV n_13 6 s_10))]:SL_)) p.1 p.2) (λp=>(λ(s_10:List Log_) (n_13:Nm)=>([(n_13,gB 6 Log_.enc s_10)]:Hp)) p.1 p.2) (λ(k_5:Nat)=>(λp=>(λ(s_10:List Log_) (n_13:Nm)=>([(5,(vL eS r_3.1)),(6,(vB r_3.2)),(7,(gV n_13 6 s_10)),(21,(vL eS r_3.1)),(22,(vI (r_3.1.length:Int))),(23,(vI (k_5:Int)))]:SL_)) p.1 p.2)) (λk x s=>cB r_3 k x s) o_16 r_3.1 (([]:List Log_),n_11) hj_17 rfl (aN rfl) ?_ ?_
  ·rintro ⟨k_5,l_6,s_10,n_13⟩ ⟨hL_15,hD_8⟩
   dsimp only at hL_15 hD_8
   cases l_6 with
   | nil =>
    obtain rfl:=ae hL_15
    refine ai (aa (vB (decide ((k_5:Int)<(r_3.1.length:Int)))) (af ?_))
    refine ak (aF rfl (drop_nil hD_8) (dw ?_))
    exact bO (s_10,n_13) rfl rfl (aN rfl)
   | cons x_7 l_6 =>
    obtain ⟨c_,hc_14,hL_15⟩:=bind_some hL_15
    refine ai (aa (vB (decide ((k_5:Int)<(r_3.1.length:Int)))) (af ?_))
    refine ak (aD rfl (dG hD_8) (aC ?_))
    unfold cB at hc_14
    refine ak (aU (ai (aa (vI (k_5:Int)) (eT jR rfl rfl (dU hD_8) rfl wz (cz sz9 ag9 rfl (vS x_7) rfl wz (aa (vI (k_5:Int)) (aa (vS x_7) (af (ai (aa (vS x_7) ?_))))))))))
    obtain ⟨r_18,hr_19,hc_14⟩:=bind_some hc_14
    refine ay (sD hr_19) rfl hb31 rfl rfl rfl rfl wz (aa (.tup [(.d (.agg (Log_.enc r_18.1))),(vB r_18.2)]) (aa (.d (.agg (Log_.enc r_18.1))) (aa (vB r_18.2) (gY 0 (.inl rfl) z38 rfl wz (λn_20=>je 0 il ft 1 gz rfl rfl (Log_.v r_18.1) rfl wz (aa (vB r_18.2) (af (ak (ak ?_)))))))))
    obtain ⟨v_21,h_22,hc_14⟩:=bind_some hc_14
    refine aS [(5,(vL eS r_3.1)),(6,(vB r_3.2)),(7,(gV n_13 6 s_10)),(8,(vI (k_5:Int))),(10,(.ref n_20 0 0)),(21,(vL eS r_3.1)),(22,(vI (r_3.1.length:Int))),(23,(vI (k_5:Int))),(45,(vB v_21))] [(n_13,gB 6 Log_.enc s_10),(n_20,some (.cells 6 (Log_.v r_18.1)))] ?_ ?_
    ·refine ax (aa (vB r_18.2) (aa (vB (!r_18.2)) ?_))
     rcases aj h_22 with⟨hc_23,h_22⟩|⟨hc_23,h_22⟩
     ·refine aA rfl hc_23 wz (ah (ah (ah (bP (wn rfl rfl) (bP (wn rfl rfl) (bP (wn rfl rfl) (bP (wn rfl rfl) (bP (wn rfl rfl) (ah (aa (vB true) (af ?_)))))))))))
      obtain rfl:=ae h_22
      exact cu
     ·refine aA rfl hc_23 wz (aG (vB r_3.2) wa rfl (aG (vB (!r_3.2)) wa rfl ?_))
      rcases aj h_22 with⟨hc_24,h_22⟩|⟨hc_24,h_22⟩
      ·refine aA rfl hc_24 wa (aG (vI (k_5:Int)) wa rfl (aG (vL eS r_3.1) wa rfl (dX uH rfl wa (aG (vI (w64 ((r_3.1.length:Int)-1))) wa rfl (aG (vB ((k_5:Int)==(w64 ((r_3.1.length:Int)-1)))) wa rfl (aG (vB ((k_5:Int)==(w64 ((r_3.1.length:Int)-1)))) wa rfl (aa (vB ((k_5:Int)==(w64 ((r_3.1.length:Int)-1)))) (af ?_))))))))
       obtain rfl:=ae h_22
       exact cu
      ·refine aA rfl hc_24 wa (ah (ah (ah (ah (ah (aG (vB false) wa rfl (aa (vB false) (af ?_))))))))
       obtain rfl:=ae h_22
       exact cu
    ·rintro ⟨⟩ _ sl_ H_ hp_ hq_
     refine aV _ hp_ hq_ ?_
     rcases aj hc_14 with⟨hc_25,hc_14⟩|⟨hc_25,hc_14⟩
     ·refine aD rfl hc_25 (ai (aa (vI (k_5:Int)) (aa .nil (aa (vI (k_5:Int)) (aa (vI 9) (af ?_))))))
      obtain rfl:=ae hc_14
      obtain rfl:=ae hL_15
      obtain rfl:=ae hF
      exact av (aJ [.nil,(vI (k_5:Int)),(vI 9)] ⟨rfl,⟨rfl,⟨rfl,trivial⟩⟩⟩)
     ·refine aF rfl hc_25 (aC (ax (aa (gV n_13 6 s_10) (aO 0 1 il ft gz lN rfl rfl (.d (.agg (Log_.enc r_18.1))) rfl wz (fo (([r_18.1]:List Log_).map Log_.enc) rE ez26 rfl rfl rfl rfl rfl wz ?_)))))
      obtain ⟨a_26,hz_27,hc_14⟩:=bind_some hc_14
      refine oV 0 il ft (i:=0) A7 A7 gz z38 rfl (by decide) by38 (by decide) (λ_=>rfl) rfl rfl rfl hz_27 wz (λn_28=>aa (gV n_28 6 a_26) (af (ax (iZ (dV hD_8 hn_9) wz rfl (aa (vI ((k_5+1:Nat):Int)) (af ?_))))))
      obtain rfl:=ae hc_14
      exact dx (k_5+1,l_6,a_26,n_28) ⟨hL_15,bJ hD_8⟩ (ls_ _) rfl (aN rfl)
  ·rintro ⟨s_10,n_13⟩ ho_ sl_ H_ hp_ hq_
   subst ho_
   refine aV _ hp_ hq_ (ak (ak (kT 0 rfl (jd 7 0 rfl rfl (ax (aa (vL Log_.enc s_10) ?_))))))
   obtain ⟨r_29,hr_30,hF⟩:=bind_some hF
   refine ay (lq hr_30) rfl hb21 rfl rfl rfl rfl wz (aa (vI r_29) (af (ai (aa (vI r_29) (aa (vB (r_29 != 0)) (af ?_))))))
   rcases aj hF with⟨hc_31,hF⟩|⟨hc_31,hF⟩
   ·refine aD rfl hc_31 (ai (aa (vI r_29) (aa .nil (aa (vI 0) (aa (vI r_29) (af ?_))))))
    obtain rfl:=ae hF
    exact av (aJ [.nil,(vI 0),(vI r_29)] ⟨rfl,⟨rfl,⟨rfl,trivial⟩⟩⟩)
   ·refine aF rfl hc_31 (aC (ai (aa (vL Log_.enc s_10) (aa (vL Log_.enc s_10) (aa (vI 0) (aa (vI 0) (af ?_)))))))
    obtain rfl:=ae hF
    exact av (aJ [(vL Log_.enc s_10),(vI 0),(vI 0)] ⟨rfl,⟨rfl,⟨rfl,trivial⟩⟩⟩)
theorem yS {line_1:ByteArray} {r:(List ByteArray)×Bool} (hF:pJ line_1=some r) :
  FnM Tryz.prog 34 [(vS line_1)] [] (.tup [(vL eS r.1),(vB r.2)]) []:=by
 refine FnM.of_wH ⟨Tryz.prog,11,[],[]⟩ rfl Tryz.func34 rfl rfl (lb_ rfl) (by kernel_rfl) ?_
 unfold pJ at hF
 refine ai (aa .nil (aa (vB false) (af (ai (aa (vS line_1) ?_)))))
 obtain ⟨r_2,hr_3,hF⟩:=bind_some hF
 refine ay (jG hr_3) rfl hb52 rfl rfl rfl rfl wz (aa (vL eS r_2) (af (ai (aa (vL eS r_2) (aa (vL eS r_2) ?_)))))
 obtain ⟨r_4,hr_5,hF⟩:=bind_some hF
 refine ay (eQ hr_5) rfl hb56 rfl rfl rfl rfl wz (aa (vB (!r_4)) (aa (vL eS r_2) (aa (vB (!r_4)) (af ?_))))
 obtain rfl:=ae hF
 exact av (aJ [(vL eS r_2),(vB (!r_4))] ⟨rfl,⟨rfl,trivial⟩⟩)
theorem xC {s_1:ByteArray} {most_2:Int} {r:Int×Bool} (hF:jF s_1 most_2=some r) :
  FnM Tryz.prog 57 [(vS s_1),(vI most_2)] [] (.tup [(vI r.1),(vB r.2)]) []:=by
 refine FnM.of_wH ⟨Tryz.prog,38,[],[]⟩ rfl Tryz.func57 rfl rfl (lb_ rfl) (by kernel_rfl) ?_
 unfold jF at hF
 refine ai (aa (vI 0) (aa (vB false) (af (ai (aa (vS s_1) ?_)))))
 obtain ⟨r_3,hr_4,hF⟩:=bind_some hF
 refine ay (jy hr_4) rfl hb70 rfl rfl rfl rfl wz (aa (vS r_3) (af (ak (ak ?_))))
 obtain ⟨v_5,h_6,hF⟩:=bind_some hF
 refine aS [(0,(vS s_1)),(23,(vB v_5))] [] ?_ ?_
 ·refine ax (aa (vS r_3) (aa (vB (sEq r_3 (⟨#[]⟩:ByteArray))) ?_))
  rcases aj h_6 with⟨hc_7,h_6⟩|⟨hc_7,h_6⟩
  ·refine aA rfl hc_7 wz (ah (ah (ah (ah (aa (vB true) (aa (vB true) (ah (ah (ah (aa (vB true) (af ?_)))))))))))
   obtain rfl:=ae h_6
   exact cu
  ·refine aA rfl hc_7 wz (aG (vS r_3) wa rfl (fF un9 rfl wa (aG (vI most_2) wa rfl (aG (vB (decide ((r_3.size:Int)>most_2))) wa rfl (aa (vB (decide ((r_3.size:Int)>most_2))) ?_)))))
   rcases aj h_6 with⟨hc_8,h_6⟩|⟨hc_8,h_6⟩
   ·refine aA rfl hc_8 wz (ah (ah (ah (aa (vB true) (af ?_)))))
    obtain rfl:=ae h_6
    exact cu
   ·refine aA rfl hc_8 wz (aG (vS r_3) wa rfl ?_)
    obtain ⟨r_9,hr_10,h_6⟩:=bind_some h_6
    refine ay (lY hr_10) rfl hb48 rfl rfl rfl rfl wa (aG (vB (!r_9)) wa rfl (aa (vB (!r_9)) (af ?_)))
    obtain rfl:=ae h_6
    exact cu
 ·rintro ⟨⟩ _ sl_ H_ hp_ hq_
  refine aV _ hp_ hq_ ?_
  rcases aj hF with⟨hc_11,hF⟩|⟨hc_11,hF⟩
  ·refine aD rfl hc_11 (ai (aa (vI 0) (aa (vB false) (af ?_))))
   obtain rfl:=ae hF
   exact av (aJ [(vI 0),(vB false)] ⟨rfl,⟨rfl,trivial⟩⟩)
  ·refine aF rfl hc_11 (aC (ai (aa (vS s_1) ?_)))
   obtain ⟨r_12,hr_13,hF⟩:=bind_some hF
   refine ay (strconv_Atoi_ok hr_13) rfl hb71 rfl rfl rfl rfl wz (aa (.tup [(vI r_12),.nili]) (aa (vI r_12) (aa .nili (aa (vI r_12) (aa .nili (af (ak ?_)))))))
   obtain ⟨v_14,h_15,hF⟩:=bind_some hF
   refine aS [(4,(vI r_12)),(5,(vB v_14))] [] ?_ ?_
   ·refine ax (aa (vI r_12) (aa .nili (h_ieq if54 rfl rfl rfl wz (aa (vB true) (aG (vI r_12) wa rfl ?_)))))
    obtain ⟨r_16,hr_17,h_15⟩:=bind_some h_15
    refine ay (gq hr_17) rfl FZ rfl rfl rfl rfl wa (aG (vS s_1) wa rfl (aG (vB (sEq r_16 s_1)) wa rfl (aa (vB (sEq r_16 s_1)) (aa (vI r_12) (aa (vB (sEq r_16 s_1)) (af ?_))))))
    obtain rfl:=ae h_15
    exact cu
   ·rintro ⟨⟩ _ sl_ H_ hp_ hq_
    refine aV _ hp_ hq_ ?_
    obtain rfl:=ae hF
    exact av (aJ [(vI r_12),(vB v_14)] ⟨rfl,⟨rfl,trivial⟩⟩)
theorem rU {l_1:(List ByteArray)} {most_2:Int} {r:(List Int)×Bool} (hF:iy l_1 most_2=some r) :
  FnM Tryz.prog 35 [(vL eS l_1),(vI most_2)] [] (.tup [(vL eI r.1),(vB r.2)]) []:=by
 refine FnM.of_wH ⟨Tryz.prog,35,[],[]⟩ rfl Tryz.func35 rfl rfl (lb_ rfl) (by kernel_rfl) ?_
 unfold iy at hF
 refine ai (aa .nil (aa (vB false) (af (ai (aa .nil (af (ai (aa (vB true) (af (ak (ai (aa (vL eS l_1) (dX uH rfl wz (aa (vI 0) (af (rW (λn_9 => ?_)))))))))))))))))
 obtain ⟨o_14,hj_15,hF⟩:=bind_some hF
 obtain ⟨hn_7,hj_15⟩:=bQ hj_15
 refine ji (σ:=(List Int)×Bool) (N:=Nm) (λp=>(λ(s_8:(List Int)×Bool) (n_11:Nm)=>([(6,(gV n_11 1 s_8.1)),(7,(vB s_8.2))]:SL_)) p.1 p.2) (λp=>(λ(s_8:(List Int)×Bool) (n_11:Nm)=>([(n_11,gB 1 eI s_8.1)]:Hp)) p.1 p.2) (λ(k_3:Nat)=>(λp=>(λ(s_8:(List Int)×Bool) (n_11:Nm)=>([(1,(vI most_2)),(6,(gV n_11 1 s_8.1)),(7,(vB s_8.2)),(12,(vL eS l_1)),(13,(vI (l_1.length:Int))),(14,(vI (k_3:Int)))]:SL_)) p.1 p.2)) (λk x s=>fD most_2 k x s) o_14 l_1 ((([]:List Int),true),n_9) hj_15 rfl (aN rfl) ?_ ?_
 ·rintro ⟨k_3,l_4,s_8,n_11⟩ ⟨hL_13,hD_6⟩
  dsimp only at hL_13 hD_6
  cases l_4 with
  | nil =>
   obtain rfl:=ae hL_13
   refine ai (aa (vB (decide ((k_3:Int)<(l_1.length:Int)))) (af ?_))
   refine ak (aF rfl (drop_nil hD_6) (dw ?_))
   exact bO (s_8,n_11) rfl rfl (aN rfl)
  | cons x_5 l_4 =>
   obtain ⟨c_,hc_12,hL_13⟩:=bind_some hL_13
   refine ai (aa (vB (decide ((k_3:Int)<(l_1.length:Int)))) (af ?_))
   refine ak (aD rfl (dG hD_6) (aC ?_))
   unfold fD at hc_12
   refine ak (aU (ai (eT jR rfl rfl (dU hD_6) rfl wz (cz sz9 ag9 rfl (vS x_5) rfl wz (aa (vS x_5) (af (ai (aa (vS x_5) (aa (vI most_2) ?_)))))))))
   obtain ⟨r_16,hr_17,hc_12⟩:=bind_some hc_12
   refine ay (xC hr_17) rfl hb57 rfl rfl rfl rfl wz (aa (.tup [(vI r_16.1),(vB r_16.2)]) (aa (vI r_16.1) (aa (vB r_16.2) (aa (vI r_16.1) (aa (vB r_16.2) (af ?_))))))
   obtain ⟨v_18,h_19,hc_12⟩:=bind_some hc_12
   refine jN (β:=Nm) (λ(n_20:Nm)=>([(1,(vI most_2)),(6,(gV n_20 1 v_18.1)),(7,(vB v_18.2)),(12,(vL eS l_1)),(13,(vI (l_1.length:Int))),(14,(vI (k_3:Int)))]:SL_)) (λ(n_20:Nm)=>([(n_20,gB 1 eI v_18.1)]:Hp)) (λ_=>True) ?_ ?_
   ·refine ax (aa (gV n_11 1 s_8.1) (aa (vI r_16.1) (fo (([r_16.1]:List Int).map eI) nK uJ rfl rfl rfl rfl rfl wz ?_)))
    obtain ⟨a_21,hz_22,h_19⟩:=bind_some h_19
    refine oV 0 il ft (i:=0) el22 el22 sz3 z3 rfl (by decide) by3 (by decide) (λ_=>rfl) rfl rfl rfl hz_22 wz (λn_23=>aa (vB s_8.2) ?_)
    rcases aj h_19 with⟨hc_24,h_19⟩|⟨hc_24,h_19⟩
    ·refine aA rfl hc_24 wz (aG (vB r_16.2) wa rfl (aa (vB r_16.2) (aa (gV n_23 1 a_21) (aa (vB r_16.2) (af ?_)))))
     obtain rfl:=ae h_19
     exact bO n_23 trivial rfl (aN rfl)
    ·refine aA rfl hc_24 wz (ah (aa (vB false) (aa (gV n_23 1 a_21) (aa (vB false) (af ?_)))))
     obtain rfl:=ae h_19
     exact bO n_23 trivial rfl (aN rfl)
   ·rintro n_20 _ sl_ H_ hp_ hq_
    refine aV _ hp_ hq_ (ax (iZ (dV hD_6 hn_7) wz rfl (aa (vI ((k_3+1:Nat):Int)) (af ?_))))
    obtain rfl:=ae hc_12
    exact dx (k_3+1,l_4,(v_18.1,v_18.2),n_20) ⟨hL_13,bJ hD_6⟩ (ls_ _) rfl (aN rfl)
 ·rintro ⟨s_8,n_11⟩ ho_ sl_ H_ hp_ hq_
  subst ho_
  refine aV _ hp_ hq_ (ai (aa (gV n_11 1 s_8.1) (aa (vB s_8.2) (aa (gV n_11 1 s_8.1) (aa (vB s_8.2) (af (kT 0 rfl (jd 4 0 rfl rfl (jd 6 0 rfl rfl (jd 33 0 rfl rfl ?_))))))))))
  obtain rfl:=ae hF
  exact av (aJ [(vL eI s_8.1),(vB s_8.2)] ⟨rfl,⟨rfl,trivial⟩⟩)
theorem qU {line_1:ByteArray} {p_2:(List Log_)} {r:Bool×(List Log_)} (hF:fO line_1 p_2=some r) :
  FnM Tryz.prog 33 [(vS line_1),(.ref (au 0) 0 0)] (([.cells 1 [gV (au 1) 6 p_2]]:List Box)++gI 6 Log_.enc p_2) (vB r.1) (([some (.cells 1 [gV (au (1+(gI 6 Log_.enc p_2).length)) 6 r.2])]:List (Option Box))++gT p_2 none++gO 6 Log_.enc r.2):=by
 refine FnM.of_wHc1 ⟨Tryz.prog,49,[],[]⟩ rfl Tryz.func33 rfl rfl (lb_ rfl) (by kernel_rfl) ?_
 unfold fO at hF
 refine ai (aa (vB false) (af (ai (aa (vS line_1) ?_))))
 obtain ⟨r_3,hr_4,hF⟩:=bind_some hF
 refine ay (yS hr_4) rfl hb34 rfl rfl rfl rfl wz (aa (.tup [(vL eS r_3.1),(vB r_3.2)]) (aa (vL eS r_3.1) (aa (vB r_3.2) (aa (vL eS r_3.1) (aa (vB r_3.2) (af (ak (ak ?_))))))))
 obtain ⟨v_5,h_6,hF⟩:=bind_some hF
 refine aS [(1,(.ref (au 0) 0 0)),(4,(vL eS r_3.1)),(19,(vB v_5))] [((au 0),some (.cells 1 [(gV (au 1) 6 p_2)])),((au 1),gB 6 Log_.enc p_2)] ?_ ?_
 ·refine ax (aa (vB r_3.2) (aa (vB (!r_3.2)) ?_))
  rcases aj h_6 with⟨hc_7,h_6⟩|⟨hc_7,h_6⟩
  ·refine aA rfl hc_7 wz (ah (ah (ah (aa (vB true) (af ?_)))))
   obtain rfl:=ae h_6
   exact cu
  ·refine aA rfl hc_7 wz (aG (vL eS r_3.1) wa rfl (dX uH rfl wa (aG (vB ((r_3.1.length:Int) != 6)) wa rfl (aa (vB ((r_3.1.length:Int) != 6)) (af ?_)))))
   obtain rfl:=ae h_6
   exact cu
 ·rintro ⟨⟩ _ sl_ H_ hp_ hq_
  refine aV _ hp_ hq_ ?_
  rcases aj hF with⟨hc_8,hF⟩|⟨hc_8,hF⟩
  ·refine aD rfl hc_8 (ai (aa (vB false) (af ?_)))
   obtain rfl:=ae hF
   exact av (zi (n:=(au 1)) (.inr rfl) [(vB false)] ⟨rfl,trivial⟩ rfl rfl rfl rfl 1 rfl rfl)
  ·refine aF rfl hc_8 (aC (ai (aa (vL eS r_3.1) ?_)))
   obtain ⟨y_9,hy_10,hF⟩:=bind_some hF
   refine xg uH sz9 (λ_=>rfl) rfl rfl rfl hy_10 wz ?_
   obtain ⟨r_11,hr_12,hF⟩:=bind_some hF
   refine ay (rU hr_12) rfl hb35 rfl rfl rfl rfl wz (aa (.tup [(vL eI r_11.1),(vB r_11.2)]) (aa (vL eI r_11.1) (aa (vB r_11.2) (aa (vL eI r_11.1) (aa (vB r_11.2) (af (ak (bM (aO 0 0 (.inr (by kernel_rfl)) (λ_ _ ag=>trivial) sz26 ag26 rfl rfl (gV (au 1) 6 p_2) rfl wz (aa (vL eS r_3.1) ?_))))))))))
   obtain ⟨y_13,hy_14,hF⟩:=bind_some hF
   refine eT jR rfl rfl hy_14 rfl wz (cz sz9 ag9 rfl (vS y_13) rfl wz (aa (vL eS r_3.1) ?_))
   obtain ⟨y_15,hy_16,hF⟩:=bind_some hF
   refine eT jR rfl rfl hy_16 rfl wz (cz sz9 ag9 rfl (vS y_15) rfl wz (aa (vL eI r_11.1) ?_))
   obtain ⟨y_17,hy_18,hF⟩:=bind_some hF
   refine eT nK rfl rfl hy_18 rfl wz (cz sz3 ag3 rfl (vI y_17) rfl wz (aa (vL eI r_11.1) ?_))
   obtain ⟨y_19,hy_20,hF⟩:=bind_some hF
   refine eT nK rfl rfl hy_20 rfl wz (cz sz3 ag3 rfl (vI y_19) rfl wz (aa (vL eI r_11.1) ?_))
   obtain ⟨y_21,hy_22,hF⟩:=bind_some hF
   refine eT nK rfl rfl hy_22 rfl wz (cz sz3 ag3 rfl (vI y_21) rfl wz (aa (vL eS r_3.1) ?_))
   obtain ⟨y_23,hy_24,hF⟩:=bind_some hF
   refine eT jR rfl rfl hy_24 rfl wz (cz sz9 ag9 rfl (vS y_23) rfl wz (aG (.d (.agg (Log_.enc (⟨y_13,y_15,y_17,y_19,y_21,y_23⟩:Log_)))) wz (by kernel_rfl) (fo (([(⟨y_13,y_15,y_17,y_19,y_21,y_23⟩:Log_)]:List Log_).map Log_.enc) rE ez26 rfl rfl rfl rfl rfl wz ?_)))
   obtain ⟨a_25,hz_26,hF⟩:=bind_some hF
   refine oV 21 (.inr (by kernel_rfl)) (λ_ _ ag=>⟨.inr (.inr (by kernel_rfl)),trivial⟩) (i:=1) A7 A7 gz z38 rfl (by decide) by38 (by decide) (λ_=>rfl) rfl rfl rfl hz_26 wz (λn_27=>je 22 (.inr (by kernel_rfl)) (λ_ _ ag=>⟨.inr (.inr (by kernel_rfl)),⟨.inr (.inr (by kernel_rfl)),trivial⟩⟩) 0 sz26 rfl rfl [(gV n_27 6 a_25)] (stC_g rfl) wz (af (aV (H0:=([((au 0),some (.cells 1 [(gV n_27 6 a_25)])),(n_27,gB 6 Log_.enc a_25)]:Hp)) ([(7,(vB r_11.2))]:SL_) (by kernel_rfl) (qw (by kernel_rfl)) (ai (aa (vB r_11.2) (aa (vB r_11.2) (af ?_)))))))
   obtain rfl:=ae hF
   exact av (zi (n:=n_27) (.inr rfl) [(vB r_11.2)] ⟨rfl,trivial⟩ rfl rfl rfl rfl 1 rfl rfl)
theorem jU {s_1:ByteArray} {substr_2:ByteArray} {r:Int} (hF:bT s_1 substr_2=some r) :
  FnM Tryz.prog 96 [(vS s_1),(vS substr_2)] [] (vI r) []:=by
 refine FnM.of_wH ⟨Tryz.prog,143,[],[]⟩ rfl Tryz.func96 rfl rfl (lb_ rfl) (by kernel_rfl) ?_
 unfold bT at hF
 refine ai (aa (vI 0) (af (ai (aa (vS substr_2) (fF un9 rfl wz (aa (vI (substr_2.size:Int)) (af (ak (aU (ak ?_))))))))))
 obtain ⟨v_3,h_4,hF⟩:=bind_some hF
 refine aS [(0,(vS s_1)),(1,(vS substr_2)),(5,(vI (substr_2.size:Int))),(16,(vB v_3))] [] ?_ ?_
 ·refine ax (aa (vI (substr_2.size:Int)) (aa (vB ((substr_2.size:Int)==0)) ?_))
  rcases aj h_4 with⟨hc_5,h_4⟩|⟨hc_5,h_4⟩
  ·refine aA rfl hc_5 wz (ah (ah (ah (aa (vB true) (aa (vB true) (af ?_))))))
   obtain rfl:=ae h_4
   exact cu
  ·refine aA rfl hc_5 wz (aG (vS substr_2) wa rfl (aG (vS s_1) wa rfl (aG (vB (sEq substr_2 s_1)) wa rfl (aa (vB (sEq substr_2 s_1)) (aa (vB (sEq substr_2 s_1)) (af ?_))))))
   obtain rfl:=ae h_4
   exact cu
 ·rintro ⟨⟩ _ sl_ H_ hp_ hq_
  refine aV _ hp_ hq_ ?_
  rcases aj hF with⟨hc_6,hF⟩|⟨hc_6,hF⟩
  ·refine aD rfl hc_6 (ai (aa (vI 0) (af ?_)))
   obtain rfl:=ae hF
   exact av (aJ [(vI 0)] ⟨rfl,trivial⟩)
  ·refine aF rfl hc_6 (ai (aa (vI (substr_2.size:Int)) (aa (vB ((substr_2.size:Int)==1)) (aa (vB ((substr_2.size:Int)==1)) (af ?_)))))
   rcases aj hF with⟨hc_7,hF⟩|⟨hc_7,hF⟩
   ·refine aD rfl hc_7 (ai (aa (vS s_1) (aa (vS substr_2) ?_)))
    obtain ⟨b_8,hy_9,hF⟩:=bind_some hF
    refine qG un9 rfl rfl hy_9 wz ?_
    obtain ⟨r_10,hr_11,hF⟩:=bind_some hF
    refine ay (eF hr_11) rfl hb87 rfl rfl rfl rfl wz (aa (vI r_10) (af ?_))
    obtain rfl:=ae hF
    exact av (aJ [(vI r_10)] ⟨rfl,trivial⟩)
   ·refine aF rfl hc_7 (ai (aa (vI (substr_2.size:Int)) (aa (vS s_1) (fF un9 rfl wz (aa (vB (decide ((substr_2.size:Int)>=(s_1.size:Int)))) (aa (vB (decide ((substr_2.size:Int)>=(s_1.size:Int)))) (af ?_)))))))
    rcases aj hF with⟨hc_12,hF⟩|⟨hc_12,hF⟩
    ·refine aD rfl hc_12 (ai (aa (vI (-1)) (af ?_)))
     obtain rfl:=ae hF
     exact av (aJ [(vI (-1))] ⟨rfl,trivial⟩)
    ·refine aF rfl hc_12 (ai (aa (vI (substr_2.size:Int)) ?_))
     cases hF
theorem kL {s_1:ByteArray} {sep_2:ByteArray} {r:ByteArray×ByteArray×Bool} (hF:cO s_1 sep_2=some r) :
  FnM Tryz.prog 72 [(vS s_1),(vS sep_2)] [] (.tup [(vS r.1),(vS r.2.1),(vB r.2.2)]) []:=by
 refine FnM.of_wH ⟨Tryz.prog,23,[],[]⟩ rfl Tryz.func72 rfl rfl (lb_ rfl) (by kernel_rfl) ?_
 unfold cO at hF
 refine ai (aa (vS (⟨#[]⟩:ByteArray)) (aa (vS (⟨#[]⟩:ByteArray)) (aa (vB false) (af (ak (ai (aa (vS s_1) (aa (vS sep_2) ?_))))))))
 obtain ⟨r_3,hr_4,hF⟩:=bind_some hF
 refine ay (jU hr_4) rfl hb96 rfl rfl rfl rfl wz (aa (vI r_3) (af (ai (aa (vI r_3) (aa (vB (decide (r_3>=0))) (af ?_))))))
 rcases aj hF with⟨hc_5,hF⟩|⟨hc_5,hF⟩
 ·refine aD rfl hc_5 (ak (bM (aa (vS s_1) (aa (vI r_3) ?_))))
  obtain ⟨y_6,hy_7,hF⟩:=bind_some hF
  refine fM un9 rfl rfl hy_7 wz (aa (vS s_1) (aa (vI r_3) (aa (vS sep_2) (fF un9 rfl wz (aa (vI (w64 (r_3+(sep_2.size:Int)))) ?_)))))
  obtain ⟨y_8,hy_9,hF⟩:=bind_some hF
  refine gN un9 rfl rfl hy_9 wz (aa (vS y_6) (aa (vS y_8) (aa (vB true) (af ?_))))
  obtain rfl:=ae hF
  exact av (aJ [(vS y_6),(vS y_8),(vB true)] ⟨rfl,⟨rfl,⟨rfl,trivial⟩⟩⟩)
 ·refine aF rfl hc_5 (aC (ai (aa (vS s_1) (aa (vS s_1) (aa (vS (⟨#[]⟩:ByteArray)) (aa (vB false) (af ?_)))))))
  obtain rfl:=ae hF
  exact av (aJ [(vS s_1),(vS (⟨#[]⟩:ByteArray)),(vB false)] ⟨rfl,⟨rfl,⟨rfl,trivial⟩⟩⟩)
theorem wK {s_1:ByteArray} {sep_2:ByteArray} {r:ByteArray×ByteArray×Bool} (hF:strings_Cut s_1 sep_2=some r) :
  FnM Tryz.prog 55 [(vS s_1),(vS sep_2)] [] (.tup [(vS r.1),(vS r.2.1),(vB r.2.2)]) []:=by
 refine FnM.of_wH ⟨Tryz.prog,13,[],[]⟩ rfl Tryz.func55 rfl rfl (lb_ rfl) (by kernel_rfl) ?_
 unfold strings_Cut at hF
 refine ai (aa (vS (⟨#[]⟩:ByteArray)) (aa (vS (⟨#[]⟩:ByteArray)) (aa (vB false) (af (ai (aa (vS s_1) (aa (vS sep_2) ?_)))))))
 obtain ⟨r_3,hr_4,hF⟩:=bind_some hF
 refine ay (kL hr_4) rfl hb72 rfl rfl rfl rfl wz (aa (vS r_3.1) (aa (vS r_3.2.1) (aa (vB r_3.2.2) (aa (vS r_3.1) (aa (vS r_3.2.1) (aa (vB r_3.2.2) (af ?_)))))))
 obtain rfl:=ae hF
 exact av (aJ [(vS r_3.1),(vS r_3.2.1),(vB r_3.2.2)] ⟨rfl,⟨rfl,⟨rfl,trivial⟩⟩⟩)
theorem uF {text_1:ByteArray} {take2_3:(List Log_)} {r:Int×Bool×(List Log_)} (hF:jh text_1 take2_3=some r) :
  FnM Tryz.prog 32 [(vS text_1),(.fn 33 [(.ref (au 0) 0 0)])] (([.cells 1 [gV (au 1) 6 take2_3]]:List Box)++gI 6 Log_.enc take2_3) (.tup [(vI r.1),(vB r.2.1)]) (([some (.cells 1 [gV (au (1+(gI 6 Log_.enc take2_3).length)) 6 r.2.2])]:List (Option Box))++gT take2_3 none++gO 6 Log_.enc r.2.2):=by
 refine FnM.of_wHc1 ⟨Tryz.prog,30,[],[]⟩ rfl Tryz.func32 rfl rfl (lb_ rfl) (by kernel_rfl) ?_
 unfold jh at hF
 refine ai (aa (vI 0) (aa (vB false) (af (ak (ai (aa (vI 0) (af ?_)))))))
 obtain ⟨o_14,hj_15,hF⟩:=bind_some hF
 obtain ⟨nq_27,hj_15⟩:=nG hj_15
 refine ET (σ:=(List Log_)×ByteArray×Int) (N:=Nm) (λp=>(λ(s_9:(List Log_)×ByteArray×Int) (n_11:Nm)=>([]:SL_)) p.1 p.2) (λp=>(λ(s_9:(List Log_)×ByteArray×Int) (n_11:Nm)=>([((au 0),some (.cells 1 [(gV n_11 6 s_9.1)])),(n_11,gB 6 Log_.enc s_9.1)]:Hp)) p.1 p.2) (λ(k_4:Nat)=>(λp=>(λ(s_9:(List Log_)×ByteArray×Int) (n_11:Nm)=>([(0,(vS s_9.2.1)),(1,(.fn 33 [(.ref (au 0) 0 0)])),(6,(vI s_9.2.2))]:SL_)) p.1 p.2)) (λs=>bK s) o_14 nq_27 ((take2_3,text_1,0),(au 1)) hj_15 rfl (aN rfl) ?_ ?_
 ·rintro ⟨k_4,s_9,n_11⟩ hL_13
  dsimp only at hL_13
  cases k_4 with
  | zero=>cases hL_13
  | succ k_4 =>
   obtain ⟨c_,hc_12,hL_13⟩:=bind_some hL_13
   unfold bK at hc_12
   refine ak (ai (aa (vS s_9.2.1) (aa (vB (sNe s_9.2.1 (⟨#[]⟩:ByteArray))) (af ?_))))
   rcases aj hc_12 with⟨hc_16,hc_12⟩|⟨hc_16,hc_12⟩
   ·refine aD rfl hc_16 (aC (ak (aU (ai (aa (vS s_9.2.1) ?_)))))
    obtain ⟨r_17,hr_18,hc_12⟩:=bind_some hc_12
    refine ay (wK hr_18) rfl hb55 rfl rfl rfl rfl wz (aa (.tup [(vS r_17.1),(vS r_17.2.1),(vB r_17.2.2)]) (aa (vS r_17.1) (aa (vS r_17.2.1) (aa (vB r_17.2.2) (aa (vS r_17.1) (aa (vS r_17.2.1) (aa (vB r_17.2.2) (af (ak (ak ?_))))))))))
    obtain ⟨v_19,h_20,hc_12⟩:=bind_some hc_12
    refine jN (β:=Nm) (λ(n_21:Nm)=>([(1,(.fn 33 [(.ref (au 0) 0 0)])),(6,(vI s_9.2.2)),(8,(vS r_17.2.1)),(27,(vB v_19.2))]:SL_)) (λ(n_21:Nm)=>([((au 0),some (.cells 1 [(gV n_21 6 v_19.1)])),(n_21,gB 6 Log_.enc v_19.1)]:Hp)) (λ_=>True) ?_ ?_
    ·refine ax (aa (vB r_17.2.2) (aa (vB (!r_17.2.2)) ?_))
     rcases aj h_20 with⟨hc_22,h_20⟩|⟨hc_22,h_20⟩
     ·refine aA rfl hc_22 wz (ah (ah (ah (ah (aa (vB true) (af ?_))))))
      obtain rfl:=ae h_20
      exact bO n_11 trivial rfl (aN rfl)
     ·refine aA rfl hc_22 wz (aG (.fn 33 [(.ref (au 0) 0 0)]) wa rfl (aG (vS r_17.1) wa rfl ?_))
      obtain ⟨r_23,hr_24,h_20⟩:=bind_some h_20
      refine yu 0 1 (qU hr_24) rfl hb33 rfl rfl (by kernel_rfl) (by kernel_rfl) (by kernel_rfl) (by kernel_rfl) (by decide) wa (λn_25=>([((au 0),some (.cells 1 [(gV n_25 6 r_23.2)])),(n_11,none)]:Hp)) (λ_=>by kernel_rfl) (λn_25=>aG (vB (!r_23.1)) wa rfl (aa (vB (!r_23.1)) (af ?_)))
      obtain rfl:=ae h_20
      exact bO n_25 trivial rfl (pre_is [0,2] (by decide) rfl)
    ·rintro n_21 _ sl_ H_ hp_ hq_
     refine aV _ hp_ hq_ ?_
     rcases aj hc_12 with⟨hc_26,hc_12⟩|⟨hc_26,hc_12⟩
     ·refine aD rfl hc_26 (ai (aa (vI s_9.2.2) (aa (vI s_9.2.2) (aa (vB false) (af ?_)))))
      obtain rfl:=ae hc_12
      obtain rfl:=ae hL_13
      obtain rfl:=ae hF
      exact av (zi (n:=n_21) (.inr rfl) [(vI s_9.2.2),(vB false)] ⟨rfl,⟨rfl,trivial⟩⟩ rfl rfl rfl rfl 1 rfl rfl)
     ·refine aF rfl hc_26 (aC (ax (aa (vS r_17.2.1) (aa (vS r_17.2.1) (af (ax (aa (vI s_9.2.2) (aa (vI (w64 (s_9.2.2+1))) (aa (vI (w64 (s_9.2.2+1))) (af ?_))))))))))
      obtain rfl:=ae hc_12
      exact dx (k_4,(v_19.1,r_17.2.1,(w64 (s_9.2.2+1))),n_21) hL_13 (ls_ _) rfl (aN rfl)
   ·refine aF rfl hc_16 (dw ?_)
    obtain rfl:=ae hc_12
    obtain rfl:=ae hL_13
    exact bO ((s_9.1,s_9.2.1,s_9.2.2),n_11) rfl rfl (aN rfl)
 ·rintro ⟨s_9,n_11⟩ ho_ sl_ H_ hp_ hq_
  subst ho_
  refine aV _ hp_ hq_ (ai (aa (vI 0) (aa (vB true) (af ?_))))
  obtain rfl:=ae hF
  exact av (zi (n:=n_11) (.inr rfl) [(vI 0),(vB true)] ⟨rfl,⟨rfl,trivial⟩⟩ rfl rfl rfl rfl 1 rfl rfl)
theorem uy {text_1:ByteArray} {r:(List Log_)×Int×Int} (hF:fZ text_1=some r) :
  FnM Tryz.prog 10 [(vS text_1)] [] (.tup [(vL Log_.enc r.1),(vI r.2.1),(vI r.2.2)]) []:=by
 refine FnM.of_wH ⟨Tryz.prog,27,[],[]⟩ rfl Tryz.func10 rfl rfl (lb_ rfl) (by kernel_rfl) ?_
 unfold fZ at hF
 refine ai (aa .nil (aa (vI 0) (aa (vI 0) (af (ak (ai (aa (vS text_1) (fF un9 rfl wz (aa (vB (decide ((text_1.size:Int)>200000))) (af ?_))))))))))
 rcases aj hF with⟨hc_2,hF⟩|⟨hc_2,hF⟩
 ·refine aD rfl hc_2 (ai (aa .nil (aa (vI 0) (aa (vI 2) (af ?_)))))
  obtain rfl:=ae hF
  exact av (aJ [.nil,(vI 0),(vI 2)] ⟨rfl,⟨rfl,⟨rfl,trivial⟩⟩⟩)
 ·refine aF rfl hc_2 (aC (ai (gY 0 (.inl rfl) z26 rfl wz (λn_3=>af (ai (aa (vS text_1) (aa (.fn 33 [(.ref n_3 0 0)]) (qR (λn_4=>Ev (b':=some (.cells 1 [(gV n_4 6 ([]:List Log_))])) 0 rfl rfl (Ev (b':=gB 6 Log_.enc ([]:List Log_)) 1 rfl rfl ?_))))))))))
  obtain ⟨r_5,hr_6,hF⟩:=bind_some hF
  refine yu 0 1 (uF hr_6) rfl hb32 rfl rfl (by kernel_rfl) (by kernel_rfl) (by kernel_rfl) (by kernel_rfl) (by decide) wz (λn_7=>([(n_3,some (.cells 1 [(gV n_7 6 r_5.2.2)])),(n_4,none)]:Hp)) (λ_=>by kernel_rfl) (λn_7=>aa (.tup [(vI r_5.1),(vB r_5.2.1)]) (aa (vI r_5.1) (aa (vB r_5.2.1) (aa (vI r_5.1) (aa (vB r_5.2.1) (af (ak (ai (aa (vB r_5.2.1) (aa (vB (!r_5.2.1)) (af ?_)))))))))))
  rcases aj hF with⟨hc_8,hF⟩|⟨hc_8,hF⟩
  ·refine aD rfl hc_8 (ai (aa (vI r_5.1) (aa .nil (aa (vI r_5.1) (aa (vI 9) (af ?_))))))
   obtain rfl:=ae hF
   exact av (aJ [.nil,(vI r_5.1),(vI 9)] ⟨rfl,⟨rfl,⟨rfl,trivial⟩⟩⟩)
  ·refine aF rfl hc_8 (aC (ak (ak (kT 2 rfl (wH_coc 2 0 [(vL Log_.enc r_5.2.2)] rfl rfl (λS hS=>cons_eq (hS) (rfl)) (ax (aO 0 0 il ft sz26 ag26 rfl rfl (vL Log_.enc r_5.2.2) rfl wz ?_)))))))
   obtain ⟨r_9,hr_10,hF⟩:=bind_some hF
   refine ay (mD hr_10) rfl hb7 rfl rfl rfl rfl wz (aa (vI r_9) (af (ai (aa (vI r_9) (aa (vB (r_9 != 0)) (af ?_))))))
   rcases aj hF with⟨hc_11,hF⟩|⟨hc_11,hF⟩
   ·refine aD rfl hc_11 (ai (aa (vI r_9) (aa .nil (aa (vI 0) (aa (vI r_9) (af ?_))))))
    obtain rfl:=ae hF
    exact av (aJ [.nil,(vI 0),(vI r_9)] ⟨rfl,⟨rfl,⟨rfl,trivial⟩⟩⟩)
   ·refine aF rfl hc_11 (aC (ai (aO 0 0 il ft sz26 ag26 rfl rfl (vL Log_.enc r_5.2.2) rfl wz (aa (vL Log_.enc r_5.2.2) (aa (vI 0) (aa (vI 0) (af ?_)))))))
    obtain rfl:=ae hF
    exact av (aJ [(vL Log_.enc r_5.2.2),(vI 0),(vI 0)] ⟨rfl,⟨rfl,⟨rfl,trivial⟩⟩⟩)
end Go.Proofs.YtnfedlledilojaaGreatDoor.Law

