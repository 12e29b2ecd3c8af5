/-
 The machine computes these plain functions (written by a program of ours).
-/
import Derived.Test.YtigdobmllbakiabGreatDoorFacts
import Derived.Test.YtigdobmllbakiabGreatDoorDefs
import Derived.Test.YtigdobmllbakiabGreatDoorPf2
import Derived.Test.YtigdobmllbakiabGreatDoorShelf
open Go Go.Eng Go.Proofs
namespace Go.Proofs.YtigdobmllbakiabGreatDoor.Law
set_option maxRecDepth 100000
set_option linter.unusedVariables false
set_option maxHeartbeats 1000000
theorem mf {l_1:(List Entry)} {r:Int} (hF:fq l_1=some r) :
  FnM Tryz.prog 7 [(vL Entry.enc l_1)] [] (vI r) []:=by
 refine FnM.of_wH ⟨Tryz.prog,28,[],[]⟩ rfl Tryz.func7 rfl rfl (lb_ rfl) (by kernel_rfl) ?_
 unfold fq at hF
 refine aj (aa (vI 0) (ah (au (aj (aa (vL Entry.enc l_1) (dE yf rfl wz (aa (vB (decide ((l_1.length:Int)>200))) (ah ?_))))))))
 rcases ak hF with⟨hc_2,hF⟩|⟨hc_2,hF⟩
 ·refine aD rfl hc_2 (aj (aa (vI 2) (ah ?_)))
  obtain rfl:=ae hF
  exact aB (aM [(vI 2)] ⟨rfl,trivial⟩)
 ·refine aF rfl hc_2 (aC (aj (aa (vS (⟨#[]⟩:ByteArray)) (ah (au (aj (aa (vL Entry.enc l_1) (dE yf rfl wz (aa (vI 0) (ah ?_))))))))))
  obtain ⟨o_11,hj_12,hF⟩:=bind_some hF
  obtain ⟨hn_7,hj_12⟩:=bI hj_12
  refine fH (λ(s_8:ByteArray)=>[]) (λ(s_8:ByteArray)=>[]) (λ(k_3:Nat)=>(λ(s_8:ByteArray)=>[(3,(vS s_8)),(10,(vL Entry.enc l_1)),(11,(vI (l_1.length:Int))),(12,(vI (k_3:Int)))])) (λk x s=>eY k x s) o_11 l_1 (⟨#[]⟩:ByteArray) hj_12 rfl (aN rfl) ?_ ?_
  ·rintro ⟨k_3,l_4,s_8⟩ ⟨hL_10,hD_6⟩
   dsimp only at hL_10 hD_6
   cases l_4 with
   | nil =>
    obtain rfl:=ae hL_10
    refine aj (aa (vB (decide ((k_3:Int)<(l_1.length:Int)))) (ah ?_))
    refine au (aF rfl (drop_nil hD_6) (bM ?_))
    exact bG (s_8) rfl rfl (aN rfl)
   | cons x_5 l_4 =>
    obtain ⟨c_,hc_9,hL_10⟩:=bind_some hL_10
    refine aj (aa (vB (decide ((k_3:Int)<(l_1.length:Int)))) (ah ?_))
    refine au (aD rfl (bQ hD_6) (aC ?_))
    unfold eY at hc_9
    refine au (bg (aj (dJ vF rfl rfl (dB hD_6) rfl wz (bD iw lN rfl (.d (.agg (Entry.enc x_5))) rfl wz (gY 0 (.inl rfl) z39 rfl wz (λn_13=>gK 0 il ft 0 iw rfl rfl (Entry.v x_5) rfl wz (ah (au (aj (aK 0 0 il ft iw lN rfl rfl (.d (.agg (Entry.enc x_5))) rfl wz ?_))))))))))
    obtain ⟨r_14,hr_15,hc_9⟩:=bind_some hc_9
    refine aA (uB hr_15) rfl hb28 rfl rfl rfl rfl wz (aa (vI r_14) (ah (aj (aa (vI r_14) (aa (vB (r_14 != 0)) (ah ?_))))))
    rcases ak hc_9 with⟨hc_16,hc_9⟩|⟨hc_16,hc_9⟩
    ·refine aD rfl hc_16 (aj (aa (vI r_14) (aa (vI r_14) (ah ?_))))
     obtain rfl:=ae hc_9
     obtain rfl:=ae hL_10
     obtain rfl:=ae hF
     exact aB (aM [(vI r_14)] ⟨rfl,trivial⟩)
    ·refine aF rfl hc_16 (aC (au (aj (aL nX rfl 0 rfl wz (aK 0 0 il ft sz9 ag9 rfl rfl (vS x_5.Key) rfl wz (aa (vS s_8) (aa (vB (sLe x_5.Key s_8)) (ah ?_))))))))
     rcases ak hc_9 with⟨hc_17,hc_9⟩|⟨hc_17,hc_9⟩
     ·refine aD rfl hc_17 (aj (aa (vI 7) (ah ?_)))
      obtain rfl:=ae hc_9
      obtain rfl:=ae hL_10
      obtain rfl:=ae hF
      exact aB (aM [(vI 7)] ⟨rfl,trivial⟩)
     ·refine aF rfl hc_17 (aC (ax (aL nX rfl 0 rfl wz (aK 0 0 il ft sz9 ag9 rfl rfl (vS x_5.Key) rfl wz (aa (vS x_5.Key) (ah (ax (gM (bZ hD_6 hn_7) wz rfl (aa (vI ((k_3+1:Nat):Int)) (ah ?_))))))))))
      obtain rfl:=ae hc_9
      exact bK (k_3+1,l_4,x_5.Key) ⟨hL_10,bv hD_6⟩ (ls_ _) rfl (aN rfl)
  ·rintro s_8 ho_ sl_ H_ hp_ hq_
   subst ho_
   refine aU _ hp_ hq_ (aj (aa (vI 0) (ah ?_)))
   obtain rfl:=ae hF
   exact aB (aM [(vI 0)] ⟨rfl,trivial⟩)
theorem iM {x0:ByteArray} {x1:ByteArray} {r:(List ByteArray)} (hF:strings_Split x0 x1=some r) :
  FnM Tryz.prog 56 [(vS x0),(vS x1)] [] (vL eS r) [] :=
 Ii rfl Tryz.strings_Split xk hF
theorem BC {s_1:ByteArray} {r:(List ByteArray)×Bool} (hF:rM s_1=some r) :
  FnM Tryz.prog 30 [(vS s_1)] [] (.tup [(vL eS r.1),(vB r.2)]) []:=by
 refine FnM.of_wH ⟨Tryz.prog,19,[],[]⟩ rfl Tryz.func30 rfl rfl (lb_ rfl) (by kernel_rfl) ?_
 unfold rM at hF
 refine aj (aa .nil (aa (vB false) (ah (aj (aa (vS s_1) ?_)))))
 obtain ⟨r_2,hr_3,hF⟩:=bind_some hF
 refine aA (iM hr_3) rfl IM rfl rfl rfl rfl wz (aa (vL eS r_2) (ah (aj (aa (vL eS r_2) (dE lS rfl wz (aa (vI (w64 ((r_2.length:Int)-1))) (aa (vI (w64 ((r_2.length:Int)-1))) (ah (au (aj (aa (vL eS r_2) (aa (vI (w64 ((r_2.length:Int)-1))) ?_))))))))))))
 obtain ⟨y_4,hy_5,hF⟩:=bind_some hF
 refine dJ fF rfl rfl hy_5 rfl wz (bD sz9 ag9 rfl (vS y_4) rfl wz (aa (vB (sEq y_4 (⟨#[]⟩:ByteArray))) (ah ?_)))
 rcases ak hF with⟨hc_6,hF⟩|⟨hc_6,hF⟩
 ·refine aD rfl hc_6 (aj (aa (vL eS r_2) (aa (vI (w64 ((r_2.length:Int)-1))) ?_)))
  obtain ⟨y_7,hy_8,hF⟩:=bind_some hF
  refine xC lS sz9 (λ_=>rfl) rfl rfl hy_8 wz (aa (vL eS y_7) (aa (vB true) (ah ?_)))
  obtain rfl:=ae hF
  exact aB (aM [(vL eS y_7),(vB true)] ⟨rfl,⟨rfl,trivial⟩⟩)
 ·refine aF rfl hc_6 (aC (aj (aa (vL eS r_2) (aa (vL eS r_2) (aa (vB false) (ah ?_))))))
  obtain rfl:=ae hF
  exact aB (aM [(vL eS r_2),(vB false)] ⟨rfl,⟨rfl,trivial⟩⟩)
theorem lK {s_1:(List ByteArray)} {v_2:ByteArray} {r:Int} (hF:eQ s_1 v_2=some r) :
  FnM Tryz.prog 82 [(vL eS s_1),(vS v_2)] [] (vI r) []:=by
 refine FnM.of_wH ⟨Tryz.prog,19,[],[]⟩ rfl Tryz.func82 rfl rfl (lb_ rfl) (by kernel_rfl) ?_
 unfold eQ at hF
 refine aj (aa (vI 0) (ah (au (aj (aa (vL eS s_1) (dE lS rfl wz (aa (vI 0) (ah ?_))))))))
 obtain ⟨o_11,hj_12,hF⟩:=bind_some hF
 obtain ⟨hn_7,hj_12⟩:=bI hj_12
 refine fH (λ(s_8:Unit)=>[]) (λ(s_8:Unit)=>[]) (λ(k_3:Nat)=>(λ(s_8:Unit)=>[(0,(vL eS s_1)),(1,(vS v_2)),(7,(vI (s_1.length:Int))),(8,(vI (k_3:Int)))])) (λk x s=>dx v_2 k x s) o_11 s_1 () hj_12 rfl (aN rfl) ?_ ?_
 ·rintro ⟨k_3,l_4,s_8⟩ ⟨hL_10,hD_6⟩
  dsimp only at hL_10 hD_6
  cases l_4 with
  | nil =>
   obtain rfl:=ae hL_10
   refine aj (aa (vB (decide ((k_3:Int)<(s_1.length:Int)))) (ah ?_))
   refine au (aF rfl (drop_nil hD_6) (bM ?_))
   exact bG (s_8) rfl rfl (aN rfl)
  | cons x_5 l_4 =>
   obtain ⟨c_,hc_9,hL_10⟩:=bind_some hL_10
   refine aj (aa (vB (decide ((k_3:Int)<(s_1.length:Int)))) (ah ?_))
   refine au (aD rfl (bQ hD_6) (aC ?_))
   unfold dx at hc_9
   refine au (bg (aj (aa (vI (k_3:Int)) (aa (vI (k_3:Int)) (ah (aj (aa (vS v_2) (aa (vL eS s_1) (aa (vI (k_3:Int)) (dJ fF rfl rfl (dB hD_6) rfl wz (bD sz9 ag9 rfl (vS x_5) rfl wz (aa (vB (sEq v_2 x_5)) (ah ?_)))))))))))))
   rcases ak hc_9 with⟨hc_13,hc_9⟩|⟨hc_13,hc_9⟩
   ·refine aD rfl hc_13 (aj (aa (vI (k_3:Int)) (aa (vI (k_3:Int)) (ah ?_))))
    obtain rfl:=ae hc_9
    obtain rfl:=ae hL_10
    obtain rfl:=ae hF
    exact aB (aM [(vI (k_3:Int))] ⟨rfl,trivial⟩)
   ·refine aF rfl hc_13 (aC (ax (gM (bZ hD_6 hn_7) wz rfl (aa (vI ((k_3+1:Nat):Int)) (ah ?_)))))
    obtain rfl:=ae hc_9
    exact bK (k_3+1,l_4,()) ⟨hL_10,bv hD_6⟩ (ls_ _) rfl (aN rfl)
 ·rintro s_8 ho_ sl_ H_ hp_ hq_
  subst ho_
  refine aU _ hp_ hq_ (aj (aa (vI (-1)) (ah ?_)))
  obtain rfl:=ae hF
  exact aB (aM [(vI (-1))] ⟨rfl,trivial⟩)
theorem dF {s_1:(List ByteArray)} {v_2:ByteArray} {r:Bool} (hF:bu s_1 v_2=some r) :
  FnM Tryz.prog 61 [(vL eS s_1),(vS v_2)] [] (vB r) []:=by
 refine FnM.of_wH ⟨Tryz.prog,9,[],[]⟩ rfl Tryz.func61 rfl rfl (lb_ rfl) (by kernel_rfl) ?_
 unfold bu at hF
 refine aj (aa (vB false) (ah (aj (aa (vL eS s_1) (aa (vS v_2) ?_)))))
 obtain ⟨r_3,hr_4,hF⟩:=bind_some hF
 refine aA (lK hr_4) rfl hb82 rfl rfl rfl rfl wz (aa (vB (decide (r_3>=0))) (aa (vB (decide (r_3>=0))) (ah ?_)))
 obtain rfl:=ae hF
 exact aB (aM [(vB (decide (r_3>=0)))] ⟨rfl,trivial⟩)
theorem BJ {s_1:ByteArray} {r:(List ByteArray)×Bool} (hF:mJ s_1=some r) :
  FnM Tryz.prog 57 [(vS s_1)] [] (.tup [(vL eS r.1),(vB r.2)]) []:=by
 refine FnM.of_wH ⟨Tryz.prog,11,[],[]⟩ rfl Tryz.func57 rfl rfl (lb_ rfl) (by kernel_rfl) ?_
 unfold mJ at hF
 refine aj (aa .nil (aa (vB false) (ah (aj (aa (vS s_1) ?_)))))
 obtain ⟨r_2,hr_3,hF⟩:=bind_some hF
 refine aA (iM hr_3) rfl IM rfl rfl rfl rfl wz (aa (vL eS r_2) (ah (aj (aa (vL eS r_2) (aa (vL eS r_2) ?_)))))
 obtain ⟨r_4,hr_5,hF⟩:=bind_some hF
 refine aA (dF hr_5) rfl hb61 rfl rfl rfl rfl wz (aa (vB (!r_4)) (aa (vL eS r_2) (aa (vB (!r_4)) (ah ?_))))
 obtain rfl:=ae hF
 exact aB (aM [(vL eS r_2),(vB (!r_4))] ⟨rfl,⟨rfl,trivial⟩⟩)
theorem kw {s_1:ByteArray} {prefixv_2:ByteArray} {r:Bool} (hF:dh s_1 prefixv_2=some r) :
  FnM Tryz.prog 108 [(vS s_1),(vS prefixv_2)] [] (vB r) []:=by
 refine FnM.of_wH ⟨Tryz.prog,18,[],[]⟩ rfl Tryz.func108 rfl rfl (lb_ rfl) (by kernel_rfl) ?_
 unfold dh at hF
 refine aj (aa (vB false) (ah (au ?_)))
 obtain ⟨v_3,h_4,hF⟩:=bind_some hF
 refine aW [(4,(vB v_3))] [] ?_ ?_
 ·refine ax (aa (vS s_1) (jc un9 rfl wz (aa (vS prefixv_2) (jc un9 rfl wz (aa (vB (decide ((s_1.size:Int)>=(prefixv_2.size:Int)))) ?_)))))
  rcases ak h_4 with⟨hc_5,h_4⟩|⟨hc_5,h_4⟩
  ·refine ay rfl hc_5 wz (aG (vS s_1) wa rfl (aG (vS prefixv_2) wa rfl (jc un9 rfl wa ?_)))
   obtain ⟨y_6,hy_7,h_4⟩:=bind_some h_4
   refine iL un9 rfl rfl hy_7 wa (aG (vS prefixv_2) wa rfl (aG (vB (sEq y_6 prefixv_2)) wa rfl (aa (vB (sEq y_6 prefixv_2)) (aa (vB (sEq y_6 prefixv_2)) (ah ?_)))))
   obtain rfl:=ae h_4
   exact cu
  ·refine ay rfl hc_5 wz (af (af (af (af (af (af (aa (vB false) (aa (vB false) (ah ?_)))))))))
   obtain rfl:=ae h_4
   exact cu
 ·rintro ⟨⟩ _ sl_ H_ hp_ hq_
  refine aU _ hp_ hq_ ?_
  obtain rfl:=ae hF
  exact aB (aM [(vB v_3)] ⟨rfl,trivial⟩)
theorem jY {s_1:ByteArray} {prefixv_2:ByteArray} {r:ByteArray} (hF:cz s_1 prefixv_2=some r) :
  FnM Tryz.prog 98 [(vS s_1),(vS prefixv_2)] [] (vS r) []:=by
 refine FnM.of_wH ⟨Tryz.prog,13,[],[]⟩ rfl Tryz.func98 rfl rfl (lb_ rfl) (by kernel_rfl) ?_
 unfold cz at hF
 refine aj (aa (vS (⟨#[]⟩:ByteArray)) (ah (au (aj (aa (vS s_1) (aa (vS prefixv_2) ?_))))))
 obtain ⟨r_3,hr_4,hF⟩:=bind_some hF
 refine aA (kw hr_4) rfl hb108 rfl rfl rfl rfl wz (ah ?_)
 rcases ak hF with⟨hc_5,hF⟩|⟨hc_5,hF⟩
 ·refine aD rfl hc_5 (aj (aa (vS s_1) (aa (vS prefixv_2) (jc un9 rfl wz ?_))))
  obtain ⟨y_6,hy_7,hF⟩:=bind_some hF
  refine jl un9 rfl rfl hy_7 wz (aa (vS y_6) (ah ?_))
  obtain rfl:=ae hF
  exact aB (aM [(vS y_6)] ⟨rfl,trivial⟩)
 ·refine aF rfl hc_5 (aC (aj (aa (vS s_1) (aa (vS s_1) (ah ?_)))))
  obtain rfl:=ae hF
  exact aB (aM [(vS s_1)] ⟨rfl,trivial⟩)
theorem kK {s_1:ByteArray} {prefixv_2:ByteArray} {r:ByteArray} (hF:strings_TrimPrefix s_1 prefixv_2=some r) :
  FnM Tryz.prog 83 [(vS s_1),(vS prefixv_2)] [] (vS r) []:=by
 refine FnM.of_wH ⟨Tryz.prog,8,[],[]⟩ rfl Tryz.func83 rfl rfl (lb_ rfl) (by kernel_rfl) ?_
 unfold strings_TrimPrefix at hF
 refine aj (aa (vS (⟨#[]⟩:ByteArray)) (ah (aj (aa (vS s_1) (aa (vS prefixv_2) ?_)))))
 obtain ⟨r_3,hr_4,hF⟩:=bind_some hF
 refine aA (jY hr_4) rfl hb98 rfl rfl rfl rfl wz (aa (vS r_3) (ah ?_))
 obtain rfl:=ae hF
 exact aB (aM [(vS r_3)] ⟨rfl,trivial⟩)
theorem strconv_Atoi_ok {x0:ByteArray} {r:Int} (hF:strconv_Atoi x0=some r) :
  FnM Tryz.prog 84 [(.d (.str x0))] [] (.tup [(.d (.int .i64 r)),.nili]) [] :=
 atoi_ok rfl Tryz.strconv_Atoi hF
theorem zL {s_1:ByteArray} {most_2:Int} {r:Int×Bool} (hF:jU s_1 most_2=some r) :
  FnM Tryz.prog 97 [(vS s_1),(vI most_2)] [] (.tup [(vI r.1),(vB r.2)]) []:=by
 refine FnM.of_wH ⟨Tryz.prog,53,[],[]⟩ rfl Tryz.func97 rfl rfl (lb_ rfl) (by kernel_rfl) ?_
 unfold jU at hF
 refine aj (aa (vI 0) (aa (vB false) (ah (aj (aa (vS s_1) ?_)))))
 obtain ⟨r_3,hr_4,hF⟩:=bind_some hF
 refine aA (kK hr_4) rfl hb83 rfl rfl rfl rfl wz (aa (vS r_3) (ah (au (au ?_))))
 obtain ⟨v_5,h_6,hF⟩:=bind_some hF
 refine aW [(0,(vS s_1)),(6,(vS r_3)),(28,(vB v_5))] [] ?_ ?_
 ·refine ax (aa (vS r_3) (aa (vB (sEq r_3 (⟨#[]⟩:ByteArray))) ?_))
  rcases ak h_6 with⟨hc_7,h_6⟩|⟨hc_7,h_6⟩
  ·refine ay rfl hc_7 wz (af (af (af (af (aa (vB true) (aa (vB true) (af (af (af (af (aY (wn rfl rfl) (aY (wn rfl rfl) (af (aa (vB true) (ah ?_)))))))))))))))
   obtain rfl:=ae h_6
   exact cu
  ·refine ay rfl hc_7 wz (aG (vS r_3) wa rfl (jc un9 rfl wa (aG (vI most_2) wa rfl (aG (vB (decide ((r_3.size:Int)>most_2))) wa rfl (aa (vB (decide ((r_3.size:Int)>most_2))) ?_)))))
   rcases ak h_6 with⟨hc_8,h_6⟩|⟨hc_8,h_6⟩
   ·refine ay rfl hc_8 wz (af (af (af (af (aY (wn rfl rfl) (aY (wn rfl rfl) (af (aa (vB true) (ah ?_)))))))))
    obtain rfl:=ae h_6
    exact cu
   ·refine ay rfl hc_8 wz (aG (vS r_3) wa rfl ?_)
    obtain ⟨b_9,hy_10,h_6⟩:=bind_some h_6
    refine sH un9 rfl rfl hy_10 wa (aG (vB ((b_9.toNat:Int)==48)) wa rfl ?_)
    rcases ak h_6 with⟨hc_11,h_6⟩|⟨hc_11,h_6⟩
    ·refine ay rfl hc_11 wa (aG (vS s_1) wa rfl (aG (vB (sNe s_1 (⟨#[48]⟩:ByteArray))) wa rfl (aG (vB (sNe s_1 (⟨#[48]⟩:ByteArray))) wa rfl (aa (vB (sNe s_1 (⟨#[48]⟩:ByteArray))) (ah ?_)))))
     obtain rfl:=ae h_6
     exact cu
    ·refine ay rfl hc_11 wa (af (af (aG (vB false) wa rfl (aa (vB false) (ah ?_)))))
     obtain rfl:=ae h_6
     exact cu
 ·rintro ⟨⟩ _ sl_ H_ hp_ hq_
  refine aU _ hp_ hq_ ?_
  rcases ak hF with⟨hc_12,hF⟩|⟨hc_12,hF⟩
  ·refine aD rfl hc_12 (aj (aa (vI 0) (aa (vB false) (ah ?_))))
   obtain rfl:=ae hF
   exact aB (aM [(vI 0),(vB false)] ⟨rfl,⟨rfl,trivial⟩⟩)
  ·refine aF rfl hc_12 (aC (au (aj (aa (vI 0) (ah ?_)))))
   obtain ⟨o_21,hj_22,hF⟩:=bind_some hF
   obtain ⟨nq_34,hj_22⟩:=nz hj_22
   refine vO (λ(s_18:Int)=>[(0,(vS s_1))]) (λ(s_18:Int)=>[]) (λ(k_13:Nat)=>(λ(s_18:Int)=>[(0,(vS s_1)),(6,(vS r_3)),(7,(vI s_18))])) (λs=>fw r_3 s) o_21 nq_34 0 hj_22 rfl (aN rfl) ?_ ?_
   ·rintro ⟨k_13,s_18⟩ hL_20
    dsimp only at hL_20
    cases k_13 with
    | zero=>cases hL_20
    | succ k_13 =>
     obtain ⟨c_,hc_19,hL_20⟩:=bind_some hL_20
     unfold fw at hc_19
     refine au (aj (aa (vI s_18) (aa (vS r_3) (jc un9 rfl wz (aa (vB (decide (s_18<(r_3.size:Int)))) (ah ?_))))))
     rcases ak hc_19 with⟨hc_23,hc_19⟩|⟨hc_23,hc_19⟩
     ·refine aD rfl hc_23 (aC (au (bg (au ?_))))
      obtain ⟨v_24,h_25,hc_19⟩:=bind_some hc_19
      refine aW [(0,(vS s_1)),(6,(vS r_3)),(7,(vI s_18)),(44,(vB v_24))] [] ?_ ?_
      ·refine ax (aa (vS r_3) (aa (vI s_18) ?_))
       obtain ⟨b_26,hy_27,h_25⟩:=bind_some h_25
       refine sH un9 rfl rfl hy_27 wz (aa (vB (decide ((b_26.toNat:Int)<48))) ?_)
       rcases ak h_25 with⟨hc_28,h_25⟩|⟨hc_28,h_25⟩
       ·refine ay rfl hc_28 wz (af (af (af (af (aa (vB true) (ah ?_))))))
        obtain rfl:=ae h_25
        exact cu
       ·refine ay rfl hc_28 wz (aG (vS r_3) wa rfl (aG (vI s_18) wa rfl ?_))
        obtain ⟨b_29,hy_30,h_25⟩:=bind_some h_25
        refine sH un9 rfl rfl hy_30 wa (aG (vB (decide ((b_29.toNat:Int)>57))) wa rfl (aa (vB (decide ((b_29.toNat:Int)>57))) (ah ?_)))
        obtain rfl:=ae h_25
        exact cu
      ·rintro ⟨⟩ _ sl_ H_ hp_ hq_
       refine aU _ hp_ hq_ ?_
       rcases ak hc_19 with⟨hc_31,hc_19⟩|⟨hc_31,hc_19⟩
       ·refine aD rfl hc_31 (aj (aa (vI 0) (aa (vB false) (ah ?_))))
        obtain rfl:=ae hc_19
        obtain rfl:=ae hL_20
        obtain rfl:=ae hF
        exact aB (aM [(vI 0),(vB false)] ⟨rfl,⟨rfl,trivial⟩⟩)
       ·refine aF rfl hc_31 (aC (ax (aa (vI s_18) (aa (vI (w64 (s_18+1))) (aa (vI (w64 (s_18+1))) (ah ?_))))))
        obtain rfl:=ae hc_19
        exact bK (k_13,(w64 (s_18+1))) hL_20 (ls_ _) rfl (aN rfl)
     ·refine aF rfl hc_23 (bM ?_)
      obtain rfl:=ae hc_19
      obtain rfl:=ae hL_20
      exact bG (s_18) rfl rfl (aN rfl)
   ·rintro s_18 ho_ sl_ H_ hp_ hq_
    subst ho_
    refine aU _ hp_ hq_ (aj (aa (vS s_1) ?_))
    obtain ⟨r_32,hr_33,hF⟩:=bind_some hF
    refine aA (strconv_Atoi_ok hr_33) rfl hb84 rfl rfl rfl rfl wz (aa (.tup [(vI r_32),.nili]) (aa (vI r_32) (aa .nili (aa (vI r_32) (aa .nili (ah (au (eB (aa (vI r_32) (aa .nili (h_ieq if58 rfl rfl rfl wz (aa (vI r_32) (aa (vB true) (ah ?_))))))))))))))
    obtain rfl:=ae hF
    exact aB (aM [(vI r_32),(vB true)] ⟨rfl,⟨rfl,trivial⟩⟩)
theorem A9 {s_1:ByteArray} {r:Int×Bool} (hF:kT s_1=some r) :
  FnM Tryz.prog 80 [(vS s_1)] [] (.tup [(vI r.1),(vB r.2)]) []:=by
 refine FnM.of_wH ⟨Tryz.prog,8,[],[]⟩ rfl Tryz.func80 rfl rfl (lb_ rfl) (by kernel_rfl) ?_
 unfold kT at hF
 refine aj (aa (vI 0) (aa (vB false) (ah (aj (aa (vS s_1) ?_)))))
 obtain ⟨r_2,hr_3,hF⟩:=bind_some hF
 refine aA (zL hr_3) rfl hb97 rfl rfl rfl rfl wz (aa (vI r_2.1) (aa (vB r_2.2) (aa (vI r_2.1) (aa (vB r_2.2) (ah ?_)))))
 obtain rfl:=ae hF
 exact aB (aM [(vI r_2.1),(vB r_2.2)] ⟨rfl,⟨rfl,trivial⟩⟩)
theorem qI {l_1:(List ByteArray)} {r:(List Int)×Bool} (hF:iO l_1=some r) :
  FnM Tryz.prog 58 [(vL eS l_1)] [] (.tup [(vL eI r.1),(vB r.2)]) []:=by
 refine FnM.of_wH ⟨Tryz.prog,28,[],[]⟩ rfl Tryz.func58 rfl rfl (lb_ rfl) (by kernel_rfl) ?_
 unfold iO at hF
 refine aj (aa .nil (aa (vB false) (ah (aj (aa .nil (ah (au (aj (aa (vL eS l_1) (dE lS rfl wz (aa (vI 0) (ah (jZ (λn_8 => ?_))))))))))))))
 obtain ⟨o_13,hj_14,hF⟩:=bind_some hF
 obtain ⟨hn_6,hj_14⟩:=bI hj_14
 refine iq (σ:=(List Int)) (N:=Nm) (λp=>(λ(s_7:List Int) (n_10:Nm)=>([(4,(gV n_10 1 s_7))]:SL_)) p.1 p.2) (λp=>(λ(s_7:List Int) (n_10:Nm)=>([(n_10,gB 1 eI s_7)]:Hp)) p.1 p.2) (λ(k_2:Nat)=>(λp=>(λ(s_7:List Int) (n_10:Nm)=>([(4,(gV n_10 1 s_7)),(9,(vL eS l_1)),(10,(vI (l_1.length:Int))),(11,(vI (k_2:Int)))]:SL_)) p.1 p.2)) (λk x s=>bR k x s) o_13 l_1 (([]:List Int),n_8) hj_14 rfl (aN rfl) ?_ ?_
 ·rintro ⟨k_2,l_3,s_7,n_10⟩ ⟨hL_12,hD_5⟩
  dsimp only at hL_12 hD_5
  cases l_3 with
  | nil =>
   obtain rfl:=ae hL_12
   refine aj (aa (vB (decide ((k_2:Int)<(l_1.length:Int)))) (ah ?_))
   refine au (aF rfl (drop_nil hD_5) (bM ?_))
   exact bG (s_7,n_10) rfl rfl (aN rfl)
  | cons x_4 l_3 =>
   obtain ⟨c_,hc_11,hL_12⟩:=bind_some hL_12
   refine aj (aa (vB (decide ((k_2:Int)<(l_1.length:Int)))) (ah ?_))
   refine au (aD rfl (bQ hD_5) (aC ?_))
   unfold bR at hc_11
   refine au (bg (aj (dJ fF rfl rfl (dB hD_5) rfl wz (bD sz9 ag9 rfl (vS x_4) rfl wz (aa (vS x_4) (ah (aj (aa (vS x_4) ?_))))))))
   obtain ⟨r_15,hr_16,hc_11⟩:=bind_some hc_11
   refine aA (A9 hr_16) rfl hb80 rfl rfl rfl rfl wz (aa (.tup [(vI r_15.1),(vB r_15.2)]) (aa (vI r_15.1) (aa (vB r_15.2) (aa (vI r_15.1) (aa (vB r_15.2) (ah (au (aj (aa (vB r_15.2) (aa (vB (!r_15.2)) (ah ?_)))))))))))
   rcases ak hc_11 with⟨hc_17,hc_11⟩|⟨hc_17,hc_11⟩
   ·refine aD rfl hc_17 (aj (aa .nil (aa (vB false) (ah ?_))))
    obtain rfl:=ae hc_11
    obtain rfl:=ae hL_12
    obtain rfl:=ae hF
    exact aB (aM [.nil,(vB false)] ⟨rfl,⟨rfl,trivial⟩⟩)
   ·refine aF rfl hc_17 (aC (ax (aa (gV n_10 1 s_7) (aa (vI r_15.1) (dw (([r_15.1]:List Int).map eI) eX lq rfl rfl rfl rfl rfl wz ?_)))))
    obtain ⟨a_18,hz_19,hc_11⟩:=bind_some hc_11
    refine jX 0 il ft (i:=0) xw xw sz3 z3 rfl (by decide) by3 (by decide) (λ_=>rfl) rfl rfl rfl hz_19 wz (λn_20=>aa (gV n_20 1 a_18) (ah (ax (gM (bZ hD_5 hn_6) wz rfl (aa (vI ((k_2+1:Nat):Int)) (ah ?_))))))
    obtain rfl:=ae hc_11
    exact bK (k_2+1,l_3,a_18,n_20) ⟨hL_12,bv hD_5⟩ (ls_ _) rfl (aN rfl)
 ·rintro ⟨s_7,n_10⟩ ho_ sl_ H_ hp_ hq_
  subst ho_
  refine aU _ hp_ hq_ (aj (aa (gV n_10 1 s_7) (aa (gV n_10 1 s_7) (aa (vB true) (ah (gD 0 rfl (iK 2 0 rfl rfl (iK 4 0 rfl rfl (iK 27 0 rfl rfl ?_)))))))))
  obtain rfl:=ae hF
  exact aB (aM [(vL eI s_7),(vB true)] ⟨rfl,⟨rfl,trivial⟩⟩)
theorem lF {s_1:ByteArray} {r:(List ByteArray)×Bool} (hF:bS s_1=some r) :
  FnM Tryz.prog 59 [(vS s_1)] [] (.tup [(vL eS r.1),(vB r.2)]) []:=by
 refine FnM.of_wH ⟨Tryz.prog,13,[],[]⟩ rfl Tryz.func59 rfl rfl (lb_ rfl) (by kernel_rfl) ?_
 unfold bS at hF
 refine aj (aa .nil (aa (vB false) (ah (au (aj (aa (vS s_1) (aa (vB (sEq s_1 (⟨#[45]⟩:ByteArray))) (ah ?_))))))))
 rcases ak hF with⟨hc_2,hF⟩|⟨hc_2,hF⟩
 ·refine aD rfl hc_2 (aj (aa .nil (aa (vB true) (ah ?_))))
  obtain rfl:=ae hF
  exact aB (aM [.nil,(vB true)] ⟨rfl,⟨rfl,trivial⟩⟩)
 ·refine aF rfl hc_2 (aC (aj (aa (vS s_1) ?_)))
  obtain ⟨r_3,hr_4,hF⟩:=bind_some hF
  refine aA (iM hr_4) rfl IM rfl rfl rfl rfl wz (aa (vL eS r_3) (ah (aj (aa (vL eS r_3) (aa (vL eS r_3) ?_)))))
  obtain ⟨r_5,hr_6,hF⟩:=bind_some hF
  refine aA (dF hr_6) rfl hb61 rfl rfl rfl rfl wz (aa (vB (!r_5)) (aa (vL eS r_3) (aa (vB (!r_5)) (ah ?_))))
  obtain rfl:=ae hF
  exact aB (aM [(vL eS r_3),(vB (!r_5))] ⟨rfl,⟨rfl,trivial⟩⟩)
theorem qj {line_1:ByteArray} {r:Entry×Bool} (hF:bX line_1=some r) :
  FnM Tryz.prog 31 [(vS line_1)] [] (.tup [(.d (.agg (Entry.enc r.1))),(vB r.2)]) []:=by
 refine FnM.of_wH ⟨Tryz.prog,116,[],[]⟩ rfl Tryz.func31 rfl rfl (lb_ rfl) (by kernel_rfl) ?_
 unfold bX at hF
 refine aj (gY 0 (.inl rfl) z39 rfl wz (λn_2=>aa (vB false) (ah (aj (aa (vS line_1) ?_)))))
 obtain ⟨r_3,hr_4,hF⟩:=bind_some hF
 refine aA (BJ hr_4) rfl hb57 rfl rfl rfl rfl wz (aa (.tup [(vL eS r_3.1),(vB r_3.2)]) (aa (vL eS r_3.1) (aa (vB r_3.2) (aa (vL eS r_3.1) (aa (vB r_3.2) (ah (au (au ?_))))))))
 obtain ⟨v_5,h_6,hF⟩:=bind_some hF
 refine aW [(2,(.ref n_2 0 0)),(4,(vL eS r_3.1)),(37,(vB v_5))] [(n_2,some (.cells 13 [(vS (⟨#[]⟩:ByteArray)),(vS (⟨#[]⟩:ByteArray)),(vI 0),(vI 0),(vI 0),(vI 0),(vI 0),.nil,(vI 0),(vI 0),(vI 0),.nil,(vB false)]))] ?_ ?_
 ·refine ax (aa (vB r_3.2) (aa (vB (!r_3.2)) ?_))
  rcases ak h_6 with⟨hc_7,h_6⟩|⟨hc_7,h_6⟩
  ·refine ay rfl hc_7 wz (af (af (af (aa (vB true) (aa (vB true) (af (af (af (af (af (aY (wn rfl rfl) (aY (wn rfl rfl) (aY (wn rfl rfl) (aY (wn rfl rfl) (af (aa (vB true) (ah ?_)))))))))))))))))
   obtain rfl:=ae h_6
   exact cu
  ·refine ay rfl hc_7 wz (aG (vL eS r_3.1) wa rfl (dE lS rfl wa (aG (vB ((r_3.1.length:Int) != 13)) wa rfl (aa (vB ((r_3.1.length:Int) != 13)) ?_))))
   rcases ak h_6 with⟨hc_8,h_6⟩|⟨hc_8,h_6⟩
   ·refine ay rfl hc_8 wz (af (af (af (af (af (aY (wn rfl rfl) (aY (wn rfl rfl) (aY (wn rfl rfl) (aY (wn rfl rfl) (af (aa (vB true) (ah ?_))))))))))))
    obtain rfl:=ae h_6
    exact cu
   ·refine ay rfl hc_8 wz (aG (vL eS r_3.1) wa rfl ?_)
    obtain ⟨y_9,hy_10,h_6⟩:=bind_some h_6
    refine dJ fF rfl rfl hy_10 rfl wa (bD sz9 ag9 rfl (vS y_9) rfl wa (aG (vB (sNe y_9 (⟨#[111,110]⟩:ByteArray))) wa rfl ?_))
    rcases ak h_6 with⟨hc_11,h_6⟩|⟨hc_11,h_6⟩
    ·refine ay rfl hc_11 wa (aG (vL eS r_3.1) wa rfl ?_)
     obtain ⟨y_12,hy_13,h_6⟩:=bind_some h_6
     refine dJ fF rfl rfl hy_13 rfl wa (bD sz9 ag9 rfl (vS y_12) rfl wa (aG (vB (sNe y_12 (⟨#[103,111,110,101]⟩:ByteArray))) wa rfl (aG (vB (sNe y_12 (⟨#[103,111,110,101]⟩:ByteArray))) wa rfl (aa (vB (sNe y_12 (⟨#[103,111,110,101]⟩:ByteArray))) (ah ?_)))))
     obtain rfl:=ae h_6
     exact cu
    ·refine ay rfl hc_11 wa (af (af (af (af (aG (vB false) wa rfl (aa (vB false) (ah ?_)))))))
     obtain rfl:=ae h_6
     exact cu
 ·rintro ⟨⟩ _ sl_ H_ hp_ hq_
  refine aU _ hp_ hq_ ?_
  rcases ak hF with⟨hc_14,hF⟩|⟨hc_14,hF⟩
  ·refine aD rfl hc_14 (aj (aG (.agg [(vS (⟨#[]⟩:ByteArray)),(vS (⟨#[]⟩:ByteArray)),(vI 0),(vI 0),(vI 0),(vI 0),(vI 0),.nil,(vI 0),(vI 0),(vI 0),.nil,(vB false)]) wz (by kernel_rfl) (gK 0 il ft 0 iw rfl rfl [(vS (⟨#[]⟩:ByteArray)),(vS (⟨#[]⟩:ByteArray)),(vI 0),(vI 0),(vI 0),(vI 0),(vI 0),.nil,(vI 0),(vI 0),(vI 0),.nil,(vB false)] rfl wz (aa (vB false) (ah ?_)))))
   obtain rfl:=ae hF
   exact aB (aM [(.agg [(vS (⟨#[]⟩:ByteArray)),(vS (⟨#[]⟩:ByteArray)),(vI 0),(vI 0),(vI 0),(vI 0),(vI 0),.nil,(vI 0),(vI 0),(vI 0),.nil,(vB false)]),(vB false)] ⟨⟨0,_,_,_,_,_,_,_,rfl,rfl,iw,lN,rfl⟩,⟨rfl,trivial⟩⟩)
  ·refine aF rfl hc_14 (aC (aj (aa (vL eS r_3.1) ?_)))
   obtain ⟨y_15,hy_16,hF⟩:=bind_some hF
   refine qO lS sz9 (λ_=>rfl) rfl rfl rfl hy_16 wz ?_
   obtain ⟨r_17,hr_18,hF⟩:=bind_some hF
   refine aA (qI hr_18) rfl hb58 rfl rfl rfl rfl wz (aa (.tup [(vL eI r_17.1),(vB r_17.2)]) (aa (vL eI r_17.1) (aa (vB r_17.2) (aa (vL eI r_17.1) (aa (vB r_17.2) (ah (aj (aa (vL eS r_3.1) ?_))))))))
   obtain ⟨y_19,hy_20,hF⟩:=bind_some hF
   refine dJ fF rfl rfl hy_20 rfl wz (bD sz9 ag9 rfl (vS y_19) rfl wz ?_)
   obtain ⟨r_21,hr_22,hF⟩:=bind_some hF
   refine aA (lF hr_22) rfl hb59 rfl rfl rfl rfl wz (aa (.tup [(vL eS r_21.1),(vB r_21.2)]) (aa (vL eS r_21.1) (aa (vB r_21.2) (aa (vL eS r_21.1) (aa (vB r_21.2) (ah (aj (aa (vL eS r_21.1) ?_))))))))
   obtain ⟨r_23,hr_24,hF⟩:=bind_some hF
   refine aA (qI hr_24) rfl hb58 rfl rfl rfl rfl wz (aa (.tup [(vL eI r_23.1),(vB r_23.2)]) (aa (vL eI r_23.1) (aa (vB r_23.2) (aa (vL eI r_23.1) (aa (vB r_23.2) (ah (aj (aa (vL eS r_3.1) ?_))))))))
   obtain ⟨y_25,hy_26,hF⟩:=bind_some hF
   refine dJ fF rfl rfl hy_26 rfl wz (bD sz9 ag9 rfl (vS y_25) rfl wz ?_)
   obtain ⟨r_27,hr_28,hF⟩:=bind_some hF
   refine aA (lF hr_28) rfl hb59 rfl rfl rfl rfl wz (aa (.tup [(vL eS r_27.1),(vB r_27.2)]) (aa (vL eS r_27.1) (aa (vB r_27.2) (aa (vL eS r_27.1) (aa (vB r_27.2) (ah (aU (H0:=([(n_2,some (.cells 13 [(vS (⟨#[]⟩:ByteArray)),(vS (⟨#[]⟩:ByteArray)),(vI 0),(vI 0),(vI 0),(vI 0),(vI 0),.nil,(vI 0),(vI 0),(vI 0),.nil,(vB false)]))]:Hp)) ([(2,(.ref n_2 0 0)),(4,(vL eS r_3.1)),(6,(vL eI r_17.1)),(7,(vB r_17.2)),(9,(vB r_21.2)),(10,(vL eI r_23.1)),(11,(vB r_23.2)),(12,(vL eS r_27.1)),(13,(vB r_27.2))]:SL_) (by kernel_rfl) (pJ (by kernel_rfl)) (au (au ?_)))))))))
   obtain ⟨v_29,h_30,hF⟩:=bind_some hF
   refine aW [(2,(.ref n_2 0 0)),(4,(vL eS r_3.1)),(6,(vL eI r_17.1)),(10,(vL eI r_23.1)),(12,(vL eS r_27.1)),(77,(vB v_29))] [(n_2,some (.cells 13 [(vS (⟨#[]⟩:ByteArray)),(vS (⟨#[]⟩:ByteArray)),(vI 0),(vI 0),(vI 0),(vI 0),(vI 0),.nil,(vI 0),(vI 0),(vI 0),.nil,(vB false)]))] ?_ ?_
   ·refine ax (aa (vB r_17.2) (aa (vB (!r_17.2)) ?_))
    rcases ak h_30 with⟨hc_31,h_30⟩|⟨hc_31,h_30⟩
    ·refine ay rfl hc_31 wz (af (af (aa (vB true) (aa (vB true) (af (af (aa (vB true) (aa (vB true) (af (af (aa (vB true) (ah ?_))))))))))))
     obtain rfl:=ae h_30
     exact cu
    ·refine ay rfl hc_31 wz (aG (vB r_21.2) wa rfl (aG (vB (!r_21.2)) wa rfl (aa (vB (!r_21.2)) ?_)))
     rcases ak h_30 with⟨hc_32,h_30⟩|⟨hc_32,h_30⟩
     ·refine ay rfl hc_32 wz (af (af (aa (vB true) (aa (vB true) (af (af (aa (vB true) (ah ?_))))))))
      obtain rfl:=ae h_30
      exact cu
     ·refine ay rfl hc_32 wz (aG (vB r_23.2) wa rfl (aG (vB (!r_23.2)) wa rfl (aa (vB (!r_23.2)) ?_)))
      rcases ak h_30 with⟨hc_33,h_30⟩|⟨hc_33,h_30⟩
      ·refine ay rfl hc_33 wz (af (af (aa (vB true) (ah ?_))))
       obtain rfl:=ae h_30
       exact cu
      ·refine ay rfl hc_33 wz (aG (vB r_27.2) wa rfl (aG (vB (!r_27.2)) wa rfl (aa (vB (!r_27.2)) (ah ?_))))
       obtain rfl:=ae h_30
       exact cu
   ·rintro ⟨⟩ _ sl_ H_ hp_ hq_
    refine aU _ hp_ hq_ ?_
    rcases ak hF with⟨hc_34,hF⟩|⟨hc_34,hF⟩
    ·refine aD rfl hc_34 (aj (aG (.agg [(vS (⟨#[]⟩:ByteArray)),(vS (⟨#[]⟩:ByteArray)),(vI 0),(vI 0),(vI 0),(vI 0),(vI 0),.nil,(vI 0),(vI 0),(vI 0),.nil,(vB false)]) wz (by kernel_rfl) (gK 0 il ft 0 iw rfl rfl [(vS (⟨#[]⟩:ByteArray)),(vS (⟨#[]⟩:ByteArray)),(vI 0),(vI 0),(vI 0),(vI 0),(vI 0),.nil,(vI 0),(vI 0),(vI 0),.nil,(vB false)] rfl wz (aa (vB false) (ah ?_)))))
     obtain rfl:=ae hF
     exact aB (aM [(.agg [(vS (⟨#[]⟩:ByteArray)),(vS (⟨#[]⟩:ByteArray)),(vI 0),(vI 0),(vI 0),(vI 0),(vI 0),.nil,(vI 0),(vI 0),(vI 0),.nil,(vB false)]),(vB false)] ⟨⟨0,_,_,_,_,_,_,_,rfl,rfl,iw,lN,rfl⟩,⟨rfl,trivial⟩⟩)
    ·refine aF rfl hc_34 (aC (au (eB (aa (vL eS r_3.1) ?_))))
     obtain ⟨y_35,hy_36,hF⟩:=bind_some hF
     refine dJ fF rfl rfl hy_36 rfl wz (bD sz9 ag9 rfl (vS y_35) rfl wz (aa (vL eS r_3.1) ?_))
     obtain ⟨y_37,hy_38,hF⟩:=bind_some hF
     refine dJ fF rfl rfl hy_38 rfl wz (bD sz9 ag9 rfl (vS y_37) rfl wz (aa (vL eI r_17.1) ?_))
     obtain ⟨y_39,hy_40,hF⟩:=bind_some hF
     refine dJ eX rfl rfl hy_40 rfl wz (bD sz3 ag3 rfl (vI y_39) rfl wz (aa (vL eI r_17.1) ?_))
     obtain ⟨y_41,hy_42,hF⟩:=bind_some hF
     refine dJ eX rfl rfl hy_42 rfl wz (bD sz3 ag3 rfl (vI y_41) rfl wz (aa (vL eI r_17.1) ?_))
     obtain ⟨y_43,hy_44,hF⟩:=bind_some hF
     refine dJ eX rfl rfl hy_44 rfl wz (bD sz3 ag3 rfl (vI y_43) rfl wz (aa (vL eI r_17.1) ?_))
     obtain ⟨y_45,hy_46,hF⟩:=bind_some hF
     refine dJ eX rfl rfl hy_46 rfl wz (bD sz3 ag3 rfl (vI y_45) rfl wz (aa (vL eI r_17.1) ?_))
     obtain ⟨y_47,hy_48,hF⟩:=bind_some hF
     refine dJ eX rfl rfl hy_48 rfl wz (bD sz3 ag3 rfl (vI y_47) rfl wz (aa (vL eI r_17.1) ?_))
     obtain ⟨y_49,hy_50,hF⟩:=bind_some hF
     refine dJ eX rfl rfl hy_50 rfl wz (bD sz3 ag3 rfl (vI y_49) rfl wz (aa (vL eI r_17.1) ?_))
     obtain ⟨y_51,hy_52,hF⟩:=bind_some hF
     refine dJ eX rfl rfl hy_52 rfl wz (bD sz3 ag3 rfl (vI y_51) rfl wz (aa (vL eI r_17.1) ?_))
     obtain ⟨y_53,hy_54,hF⟩:=bind_some hF
     refine dJ eX rfl rfl hy_54 rfl wz (bD sz3 ag3 rfl (vI y_53) rfl wz (aa (vL eS r_3.1) ?_))
     obtain ⟨y_55,hy_56,hF⟩:=bind_some hF
     refine dJ fF rfl rfl hy_56 rfl wz (bD sz9 ag9 rfl (vS y_55) rfl wz (aa (vB (sEq y_55 (⟨#[103,111,110,101]⟩:ByteArray))) (aa (vL eI r_23.1) (aa (vL eS r_27.1) (aG (.d (.agg (Entry.enc (⟨y_35,y_37,y_39,y_41,y_43,y_45,y_47,r_23.1,y_49,y_51,y_53,r_27.1,(sEq y_55 (⟨#[103,111,110,101]⟩:ByteArray))⟩:Entry)))) wz (by kernel_rfl) (gK 37 (.inr (by kernel_rfl)) (λ_ _ ag=>trivial) 0 iw rfl rfl [(vS y_35),(vS y_37),(vI y_39),(vI y_41),(vI y_43),(vI y_45),(vI y_47),(vL eI r_23.1),(vI y_49),(vI y_51),(vI y_53),(vL eS r_27.1),(vB (sEq y_55 (⟨#[103,111,110,101]⟩:ByteArray)))] rfl wz (aa (vB true) (ah (aU (H0:=([(n_2,some (.cells 13 [(vS y_35),(vS y_37),(vI y_39),(vI y_41),(vI y_43),(vI y_45),(vI y_47),(vL eI r_23.1),(vI y_49),(vI y_51),(vI y_53),(vL eS r_27.1),(vB (sEq y_55 (⟨#[103,111,110,101]⟩:ByteArray)))]))]:Hp)) ([(2,(.ref n_2 0 0)),(3,(vB true))]:SL_) (by kernel_rfl) (pJ (by kernel_rfl)) ?_)))))))))
     obtain rfl:=ae hF
     exact aB (aM [(.d (.agg (Entry.enc (⟨y_35,y_37,y_39,y_41,y_43,y_45,y_47,r_23.1,y_49,y_51,y_53,r_27.1,(sEq y_55 (⟨#[103,111,110,101]⟩:ByteArray))⟩:Entry)))),(vB true)] ⟨⟨0,_,_,_,_,_,_,_,rfl,rfl,iw,lN,rfl⟩,⟨rfl,trivial⟩⟩)
theorem vE {text_1:ByteArray} {r:(List Entry)×Int×Int} (hF:ja text_1=some r) :
  FnM Tryz.prog 9 [(vS text_1)] [] (.tup [(vL Entry.enc r.1),(vI r.2.1),(vI r.2.2)]) []:=by
 refine FnM.of_wH ⟨Tryz.prog,58,[],[]⟩ rfl Tryz.func9 rfl rfl (lb_ rfl) (by kernel_rfl) ?_
 unfold ja at hF
 refine aj (aa .nil (aa (vI 0) (aa (vI 0) (ah (au (aj (aa (vS text_1) (jc un9 rfl wz (aa (vB (decide ((text_1.size:Int)>200000))) (ah ?_))))))))))
 rcases ak hF with⟨hc_2,hF⟩|⟨hc_2,hF⟩
 ·refine aD rfl hc_2 (aj (aa .nil (aa (vI 0) (aa (vI 2) (ah ?_)))))
  obtain rfl:=ae hF
  exact aB (aM [.nil,(vI 0),(vI 2)] ⟨rfl,⟨rfl,⟨rfl,trivial⟩⟩⟩)
 ·refine aF rfl hc_2 (aC (aj (aa (vS text_1) ?_)))
  obtain ⟨r_3,hr_4,hF⟩:=bind_some hF
  refine aA (BC hr_4) rfl hb30 rfl rfl rfl rfl wz (aa (.tup [(vL eS r_3.1),(vB r_3.2)]) (aa (vL eS r_3.1) (aa (vB r_3.2) (aa (vL eS r_3.1) (aa (vB r_3.2) (ah (aj (aa .nil (ah (au (aj (aa (vL eS r_3.1) (dE lS rfl wz (aa (vI 0) (ah (jZ (λn_11 => ?_)))))))))))))))))
  obtain ⟨o_16,hj_17,hF⟩:=bind_some hF
  obtain ⟨hn_9,hj_17⟩:=bI hj_17
  refine iq (σ:=(List Entry)) (N:=Nm) (λp=>(λ(s_10:List Entry) (n_13:Nm)=>([(7,(gV n_13 13 s_10))]:SL_)) p.1 p.2) (λp=>(λ(s_10:List Entry) (n_13:Nm)=>([(n_13,gB 13 Entry.enc s_10)]:Hp)) p.1 p.2) (λ(k_5:Nat)=>(λp=>(λ(s_10:List Entry) (n_13:Nm)=>([(5,(vL eS r_3.1)),(6,(vB r_3.2)),(7,(gV n_13 13 s_10)),(21,(vL eS r_3.1)),(22,(vI (r_3.1.length:Int))),(23,(vI (k_5:Int)))]:SL_)) p.1 p.2)) (λk x s=>cK r_3 k x s) o_16 r_3.1 (([]:List Entry),n_11) hj_17 rfl (aN rfl) ?_ ?_
  ·rintro ⟨k_5,l_6,s_10,n_13⟩ ⟨hL_15,hD_8⟩
   dsimp only at hL_15 hD_8
   cases l_6 with
   | nil =>
    obtain rfl:=ae hL_15
    refine aj (aa (vB (decide ((k_5:Int)<(r_3.1.length:Int)))) (ah ?_))
    refine au (aF rfl (drop_nil hD_8) (bM ?_))
    exact bG (s_10,n_13) rfl rfl (aN rfl)
   | cons x_7 l_6 =>
    obtain ⟨c_,hc_14,hL_15⟩:=bind_some hL_15
    refine aj (aa (vB (decide ((k_5:Int)<(r_3.1.length:Int)))) (ah ?_))
    refine au (aD rfl (bQ hD_8) (aC ?_))
    unfold cK at hc_14
    refine au (bg (aj (aa (vI (k_5:Int)) (dJ fF rfl rfl (dB hD_8) rfl wz (bD sz9 ag9 rfl (vS x_7) rfl wz (aa (vI (k_5:Int)) (aa (vS x_7) (ah (aj (aa (vS x_7) ?_))))))))))
    obtain ⟨r_18,hr_19,hc_14⟩:=bind_some hc_14
    refine aA (qj hr_19) rfl hb31 rfl rfl rfl rfl wz (aa (.tup [(.d (.agg (Entry.enc r_18.1))),(vB r_18.2)]) (aa (.d (.agg (Entry.enc r_18.1))) (aa (vB r_18.2) (gY 0 (.inl rfl) z39 rfl wz (λn_20=>gK 0 il ft 1 iw rfl rfl (Entry.v r_18.1) rfl wz (aa (vB r_18.2) (ah (au (au ?_)))))))))
    obtain ⟨v_21,h_22,hc_14⟩:=bind_some hc_14
    refine aW [(5,(vL eS r_3.1)),(6,(vB r_3.2)),(7,(gV n_13 13 s_10)),(8,(vI (k_5:Int))),(10,(.ref n_20 0 0)),(21,(vL eS r_3.1)),(22,(vI (r_3.1.length:Int))),(23,(vI (k_5:Int))),(45,(vB v_21))] [(n_13,gB 13 Entry.enc s_10),(n_20,some (.cells 13 (Entry.v r_18.1)))] ?_ ?_
    ·refine ax (aa (vB r_18.2) (aa (vB (!r_18.2)) ?_))
     rcases ak h_22 with⟨hc_23,h_22⟩|⟨hc_23,h_22⟩
     ·refine ay rfl hc_23 wz (af (af (af (aY (wn rfl rfl) (aY (wn rfl rfl) (aY (wn rfl rfl) (aY (wn rfl rfl) (aY (wn rfl rfl) (af (aa (vB true) (ah ?_)))))))))))
      obtain rfl:=ae h_22
      exact cu
     ·refine ay rfl hc_23 wz (aG (vB r_3.2) wa rfl (aG (vB (!r_3.2)) wa rfl ?_))
      rcases ak h_22 with⟨hc_24,h_22⟩|⟨hc_24,h_22⟩
      ·refine ay rfl hc_24 wa (aG (vI (k_5:Int)) wa rfl (aG (vL eS r_3.1) wa rfl (dE lS rfl wa (aG (vI (w64 ((r_3.1.length:Int)-1))) wa rfl (aG (vB ((k_5:Int)==(w64 ((r_3.1.length:Int)-1)))) wa rfl (aG (vB ((k_5:Int)==(w64 ((r_3.1.length:Int)-1)))) wa rfl (aa (vB ((k_5:Int)==(w64 ((r_3.1.length:Int)-1)))) (ah ?_))))))))
       obtain rfl:=ae h_22
       exact cu
      ·refine ay rfl hc_24 wa (af (af (af (af (af (aG (vB false) wa rfl (aa (vB false) (ah ?_))))))))
       obtain rfl:=ae h_22
       exact cu
    ·rintro ⟨⟩ _ sl_ H_ hp_ hq_
     refine aU _ hp_ hq_ ?_
     rcases ak hc_14 with⟨hc_25,hc_14⟩|⟨hc_25,hc_14⟩
     ·refine aD rfl hc_25 (aj (aa (vI (k_5:Int)) (aa .nil (aa (vI (k_5:Int)) (aa (vI 9) (ah ?_))))))
      obtain rfl:=ae hc_14
      obtain rfl:=ae hL_15
      obtain rfl:=ae hF
      exact aB (aM [.nil,(vI (k_5:Int)),(vI 9)] ⟨rfl,⟨rfl,⟨rfl,trivial⟩⟩⟩)
     ·refine aF rfl hc_25 (aC (ax (aa (gV n_13 13 s_10) (aK 0 1 il ft iw lN rfl rfl (.d (.agg (Entry.enc r_18.1))) rfl wz (dw (([r_18.1]:List Entry).map Entry.enc) vF G7 rfl rfl rfl rfl rfl wz ?_)))))
      obtain ⟨a_26,hz_27,hc_14⟩:=bind_some hc_14
      refine jX 0 il ft (i:=0) BU BU iw z39 rfl (by decide) by39 (by decide) (λ_=>rfl) rfl rfl rfl hz_27 wz (λn_28=>aa (gV n_28 13 a_26) (ah (ax (gM (bZ hD_8 hn_9) wz rfl (aa (vI ((k_5+1:Nat):Int)) (ah ?_))))))
      obtain rfl:=ae hc_14
      exact bK (k_5+1,l_6,a_26,n_28) ⟨hL_15,bv hD_8⟩ (ls_ _) rfl (aN rfl)
  ·rintro ⟨s_10,n_13⟩ ho_ sl_ H_ hp_ hq_
   subst ho_
   refine aU _ hp_ hq_ (au (au (gD 0 rfl (iK 7 0 rfl rfl (ax (aa (vL Entry.enc s_10) ?_))))))
   obtain ⟨r_29,hr_30,hF⟩:=bind_some hF
   refine aA (iA hr_30) rfl hb23 rfl rfl rfl rfl wz (aa (vI r_29) (ah (aj (aa (vI r_29) (aa (vB (r_29 != 0)) (ah ?_))))))
   rcases ak hF with⟨hc_31,hF⟩|⟨hc_31,hF⟩
   ·refine aD rfl hc_31 (aj (aa (vI r_29) (aa .nil (aa (vI 0) (aa (vI r_29) (ah ?_))))))
    obtain rfl:=ae hF
    exact aB (aM [.nil,(vI 0),(vI r_29)] ⟨rfl,⟨rfl,⟨rfl,trivial⟩⟩⟩)
   ·refine aF rfl hc_31 (aC (aj (aa (vL Entry.enc s_10) (aa (vL Entry.enc s_10) (aa (vI 0) (aa (vI 0) (ah ?_)))))))
    obtain rfl:=ae hF
    exact aB (aM [(vL Entry.enc s_10),(vI 0),(vI 0)] ⟨rfl,⟨rfl,⟨rfl,trivial⟩⟩⟩)
theorem Bh {line_1:ByteArray} {r:(List ByteArray)×Bool} (hF:rH line_1=some r) :
  FnM Tryz.prog 34 [(vS line_1)] [] (.tup [(vL eS r.1),(vB r.2)]) []:=by
 refine FnM.of_wH ⟨Tryz.prog,11,[],[]⟩ rfl Tryz.func34 rfl rfl (lb_ rfl) (by kernel_rfl) ?_
 unfold rH at hF
 refine aj (aa .nil (aa (vB false) (ah (aj (aa (vS line_1) ?_)))))
 obtain ⟨r_2,hr_3,hF⟩:=bind_some hF
 refine aA (iM hr_3) rfl IM rfl rfl rfl rfl wz (aa (vL eS r_2) (ah (aj (aa (vL eS r_2) (aa (vL eS r_2) ?_)))))
 obtain ⟨r_4,hr_5,hF⟩:=bind_some hF
 refine aA (dF hr_5) rfl hb61 rfl rfl rfl rfl wz (aa (vB (!r_4)) (aa (vL eS r_2) (aa (vB (!r_4)) (ah ?_))))
 obtain rfl:=ae hF
 exact aB (aM [(vL eS r_2),(vB (!r_4))] ⟨rfl,⟨rfl,trivial⟩⟩)
theorem zQ {s_1:ByteArray} {most_2:Int} {r:Int×Bool} (hF:nG s_1 most_2=some r) :
  FnM Tryz.prog 62 [(vS s_1),(vI most_2)] [] (.tup [(vI r.1),(vB r.2)]) []:=by
 refine FnM.of_wH ⟨Tryz.prog,38,[],[]⟩ rfl Tryz.func62 rfl rfl (lb_ rfl) (by kernel_rfl) ?_
 unfold nG at hF
 refine aj (aa (vI 0) (aa (vB false) (ah (aj (aa (vS s_1) ?_)))))
 obtain ⟨r_3,hr_4,hF⟩:=bind_some hF
 refine aA (kK hr_4) rfl hb83 rfl rfl rfl rfl wz (aa (vS r_3) (ah (au (au ?_))))
 obtain ⟨v_5,h_6,hF⟩:=bind_some hF
 refine aW [(0,(vS s_1)),(23,(vB v_5))] [] ?_ ?_
 ·refine ax (aa (vS r_3) (aa (vB (sEq r_3 (⟨#[]⟩:ByteArray))) ?_))
  rcases ak h_6 with⟨hc_7,h_6⟩|⟨hc_7,h_6⟩
  ·refine ay rfl hc_7 wz (af (af (af (af (aa (vB true) (aa (vB true) (af (af (af (aa (vB true) (ah ?_)))))))))))
   obtain rfl:=ae h_6
   exact cu
  ·refine ay rfl hc_7 wz (aG (vS r_3) wa rfl (jc un9 rfl wa (aG (vI most_2) wa rfl (aG (vB (decide ((r_3.size:Int)>most_2))) wa rfl (aa (vB (decide ((r_3.size:Int)>most_2))) ?_)))))
   rcases ak h_6 with⟨hc_8,h_6⟩|⟨hc_8,h_6⟩
   ·refine ay rfl hc_8 wz (af (af (af (aa (vB true) (ah ?_)))))
    obtain rfl:=ae h_6
    exact cu
   ·refine ay rfl hc_8 wz (aG (vS r_3) wa rfl ?_)
    obtain ⟨r_9,hr_10,h_6⟩:=bind_some h_6
    refine aA (qp hr_10) rfl hb77 rfl rfl rfl rfl wa (aG (vB (!r_9)) wa rfl (aa (vB (!r_9)) (ah ?_)))
    obtain rfl:=ae h_6
    exact cu
 ·rintro ⟨⟩ _ sl_ H_ hp_ hq_
  refine aU _ hp_ hq_ ?_
  rcases ak hF with⟨hc_11,hF⟩|⟨hc_11,hF⟩
  ·refine aD rfl hc_11 (aj (aa (vI 0) (aa (vB false) (ah ?_))))
   obtain rfl:=ae hF
   exact aB (aM [(vI 0),(vB false)] ⟨rfl,⟨rfl,trivial⟩⟩)
  ·refine aF rfl hc_11 (aC (aj (aa (vS s_1) ?_)))
   obtain ⟨r_12,hr_13,hF⟩:=bind_some hF
   refine aA (strconv_Atoi_ok hr_13) rfl hb84 rfl rfl rfl rfl wz (aa (.tup [(vI r_12),.nili]) (aa (vI r_12) (aa .nili (aa (vI r_12) (aa .nili (ah (au ?_)))))))
   obtain ⟨v_14,h_15,hF⟩:=bind_some hF
   refine aW [(4,(vI r_12)),(5,(vB v_14))] [] ?_ ?_
   ·refine ax (aa (vI r_12) (aa .nili (h_ieq if58 rfl rfl rfl wz (aa (vB true) (aG (vI r_12) wa rfl ?_)))))
    obtain ⟨r_16,hr_17,h_15⟩:=bind_some h_15
    refine aA (iY hr_17) rfl hb48 rfl rfl rfl rfl wa (aG (vS s_1) wa rfl (aG (vB (sEq r_16 s_1)) wa rfl (aa (vB (sEq r_16 s_1)) (aa (vI r_12) (aa (vB (sEq r_16 s_1)) (ah ?_))))))
    obtain rfl:=ae h_15
    exact cu
   ·rintro ⟨⟩ _ sl_ H_ hp_ hq_
    refine aU _ hp_ hq_ ?_
    obtain rfl:=ae hF
    exact aB (aM [(vI r_12),(vB v_14)] ⟨rfl,⟨rfl,trivial⟩⟩)
theorem o6 {l_1:(List ByteArray)} {most_2:Int} {r:(List Int)×Bool} (hF:iZ l_1 most_2=some r) :
  FnM Tryz.prog 35 [(vL eS l_1),(vI most_2)] [] (.tup [(vL eI r.1),(vB r.2)]) []:=by
 refine FnM.of_wH ⟨Tryz.prog,35,[],[]⟩ rfl Tryz.func35 rfl rfl (lb_ rfl) (by kernel_rfl) ?_
 unfold iZ at hF
 refine aj (aa .nil (aa (vB false) (ah (aj (aa .nil (ah (aj (aa (vB true) (ah (au (aj (aa (vL eS l_1) (dE lS rfl wz (aa (vI 0) (ah (jZ (λn_9 => ?_)))))))))))))))))
 obtain ⟨o_14,hj_15,hF⟩:=bind_some hF
 obtain ⟨hn_7,hj_15⟩:=bI hj_15
 refine iq (σ:=(List Int)×Bool) (N:=Nm) (λp=>(λ(s_8:(List Int)×Bool) (n_11:Nm)=>([(6,(gV n_11 1 s_8.1)),(7,(vB s_8.2))]:SL_)) p.1 p.2) (λp=>(λ(s_8:(List Int)×Bool) (n_11:Nm)=>([(n_11,gB 1 eI s_8.1)]:Hp)) p.1 p.2) (λ(k_3:Nat)=>(λp=>(λ(s_8:(List Int)×Bool) (n_11:Nm)=>([(1,(vI most_2)),(6,(gV n_11 1 s_8.1)),(7,(vB s_8.2)),(12,(vL eS l_1)),(13,(vI (l_1.length:Int))),(14,(vI (k_3:Int)))]:SL_)) p.1 p.2)) (λk x s=>gq most_2 k x s) o_14 l_1 ((([]:List Int),true),n_9) hj_15 rfl (aN rfl) ?_ ?_
 ·rintro ⟨k_3,l_4,s_8,n_11⟩ ⟨hL_13,hD_6⟩
  dsimp only at hL_13 hD_6
  cases l_4 with
  | nil =>
   obtain rfl:=ae hL_13
   refine aj (aa (vB (decide ((k_3:Int)<(l_1.length:Int)))) (ah ?_))
   refine au (aF rfl (drop_nil hD_6) (bM ?_))
   exact bG (s_8,n_11) rfl rfl (aN rfl)
  | cons x_5 l_4 =>
   obtain ⟨c_,hc_12,hL_13⟩:=bind_some hL_13
   refine aj (aa (vB (decide ((k_3:Int)<(l_1.length:Int)))) (ah ?_))
   refine au (aD rfl (bQ hD_6) (aC ?_))
   unfold gq at hc_12
   refine au (bg (aj (dJ fF rfl rfl (dB hD_6) rfl wz (bD sz9 ag9 rfl (vS x_5) rfl wz (aa (vS x_5) (ah (aj (aa (vS x_5) (aa (vI most_2) ?_)))))))))
   obtain ⟨r_16,hr_17,hc_12⟩:=bind_some hc_12
   refine aA (zQ hr_17) rfl hb62 rfl rfl rfl rfl wz (aa (.tup [(vI r_16.1),(vB r_16.2)]) (aa (vI r_16.1) (aa (vB r_16.2) (aa (vI r_16.1) (aa (vB r_16.2) (ah ?_))))))
   obtain ⟨v_18,h_19,hc_12⟩:=bind_some hc_12
   refine jD (β:=Nm) (λ(n_20:Nm)=>([(1,(vI most_2)),(6,(gV n_20 1 v_18.1)),(7,(vB v_18.2)),(12,(vL eS l_1)),(13,(vI (l_1.length:Int))),(14,(vI (k_3:Int)))]:SL_)) (λ(n_20:Nm)=>([(n_20,gB 1 eI v_18.1)]:Hp)) (λ_=>True) ?_ ?_
   ·refine ax (aa (gV n_11 1 s_8.1) (aa (vI r_16.1) (dw (([r_16.1]:List Int).map eI) eX lq rfl rfl rfl rfl rfl wz ?_)))
    obtain ⟨a_21,hz_22,h_19⟩:=bind_some h_19
    refine jX 0 il ft (i:=0) xw xw sz3 z3 rfl (by decide) by3 (by decide) (λ_=>rfl) rfl rfl rfl hz_22 wz (λn_23=>aa (vB s_8.2) ?_)
    rcases ak h_19 with⟨hc_24,h_19⟩|⟨hc_24,h_19⟩
    ·refine ay rfl hc_24 wz (aG (vB r_16.2) wa rfl (aa (vB r_16.2) (aa (gV n_23 1 a_21) (aa (vB r_16.2) (ah ?_)))))
     obtain rfl:=ae h_19
     exact bG n_23 trivial rfl (aN rfl)
    ·refine ay rfl hc_24 wz (af (aa (vB false) (aa (gV n_23 1 a_21) (aa (vB false) (ah ?_)))))
     obtain rfl:=ae h_19
     exact bG n_23 trivial rfl (aN rfl)
   ·rintro n_20 _ sl_ H_ hp_ hq_
    refine aU _ hp_ hq_ (ax (gM (bZ hD_6 hn_7) wz rfl (aa (vI ((k_3+1:Nat):Int)) (ah ?_))))
    obtain rfl:=ae hc_12
    exact bK (k_3+1,l_4,(v_18.1,v_18.2),n_20) ⟨hL_13,bv hD_6⟩ (ls_ _) rfl (aN rfl)
 ·rintro ⟨s_8,n_11⟩ ho_ sl_ H_ hp_ hq_
  subst ho_
  refine aU _ hp_ hq_ (aj (aa (gV n_11 1 s_8.1) (aa (vB s_8.2) (aa (gV n_11 1 s_8.1) (aa (vB s_8.2) (ah (gD 0 rfl (iK 4 0 rfl rfl (iK 6 0 rfl rfl (iK 33 0 rfl rfl ?_))))))))))
  obtain rfl:=ae hF
  exact aB (aM [(vL eI s_8.1),(vB s_8.2)] ⟨rfl,⟨rfl,trivial⟩⟩)
theorem qg {s_1:ByteArray} {r:(List ByteArray)×Bool} (hF:kE s_1=some r) :
  FnM Tryz.prog 36 [(vS s_1)] [] (.tup [(vL eS r.1),(vB r.2)]) []:=by
 refine FnM.of_wH ⟨Tryz.prog,13,[],[]⟩ rfl Tryz.func36 rfl rfl (lb_ rfl) (by kernel_rfl) ?_
 unfold kE at hF
 refine aj (aa .nil (aa (vB false) (ah (au (aj (aa (vS s_1) (aa (vB (sEq s_1 (⟨#[45]⟩:ByteArray))) (ah ?_))))))))
 rcases ak hF with⟨hc_2,hF⟩|⟨hc_2,hF⟩
 ·refine aD rfl hc_2 (aj (aa .nil (aa (vB true) (ah ?_))))
  obtain rfl:=ae hF
  exact aB (aM [.nil,(vB true)] ⟨rfl,⟨rfl,trivial⟩⟩)
 ·refine aF rfl hc_2 (aC (aj (aa (vS s_1) ?_)))
  obtain ⟨r_3,hr_4,hF⟩:=bind_some hF
  refine aA (iM hr_4) rfl IM rfl rfl rfl rfl wz (aa (vL eS r_3) (ah (aj (aa (vL eS r_3) (aa (vL eS r_3) ?_)))))
  obtain ⟨r_5,hr_6,hF⟩:=bind_some hF
  refine aA (dF hr_6) rfl hb61 rfl rfl rfl rfl wz (aa (vB (!r_5)) (aa (vL eS r_3) (aa (vB (!r_5)) (ah ?_))))
  obtain rfl:=ae hF
  exact aB (aM [(vL eS r_3),(vB (!r_5))] ⟨rfl,⟨rfl,trivial⟩⟩)
theorem qP {line_1:ByteArray} {p_2:(List Entry)} {r:Bool×(List Entry)} (hF:eU line_1 p_2=some r) :
  FnM Tryz.prog 33 [(vS line_1),(.ref (av 0) 0 0)] (([.cells 1 [gV (av 1) 13 p_2]]:List Box)++gI 13 Entry.enc p_2) (vB r.1) (([some (.cells 1 [gV (av (1+(gI 13 Entry.enc p_2).length)) 13 r.2])]:List (Option Box))++gT p_2 none++gO 13 Entry.enc r.2):=by
 refine FnM.of_wHc1 ⟨Tryz.prog,113,[],[]⟩ rfl Tryz.func33 rfl rfl (lb_ rfl) (by kernel_rfl) ?_
 unfold eU at hF
 refine aj (aa (vB false) (ah (aj (aa (vS line_1) ?_))))
 obtain ⟨r_3,hr_4,hF⟩:=bind_some hF
 refine aA (Bh hr_4) rfl hb34 rfl rfl rfl rfl wz (aa (.tup [(vL eS r_3.1),(vB r_3.2)]) (aa (vL eS r_3.1) (aa (vB r_3.2) (aa (vL eS r_3.1) (aa (vB r_3.2) (ah (au (au ?_))))))))
 obtain ⟨v_5,h_6,hF⟩:=bind_some hF
 refine aW [(1,(.ref (av 0) 0 0)),(4,(vL eS r_3.1)),(37,(vB v_5))] [((av 0),some (.cells 1 [(gV (av 1) 13 p_2)])),((av 1),gB 13 Entry.enc p_2)] ?_ ?_
 ·refine ax (aa (vB r_3.2) (aa (vB (!r_3.2)) ?_))
  rcases ak h_6 with⟨hc_7,h_6⟩|⟨hc_7,h_6⟩
  ·refine ay rfl hc_7 wz (af (af (af (aa (vB true) (aa (vB true) (af (af (af (af (af (aY (wn rfl rfl) (aY (wn rfl rfl) (aY (wn rfl rfl) (aY (wn rfl rfl) (af (aa (vB true) (ah ?_)))))))))))))))))
   obtain rfl:=ae h_6
   exact cu
  ·refine ay rfl hc_7 wz (aG (vL eS r_3.1) wa rfl (dE lS rfl wa (aG (vB ((r_3.1.length:Int) != 13)) wa rfl (aa (vB ((r_3.1.length:Int) != 13)) ?_))))
   rcases ak h_6 with⟨hc_8,h_6⟩|⟨hc_8,h_6⟩
   ·refine ay rfl hc_8 wz (af (af (af (af (af (aY (wn rfl rfl) (aY (wn rfl rfl) (aY (wn rfl rfl) (aY (wn rfl rfl) (af (aa (vB true) (ah ?_))))))))))))
    obtain rfl:=ae h_6
    exact cu
   ·refine ay rfl hc_8 wz (aG (vL eS r_3.1) wa rfl ?_)
    obtain ⟨y_9,hy_10,h_6⟩:=bind_some h_6
    refine dJ fF rfl rfl hy_10 rfl wa (bD sz9 ag9 rfl (vS y_9) rfl wa (aG (vB (sNe y_9 (⟨#[111,110]⟩:ByteArray))) wa rfl ?_))
    rcases ak h_6 with⟨hc_11,h_6⟩|⟨hc_11,h_6⟩
    ·refine ay rfl hc_11 wa (aG (vL eS r_3.1) wa rfl ?_)
     obtain ⟨y_12,hy_13,h_6⟩:=bind_some h_6
     refine dJ fF rfl rfl hy_13 rfl wa (bD sz9 ag9 rfl (vS y_12) rfl wa (aG (vB (sNe y_12 (⟨#[103,111,110,101]⟩:ByteArray))) wa rfl (aG (vB (sNe y_12 (⟨#[103,111,110,101]⟩:ByteArray))) wa rfl (aa (vB (sNe y_12 (⟨#[103,111,110,101]⟩:ByteArray))) (ah ?_)))))
     obtain rfl:=ae h_6
     exact cu
    ·refine ay rfl hc_11 wa (af (af (af (af (aG (vB false) wa rfl (aa (vB false) (ah ?_)))))))
     obtain rfl:=ae h_6
     exact cu
 ·rintro ⟨⟩ _ sl_ H_ hp_ hq_
  refine aU _ hp_ hq_ ?_
  rcases ak hF with⟨hc_14,hF⟩|⟨hc_14,hF⟩
  ·refine aD rfl hc_14 (aj (aa (vB false) (ah ?_)))
   obtain rfl:=ae hF
   exact aB (BO (n:=(av 1)) (.inr rfl) [(vB false)] ⟨rfl,trivial⟩ rfl rfl rfl rfl 1 rfl rfl)
  ·refine aF rfl hc_14 (aC (aj (aa (vL eS r_3.1) ?_)))
   obtain ⟨y_15,hy_16,hF⟩:=bind_some hF
   refine qO lS sz9 (λ_=>rfl) rfl rfl rfl hy_16 wz ?_
   obtain ⟨r_17,hr_18,hF⟩:=bind_some hF
   refine aA (o6 hr_18) rfl hb35 rfl rfl rfl rfl wz (aa (.tup [(vL eI r_17.1),(vB r_17.2)]) (aa (vL eI r_17.1) (aa (vB r_17.2) (aa (vL eI r_17.1) (aa (vB r_17.2) (ah (aj (aa (vL eS r_3.1) ?_))))))))
   obtain ⟨y_19,hy_20,hF⟩:=bind_some hF
   refine dJ fF rfl rfl hy_20 rfl wz (bD sz9 ag9 rfl (vS y_19) rfl wz ?_)
   obtain ⟨r_21,hr_22,hF⟩:=bind_some hF
   refine aA (qg hr_22) rfl hb36 rfl rfl rfl rfl wz (aa (.tup [(vL eS r_21.1),(vB r_21.2)]) (aa (vL eS r_21.1) (aa (vB r_21.2) (aa (vL eS r_21.1) (aa (vB r_21.2) (ah (aj (aa (vL eS r_21.1) ?_))))))))
   obtain ⟨r_23,hr_24,hF⟩:=bind_some hF
   refine aA (o6 hr_24) rfl hb35 rfl rfl rfl rfl wz (aa (.tup [(vL eI r_23.1),(vB r_23.2)]) (aa (vL eI r_23.1) (aa (vB r_23.2) (aa (vL eI r_23.1) (aa (vB r_23.2) (ah (aj (aa (vL eS r_3.1) ?_))))))))
   obtain ⟨y_25,hy_26,hF⟩:=bind_some hF
   refine dJ fF rfl rfl hy_26 rfl wz (bD sz9 ag9 rfl (vS y_25) rfl wz ?_)
   obtain ⟨r_27,hr_28,hF⟩:=bind_some hF
   refine aA (qg hr_28) rfl hb36 rfl rfl rfl rfl wz (aa (.tup [(vL eS r_27.1),(vB r_27.2)]) (aa (vL eS r_27.1) (aa (vB r_27.2) (aa (vL eS r_27.1) (aa (vB r_27.2) (ah (aU (H0:=([((av 0),some (.cells 1 [(gV (av 1) 13 p_2)])),((av 1),gB 13 Entry.enc p_2)]:Hp)) ([(1,(.ref (av 0) 0 0)),(4,(vL eS r_3.1)),(6,(vL eI r_17.1)),(7,(vB r_17.2)),(9,(vB r_21.2)),(10,(vL eI r_23.1)),(11,(vB r_23.2)),(12,(vL eS r_27.1)),(13,(vB r_27.2))]:SL_) (by kernel_rfl) (pJ (by kernel_rfl)) (au (eB (aK 0 0 (.inr (by kernel_rfl)) (λ_ _ ag=>trivial) sz26 ag26 rfl rfl (gV (av 1) 13 p_2) rfl wz (aa (vL eS r_3.1) ?_)))))))))))
   obtain ⟨y_29,hy_30,hF⟩:=bind_some hF
   refine dJ fF rfl rfl hy_30 rfl wz (bD sz9 ag9 rfl (vS y_29) rfl wz (aa (vL eS r_3.1) ?_))
   obtain ⟨y_31,hy_32,hF⟩:=bind_some hF
   refine dJ fF rfl rfl hy_32 rfl wz (bD sz9 ag9 rfl (vS y_31) rfl wz (aa (vL eI r_17.1) ?_))
   obtain ⟨y_33,hy_34,hF⟩:=bind_some hF
   refine dJ eX rfl rfl hy_34 rfl wz (bD sz3 ag3 rfl (vI y_33) rfl wz (aa (vL eI r_17.1) ?_))
   obtain ⟨y_35,hy_36,hF⟩:=bind_some hF
   refine dJ eX rfl rfl hy_36 rfl wz (bD sz3 ag3 rfl (vI y_35) rfl wz (aa (vL eI r_17.1) ?_))
   obtain ⟨y_37,hy_38,hF⟩:=bind_some hF
   refine dJ eX rfl rfl hy_38 rfl wz (bD sz3 ag3 rfl (vI y_37) rfl wz (aa (vL eI r_17.1) ?_))
   obtain ⟨y_39,hy_40,hF⟩:=bind_some hF
   refine dJ eX rfl rfl hy_40 rfl wz (bD sz3 ag3 rfl (vI y_39) rfl wz (aa (vL eI r_17.1) ?_))
   obtain ⟨y_41,hy_42,hF⟩:=bind_some hF
   refine dJ eX rfl rfl hy_42 rfl wz (bD sz3 ag3 rfl (vI y_41) rfl wz (aa (vL eI r_17.1) ?_))
   obtain ⟨y_43,hy_44,hF⟩:=bind_some hF
   refine dJ eX rfl rfl hy_44 rfl wz (bD sz3 ag3 rfl (vI y_43) rfl wz (aa (vL eI r_17.1) ?_))
   obtain ⟨y_45,hy_46,hF⟩:=bind_some hF
   refine dJ eX rfl rfl hy_46 rfl wz (bD sz3 ag3 rfl (vI y_45) rfl wz (aa (vL eI r_17.1) ?_))
   obtain ⟨y_47,hy_48,hF⟩:=bind_some hF
   refine dJ eX rfl rfl hy_48 rfl wz (bD sz3 ag3 rfl (vI y_47) rfl wz (aa (vL eS r_3.1) ?_))
   obtain ⟨y_49,hy_50,hF⟩:=bind_some hF
   refine dJ fF rfl rfl hy_50 rfl wz (bD sz9 ag9 rfl (vS y_49) rfl wz (aa (vB (sEq y_49 (⟨#[103,111,110,101]⟩:ByteArray))) (aa (vL eI r_23.1) (aa (vL eS r_27.1) (aG (.d (.agg (Entry.enc (⟨y_29,y_31,y_33,y_35,y_37,y_39,y_41,r_23.1,y_43,y_45,y_47,r_27.1,(sEq y_49 (⟨#[103,111,110,101]⟩:ByteArray))⟩:Entry)))) wz (by kernel_rfl) (dw (([(⟨y_29,y_31,y_33,y_35,y_37,y_39,y_41,r_23.1,y_43,y_45,y_47,r_27.1,(sEq y_49 (⟨#[103,111,110,101]⟩:ByteArray))⟩:Entry)]:List Entry).map Entry.enc) vF G7 rfl rfl rfl rfl rfl wz ?_))))))
   obtain ⟨a_51,hz_52,hF⟩:=bind_some hF
   refine jX 39 (.inr (by kernel_rfl)) (λ_ _ ag=>⟨.inr (.inr (by kernel_rfl)),trivial⟩) (i:=1) BU BU iw z39 rfl (by decide) by39 (by decide) (λ_=>rfl) rfl rfl rfl hz_52 wz (λn_53=>gK 40 (.inr (by kernel_rfl)) (λ_ _ ag=>⟨.inr (.inr (by kernel_rfl)),⟨.inr (.inr (by kernel_rfl)),trivial⟩⟩) 0 sz26 rfl rfl [(gV n_53 13 a_51)] (Du rfl) wz (ah (aU (H0:=([((av 0),some (.cells 1 [(gV n_53 13 a_51)])),(n_53,gB 13 Entry.enc a_51)]:Hp)) ([(7,(vB r_17.2)),(9,(vB r_21.2)),(11,(vB r_23.2)),(13,(vB r_27.2))]:SL_) (by kernel_rfl) (pJ (by kernel_rfl)) (au ?_))))
   obtain ⟨v_54,h_55,hF⟩:=bind_some hF
   refine jD (β:=Nm) (λ(n_56:Nm)=>([(3,(vB v_54))]:SL_)) (λ(n_56:Nm)=>([((av 0),some (.cells 1 [(gV n_56 13 a_51)])),(n_56,gB 13 Entry.enc a_51)]:Hp)) (λ_=>True) ?_ ?_
   ·refine ax (aa (vB r_17.2) ?_)
    rcases ak h_55 with⟨hc_57,h_55⟩|⟨hc_57,h_55⟩
    ·refine ay rfl hc_57 wz (aG (vB r_21.2) wa rfl (aa (vB r_21.2) ?_))
     rcases ak h_55 with⟨hc_58,h_55⟩|⟨hc_58,h_55⟩
     ·refine ay rfl hc_58 wz (aG (vB r_23.2) wa rfl (aa (vB r_23.2) ?_))
      rcases ak h_55 with⟨hc_59,h_55⟩|⟨hc_59,h_55⟩
      ·refine ay rfl hc_59 wz (aG (vB r_27.2) wa rfl (aa (vB r_27.2) (aa (vB r_27.2) (ah ?_))))
       obtain rfl:=ae h_55
       exact bG n_53 trivial rfl (aN rfl)
      ·refine ay rfl hc_59 wz (af (aa (vB false) (aa (vB false) (ah ?_))))
       obtain rfl:=ae h_55
       exact bG n_53 trivial rfl (aN rfl)
     ·refine ay rfl hc_58 wz (af (aa (vB false) (aa (vB false) (af (aa (vB false) (aa (vB false) (ah ?_)))))))
      obtain rfl:=ae h_55
      exact bG n_53 trivial rfl (aN rfl)
    ·refine ay rfl hc_57 wz (af (aa (vB false) (aa (vB false) (af (aa (vB false) (aa (vB false) (af (aa (vB false) (aa (vB false) (ah ?_))))))))))
     obtain rfl:=ae h_55
     exact bG n_53 trivial rfl (aN rfl)
   ·rintro n_56 _ sl_ H_ hp_ hq_
    refine aU _ hp_ hq_ ?_
    obtain rfl:=ae hF
    exact aB (BO (n:=n_56) (.inr rfl) [(vB v_54)] ⟨rfl,trivial⟩ rfl rfl rfl rfl 1 rfl rfl)
theorem lu {s_1:ByteArray} {substr_2:ByteArray} {r:Int} (hF:dK s_1 substr_2=some r) :
  FnM Tryz.prog 70 [(vS s_1),(vS substr_2)] [] (vI r) []:=by
 refine FnM.of_wH ⟨Tryz.prog,143,[],[]⟩ rfl Tryz.func70 rfl rfl (lb_ rfl) (by kernel_rfl) ?_
 unfold dK at hF
 refine aj (aa (vI 0) (ah (aj (aa (vS substr_2) (jc un9 rfl wz (aa (vI (substr_2.size:Int)) (ah (au (bg (au ?_))))))))))
 obtain ⟨v_3,h_4,hF⟩:=bind_some hF
 refine aW [(0,(vS s_1)),(1,(vS substr_2)),(5,(vI (substr_2.size:Int))),(16,(vB v_3))] [] ?_ ?_
 ·refine ax (aa (vI (substr_2.size:Int)) (aa (vB ((substr_2.size:Int)==0)) ?_))
  rcases ak h_4 with⟨hc_5,h_4⟩|⟨hc_5,h_4⟩
  ·refine ay rfl hc_5 wz (af (af (af (aa (vB true) (aa (vB true) (ah ?_))))))
   obtain rfl:=ae h_4
   exact cu
  ·refine ay rfl hc_5 wz (aG (vS substr_2) wa rfl (aG (vS s_1) wa rfl (aG (vB (sEq substr_2 s_1)) wa rfl (aa (vB (sEq substr_2 s_1)) (aa (vB (sEq substr_2 s_1)) (ah ?_))))))
   obtain rfl:=ae h_4
   exact cu
 ·rintro ⟨⟩ _ sl_ H_ hp_ hq_
  refine aU _ hp_ hq_ ?_
  rcases ak hF with⟨hc_6,hF⟩|⟨hc_6,hF⟩
  ·refine aD rfl hc_6 (aj (aa (vI 0) (ah ?_)))
   obtain rfl:=ae hF
   exact aB (aM [(vI 0)] ⟨rfl,trivial⟩)
  ·refine aF rfl hc_6 (aj (aa (vI (substr_2.size:Int)) (aa (vB ((substr_2.size:Int)==1)) (aa (vB ((substr_2.size:Int)==1)) (ah ?_)))))
   rcases ak hF with⟨hc_7,hF⟩|⟨hc_7,hF⟩
   ·refine aD rfl hc_7 (aj (aa (vS s_1) (aa (vS substr_2) ?_)))
    obtain ⟨b_8,hy_9,hF⟩:=bind_some hF
    refine sH un9 rfl rfl hy_9 wz ?_
    obtain ⟨r_10,hr_11,hF⟩:=bind_some hF
    refine aA (gL hr_11) rfl hb88 rfl rfl rfl rfl wz (aa (vI r_10) (ah ?_))
    obtain rfl:=ae hF
    exact aB (aM [(vI r_10)] ⟨rfl,trivial⟩)
   ·refine aF rfl hc_7 (aj (aa (vI (substr_2.size:Int)) (aa (vS s_1) (jc un9 rfl wz (aa (vB (decide ((substr_2.size:Int)>=(s_1.size:Int)))) (aa (vB (decide ((substr_2.size:Int)>=(s_1.size:Int)))) (ah ?_)))))))
    rcases ak hF with⟨hc_12,hF⟩|⟨hc_12,hF⟩
    ·refine aD rfl hc_12 (aj (aa (vI (-1)) (ah ?_)))
     obtain rfl:=ae hF
     exact aB (aM [(vI (-1))] ⟨rfl,trivial⟩)
    ·refine aF rfl hc_12 (aj (aa (vI (substr_2.size:Int)) ?_))
     cases hF
theorem mH {s_1:ByteArray} {sep_2:ByteArray} {r:ByteArray×ByteArray×Bool} (hF:dX s_1 sep_2=some r) :
  FnM Tryz.prog 81 [(vS s_1),(vS sep_2)] [] (.tup [(vS r.1),(vS r.2.1),(vB r.2.2)]) []:=by
 refine FnM.of_wH ⟨Tryz.prog,23,[],[]⟩ rfl Tryz.func81 rfl rfl (lb_ rfl) (by kernel_rfl) ?_
 unfold dX at hF
 refine aj (aa (vS (⟨#[]⟩:ByteArray)) (aa (vS (⟨#[]⟩:ByteArray)) (aa (vB false) (ah (au (aj (aa (vS s_1) (aa (vS sep_2) ?_))))))))
 obtain ⟨r_3,hr_4,hF⟩:=bind_some hF
 refine aA (lu hr_4) rfl hb70 rfl rfl rfl rfl wz (aa (vI r_3) (ah (aj (aa (vI r_3) (aa (vB (decide (r_3>=0))) (ah ?_))))))
 rcases ak hF with⟨hc_5,hF⟩|⟨hc_5,hF⟩
 ·refine aD rfl hc_5 (au (eB (aa (vS s_1) (aa (vI r_3) ?_))))
  obtain ⟨y_6,hy_7,hF⟩:=bind_some hF
  refine iL un9 rfl rfl hy_7 wz (aa (vS s_1) (aa (vI r_3) (aa (vS sep_2) (jc un9 rfl wz (aa (vI (w64 (r_3+(sep_2.size:Int)))) ?_)))))
  obtain ⟨y_8,hy_9,hF⟩:=bind_some hF
  refine jl un9 rfl rfl hy_9 wz (aa (vS y_6) (aa (vS y_8) (aa (vB true) (ah ?_))))
  obtain rfl:=ae hF
  exact aB (aM [(vS y_6),(vS y_8),(vB true)] ⟨rfl,⟨rfl,⟨rfl,trivial⟩⟩⟩)
 ·refine aF rfl hc_5 (aC (aj (aa (vS s_1) (aa (vS s_1) (aa (vS (⟨#[]⟩:ByteArray)) (aa (vB false) (ah ?_)))))))
  obtain rfl:=ae hF
  exact aB (aM [(vS s_1),(vS (⟨#[]⟩:ByteArray)),(vB false)] ⟨rfl,⟨rfl,⟨rfl,trivial⟩⟩⟩)
theorem zb {s_1:ByteArray} {sep_2:ByteArray} {r:ByteArray×ByteArray×Bool} (hF:strings_Cut s_1 sep_2=some r) :
  FnM Tryz.prog 60 [(vS s_1),(vS sep_2)] [] (.tup [(vS r.1),(vS r.2.1),(vB r.2.2)]) []:=by
 refine FnM.of_wH ⟨Tryz.prog,13,[],[]⟩ rfl Tryz.func60 rfl rfl (lb_ rfl) (by kernel_rfl) ?_
 unfold strings_Cut at hF
 refine aj (aa (vS (⟨#[]⟩:ByteArray)) (aa (vS (⟨#[]⟩:ByteArray)) (aa (vB false) (ah (aj (aa (vS s_1) (aa (vS sep_2) ?_)))))))
 obtain ⟨r_3,hr_4,hF⟩:=bind_some hF
 refine aA (mH hr_4) rfl hb81 rfl rfl rfl rfl wz (aa (vS r_3.1) (aa (vS r_3.2.1) (aa (vB r_3.2.2) (aa (vS r_3.1) (aa (vS r_3.2.1) (aa (vB r_3.2.2) (ah ?_)))))))
 obtain rfl:=ae hF
 exact aB (aM [(vS r_3.1),(vS r_3.2.1),(vB r_3.2.2)] ⟨rfl,⟨rfl,⟨rfl,trivial⟩⟩⟩)
theorem xz {text_1:ByteArray} {take2_3:(List Entry)} {r:Int×Bool×(List Entry)} (hF:kC text_1 take2_3=some r) :
  FnM Tryz.prog 32 [(vS text_1),(.fn 33 [(.ref (av 0) 0 0)])] (([.cells 1 [gV (av 1) 13 take2_3]]:List Box)++gI 13 Entry.enc take2_3) (.tup [(vI r.1),(vB r.2.1)]) (([some (.cells 1 [gV (av (1+(gI 13 Entry.enc take2_3).length)) 13 r.2.2])]:List (Option Box))++gT take2_3 none++gO 13 Entry.enc r.2.2):=by
 refine FnM.of_wHc1 ⟨Tryz.prog,30,[],[]⟩ rfl Tryz.func32 rfl rfl (lb_ rfl) (by kernel_rfl) ?_
 unfold kC at hF
 refine aj (aa (vI 0) (aa (vB false) (ah (au (aj (aa (vI 0) (ah ?_)))))))
 obtain ⟨o_14,hj_15,hF⟩:=bind_some hF
 obtain ⟨nq_27,hj_15⟩:=nz hj_15
 refine Cm (σ:=(List Entry)×ByteArray×Int) (N:=Nm) (λp=>(λ(s_9:(List Entry)×ByteArray×Int) (n_11:Nm)=>([]:SL_)) p.1 p.2) (λp=>(λ(s_9:(List Entry)×ByteArray×Int) (n_11:Nm)=>([((av 0),some (.cells 1 [(gV n_11 13 s_9.1)])),(n_11,gB 13 Entry.enc s_9.1)]:Hp)) p.1 p.2) (λ(k_4:Nat)=>(λp=>(λ(s_9:(List Entry)×ByteArray×Int) (n_11:Nm)=>([(0,(vS s_9.2.1)),(1,(.fn 33 [(.ref (av 0) 0 0)])),(6,(vI s_9.2.2))]:SL_)) p.1 p.2)) (λs=>dC s) o_14 nq_27 ((take2_3,text_1,0),(av 1)) hj_15 rfl (aN rfl) ?_ ?_
 ·rintro ⟨k_4,s_9,n_11⟩ hL_13
  dsimp only at hL_13
  cases k_4 with
  | zero=>cases hL_13
  | succ k_4 =>
   obtain ⟨c_,hc_12,hL_13⟩:=bind_some hL_13
   unfold dC at hc_12
   refine au (aj (aa (vS s_9.2.1) (aa (vB (sNe s_9.2.1 (⟨#[]⟩:ByteArray))) (ah ?_))))
   rcases ak hc_12 with⟨hc_16,hc_12⟩|⟨hc_16,hc_12⟩
   ·refine aD rfl hc_16 (aC (au (bg (aj (aa (vS s_9.2.1) ?_)))))
    obtain ⟨r_17,hr_18,hc_12⟩:=bind_some hc_12
    refine aA (zb hr_18) rfl hb60 rfl rfl rfl rfl wz (aa (.tup [(vS r_17.1),(vS r_17.2.1),(vB r_17.2.2)]) (aa (vS r_17.1) (aa (vS r_17.2.1) (aa (vB r_17.2.2) (aa (vS r_17.1) (aa (vS r_17.2.1) (aa (vB r_17.2.2) (ah (au (au ?_))))))))))
    obtain ⟨v_19,h_20,hc_12⟩:=bind_some hc_12
    refine jD (β:=Nm) (λ(n_21:Nm)=>([(1,(.fn 33 [(.ref (av 0) 0 0)])),(6,(vI s_9.2.2)),(8,(vS r_17.2.1)),(27,(vB v_19.2))]:SL_)) (λ(n_21:Nm)=>([((av 0),some (.cells 1 [(gV n_21 13 v_19.1)])),(n_21,gB 13 Entry.enc v_19.1)]:Hp)) (λ_=>True) ?_ ?_
    ·refine ax (aa (vB r_17.2.2) (aa (vB (!r_17.2.2)) ?_))
     rcases ak h_20 with⟨hc_22,h_20⟩|⟨hc_22,h_20⟩
     ·refine ay rfl hc_22 wz (af (af (af (af (aa (vB true) (ah ?_))))))
      obtain rfl:=ae h_20
      exact bG n_11 trivial rfl (aN rfl)
     ·refine ay rfl hc_22 wz (aG (.fn 33 [(.ref (av 0) 0 0)]) wa rfl (aG (vS r_17.1) wa rfl ?_))
      obtain ⟨r_23,hr_24,h_20⟩:=bind_some h_20
      refine Ay 0 1 (qP hr_24) rfl hb33 rfl rfl (by kernel_rfl) (by kernel_rfl) (by kernel_rfl) (by kernel_rfl) (by decide) wa (λn_25=>([((av 0),some (.cells 1 [(gV n_25 13 r_23.2)])),(n_11,none)]:Hp)) (λ_=>by kernel_rfl) (λn_25=>aG (vB (!r_23.1)) wa rfl (aa (vB (!r_23.1)) (ah ?_)))
      obtain rfl:=ae h_20
      exact bG n_25 trivial rfl (pre_is [0,2] (by decide) rfl)
    ·rintro n_21 _ sl_ H_ hp_ hq_
     refine aU _ hp_ hq_ ?_
     rcases ak hc_12 with⟨hc_26,hc_12⟩|⟨hc_26,hc_12⟩
     ·refine aD rfl hc_26 (aj (aa (vI s_9.2.2) (aa (vI s_9.2.2) (aa (vB false) (ah ?_)))))
      obtain rfl:=ae hc_12
      obtain rfl:=ae hL_13
      obtain rfl:=ae hF
      exact aB (BO (n:=n_21) (.inr rfl) [(vI s_9.2.2),(vB false)] ⟨rfl,⟨rfl,trivial⟩⟩ rfl rfl rfl rfl 1 rfl rfl)
     ·refine aF rfl hc_26 (aC (ax (aa (vS r_17.2.1) (aa (vS r_17.2.1) (ah (ax (aa (vI s_9.2.2) (aa (vI (w64 (s_9.2.2+1))) (aa (vI (w64 (s_9.2.2+1))) (ah ?_))))))))))
      obtain rfl:=ae hc_12
      exact bK (k_4,(v_19.1,r_17.2.1,(w64 (s_9.2.2+1))),n_21) hL_13 (ls_ _) rfl (aN rfl)
   ·refine aF rfl hc_16 (bM ?_)
    obtain rfl:=ae hc_12
    obtain rfl:=ae hL_13
    exact bG ((s_9.1,s_9.2.1,s_9.2.2),n_11) rfl rfl (aN rfl)
 ·rintro ⟨s_9,n_11⟩ ho_ sl_ H_ hp_ hq_
  subst ho_
  refine aU _ hp_ hq_ (aj (aa (vI 0) (aa (vB true) (ah ?_))))
  obtain rfl:=ae hF
  exact aB (BO (n:=n_11) (.inr rfl) [(vI 0),(vB true)] ⟨rfl,⟨rfl,trivial⟩⟩ rfl rfl rfl rfl 1 rfl rfl)
theorem sK {text_1:ByteArray} {r:(List Entry)×Int×Int} (hF:fQ text_1=some r) :
  FnM Tryz.prog 10 [(vS text_1)] [] (.tup [(vL Entry.enc r.1),(vI r.2.1),(vI r.2.2)]) []:=by
 refine FnM.of_wH ⟨Tryz.prog,27,[],[]⟩ rfl Tryz.func10 rfl rfl (lb_ rfl) (by kernel_rfl) ?_
 unfold fQ at hF
 refine aj (aa .nil (aa (vI 0) (aa (vI 0) (ah (au (aj (aa (vS text_1) (jc un9 rfl wz (aa (vB (decide ((text_1.size:Int)>200000))) (ah ?_))))))))))
 rcases ak hF with⟨hc_2,hF⟩|⟨hc_2,hF⟩
 ·refine aD rfl hc_2 (aj (aa .nil (aa (vI 0) (aa (vI 2) (ah ?_)))))
  obtain rfl:=ae hF
  exact aB (aM [.nil,(vI 0),(vI 2)] ⟨rfl,⟨rfl,⟨rfl,trivial⟩⟩⟩)
 ·refine aF rfl hc_2 (aC (aj (gY 0 (.inl rfl) z26 rfl wz (λn_3=>ah (aj (aa (vS text_1) (aa (.fn 33 [(.ref n_3 0 0)]) (vg (λn_4=>EN (b':=some (.cells 1 [(gV n_4 13 ([]:List Entry))])) 0 rfl rfl (EN (b':=gB 13 Entry.enc ([]:List Entry)) 1 rfl rfl ?_))))))))))
  obtain ⟨r_5,hr_6,hF⟩:=bind_some hF
  refine Ay 0 1 (xz hr_6) rfl hb32 rfl rfl (by kernel_rfl) (by kernel_rfl) (by kernel_rfl) (by kernel_rfl) (by decide) wz (λn_7=>([(n_3,some (.cells 1 [(gV n_7 13 r_5.2.2)])),(n_4,none)]:Hp)) (λ_=>by kernel_rfl) (λn_7=>aa (.tup [(vI r_5.1),(vB r_5.2.1)]) (aa (vI r_5.1) (aa (vB r_5.2.1) (aa (vI r_5.1) (aa (vB r_5.2.1) (ah (au (aj (aa (vB r_5.2.1) (aa (vB (!r_5.2.1)) (ah ?_)))))))))))
  rcases ak hF with⟨hc_8,hF⟩|⟨hc_8,hF⟩
  ·refine aD rfl hc_8 (aj (aa (vI r_5.1) (aa .nil (aa (vI r_5.1) (aa (vI 9) (ah ?_))))))
   obtain rfl:=ae hF
   exact aB (aM [.nil,(vI r_5.1),(vI 9)] ⟨rfl,⟨rfl,⟨rfl,trivial⟩⟩⟩)
  ·refine aF rfl hc_8 (aC (au (au (gD 2 rfl (wH_coc 2 0 [(vL Entry.enc r_5.2.2)] rfl rfl (λS hS=>dS (hS) (rfl)) (ax (aK 0 0 il ft sz26 ag26 rfl rfl (vL Entry.enc r_5.2.2) rfl wz ?_)))))))
   obtain ⟨r_9,hr_10,hF⟩:=bind_some hF
   refine aA (mf hr_10) rfl hb7 rfl rfl rfl rfl wz (aa (vI r_9) (ah (aj (aa (vI r_9) (aa (vB (r_9 != 0)) (ah ?_))))))
   rcases ak hF with⟨hc_11,hF⟩|⟨hc_11,hF⟩
   ·refine aD rfl hc_11 (aj (aa (vI r_9) (aa .nil (aa (vI 0) (aa (vI r_9) (ah ?_))))))
    obtain rfl:=ae hF
    exact aB (aM [.nil,(vI 0),(vI r_9)] ⟨rfl,⟨rfl,⟨rfl,trivial⟩⟩⟩)
   ·refine aF rfl hc_11 (aC (aj (aK 0 0 il ft sz26 ag26 rfl rfl (vL Entry.enc r_5.2.2) rfl wz (aa (vL Entry.enc r_5.2.2) (aa (vI 0) (aa (vI 0) (ah ?_)))))))
    obtain rfl:=ae hF
    exact aB (aM [(vL Entry.enc r_5.2.2),(vI 0),(vI 0)] ⟨rfl,⟨rfl,⟨rfl,trivial⟩⟩⟩)
theorem oV {s1_1:(List Int)} {s2_2:(List Int)} {r:Bool} (hF:fD s1_1 s2_2=some r) :
  FnM Tryz.prog 37 [(vL eI s1_1),(vL eI s2_2)] [] (vB r) []:=by
 refine FnM.of_wH ⟨Tryz.prog,26,[],[]⟩ rfl Tryz.func37 rfl rfl (lb_ rfl) (by kernel_rfl) ?_
 unfold fD at hF
 refine aj (aa (vB false) (ah (au (aj (aa (vL eI s1_1) (dE pE rfl wz (aa (vL eI s2_2) (dE pE rfl wz (aa (vB ((s1_1.length:Int) != (s2_2.length:Int))) (ah ?_))))))))))
 rcases ak hF with⟨hc_3,hF⟩|⟨hc_3,hF⟩
 ·refine aD rfl hc_3 (aj (aa (vB false) (ah ?_)))
  obtain rfl:=ae hF
  exact aB (aM [(vB false)] ⟨rfl,trivial⟩)
 ·refine aF rfl hc_3 (aC (au (aj (aa (vL eI s1_1) (dE pE rfl wz (aa (vI 0) (ah ?_)))))))
  obtain ⟨o_12,hj_13,hF⟩:=bind_some hF
  obtain ⟨hn_8,hj_13⟩:=bI hj_13
  refine fH (λ(s_9:Unit)=>[]) (λ(s_9:Unit)=>[]) (λ(k_4:Nat)=>(λ(s_9:Unit)=>[(0,(vL eI s1_1)),(1,(vL eI s2_2)),(12,(vI (s1_1.length:Int))),(13,(vI (k_4:Int)))])) (λk x s=>dI s2_2 k x s) o_12 s1_1 () hj_13 rfl (aN rfl) ?_ ?_
  ·rintro ⟨k_4,l_5,s_9⟩ ⟨hL_11,hD_7⟩
   dsimp only at hL_11 hD_7
   cases l_5 with
   | nil =>
    obtain rfl:=ae hL_11
    refine aj (aa (vB (decide ((k_4:Int)<(s1_1.length:Int)))) (ah ?_))
    refine au (aF rfl (drop_nil hD_7) (bM ?_))
    exact bG (s_9) rfl rfl (aN rfl)
   | cons x_6 l_5 =>
    obtain ⟨c_,hc_10,hL_11⟩:=bind_some hL_11
    refine aj (aa (vB (decide ((k_4:Int)<(s1_1.length:Int)))) (ah ?_))
    refine au (aD rfl (bQ hD_7) (aC ?_))
    unfold dI at hc_10
    refine au (bg (aj (aa (vI (k_4:Int)) (aa (vI (k_4:Int)) (ah (au (eB (aa (vL eI s1_1) (aa (vI (k_4:Int)) (dJ eX rfl rfl (dB hD_7) rfl wz (bD sz3 ag3 rfl (vI x_6) rfl wz (aa (vL eI s2_2) (aa (vI (k_4:Int)) ?_)))))))))))))
    obtain ⟨y_14,hy_15,hc_10⟩:=bind_some hc_10
    refine dJ eX rfl rfl hy_15 rfl wz (bD sz3 ag3 rfl (vI y_14) rfl wz (aa (vB (x_6 != y_14)) (ah ?_)))
    rcases ak hc_10 with⟨hc_16,hc_10⟩|⟨hc_16,hc_10⟩
    ·refine aD rfl hc_16 (aj (aa (vB false) (ah ?_)))
     obtain rfl:=ae hc_10
     obtain rfl:=ae hL_11
     obtain rfl:=ae hF
     exact aB (aM [(vB false)] ⟨rfl,trivial⟩)
    ·refine aF rfl hc_16 (aC (ax (gM (bZ hD_7 hn_8) wz rfl (aa (vI ((k_4+1:Nat):Int)) (ah ?_)))))
     obtain rfl:=ae hc_10
     exact bK (k_4+1,l_5,()) ⟨hL_11,bv hD_7⟩ (ls_ _) rfl (aN rfl)
  ·rintro s_9 ho_ sl_ H_ hp_ hq_
   subst ho_
   refine aU _ hp_ hq_ (aj (aa (vB true) (ah ?_)))
   obtain rfl:=ae hF
   exact aB (aM [(vB true)] ⟨rfl,trivial⟩)
theorem lL {s1_1:(List ByteArray)} {s2_2:(List ByteArray)} {r:Bool} (hF:dP s1_1 s2_2=some r) :
  FnM Tryz.prog 38 [(vL eS s1_1),(vL eS s2_2)] [] (vB r) []:=by
 refine FnM.of_wH ⟨Tryz.prog,26,[],[]⟩ rfl Tryz.func38 rfl rfl (lb_ rfl) (by kernel_rfl) ?_
 unfold dP at hF
 refine aj (aa (vB false) (ah (au (aj (aa (vL eS s1_1) (dE lS rfl wz (aa (vL eS s2_2) (dE lS rfl wz (aa (vB ((s1_1.length:Int) != (s2_2.length:Int))) (ah ?_))))))))))
 rcases ak hF with⟨hc_3,hF⟩|⟨hc_3,hF⟩
 ·refine aD rfl hc_3 (aj (aa (vB false) (ah ?_)))
  obtain rfl:=ae hF
  exact aB (aM [(vB false)] ⟨rfl,trivial⟩)
 ·refine aF rfl hc_3 (aC (au (aj (aa (vL eS s1_1) (dE lS rfl wz (aa (vI 0) (ah ?_)))))))
  obtain ⟨o_12,hj_13,hF⟩:=bind_some hF
  obtain ⟨hn_8,hj_13⟩:=bI hj_13
  refine fH (λ(s_9:Unit)=>[]) (λ(s_9:Unit)=>[]) (λ(k_4:Nat)=>(λ(s_9:Unit)=>[(0,(vL eS s1_1)),(1,(vL eS s2_2)),(12,(vI (s1_1.length:Int))),(13,(vI (k_4:Int)))])) (λk x s=>bL s2_2 k x s) o_12 s1_1 () hj_13 rfl (aN rfl) ?_ ?_
  ·rintro ⟨k_4,l_5,s_9⟩ ⟨hL_11,hD_7⟩
   dsimp only at hL_11 hD_7
   cases l_5 with
   | nil =>
    obtain rfl:=ae hL_11
    refine aj (aa (vB (decide ((k_4:Int)<(s1_1.length:Int)))) (ah ?_))
    refine au (aF rfl (drop_nil hD_7) (bM ?_))
    exact bG (s_9) rfl rfl (aN rfl)
   | cons x_6 l_5 =>
    obtain ⟨c_,hc_10,hL_11⟩:=bind_some hL_11
    refine aj (aa (vB (decide ((k_4:Int)<(s1_1.length:Int)))) (ah ?_))
    refine au (aD rfl (bQ hD_7) (aC ?_))
    unfold bL at hc_10
    refine au (bg (aj (aa (vI (k_4:Int)) (aa (vI (k_4:Int)) (ah (au (eB (aa (vL eS s1_1) (aa (vI (k_4:Int)) (dJ fF rfl rfl (dB hD_7) rfl wz (bD sz9 ag9 rfl (vS x_6) rfl wz (aa (vL eS s2_2) (aa (vI (k_4:Int)) ?_)))))))))))))
    obtain ⟨y_14,hy_15,hc_10⟩:=bind_some hc_10
    refine dJ fF rfl rfl hy_15 rfl wz (bD sz9 ag9 rfl (vS y_14) rfl wz (aa (vB (sNe x_6 y_14)) (ah ?_)))
    rcases ak hc_10 with⟨hc_16,hc_10⟩|⟨hc_16,hc_10⟩
    ·refine aD rfl hc_16 (aj (aa (vB false) (ah ?_)))
     obtain rfl:=ae hc_10
     obtain rfl:=ae hL_11
     obtain rfl:=ae hF
     exact aB (aM [(vB false)] ⟨rfl,trivial⟩)
    ·refine aF rfl hc_16 (aC (ax (gM (bZ hD_7 hn_8) wz rfl (aa (vI ((k_4+1:Nat):Int)) (ah ?_)))))
     obtain rfl:=ae hc_10
     exact bK (k_4+1,l_5,()) ⟨hL_11,bv hD_7⟩ (ls_ _) rfl (aN rfl)
  ·rintro s_9 ho_ sl_ H_ hp_ hq_
   subst ho_
   refine aU _ hp_ hq_ (aj (aa (vB true) (ah ?_)))
   obtain rfl:=ae hF
   exact aB (aM [(vB true)] ⟨rfl,trivial⟩)
theorem vo {a_1:Entry} {b_2:Entry} {r:Bool} (hF:fA a_1 b_2=some r) :
  FnM Tryz.prog 12 [(.d (.agg (Entry.enc a_1))),(.d (.agg (Entry.enc b_2)))] [] (vB r) []:=by
 refine FnM.of_wH ⟨Tryz.prog,32,[],[]⟩ rfl Tryz.func12 rfl rfl (lb_ rfl) (by kernel_rfl) ?_
 unfold fA at hF
 refine aj (mo 0 (.inl rfl) (Entry.v a_1) rfl rfl wz (λn_3=>mo 0 (.inl rfl) (Entry.v b_2) rfl rfl wz (λn_4=>aa (vB false) (ah (au (eB (aK 0 0 (.inr (by kernel_rfl)) (λ_ _ ag=>trivial) iw lN rfl rfl (.d (.agg (Entry.enc a_1))) rfl wz (aK 1 1 (.inr (by kernel_rfl)) (λ_ _ ag=>⟨.inl ⟨rfl,rfl⟩,trivial⟩) iw lN rfl rfl (.d (.agg (Entry.enc b_2))) rfl wz (gY 2 (.inr (by kernel_rfl)) z39 rfl wz (λn_5=>gY 3 (.inr (by kernel_rfl)) z39 rfl wz (λn_6=>gK 4 (.inr (by kernel_rfl)) (λ_ _ ag=>⟨.inr (.inr (by kernel_rfl)),⟨.inr (.inl (dis1 (EU ag (i:=2) (j:=1) rfl rfl (by decide)))),⟨.inr (.inr (by kernel_rfl)),⟨.inr (.inr (by kernel_rfl)),trivial⟩⟩⟩⟩) 2 iw rfl rfl (Entry.v a_1) rfl wz (gK 5 (.inr (by kernel_rfl)) (λ_ _ ag=>⟨.inr (.inr (by kernel_rfl)),⟨.inr (.inr (by kernel_rfl)),⟨.inr (.inr (by kernel_rfl)),⟨.inr (.inr (by kernel_rfl)),⟨.inr (.inr (by kernel_rfl)),trivial⟩⟩⟩⟩⟩) 3 iw rfl rfl (Entry.v b_2) rfl wz (ah (aj (aL jv rfl 7 rfl wz (gK 0 il ft 2 nY rfl rfl [(vS a_1.Key),(vS a_1.Item),(vI a_1.Version),(vI a_1.First),(vI a_1.Last),(vI a_1.Every),(vI a_1.Days),.nil,(vI a_1.From),(vI a_1.To),(vI a_1.Prio),(vL eS a_1.Tags),(vB a_1.Gone)] rfl wz (aL jG rfl 11 rfl wz (gK 0 il ft 2 uD rfl rfl [(vS a_1.Key),(vS a_1.Item),(vI a_1.Version),(vI a_1.First),(vI a_1.Last),(vI a_1.Every),(vI a_1.Days),.nil,(vI a_1.From),(vI a_1.To),(vI a_1.Prio),.nil,(vB a_1.Gone)] rfl wz (aL jv rfl 7 rfl wz (gK 0 il ft 3 nY rfl rfl [(vS b_2.Key),(vS b_2.Item),(vI b_2.Version),(vI b_2.First),(vI b_2.Last),(vI b_2.Every),(vI b_2.Days),.nil,(vI b_2.From),(vI b_2.To),(vI b_2.Prio),(vL eS b_2.Tags),(vB b_2.Gone)] rfl wz (aL jG rfl 11 rfl wz (gK 0 il ft 3 uD rfl rfl [(vS b_2.Key),(vS b_2.Item),(vI b_2.Version),(vI b_2.First),(vI b_2.Last),(vI b_2.Every),(vI b_2.Days),.nil,(vI b_2.From),(vI b_2.To),(vI b_2.Prio),.nil,(vB b_2.Gone)] rfl wz (ah ?_)))))))))))))))))))))))
 refine au ?_
 obtain ⟨v_7,h_8,hF⟩:=bind_some hF
 refine aW [(4,(vB v_7))] [(n_3,some (.cells 13 (Entry.v a_1))),(n_4,some (.cells 13 (Entry.v b_2))),(n_5,some (.cells 13 [(vS a_1.Key),(vS a_1.Item),(vI a_1.Version),(vI a_1.First),(vI a_1.Last),(vI a_1.Every),(vI a_1.Days),.nil,(vI a_1.From),(vI a_1.To),(vI a_1.Prio),.nil,(vB a_1.Gone)])),(n_6,some (.cells 13 [(vS b_2.Key),(vS b_2.Item),(vI b_2.Version),(vI b_2.First),(vI b_2.Last),(vI b_2.Every),(vI b_2.Days),.nil,(vI b_2.From),(vI b_2.To),(vI b_2.Prio),.nil,(vB b_2.Gone)]))] ?_ ?_
 ·refine eB (aK 0 2 (.inr (by kernel_rfl)) (λ_ _ ag=>trivial) iw lN rfl rfl (.agg [(vS a_1.Key),(vS a_1.Item),(vI a_1.Version),(vI a_1.First),(vI a_1.Last),(vI a_1.Every),(vI a_1.Days),.nil,(vI a_1.From),(vI a_1.To),(vI a_1.Prio),.nil,(vB a_1.Gone)]) rfl wz ?_)
  obtain ⟨r_9,hr_10,h_8⟩:=bind_some h_8
  refine aA (kS hr_10) rfl hb29 rfl rfl rfl rfl wz (aK 2 3 (.inr (by kernel_rfl)) (λ_ _ ag=>⟨.inl ⟨rfl,rfl⟩,trivial⟩) iw lN rfl rfl (.agg [(vS b_2.Key),(vS b_2.Item),(vI b_2.Version),(vI b_2.First),(vI b_2.Last),(vI b_2.Every),(vI b_2.Days),.nil,(vI b_2.From),(vI b_2.To),(vI b_2.Prio),.nil,(vB b_2.Gone)]) rfl wz ?_)
  obtain ⟨r_11,hr_12,h_8⟩:=bind_some h_8
  refine aA (kS hr_12) rfl hb29 rfl rfl rfl rfl wz (aa (vB (sEq r_9 r_11)) ?_)
  rcases ak h_8 with⟨hc_13,h_8⟩|⟨hc_13,h_8⟩
  ·refine ay rfl hc_13 wz (aL jv rfl 7 rfl wa (aK 7 0 (.inr (by kernel_rfl)) (λ_ _ ag=>⟨.inl ⟨rfl,rfl⟩,⟨.inl ⟨rfl,rfl⟩,trivial⟩⟩) nY rV rfl rfl (vL eI a_1.Except) rfl wa (aL jv rfl 7 rfl wa (aK 9 1 (.inr (by kernel_rfl)) (λ_ _ ag=>⟨.inl ⟨rfl,rfl⟩,⟨.inl ⟨rfl,rfl⟩,⟨.inl ⟨rfl,rfl⟩,trivial⟩⟩⟩) nY rV rfl rfl (vL eI b_2.Except) rfl wa ?_))))
   obtain ⟨r_14,hr_15,h_8⟩:=bind_some h_8
   refine aA (oV hr_15) rfl hb37 rfl rfl rfl rfl wa (aa (vB r_14) ?_)
   rcases ak h_8 with⟨hc_16,h_8⟩|⟨hc_16,h_8⟩
   ·refine ay rfl hc_16 wz (aL jG rfl 11 rfl wa (aK 14 0 (.inr (by kernel_rfl)) (λ_ _ ag=>⟨.inl ⟨rfl,rfl⟩,⟨.inl ⟨rfl,rfl⟩,⟨.inl ⟨rfl,rfl⟩,⟨.inl ⟨rfl,rfl⟩,trivial⟩⟩⟩⟩) uD Bd rfl rfl (vL eS a_1.Tags) rfl wa (aL jG rfl 11 rfl wa (aK 16 1 (.inr (by kernel_rfl)) (λ_ _ ag=>⟨.inl ⟨rfl,rfl⟩,⟨.inl ⟨rfl,rfl⟩,⟨.inl ⟨rfl,rfl⟩,⟨.inl ⟨rfl,rfl⟩,⟨.inl ⟨rfl,rfl⟩,trivial⟩⟩⟩⟩⟩) uD Bd rfl rfl (vL eS b_2.Tags) rfl wa ?_))))
    obtain ⟨r_17,hr_18,h_8⟩:=bind_some h_8
    refine aA (lL hr_18) rfl hb38 rfl rfl rfl rfl wa (aa (vB r_17) (aa (vB r_17) (ah ?_)))
    obtain rfl:=ae h_8
    exact cu
   ·refine ay rfl hc_16 wz (af (af (af (af (af (aa (vB false) (aa (vB false) (ah ?_))))))))
    obtain rfl:=ae h_8
    exact cu
  ·refine ay rfl hc_13 wz (af (af (af (af (af (aa (vB false) (aa (vB false) (af (af (af (af (af (aa (vB false) (aa (vB false) (ah ?_)))))))))))))))
   obtain rfl:=ae h_8
   exact cu
 ·rintro ⟨⟩ _ sl_ H_ hp_ hq_
  refine aU _ hp_ hq_ ?_
  obtain rfl:=ae hF
  exact aB (aM [(vB v_7)] ⟨rfl,trivial⟩)
theorem eP {s1_1:(List Entry)} {s2_2:(List Entry)} {r:Bool} (hF:aO s1_1 s2_2=some r) :
  FnM Tryz.prog 11 [(vL Entry.enc s1_1),(vL Entry.enc s2_2),(.fn 12 [])] [] (vB r) []:=by
 refine FnM.of_wH ⟨Tryz.prog,32,[],[]⟩ rfl Tryz.func11 rfl rfl (lb_ rfl) (by kernel_rfl) ?_
 unfold aO at hF
 refine aj (aa (vB false) (ah (au (aj (aa (vL Entry.enc s1_1) (dE yf rfl wz (aa (vL Entry.enc s2_2) (dE yf rfl wz (aa (vB ((s1_1.length:Int) != (s2_2.length:Int))) (ah ?_))))))))))
 rcases ak hF with⟨hc_4,hF⟩|⟨hc_4,hF⟩
 ·refine aD rfl hc_4 (aj (aa (vB false) (ah ?_)))
  obtain rfl:=ae hF
  exact aB (aM [(vB false)] ⟨rfl,trivial⟩)
 ·refine aF rfl hc_4 (aC (au (aj (aa (vL Entry.enc s1_1) (dE yf rfl wz (aa (vI 0) (ah ?_)))))))
  obtain ⟨o_13,hj_14,hF⟩:=bind_some hF
  obtain ⟨hn_9,hj_14⟩:=bI hj_14
  refine fH (λ(s_10:Unit)=>[]) (λ(s_10:Unit)=>[]) (λ(k_5:Nat)=>(λ(s_10:Unit)=>[(1,(vL Entry.enc s2_2)),(2,(.fn 12 [])),(15,(vL Entry.enc s1_1)),(16,(vI (s1_1.length:Int))),(17,(vI (k_5:Int)))])) (λk x s=>aI s2_2 k x s) o_13 s1_1 () hj_14 rfl (aN rfl) ?_ ?_
  ·rintro ⟨k_5,l_6,s_10⟩ ⟨hL_12,hD_8⟩
   dsimp only at hL_12 hD_8
   cases l_6 with
   | nil =>
    obtain rfl:=ae hL_12
    refine aj (aa (vB (decide ((k_5:Int)<(s1_1.length:Int)))) (ah ?_))
    refine au (aF rfl (drop_nil hD_8) (bM ?_))
    exact bG (s_10) rfl rfl (aN rfl)
   | cons x_7 l_6 =>
    obtain ⟨c_,hc_11,hL_12⟩:=bind_some hL_12
    refine aj (aa (vB (decide ((k_5:Int)<(s1_1.length:Int)))) (ah ?_))
    refine au (aD rfl (bQ hD_8) (aC ?_))
    unfold aI at hc_11
    refine au (bg (aj (aa (vI (k_5:Int)) (dJ vF rfl rfl (dB hD_8) rfl wz (bD iw lN rfl (.d (.agg (Entry.enc x_7))) rfl wz (gY 0 (.inl rfl) z39 rfl wz (λn_15=>aa (vI (k_5:Int)) (gK 0 il ft 0 iw rfl rfl (Entry.v x_7) rfl wz (ah (aj (aa (vL Entry.enc s2_2) (aa (vI (k_5:Int)) ?_))))))))))))
    obtain ⟨y_16,hy_17,hc_11⟩:=bind_some hc_11
    refine dJ vF rfl rfl hy_17 rfl wz (bD iw lN rfl (.d (.agg (Entry.enc y_16))) rfl wz (gY 0 (.inl rfl) z39 rfl wz (λn_18=>gK 0 il ft 1 iw rfl rfl (Entry.v y_16) rfl wz (ah (aj (aa (.fn 12 []) (aK 0 0 il ft iw lN rfl rfl (.d (.agg (Entry.enc x_7))) rfl wz (aK 0 1 il ft iw lN rfl rfl (.d (.agg (Entry.enc y_16))) rfl wz ?_))))))))
    obtain ⟨r_19,hr_20,hc_11⟩:=bind_some hc_11
    refine aA (vo hr_20) rfl hb12 rfl rfl rfl rfl wz (aa (vB (!r_19)) (ah ?_))
    rcases ak hc_11 with⟨hc_21,hc_11⟩|⟨hc_21,hc_11⟩
    ·refine aD rfl hc_21 (aj (aa (vB false) (ah ?_)))
     obtain rfl:=ae hc_11
     obtain rfl:=ae hL_12
     obtain rfl:=ae hF
     exact aB (aM [(vB false)] ⟨rfl,trivial⟩)
    ·refine aF rfl hc_21 (aC (ax (gM (bZ hD_8 hn_9) wz rfl (aa (vI ((k_5+1:Nat):Int)) (ah ?_)))))
     obtain rfl:=ae hc_11
     exact bK (k_5+1,l_6,()) ⟨hL_12,bv hD_8⟩ (ls_ _) rfl (aN rfl)
  ·rintro s_10 ho_ sl_ H_ hp_ hq_
   subst ho_
   refine aU _ hp_ hq_ (aj (aa (vB true) (ah ?_)))
   obtain rfl:=ae hF
   exact aB (aM [(vB true)] ⟨rfl,trivial⟩)
theorem oK {wv_1:Window} {r:Int} (hF:gX wv_1=some r) :
  FnM Tryz.prog 64 [(.d (.agg (Window.enc wv_1)))] [] (vI r) []:=by
 refine FnM.of_wH ⟨Tryz.prog,19,[],[]⟩ rfl Tryz.func64 rfl rfl (lb_ rfl) (by kernel_rfl) ?_
 unfold gX at hF
 refine aj (mo 0 (.inl rfl) [(vI wv_1.From),(vI wv_1.To)] rfl rfl wz (λn_2=>aa (vI 0) (ah (au (au ?_)))))
 obtain ⟨v_3,h_4,hF⟩:=bind_some hF
 refine aW [(1,(.ref n_2 0 0)),(12,(vB v_3))] [(n_2,some (.cells 2 [(vI wv_1.From),(vI wv_1.To)]))] ?_ ?_
 ·refine ax (aL pR rfl 0 rfl wz (aK 0 0 il ft sz3 ag3 rfl rfl (vI wv_1.From) rfl wz (aL pz rfl 1 rfl wz (aK 0 0 il ft sz3 ag3 rfl rfl (vI wv_1.To) rfl wz ?_))))
  obtain ⟨r_5,hr_6,h_4⟩:=bind_some h_4
  refine aA (dY hr_6) rfl zI rfl rfl rfl rfl wz ?_
  rcases ak h_4 with⟨hc_7,h_4⟩|⟨hc_7,h_4⟩
  ·refine ay rfl hc_7 wz (af (af (af (aa (vB true) (ah ?_)))))
   obtain rfl:=ae h_4
   exact cu
  ·refine ay rfl hc_7 wz (aL pz rfl 1 rfl wa (aK 0 0 il ft sz3 ag3 rfl rfl (vI wv_1.To) rfl wa (aG (vB (decide (wv_1.To>345686400000))) wa rfl (aa (vB (decide (wv_1.To>345686400000))) (ah ?_)))))
   obtain rfl:=ae h_4
   exact cu
 ·rintro ⟨⟩ _ sl_ H_ hp_ hq_
  refine aU _ hp_ hq_ ?_
  rcases ak hF with⟨hc_8,hF⟩|⟨hc_8,hF⟩
  ·refine aD rfl hc_8 (aj (aa (vI 1) (ah ?_)))
   obtain rfl:=ae hF
   exact aB (aM [(vI 1)] ⟨rfl,trivial⟩)
  ·refine aF rfl hc_8 (aC (au (aj (aL pz rfl 1 rfl wz (aK 0 0 il ft sz3 ag3 rfl rfl (vI wv_1.To) rfl wz (aL pR rfl 0 rfl wz (aK 0 0 il ft sz3 ag3 rfl rfl (vI wv_1.From) rfl wz (aa (vI (w64 (wv_1.To-wv_1.From))) (aa (vB (decide ((w64 (wv_1.To-wv_1.From))>34560000000))) (ah ?_))))))))))
   rcases ak hF with⟨hc_9,hF⟩|⟨hc_9,hF⟩
   ·refine aD rfl hc_9 (aj (aa (vI 2) (ah ?_)))
    obtain rfl:=ae hF
    exact aB (aM [(vI 2)] ⟨rfl,trivial⟩)
   ·refine aF rfl hc_9 (aC (aj (aa (vI 0) (ah ?_))))
    obtain rfl:=ae hF
    exact aB (aM [(vI 0)] ⟨rfl,trivial⟩)
theorem oU {x_1:Int} {r:Bool} (hF:cmp_isNaN_int x_1=some r) :
  FnM Tryz.prog 124 [(vI x_1)] [] (vB r) []:=by
 refine FnM.of_wH ⟨Tryz.prog,6,[],[]⟩ rfl Tryz.func124 rfl rfl (lb_ rfl) (by kernel_rfl) ?_
 unfold cmp_isNaN_int at hF
 refine aj (aa (vB false) (ah (aj (aa (vI x_1) (aa (vI x_1) (aa (vB (x_1 != x_1)) (aa (vB (x_1 != x_1)) (ah ?_))))))))
 obtain rfl:=ae hF
 exact aB (aM [(vB (x_1 != x_1))] ⟨rfl,trivial⟩)
theorem xA {x_1:Int} {y_2:Int} {r:Bool} (hF:cmp_Less_int x_1 y_2=some r) :
  FnM Tryz.prog 114 [(vI x_1),(vI y_2)] [] (vB r) []:=by
 refine FnM.of_wH ⟨Tryz.prog,17,[],[]⟩ rfl Tryz.func114 rfl rfl (lb_ rfl) (by kernel_rfl) ?_
 unfold cmp_Less_int at hF
 refine aj (aa (vB false) (ah (au ?_)))
 obtain ⟨v_3,h_4,hF⟩:=bind_some hF
 refine aW [(4,(vB v_3))] [] ?_ ?_
 ·refine ax (aa (vI x_1) ?_)
  obtain ⟨r_5,hr_6,h_4⟩:=bind_some h_4
  refine aA (oU hr_6) rfl hb124 rfl rfl rfl rfl wz ?_
  rcases ak h_4 with⟨hc_7,h_4⟩|⟨hc_7,h_4⟩
  ·refine ay rfl hc_7 wz (aG (vI y_2) wa rfl ?_)
   obtain ⟨r_8,hr_9,h_4⟩:=bind_some h_4
   refine aA (oU hr_9) rfl hb124 rfl rfl rfl rfl wa (aG (vB (!r_8)) wa rfl (aa (vB (!r_8)) ?_))
   rcases ak h_4 with⟨hc_10,h_4⟩|⟨hc_10,h_4⟩
   ·refine ay rfl hc_10 wz (af (af (af (aa (vB true) (aa (vB true) (ah ?_))))))
    obtain rfl:=ae h_4
    exact cu
   ·refine ay rfl hc_10 wz (aG (vI x_1) wa rfl (aG (vI y_2) wa rfl (aG (vB (decide (x_1<y_2))) wa rfl (aa (vB (decide (x_1<y_2))) (aa (vB (decide (x_1<y_2))) (ah ?_))))))
    obtain rfl:=ae h_4
    exact cu
  ·refine ay rfl hc_7 wz (af (af (af (aa (vB false) (aa (vB false) (aG (vI x_1) wa rfl (aG (vI y_2) wa rfl (aG (vB (decide (x_1<y_2))) wa rfl (aa (vB (decide (x_1<y_2))) (aa (vB (decide (x_1<y_2))) (ah ?_)))))))))))
   obtain rfl:=ae h_4
   exact cu
 ·rintro ⟨⟩ _ sl_ H_ hp_ hq_
  refine aU _ hp_ hq_ ?_
  obtain rfl:=ae hF
  exact aB (aM [(vB v_3)] ⟨rfl,trivial⟩)
theorem ma {x_1:Int} {r:Bool} (hF:fZ x_1=some r) :
  FnM Tryz.prog 115 [(vI x_1)] [] (vB r) []:=by
 refine FnM.of_wH ⟨Tryz.prog,6,[],[]⟩ rfl Tryz.func115 rfl rfl (lb_ rfl) (by kernel_rfl) ?_
 unfold fZ at hF
 refine aj (aa (vB false) (ah (aj (aa (vI x_1) (aa (vI x_1) (aa (vB (x_1 != x_1)) (aa (vB (x_1 != x_1)) (ah ?_))))))))
 obtain rfl:=ae hF
 exact aB (aM [(vB (x_1 != x_1))] ⟨rfl,trivial⟩)
end Go.Proofs.YtigdobmllbakiabGreatDoor.Law

