/-
 The machine computes these plain functions (written by a program of ours).
-/
import Derived.Test.YtkjlhdminmpmkacGreatDoorFacts
import Derived.Test.YtkjlhdminmpmkacGreatDoorDefs
import Derived.Test.YtkjlhdminmpmkacGreatDoorPf6
open Go Go.Eng Go.Proofs
namespace Go.Proofs.YtkjlhdminmpmkacGreatDoor.Law
set_option maxRecDepth 100000
set_option linter.unusedVariables false
set_option maxHeartbeats 1000000
theorem xL {l_1:(List Alert)} {r:Int} (hF:jT l_1=some r) :
  FnM Tryz.prog 93 [(vL Alert.enc l_1)] [] (vI r) []:=by
 refine FnM.of_wH ⟨Tryz.prog,52,[],[]⟩ rfl Tryz.func93 rfl rfl (lb_ rfl) (by kernel_rfl) ?_
 unfold jT at hF
 refine ai (aa (vI 0) (af (ak (ai (aa (vL Alert.enc l_1) (bH OY rfl wz (aa (vB (decide ((l_1.length:Int)>300))) (af ?_))))))))
 rcases aj hF with⟨hc_2,hF⟩|⟨hc_2,hF⟩
 ·refine aB rfl hc_2 (ai (aa (vI 2) (af ?_)))
  obtain rfl:=ae hF
  exact aA (aL [(vI 2)] ⟨rfl,trivial⟩)
 ·refine ay rfl hc_2 (ax (ak (ai (aa (vL Alert.enc l_1) (bH OY rfl wz (aa (vI 0) (af ?_)))))))
  obtain ⟨o_11,hj_12,hF⟩:=bind_some hF
  obtain ⟨hn_7,hj_12⟩:=aY hj_12
  refine bN (λ(s_8:Unit)=>[(0,(vL Alert.enc l_1))]) (λ(s_8:Unit)=>[]) (λ(k_3:Nat)=>(λ(s_8:Unit)=>[(0,(vL Alert.enc l_1)),(12,(vL Alert.enc l_1)),(13,(vI (l_1.length:Int))),(14,(vI (k_3:Int)))])) (λk x s=>iq l_1 k x s) o_11 l_1 () hj_12 rfl (aK rfl) ?_ ?_
  ·rintro ⟨k_3,l_4,s_8⟩ ⟨hL_10,hD_6⟩
   dsimp only at hL_10 hD_6
   cases l_4 with
   | nil =>
    obtain rfl:=ae hL_10
    refine ai (aa (vB (decide ((k_3:Int)<(l_1.length:Int)))) (af ?_))
    refine ak (ay rfl (drop_nil hD_6) (aW ?_))
    exact aU (s_8) rfl rfl (aK rfl)
   | cons x_5 l_4 =>
    obtain ⟨c_,hc_9,hL_10⟩:=bind_some hL_10
    refine ai (aa (vB (decide ((k_3:Int)<(l_1.length:Int)))) (af ?_))
    refine ak (aB rfl (bu hD_6) (ax ?_))
    unfold iq at hc_9
    refine ak (aM (ai (aa (vI (k_3:Int)) (dC Ng rfl rfl (bD hD_6) rfl wz (bK xy Bo rfl (.d (.agg (Alert.enc x_5))) rfl wz (cz 0 (.inl rfl) z105 rfl wz (λn_13=>aa (vI (k_3:Int)) (eB 0 il ft 0 xy rfl rfl (Alert.v x_5) rfl wz (af (ak (ai (aC 0 0 il ft xy Bo rfl rfl (.d (.agg (Alert.enc x_5))) rfl wz ?_))))))))))))
    obtain ⟨r_14,hr_15,hc_9⟩:=bind_some hc_9
    refine aF (ze hr_15) rfl hb110 rfl rfl rfl rfl wz (aa (vI r_14) (af (ai (aa (vI r_14) (aa (vB (r_14 != 0)) (af ?_))))))
    rcases aj hc_9 with⟨hc_16,hc_9⟩|⟨hc_16,hc_9⟩
    ·refine aB rfl hc_16 (ai (aa (vI r_14) (aa (vI r_14) (af ?_))))
     obtain rfl:=ae hc_9
     obtain rfl:=ae hL_10
     obtain rfl:=ae hF
     exact aA (aL [(vI r_14)] ⟨rfl,trivial⟩)
    ·refine ay rfl hc_16 (ax (ak ?_))
     obtain ⟨v_17,h_18,hc_9⟩:=bind_some hc_9
     refine aS [(0,(vL Alert.enc l_1)),(12,(vL Alert.enc l_1)),(13,(vI (l_1.length:Int))),(14,(vI (k_3:Int))),(35,(vB v_17))] [(n_13,some (.cells 9 (Alert.v x_5)))] ?_ ?_
     ·refine bE (aa (vI (k_3:Int)) (aa (vB (decide ((k_3:Int)>0))) ?_))
      rcases aj h_18 with⟨hc_19,h_18⟩|⟨hc_19,h_18⟩
      ·refine aD rfl hc_19 wz (aJ (vL Alert.enc l_1) wa rfl (aJ (vI (k_3:Int)) wa rfl (aJ (vI (w64 ((k_3:Int)-1))) wa rfl ?_)))
       obtain ⟨y_20,hy_21,h_18⟩:=bind_some h_18
       refine dC Ng rfl rfl hy_21 rfl wa (bK xy Bo rfl (.d (.agg (Alert.enc y_20))) rfl wa (aC 8 0 (.inr (by kernel_rfl)) (λ_ _ ag=>trivial) xy Bo rfl rfl (.d (.agg (Alert.enc x_5))) rfl wa ?_))
       obtain ⟨r_22,hr_23,h_18⟩:=bind_some h_18
       refine aF (BQ hr_23) rfl hb111 rfl rfl rfl rfl wa (aJ (vB (decide (r_22>=0))) wa rfl (aa (vB (decide (r_22>=0))) (af ?_)))
       obtain rfl:=ae h_18
       exact cu
      ·refine aD rfl hc_19 wz (ah (ah (ah (ah (ah (ah (ah (ah (aa (vB false) (af ?_))))))))))
       obtain rfl:=ae h_18
       exact cu
     ·rintro ⟨⟩ _ sl_ H_ hp_ hq_
      refine aO _ hp_ hq_ ?_
      rcases aj hc_9 with⟨hc_24,hc_9⟩|⟨hc_24,hc_9⟩
      ·refine aB rfl hc_24 (ai (aa (vI 7) (af ?_)))
       obtain rfl:=ae hc_9
       obtain rfl:=ae hL_10
       obtain rfl:=ae hF
       exact aA (aL [(vI 7)] ⟨rfl,trivial⟩)
      ·refine ay rfl hc_24 (ax (au (dB (bv hD_6 hn_7) wz rfl (aa (vI ((k_3+1:Nat):Int)) (af ?_)))))
       obtain rfl:=ae hc_9
       exact aV (k_3+1,l_4,()) ⟨hL_10,aR hD_6⟩ (ls_ _) rfl (aK rfl)
  ·rintro s_8 ho_ sl_ H_ hp_ hq_
   subst ho_
   refine aO _ hp_ hq_ (ai (h_mkmap 0 (.inl rfl) wz (λn_25=>xz (b':=some (bM D.str D.bool ([]:List (ByteArray×Bool)))) 0 rfl rfl (aa (.map n_25) (af (ak (ai (aa (vL Alert.enc l_1) (bH OY rfl wz (aa (vI 0) (af ?_)))))))))))
   obtain ⟨o_34,hj_35,hF⟩:=bind_some hF
   obtain ⟨hn_30,hj_35⟩:=aY hj_35
   refine bN (λ(s_31:(List (ByteArray×Bool)))=>[]) (λ(s_31:(List (ByteArray×Bool)))=>[(n_25,some (bM D.str D.bool s_31))]) (λ(k_26:Nat)=>(λ(s_31:(List (ByteArray×Bool)))=>[(6,(.map n_25)),(38,(vL Alert.enc l_1)),(39,(vI (l_1.length:Int))),(40,(vI (k_26:Int)))])) (λk x s=>jO k x s) o_34 l_1 ([]:List (ByteArray×Bool)) hj_35 rfl (aK rfl) ?_ ?_
   ·rintro ⟨k_26,l_27,s_31⟩ ⟨hL_33,hD_29⟩
    dsimp only at hL_33 hD_29
    cases l_27 with
    | nil =>
     obtain rfl:=ae hL_33
     refine ai (aa (vB (decide ((k_26:Int)<(l_1.length:Int)))) (af ?_))
     refine ak (ay rfl (drop_nil hD_29) (aW ?_))
     exact aU (s_31) rfl rfl (aK rfl)
    | cons x_28 l_27 =>
     obtain ⟨c_,hc_32,hL_33⟩:=bind_some hL_33
     refine ai (aa (vB (decide ((k_26:Int)<(l_1.length:Int)))) (af ?_))
     refine ak (aB rfl (bu hD_29) (ax ?_))
     unfold jO at hc_32
     refine ak (aM (ai (dC Ng rfl rfl (bD hD_29) rfl wz (bK xy Bo rfl (.d (.agg (Alert.enc x_28))) rfl wz (cz 0 (.inl rfl) z105 rfl wz (λn_36=>eB 0 il ft 1 xy rfl rfl (Alert.v x_28) rfl wz (af (ak (ai (aa (.map n_25) (aG yJ rfl 0 rfl wz (aC 0 1 il ft sz9 ag9 rfl rfl (vS x_28.Id) rfl wz (Px (eq:=eqS) (kD:=D.str) (vD:=D.bool) (es:=s_31) (k:=x_28.Id) (z:=false) 0 0 il ft (λ_ _=>rfl) mt187 (by kernel_rfl) (by kernel_rfl) rfl rfl rfl (vB ((Mf eqS s_31 x_28.Id).getD false)) rfl wz (af ?_))))))))))))))
     rcases aj hc_32 with⟨hc_37,hc_32⟩|⟨hc_37,hc_32⟩
     ·refine aB rfl hc_37 (ai (aa (vI 6) (af ?_)))
      obtain rfl:=ae hc_32
      obtain rfl:=ae hL_33
      obtain rfl:=ae hF
      exact aA (aL [(vI 6)] ⟨rfl,trivial⟩)
     ·refine ay rfl hc_37 (ax (au (aa (.map n_25) (aG yJ rfl 0 rfl wz (aC 0 1 il ft sz9 ag9 rfl rfl (vS x_28.Id) rfl wz (QE (eq:=eqS) (kD:=D.str) (vD:=D.bool) (es:=s_31) (k:=x_28.Id) (v:=true) 0 0 il ft (λ_ _=>rfl) mt187 (by kernel_rfl) rfl rfl rfl rfl wz (af (au (dB (bv hD_29 hn_30) wz rfl (aa (vI ((k_26+1:Nat):Int)) (af ?_)))))))))))
      obtain rfl:=ae hc_32
      exact aV (k_26+1,l_27,(Pe eqS s_31 x_28.Id true)) ⟨hL_33,aR hD_29⟩ (ls_ _) rfl (aK rfl)
   ·rintro s_31 ho_ sl_ H_ hp_ hq_
    subst ho_
    refine aO _ hp_ hq_ (ai (aa (vI 0) (af ?_)))
    obtain rfl:=ae hF
    exact aA (aL [(vI 0)] ⟨rfl,trivial⟩)
theorem y7 {l_1:(List Post)} {r:Int} (hF:kM l_1=some r) :
  FnM Tryz.prog 94 [(vL Post.enc l_1)] [] (vI r) []:=by
 refine FnM.of_wH ⟨Tryz.prog,44,[],[]⟩ rfl Tryz.func94 rfl rfl (lb_ rfl) (by kernel_rfl) ?_
 unfold kM at hF
 refine ai (aa (vI 0) (af (ak (ai (aa (vL Post.enc l_1) (bH un136 rfl wz (aa (vB (decide ((l_1.length:Int)>500))) (af ?_))))))))
 rcases aj hF with⟨hc_2,hF⟩|⟨hc_2,hF⟩
 ·refine aB rfl hc_2 (ai (aa (vI 2) (af ?_)))
  obtain rfl:=ae hF
  exact aA (aL [(vI 2)] ⟨rfl,trivial⟩)
 ·refine ay rfl hc_2 (ax (ak (ai (aa (vL Post.enc l_1) (bH un136 rfl wz (aa (vI 0) (af ?_)))))))
  obtain ⟨o_11,hj_12,hF⟩:=bind_some hF
  obtain ⟨hn_7,hj_12⟩:=aY hj_12
  refine bN (λ(s_8:Unit)=>[]) (λ(s_8:Unit)=>[]) (λ(k_3:Nat)=>(λ(s_8:Unit)=>[(0,(vL Post.enc l_1)),(8,(vL Post.enc l_1)),(9,(vI (l_1.length:Int))),(10,(vI (k_3:Int)))])) (λk x s=>iP l_1 k x s) o_11 l_1 () hj_12 rfl (aK rfl) ?_ ?_
  ·rintro ⟨k_3,l_4,s_8⟩ ⟨hL_10,hD_6⟩
   dsimp only at hL_10 hD_6
   cases l_4 with
   | nil =>
    obtain rfl:=ae hL_10
    refine ai (aa (vB (decide ((k_3:Int)<(l_1.length:Int)))) (af ?_))
    refine ak (ay rfl (drop_nil hD_6) (aW ?_))
    exact aU (s_8) rfl rfl (aK rfl)
   | cons x_5 l_4 =>
    obtain ⟨c_,hc_9,hL_10⟩:=bind_some hL_10
    refine ai (aa (vB (decide ((k_3:Int)<(l_1.length:Int)))) (af ?_))
    refine ak (aB rfl (bu hD_6) (ax ?_))
    unfold iP at hc_9
    refine ak (aM (ai (aa (vI (k_3:Int)) (dC O4 rfl rfl (bD hD_6) rfl wz (bK Nk PD rfl (.d (.agg (Post.enc x_5))) rfl wz (cz 0 (.inl rfl) z109 rfl wz (λn_13=>aa (vI (k_3:Int)) (eB 0 il ft 0 Nk rfl rfl (Post.v x_5) rfl wz (af (aM (ai (aG Hr rfl 0 rfl wz (aC 0 0 il ft sz9 ag9 rfl rfl (vS x_5.Player) rfl wz ?_)))))))))))))
    obtain ⟨r_14,hr_15,hc_9⟩:=bind_some hc_9
    refine aF (d9 hr_15) rfl AQ rfl rfl rfl rfl wz (aa (vB (!r_14)) (aa (vB (!r_14)) (af ?_)))
    rcases aj hc_9 with⟨hc_16,hc_9⟩|⟨hc_16,hc_9⟩
    ·refine aB rfl hc_16 (ai (aa (vI 5) (af ?_)))
     obtain rfl:=ae hc_9
     obtain rfl:=ae hL_10
     obtain rfl:=ae hF
     exact aA (aL [(vI 5)] ⟨rfl,trivial⟩)
    ·refine ay rfl hc_16 (ak ?_)
     obtain ⟨v_17,h_18,hc_9⟩:=bind_some hc_9
     refine aS [(0,(vL Post.enc l_1)),(3,(vI (k_3:Int))),(4,(.ref n_13 0 0)),(8,(vL Post.enc l_1)),(9,(vI (l_1.length:Int))),(10,(vI (k_3:Int))),(20,(vB v_17))] [(n_13,some (.cells 3 (Post.v x_5)))] ?_ ?_
     ·refine au (aG IM rfl 1 rfl wz (aC 0 0 il ft sz3 ag3 rfl rfl (vI x_5.X) rfl wz ?_))
      obtain ⟨r_19,hr_20,h_18⟩:=bind_some h_18
      refine aF (bA hr_20) rfl rC rfl rfl rfl rfl wz ?_
      rcases aj h_18 with⟨hc_21,h_18⟩|⟨hc_21,h_18⟩
      ·refine aD rfl hc_21 wz (ah (ah (ah (aa (vB true) (aa (vB true) (af ?_))))))
       obtain rfl:=ae h_18
       exact cu
      ·refine aD rfl hc_21 wz (aG Hf rfl 2 rfl wa (aC 0 0 il ft sz3 ag3 rfl rfl (vI x_5.Y) rfl wa ?_))
       obtain ⟨r_22,hr_23,h_18⟩:=bind_some h_18
       refine aF (bA hr_23) rfl rC rfl rfl rfl rfl wa (aa (vB r_22) (aa (vB r_22) (af ?_)))
       obtain rfl:=ae h_18
       exact cu
     ·rintro ⟨⟩ _ sl_ H_ hp_ hq_
      refine aO _ hp_ hq_ ?_
      rcases aj hc_9 with⟨hc_24,hc_9⟩|⟨hc_24,hc_9⟩
      ·refine aB rfl hc_24 (ai (aa (vI 1) (af ?_)))
       obtain rfl:=ae hc_9
       obtain rfl:=ae hL_10
       obtain rfl:=ae hF
       exact aA (aL [(vI 1)] ⟨rfl,trivial⟩)
      ·refine ay rfl hc_24 (ak ?_)
       obtain ⟨v_25,h_26,hc_9⟩:=bind_some hc_9
       refine aS [(0,(vL Post.enc l_1)),(8,(vL Post.enc l_1)),(9,(vI (l_1.length:Int))),(10,(vI (k_3:Int))),(29,(vB v_25))] [(n_13,some (.cells 3 (Post.v x_5)))] ?_ ?_
       ·refine bE (aa (vI (k_3:Int)) (aa (vB (decide ((k_3:Int)>0))) ?_))
        rcases aj h_26 with⟨hc_27,h_26⟩|⟨hc_27,h_26⟩
        ·refine aD rfl hc_27 wz (aG Hr rfl 0 rfl wa (aC 4 0 (.inr (by kernel_rfl)) (λ_ _ ag=>trivial) sz9 ag9 rfl rfl (vS x_5.Player) rfl wa (aJ (vL Post.enc l_1) wa rfl (aJ (vI (k_3:Int)) wa rfl (aJ (vI (w64 ((k_3:Int)-1))) wa rfl ?_)))))
         obtain ⟨y_28,hy_29,h_26⟩:=bind_some h_26
         refine dC O4 rfl rfl hy_29 rfl wa (rQ Hr rfl [.str y_28.Player,.int .i64 y_28.X,.int .i64 y_28.Y] rfl rfl wa (bK sz9 ag9 rfl (vS y_28.Player) rfl wa (aJ (vB (sLe x_5.Player y_28.Player)) wa rfl (aa (vB (sLe x_5.Player y_28.Player)) (aa (vB (sLe x_5.Player y_28.Player)) (af ?_))))))
         obtain rfl:=ae h_26
         exact cu
        ·refine aD rfl hc_27 wz (ah (ah (ah (ah (ah (ah (ah (ah (ah (aa (vB false) (aa (vB false) (af ?_))))))))))))
         obtain rfl:=ae h_26
         exact cu
       ·rintro ⟨⟩ _ sl_ H_ hp_ hq_
        refine aO _ hp_ hq_ ?_
        rcases aj hc_9 with⟨hc_30,hc_9⟩|⟨hc_30,hc_9⟩
        ·refine aB rfl hc_30 (ai (aa (vI 7) (af ?_)))
         obtain rfl:=ae hc_9
         obtain rfl:=ae hL_10
         obtain rfl:=ae hF
         exact aA (aL [(vI 7)] ⟨rfl,trivial⟩)
        ·refine ay rfl hc_30 (ax (au (dB (bv hD_6 hn_7) wz rfl (aa (vI ((k_3+1:Nat):Int)) (af ?_)))))
         obtain rfl:=ae hc_9
         exact aV (k_3+1,l_4,()) ⟨hL_10,aR hD_6⟩ (ls_ _) rfl (aK rfl)
  ·rintro s_8 ho_ sl_ H_ hp_ hq_
   subst ho_
   refine aO _ hp_ hq_ (ai (aa (vI 0) (af ?_)))
   obtain rfl:=ae hF
   exact aA (aL [(vI 0)] ⟨rfl,trivial⟩)
theorem zZ {l_1:(List Alert)} {posts_2:(List Post)} {r:Int} (hF:lL l_1 posts_2=some r) :
  FnM Tryz.prog 70 [(vL Alert.enc l_1),(vL Post.enc posts_2)] [] (vI r) []:=by
 refine FnM.of_wH ⟨Tryz.prog,13,[],[]⟩ rfl Tryz.func70 rfl rfl (lb_ rfl) (by kernel_rfl) ?_
 unfold lL at hF
 refine ai (aa (vI 0) (af (ak (ai (aa (vL Alert.enc l_1) ?_)))))
 obtain ⟨r_3,hr_4,hF⟩:=bind_some hF
 refine aF (xL hr_4) rfl hb93 rfl rfl rfl rfl wz (aa (vI r_3) (af (ai (aa (vI r_3) (aa (vB (r_3 != 0)) (af ?_))))))
 rcases aj hF with⟨hc_5,hF⟩|⟨hc_5,hF⟩
 ·refine aB rfl hc_5 (ai (aa (vI r_3) (aa (vI r_3) (af ?_))))
  obtain rfl:=ae hF
  exact aA (aL [(vI r_3)] ⟨rfl,trivial⟩)
 ·refine ay rfl hc_5 (ax (ai (aa (vL Post.enc posts_2) ?_)))
  obtain ⟨r_6,hr_7,hF⟩:=bind_some hF
  refine aF (y7 hr_7) rfl hb94 rfl rfl rfl rfl wz (aa (vI r_6) (af ?_))
  obtain rfl:=ae hF
  exact aA (aL [(vI r_6)] ⟨rfl,trivial⟩)
theorem zW {r_1:Rect} {p_2:Post} {r:Bool} (hF:q8 r_1 p_2=some r) :
  FnM Tryz.prog 96 [(.d (.agg (Rect.enc r_1))),(.ref (av 0) 0 0)] [(.cells 3 (Post.v p_2))] (vB r) [some (.cells 3 (Post.v p_2))]:=by
 refine FnM.of_wH ⟨Tryz.prog,36,[],[]⟩ rfl Tryz.func96 rfl rfl (lb_ rfl) (by kernel_rfl) ?_
 unfold q8 at hF
 refine ai (gz 0 (.inl rfl) (Rect.v r_1) rfl rfl wz (λn_3=>aa (vB false) (af (ak ?_))))
 obtain ⟨v_4,h_5,hF⟩:=bind_some hF
 refine aS [(3,(vB v_4))] [((av 0),some (.cells 3 (Post.v p_2))),(n_3,some (.cells 4 (Rect.v r_1)))] ?_ ?_
 ·refine au (aG Cs rfl 0 rfl wz (aC 0 1 il ft sz3 ag3 rfl rfl (vI r_1.X) rfl wz (aG IM rfl 1 rfl wz (aC 0 0 il ft sz3 ag3 rfl rfl (vI p_2.X) rfl wz (aa (vB (decide (r_1.X<=p_2.X))) ?_)))))
  rcases aj h_5 with⟨hc_6,h_5⟩|⟨hc_6,h_5⟩
  ·refine aD rfl hc_6 wz (aG IM rfl 1 rfl wa (aC 0 0 il ft sz3 ag3 rfl rfl (vI p_2.X) rfl wa (aG Cs rfl 0 rfl wa (aC 0 1 il ft sz3 ag3 rfl rfl (vI r_1.X) rfl wa (aG HV rfl 2 rfl wa (aC 0 1 il ft sz3 ag3 rfl rfl (vI r_1.W) rfl wa (aJ (vI (w64 (r_1.X+r_1.W))) wa rfl (aJ (vB (decide (p_2.X<(w64 (r_1.X+r_1.W))))) wa rfl (aa (vB (decide (p_2.X<(w64 (r_1.X+r_1.W))))) ?_)))))))))
   rcases aj h_5 with⟨hc_7,h_5⟩|⟨hc_7,h_5⟩
   ·refine aD rfl hc_7 wz (aG yn rfl 1 rfl wa (aC 0 1 il ft sz3 ag3 rfl rfl (vI r_1.Y) rfl wa (aG Hf rfl 2 rfl wa (aC 0 0 il ft sz3 ag3 rfl rfl (vI p_2.Y) rfl wa (aJ (vB (decide (r_1.Y<=p_2.Y))) wa rfl (aa (vB (decide (r_1.Y<=p_2.Y))) ?_))))))
    rcases aj h_5 with⟨hc_8,h_5⟩|⟨hc_8,h_5⟩
    ·refine aD rfl hc_8 wz (aG Hf rfl 2 rfl wa (aC 0 0 il ft sz3 ag3 rfl rfl (vI p_2.Y) rfl wa (aG yn rfl 1 rfl wa (aC 0 1 il ft sz3 ag3 rfl rfl (vI r_1.Y) rfl wa (aG EL rfl 3 rfl wa (aC 0 1 il ft sz3 ag3 rfl rfl (vI r_1.H) rfl wa (aJ (vI (w64 (r_1.Y+r_1.H))) wa rfl (aJ (vB (decide (p_2.Y<(w64 (r_1.Y+r_1.H))))) wa rfl (aa (vB (decide (p_2.Y<(w64 (r_1.Y+r_1.H))))) (aa (vB (decide (p_2.Y<(w64 (r_1.Y+r_1.H))))) (af ?_)))))))))))
     obtain rfl:=ae h_5
     exact cu
    ·refine aD rfl hc_8 wz (ah (ah (ah (ah (ah (ah (ah (ah (aa (vB false) (aa (vB false) (af ?_)))))))))))
     obtain rfl:=ae h_5
     exact cu
   ·refine aD rfl hc_7 wz (ah (ah (ah (ah (ah (aa (vB false) (aa (vB false) (ah (ah (ah (ah (ah (ah (ah (ah (aa (vB false) (aa (vB false) (af ?_))))))))))))))))))
    obtain rfl:=ae h_5
    exact cu
  ·refine aD rfl hc_6 wz (ah (ah (ah (ah (ah (ah (ah (ah (aa (vB false) (aa (vB false) (ah (ah (ah (ah (ah (aa (vB false) (aa (vB false) (ah (ah (ah (ah (ah (ah ?_)))))))))))))))))))))))
   refine ah (ah (aa (vB false) (aa (vB false) (af ?_))))
   obtain rfl:=ae h_5
   exact cu
 ·rintro ⟨⟩ _ sl_ H_ hp_ hq_
  refine aO _ hp_ hq_ ?_
  obtain rfl:=ae hF
  exact aA (Ao (.inr rfl) [(vB v_4)] _ [0] [av 0] ⟨rfl,trivial⟩ (.cons (jB rfl rfl) (.nil)) (by kernel_rfl) ⟨(by kernel_rfl),trivial⟩ (by decide) (by kernel_rfl))
theorem nu {s_1:(List Rect)} {f_2:Rect->Option Bool} {r:Int} {gid:FuncId} {caps:List V} {Sin:List Box} (hfn:∀x0 r,f_2 x0=some r->FnM Tryz.prog gid ([(.d (.agg (Rect.enc x0)))]++caps) Sin (vB r) (Sin.map some)) (hbF:aH Tryz.prog gid=true) (hcapF:caps.flatMap frz=[]/\caps.map co0=caps) (hokF:okL Sin.length caps=true) (hsF:∀b∈Sin,b.ok Sin.length=true) (hmF:∀b∈Sin,b.mut=true) (hF:fK s_1 f_2=some r) :
  FnM Tryz.prog 112 [(vL Rect.enc s_1),(.fn gid caps)] Sin (vI r) (Sin.map some):=by
 refine FnM.of_wH ⟨Tryz.prog,19,[],[]⟩ rfl Tryz.func112 rfl rfl (lb_ rfl) (by kernel_rfl) ?_
 unfold fK at hF
 refine ai (aa (vI 0) (af (ak (ai (aa (vL Rect.enc s_1) (bH Ca rfl wz (aa (vI 0) (af ?_))))))))
 obtain ⟨o_11,hj_12,hF⟩:=bind_some hF
 obtain ⟨hn_7,hj_12⟩:=aY hj_12
 refine bN (λ(s_8:Unit)=>[]) (λ(s_8:Unit)=>(pE 0 Sin)) (λ(k_3:Nat)=>(λ(s_8:Unit)=>[(0,(vL Rect.enc s_1)),(1,(.fn gid caps)),(7,(vI (s_1.length:Int))),(8,(vI (k_3:Int)))])) (λk x s=>fu f_2 k x s) o_11 s_1 () hj_12 rfl (vR _) ?_ ?_
 ·rintro ⟨k_3,l_4,s_8⟩ ⟨hL_10,hD_6⟩
  dsimp only at hL_10 hD_6
  cases l_4 with
  | nil =>
   obtain rfl:=ae hL_10
   refine ai (aa (vB (decide ((k_3:Int)<(s_1.length:Int)))) (af ?_))
   refine ak (ay rfl (drop_nil hD_6) (aW ?_))
   exact aU (s_8) rfl rfl (vR _)
  | cons x_5 l_4 =>
   obtain ⟨c_,hc_9,hL_10⟩:=bind_some hL_10
   refine ai (aa (vB (decide ((k_3:Int)<(s_1.length:Int)))) (af ?_))
   refine ak (aB rfl (bu hD_6) (ax ?_))
   unfold fu at hc_9
   refine ak (aM (ai (aa (vI (k_3:Int)) (aa (vI (k_3:Int)) (af (ai (aa (.fn gid caps) (aa (vL Rect.enc s_1) (aa (vI (k_3:Int)) (dC I8 rfl rfl (bD hD_6) rfl wz (bK x9 JL rfl (.d (.agg (Rect.enc x_5))) rfl wz ?_)))))))))))
   obtain ⟨r_13,hr_14,hc_9⟩:=bind_some hc_9
   refine DV (hfn _ _ hr_14) rfl hbF rfl rfl hcapF hokF hsF hmF rfl wz rfl (af ?_)
   rcases aj hc_9 with⟨hc_15,hc_9⟩|⟨hc_15,hc_9⟩
   ·refine aB rfl hc_15 (ai (aa (vI (k_3:Int)) (aa (vI (k_3:Int)) (af ?_))))
    obtain rfl:=ae hc_9
    obtain rfl:=ae hL_10
    obtain rfl:=ae hF
    exact aA (N9 hsF (.inr rfl) [(vI (k_3:Int))] ⟨rfl,trivial⟩ rfl rfl rfl)
   ·refine ay rfl hc_15 (ax (au (dB (bv hD_6 hn_7) wz rfl (aa (vI ((k_3+1:Nat):Int)) (af ?_)))))
    obtain rfl:=ae hc_9
    exact aV (k_3+1,l_4,()) ⟨hL_10,aR hD_6⟩ (ls_ _) rfl (vR _)
 ·rintro s_8 ho_ sl_ H_ hp_ hq_
  subst ho_
  refine aO _ hp_ hq_ (ai (aa (vI (-1)) (af ?_)))
  obtain rfl:=ae hF
  exact aA (N9 hsF (.inr rfl) [(vI (-1))] ⟨rfl,trivial⟩ rfl rfl rfl)
theorem lX {s_1:(List Rect)} {f_2:Rect->Option Bool} {r:Bool} {gid:FuncId} {caps:List V} {Sin:List Box} (hfn:∀x0 r,f_2 x0=some r->FnM Tryz.prog gid ([(.d (.agg (Rect.enc x0)))]++caps) Sin (vB r) (Sin.map some)) (hbF:aH Tryz.prog gid=true) (hcapF:caps.flatMap frz=[]/\caps.map co0=caps) (hokF:okL Sin.length caps=true) (hsF:∀b∈Sin,b.ok Sin.length=true) (hmF:∀b∈Sin,b.mut=true) (hF:eZ s_1 f_2=some r) :
  FnM Tryz.prog 95 [(vL Rect.enc s_1),(.fn gid caps)] Sin (vB r) (Sin.map some):=by
 refine FnM.of_wH ⟨Tryz.prog,9,[],[]⟩ rfl Tryz.func95 rfl rfl (lb_ rfl) (by kernel_rfl) ?_
 unfold eZ at hF
 refine ai (aa (vB false) (af (ai (aa (vL Rect.enc s_1) (aa (.fn gid caps) ?_)))))
 obtain ⟨r_3,hr_4,hF⟩:=bind_some hF
 refine DV (nu (gid:=gid) (caps:=caps) (Sin:=Sin) hfn hbF hcapF hokF hsF hmF hr_4) rfl hb112 rfl rfl ⟨rfl,rfl⟩ (by simp [okL,okV,hokF]) hsF hmF rfl wz rfl (aa (vB (decide (r_3>=0))) (aa (vB (decide (r_3>=0))) (af ?_)))
 obtain rfl:=ae hF
 exact aA (N9 hsF (.inr rfl) [(vB (decide (r_3>=0)))] ⟨rfl,trivial⟩ rfl rfl rfl)
theorem BO {a_1:Alert} {p_2:Post} {r:Bool} (hF:qp a_1 p_2=some r) :
  FnM Tryz.prog 71 [(.d (.agg (Alert.enc a_1))),(.d (.agg (Post.enc p_2)))] [] (vB r) []:=by
 refine FnM.of_wH ⟨Tryz.prog,9,[],[]⟩ rfl Tryz.func71 rfl rfl (lb_ rfl) (by kernel_rfl) ?_
 unfold qp at hF
 refine ai (gz 0 (.inl rfl) (Alert.v a_1) rfl rfl wz (λn_3=>gz 0 (.inl rfl) (Post.v p_2) rfl rfl wz (λn_4=>aa (vB false) (af (ai (aG DC rfl 7 rfl wz (aC 0 0 il ft NM NA rfl rfl (vL Rect.enc a_1.Areas) rfl wz (aa (.fn 96 [(.ref n_4 0 0)]) ?_))))))))
 obtain ⟨r_5,hr_6,hF⟩:=bind_some hF
 refine dA 0 [1] il ft (lX (gid:=96) (caps:=[.ref (av 0) 0 0]) (Sin:=[(.cells 3 (Post.v p_2))]) (λ_ _ h_=>zW h_) hb96 ⟨rfl,rfl⟩ (by kernel_rfl) (Pq (by kernel_rfl)) (MR (by kernel_rfl)) hr_6) rfl hb95 rfl (by kernel_rfl) (by kernel_rfl) (by kernel_rfl) (by kernel_rfl) (by kernel_rfl) (by kernel_rfl) (by kernel_rfl) (by decide) (by kernel_rfl) wz (vB r_5) (by kernel_rfl) ([(n_3,some (.cells 9 (Alert.v a_1))),(n_4,some (.cells 3 (Post.v p_2)))]:Hp) (by kernel_rfl) (aa (vB r_5) (af ?_))
 obtain rfl:=ae hF
 exact aA (aL [(vB r_5)] ⟨rfl,trivial⟩)
theorem BF {a_1:Alert} {p_2:Post} {r:Bool×Int} (hF:nX a_1 p_2=some r) :
  FnM Tryz.prog 46 [(.d (.agg (Alert.enc a_1))),(.d (.agg (Post.enc p_2)))] [] (.tup [(vB r.1),(vI r.2)]) []:=by
 refine FnM.of_wH ⟨Tryz.prog,18,[],[]⟩ rfl Tryz.func46 rfl rfl (lb_ rfl) (by kernel_rfl) ?_
 unfold nX at hF
 refine ai (gz 0 (.inl rfl) (Alert.v a_1) rfl rfl wz (λn_3=>gz 0 (.inl rfl) (Post.v p_2) rfl rfl wz (λn_4=>aa (vB false) (aa (vI 0) (af (ak (ai (aC 0 0 il ft xy Bo rfl rfl (.d (.agg (Alert.enc a_1))) rfl wz (dU (([a_1]:List Alert).map Alert.enc) Ng ez135 rfl rfl rfl rfl rfl wz (aC 0 1 il ft Nk PD rfl rfl (.d (.agg (Post.enc p_2))) rfl wz (dU (([p_2]:List Post).map Post.enc) O4 ez136 rfl rfl rfl rfl rfl wz ?_)))))))))))
 obtain ⟨r_5,hr_6,hF⟩:=bind_some hF
 refine aF (zZ hr_6) rfl hb70 rfl rfl rfl rfl wz (aa (vI r_5) (af (ai (aa (vI r_5) (aa (vB (r_5 != 0)) (af ?_))))))
 rcases aj hF with⟨hc_7,hF⟩|⟨hc_7,hF⟩
 ·refine aB rfl hc_7 (ai (aa (vI r_5) (aa (vB false) (aa (vI r_5) (af ?_)))))
  obtain rfl:=ae hF
  exact aA (aL [(vB false),(vI r_5)] ⟨rfl,⟨rfl,trivial⟩⟩)
 ·refine ay rfl hc_7 (ax (ai (aC 0 0 il ft xy Bo rfl rfl (.d (.agg (Alert.enc a_1))) rfl wz (aC 0 1 il ft Nk PD rfl rfl (.d (.agg (Post.enc p_2))) rfl wz ?_))))
  obtain ⟨r_8,hr_9,hF⟩:=bind_some hF
  refine aF (BO hr_9) rfl hb71 rfl rfl rfl rfl wz (aa (vB r_8) (aa (vI 0) (af ?_)))
  obtain rfl:=ae hF
  exact aA (aL [(vB r_8),(vI 0)] ⟨rfl,⟨rfl,trivial⟩⟩)
theorem Iw {l_1:(List Int)} {r:Int} (hF:yR l_1=some r) :
  FnM Tryz.prog 47 [(vL eI l_1)] [] (vI r) []:=by
 refine FnM.of_wH ⟨Tryz.prog,15,[],[]⟩ rfl Tryz.func47 rfl rfl (lb_ rfl) (by kernel_rfl) ?_
 unfold yR at hF
 refine ai (aa (vI 0) (af (ak (ai (aa (vL eI l_1) (bH un138 rfl wz (aa (vI 0) (af ?_))))))))
 obtain ⟨o_10,hj_11,hF⟩:=bind_some hF
 obtain ⟨hn_6,hj_11⟩:=aY hj_11
 refine bN (λ(s_7:Unit)=>[]) (λ(s_7:Unit)=>[]) (λ(k_2:Nat)=>(λ(s_7:Unit)=>[(5,(vL eI l_1)),(6,(vI (l_1.length:Int))),(7,(vI (k_2:Int)))])) (λk x s=>wY k x s) o_10 l_1 () hj_11 rfl (aK rfl) ?_ ?_
 ·rintro ⟨k_2,l_3,s_7⟩ ⟨hL_9,hD_5⟩
  dsimp only at hL_9 hD_5
  cases l_3 with
  | nil =>
   obtain rfl:=ae hL_9
   refine ai (aa (vB (decide ((k_2:Int)<(l_1.length:Int)))) (af ?_))
   refine ak (ay rfl (drop_nil hD_5) (aW ?_))
   exact aU (s_7) rfl rfl (aK rfl)
  | cons x_4 l_3 =>
   obtain ⟨c_,hc_8,hL_9⟩:=bind_some hL_9
   refine ai (aa (vB (decide ((k_2:Int)<(l_1.length:Int)))) (af ?_))
   refine ak (aB rfl (bu hD_5) (ax ?_))
   unfold wY at hc_8
   refine ak (aM (ai (dC es138 rfl rfl (bD hD_5) rfl wz (bK sz33 ag33 rfl (vI x_4) rfl wz (aa (vI x_4) (af (ai (aa (vI x_4) (aa (vB (x_4 != 0)) (af ?_))))))))))
   rcases aj hc_8 with⟨hc_12,hc_8⟩|⟨hc_12,hc_8⟩
   ·refine aB rfl hc_12 (ai (aa (vI x_4) (aa (vI x_4) (af ?_))))
    obtain rfl:=ae hc_8
    obtain rfl:=ae hL_9
    obtain rfl:=ae hF
    exact aA (aL [(vI x_4)] ⟨rfl,trivial⟩)
   ·refine ay rfl hc_12 (ax (au (dB (bv hD_5 hn_6) wz rfl (aa (vI ((k_2+1:Nat):Int)) (af ?_)))))
    obtain rfl:=ae hc_8
    exact aV (k_2+1,l_3,()) ⟨hL_9,aR hD_5⟩ (ls_ _) rfl (aK rfl)
 ·rintro s_7 ho_ sl_ H_ hp_ hq_
  subst ho_
  refine aO _ hp_ hq_ (ai (aa (vI 0) (af ?_)))
  obtain rfl:=ae hF
  exact aA (aL [(vI 0)] ⟨rfl,trivial⟩)
theorem FJ {r:Bool} (hF:qf  = some r) :
  FnM Tryz.prog 20 [] [] (vB r) []:=by
 refine FnM.of_wH ⟨Tryz.prog,75,[],[]⟩ rfl Tryz.func20 rfl rfl (lb_ rfl) (by kernel_rfl) ?_
 unfold qf at hF
 refine ai (aa (vB false) (af (ai (aJ (.d (.agg (Rect.enc (⟨0,0,2,2⟩:Rect)))) wz (by kernel_rfl) (aJ (.d (.agg (Rect.enc (⟨1,1,2,2⟩:Rect)))) wz (by kernel_rfl) (dU (([(⟨0,0,2,2⟩:Rect),(⟨1,1,2,2⟩:Rect)]:List Rect).map Rect.enc) I8 ez93 rfl rfl rfl rfl rfl wz ?_))))))
 obtain ⟨r_1,hr_2,hF⟩:=bind_some hF
 refine aF (EY hr_2) rfl hb42 rfl rfl rfl rfl wz (aa (.tup [(vI r_1.1),(vI r_1.2)]) (aa (vI r_1.1) (aa (vI r_1.2) (aa (vI r_1.1) (aa (vI r_1.2) (af (ai (aJ (.agg [(vS (⟨#[97]⟩:ByteArray)),(vS (⟨#[98]⟩:ByteArray)),(vI 0),(vI 0),(vI 0),(vI 1),(vI 127),.nil,(vI 1),(vI 2),(vI 0),.nil,(vB false)]) wz (by kernel_rfl) (aJ (.d (.agg (Window.enc (⟨0,86400000⟩:Window)))) wz (by kernel_rfl) ?_)))))))))
 obtain ⟨r_3,hr_4,hF⟩:=bind_some hF
 refine aF (Aq hr_4) rfl hb43 rfl rfl rfl rfl wz (aa (.tup [(vL Window.enc r_3.1),(vI r_3.2)]) (aa (vL Window.enc r_3.1) (aa (vI r_3.2) (aa (vL Window.enc r_3.1) (aa (vI r_3.2) (af (ai (aJ (.d (.agg (Window.enc (⟨0,100⟩:Window)))) wz (by kernel_rfl) (aJ (.agg [(vS (⟨#[97]⟩:ByteArray)),(vS (⟨#[]⟩:ByteArray)),(vI 0),(vI 100),.nil,(vI 10),(vI 0),(vI 0)]) wz (by kernel_rfl) ?_)))))))))
 obtain ⟨r_5,hr_6,hF⟩:=bind_some hF
 refine aF (Fq hr_6) rfl hb44 rfl rfl rfl rfl wz (aa (.tup [(vI r_5.1),(vI r_5.2)]) (aa (vI r_5.1) (aa (vI r_5.2) (aa (vI r_5.1) (aa (vI r_5.2) (af (ai (aJ (.d (.agg (Beat.enc (⟨(⟨#[112]⟩:ByteArray),0,100⟩:Beat)))) wz (by kernel_rfl) (aJ (.d (.agg (Beat.enc (⟨(⟨#[112]⟩:ByteArray),1000,1300⟩:Beat)))) wz (by kernel_rfl) (dU (([(⟨(⟨#[112]⟩:ByteArray),0,100⟩:Beat),(⟨(⟨#[112]⟩:ByteArray),1000,1300⟩:Beat)]:List Beat).map Beat.enc) Gr ez103 rfl rfl rfl rfl rfl wz ?_))))))))))
 obtain ⟨r_7,hr_8,hF⟩:=bind_some hF
 refine aF (ET hr_8) rfl hb45 rfl rfl rfl rfl wz (aa (.tup [(vI r_7.1),(vI r_7.2)]) (aa (vI r_7.1) (aa (vI r_7.2) (aa (vI r_7.1) (aa (vI r_7.2) (af (aO (H0:=([]:Hp)) ([(1,(vI r_1.1)),(2,(vI r_1.2)),(3,(vL Window.enc r_3.1)),(4,(vI r_3.2)),(5,(vI r_5.1)),(6,(vI r_5.2)),(7,(vI r_7.1)),(8,(vI r_7.2))]:SL_) (by kernel_rfl) (wG (by kernel_rfl)) (ai (aJ (.d (.agg (Rect.enc (⟨0,0,2,2⟩:Rect)))) wz (by kernel_rfl) (dU (([(⟨0,0,2,2⟩:Rect)]:List Rect).map Rect.enc) I8 ez93 rfl rfl rfl rfl rfl wz (aJ (.agg [(vS (⟨#[97]⟩:ByteArray)),(vS (⟨#[115]⟩:ByteArray)),(vI 1),.nil,(vI 0),(vI 5),(vI 1),(vL Rect.enc ([(⟨0,0,2,2⟩:Rect)]:List Rect)),(vS (⟨#[120]⟩:ByteArray))]) wz (by kernel_rfl) (cz 0 (.inl rfl) z105 rfl wz (λn_9=>eB 0 il ft 0 xy rfl rfl [(vS (⟨#[97]⟩:ByteArray)),(vS (⟨#[115]⟩:ByteArray)),(vI 1),.nil,(vI 0),(vI 5),(vI 1),(vL Rect.enc ([(⟨0,0,2,2⟩:Rect)]:List Rect)),(vS (⟨#[120]⟩:ByteArray))] rfl wz (af (ai (aC 0 0 il ft xy Bo rfl rfl (.agg [(vS (⟨#[97]⟩:ByteArray)),(vS (⟨#[115]⟩:ByteArray)),(vI 1),.nil,(vI 0),(vI 5),(vI 1),(vL Rect.enc ([(⟨0,0,2,2⟩:Rect)]:List Rect)),(vS (⟨#[120]⟩:ByteArray))]) rfl wz (aJ (.d (.agg (Post.enc (⟨(⟨#[112]⟩:ByteArray),1,1⟩:Post)))) wz (by kernel_rfl) ?_)))))))))))))))))
 obtain ⟨r_10,hr_11,hF⟩:=bind_some hF
 refine aF (BF hr_11) rfl hb46 rfl rfl rfl rfl wz (aa (.tup [(vB r_10.1),(vI r_10.2)]) (aa (vB r_10.1) (aa (vI r_10.2) (aa (vB r_10.1) (aa (vI r_10.2) (af (ak ?_)))))))
 obtain ⟨v_12,h_13,hF⟩:=bind_some hF
 refine aS [(0,(vB v_12))] [(n_9,some (.cells 9 [(vS (⟨#[97]⟩:ByteArray)),(vS (⟨#[115]⟩:ByteArray)),(vI 1),.nil,(vI 0),(vI 5),(vI 1),(vL Rect.enc ([(⟨0,0,2,2⟩:Rect)]:List Rect)),(vS (⟨#[120]⟩:ByteArray))]))] ?_ ?_
 ·refine au (aa (vI r_1.2) (aa (vI r_3.2) (aa (vI r_5.2) (aa (vI r_7.2) (aa (vI r_10.2) (dU (([r_1.2,r_3.2,r_5.2,r_7.2,r_10.2]:List Int).map eI) es138 ez138 rfl rfl rfl rfl rfl wz ?_))))))
  obtain ⟨r_14,hr_15,h_13⟩:=bind_some h_13
  refine aF (Iw hr_15) rfl hb47 rfl rfl rfl rfl wz (aa (vB (r_14==0)) ?_)
  rcases aj h_13 with⟨hc_16,h_13⟩|⟨hc_16,h_13⟩
  ·refine aD rfl hc_16 wz (aJ (vI r_1.1) wa rfl (aJ (vB (r_1.1==7)) wa rfl (aa (vB (r_1.1==7)) ?_)))
   rcases aj h_13 with⟨hc_17,h_13⟩|⟨hc_17,h_13⟩
   ·refine aD rfl hc_17 wz (aJ (vL Window.enc r_3.1) wa rfl (bH un94 rfl wa (aJ (vB ((r_3.1.length:Int)==1)) wa rfl (aa (vB ((r_3.1.length:Int)==1)) ?_))))
    rcases aj h_13 with⟨hc_18,h_13⟩|⟨hc_18,h_13⟩
    ·refine aD rfl hc_18 wz (aJ (vI r_5.1) wa rfl (aJ (vB (r_5.1==5)) wa rfl (aa (vB (r_5.1==5)) ?_)))
     rcases aj h_13 with⟨hc_19,h_13⟩|⟨hc_19,h_13⟩
     ·refine aD rfl hc_19 wz (aJ (vI r_7.1) wa rfl (aJ (vB (r_7.1==500)) wa rfl (aa (vB (r_7.1==500)) ?_)))
      rcases aj h_13 with⟨hc_20,h_13⟩|⟨hc_20,h_13⟩
      ·refine aD rfl hc_20 wz (aJ (vB r_10.1) wa rfl (aa (vB r_10.1) (aa (vB r_10.1) (af ?_))))
       obtain rfl:=ae h_13
       exact cu
      ·refine aD rfl hc_20 wz (ah (aa (vB false) (aa (vB false) (af ?_))))
       obtain rfl:=ae h_13
       exact cu
     ·refine aD rfl hc_19 wz (ah (ah (aa (vB false) (aa (vB false) (ah (aa (vB false) (aa (vB false) (af ?_))))))))
      obtain rfl:=ae h_13
      exact cu
    ·refine aD rfl hc_18 wz (ah (ah (aa (vB false) (aa (vB false) (ah (ah (aa (vB false) (aa (vB false) (ah (aa (vB false) (aa (vB false) (af ?_))))))))))))
     obtain rfl:=ae h_13
     exact cu
   ·refine aD rfl hc_17 wz (ah (ah (ah (aa (vB false) (aa (vB false) (ah (ah (aa (vB false) (aa (vB false) (ah (ah (aa (vB false) (aa (vB false) (ah (aa (vB false) (aa (vB false) (af ?_)))))))))))))))))
    obtain rfl:=ae h_13
    exact cu
  ·refine aD rfl hc_16 wz (ah (ah (aa (vB false) (aa (vB false) (ah (ah (ah (aa (vB false) (aa (vB false) (ah (ah (aa (vB false) (aa (vB false) (ah (ah (aa (vB false) (aa (vB false) (ah (aa (vB false) (aa (vB false) (af ?_)))))))))))))))))))))
   obtain rfl:=ae h_13
   exact cu
 ·rintro ⟨⟩ _ sl_ H_ hp_ hq_
  refine aO _ hp_ hq_ ?_
  obtain rfl:=ae hF
  exact aA (aL [(vB v_12)] ⟨rfl,trivial⟩)
theorem yf {l_1:(List Int)} {r:Bool} (hF:l6 l_1=some r) :
  FnM Tryz.prog 3 [(vL eI l_1)] [] (vB r) []:=by
 refine FnM.of_wH ⟨Tryz.prog,85,[],[]⟩ rfl Tryz.func3 rfl rfl (lb_ rfl) (by kernel_rfl) ?_
 unfold l6 at hF
 refine ai (aa (vB false) (af (ai (aa (vL eI l_1) (aJ (.d (.agg (Stream.enc (⟨l_1,0⟩:Stream)))) wz (by kernel_rfl) (gz 0 (.inl rfl) [(vL eI l_1),(vI 0)] rfl rfl wz (λn_2=>aa (vL eI l_1) (aJ (.d (.agg (Stream.enc (⟨l_1,0⟩:Stream)))) wz (by kernel_rfl) (gz 0 (.inl rfl) [(vL eI l_1),(vI 0)] rfl rfl wz (λn_3=>aa (.ref n_2 0 0) (aa (.ref n_3 0 0) (af (ai (aa (.ref n_2 0 0) ?_))))))))))))))
 obtain ⟨r_4,hr_5,hF⟩:=bind_some hF
 refine dA 0 [0] il ft (oZ hr_5) rfl hb4 rfl (by kernel_rfl) (by kernel_rfl) (by kernel_rfl) (by kernel_rfl) (by kernel_rfl) (by kernel_rfl) (by kernel_rfl) (by decide) (by kernel_rfl) wz (vL Spot.enc r_4.1) (by kernel_rfl) ([(n_2,some (.cells 2 [(vL eI r_4.2.L),(vI r_4.2.f_at)])),(n_3,some (.cells 2 [(vL eI l_1),(vI 0)]))]:Hp) (by kernel_rfl) (aa (.ref n_2 0 0) ?_)
 obtain ⟨r_7,hr_8,hF⟩:=bind_some hF
 refine dA 0 [0] il ft (l5 hr_8) rfl hb5 rfl (by kernel_rfl) (by kernel_rfl) (by kernel_rfl) (by kernel_rfl) (by kernel_rfl) (by kernel_rfl) (by kernel_rfl) (by decide) (by kernel_rfl) wz (vL Campaign.enc r_7.1) (by kernel_rfl) ([(n_2,some (.cells 2 [(vL eI r_7.2.L),(vI r_7.2.f_at)])),(n_3,some (.cells 2 [(vL eI l_1),(vI 0)]))]:Hp) (by kernel_rfl) (aa (vL Spot.enc r_4.1) (aa (vL Campaign.enc r_7.1) (af (ai (aa (.ref n_3 0 0) ?_)))))
 obtain ⟨r_10,hr_11,hF⟩:=bind_some hF
 refine dA 0 [1] il ft (oZ hr_11) rfl hb4 rfl (by kernel_rfl) (by kernel_rfl) (by kernel_rfl) (by kernel_rfl) (by kernel_rfl) (by kernel_rfl) (by kernel_rfl) (by decide) (by kernel_rfl) wz (vL Spot.enc r_10.1) (by kernel_rfl) ([(n_2,some (.cells 2 [(vL eI r_7.2.L),(vI r_7.2.f_at)])),(n_3,some (.cells 2 [(vL eI r_10.2.L),(vI r_10.2.f_at)]))]:Hp) (by kernel_rfl) (aa (.ref n_3 0 0) ?_)
 obtain ⟨r_13,hr_14,hF⟩:=bind_some hF
 refine dA 0 [1] il ft (l5 hr_14) rfl hb5 rfl (by kernel_rfl) (by kernel_rfl) (by kernel_rfl) (by kernel_rfl) (by kernel_rfl) (by kernel_rfl) (by kernel_rfl) (by decide) (by kernel_rfl) wz (vL Campaign.enc r_13.1) (by kernel_rfl) ([(n_2,some (.cells 2 [(vL eI r_7.2.L),(vI r_7.2.f_at)])),(n_3,some (.cells 2 [(vL eI r_13.2.L),(vI r_13.2.f_at)]))]:Hp) (by kernel_rfl) (aa (vL Spot.enc r_10.1) (aa (vL Campaign.enc r_13.1) (af (ai (aa (.ref n_2 0 0) ?_)))))
 obtain ⟨r_16,hr_17,hF⟩:=bind_some hF
 refine dA 0 [0] il ft (rT hr_17) rfl hb6 rfl (by kernel_rfl) (by kernel_rfl) (by kernel_rfl) (by kernel_rfl) (by kernel_rfl) (by kernel_rfl) (by kernel_rfl) (by decide) (by kernel_rfl) wz (vL Play.enc r_16.1) (by kernel_rfl) ([(n_2,some (.cells 2 [(vL eI r_16.2.L),(vI r_16.2.f_at)])),(n_3,some (.cells 2 [(vL eI r_13.2.L),(vI r_13.2.f_at)]))]:Hp) (by kernel_rfl) (aa (.ref n_3 0 0) ?_)
 obtain ⟨r_19,hr_20,hF⟩:=bind_some hF
 refine dA 0 [1] il ft (rT hr_20) rfl hb6 rfl (by kernel_rfl) (by kernel_rfl) (by kernel_rfl) (by kernel_rfl) (by kernel_rfl) (by kernel_rfl) (by kernel_rfl) (by decide) (by kernel_rfl) wz (vL Play.enc r_19.1) (by kernel_rfl) ([(n_2,some (.cells 2 [(vL eI r_16.2.L),(vI r_16.2.f_at)])),(n_3,some (.cells 2 [(vL eI r_19.2.L),(vI r_19.2.f_at)]))]:Hp) (by kernel_rfl) (aa (vL Play.enc r_16.1) (aa (vL Play.enc r_19.1) (af (ai (aa (vL Spot.enc r_4.1) (aa (vL Campaign.enc r_7.1) ?_))))))
 obtain ⟨r_22,hr_23,hF⟩:=bind_some hF
 refine Ed [.int .i64 r_22.2] [] (BX hr_23) rfl hb7 rfl (by kernel_rfl) (by kernel_rfl) (by kernel_rfl) (by kernel_rfl) (by kernel_rfl) rfl (by decide) (by kernel_rfl) wz ([(n_2,some (.cells 2 [(vL eI r_16.2.L),(vI r_16.2.f_at)])),(n_3,some (.cells 2 [(vL eI r_19.2.L),(vI r_19.2.f_at)]))]:Hp) (λ_=>by kernel_rfl) (λn_25=>aa (.tup [(gV n_25 3 r_22.1),(vI r_22.2)]) (aa (gV n_25 3 r_22.1) (aa (vI r_22.2) (aa (gV n_25 3 r_22.1) (aa (vI r_22.2) (af (aO (H0:=([(n_2,some (.cells 2 [(vL eI r_16.2.L),(vI r_16.2.f_at)])),(n_3,some (.cells 2 [(vL eI r_19.2.L),(vI r_19.2.f_at)])),(n_25,gB 3 Share.enc r_22.1)]:Hp)) ([(5,(vL Spot.enc r_4.1)),(6,(vL Campaign.enc r_7.1)),(7,(vL Spot.enc r_10.1)),(8,(vL Campaign.enc r_13.1)),(9,(vL Play.enc r_16.1)),(10,(vL Play.enc r_19.1)),(11,(gV n_25 3 r_22.1))]:SL_) (by kernel_rfl) (wG (by kernel_rfl)) (ai (aa (gV n_25 3 r_22.1) ?_)))))))))
 obtain ⟨r_26,hr_27,hF⟩:=bind_some hF
 obtain ⟨_,hs_28,hF⟩:=bind_some hF
 replace hs_28:=mR hs_28
 refine sG 0 [] 2 0 il ft (tN hr_27) rfl hb8 rfl rfl rfl (by kernel_rfl) rfl (.inl rfl) rfl (by kernel_rfl) (by kernel_rfl) (by kernel_rfl) (by kernel_rfl) rfl (by decide) (by kernel_rfl) uf (CU hs_28) wz ([(n_2,some (.cells 2 [(vL eI r_16.2.L),(vI r_16.2.f_at)])),(n_3,some (.cells 2 [(vL eI r_19.2.L),(vI r_19.2.f_at)])),(n_25,gB 3 Share.enc r_26)]:Hp) (by kernel_rfl) (gG (v':=(gV n_25 3 r_26)) 11 rfl (jE hs_28.symm) (gG (v':=(gV n_25 3 r_26)) 42 rfl (jE hs_28.symm) (af (ai (aa (vL Spot.enc r_4.1) (aa (vL Campaign.enc r_7.1) ?_))))))
 obtain ⟨r_29,hr_30,hF⟩:=bind_some hF
 refine Ed [.int .i64 r_29.2] [] (Bb hr_30) rfl hb9 rfl (by kernel_rfl) (by kernel_rfl) (by kernel_rfl) (by kernel_rfl) (by kernel_rfl) rfl (by decide) (by kernel_rfl) wz ([(n_2,some (.cells 2 [(vL eI r_16.2.L),(vI r_16.2.f_at)])),(n_3,some (.cells 2 [(vL eI r_19.2.L),(vI r_19.2.f_at)])),(n_25,gB 3 Share.enc r_26)]:Hp) (λ_=>by kernel_rfl) (λn_32=>aa (.tup [(gV n_32 1 r_29.1),(vI r_29.2)]) (aa (gV n_32 1 r_29.1) (aa (vI r_29.2) (aa (gV n_32 1 r_29.1) (aa (vI r_29.2) (af (ai (aa (gV n_32 1 r_29.1) ?_))))))))
 obtain ⟨r_33,hr_34,hF⟩:=bind_some hF
 obtain ⟨_,hs_35,hF⟩:=bind_some hF
 replace hs_35:=mR hs_35
 refine sG 0 [] 3 0 il ft (vz hr_34) rfl hb10 rfl rfl rfl (by kernel_rfl) rfl (.inl rfl) rfl (by kernel_rfl) (by kernel_rfl) (by kernel_rfl) (by kernel_rfl) rfl (by decide) (by kernel_rfl) uf (CU hs_35) wz ([(n_2,some (.cells 2 [(vL eI r_16.2.L),(vI r_16.2.f_at)])),(n_3,some (.cells 2 [(vL eI r_19.2.L),(vI r_19.2.f_at)])),(n_25,gB 3 Share.enc r_26),(n_32,gB 1 eS r_33)]:Hp) (by kernel_rfl) (gG (v':=(gV n_32 1 r_33)) 13 rfl (jE hs_35.symm) (gG (v':=(gV n_32 1 r_33)) 48 rfl (jE hs_35.symm) (gG (v':=(gV n_32 1 r_33)) 50 rfl (jE hs_35.symm) (af (ai (aa (vL Spot.enc r_4.1) (aa (vL Campaign.enc r_7.1) (aJ (.d (.agg (Window.enc (⟨0,100⟩:Window)))) wz (by kernel_rfl) (aJ (.agg [(vS (⟨#[122,122]⟩:ByteArray)),(vS (⟨#[]⟩:ByteArray)),(vI 0),(vI 100),.nil,(vI 0),(vI 3),(vI 0)]) wz (by kernel_rfl) ?_)))))))))
 obtain ⟨r_36,hr_37,hF⟩:=bind_some hF
 refine aF (Di hr_37) rfl hb11 rfl rfl rfl rfl wz (aa (.tup [(vI r_36.1),(vI r_36.2)]) (aa (vI r_36.1) (aa (vI r_36.2) (af (ai (aa (vL Campaign.enc r_7.1) (aa (vL Play.enc r_16.1) ?_)))))))
 obtain ⟨r_38,hr_39,hF⟩:=bind_some hF
 refine Ed [.int .i64 r_38.2] [] (Au hr_39) rfl hb12 rfl (by kernel_rfl) (by kernel_rfl) (by kernel_rfl) (by kernel_rfl) (by kernel_rfl) rfl (by decide) (by kernel_rfl) wz ([(n_2,some (.cells 2 [(vL eI r_16.2.L),(vI r_16.2.f_at)])),(n_3,some (.cells 2 [(vL eI r_19.2.L),(vI r_19.2.f_at)])),(n_25,gB 3 Share.enc r_26),(n_32,gB 1 eS r_33)]:Hp) (λ_=>by kernel_rfl) (λn_41=>aa (.tup [(gV n_41 3 r_38.1),(vI r_38.2)]) (aa (gV n_41 3 r_38.1) (aa (vI r_38.2) (aa (gV n_41 3 r_38.1) (aa (vI r_38.2) (af (ai (aa (gV n_41 3 r_38.1) ?_))))))))
 obtain ⟨r_42,hr_43,hF⟩:=bind_some hF
 obtain ⟨_,hs_44,hF⟩:=bind_some hF
 replace hs_44:=mR hs_44
 refine sG 0 [] 4 0 il ft (ut hr_43) rfl hb13 rfl rfl rfl (by kernel_rfl) rfl (.inl rfl) rfl (by kernel_rfl) (by kernel_rfl) (by kernel_rfl) (by kernel_rfl) rfl (by decide) (by kernel_rfl) uf (CU hs_44) wz ([(n_2,some (.cells 2 [(vL eI r_16.2.L),(vI r_16.2.f_at)])),(n_3,some (.cells 2 [(vL eI r_19.2.L),(vI r_19.2.f_at)])),(n_25,gB 3 Share.enc r_26),(n_32,gB 1 eS r_33),(n_41,gB 3 Pace.enc r_42)]:Hp) (by kernel_rfl) (gG (v':=(gV n_41 3 r_42)) 15 rfl (jE hs_44.symm) (gG (v':=(gV n_41 3 r_42)) 64 rfl (jE hs_44.symm) (gG (v':=(gV n_41 3 r_42)) 66 rfl (jE hs_44.symm) (af (aO (H0:=([(n_2,some (.cells 2 [(vL eI r_16.2.L),(vI r_16.2.f_at)])),(n_3,some (.cells 2 [(vL eI r_19.2.L),(vI r_19.2.f_at)])),(n_25,gB 3 Share.enc r_26),(n_32,gB 1 eS r_33),(n_41,gB 3 Pace.enc r_42)]:Hp)) ([(5,(vL Spot.enc r_4.1)),(6,(vL Campaign.enc r_7.1)),(7,(vL Spot.enc r_10.1)),(8,(vL Campaign.enc r_13.1)),(9,(vL Play.enc r_16.1)),(10,(vL Play.enc r_19.1))]:SL_) (by kernel_rfl) (wG (by kernel_rfl)) (ai (aa (vL Spot.enc r_4.1) (aa (vL Spot.enc r_10.1) ?_))))))))
 obtain ⟨r_45,hr_46,hF⟩:=bind_some hF
 refine aF (gU hr_46) rfl hb14 rfl rfl rfl rfl wz (aa (vB r_45) (af (ak ?_)))
 obtain ⟨v_47,h_48,hF⟩:=bind_some hF
 refine aS [(2,(vB v_47))] [(n_2,some (.cells 2 [(vL eI r_16.2.L),(vI r_16.2.f_at)])),(n_3,some (.cells 2 [(vL eI r_19.2.L),(vI r_19.2.f_at)])),(n_25,gB 3 Share.enc r_26),(n_32,gB 1 eS r_33),(n_41,gB 3 Pace.enc r_42)] ?_ ?_
 ·refine au (aa (vB r_45) ?_)
  rcases aj h_48 with⟨hc_49,h_48⟩|⟨hc_49,h_48⟩
  ·refine aD rfl hc_49 wz (aJ (vL Campaign.enc r_7.1) wa rfl (aJ (vL Campaign.enc r_13.1) wa rfl ?_))
   obtain ⟨r_50,hr_51,h_48⟩:=bind_some h_48
   refine aF (eY hr_51) rfl hb17 rfl rfl rfl rfl wa (aa (vB r_50) ?_)
   rcases aj h_48 with⟨hc_52,h_48⟩|⟨hc_52,h_48⟩
   ·refine aD rfl hc_52 wz (aJ (vL Play.enc r_16.1) wa rfl (aJ (vL Play.enc r_19.1) wa rfl ?_))
    obtain ⟨r_53,hr_54,h_48⟩:=bind_some h_48
    refine aF (o7 hr_54) rfl hb19 rfl rfl rfl rfl wa (aa (vB r_53) ?_)
    rcases aj h_48 with⟨hc_55,h_48⟩|⟨hc_55,h_48⟩
    ·refine aD rfl hc_55 wz ?_
     obtain ⟨r_56,hr_57,h_48⟩:=bind_some h_48
     refine aF (FJ hr_57) rfl hb20 rfl rfl rfl rfl wa (aa (vB r_56) (aa (vB r_56) (af ?_)))
     obtain rfl:=ae h_48
     exact cu
    ·refine aD rfl hc_55 wz (ah (aa (vB false) (aa (vB false) (af ?_))))
     obtain rfl:=ae h_48
     exact cu
   ·refine aD rfl hc_52 wz (ah (ah (ah (aa (vB false) (aa (vB false) (ah (aa (vB false) (aa (vB false) (af ?_)))))))))
    obtain rfl:=ae h_48
    exact cu
  ·refine aD rfl hc_49 wz (ah (ah (ah (aa (vB false) (aa (vB false) (ah (ah (ah (aa (vB false) (aa (vB false) (ah (aa (vB false) (aa (vB false) (af ?_))))))))))))))
   obtain rfl:=ae h_48
   exact cu
 ·rintro ⟨⟩ _ sl_ H_ hp_ hq_
  refine aO _ hp_ hq_ ?_
  obtain rfl:=ae hF
  exact aA (aL [(vB v_47)] ⟨rfl,trivial⟩)
end Go.Proofs.YtkjlhdminmpmkacGreatDoor.Law

