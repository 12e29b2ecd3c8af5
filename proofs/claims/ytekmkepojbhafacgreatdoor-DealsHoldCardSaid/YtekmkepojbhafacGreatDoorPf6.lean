/-
 The machine computes these plain functions (written by a program of ours).
-/
import Derived.Test.YtekmkepojbhafacGreatDoorFacts
import Derived.Test.YtekmkepojbhafacGreatDoorDefs
import Derived.Test.YtekmkepojbhafacGreatDoorPf5
open Go Go.Eng Go.Proofs
namespace Go.Proofs.YtekmkepojbhafacGreatDoor.Law
set_option maxRecDepth 100000
set_option linter.unusedVariables false
set_option maxHeartbeats 1000000
theorem Ae {l_1:(List Campaign)} {key_2:ByteArray} {r:Int×Bool} (hF:mg l_1 key_2=some r) :
  FnM Tryz.prog 51 [(vL Campaign.enc l_1),(vS key_2)] [] (.tup [(vI r.1),(vB r.2)]) []:=by
 refine FnM.of_wH ⟨Tryz.prog,11,[],[]⟩ rfl Tryz.func51 rfl rfl (lb_ rfl) (by kernel_rfl) ?_
 unfold mg at hF
 refine ai (aa (vI 0) (aa (vB false) (ah (ai (aa (vL Campaign.enc l_1) (aa (vS key_2) ?_))))))
 obtain ⟨r_3,hr_4,hF⟩:=bind_some hF
 refine aD (gD (gid:=79) (caps:=[]) (Sin:=[]) (λ_ _ _ h_=>yR h_) hb79 ⟨rfl,rfl⟩ (by kernel_rfl) (Du (by kernel_rfl)) (A8 (by kernel_rfl)) hr_4) rfl hb78 rfl rfl rfl rfl wz (aa (vI r_3.1) (aa (vB r_3.2) (aa (vI r_3.1) (aa (vB r_3.2) (ah ?_)))))
 obtain rfl:=ae hF
 exact ay (aK [(vI r_3.1),(vB r_3.2)] ⟨rfl,⟨rfl,trivial⟩⟩)
theorem yT {s_1:Spot} {k_2:ByteArray} {r:Int} (hF:j3 s_1 k_2=some r) :
  FnM Tryz.prog 82 [(.d (.agg (Spot.enc s_1))),(vS k_2)] [] (vI r) []:=by
 refine FnM.of_wH ⟨Tryz.prog,9,[],[]⟩ rfl Tryz.func82 rfl rfl (lb_ rfl) (by kernel_rfl) ?_
 unfold j3 at hF
 refine ai (ig 0 (.inl rfl) (Spot.v s_1) rfl rfl wz (λn_3=>aa (vI 0) (ah (ai (aH Bq rfl 0 rfl wz (aF 0 0 il ft sz9 ag9 rfl rfl (vS s_1.Key) rfl wz (aa (vS k_2) ?_)))))))
 obtain ⟨r_4,hr_5,hF⟩:=bind_some hF
 refine aD (kX hr_5) rfl hb80 rfl rfl rfl rfl wz (aa (vI r_4) (ah ?_))
 obtain rfl:=ae hF
 exact ay (aK [(vI r_4)] ⟨rfl,trivial⟩)
theorem iV {x_1:(List Spot)} {target_2:ByteArray} {cmp_3:Spot->ByteArray->Option Int} {r:Int×Bool} {gid:FuncId} {caps:List V} {Sin:List Box} (hfn:∀x0 x1 r,cmp_3 x0 x1=some r->FnM Tryz.prog gid ([(.d (.agg (Spot.enc x0))),(vS x1)]++caps) Sin (vI r) (Sin.map some)) (hbF:aI Tryz.prog gid=true) (hcapF:caps.flatMap frz=[]/\caps.map co0=caps) (hokF:okL Sin.length caps=true) (hsF:∀b∈Sin,b.ok Sin.length=true) (hmF:∀b∈Sin,b.mut=true) (hF:bU x_1 target_2 cmp_3=some r) :
  FnM Tryz.prog 81 [(vL Spot.enc x_1),(vS target_2),(.fn gid caps)] Sin (.tup [(vI r.1),(vB r.2)]) (Sin.map some):=by
 refine FnM.of_wH ⟨Tryz.prog,49,[],[]⟩ rfl Tryz.func81 rfl rfl (lb_ rfl) (by kernel_rfl) ?_
 unfold bU at hF
 refine ai (aa (vI 0) (aa (vB false) (ah (ai (aa (vL Spot.enc x_1) (bR Jc rfl wz (aa (vI (x_1.length:Int)) (ah (ai (aa (vI (x_1.length:Int)) (aa (vI 0) (aa (vI (x_1.length:Int)) (ah (ak ?_))))))))))))))
 obtain ⟨o_12,hj_13,hF⟩:=bind_some hF
 obtain ⟨nq_29,hj_13⟩:=dA hj_13
 refine dZ (λ(s_9:Int×Int)=>[(0,(vL Spot.enc x_1)),(1,(vS target_2)),(2,(.fn gid caps)),(8,(vI (x_1.length:Int))),(9,(vI s_9.1))]) (λ(s_9:Int×Int)=>(lY 0 Sin)) (λ(k_4:Nat)=>(λ(s_9:Int×Int)=>[(0,(vL Spot.enc x_1)),(1,(vS target_2)),(2,(.fn gid caps)),(8,(vI (x_1.length:Int))),(9,(vI s_9.1)),(10,(vI s_9.2))])) (λs=>dx x_1 cmp_3 target_2 s) o_12 nq_29 (0,(x_1.length:Int)) hj_13 rfl (fw _) ?_ ?_
 ·rintro ⟨k_4,s_9⟩ hL_11
  dsimp only at hL_11
  cases k_4 with
  | zero=>cases hL_11
  | succ k_4 =>
   obtain ⟨c_,hc_10,hL_11⟩:=bind_some hL_11
   unfold dx at hc_10
   refine ak (ai (aa (vI s_9.1) (aa (vI s_9.2) (aa (vB (decide (s_9.1<s_9.2))) (ah ?_)))))
   rcases aj hc_10 with⟨hc_14,hc_10⟩|⟨hc_14,hc_10⟩
   ·refine aB rfl hc_14 (av (aM (ai (aa (vI s_9.1) (aa (vI s_9.2) (aa (vI (w64 (s_9.1+s_9.2))) (kR un3 AL rfl wz ?_)))))))
    obtain ⟨q_15,hz_16,hc_10⟩:=bind_some hc_10
    refine Ff rfl rfl hz_16 wz (kR AL un3 rfl wz (aa (vI (w64 q_15)) (ah (ai (aa (.fn gid caps) (aa (vL Spot.enc x_1) (aa (vI (w64 q_15)) ?_)))))))
    obtain ⟨y_17,hy_18,hc_10⟩:=bind_some hc_10
    refine dD FC rfl rfl hy_18 rfl wz (bE xS Ea rfl (.d (.agg (Spot.enc y_17))) rfl wz (aa (vS target_2) ?_))
    obtain ⟨r_19,hr_20,hc_10⟩:=bind_some hc_10
    refine p8 (hfn _ _ _ hr_20) rfl hbF rfl rfl hcapF hokF hsF hmF rfl wz rfl (aa (vB (decide (r_19<0))) (ah ?_))
    rcases aj hc_10 with⟨hc_21,hc_10⟩|⟨hc_21,hc_10⟩
    ·refine aB rfl hc_21 (au (aa (vI (w64 q_15)) (aa (vI (w64 ((w64 q_15)+1))) (aa (vI (w64 ((w64 q_15)+1))) (ah ?_)))))
     obtain rfl:=ae hc_10
     exact aU (k_4,((w64 ((w64 q_15)+1)),s_9.2)) hL_11 (ls_ _) rfl (fw _)
    ·refine aA rfl hc_21 (au (aa (vI (w64 q_15)) (aa (vI (w64 q_15)) (ah ?_))))
     obtain rfl:=ae hc_10
     exact aU (k_4,(s_9.1,(w64 q_15))) hL_11 (ls_ _) rfl (fw _)
   ·refine aA rfl hc_14 (aV ?_)
    obtain rfl:=ae hc_10
    obtain rfl:=ae hL_11
    exact aS ((s_9.1,s_9.2)) rfl rfl (fw _)
 ·rintro s_9 ho_ sl_ H_ hp_ hq_
  subst ho_
  refine aO _ hp_ hq_ (ak ?_)
  obtain ⟨v_22,h_23,hF⟩:=bind_some hF
  refine aQ [(6,(vI s_9.1)),(7,(vB v_22))] (lY 0 Sin) ?_ ?_
  ·refine au (aa (vI s_9.1) (aa (vI s_9.1) (aa (vI (x_1.length:Int)) (aa (vB (decide (s_9.1<(x_1.length:Int)))) ?_))))
   rcases aj h_23 with⟨hc_24,h_23⟩|⟨hc_24,h_23⟩
   ·refine aC rfl hc_24 wz (aG (.fn gid caps) wa rfl (aG (vL Spot.enc x_1) wa rfl (aG (vI s_9.1) wa rfl ?_)))
    obtain ⟨y_25,hy_26,h_23⟩:=bind_some h_23
    refine dD FC rfl rfl hy_26 rfl wa (bE xS Ea rfl (.d (.agg (Spot.enc y_25))) rfl wa (aG (vS target_2) wa rfl ?_))
    obtain ⟨r_27,hr_28,h_23⟩:=bind_some h_23
    refine p8 (hfn _ _ _ hr_28) rfl hbF rfl rfl hcapF hokF hsF hmF rfl wa rfl (aG (vB (r_27==0)) wa rfl (aa (vB (r_27==0)) (aa (vI s_9.1) (aa (vB (r_27==0)) (ah ?_)))))
    obtain rfl:=ae h_23
    exact aS () trivial rfl (fw _)
   ·refine aC rfl hc_24 wz (af (af (af (af (af (af (af (af (aa (vB false) (aa (vI s_9.1) (aa (vB false) (ah ?_))))))))))))
    obtain rfl:=ae h_23
    exact aS () trivial rfl (fw _)
  ·rintro ⟨⟩ _ sl_ H_ hp_ hq_
   refine aO _ hp_ hq_ ?_
   obtain rfl:=ae hF
   exact ay (ES hsF (.inr rfl) [(vI s_9.1),(vB v_22)] ⟨rfl,⟨rfl,trivial⟩⟩ rfl rfl rfl)
theorem A7 {l_1:(List Spot)} {key_2:ByteArray} {r:Int×Bool} (hF:mr l_1 key_2=some r) :
  FnM Tryz.prog 52 [(vL Spot.enc l_1),(vS key_2)] [] (.tup [(vI r.1),(vB r.2)]) []:=by
 refine FnM.of_wH ⟨Tryz.prog,11,[],[]⟩ rfl Tryz.func52 rfl rfl (lb_ rfl) (by kernel_rfl) ?_
 unfold mr at hF
 refine ai (aa (vI 0) (aa (vB false) (ah (ai (aa (vL Spot.enc l_1) (aa (vS key_2) ?_))))))
 obtain ⟨r_3,hr_4,hF⟩:=bind_some hF
 refine aD (iV (gid:=82) (caps:=[]) (Sin:=[]) (λ_ _ _ h_=>yT h_) hb82 ⟨rfl,rfl⟩ (by kernel_rfl) (Du (by kernel_rfl)) (A8 (by kernel_rfl)) hr_4) rfl hb81 rfl rfl rfl rfl wz (aa (vI r_3.1) (aa (vB r_3.2) (aa (vI r_3.1) (aa (vB r_3.2) (ah ?_)))))
 obtain rfl:=ae hF
 exact ay (aK [(vI r_3.1),(vB r_3.2)] ⟨rfl,⟨rfl,trivial⟩⟩)
theorem wZ {spots_1:(List Spot)} {l_2:(List Campaign)} {s_3:(List Share)} {i_4:Int} {r:Int} (hF:jh spots_1 l_2 s_3 i_4=some r) :
  FnM Tryz.prog 28 [(vL Spot.enc spots_1),(vL Campaign.enc l_2),(vL Share.enc s_3),(vI i_4)] [] (vI r) []:=by
 refine FnM.of_wH ⟨Tryz.prog,95,[],[]⟩ rfl Tryz.func28 rfl rfl (lb_ rfl) (by kernel_rfl) ?_
 unfold jh at hF
 refine ai (aa (vI 0) (ah (ai (aa (vL Share.enc s_3) (aa (vI i_4) ?_)))))
 obtain ⟨y_5,hy_6,hF⟩:=bind_some hF
 refine dD K8 rfl rfl hy_6 rfl wz (bE LG ag44 rfl (.d (.agg (Share.enc y_5))) rfl wz (dB 0 (.inl rfl) z44 rfl wz (λn_7=>fE 0 il ft 0 LG rfl rfl (Share.v y_5) rfl wz (ah (ai (aa (vL Campaign.enc l_2) (aH Bu rfl 0 rfl wz (aF 0 0 il ft sz9 ag9 rfl rfl (vS y_5.Campaign) rfl wz ?_))))))))
 obtain ⟨r_8,hr_9,hF⟩:=bind_some hF
 refine aD (Ae hr_9) rfl hb51 rfl rfl rfl rfl wz (aa (.tup [(vI r_8.1),(vB r_8.2)]) (aa (vI r_8.1) (aa (vB r_8.2) (aa (vI r_8.1) (aa (vB r_8.2) (ah (ai (aa (vL Spot.enc spots_1) (aH Il rfl 1 rfl wz (aF 0 0 il ft sz9 ag9 rfl rfl (vS y_5.Spot) rfl wz ?_))))))))))
 obtain ⟨r_10,hr_11,hF⟩:=bind_some hF
 refine aD (A7 hr_11) rfl hb52 rfl rfl rfl rfl wz (aa (.tup [(vI r_10.1),(vB r_10.2)]) (aa (vI r_10.1) (aa (vB r_10.2) (aa (vI r_10.1) (aa (vB r_10.2) (ah (ak (aM (ak ?_)))))))))
 obtain ⟨v_12,h_13,hF⟩:=bind_some hF
 refine aQ [(0,(vL Spot.enc spots_1)),(1,(vL Campaign.enc l_2)),(2,(vL Share.enc s_3)),(3,(vI i_4)),(9,(.ref n_7 0 0)),(10,(vI r_8.1)),(12,(vI r_10.1)),(32,(vB v_12))] [(n_7,some (.cells 3 (Share.v y_5)))] ?_ ?_
 ·refine au (aa (vB r_8.2) (aa (vB (!r_8.2)) ?_))
  rcases aj h_13 with⟨hc_14,h_13⟩|⟨hc_14,h_13⟩
  ·refine aC rfl hc_14 wz (af (af (aa (vB true) (aa (vB true) (ah ?_)))))
   obtain rfl:=ae h_13
   exact cu
  ·refine aC rfl hc_14 wz (aG (vB r_10.2) wa rfl (aG (vB (!r_10.2)) wa rfl (aa (vB (!r_10.2)) (aa (vB (!r_10.2)) (ah ?_)))))
   obtain rfl:=ae h_13
   exact cu
 ·rintro ⟨⟩ _ sl_ H_ hp_ hq_
  refine aO _ hp_ hq_ ?_
  rcases aj hF with⟨hc_15,hF⟩|⟨hc_15,hF⟩
  ·refine aB rfl hc_15 (ai (aa (vI 8) (ah ?_)))
   obtain rfl:=ae hF
   exact ay (aK [(vI 8)] ⟨rfl,trivial⟩)
  ·refine aA rfl hc_15 (ak (bB (aa (vL Campaign.enc l_2) (aa (vI r_8.1) ?_))))
   obtain ⟨y_16,hy_17,hF⟩:=bind_some hF
   refine dD Bw rfl rfl hy_17 rfl wz (bE uC Ar rfl (.d (.agg (Campaign.enc y_16))) rfl wz (aa (vL Spot.enc spots_1) (aa (vI r_10.1) ?_)))
   obtain ⟨y_18,hy_19,hF⟩:=bind_some hF
   refine dD FC rfl rfl hy_19 rfl wz (bE xS Ea rfl (.d (.agg (Spot.enc y_18))) rfl wz ?_)
   obtain ⟨r_20,hr_21,hF⟩:=bind_some hF
   refine aD (pX hr_21) rfl hb19 rfl rfl rfl rfl wz (aa (vB (!r_20)) (aa (vB (!r_20)) (ah ?_)))
   rcases aj hF with⟨hc_22,hF⟩|⟨hc_22,hF⟩
   ·refine aB rfl hc_22 (ai (aa (vI 16) (ah ?_)))
    obtain rfl:=ae hF
    exact ay (aK [(vI 16)] ⟨rfl,trivial⟩)
   ·refine aA rfl hc_22 (ak (bB (aH H6 rfl 2 rfl wz (aF 1 0 (.inr (by kernel_rfl)) (λ_ _ ag=>trivial) sz3 ag3 rfl rfl (vI y_5.Many) rfl wz (aa (vL Campaign.enc l_2) (aa (vI r_8.1) ?_))))))
    obtain ⟨y_23,hy_24,hF⟩:=bind_some hF
    refine dD Bw rfl rfl hy_24 rfl wz (oz KO rfl [.int .i64 y_23.Most,.int .i64 y_23.Cents] rfl rfl wz (bE sz3 ag3 rfl (vI y_23.Most) rfl wz ?_))
    obtain ⟨r_25,hr_26,hF⟩:=bind_some hF
    refine aD (bn hr_26) rfl qM rfl rfl rfl rfl wz (aa (vB r_25) (ah ?_))
    rcases aj hF with⟨hc_27,hF⟩|⟨hc_27,hF⟩
    ·refine aB rfl hc_27 (ai (aa (vI 1) (ah ?_)))
     obtain rfl:=ae hF
     exact ay (aK [(vI 1)] ⟨rfl,trivial⟩)
    ·refine aA rfl hc_27 (ak ?_)
     obtain ⟨v_28,h_29,hF⟩:=bind_some hF
     refine aQ [(59,(vB v_28))] [(n_7,some (.cells 3 (Share.v y_5)))] ?_ ?_
     ·refine bB (aa (vI i_4) (aa (vB (decide (i_4>0))) ?_))
      rcases aj h_29 with⟨hc_30,h_29⟩|⟨hc_30,h_29⟩
      ·refine aC rfl hc_30 wz (aH Bu rfl 0 rfl wa (aF 4 0 (.inr (by kernel_rfl)) (λ_ _ ag=>trivial) sz9 ag9 rfl rfl (vS y_5.Campaign) rfl wa (aG (vL Share.enc s_3) wa rfl (aG (vI i_4) wa rfl (aG (vI (w64 (i_4-1))) wa rfl ?_)))))
       obtain ⟨y_31,hy_32,h_29⟩:=bind_some h_29
       refine dD K8 rfl rfl hy_32 rfl wa (oz Bu rfl [.str y_31.Campaign,.str y_31.Spot,.int .i64 y_31.Many] rfl rfl wa (bE sz9 ag9 rfl (vS y_31.Campaign) rfl wa (aG (vB (sLt y_5.Campaign y_31.Campaign)) wa rfl ?_)))
       rcases aj h_29 with⟨hc_33,h_29⟩|⟨hc_33,h_29⟩
       ·refine aC rfl hc_33 wa (af (af (af (af (af (af (af (af (af (af (aY (wn rfl rfl) (aY (wn rfl rfl) (aY (wn rfl rfl) (aY (wn rfl rfl) (aY (wn rfl rfl) (aY (wn rfl rfl) (aY (wn rfl rfl) (aY (wn rfl rfl) (aY (wn rfl rfl) (af (aG (vB true) wa rfl (aa (vB true) (aa (vB true) ?_)))))))))))))))))))))))
        refine ah ?_
        obtain rfl:=ae h_29
        exact cu
       ·refine aC rfl hc_33 wa (aH Bu rfl 0 rfl wa (aF 14 0 (.inr (by kernel_rfl)) (λ_ _ ag=>⟨.inl ⟨rfl,rfl⟩,trivial⟩) sz9 ag9 rfl rfl (vS y_5.Campaign) rfl wa (aG (vL Share.enc s_3) wa rfl (aG (vI i_4) wa rfl (aG (vI (w64 (i_4-1))) wa rfl ?_)))))
        obtain ⟨y_34,hy_35,h_29⟩:=bind_some h_29
        refine dD K8 rfl rfl hy_35 rfl wa (oz Bu rfl [.str y_34.Campaign,.str y_34.Spot,.int .i64 y_34.Many] rfl rfl wa (bE sz9 ag9 rfl (vS y_34.Campaign) rfl wa (aG (vB (sEq y_5.Campaign y_34.Campaign)) wa rfl ?_)))
        rcases aj h_29 with⟨hc_36,h_29⟩|⟨hc_36,h_29⟩
        ·refine aC rfl hc_36 wa (aH Il rfl 1 rfl wa (aF 24 0 (.inr (by kernel_rfl)) (λ_ _ ag=>⟨.inl ⟨rfl,rfl⟩,⟨.inl ⟨rfl,rfl⟩,trivial⟩⟩) sz9 ag9 rfl rfl (vS y_5.Spot) rfl wa (aG (vL Share.enc s_3) wa rfl (aG (vI i_4) wa rfl (aG (vI (w64 (i_4-1))) wa rfl ?_)))))
         obtain ⟨y_37,hy_38,h_29⟩:=bind_some h_29
         refine dD K8 rfl rfl hy_38 rfl wa (oz Il rfl [.str y_37.Spot,.int .i64 y_37.Many] rfl rfl wa (bE sz9 ag9 rfl (vS y_37.Spot) rfl wa (aG (vB (sLe y_5.Spot y_37.Spot)) wa rfl (aG (vB (sLe y_5.Spot y_37.Spot)) wa rfl (aG (vB (sLe y_5.Spot y_37.Spot)) wa rfl (aa (vB (sLe y_5.Spot y_37.Spot)) (aa (vB (sLe y_5.Spot y_37.Spot)) (ah ?_))))))))
         obtain rfl:=ae h_29
         exact cu
        ·refine aC rfl hc_36 wa (af (af (af (af (af (af (af (af (af (aG (vB false) wa rfl (aG (vB false) wa rfl (aa (vB false) (aa (vB false) (ah ?_))))))))))))))
         obtain rfl:=ae h_29
         exact cu
      ·refine aC rfl hc_30 wz (af (af (af (af (af (af (af (af (af (af (aY (wn rfl rfl) (aY (wn rfl rfl) (aY (wn rfl rfl) (aY (wn rfl rfl) (aY (wn rfl rfl) (aY (wn rfl rfl) (aY (wn rfl rfl) (aY (wn rfl rfl) (aY (wn rfl rfl) (aY (wn rfl rfl) (aY (wn rfl rfl) (aY (wn rfl rfl) (aY (wn rfl rfl) ?_)))))))))))))))))))))))
       refine aY (wn rfl rfl) (aY (wn rfl rfl) (aY (wn rfl rfl) (aY (wn rfl rfl) (aY (wn rfl rfl) (aY (wn rfl rfl) (aY (wn rfl rfl) (af (aa (vB false) (aa (vB false) (ah ?_))))))))))
       obtain rfl:=ae h_29
       exact cu
     ·rintro ⟨⟩ _ sl_ H_ hp_ hq_
      refine aO _ hp_ hq_ ?_
      rcases aj hF with⟨hc_39,hF⟩|⟨hc_39,hF⟩
      ·refine aB rfl hc_39 (ai (aa (vI 7) (ah ?_)))
       obtain rfl:=ae hF
       exact ay (aK [(vI 7)] ⟨rfl,trivial⟩)
      ·refine aA rfl hc_39 (av (ai (aa (vI 0) (ah ?_))))
       obtain rfl:=ae hF
       exact ay (aK [(vI 0)] ⟨rfl,trivial⟩)
theorem uf {x_1:Spot} {p_2:(List (ByteArray×Int))} {r:Bool} (hF:jr x_1 p_2=some r) :
  FnM Tryz.prog 30 [(.d (.agg (Spot.enc x_1))),(.ref (ax 0) 0 0)] [(.cells 1 [(.map (ax 1))]),(bM D.str (D.int .i64) p_2)] (vB r) [some (.cells 1 [(.map (ax 1))]),some (bM D.str (D.int .i64) p_2)]:=by
 refine FnM.of_wH ⟨Tryz.prog,11,[],[]⟩ rfl Tryz.func30 rfl rfl (lb_ rfl) (by kernel_rfl) ?_
 unfold jr at hF
 refine ai (ig 0 (.inl rfl) (Spot.v x_1) rfl rfl wz (λn_3=>aa (vB false) (ah (ai (aF 0 0 il ft Nc ag84 rfl rfl (.map (ax 1)) rfl wz (aH Bq rfl 0 rfl wz (aF 0 2 il ft sz9 ag9 rfl rfl (vS x_1.Key) rfl wz (xR (eq:=eqS) (kD:=D.str) (vD:=(D.int .i64)) (es:=p_2) (k:=x_1.Key) (z:=0) 0 1 il ft (λ_ _=>rfl) M6 (by kernel_rfl) (by kernel_rfl) rfl rfl rfl (vI ((iM eqS p_2 x_1.Key).getD 0)) rfl wz (aH KD rfl 3 rfl wz (aF 0 2 il ft sz3 ag3 rfl rfl (vI x_1.Room) rfl wz (aa (vB (decide (((iM eqS p_2 x_1.Key).getD 0)>x_1.Room))) (aa (vB (decide (((iM eqS p_2 x_1.Key).getD 0)>x_1.Room))) (ah ?_)))))))))))))
 obtain rfl:=ae hF
 exact ay (Fz (.inr rfl) [(vB (decide (((iM eqS p_2 x_1.Key).getD 0)>x_1.Room)))] _ [0,1] [ax 0,ax 1] ⟨rfl,trivial⟩ (.cons (lN rfl rfl) (.nil)) (by kernel_rfl) ⟨(by kernel_rfl),⟨(by kernel_rfl),trivial⟩⟩ (by decide) (by kernel_rfl))
theorem mJ {s_1:(List Spot)} {f_2:Spot->Option Bool} {r:Int} {gid:FuncId} {caps:List V} {Sin:List Box} (hfn:∀x0 r,f_2 x0=some r->FnM Tryz.prog gid ([(.d (.agg (Spot.enc x0)))]++caps) Sin (vB r) (Sin.map some)) (hbF:aI Tryz.prog gid=true) (hcapF:caps.flatMap frz=[]/\caps.map co0=caps) (hokF:okL Sin.length caps=true) (hsF:∀b∈Sin,b.ok Sin.length=true) (hmF:∀b∈Sin,b.mut=true) (hF:dL s_1 f_2=some r) :
  FnM Tryz.prog 53 [(vL Spot.enc s_1),(.fn gid caps)] Sin (vI r) (Sin.map some):=by
 refine FnM.of_wH ⟨Tryz.prog,19,[],[]⟩ rfl Tryz.func53 rfl rfl (lb_ rfl) (by kernel_rfl) ?_
 unfold dL at hF
 refine ai (aa (vI 0) (ah (ak (ai (aa (vL Spot.enc s_1) (bR Jc rfl wz (aa (vI 0) (ah ?_))))))))
 obtain ⟨o_11,hj_12,hF⟩:=bind_some hF
 obtain ⟨hn_7,hj_12⟩:=bf hj_12
 refine cz (λ(s_8:Unit)=>[]) (λ(s_8:Unit)=>(lY 0 Sin)) (λ(k_3:Nat)=>(λ(s_8:Unit)=>[(0,(vL Spot.enc s_1)),(1,(.fn gid caps)),(7,(vI (s_1.length:Int))),(8,(vI (k_3:Int)))])) (λk x s=>bP f_2 k x s) o_11 s_1 () hj_12 rfl (fw _) ?_ ?_
 ·rintro ⟨k_3,l_4,s_8⟩ ⟨hL_10,hD_6⟩
  dsimp only at hL_10 hD_6
  cases l_4 with
  | nil =>
   obtain rfl:=ae hL_10
   refine ai (aa (vB (decide ((k_3:Int)<(s_1.length:Int)))) (ah ?_))
   refine ak (aA rfl (drop_nil hD_6) (aV ?_))
   exact aS (s_8) rfl rfl (fw _)
  | cons x_5 l_4 =>
   obtain ⟨c_,hc_9,hL_10⟩:=bind_some hL_10
   refine ai (aa (vB (decide ((k_3:Int)<(s_1.length:Int)))) (ah ?_))
   refine ak (aB rfl (bv hD_6) (av ?_))
   unfold bP at hc_9
   refine ak (aM (ai (aa (vI (k_3:Int)) (aa (vI (k_3:Int)) (ah (ai (aa (.fn gid caps) (aa (vL Spot.enc s_1) (aa (vI (k_3:Int)) (dD FC rfl rfl (bI hD_6) rfl wz (bE xS Ea rfl (.d (.agg (Spot.enc x_5))) rfl wz ?_)))))))))))
   obtain ⟨r_13,hr_14,hc_9⟩:=bind_some hc_9
   refine p8 (hfn _ _ hr_14) rfl hbF rfl rfl hcapF hokF hsF hmF rfl wz rfl (ah ?_)
   rcases aj hc_9 with⟨hc_15,hc_9⟩|⟨hc_15,hc_9⟩
   ·refine aB rfl hc_15 (ai (aa (vI (k_3:Int)) (aa (vI (k_3:Int)) (ah ?_))))
    obtain rfl:=ae hc_9
    obtain rfl:=ae hL_10
    obtain rfl:=ae hF
    exact ay (ES hsF (.inr rfl) [(vI (k_3:Int))] ⟨rfl,trivial⟩ rfl rfl rfl)
   ·refine aA rfl hc_15 (av (au (dS (bC hD_6 hn_7) wz rfl (aa (vI ((k_3+1:Nat):Int)) (ah ?_)))))
    obtain rfl:=ae hc_9
    exact aU (k_3+1,l_4,()) ⟨hL_10,aX hD_6⟩ (ls_ _) rfl (fw _)
 ·rintro s_8 ho_ sl_ H_ hp_ hq_
  subst ho_
  refine aO _ hp_ hq_ (ai (aa (vI (-1)) (ah ?_)))
  obtain rfl:=ae hF
  exact ay (ES hsF (.inr rfl) [(vI (-1))] ⟨rfl,trivial⟩ rfl rfl rfl)
theorem lD {s_1:(List Spot)} {f_2:Spot->Option Bool} {r:Bool} {gid:FuncId} {caps:List V} {Sin:List Box} (hfn:∀x0 r,f_2 x0=some r->FnM Tryz.prog gid ([(.d (.agg (Spot.enc x0)))]++caps) Sin (vB r) (Sin.map some)) (hbF:aI Tryz.prog gid=true) (hcapF:caps.flatMap frz=[]/\caps.map co0=caps) (hokF:okL Sin.length caps=true) (hsF:∀b∈Sin,b.ok Sin.length=true) (hmF:∀b∈Sin,b.mut=true) (hF:bO s_1 f_2=some r) :
  FnM Tryz.prog 29 [(vL Spot.enc s_1),(.fn gid caps)] Sin (vB r) (Sin.map some):=by
 refine FnM.of_wH ⟨Tryz.prog,9,[],[]⟩ rfl Tryz.func29 rfl rfl (lb_ rfl) (by kernel_rfl) ?_
 unfold bO at hF
 refine ai (aa (vB false) (ah (ai (aa (vL Spot.enc s_1) (aa (.fn gid caps) ?_)))))
 obtain ⟨r_3,hr_4,hF⟩:=bind_some hF
 refine p8 (mJ (gid:=gid) (caps:=caps) (Sin:=Sin) hfn hbF hcapF hokF hsF hmF hr_4) rfl hb53 rfl rfl ⟨rfl,rfl⟩ (by simp [okL,okV,hokF]) hsF hmF rfl wz rfl (aa (vB (decide (r_3>=0))) (aa (vB (decide (r_3>=0))) (ah ?_)))
 obtain rfl:=ae hF
 exact ay (ES hsF (.inr rfl) [(vB (decide (r_3>=0)))] ⟨rfl,trivial⟩ rfl rfl rfl)
theorem tZ {c_1:Campaign} {p_2:(List (ByteArray×Int))} {r:Bool} (hF:jv c_1 p_2=some r) :
  FnM Tryz.prog 32 [(.d (.agg (Campaign.enc c_1))),(.ref (ax 0) 0 0)] [(.cells 1 [(.map (ax 1))]),(bM D.str (D.int .i64) p_2)] (vB r) [some (.cells 1 [(.map (ax 1))]),some (bM D.str (D.int .i64) p_2)]:=by
 refine FnM.of_wH ⟨Tryz.prog,11,[],[]⟩ rfl Tryz.func32 rfl rfl (lb_ rfl) (by kernel_rfl) ?_
 unfold jv at hF
 refine ai (ig 0 (.inl rfl) (Campaign.v c_1) rfl rfl wz (λn_3=>aa (vB false) (ah (ai (aF 0 0 il ft Nc ag84 rfl rfl (.map (ax 1)) rfl wz (aH Bv rfl 0 rfl wz (aF 0 2 il ft sz9 ag9 rfl rfl (vS c_1.Key) rfl wz (xR (eq:=eqS) (kD:=D.str) (vD:=(D.int .i64)) (es:=p_2) (k:=c_1.Key) (z:=0) 0 1 il ft (λ_ _=>rfl) M6 (by kernel_rfl) (by kernel_rfl) rfl rfl rfl (vI ((iM eqS p_2 c_1.Key).getD 0)) rfl wz (aH zI rfl 5 rfl wz (aF 0 2 il ft sz3 ag3 rfl rfl (vI c_1.Goal) rfl wz (aa (vB (decide (((iM eqS p_2 c_1.Key).getD 0)>c_1.Goal))) (aa (vB (decide (((iM eqS p_2 c_1.Key).getD 0)>c_1.Goal))) (ah ?_)))))))))))))
 obtain rfl:=ae hF
 exact ay (Fz (.inr rfl) [(vB (decide (((iM eqS p_2 c_1.Key).getD 0)>c_1.Goal)))] _ [0,1] [ax 0,ax 1] ⟨rfl,trivial⟩ (.cons (lN rfl rfl) (.nil)) (by kernel_rfl) ⟨(by kernel_rfl),⟨(by kernel_rfl),trivial⟩⟩ (by decide) (by kernel_rfl))
theorem jU {s_1:(List Campaign)} {f_2:Campaign->Option Bool} {r:Int} {gid:FuncId} {caps:List V} {Sin:List Box} (hfn:∀x0 r,f_2 x0=some r->FnM Tryz.prog gid ([(.d (.agg (Campaign.enc x0)))]++caps) Sin (vB r) (Sin.map some)) (hbF:aI Tryz.prog gid=true) (hcapF:caps.flatMap frz=[]/\caps.map co0=caps) (hokF:okL Sin.length caps=true) (hsF:∀b∈Sin,b.ok Sin.length=true) (hmF:∀b∈Sin,b.mut=true) (hF:dh s_1 f_2=some r) :
  FnM Tryz.prog 54 [(vL Campaign.enc s_1),(.fn gid caps)] Sin (vI r) (Sin.map some):=by
 refine FnM.of_wH ⟨Tryz.prog,19,[],[]⟩ rfl Tryz.func54 rfl rfl (lb_ rfl) (by kernel_rfl) ?_
 unfold dh at hF
 refine ai (aa (vI 0) (ah (ak (ai (aa (vL Campaign.enc s_1) (bR FJ rfl wz (aa (vI 0) (ah ?_))))))))
 obtain ⟨o_11,hj_12,hF⟩:=bind_some hF
 obtain ⟨hn_7,hj_12⟩:=bf hj_12
 refine cz (λ(s_8:Unit)=>[]) (λ(s_8:Unit)=>(lY 0 Sin)) (λ(k_3:Nat)=>(λ(s_8:Unit)=>[(0,(vL Campaign.enc s_1)),(1,(.fn gid caps)),(7,(vI (s_1.length:Int))),(8,(vI (k_3:Int)))])) (λk x s=>bu f_2 k x s) o_11 s_1 () hj_12 rfl (fw _) ?_ ?_
 ·rintro ⟨k_3,l_4,s_8⟩ ⟨hL_10,hD_6⟩
  dsimp only at hL_10 hD_6
  cases l_4 with
  | nil =>
   obtain rfl:=ae hL_10
   refine ai (aa (vB (decide ((k_3:Int)<(s_1.length:Int)))) (ah ?_))
   refine ak (aA rfl (drop_nil hD_6) (aV ?_))
   exact aS (s_8) rfl rfl (fw _)
  | cons x_5 l_4 =>
   obtain ⟨c_,hc_9,hL_10⟩:=bind_some hL_10
   refine ai (aa (vB (decide ((k_3:Int)<(s_1.length:Int)))) (ah ?_))
   refine ak (aB rfl (bv hD_6) (av ?_))
   unfold bu at hc_9
   refine ak (aM (ai (aa (vI (k_3:Int)) (aa (vI (k_3:Int)) (ah (ai (aa (.fn gid caps) (aa (vL Campaign.enc s_1) (aa (vI (k_3:Int)) (dD Bw rfl rfl (bI hD_6) rfl wz (bE uC Ar rfl (.d (.agg (Campaign.enc x_5))) rfl wz ?_)))))))))))
   obtain ⟨r_13,hr_14,hc_9⟩:=bind_some hc_9
   refine p8 (hfn _ _ hr_14) rfl hbF rfl rfl hcapF hokF hsF hmF rfl wz rfl (ah ?_)
   rcases aj hc_9 with⟨hc_15,hc_9⟩|⟨hc_15,hc_9⟩
   ·refine aB rfl hc_15 (ai (aa (vI (k_3:Int)) (aa (vI (k_3:Int)) (ah ?_))))
    obtain rfl:=ae hc_9
    obtain rfl:=ae hL_10
    obtain rfl:=ae hF
    exact ay (ES hsF (.inr rfl) [(vI (k_3:Int))] ⟨rfl,trivial⟩ rfl rfl rfl)
   ·refine aA rfl hc_15 (av (au (dS (bC hD_6 hn_7) wz rfl (aa (vI ((k_3+1:Nat):Int)) (ah ?_)))))
    obtain rfl:=ae hc_9
    exact aU (k_3+1,l_4,()) ⟨hL_10,aX hD_6⟩ (ls_ _) rfl (fw _)
 ·rintro s_8 ho_ sl_ H_ hp_ hq_
  subst ho_
  refine aO _ hp_ hq_ (ai (aa (vI (-1)) (ah ?_)))
  obtain rfl:=ae hF
  exact ay (ES hsF (.inr rfl) [(vI (-1))] ⟨rfl,trivial⟩ rfl rfl rfl)
theorem jw {s_1:(List Campaign)} {f_2:Campaign->Option Bool} {r:Bool} {gid:FuncId} {caps:List V} {Sin:List Box} (hfn:∀x0 r,f_2 x0=some r->FnM Tryz.prog gid ([(.d (.agg (Campaign.enc x0)))]++caps) Sin (vB r) (Sin.map some)) (hbF:aI Tryz.prog gid=true) (hcapF:caps.flatMap frz=[]/\caps.map co0=caps) (hokF:okL Sin.length caps=true) (hsF:∀b∈Sin,b.ok Sin.length=true) (hmF:∀b∈Sin,b.mut=true) (hF:bz s_1 f_2=some r) :
  FnM Tryz.prog 31 [(vL Campaign.enc s_1),(.fn gid caps)] Sin (vB r) (Sin.map some):=by
 refine FnM.of_wH ⟨Tryz.prog,9,[],[]⟩ rfl Tryz.func31 rfl rfl (lb_ rfl) (by kernel_rfl) ?_
 unfold bz at hF
 refine ai (aa (vB false) (ah (ai (aa (vL Campaign.enc s_1) (aa (.fn gid caps) ?_)))))
 obtain ⟨r_3,hr_4,hF⟩:=bind_some hF
 refine p8 (jU (gid:=gid) (caps:=caps) (Sin:=Sin) hfn hbF hcapF hokF hsF hmF hr_4) rfl hb54 rfl rfl ⟨rfl,rfl⟩ (by simp [okL,okV,hokF]) hsF hmF rfl wz rfl (aa (vB (decide (r_3>=0))) (aa (vB (decide (r_3>=0))) (ah ?_)))
 obtain rfl:=ae hF
 exact ay (ES hsF (.inr rfl) [(vB (decide (r_3>=0)))] ⟨rfl,trivial⟩ rfl rfl rfl)
theorem wR {spots_1:(List Spot)} {l_2:(List Campaign)} {s_3:(List Share)} {r:Int} (hF:iL spots_1 l_2 s_3=some r) :
  FnM Tryz.prog 10 [(vL Spot.enc spots_1),(vL Campaign.enc l_2),(vL Share.enc s_3)] [] (vI r) []:=by
 refine FnM.of_wH ⟨Tryz.prog,62,[],[]⟩ rfl Tryz.func10 rfl rfl (lb_ rfl) (by kernel_rfl) ?_
 unfold iL at hF
 refine ai (aa (vI 0) (ah (ak (ai (aa (vL Spot.enc spots_1) (aa (vL Campaign.enc l_2) ?_))))))
 obtain ⟨r_4,hr_5,hF⟩:=bind_some hF
 refine aD (jI hr_5) rfl hb14 rfl rfl rfl rfl wz (aa (vI r_4) (ah (ai (aa (vI r_4) (aa (vB (r_4 != 0)) (ah ?_))))))
 rcases aj hF with⟨hc_6,hF⟩|⟨hc_6,hF⟩
 ·refine aB rfl hc_6 (ai (aa (vI r_4) (aa (vI r_4) (ah ?_))))
  obtain rfl:=ae hF
  exact ay (aK [(vI r_4)] ⟨rfl,trivial⟩)
 ·refine aA rfl hc_6 (av (ak (ai (aa (vL Share.enc s_3) (bR un35 rfl wz (aa (vB (decide ((s_3.length:Int)>1800))) (ah ?_)))))))
  rcases aj hF with⟨hc_7,hF⟩|⟨hc_7,hF⟩
  ·refine aB rfl hc_7 (ai (aa (vI 2) (ah ?_)))
   obtain rfl:=ae hF
   exact ay (aK [(vI 2)] ⟨rfl,trivial⟩)
  ·refine aA rfl hc_7 (av (ai (G9 0 (.inl rfl) wz (λn_8=>tJ (b':=some (bM D.str (D.int .i64) ([]:List (ByteArray×Int)))) 0 rfl rfl (G9 0 (.inl rfl) wz (λn_9=>tJ (b':=some (bM D.str (D.int .i64) ([]:List (ByteArray×Int)))) 1 rfl rfl (dB 0 (.inl rfl) z84 rfl wz (λn_10=>dB 0 (.inl rfl) z84 rfl wz (λn_11=>fE 0 il ft 2 Nc rfl rfl [(.map n_8)] rfl wz (fE 0 il ft 3 Nc rfl rfl [(.map n_9)] rfl wz (ah (ak (ai (aa (vL Share.enc s_3) (bR un35 rfl wz (aa (vI 0) (ah ?_)))))))))))))))))
   obtain ⟨o_20,hj_21,hF⟩:=bind_some hF
   obtain ⟨hn_16,hj_21⟩:=bf hj_21
   refine cz (λ(s_17:(List (ByteArray×Int))×(List (ByteArray×Int)))=>[(0,(vL Spot.enc spots_1)),(1,(vL Campaign.enc l_2)),(8,(.ref n_10 0 0)),(9,(.ref n_11 0 0))]) (λ(s_17:(List (ByteArray×Int))×(List (ByteArray×Int)))=>[(n_8,some (bM D.str (D.int .i64) s_17.1)),(n_9,some (bM D.str (D.int .i64) s_17.2)),(n_10,some (.cells 1 [(.map n_8)])),(n_11,some (.cells 1 [(.map n_9)]))]) (λ(k_12:Nat)=>(λ(s_17:(List (ByteArray×Int))×(List (ByteArray×Int)))=>[(0,(vL Spot.enc spots_1)),(1,(vL Campaign.enc l_2)),(2,(vL Share.enc s_3)),(8,(.ref n_10 0 0)),(9,(.ref n_11 0 0)),(24,(vL Share.enc s_3)),(25,(vI (s_3.length:Int))),(26,(vI (k_12:Int)))])) (λk x s=>eF spots_1 l_2 s_3 k x s) o_20 s_3 (([]:List (ByteArray×Int)),([]:List (ByteArray×Int))) hj_21 rfl (aL rfl) ?_ ?_
   ·rintro ⟨k_12,l_13,s_17⟩ ⟨hL_19,hD_15⟩
    dsimp only at hL_19 hD_15
    cases l_13 with
    | nil =>
     obtain rfl:=ae hL_19
     refine ai (aa (vB (decide ((k_12:Int)<(s_3.length:Int)))) (ah ?_))
     refine ak (aA rfl (drop_nil hD_15) (aV ?_))
     exact aS (s_17) rfl rfl (aL rfl)
    | cons x_14 l_13 =>
     obtain ⟨c_,hc_18,hL_19⟩:=bind_some hL_19
     refine ai (aa (vB (decide ((k_12:Int)<(s_3.length:Int)))) (ah ?_))
     refine ak (aB rfl (bv hD_15) (av ?_))
     unfold eF at hc_18
     refine ak (aM (ai (aa (vI (k_12:Int)) (dD K8 rfl rfl (bI hD_15) rfl wz (bE LG ag44 rfl (.d (.agg (Share.enc x_14))) rfl wz (dB 0 (.inl rfl) z44 rfl wz (λn_22=>aa (vI (k_12:Int)) (fE 0 il ft 4 LG rfl rfl (Share.v x_14) rfl wz (ah (ak (ai (aa (vL Spot.enc spots_1) (aa (vL Campaign.enc l_2) (aa (vL Share.enc s_3) (aa (vI (k_12:Int)) ?_)))))))))))))))
     obtain ⟨r_23,hr_24,hc_18⟩:=bind_some hc_18
     refine aD (wZ hr_24) rfl hb28 rfl rfl rfl rfl wz (aa (vI r_23) (ah (ai (aa (vI r_23) (aa (vB (r_23 != 0)) (ah ?_))))))
     rcases aj hc_18 with⟨hc_25,hc_18⟩|⟨hc_25,hc_18⟩
     ·refine aB rfl hc_25 (ai (aa (vI r_23) (aa (vI r_23) (ah ?_))))
      obtain rfl:=ae hc_18
      obtain rfl:=ae hL_19
      obtain rfl:=ae hF
      exact ay (aK [(vI r_23)] ⟨rfl,trivial⟩)
     ·refine aA rfl hc_25 (av (ai (aF 0 2 il ft Nc ag84 rfl rfl (.map n_8) rfl wz (aH Il rfl 1 rfl wz (aF 0 4 il ft sz9 ag9 rfl rfl (vS x_14.Spot) rfl wz (xR (eq:=eqS) (kD:=D.str) (vD:=(D.int .i64)) (es:=s_17.1) (k:=x_14.Spot) (z:=0) 0 0 il ft (λ_ _=>rfl) M6 (by kernel_rfl) (by kernel_rfl) rfl rfl rfl (vI ((iM eqS s_17.1 x_14.Spot).getD 0)) rfl wz (aH H6 rfl 2 rfl wz (aF 0 4 il ft sz3 ag3 rfl rfl (vI x_14.Many) rfl wz (aa (vI (w64 (((iM eqS s_17.1 x_14.Spot).getD 0)+x_14.Many))) (D9 (eq:=eqS) (kD:=D.str) (vD:=(D.int .i64)) (es:=s_17.1) (k:=x_14.Spot) (v:=(w64 (((iM eqS s_17.1 x_14.Spot).getD 0)+x_14.Many))) 0 0 il ft (λ_ _=>rfl) M6 (by kernel_rfl) rfl rfl rfl rfl wz (ah (au (aF 0 3 il ft Nc ag84 rfl rfl (.map n_9) rfl wz (aH Bu rfl 0 rfl wz (aF 0 4 il ft sz9 ag9 rfl rfl (vS x_14.Campaign) rfl wz (xR (eq:=eqS) (kD:=D.str) (vD:=(D.int .i64)) (es:=s_17.2) (k:=x_14.Campaign) (z:=0) 0 1 il ft (λ_ _=>rfl) M6 (by kernel_rfl) (by kernel_rfl) rfl rfl rfl (vI ((iM eqS s_17.2 x_14.Campaign).getD 0)) rfl wz (aH H6 rfl 2 rfl wz (aF 0 4 il ft sz3 ag3 rfl rfl (vI x_14.Many) rfl wz (aa (vI (w64 (((iM eqS s_17.2 x_14.Campaign).getD 0)+x_14.Many))) (D9 (eq:=eqS) (kD:=D.str) (vD:=(D.int .i64)) (es:=s_17.2) (k:=x_14.Campaign) (v:=(w64 (((iM eqS s_17.2 x_14.Campaign).getD 0)+x_14.Many))) 0 1 il ft (λ_ _=>rfl) M6 (by kernel_rfl) rfl rfl rfl rfl wz (ah (aO (H0:=([(n_8,some (bM D.str (D.int .i64) (vz eqS s_17.1 x_14.Spot (w64 (((iM eqS s_17.1 x_14.Spot).getD 0)+x_14.Many))))),(n_9,some (bM D.str (D.int .i64) (vz eqS s_17.2 x_14.Campaign (w64 (((iM eqS s_17.2 x_14.Campaign).getD 0)+x_14.Many))))),(n_10,some (.cells 1 [(.map n_8)])),(n_11,some (.cells 1 [(.map n_9)])),(n_22,some (.cells 3 (Share.v x_14)))]:Hp)) ([(0,(vL Spot.enc spots_1)),(1,(vL Campaign.enc l_2)),(2,(vL Share.enc s_3)),(8,(.ref n_10 0 0)),(9,(.ref n_11 0 0)),(24,(vL Share.enc s_3)),(25,(vI (s_3.length:Int))),(26,(vI (k_12:Int)))]:SL_) (by kernel_rfl) (vW (by kernel_rfl)) (au ?_)))))))))))))))))))))))
      refine dS (bC hD_15 hn_16) wz rfl (aa (vI ((k_12+1:Nat):Int)) (ah ?_))
      obtain rfl:=ae hc_18
      exact aU (k_12+1,l_13,((vz eqS s_17.1 x_14.Spot (w64 (((iM eqS s_17.1 x_14.Spot).getD 0)+x_14.Many))),(vz eqS s_17.2 x_14.Campaign (w64 (((iM eqS s_17.2 x_14.Campaign).getD 0)+x_14.Many))))) ⟨hL_19,aX hD_15⟩ (ls_ _) rfl (aL rfl)
   ·rintro s_17 ho_ sl_ H_ hp_ hq_
    subst ho_
    refine aO _ hp_ hq_ (ak (ak ?_))
    obtain ⟨v_26,h_27,hF⟩:=bind_some hF
    refine aQ [(61,(vB v_26))] [(n_8,some (bM D.str (D.int .i64) s_17.1)),(n_9,some (bM D.str (D.int .i64) s_17.2)),(n_10,some (.cells 1 [(.map n_8)])),(n_11,some (.cells 1 [(.map n_9)]))] ?_ ?_
    ·refine au (aa (vL Spot.enc spots_1) (aa (.fn 30 [(.ref n_10 0 0)]) ?_))
     obtain ⟨r_28,hr_29,h_27⟩:=bind_some h_27
     refine gU 0 [2,0] il ft (lD (gid:=30) (caps:=[.ref (ax 0) 0 0]) (Sin:=[(.cells 1 [(.map (ax 1))]),(bM D.str (D.int .i64) s_17.1)]) (λ_ _ h_=>uf h_) hb30 ⟨rfl,rfl⟩ (by kernel_rfl) (Du (by kernel_rfl)) (A8 (by kernel_rfl)) hr_29) rfl hb29 rfl (by kernel_rfl) (by kernel_rfl) (by kernel_rfl) (by kernel_rfl) (by kernel_rfl) (by kernel_rfl) (by kernel_rfl) (by decide) (by kernel_rfl) wz (vB r_28) (by kernel_rfl) ([(n_8,some (bM D.str (D.int .i64) s_17.1)),(n_9,some (bM D.str (D.int .i64) s_17.2)),(n_10,some (.cells 1 [(.map n_8)])),(n_11,some (.cells 1 [(.map n_9)]))]:Hp) (by kernel_rfl) ?_
     rcases aj h_27 with⟨hc_31,h_27⟩|⟨hc_31,h_27⟩
     ·refine aC rfl hc_31 wz (af (af (af (aa (vB true) (ah ?_)))))
      obtain rfl:=ae h_27
      exact cu
     ·refine aC rfl hc_31 wz (aG (vL Campaign.enc l_2) wa rfl (aG (.fn 32 [(.ref n_11 0 0)]) wa rfl ?_))
      obtain ⟨r_32,hr_33,h_27⟩:=bind_some h_27
      refine gU 0 [3,1] il ft (jw (gid:=32) (caps:=[.ref (ax 0) 0 0]) (Sin:=[(.cells 1 [(.map (ax 1))]),(bM D.str (D.int .i64) s_17.2)]) (λ_ _ h_=>tZ h_) hb32 ⟨rfl,rfl⟩ (by kernel_rfl) (Du (by kernel_rfl)) (A8 (by kernel_rfl)) hr_33) rfl hb31 rfl (by kernel_rfl) (by kernel_rfl) (by kernel_rfl) (by kernel_rfl) (by kernel_rfl) (by kernel_rfl) (by kernel_rfl) (by decide) (by kernel_rfl) wa (vB r_32) (by kernel_rfl) ([(n_8,some (bM D.str (D.int .i64) s_17.1)),(n_9,some (bM D.str (D.int .i64) s_17.2)),(n_10,some (.cells 1 [(.map n_8)])),(n_11,some (.cells 1 [(.map n_9)]))]:Hp) (by kernel_rfl) (aa (vB r_32) (ah ?_))
      obtain rfl:=ae h_27
      exact cu
    ·rintro ⟨⟩ _ sl_ H_ hp_ hq_
     refine aO _ hp_ hq_ ?_
     rcases aj hF with⟨hc_35,hF⟩|⟨hc_35,hF⟩
     ·refine aB rfl hc_35 (ai (aa (vI 12) (ah ?_)))
      obtain rfl:=ae hF
      exact ay (aK [(vI 12)] ⟨rfl,trivial⟩)
     ·refine aA rfl hc_35 (av (ai (aa (vI 0) (ah ?_))))
      obtain rfl:=ae hF
      exact ay (aK [(vI 0)] ⟨rfl,trivial⟩)
theorem A9 {l_1:(List Int)} {r:Bool} (hF:oK l_1=some r) :
  FnM Tryz.prog 3 [(vL eI l_1)] [] (vB r) []:=by
 refine FnM.of_wH ⟨Tryz.prog,112,[],[]⟩ rfl Tryz.func3 rfl rfl (lb_ rfl) (by kernel_rfl) ?_
 unfold oK at hF
 refine ai (aa (vB false) (ah (ai (aa (vL eI l_1) (aG (.d (.agg (Stream.enc (⟨l_1,0⟩:Stream)))) wz (by kernel_rfl) (ig 0 (.inl rfl) [(vL eI l_1),(vI 0)] rfl rfl wz (λn_2=>aa (.ref n_2 0 0) (ah (ai (aa (.ref n_2 0 0) ?_))))))))))
 obtain ⟨r_3,hr_4,hF⟩:=bind_some hF
 refine gU 0 [0] il ft (uJ hr_4) rfl hb4 rfl (by kernel_rfl) (by kernel_rfl) (by kernel_rfl) (by kernel_rfl) (by kernel_rfl) (by kernel_rfl) (by kernel_rfl) (by decide) (by kernel_rfl) wz (vL Spot.enc r_3.1) (by kernel_rfl) ([(n_2,some (.cells 2 [(vL eI r_3.2.L),(vI r_3.2.f_at)]))]:Hp) (by kernel_rfl) (aa (.ref n_2 0 0) ?_)
 obtain ⟨r_6,hr_7,hF⟩:=bind_some hF
 refine gU 0 [0] il ft (rU hr_7) rfl hb5 rfl (by kernel_rfl) (by kernel_rfl) (by kernel_rfl) (by kernel_rfl) (by kernel_rfl) (by kernel_rfl) (by kernel_rfl) (by decide) (by kernel_rfl) wz (vL Campaign.enc r_6.1) (by kernel_rfl) ([(n_2,some (.cells 2 [(vL eI r_6.2.L),(vI r_6.2.f_at)]))]:Hp) (by kernel_rfl) (aa (vL Spot.enc r_3.1) (aa (vL Campaign.enc r_6.1) (ah (ai (aa (vL Spot.enc r_3.1) (aa (vL Campaign.enc r_6.1) ?_))))))
 obtain ⟨r_9,hr_10,hF⟩:=bind_some hF
 refine aD (Da hr_10) rfl hb6 rfl rfl rfl rfl wz (aa (.tup [(vI r_9.1),(vI r_9.2)]) (aa (vI r_9.1) (aa (vI r_9.2) (aa (vI r_9.1) (aa (vI r_9.2) (ah (ai (aa (vL Spot.enc r_3.1) (aa (vL Campaign.enc r_6.1) ?_)))))))))
 obtain ⟨r_11,hr_12,hF⟩:=bind_some hF
 refine aD (Er hr_12) rfl hb7 rfl rfl rfl rfl wz (aa (.tup [(vB r_11.1),(vI r_11.2)]) (aa (vB r_11.1) (aa (vI r_11.2) (aa (vB r_11.1) (aa (vI r_11.2) (ah (ai (aa (vL Spot.enc r_3.1) (aa (vL Campaign.enc r_6.1) ?_)))))))))
 obtain ⟨r_13,hr_14,hF⟩:=bind_some hF
 refine aD (CO hr_14) rfl hb8 rfl rfl rfl rfl wz (aa (.tup [(vL Share.enc r_13.1),(vI r_13.2)]) (aa (vL Share.enc r_13.1) (aa (vI r_13.2) (aa (vL Share.enc r_13.1) (aa (vI r_13.2) (ah (aO (H0:=([(n_2,some (.cells 2 [(vL eI r_6.2.L),(vI r_6.2.f_at)]))]:Hp)) ([(4,(vL Spot.enc r_3.1)),(5,(vL Campaign.enc r_6.1)),(6,(vI r_9.1)),(7,(vI r_9.2)),(8,(vB r_11.1)),(9,(vI r_11.2)),(10,(vL Share.enc r_13.1)),(11,(vI r_13.2))]:SL_) (by kernel_rfl) (vW (by kernel_rfl)) (ai (aa (vI 0) (aa (vI 0) (ah (ak (ai (aa (vL Campaign.enc r_6.1) (bR FJ rfl wz (aa (vI 0) (ah ?_)))))))))))))))))
 obtain ⟨o_23,hj_24,hF⟩:=bind_some hF
 obtain ⟨hn_19,hj_24⟩:=bf hj_24
 refine cz (λ(s_20:Int)=>[(4,(vL Spot.enc r_3.1)),(5,(vL Campaign.enc r_6.1)),(6,(vI r_9.1)),(7,(vI r_9.2)),(8,(vB r_11.1)),(9,(vI r_11.2)),(10,(vL Share.enc r_13.1)),(11,(vI r_13.2)),(12,(vI s_20)),(13,(vI 0))]) (λ(s_20:Int)=>[(n_2,some (.cells 2 [(vL eI r_6.2.L),(vI r_6.2.f_at)]))]) (λ(k_15:Nat)=>(λ(s_20:Int)=>[(4,(vL Spot.enc r_3.1)),(5,(vL Campaign.enc r_6.1)),(6,(vI r_9.1)),(7,(vI r_9.2)),(8,(vB r_11.1)),(9,(vI r_11.2)),(10,(vL Share.enc r_13.1)),(11,(vI r_13.2)),(12,(vI s_20)),(13,(vI 0)),(43,(vL Campaign.enc r_6.1)),(44,(vI (r_6.1.length:Int))),(45,(vI (k_15:Int)))])) (λk x s=>iq k x s) o_23 r_6.1 0 hj_24 rfl (aL rfl) ?_ ?_
 ·rintro ⟨k_15,l_16,s_20⟩ ⟨hL_22,hD_18⟩
  dsimp only at hL_22 hD_18
  cases l_16 with
  | nil =>
   obtain rfl:=ae hL_22
   refine ai (aa (vB (decide ((k_15:Int)<(r_6.1.length:Int)))) (ah ?_))
   refine ak (aA rfl (drop_nil hD_18) (aV ?_))
   exact aS (s_20) rfl rfl (aL rfl)
  | cons x_17 l_16 =>
   obtain ⟨c_,hc_21,hL_22⟩:=bind_some hL_22
   refine ai (aa (vB (decide ((k_15:Int)<(r_6.1.length:Int)))) (ah ?_))
   refine ak (aB rfl (bv hD_18) (av ?_))
   unfold iq at hc_21
   refine ak (aM (ai (dD Bw rfl rfl (bI hD_18) rfl wz (bE uC Ar rfl (.d (.agg (Campaign.enc x_17))) rfl wz (dB 0 (.inl rfl) z42 rfl wz (λn_25=>fE 0 il ft 1 uC rfl rfl (Campaign.v x_17) rfl wz (ah (au (aa (vI s_20) (aH zI rfl 5 rfl wz (aF 0 1 il ft sz3 ag3 rfl rfl (vI x_17.Goal) rfl wz (aa (vI (w64 (s_20+x_17.Goal))) (aa (vI (w64 (s_20+x_17.Goal))) (ah (au (dS (bC hD_18 hn_19) wz rfl (aa (vI ((k_15+1:Nat):Int)) (ah ?_))))))))))))))))))
   obtain rfl:=ae hc_21
   exact aU (k_15+1,l_16,(w64 (s_20+x_17.Goal))) ⟨hL_22,aX hD_18⟩ (ls_ _) rfl (aL rfl)
 ·rintro s_20 ho_ sl_ H_ hp_ hq_
  subst ho_
  refine aO _ hp_ hq_ (ak (ai (aa (vL Share.enc r_13.1) (bR un35 rfl wz (aa (vI 0) (ah ?_))))))
  obtain ⟨o_34,hj_35,hF⟩:=bind_some hF
  obtain ⟨hn_30,hj_35⟩:=bf hj_35
  refine cz (λ(s_31:Int)=>[(4,(vL Spot.enc r_3.1)),(5,(vL Campaign.enc r_6.1)),(6,(vI r_9.1)),(7,(vI r_9.2)),(8,(vB r_11.1)),(9,(vI r_11.2)),(10,(vL Share.enc r_13.1)),(11,(vI r_13.2)),(12,(vI s_20)),(13,(vI s_31))]) (λ(s_31:Int)=>[(n_2,some (.cells 2 [(vL eI r_6.2.L),(vI r_6.2.f_at)]))]) (λ(k_26:Nat)=>(λ(s_31:Int)=>[(4,(vL Spot.enc r_3.1)),(5,(vL Campaign.enc r_6.1)),(6,(vI r_9.1)),(7,(vI r_9.2)),(8,(vB r_11.1)),(9,(vI r_11.2)),(10,(vL Share.enc r_13.1)),(11,(vI r_13.2)),(12,(vI s_20)),(13,(vI s_31)),(54,(vL Share.enc r_13.1)),(55,(vI (r_13.1.length:Int))),(56,(vI (k_26:Int)))])) (λk x s=>fT k x s) o_34 r_13.1 0 hj_35 rfl (aL rfl) ?_ ?_
  ·rintro ⟨k_26,l_27,s_31⟩ ⟨hL_33,hD_29⟩
   dsimp only at hL_33 hD_29
   cases l_27 with
   | nil =>
    obtain rfl:=ae hL_33
    refine ai (aa (vB (decide ((k_26:Int)<(r_13.1.length:Int)))) (ah ?_))
    refine ak (aA rfl (drop_nil hD_29) (aV ?_))
    exact aS (s_31) rfl rfl (aL rfl)
   | cons x_28 l_27 =>
    obtain ⟨c_,hc_32,hL_33⟩:=bind_some hL_33
    refine ai (aa (vB (decide ((k_26:Int)<(r_13.1.length:Int)))) (ah ?_))
    refine ak (aB rfl (bv hD_29) (av ?_))
    unfold fT at hc_32
    refine ak (aM (ai (dD K8 rfl rfl (bI hD_29) rfl wz (bE LG ag44 rfl (.d (.agg (Share.enc x_28))) rfl wz (dB 0 (.inl rfl) z44 rfl wz (λn_36=>fE 0 il ft 1 LG rfl rfl (Share.v x_28) rfl wz (ah (au (aa (vI s_31) (aH H6 rfl 2 rfl wz (aF 0 1 il ft sz3 ag3 rfl rfl (vI x_28.Many) rfl wz (aa (vI (w64 (s_31+x_28.Many))) (aa (vI (w64 (s_31+x_28.Many))) (ah (au (dS (bC hD_29 hn_30) wz rfl (aa (vI ((k_26+1:Nat):Int)) (ah ?_))))))))))))))))))
    obtain rfl:=ae hc_32
    exact aU (k_26+1,l_27,(w64 (s_31+x_28.Many))) ⟨hL_33,aX hD_29⟩ (ls_ _) rfl (aL rfl)
  ·rintro s_31 ho_ sl_ H_ hp_ hq_
   subst ho_
   refine aO _ hp_ hq_ (ak (ak ?_))
   obtain ⟨v_37,h_38,hF⟩:=bind_some hF
   refine aQ [(4,(vL Spot.enc r_3.1)),(5,(vL Campaign.enc r_6.1)),(8,(vB r_11.1)),(10,(vL Share.enc r_13.1)),(11,(vI r_13.2)),(12,(vI s_20)),(13,(vI s_31)),(82,(vB v_37))] [(n_2,some (.cells 2 [(vL eI r_6.2.L),(vI r_6.2.f_at)]))] ?_ ?_
   ·refine au (aa (vI r_9.2) (aa (vB (r_9.2 != 0)) ?_))
    rcases aj h_38 with⟨hc_39,h_38⟩|⟨hc_39,h_38⟩
    ·refine aC rfl hc_39 wz (af (af (aa (vB true) (aa (vB true) (af (af (af (aa (vB true) (aa (vB true) (af (af (af (af (af (aa (vB true) (ah ?_))))))))))))))))
     obtain rfl:=ae h_38
     exact cu
    ·refine aC rfl hc_39 wz (aG (vI r_11.2) wa rfl (aG (vB (r_11.2 != 0)) wa rfl (aa (vB (r_11.2 != 0)) ?_)))
     rcases aj h_38 with⟨hc_40,h_38⟩|⟨hc_40,h_38⟩
     ·refine aC rfl hc_40 wz (af (af (af (aa (vB true) (aa (vB true) (af (af (af (af (af (aa (vB true) (ah ?_))))))))))))
      obtain rfl:=ae h_38
      exact cu
     ·refine aC rfl hc_40 wz (aG (vI r_9.1) wa rfl (aG (vI s_20) wa rfl (aG (vB (decide (r_9.1>s_20))) wa rfl (aa (vB (decide (r_9.1>s_20))) ?_))))
      rcases aj h_38 with⟨hc_41,h_38⟩|⟨hc_41,h_38⟩
      ·refine aC rfl hc_41 wz (af (af (af (af (af (aa (vB true) (ah ?_)))))))
       obtain rfl:=ae h_38
       exact cu
      ·refine aC rfl hc_41 wz (aG (vB r_11.1) wa rfl (aG (vI r_9.1) wa rfl (aG (vI s_20) wa rfl (aG (vB (r_9.1==s_20)) wa rfl (Kl un4 rfl rfl wa (aa (vB (!(r_11.1==(r_9.1==s_20)))) (ah ?_)))))))
       obtain rfl:=ae h_38
       exact cu
   ·rintro ⟨⟩ _ sl_ H_ hp_ hq_
    refine aO _ hp_ hq_ ?_
    rcases aj hF with⟨hc_42,hF⟩|⟨hc_42,hF⟩
    ·refine aB rfl hc_42 (ai (aa (vB false) (ah ?_)))
     obtain rfl:=ae hF
     exact ay (aK [(vB false)] ⟨rfl,trivial⟩)
    ·refine aA rfl hc_42 (av (ak (ai (aa (vB r_11.1) (aa (vB (!r_11.1)) (ah ?_))))))
     rcases aj hF with⟨hc_43,hF⟩|⟨hc_43,hF⟩
     ·refine aB rfl hc_43 (ak ?_)
      obtain ⟨v_44,h_45,hF⟩:=bind_some hF
      refine aQ [(2,(vB v_44))] [(n_2,some (.cells 2 [(vL eI r_6.2.L),(vI r_6.2.f_at)]))] ?_ ?_
      ·refine au (aa (vI r_13.2) (aa (vB (r_13.2==12)) ?_))
       rcases aj h_45 with⟨hc_46,h_45⟩|⟨hc_46,h_45⟩
       ·refine aC rfl hc_46 wz (aG (vL Share.enc r_13.1) wa rfl (bR un35 rfl wa (aG (vB ((r_13.1.length:Int)==0)) wa rfl (aa (vB ((r_13.1.length:Int)==0)) ?_))))
        rcases aj h_45 with⟨hc_47,h_45⟩|⟨hc_47,h_45⟩
        ·refine aC rfl hc_47 wz ?_
         obtain ⟨r_48,hr_49,h_45⟩:=bind_some h_45
         refine aD (y8 hr_49) rfl hb9 rfl rfl rfl rfl wa (aa (vB r_48) (aa (vB r_48) (ah ?_)))
         obtain rfl:=ae h_45
         exact cu
        ·refine aC rfl hc_47 wz (af (aa (vB false) (aa (vB false) (ah ?_))))
         obtain rfl:=ae h_45
         exact cu
       ·refine aC rfl hc_46 wz (af (af (af (aa (vB false) (aa (vB false) (af (aa (vB false) (aa (vB false) (ah ?_)))))))))
        obtain rfl:=ae h_45
        exact cu
      ·rintro ⟨⟩ _ sl_ H_ hp_ hq_
       refine aO _ hp_ hq_ ?_
       obtain rfl:=ae hF
       exact ay (aK [(vB v_44)] ⟨rfl,trivial⟩)
     ·refine aA rfl hc_43 (av (ak ?_))
      obtain ⟨v_50,h_51,hF⟩:=bind_some hF
      refine aQ [(2,(vB v_50))] [(n_2,some (.cells 2 [(vL eI r_6.2.L),(vI r_6.2.f_at)]))] ?_ ?_
      ·refine au (aa (vI r_13.2) (aa (vB (r_13.2==0)) ?_))
       rcases aj h_51 with⟨hc_52,h_51⟩|⟨hc_52,h_51⟩
       ·refine aC rfl hc_52 wz (aG (vI s_31) wa rfl (aG (vI s_20) wa rfl (aG (vB (s_31==s_20)) wa rfl (aa (vB (s_31==s_20)) ?_))))
        rcases aj h_51 with⟨hc_53,h_51⟩|⟨hc_53,h_51⟩
        ·refine aC rfl hc_53 wz (aG (vL Spot.enc r_3.1) wa rfl (aG (vL Campaign.enc r_6.1) wa rfl (aG (vL Share.enc r_13.1) wa rfl ?_)))
         obtain ⟨r_54,hr_55,h_51⟩:=bind_some h_51
         refine aD (wR hr_55) rfl hb10 rfl rfl rfl rfl wa (aG (vB (r_54==0)) wa rfl (aa (vB (r_54==0)) ?_))
         rcases aj h_51 with⟨hc_56,h_51⟩|⟨hc_56,h_51⟩
         ·refine aC rfl hc_56 wz ?_
          obtain ⟨r_57,hr_58,h_51⟩:=bind_some h_51
          refine aD (y8 hr_58) rfl hb9 rfl rfl rfl rfl wa (aa (vB r_57) (aa (vB r_57) (ah ?_)))
          obtain rfl:=ae h_51
          exact cu
         ·refine aC rfl hc_56 wz (af (aa (vB false) (aa (vB false) (ah ?_))))
          obtain rfl:=ae h_51
          exact cu
        ·refine aC rfl hc_53 wz (af (af (af (af (af (aa (vB false) (aa (vB false) (af (aa (vB false) (aa (vB false) (ah ?_)))))))))))
         obtain rfl:=ae h_51
         exact cu
       ·refine aC rfl hc_52 wz (af (af (af (aa (vB false) (aa (vB false) (af (af (af (af (af (aa (vB false) (aa (vB false) (af (aa (vB false) (aa (vB false) (ah ?_))))))))))))))))
        obtain rfl:=ae h_51
        exact cu
      ·rintro ⟨⟩ _ sl_ H_ hp_ hq_
       refine aO _ hp_ hq_ ?_
       obtain rfl:=ae hF
       exact ay (aK [(vB v_50)] ⟨rfl,trivial⟩)
end Go.Proofs.YtekmkepojbhafacGreatDoor.Law

