/-
 The machine computes these plain functions (written by a program of ours).
-/
import Derived.Test.YtljhfffghjclfaaGreatDoorFacts
import Derived.Test.YtljhfffghjclfaaGreatDoorDefs
import Derived.Test.YtljhfffghjclfaaGreatDoorPf4
open Go Go.Eng Go.Proofs
namespace Go.Proofs.YtljhfffghjclfaaGreatDoor.Law
set_option maxRecDepth 100000
set_option linter.unusedVariables false
set_option maxHeartbeats 1000000
theorem xK {text_1:ByteArray} {r:(List Alert)×Int×Int} (hF:gy text_1=some r) :
  FnM Tryz.prog 10 [(vS text_1)] [] (.tup [(vL Alert.enc r.1),(vI r.2.1),(vI r.2.2)]) []:=by
 refine FnM.of_wH ⟨Tryz.prog,36,[],[]⟩ rfl Tryz.func10 rfl rfl (lb_ rfl) (by kernel_rfl) ?_
 unfold gy at hF
 refine ai (aa .nil (aa (vI 0) (aa (vI 0) (ah (au (ai (aa (vS text_1) (iU un9 rfl wz (aa (vB (decide ((text_1.size:Int)>200000))) (ah ?_))))))))))
 rcases aj hF with⟨hc_2,hF⟩|⟨hc_2,hF⟩
 ·refine aC rfl hc_2 (ai (aa .nil (aa (vI 0) (aa (vI 2) (ah ?_)))))
  obtain rfl:=ae hF
  exact ax (aK [.nil,(vI 0),(vI 2)] ⟨rfl,⟨rfl,⟨rfl,trivial⟩⟩⟩)
 ·refine aB rfl hc_2 (aA (ai (aH (.agg [.nil,(vI 0)]) wz (by kernel_rfl) (lY 0 (.inl rfl) [.nil,(vI 0)] rfl rfl wz (λn_3=>aa (.ref n_3 0 0) (ah (au (ai (aa (vS text_1) (aa (.ref n_3 0 0) (aa (.fn (35+1000000000) [(.ref n_3 0 0)]) (lF (λn_4=>lF (λn_5=>lF (λn_6 => ?_)))))))))))))))
  obtain ⟨r_7,hr_8,hF⟩:=bind_some hF
  refine A8 Alert.al (lb:=[(n_3,.cells 2 [(gV n_4 9 ([]:List Alert)),(vI 0)])]) [0] 1 2 3 (DR hr_8) (λ_ _=>rfl) (λ_ _ _=>rfl) (λ_=>rfl) (λ_ _=>rfl) (λ_ _ h_=>Dp h_) (cd_fn rfl hb34) rfl rfl rfl rfl rfl (by decide) (λ_ _ h_=>al_s h_) (λ_ h_ _=>Dp h_) (λ_ h_=>(List.not_mem_nil h_).elim) (λ_ h_ _=>al_a2 h_) (λ_ _ h_=>al_o2 h_) wz (λn_9 n_10 n_11=>Lx (H0:=([(n_3,some (.cells 2 [(gV n_9 9 r_7.2.2.f_l),(vI r_7.2.2.f_rank)])),(n_4,none),(n_5,none),(n_6,none),(n_9,Alert.al.box r_7.2.2.f_l n_10 n_11),(n_10,gB 1 eS (aY Alert.Refs r_7.2.2.f_l)),(n_11,gB 4 Rect.enc (aY Alert.Areas r_7.2.2.f_l))]:Hp)) rfl (fq (v':=(.tup [(vI r_7.1),(vB r_7.2.1)])) 18 rfl rfl (aa (.tup [(vI r_7.1),(vB r_7.2.1)]) (aa (vI r_7.1) (aa (vB r_7.2.1) (aa (vI r_7.1) (aa (vB r_7.2.1) (ah (ai (aa (vB r_7.2.1) (aa (vB (!r_7.2.1)) (ah ?_))))))))))))
  rcases aj hF with⟨hc_12,hF⟩|⟨hc_12,hF⟩
  ·refine aC rfl hc_12 (ai (aa (vI r_7.1) (aa .nil (aa (vI r_7.1) (aa (vI 9) (ah ?_))))))
   obtain rfl:=ae hF
   exact ax (aK [.nil,(vI r_7.1),(vI 9)] ⟨rfl,⟨rfl,⟨rfl,trivial⟩⟩⟩)
  ·refine aB rfl hc_12 (aA (au (au (EY Alert.al 4 5 6 rfl rfl rfl (by decide) (iW 4 rfl (Hw 4 0 [(vL Alert.enc r_7.2.2.f_l),(vI r_7.2.2.f_rank)] rfl rfl (λS hS=>bU (hS) (bU (rfl) (rfl))) (av (aa (.ref n_3 0 0) (aa (.ref n_3 0 0) (aG qH rfl 0 rfl wz (aI 0 0 il ft Cg D6 rfl rfl (vL Alert.enc r_7.2.2.f_l) rfl wz ?_)))))))))))
   obtain ⟨r_13,hr_14,hF⟩:=bind_some hF
   refine aD (pX hr_14) rfl hb7 rfl rfl rfl rfl wz (aa (vI r_13) (ah (ai (aa (vI r_13) (aa (vB (r_13 != 0)) (ah ?_))))))
   rcases aj hF with⟨hc_15,hF⟩|⟨hc_15,hF⟩
   ·refine aC rfl hc_15 (ai (aa (vI r_13) (aa .nil (aa (vI 0) (aa (vI r_13) (ah (aP (H0:=([(n_3,some (.cells 2 [(vL Alert.enc r_7.2.2.f_l),(vI r_7.2.2.f_rank)])),(n_4,none),(n_5,none),(n_6,none),(n_9,gF 9 Alert.enc r_7.2.2.f_l),(n_10,none),(n_11,none)]:Hp)) ([(2,.nil),(3,(vI 0)),(4,(vI r_13))]:SL_) (by kernel_rfl) (qb (by kernel_rfl)) ?_)))))))
    obtain rfl:=ae hF
    exact ax (aK [.nil,(vI 0),(vI r_13)] ⟨rfl,⟨rfl,⟨rfl,trivial⟩⟩⟩)
   ·refine aB rfl hc_15 (aA (ai (aa (.ref n_3 0 0) (aa (.ref n_3 0 0) (aG qH rfl 0 rfl wz (aI 0 0 il ft Cg D6 rfl rfl (vL Alert.enc r_7.2.2.f_l) rfl wz (aa (vL Alert.enc r_7.2.2.f_l) (aa (vI 0) (aa (vI 0) (ah (aP (H0:=([(n_3,some (.cells 2 [(vL Alert.enc r_7.2.2.f_l),(vI r_7.2.2.f_rank)])),(n_4,none),(n_5,none),(n_6,none),(n_9,gF 9 Alert.enc r_7.2.2.f_l),(n_10,none),(n_11,none)]:Hp)) ([(2,(vL Alert.enc r_7.2.2.f_l)),(3,(vI 0)),(4,(vI 0))]:SL_) (by kernel_rfl) (qb (by kernel_rfl)) ?_)))))))))))
    obtain rfl:=ae hF
    exact ax (aK [(vL Alert.enc r_7.2.2.f_l),(vI 0),(vI 0)] ⟨rfl,⟨rfl,⟨rfl,trivial⟩⟩⟩)
theorem yw {a_1:Alert} {b_2:Alert} {r:Bool} (hF:iy a_1 b_2=some r) :
  FnM Tryz.prog 12 [(.d (.agg (Alert.enc a_1))),(.d (.agg (Alert.enc b_2)))] [] (vB r) []:=by
 refine FnM.of_wH ⟨Tryz.prog,12,[],[]⟩ rfl Tryz.func12 rfl rfl (lb_ rfl) (by kernel_rfl) ?_
 unfold iy at hF
 refine ai (lY 0 (.inl rfl) (Alert.v a_1) rfl rfl wz (λn_3=>lY 0 (.inl rfl) (Alert.v b_2) rfl rfl wz (λn_4=>aa (vB false) (ah (au (bQ (aI 0 0 (.inr (by kernel_rfl)) (λ_ _ ag=>trivial) iT mQ rfl rfl (.d (.agg (Alert.enc a_1))) rfl wz (di (([a_1]:List Alert).map Alert.enc) lJ IG rfl rfl rfl rfl rfl wz ?_))))))))
 obtain ⟨r_5,hr_6,hF⟩:=bind_some hF
 refine aD (jW hr_6) rfl hb8 rfl rfl rfl rfl wz (aI 3 1 (.inr (by kernel_rfl)) (λ_ _ ag=>⟨.inl ⟨rfl,rfl⟩,trivial⟩) iT mQ rfl rfl (.d (.agg (Alert.enc b_2))) rfl wz (di (([b_2]:List Alert).map Alert.enc) lJ IG rfl rfl rfl rfl rfl wz ?_))
 obtain ⟨r_7,hr_8,hF⟩:=bind_some hF
 refine aD (jW hr_8) rfl hb8 rfl rfl rfl rfl wz (aa (vB (sEq r_5 r_7)) (aa (vB (sEq r_5 r_7)) (ah ?_)))
 obtain rfl:=ae hF
 exact ax (aK [(vB (sEq r_5 r_7))] ⟨rfl,trivial⟩)
theorem fA {s1_1:(List Alert)} {s2_2:(List Alert)} {r:Bool} (hF:aU s1_1 s2_2=some r) :
  FnM Tryz.prog 11 [(vL Alert.enc s1_1),(vL Alert.enc s2_2),(.fn 12 [])] [] (vB r) []:=by
 refine FnM.of_wH ⟨Tryz.prog,32,[],[]⟩ rfl Tryz.func11 rfl rfl (lb_ rfl) (by kernel_rfl) ?_
 unfold aU at hF
 refine ai (aa (vB false) (ah (au (ai (aa (vL Alert.enc s1_1) (dz oK rfl wz (aa (vL Alert.enc s2_2) (dz oK rfl wz (aa (vB ((s1_1.length:Int) != (s2_2.length:Int))) (ah ?_))))))))))
 rcases aj hF with⟨hc_4,hF⟩|⟨hc_4,hF⟩
 ·refine aC rfl hc_4 (ai (aa (vB false) (ah ?_)))
  obtain rfl:=ae hF
  exact ax (aK [(vB false)] ⟨rfl,trivial⟩)
 ·refine aB rfl hc_4 (aA (au (ai (aa (vL Alert.enc s1_1) (dz oK rfl wz (aa (vI 0) (ah ?_)))))))
  obtain ⟨o_13,hj_14,hF⟩:=bind_some hF
  obtain ⟨hn_9,hj_14⟩:=bu hj_14
  refine dU (λ(s_10:Unit)=>[]) (λ(s_10:Unit)=>[]) (λ(k_5:Nat)=>(λ(s_10:Unit)=>[(1,(vL Alert.enc s2_2)),(2,(.fn 12 [])),(15,(vL Alert.enc s1_1)),(16,(vI (s1_1.length:Int))),(17,(vI (k_5:Int)))])) (λk x s=>aL s2_2 k x s) o_13 s1_1 () hj_14 rfl (aM rfl) ?_ ?_
  ·rintro ⟨k_5,l_6,s_10⟩ ⟨hL_12,hD_8⟩
   dsimp only at hL_12 hD_8
   cases l_6 with
   | nil =>
    obtain rfl:=ae hL_12
    refine ai (aa (vB (decide ((k_5:Int)<(s1_1.length:Int)))) (ah ?_))
    refine au (aB rfl (drop_nil hD_8) (bO ?_))
    exact bD (s_10) rfl rfl (aM rfl)
   | cons x_7 l_6 =>
    obtain ⟨c_,hc_11,hL_12⟩:=bind_some hL_12
    refine ai (aa (vB (decide ((k_5:Int)<(s1_1.length:Int)))) (ah ?_))
    refine au (aC rfl (bL hD_8) (aA ?_))
    unfold aL at hc_11
    refine au (aR (ai (aa (vI (k_5:Int)) (eD lJ rfl rfl (dh hD_8) rfl wz (bK iT mQ rfl (.d (.agg (Alert.enc x_7))) rfl wz (gN 0 (.inl rfl) z40 rfl wz (λn_15=>aa (vI (k_5:Int)) (fe 0 il ft 0 iT rfl rfl (Alert.v x_7) rfl wz (ah (ai (aa (vL Alert.enc s2_2) (aa (vI (k_5:Int)) ?_))))))))))))
    obtain ⟨y_16,hy_17,hc_11⟩:=bind_some hc_11
    refine eD lJ rfl rfl hy_17 rfl wz (bK iT mQ rfl (.d (.agg (Alert.enc y_16))) rfl wz (gN 0 (.inl rfl) z40 rfl wz (λn_18=>fe 0 il ft 1 iT rfl rfl (Alert.v y_16) rfl wz (ah (ai (aa (.fn 12 []) (aI 0 0 il ft iT mQ rfl rfl (.d (.agg (Alert.enc x_7))) rfl wz (aI 0 1 il ft iT mQ rfl rfl (.d (.agg (Alert.enc y_16))) rfl wz ?_))))))))
    obtain ⟨r_19,hr_20,hc_11⟩:=bind_some hc_11
    refine aD (yw hr_20) rfl hb12 rfl rfl rfl rfl wz (aa (vB (!r_19)) (ah ?_))
    rcases aj hc_11 with⟨hc_21,hc_11⟩|⟨hc_21,hc_11⟩
    ·refine aC rfl hc_21 (ai (aa (vB false) (ah ?_)))
     obtain rfl:=ae hc_11
     obtain rfl:=ae hL_12
     obtain rfl:=ae hF
     exact ax (aK [(vB false)] ⟨rfl,trivial⟩)
    ·refine aB rfl hc_21 (aA (av (gY (cZ hD_8 hn_9) wz rfl (aa (vI ((k_5+1:Nat):Int)) (ah ?_)))))
     obtain rfl:=ae hc_11
     exact bN (k_5+1,l_6,()) ⟨hL_12,bn hD_8⟩ (ls_ _) rfl (aM rfl)
  ·rintro s_10 ho_ sl_ H_ hp_ hq_
   subst ho_
   refine aP _ hp_ hq_ (ai (aa (vB true) (ah ?_)))
   obtain rfl:=ae hF
   exact ax (aK [(vB true)] ⟨rfl,trivial⟩)
theorem vN {l_1:(List Post)} {r:Int} (hF:jo l_1=some r) :
  FnM Tryz.prog 91 [(vL Post.enc l_1)] [] (vI r) []:=by
 refine FnM.of_wH ⟨Tryz.prog,44,[],[]⟩ rfl Tryz.func91 rfl rfl (lb_ rfl) (by kernel_rfl) ?_
 unfold jo at hF
 refine ai (aa (vI 0) (ah (au (ai (aa (vL Post.enc l_1) (dz un103 rfl wz (aa (vB (decide ((l_1.length:Int)>500))) (ah ?_))))))))
 rcases aj hF with⟨hc_2,hF⟩|⟨hc_2,hF⟩
 ·refine aC rfl hc_2 (ai (aa (vI 2) (ah ?_)))
  obtain rfl:=ae hF
  exact ax (aK [(vI 2)] ⟨rfl,trivial⟩)
 ·refine aB rfl hc_2 (aA (au (ai (aa (vL Post.enc l_1) (dz un103 rfl wz (aa (vI 0) (ah ?_)))))))
  obtain ⟨o_11,hj_12,hF⟩:=bind_some hF
  obtain ⟨hn_7,hj_12⟩:=bu hj_12
  refine dU (λ(s_8:Unit)=>[]) (λ(s_8:Unit)=>[]) (λ(k_3:Nat)=>(λ(s_8:Unit)=>[(0,(vL Post.enc l_1)),(8,(vL Post.enc l_1)),(9,(vI (l_1.length:Int))),(10,(vI (k_3:Int)))])) (λk x s=>ic l_1 k x s) o_11 l_1 () hj_12 rfl (aM rfl) ?_ ?_
  ·rintro ⟨k_3,l_4,s_8⟩ ⟨hL_10,hD_6⟩
   dsimp only at hL_10 hD_6
   cases l_4 with
   | nil =>
    obtain rfl:=ae hL_10
    refine ai (aa (vB (decide ((k_3:Int)<(l_1.length:Int)))) (ah ?_))
    refine au (aB rfl (drop_nil hD_6) (bO ?_))
    exact bD (s_8) rfl rfl (aM rfl)
   | cons x_5 l_4 =>
    obtain ⟨c_,hc_9,hL_10⟩:=bind_some hL_10
    refine ai (aa (vB (decide ((k_3:Int)<(l_1.length:Int)))) (ah ?_))
    refine au (aC rfl (bL hD_6) (aA ?_))
    unfold ic at hc_9
    refine au (aR (ai (aa (vI (k_3:Int)) (eD Ms rfl rfl (dh hD_6) rfl wz (bK sz83 ag83 rfl (.d (.agg (Post.enc x_5))) rfl wz (gN 0 (.inl rfl) z83 rfl wz (λn_13=>aa (vI (k_3:Int)) (fe 0 il ft 0 sz83 rfl rfl (Post.v x_5) rfl wz (ah (aR (ai (aG Iw rfl 0 rfl wz (aI 0 0 il ft sz9 ag9 rfl rfl (vS x_5.Player) rfl wz ?_)))))))))))))
    obtain ⟨r_14,hr_15,hc_9⟩:=bind_some hc_9
    refine aD (oL hr_15) rfl hb67 rfl rfl rfl rfl wz (aa (vB (!r_14)) (aa (vB (!r_14)) (ah ?_)))
    rcases aj hc_9 with⟨hc_16,hc_9⟩|⟨hc_16,hc_9⟩
    ·refine aC rfl hc_16 (ai (aa (vI 5) (ah ?_)))
     obtain rfl:=ae hc_9
     obtain rfl:=ae hL_10
     obtain rfl:=ae hF
     exact ax (aK [(vI 5)] ⟨rfl,trivial⟩)
    ·refine aB rfl hc_16 (au ?_)
     obtain ⟨v_17,h_18,hc_9⟩:=bind_some hc_9
     refine aN [(0,(vL Post.enc l_1)),(3,(vI (k_3:Int))),(4,(.ref n_13 0 0)),(8,(vL Post.enc l_1)),(9,(vI (l_1.length:Int))),(10,(vI (k_3:Int))),(20,(vB v_17))] [(n_13,some (.cells 3 (Post.v x_5)))] ?_ ?_
     ·refine av (aG Ih rfl 1 rfl wz (aI 0 0 il ft sz3 ag3 rfl rfl (vI x_5.X) rfl wz ?_))
      obtain ⟨r_19,hr_20,h_18⟩:=bind_some h_18
      refine aD (fE hr_20) rfl EU rfl rfl rfl rfl wz ?_
      rcases aj h_18 with⟨hc_21,h_18⟩|⟨hc_21,h_18⟩
      ·refine ay rfl hc_21 wz (af (af (af (aa (vB true) (aa (vB true) (ah ?_))))))
       obtain rfl:=ae h_18
       exact cu
      ·refine ay rfl hc_21 wz (aG Ig rfl 2 rfl wa (aI 0 0 il ft sz3 ag3 rfl rfl (vI x_5.Y) rfl wa ?_))
       obtain ⟨r_22,hr_23,h_18⟩:=bind_some h_18
       refine aD (fE hr_23) rfl EU rfl rfl rfl rfl wa (aa (vB r_22) (aa (vB r_22) (ah ?_)))
       obtain rfl:=ae h_18
       exact cu
     ·rintro ⟨⟩ _ sl_ H_ hp_ hq_
      refine aP _ hp_ hq_ ?_
      rcases aj hc_9 with⟨hc_24,hc_9⟩|⟨hc_24,hc_9⟩
      ·refine aC rfl hc_24 (ai (aa (vI 1) (ah ?_)))
       obtain rfl:=ae hc_9
       obtain rfl:=ae hL_10
       obtain rfl:=ae hF
       exact ax (aK [(vI 1)] ⟨rfl,trivial⟩)
      ·refine aB rfl hc_24 (au ?_)
       obtain ⟨v_25,h_26,hc_9⟩:=bind_some hc_9
       refine aN [(0,(vL Post.enc l_1)),(8,(vL Post.enc l_1)),(9,(vI (l_1.length:Int))),(10,(vI (k_3:Int))),(29,(vB v_25))] [(n_13,some (.cells 3 (Post.v x_5)))] ?_ ?_
       ·refine bQ (aa (vI (k_3:Int)) (aa (vB (decide ((k_3:Int)>0))) ?_))
        rcases aj h_26 with⟨hc_27,h_26⟩|⟨hc_27,h_26⟩
        ·refine ay rfl hc_27 wz (aG Iw rfl 0 rfl wa (aI 4 0 (.inr (by kernel_rfl)) (λ_ _ ag=>trivial) sz9 ag9 rfl rfl (vS x_5.Player) rfl wa (aH (vL Post.enc l_1) wa rfl (aH (vI (k_3:Int)) wa rfl (aH (vI (w64 ((k_3:Int)-1))) wa rfl ?_)))))
         obtain ⟨y_28,hy_29,h_26⟩:=bind_some h_26
         refine eD Ms rfl rfl hy_29 rfl wa (h_fac Iw rfl [.str y_28.Player,.int .i64 y_28.X,.int .i64 y_28.Y] rfl rfl wa (bK sz9 ag9 rfl (vS y_28.Player) rfl wa (aH (vB (sLe x_5.Player y_28.Player)) wa rfl (aa (vB (sLe x_5.Player y_28.Player)) (aa (vB (sLe x_5.Player y_28.Player)) (ah ?_))))))
         obtain rfl:=ae h_26
         exact cu
        ·refine ay rfl hc_27 wz (af (af (af (af (af (af (af (af (af (aa (vB false) (aa (vB false) (ah ?_))))))))))))
         obtain rfl:=ae h_26
         exact cu
       ·rintro ⟨⟩ _ sl_ H_ hp_ hq_
        refine aP _ hp_ hq_ ?_
        rcases aj hc_9 with⟨hc_30,hc_9⟩|⟨hc_30,hc_9⟩
        ·refine aC rfl hc_30 (ai (aa (vI 7) (ah ?_)))
         obtain rfl:=ae hc_9
         obtain rfl:=ae hL_10
         obtain rfl:=ae hF
         exact ax (aK [(vI 7)] ⟨rfl,trivial⟩)
        ·refine aB rfl hc_30 (aA (av (gY (cZ hD_6 hn_7) wz rfl (aa (vI ((k_3+1:Nat):Int)) (ah ?_)))))
         obtain rfl:=ae hc_9
         exact bN (k_3+1,l_4,()) ⟨hL_10,bn hD_6⟩ (ls_ _) rfl (aM rfl)
  ·rintro s_8 ho_ sl_ H_ hp_ hq_
   subst ho_
   refine aP _ hp_ hq_ (ai (aa (vI 0) (ah ?_)))
   obtain rfl:=ae hF
   exact ax (aK [(vI 0)] ⟨rfl,trivial⟩)
theorem wI {l_1:(List Alert)} {posts_2:(List Post)} {r:Int} (hF:jJ l_1 posts_2=some r) :
  FnM Tryz.prog 63 [(vL Alert.enc l_1),(vL Post.enc posts_2)] [] (vI r) []:=by
 refine FnM.of_wH ⟨Tryz.prog,13,[],[]⟩ rfl Tryz.func63 rfl rfl (lb_ rfl) (by kernel_rfl) ?_
 unfold jJ at hF
 refine ai (aa (vI 0) (ah (au (ai (aa (vL Alert.enc l_1) ?_)))))
 obtain ⟨r_3,hr_4,hF⟩:=bind_some hF
 refine aD (kJ hr_4) rfl hb22 rfl rfl rfl rfl wz (aa (vI r_3) (ah (ai (aa (vI r_3) (aa (vB (r_3 != 0)) (ah ?_))))))
 rcases aj hF with⟨hc_5,hF⟩|⟨hc_5,hF⟩
 ·refine aC rfl hc_5 (ai (aa (vI r_3) (aa (vI r_3) (ah ?_))))
  obtain rfl:=ae hF
  exact ax (aK [(vI r_3)] ⟨rfl,trivial⟩)
 ·refine aB rfl hc_5 (aA (ai (aa (vL Post.enc posts_2) ?_)))
  obtain ⟨r_6,hr_7,hF⟩:=bind_some hF
  refine aD (vN hr_7) rfl hb91 rfl rfl rfl rfl wz (aa (vI r_6) (ah ?_))
  obtain rfl:=ae hF
  exact ax (aK [(vI r_6)] ⟨rfl,trivial⟩)
theorem wE {r_1:Rect} {p_2:Post} {r:Bool} (hF:og r_1 p_2=some r) :
  FnM Tryz.prog 93 [(.d (.agg (Rect.enc r_1))),(.ref (ak 0) 0 0)] [(.cells 3 (Post.v p_2))] (vB r) [some (.cells 3 (Post.v p_2))]:=by
 refine FnM.of_wH ⟨Tryz.prog,36,[],[]⟩ rfl Tryz.func93 rfl rfl (lb_ rfl) (by kernel_rfl) ?_
 unfold og at hF
 refine ai (lY 0 (.inl rfl) (Rect.v r_1) rfl rfl wz (λn_3=>aa (vB false) (ah (au ?_))))
 obtain ⟨v_4,h_5,hF⟩:=bind_some hF
 refine aN [(3,(vB v_4))] [((ak 0),some (.cells 3 (Post.v p_2))),(n_3,some (.cells 4 (Rect.v r_1)))] ?_ ?_
 ·refine av (aG rZ rfl 0 rfl wz (aI 0 1 il ft sz3 ag3 rfl rfl (vI r_1.X) rfl wz (aG Ih rfl 1 rfl wz (aI 0 0 il ft sz3 ag3 rfl rfl (vI p_2.X) rfl wz (aa (vB (decide (r_1.X<=p_2.X))) ?_)))))
  rcases aj h_5 with⟨hc_6,h_5⟩|⟨hc_6,h_5⟩
  ·refine ay rfl hc_6 wz (aG Ih rfl 1 rfl wa (aI 0 0 il ft sz3 ag3 rfl rfl (vI p_2.X) rfl wa (aG rZ rfl 0 rfl wa (aI 0 1 il ft sz3 ag3 rfl rfl (vI r_1.X) rfl wa (aG yG rfl 2 rfl wa (aI 0 1 il ft sz3 ag3 rfl rfl (vI r_1.W) rfl wa (aH (vI (w64 (r_1.X+r_1.W))) wa rfl (aH (vB (decide (p_2.X<(w64 (r_1.X+r_1.W))))) wa rfl (aa (vB (decide (p_2.X<(w64 (r_1.X+r_1.W))))) ?_)))))))))
   rcases aj h_5 with⟨hc_7,h_5⟩|⟨hc_7,h_5⟩
   ·refine ay rfl hc_7 wz (aG sI rfl 1 rfl wa (aI 0 1 il ft sz3 ag3 rfl rfl (vI r_1.Y) rfl wa (aG Ig rfl 2 rfl wa (aI 0 0 il ft sz3 ag3 rfl rfl (vI p_2.Y) rfl wa (aH (vB (decide (r_1.Y<=p_2.Y))) wa rfl (aa (vB (decide (r_1.Y<=p_2.Y))) ?_))))))
    rcases aj h_5 with⟨hc_8,h_5⟩|⟨hc_8,h_5⟩
    ·refine ay rfl hc_8 wz (aG Ig rfl 2 rfl wa (aI 0 0 il ft sz3 ag3 rfl rfl (vI p_2.Y) rfl wa (aG sI rfl 1 rfl wa (aI 0 1 il ft sz3 ag3 rfl rfl (vI r_1.Y) rfl wa (aG wy rfl 3 rfl wa (aI 0 1 il ft sz3 ag3 rfl rfl (vI r_1.H) rfl wa (aH (vI (w64 (r_1.Y+r_1.H))) wa rfl (aH (vB (decide (p_2.Y<(w64 (r_1.Y+r_1.H))))) wa rfl (aa (vB (decide (p_2.Y<(w64 (r_1.Y+r_1.H))))) (aa (vB (decide (p_2.Y<(w64 (r_1.Y+r_1.H))))) (ah ?_)))))))))))
     obtain rfl:=ae h_5
     exact cu
    ·refine ay rfl hc_8 wz (af (af (af (af (af (af (af (af (aa (vB false) (aa (vB false) (ah ?_)))))))))))
     obtain rfl:=ae h_5
     exact cu
   ·refine ay rfl hc_7 wz (af (af (af (af (af (aa (vB false) (aa (vB false) (af (af (af (af (af (af (af (af (aa (vB false) (aa (vB false) (ah ?_))))))))))))))))))
    obtain rfl:=ae h_5
    exact cu
  ·refine ay rfl hc_6 wz (af (af (af (af (af (af (af (af (aa (vB false) (aa (vB false) (af (af (af (af (af (aa (vB false) (aa (vB false) (af (af (af (af (af (af ?_)))))))))))))))))))))))
   refine af (af (aa (vB false) (aa (vB false) (ah ?_))))
   obtain rfl:=ae h_5
   exact cu
 ·rintro ⟨⟩ _ sl_ H_ hp_ hq_
  refine aP _ hp_ hq_ ?_
  obtain rfl:=ae hF
  exact ax (rD (.inr rfl) [(vB v_4)] _ [0] [ak 0] ⟨rfl,trivial⟩ (.cons (fB rfl rfl) (.nil)) (by kernel_rfl) ⟨(by kernel_rfl),trivial⟩ (by decide) (by kernel_rfl))
theorem kU {s_1:(List Rect)} {f_2:Rect->Option Bool} {r:Int} {gid:FuncId} {caps:List V} {Sin:List Box} (hfn:∀x0 r,f_2 x0=some r->FnM Tryz.prog gid ([(.d (.agg (Rect.enc x0)))]++caps) Sin (vB r) (Sin.map some)) (hbF:aF Tryz.prog gid=true) (hcapF:caps.flatMap frz=[]/\caps.map co0=caps) (hokF:okL Sin.length caps=true) (hsF:∀b∈Sin,b.ok Sin.length=true) (hmF:∀b∈Sin,b.mut=true) (hF:eZ s_1 f_2=some r) :
  FnM Tryz.prog 125 [(vL Rect.enc s_1),(.fn gid caps)] Sin (vI r) (Sin.map some):=by
 refine FnM.of_wH ⟨Tryz.prog,19,[],[]⟩ rfl Tryz.func125 rfl rfl (lb_ rfl) (by kernel_rfl) ?_
 unfold eZ at hF
 refine ai (aa (vI 0) (ah (au (ai (aa (vL Rect.enc s_1) (dz Cx rfl wz (aa (vI 0) (ah ?_))))))))
 obtain ⟨o_11,hj_12,hF⟩:=bind_some hF
 obtain ⟨hn_7,hj_12⟩:=bu hj_12
 refine dU (λ(s_8:Unit)=>[]) (λ(s_8:Unit)=>(jF 0 Sin)) (λ(k_3:Nat)=>(λ(s_8:Unit)=>[(0,(vL Rect.enc s_1)),(1,(.fn gid caps)),(7,(vI (s_1.length:Int))),(8,(vI (k_3:Int)))])) (λk x s=>dY f_2 k x s) o_11 s_1 () hj_12 rfl (AC _) ?_ ?_
 ·rintro ⟨k_3,l_4,s_8⟩ ⟨hL_10,hD_6⟩
  dsimp only at hL_10 hD_6
  cases l_4 with
  | nil =>
   obtain rfl:=ae hL_10
   refine ai (aa (vB (decide ((k_3:Int)<(s_1.length:Int)))) (ah ?_))
   refine au (aB rfl (drop_nil hD_6) (bO ?_))
   exact bD (s_8) rfl rfl (AC _)
  | cons x_5 l_4 =>
   obtain ⟨c_,hc_9,hL_10⟩:=bind_some hL_10
   refine ai (aa (vB (decide ((k_3:Int)<(s_1.length:Int)))) (ah ?_))
   refine au (aC rfl (bL hD_6) (aA ?_))
   unfold dY at hc_9
   refine au (aR (ai (aa (vI (k_3:Int)) (aa (vI (k_3:Int)) (ah (ai (aa (.fn gid caps) (aa (vL Rect.enc s_1) (aa (vI (k_3:Int)) (eD Au rfl rfl (dh hD_6) rfl wz (bK nW Aj rfl (.d (.agg (Rect.enc x_5))) rfl wz ?_)))))))))))
   obtain ⟨r_13,hr_14,hc_9⟩:=bind_some hc_9
   refine Ja (hfn _ _ hr_14) rfl hbF rfl rfl hcapF hokF hsF hmF rfl wz rfl (ah ?_)
   rcases aj hc_9 with⟨hc_15,hc_9⟩|⟨hc_15,hc_9⟩
   ·refine aC rfl hc_15 (ai (aa (vI (k_3:Int)) (aa (vI (k_3:Int)) (ah ?_))))
    obtain rfl:=ae hc_9
    obtain rfl:=ae hL_10
    obtain rfl:=ae hF
    exact ax (finS hsF (.inr rfl) [(vI (k_3:Int))] ⟨rfl,trivial⟩ rfl rfl rfl)
   ·refine aB rfl hc_15 (aA (av (gY (cZ hD_6 hn_7) wz rfl (aa (vI ((k_3+1:Nat):Int)) (ah ?_)))))
    obtain rfl:=ae hc_9
    exact bN (k_3+1,l_4,()) ⟨hL_10,bn hD_6⟩ (ls_ _) rfl (AC _)
 ·rintro s_8 ho_ sl_ H_ hp_ hq_
  subst ho_
  refine aP _ hp_ hq_ (ai (aa (vI (-1)) (ah ?_)))
  obtain rfl:=ae hF
  exact ax (finS hsF (.inr rfl) [(vI (-1))] ⟨rfl,trivial⟩ rfl rfl rfl)
theorem jS {s_1:(List Rect)} {f_2:Rect->Option Bool} {r:Bool} {gid:FuncId} {caps:List V} {Sin:List Box} (hfn:∀x0 r,f_2 x0=some r->FnM Tryz.prog gid ([(.d (.agg (Rect.enc x0)))]++caps) Sin (vB r) (Sin.map some)) (hbF:aF Tryz.prog gid=true) (hcapF:caps.flatMap frz=[]/\caps.map co0=caps) (hokF:okL Sin.length caps=true) (hsF:∀b∈Sin,b.ok Sin.length=true) (hmF:∀b∈Sin,b.mut=true) (hF:ed s_1 f_2=some r) :
  FnM Tryz.prog 92 [(vL Rect.enc s_1),(.fn gid caps)] Sin (vB r) (Sin.map some):=by
 refine FnM.of_wH ⟨Tryz.prog,9,[],[]⟩ rfl Tryz.func92 rfl rfl (lb_ rfl) (by kernel_rfl) ?_
 unfold ed at hF
 refine ai (aa (vB false) (ah (ai (aa (vL Rect.enc s_1) (aa (.fn gid caps) ?_)))))
 obtain ⟨r_3,hr_4,hF⟩:=bind_some hF
 refine Ja (kU (gid:=gid) (caps:=caps) (Sin:=Sin) hfn hbF hcapF hokF hsF hmF hr_4) rfl hb125 rfl rfl ⟨rfl,rfl⟩ (by simp [okL,okV,hokF]) hsF hmF rfl wz rfl (aa (vB (decide (r_3>=0))) (aa (vB (decide (r_3>=0))) (ah ?_)))
 obtain rfl:=ae hF
 exact ax (finS hsF (.inr rfl) [(vB (decide (r_3>=0)))] ⟨rfl,trivial⟩ rfl rfl rfl)
theorem x9 {a_1:Alert} {p_2:Post} {r:Bool} (hF:nH a_1 p_2=some r) :
  FnM Tryz.prog 64 [(.d (.agg (Alert.enc a_1))),(.d (.agg (Post.enc p_2)))] [] (vB r) []:=by
 refine FnM.of_wH ⟨Tryz.prog,9,[],[]⟩ rfl Tryz.func64 rfl rfl (lb_ rfl) (by kernel_rfl) ?_
 unfold nH at hF
 refine ai (lY 0 (.inl rfl) (Alert.v a_1) rfl rfl wz (λn_3=>lY 0 (.inl rfl) (Post.v p_2) rfl rfl wz (λn_4=>aa (vB false) (ah (ai (aG jE rfl 7 rfl wz (aI 0 0 il ft rR xZ rfl rfl (vL Rect.enc a_1.Areas) rfl wz (aa (.fn 93 [(.ref n_4 0 0)]) ?_))))))))
 obtain ⟨r_5,hr_6,hF⟩:=bind_some hF
 refine aS 0 [1] il ft (jS (gid:=93) (caps:=[.ref (ak 0) 0 0]) (Sin:=[(.cells 3 (Post.v p_2))]) (λ_ _ h_=>wE h_) hb93 ⟨rfl,rfl⟩ (by kernel_rfl) (all_ok (by kernel_rfl)) (all_mut (by kernel_rfl)) hr_6) rfl hb92 rfl (by kernel_rfl) (by kernel_rfl) (by kernel_rfl) (by kernel_rfl) (by kernel_rfl) (by kernel_rfl) (by kernel_rfl) (by decide) (by kernel_rfl) wz (vB r_5) (by kernel_rfl) ([(n_3,some (.cells 9 (Alert.v a_1))),(n_4,some (.cells 3 (Post.v p_2)))]:Hp) (by kernel_rfl) (aa (vB r_5) (ah ?_))
 obtain rfl:=ae hF
 exact ax (aK [(vB r_5)] ⟨rfl,trivial⟩)
theorem yP {a_1:Alert} {p_2:Post} {r:Bool×Int} (hF:lw a_1 p_2=some r) :
  FnM Tryz.prog 36 [(.d (.agg (Alert.enc a_1))),(.d (.agg (Post.enc p_2)))] [] (.tup [(vB r.1),(vI r.2)]) []:=by
 refine FnM.of_wH ⟨Tryz.prog,18,[],[]⟩ rfl Tryz.func36 rfl rfl (lb_ rfl) (by kernel_rfl) ?_
 unfold lw at hF
 refine ai (lY 0 (.inl rfl) (Alert.v a_1) rfl rfl wz (λn_3=>lY 0 (.inl rfl) (Post.v p_2) rfl rfl wz (λn_4=>aa (vB false) (aa (vI 0) (ah (au (ai (aI 0 0 il ft iT mQ rfl rfl (.d (.agg (Alert.enc a_1))) rfl wz (di (([a_1]:List Alert).map Alert.enc) lJ IG rfl rfl rfl rfl rfl wz (aI 0 1 il ft sz83 ag83 rfl rfl (.d (.agg (Post.enc p_2))) rfl wz (di (([p_2]:List Post).map Post.enc) Ms ez103 rfl rfl rfl rfl rfl wz ?_)))))))))))
 obtain ⟨r_5,hr_6,hF⟩:=bind_some hF
 refine aD (wI hr_6) rfl hb63 rfl rfl rfl rfl wz (aa (vI r_5) (ah (ai (aa (vI r_5) (aa (vB (r_5 != 0)) (ah ?_))))))
 rcases aj hF with⟨hc_7,hF⟩|⟨hc_7,hF⟩
 ·refine aC rfl hc_7 (ai (aa (vI r_5) (aa (vB false) (aa (vI r_5) (ah ?_)))))
  obtain rfl:=ae hF
  exact ax (aK [(vB false),(vI r_5)] ⟨rfl,⟨rfl,trivial⟩⟩)
 ·refine aB rfl hc_7 (aA (ai (aI 0 0 il ft iT mQ rfl rfl (.d (.agg (Alert.enc a_1))) rfl wz (aI 0 1 il ft sz83 ag83 rfl rfl (.d (.agg (Post.enc p_2))) rfl wz ?_))))
  obtain ⟨r_8,hr_9,hF⟩:=bind_some hF
  refine aD (x9 hr_9) rfl hb64 rfl rfl rfl rfl wz (aa (vB r_8) (aa (vI 0) (ah ?_)))
  obtain rfl:=ae hF
  exact ax (aK [(vB r_8),(vI 0)] ⟨rfl,⟨rfl,trivial⟩⟩)
theorem Cw {r:Bool} (hF:ny  = some r) :
  FnM Tryz.prog 13 [] [] (vB r) []:=by
 refine FnM.of_wH ⟨Tryz.prog,18,[],[]⟩ rfl Tryz.func13 rfl rfl (lb_ rfl) (by kernel_rfl) ?_
 unfold ny at hF
 refine ai (aa (vB false) (ah (ai (aH (.d (.agg (Rect.enc (⟨0,0,2,2⟩:Rect)))) wz (by kernel_rfl) (di (([(⟨0,0,2,2⟩:Rect)]:List Rect).map Rect.enc) Au J2 rfl rfl rfl rfl rfl wz (aH (.agg [(vS (⟨#[97]⟩:ByteArray)),(vS (⟨#[115]⟩:ByteArray)),(vI 1),.nil,(vI 0),(vI 5),(vI 1),(vL Rect.enc ([(⟨0,0,2,2⟩:Rect)]:List Rect)),(vS (⟨#[120]⟩:ByteArray))]) wz (by kernel_rfl) (gN 0 (.inl rfl) z40 rfl wz (λn_1=>fe 0 il ft 0 iT rfl rfl [(vS (⟨#[97]⟩:ByteArray)),(vS (⟨#[115]⟩:ByteArray)),(vI 1),.nil,(vI 0),(vI 5),(vI 1),(vL Rect.enc ([(⟨0,0,2,2⟩:Rect)]:List Rect)),(vS (⟨#[120]⟩:ByteArray))] rfl wz (ah (ai (aI 0 0 il ft iT mQ rfl rfl (.agg [(vS (⟨#[97]⟩:ByteArray)),(vS (⟨#[115]⟩:ByteArray)),(vI 1),.nil,(vI 0),(vI 5),(vI 1),(vL Rect.enc ([(⟨0,0,2,2⟩:Rect)]:List Rect)),(vS (⟨#[120]⟩:ByteArray))]) rfl wz (aH (.d (.agg (Post.enc (⟨(⟨#[112]⟩:ByteArray),1,1⟩:Post)))) wz (by kernel_rfl) ?_))))))))))))
 obtain ⟨r_2,hr_3,hF⟩:=bind_some hF
 refine aD (yP hr_3) rfl hb36 rfl rfl rfl rfl wz (aa (.tup [(vB r_2.1),(vI r_2.2)]) (aa (vB r_2.1) (aa (vI r_2.2) (aa (vB r_2.1) (aa (vI r_2.2) (ah (au ?_)))))))
 obtain ⟨v_4,h_5,hF⟩:=bind_some hF
 refine aN [(0,(vB v_4))] [(n_1,some (.cells 9 [(vS (⟨#[97]⟩:ByteArray)),(vS (⟨#[115]⟩:ByteArray)),(vI 1),.nil,(vI 0),(vI 5),(vI 1),(vL Rect.enc ([(⟨0,0,2,2⟩:Rect)]:List Rect)),(vS (⟨#[120]⟩:ByteArray))]))] ?_ ?_
 ·refine av (aa (vI r_2.2) (aa (vB (r_2.2==0)) ?_))
  rcases aj h_5 with⟨hc_6,h_5⟩|⟨hc_6,h_5⟩
  ·refine ay rfl hc_6 wz (aH (vB r_2.1) wa rfl (aa (vB r_2.1) (aa (vB r_2.1) (ah ?_))))
   obtain rfl:=ae h_5
   exact cu
  ·refine ay rfl hc_6 wz (af (aa (vB false) (aa (vB false) (ah ?_))))
   obtain rfl:=ae h_5
   exact cu
 ·rintro ⟨⟩ _ sl_ H_ hp_ hq_
  refine aP _ hp_ hq_ ?_
  obtain rfl:=ae hF
  exact ax (aK [(vB v_4)] ⟨rfl,trivial⟩)
theorem xX {l_1:(List Int)} {r:Bool} (hF:mP l_1=some r) :
  FnM Tryz.prog 3 [(vL eI l_1)] [] (vB r) []:=by
 refine FnM.of_wH ⟨Tryz.prog,72,[],[]⟩ rfl Tryz.func3 rfl rfl (lb_ rfl) (by kernel_rfl) ?_
 unfold mP at hF
 refine ai (aa (vB false) (ah (ai (aa (vL eI l_1) (aH (.d (.agg (Stream.enc (⟨l_1,0⟩:Stream)))) wz (by kernel_rfl) (lY 0 (.inl rfl) [(vL eI l_1),(vI 0)] rfl rfl wz (λn_2=>aa (.ref n_2 0 0) (ah (ai (aa (.ref n_2 0 0) ?_))))))))))
 obtain ⟨r_3,hr_4,hF⟩:=bind_some hF
 refine aS 0 [0] il ft (vJ hr_4) rfl hb4 rfl (by kernel_rfl) (by kernel_rfl) (by kernel_rfl) (by kernel_rfl) (by kernel_rfl) (by kernel_rfl) (by kernel_rfl) (by decide) (by kernel_rfl) wz (vL Alert.enc r_3.1) (by kernel_rfl) ([(n_2,some (.cells 2 [(vL eI r_3.2.L),(vI r_3.2.f_at)]))]:Hp) (by kernel_rfl) (aa (.ref n_2 0 0) ?_)
 obtain ⟨r_6,hr_7,hF⟩:=bind_some hF
 refine aS 0 [0] il ft (su hr_7) rfl hb5 rfl (by kernel_rfl) (by kernel_rfl) (by kernel_rfl) (by kernel_rfl) (by kernel_rfl) (by kernel_rfl) (by kernel_rfl) (by decide) (by kernel_rfl) wz (vS r_6.1) (by kernel_rfl) ([(n_2,some (.cells 2 [(vL eI r_6.2.L),(vI r_6.2.f_at)]))]:Hp) (by kernel_rfl) (aa (vL Alert.enc r_3.1) (aa (vS r_6.1) (ah (ai (aa (vL Alert.enc r_3.1) ?_)))))
 obtain ⟨r_9,hr_10,hF⟩:=bind_some hF
 refine aD (Cq hr_10) rfl hb6 rfl rfl rfl rfl wz (aa (.tup [(vS r_9.1),(vI r_9.2)]) (aa (vS r_9.1) (aa (vI r_9.2) (aa (vS r_9.1) (aa (vI r_9.2) (ah (ai (aa (vL Alert.enc r_3.1) ?_))))))))
 obtain ⟨r_11,hr_12,hF⟩:=bind_some hF
 refine aD (pX hr_12) rfl hb7 rfl rfl rfl rfl wz (aa (vI r_11) (aa (vS (⟨#[]⟩:ByteArray)) (ah (au (ai (aa (vI r_11) (aa (vB (r_11==0)) (ah ?_))))))))
 obtain ⟨v_13,h_14,hF⟩:=bind_some hF
 refine aN [(5,(vS r_6.1)),(6,(vS r_9.1)),(7,(vI r_9.2)),(8,(vI r_11)),(9,(vS v_13))] [(n_2,some (.cells 2 [(vL eI r_6.2.L),(vI r_6.2.f_at)]))] ?_ ?_
 ·rcases aj h_14 with⟨hc_15,h_14⟩|⟨hc_15,h_14⟩
  ·refine aC rfl hc_15 (av (aa (vL Alert.enc r_3.1) ?_))
   obtain ⟨r_16,hr_17,h_14⟩:=bind_some h_14
   refine aD (jW hr_17) rfl hb8 rfl rfl rfl rfl wz (aa (vS r_16) (ah ?_))
   obtain rfl:=ae h_14
   exact cu
  ·refine aB rfl hc_15 (aA ?_)
   obtain rfl:=ae h_14
   exact cu
 ·rintro ⟨⟩ _ sl_ H_ hp_ hq_
  refine aP _ hp_ hq_ (ai (aa (vS r_6.1) ?_))
  obtain ⟨r_18,hr_19,hF⟩:=bind_some hF
  refine aD (Cz hr_19) rfl hb9 rfl rfl rfl rfl wz (aa (.tup [(vL Alert.enc r_18.1),(vI r_18.2.1),(vI r_18.2.2)]) (aa (vL Alert.enc r_18.1) (aa (vI r_18.2.1) (aa (vI r_18.2.2) (aa (vL Alert.enc r_18.1) (aa (vI r_18.2.1) (aa (vI r_18.2.2) (ah (ai (aa (vS r_6.1) ?_))))))))))
  obtain ⟨r_20,hr_21,hF⟩:=bind_some hF
  refine aD (xK hr_21) rfl hb10 rfl rfl rfl rfl wz (aa (.tup [(vL Alert.enc r_20.1),(vI r_20.2.1),(vI r_20.2.2)]) (aa (vL Alert.enc r_20.1) (aa (vI r_20.2.1) (aa (vI r_20.2.2) (aa (vL Alert.enc r_20.1) (aa (vI r_20.2.1) (aa (vI r_20.2.2) (ah (au ?_)))))))))
  obtain ⟨v_22,h_23,hF⟩:=bind_some hF
  refine aN [(2,(vB v_22))] [(n_2,some (.cells 2 [(vL eI r_6.2.L),(vI r_6.2.f_at)]))] ?_ ?_
  ·refine av (aa (vI r_9.2) (aa (vI r_11) (aa (vB (r_9.2==r_11)) ?_)))
   rcases aj h_23 with⟨hc_24,h_23⟩|⟨hc_24,h_23⟩
   ·refine ay rfl hc_24 wz (aH (vS r_9.1) wa rfl (aH (vS v_13) wa rfl (aH (vB (sEq r_9.1 v_13)) wa rfl (aa (vB (sEq r_9.1 v_13)) ?_))))
    rcases aj h_23 with⟨hc_25,h_23⟩|⟨hc_25,h_23⟩
    ·refine ay rfl hc_25 wz (aH (vL Alert.enc r_18.1) wa rfl (aH (vL Alert.enc r_20.1) wa rfl ?_))
     obtain ⟨r_26,hr_27,h_23⟩:=bind_some h_23
     refine aD (fA hr_27) rfl hb11 rfl rfl rfl rfl wa (aa (vB r_26) ?_)
     rcases aj h_23 with⟨hc_28,h_23⟩|⟨hc_28,h_23⟩
     ·refine ay rfl hc_28 wz (aH (vI r_18.2.1) wa rfl (aH (vI r_20.2.1) wa rfl (aH (vB (r_18.2.1==r_20.2.1)) wa rfl (aa (vB (r_18.2.1==r_20.2.1)) ?_))))
      rcases aj h_23 with⟨hc_29,h_23⟩|⟨hc_29,h_23⟩
      ·refine ay rfl hc_29 wz (aH (vI r_18.2.2) wa rfl (aH (vI r_20.2.2) wa rfl (aH (vB (r_18.2.2==r_20.2.2)) wa rfl (aa (vB (r_18.2.2==r_20.2.2)) ?_))))
       rcases aj h_23 with⟨hc_30,h_23⟩|⟨hc_30,h_23⟩
       ·refine ay rfl hc_30 wz ?_
        obtain ⟨r_31,hr_32,h_23⟩:=bind_some h_23
        refine aD (Cw hr_32) rfl hb13 rfl rfl rfl rfl wa (aa (vB r_31) (aa (vB r_31) (ah ?_)))
        obtain rfl:=ae h_23
        exact cu
       ·refine ay rfl hc_30 wz (af (aa (vB false) (aa (vB false) (ah ?_))))
        obtain rfl:=ae h_23
        exact cu
      ·refine ay rfl hc_29 wz (af (af (af (aa (vB false) (aa (vB false) (af (aa (vB false) (aa (vB false) (ah ?_)))))))))
       obtain rfl:=ae h_23
       exact cu
     ·refine ay rfl hc_28 wz (af (af (af (aa (vB false) (aa (vB false) (af (af (af (aa (vB false) (aa (vB false) (af (aa (vB false) (aa (vB false) (ah ?_))))))))))))))
      obtain rfl:=ae h_23
      exact cu
    ·refine ay rfl hc_25 wz (af (af (af (aa (vB false) (aa (vB false) (af (af (af (aa (vB false) (aa (vB false) (af (af (af (aa (vB false) (aa (vB false) (af (aa (vB false) (aa (vB false) (ah ?_)))))))))))))))))))
     obtain rfl:=ae h_23
     exact cu
   ·refine ay rfl hc_24 wz (af (af (af (aa (vB false) (aa (vB false) (af (af (af (aa (vB false) (aa (vB false) (af (af (af (aa (vB false) (aa (vB false) (af (af (af (aa (vB false) (aa (vB false) (af (aa (vB false) (aa (vB false) ?_)))))))))))))))))))))))
    refine ah ?_
    obtain rfl:=ae h_23
    exact cu
  ·rintro ⟨⟩ _ sl_ H_ hp_ hq_
   refine aP _ hp_ hq_ ?_
   obtain rfl:=ae hF
   exact ax (aK [(vB v_22)] ⟨rfl,trivial⟩)
end Go.Proofs.YtljhfffghjclfaaGreatDoor.Law

