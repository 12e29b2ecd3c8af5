/-
 The machine computes these plain functions (written by a program of ours).
-/
import Derived.Test.YtjhcehhmdmbleaaGreatDoorFacts
import Derived.Test.YtjhcehhmdmbleaaGreatDoorDefs
import Derived.Test.YtjhcehhmdmbleaaGreatDoorPf4
import Derived.Test.YtjhcehhmdmbleaaGreatDoorShelf
open Go Go.Eng Go.Proofs
namespace Go.Proofs.YtjhcehhmdmbleaaGreatDoor.Law
set_option maxRecDepth 100000
set_option linter.unusedVariables false
set_option maxHeartbeats 1000000
theorem zX {l_1:(List Alert)} {posts_2:(List Post)} {r_3:(List Receipt)} {id_4:ByteArray} {atv_5:Int} {r:Fraction×Int} (hF:ni l_1 posts_2 r_3 id_4 atv_5=some r) :
  FnM Tryz.prog 49 [(vL Alert.enc l_1),(vL Post.enc posts_2),(vL Receipt.enc r_3),(vS id_4),(vI atv_5)] [] (.tup [(.d (.agg (Fraction.enc r.1))),(vI r.2)]) []:=by
 refine FnM.of_wH ⟨Tryz.prog,87,[],[]⟩ rfl Tryz.func49 rfl rfl (lb_ rfl) (by kernel_rfl) ?_
 unfold ni at hF
 refine af (aa (dW 0 (.inl rfl) [(vS id_4)] rfl rfl wz (λn_6=>cK 0 (.inl rfl) IU rfl wz (λn_7=>ae (vI 0) wz rfl (ai (af (af (aa (ae (vL Alert.enc l_1) wz rfl (ae (vL Post.enc posts_2) wz rfl (ae (vL Receipt.enc r_3) wz rfl ?_)))))))))))
 obtain ⟨r_8,hr_9,hF⟩:=bind_some hF
 refine aB (oK hr_9) rfl LC rfl rfl rfl rfl wz (ae (vI r_8) wz rfl (ai (af (aa (ae (vI r_8) wz rfl (ae (vB (r_8 != 0)) wz rfl (ai ?_)))))))
 rcases ak hF with⟨hc_10,hF⟩|⟨hc_10,hF⟩
 ·refine aA rfl hc_10 (af (aa (ae (.d (.agg (Fraction.enc (⟨0,0⟩:Fraction)))) wz (by kernel_rfl) (ae (vI r_8) wz rfl (dJ 0 il ft 1 ll rfl rfl [(vI 0),(vI 0)] rfl wz (ae (vI r_8) wz rfl (ai ?_)))))))
  obtain rfl:=ah hF
  exact ax (aR (.inr rfl) [(.d (.agg (Fraction.enc (⟨0,0⟩:Fraction)))),(vI r_8)] ⟨⟨1,_,_,_,_,_,_,_,rfl,rfl,ll,vN,rfl⟩,⟨rfl,trivial⟩⟩ rfl rfl rfl)
 ·refine ay rfl hc_10 (au (af (aa (ae (vL Alert.enc l_1) wz rfl (ae (.fn 117 [(.ref n_6 0 0)]) wz rfl ?_)))))
  obtain ⟨r_11,hr_12,hF⟩:=bind_some hF
  refine aS 0 [0] il ft (fF (gid:=117) (caps:=[.ref (av 0) 0 0]) (Sin:=[(.cells 1 [(vS id_4)])]) (λ_ _ h_=>yf h_) hb117 ⟨rfl,rfl⟩ (by kernel_rfl) (yB (by kernel_rfl)) (uY (by kernel_rfl)) hr_12) rfl hb41 rfl (by kernel_rfl) (by kernel_rfl) (by kernel_rfl) (by kernel_rfl) (by kernel_rfl) (by kernel_rfl) (by kernel_rfl) (by decide) (by kernel_rfl) wz (vI r_11) (by kernel_rfl) ([(n_6,some (.cells 1 [(vS id_4)])),(n_7,some (.cells 2 [(vI 0),(vI 0)]))]:Hp) (by kernel_rfl) (ae (vI r_11) wz rfl (ai (af (af (aa (ae (vI r_11) wz rfl (ae (vB (decide (r_11<0))) wz rfl (ai ?_))))))))
  rcases ak hF with⟨hc_14,hF⟩|⟨hc_14,hF⟩
  ·refine aA rfl hc_14 (af (aa (ae (.d (.agg (Fraction.enc (⟨0,0⟩:Fraction)))) wz (by kernel_rfl) (dJ 0 il ft 1 ll rfl rfl [(vI 0),(vI 0)] rfl wz (ae (vI 8) wz rfl (ai ?_))))))
   obtain rfl:=ah hF
   exact ax (aR (.inr rfl) [(.d (.agg (Fraction.enc (⟨0,0⟩:Fraction)))),(vI 8)] ⟨⟨1,_,_,_,_,_,_,_,rfl,rfl,ll,vN,rfl⟩,⟨rfl,trivial⟩⟩ rfl rfl rfl)
  ·refine ay rfl hc_14 (au (af (af (aa (ae (vI atv_5) wz rfl ?_)))))
   obtain ⟨r_15,hr_16,hF⟩:=bind_some hF
   refine aB (wm hr_16) rfl hb118 rfl rfl rfl rfl wz (ae (vI r_15) wz rfl (ai (af (aa (ae (vI r_15) wz rfl (ae (vB (r_15 != 0)) wz rfl (ai ?_)))))))
   rcases ak hF with⟨hc_17,hF⟩|⟨hc_17,hF⟩
   ·refine aA rfl hc_17 (af (aa (ae (.d (.agg (Fraction.enc (⟨0,0⟩:Fraction)))) wz (by kernel_rfl) (ae (vI r_15) wz rfl (dJ 0 il ft 1 ll rfl rfl [(vI 0),(vI 0)] rfl wz (ae (vI r_15) wz rfl (ai ?_)))))))
    obtain rfl:=ah hF
    exact ax (aR (.inr rfl) [(.d (.agg (Fraction.enc (⟨0,0⟩:Fraction)))),(vI r_15)] ⟨⟨1,_,_,_,_,_,_,_,rfl,rfl,ll,vN,rfl⟩,⟨rfl,trivial⟩⟩ rfl rfl rfl)
   ·refine ay rfl hc_17 (au (af (aa (ae (vL Receipt.enc r_3) wz rfl (ae (vI atv_5) wz rfl ?_)))))
    obtain ⟨r_18,hr_19,hF⟩:=bind_some hF
    refine Jo [] 1 (wT hr_19) rfl hb102 rfl (by kernel_rfl) (by kernel_rfl) (by kernel_rfl) (by kernel_rfl) (by kernel_rfl) (by kernel_rfl) (by kernel_rfl) (by decide) (by kernel_rfl) (by kernel_rfl) wz (λnu_20=>(.map (nu_20 0))) (λ_=>by kernel_rfl) (λnu_20=>([(n_6,some (.cells 1 [(vS id_4)])),(n_7,some (.cells 2 [(vI 0),(vI 0)])),((nu_20 0),some (bM (λx=>D.agg (Pair.enc x)) (D.int .i64) r_18))]:Hp)) (λ_=>by kernel_rfl) ?_
    intro nu_20
    refine ae (.map (nu_20 0)) wz rfl (ai (af (aa (ae (vL Alert.enc l_1) wz rfl ?_))))
    obtain ⟨r_21,hr_22,hF⟩:=bind_some hF
    refine aB (tF hr_22) rfl Mf rfl rfl rfl rfl wz (ae (vL eI r_21) wz rfl (ai (af (aa (ae (vI 0) wz rfl (ae (vI 0) wz rfl (ai (aN (H0:=([(n_6,some (.cells 1 [(vS id_4)])),(n_7,some (.cells 2 [(vI 0),(vI 0)])),((nu_20 0),some (bM (λx=>D.agg (Pair.enc x)) (D.int .i64) r_18))]:Hp)) ([(0,(vL Alert.enc l_1)),(1,(vL Post.enc posts_2)),(4,(vI atv_5)),(8,(.ref n_6 0 0)),(10,(.ref n_7 0 0)),(13,(vI r_11)),(15,(.map (nu_20 0))),(16,(vL eI r_21)),(17,(vI 0)),(18,(vI 0))]:SL_) (by kernel_rfl) (Ao (by kernel_rfl)) (af (af (aa (ae (vL Post.enc posts_2) wz rfl (bN AY rfl wz (ae (vI 0) wz rfl (ai ?_)))))))))))))))
    obtain ⟨o_31,hj_32,hF⟩:=bind_some hF
    obtain ⟨hn_27,hj_32⟩:=aU hj_32
    refine aG (β:=(Int×Int)) (λ(s_28:Int×Int)=>([(10,(.ref n_7 0 0)),(17,(vI s_28.1)),(18,(vI s_28.2))]:SL_)) (λ(s_28:Int×Int)=>([(n_6,some (.cells 1 [(vS id_4)])),(n_7,some (.cells 2 [(vI 0),(vI 0)])),((nu_20 0),some (bM (λx=>D.agg (Pair.enc x)) (D.int .i64) r_18))]:Hp)) (λp=>o_31 = .go p) ?_ ?_
    ·refine aD (bf (β:=Nat×(List Post)×(Int×Int)) (λp=>(λ(k_23:Nat) (l_24:List Post) (s_28:Int×Int)=>([(0,(vL Alert.enc l_1)),(4,(vI atv_5)),(8,(.ref n_6 0 0)),(10,(.ref n_7 0 0)),(13,(vI r_11)),(15,(.map (nu_20 0))),(16,(vL eI r_21)),(17,(vI s_28.1)),(18,(vI s_28.2)),(48,(vL Post.enc posts_2)),(49,(vI (posts_2.length:Int))),(50,(vI (k_23:Int)))]:SL_)) p.1 p.2.1 p.2.2) (λp=>(λ(k_23:Nat) (l_24:List Post) (s_28:Int×Int)=>([(n_6,some (.cells 1 [(vS id_4)])),(n_7,some (.cells 2 [(vI 0),(vI 0)])),((nu_20 0),some (bM (λx=>D.agg (Pair.enc x)) (D.int .i64) r_18))]:Hp)) p.1 p.2.1 p.2.2) (λp=>forR (λk x s=>jq l_1 r_11 r_21 atv_5 r_18 id_4 k x s) p.2.1 p.1 p.2.2=some o_31/\(posts_2).drop p.1=p.2.1) (λp=>p.2.1.length) (0,posts_2,(0,0)) ⟨hj_32,rfl⟩ rfl (aJ rfl) ?_)
     rintro ⟨k_23,l_24,s_28⟩ ⟨hL_30,hD_26⟩
     dsimp only at hL_30 hD_26
     cases l_24 with
     | nil =>
      obtain rfl:=ah hL_30
      refine af (aa (ae (vB (decide ((k_23:Int)<(posts_2.length:Int)))) wz rfl (ai ?_)))
      refine af (ay rfl (drop_nil hD_26) (aW ?_))
      exact aZ (s_28) rfl rfl (aJ rfl)
     | cons x_25 l_24 =>
      obtain ⟨c_,hc_29,hL_30⟩:=bind_some hL_30
      refine af (aa (ae (vB (decide ((k_23:Int)<(posts_2.length:Int)))) wz rfl (ai ?_)))
      refine af (aA rfl (aY hD_26) (au ?_))
      unfold jq at hc_29
      refine af (aD (af (aa (fU A9 rfl rfl (bz hD_26) rfl wz (dn pg vX rfl (.d (.agg (Post.enc x_25))) rfl wz (cK 0 (.inl rfl) z66 rfl wz (λn_33=>dJ 0 il ft 3 pg rfl rfl [(vS x_25.Player),(vI x_25.X),(vI x_25.Y)] rfl wz (ai (af (af (bR (ae (vL Alert.enc l_1) wz rfl (ae (vI r_11) wz rfl ?_)))))))))))))
      obtain ⟨y_34,hy_35,hc_29⟩:=bind_some hc_29
      refine fU qJ rfl rfl hy_35 rfl wz (dn dF fJ rfl (.d (.agg (Alert.enc y_34))) rfl wz (ae (vL eI r_21) wz rfl (ae (vI r_11) wz rfl ?_)))
      obtain ⟨y_36,hy_37,hc_29⟩:=bind_some hc_29
      refine fU sQ rfl rfl hy_37 rfl wz (dn sz3 ag3 rfl (vI y_36) rfl wz (aF 8 3 (.inr (by kernel_rfl)) (λ_ _ ag=>trivial) pg vX rfl rfl (.d (.agg (Post.enc x_25))) rfl wz (ae (vI atv_5) wz rfl ?_)))
      obtain ⟨r_38,hr_39,hc_29⟩:=bind_some hc_29
      refine aB (vJ hr_39) rfl hb104 rfl rfl rfl rfl wz (ae (vB (!r_38)) wz rfl (ai ?_))
      rcases ak hc_29 with⟨hc_40,hc_29⟩|⟨hc_40,hc_29⟩
      ·refine aA rfl hc_40 (aW (aa (dX (bg hD_26 hn_27) wz rfl (ae (vI ((k_23+1:Nat):Int)) wz rfl (ai ?_)))))
       obtain rfl:=ah hc_29
       exact aV (k_23+1,l_24,(s_28.1,s_28.2)) ⟨hL_30,aQ hD_26⟩ (ls_ _) rfl (aJ rfl)
      ·refine ay rfl hc_40 (au (af (aa (ae (vI s_28.1) wz rfl (ae (vI (w64 (s_28.1+1))) wz rfl (ae (vI (w64 (s_28.1+1))) wz rfl (ai (af (aa (ae (.map (nu_20 0)) wz rfl (aI mg rfl 0 rfl wz (aF 0 3 il ft sz9 ag9 rfl rfl (vS x_25.Player) rfl wz (aF 0 0 il ft sz9 ag9 rfl rfl (vS id_4) rfl wz (ae (.d (.agg (Pair.enc (⟨x_25.Player,id_4⟩:Pair)))) wz (by kernel_rfl) (wF (eq:=(λ(a b:Pair)=>(eqS a.f_player b.f_player&&(eqS a.f_alert b.f_alert&&true)))) (kD:=(λx=>D.agg (Pair.enc x))) (vD:=(D.int .i64)) (es:=r_18) (k:=(⟨x_25.Player,id_4⟩:Pair)) (z:=0) 0 2 il ft (λ_ _=>rfl) Jy (by kernel_rfl) (by kernel_rfl) rfl rfl rfl (.tup [(vI ((mGet (λ(a b:Pair)=>(eqS a.f_player b.f_player&&(eqS a.f_alert b.f_alert&&true))) r_18 (⟨x_25.Player,id_4⟩:Pair)).getD 0)),(vB ((mGet (λ(a b:Pair)=>(eqS a.f_player b.f_player&&(eqS a.f_alert b.f_alert&&true))) r_18 (⟨x_25.Player,id_4⟩:Pair)).isSome))]) rfl wz (ae (.tup [(vI ((mGet (λ(a b:Pair)=>(eqS a.f_player b.f_player&&(eqS a.f_alert b.f_alert&&true))) r_18 (⟨x_25.Player,id_4⟩:Pair)).getD 0)),(vB ((mGet (λ(a b:Pair)=>(eqS a.f_player b.f_player&&(eqS a.f_alert b.f_alert&&true))) r_18 (⟨x_25.Player,id_4⟩:Pair)).isSome))]) wz rfl (ae (vI ((mGet (λ(a b:Pair)=>(eqS a.f_player b.f_player&&(eqS a.f_alert b.f_alert&&true))) r_18 (⟨x_25.Player,id_4⟩:Pair)).getD 0)) wz rfl (ae (vB ((mGet (λ(a b:Pair)=>(eqS a.f_player b.f_player&&(eqS a.f_alert b.f_alert&&true))) r_18 (⟨x_25.Player,id_4⟩:Pair)).isSome)) wz rfl (ae (vI ((mGet (λ(a b:Pair)=>(eqS a.f_player b.f_player&&(eqS a.f_alert b.f_alert&&true))) r_18 (⟨x_25.Player,id_4⟩:Pair)).getD 0)) wz rfl (ae (vB ((mGet (λ(a b:Pair)=>(eqS a.f_player b.f_player&&(eqS a.f_alert b.f_alert&&true))) r_18 (⟨x_25.Player,id_4⟩:Pair)).isSome)) wz rfl (ai (aN (H0:=([(n_6,some (.cells 1 [(vS id_4)])),(n_7,some (.cells 2 [(vI 0),(vI 0)])),((nu_20 0),some (bM (λx=>D.agg (Pair.enc x)) (D.int .i64) r_18)),(n_33,some (.cells 3 [(vS x_25.Player),(vI x_25.X),(vI x_25.Y)]))]:Hp)) ([(0,(vL Alert.enc l_1)),(4,(vI atv_5)),(8,(.ref n_6 0 0)),(10,(.ref n_7 0 0)),(13,(vI r_11)),(15,(.map (nu_20 0))),(16,(vL eI r_21)),(17,(vI (w64 (s_28.1+1)))),(18,(vI s_28.2)),(22,(vB ((mGet (λ(a b:Pair)=>(eqS a.f_player b.f_player&&(eqS a.f_alert b.f_alert&&true))) r_18 (⟨x_25.Player,id_4⟩:Pair)).isSome))),(48,(vL Post.enc posts_2)),(49,(vI (posts_2.length:Int))),(50,(vI (k_23:Int)))]:SL_) (by kernel_rfl) (Ao (by kernel_rfl)) (af ?_)))))))))))))))))))))))
       refine aa (ae (vB ((mGet (λ(a b:Pair)=>(eqS a.f_player b.f_player&&(eqS a.f_alert b.f_alert&&true))) r_18 (⟨x_25.Player,id_4⟩:Pair)).isSome)) wz rfl (ai ?_))
       obtain ⟨v_41,h_42,hc_29⟩:=bind_some hc_29
       refine aG (β:=Unit) (λ_=>([(0,(vL Alert.enc l_1)),(4,(vI atv_5)),(8,(.ref n_6 0 0)),(10,(.ref n_7 0 0)),(13,(vI r_11)),(15,(.map (nu_20 0))),(16,(vL eI r_21)),(17,(vI (w64 (s_28.1+1)))),(18,(vI v_41)),(48,(vL Post.enc posts_2)),(49,(vI (posts_2.length:Int))),(50,(vI (k_23:Int)))]:SL_)) (λ_=>([(n_6,some (.cells 1 [(vS id_4)])),(n_7,some (.cells 2 [(vI 0),(vI 0)])),((nu_20 0),some (bM (λx=>D.agg (Pair.enc x)) (D.int .i64) r_18)),(n_33,some (.cells 3 [(vS x_25.Player),(vI x_25.X),(vI x_25.Y)]))]:Hp)) (λ_=>True) ?_ ?_
       ·rcases ak h_42 with⟨hc_43,h_42⟩|⟨hc_43,h_42⟩
        ·refine aA rfl hc_43 (aa (ae (vI s_28.2) wz rfl (ae (vI (w64 (s_28.2+1))) wz rfl (ae (vI (w64 (s_28.2+1))) wz rfl (ai ?_)))))
         obtain rfl:=ah h_42
         exact cu
        ·refine ay rfl hc_43 (au ?_)
         obtain rfl:=ah h_42
         exact cu
       ·rintro ⟨⟩ _ sl_ H_ hp_ hq_
        refine aN _ hp_ hq_ (aa (dX (bg hD_26 hn_27) wz rfl (ae (vI ((k_23+1:Nat):Int)) wz rfl (ai ?_))))
        obtain rfl:=ah hc_29
        exact aV (k_23+1,l_24,((w64 (s_28.1+1)),v_41)) ⟨hL_30,aQ hD_26⟩ (ls_ _) rfl (aJ rfl)
    ·rintro s_28 ho_ sl_ H_ hp_ hq_
     subst ho_
     refine aN _ hp_ hq_ (af (af (aa (ae (vI s_28.1) wz rfl (ae (vB (s_28.1==0)) wz rfl (ai ?_))))))
     rcases ak hF with⟨hc_44,hF⟩|⟨hc_44,hF⟩
     ·refine aA rfl hc_44 (af (aa (ae (.d (.agg (Fraction.enc (⟨0,0⟩:Fraction)))) wz (by kernel_rfl) (dJ 0 il ft 1 ll rfl rfl [(vI 0),(vI 0)] rfl wz (ae (vI 8) wz rfl (ai ?_))))))
      obtain rfl:=ah hF
      exact ax (aR (.inr rfl) [(.d (.agg (Fraction.enc (⟨0,0⟩:Fraction)))),(vI 8)] ⟨⟨1,_,_,_,_,_,_,_,rfl,rfl,ll,vN,rfl⟩,⟨rfl,trivial⟩⟩ rfl rfl rfl)
     ·refine ay rfl hc_44 (au (af (aa (ae (vI s_28.2) wz rfl (ae (vI s_28.1) wz rfl ?_)))))
      obtain ⟨r_45,hr_46,hF⟩:=bind_some hF
      refine aB (Dm hr_46) rfl hb119 rfl rfl rfl rfl wz (dJ 0 il ft 1 ll rfl rfl [(vI r_45.Num),(vI r_45.Den)] rfl wz (ae (vI 0) wz rfl (ai ?_)))
      obtain rfl:=ah hF
      exact ax (aR (.inr rfl) [(.d (.agg (Fraction.enc r_45))),(vI 0)] ⟨⟨1,_,_,_,_,_,_,_,rfl,rfl,ll,vN,rfl⟩,⟨rfl,trivial⟩⟩ rfl rfl rfl)
theorem DJ {a_1:Alert} {endv_2:Int} {atv_3:Int} {r:Bool} (hF:rO a_1 endv_2 atv_3=some r) :
  FnM Tryz.prog 120 [(.d (.agg (Alert.enc a_1))),(vI endv_2),(vI atv_3)] [] (vB r) []:=by
 refine FnM.of_wH ⟨Tryz.prog,21,[],[]⟩ rfl Tryz.func120 rfl rfl (lb_ rfl) (by kernel_rfl) ?_
 unfold rO at hF
 refine af (aa (dW 0 (.inl rfl) [(vS a_1.Id),(vS a_1.Sender),(vI a_1.Kind),(vL eS a_1.Refs),(vI a_1.At),(vI a_1.Until),(vI a_1.Weight),(vL Rect.enc a_1.Areas),(vS a_1.Text)] rfl rfl wz (λn_4=>ae (vB false) wz rfl (ai (af ?_)))))
 obtain ⟨v_5,h_6,hF⟩:=bind_some hF
 refine aG (β:=Unit) (λ_=>([(6,(vB v_5))]:SL_)) (λ_=>([(n_4,some (.cells 9 [(vS a_1.Id),(vS a_1.Sender),(vI a_1.Kind),(vL eS a_1.Refs),(vI a_1.At),(vI a_1.Until),(vI a_1.Weight),(vL Rect.enc a_1.Areas),(vS a_1.Text)]))]:Hp)) (λ_=>True) ?_ ?_
 ·refine aa (aI lQ rfl 2 rfl wz (aF 0 0 il ft sz3 ag3 rfl rfl (vI a_1.Kind) rfl wz (ae (vB (a_1.Kind != 3)) wz rfl ?_)))
  rcases ak h_6 with⟨hc_7,h_6⟩|⟨hc_7,h_6⟩
  ·refine aC rfl hc_7 wz (aI fq rfl 4 rfl wa (aF 0 0 il ft sz3 ag3 rfl rfl (vI a_1.At) rfl wa (ae (vI atv_3) wa rfl (ae (vB (decide (a_1.At<=atv_3))) wa rfl (ae (vB (decide (a_1.At<=atv_3))) wz rfl ?_)))))
   rcases ak h_6 with⟨hc_8,h_6⟩|⟨hc_8,h_6⟩
   ·refine aC rfl hc_8 wz (ae (vI atv_3) wa rfl (ae (vI endv_2) wa rfl (ae (vB (decide (atv_3<endv_2))) wa rfl (ae (vB (decide (atv_3<endv_2))) wz rfl (ae (vB (decide (atv_3<endv_2))) wz rfl (ai ?_))))))
    obtain rfl:=ah h_6
    exact cu
   ·refine aC rfl hc_8 wz (aj wa (aj wa (aj wa (ae (vB false) wz rfl (ae (vB false) wz rfl (ai ?_))))))
    obtain rfl:=ah h_6
    exact cu
  ·refine aC rfl hc_7 wz (aj wa (aj wa (aj wa (aj wa (ae (vB false) wz rfl (ae (vB false) wz rfl (aj wa (aj wa (aj wa (ae (vB false) wz rfl (ae (vB false) wz rfl (ai ?_))))))))))))
   obtain rfl:=ah h_6
   exact cu
 ·rintro ⟨⟩ _ sl_ H_ hp_ hq_
  refine aN _ hp_ hq_ ?_
  obtain rfl:=ah hF
  exact ax (aR (.inr rfl) [(vB v_5)] ⟨rfl,trivial⟩ rfl rfl rfl)
theorem Bb {l_1:(List Alert)} {posts_2:(List Post)} {r_3:(List Receipt)} {wait_4:Int} {atv_5:Int} {r:(List ByteArray)×Int} (hF:ow l_1 posts_2 r_3 wait_4 atv_5=some r) :
  FnM Tryz.prog 50 [(vL Alert.enc l_1),(vL Post.enc posts_2),(vL Receipt.enc r_3),(vI wait_4),(vI atv_5)] [] (.tup [(vL eS r.1),(vI r.2)]) []:=by
 refine FnM.of_wH ⟨Tryz.prog,120,[],[]⟩ rfl Tryz.func50 rfl rfl (lb_ rfl) (by kernel_rfl) ?_
 unfold ow at hF
 refine af (aa (ae .nil wz rfl (ae (vI 0) wz rfl (ai (af (af (aa (ae (vL Alert.enc l_1) wz rfl (ae (vL Post.enc posts_2) wz rfl (ae (vL Receipt.enc r_3) wz rfl ?_))))))))))
 obtain ⟨r_6,hr_7,hF⟩:=bind_some hF
 refine aB (oK hr_7) rfl LC rfl rfl rfl rfl wz (ae (vI r_6) wz rfl (ai (af (aa (ae (vI r_6) wz rfl (ae (vB (r_6 != 0)) wz rfl (ai ?_)))))))
 rcases ak hF with⟨hc_8,hF⟩|⟨hc_8,hF⟩
 ·refine aA rfl hc_8 (af (aa (ae (vI r_6) wz rfl (ae .nil wz rfl (ae (vI r_6) wz rfl (ai ?_))))))
  obtain rfl:=ah hF
  exact ax (aR (.inr rfl) [.nil,(vI r_6)] ⟨rfl,⟨rfl,trivial⟩⟩ rfl rfl rfl)
 ·refine ay rfl hc_8 (au (af (af ?_)))
  obtain ⟨v_9,h_10,hF⟩:=bind_some hF
  refine aG (β:=Unit) (λ_=>([(0,(vL Alert.enc l_1)),(1,(vL Post.enc posts_2)),(2,(vL Receipt.enc r_3)),(3,(vI wait_4)),(4,(vI atv_5)),(37,(vB v_9))]:SL_)) (λ_=>([]:Hp)) (λ_=>True) ?_ ?_
  ·refine aa (ae (vI wait_4) wz rfl ?_)
   obtain ⟨r_11,hr_12,h_10⟩:=bind_some h_10
   refine aB (fM hr_12) rfl BC rfl rfl rfl rfl wz ?_
   rcases ak h_10 with⟨hc_13,h_10⟩|⟨hc_13,h_10⟩
   ·refine aC rfl hc_13 wz (aj wa (aj wa (aj wa (ae (vB true) wz rfl (ai ?_)))))
    obtain rfl:=ah h_10
    exact cu
   ·refine aC rfl hc_13 wz (ae (vI atv_5) wa rfl ?_)
    obtain ⟨r_14,hr_15,h_10⟩:=bind_some h_10
    refine aB (kZ hr_15) rfl Gl rfl rfl rfl rfl wa (ae (vB (!r_14)) wa rfl (ae (vB (!r_14)) wz rfl (ai ?_)))
    obtain rfl:=ah h_10
    exact cu
  ·rintro ⟨⟩ _ sl_ H_ hp_ hq_
   refine aN _ hp_ hq_ ?_
   rcases ak hF with⟨hc_16,hF⟩|⟨hc_16,hF⟩
   ·refine aA rfl hc_16 (af (aa (ae .nil wz rfl (ae (vI 1) wz rfl (ai ?_)))))
    obtain rfl:=ah hF
    exact ax (aR (.inr rfl) [.nil,(vI 1)] ⟨rfl,⟨rfl,trivial⟩⟩ rfl rfl rfl)
   ·refine ay rfl hc_16 (au (af (aa (Br 0 (.inl rfl) wz (λn_17=>Ef (b':=some (bM (λx=>D.agg (Pair.enc x)) D.bool ([]:List (Pair×Bool)))) 0 rfl rfl (ae (.map n_17) wz rfl (ai (af (af (aa (ae (vL Receipt.enc r_3) wz rfl (bN nE rfl wz (ae (vI 0) wz rfl (ai ?_))))))))))))))
    obtain ⟨o_26,hj_27,hF⟩:=bind_some hF
    obtain ⟨hn_22,hj_27⟩:=aU hj_27
    refine aG (β:=((List (Pair×Bool)))) (λ(s_23:(List (Pair×Bool)))=>([(0,(vL Alert.enc l_1)),(1,(vL Post.enc posts_2)),(3,(vI wait_4)),(4,(vI atv_5)),(13,(.map n_17))]:SL_)) (λ(s_23:(List (Pair×Bool)))=>([(n_17,some (bM (λx=>D.agg (Pair.enc x)) D.bool s_23))]:Hp)) (λp=>o_26 = .go p) ?_ ?_
    ·refine aD (bf (β:=Nat×(List Receipt)×((List (Pair×Bool)))) (λp=>(λ(k_18:Nat) (l_19:List Receipt) (s_23:(List (Pair×Bool)))=>([(0,(vL Alert.enc l_1)),(1,(vL Post.enc posts_2)),(3,(vI wait_4)),(4,(vI atv_5)),(13,(.map n_17)),(39,(vL Receipt.enc r_3)),(40,(vI (r_3.length:Int))),(41,(vI (k_18:Int)))]:SL_)) p.1 p.2.1 p.2.2) (λp=>(λ(k_18:Nat) (l_19:List Receipt) (s_23:(List (Pair×Bool)))=>([(n_17,some (bM (λx=>D.agg (Pair.enc x)) D.bool s_23))]:Hp)) p.1 p.2.1 p.2.2) (λp=>forR (λk x s=>jO atv_5 k x s) p.2.1 p.1 p.2.2=some o_26/\(r_3).drop p.1=p.2.1) (λp=>p.2.1.length) (0,r_3,([]:List (Pair×Bool))) ⟨hj_27,rfl⟩ rfl (aJ rfl) ?_)
     rintro ⟨k_18,l_19,s_23⟩ ⟨hL_25,hD_21⟩
     dsimp only at hL_25 hD_21
     cases l_19 with
     | nil =>
      obtain rfl:=ah hL_25
      refine af (aa (ae (vB (decide ((k_18:Int)<(r_3.length:Int)))) wz rfl (ai ?_)))
      refine af (ay rfl (drop_nil hD_21) (aW ?_))
      exact aZ (s_23) rfl rfl (aJ rfl)
     | cons x_20 l_19 =>
      obtain ⟨c_,hc_24,hL_25⟩:=bind_some hL_25
      refine af (aa (ae (vB (decide ((k_18:Int)<(r_3.length:Int)))) wz rfl (ai ?_)))
      refine af (aA rfl (aY hD_21) (au ?_))
      unfold jO at hc_24
      refine af (aD (af (aa (fU qQ rfl rfl (bz hD_21) rfl wz (dn jh oh rfl (.d (.agg (Receipt.enc x_20))) rfl wz (cK 0 (.inl rfl) z91 rfl wz (λn_28=>dJ 0 il ft 1 jh rfl rfl [(vS x_20.Player),(vS x_20.Alert),(vI x_20.At),(vB x_20.Seen)] rfl wz (ai (af ?_)))))))))
      obtain ⟨v_29,h_30,hc_24⟩:=bind_some hc_24
      refine aG (β:=Unit) (λ_=>([(0,(vL Alert.enc l_1)),(1,(vL Post.enc posts_2)),(3,(vI wait_4)),(4,(vI atv_5)),(13,(.map n_17)),(15,(.ref n_28 0 0)),(39,(vL Receipt.enc r_3)),(40,(vI (r_3.length:Int))),(41,(vI (k_18:Int))),(52,(vB v_29))]:SL_)) (λ_=>([(n_17,some (bM (λx=>D.agg (Pair.enc x)) D.bool s_23)),(n_28,some (.cells 4 [(vS x_20.Player),(vS x_20.Alert),(vI x_20.At),(vB x_20.Seen)]))]:Hp)) (λ_=>True) ?_ ?_
      ·refine aa (aI BU rfl 3 rfl wz (aF 0 1 il ft sz4 ag4 rfl rfl (vB x_20.Seen) rfl wz ?_))
       rcases ak h_30 with⟨hc_31,h_30⟩|⟨hc_31,h_30⟩
       ·refine aC rfl hc_31 wz (aI nD rfl 2 rfl wa (aF 0 1 il ft sz3 ag3 rfl rfl (vI x_20.At) rfl wa (ae (vI atv_5) wa rfl (ae (vB (decide (x_20.At<=atv_5))) wa rfl (ae (vB (decide (x_20.At<=atv_5))) wz rfl (ai ?_))))))
        obtain rfl:=ah h_30
        exact cu
       ·refine aC rfl hc_31 wz (aj wa (aj wa (aj wa (aj wa (ae (vB false) wz rfl (ai ?_))))))
        obtain rfl:=ah h_30
        exact cu
      ·rintro ⟨⟩ _ sl_ H_ hp_ hq_
       refine aN _ hp_ hq_ ?_
       obtain ⟨v_32,h_33,hc_24⟩:=bind_some hc_24
       refine aG (β:=Unit) (λ_=>([(0,(vL Alert.enc l_1)),(1,(vL Post.enc posts_2)),(3,(vI wait_4)),(4,(vI atv_5)),(13,(.map n_17)),(39,(vL Receipt.enc r_3)),(40,(vI (r_3.length:Int))),(41,(vI (k_18:Int)))]:SL_)) (λ_=>([(n_17,some (bM (λx=>D.agg (Pair.enc x)) D.bool v_32)),(n_28,some (.cells 4 [(vS x_20.Player),(vS x_20.Alert),(vI x_20.At),(vB x_20.Seen)]))]:Hp)) (λ_=>True) ?_ ?_
       ·rcases ak h_33 with⟨hc_34,h_33⟩|⟨hc_34,h_33⟩
        ·refine aA rfl hc_34 (aa (ae (.map n_17) wz rfl (aI rZ rfl 0 rfl wz (aF 0 1 il ft sz9 ag9 rfl rfl (vS x_20.Player) rfl wz (aI sN rfl 1 rfl wz (aF 0 1 il ft sz9 ag9 rfl rfl (vS x_20.Alert) rfl wz (ae (.d (.agg (Pair.enc (⟨x_20.Player,x_20.Alert⟩:Pair)))) wz (by kernel_rfl) (zi (eq:=(λ(a b:Pair)=>(eqS a.f_player b.f_player&&(eqS a.f_alert b.f_alert&&true)))) (kD:=(λx=>D.agg (Pair.enc x))) (vD:=D.bool) (es:=s_23) (k:=(⟨x_20.Player,x_20.Alert⟩:Pair)) (v:=true) 0 0 il ft (λ_ _=>rfl) mt205 (by kernel_rfl) rfl rfl rfl rfl wz (ai ?_)))))))))
         obtain rfl:=ah h_33
         exact cu
        ·refine ay rfl hc_34 (au ?_)
         obtain rfl:=ah h_33
         exact cu
       ·rintro ⟨⟩ _ sl_ H_ hp_ hq_
        refine aN _ hp_ hq_ (aa (dX (bg hD_21 hn_22) wz rfl (ae (vI ((k_18+1:Nat):Int)) wz rfl (ai ?_))))
        obtain rfl:=ah hc_24
        exact aV (k_18+1,l_19,v_32) ⟨hL_25,aQ hD_21⟩ (ls_ _) rfl (aJ rfl)
    ·rintro s_23 ho_ sl_ H_ hp_ hq_
     subst ho_
     refine aN _ hp_ hq_ (af (aa (ae (vL Alert.enc l_1) wz rfl ?_)))
     obtain ⟨r_35,hr_36,hF⟩:=bind_some hF
     refine aB (tF hr_36) rfl Mf rfl rfl rfl rfl wz (ae (vL eI r_35) wz rfl (ai (af (aa (ae .nil wz rfl (ai (af (af (aa (ae (vL Alert.enc l_1) wz rfl (bN uT rfl wz (ae (vI 0) wz rfl (ai (rF (λn_43 => ?_)))))))))))))))
     obtain ⟨o_48,hj_49,hF⟩:=bind_some hF
     obtain ⟨hn_41,hj_49⟩:=aU hj_49
     refine aG (β:=((List ByteArray))×Nm) (λp=>(λ(s_42:List ByteArray) (n_45:Nm)=>([(17,(gV n_45 1 s_42))]:SL_)) p.1 p.2) (λp=>(λ(s_42:List ByteArray) (n_45:Nm)=>([(n_17,some (bM (λx=>D.agg (Pair.enc x)) D.bool s_23)),(n_45,gB 1 eS s_42)]:Hp)) p.1 p.2) (λp=>o_48 = .go p.1) ?_ ?_
     ·refine aD (bf (β:=Nat×(List Alert)×((List ByteArray))×Nm) (λp=>(λ(k_37:Nat) (l_38:List Alert) (s_42:List ByteArray) (n_45:Nm)=>([(1,(vL Post.enc posts_2)),(3,(vI wait_4)),(4,(vI atv_5)),(13,(.map n_17)),(16,(vL eI r_35)),(17,(gV n_45 1 s_42)),(62,(vL Alert.enc l_1)),(63,(vI (l_1.length:Int))),(64,(vI (k_37:Int)))]:SL_)) p.1 p.2.1 p.2.2.1 p.2.2.2) (λp=>(λ(k_37:Nat) (l_38:List Alert) (s_42:List ByteArray) (n_45:Nm)=>([(n_17,some (bM (λx=>D.agg (Pair.enc x)) D.bool s_23)),(n_45,gB 1 eS s_42)]:Hp)) p.1 p.2.1 p.2.2.1 p.2.2.2) (λp=>forR (λk x s=>jN r_35 atv_5 wait_4 posts_2 s_23 k x s) p.2.1 p.1 p.2.2.1=some o_48/\(l_1).drop p.1=p.2.1) (λp=>p.2.1.length) (0,l_1,([]:List ByteArray),n_43) ⟨hj_49,rfl⟩ rfl (aJ rfl) ?_)
      rintro ⟨k_37,l_38,s_42,n_45⟩ ⟨hL_47,hD_40⟩
      dsimp only at hL_47 hD_40
      cases l_38 with
      | nil =>
       obtain rfl:=ah hL_47
       refine af (aa (ae (vB (decide ((k_37:Int)<(l_1.length:Int)))) wz rfl (ai ?_)))
       refine af (ay rfl (drop_nil hD_40) (aW ?_))
       exact aZ (s_42,n_45) rfl rfl (aJ rfl)
      | cons x_39 l_38 =>
       obtain ⟨c_,hc_46,hL_47⟩:=bind_some hL_47
       refine af (aa (ae (vB (decide ((k_37:Int)<(l_1.length:Int)))) wz rfl (ai ?_)))
       refine af (aA rfl (aY hD_40) (au ?_))
       unfold jN at hc_46
       refine af (aD (af (aa (ae (vI (k_37:Int)) wz rfl (fU qJ rfl rfl (bz hD_40) rfl wz (dn dF fJ rfl (.d (.agg (Alert.enc x_39))) rfl wz (cK 0 (.inl rfl) yh rfl wz (λn_50=>ae (vI (k_37:Int)) wz rfl (dJ 0 il ft 2 dF rfl rfl [(vS x_39.Id),(vS x_39.Sender),(vI x_39.Kind),(vL eS x_39.Refs),(vI x_39.At),(vI x_39.Until),(vI x_39.Weight),(vL Rect.enc x_39.Areas),(vS x_39.Text)] rfl wz (ai (af (af ?_))))))))))))
       obtain ⟨v_51,h_52,hc_46⟩:=bind_some hc_46
       refine aG (β:=Unit) (λ_=>([(1,(vL Post.enc posts_2)),(3,(vI wait_4)),(4,(vI atv_5)),(13,(.map n_17)),(16,(vL eI r_35)),(17,(gV n_45 1 s_42)),(19,(.ref n_50 0 0)),(62,(vL Alert.enc l_1)),(63,(vI (l_1.length:Int))),(64,(vI (k_37:Int))),(84,(vB v_51))]:SL_)) (λ_=>([(n_17,some (bM (λx=>D.agg (Pair.enc x)) D.bool s_23)),(n_45,gB 1 eS s_42),(n_50,some (.cells 9 [(vS x_39.Id),(vS x_39.Sender),(vI x_39.Kind),(vL eS x_39.Refs),(vI x_39.At),(vI x_39.Until),(vI x_39.Weight),(vL Rect.enc x_39.Areas),(vS x_39.Text)]))]:Hp)) (λ_=>True) ?_ ?_
       ·refine bR (aF 0 2 (.inr (by kernel_rfl)) (λ_ _ ag=>trivial) dF fJ rfl rfl (.d (.agg (Alert.enc x_39))) rfl wz (ae (vL eI r_35) wz rfl (ae (vI (k_37:Int)) wz rfl ?_)))
        obtain ⟨y_53,hy_54,h_52⟩:=bind_some h_52
        refine fU sQ rfl rfl hy_54 rfl wz (dn sz3 ag3 rfl (vI y_53) rfl wz (ae (vI atv_5) wz rfl ?_))
        obtain ⟨r_55,hr_56,h_52⟩:=bind_some h_52
        refine aB (DJ hr_56) rfl hb120 rfl rfl rfl rfl wz (ae (vB (!r_55)) wz rfl ?_)
        rcases ak h_52 with⟨hc_57,h_52⟩|⟨hc_57,h_52⟩
        ·refine aC rfl hc_57 wz (aj wa (aj wa (aj wa (aj wa (aj wa (aj wa (ae (vB true) wz rfl (ai ?_))))))))
         obtain rfl:=ah h_52
         exact cu
        ·refine aC rfl hc_57 wz (aI fq rfl 4 rfl wa (aF 10 2 (.inr (by kernel_rfl)) (λ_ _ ag=>⟨.inl ⟨rfl,rfl⟩,trivial⟩) sz3 ag3 rfl rfl (vI x_39.At) rfl wa (ae (vI wait_4) wa rfl (ae (vI (w64 (x_39.At+wait_4))) wa rfl (ae (vI atv_5) wa rfl (ae (vB (decide ((w64 (x_39.At+wait_4))>atv_5))) wa rfl (ae (vB (decide ((w64 (x_39.At+wait_4))>atv_5))) wz rfl (ai ?_))))))))
         obtain rfl:=ah h_52
         exact cu
       ·rintro ⟨⟩ _ sl_ H_ hp_ hq_
        refine aN _ hp_ hq_ ?_
        rcases ak hc_46 with⟨hc_58,hc_46⟩|⟨hc_58,hc_46⟩
        ·refine aA rfl hc_58 (aW (aa (dX (bg hD_40 hn_41) wz rfl (ae (vI ((k_37+1:Nat):Int)) wz rfl (ai ?_)))))
         obtain rfl:=ah hc_46
         exact aV (k_37+1,l_38,s_42,n_45) ⟨hL_47,aQ hD_40⟩ (ls_ _) rfl (aJ rfl)
        ·refine ay rfl hc_58 (au (af (aa (ae (vI 0) wz rfl (ae (vI 0) wz rfl (ai (af (af (aa (ae (vL Post.enc posts_2) wz rfl (bN AY rfl wz (ae (vI 0) wz rfl (ai ?_)))))))))))))
         obtain ⟨o_67,hj_68,hc_46⟩:=bind_some hc_46
         obtain ⟨hn_63,hj_68⟩:=aU hj_68
         refine aG (β:=(Int×Int)) (λ(s_64:Int×Int)=>([(1,(vL Post.enc posts_2)),(3,(vI wait_4)),(4,(vI atv_5)),(13,(.map n_17)),(16,(vL eI r_35)),(17,(gV n_45 1 s_42)),(19,(.ref n_50 0 0)),(20,(vI s_64.1)),(21,(vI s_64.2)),(62,(vL Alert.enc l_1)),(63,(vI (l_1.length:Int))),(64,(vI (k_37:Int)))]:SL_)) (λ(s_64:Int×Int)=>([(n_17,some (bM (λx=>D.agg (Pair.enc x)) D.bool s_23)),(n_45,gB 1 eS s_42),(n_50,some (.cells 9 [(vS x_39.Id),(vS x_39.Sender),(vI x_39.Kind),(vL eS x_39.Refs),(vI x_39.At),(vI x_39.Until),(vI x_39.Weight),(vL Rect.enc x_39.Areas),(vS x_39.Text)]))]:Hp)) (λp=>o_67 = .go p) ?_ ?_
         ·refine aD (bf (β:=Nat×(List Post)×(Int×Int)) (λp=>(λ(k_59:Nat) (l_60:List Post) (s_64:Int×Int)=>([(1,(vL Post.enc posts_2)),(3,(vI wait_4)),(4,(vI atv_5)),(13,(.map n_17)),(16,(vL eI r_35)),(17,(gV n_45 1 s_42)),(19,(.ref n_50 0 0)),(20,(vI s_64.1)),(21,(vI s_64.2)),(62,(vL Alert.enc l_1)),(63,(vI (l_1.length:Int))),(64,(vI (k_37:Int))),(85,(vL Post.enc posts_2)),(86,(vI (posts_2.length:Int))),(87,(vI (k_59:Int)))]:SL_)) p.1 p.2.1 p.2.2) (λp=>(λ(k_59:Nat) (l_60:List Post) (s_64:Int×Int)=>([(n_17,some (bM (λx=>D.agg (Pair.enc x)) D.bool s_23)),(n_45,gB 1 eS s_42),(n_50,some (.cells 9 [(vS x_39.Id),(vS x_39.Sender),(vI x_39.Kind),(vL eS x_39.Refs),(vI x_39.At),(vI x_39.Until),(vI x_39.Weight),(vL Rect.enc x_39.Areas),(vS x_39.Text)]))]:Hp)) p.1 p.2.1 p.2.2) (λp=>forR (λk x s=>jP x_39 s_23 k x s) p.2.1 p.1 p.2.2=some o_67/\(posts_2).drop p.1=p.2.1) (λp=>p.2.1.length) (0,posts_2,(0,0)) ⟨hj_68,rfl⟩ rfl (aJ rfl) ?_)
          rintro ⟨k_59,l_60,s_64⟩ ⟨hL_66,hD_62⟩
          dsimp only at hL_66 hD_62
          cases l_60 with
          | nil =>
           obtain rfl:=ah hL_66
           refine af (aa (ae (vB (decide ((k_59:Int)<(posts_2.length:Int)))) wz rfl (ai ?_)))
           refine af (ay rfl (drop_nil hD_62) (aW ?_))
           exact aZ (s_64) rfl rfl (aJ rfl)
          | cons x_61 l_60 =>
           obtain ⟨c_,hc_65,hL_66⟩:=bind_some hL_66
           refine af (aa (ae (vB (decide ((k_59:Int)<(posts_2.length:Int)))) wz rfl (ai ?_)))
           refine af (aA rfl (aY hD_62) (au ?_))
           unfold jP at hc_65
           refine af (aD (af (aa (fU A9 rfl rfl (bz hD_62) rfl wz (dn pg vX rfl (.d (.agg (Post.enc x_61))) rfl wz (cK 0 (.inl rfl) z66 rfl wz (λn_69=>dJ 0 il ft 3 pg rfl rfl [(vS x_61.Player),(vI x_61.X),(vI x_61.Y)] rfl wz (ai (af (aa (aF 0 2 il ft dF fJ rfl rfl (.d (.agg (Alert.enc x_39))) rfl wz (aF 0 3 il ft pg vX rfl rfl (.d (.agg (Post.enc x_61))) rfl wz ?_))))))))))))
           obtain ⟨r_70,hr_71,hc_65⟩:=bind_some hc_65
           refine aB (pu hr_71) rfl MO rfl rfl rfl rfl wz (ai ?_)
           obtain ⟨v_72,h_73,hc_65⟩:=bind_some hc_65
           refine aG (β:=Unit) (λ_=>([(1,(vL Post.enc posts_2)),(3,(vI wait_4)),(4,(vI atv_5)),(13,(.map n_17)),(16,(vL eI r_35)),(17,(gV n_45 1 s_42)),(19,(.ref n_50 0 0)),(20,(vI v_72.1)),(21,(vI v_72.2)),(62,(vL Alert.enc l_1)),(63,(vI (l_1.length:Int))),(64,(vI (k_37:Int))),(85,(vL Post.enc posts_2)),(86,(vI (posts_2.length:Int))),(87,(vI (k_59:Int)))]:SL_)) (λ_=>([(n_17,some (bM (λx=>D.agg (Pair.enc x)) D.bool s_23)),(n_45,gB 1 eS s_42),(n_50,some (.cells 9 [(vS x_39.Id),(vS x_39.Sender),(vI x_39.Kind),(vL eS x_39.Refs),(vI x_39.At),(vI x_39.Until),(vI x_39.Weight),(vL Rect.enc x_39.Areas),(vS x_39.Text)])),(n_69,some (.cells 3 [(vS x_61.Player),(vI x_61.X),(vI x_61.Y)]))]:Hp)) (λ_=>True) ?_ ?_
           ·rcases ak h_73 with⟨hc_74,h_73⟩|⟨hc_74,h_73⟩
            ·refine aA rfl hc_74 (af (aa (ae (vI s_64.1) wz rfl (ae (vI (w64 (s_64.1+1))) wz rfl (ae (vI (w64 (s_64.1+1))) wz rfl (ai (aa (ae (vI s_64.2) wz rfl (ae (.map n_17) wz rfl (aI mg rfl 0 rfl wz (aF 0 3 il ft sz9 ag9 rfl rfl (vS x_61.Player) rfl wz (aI eD rfl 0 rfl wz (aF 0 2 il ft sz9 ag9 rfl rfl (vS x_39.Id) rfl wz (ae (.d (.agg (Pair.enc (⟨x_61.Player,x_39.Id⟩:Pair)))) wz (by kernel_rfl) (wF (eq:=(λ(a b:Pair)=>(eqS a.f_player b.f_player&&(eqS a.f_alert b.f_alert&&true)))) (kD:=(λx=>D.agg (Pair.enc x))) (vD:=D.bool) (es:=s_23) (k:=(⟨x_61.Player,x_39.Id⟩:Pair)) (z:=false) 0 0 il ft (λ_ _=>rfl) mt205 (by kernel_rfl) (by kernel_rfl) rfl rfl rfl (vB ((mGet (λ(a b:Pair)=>(eqS a.f_player b.f_player&&(eqS a.f_alert b.f_alert&&true))) s_23 (⟨x_61.Player,x_39.Id⟩:Pair)).getD false)) rfl wz ?_)))))))))))))))
             obtain ⟨r_75,hr_76,h_73⟩:=bind_some h_73
             refine aB (mQ hr_76) rfl M8 rfl rfl rfl rfl wz (ae (vI (w64 (s_64.2+r_75))) wz rfl (ae (vI (w64 (s_64.2+r_75))) wz rfl (ai ?_)))
             obtain rfl:=ah h_73
             exact cu
            ·refine ay rfl hc_74 (au ?_)
             obtain rfl:=ah h_73
             exact cu
           ·rintro ⟨⟩ _ sl_ H_ hp_ hq_
            refine aN _ hp_ hq_ (aa (dX (bg hD_62 hn_63) wz rfl (ae (vI ((k_59+1:Nat):Int)) wz rfl (ai ?_))))
            obtain rfl:=ah hc_65
            exact aV (k_59+1,l_60,(v_72.1,v_72.2)) ⟨hL_66,aQ hD_62⟩ (ls_ _) rfl (aJ rfl)
         ·rintro s_64 ho_ sl_ H_ hp_ hq_
          subst ho_
          refine aN _ hp_ hq_ (af ?_)
          obtain ⟨v_77,h_78,hc_46⟩:=bind_some hc_46
          refine aG (β:=Unit) (λ_=>([(1,(vL Post.enc posts_2)),(3,(vI wait_4)),(4,(vI atv_5)),(13,(.map n_17)),(16,(vL eI r_35)),(17,(gV n_45 1 s_42)),(19,(.ref n_50 0 0)),(62,(vL Alert.enc l_1)),(63,(vI (l_1.length:Int))),(64,(vI (k_37:Int))),(112,(vB v_77))]:SL_)) (λ_=>([(n_17,some (bM (λx=>D.agg (Pair.enc x)) D.bool s_23)),(n_45,gB 1 eS s_42),(n_50,some (.cells 9 [(vS x_39.Id),(vS x_39.Sender),(vI x_39.Kind),(vL eS x_39.Refs),(vI x_39.At),(vI x_39.Until),(vI x_39.Weight),(vL Rect.enc x_39.Areas),(vS x_39.Text)]))]:Hp)) (λ_=>True) ?_ ?_
          ·refine aa (ae (vI s_64.1) wz rfl (ae (vB (decide (s_64.1>0))) wz rfl ?_))
           rcases ak h_78 with⟨hc_79,h_78⟩|⟨hc_79,h_78⟩
           ·refine aC rfl hc_79 wz (ae (vI s_64.2) wa rfl (ae (vB (s_64.2==0)) wa rfl (ae (vB (s_64.2==0)) wz rfl (ai ?_))))
            obtain rfl:=ah h_78
            exact cu
           ·refine aC rfl hc_79 wz (aj wa (aj wa (ae (vB false) wz rfl (ai ?_))))
            obtain rfl:=ah h_78
            exact cu
          ·rintro ⟨⟩ _ sl_ H_ hp_ hq_
           refine aN _ hp_ hq_ ?_
           obtain ⟨v_80,h_81,hc_46⟩:=bind_some hc_46
           refine aG (β:=Nm) (λ(n_82:Nm)=>([(1,(vL Post.enc posts_2)),(3,(vI wait_4)),(4,(vI atv_5)),(13,(.map n_17)),(16,(vL eI r_35)),(17,(gV n_82 1 v_80)),(62,(vL Alert.enc l_1)),(63,(vI (l_1.length:Int))),(64,(vI (k_37:Int)))]:SL_)) (λ(n_82:Nm)=>([(n_17,some (bM (λx=>D.agg (Pair.enc x)) D.bool s_23)),(n_82,gB 1 eS v_80),(n_50,some (.cells 9 [(vS x_39.Id),(vS x_39.Sender),(vI x_39.Kind),(vL eS x_39.Refs),(vI x_39.At),(vI x_39.Until),(vI x_39.Weight),(vL Rect.enc x_39.Areas),(vS x_39.Text)]))]:Hp)) (λ_=>True) ?_ ?_
           ·rcases ak h_81 with⟨hc_83,h_81⟩|⟨hc_83,h_81⟩
            ·refine aA rfl hc_83 (aa (ae (gV n_45 1 s_42) wz rfl (aI eD rfl 0 rfl wz (aF 0 2 il ft sz9 ag9 rfl rfl (vS x_39.Id) rfl wz (dQ (([x_39.Id]:List ByteArray).map eS) jZ qp rfl rfl rfl rfl rfl wz ?_)))))
             obtain ⟨a_84,hz_85,h_81⟩:=bind_some h_81
             refine o7 0 il ft (i:=1) J9 J9 sz9 z9 rfl (by decide) by9 (by decide) (λ_=>rfl) rfl rfl rfl hz_85 wz (λn_86=>ae (gV n_86 1 a_84) wz rfl (ai ?_))
             obtain rfl:=ah h_81
             exact aZ n_86 trivial rfl (aJ rfl)
            ·refine ay rfl hc_83 (au ?_)
             obtain rfl:=ah h_81
             exact aZ n_45 trivial rfl (aJ rfl)
           ·rintro n_82 _ sl_ H_ hp_ hq_
            refine aN _ hp_ hq_ (aa (dX (bg hD_40 hn_41) wz rfl (ae (vI ((k_37+1:Nat):Int)) wz rfl (ai ?_))))
            obtain rfl:=ah hc_46
            exact aV (k_37+1,l_38,v_80,n_82) ⟨hL_47,aQ hD_40⟩ (ls_ _) rfl (aJ rfl)
     ·rintro ⟨s_42,n_45⟩ ho_ sl_ H_ hp_ hq_
      subst ho_
      refine aN _ hp_ hq_ (af (aa (ae (gV n_45 1 s_42) wz rfl (ae (gV n_45 1 s_42) wz rfl (ae (vI 0) wz rfl (ai (jv 1 rfl (gP 10 1 rfl rfl (gP 17 1 rfl rfl (gP 119 1 rfl rfl ?_))))))))))
      obtain rfl:=ah hF
      exact ax (aR (.inr rfl) [(vL eS s_42),(vI 0)] ⟨rfl,⟨rfl,trivial⟩⟩ rfl rfl rfl)
theorem jr {n_1:Int} {low_2:Int} {high_3:Int} {r:Bool} (hF:kT n_1 low_2 high_3=some r) :
  FnM Tryz.prog 89 [(vI n_1),(vI low_2),(vI high_3)] [] (vB r) []:=by
 refine FnM.of_wH ⟨Tryz.prog,15,[],[]⟩ rfl Tryz.func89 rfl rfl (lb_ rfl) (by kernel_rfl) ?_
 unfold kT at hF
 refine af (aa (ae (vB false) wz rfl (ai (af ?_))))
 obtain ⟨v_4,h_5,hF⟩:=bind_some hF
 refine aG (β:=Unit) (λ_=>([(6,(vB v_4))]:SL_)) (λ_=>([]:Hp)) (λ_=>True) ?_ ?_
 ·refine aa (ae (vI low_2) wz rfl (ae (vI n_1) wz rfl (ae (vB (decide (low_2<=n_1))) wz rfl ?_)))
  rcases ak h_5 with⟨hc_6,h_5⟩|⟨hc_6,h_5⟩
  ·refine aC rfl hc_6 wz (ae (vI n_1) wa rfl (ae (vI high_3) wa rfl (ae (vB (decide (n_1<=high_3))) wa rfl (ae (vB (decide (n_1<=high_3))) wz rfl (ae (vB (decide (n_1<=high_3))) wz rfl (ai ?_))))))
   obtain rfl:=ah h_5
   exact cu
  ·refine aC rfl hc_6 wz (aj wa (aj wa (aj wa (ae (vB false) wz rfl (ae (vB false) wz rfl (ai ?_))))))
   obtain rfl:=ah h_5
   exact cu
 ·rintro ⟨⟩ _ sl_ H_ hp_ hq_
  refine aN _ hp_ hq_ ?_
  obtain rfl:=ah hF
  exact ax (aR (.inr rfl) [(vB v_4)] ⟨rfl,trivial⟩ rfl rfl rfl)
theorem nZ {s_1:ByteArray} {c_2:Int} {r:Int} (hF:fP s_1 c_2=some r) :
  FnM Tryz.prog 280 [(vS s_1),(.d (.int .u8 c_2))] [] (vI r) []:=by
 refine FnM.of_wH ⟨Tryz.prog,8,[],[]⟩ rfl Tryz.func280 rfl rfl (lb_ rfl) (by kernel_rfl) ?_
 unfold fP at hF
 refine af (aa (ae (vI 0) wz rfl (ai (af (aa (ae (vS s_1) wz rfl (ae (.d (.int .u8 c_2)) wz rfl (h_ext (ext_ixB (f:=320) Tryz.func320 rfl rfl (by kernel_rfl) (by kernel_rfl) _ _) rfl nb320 rfl wz (ae (vI (ixB s_1 c_2)) wz rfl (ai ?_))))))))))
 obtain rfl:=ah hF
 exact ax (aR (.inr rfl) [(vI (ixB s_1 c_2))] ⟨rfl,trivial⟩ rfl rfl rfl)
theorem vZ {s_1:ByteArray} {c_2:Int} {r:Int} (hF:strings_IndexByte s_1 c_2=some r) :
  FnM Tryz.prog 213 [(vS s_1),(.d (.int .u8 c_2))] [] (vI r) []:=by
 refine FnM.of_wH ⟨Tryz.prog,8,[],[]⟩ rfl Tryz.func213 rfl rfl (lb_ rfl) (by kernel_rfl) ?_
 unfold strings_IndexByte at hF
 refine af (aa (ae (vI 0) wz rfl (ai (af (aa (ae (vS s_1) wz rfl (ae (.d (.int .u8 c_2)) wz rfl ?_)))))))
 obtain ⟨r_3,hr_4,hF⟩:=bind_some hF
 refine aB (nZ hr_4) rfl hb280 rfl rfl rfl rfl wz (ae (vI r_3) wz rfl (ai ?_))
 obtain rfl:=ah hF
 exact ax (aR (.inr rfl) [(vI r_3)] ⟨rfl,trivial⟩ rfl rfl rfl)
theorem AA {s_1:ByteArray} {somev_2:ByteArray} {r:Bool} (hF:uw s_1 somev_2=some r) :
  FnM Tryz.prog 165 [(vS s_1),(vS somev_2)] [] (vB r) []:=by
 refine FnM.of_wH ⟨Tryz.prog,18,[],[]⟩ rfl Tryz.func165 rfl rfl (lb_ rfl) (by kernel_rfl) ?_
 unfold uw at hF
 refine af (aa (ae (vB false) wz rfl (ai (af (af (aa (ae (vS s_1) wz rfl (qC un9 rfl wz (ae (vI 0) wz rfl (ai ?_))))))))))
 obtain ⟨o_11,hj_12,hF⟩:=bind_some hF
 obtain ⟨hn_7,hj_12⟩:=aU hj_12
 refine aG (β:=(Unit)) (λ(s_8:Unit)=>([]:SL_)) (λ(s_8:Unit)=>([]:Hp)) (λp=>o_11 = .go p) ?_ ?_
 ·refine aD (bf (β:=Nat×(List Nat)×(Unit)) (λp=>(λ(k_3:Nat) (l_4:List Nat) (s_8:Unit)=>([(0,(vS s_1)),(1,(vS somev_2)),(7,(vI (s_1.size:Int))),(8,(vI (k_3:Int)))]:SL_)) p.1 p.2.1 p.2.2) (λp=>(λ(k_3:Nat) (l_4:List Nat) (s_8:Unit)=>([]:Hp)) p.1 p.2.1 p.2.2) (λp=>forR (λk x s=>nW s_1 somev_2 k x s) p.2.1 p.1 p.2.2=some o_11/\((List.range ((s_1.size:Int)).toNat)).drop p.1=p.2.1) (λp=>p.2.1.length) (0,(List.range ((s_1.size:Int)).toNat),()) ⟨hj_12,rfl⟩ rfl (aJ rfl) ?_)
  rintro ⟨k_3,l_4,s_8⟩ ⟨hL_10,hD_6⟩
  dsimp only at hL_10 hD_6
  cases l_4 with
  | nil =>
   obtain rfl:=ah hL_10
   refine af (aa (ae (vB (decide ((k_3:Int)<(s_1.size:Int)))) wz rfl (ai ?_)))
   refine af (ay rfl (wZ hD_6) (aW ?_))
   exact aZ (s_8) rfl rfl (aJ rfl)
  | cons x_5 l_4 =>
   obtain ⟨c_,hc_9,hL_10⟩:=bind_some hL_10
   refine af (aa (ae (vB (decide ((k_3:Int)<(s_1.size:Int)))) wz rfl (ai ?_)))
   refine af (aA rfl (ve hD_6) (au ?_))
   unfold nW at hc_9
   refine af (aD (af (aa (ae (vI (k_3:Int)) wz rfl (ae (vI (k_3:Int)) wz rfl (ai (af (aa (ae (vS somev_2) wz rfl (ae (vS s_1) wz rfl (ae (vI (k_3:Int)) wz rfl ?_)))))))))))
   obtain ⟨b_13,hy_14,hc_9⟩:=bind_some hc_9
   refine tJ un9 rfl rfl hy_14 wz ?_
   obtain ⟨r_15,hr_16,hc_9⟩:=bind_some hc_9
   refine aB (vZ hr_16) rfl hb213 rfl rfl rfl rfl wz (ae (vB (decide (r_15<0))) wz rfl (ai ?_))
   rcases ak hc_9 with⟨hc_17,hc_9⟩|⟨hc_17,hc_9⟩
   ·refine aA rfl hc_17 (af (aa (ae (vB false) wz rfl (ai ?_))))
    obtain rfl:=ah hc_9
    obtain rfl:=ah hL_10
    obtain rfl:=ah hF
    exact ax (aR (.inr rfl) [(vB false)] ⟨rfl,trivial⟩ rfl rfl rfl)
   ·refine ay rfl hc_17 (au (aa (dX (xA hD_6 hn_7) wz rfl (ae (vI ((k_3+1:Nat):Int)) wz rfl (ai ?_)))))
    obtain rfl:=ah hc_9
    exact aV (k_3+1,l_4,()) ⟨hL_10,aQ hD_6⟩ (ls_ _) rfl (aJ rfl)
 ·rintro s_8 ho_ sl_ H_ hp_ hq_
  subst ho_
  refine aN _ hp_ hq_ (af (aa (ae (vB true) wz rfl (ai ?_))))
  obtain rfl:=ah hF
  exact ax (aR (.inr rfl) [(vB true)] ⟨rfl,trivial⟩ rfl rfl rfl)
theorem pz {s_1:ByteArray} {r:Bool} (hF:p9 s_1=some r) :
  FnM Tryz.prog 88 [(vS s_1)] [] (vB r) []:=by
 refine FnM.of_wH ⟨Tryz.prog,15,[],[]⟩ rfl Tryz.func88 rfl rfl (lb_ rfl) (by kernel_rfl) ?_
 unfold p9 at hF
 refine af (aa (ae (vB false) wz rfl (ai (af ?_))))
 obtain ⟨v_2,h_3,hF⟩:=bind_some hF
 refine aG (β:=Unit) (λ_=>([(2,(vB v_2))]:SL_)) (λ_=>([]:Hp)) (λ_=>True) ?_ ?_
 ·refine aa (ae (vS s_1) wz rfl (qC un9 rfl wz ?_))
  obtain ⟨r_4,hr_5,h_3⟩:=bind_some h_3
  refine aB (jr hr_5) rfl Ab rfl rfl rfl rfl wz ?_
  rcases ak h_3 with⟨hc_6,h_3⟩|⟨hc_6,h_3⟩
  ·refine aC rfl hc_6 wz (ae (vS s_1) wa rfl ?_)
   obtain ⟨y_7,hy_8,h_3⟩:=bind_some h_3
   refine wV un9 rfl rfl hy_8 wa ?_
   obtain ⟨r_9,hr_10,h_3⟩:=bind_some h_3
   refine aB (AA hr_10) rfl hb165 rfl rfl rfl rfl wa (ae (vB r_9) wz rfl ?_)
   rcases ak h_3 with⟨hc_11,h_3⟩|⟨hc_11,h_3⟩
   ·refine aC rfl hc_11 wz (ae (vS s_1) wa rfl ?_)
    obtain ⟨r_12,hr_13,h_3⟩:=bind_some h_3
    refine aB (AA hr_13) rfl hb165 rfl rfl rfl rfl wa (ae (vB r_12) wz rfl (ae (vB r_12) wz rfl (ai ?_)))
    obtain rfl:=ah h_3
    exact cu
   ·refine aC rfl hc_11 wz (aj wa (aj wa (ae (vB false) wz rfl (ae (vB false) wz rfl (ai ?_)))))
    obtain rfl:=ah h_3
    exact cu
  ·refine aC rfl hc_6 wz (aj wa (aj wa (aj wa (ae (vB false) wz rfl (ae (vB false) wz rfl (aj wa (aj wa (ae (vB false) wz rfl (ae (vB false) wz rfl (ai ?_))))))))))
   obtain rfl:=ah h_3
   exact cu
 ·rintro ⟨⟩ _ sl_ H_ hp_ hq_
  refine aN _ hp_ hq_ ?_
  obtain rfl:=ah hF
  exact ax (aR (.inr rfl) [(vB v_2)] ⟨rfl,trivial⟩ rfl rfl rfl)
theorem tN {atv_1:Int} {r:Bool} (hF:jF atv_1=some r) :
  FnM Tryz.prog 122 [(vI atv_1)] [] (vB r) []:=by
 refine FnM.of_wH ⟨Tryz.prog,5,[],[]⟩ rfl Tryz.func122 rfl rfl (lb_ rfl) (by kernel_rfl) ?_
 unfold jF at hF
 refine af (aa (ae (vB false) wz rfl (ai (af (aa (ae (vI atv_1) wz rfl ?_))))))
 obtain ⟨r_2,hr_3,hF⟩:=bind_some hF
 refine aB (jr hr_3) rfl Ab rfl rfl rfl rfl wz (ae (vB r_2) wz rfl (ai ?_))
 obtain rfl:=ah hF
 exact ax (aR (.inr rfl) [(vB r_2)] ⟨rfl,trivial⟩ rfl rfl rfl)
section
variable [dM:DM]
theorem iZ {r_1:Receipt} {r:(List ByteArray)} (hF:fe r_1=some r) :
  FnM Tryz.prog 124 [(.d (.agg (Receipt.enc r_1)))] [] (vL eS r) []:=by
 refine FnM.of_wH ⟨Tryz.prog,12,[],[]⟩ rfl Tryz.func124 rfl rfl (lb_ rfl) (by kernel_rfl) ?_
 unfold fe at hF
 refine af (aa (dW 0 (.inl rfl) [(vS r_1.Player),(vS r_1.Alert),(vI r_1.At),(vB r_1.Seen)] rfl rfl wz (λn_2=>ae .nil wz rfl (ai (af (aa (ae (vS (⟨#[48]⟩:ByteArray)) wz rfl (ai (af (af (aa (aI BU rfl 3 rfl wz (aF 0 0 il ft sz4 ag4 rfl rfl (vB r_1.Seen) rfl wz (ai ?_))))))))))))))
 obtain ⟨v_3,h_4,hF⟩:=bind_some hF
 refine aG (β:=Unit) (λ_=>([(1,(.ref n_2 0 0)),(3,(vS v_3))]:SL_)) (λ_=>([(n_2,some (.cells 4 [(vS r_1.Player),(vS r_1.Alert),(vI r_1.At),(vB r_1.Seen)]))]:Hp)) (λ_=>True) ?_ ?_
 ·rcases ak h_4 with⟨hc_5,h_4⟩|⟨hc_5,h_4⟩
  ·refine aA rfl hc_5 (aa (ae (vS (⟨#[49]⟩:ByteArray)) wz rfl (ai ?_)))
   obtain rfl:=ah h_4
   exact cu
  ·refine ay rfl hc_5 (au ?_)
   obtain rfl:=ah h_4
   exact cu
 ·rintro ⟨⟩ _ sl_ H_ hp_ hq_
  refine aN _ hp_ hq_ (af (aa (aI rZ rfl 0 rfl wz (aF 0 0 il ft sz9 ag9 rfl rfl (vS r_1.Player) rfl wz (aI sN rfl 1 rfl wz (aF 0 0 il ft sz9 ag9 rfl rfl (vS r_1.Alert) rfl wz (ae (vS v_3) wz rfl (dQ (([r_1.Player,r_1.Alert,v_3]:List ByteArray).map eS) jZ qp rfl rfl rfl rfl rfl wz (ae (vL eS ([r_1.Player,r_1.Alert,v_3]:List ByteArray)) wz rfl (ai ?_))))))))))
  obtain rfl:=ah hF
  exact ax (aR (.inr rfl) [(vL eS ([r_1.Player,r_1.Alert,v_3]:List ByteArray))] ⟨rfl,trivial⟩ rfl rfl rfl)
end
section
variable [dM:DM]
theorem qO {x_1:ByteArray} {r:Bool} (hF:cmp_isNaN_string x_1=some r) :
  FnM Tryz.prog 258 [(vS x_1)] [] (vB r) []:=by
 refine FnM.of_wH ⟨Tryz.prog,6,[],[]⟩ rfl Tryz.func258 rfl rfl (lb_ rfl) (by kernel_rfl) ?_
 unfold cmp_isNaN_string at hF
 refine af (aa (ae (vB false) wz rfl (ai (af (aa (ae (vS x_1) wz rfl (ae (vS x_1) wz rfl (ae (vB (sNe x_1 x_1)) wz rfl (ae (vB (sNe x_1 x_1)) wz rfl (ai ?_))))))))))
 obtain rfl:=ah hF
 exact ax (aR (.inr rfl) [(vB (sNe x_1 x_1))] ⟨rfl,trivial⟩ rfl rfl rfl)
end
section
variable [dM:DM]
theorem vU {x_1:ByteArray} {y_2:ByteArray} {r:Int} (hF:jD x_1 y_2=some r) :
  FnM Tryz.prog 188 [(vS x_1),(vS y_2)] [] (vI r) []:=by
 refine FnM.of_wH ⟨Tryz.prog,20,[],[]⟩ rfl Tryz.func188 rfl rfl (lb_ rfl) (by kernel_rfl) ?_
 unfold jD at hF
 refine af (aa (ae (vI 0) wz rfl (ai (af (aa (ae (vS x_1) wz rfl ?_))))))
 obtain ⟨r_3,hr_4,hF⟩:=bind_some hF
 refine aB (qO hr_4) rfl hb258 rfl rfl rfl rfl wz (ae (vB r_3) wz rfl (ai (af (aa (ae (vS y_2) wz rfl ?_)))))
 obtain ⟨r_5,hr_6,hF⟩:=bind_some hF
 refine aB (qO hr_6) rfl hb258 rfl rfl rfl rfl wz (ae (vB r_5) wz rfl (ai (af (af (aa (ae (vB r_3) wz rfl (ai ?_)))))))
 rcases ak hF with⟨hc_7,hF⟩|⟨hc_7,hF⟩
 ·refine aA rfl hc_7 (af (af (aa (ae (vB r_5) wz rfl (ai ?_)))))
  rcases ak hF with⟨hc_8,hF⟩|⟨hc_8,hF⟩
  ·refine aA rfl hc_8 (af (aa (ae (vI 0) wz rfl (ai ?_))))
   obtain rfl:=ah hF
   exact ax (aR (.inr rfl) [(vI 0)] ⟨rfl,trivial⟩ rfl rfl rfl)
  ·refine ay rfl hc_8 (au (af (aa (ae (vI (-1)) wz rfl (ai ?_)))))
   obtain rfl:=ah hF
   exact ax (aR (.inr rfl) [(vI (-1))] ⟨rfl,trivial⟩ rfl rfl rfl)
 ·refine ay rfl hc_7 (au (af (af (aa (ae (vB r_5) wz rfl (ai ?_))))))
  rcases ak hF with⟨hc_9,hF⟩|⟨hc_9,hF⟩
  ·refine aA rfl hc_9 (af (aa (ae (vI 1) wz rfl (ai ?_))))
   obtain rfl:=ah hF
   exact ax (aR (.inr rfl) [(vI 1)] ⟨rfl,trivial⟩ rfl rfl rfl)
  ·refine ay rfl hc_9 (au (af (af (aa (ae (vS x_1) wz rfl (ae (vS y_2) wz rfl (ae (vB (sLt x_1 y_2)) wz rfl (ai ?_))))))))
   rcases ak hF with⟨hc_10,hF⟩|⟨hc_10,hF⟩
   ·refine aA rfl hc_10 (af (aa (ae (vI (-1)) wz rfl (ai ?_))))
    obtain rfl:=ah hF
    exact ax (aR (.inr rfl) [(vI (-1))] ⟨rfl,trivial⟩ rfl rfl rfl)
   ·refine ay rfl hc_10 (au (af (af (aa (ae (vS x_1) wz rfl (ae (vS y_2) wz rfl (ae (vB (sGt x_1 y_2)) wz rfl (ai ?_))))))))
    rcases ak hF with⟨hc_11,hF⟩|⟨hc_11,hF⟩
    ·refine aA rfl hc_11 (af (aa (ae (vI 1) wz rfl (ai ?_))))
     obtain rfl:=ah hF
     exact ax (aR (.inr rfl) [(vI 1)] ⟨rfl,trivial⟩ rfl rfl rfl)
    ·refine ay rfl hc_11 (au (af (aa (ae (vI 0) wz rfl (ai ?_)))))
     obtain rfl:=ah hF
     exact ax (aR (.inr rfl) [(vI 0)] ⟨rfl,trivial⟩ rfl rfl rfl)
end
section
variable [dM:DM]
theorem iw {s1_1:(List ByteArray)} {s2_2:(List ByteArray)} {r:Int} (hF:bn s1_1 s2_2=some r) :
  FnM Tryz.prog 123 [(vL eS s1_1),(vL eS s2_2)] [] (vI r) []:=by
 refine FnM.of_wH ⟨Tryz.prog,36,[],[]⟩ rfl Tryz.func123 rfl rfl (lb_ rfl) (by kernel_rfl) ?_
 unfold bn at hF
 refine af (aa (ae (vI 0) wz rfl (ai (af (af (aa (ae (vL eS s1_1) wz rfl (bN rA rfl wz (ae (vI 0) wz rfl (ai ?_))))))))))
 obtain ⟨o_11,hj_12,hF⟩:=bind_some hF
 obtain ⟨hn_7,hj_12⟩:=aU hj_12
 refine aG (β:=(Unit)) (λ(s_8:Unit)=>([(0,(vL eS s1_1)),(1,(vL eS s2_2))]:SL_)) (λ(s_8:Unit)=>([]:Hp)) (λp=>o_11 = .go p) ?_ ?_
 ·refine aD (bf (β:=Nat×(List ByteArray)×(Unit)) (λp=>(λ(k_3:Nat) (l_4:List ByteArray) (s_8:Unit)=>([(0,(vL eS s1_1)),(1,(vL eS s2_2)),(9,(vL eS s1_1)),(10,(vI (s1_1.length:Int))),(11,(vI (k_3:Int)))]:SL_)) p.1 p.2.1 p.2.2) (λp=>(λ(k_3:Nat) (l_4:List ByteArray) (s_8:Unit)=>([]:Hp)) p.1 p.2.1 p.2.2) (λp=>forR (λk x s=>bT s2_2 k x s) p.2.1 p.1 p.2.2=some o_11/\(s1_1).drop p.1=p.2.1) (λp=>p.2.1.length) (0,s1_1,()) ⟨hj_12,rfl⟩ rfl (aJ rfl) ?_)
  rintro ⟨k_3,l_4,s_8⟩ ⟨hL_10,hD_6⟩
  dsimp only at hL_10 hD_6
  cases l_4 with
  | nil =>
   obtain rfl:=ah hL_10
   refine af (aa (ae (vB (decide ((k_3:Int)<(s1_1.length:Int)))) wz rfl (ai ?_)))
   refine af (ay rfl (drop_nil hD_6) (aW ?_))
   exact aZ (s_8) rfl rfl (aJ rfl)
  | cons x_5 l_4 =>
   obtain ⟨c_,hc_9,hL_10⟩:=bind_some hL_10
   refine af (aa (ae (vB (decide ((k_3:Int)<(s1_1.length:Int)))) wz rfl (ai ?_)))
   refine af (aA rfl (aY hD_6) (au ?_))
   unfold bT at hc_9
   refine af (aD (af (aa (ae (vI (k_3:Int)) wz rfl (fU jZ rfl rfl (bz hD_6) rfl wz (dn sz9 ag9 rfl (vS x_5) rfl wz (ae (vI (k_3:Int)) wz rfl (ae (vS x_5) wz rfl (ai (af (af (aa (ae (vI (k_3:Int)) wz rfl (ae (vL eS s2_2) wz rfl (bN rA rfl wz (ae (vB (decide ((k_3:Int)>=(s2_2.length:Int)))) wz rfl (ai ?_)))))))))))))))))
   rcases ak hc_9 with⟨hc_13,hc_9⟩|⟨hc_13,hc_9⟩
   ·refine aA rfl hc_13 (af (aa (ae (vI 1) wz rfl (ai ?_))))
    obtain rfl:=ah hc_9
    obtain rfl:=ah hL_10
    obtain rfl:=ah hF
    exact ax (aR (.inr rfl) [(vI 1)] ⟨rfl,trivial⟩ rfl rfl rfl)
   ·refine ay rfl hc_13 (au (af (aa (ae (vL eS s2_2) wz rfl (ae (vI (k_3:Int)) wz rfl ?_)))))
    obtain ⟨y_14,hy_15,hc_9⟩:=bind_some hc_9
    refine fU jZ rfl rfl hy_15 rfl wz (dn sz9 ag9 rfl (vS y_14) rfl wz (ae (vS y_14) wz rfl (ai (af (aa (ae (vS x_5) wz rfl (ae (vS y_14) wz rfl ?_)))))))
    obtain ⟨r_16,hr_17,hc_9⟩:=bind_some hc_9
    refine aB (vU hr_17) rfl hb188 rfl rfl rfl rfl wz (ae (vI r_16) wz rfl (ai (af (aa (ae (vI r_16) wz rfl (ae (vB (r_16 != 0)) wz rfl (ai ?_)))))))
    rcases ak hc_9 with⟨hc_18,hc_9⟩|⟨hc_18,hc_9⟩
    ·refine aA rfl hc_18 (af (aa (ae (vI r_16) wz rfl (ae (vI r_16) wz rfl (ai ?_)))))
     obtain rfl:=ah hc_9
     obtain rfl:=ah hL_10
     obtain rfl:=ah hF
     exact ax (aR (.inr rfl) [(vI r_16)] ⟨rfl,trivial⟩ rfl rfl rfl)
    ·refine ay rfl hc_18 (au (aa (dX (bg hD_6 hn_7) wz rfl (ae (vI ((k_3+1:Nat):Int)) wz rfl (ai ?_)))))
     obtain rfl:=ah hc_9
     exact aV (k_3+1,l_4,()) ⟨hL_10,aQ hD_6⟩ (ls_ _) rfl (aJ rfl)
 ·rintro s_8 ho_ sl_ H_ hp_ hq_
  subst ho_
  refine aN _ hp_ hq_ (af (af (aa (ae (vL eS s1_1) wz rfl (bN rA rfl wz (ae (vL eS s2_2) wz rfl (bN rA rfl wz (ae (vB (decide ((s1_1.length:Int)<(s2_2.length:Int)))) wz rfl (ai ?_)))))))))
  rcases ak hF with⟨hc_19,hF⟩|⟨hc_19,hF⟩
  ·refine aA rfl hc_19 (af (aa (ae (vI (-1)) wz rfl (ai ?_))))
   obtain rfl:=ah hF
   exact ax (aR (.inr rfl) [(vI (-1))] ⟨rfl,trivial⟩ rfl rfl rfl)
  ·refine ay rfl hc_19 (au (af (aa (ae (vI 0) wz rfl (ai ?_)))))
   obtain rfl:=ah hF
   exact ax (aR (.inr rfl) [(vI 0)] ⟨rfl,trivial⟩ rfl rfl rfl)
end
theorem qj {l_1:(List Receipt)} {r:Int} (hF:jd l_1=some r) :
  FnM Tryz.prog 51 [(vL Receipt.enc l_1)] [] (vI r) []:=by
 refine FnM.of_wH ⟨Tryz.prog,47,[],[]⟩ rfl Tryz.func51 rfl rfl (lb_ rfl) (by kernel_rfl) ?_
 unfold jd at hF
 refine af (aa (ae (vI 0) wz rfl (ai (af (af (aa (ae (vL Receipt.enc l_1) wz rfl (bN nE rfl wz (ae (vB (decide ((l_1.length:Int)>2000))) wz rfl (ai ?_))))))))))
 rcases ak hF with⟨hc_2,hF⟩|⟨hc_2,hF⟩
 ·refine aA rfl hc_2 (af (aa (ae (vI 2) wz rfl (ai ?_))))
  obtain rfl:=ah hF
  exact ax (aR (.inr rfl) [(vI 2)] ⟨rfl,trivial⟩ rfl rfl rfl)
 ·refine ay rfl hc_2 (au (af (af (aa (ae (vL Receipt.enc l_1) wz rfl (bN nE rfl wz (ae (vI 0) wz rfl (ai ?_))))))))
  obtain ⟨o_11,hj_12,hF⟩:=bind_some hF
  obtain ⟨hn_7,hj_12⟩:=aU hj_12
  refine aG (β:=(Unit)) (λ(s_8:Unit)=>([]:SL_)) (λ(s_8:Unit)=>([]:Hp)) (λp=>o_11 = .go p) ?_ ?_
  ·refine aD (bf (β:=Nat×(List Receipt)×(Unit)) (λp=>(λ(k_3:Nat) (l_4:List Receipt) (s_8:Unit)=>([(0,(vL Receipt.enc l_1)),(8,(vL Receipt.enc l_1)),(9,(vI (l_1.length:Int))),(10,(vI (k_3:Int)))]:SL_)) p.1 p.2.1 p.2.2) (λp=>(λ(k_3:Nat) (l_4:List Receipt) (s_8:Unit)=>([]:Hp)) p.1 p.2.1 p.2.2) (λp=>forR (λk x s=>gN l_1 k x s) p.2.1 p.1 p.2.2=some o_11/\(l_1).drop p.1=p.2.1) (λp=>p.2.1.length) (0,l_1,()) ⟨hj_12,rfl⟩ rfl (aJ rfl) ?_)
   rintro ⟨k_3,l_4,s_8⟩ ⟨hL_10,hD_6⟩
   dsimp only at hL_10 hD_6
   cases l_4 with
   | nil =>
    obtain rfl:=ah hL_10
    refine af (aa (ae (vB (decide ((k_3:Int)<(l_1.length:Int)))) wz rfl (ai ?_)))
    refine af (ay rfl (drop_nil hD_6) (aW ?_))
    exact aZ (s_8) rfl rfl (aJ rfl)
   | cons x_5 l_4 =>
    obtain ⟨c_,hc_9,hL_10⟩:=bind_some hL_10
    refine af (aa (ae (vB (decide ((k_3:Int)<(l_1.length:Int)))) wz rfl (ai ?_)))
    refine af (aA rfl (aY hD_6) (au ?_))
    unfold gN at hc_9
    refine af (aD (af (aa (ae (vI (k_3:Int)) wz rfl (fU qQ rfl rfl (bz hD_6) rfl wz (dn jh oh rfl (.d (.agg (Receipt.enc x_5))) rfl wz (cK 0 (.inl rfl) z91 rfl wz (λn_13=>ae (vI (k_3:Int)) wz rfl (dJ 0 il ft 0 jh rfl rfl [(vS x_5.Player),(vS x_5.Alert),(vI x_5.At),(vB x_5.Seen)] rfl wz (ai (aD (af ?_))))))))))))
    obtain ⟨v_14,h_15,hc_9⟩:=bind_some hc_9
    refine aG (β:=Unit) (λ_=>([(0,(vL Receipt.enc l_1)),(3,(vI (k_3:Int))),(4,(.ref n_13 0 0)),(8,(vL Receipt.enc l_1)),(9,(vI (l_1.length:Int))),(10,(vI (k_3:Int))),(15,(vB v_14))]:SL_)) (λ_=>([(n_13,some (.cells 4 [(vS x_5.Player),(vS x_5.Alert),(vI x_5.At),(vB x_5.Seen)]))]:Hp)) (λ_=>True) ?_ ?_
    ·refine aa (aI rZ rfl 0 rfl wz (aF 0 0 il ft sz9 ag9 rfl rfl (vS x_5.Player) rfl wz ?_))
     obtain ⟨r_16,hr_17,h_15⟩:=bind_some h_15
     refine aB (pz hr_17) rfl KV rfl rfl rfl rfl wz (ae (vB (!r_16)) wz rfl ?_)
     rcases ak h_15 with⟨hc_18,h_15⟩|⟨hc_18,h_15⟩
     ·refine aC rfl hc_18 wz (aj wa (aj wa (aj wa (aj wa (ae (vB true) wz rfl (ae (vB true) wz rfl (ai ?_)))))))
      obtain rfl:=ah h_15
      exact cu
     ·refine aC rfl hc_18 wz (aI sN rfl 1 rfl wa (aF 0 0 il ft sz9 ag9 rfl rfl (vS x_5.Alert) rfl wa ?_))
      obtain ⟨r_19,hr_20,h_15⟩:=bind_some h_15
      refine aB (pz hr_20) rfl KV rfl rfl rfl rfl wa (ae (vB (!r_19)) wa rfl (ae (vB (!r_19)) wz rfl (ae (vB (!r_19)) wz rfl (ai ?_))))
      obtain rfl:=ah h_15
      exact cu
    ·rintro ⟨⟩ _ sl_ H_ hp_ hq_
     refine aN _ hp_ hq_ ?_
     rcases ak hc_9 with⟨hc_21,hc_9⟩|⟨hc_21,hc_9⟩
     ·refine aA rfl hc_21 (af (aa (ae (vI 5) wz rfl (ai ?_))))
      obtain rfl:=ah hc_9
      obtain rfl:=ah hL_10
      obtain rfl:=ah hF
      exact ax (aR (.inr rfl) [(vI 5)] ⟨rfl,trivial⟩ rfl rfl rfl)
     ·refine ay rfl hc_21 (af (aa (aI nD rfl 2 rfl wz (aF 0 0 il ft sz3 ag3 rfl rfl (vI x_5.At) rfl wz ?_))))
      obtain ⟨r_22,hr_23,hc_9⟩:=bind_some hc_9
      refine aB (tN hr_23) rfl Mg rfl rfl rfl rfl wz (ae (vB (!r_22)) wz rfl (ae (vB (!r_22)) wz rfl (ai ?_)))
      rcases ak hc_9 with⟨hc_24,hc_9⟩|⟨hc_24,hc_9⟩
      ·refine aA rfl hc_24 (af (aa (ae (vI 1) wz rfl (ai ?_))))
       obtain rfl:=ah hc_9
       obtain rfl:=ah hL_10
       obtain rfl:=ah hF
       exact ax (aR (.inr rfl) [(vI 1)] ⟨rfl,trivial⟩ rfl rfl rfl)
      ·refine ay rfl hc_24 (af ?_)
       obtain ⟨v_25,h_26,hc_9⟩:=bind_some hc_9
       refine aG (β:=Unit) (λ_=>([(0,(vL Receipt.enc l_1)),(8,(vL Receipt.enc l_1)),(9,(vI (l_1.length:Int))),(10,(vI (k_3:Int))),(31,(vB v_25))]:SL_)) (λ_=>([(n_13,some (.cells 4 [(vS x_5.Player),(vS x_5.Alert),(vI x_5.At),(vB x_5.Seen)]))]:Hp)) (λ_=>True) ?_ ?_
       ·refine bR (ae (vI (k_3:Int)) wz rfl (ae (vB (decide ((k_3:Int)>0))) wz rfl ?_))
        rcases ak h_26 with⟨hc_27,h_26⟩|⟨hc_27,h_26⟩
        ·refine aC rfl hc_27 wz (ae (vL Receipt.enc l_1) wa rfl (ae (vI (k_3:Int)) wa rfl (ae (vI (w64 ((k_3:Int)-1))) wa rfl ?_)))
         obtain ⟨y_28,hy_29,h_26⟩:=bind_some h_26
         refine fU qQ rfl rfl hy_29 rfl wa (dn jh oh rfl (.d (.agg (Receipt.enc y_28))) rfl wa ?_)
         obtain ⟨r_30,hr_31,h_26⟩:=bind_some h_26
         refine aB (iZ hr_31) rfl Eg rfl rfl rfl rfl wa (aF 9 0 (.inr (by kernel_rfl)) (λ_ _ ag=>trivial) jh oh rfl rfl (.d (.agg (Receipt.enc x_5))) rfl wa ?_)
         obtain ⟨r_32,hr_33,h_26⟩:=bind_some h_26
         refine aB (iZ hr_33) rfl Eg rfl rfl rfl rfl wa ?_
         obtain ⟨r_34,hr_35,h_26⟩:=bind_some h_26
         refine aB (iw hr_35) rfl Nb rfl rfl rfl rfl wa (ae (vB (decide (r_34>=0))) wa rfl (ae (vB (decide (r_34>=0))) wz rfl (ae (vB (decide (r_34>=0))) wz rfl (ai ?_))))
         obtain rfl:=ah h_26
         exact cu
        ·refine aC rfl hc_27 wz (aj wa (aj wa (aj wa (aj wa (aj wa (aj wa (aj wa (aj wa (aj wa (aj wa (ae (vB false) wz rfl (ae (vB false) wz rfl (ai ?_)))))))))))))
         obtain rfl:=ah h_26
         exact cu
       ·rintro ⟨⟩ _ sl_ H_ hp_ hq_
        refine aN _ hp_ hq_ ?_
        rcases ak hc_9 with⟨hc_36,hc_9⟩|⟨hc_36,hc_9⟩
        ·refine aA rfl hc_36 (af (aa (ae (vI 7) wz rfl (ai ?_))))
         obtain rfl:=ah hc_9
         obtain rfl:=ah hL_10
         obtain rfl:=ah hF
         exact ax (aR (.inr rfl) [(vI 7)] ⟨rfl,trivial⟩ rfl rfl rfl)
        ·refine ay rfl hc_36 (au (aa (dX (bg hD_6 hn_7) wz rfl (ae (vI ((k_3+1:Nat):Int)) wz rfl (ai ?_)))))
         obtain rfl:=ah hc_9
         exact aV (k_3+1,l_4,()) ⟨hL_10,aQ hD_6⟩ (ls_ _) rfl (aJ rfl)
  ·rintro s_8 ho_ sl_ H_ hp_ hq_
   subst ho_
   refine aN _ hp_ hq_ (af (aa (ae (vI 0) wz rfl (ai ?_))))
   obtain rfl:=ah hF
   exact ax (aR (.inr rfl) [(vI 0)] ⟨rfl,trivial⟩ rfl rfl rfl)
theorem zQ {r_1:Rect} {r:Int} (hF:mW r_1=some r) :
  FnM Tryz.prog 141 [(.d (.agg (Rect.enc r_1)))] [] (vI r) []:=by
 refine FnM.of_wH ⟨Tryz.prog,31,[],[]⟩ rfl Tryz.func141 rfl rfl (lb_ rfl) (by kernel_rfl) ?_
 unfold mW at hF
 refine af (aa (dW 0 (.inl rfl) [(vI r_1.X),(vI r_1.Y),(vI r_1.W),(vI r_1.H)] rfl rfl wz (λn_2=>ae (vI 0) wz rfl (ai (af (af ?_))))))
 obtain ⟨v_3,h_4,hF⟩:=bind_some hF
 refine aG (β:=Unit) (λ_=>([(30,(vB v_3))]:SL_)) (λ_=>([(n_2,some (.cells 4 [(vI r_1.X),(vI r_1.Y),(vI r_1.W),(vI r_1.H)]))]:Hp)) (λ_=>True) ?_ ?_
 ·refine aa (aI vG rfl 0 rfl wz (aF 0 0 il ft sz3 ag3 rfl rfl (vI r_1.X) rfl wz ?_))
  obtain ⟨r_5,hr_6,h_4⟩:=bind_some h_4
  refine aB (jr hr_6) rfl Ab rfl rfl rfl rfl wz (ae (vB (!r_5)) wz rfl ?_)
  rcases ak h_4 with⟨hc_7,h_4⟩|⟨hc_7,h_4⟩
  ·refine aC rfl hc_7 wz (aj wa (aj wa (aj wa (aj wa (ae (vB true) wz rfl (ae (vB true) wz rfl (aj wa (aj wa (aj wa (aj wa (aj wa (aj wa (aj wa (ae (vB true) wz rfl (ae (vB true) wz rfl (aj wa (aj wa (aj wa (aj wa (aj wa (aj wa (aj wa (ae (vB true) wz rfl ?_)))))))))))))))))))))))
   refine ai ?_
   obtain rfl:=ah h_4
   exact cu
  ·refine aC rfl hc_7 wz (aI vk rfl 1 rfl wa (aF 0 0 il ft sz3 ag3 rfl rfl (vI r_1.Y) rfl wa ?_))
   obtain ⟨r_8,hr_9,h_4⟩:=bind_some h_4
   refine aB (jr hr_9) rfl Ab rfl rfl rfl rfl wa (ae (vB (!r_8)) wa rfl (ae (vB (!r_8)) wz rfl ?_))
   rcases ak h_4 with⟨hc_10,h_4⟩|⟨hc_10,h_4⟩
   ·refine aC rfl hc_10 wz (aj wa (aj wa (aj wa (aj wa (aj wa (aj wa (aj wa (ae (vB true) wz rfl (ae (vB true) wz rfl (aj wa (aj wa (aj wa (aj wa (aj wa (aj wa (aj wa (ae (vB true) wz rfl (ai ?_))))))))))))))))))
    obtain rfl:=ah h_4
    exact cu
   ·refine aC rfl hc_10 wz (aI BG rfl 2 rfl wa (aF 0 0 il ft sz3 ag3 rfl rfl (vI r_1.W) rfl wa (aI vG rfl 0 rfl wa (aF 0 0 il ft sz3 ag3 rfl rfl (vI r_1.X) rfl wa (ae (vI (w64 (100000-r_1.X))) wa rfl ?_)))))
    obtain ⟨r_11,hr_12,h_4⟩:=bind_some h_4
    refine aB (jr hr_12) rfl Ab rfl rfl rfl rfl wa (ae (vB (!r_11)) wa rfl (ae (vB (!r_11)) wz rfl ?_))
    rcases ak h_4 with⟨hc_13,h_4⟩|⟨hc_13,h_4⟩
    ·refine aC rfl hc_13 wz (aj wa (aj wa (aj wa (aj wa (aj wa (aj wa (aj wa (ae (vB true) wz rfl (ai ?_)))))))))
     obtain rfl:=ah h_4
     exact cu
    ·refine aC rfl hc_13 wz (aI zy rfl 3 rfl wa (aF 0 0 il ft sz3 ag3 rfl rfl (vI r_1.H) rfl wa (aI vk rfl 1 rfl wa (aF 0 0 il ft sz3 ag3 rfl rfl (vI r_1.Y) rfl wa (ae (vI (w64 (100000-r_1.Y))) wa rfl ?_)))))
     obtain ⟨r_14,hr_15,h_4⟩:=bind_some h_4
     refine aB (jr hr_15) rfl Ab rfl rfl rfl rfl wa (ae (vB (!r_14)) wa rfl (ae (vB (!r_14)) wz rfl (ai ?_)))
     obtain rfl:=ah h_4
     exact cu
 ·rintro ⟨⟩ _ sl_ H_ hp_ hq_
  refine aN _ hp_ hq_ ?_
  rcases ak hF with⟨hc_16,hF⟩|⟨hc_16,hF⟩
  ·refine aA rfl hc_16 (af (aa (ae (vI 1) wz rfl (ai ?_))))
   obtain rfl:=ah hF
   exact ax (aR (.inr rfl) [(vI 1)] ⟨rfl,trivial⟩ rfl rfl rfl)
  ·refine ay rfl hc_16 (au (af (aa (ae (vI 0) wz rfl (ai ?_)))))
   obtain rfl:=ah hF
   exact ax (aR (.inr rfl) [(vI 0)] ⟨rfl,trivial⟩ rfl rfl rfl)
theorem BH {r_1:Int} {r:Bool} (hF:qm r_1=some r) :
  FnM Tryz.prog 210 [(.d (.int .i32 r_1))] [] (vB r) []:=by
 refine FnM.of_wH ⟨Tryz.prog,9,[],[]⟩ rfl Tryz.func210 rfl rfl (lb_ rfl) (by kernel_rfl) ?_
 unfold qm at hF
 refine af (aa (ae (vB false) wz rfl (ai (af ?_))))
 obtain ⟨v_2,h_3,hF⟩:=bind_some hF
 refine aG (β:=Unit) (λ_=>([(2,(vB v_2))]:SL_)) (λ_=>([]:Hp)) (λ_=>True) ?_ ?_
 ·refine aa (ae (.d (.int .i32 r_1)) wz rfl (ae (vB (decide (r_1<32))) wz rfl ?_))
  rcases ak h_3 with⟨hc_4,h_3⟩|⟨hc_4,h_3⟩
  ·refine aC rfl hc_4 wz (aj wa (aj wa (ae (vB true) wz rfl (ae (vB true) wz rfl (ai ?_)))))
   obtain rfl:=ah h_3
   exact cu
  ·refine aC rfl hc_4 wz (ae (.d (.int .i32 r_1)) wa rfl (ae (vB (r_1==127)) wa rfl (ae (vB (r_1==127)) wz rfl (ae (vB (r_1==127)) wz rfl (ai ?_)))))
   obtain rfl:=ah h_3
   exact cu
 ·rintro ⟨⟩ _ sl_ H_ hp_ hq_
  refine aN _ hp_ hq_ ?_
  obtain rfl:=ah hF
  exact ax (aR (.inr rfl) [(vB v_2)] ⟨rfl,trivial⟩ rfl rfl rfl)
theorem qA {x:ByteArray} {r:Bool} (hF:jy x=some r) :
  FnM Tryz.prog 209 [(.d (.str x)),(.fn 210 [])] [] (.d (.bool r)) [] :=
 DU rfl (λa b h=>BH h) hb210 (λs p w eg hp=>Tryz.strings_ContainsFunc_grows 210 #[] eg p s w hp) hF
theorem FC {s_1:ByteArray} {r:Bool} (hF:q8 s_1=some r) :
  FnM Tryz.prog 164 [(vS s_1)] [] (vB r) []:=by
 refine FnM.of_wH ⟨Tryz.prog,21,[],[]⟩ rfl Tryz.func164 rfl rfl (lb_ rfl) (by kernel_rfl) ?_
 unfold q8 at hF
 refine af (aa (ae (vB false) wz rfl (ai (af ?_))))
 obtain ⟨v_2,h_3,hF⟩:=bind_some hF
 refine aG (β:=Unit) (λ_=>([(2,(vB v_2))]:SL_)) (λ_=>([]:Hp)) (λ_=>True) ?_ ?_
 ·refine aa (ae (vS s_1) wz rfl ?_)
  obtain ⟨r_4,hr_5,h_3⟩:=bind_some h_3
  refine aB (lU hr_5) rfl hb208 rfl rfl rfl rfl wz ?_
  rcases ak h_3 with⟨hc_6,h_3⟩|⟨hc_6,h_3⟩
  ·refine aC rfl hc_6 wz (ae (vS s_1) wa rfl ?_)
   obtain ⟨r_7,hr_8,h_3⟩:=bind_some h_3
   refine aB (qA hr_8) rfl hb209 rfl rfl rfl rfl wa (ae (vB (!r_7)) wa rfl (ae (vB (!r_7)) wz rfl ?_))
   rcases ak h_3 with⟨hc_9,h_3⟩|⟨hc_9,h_3⟩
   ·refine aC rfl hc_9 wz (ae (vS s_1) wa rfl ?_)
    obtain ⟨r_10,hr_11,h_3⟩:=bind_some h_3
    refine aB (vM hr_11) rfl hb211 rfl rfl rfl rfl wa (ae (vS s_1) wa rfl (ae (vB (sEq r_10 s_1)) wa rfl (ae (vB (sEq r_10 s_1)) wz rfl ?_)))
    rcases ak h_3 with⟨hc_12,h_3⟩|⟨hc_12,h_3⟩
    ·refine aC rfl hc_12 wz (ae (vS s_1) wa rfl ?_)
     obtain ⟨r_13,hr_14,h_3⟩:=bind_some h_3
     refine aB (qM hr_14) rfl hb212 rfl rfl rfl rfl wa (ae (vB (!r_13)) wa rfl (ae (vB (!r_13)) wz rfl (ae (vB (!r_13)) wz rfl (ai ?_))))
     obtain rfl:=ah h_3
     exact cu
    ·refine aC rfl hc_12 wz (aj wa (aj wa (aj wa (ae (vB false) wz rfl (ae (vB false) wz rfl (ai ?_))))))
     obtain rfl:=ah h_3
     exact cu
   ·refine aC rfl hc_9 wz (aj wa (aj wa (aj wa (aj wa (ae (vB false) wz rfl (ae (vB false) wz rfl (aj wa (aj wa (aj wa (ae (vB false) wz rfl (ae (vB false) wz rfl (ai ?_))))))))))))
    obtain rfl:=ah h_3
    exact cu
  ·refine aC rfl hc_6 wz (aj wa (aj wa (aj wa (ae (vB false) wz rfl (ae (vB false) wz rfl (aj wa (aj wa (aj wa (aj wa (ae (vB false) wz rfl (ae (vB false) wz rfl (aj wa (aj wa (aj wa (ae (vB false) wz rfl (ae (vB false) wz rfl (ai ?_)))))))))))))))))
   obtain rfl:=ah h_3
   exact cu
 ·rintro ⟨⟩ _ sl_ H_ hp_ hq_
  refine aN _ hp_ hq_ ?_
  obtain rfl:=ah hF
  exact ax (aR (.inr rfl) [(vB v_2)] ⟨rfl,trivial⟩ rfl rfl rfl)
end Go.Proofs.YtjhcehhmdmbleaaGreatDoor.Law

