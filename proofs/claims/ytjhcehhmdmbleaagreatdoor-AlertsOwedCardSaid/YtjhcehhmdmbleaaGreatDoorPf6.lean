/-
 The machine computes these plain functions (written by a program of ours).
-/
import Derived.Test.YtjhcehhmdmbleaaGreatDoorFacts
import Derived.Test.YtjhcehhmdmbleaaGreatDoorDefs
import Derived.Test.YtjhcehhmdmbleaaGreatDoorPf5
import Derived.Test.YtjhcehhmdmbleaaGreatDoorShelf
open Go Go.Eng Go.Proofs
namespace Go.Proofs.YtjhcehhmdmbleaaGreatDoor.Law
set_option maxRecDepth 100000
set_option linter.unusedVariables false
set_option maxHeartbeats 1000000
theorem yU {a_1:Alert} {r:Int} (hF:lY a_1=some r) :
  FnM Tryz.prog 86 [(.d (.agg (Alert.enc a_1)))] [] (vI r) []:=by
 refine FnM.of_wH ⟨Tryz.prog,139,[],[]⟩ rfl Tryz.func86 rfl rfl (lb_ rfl) (by kernel_rfl) ?_
 unfold lY at hF
 refine af (aa (dW 0 (.inl rfl) [(vS a_1.Id),(vS a_1.Sender),(vI a_1.Kind),(vL eS a_1.Refs),(vI a_1.At),(vI a_1.Until),(vI a_1.Weight),(vL Rect.enc a_1.Areas),(vS a_1.Text)] rfl rfl wz (λn_2=>ae (vI 0) wz rfl (ai (af (aD (af ?_)))))))
 obtain ⟨v_3,h_4,hF⟩:=bind_some hF
 refine aG (β:=Unit) (λ_=>([(1,(.ref n_2 0 0)),(8,(vB v_3))]:SL_)) (λ_=>([(n_2,some (.cells 9 [(vS a_1.Id),(vS a_1.Sender),(vI a_1.Kind),(vL eS a_1.Refs),(vI a_1.At),(vI a_1.Until),(vI a_1.Weight),(vL Rect.enc a_1.Areas),(vS a_1.Text)]))]:Hp)) (λ_=>True) ?_ ?_
 ·refine aa (aI eD rfl 0 rfl wz (aF 0 0 il ft sz9 ag9 rfl rfl (vS a_1.Id) rfl wz ?_))
  obtain ⟨r_5,hr_6,h_4⟩:=bind_some h_4
  refine aB (pz hr_6) rfl KV rfl rfl rfl rfl wz (ae (vB (!r_5)) wz rfl ?_)
  rcases ak h_4 with⟨hc_7,h_4⟩|⟨hc_7,h_4⟩
  ·refine aC rfl hc_7 wz (aj wa (aj wa (aj wa (aj wa (ae (vB true) wz rfl (ae (vB true) wz rfl (ai ?_)))))))
   obtain rfl:=ah h_4
   exact cu
  ·refine aC rfl hc_7 wz (aI vC rfl 1 rfl wa (aF 0 0 il ft sz9 ag9 rfl rfl (vS a_1.Sender) rfl wa ?_))
   obtain ⟨r_8,hr_9,h_4⟩:=bind_some h_4
   refine aB (pz hr_9) rfl KV rfl rfl rfl rfl wa (ae (vB (!r_8)) wa rfl (ae (vB (!r_8)) wz rfl (ae (vB (!r_8)) wz rfl (ai ?_))))
   obtain rfl:=ah h_4
   exact cu
 ·rintro ⟨⟩ _ sl_ H_ hp_ hq_
  refine aN _ hp_ hq_ ?_
  rcases ak hF with⟨hc_10,hF⟩|⟨hc_10,hF⟩
  ·refine aA rfl hc_10 (af (aa (ae (vI 5) wz rfl (ai ?_))))
   obtain rfl:=ah hF
   exact ax (aR (.inr rfl) [(vI 5)] ⟨rfl,trivial⟩ rfl rfl rfl)
  ·refine ay rfl hc_10 (af (aa (aI lQ rfl 2 rfl wz (aF 0 0 il ft sz3 ag3 rfl rfl (vI a_1.Kind) rfl wz ?_))))
   obtain ⟨r_11,hr_12,hF⟩:=bind_some hF
   refine aB (jr hr_12) rfl Ab rfl rfl rfl rfl wz (ae (vB (!r_11)) wz rfl (ae (vB (!r_11)) wz rfl (ai ?_)))
   rcases ak hF with⟨hc_13,hF⟩|⟨hc_13,hF⟩
   ·refine aA rfl hc_13 (af (aa (ae (vI 4) wz rfl (ai ?_))))
    obtain rfl:=ah hF
    exact ax (aR (.inr rfl) [(vI 4)] ⟨rfl,trivial⟩ rfl rfl rfl)
   ·refine ay rfl hc_13 (af (aa (aI kQ rfl 3 rfl wz (aF 0 0 il ft xL zT rfl rfl (vL eS a_1.Refs) rfl wz (bN rA rfl wz (ae (vB (decide ((a_1.Refs.length:Int)>20))) wz rfl (ae (vB (decide ((a_1.Refs.length:Int)>20))) wz rfl (ai ?_))))))))
    rcases ak hF with⟨hc_14,hF⟩|⟨hc_14,hF⟩
    ·refine aA rfl hc_14 (af (aa (ae (vI 2) wz rfl (ai ?_))))
     obtain rfl:=ah hF
     exact ax (aR (.inr rfl) [(vI 2)] ⟨rfl,trivial⟩ rfl rfl rfl)
    ·refine ay rfl hc_14 (au (af (af (aa (aI kQ rfl 3 rfl wz (aF 0 0 il ft xL zT rfl rfl (vL eS a_1.Refs) rfl wz (bN rA rfl wz (ae (vI 0) wz rfl (ai ?_)))))))))
     obtain ⟨o_23,hj_24,hF⟩:=bind_some hF
     obtain ⟨hn_19,hj_24⟩:=aU hj_24
     refine aG (β:=(Unit)) (λ(s_20:Unit)=>([(1,(.ref n_2 0 0))]:SL_)) (λ(s_20:Unit)=>([(n_2,some (.cells 9 [(vS a_1.Id),(vS a_1.Sender),(vI a_1.Kind),(vL eS a_1.Refs),(vI a_1.At),(vI a_1.Until),(vI a_1.Weight),(vL Rect.enc a_1.Areas),(vS a_1.Text)]))]:Hp)) (λp=>o_23 = .go p) ?_ ?_
     ·refine aD (bf (β:=Nat×(List ByteArray)×(Unit)) (λp=>(λ(k_15:Nat) (l_16:List ByteArray) (s_20:Unit)=>([(1,(.ref n_2 0 0)),(30,(vL eS a_1.Refs)),(31,(vI (a_1.Refs.length:Int))),(32,(vI (k_15:Int)))]:SL_)) p.1 p.2.1 p.2.2) (λp=>(λ(k_15:Nat) (l_16:List ByteArray) (s_20:Unit)=>([(n_2,some (.cells 9 [(vS a_1.Id),(vS a_1.Sender),(vI a_1.Kind),(vL eS a_1.Refs),(vI a_1.At),(vI a_1.Until),(vI a_1.Weight),(vL Rect.enc a_1.Areas),(vS a_1.Text)]))]:Hp)) p.1 p.2.1 p.2.2) (λp=>forR (λk x s=>jb a_1 k x s) p.2.1 p.1 p.2.2=some o_23/\(a_1.Refs).drop p.1=p.2.1) (λp=>p.2.1.length) (0,a_1.Refs,()) ⟨hj_24,rfl⟩ rfl (aJ rfl) ?_)
      rintro ⟨k_15,l_16,s_20⟩ ⟨hL_22,hD_18⟩
      dsimp only at hL_22 hD_18
      cases l_16 with
      | nil =>
       obtain rfl:=ah hL_22
       refine af (aa (ae (vB (decide ((k_15:Int)<(a_1.Refs.length:Int)))) wz rfl (ai ?_)))
       refine af (ay rfl (drop_nil hD_18) (aW ?_))
       exact aZ (s_20) rfl rfl (aJ rfl)
      | cons x_17 l_16 =>
       obtain ⟨c_,hc_21,hL_22⟩:=bind_some hL_22
       refine af (aa (ae (vB (decide ((k_15:Int)<(a_1.Refs.length:Int)))) wz rfl (ai ?_)))
       refine af (aA rfl (aY hD_18) (au ?_))
       unfold jb at hc_21
       refine af (aD (af (aa (ae (vI (k_15:Int)) wz rfl (fU jZ rfl rfl (bz hD_18) rfl wz (dn sz9 ag9 rfl (vS x_17) rfl wz (ae (vI (k_15:Int)) wz rfl (ae (vS x_17) wz rfl (ai (aD (af (aa (ae (vS x_17) wz rfl ?_)))))))))))))
       obtain ⟨r_25,hr_26,hc_21⟩:=bind_some hc_21
       refine aB (pz hr_26) rfl KV rfl rfl rfl rfl wz (ae (vB (!r_25)) wz rfl (ae (vB (!r_25)) wz rfl (ai ?_)))
       rcases ak hc_21 with⟨hc_27,hc_21⟩|⟨hc_27,hc_21⟩
       ·refine aA rfl hc_27 (af (aa (ae (vI 5) wz rfl (ai ?_))))
        obtain rfl:=ah hc_21
        obtain rfl:=ah hL_22
        obtain rfl:=ah hF
        exact ax (aR (.inr rfl) [(vI 5)] ⟨rfl,trivial⟩ rfl rfl rfl)
       ·refine ay rfl hc_27 (af ?_)
        obtain ⟨v_28,h_29,hc_21⟩:=bind_some hc_21
        refine aG (β:=Unit) (λ_=>([(1,(.ref n_2 0 0)),(4,(vS x_17)),(30,(vL eS a_1.Refs)),(31,(vI (a_1.Refs.length:Int))),(32,(vI (k_15:Int))),(41,(vB v_28))]:SL_)) (λ_=>([(n_2,some (.cells 9 [(vS a_1.Id),(vS a_1.Sender),(vI a_1.Kind),(vL eS a_1.Refs),(vI a_1.At),(vI a_1.Until),(vI a_1.Weight),(vL Rect.enc a_1.Areas),(vS a_1.Text)]))]:Hp)) (λ_=>True) ?_ ?_
        ·refine aa (ae (vI (k_15:Int)) wz rfl (ae (vB (decide ((k_15:Int)>0))) wz rfl ?_))
         rcases ak h_29 with⟨hc_30,h_29⟩|⟨hc_30,h_29⟩
         ·refine aC rfl hc_30 wz (ae (vS x_17) wa rfl (aI kQ rfl 3 rfl wa (aF 0 0 il ft xL zT rfl rfl (vL eS a_1.Refs) rfl wa (ae (vI (k_15:Int)) wa rfl (ae (vI (w64 ((k_15:Int)-1))) wa rfl ?_)))))
          obtain ⟨y_31,hy_32,h_29⟩:=bind_some h_29
          refine fU jZ rfl rfl hy_32 rfl wa (dn sz9 ag9 rfl (vS y_31) rfl wa (ae (vB (sLe x_17 y_31)) wa rfl (ae (vB (sLe x_17 y_31)) wz rfl (ae (vB (sLe x_17 y_31)) wz rfl (ai ?_)))))
          obtain rfl:=ah h_29
          exact cu
         ·refine aC rfl hc_30 wz (aj wa (aj wa (aj wa (aj wa (aj wa (aj wa (aj wa (aj wa (ae (vB false) wz rfl (ae (vB false) wz rfl (ai ?_)))))))))))
          obtain rfl:=ah h_29
          exact cu
        ·rintro ⟨⟩ _ sl_ H_ hp_ hq_
         refine aN _ hp_ hq_ ?_
         rcases ak hc_21 with⟨hc_33,hc_21⟩|⟨hc_33,hc_21⟩
         ·refine aA rfl hc_33 (af (aa (ae (vI 7) wz rfl (ai ?_))))
          obtain rfl:=ah hc_21
          obtain rfl:=ah hL_22
          obtain rfl:=ah hF
          exact ax (aR (.inr rfl) [(vI 7)] ⟨rfl,trivial⟩ rfl rfl rfl)
         ·refine ay rfl hc_33 (af (aa (ae (vS x_17) wz rfl (aI eD rfl 0 rfl wz (aF 0 0 il ft sz9 ag9 rfl rfl (vS a_1.Id) rfl wz (ae (vB (sEq x_17 a_1.Id)) wz rfl (ae (vB (sEq x_17 a_1.Id)) wz rfl (ai ?_))))))))
          rcases ak hc_21 with⟨hc_34,hc_21⟩|⟨hc_34,hc_21⟩
          ·refine aA rfl hc_34 (af (aa (ae (vI 14) wz rfl (ai ?_))))
           obtain rfl:=ah hc_21
           obtain rfl:=ah hL_22
           obtain rfl:=ah hF
           exact ax (aR (.inr rfl) [(vI 14)] ⟨rfl,trivial⟩ rfl rfl rfl)
          ·refine ay rfl hc_34 (au (aa (dX (bg hD_18 hn_19) wz rfl (ae (vI ((k_15+1:Nat):Int)) wz rfl (ai ?_)))))
           obtain rfl:=ah hc_21
           exact aV (k_15+1,l_16,()) ⟨hL_22,aQ hD_18⟩ (ls_ _) rfl (aJ rfl)
     ·rintro s_20 ho_ sl_ H_ hp_ hq_
      subst ho_
      refine aN _ hp_ hq_ (af (aD (af (aa (aI lQ rfl 2 rfl wz (aF 0 0 il ft sz3 ag3 rfl rfl (vI a_1.Kind) rfl wz (ae (vB (a_1.Kind==1)) wz rfl (aI kQ rfl 3 rfl wz (aF 0 0 il ft xL zT rfl rfl (vL eS a_1.Refs) rfl wz (bN rA rfl wz (ae (vB ((a_1.Refs.length:Int)==0)) wz rfl (EI un4 rfl rfl wz (ae (vB (!((a_1.Kind==1)==((a_1.Refs.length:Int)==0)))) wz rfl (ai ?_))))))))))))))
      rcases ak hF with⟨hc_35,hF⟩|⟨hc_35,hF⟩
      ·refine aA rfl hc_35 (af (aa (ae (vI 3) wz rfl (ai ?_))))
       obtain rfl:=ah hF
       exact ax (aR (.inr rfl) [(vI 3)] ⟨rfl,trivial⟩ rfl rfl rfl)
      ·refine ay rfl hc_35 (af ?_)
       obtain ⟨v_36,h_37,hF⟩:=bind_some hF
       refine aG (β:=Unit) (λ_=>([(1,(.ref n_2 0 0)),(69,(vB v_36))]:SL_)) (λ_=>([(n_2,some (.cells 9 [(vS a_1.Id),(vS a_1.Sender),(vI a_1.Kind),(vL eS a_1.Refs),(vI a_1.At),(vI a_1.Until),(vI a_1.Weight),(vL Rect.enc a_1.Areas),(vS a_1.Text)]))]:Hp)) (λ_=>True) ?_ ?_
       ·refine aa (aI fq rfl 4 rfl wz (aF 0 0 il ft sz3 ag3 rfl rfl (vI a_1.At) rfl wz ?_))
        obtain ⟨r_38,hr_39,h_37⟩:=bind_some h_37
        refine aB (tN hr_39) rfl Mg rfl rfl rfl rfl wz (ae (vB (!r_38)) wz rfl ?_)
        rcases ak h_37 with⟨hc_40,h_37⟩|⟨hc_40,h_37⟩
        ·refine aC rfl hc_40 wz (aj wa (aj wa (aj wa (aj wa (aj wa (aj wa (aj wa (aj wa (aj wa (aj wa (ae (vB true) wz rfl (ae (vB true) wz rfl (aj wa (aj wa (aj wa (aj wa (ae (vB true) wz rfl (ae (vB true) wz rfl (ai ?_)))))))))))))))))))
         obtain rfl:=ah h_37
         exact cu
        ·refine aC rfl hc_40 wz (aI xu rfl 5 rfl wa (aF 0 0 il ft sz3 ag3 rfl rfl (vI a_1.Until) rfl wa (aI fq rfl 4 rfl wa (aF 0 0 il ft sz3 ag3 rfl rfl (vI a_1.At) rfl wa (ae (vI (w64 (a_1.At+1))) wa rfl (aI fq rfl 4 rfl wa (aF 0 0 il ft sz3 ag3 rfl rfl (vI a_1.At) rfl wa (ae (vI (w64 (a_1.At+2592000000))) wa rfl ?_))))))))
         obtain ⟨r_41,hr_42,h_37⟩:=bind_some h_37
         refine aB (jr hr_42) rfl Ab rfl rfl rfl rfl wa (ae (vB (!r_41)) wa rfl (ae (vB (!r_41)) wz rfl ?_))
         rcases ak h_37 with⟨hc_43,h_37⟩|⟨hc_43,h_37⟩
         ·refine aC rfl hc_43 wz (aj wa (aj wa (aj wa (aj wa (ae (vB true) wz rfl (ae (vB true) wz rfl (ai ?_)))))))
          obtain rfl:=ah h_37
          exact cu
         ·refine aC rfl hc_43 wz (aI Fe rfl 6 rfl wa (aF 0 0 il ft sz3 ag3 rfl rfl (vI a_1.Weight) rfl wa ?_))
          obtain ⟨r_44,hr_45,h_37⟩:=bind_some h_37
          refine aB (jr hr_45) rfl Ab rfl rfl rfl rfl wa (ae (vB (!r_44)) wa rfl (ae (vB (!r_44)) wz rfl (ae (vB (!r_44)) wz rfl (ai ?_))))
          obtain rfl:=ah h_37
          exact cu
       ·rintro ⟨⟩ _ sl_ H_ hp_ hq_
        refine aN _ hp_ hq_ ?_
        rcases ak hF with⟨hc_46,hF⟩|⟨hc_46,hF⟩
        ·refine aA rfl hc_46 (af (aa (ae (vI 1) wz rfl (ai ?_))))
         obtain rfl:=ah hF
         exact ax (aR (.inr rfl) [(vI 1)] ⟨rfl,trivial⟩ rfl rfl rfl)
        ·refine ay rfl hc_46 (af (aa (aI oF rfl 7 rfl wz (aF 0 0 il ft BQ EE rfl rfl (vL Rect.enc a_1.Areas) rfl wz (bN H9 rfl wz (ae (vB (decide ((a_1.Areas.length:Int)>20))) wz rfl (ae (vB (decide ((a_1.Areas.length:Int)>20))) wz rfl (ai ?_))))))))
         rcases ak hF with⟨hc_47,hF⟩|⟨hc_47,hF⟩
         ·refine aA rfl hc_47 (af (aa (ae (vI 2) wz rfl (ai ?_))))
          obtain rfl:=ah hF
          exact ax (aR (.inr rfl) [(vI 2)] ⟨rfl,trivial⟩ rfl rfl rfl)
         ·refine ay rfl hc_47 (au (af (af (aa (aI oF rfl 7 rfl wz (aF 0 0 il ft BQ EE rfl rfl (vL Rect.enc a_1.Areas) rfl wz (bN H9 rfl wz (ae (vI 0) wz rfl (ai ?_)))))))))
          obtain ⟨o_56,hj_57,hF⟩:=bind_some hF
          obtain ⟨hn_52,hj_57⟩:=aU hj_57
          refine aG (β:=(Unit)) (λ(s_53:Unit)=>([(1,(.ref n_2 0 0))]:SL_)) (λ(s_53:Unit)=>([(n_2,some (.cells 9 [(vS a_1.Id),(vS a_1.Sender),(vI a_1.Kind),(vL eS a_1.Refs),(vI a_1.At),(vI a_1.Until),(vI a_1.Weight),(vL Rect.enc a_1.Areas),(vS a_1.Text)]))]:Hp)) (λp=>o_56 = .go p) ?_ ?_
          ·refine aD (bf (β:=Nat×(List Rect)×(Unit)) (λp=>(λ(k_48:Nat) (l_49:List Rect) (s_53:Unit)=>([(1,(.ref n_2 0 0)),(98,(vL Rect.enc a_1.Areas)),(99,(vI (a_1.Areas.length:Int))),(100,(vI (k_48:Int)))]:SL_)) p.1 p.2.1 p.2.2) (λp=>(λ(k_48:Nat) (l_49:List Rect) (s_53:Unit)=>([(n_2,some (.cells 9 [(vS a_1.Id),(vS a_1.Sender),(vI a_1.Kind),(vL eS a_1.Refs),(vI a_1.At),(vI a_1.Until),(vI a_1.Weight),(vL Rect.enc a_1.Areas),(vS a_1.Text)]))]:Hp)) p.1 p.2.1 p.2.2) (λp=>forR (λk x s=>jc k x s) p.2.1 p.1 p.2.2=some o_56/\(a_1.Areas).drop p.1=p.2.1) (λp=>p.2.1.length) (0,a_1.Areas,()) ⟨hj_57,rfl⟩ rfl (aJ rfl) ?_)
           rintro ⟨k_48,l_49,s_53⟩ ⟨hL_55,hD_51⟩
           dsimp only at hL_55 hD_51
           cases l_49 with
           | nil =>
            obtain rfl:=ah hL_55
            refine af (aa (ae (vB (decide ((k_48:Int)<(a_1.Areas.length:Int)))) wz rfl (ai ?_)))
            refine af (ay rfl (drop_nil hD_51) (aW ?_))
            exact aZ (s_53) rfl rfl (aJ rfl)
           | cons x_50 l_49 =>
            obtain ⟨c_,hc_54,hL_55⟩:=bind_some hL_55
            refine af (aa (ae (vB (decide ((k_48:Int)<(a_1.Areas.length:Int)))) wz rfl (ai ?_)))
            refine af (aA rfl (aY hD_51) (au ?_))
            unfold jc at hc_54
            refine af (aD (af (aa (fU Kw rfl rfl (bz hD_51) rfl wz (dn u7 Dn rfl (.d (.agg (Rect.enc x_50))) rfl wz (cK 0 (.inl rfl) z45 rfl wz (λn_58=>dJ 0 il ft 1 u7 rfl rfl [(vI x_50.X),(vI x_50.Y),(vI x_50.W),(vI x_50.H)] rfl wz (ai (af (aa (aF 0 1 il ft u7 Dn rfl rfl (.d (.agg (Rect.enc x_50))) rfl wz ?_)))))))))))
            obtain ⟨r_59,hr_60,hc_54⟩:=bind_some hc_54
            refine aB (zQ hr_60) rfl hb141 rfl rfl rfl rfl wz (ae (vI r_59) wz rfl (ai (af (aa (ae (vI r_59) wz rfl (ae (vB (r_59 != 0)) wz rfl (ai ?_)))))))
            rcases ak hc_54 with⟨hc_61,hc_54⟩|⟨hc_61,hc_54⟩
            ·refine aA rfl hc_61 (af (aa (ae (vI r_59) wz rfl (ae (vI r_59) wz rfl (ai ?_)))))
             obtain rfl:=ah hc_54
             obtain rfl:=ah hL_55
             obtain rfl:=ah hF
             exact ax (aR (.inr rfl) [(vI r_59)] ⟨rfl,trivial⟩ rfl rfl rfl)
            ·refine ay rfl hc_61 (au (aa (dX (bg hD_51 hn_52) wz rfl (ae (vI ((k_48+1:Nat):Int)) wz rfl (ai ?_)))))
             obtain rfl:=ah hc_54
             exact aV (k_48+1,l_49,()) ⟨hL_55,aQ hD_51⟩ (ls_ _) rfl (aJ rfl)
          ·rintro s_53 ho_ sl_ H_ hp_ hq_
           subst ho_
           refine aN _ hp_ hq_ (af (aD (af (aa (aI lQ rfl 2 rfl wz (aF 0 0 il ft sz3 ag3 rfl rfl (vI a_1.Kind) rfl wz (ae (vB (a_1.Kind==3)) wz rfl (aI oF rfl 7 rfl wz (aF 0 0 il ft BQ EE rfl rfl (vL Rect.enc a_1.Areas) rfl wz (bN H9 rfl wz (ae (vB ((a_1.Areas.length:Int)==0)) wz rfl (EI un4 rfl rfl wz (ae (vB (!((a_1.Kind==3)==((a_1.Areas.length:Int)==0)))) wz rfl (ai ?_))))))))))))))
           rcases ak hF with⟨hc_62,hF⟩|⟨hc_62,hF⟩
           ·refine aA rfl hc_62 (af (aa (ae (vI 3) wz rfl (ai ?_))))
            obtain rfl:=ah hF
            exact ax (aR (.inr rfl) [(vI 3)] ⟨rfl,trivial⟩ rfl rfl rfl)
           ·refine ay rfl hc_62 (af (aa (aI tu rfl 8 rfl wz (aF 0 0 il ft sz9 ag9 rfl rfl (vS a_1.Text) rfl wz (qC un9 rfl wz (ae (vB (decide ((a_1.Text.size:Int)>500))) wz rfl (ae (vB (decide ((a_1.Text.size:Int)>500))) wz rfl (ai ?_))))))))
            rcases ak hF with⟨hc_63,hF⟩|⟨hc_63,hF⟩
            ·refine aA rfl hc_63 (af (aa (ae (vI 2) wz rfl (ai ?_))))
             obtain rfl:=ah hF
             exact ax (aR (.inr rfl) [(vI 2)] ⟨rfl,trivial⟩ rfl rfl rfl)
            ·refine ay rfl hc_63 (af ?_)
             obtain ⟨v_64,h_65,hF⟩:=bind_some hF
             refine aG (β:=Unit) (λ_=>([(124,(vB v_64))]:SL_)) (λ_=>([(n_2,some (.cells 9 [(vS a_1.Id),(vS a_1.Sender),(vI a_1.Kind),(vL eS a_1.Refs),(vI a_1.At),(vI a_1.Until),(vI a_1.Weight),(vL Rect.enc a_1.Areas),(vS a_1.Text)]))]:Hp)) (λ_=>True) ?_ ?_
             ·refine aa (aI tu rfl 8 rfl wz (aF 0 0 il ft sz9 ag9 rfl rfl (vS a_1.Text) rfl wz ?_))
              obtain ⟨r_66,hr_67,h_65⟩:=bind_some h_65
              refine aB (FC hr_67) rfl hb164 rfl rfl rfl rfl wz (ae (vB (!r_66)) wz rfl ?_)
              rcases ak h_65 with⟨hc_68,h_65⟩|⟨hc_68,h_65⟩
              ·refine aC rfl hc_68 wz (aj wa (aj wa (aj wa (aj wa (aj (wn rfl rfl) (aj (wn rfl rfl) (aj (wn rfl rfl) (aj wa (ae (vB true) wz rfl (ae (vB true) wz rfl (ai ?_)))))))))))
               obtain rfl:=ah h_65
               exact cu
              ·refine aC rfl hc_68 wz (aI tu rfl 8 rfl wa (aF 0 0 il ft sz9 ag9 rfl rfl (vS a_1.Text) rfl wa (ae (vB (sEq a_1.Text (⟨#[]⟩:ByteArray))) wa rfl ?_)))
               rcases ak h_65 with⟨hc_69,h_65⟩|⟨hc_69,h_65⟩
               ·refine aC rfl hc_69 wa (aI lQ rfl 2 rfl wa (aF 0 0 il ft sz3 ag3 rfl rfl (vI a_1.Kind) rfl wa (ae (vB (a_1.Kind != 3)) wa rfl (ae (vB (a_1.Kind != 3)) wa rfl (ae (vB (a_1.Kind != 3)) wz rfl (ae (vB (a_1.Kind != 3)) wz rfl (ai ?_)))))))
                obtain rfl:=ah h_65
                exact cu
               ·refine aC rfl hc_69 wa (aj wa (aj wa (aj wa (ae (vB false) wa rfl (ae (vB false) wz rfl (ae (vB false) wz rfl (ai ?_)))))))
                obtain rfl:=ah h_65
                exact cu
             ·rintro ⟨⟩ _ sl_ H_ hp_ hq_
              refine aN _ hp_ hq_ ?_
              rcases ak hF with⟨hc_70,hF⟩|⟨hc_70,hF⟩
              ·refine aA rfl hc_70 (af (aa (ae (vI 3) wz rfl (ai ?_))))
               obtain rfl:=ah hF
               exact ax (aR (.inr rfl) [(vI 3)] ⟨rfl,trivial⟩ rfl rfl rfl)
              ·refine ay rfl hc_70 (au (af (aa (ae (vI 0) wz rfl (ai ?_)))))
               obtain rfl:=ah hF
               exact ax (aR (.inr rfl) [(vI 0)] ⟨rfl,trivial⟩ rfl rfl rfl)
section
variable [dM:DM]
theorem AO {n_1:Int} {r:Int} (hF:uh n_1=some r) :
  FnM Tryz.prog 129 [(vI n_1)] [] (vI r) []:=by
 refine FnM.of_wH ⟨Tryz.prog,9,[],[]⟩ rfl Tryz.func129 rfl rfl (lb_ rfl) (by kernel_rfl) ?_
 unfold uh at hF
 refine af (aa (ae (vI 0) wz rfl (ai (af (aD (af (aa (ae (vI n_1) wz rfl (ae (vB (decide (n_1<0))) wz rfl (ae (vB (decide (n_1<0))) wz rfl (ai ?_)))))))))))
 rcases ak hF with⟨hc_2,hF⟩|⟨hc_2,hF⟩
 ·refine aA rfl hc_2 (af (aa (ae (vI (-1)) wz rfl (ai ?_))))
  obtain rfl:=ah hF
  exact ax (aR (.inr rfl) [(vI (-1))] ⟨rfl,trivial⟩ rfl rfl rfl)
 ·refine ay rfl hc_2 (af (aa (ae (vI n_1) wz rfl (ae (vB (decide (n_1>0))) wz rfl (ae (vB (decide (n_1>0))) wz rfl (ai ?_))))))
  rcases ak hF with⟨hc_3,hF⟩|⟨hc_3,hF⟩
  ·refine aA rfl hc_3 (af (aa (ae (vI 1) wz rfl (ai ?_))))
   obtain rfl:=ah hF
   exact ax (aR (.inr rfl) [(vI 1)] ⟨rfl,trivial⟩ rfl rfl rfl)
  ·refine ay rfl hc_3 (au (af (aa (ae (vI 0) wz rfl (ai ?_)))))
   obtain rfl:=ah hF
   exact ax (aR (.inr rfl) [(vI 0)] ⟨rfl,trivial⟩ rfl rfl rfl)
end
theorem sZ {a_1:Alert} {b_2:Alert} {r:Int} (hF:jA a_1 b_2=some r) :
  FnM Tryz.prog 87 [(.d (.agg (Alert.enc a_1))),(.d (.agg (Alert.enc b_2)))] [] (vI r) []:=by
 refine FnM.of_wH ⟨Tryz.prog,21,[],[]⟩ rfl Tryz.func87 rfl rfl (lb_ rfl) (by kernel_rfl) ?_
 unfold jA at hF
 refine af (aa (dW 0 (.inl rfl) [(vS a_1.Id),(vS a_1.Sender),(vI a_1.Kind),(vL eS a_1.Refs),(vI a_1.At),(vI a_1.Until),(vI a_1.Weight),(vL Rect.enc a_1.Areas),(vS a_1.Text)] rfl rfl wz (λn_3=>dW 0 (.inl rfl) [(vS b_2.Id),(vS b_2.Sender),(vI b_2.Kind),(vL eS b_2.Refs),(vI b_2.At),(vI b_2.Until),(vI b_2.Weight),(vL Rect.enc b_2.Areas),(vS b_2.Text)] rfl rfl wz (λn_4=>ae (vI 0) wz rfl (ai (af (af (aa (aI fq rfl 4 rfl wz (aF 0 0 il ft sz3 ag3 rfl rfl (vI a_1.At) rfl wz (aI fq rfl 4 rfl wz (aF 0 1 il ft sz3 ag3 rfl rfl (vI b_2.At) rfl wz (ae (vB (a_1.At != b_2.At)) wz rfl (ai ?_))))))))))))))
 rcases ak hF with⟨hc_5,hF⟩|⟨hc_5,hF⟩
 ·refine aA rfl hc_5 (af (aa (aI fq rfl 4 rfl wz (aF 0 0 il ft sz3 ag3 rfl rfl (vI a_1.At) rfl wz (aI fq rfl 4 rfl wz (aF 0 1 il ft sz3 ag3 rfl rfl (vI b_2.At) rfl wz (ae (vI (w64 (a_1.At-b_2.At))) wz rfl ?_)))))))
  obtain ⟨r_6,hr_7,hF⟩:=bind_some hF
  refine aB (AO hr_7) rfl hb129 rfl rfl rfl rfl wz (ae (vI r_6) wz rfl (ai ?_))
  obtain rfl:=ah hF
  exact ax (aR (.inr rfl) [(vI r_6)] ⟨rfl,trivial⟩ rfl rfl rfl)
 ·refine ay rfl hc_5 (au (af (aa (aI eD rfl 0 rfl wz (aF 0 0 il ft sz9 ag9 rfl rfl (vS a_1.Id) rfl wz (aI eD rfl 0 rfl wz (aF 0 1 il ft sz9 ag9 rfl rfl (vS b_2.Id) rfl wz ?_)))))))
  obtain ⟨r_8,hr_9,hF⟩:=bind_some hF
  refine aB (iG hr_9) rfl Ez rfl rfl rfl rfl wz (ae (vI r_8) wz rfl (ai ?_))
  obtain rfl:=ah hF
  exact ax (aR (.inr rfl) [(vI r_8)] ⟨rfl,trivial⟩ rfl rfl rfl)
theorem yD {l_1:(List Alert)} {r:Int} (hF:lh l_1=some r) :
  FnM Tryz.prog 25 [(vL Alert.enc l_1)] [] (vI r) []:=by
 refine FnM.of_wH ⟨Tryz.prog,53,[],[]⟩ rfl Tryz.func25 rfl rfl (lb_ rfl) (by kernel_rfl) ?_
 unfold lh at hF
 refine af (aa (ae (vI 0) wz rfl (ai (af (af (aa (ae (vL Alert.enc l_1) wz rfl (bN uT rfl wz (ae (vB (decide ((l_1.length:Int)>300))) wz rfl (ai ?_))))))))))
 rcases ak hF with⟨hc_2,hF⟩|⟨hc_2,hF⟩
 ·refine aA rfl hc_2 (af (aa (ae (vI 2) wz rfl (ai ?_))))
  obtain rfl:=ah hF
  exact ax (aR (.inr rfl) [(vI 2)] ⟨rfl,trivial⟩ rfl rfl rfl)
 ·refine ay rfl hc_2 (au (af (af (aa (ae (vL Alert.enc l_1) wz rfl (bN uT rfl wz (ae (vI 0) wz rfl (ai ?_))))))))
  obtain ⟨o_11,hj_12,hF⟩:=bind_some hF
  obtain ⟨hn_7,hj_12⟩:=aU hj_12
  refine aG (β:=(Unit)) (λ(s_8:Unit)=>([(0,(vL Alert.enc l_1))]:SL_)) (λ(s_8:Unit)=>([]:Hp)) (λp=>o_11 = .go p) ?_ ?_
  ·refine aD (bf (β:=Nat×(List Alert)×(Unit)) (λp=>(λ(k_3:Nat) (l_4:List Alert) (s_8:Unit)=>([(0,(vL Alert.enc l_1)),(12,(vL Alert.enc l_1)),(13,(vI (l_1.length:Int))),(14,(vI (k_3:Int)))]:SL_)) p.1 p.2.1 p.2.2) (λp=>(λ(k_3:Nat) (l_4:List Alert) (s_8:Unit)=>([]:Hp)) p.1 p.2.1 p.2.2) (λp=>forR (λk x s=>iK l_1 k x s) p.2.1 p.1 p.2.2=some o_11/\(l_1).drop p.1=p.2.1) (λp=>p.2.1.length) (0,l_1,()) ⟨hj_12,rfl⟩ rfl (aJ rfl) ?_)
   rintro ⟨k_3,l_4,s_8⟩ ⟨hL_10,hD_6⟩
   dsimp only at hL_10 hD_6
   cases l_4 with
   | nil =>
    obtain rfl:=ah hL_10
    refine af (aa (ae (vB (decide ((k_3:Int)<(l_1.length:Int)))) wz rfl (ai ?_)))
    refine af (ay rfl (drop_nil hD_6) (aW ?_))
    exact aZ (s_8) rfl rfl (aJ rfl)
   | cons x_5 l_4 =>
    obtain ⟨c_,hc_9,hL_10⟩:=bind_some hL_10
    refine af (aa (ae (vB (decide ((k_3:Int)<(l_1.length:Int)))) wz rfl (ai ?_)))
    refine af (aA rfl (aY hD_6) (au ?_))
    unfold iK at hc_9
    refine af (aD (af (aa (ae (vI (k_3:Int)) wz rfl (fU qJ rfl rfl (bz hD_6) rfl wz (dn dF fJ rfl (.d (.agg (Alert.enc x_5))) rfl wz (cK 0 (.inl rfl) yh rfl wz (λn_13=>ae (vI (k_3:Int)) wz rfl (dJ 0 il ft 0 dF rfl rfl [(vS x_5.Id),(vS x_5.Sender),(vI x_5.Kind),(vL eS x_5.Refs),(vI x_5.At),(vI x_5.Until),(vI x_5.Weight),(vL Rect.enc x_5.Areas),(vS x_5.Text)] rfl wz (ai (af (af (aa (aF 0 0 il ft dF fJ rfl rfl (.d (.agg (Alert.enc x_5))) rfl wz ?_))))))))))))))
    obtain ⟨r_14,hr_15,hc_9⟩:=bind_some hc_9
    refine aB (yU hr_15) rfl hb86 rfl rfl rfl rfl wz (ae (vI r_14) wz rfl (ai (af (aa (ae (vI r_14) wz rfl (ae (vB (r_14 != 0)) wz rfl (ai ?_)))))))
    rcases ak hc_9 with⟨hc_16,hc_9⟩|⟨hc_16,hc_9⟩
    ·refine aA rfl hc_16 (af (aa (ae (vI r_14) wz rfl (ae (vI r_14) wz rfl (ai ?_)))))
     obtain rfl:=ah hc_9
     obtain rfl:=ah hL_10
     obtain rfl:=ah hF
     exact ax (aR (.inr rfl) [(vI r_14)] ⟨rfl,trivial⟩ rfl rfl rfl)
    ·refine ay rfl hc_16 (au (af ?_))
     obtain ⟨v_17,h_18,hc_9⟩:=bind_some hc_9
     refine aG (β:=Unit) (λ_=>([(0,(vL Alert.enc l_1)),(12,(vL Alert.enc l_1)),(13,(vI (l_1.length:Int))),(14,(vI (k_3:Int))),(35,(vB v_17))]:SL_)) (λ_=>([(n_13,some (.cells 9 [(vS x_5.Id),(vS x_5.Sender),(vI x_5.Kind),(vL eS x_5.Refs),(vI x_5.At),(vI x_5.Until),(vI x_5.Weight),(vL Rect.enc x_5.Areas),(vS x_5.Text)]))]:Hp)) (λ_=>True) ?_ ?_
     ·refine bR (ae (vI (k_3:Int)) wz rfl (ae (vB (decide ((k_3:Int)>0))) wz rfl ?_))
      rcases ak h_18 with⟨hc_19,h_18⟩|⟨hc_19,h_18⟩
      ·refine aC rfl hc_19 wz (ae (vL Alert.enc l_1) wa rfl (ae (vI (k_3:Int)) wa rfl (ae (vI (w64 ((k_3:Int)-1))) wa rfl ?_)))
       obtain ⟨y_20,hy_21,h_18⟩:=bind_some h_18
       refine fU qJ rfl rfl hy_21 rfl wa (dn dF fJ rfl (.d (.agg (Alert.enc y_20))) rfl wa (aF 8 0 (.inr (by kernel_rfl)) (λ_ _ ag=>trivial) dF fJ rfl rfl (.d (.agg (Alert.enc x_5))) rfl wa ?_))
       obtain ⟨r_22,hr_23,h_18⟩:=bind_some h_18
       refine aB (sZ hr_23) rfl hb87 rfl rfl rfl rfl wa (ae (vB (decide (r_22>=0))) wa rfl (ae (vB (decide (r_22>=0))) wz rfl (ai ?_)))
       obtain rfl:=ah h_18
       exact cu
      ·refine aC rfl hc_19 wz (aj wa (aj wa (aj wa (aj wa (aj wa (aj wa (aj wa (aj wa (ae (vB false) wz rfl (ai ?_))))))))))
       obtain rfl:=ah h_18
       exact cu
     ·rintro ⟨⟩ _ sl_ H_ hp_ hq_
      refine aN _ hp_ hq_ ?_
      rcases ak hc_9 with⟨hc_24,hc_9⟩|⟨hc_24,hc_9⟩
      ·refine aA rfl hc_24 (af (aa (ae (vI 7) wz rfl (ai ?_))))
       obtain rfl:=ah hc_9
       obtain rfl:=ah hL_10
       obtain rfl:=ah hF
       exact ax (aR (.inr rfl) [(vI 7)] ⟨rfl,trivial⟩ rfl rfl rfl)
      ·refine ay rfl hc_24 (au (aa (dX (bg hD_6 hn_7) wz rfl (ae (vI ((k_3+1:Nat):Int)) wz rfl (ai ?_)))))
       obtain rfl:=ah hc_9
       exact aV (k_3+1,l_4,()) ⟨hL_10,aQ hD_6⟩ (ls_ _) rfl (aJ rfl)
  ·rintro s_8 ho_ sl_ H_ hp_ hq_
   subst ho_
   refine aN _ hp_ hq_ (af (aa (Br 0 (.inl rfl) wz (λn_25=>Ef (b':=some (bM D.str D.bool ([]:List (ByteArray×Bool)))) 0 rfl rfl (ae (.map n_25) wz rfl (ai (af (af (aa (ae (vL Alert.enc l_1) wz rfl (bN uT rfl wz (ae (vI 0) wz rfl (ai ?_)))))))))))))
   obtain ⟨o_34,hj_35,hF⟩:=bind_some hF
   obtain ⟨hn_30,hj_35⟩:=aU hj_35
   refine aG (β:=((List (ByteArray×Bool)))) (λ(s_31:(List (ByteArray×Bool)))=>([(0,(vL Alert.enc l_1)),(6,(.map n_25))]:SL_)) (λ(s_31:(List (ByteArray×Bool)))=>([(n_25,some (bM D.str D.bool s_31))]:Hp)) (λp=>o_34 = .go p) ?_ ?_
   ·refine aD (bf (β:=Nat×(List Alert)×((List (ByteArray×Bool)))) (λp=>(λ(k_26:Nat) (l_27:List Alert) (s_31:(List (ByteArray×Bool)))=>([(0,(vL Alert.enc l_1)),(6,(.map n_25)),(38,(vL Alert.enc l_1)),(39,(vI (l_1.length:Int))),(40,(vI (k_26:Int)))]:SL_)) p.1 p.2.1 p.2.2) (λp=>(λ(k_26:Nat) (l_27:List Alert) (s_31:(List (ByteArray×Bool)))=>([(n_25,some (bM D.str D.bool s_31))]:Hp)) p.1 p.2.1 p.2.2) (λp=>forR (λk x s=>jH k x s) p.2.1 p.1 p.2.2=some o_34/\(l_1).drop p.1=p.2.1) (λp=>p.2.1.length) (0,l_1,([]:List (ByteArray×Bool))) ⟨hj_35,rfl⟩ rfl (aJ rfl) ?_)
    rintro ⟨k_26,l_27,s_31⟩ ⟨hL_33,hD_29⟩
    dsimp only at hL_33 hD_29
    cases l_27 with
    | nil =>
     obtain rfl:=ah hL_33
     refine af (aa (ae (vB (decide ((k_26:Int)<(l_1.length:Int)))) wz rfl (ai ?_)))
     refine af (ay rfl (drop_nil hD_29) (aW ?_))
     exact aZ (s_31) rfl rfl (aJ rfl)
    | cons x_28 l_27 =>
     obtain ⟨c_,hc_32,hL_33⟩:=bind_some hL_33
     refine af (aa (ae (vB (decide ((k_26:Int)<(l_1.length:Int)))) wz rfl (ai ?_)))
     refine af (aA rfl (aY hD_29) (au ?_))
     unfold jH at hc_32
     refine af (aD (af (aa (fU qJ rfl rfl (bz hD_29) rfl wz (dn dF fJ rfl (.d (.agg (Alert.enc x_28))) rfl wz (cK 0 (.inl rfl) yh rfl wz (λn_36=>dJ 0 il ft 1 dF rfl rfl [(vS x_28.Id),(vS x_28.Sender),(vI x_28.Kind),(vL eS x_28.Refs),(vI x_28.At),(vI x_28.Until),(vI x_28.Weight),(vL Rect.enc x_28.Areas),(vS x_28.Text)] rfl wz (ai (aa (ae (.map n_25) wz rfl (aI eD rfl 0 rfl wz (aF 0 1 il ft sz9 ag9 rfl rfl (vS x_28.Id) rfl wz (zi (eq:=eqS) (kD:=D.str) (vD:=D.bool) (es:=s_31) (k:=x_28.Id) (v:=true) 0 0 il ft (λ_ _=>rfl) Jt (by kernel_rfl) rfl rfl rfl rfl wz (ai (aa (dX (bg hD_29 hn_30) wz rfl (ae (vI ((k_26+1:Nat):Int)) wz rfl (ai ?_))))))))))))))))))
     obtain rfl:=ah hc_32
     exact aV (k_26+1,l_27,(sS eqS s_31 x_28.Id true)) ⟨hL_33,aQ hD_29⟩ (ls_ _) rfl (aJ rfl)
   ·rintro s_31 ho_ sl_ H_ hp_ hq_
    subst ho_
    refine aN _ hp_ hq_ (af (af (aa (ae (.map n_25) wz rfl (Mh (kD:=D.str) (vD:=D.bool) (es:=s_31) 0 0 il ft Jt rfl rfl wz (ae (vL Alert.enc l_1) wz rfl (bN uT rfl wz (ae (vB (decide ((s_31.length:Int)<(l_1.length:Int)))) wz rfl (ai ?_)))))))))
    rcases ak hF with⟨hc_37,hF⟩|⟨hc_37,hF⟩
    ·refine aA rfl hc_37 (af (aa (ae (vI 6) wz rfl (ai ?_))))
     obtain rfl:=ah hF
     exact ax (aR (.inr rfl) [(vI 6)] ⟨rfl,trivial⟩ rfl rfl rfl)
    ·refine ay rfl hc_37 (au (af (aa (ae (vI 0) wz rfl (ai ?_)))))
     obtain rfl:=ah hF
     exact ax (aR (.inr rfl) [(vI 0)] ⟨rfl,trivial⟩ rfl rfl rfl)
theorem yJ {l_1:(List Post)} {r:Int} (hF:l9 l_1=some r) :
  FnM Tryz.prog 26 [(vL Post.enc l_1)] [] (vI r) []:=by
 refine FnM.of_wH ⟨Tryz.prog,39,[],[]⟩ rfl Tryz.func26 rfl rfl (lb_ rfl) (by kernel_rfl) ?_
 unfold l9 at hF
 refine af (aa (ae (vI 0) wz rfl (ai (af (af (aa (ae (vL Post.enc l_1) wz rfl (bN AY rfl wz (ae (vB (decide ((l_1.length:Int)>500))) wz rfl (ai ?_))))))))))
 rcases ak hF with⟨hc_2,hF⟩|⟨hc_2,hF⟩
 ·refine aA rfl hc_2 (af (aa (ae (vI 2) wz rfl (ai ?_))))
  obtain rfl:=ah hF
  exact ax (aR (.inr rfl) [(vI 2)] ⟨rfl,trivial⟩ rfl rfl rfl)
 ·refine ay rfl hc_2 (au (af (aa (ae (vS (⟨#[]⟩:ByteArray)) wz rfl (ai (af (af (aa (ae (vL Post.enc l_1) wz rfl (bN AY rfl wz (ae (vI 0) wz rfl (ai ?_))))))))))))
  obtain ⟨o_11,hj_12,hF⟩:=bind_some hF
  obtain ⟨hn_7,hj_12⟩:=aU hj_12
  refine aG (β:=(ByteArray)) (λ(s_8:ByteArray)=>([]:SL_)) (λ(s_8:ByteArray)=>([]:Hp)) (λp=>o_11 = .go p) ?_ ?_
  ·refine aD (bf (β:=Nat×(List Post)×(ByteArray)) (λp=>(λ(k_3:Nat) (l_4:List Post) (s_8:ByteArray)=>([(3,(vS s_8)),(9,(vL Post.enc l_1)),(10,(vI (l_1.length:Int))),(11,(vI (k_3:Int)))]:SL_)) p.1 p.2.1 p.2.2) (λp=>(λ(k_3:Nat) (l_4:List Post) (s_8:ByteArray)=>([]:Hp)) p.1 p.2.1 p.2.2) (λp=>forR (λk x s=>ib k x s) p.2.1 p.1 p.2.2=some o_11/\(l_1).drop p.1=p.2.1) (λp=>p.2.1.length) (0,l_1,(⟨#[]⟩:ByteArray)) ⟨hj_12,rfl⟩ rfl (aJ rfl) ?_)
   rintro ⟨k_3,l_4,s_8⟩ ⟨hL_10,hD_6⟩
   dsimp only at hL_10 hD_6
   cases l_4 with
   | nil =>
    obtain rfl:=ah hL_10
    refine af (aa (ae (vB (decide ((k_3:Int)<(l_1.length:Int)))) wz rfl (ai ?_)))
    refine af (ay rfl (drop_nil hD_6) (aW ?_))
    exact aZ (s_8) rfl rfl (aJ rfl)
   | cons x_5 l_4 =>
    obtain ⟨c_,hc_9,hL_10⟩:=bind_some hL_10
    refine af (aa (ae (vB (decide ((k_3:Int)<(l_1.length:Int)))) wz rfl (ai ?_)))
    refine af (aA rfl (aY hD_6) (au ?_))
    unfold ib at hc_9
    refine af (aD (af (aa (fU A9 rfl rfl (bz hD_6) rfl wz (dn pg vX rfl (.d (.agg (Post.enc x_5))) rfl wz (cK 0 (.inl rfl) z66 rfl wz (λn_13=>dJ 0 il ft 0 pg rfl rfl [(vS x_5.Player),(vI x_5.X),(vI x_5.Y)] rfl wz (ai (af (aD (af (aa (aI mg rfl 0 rfl wz (aF 0 0 il ft sz9 ag9 rfl rfl (vS x_5.Player) rfl wz ?_))))))))))))))
    obtain ⟨r_14,hr_15,hc_9⟩:=bind_some hc_9
    refine aB (pz hr_15) rfl KV rfl rfl rfl rfl wz (ae (vB (!r_14)) wz rfl (ae (vB (!r_14)) wz rfl (ai ?_)))
    rcases ak hc_9 with⟨hc_16,hc_9⟩|⟨hc_16,hc_9⟩
    ·refine aA rfl hc_16 (af (aa (ae (vI 5) wz rfl (ai ?_))))
     obtain rfl:=ah hc_9
     obtain rfl:=ah hL_10
     obtain rfl:=ah hF
     exact ax (aR (.inr rfl) [(vI 5)] ⟨rfl,trivial⟩ rfl rfl rfl)
    ·refine ay rfl hc_16 (af ?_)
     obtain ⟨v_17,h_18,hc_9⟩:=bind_some hc_9
     refine aG (β:=Unit) (λ_=>([(3,(vS s_8)),(5,(.ref n_13 0 0)),(9,(vL Post.enc l_1)),(10,(vI (l_1.length:Int))),(11,(vI (k_3:Int))),(20,(vB v_17))]:SL_)) (λ_=>([(n_13,some (.cells 3 [(vS x_5.Player),(vI x_5.X),(vI x_5.Y)]))]:Hp)) (λ_=>True) ?_ ?_
     ·refine aa (aI Ar rfl 1 rfl wz (aF 0 0 il ft sz3 ag3 rfl rfl (vI x_5.X) rfl wz ?_))
      obtain ⟨r_19,hr_20,h_18⟩:=bind_some h_18
      refine aB (jr hr_20) rfl Ab rfl rfl rfl rfl wz (ae (vB (!r_19)) wz rfl ?_)
      rcases ak h_18 with⟨hc_21,h_18⟩|⟨hc_21,h_18⟩
      ·refine aC rfl hc_21 wz (aj wa (aj wa (aj wa (aj wa (ae (vB true) wz rfl (ae (vB true) wz rfl (ai ?_)))))))
       obtain rfl:=ah h_18
       exact cu
      ·refine aC rfl hc_21 wz (aI Dc rfl 2 rfl wa (aF 0 0 il ft sz3 ag3 rfl rfl (vI x_5.Y) rfl wa ?_))
       obtain ⟨r_22,hr_23,h_18⟩:=bind_some h_18
       refine aB (jr hr_23) rfl Ab rfl rfl rfl rfl wa (ae (vB (!r_22)) wa rfl (ae (vB (!r_22)) wz rfl (ae (vB (!r_22)) wz rfl (ai ?_))))
       obtain rfl:=ah h_18
       exact cu
     ·rintro ⟨⟩ _ sl_ H_ hp_ hq_
      refine aN _ hp_ hq_ ?_
      rcases ak hc_9 with⟨hc_24,hc_9⟩|⟨hc_24,hc_9⟩
      ·refine aA rfl hc_24 (af (aa (ae (vI 1) wz rfl (ai ?_))))
       obtain rfl:=ah hc_9
       obtain rfl:=ah hL_10
       obtain rfl:=ah hF
       exact ax (aR (.inr rfl) [(vI 1)] ⟨rfl,trivial⟩ rfl rfl rfl)
      ·refine ay rfl hc_24 (af (aa (aI mg rfl 0 rfl wz (aF 0 0 il ft sz9 ag9 rfl rfl (vS x_5.Player) rfl wz (ae (vS s_8) wz rfl (ae (vB (sLe x_5.Player s_8)) wz rfl (ae (vB (sLe x_5.Player s_8)) wz rfl (ai ?_))))))))
       rcases ak hc_9 with⟨hc_25,hc_9⟩|⟨hc_25,hc_9⟩
       ·refine aA rfl hc_25 (af (aa (ae (vI 7) wz rfl (ai ?_))))
        obtain rfl:=ah hc_9
        obtain rfl:=ah hL_10
        obtain rfl:=ah hF
        exact ax (aR (.inr rfl) [(vI 7)] ⟨rfl,trivial⟩ rfl rfl rfl)
       ·refine ay rfl hc_25 (au (aa (aI mg rfl 0 rfl wz (aF 0 0 il ft sz9 ag9 rfl rfl (vS x_5.Player) rfl wz (ae (vS x_5.Player) wz rfl (ai (aa (dX (bg hD_6 hn_7) wz rfl (ae (vI ((k_3+1:Nat):Int)) wz rfl (ai ?_))))))))))
        obtain rfl:=ah hc_9
        exact aV (k_3+1,l_4,x_5.Player) ⟨hL_10,aQ hD_6⟩ (ls_ _) rfl (aJ rfl)
  ·rintro s_8 ho_ sl_ H_ hp_ hq_
   subst ho_
   refine aN _ hp_ hq_ (af (aa (ae (vI 0) wz rfl (ai ?_))))
   obtain rfl:=ah hF
   exact ax (aR (.inr rfl) [(vI 0)] ⟨rfl,trivial⟩ rfl rfl rfl)
theorem qg {l_1:(List Int)} {r:Int} (hF:jI l_1=some r) :
  FnM Tryz.prog 24 [(vL eI l_1)] [] (vI r) []:=by
 refine FnM.of_wH ⟨Tryz.prog,15,[],[]⟩ rfl Tryz.func24 rfl rfl (lb_ rfl) (by kernel_rfl) ?_
 unfold jI at hF
 refine af (aa (ae (vI 0) wz rfl (ai (af (af (aa (ae (vL eI l_1) wz rfl (bN un140 rfl wz (ae (vI 0) wz rfl (ai ?_))))))))))
 obtain ⟨o_10,hj_11,hF⟩:=bind_some hF
 obtain ⟨hn_6,hj_11⟩:=aU hj_11
 refine aG (β:=(Unit)) (λ(s_7:Unit)=>([]:SL_)) (λ(s_7:Unit)=>([]:Hp)) (λp=>o_10 = .go p) ?_ ?_
 ·refine aD (bf (β:=Nat×(List Int)×(Unit)) (λp=>(λ(k_2:Nat) (l_3:List Int) (s_7:Unit)=>([(5,(vL eI l_1)),(6,(vI (l_1.length:Int))),(7,(vI (k_2:Int)))]:SL_)) p.1 p.2.1 p.2.2) (λp=>(λ(k_2:Nat) (l_3:List Int) (s_7:Unit)=>([]:Hp)) p.1 p.2.1 p.2.2) (λp=>forR (λk x s=>qi k x s) p.2.1 p.1 p.2.2=some o_10/\(l_1).drop p.1=p.2.1) (λp=>p.2.1.length) (0,l_1,()) ⟨hj_11,rfl⟩ rfl (aJ rfl) ?_)
  rintro ⟨k_2,l_3,s_7⟩ ⟨hL_9,hD_5⟩
  dsimp only at hL_9 hD_5
  cases l_3 with
  | nil =>
   obtain rfl:=ah hL_9
   refine af (aa (ae (vB (decide ((k_2:Int)<(l_1.length:Int)))) wz rfl (ai ?_)))
   refine af (ay rfl (drop_nil hD_5) (aW ?_))
   exact aZ (s_7) rfl rfl (aJ rfl)
  | cons x_4 l_3 =>
   obtain ⟨c_,hc_8,hL_9⟩:=bind_some hL_9
   refine af (aa (ae (vB (decide ((k_2:Int)<(l_1.length:Int)))) wz rfl (ai ?_)))
   refine af (aA rfl (aY hD_5) (au ?_))
   unfold qi at hc_8
   refine af (aD (af (aa (fU D6 rfl rfl (bz hD_5) rfl wz (dn sz35 ag35 rfl (vI x_4) rfl wz (ae (vI x_4) wz rfl (ai (af (aa (ae (vI x_4) wz rfl (ae (vB (x_4 != 0)) wz rfl (ai ?_))))))))))))
   rcases ak hc_8 with⟨hc_12,hc_8⟩|⟨hc_12,hc_8⟩
   ·refine aA rfl hc_12 (af (aa (ae (vI x_4) wz rfl (ae (vI x_4) wz rfl (ai ?_)))))
    obtain rfl:=ah hc_8
    obtain rfl:=ah hL_9
    obtain rfl:=ah hF
    exact ax (aR (.inr rfl) [(vI x_4)] ⟨rfl,trivial⟩ rfl rfl rfl)
   ·refine ay rfl hc_12 (au (aa (dX (bg hD_5 hn_6) wz rfl (ae (vI ((k_2+1:Nat):Int)) wz rfl (ai ?_)))))
    obtain rfl:=ah hc_8
    exact aV (k_2+1,l_3,()) ⟨hL_9,aQ hD_5⟩ (ls_ _) rfl (aJ rfl)
 ·rintro s_7 ho_ sl_ H_ hp_ hq_
  subst ho_
  refine aN _ hp_ hq_ (af (aa (ae (vI 0) wz rfl (ai ?_))))
  obtain rfl:=ah hF
  exact ax (aR (.inr rfl) [(vI 0)] ⟨rfl,trivial⟩ rfl rfl rfl)
theorem qw {is_1:Bool} {e_2:Int} {r:Int} (hF:iX is_1 e_2=some r) :
  FnM Tryz.prog 53 [(vB is_1),(vI e_2)] [] (vI r) []:=by
 refine FnM.of_wH ⟨Tryz.prog,7,[],[]⟩ rfl Tryz.func53 rfl rfl (lb_ rfl) (by kernel_rfl) ?_
 unfold iX at hF
 refine af (aa (ae (vI 0) wz rfl (ai (af (af (aa (ae (vB is_1) wz rfl (ai ?_))))))))
 rcases ak hF with⟨hc_3,hF⟩|⟨hc_3,hF⟩
 ·refine aA rfl hc_3 (af (aa (ae (vI e_2) wz rfl (ae (vI e_2) wz rfl (ai ?_)))))
  obtain rfl:=ah hF
  exact ax (aR (.inr rfl) [(vI e_2)] ⟨rfl,trivial⟩ rfl rfl rfl)
 ·refine ay rfl hc_3 (au (af (aa (ae (vI 0) wz rfl (ai ?_)))))
  obtain rfl:=ah hF
  exact ax (aR (.inr rfl) [(vI 0)] ⟨rfl,trivial⟩ rfl rfl rfl)
theorem nK {atv_1:Int} {r:Int} (hF:fo atv_1=some r) :
  FnM Tryz.prog 54 [(vI atv_1)] [] (vI r) []:=by
 refine FnM.of_wH ⟨Tryz.prog,7,[],[]⟩ rfl Tryz.func54 rfl rfl (lb_ rfl) (by kernel_rfl) ?_
 unfold fo at hF
 refine af (aa (ae (vI 0) wz rfl (ai (af (aa (ae (vI atv_1) wz rfl ?_))))))
 obtain ⟨r_2,hr_3,hF⟩:=bind_some hF
 refine aB (tN hr_3) rfl Mg rfl rfl rfl rfl wz (ae (vB (!r_2)) wz rfl ?_)
 obtain ⟨r_4,hr_5,hF⟩:=bind_some hF
 refine aB (qw hr_5) rfl MF rfl rfl rfl rfl wz (ae (vI r_4) wz rfl (ai ?_))
 obtain rfl:=ah hF
 exact ax (aR (.inr rfl) [(vI r_4)] ⟨rfl,trivial⟩ rfl rfl rfl)
theorem zf {a_1:Alert} {p_2:ByteArray} {r:Bool} (hF:oM a_1 p_2=some r) :
  FnM Tryz.prog 127 [(.d (.agg (Alert.enc a_1))),(.ref (av 0) 0 0)] [(.cells 1 [(vS p_2)])] (vB r) [some (.cells 1 [(vS p_2)])]:=by
 refine FnM.of_wH ⟨Tryz.prog,8,[],[]⟩ rfl Tryz.func127 rfl rfl (lb_ rfl) (by kernel_rfl) ?_
 unfold oM at hF
 refine af (aa (dW 0 (.inl rfl) [(vS a_1.Id),(vS a_1.Sender),(vI a_1.Kind),(vL eS a_1.Refs),(vI a_1.At),(vI a_1.Until),(vI a_1.Weight),(vL Rect.enc a_1.Areas),(vS a_1.Text)] rfl rfl wz (λn_3=>ae (vB false) wz rfl (ai (af (aa (aI eD rfl 0 rfl wz (aF 0 1 il ft sz9 ag9 rfl rfl (vS a_1.Id) rfl wz (aF 0 0 il ft sz9 ag9 rfl rfl (vS p_2) rfl wz (ae (vB (sEq a_1.Id p_2)) wz rfl (ae (vB (sEq a_1.Id p_2)) wz rfl (ai ?_))))))))))))
 obtain rfl:=ah hF
 exact ax (rW (.inr rfl) [(vB (sEq a_1.Id p_2))] _ [0] [av 0] ⟨rfl,trivial⟩ (.cons (gH rfl rfl) (.nil)) (by kernel_rfl) ⟨(by kernel_rfl),trivial⟩ (by decide) (by kernel_rfl))
theorem gW {s_1:(List Alert)} {f_2:Alert->Option Bool} {r:Bool} {gid:FuncId} {caps:List V} {Sin:List Box} (hfn:∀x0 r,f_2 x0=some r->FnM Tryz.prog gid ([(.d (.agg (Alert.enc x0)))]++caps) Sin (vB r) (Sin.map some)) (hbF:aH Tryz.prog gid=true) (hcapF:caps.flatMap frz=[]/\caps.map co0=caps) (hokF:okL Sin.length caps=true) (hsF:∀b∈Sin,b.ok Sin.length=true) (hmF:∀b∈Sin,b.mut=true) (hF:bI s_1 f_2=some r) :
  FnM Tryz.prog 126 [(vL Alert.enc s_1),(.fn gid caps)] Sin (vB r) (Sin.map some):=by
 refine FnM.of_wH ⟨Tryz.prog,9,[],[]⟩ rfl Tryz.func126 rfl rfl (lb_ rfl) (by kernel_rfl) ?_
 unfold bI at hF
 refine af (aa (ae (vB false) wz rfl (ai (af (aa (ae (vL Alert.enc s_1) wz rfl (ae (.fn gid caps) wz rfl ?_)))))))
 obtain ⟨r_3,hr_4,hF⟩:=bind_some hF
 refine xB (fF (gid:=gid) (caps:=caps) (Sin:=Sin) hfn hbF hcapF hokF hsF hmF hr_4) rfl hb41 rfl rfl ⟨rfl,rfl⟩ (by simp [okL,okV,hokF]) hsF hmF rfl wz rfl (ae (vB (decide (r_3>=0))) wz rfl (ae (vB (decide (r_3>=0))) wz rfl (ai ?_)))
 obtain rfl:=ah hF
 exact ax (E8 hsF (.inr rfl) [(vB (decide (r_3>=0)))] ⟨rfl,trivial⟩ rfl rfl rfl)
theorem AX {l_1:(List Alert)} {id_2:ByteArray} {r:Bool} (hF:jS l_1 id_2=some r) :
  FnM Tryz.prog 55 [(vL Alert.enc l_1),(vS id_2)] [] (vB r) []:=by
 refine FnM.of_wH ⟨Tryz.prog,8,[],[]⟩ rfl Tryz.func55 rfl rfl (lb_ rfl) (by kernel_rfl) ?_
 unfold jS at hF
 refine af (aa (dW 0 (.inl rfl) [(vS id_2)] rfl rfl wz (λn_3=>ae (vB false) wz rfl (ai (af (aa (ae (vL Alert.enc l_1) wz rfl (ae (.fn 127 [(.ref n_3 0 0)]) wz rfl ?_))))))))
 obtain ⟨r_4,hr_5,hF⟩:=bind_some hF
 refine aS 0 [0] il ft (gW (gid:=127) (caps:=[.ref (av 0) 0 0]) (Sin:=[(.cells 1 [(vS id_2)])]) (λ_ _ h_=>zf h_) hb127 ⟨rfl,rfl⟩ (by kernel_rfl) (yB (by kernel_rfl)) (uY (by kernel_rfl)) hr_5) rfl hb126 rfl (by kernel_rfl) (by kernel_rfl) (by kernel_rfl) (by kernel_rfl) (by kernel_rfl) (by kernel_rfl) (by kernel_rfl) (by decide) (by kernel_rfl) wz (vB r_4) (by kernel_rfl) ([(n_3,some (.cells 1 [(vS id_2)]))]:Hp) (by kernel_rfl) (ae (vB r_4) wz rfl (ai ?_))
 obtain rfl:=ah hF
 exact ax (aR (.inr rfl) [(vB r_4)] ⟨rfl,trivial⟩ rfl rfl rfl)
section
variable [dM:DM]
theorem xI {x_1:Receipt} {y_2:Receipt} {r:Int} (hF:iQ x_1 y_2=some r) :
  FnM Tryz.prog 128 [(.d (.agg (Receipt.enc x_1))),(.d (.agg (Receipt.enc y_2)))] [] (vI r) []:=by
 refine FnM.of_wH ⟨Tryz.prog,20,[],[]⟩ rfl Tryz.func128 rfl rfl (lb_ rfl) (by kernel_rfl) ?_
 unfold iQ at hF
 refine af (aa (dW 0 (.inl rfl) [(vS x_1.Player),(vS x_1.Alert),(vI x_1.At),(vB x_1.Seen)] rfl rfl wz (λn_3=>dW 0 (.inl rfl) [(vS y_2.Player),(vS y_2.Alert),(vI y_2.At),(vB y_2.Seen)] rfl rfl wz (λn_4=>ae (vI 0) wz rfl (ai (af (af (bR (aF 0 0 (.inr (by kernel_rfl)) (λ_ _ ag=>trivial) jh oh rfl rfl (.d (.agg (Receipt.enc x_1))) rfl wz ?_)))))))))
 obtain ⟨r_5,hr_6,hF⟩:=bind_some hF
 refine aB (iZ hr_6) rfl Eg rfl rfl rfl rfl wz (aF 2 1 (.inr (by kernel_rfl)) (λ_ _ ag=>⟨.inl ⟨rfl,rfl⟩,trivial⟩) jh oh rfl rfl (.d (.agg (Receipt.enc y_2))) rfl wz ?_)
 obtain ⟨r_7,hr_8,hF⟩:=bind_some hF
 refine aB (iZ hr_8) rfl Eg rfl rfl rfl rfl wz ?_
 obtain ⟨r_9,hr_10,hF⟩:=bind_some hF
 refine aB (iw hr_10) rfl Nb rfl rfl rfl rfl wz (ae (vI r_9) wz rfl (ai (af (aa (ae (vI r_9) wz rfl (ae (vB (r_9 != 0)) wz rfl (ai ?_)))))))
 rcases ak hF with⟨hc_11,hF⟩|⟨hc_11,hF⟩
 ·refine aA rfl hc_11 (af (aa (ae (vI r_9) wz rfl (ae (vI r_9) wz rfl (ai ?_)))))
  obtain rfl:=ah hF
  exact ax (aR (.inr rfl) [(vI r_9)] ⟨rfl,trivial⟩ rfl rfl rfl)
 ·refine ay rfl hc_11 (au (af (aa (aI nD rfl 2 rfl wz (aF 0 0 il ft sz3 ag3 rfl rfl (vI x_1.At) rfl wz (aI nD rfl 2 rfl wz (aF 0 1 il ft sz3 ag3 rfl rfl (vI y_2.At) rfl wz (ae (vI (w64 (x_1.At-y_2.At))) wz rfl ?_))))))))
  obtain ⟨r_12,hr_13,hF⟩:=bind_some hF
  refine aB (AO hr_13) rfl hb129 rfl rfl rfl rfl wz (ae (vI r_12) wz rfl (ai ?_))
  obtain rfl:=ah hF
  exact ax (aR (.inr rfl) [(vI r_12)] ⟨rfl,trivial⟩ rfl rfl rfl)
end
theorem nI {x r:(List Receipt)} (hF:fH x=some r) :
  FnM Tryz.prog 111 [(dV (av 0) 4 x),(.fn 128 [])] (([]:List Box)++gI 4 Receipt.enc x) (.tup []) (([]:List Box).map some++gT x (gB 4 Receipt.enc r)) :=
 xx (E:=Receipt.enc) (F:=λa b=>iQ a b) (λ_=>rfl) (λa b r h=>xI (dM:=dmT) h) hb128 (λβ _ enc hk h1 cf hO g cb blk off cap d w eg hcmp hH hblk hsz=>Tryz.slices_SortFunc_eq_f111 4 Tryz.isAgg91 Tryz.sizeOf91 enc hk h1 cf hO g cb blk off cap d w eg hcmp hH hblk hsz) (λp cap fv w=>Tryz.slices_SortFunc_none_f111 (α:=Nat) p cap fv w) hF
theorem kM {s1_1:(List ByteArray)} {s2_2:(List ByteArray)} {r:Bool} (hF:cz s1_1 s2_2=some r) :
  FnM Tryz.prog 62 [(vL eS s1_1),(vL eS s2_2)] [] (vB r) []:=by
 refine FnM.of_wH ⟨Tryz.prog,26,[],[]⟩ rfl Tryz.func62 rfl rfl (lb_ rfl) (by kernel_rfl) ?_
 unfold cz at hF
 refine af (aa (ae (vB false) wz rfl (ai (af (af (aa (ae (vL eS s1_1) wz rfl (bN rA rfl wz (ae (vL eS s2_2) wz rfl (bN rA rfl wz (ae (vB ((s1_1.length:Int) != (s2_2.length:Int))) wz rfl (ai ?_))))))))))))
 rcases ak hF with⟨hc_3,hF⟩|⟨hc_3,hF⟩
 ·refine aA rfl hc_3 (af (aa (ae (vB false) wz rfl (ai ?_))))
  obtain rfl:=ah hF
  exact ax (aR (.inr rfl) [(vB false)] ⟨rfl,trivial⟩ rfl rfl rfl)
 ·refine ay rfl hc_3 (au (af (af (aa (ae (vL eS s1_1) wz rfl (bN rA rfl wz (ae (vI 0) wz rfl (ai ?_))))))))
  obtain ⟨o_12,hj_13,hF⟩:=bind_some hF
  obtain ⟨hn_8,hj_13⟩:=aU hj_13
  refine aG (β:=(Unit)) (λ(s_9:Unit)=>([]:SL_)) (λ(s_9:Unit)=>([]:Hp)) (λp=>o_12 = .go p) ?_ ?_
  ·refine aD (bf (β:=Nat×(List ByteArray)×(Unit)) (λp=>(λ(k_4:Nat) (l_5:List ByteArray) (s_9:Unit)=>([(0,(vL eS s1_1)),(1,(vL eS s2_2)),(12,(vI (s1_1.length:Int))),(13,(vI (k_4:Int)))]:SL_)) p.1 p.2.1 p.2.2) (λp=>(λ(k_4:Nat) (l_5:List ByteArray) (s_9:Unit)=>([]:Hp)) p.1 p.2.1 p.2.2) (λp=>forR (λk x s=>bQ s2_2 k x s) p.2.1 p.1 p.2.2=some o_12/\(s1_1).drop p.1=p.2.1) (λp=>p.2.1.length) (0,s1_1,()) ⟨hj_13,rfl⟩ rfl (aJ rfl) ?_)
   rintro ⟨k_4,l_5,s_9⟩ ⟨hL_11,hD_7⟩
   dsimp only at hL_11 hD_7
   cases l_5 with
   | nil =>
    obtain rfl:=ah hL_11
    refine af (aa (ae (vB (decide ((k_4:Int)<(s1_1.length:Int)))) wz rfl (ai ?_)))
    refine af (ay rfl (drop_nil hD_7) (aW ?_))
    exact aZ (s_9) rfl rfl (aJ rfl)
   | cons x_6 l_5 =>
    obtain ⟨c_,hc_10,hL_11⟩:=bind_some hL_11
    refine af (aa (ae (vB (decide ((k_4:Int)<(s1_1.length:Int)))) wz rfl (ai ?_)))
    refine af (aA rfl (aY hD_7) (au ?_))
    unfold bQ at hc_10
    refine af (aD (af (aa (ae (vI (k_4:Int)) wz rfl (ae (vI (k_4:Int)) wz rfl (ai (af (bR (ae (vL eS s1_1) wz rfl (ae (vI (k_4:Int)) wz rfl (fU jZ rfl rfl (bz hD_7) rfl wz (dn sz9 ag9 rfl (vS x_6) rfl wz (ae (vL eS s2_2) wz rfl (ae (vI (k_4:Int)) wz rfl ?_))))))))))))))
    obtain ⟨y_14,hy_15,hc_10⟩:=bind_some hc_10
    refine fU jZ rfl rfl hy_15 rfl wz (dn sz9 ag9 rfl (vS y_14) rfl wz (ae (vB (sNe x_6 y_14)) wz rfl (ai ?_)))
    rcases ak hc_10 with⟨hc_16,hc_10⟩|⟨hc_16,hc_10⟩
    ·refine aA rfl hc_16 (af (aa (ae (vB false) wz rfl (ai ?_))))
     obtain rfl:=ah hc_10
     obtain rfl:=ah hL_11
     obtain rfl:=ah hF
     exact ax (aR (.inr rfl) [(vB false)] ⟨rfl,trivial⟩ rfl rfl rfl)
    ·refine ay rfl hc_16 (au (aa (dX (bg hD_7 hn_8) wz rfl (ae (vI ((k_4+1:Nat):Int)) wz rfl (ai ?_)))))
     obtain rfl:=ah hc_10
     exact aV (k_4+1,l_5,()) ⟨hL_11,aQ hD_7⟩ (ls_ _) rfl (aJ rfl)
  ·rintro s_9 ho_ sl_ H_ hp_ hq_
   subst ho_
   refine aN _ hp_ hq_ (af (aa (ae (vB true) wz rfl (ai ?_))))
   obtain rfl:=ah hF
   exact ax (aR (.inr rfl) [(vB true)] ⟨rfl,trivial⟩ rfl rfl rfl)
theorem qN {x_1:Receipt} {y_2:Receipt} {r:Bool} (hF:iO x_1 y_2=some r) :
  FnM Tryz.prog 130 [(.d (.agg (Receipt.enc x_1))),(.d (.agg (Receipt.enc y_2)))] [] (vB r) []:=by
 refine FnM.of_wH ⟨Tryz.prog,10,[],[]⟩ rfl Tryz.func130 rfl rfl (lb_ rfl) (by kernel_rfl) ?_
 unfold iO at hF
 refine af (aa (dW 0 (.inl rfl) [(vS x_1.Player),(vS x_1.Alert),(vI x_1.At),(vB x_1.Seen)] rfl rfl wz (λn_3=>dW 0 (.inl rfl) [(vS y_2.Player),(vS y_2.Alert),(vI y_2.At),(vB y_2.Seen)] rfl rfl wz (λn_4=>ae (vB false) wz rfl (ai (af (bR (aF 0 0 (.inr (by kernel_rfl)) (λ_ _ ag=>trivial) jh oh rfl rfl (.d (.agg (Receipt.enc x_1))) rfl wz ?_))))))))
 obtain ⟨r_5,hr_6,hF⟩:=bind_some hF
 refine aB (iZ hr_6) rfl Eg rfl rfl rfl rfl wz (aF 2 1 (.inr (by kernel_rfl)) (λ_ _ ag=>⟨.inl ⟨rfl,rfl⟩,trivial⟩) jh oh rfl rfl (.d (.agg (Receipt.enc y_2))) rfl wz ?_)
 obtain ⟨r_7,hr_8,hF⟩:=bind_some hF
 refine aB (iZ hr_8) rfl Eg rfl rfl rfl rfl wz ?_
 obtain ⟨r_9,hr_10,hF⟩:=bind_some hF
 refine aB (kM hr_10) rfl hb62 rfl rfl rfl rfl wz (ae (vB r_9) wz rfl (ai ?_))
 obtain rfl:=ah hF
 exact ax (aR (.inr rfl) [(vB r_9)] ⟨rfl,trivial⟩ rfl rfl rfl)
theorem jM {s_1:(List Receipt)} {r:(List Receipt)} (hF:bL s_1=some r) :
  FnM Tryz.prog 115 [(dV (av 0) 4 s_1),(.fn 130 [])] (([]:List Box)++gI 4 Receipt.enc s_1) (vL Receipt.enc r) (([]:List Box).map some++gT s_1 none):=by
 refine FnM.of_wHv ⟨Tryz.prog,66,[],[]⟩ rfl Tryz.func115 rfl rfl (lb_ rfl) (by kernel_rfl) ?_
 unfold bL at hF
 refine af (aa (ae .nil wz rfl (ai (af (af (aa (ae (dV (av 0) 4 s_1) wz rfl (BP nE rfl wz (ae (vB (decide ((s_1.length:Int)<2))) wz rfl (ai ?_))))))))))
 rcases ak hF with⟨hc_3,hF⟩|⟨hc_3,hF⟩
 ·refine aA rfl hc_3 (af (aa (ae (dV (av 0) 4 s_1) wz rfl (ae (dV (av 0) 4 s_1) wz rfl (ai (jv 0 rfl (oO 0 0 rfl rfl (oO 4 0 rfl rfl (oO 8 0 rfl rfl (oO 11 0 rfl rfl (xy (i:=0) rfl ?_)))))))))))
  obtain rfl:=ah hF
  exact ax (DN (bs:=([]:List Box)) (os:=([]:List Box)) (xs:=s_1) (o:=none) (.inr rfl) [(vL Receipt.enc s_1)] ⟨rfl,trivial⟩ rfl rfl rfl rfl rfl (by kernel_rfl) sW rfl)
 ·refine ay rfl hc_3 (au (af (af (aa (ae (vI 1) wz rfl (ai ?_))))))
  obtain ⟨o_12,hj_13,hF⟩:=bind_some hF
  obtain ⟨nq_57,hj_13⟩:=iR hj_13
  refine aG (β:=(Int)) (λ(s_9:Int)=>([(0,(dV (av 0) 4 s_1))]:SL_)) (λ(s_9:Int)=>([((av 0),gB 4 Receipt.enc s_1)]:Hp)) (λp=>o_12 = .go p) ?_ ?_
  ·refine aD (bf (β:=Nat×(Int)) (λp=>(λ(k_4:Nat) (s_9:Int)=>([(0,(dV (av 0) 4 s_1)),(1,(.fn 130 [])),(5,(vI s_9))]:SL_)) p.1 p.2) (λp=>(λ(k_4:Nat) (s_9:Int)=>([((av 0),gB 4 Receipt.enc s_1)]:Hp)) p.1 p.2) (λp=>iterN (λs=>bD s_1 s) p.1 p.2=some o_12) (λp=>p.1) (nq_57,1) hj_13 rfl (aJ rfl) ?_)
   rintro ⟨k_4,s_9⟩ hL_11
   dsimp only at hL_11
   cases k_4 with
   | zero=>cases hL_11
   | succ k_4 =>
    obtain ⟨c_,hc_10,hL_11⟩:=bind_some hL_11
    unfold bD at hc_10
    refine af (af (aa (ae (vI s_9) wz rfl (ae (dV (av 0) 4 s_1) wz rfl (BP nE rfl wz (ae (vB (decide (s_9<(s_1.length:Int)))) wz rfl (ai ?_)))))))
    rcases ak hc_10 with⟨hc_14,hc_10⟩|⟨hc_14,hc_10⟩
    ·refine aA rfl hc_14 (au (af (aD (af (bR (ae (.fn 130 []) wz rfl (ae (dV (av 0) 4 s_1) wz rfl (ae (vI s_9) wz rfl ?_))))))))
     obtain ⟨_,hi_15,hc_10⟩:=bind_some hc_10
     refine tL qQ rfl rfl (qx hi_15) (mq hi_15) wz ?_
     obtain ⟨e_16,hy_17,hc_10⟩:=bind_some hc_10
     refine oP 4 0 (.inr (by kernel_rfl)) (λ_ _ ag=>trivial) jh oh rfl rfl hy_17 (.d (.agg (Receipt.enc e_16))) rfl wz (ae (dV (av 0) 4 s_1) wz rfl (ae (vI s_9) wz rfl (ae (vI (w64 (s_9-1))) wz rfl ?_)))
     obtain ⟨_,hi_18,hc_10⟩:=bind_some hc_10
     refine tL qQ rfl rfl (qx hi_18) (mq hi_18) wz ?_
     obtain ⟨e_19,hy_20,hc_10⟩:=bind_some hc_10
     refine oP 9 0 (.inr (by kernel_rfl)) (λ_ _ ag=>⟨.inl ⟨rfl,rfl⟩,trivial⟩) jh oh rfl rfl hy_20 (.d (.agg (Receipt.enc e_19))) rfl wz ?_
     obtain ⟨r_21,hr_22,hc_10⟩:=bind_some hc_10
     refine aB (qN hr_22) rfl hb130 rfl rfl rfl rfl wz (ai ?_)
     rcases ak hc_10 with⟨hc_23,hc_10⟩|⟨hc_23,hc_10⟩
     ·refine aA rfl hc_23 (af (aa (ae (dV (av 0) 4 s_1) wz rfl (ae (vI s_9) wz rfl ?_))))
      obtain ⟨_,hn_24,hc_10⟩:=bind_some hc_10
      replace hn_24:=M5 hn_24
      refine dK (v':=(vV (av 0) 4 s_1)) 0 rfl (qd hn_24) (dK (v':=(vV (av 0) 4 s_1)) 13 rfl (qd hn_24) (dK (v':=(vV (av 0) 4 s_1)) 19 rfl (qd hn_24) (dK (v':=(vV (av 0) 4 s_1)) 23 rfl (qd hn_24) (dK (v':=(vV (av 0) 4 s_1)) 29 rfl (qd hn_24) (Ef 0 rfl (JW hn_24) ?_)))))
      obtain ⟨_,hr_25,hc_10⟩:=bind_some hc_10
      refine yI nE jh rfl rfl hr_25 wz (ae (.vs (av 0) 4 ((s_9).toNat) (((s_1.length:Int)).toNat-(s_9).toNat)) wz rfl (ai (af (af (aa (ae (vI 1) wz rfl (ai ?_)))))))
      obtain ⟨o_34,hj_35,hc_10⟩:=bind_some hc_10
      obtain ⟨nq_56,hj_35⟩:=iR hj_35
      refine aG (β:=((List Receipt)×Int×Int)) (λ(s_31:(List Receipt)×Int×Int)=>([(0,(vV (av 0) 4 s_31.1)),(5,(vI s_31.2.1))]:SL_)) (λ(s_31:(List Receipt)×Int×Int)=>([((av 0),some (bV 4 Receipt.enc s_31.1))]:Hp)) (λp=>o_34 = .go p) ?_ ?_
      ·refine aD (bf (β:=Nat×((List Receipt)×Int×Int)) (λp=>(λ(k_26:Nat) (s_31:(List Receipt)×Int×Int)=>([(0,(vV (av 0) 4 s_31.1)),(1,(.fn 130 [])),(5,(vI s_31.2.1)),(6,(.vs (av 0) 4 ((s_9).toNat) (((s_1.length:Int)).toNat-(s_9).toNat))),(7,(vI s_31.2.2))]:SL_)) p.1 p.2) (λp=>(λ(k_26:Nat) (s_31:(List Receipt)×Int×Int)=>([((av 0),some (bV 4 Receipt.enc s_31.1))]:Hp)) p.1 p.2) (λp=>iterN (λs=>bC s_1 s_9 s) p.1 p.2=some o_34) (λp=>p.1) (nq_56,(s_1,s_9,1)) hj_35 rfl (aJ rfl) ?_)
       rintro ⟨k_26,s_31⟩ hL_33
       dsimp only at hL_33
       cases k_26 with
       | zero=>cases hL_33
       | succ k_26 =>
        obtain ⟨c_,hc_32,hL_33⟩:=bind_some hL_33
        unfold bC at hc_32
        refine af (af (aa (ae (vI s_31.2.2) wz rfl (ae (.vs (av 0) 4 ((s_9).toNat) (((s_1.length:Int)).toNat-(s_9).toNat)) wz rfl (LH nE rfl wz (ae (vB (decide (s_31.2.2<(((((s_1.length:Int)).toNat-(s_9).toNat):Nat):Int)))) wz rfl (ai ?_)))))))
        rcases ak hc_32 with⟨hc_36,hc_32⟩|⟨hc_36,hc_32⟩
        ·refine aA rfl hc_36 (au (af (aD (af (bR (ae (.fn 130 []) wz rfl (ae (.vs (av 0) 4 ((s_9).toNat) (((s_1.length:Int)).toNat-(s_9).toNat)) wz rfl (ae (vI s_31.2.2) wz rfl ?_))))))))
         obtain ⟨_,hi_37,hc_32⟩:=bind_some hc_32
         refine xS qQ rfl rfl (DW hi_37) (zA hi_37) wz ?_
         obtain ⟨e_38,hy_39,hc_32⟩:=bind_some hc_32
         refine BO 4 0 (.inr (by kernel_rfl)) (λ_ _ ag=>trivial) jh oh rfl rfl hy_39 (.d (.agg (Receipt.enc e_38))) rfl wz (ae (.vs (av 0) 4 ((s_9).toNat) (((s_1.length:Int)).toNat-(s_9).toNat)) wz rfl (ae (vI s_31.2.2) wz rfl (ae (vI (w64 (s_31.2.2-1))) wz rfl ?_)))
         obtain ⟨_,hi_40,hc_32⟩:=bind_some hc_32
         refine xS qQ rfl rfl (DW hi_40) (zA hi_40) wz ?_
         obtain ⟨e_41,hy_42,hc_32⟩:=bind_some hc_32
         refine BO 9 0 (.inr (by kernel_rfl)) (λ_ _ ag=>⟨.inl ⟨rfl,rfl⟩,trivial⟩) jh oh rfl rfl hy_42 (.d (.agg (Receipt.enc e_41))) rfl wz ?_
         obtain ⟨r_43,hr_44,hc_32⟩:=bind_some hc_32
         refine aB (qN hr_44) rfl hb130 rfl rfl rfl rfl wz (ae (vB (!r_43)) wz rfl (ai ?_))
         obtain ⟨v_45,h_46,hc_32⟩:=bind_some hc_32
         refine aG (β:=Unit) (λ_=>([(0,(vV (av 0) 4 v_45.1)),(1,(.fn 130 [])),(5,(vI v_45.2)),(6,(.vs (av 0) 4 ((s_9).toNat) (((s_1.length:Int)).toNat-(s_9).toNat))),(7,(vI s_31.2.2))]:SL_)) (λ_=>([((av 0),some (bV 4 Receipt.enc v_45.1))]:Hp)) (λ_=>True) ?_ ?_
         ·rcases ak h_46 with⟨hc_47,h_46⟩|⟨hc_47,h_46⟩
          ·refine aA rfl hc_47 (af (aa (ae (vV (av 0) 4 s_31.1) wz rfl (ae (vI s_31.2.1) wz rfl (ae (.vs (av 0) 4 ((s_9).toNat) (((s_1.length:Int)).toNat-(s_9).toNat)) wz rfl (ae (vI s_31.2.2) wz rfl ?_))))))
           obtain ⟨_,hi_48,h_46⟩:=bind_some h_46
           refine xS qQ rfl rfl (DW hi_48) (zA hi_48) wz ?_
           obtain ⟨e_49,hy_50,h_46⟩:=bind_some h_46
           refine BO 0 0 il ft jh oh rfl rfl hy_50 (.d (.agg (Receipt.enc e_49))) rfl wz ?_
           obtain ⟨_,hi_51,h_46⟩:=bind_some h_46
           refine xS qQ rfl rfl (qx hi_51) (mq hi_51) wz ?_
           obtain ⟨e_52,hy_53,h_46⟩:=bind_some h_46
           refine Ma 0 il ft 0 jh rfl rfl hy_53 e_49 rfl wz (dK (v':=(vV (av 0) 4 (s_31.1.set (0+(s_31.2.1).toNat) e_49))) 0 rfl (wB (by simp)) (dK (v':=(vV (av 0) 4 (s_31.1.set (0+(s_31.2.1).toNat) e_49))) 50 rfl (wB (by simp)) (ai (aa (ae (vI s_31.2.1) wz rfl (ae (vI (w64 (s_31.2.1+1))) wz rfl (ae (vI (w64 (s_31.2.1+1))) wz rfl (ai ?_))))))))
           obtain rfl:=ah h_46
           exact cu
          ·refine ay rfl hc_47 (au ?_)
           obtain rfl:=ah h_46
           exact cu
         ·rintro ⟨⟩ _ sl_ H_ hp_ hq_
          refine aN _ hp_ hq_ (aa (ae (vI s_31.2.2) wz rfl (ae (vI (w64 (s_31.2.2+1))) wz rfl (ae (vI (w64 (s_31.2.2+1))) wz rfl (ai ?_)))))
          obtain rfl:=ah hc_32
          exact aV (k_26,(v_45.1,v_45.2,(w64 (s_31.2.2+1)))) hL_33 (ls_ _) rfl (aJ rfl)
        ·refine ay rfl hc_36 (aW ?_)
         obtain rfl:=ah hc_32
         obtain rfl:=ah hL_33
         exact aZ ((s_31.1,s_31.2.1,s_31.2.2)) rfl rfl (aJ rfl)
      ·rintro s_31 ho_ sl_ H_ hp_ hq_
       subst ho_
       refine aN _ hp_ hq_ (af (aa (ae (vV (av 0) 4 s_31.1) wz rfl (ae (vI s_31.2.1) wz rfl ?_))))
       obtain ⟨_,hr_54,hc_10⟩:=bind_some hc_10
       refine yI nE jh rfl rfl hr_54 wz (JN (i:=0) 0 il ft (⟨(⟨#[]⟩:ByteArray),(⟨#[]⟩:ByteArray),0,false⟩:Receipt) Fv jh z91 rfl rfl rfl (by decide) rfl (qa hr_54) rfl wz (dK (v':=(vV (av 0) 4 (s_31.1.take ((s_31.2.1).toNat)++List.replicate (((s_31.1.length:Int)).toNat-(s_31.2.1).toNat) (⟨(⟨#[]⟩:ByteArray),(⟨#[]⟩:ByteArray),0,false⟩:Receipt)++s_31.1.drop (((s_31.2.1).toNat)+(((s_31.1.length:Int)).toNat-(s_31.2.1).toNat))))) 0 rfl (wB (xm (qa hr_54))) (dK (v':=(vV (av 0) 4 (s_31.1.take ((s_31.2.1).toNat)++List.replicate (((s_31.1.length:Int)).toNat-(s_31.2.1).toNat) (⟨(⟨#[]⟩:ByteArray),(⟨#[]⟩:ByteArray),0,false⟩:Receipt)++s_31.1.drop (((s_31.2.1).toNat)+(((s_31.1.length:Int)).toNat-(s_31.2.1).toNat))))) 59 rfl (wB (xm (qa hr_54))) (ai (af (aa (ae (vV (av 0) 4 (s_31.1.take ((s_31.2.1).toNat)++List.replicate (((s_31.1.length:Int)).toNat-(s_31.2.1).toNat) (⟨(⟨#[]⟩:ByteArray),(⟨#[]⟩:ByteArray),0,false⟩:Receipt)++s_31.1.drop (((s_31.2.1).toNat)+(((s_31.1.length:Int)).toNat-(s_31.2.1).toNat)))) wz rfl (ae (vI s_31.2.1) wz rfl ?_))))))))
       obtain ⟨_,hr_55,hc_10⟩:=bind_some hc_10
       refine Gm nE jh rfl rfl hr_55 wz (ae (.vs (av 0) 4 0 ((s_31.2.1).toNat)) wz rfl (ai (EZ 0 rfl (AV 0 0 rfl rfl (FN 4 0 rfl rfl (qa hr_55) (AV 59 0 rfl rfl (AV 62 0 rfl rfl (FN 64 0 rfl rfl (qa hr_55) (xy (i:=0) rfl ?_)))))))))
       obtain rfl:=ah hc_10
       obtain rfl:=ah hL_11
       obtain rfl:=ah hF
       exact ax (DN (bs:=([]:List Box)) (os:=([]:List Box)) (xs:=s_1) (o:=none) (.inr rfl) [(vL Receipt.enc (Ka (s_31.1.take ((s_31.2.1).toNat)++List.replicate (((s_31.1.length:Int)).toNat-(s_31.2.1).toNat) (⟨(⟨#[]⟩:ByteArray),(⟨#[]⟩:ByteArray),0,false⟩:Receipt)++s_31.1.drop (((s_31.2.1).toNat)+(((s_31.1.length:Int)).toNat-(s_31.2.1).toNat))) 0 ((s_31.2.1).toNat)))] ⟨rfl,trivial⟩ rfl rfl rfl rfl rfl (by kernel_rfl) sW rfl)
     ·refine ay rfl hc_23 (au (aa (ae (vI s_9) wz rfl (ae (vI (w64 (s_9+1))) wz rfl (ae (vI (w64 (s_9+1))) wz rfl (ai ?_))))))
      obtain rfl:=ah hc_10
      exact aV (k_4,(w64 (s_9+1))) hL_11 (ls_ _) rfl (aJ rfl)
    ·refine ay rfl hc_14 (aW ?_)
     obtain rfl:=ah hc_10
     obtain rfl:=ah hL_11
     exact aZ (s_9) rfl rfl (aJ rfl)
  ·rintro s_9 ho_ sl_ H_ hp_ hq_
   subst ho_
   refine aN _ hp_ hq_ (af (aa (ae (dV (av 0) 4 s_1) wz rfl (ae (dV (av 0) 4 s_1) wz rfl (ai (jv 0 rfl (oO 0 0 rfl rfl (oO 4 0 rfl rfl (oO 65 0 rfl rfl (xy (i:=0) rfl ?_))))))))))
   obtain rfl:=ah hF
   exact ax (DN (bs:=([]:List Box)) (os:=([]:List Box)) (xs:=s_1) (o:=none) (.inr rfl) [(vL Receipt.enc s_1)] ⟨rfl,trivial⟩ rfl rfl rfl rfl rfl (by kernel_rfl) sW rfl)
theorem y8 {a_1:(List Receipt)} {b_2:(List Receipt)} {r:(List Receipt)×Int} (hF:kC a_1 b_2=some r) :
  FnM Tryz.prog 56 [(vL Receipt.enc a_1),(vL Receipt.enc b_2)] [] (.tup [(vL Receipt.enc r.1),(vI r.2)]) []:=by
 refine FnM.of_wH ⟨Tryz.prog,19,[],[]⟩ rfl Tryz.func56 rfl rfl (lb_ rfl) (by kernel_rfl) ?_
 unfold kC at hF
 refine af (aa (ae .nil wz rfl (ae (vI 0) wz rfl (ai (af (aa (ae (vL Receipt.enc a_1) wz rfl (ae (vL Receipt.enc b_2) wz rfl (dQ (([a_1,b_2]:List (List Receipt)).map (eL Receipt.enc)) JE ez253 rfl rfl rfl rfl rfl wz ?_)))))))))
 obtain ⟨r_3,hr_4,hF⟩:=bind_some hF
 refine Bi [] (gQ hr_4) rfl hb110 rfl (by kernel_rfl) (by kernel_rfl) (by kernel_rfl) (by kernel_rfl) (by kernel_rfl) rfl (by decide) (by kernel_rfl) wz ([]:Hp) (λ_=>by kernel_rfl) (λn_6=>ae (gV n_6 4 r_3) wz rfl (ai (af (aa (ae (gV n_6 4 r_3) wz rfl ?_)))))
 obtain ⟨r_7,hr_8,hF⟩:=bind_some hF
 obtain ⟨_,hs_9,hF⟩:=bind_some hF
 replace hs_9:=rH hs_9
 refine qY 0 [] 0 0 il ft (nI hr_8) rfl hb111 rfl rfl rfl (by kernel_rfl) rfl (.inl rfl) rfl (by kernel_rfl) (by kernel_rfl) (by kernel_rfl) (by kernel_rfl) rfl (by decide) (by kernel_rfl) wy (BS hs_9) wz ([(n_6,gB 4 Receipt.enc r_7)]:Hp) (by kernel_rfl) (dK (v':=(gV n_6 4 r_7)) 10 rfl (bU hs_9.symm) (dK (v':=(gV n_6 4 r_7)) 11 rfl (bU hs_9.symm) (dK (v':=(gV n_6 4 r_7)) 6 rfl (bU hs_9.symm) (ai (af (aa (ae (gV n_6 4 r_7) wz rfl ?_)))))))
 obtain ⟨r_10,hr_11,hF⟩:=bind_some hF
 refine qY 0 [] 0 0 il ft (jM hr_11) rfl hb115 rfl rfl rfl (by kernel_rfl) rfl (.inl rfl) rfl (by kernel_rfl) (by kernel_rfl) (by kernel_rfl) (by kernel_rfl) rfl (by decide) (by kernel_rfl) sW (λ_=>rfl) wz ([(n_6,none)]:Hp) (by kernel_rfl) (ae (vL Receipt.enc r_10) wz rfl (ai (af (af (aa (ae (vL Receipt.enc r_10) wz rfl (bN nE rfl wz (ae (vB (decide ((r_10.length:Int)>2000))) wz rfl (ai ?_)))))))))
 rcases ak hF with⟨hc_12,hF⟩|⟨hc_12,hF⟩
 ·refine aA rfl hc_12 (af (aa (ae .nil wz rfl (ae (vI 2) wz rfl (ai ?_)))))
  obtain rfl:=ah hF
  exact ax (aR (.inr rfl) [.nil,(vI 2)] ⟨rfl,⟨rfl,trivial⟩⟩ rfl rfl rfl)
 ·refine ay rfl hc_12 (au (af (aa (ae (vL Receipt.enc r_10) wz rfl (ae (vL Receipt.enc r_10) wz rfl (ae (vI 0) wz rfl (ai ?_)))))))
  obtain rfl:=ah hF
  exact ax (aR (.inr rfl) [(vL Receipt.enc r_10),(vI 0)] ⟨rfl,⟨rfl,trivial⟩⟩ rfl rfl rfl)
theorem Cw {r_1:(List Receipt)} {player_2:ByteArray} {id_3:ByteArray} {atv_4:Int} {r:Int} (hF:wY r_1 player_2 id_3 atv_4=some r) :
  FnM Tryz.prog 131 [(vL Receipt.enc r_1),(vS player_2),(vS id_3),(vI atv_4)] [] (vI r) []:=by
 refine FnM.of_wH ⟨Tryz.prog,48,[],[]⟩ rfl Tryz.func131 rfl rfl (lb_ rfl) (by kernel_rfl) ?_
 unfold wY at hF
 refine af (aa (ae (vI 0) wz rfl (ai (af (aa (ae (vI (-1)) wz rfl (ai (af (af (aa (ae (vL Receipt.enc r_1) wz rfl (bN nE rfl wz (ae (vI 0) wz rfl (ai ?_))))))))))))))
 obtain ⟨o_13,hj_14,hF⟩:=bind_some hF
 obtain ⟨hn_9,hj_14⟩:=aU hj_14
 refine aG (β:=(Int)) (λ(s_10:Int)=>([(9,(vI s_10))]:SL_)) (λ(s_10:Int)=>([]:Hp)) (λp=>o_13 = .go p) ?_ ?_
 ·refine aD (bf (β:=Nat×(List Receipt)×(Int)) (λp=>(λ(k_5:Nat) (l_6:List Receipt) (s_10:Int)=>([(1,(vS player_2)),(2,(vS id_3)),(3,(vI atv_4)),(9,(vI s_10)),(12,(vL Receipt.enc r_1)),(13,(vI (r_1.length:Int))),(14,(vI (k_5:Int)))]:SL_)) p.1 p.2.1 p.2.2) (λp=>(λ(k_5:Nat) (l_6:List Receipt) (s_10:Int)=>([]:Hp)) p.1 p.2.1 p.2.2) (λp=>forR (λk x s=>sK player_2 id_3 atv_4 k x s) p.2.1 p.1 p.2.2=some o_13/\(r_1).drop p.1=p.2.1) (λp=>p.2.1.length) (0,r_1,(-1)) ⟨hj_14,rfl⟩ rfl (aJ rfl) ?_)
  rintro ⟨k_5,l_6,s_10⟩ ⟨hL_12,hD_8⟩
  dsimp only at hL_12 hD_8
  cases l_6 with
  | nil =>
   obtain rfl:=ah hL_12
   refine af (aa (ae (vB (decide ((k_5:Int)<(r_1.length:Int)))) wz rfl (ai ?_)))
   refine af (ay rfl (drop_nil hD_8) (aW ?_))
   exact aZ (s_10) rfl rfl (aJ rfl)
  | cons x_7 l_6 =>
   obtain ⟨c_,hc_11,hL_12⟩:=bind_some hL_12
   refine af (aa (ae (vB (decide ((k_5:Int)<(r_1.length:Int)))) wz rfl (ai ?_)))
   refine af (aA rfl (aY hD_8) (au ?_))
   unfold sK at hc_11
   refine af (aD (af (aa (fU qQ rfl rfl (bz hD_8) rfl wz (dn jh oh rfl (.d (.agg (Receipt.enc x_7))) rfl wz (cK 0 (.inl rfl) z91 rfl wz (λn_15=>dJ 0 il ft 0 jh rfl rfl [(vS x_7.Player),(vS x_7.Alert),(vI x_7.At),(vB x_7.Seen)] rfl wz (ai (af ?_)))))))))
   obtain ⟨v_16,h_17,hc_11⟩:=bind_some hc_11
   refine aG (β:=Unit) (λ_=>([(1,(vS player_2)),(2,(vS id_3)),(3,(vI atv_4)),(9,(vI s_10)),(11,(.ref n_15 0 0)),(12,(vL Receipt.enc r_1)),(13,(vI (r_1.length:Int))),(14,(vI (k_5:Int))),(43,(vB v_16))]:SL_)) (λ_=>([(n_15,some (.cells 4 [(vS x_7.Player),(vS x_7.Alert),(vI x_7.At),(vB x_7.Seen)]))]:Hp)) (λ_=>True) ?_ ?_
   ·refine aa (aI rZ rfl 0 rfl wz (aF 0 0 il ft sz9 ag9 rfl rfl (vS x_7.Player) rfl wz (ae (vS player_2) wz rfl (ae (vB (sEq x_7.Player player_2)) wz rfl ?_))))
    rcases ak h_17 with⟨hc_18,h_17⟩|⟨hc_18,h_17⟩
    ·refine aC rfl hc_18 wz (aI sN rfl 1 rfl wa (aF 0 0 il ft sz9 ag9 rfl rfl (vS x_7.Alert) rfl wa (ae (vS id_3) wa rfl (ae (vB (sEq x_7.Alert id_3)) wa rfl (ae (vB (sEq x_7.Alert id_3)) wz rfl ?_)))))
     rcases ak h_17 with⟨hc_19,h_17⟩|⟨hc_19,h_17⟩
     ·refine aC rfl hc_19 wz (aI nD rfl 2 rfl wa (aF 0 0 il ft sz3 ag3 rfl rfl (vI x_7.At) rfl wa (ae (vI atv_4) wa rfl (ae (vB (decide (x_7.At<=atv_4))) wa rfl (ae (vB (decide (x_7.At<=atv_4))) wz rfl ?_)))))
      rcases ak h_17 with⟨hc_20,h_17⟩|⟨hc_20,h_17⟩
      ·refine aC rfl hc_20 wz (ae (vI s_10) wa rfl (ae (vB (decide (s_10<0))) wa rfl ?_))
       rcases ak h_17 with⟨hc_21,h_17⟩|⟨hc_21,h_17⟩
       ·refine aC rfl hc_21 wa (aj wa (aj wa (aj wa (aj wa (ae (vB true) wa rfl (ae (vB true) wz rfl (ai ?_)))))))
        obtain rfl:=ah h_17
        exact cu
       ·refine aC rfl hc_21 wa (aI nD rfl 2 rfl wa (aF 0 0 il ft sz3 ag3 rfl rfl (vI x_7.At) rfl wa (ae (vI s_10) wa rfl (ae (vB (decide (x_7.At<s_10))) wa rfl (ae (vB (decide (x_7.At<s_10))) wa rfl (ae (vB (decide (x_7.At<s_10))) wz rfl (ai ?_)))))))
        obtain rfl:=ah h_17
        exact cu
      ·refine aC rfl hc_20 wz (aj wa (aj wa (aj wa (aj (wn rfl rfl) (aj (wn rfl rfl) (aj (wn rfl rfl) (aj (wn rfl rfl) (aj wa (ae (vB false) wz rfl (ai ?_))))))))))
       obtain rfl:=ah h_17
       exact cu
     ·refine aC rfl hc_19 wz (aj wa (aj wa (aj wa (aj wa (ae (vB false) wz rfl (ae (vB false) wz rfl (aj wa (aj wa (aj wa (aj (wn rfl rfl) (aj (wn rfl rfl) (aj (wn rfl rfl) (aj (wn rfl rfl) (aj wa (ae (vB false) wz rfl (ai ?_))))))))))))))))
      obtain rfl:=ah h_17
      exact cu
    ·refine aC rfl hc_18 wz (aj wa (aj wa (aj wa (aj wa (ae (vB false) wz rfl (ae (vB false) wz rfl (aj wa (aj wa (aj wa (aj wa (ae (vB false) wz rfl (ae (vB false) wz rfl (aj wa (aj wa (aj wa (aj (wn rfl rfl) (aj (wn rfl rfl) (aj (wn rfl rfl) (aj (wn rfl rfl) (aj wa (ae (vB false) wz rfl (ai ?_))))))))))))))))))))))
     obtain rfl:=ah h_17
     exact cu
   ·rintro ⟨⟩ _ sl_ H_ hp_ hq_
    refine aN _ hp_ hq_ ?_
    obtain ⟨v_22,h_23,hc_11⟩:=bind_some hc_11
    refine aG (β:=Unit) (λ_=>([(1,(vS player_2)),(2,(vS id_3)),(3,(vI atv_4)),(9,(vI v_22)),(12,(vL Receipt.enc r_1)),(13,(vI (r_1.length:Int))),(14,(vI (k_5:Int)))]:SL_)) (λ_=>([(n_15,some (.cells 4 [(vS x_7.Player),(vS x_7.Alert),(vI x_7.At),(vB x_7.Seen)]))]:Hp)) (λ_=>True) ?_ ?_
    ·rcases ak h_23 with⟨hc_24,h_23⟩|⟨hc_24,h_23⟩
     ·refine aA rfl hc_24 (aa (aI nD rfl 2 rfl wz (aF 0 0 il ft sz3 ag3 rfl rfl (vI x_7.At) rfl wz (ae (vI x_7.At) wz rfl (ai ?_)))))
      obtain rfl:=ah h_23
      exact cu
     ·refine ay rfl hc_24 (au ?_)
      obtain rfl:=ah h_23
      exact cu
    ·rintro ⟨⟩ _ sl_ H_ hp_ hq_
     refine aN _ hp_ hq_ (aa (dX (bg hD_8 hn_9) wz rfl (ae (vI ((k_5+1:Nat):Int)) wz rfl (ai ?_))))
     obtain rfl:=ah hc_11
     exact aV (k_5+1,l_6,v_22) ⟨hL_12,aQ hD_8⟩ (ls_ _) rfl (aJ rfl)
 ·rintro s_10 ho_ sl_ H_ hp_ hq_
  subst ho_
  refine aN _ hp_ hq_ (af (aa (ae (vI s_10) wz rfl (ae (vI s_10) wz rfl (ai ?_)))))
  obtain rfl:=ah hF
  exact ax (aR (.inr rfl) [(vI s_10)] ⟨rfl,trivial⟩ rfl rfl rfl)
theorem qh {s_1:(List ByteArray)} {v_2:ByteArray} {r:Int} (hF:gU s_1 v_2=some r) :
  FnM Tryz.prog 259 [(vL eS s_1),(vS v_2)] [] (vI r) []:=by
 refine FnM.of_wH ⟨Tryz.prog,19,[],[]⟩ rfl Tryz.func259 rfl rfl (lb_ rfl) (by kernel_rfl) ?_
 unfold gU at hF
 refine af (aa (ae (vI 0) wz rfl (ai (af (af (aa (ae (vL eS s_1) wz rfl (bN rA rfl wz (ae (vI 0) wz rfl (ai ?_))))))))))
 obtain ⟨o_11,hj_12,hF⟩:=bind_some hF
 obtain ⟨hn_7,hj_12⟩:=aU hj_12
 refine aG (β:=(Unit)) (λ(s_8:Unit)=>([]:SL_)) (λ(s_8:Unit)=>([]:Hp)) (λp=>o_11 = .go p) ?_ ?_
 ·refine aD (bf (β:=Nat×(List ByteArray)×(Unit)) (λp=>(λ(k_3:Nat) (l_4:List ByteArray) (s_8:Unit)=>([(0,(vL eS s_1)),(1,(vS v_2)),(7,(vI (s_1.length:Int))),(8,(vI (k_3:Int)))]:SL_)) p.1 p.2.1 p.2.2) (λp=>(λ(k_3:Nat) (l_4:List ByteArray) (s_8:Unit)=>([]:Hp)) p.1 p.2.1 p.2.2) (λp=>forR (λk x s=>gp v_2 k x s) p.2.1 p.1 p.2.2=some o_11/\(s_1).drop p.1=p.2.1) (λp=>p.2.1.length) (0,s_1,()) ⟨hj_12,rfl⟩ rfl (aJ rfl) ?_)
  rintro ⟨k_3,l_4,s_8⟩ ⟨hL_10,hD_6⟩
  dsimp only at hL_10 hD_6
  cases l_4 with
  | nil =>
   obtain rfl:=ah hL_10
   refine af (aa (ae (vB (decide ((k_3:Int)<(s_1.length:Int)))) wz rfl (ai ?_)))
   refine af (ay rfl (drop_nil hD_6) (aW ?_))
   exact aZ (s_8) rfl rfl (aJ rfl)
  | cons x_5 l_4 =>
   obtain ⟨c_,hc_9,hL_10⟩:=bind_some hL_10
   refine af (aa (ae (vB (decide ((k_3:Int)<(s_1.length:Int)))) wz rfl (ai ?_)))
   refine af (aA rfl (aY hD_6) (au ?_))
   unfold gp at hc_9
   refine af (aD (af (aa (ae (vI (k_3:Int)) wz rfl (ae (vI (k_3:Int)) wz rfl (ai (af (aa (ae (vS v_2) wz rfl (ae (vL eS s_1) wz rfl (ae (vI (k_3:Int)) wz rfl (fU jZ rfl rfl (bz hD_6) rfl wz (dn sz9 ag9 rfl (vS x_5) rfl wz (ae (vB (sEq v_2 x_5)) wz rfl (ai ?_)))))))))))))))
   rcases ak hc_9 with⟨hc_13,hc_9⟩|⟨hc_13,hc_9⟩
   ·refine aA rfl hc_13 (af (aa (ae (vI (k_3:Int)) wz rfl (ae (vI (k_3:Int)) wz rfl (ai ?_)))))
    obtain rfl:=ah hc_9
    obtain rfl:=ah hL_10
    obtain rfl:=ah hF
    exact ax (aR (.inr rfl) [(vI (k_3:Int))] ⟨rfl,trivial⟩ rfl rfl rfl)
   ·refine ay rfl hc_13 (au (aa (dX (bg hD_6 hn_7) wz rfl (ae (vI ((k_3+1:Nat):Int)) wz rfl (ai ?_)))))
    obtain rfl:=ah hc_9
    exact aV (k_3+1,l_4,()) ⟨hL_10,aQ hD_6⟩ (ls_ _) rfl (aJ rfl)
 ·rintro s_8 ho_ sl_ H_ hp_ hq_
  subst ho_
  refine aN _ hp_ hq_ (af (aa (ae (vI (-1)) wz rfl (ai ?_))))
  obtain rfl:=ah hF
  exact ax (aR (.inr rfl) [(vI (-1))] ⟨rfl,trivial⟩ rfl rfl rfl)
theorem oo {s_1:(List ByteArray)} {v_2:ByteArray} {r:Bool} (hF:eT s_1 v_2=some r) :
  FnM Tryz.prog 189 [(vL eS s_1),(vS v_2)] [] (vB r) []:=by
 refine FnM.of_wH ⟨Tryz.prog,9,[],[]⟩ rfl Tryz.func189 rfl rfl (lb_ rfl) (by kernel_rfl) ?_
 unfold eT at hF
 refine af (aa (ae (vB false) wz rfl (ai (af (aa (ae (vL eS s_1) wz rfl (ae (vS v_2) wz rfl ?_)))))))
 obtain ⟨r_3,hr_4,hF⟩:=bind_some hF
 refine aB (qh hr_4) rfl hb259 rfl rfl rfl rfl wz (ae (vB (decide (r_3>=0))) wz rfl (ae (vB (decide (r_3>=0))) wz rfl (ai ?_)))
 obtain rfl:=ah hF
 exact ax (aR (.inr rfl) [(vB (decide (r_3>=0)))] ⟨rfl,trivial⟩ rfl rfl rfl)
theorem Cf {o_1:Alert} {p_2:ByteArray} {p_3:Alert} {r:Bool} (hF:mF o_1 p_2 p_3=some r) :
  FnM Tryz.prog 260 [(.d (.agg (Alert.enc o_1))),(.ref (av 0) 0 0),(.ref (av 1) 0 0)] [(.cells 1 [(vS p_2)]),(.cells 9 [(vS p_3.Id),(vS p_3.Sender),(vI p_3.Kind),(vL eS p_3.Refs),(vI p_3.At),(vI p_3.Until),(vI p_3.Weight),(vL Rect.enc p_3.Areas),(vS p_3.Text)])] (vB r) [some (.cells 1 [(vS p_2)]),some (.cells 9 [(vS p_3.Id),(vS p_3.Sender),(vI p_3.Kind),(vL eS p_3.Refs),(vI p_3.At),(vI p_3.Until),(vI p_3.Weight),(vL Rect.enc p_3.Areas),(vS p_3.Text)])]:=by
 refine FnM.of_wH ⟨Tryz.prog,22,[],[]⟩ rfl Tryz.func260 rfl rfl (lb_ rfl) (by kernel_rfl) ?_
 unfold mF at hF
 refine af (aa (dW 0 (.inl rfl) [(vS o_1.Id),(vS o_1.Sender),(vI o_1.Kind),(vL eS o_1.Refs),(vI o_1.At),(vI o_1.Until),(vI o_1.Weight),(vL Rect.enc o_1.Areas),(vS o_1.Text)] rfl rfl wz (λn_4=>ae (vB false) wz rfl (ai (af ?_)))))
 obtain ⟨v_5,h_6,hF⟩:=bind_some hF
 refine aG (β:=Unit) (λ_=>([(4,(vB v_5))]:SL_)) (λ_=>([((av 0),some (.cells 1 [(vS p_2)])),((av 1),some (.cells 9 [(vS p_3.Id),(vS p_3.Sender),(vI p_3.Kind),(vL eS p_3.Refs),(vI p_3.At),(vI p_3.Until),(vI p_3.Weight),(vL Rect.enc p_3.Areas),(vS p_3.Text)])),(n_4,some (.cells 9 [(vS o_1.Id),(vS o_1.Sender),(vI o_1.Kind),(vL eS o_1.Refs),(vI o_1.At),(vI o_1.Until),(vI o_1.Weight),(vL Rect.enc o_1.Areas),(vS o_1.Text)]))]:Hp)) (λ_=>True) ?_ ?_
 ·refine aa (aI eD rfl 0 rfl wz (aF 0 2 il ft sz9 ag9 rfl rfl (vS o_1.Id) rfl wz (aF 0 0 il ft sz9 ag9 rfl rfl (vS p_2) rfl wz (ae (vB (sEq o_1.Id p_2)) wz rfl ?_))))
  rcases ak h_6 with⟨hc_7,h_6⟩|⟨hc_7,h_6⟩
  ·refine aC rfl hc_7 wz (aI vC rfl 1 rfl wa (aF 0 2 il ft sz9 ag9 rfl rfl (vS o_1.Sender) rfl wa (aI vC rfl 1 rfl wa (aF 0 1 il ft sz9 ag9 rfl rfl (vS p_3.Sender) rfl wa (ae (vB (sEq o_1.Sender p_3.Sender)) wa rfl (ae (vB (sEq o_1.Sender p_3.Sender)) wz rfl ?_))))))
   rcases ak h_6 with⟨hc_8,h_6⟩|⟨hc_8,h_6⟩
   ·refine aC rfl hc_8 wz (aF 0 2 il ft dF fJ rfl rfl (.d (.agg (Alert.enc o_1))) rfl wa (aF 0 1 il ft dF fJ rfl rfl (.d (.agg (Alert.enc p_3))) rfl wa ?_))
    obtain ⟨r_9,hr_10,h_6⟩:=bind_some h_6
    refine aB (sZ hr_10) rfl hb87 rfl rfl rfl rfl wa (ae (vB (decide (r_9<0))) wa rfl (ae (vB (decide (r_9<0))) wz rfl (ae (vB (decide (r_9<0))) wz rfl (ai ?_))))
    obtain rfl:=ah h_6
    exact cu
   ·refine aC rfl hc_8 wz (aj wa (aj wa (aj wa (aj wa (ae (vB false) wz rfl (ae (vB false) wz rfl (ai ?_)))))))
    obtain rfl:=ah h_6
    exact cu
  ·refine aC rfl hc_7 wz (aj wa (aj wa (aj wa (aj wa (aj wa (ae (vB false) wz rfl (ae (vB false) wz rfl (aj wa (aj wa (aj wa (aj wa (ae (vB false) wz rfl (ae (vB false) wz rfl (ai ?_))))))))))))))
   obtain rfl:=ah h_6
   exact cu
 ·rintro ⟨⟩ _ sl_ H_ hp_ hq_
  refine aN _ hp_ hq_ ?_
  obtain rfl:=ah hF
  exact ax (rW (.inr rfl) [(vB v_5)] _ [0,1] [av 0,av 1] ⟨rfl,trivial⟩ (.cons (gH rfl rfl) (.nil)) (by kernel_rfl) ⟨(by kernel_rfl),⟨(by kernel_rfl),trivial⟩⟩ (by decide) (by kernel_rfl))
theorem Fg {l_1:(List Alert)} {a_2:Alert} {ref_3:ByteArray} {r:Bool} (hF:tV l_1 a_2 ref_3=some r) :
  FnM Tryz.prog 190 [(vL Alert.enc l_1),(.d (.agg (Alert.enc a_2))),(vS ref_3)] [] (vB r) []:=by
 refine FnM.of_wH ⟨Tryz.prog,10,[],[]⟩ rfl Tryz.func190 rfl rfl (lb_ rfl) (by kernel_rfl) ?_
 unfold tV at hF
 refine af (aa (dW 0 (.inl rfl) [(vS a_2.Id),(vS a_2.Sender),(vI a_2.Kind),(vL eS a_2.Refs),(vI a_2.At),(vI a_2.Until),(vI a_2.Weight),(vL Rect.enc a_2.Areas),(vS a_2.Text)] rfl rfl wz (λn_4=>dW 0 (.inl rfl) [(vS ref_3)] rfl rfl wz (λn_5=>ae (vB false) wz rfl (ai (af (aa (ae (vL Alert.enc l_1) wz rfl (ae (.fn 260 [(.ref n_5 0 0),(.ref n_4 0 0)]) wz rfl ?_)))))))))
 obtain ⟨r_6,hr_7,hF⟩:=bind_some hF
 refine aS 0 [1,0] il ft (gW (gid:=260) (caps:=[.ref (av 0) 0 0,.ref (av 1) 0 0]) (Sin:=[(.cells 1 [(vS ref_3)]),(.cells 9 [(vS a_2.Id),(vS a_2.Sender),(vI a_2.Kind),(vL eS a_2.Refs),(vI a_2.At),(vI a_2.Until),(vI a_2.Weight),(vL Rect.enc a_2.Areas),(vS a_2.Text)])]) (λ_ _ h_=>Cf h_) hb260 ⟨rfl,rfl⟩ (by kernel_rfl) (yB (by kernel_rfl)) (uY (by kernel_rfl)) hr_7) rfl hb126 rfl (by kernel_rfl) (by kernel_rfl) (by kernel_rfl) (by kernel_rfl) (by kernel_rfl) (by kernel_rfl) (by kernel_rfl) (by decide) (by kernel_rfl) wz (vB r_6) (by kernel_rfl) ([(n_4,some (.cells 9 [(vS a_2.Id),(vS a_2.Sender),(vI a_2.Kind),(vL eS a_2.Refs),(vI a_2.At),(vI a_2.Until),(vI a_2.Weight),(vL Rect.enc a_2.Areas),(vS a_2.Text)])),(n_5,some (.cells 1 [(vS ref_3)]))]:Hp) (by kernel_rfl) (ae (vB r_6) wz rfl (ai ?_))
 obtain rfl:=ah hF
 exact ax (aR (.inr rfl) [(vB r_6)] ⟨rfl,trivial⟩ rfl rfl rfl)
end Go.Proofs.YtjhcehhmdmbleaaGreatDoor.Law

