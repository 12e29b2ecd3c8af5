/-
 The machine computes these plain functions (written by a program of ours).
-/
import Derived.Test.YtnjnggakgeommaaGreatDoorFacts
import Derived.Test.YtnjnggakgeommaaGreatDoorDefs
import Derived.Test.YtnjnggakgeommaaGreatDoorPf1
import Derived.Test.YtnjnggakgeommaaGreatDoorShelf
open Go Go.Eng Go.Proofs
namespace Go.Proofs.YtnjnggakgeommaaGreatDoor.Law
set_option maxRecDepth 100000
set_option linter.unusedVariables false
set_option maxHeartbeats 1000000
theorem jk {s1_1:(List ByteArray)} {s2_2:(List ByteArray)} {r:Bool} (hF:cZ s1_1 s2_2=some r) :
  FnM Tryz.prog 33 [(vL eS s1_1),(vL eS s2_2)] [] (vB r) []:=by
 refine FnM.of_wH ⟨Tryz.prog,26,[],[]⟩ rfl Tryz.func33 rfl rfl (lb_ rfl) (by kernel_rfl) ?_
 unfold cZ at hF
 refine af (aa (ae (vB false) wz rfl (ak (af (af (aa (ae (vL eS s1_1) wz rfl (bJ xc rfl wz (ae (vL eS s2_2) wz rfl (bJ xc rfl wz (ae (vB ((s1_1.length:Int) != (s2_2.length:Int))) wz rfl (ak ?_))))))))))))
 rcases au hF with⟨hc_3,hF⟩|⟨hc_3,hF⟩
 ·refine aB rfl hc_3 (af (aa (ae (vB false) wz rfl (ak ?_))))
  obtain rfl:=aj hF
  exact ay (aO (.inr rfl) [(vB false)] ⟨rfl,trivial⟩ rfl rfl rfl)
 ·refine aA rfl hc_3 (av (af (af (aa (ae (vL eS s1_1) wz rfl (bJ xc rfl wz (ae (vI 0) wz rfl (ak ?_))))))))
  obtain ⟨o_12,hj_13,hF⟩:=bind_some hF
  obtain ⟨hn_8,hj_13⟩:=bg hj_13
  refine aH (β:=(Unit)) (λ(s_9:Unit)=>([]:SL_)) (λ(s_9:Unit)=>([]:Hp)) (λp=>o_12 = .go p) ?_ ?_
  ·refine aG (bv (β:=Nat×(List ByteArray)×(Unit)) (λp=>(λ(k_4:Nat) (l_5:List ByteArray) (s_9:Unit)=>([(0,(vL eS s1_1)),(1,(vL eS s2_2)),(12,(vI (s1_1.length:Int))),(13,(vI (k_4:Int)))]:SL_)) p.1 p.2.1 p.2.2) (λp=>(λ(k_4:Nat) (l_5:List ByteArray) (s_9:Unit)=>([]:Hp)) p.1 p.2.1 p.2.2) (λp=>forR (λk x s=>bU s2_2 k x s) p.2.1 p.1 p.2.2=some o_12/\(s1_1).drop p.1=p.2.1) (λp=>p.2.1.length) (0,s1_1,()) ⟨hj_13,rfl⟩ rfl (aK rfl) ?_)
   rintro ⟨k_4,l_5,s_9⟩ ⟨hL_11,hD_7⟩
   dsimp only at hL_11 hD_7
   cases l_5 with
   | nil =>
    obtain rfl:=aj hL_11
    refine af (aa (ae (vB (decide ((k_4:Int)<(s1_1.length:Int)))) wz rfl (ak ?_)))
    refine af (aA rfl (drop_nil hD_7) (aX ?_))
    exact aS (s_9) rfl rfl (aK rfl)
   | cons x_6 l_5 =>
    obtain ⟨c_,hc_10,hL_11⟩:=bind_some hL_11
    refine af (aa (ae (vB (decide ((k_4:Int)<(s1_1.length:Int)))) wz rfl (ak ?_)))
    refine af (aB rfl (bz hD_7) (av ?_))
    unfold bU at hc_10
    refine af (aG (af (aa (ae (vI (k_4:Int)) wz rfl (ae (vI (k_4:Int)) wz rfl (ak (af (bG (ae (vL eS s1_1) wz rfl (ae (vI (k_4:Int)) wz rfl (dP uw rfl rfl (bE hD_7) rfl wz (bO sz9 ag9 rfl (vS x_6) rfl wz (ae (vL eS s2_2) wz rfl (ae (vI (k_4:Int)) wz rfl ?_))))))))))))))
    obtain ⟨y_14,hy_15,hc_10⟩:=bind_some hc_10
    refine dP uw rfl rfl hy_15 rfl wz (bO sz9 ag9 rfl (vS y_14) rfl wz (ae (vB (sNe x_6 y_14)) wz rfl (ak ?_)))
    rcases au hc_10 with⟨hc_16,hc_10⟩|⟨hc_16,hc_10⟩
    ·refine aB rfl hc_16 (af (aa (ae (vB false) wz rfl (ak ?_))))
     obtain rfl:=aj hc_10
     obtain rfl:=aj hL_11
     obtain rfl:=aj hF
     exact ay (aO (.inr rfl) [(vB false)] ⟨rfl,trivial⟩ rfl rfl rfl)
    ·refine aA rfl hc_16 (av (aa (eQ (bB hD_7 hn_8) wz rfl (ae (vI ((k_4+1:Nat):Int)) wz rfl (ak ?_)))))
     obtain rfl:=aj hc_10
     exact aY (k_4+1,l_5,()) ⟨hL_11,aR hD_7⟩ (ls_ _) rfl (aK rfl)
  ·rintro s_9 ho_ sl_ H_ hp_ hq_
   subst ho_
   refine aM _ hp_ hq_ (af (aa (ae (vB true) wz rfl (ak ?_))))
   obtain rfl:=aj hF
   exact ay (aO (.inr rfl) [(vB true)] ⟨rfl,trivial⟩ rfl rfl rfl)
theorem yO {a_1:Entry} {b_2:Entry} {r:Bool} (hF:jG a_1 b_2=some r) :
  FnM Tryz.prog 45 [(.d (.agg (Entry.enc a_1))),(.d (.agg (Entry.enc b_2)))] [] (vB r) []:=by
 refine FnM.of_wH ⟨Tryz.prog,94,[],[]⟩ rfl Tryz.func45 rfl rfl (lb_ rfl) (by kernel_rfl) ?_
 unfold jG at hF
 refine af (aa (gH 0 (.inl rfl) [(vS a_1.Key),(vS a_1.Item),(vI a_1.Version),(vI a_1.First),(vI a_1.Last),(vI a_1.Every),(vI a_1.Days),(vL eI a_1.Except),(vI a_1.From),(vI a_1.To),(vI a_1.Prio),(vL eS a_1.Tags),(vB a_1.Gone)] rfl rfl wz (λn_3=>gH 0 (.inl rfl) [(vS b_2.Key),(vS b_2.Item),(vI b_2.Version),(vI b_2.First),(vI b_2.Last),(vI b_2.Every),(vI b_2.Days),(vL eI b_2.Except),(vI b_2.From),(vI b_2.To),(vI b_2.Prio),(vL eS b_2.Tags),(vB b_2.Gone)] rfl rfl wz (λn_4=>ae (vB false) wz rfl (ak (af ?_))))))
 obtain ⟨v_5,h_6,hF⟩:=bind_some hF
 refine aH (β:=Unit) (λ_=>([(4,(vB v_5))]:SL_)) (λ_=>([(n_3,some (.cells 13 [(vS a_1.Key),(vS a_1.Item),(vI a_1.Version),(vI a_1.First),(vI a_1.Last),(vI a_1.Every),(vI a_1.Days),(vL eI a_1.Except),(vI a_1.From),(vI a_1.To),(vI a_1.Prio),(vL eS a_1.Tags),(vB a_1.Gone)])),(n_4,some (.cells 13 [(vS b_2.Key),(vS b_2.Item),(vI b_2.Version),(vI b_2.First),(vI b_2.Last),(vI b_2.Every),(vI b_2.Days),(vL eI b_2.Except),(vI b_2.From),(vI b_2.To),(vI b_2.Prio),(vL eS b_2.Tags),(vB b_2.Gone)]))]:Hp)) (λ_=>True) ?_ ?_
 ·refine aa (aF uM rfl 0 rfl wz (aC 0 0 il ft sz9 ag9 rfl rfl (vS a_1.Key) rfl wz (aF uM rfl 0 rfl wz (aC 0 1 il ft sz9 ag9 rfl rfl (vS b_2.Key) rfl wz (ae (vB (sEq a_1.Key b_2.Key)) wz rfl ?_)))))
  rcases au h_6 with⟨hc_7,h_6⟩|⟨hc_7,h_6⟩
  ·refine ax rfl hc_7 wz (aF Fb rfl 1 rfl wa (aC 0 0 il ft sz9 ag9 rfl rfl (vS a_1.Item) rfl wa (aF Fb rfl 1 rfl wa (aC 0 1 il ft sz9 ag9 rfl rfl (vS b_2.Item) rfl wa (ae (vB (sEq a_1.Item b_2.Item)) wa rfl (ae (vB (sEq a_1.Item b_2.Item)) wz rfl ?_))))))
   rcases au h_6 with⟨hc_8,h_6⟩|⟨hc_8,h_6⟩
   ·refine ax rfl hc_8 wz (aF oL rfl 2 rfl wa (aC 0 0 il ft sz3 ag3 rfl rfl (vI a_1.Version) rfl wa (aF oL rfl 2 rfl wa (aC 0 1 il ft sz3 ag3 rfl rfl (vI b_2.Version) rfl wa (ae (vB (a_1.Version==b_2.Version)) wa rfl (ae (vB (a_1.Version==b_2.Version)) wz rfl ?_))))))
    rcases au h_6 with⟨hc_9,h_6⟩|⟨hc_9,h_6⟩
    ·refine ax rfl hc_9 wz (aF uV rfl 3 rfl wa (aC 0 0 il ft sz3 ag3 rfl rfl (vI a_1.First) rfl wa (aF uV rfl 3 rfl wa (aC 0 1 il ft sz3 ag3 rfl rfl (vI b_2.First) rfl wa (ae (vB (a_1.First==b_2.First)) wa rfl (ae (vB (a_1.First==b_2.First)) wz rfl ?_))))))
     rcases au h_6 with⟨hc_10,h_6⟩|⟨hc_10,h_6⟩
     ·refine ax rfl hc_10 wz (aF ve rfl 4 rfl wa (aC 0 0 il ft sz3 ag3 rfl rfl (vI a_1.Last) rfl wa (aF ve rfl 4 rfl wa (aC 0 1 il ft sz3 ag3 rfl rfl (vI b_2.Last) rfl wa (ae (vB (a_1.Last==b_2.Last)) wa rfl (ae (vB (a_1.Last==b_2.Last)) wz rfl ?_))))))
      rcases au h_6 with⟨hc_11,h_6⟩|⟨hc_11,h_6⟩
      ·refine ax rfl hc_11 wz (aF Bq rfl 5 rfl wa (aC 0 0 il ft sz3 ag3 rfl rfl (vI a_1.Every) rfl wa (aF Bq rfl 5 rfl wa (aC 0 1 il ft sz3 ag3 rfl rfl (vI b_2.Every) rfl wa (ae (vB (a_1.Every==b_2.Every)) wa rfl (ae (vB (a_1.Every==b_2.Every)) wz rfl ?_))))))
       rcases au h_6 with⟨hc_12,h_6⟩|⟨hc_12,h_6⟩
       ·refine ax rfl hc_12 wz (aF BC rfl 6 rfl wa (aC 0 0 il ft sz3 ag3 rfl rfl (vI a_1.Days) rfl wa (aF BC rfl 6 rfl wa (aC 0 1 il ft sz3 ag3 rfl rfl (vI b_2.Days) rfl wa (ae (vB (a_1.Days==b_2.Days)) wa rfl (ae (vB (a_1.Days==b_2.Days)) wz rfl ?_))))))
        rcases au h_6 with⟨hc_13,h_6⟩|⟨hc_13,h_6⟩
        ·refine ax rfl hc_13 wz (aF mZ rfl 7 rfl wa (aC 0 0 il ft u6 zx rfl rfl (vL eI a_1.Except) rfl wa (aF mZ rfl 7 rfl wa (aC 0 1 il ft u6 zx rfl rfl (vL eI b_2.Except) rfl wa ?_))))
         obtain ⟨r_14,hr_15,h_6⟩:=bind_some h_6
         refine aD (lY hr_15) rfl hb63 rfl rfl rfl rfl wa (ae (vB r_14) wz rfl ?_)
         rcases au h_6 with⟨hc_16,h_6⟩|⟨hc_16,h_6⟩
         ·refine ax rfl hc_16 wz (aF y9 rfl 8 rfl wa (aC 0 0 il ft sz3 ag3 rfl rfl (vI a_1.From) rfl wa (aF y9 rfl 8 rfl wa (aC 0 1 il ft sz3 ag3 rfl rfl (vI b_2.From) rfl wa (ae (vB (a_1.From==b_2.From)) wa rfl (ae (vB (a_1.From==b_2.From)) wz rfl ?_))))))
          rcases au h_6 with⟨hc_17,h_6⟩|⟨hc_17,h_6⟩
          ·refine ax rfl hc_17 wz (aF Bp rfl 9 rfl wa (aC 0 0 il ft sz3 ag3 rfl rfl (vI a_1.To) rfl wa (aF Bp rfl 9 rfl wa (aC 0 1 il ft sz3 ag3 rfl rfl (vI b_2.To) rfl wa (ae (vB (a_1.To==b_2.To)) wa rfl (ae (vB (a_1.To==b_2.To)) wz rfl ?_))))))
           rcases au h_6 with⟨hc_18,h_6⟩|⟨hc_18,h_6⟩
           ·refine ax rfl hc_18 wz (aF xC rfl 10 rfl wa (aC 0 0 il ft sz3 ag3 rfl rfl (vI a_1.Prio) rfl wa (aF xC rfl 10 rfl wa (aC 0 1 il ft sz3 ag3 rfl rfl (vI b_2.Prio) rfl wa (ae (vB (a_1.Prio==b_2.Prio)) wa rfl (ae (vB (a_1.Prio==b_2.Prio)) wz rfl ?_))))))
            rcases au h_6 with⟨hc_19,h_6⟩|⟨hc_19,h_6⟩
            ·refine ax rfl hc_19 wz (aF lI rfl 11 rfl wa (aC 0 0 il ft uX yK rfl rfl (vL eS a_1.Tags) rfl wa (aF lI rfl 11 rfl wa (aC 0 1 il ft uX yK rfl rfl (vL eS b_2.Tags) rfl wa ?_))))
             obtain ⟨r_20,hr_21,h_6⟩:=bind_some h_6
             refine aD (jk hr_21) rfl hb33 rfl rfl rfl rfl wa (ae (vB r_20) wz rfl ?_)
             rcases au h_6 with⟨hc_22,h_6⟩|⟨hc_22,h_6⟩
             ·refine ax rfl hc_22 wz (aF Ay rfl 12 rfl wa (aC 0 0 il ft sz4 ag4 rfl rfl (vB a_1.Gone) rfl wa (aF Ay rfl 12 rfl wa (aC 0 1 il ft sz4 ag4 rfl rfl (vB b_2.Gone) rfl wa (h_beql un4 rfl rfl wa (ae (vB (a_1.Gone==b_2.Gone)) wz rfl (ae (vB (a_1.Gone==b_2.Gone)) wz rfl (ak ?_))))))))
              obtain rfl:=aj h_6
              exact cu
             ·refine ax rfl hc_22 wz (ah wa (ah wa (ah wa (ah wa (ah wa (ae (vB false) wz rfl (ae (vB false) wz rfl (ak ?_))))))))
              obtain rfl:=aj h_6
              exact cu
            ·refine ax rfl hc_19 wz (ah wa (ah wa (ah wa (ah wa (ah wa (ae (vB false) wz rfl (ae (vB false) wz rfl (ah wa (ah wa (ah wa (ah wa (ah wa (ae (vB false) wz rfl (ae (vB false) wz rfl (ak ?_)))))))))))))))
             obtain rfl:=aj h_6
             exact cu
           ·refine ax rfl hc_18 wz (ah wa (ah wa (ah wa (ah wa (ah wa (ae (vB false) wz rfl (ae (vB false) wz rfl (ah wa (ah wa (ah wa (ah wa (ah wa (ae (vB false) wz rfl (ae (vB false) wz rfl (ah wa (ah wa (ah wa (ah wa (ah wa (ae (vB false) wz rfl (ae (vB false) wz rfl (ak ?_))))))))))))))))))))))
            obtain rfl:=aj h_6
            exact cu
          ·refine ax rfl hc_17 wz (ah wa (ah wa (ah wa (ah wa (ah wa (ae (vB false) wz rfl (ae (vB false) wz rfl (ah wa (ah wa (ah wa (ah wa (ah wa (ae (vB false) wz rfl (ae (vB false) wz rfl (ah wa (ah wa (ah wa (ah wa (ah wa (ae (vB false) wz rfl (ae (vB false) wz rfl (ah wa (ah wa ?_)))))))))))))))))))))))
           refine ah wa (ah wa (ah wa (ae (vB false) wz rfl (ae (vB false) wz rfl (ak ?_)))))
           obtain rfl:=aj h_6
           exact cu
         ·refine ax rfl hc_16 wz (ah wa (ah wa (ah wa (ah wa (ah wa (ae (vB false) wz rfl (ae (vB false) wz rfl (ah wa (ah wa (ah wa (ah wa (ah wa (ae (vB false) wz rfl (ae (vB false) wz rfl (ah wa (ah wa (ah wa (ah wa (ah wa (ae (vB false) wz rfl (ae (vB false) wz rfl (ah wa (ah wa ?_)))))))))))))))))))))))
          refine ah wa (ah wa (ah wa (ae (vB false) wz rfl (ae (vB false) wz rfl (ah wa (ah wa (ah wa (ah wa (ah wa (ae (vB false) wz rfl (ae (vB false) wz rfl (ak ?_))))))))))))
          obtain rfl:=aj h_6
          exact cu
        ·refine ax rfl hc_13 wz (ah wa (ah wa (ah wa (ah wa (ah wa (ae (vB false) wz rfl (ae (vB false) wz rfl (ah wa (ah wa (ah wa (ah wa (ah wa (ae (vB false) wz rfl (ae (vB false) wz rfl (ah wa (ah wa (ah wa (ah wa (ah wa (ae (vB false) wz rfl (ae (vB false) wz rfl (ah wa (ah wa ?_)))))))))))))))))))))))
         refine ah wa (ah wa (ah wa (ae (vB false) wz rfl (ae (vB false) wz rfl (ah wa (ah wa (ah wa (ah wa (ah wa (ae (vB false) wz rfl (ae (vB false) wz rfl (ah wa (ah wa (ah wa (ah wa (ah wa (ae (vB false) wz rfl (ae (vB false) wz rfl (ak ?_)))))))))))))))))))
         obtain rfl:=aj h_6
         exact cu
       ·refine ax rfl hc_12 wz (ah wa (ah wa (ah wa (ah wa (ah wa (ae (vB false) wz rfl (ae (vB false) wz rfl (ah wa (ah wa (ah wa (ah wa (ah wa (ae (vB false) wz rfl (ae (vB false) wz rfl (ah wa (ah wa (ah wa (ah wa (ah wa (ae (vB false) wz rfl (ae (vB false) wz rfl (ah wa (ah wa ?_)))))))))))))))))))))))
        refine ah wa (ah wa (ah wa (ae (vB false) wz rfl (ae (vB false) wz rfl (ah wa (ah wa (ah wa (ah wa (ah wa (ae (vB false) wz rfl (ae (vB false) wz rfl (ah wa (ah wa (ah wa (ah wa (ah wa (ae (vB false) wz rfl (ae (vB false) wz rfl (ah wa (ah wa (ah wa (ah wa (ah wa ?_)))))))))))))))))))))))
        refine ae (vB false) wz rfl (ae (vB false) wz rfl (ak ?_))
        obtain rfl:=aj h_6
        exact cu
      ·refine ax rfl hc_11 wz (ah wa (ah wa (ah wa (ah wa (ah wa (ae (vB false) wz rfl (ae (vB false) wz rfl (ah wa (ah wa (ah wa (ah wa (ah wa (ae (vB false) wz rfl (ae (vB false) wz rfl (ah wa (ah wa (ah wa (ah wa (ah wa (ae (vB false) wz rfl (ae (vB false) wz rfl (ah wa (ah wa ?_)))))))))))))))))))))))
       refine ah wa (ah wa (ah wa (ae (vB false) wz rfl (ae (vB false) wz rfl (ah wa (ah wa (ah wa (ah wa (ah wa (ae (vB false) wz rfl (ae (vB false) wz rfl (ah wa (ah wa (ah wa (ah wa (ah wa (ae (vB false) wz rfl (ae (vB false) wz rfl (ah wa (ah wa (ah wa (ah wa (ah wa ?_)))))))))))))))))))))))
       refine ae (vB false) wz rfl (ae (vB false) wz rfl (ah wa (ah wa (ah wa (ah wa (ah wa (ae (vB false) wz rfl (ae (vB false) wz rfl (ak ?_)))))))))
       obtain rfl:=aj h_6
       exact cu
     ·refine ax rfl hc_10 wz (ah wa (ah wa (ah wa (ah wa (ah wa (ae (vB false) wz rfl (ae (vB false) wz rfl (ah wa (ah wa (ah wa (ah wa (ah wa (ae (vB false) wz rfl (ae (vB false) wz rfl (ah wa (ah wa (ah wa (ah wa (ah wa (ae (vB false) wz rfl (ae (vB false) wz rfl (ah wa (ah wa ?_)))))))))))))))))))))))
      refine ah wa (ah wa (ah wa (ae (vB false) wz rfl (ae (vB false) wz rfl (ah wa (ah wa (ah wa (ah wa (ah wa (ae (vB false) wz rfl (ae (vB false) wz rfl (ah wa (ah wa (ah wa (ah wa (ah wa (ae (vB false) wz rfl (ae (vB false) wz rfl (ah wa (ah wa (ah wa (ah wa (ah wa ?_)))))))))))))))))))))))
      refine ae (vB false) wz rfl (ae (vB false) wz rfl (ah wa (ah wa (ah wa (ah wa (ah wa (ae (vB false) wz rfl (ae (vB false) wz rfl (ah wa (ah wa (ah wa (ah wa (ah wa (ae (vB false) wz rfl (ae (vB false) wz rfl (ak ?_))))))))))))))))
      obtain rfl:=aj h_6
      exact cu
    ·refine ax rfl hc_9 wz (ah wa (ah wa (ah wa (ah wa (ah wa (ae (vB false) wz rfl (ae (vB false) wz rfl (ah wa (ah wa (ah wa (ah wa (ah wa (ae (vB false) wz rfl (ae (vB false) wz rfl (ah wa (ah wa (ah wa (ah wa (ah wa (ae (vB false) wz rfl (ae (vB false) wz rfl (ah wa (ah wa ?_)))))))))))))))))))))))
     refine ah wa (ah wa (ah wa (ae (vB false) wz rfl (ae (vB false) wz rfl (ah wa (ah wa (ah wa (ah wa (ah wa (ae (vB false) wz rfl (ae (vB false) wz rfl (ah wa (ah wa (ah wa (ah wa (ah wa (ae (vB false) wz rfl (ae (vB false) wz rfl (ah wa (ah wa (ah wa (ah wa (ah wa ?_)))))))))))))))))))))))
     refine ae (vB false) wz rfl (ae (vB false) wz rfl (ah wa (ah wa (ah wa (ah wa (ah wa (ae (vB false) wz rfl (ae (vB false) wz rfl (ah wa (ah wa (ah wa (ah wa (ah wa (ae (vB false) wz rfl (ae (vB false) wz rfl (ah wa (ah wa (ah wa (ah wa (ah wa (ae (vB false) wz rfl (ae (vB false) wz rfl (ak ?_)))))))))))))))))))))))
     obtain rfl:=aj h_6
     exact cu
   ·refine ax rfl hc_8 wz (ah wa (ah wa (ah wa (ah wa (ah wa (ae (vB false) wz rfl (ae (vB false) wz rfl (ah wa (ah wa (ah wa (ah wa (ah wa (ae (vB false) wz rfl (ae (vB false) wz rfl (ah wa (ah wa (ah wa (ah wa (ah wa (ae (vB false) wz rfl (ae (vB false) wz rfl (ah wa (ah wa ?_)))))))))))))))))))))))
    refine ah wa (ah wa (ah wa (ae (vB false) wz rfl (ae (vB false) wz rfl (ah wa (ah wa (ah wa (ah wa (ah wa (ae (vB false) wz rfl (ae (vB false) wz rfl (ah wa (ah wa (ah wa (ah wa (ah wa (ae (vB false) wz rfl (ae (vB false) wz rfl (ah wa (ah wa (ah wa (ah wa (ah wa ?_)))))))))))))))))))))))
    refine ae (vB false) wz rfl (ae (vB false) wz rfl (ah wa (ah wa (ah wa (ah wa (ah wa (ae (vB false) wz rfl (ae (vB false) wz rfl (ah wa (ah wa (ah wa (ah wa (ah wa (ae (vB false) wz rfl (ae (vB false) wz rfl (ah wa (ah wa (ah wa (ah wa (ah wa (ae (vB false) wz rfl (ae (vB false) wz rfl (ah wa ?_)))))))))))))))))))))))
    refine ah wa (ah wa (ah wa (ah wa (ae (vB false) wz rfl (ae (vB false) wz rfl (ak ?_))))))
    obtain rfl:=aj h_6
    exact cu
  ·refine ax rfl hc_7 wz (ah wa (ah wa (ah wa (ah wa (ah wa (ae (vB false) wz rfl (ae (vB false) wz rfl (ah wa (ah wa (ah wa (ah wa (ah wa (ae (vB false) wz rfl (ae (vB false) wz rfl (ah wa (ah wa (ah wa (ah wa (ah wa (ae (vB false) wz rfl (ae (vB false) wz rfl (ah wa (ah wa ?_)))))))))))))))))))))))
   refine ah wa (ah wa (ah wa (ae (vB false) wz rfl (ae (vB false) wz rfl (ah wa (ah wa (ah wa (ah wa (ah wa (ae (vB false) wz rfl (ae (vB false) wz rfl (ah wa (ah wa (ah wa (ah wa (ah wa (ae (vB false) wz rfl (ae (vB false) wz rfl (ah wa (ah wa (ah wa (ah wa (ah wa ?_)))))))))))))))))))))))
   refine ae (vB false) wz rfl (ae (vB false) wz rfl (ah wa (ah wa (ah wa (ah wa (ah wa (ae (vB false) wz rfl (ae (vB false) wz rfl (ah wa (ah wa (ah wa (ah wa (ah wa (ae (vB false) wz rfl (ae (vB false) wz rfl (ah wa (ah wa (ah wa (ah wa (ah wa (ae (vB false) wz rfl (ae (vB false) wz rfl (ah wa ?_)))))))))))))))))))))))
   refine ah wa (ah wa (ah wa (ah wa (ae (vB false) wz rfl (ae (vB false) wz rfl (ah wa (ah wa (ah wa (ah wa (ah wa (ae (vB false) wz rfl (ae (vB false) wz rfl (ak ?_)))))))))))))
   obtain rfl:=aj h_6
   exact cu
 ·rintro ⟨⟩ _ sl_ H_ hp_ hq_
  refine aM _ hp_ hq_ ?_
  obtain rfl:=aj hF
  exact ay (aO (.inr rfl) [(vB v_5)] ⟨rfl,trivial⟩ rfl rfl rfl)
theorem Aj {m:(List (ByteArray×Entry))} :
  FnM Tryz.prog 47 [(.map (aJ 0))] [(bM D.str (λx=>D.agg (Entry.enc x)) m)] (.fn 89 [(.ref (aJ 1) 0 0)]) [some (bM D.str (λx=>D.agg (Entry.enc x)) m),some (.cells 1 [(.map (aJ 0))])] :=
 LD (λmb w=>Tryz.maps_Keys_47 mb w) _
theorem yc {m:(List (ByteArray×Entry))} {r:List ByteArray} (hF:pK m=some r) :
  FnM Tryz.prog 46 [(.fn 89 [(.ref (aJ 0) 0 0)])] [.cells 1 [(.map (aJ 1))],(bM D.str (λx=>D.agg (Entry.enc x)) m)] (vL eS r) [some (.cells 1 [(.map (aJ 1))]),some (bM D.str (λx=>D.agg (Entry.enc x)) m)] :=
 BJ (eV:=(λx=>D.agg (Entry.enc x))) rfl (by kernel_rfl) (λb nn Bm D0 w h1 h2 h3 h4 h5=>Tryz.sorted_Keys_89 b nn Bm D0 w h1 h2 h3 h4 h5) hF
theorem rE {s_1:(List Int)} {r:(List Int)} (hF:iI s_1=some r) :
  FnM Tryz.prog 42 [(vL eI s_1)] [] (vL eI r) []:=by
 refine FnM.of_wH ⟨Tryz.prog,8,[],[]⟩ rfl Tryz.func42 rfl rfl (lb_ rfl) (by kernel_rfl) ?_
 unfold iI at hF
 refine af (aa (ae .nil wz rfl (ak (af (af (aa (ae (vL eI s_1) wz rfl (I9 qi rfl wz (λb_2 hb_3=>ak ?_)))))))))
 cases b_2 with
 | true =>
  refine aB rfl rfl ?_
  obtain rfl:=hb_3 rfl
  replace hF:=DI hF
  refine af (aa (ae .nil wz rfl (ak ?_)))
  obtain rfl:=aj hF
  exact ay (aO (.inr rfl) [.nil] ⟨rfl,trivial⟩ rfl rfl rfl)
 | false =>
  refine aA rfl rfl (av (af (aa (JS kE xE rfl wz (ae (vL eI s_1) wz rfl ?_)))))
  obtain ⟨a_4,hz_5,hF⟩:=bind_some hF
  refine Lb 0 (.inl rfl) GG GG sz3 z3 rfl (by decide) by3 (by decide) (λ_=>rfl) rfl rfl hz_5 wz (λn_6=>ae (gV n_6 1 a_4) wz rfl (ak (fB 0 rfl (ek 2 0 rfl rfl (ek 7 0 rfl rfl ?_)))))
  obtain rfl:=aj hF
  exact ay (aO (.inr rfl) [(vL eI a_4)] ⟨rfl,trivial⟩ rfl rfl rfl)
theorem nR {s_1:(List ByteArray)} {r:(List ByteArray)} (hF:fF s_1=some r) :
  FnM Tryz.prog 90 [(vL eS s_1)] [] (vL eS r) []:=by
 refine FnM.of_wH ⟨Tryz.prog,8,[],[]⟩ rfl Tryz.func90 rfl rfl (lb_ rfl) (by kernel_rfl) ?_
 unfold fF at hF
 refine af (aa (ae .nil wz rfl (ak (af (af (aa (ae (vL eS s_1) wz rfl (I9 xc rfl wz (λb_2 hb_3=>ak ?_)))))))))
 cases b_2 with
 | true =>
  refine aB rfl rfl ?_
  obtain rfl:=hb_3 rfl
  replace hF:=DI hF
  refine af (aa (ae .nil wz rfl (ak ?_)))
  obtain rfl:=aj hF
  exact ay (aO (.inr rfl) [.nil] ⟨rfl,trivial⟩ rfl rfl rfl)
 | false =>
  refine aA rfl rfl (av (af (aa (JS uw Fq rfl wz (ae (vL eS s_1) wz rfl ?_)))))
  obtain ⟨a_4,hz_5,hF⟩:=bind_some hF
  refine Lb 0 (.inl rfl) FC FC sz9 z9 rfl (by decide) by9 (by decide) (λ_=>rfl) rfl rfl hz_5 wz (λn_6=>ae (gV n_6 1 a_4) wz rfl (ak (fB 0 rfl (ek 2 0 rfl rfl (ek 7 0 rfl rfl ?_)))))
  obtain rfl:=aj hF
  exact ay (aO (.inr rfl) [(vL eS a_4)] ⟨rfl,trivial⟩ rfl rfl rfl)
theorem xz {e_1:Entry} {r:Entry} (hF:j6 e_1=some r) :
  FnM Tryz.prog 48 [(.d (.agg (Entry.enc e_1)))] [] (.d (.agg (Entry.enc r))) []:=by
 refine FnM.of_wH ⟨Tryz.prog,12,[],[]⟩ rfl Tryz.func48 rfl rfl (lb_ rfl) (by kernel_rfl) ?_
 unfold j6 at hF
 refine af (aa (gH 0 (.inl rfl) [(vS e_1.Key),(vS e_1.Item),(vI e_1.Version),(vI e_1.First),(vI e_1.Last),(vI e_1.Every),(vI e_1.Days),(vL eI e_1.Except),(vI e_1.From),(vI e_1.To),(vI e_1.Prio),(vL eS e_1.Tags),(vB e_1.Gone)] rfl rfl wz (λn_2=>dA 0 (.inl rfl) z35 rfl wz (λn_3=>ak (af (bG (aF mZ rfl 7 rfl wz (aC 1 0 (.inr (by kernel_rfl)) (λ_ _ ag=>trivial) u6 zx rfl rfl (vL eI e_1.Except) rfl wz ?_))))))))
 obtain ⟨r_4,hr_5,hF⟩:=bind_some hF
 refine aD (rE hr_5) rfl hb42 rfl rfl rfl rfl wz (aF lI rfl 11 rfl wz (aC 4 0 (.inr (by kernel_rfl)) (λ_ _ ag=>⟨.inl ⟨rfl,rfl⟩,trivial⟩) uX yK rfl rfl (vL eS e_1.Tags) rfl wz ?_))
 obtain ⟨r_6,hr_7,hF⟩:=bind_some hF
 refine aD (nR hr_7) rfl hb90 rfl rfl rfl rfl wz (aF mZ rfl 7 rfl wz (dX 7 (.inr (by kernel_rfl)) (λ_ _ ag=>⟨.inr (.inr (by kernel_rfl)),⟨.inr (.inr (by kernel_rfl)),trivial⟩⟩) 0 u6 rfl rfl [(vS e_1.Key),(vS e_1.Item),(vI e_1.Version),(vI e_1.First),(vI e_1.Last),(vI e_1.Every),(vI e_1.Days),(vL eI r_4),(vI e_1.From),(vI e_1.To),(vI e_1.Prio),(vL eS e_1.Tags),(vB e_1.Gone)] rfl wz (aF lI rfl 11 rfl wz (dX 9 (.inr (by kernel_rfl)) (λ_ _ ag=>⟨.inr (.inr (by kernel_rfl)),⟨.inr (.inr (by kernel_rfl)),⟨.inr (.inr (by kernel_rfl)),trivial⟩⟩⟩) 0 uX rfl rfl [(vS e_1.Key),(vS e_1.Item),(vI e_1.Version),(vI e_1.First),(vI e_1.Last),(vI e_1.Every),(vI e_1.Days),(vL eI r_4),(vI e_1.From),(vI e_1.To),(vI e_1.Prio),(vL eS r_6),(vB e_1.Gone)] rfl wz (ak (af (aa (aC 0 0 il ft iX pu rfl rfl (.d (.agg (Entry.enc (⟨e_1.Key,e_1.Item,e_1.Version,e_1.First,e_1.Last,e_1.Every,e_1.Days,r_4,e_1.From,e_1.To,e_1.Prio,r_6,e_1.Gone⟩:Entry)))) rfl wz (dX 0 il ft 1 iX rfl rfl [(vS e_1.Key),(vS e_1.Item),(vI e_1.Version),(vI e_1.First),(vI e_1.Last),(vI e_1.Every),(vI e_1.Days),(vL eI r_4),(vI e_1.From),(vI e_1.To),(vI e_1.Prio),(vL eS r_6),(vB e_1.Gone)] rfl wz (ak ?_))))))))))
 obtain rfl:=aj hF
 exact ay (aO (.inr rfl) [(.d (.agg (Entry.enc (⟨e_1.Key,e_1.Item,e_1.Version,e_1.First,e_1.Last,e_1.Every,e_1.Days,r_4,e_1.From,e_1.To,e_1.Prio,r_6,e_1.Gone⟩:Entry))))] ⟨⟨1,_,_,_,_,_,_,_,rfl,rfl,iX,pu,rfl⟩,trivial⟩ rfl rfl rfl)
theorem gG {a_1:(List Entry)} {b_2:(List Entry)} {r:(List Entry)×Int} (hF:eG a_1 b_2=some r) :
  FnM Tryz.prog 11 [(vL Entry.enc a_1),(vL Entry.enc b_2)] [] (.tup [(vL Entry.enc r.1),(vI r.2)]) []:=by
 refine FnM.of_wH ⟨Tryz.prog,94,[],[]⟩ rfl Tryz.func11 rfl rfl (lb_ rfl) (by kernel_rfl) ?_
 unfold eG at hF
 refine af (aa (ae .nil wz rfl (ae (vI 0) wz rfl (ak (af (af (aa (ae (vL Entry.enc a_1) wz rfl (ae (vL Entry.enc b_2) wz rfl (ae (.d (.agg [dl Entry.enc a_1,dl Entry.enc b_2])) wz (by kernel_rfl) (ae (vI 0) wz rfl (ak ?_))))))))))))
 obtain ⟨o_11,hj_12,hF⟩:=bind_some hF
 obtain ⟨hn_7,hj_12⟩:=bg hj_12
 refine aH (β:=(Unit)) (λ(s_8:Unit)=>([(0,(vL Entry.enc a_1)),(1,(vL Entry.enc b_2))]:SL_)) (λ(s_8:Unit)=>([]:Hp)) (λp=>o_11 = .go p) ?_ ?_
 ·refine aG (bv (β:=Nat×(List Nat)×(Unit)) (λp=>(λ(k_3:Nat) (l_4:List Nat) (s_8:Unit)=>([(0,(vL Entry.enc a_1)),(1,(vL Entry.enc b_2)),(19,(.d (.agg [dl Entry.enc a_1,dl Entry.enc b_2]))),(20,(vI (k_3:Int)))]:SL_)) p.1 p.2.1 p.2.2) (λp=>(λ(k_3:Nat) (l_4:List Nat) (s_8:Unit)=>([]:Hp)) p.1 p.2.1 p.2.2) (λp=>forR (λk x s=>eB a_1 b_2 k x s) p.2.1 p.1 p.2.2=some o_11/\((List.range (2:Int).toNat)).drop p.1=p.2.1) (λp=>p.2.1.length) (0,(List.range (2:Int).toNat),()) ⟨hj_12,rfl⟩ rfl (aK rfl) ?_)
  rintro ⟨k_3,l_4,s_8⟩ ⟨hL_10,hD_6⟩
  dsimp only at hL_10 hD_6
  cases l_4 with
  | nil =>
   obtain rfl:=aj hL_10
   refine af (aa (ae (vB (decide ((k_3:Int)<2))) wz rfl (ak ?_)))
   refine af (aA rfl (Dr hD_6) (aX ?_))
   exact aS (s_8) rfl rfl (aK rfl)
  | cons x_5 l_4 =>
   obtain ⟨c_,hc_9,hL_10⟩:=bind_some hL_10
   refine af (aa (ae (vB (decide ((k_3:Int)<2))) wz rfl (ak ?_)))
   refine af (aB rfl (AP hD_6) (av ?_))
   unfold eB at hc_9
   refine af (aG (af (aa ?_)))
   obtain ⟨y_13,hy_14,hc_9⟩:=bind_some hc_9
   refine h_idxa (enc:=(eL Entry.enc)) (xs:=([a_1,b_2]:List (List Entry))) un80 sz26 ag26 rfl rfl rfl rfl hy_14 (λ_=>rfl) (.inr rfl) (vL Entry.enc y_13) rfl wz (ae (vL Entry.enc y_13) wz rfl (ak (af (aa (ae (vL Entry.enc y_13) wz rfl ?_)))))
   obtain ⟨r_15,hr_16,hc_9⟩:=bind_some hc_9
   refine aD (lC hr_16) rfl hb13 rfl rfl rfl rfl wz (ae (vI r_15) wz rfl (ak (af (aa (ae (vI r_15) wz rfl (ae (vB (r_15 != 0)) wz rfl (ak ?_)))))))
   rcases au hc_9 with⟨hc_17,hc_9⟩|⟨hc_17,hc_9⟩
   ·refine aB rfl hc_17 (af (aa (ae (vI r_15) wz rfl (ae .nil wz rfl (ae (vI r_15) wz rfl (ak ?_))))))
    obtain rfl:=aj hc_9
    obtain rfl:=aj hL_10
    obtain rfl:=aj hF
    exact ay (aO (.inr rfl) [.nil,(vI r_15)] ⟨rfl,⟨rfl,trivial⟩⟩ rfl rfl rfl)
   ·refine aA rfl hc_17 (av (aa (eQ (Dw hD_6 hn_7) wz rfl (ae (vI ((k_3+1:Nat):Int)) wz rfl (ak ?_)))))
    obtain rfl:=aj hc_9
    exact aY (k_3+1,l_4,()) ⟨hL_10,aR hD_6⟩ (ls_ _) rfl (aK rfl)
 ·rintro s_8 ho_ sl_ H_ hp_ hq_
  subst ho_
  refine aM _ hp_ hq_ (af (aa (IU 0 (.inl rfl) wz (λn_18=>JP (b':=some (bM D.str (λx=>D.agg (Entry.enc x)) ([]:List (ByteArray×Entry)))) 0 rfl rfl (ae (.map n_18) wz rfl (ak (af (af (aa (ae (vL Entry.enc a_1) wz rfl (ae (vL Entry.enc b_2) wz rfl (eO (([a_1,b_2]:List (List Entry)).map (eL Entry.enc)) JQ ez140 rfl rfl rfl rfl rfl wz ?_))))))))))))
  obtain ⟨r_19,hr_20,hF⟩:=bind_some hF
  refine aD (kW hr_20) rfl hb44 rfl rfl rfl rfl wz (bJ BG rfl wz (ae (vI 0) wz rfl (ak ?_)))
  obtain ⟨o_29,hj_30,hF⟩:=bind_some hF
  obtain ⟨hn_25,hj_30⟩:=bg hj_30
  refine aH (β:=((List (ByteArray×Entry)))) (λ(s_26:(List (ByteArray×Entry)))=>([(9,(.map n_18))]:SL_)) (λ(s_26:(List (ByteArray×Entry)))=>([(n_18,some (bM D.str (λx=>D.agg (Entry.enc x)) s_26))]:Hp)) (λp=>o_29 = .go p) ?_ ?_
  ·refine aG (bv (β:=Nat×(List Entry)×((List (ByteArray×Entry)))) (λp=>(λ(k_21:Nat) (l_22:List Entry) (s_26:(List (ByteArray×Entry)))=>([(9,(.map n_18)),(33,(vL Entry.enc r_19)),(34,(vI (r_19.length:Int))),(35,(vI (k_21:Int)))]:SL_)) p.1 p.2.1 p.2.2) (λp=>(λ(k_21:Nat) (l_22:List Entry) (s_26:(List (ByteArray×Entry)))=>([(n_18,some (bM D.str (λx=>D.agg (Entry.enc x)) s_26))]:Hp)) p.1 p.2.1 p.2.2) (λp=>forR (λk x s=>fG k x s) p.2.1 p.1 p.2.2=some o_29/\(r_19).drop p.1=p.2.1) (λp=>p.2.1.length) (0,r_19,([]:List (ByteArray×Entry))) ⟨hj_30,rfl⟩ rfl (aK rfl) ?_)
   rintro ⟨k_21,l_22,s_26⟩ ⟨hL_28,hD_24⟩
   dsimp only at hL_28 hD_24
   cases l_22 with
   | nil =>
    obtain rfl:=aj hL_28
    refine af (aa (ae (vB (decide ((k_21:Int)<(r_19.length:Int)))) wz rfl (ak ?_)))
    refine af (aA rfl (drop_nil hD_24) (aX ?_))
    exact aS (s_26) rfl rfl (aK rfl)
   | cons x_23 l_22 =>
    obtain ⟨c_,hc_27,hL_28⟩:=bind_some hL_28
    refine af (aa (ae (vB (decide ((k_21:Int)<(r_19.length:Int)))) wz rfl (ak ?_)))
    refine af (aB rfl (bz hD_24) (av ?_))
    unfold fG at hc_27
    refine af (aG (af (aa (dP Cg rfl rfl (bE hD_24) rfl wz (bO iX pu rfl (.d (.agg (Entry.enc x_23))) rfl wz (dA 0 (.inl rfl) z35 rfl wz (λn_31=>dX 0 il ft 1 iX rfl rfl [(vS x_23.Key),(vS x_23.Item),(vI x_23.Version),(vI x_23.First),(vI x_23.Last),(vI x_23.Every),(vI x_23.Days),(vL eI x_23.Except),(vI x_23.From),(vI x_23.To),(vI x_23.Prio),(vL eS x_23.Tags),(vB x_23.Gone)] rfl wz (ak (af (aa (ae (.map n_18) wz rfl (aF uM rfl 0 rfl wz (aC 0 1 il ft sz9 ag9 rfl rfl (vS x_23.Key) rfl wz (Bi (eq:=eqS) (kD:=D.str) (vD:=(λx=>D.agg (Entry.enc x))) (es:=s_26) (k:=x_23.Key) (z:=(⟨(⟨#[]⟩:ByteArray),(⟨#[]⟩:ByteArray),0,0,0,0,0,([]:List Int),0,0,0,([]:List ByteArray),false⟩:Entry)) 0 0 il ft (λ_ _=>rfl) mt81 (by kernel_rfl) (by kernel_rfl) rfl rfl rfl (.tup [(.d (.agg (Entry.enc ((bZ eqS s_26 x_23.Key).getD (⟨(⟨#[]⟩:ByteArray),(⟨#[]⟩:ByteArray),0,0,0,0,0,([]:List Int),0,0,0,([]:List ByteArray),false⟩:Entry))))),(vB ((bZ eqS s_26 x_23.Key).isSome))]) rfl wz (ae (.tup [(.d (.agg (Entry.enc ((bZ eqS s_26 x_23.Key).getD (⟨(⟨#[]⟩:ByteArray),(⟨#[]⟩:ByteArray),0,0,0,0,0,([]:List Int),0,0,0,([]:List ByteArray),false⟩:Entry))))),(vB ((bZ eqS s_26 x_23.Key).isSome))]) wz rfl (ae (.d (.agg (Entry.enc ((bZ eqS s_26 x_23.Key).getD (⟨(⟨#[]⟩:ByteArray),(⟨#[]⟩:ByteArray),0,0,0,0,0,([]:List Int),0,0,0,([]:List ByteArray),false⟩:Entry))))) wz rfl (ae (vB ((bZ eqS s_26 x_23.Key).isSome)) wz rfl (dA 0 (.inl rfl) z35 rfl wz (λn_32=>dX 0 il ft 2 iX rfl rfl [(vS (((bZ eqS s_26 x_23.Key).getD (⟨(⟨#[]⟩:ByteArray),(⟨#[]⟩:ByteArray),0,0,0,0,0,([]:List Int),0,0,0,([]:List ByteArray),false⟩:Entry)).Key)),(vS (((bZ eqS s_26 x_23.Key).getD (⟨(⟨#[]⟩:ByteArray),(⟨#[]⟩:ByteArray),0,0,0,0,0,([]:List Int),0,0,0,([]:List ByteArray),false⟩:Entry)).Item)),(vI (((bZ eqS s_26 x_23.Key).getD (⟨(⟨#[]⟩:ByteArray),(⟨#[]⟩:ByteArray),0,0,0,0,0,([]:List Int),0,0,0,([]:List ByteArray),false⟩:Entry)).Version)),(vI (((bZ eqS s_26 x_23.Key).getD (⟨(⟨#[]⟩:ByteArray),(⟨#[]⟩:ByteArray),0,0,0,0,0,([]:List Int),0,0,0,([]:List ByteArray),false⟩:Entry)).First)),(vI (((bZ eqS s_26 x_23.Key).getD (⟨(⟨#[]⟩:ByteArray),(⟨#[]⟩:ByteArray),0,0,0,0,0,([]:List Int),0,0,0,([]:List ByteArray),false⟩:Entry)).Last)),(vI (((bZ eqS s_26 x_23.Key).getD (⟨(⟨#[]⟩:ByteArray),(⟨#[]⟩:ByteArray),0,0,0,0,0,([]:List Int),0,0,0,([]:List ByteArray),false⟩:Entry)).Every)),(vI (((bZ eqS s_26 x_23.Key).getD (⟨(⟨#[]⟩:ByteArray),(⟨#[]⟩:ByteArray),0,0,0,0,0,([]:List Int),0,0,0,([]:List ByteArray),false⟩:Entry)).Days)),(vL eI (((bZ eqS s_26 x_23.Key).getD (⟨(⟨#[]⟩:ByteArray),(⟨#[]⟩:ByteArray),0,0,0,0,0,([]:List Int),0,0,0,([]:List ByteArray),false⟩:Entry)).Except)),(vI (((bZ eqS s_26 x_23.Key).getD (⟨(⟨#[]⟩:ByteArray),(⟨#[]⟩:ByteArray),0,0,0,0,0,([]:List Int),0,0,0,([]:List ByteArray),false⟩:Entry)).From)),(vI (((bZ eqS s_26 x_23.Key).getD (⟨(⟨#[]⟩:ByteArray),(⟨#[]⟩:ByteArray),0,0,0,0,0,([]:List Int),0,0,0,([]:List ByteArray),false⟩:Entry)).To)),(vI (((bZ eqS s_26 x_23.Key).getD (⟨(⟨#[]⟩:ByteArray),(⟨#[]⟩:ByteArray),0,0,0,0,0,([]:List Int),0,0,0,([]:List ByteArray),false⟩:Entry)).Prio)),(vL eS (((bZ eqS s_26 x_23.Key).getD (⟨(⟨#[]⟩:ByteArray),(⟨#[]⟩:ByteArray),0,0,0,0,0,([]:List Int),0,0,0,([]:List ByteArray),false⟩:Entry)).Tags)),(vB (((bZ eqS s_26 x_23.Key).getD (⟨(⟨#[]⟩:ByteArray),(⟨#[]⟩:ByteArray),0,0,0,0,0,([]:List Int),0,0,0,([]:List ByteArray),false⟩:Entry)).Gone))] rfl wz (ae (vB ((bZ eqS s_26 x_23.Key).isSome)) wz rfl (ak (af (af ?_)))))))))))))))))))))))
    obtain ⟨v_33,h_34,hc_27⟩:=bind_some hc_27
    refine aH (β:=Unit) (λ_=>([(9,(.map n_18)),(11,(.ref n_31 0 0)),(12,(.ref n_32 0 0)),(13,(vB ((bZ eqS s_26 x_23.Key).isSome))),(33,(vL Entry.enc r_19)),(34,(vI (r_19.length:Int))),(35,(vI (k_21:Int))),(59,(vB v_33))]:SL_)) (λ_=>([(n_18,some (bM D.str (λx=>D.agg (Entry.enc x)) s_26)),(n_31,some (.cells 13 [(vS x_23.Key),(vS x_23.Item),(vI x_23.Version),(vI x_23.First),(vI x_23.Last),(vI x_23.Every),(vI x_23.Days),(vL eI x_23.Except),(vI x_23.From),(vI x_23.To),(vI x_23.Prio),(vL eS x_23.Tags),(vB x_23.Gone)])),(n_32,some (.cells 13 [(vS (((bZ eqS s_26 x_23.Key).getD (⟨(⟨#[]⟩:ByteArray),(⟨#[]⟩:ByteArray),0,0,0,0,0,([]:List Int),0,0,0,([]:List ByteArray),false⟩:Entry)).Key)),(vS (((bZ eqS s_26 x_23.Key).getD (⟨(⟨#[]⟩:ByteArray),(⟨#[]⟩:ByteArray),0,0,0,0,0,([]:List Int),0,0,0,([]:List ByteArray),false⟩:Entry)).Item)),(vI (((bZ eqS s_26 x_23.Key).getD (⟨(⟨#[]⟩:ByteArray),(⟨#[]⟩:ByteArray),0,0,0,0,0,([]:List Int),0,0,0,([]:List ByteArray),false⟩:Entry)).Version)),(vI (((bZ eqS s_26 x_23.Key).getD (⟨(⟨#[]⟩:ByteArray),(⟨#[]⟩:ByteArray),0,0,0,0,0,([]:List Int),0,0,0,([]:List ByteArray),false⟩:Entry)).First)),(vI (((bZ eqS s_26 x_23.Key).getD (⟨(⟨#[]⟩:ByteArray),(⟨#[]⟩:ByteArray),0,0,0,0,0,([]:List Int),0,0,0,([]:List ByteArray),false⟩:Entry)).Last)),(vI (((bZ eqS s_26 x_23.Key).getD (⟨(⟨#[]⟩:ByteArray),(⟨#[]⟩:ByteArray),0,0,0,0,0,([]:List Int),0,0,0,([]:List ByteArray),false⟩:Entry)).Every)),(vI (((bZ eqS s_26 x_23.Key).getD (⟨(⟨#[]⟩:ByteArray),(⟨#[]⟩:ByteArray),0,0,0,0,0,([]:List Int),0,0,0,([]:List ByteArray),false⟩:Entry)).Days)),(vL eI (((bZ eqS s_26 x_23.Key).getD (⟨(⟨#[]⟩:ByteArray),(⟨#[]⟩:ByteArray),0,0,0,0,0,([]:List Int),0,0,0,([]:List ByteArray),false⟩:Entry)).Except)),(vI (((bZ eqS s_26 x_23.Key).getD (⟨(⟨#[]⟩:ByteArray),(⟨#[]⟩:ByteArray),0,0,0,0,0,([]:List Int),0,0,0,([]:List ByteArray),false⟩:Entry)).From)),(vI (((bZ eqS s_26 x_23.Key).getD (⟨(⟨#[]⟩:ByteArray),(⟨#[]⟩:ByteArray),0,0,0,0,0,([]:List Int),0,0,0,([]:List ByteArray),false⟩:Entry)).To)),(vI (((bZ eqS s_26 x_23.Key).getD (⟨(⟨#[]⟩:ByteArray),(⟨#[]⟩:ByteArray),0,0,0,0,0,([]:List Int),0,0,0,([]:List ByteArray),false⟩:Entry)).Prio)),(vL eS (((bZ eqS s_26 x_23.Key).getD (⟨(⟨#[]⟩:ByteArray),(⟨#[]⟩:ByteArray),0,0,0,0,0,([]:List Int),0,0,0,([]:List ByteArray),false⟩:Entry)).Tags)),(vB (((bZ eqS s_26 x_23.Key).getD (⟨(⟨#[]⟩:ByteArray),(⟨#[]⟩:ByteArray),0,0,0,0,0,([]:List Int),0,0,0,([]:List ByteArray),false⟩:Entry)).Gone))]))]:Hp)) (λ_=>True) ?_ ?_
    ·refine aa (ae (vB ((bZ eqS s_26 x_23.Key).isSome)) wz rfl ?_)
     rcases au h_34 with⟨hc_35,h_34⟩|⟨hc_35,h_34⟩
     ·refine ax rfl hc_35 wz (aF oL rfl 2 rfl wa (aC 0 2 il ft sz3 ag3 rfl rfl (vI (((bZ eqS s_26 x_23.Key).getD (⟨(⟨#[]⟩:ByteArray),(⟨#[]⟩:ByteArray),0,0,0,0,0,([]:List Int),0,0,0,([]:List ByteArray),false⟩:Entry)).Version)) rfl wa (aF oL rfl 2 rfl wa (aC 0 1 il ft sz3 ag3 rfl rfl (vI x_23.Version) rfl wa (ae (vB ((((bZ eqS s_26 x_23.Key).getD (⟨(⟨#[]⟩:ByteArray),(⟨#[]⟩:ByteArray),0,0,0,0,0,([]:List Int),0,0,0,([]:List ByteArray),false⟩:Entry)).Version)==x_23.Version)) wa rfl (ae (vB ((((bZ eqS s_26 x_23.Key).getD (⟨(⟨#[]⟩:ByteArray),(⟨#[]⟩:ByteArray),0,0,0,0,0,([]:List Int),0,0,0,([]:List ByteArray),false⟩:Entry)).Version)==x_23.Version)) wz rfl ?_))))))
      rcases au h_34 with⟨hc_36,h_34⟩|⟨hc_36,h_34⟩
      ·refine ax rfl hc_36 wz (aC 0 2 il ft iX pu rfl rfl (.d (.agg (Entry.enc ((bZ eqS s_26 x_23.Key).getD (⟨(⟨#[]⟩:ByteArray),(⟨#[]⟩:ByteArray),0,0,0,0,0,([]:List Int),0,0,0,([]:List ByteArray),false⟩:Entry))))) rfl wa (aC 0 1 il ft iX pu rfl rfl (.d (.agg (Entry.enc x_23))) rfl wa ?_))
       obtain ⟨r_37,hr_38,h_34⟩:=bind_some h_34
       refine aD (yO hr_38) rfl hb45 rfl rfl rfl rfl wa (ae (vB (!r_37)) wa rfl (ae (vB (!r_37)) wz rfl (ak ?_)))
       obtain rfl:=aj h_34
       exact cu
      ·refine ax rfl hc_36 wz (ah wa (ah wa (ah wa (ah wa (ae (vB false) wz rfl (ak ?_))))))
       obtain rfl:=aj h_34
       exact cu
     ·refine ax rfl hc_35 wz (ah wa (ah wa (ah wa (ah wa (ah wa (ae (vB false) wz rfl (ae (vB false) wz rfl (ah wa (ah wa (ah wa (ah wa (ae (vB false) wz rfl (ak ?_)))))))))))))
      obtain rfl:=aj h_34
      exact cu
    ·rintro ⟨⟩ _ sl_ H_ hp_ hq_
     refine aM _ hp_ hq_ ?_
     rcases au hc_27 with⟨hc_39,hc_27⟩|⟨hc_39,hc_27⟩
     ·refine aB rfl hc_39 (af (aa (ae .nil wz rfl (ae (vI 13) wz rfl (ak ?_)))))
      obtain rfl:=aj hc_27
      obtain rfl:=aj hL_28
      obtain rfl:=aj hF
      exact ay (aO (.inr rfl) [.nil,(vI 13)] ⟨rfl,⟨rfl,trivial⟩⟩ rfl rfl rfl)
     ·refine aA rfl hc_39 (av (af ?_))
      obtain ⟨v_40,h_41,hc_27⟩:=bind_some hc_27
      refine aH (β:=Unit) (λ_=>([(9,(.map n_18)),(11,(.ref n_31 0 0)),(33,(vL Entry.enc r_19)),(34,(vI (r_19.length:Int))),(35,(vI (k_21:Int))),(68,(vB v_40))]:SL_)) (λ_=>([(n_18,some (bM D.str (λx=>D.agg (Entry.enc x)) s_26)),(n_31,some (.cells 13 [(vS x_23.Key),(vS x_23.Item),(vI x_23.Version),(vI x_23.First),(vI x_23.Last),(vI x_23.Every),(vI x_23.Days),(vL eI x_23.Except),(vI x_23.From),(vI x_23.To),(vI x_23.Prio),(vL eS x_23.Tags),(vB x_23.Gone)])),(n_32,some (.cells 13 [(vS (((bZ eqS s_26 x_23.Key).getD (⟨(⟨#[]⟩:ByteArray),(⟨#[]⟩:ByteArray),0,0,0,0,0,([]:List Int),0,0,0,([]:List ByteArray),false⟩:Entry)).Key)),(vS (((bZ eqS s_26 x_23.Key).getD (⟨(⟨#[]⟩:ByteArray),(⟨#[]⟩:ByteArray),0,0,0,0,0,([]:List Int),0,0,0,([]:List ByteArray),false⟩:Entry)).Item)),(vI (((bZ eqS s_26 x_23.Key).getD (⟨(⟨#[]⟩:ByteArray),(⟨#[]⟩:ByteArray),0,0,0,0,0,([]:List Int),0,0,0,([]:List ByteArray),false⟩:Entry)).Version)),(vI (((bZ eqS s_26 x_23.Key).getD (⟨(⟨#[]⟩:ByteArray),(⟨#[]⟩:ByteArray),0,0,0,0,0,([]:List Int),0,0,0,([]:List ByteArray),false⟩:Entry)).First)),(vI (((bZ eqS s_26 x_23.Key).getD (⟨(⟨#[]⟩:ByteArray),(⟨#[]⟩:ByteArray),0,0,0,0,0,([]:List Int),0,0,0,([]:List ByteArray),false⟩:Entry)).Last)),(vI (((bZ eqS s_26 x_23.Key).getD (⟨(⟨#[]⟩:ByteArray),(⟨#[]⟩:ByteArray),0,0,0,0,0,([]:List Int),0,0,0,([]:List ByteArray),false⟩:Entry)).Every)),(vI (((bZ eqS s_26 x_23.Key).getD (⟨(⟨#[]⟩:ByteArray),(⟨#[]⟩:ByteArray),0,0,0,0,0,([]:List Int),0,0,0,([]:List ByteArray),false⟩:Entry)).Days)),(vL eI (((bZ eqS s_26 x_23.Key).getD (⟨(⟨#[]⟩:ByteArray),(⟨#[]⟩:ByteArray),0,0,0,0,0,([]:List Int),0,0,0,([]:List ByteArray),false⟩:Entry)).Except)),(vI (((bZ eqS s_26 x_23.Key).getD (⟨(⟨#[]⟩:ByteArray),(⟨#[]⟩:ByteArray),0,0,0,0,0,([]:List Int),0,0,0,([]:List ByteArray),false⟩:Entry)).From)),(vI (((bZ eqS s_26 x_23.Key).getD (⟨(⟨#[]⟩:ByteArray),(⟨#[]⟩:ByteArray),0,0,0,0,0,([]:List Int),0,0,0,([]:List ByteArray),false⟩:Entry)).To)),(vI (((bZ eqS s_26 x_23.Key).getD (⟨(⟨#[]⟩:ByteArray),(⟨#[]⟩:ByteArray),0,0,0,0,0,([]:List Int),0,0,0,([]:List ByteArray),false⟩:Entry)).Prio)),(vL eS (((bZ eqS s_26 x_23.Key).getD (⟨(⟨#[]⟩:ByteArray),(⟨#[]⟩:ByteArray),0,0,0,0,0,([]:List Int),0,0,0,([]:List ByteArray),false⟩:Entry)).Tags)),(vB (((bZ eqS s_26 x_23.Key).getD (⟨(⟨#[]⟩:ByteArray),(⟨#[]⟩:ByteArray),0,0,0,0,0,([]:List Int),0,0,0,([]:List ByteArray),false⟩:Entry)).Gone))]))]:Hp)) (λ_=>True) ?_ ?_
      ·refine aa (ae (vB ((bZ eqS s_26 x_23.Key).isSome)) wz rfl (ae (vB (!((bZ eqS s_26 x_23.Key).isSome))) wz rfl ?_))
       rcases au h_41 with⟨hc_42,h_41⟩|⟨hc_42,h_41⟩
       ·refine ax rfl hc_42 wz (ah wa (ah wa (ah wa (ah wa (ah wa (ae (vB true) wz rfl (ak ?_)))))))
        obtain rfl:=aj h_41
        exact cu
       ·refine ax rfl hc_42 wz (aF oL rfl 2 rfl wa (aC 0 1 il ft sz3 ag3 rfl rfl (vI x_23.Version) rfl wa (aF oL rfl 2 rfl wa (aC 0 2 il ft sz3 ag3 rfl rfl (vI (((bZ eqS s_26 x_23.Key).getD (⟨(⟨#[]⟩:ByteArray),(⟨#[]⟩:ByteArray),0,0,0,0,0,([]:List Int),0,0,0,([]:List ByteArray),false⟩:Entry)).Version)) rfl wa (ae (vB (decide (x_23.Version>(((bZ eqS s_26 x_23.Key).getD (⟨(⟨#[]⟩:ByteArray),(⟨#[]⟩:ByteArray),0,0,0,0,0,([]:List Int),0,0,0,([]:List ByteArray),false⟩:Entry)).Version)))) wa rfl (ae (vB (decide (x_23.Version>(((bZ eqS s_26 x_23.Key).getD (⟨(⟨#[]⟩:ByteArray),(⟨#[]⟩:ByteArray),0,0,0,0,0,([]:List Int),0,0,0,([]:List ByteArray),false⟩:Entry)).Version)))) wz rfl (ak ?_)))))))
        obtain rfl:=aj h_41
        exact cu
      ·rintro ⟨⟩ _ sl_ H_ hp_ hq_
       refine aM _ hp_ hq_ ?_
       obtain ⟨v_43,h_44,hc_27⟩:=bind_some hc_27
       refine aH (β:=Unit) (λ_=>([(9,(.map n_18)),(33,(vL Entry.enc r_19)),(34,(vI (r_19.length:Int))),(35,(vI (k_21:Int)))]:SL_)) (λ_=>([(n_18,some (bM D.str (λx=>D.agg (Entry.enc x)) v_43)),(n_31,some (.cells 13 [(vS x_23.Key),(vS x_23.Item),(vI x_23.Version),(vI x_23.First),(vI x_23.Last),(vI x_23.Every),(vI x_23.Days),(vL eI x_23.Except),(vI x_23.From),(vI x_23.To),(vI x_23.Prio),(vL eS x_23.Tags),(vB x_23.Gone)])),(n_32,some (.cells 13 [(vS (((bZ eqS s_26 x_23.Key).getD (⟨(⟨#[]⟩:ByteArray),(⟨#[]⟩:ByteArray),0,0,0,0,0,([]:List Int),0,0,0,([]:List ByteArray),false⟩:Entry)).Key)),(vS (((bZ eqS s_26 x_23.Key).getD (⟨(⟨#[]⟩:ByteArray),(⟨#[]⟩:ByteArray),0,0,0,0,0,([]:List Int),0,0,0,([]:List ByteArray),false⟩:Entry)).Item)),(vI (((bZ eqS s_26 x_23.Key).getD (⟨(⟨#[]⟩:ByteArray),(⟨#[]⟩:ByteArray),0,0,0,0,0,([]:List Int),0,0,0,([]:List ByteArray),false⟩:Entry)).Version)),(vI (((bZ eqS s_26 x_23.Key).getD (⟨(⟨#[]⟩:ByteArray),(⟨#[]⟩:ByteArray),0,0,0,0,0,([]:List Int),0,0,0,([]:List ByteArray),false⟩:Entry)).First)),(vI (((bZ eqS s_26 x_23.Key).getD (⟨(⟨#[]⟩:ByteArray),(⟨#[]⟩:ByteArray),0,0,0,0,0,([]:List Int),0,0,0,([]:List ByteArray),false⟩:Entry)).Last)),(vI (((bZ eqS s_26 x_23.Key).getD (⟨(⟨#[]⟩:ByteArray),(⟨#[]⟩:ByteArray),0,0,0,0,0,([]:List Int),0,0,0,([]:List ByteArray),false⟩:Entry)).Every)),(vI (((bZ eqS s_26 x_23.Key).getD (⟨(⟨#[]⟩:ByteArray),(⟨#[]⟩:ByteArray),0,0,0,0,0,([]:List Int),0,0,0,([]:List ByteArray),false⟩:Entry)).Days)),(vL eI (((bZ eqS s_26 x_23.Key).getD (⟨(⟨#[]⟩:ByteArray),(⟨#[]⟩:ByteArray),0,0,0,0,0,([]:List Int),0,0,0,([]:List ByteArray),false⟩:Entry)).Except)),(vI (((bZ eqS s_26 x_23.Key).getD (⟨(⟨#[]⟩:ByteArray),(⟨#[]⟩:ByteArray),0,0,0,0,0,([]:List Int),0,0,0,([]:List ByteArray),false⟩:Entry)).From)),(vI (((bZ eqS s_26 x_23.Key).getD (⟨(⟨#[]⟩:ByteArray),(⟨#[]⟩:ByteArray),0,0,0,0,0,([]:List Int),0,0,0,([]:List ByteArray),false⟩:Entry)).To)),(vI (((bZ eqS s_26 x_23.Key).getD (⟨(⟨#[]⟩:ByteArray),(⟨#[]⟩:ByteArray),0,0,0,0,0,([]:List Int),0,0,0,([]:List ByteArray),false⟩:Entry)).Prio)),(vL eS (((bZ eqS s_26 x_23.Key).getD (⟨(⟨#[]⟩:ByteArray),(⟨#[]⟩:ByteArray),0,0,0,0,0,([]:List Int),0,0,0,([]:List ByteArray),false⟩:Entry)).Tags)),(vB (((bZ eqS s_26 x_23.Key).getD (⟨(⟨#[]⟩:ByteArray),(⟨#[]⟩:ByteArray),0,0,0,0,0,([]:List Int),0,0,0,([]:List ByteArray),false⟩:Entry)).Gone))]))]:Hp)) (λ_=>True) ?_ ?_
       ·rcases au h_44 with⟨hc_45,h_44⟩|⟨hc_45,h_44⟩
        ·refine aB rfl hc_45 (aa (ae (.map n_18) wz rfl (aF uM rfl 0 rfl wz (aC 0 1 il ft sz9 ag9 rfl rfl (vS x_23.Key) rfl wz (aC 0 1 il ft iX pu rfl rfl (.d (.agg (Entry.enc x_23))) rfl wz (F5 (eq:=eqS) (kD:=D.str) (vD:=(λx=>D.agg (Entry.enc x))) (es:=s_26) (k:=x_23.Key) (v:=x_23) 0 0 il ft (λ_ _=>rfl) mt81 (by kernel_rfl) rfl rfl rfl rfl wz (ak ?_)))))))
         obtain rfl:=aj h_44
         exact cu
        ·refine aA rfl hc_45 (av ?_)
         obtain rfl:=aj h_44
         exact cu
       ·rintro ⟨⟩ _ sl_ H_ hp_ hq_
        refine aM _ hp_ hq_ (aa (eQ (bB hD_24 hn_25) wz rfl (ae (vI ((k_21+1:Nat):Int)) wz rfl (ak ?_))))
        obtain rfl:=aj hc_27
        exact aY (k_21+1,l_22,v_43) ⟨hL_28,aR hD_24⟩ (ls_ _) rfl (aK rfl)
  ·rintro s_26 ho_ sl_ H_ hp_ hq_
   subst ho_
   refine aM _ hp_ hq_ (af (af (aa (ae (.map n_18) wz rfl (JR (kD:=D.str) (vD:=(λx=>D.agg (Entry.enc x))) (es:=s_26) 0 0 il ft mt81 rfl rfl wz (ae (vB (decide ((s_26.length:Int)>200))) wz rfl (ak ?_)))))))
   rcases au hF with⟨hc_46,hF⟩|⟨hc_46,hF⟩
   ·refine aB rfl hc_46 (af (aa (ae .nil wz rfl (ae (vI 2) wz rfl (ak ?_)))))
    obtain rfl:=aj hF
    exact ay (aO (.inr rfl) [.nil,(vI 2)] ⟨rfl,⟨rfl,trivial⟩⟩ rfl rfl rfl)
   ·refine aA rfl hc_46 (av (af (aa (ae .nil wz rfl (ak (af (af (aa (ae (.map n_18) wz rfl (h_calln [0] 1 (Aj (m:=s_26)) rfl hb47 rfl (by kernel_rfl) (by kernel_rfl) (by kernel_rfl) (by kernel_rfl) (by kernel_rfl) (by kernel_rfl) (by kernel_rfl) (by decide) (by kernel_rfl) (by kernel_rfl) wz (λnu_47=>(.fn 89 [(.ref (nu_47 0) 0 0)])) (λ_=>by kernel_rfl) (λnu_47=>([(n_18,some (bM D.str (λx=>D.agg (Entry.enc x)) s_26)),((nu_47 0),some (.cells 1 [(.map n_18)]))]:Hp)) (λ_=>by kernel_rfl) ?_))))))))))
    intro nu_47
    obtain ⟨r_48,hr_49,hF⟩:=bind_some hF
    refine fK 0 [1,0] il ft (yc hr_49) rfl hb46 rfl (by kernel_rfl) (by kernel_rfl) (by kernel_rfl) (by kernel_rfl) (by kernel_rfl) (by kernel_rfl) (by kernel_rfl) (by decide) (by kernel_rfl) wz (vL eS r_48) (by kernel_rfl) ([(n_18,some (bM D.str (λx=>D.agg (Entry.enc x)) s_26)),((nu_47 0),some (.cells 1 [(.map n_18)]))]:Hp) (by kernel_rfl) (bJ xc rfl wz (ae (vI 0) wz rfl (ak (kZ (λn_57 => ?_)))))
    obtain ⟨o_62,hj_63,hF⟩:=bind_some hF
    obtain ⟨hn_55,hj_63⟩:=bg hj_63
    refine aH (β:=((List Entry))×Nm) (λp=>(λ(s_56:List Entry) (n_59:Nm)=>([(14,(gV n_59 13 s_56))]:SL_)) p.1 p.2) (λp=>(λ(s_56:List Entry) (n_59:Nm)=>([(n_18,some (bM D.str (λx=>D.agg (Entry.enc x)) s_26)),((nu_47 0),some (.cells 1 [(.map n_18)])),(n_59,gB 13 Entry.enc s_56)]:Hp)) p.1 p.2) (λp=>o_62 = .go p.1) ?_ ?_
    ·refine aG (bv (β:=Nat×(List ByteArray)×((List Entry))×Nm) (λp=>(λ(k_51:Nat) (l_52:List ByteArray) (s_56:List Entry) (n_59:Nm)=>([(9,(.map n_18)),(14,(gV n_59 13 s_56)),(79,(vL eS r_48)),(80,(vI (r_48.length:Int))),(81,(vI (k_51:Int)))]:SL_)) p.1 p.2.1 p.2.2.1 p.2.2.2) (λp=>(λ(k_51:Nat) (l_52:List ByteArray) (s_56:List Entry) (n_59:Nm)=>([(n_18,some (bM D.str (λx=>D.agg (Entry.enc x)) s_26)),((nu_47 0),some (.cells 1 [(.map n_18)])),(n_59,gB 13 Entry.enc s_56)]:Hp)) p.1 p.2.1 p.2.2.1 p.2.2.2) (λp=>forR (λk x s=>fE s_26 k x s) p.2.1 p.1 p.2.2.1=some o_62/\(r_48).drop p.1=p.2.1) (λp=>p.2.1.length) (0,r_48,([]:List Entry),n_57) ⟨hj_63,rfl⟩ rfl (aK rfl) ?_)
     rintro ⟨k_51,l_52,s_56,n_59⟩ ⟨hL_61,hD_54⟩
     dsimp only at hL_61 hD_54
     cases l_52 with
     | nil =>
      obtain rfl:=aj hL_61
      refine af (aa (ae (vB (decide ((k_51:Int)<(r_48.length:Int)))) wz rfl (ak ?_)))
      refine af (aA rfl (drop_nil hD_54) (aX ?_))
      exact aS (s_56,n_59) rfl rfl (aK rfl)
     | cons x_53 l_52 =>
      obtain ⟨c_,hc_60,hL_61⟩:=bind_some hL_61
      refine af (aa (ae (vB (decide ((k_51:Int)<(r_48.length:Int)))) wz rfl (ak ?_)))
      refine af (aB rfl (bz hD_54) (av ?_))
      unfold fE at hc_60
      refine af (aG (af (aa (dP uw rfl rfl (bE hD_54) rfl wz (bO sz9 ag9 rfl (vS x_53) rfl wz (ae (vS x_53) wz rfl (ak (aa (ae (gV n_59 13 s_56) wz rfl (ae (.map n_18) wz rfl (ae (vS x_53) wz rfl (Bi (eq:=eqS) (kD:=D.str) (vD:=(λx=>D.agg (Entry.enc x))) (es:=s_26) (k:=x_53) (z:=(⟨(⟨#[]⟩:ByteArray),(⟨#[]⟩:ByteArray),0,0,0,0,0,([]:List Int),0,0,0,([]:List ByteArray),false⟩:Entry)) 0 0 il ft (λ_ _=>rfl) mt81 (by kernel_rfl) (by kernel_rfl) rfl rfl rfl (.d (.agg (Entry.enc ((bZ eqS s_26 x_53).getD (⟨(⟨#[]⟩:ByteArray),(⟨#[]⟩:ByteArray),0,0,0,0,0,([]:List Int),0,0,0,([]:List ByteArray),false⟩:Entry))))) rfl wz ?_))))))))))))
      obtain ⟨r_64,hr_65,hc_60⟩:=bind_some hc_60
      refine aD (xz hr_65) rfl hb48 rfl rfl rfl rfl wz (eO (([r_64]:List Entry).map Entry.enc) Cg Kr rfl rfl rfl rfl rfl wz ?_)
      obtain ⟨a_66,hz_67,hc_60⟩:=bind_some hc_60
      refine jH 0 il ft (i:=2) zl zl iX z35 rfl (by decide) Jj (by decide) (λ_=>rfl) rfl rfl rfl hz_67 wz (λn_68=>ae (gV n_68 13 a_66) wz rfl (ak (aa (eQ (bB hD_54 hn_55) wz rfl (ae (vI ((k_51+1:Nat):Int)) wz rfl (ak ?_))))))
      obtain rfl:=aj hc_60
      exact aY (k_51+1,l_52,a_66,n_68) ⟨hL_61,aR hD_54⟩ (ls_ _) rfl (aK rfl)
    ·rintro ⟨s_56,n_59⟩ ho_ sl_ H_ hp_ hq_
     subst ho_
     refine aM _ hp_ hq_ (af (aa (ae (gV n_59 13 s_56) wz rfl (ae (gV n_59 13 s_56) wz rfl (ae (vI 0) wz rfl (ak (fB 2 rfl (ek 4 2 rfl rfl (ek 14 2 rfl rfl (ek 93 2 rfl rfl ?_))))))))))
     obtain rfl:=aj hF
     exact ay (aO (.inr rfl) [(vL Entry.enc s_56),(vI 0)] ⟨rfl,⟨rfl,trivial⟩⟩ rfl rfl rfl)
theorem yE {l_1:(List Int)} {r:Int} (hF:pG l_1=some r) :
  FnM Tryz.prog 23 [(vL eI l_1)] [] (vI r) []:=by
 refine FnM.of_wH ⟨Tryz.prog,15,[],[]⟩ rfl Tryz.func23 rfl rfl (lb_ rfl) (by kernel_rfl) ?_
 unfold pG at hF
 refine af (aa (ae (vI 0) wz rfl (ak (af (af (aa (ae (vL eI l_1) wz rfl (bJ un93 rfl wz (ae (vI 0) wz rfl (ak ?_))))))))))
 obtain ⟨o_10,hj_11,hF⟩:=bind_some hF
 obtain ⟨hn_6,hj_11⟩:=bg hj_11
 refine aH (β:=(Unit)) (λ(s_7:Unit)=>([]:SL_)) (λ(s_7:Unit)=>([]:Hp)) (λp=>o_10 = .go p) ?_ ?_
 ·refine aG (bv (β:=Nat×(List Int)×(Unit)) (λp=>(λ(k_2:Nat) (l_3:List Int) (s_7:Unit)=>([(5,(vL eI l_1)),(6,(vI (l_1.length:Int))),(7,(vI (k_2:Int)))]:SL_)) p.1 p.2.1 p.2.2) (λp=>(λ(k_2:Nat) (l_3:List Int) (s_7:Unit)=>([]:Hp)) p.1 p.2.1 p.2.2) (λp=>forR (λk x s=>sG k x s) p.2.1 p.1 p.2.2=some o_10/\(l_1).drop p.1=p.2.1) (λp=>p.2.1.length) (0,l_1,()) ⟨hj_11,rfl⟩ rfl (aK rfl) ?_)
  rintro ⟨k_2,l_3,s_7⟩ ⟨hL_9,hD_5⟩
  dsimp only at hL_9 hD_5
  cases l_3 with
  | nil =>
   obtain rfl:=aj hL_9
   refine af (aa (ae (vB (decide ((k_2:Int)<(l_1.length:Int)))) wz rfl (ak ?_)))
   refine af (aA rfl (drop_nil hD_5) (aX ?_))
   exact aS (s_7) rfl rfl (aK rfl)
  | cons x_4 l_3 =>
   obtain ⟨c_,hc_8,hL_9⟩:=bind_some hL_9
   refine af (aa (ae (vB (decide ((k_2:Int)<(l_1.length:Int)))) wz rfl (ak ?_)))
   refine af (aB rfl (bz hD_5) (av ?_))
   unfold sG at hc_8
   refine af (aG (af (aa (dP es93 rfl rfl (bE hD_5) rfl wz (bO sz37 ag37 rfl (vI x_4) rfl wz (ae (vI x_4) wz rfl (ak (af (aa (ae (vI x_4) wz rfl (ae (vB (x_4 != 0)) wz rfl (ak ?_))))))))))))
   rcases au hc_8 with⟨hc_12,hc_8⟩|⟨hc_12,hc_8⟩
   ·refine aB rfl hc_12 (af (aa (ae (vI x_4) wz rfl (ae (vI x_4) wz rfl (ak ?_)))))
    obtain rfl:=aj hc_8
    obtain rfl:=aj hL_9
    obtain rfl:=aj hF
    exact ay (aO (.inr rfl) [(vI x_4)] ⟨rfl,trivial⟩ rfl rfl rfl)
   ·refine aA rfl hc_12 (av (aa (eQ (bB hD_5 hn_6) wz rfl (ae (vI ((k_2+1:Nat):Int)) wz rfl (ak ?_)))))
    obtain rfl:=aj hc_8
    exact aY (k_2+1,l_3,()) ⟨hL_9,aR hD_5⟩ (ls_ _) rfl (aK rfl)
 ·rintro s_7 ho_ sl_ H_ hp_ hq_
  subst ho_
  refine aM _ hp_ hq_ (af (aa (ae (vI 0) wz rfl (ak ?_))))
  obtain rfl:=aj hF
  exact ay (aO (.inr rfl) [(vI 0)] ⟨rfl,trivial⟩ rfl rfl rfl)
theorem uo {x0:Int} {r:ByteArray} (hF:strconv_Itoa x0=some r) :
  FnM Tryz.prog 75 [(vI x0)] [] (vS r) [] :=
 itoa_ok Tryz.strconv_Itoa GJ hF
theorem oq {x0:(List ByteArray)} {x1:ByteArray} {r:ByteArray} (hF:strings_Join x0 x1=some r) :
  FnM Tryz.prog 98 [(vL eS x0),(vS x1)] [] (vS r) [] :=
 join_ok rfl Tryz.strings_Join_none Tryz.strings_Join hF
theorem Cw {l_1:(List Int)} {r:ByteArray} (hF:nS l_1=some r) :
  FnM Tryz.prog 99 [(vL eI l_1)] [] (vS r) []:=by
 refine FnM.of_wH ⟨Tryz.prog,20,[],[]⟩ rfl Tryz.func99 rfl rfl (lb_ rfl) (by kernel_rfl) ?_
 unfold nS at hF
 refine af (aa (ae (vS (⟨#[]⟩:ByteArray)) wz rfl (ak (af (aa (ae .nil wz rfl (ak (af (af (aa (ae (vL eI l_1) wz rfl (bJ qi rfl wz (ae (vI 0) wz rfl (ak (kZ (λn_8 => ?_))))))))))))))))
 obtain ⟨o_13,hj_14,hF⟩:=bind_some hF
 obtain ⟨hn_6,hj_14⟩:=bg hj_14
 refine aH (β:=((List ByteArray))×Nm) (λp=>(λ(s_7:List ByteArray) (n_10:Nm)=>([(3,(gV n_10 1 s_7))]:SL_)) p.1 p.2) (λp=>(λ(s_7:List ByteArray) (n_10:Nm)=>([(n_10,gB 1 eS s_7)]:Hp)) p.1 p.2) (λp=>o_13 = .go p.1) ?_ ?_
 ·refine aG (bv (β:=Nat×(List Int)×((List ByteArray))×Nm) (λp=>(λ(k_2:Nat) (l_3:List Int) (s_7:List ByteArray) (n_10:Nm)=>([(3,(gV n_10 1 s_7)),(6,(vL eI l_1)),(7,(vI (l_1.length:Int))),(8,(vI (k_2:Int)))]:SL_)) p.1 p.2.1 p.2.2.1 p.2.2.2) (λp=>(λ(k_2:Nat) (l_3:List Int) (s_7:List ByteArray) (n_10:Nm)=>([(n_10,gB 1 eS s_7)]:Hp)) p.1 p.2.1 p.2.2.1 p.2.2.2) (λp=>forR (λk x s=>jb k x s) p.2.1 p.1 p.2.2.1=some o_13/\(l_1).drop p.1=p.2.1) (λp=>p.2.1.length) (0,l_1,([]:List ByteArray),n_8) ⟨hj_14,rfl⟩ rfl (aK rfl) ?_)
  rintro ⟨k_2,l_3,s_7,n_10⟩ ⟨hL_12,hD_5⟩
  dsimp only at hL_12 hD_5
  cases l_3 with
  | nil =>
   obtain rfl:=aj hL_12
   refine af (aa (ae (vB (decide ((k_2:Int)<(l_1.length:Int)))) wz rfl (ak ?_)))
   refine af (aA rfl (drop_nil hD_5) (aX ?_))
   exact aS (s_7,n_10) rfl rfl (aK rfl)
  | cons x_4 l_3 =>
   obtain ⟨c_,hc_11,hL_12⟩:=bind_some hL_12
   refine af (aa (ae (vB (decide ((k_2:Int)<(l_1.length:Int)))) wz rfl (ak ?_)))
   refine af (aB rfl (bz hD_5) (av ?_))
   unfold jb at hc_11
   refine af (aG (af (aa (dP kE rfl rfl (bE hD_5) rfl wz (bO sz3 ag3 rfl (vI x_4) rfl wz (ae (vI x_4) wz rfl (ak (aa (ae (gV n_10 1 s_7) wz rfl (ae (vI x_4) wz rfl ?_))))))))))
   obtain ⟨r_15,hr_16,hc_11⟩:=bind_some hc_11
   refine aD (uo hr_16) rfl hb75 rfl rfl rfl rfl wz (eO (([r_15]:List ByteArray).map eS) uw Fq rfl rfl rfl rfl rfl wz ?_)
   obtain ⟨a_17,hz_18,hc_11⟩:=bind_some hc_11
   refine jH 0 il ft (i:=0) FC FC sz9 z9 rfl (by decide) by9 (by decide) (λ_=>rfl) rfl rfl rfl hz_18 wz (λn_19=>ae (gV n_19 1 a_17) wz rfl (ak (aa (eQ (bB hD_5 hn_6) wz rfl (ae (vI ((k_2+1:Nat):Int)) wz rfl (ak ?_))))))
   obtain rfl:=aj hc_11
   exact aY (k_2+1,l_3,a_17,n_19) ⟨hL_12,aR hD_5⟩ (ls_ _) rfl (aK rfl)
 ·rintro ⟨s_7,n_10⟩ ho_ sl_ H_ hp_ hq_
  subst ho_
  refine aM _ hp_ hq_ (af (fB 0 rfl (ek 3 0 rfl rfl (aa (ae (vL eS s_7) wz rfl ?_)))))
  obtain ⟨r_20,hr_21,hF⟩:=bind_some hF
  refine aD (oq hr_21) rfl hb98 rfl rfl rfl rfl wz (ae (vS r_20) wz rfl (ak ?_))
  obtain rfl:=aj hF
  exact ay (aO (.inr rfl) [(vS r_20)] ⟨rfl,trivial⟩ rfl rfl rfl)
theorem wM {l_1:(List ByteArray)} {r:ByteArray} (hF:pY l_1=some r) :
  FnM Tryz.prog 100 [(vL eS l_1)] [] (vS r) []:=by
 refine FnM.of_wH ⟨Tryz.prog,8,[],[]⟩ rfl Tryz.func100 rfl rfl (lb_ rfl) (by kernel_rfl) ?_
 unfold pY at hF
 refine af (aa (ae (vS (⟨#[]⟩:ByteArray)) wz rfl (ak (af (af (aa (ae (vL eS l_1) wz rfl (bJ xc rfl wz (ae (vB ((l_1.length:Int)==0)) wz rfl (ak ?_))))))))))
 rcases au hF with⟨hc_2,hF⟩|⟨hc_2,hF⟩
 ·refine aB rfl hc_2 (af (aa (ae (vS (⟨#[45]⟩:ByteArray)) wz rfl (ak ?_))))
  obtain rfl:=aj hF
  exact ay (aO (.inr rfl) [(vS (⟨#[45]⟩:ByteArray))] ⟨rfl,trivial⟩ rfl rfl rfl)
 ·refine aA rfl hc_2 (av (af (aa (ae (vL eS l_1) wz rfl ?_))))
  obtain ⟨r_3,hr_4,hF⟩:=bind_some hF
  refine aD (oq hr_4) rfl hb98 rfl rfl rfl rfl wz (ae (vS r_3) wz rfl (ak ?_))
  obtain rfl:=aj hF
  exact ay (aO (.inr rfl) [(vS r_3)] ⟨rfl,trivial⟩ rfl rfl rfl)
theorem rf {e_1:Entry} {r:ByteArray} (hF:jF e_1=some r) :
  FnM Tryz.prog 62 [(.d (.agg (Entry.enc e_1)))] [] (vS r) []:=by
 refine FnM.of_wH ⟨Tryz.prog,52,[],[]⟩ rfl Tryz.func62 rfl rfl (lb_ rfl) (by kernel_rfl) ?_
 unfold jF at hF
 refine af (aa (gH 0 (.inl rfl) [(vS e_1.Key),(vS e_1.Item),(vI e_1.Version),(vI e_1.First),(vI e_1.Last),(vI e_1.Every),(vI e_1.Days),(vL eI e_1.Except),(vI e_1.From),(vI e_1.To),(vI e_1.Prio),(vL eS e_1.Tags),(vB e_1.Gone)] rfl rfl wz (λn_2=>ae (vS (⟨#[]⟩:ByteArray)) wz rfl (ak (af (aa (ae .nil wz rfl (ak (af (af (aa (aF mZ rfl 7 rfl wz (aC 0 0 il ft u6 zx rfl rfl (vL eI e_1.Except) rfl wz (bJ qi rfl wz (ae (vI 0) wz rfl (ak (kZ (λn_9 => ?_))))))))))))))))))
 obtain ⟨o_14,hj_15,hF⟩:=bind_some hF
 obtain ⟨hn_7,hj_15⟩:=bg hj_15
 refine aH (β:=((List ByteArray))×Nm) (λp=>(λ(s_8:List ByteArray) (n_11:Nm)=>([(1,(.ref n_2 0 0)),(3,(gV n_11 1 s_8))]:SL_)) p.1 p.2) (λp=>(λ(s_8:List ByteArray) (n_11:Nm)=>([(n_2,some (.cells 13 [(vS e_1.Key),(vS e_1.Item),(vI e_1.Version),(vI e_1.First),(vI e_1.Last),(vI e_1.Every),(vI e_1.Days),(vL eI e_1.Except),(vI e_1.From),(vI e_1.To),(vI e_1.Prio),(vL eS e_1.Tags),(vB e_1.Gone)])),(n_11,gB 1 eS s_8)]:Hp)) p.1 p.2) (λp=>o_14 = .go p.1) ?_ ?_
 ·refine aG (bv (β:=Nat×(List Int)×((List ByteArray))×Nm) (λp=>(λ(k_3:Nat) (l_4:List Int) (s_8:List ByteArray) (n_11:Nm)=>([(1,(.ref n_2 0 0)),(3,(gV n_11 1 s_8)),(8,(vL eI e_1.Except)),(9,(vI (e_1.Except.length:Int))),(10,(vI (k_3:Int)))]:SL_)) p.1 p.2.1 p.2.2.1 p.2.2.2) (λp=>(λ(k_3:Nat) (l_4:List Int) (s_8:List ByteArray) (n_11:Nm)=>([(n_2,some (.cells 13 [(vS e_1.Key),(vS e_1.Item),(vI e_1.Version),(vI e_1.First),(vI e_1.Last),(vI e_1.Every),(vI e_1.Days),(vL eI e_1.Except),(vI e_1.From),(vI e_1.To),(vI e_1.Prio),(vL eS e_1.Tags),(vB e_1.Gone)])),(n_11,gB 1 eS s_8)]:Hp)) p.1 p.2.1 p.2.2.1 p.2.2.2) (λp=>forR (λk x s=>kI k x s) p.2.1 p.1 p.2.2.1=some o_14/\(e_1.Except).drop p.1=p.2.1) (λp=>p.2.1.length) (0,e_1.Except,([]:List ByteArray),n_9) ⟨hj_15,rfl⟩ rfl (aK rfl) ?_)
  rintro ⟨k_3,l_4,s_8,n_11⟩ ⟨hL_13,hD_6⟩
  dsimp only at hL_13 hD_6
  cases l_4 with
  | nil =>
   obtain rfl:=aj hL_13
   refine af (aa (ae (vB (decide ((k_3:Int)<(e_1.Except.length:Int)))) wz rfl (ak ?_)))
   refine af (aA rfl (drop_nil hD_6) (aX ?_))
   exact aS (s_8,n_11) rfl rfl (aK rfl)
  | cons x_5 l_4 =>
   obtain ⟨c_,hc_12,hL_13⟩:=bind_some hL_13
   refine af (aa (ae (vB (decide ((k_3:Int)<(e_1.Except.length:Int)))) wz rfl (ak ?_)))
   refine af (aB rfl (bz hD_6) (av ?_))
   unfold kI at hc_12
   refine af (aG (af (aa (dP kE rfl rfl (bE hD_6) rfl wz (bO sz3 ag3 rfl (vI x_5) rfl wz (ae (vI x_5) wz rfl (ak (aa (ae (gV n_11 1 s_8) wz rfl (ae (vI x_5) wz rfl ?_))))))))))
   obtain ⟨r_16,hr_17,hc_12⟩:=bind_some hc_12
   refine aD (uo hr_17) rfl hb75 rfl rfl rfl rfl wz (eO (([r_16]:List ByteArray).map eS) uw Fq rfl rfl rfl rfl rfl wz ?_)
   obtain ⟨a_18,hz_19,hc_12⟩:=bind_some hc_12
   refine jH 0 il ft (i:=1) FC FC sz9 z9 rfl (by decide) by9 (by decide) (λ_=>rfl) rfl rfl rfl hz_19 wz (λn_20=>ae (gV n_20 1 a_18) wz rfl (ak (aa (eQ (bB hD_6 hn_7) wz rfl (ae (vI ((k_3+1:Nat):Int)) wz rfl (ak ?_))))))
   obtain rfl:=aj hc_12
   exact aY (k_3+1,l_4,a_18,n_20) ⟨hL_13,aR hD_6⟩ (ls_ _) rfl (aK rfl)
 ·rintro ⟨s_8,n_11⟩ ho_ sl_ H_ hp_ hq_
  subst ho_
  refine aM _ hp_ hq_ (af (aa (ae (vS (⟨#[111,110]⟩:ByteArray)) wz rfl (ak (af (af (aa (aF Ay rfl 12 rfl wz (aC 0 0 il ft sz4 ag4 rfl rfl (vB e_1.Gone) rfl wz (ak ?_))))))))))
  obtain ⟨v_21,h_22,hF⟩:=bind_some hF
  refine aH (β:=Unit) (λ_=>([(1,(.ref n_2 0 0)),(3,(gV n_11 1 s_8)),(6,(vS v_21))]:SL_)) (λ_=>([(n_2,some (.cells 13 [(vS e_1.Key),(vS e_1.Item),(vI e_1.Version),(vI e_1.First),(vI e_1.Last),(vI e_1.Every),(vI e_1.Days),(vL eI e_1.Except),(vI e_1.From),(vI e_1.To),(vI e_1.Prio),(vL eS e_1.Tags),(vB e_1.Gone)])),(n_11,gB 1 eS s_8)]:Hp)) (λ_=>True) ?_ ?_
  ·rcases au h_22 with⟨hc_23,h_22⟩|⟨hc_23,h_22⟩
   ·refine aB rfl hc_23 (aa (ae (vS (⟨#[103,111,110,101]⟩:ByteArray)) wz rfl (ak ?_)))
    obtain rfl:=aj h_22
    exact cu
   ·refine aA rfl hc_23 (av ?_)
    obtain rfl:=aj h_22
    exact cu
  ·rintro ⟨⟩ _ sl_ H_ hp_ hq_
   refine aM _ hp_ hq_ (af (fB 1 rfl (ek 3 1 rfl rfl (bG (aF uM rfl 0 rfl wz (aC 1 0 (.inr (by kernel_rfl)) (λ_ _ ag=>trivial) sz9 ag9 rfl rfl (vS e_1.Key) rfl wz (aF Fb rfl 1 rfl wz (aC 3 0 (.inr (by kernel_rfl)) (λ_ _ ag=>⟨.inl ⟨rfl,rfl⟩,trivial⟩) sz9 ag9 rfl rfl (vS e_1.Item) rfl wz (aF oL rfl 2 rfl wz (aC 5 0 (.inr (by kernel_rfl)) (λ_ _ ag=>⟨.inl ⟨rfl,rfl⟩,⟨.inl ⟨rfl,rfl⟩,trivial⟩⟩) sz3 ag3 rfl rfl (vI e_1.Version) rfl wz (aF uV rfl 3 rfl wz (aC 7 0 (.inr (by kernel_rfl)) (λ_ _ ag=>⟨.inl ⟨rfl,rfl⟩,⟨.inl ⟨rfl,rfl⟩,⟨.inl ⟨rfl,rfl⟩,trivial⟩⟩⟩) sz3 ag3 rfl rfl (vI e_1.First) rfl wz (aF ve rfl 4 rfl wz (aC 9 0 (.inr (by kernel_rfl)) (λ_ _ ag=>⟨.inl ⟨rfl,rfl⟩,⟨.inl ⟨rfl,rfl⟩,⟨.inl ⟨rfl,rfl⟩,⟨.inl ⟨rfl,rfl⟩,trivial⟩⟩⟩⟩) sz3 ag3 rfl rfl (vI e_1.Last) rfl wz (aF Bq rfl 5 rfl wz (aC 11 0 (.inr (by kernel_rfl)) (λ_ _ ag=>⟨.inl ⟨rfl,rfl⟩,⟨.inl ⟨rfl,rfl⟩,⟨.inl ⟨rfl,rfl⟩,⟨.inl ⟨rfl,rfl⟩,⟨.inl ⟨rfl,rfl⟩,trivial⟩⟩⟩⟩⟩) sz3 ag3 rfl rfl (vI e_1.Every) rfl wz (aF BC rfl 6 rfl wz (aC 13 0 (.inr (by kernel_rfl)) (λ_ _ ag=>⟨.inl ⟨rfl,rfl⟩,⟨.inl ⟨rfl,rfl⟩,⟨.inl ⟨rfl,rfl⟩,⟨.inl ⟨rfl,rfl⟩,⟨.inl ⟨rfl,rfl⟩,⟨.inl ⟨rfl,rfl⟩,trivial⟩⟩⟩⟩⟩⟩) sz3 ag3 rfl rfl (vI e_1.Days) rfl wz (aF y9 rfl 8 rfl wz (aC 15 0 (.inr (by kernel_rfl)) (λ_ _ ag=>⟨.inl ⟨rfl,rfl⟩,⟨.inl ⟨rfl,rfl⟩,⟨.inl ⟨rfl,rfl⟩,⟨.inl ⟨rfl,rfl⟩,⟨.inl ⟨rfl,rfl⟩,⟨.inl ⟨rfl,rfl⟩,⟨.inl ⟨rfl,rfl⟩,trivial⟩⟩⟩⟩⟩⟩⟩) sz3 ag3 rfl rfl (vI e_1.From) rfl wz (aF Bp rfl 9 rfl wz (aC 17 0 (.inr (by kernel_rfl)) (λ_ _ ag=>⟨.inl ⟨rfl,rfl⟩,⟨.inl ⟨rfl,rfl⟩,⟨.inl ⟨rfl,rfl⟩,⟨.inl ⟨rfl,rfl⟩,⟨.inl ⟨rfl,rfl⟩,⟨.inl ⟨rfl,rfl⟩,⟨.inl ⟨rfl,rfl⟩,⟨.inl ⟨rfl,rfl⟩,trivial⟩⟩⟩⟩⟩⟩⟩⟩) sz3 ag3 rfl rfl (vI e_1.To) rfl wz (aF xC rfl 10 rfl wz ?_)))))))))))))))))))))))
   refine aC 19 0 (.inr (by kernel_rfl)) (λ_ _ ag=>⟨.inl ⟨rfl,rfl⟩,⟨.inl ⟨rfl,rfl⟩,⟨.inl ⟨rfl,rfl⟩,⟨.inl ⟨rfl,rfl⟩,⟨.inl ⟨rfl,rfl⟩,⟨.inl ⟨rfl,rfl⟩,⟨.inl ⟨rfl,rfl⟩,⟨.inl ⟨rfl,rfl⟩,⟨.inl ⟨rfl,rfl⟩,trivial⟩⟩⟩⟩⟩⟩⟩⟩⟩) sz3 ag3 rfl rfl (vI e_1.Prio) rfl wz (eO (([e_1.Version,e_1.First,e_1.Last,e_1.Every,e_1.Days,e_1.From,e_1.To,e_1.Prio]:List Int).map eI) kE xE rfl rfl rfl rfl rfl wz ?_)
   obtain ⟨r_24,hr_25,hF⟩:=bind_some hF
   refine aD (Cw hr_25) rfl hb99 rfl rfl rfl rfl wz (ae (vS v_21) wz rfl (ae (vL eS s_8) wz rfl ?_))
   obtain ⟨r_26,hr_27,hF⟩:=bind_some hF
   refine aD (wM hr_27) rfl hb100 rfl rfl rfl rfl wz (aF lI rfl 11 rfl wz (aC 26 0 (.inr (by kernel_rfl)) (λ_ _ ag=>⟨.inl ⟨rfl,rfl⟩,⟨.inl ⟨rfl,rfl⟩,⟨.inl ⟨rfl,rfl⟩,⟨.inl ⟨rfl,rfl⟩,⟨.inl ⟨rfl,rfl⟩,⟨.inl ⟨rfl,rfl⟩,⟨.inl ⟨rfl,rfl⟩,⟨.inl ⟨rfl,rfl⟩,⟨.inl ⟨rfl,rfl⟩,⟨.inl ⟨rfl,rfl⟩,trivial⟩⟩⟩⟩⟩⟩⟩⟩⟩⟩) uX yK rfl rfl (vL eS e_1.Tags) rfl wz ?_))
   obtain ⟨r_28,hr_29,hF⟩:=bind_some hF
   refine aD (wM hr_29) rfl hb100 rfl rfl rfl rfl wz (eO (([e_1.Key,e_1.Item,r_24,v_21,r_26,r_28]:List ByteArray).map eS) uw Fq rfl rfl rfl rfl rfl wz ?_)
   obtain ⟨r_30,hr_31,hF⟩:=bind_some hF
   refine aD (oq hr_31) rfl hb98 rfl rfl rfl rfl wz (ae (vS r_30) wz rfl (ak (aM (H0:=([(n_2,some (.cells 13 [(vS e_1.Key),(vS e_1.Item),(vI e_1.Version),(vI e_1.First),(vI e_1.Last),(vI e_1.Every),(vI e_1.Days),(vL eI e_1.Except),(vI e_1.From),(vI e_1.To),(vI e_1.Prio),(vL eS e_1.Tags),(vB e_1.Gone)])),(n_11,gF 1 eS s_8)]:Hp)) ([(2,(vS r_30))]:SL_) (by kernel_rfl) (sO (by kernel_rfl)) ?_)))
   obtain rfl:=aj hF
   exact ay (aO (.inr rfl) [(vS r_30)] ⟨rfl,trivial⟩ rfl rfl rfl)
theorem yX {a_1:Entry} {b_2:Entry} {r:Bool} (hF:lw a_1 b_2=some r) :
  FnM Tryz.prog 19 [(.d (.agg (Entry.enc a_1))),(.d (.agg (Entry.enc b_2)))] [] (vB r) []:=by
 refine FnM.of_wH ⟨Tryz.prog,32,[],[]⟩ rfl Tryz.func19 rfl rfl (lb_ rfl) (by kernel_rfl) ?_
 unfold lw at hF
 refine af (aa (gH 0 (.inl rfl) [(vS a_1.Key),(vS a_1.Item),(vI a_1.Version),(vI a_1.First),(vI a_1.Last),(vI a_1.Every),(vI a_1.Days),(vL eI a_1.Except),(vI a_1.From),(vI a_1.To),(vI a_1.Prio),(vL eS a_1.Tags),(vB a_1.Gone)] rfl rfl wz (λn_3=>gH 0 (.inl rfl) [(vS b_2.Key),(vS b_2.Item),(vI b_2.Version),(vI b_2.First),(vI b_2.Last),(vI b_2.Every),(vI b_2.Days),(vL eI b_2.Except),(vI b_2.From),(vI b_2.To),(vI b_2.Prio),(vL eS b_2.Tags),(vB b_2.Gone)] rfl rfl wz (λn_4=>ae (vB false) wz rfl (ak (af (bG (aC 0 0 (.inr (by kernel_rfl)) (λ_ _ ag=>trivial) iX pu rfl rfl (.d (.agg (Entry.enc a_1))) rfl wz (aC 1 1 (.inr (by kernel_rfl)) (λ_ _ ag=>⟨.inl ⟨rfl,rfl⟩,trivial⟩) iX pu rfl rfl (.d (.agg (Entry.enc b_2))) rfl wz (dA 2 (.inr (by kernel_rfl)) z35 rfl wz (λn_5=>dA 3 (.inr (by kernel_rfl)) z35 rfl wz (λn_6=>dX 4 (.inr (by kernel_rfl)) (λ_ _ ag=>⟨.inr (.inr (by kernel_rfl)),⟨.inr (.inl (dis1 (ag_ne ag (i:=2) (j:=1) rfl rfl (by decide)))),⟨.inr (.inr (by kernel_rfl)),⟨.inr (.inr (by kernel_rfl)),trivial⟩⟩⟩⟩) 2 iX rfl rfl [(vS a_1.Key),(vS a_1.Item),(vI a_1.Version),(vI a_1.First),(vI a_1.Last),(vI a_1.Every),(vI a_1.Days),(vL eI a_1.Except),(vI a_1.From),(vI a_1.To),(vI a_1.Prio),(vL eS a_1.Tags),(vB a_1.Gone)] rfl wz (dX 5 (.inr (by kernel_rfl)) (λ_ _ ag=>⟨.inr (.inr (by kernel_rfl)),⟨.inr (.inr (by kernel_rfl)),⟨.inr (.inr (by kernel_rfl)),⟨.inr (.inr (by kernel_rfl)),⟨.inr (.inr (by kernel_rfl)),trivial⟩⟩⟩⟩⟩) 3 iX rfl rfl [(vS b_2.Key),(vS b_2.Item),(vI b_2.Version),(vI b_2.First),(vI b_2.Last),(vI b_2.Every),(vI b_2.Days),(vL eI b_2.Except),(vI b_2.From),(vI b_2.To),(vI b_2.Prio),(vL eS b_2.Tags),(vB b_2.Gone)] rfl wz (ak (af (aa (aF mZ rfl 7 rfl wz (dX 0 il ft 2 u6 rfl rfl [(vS a_1.Key),(vS a_1.Item),(vI a_1.Version),(vI a_1.First),(vI a_1.Last),(vI a_1.Every),(vI a_1.Days),.nil,(vI a_1.From),(vI a_1.To),(vI a_1.Prio),(vL eS a_1.Tags),(vB a_1.Gone)] rfl wz (aF lI rfl 11 rfl wz (dX 0 il ft 2 uX rfl rfl [(vS a_1.Key),(vS a_1.Item),(vI a_1.Version),(vI a_1.First),(vI a_1.Last),(vI a_1.Every),(vI a_1.Days),.nil,(vI a_1.From),(vI a_1.To),(vI a_1.Prio),.nil,(vB a_1.Gone)] rfl wz (aF mZ rfl 7 rfl wz (dX 0 il ft 3 u6 rfl rfl [(vS b_2.Key),(vS b_2.Item),(vI b_2.Version),(vI b_2.First),(vI b_2.Last),(vI b_2.Every),(vI b_2.Days),.nil,(vI b_2.From),(vI b_2.To),(vI b_2.Prio),(vL eS b_2.Tags),(vB b_2.Gone)] rfl wz (aF lI rfl 11 rfl wz ?_)))))))))))))))))))))))
 refine dX 0 il ft 3 uX rfl rfl [(vS b_2.Key),(vS b_2.Item),(vI b_2.Version),(vI b_2.First),(vI b_2.Last),(vI b_2.Every),(vI b_2.Days),.nil,(vI b_2.From),(vI b_2.To),(vI b_2.Prio),.nil,(vB b_2.Gone)] rfl wz (ak (af ?_))
 obtain ⟨v_7,h_8,hF⟩:=bind_some hF
 refine aH (β:=Unit) (λ_=>([(4,(vB v_7))]:SL_)) (λ_=>([(n_3,some (.cells 13 [(vS a_1.Key),(vS a_1.Item),(vI a_1.Version),(vI a_1.First),(vI a_1.Last),(vI a_1.Every),(vI a_1.Days),(vL eI a_1.Except),(vI a_1.From),(vI a_1.To),(vI a_1.Prio),(vL eS a_1.Tags),(vB a_1.Gone)])),(n_4,some (.cells 13 [(vS b_2.Key),(vS b_2.Item),(vI b_2.Version),(vI b_2.First),(vI b_2.Last),(vI b_2.Every),(vI b_2.Days),(vL eI b_2.Except),(vI b_2.From),(vI b_2.To),(vI b_2.Prio),(vL eS b_2.Tags),(vB b_2.Gone)])),(n_5,some (.cells 13 [(vS a_1.Key),(vS a_1.Item),(vI a_1.Version),(vI a_1.First),(vI a_1.Last),(vI a_1.Every),(vI a_1.Days),.nil,(vI a_1.From),(vI a_1.To),(vI a_1.Prio),.nil,(vB a_1.Gone)])),(n_6,some (.cells 13 [(vS b_2.Key),(vS b_2.Item),(vI b_2.Version),(vI b_2.First),(vI b_2.Last),(vI b_2.Every),(vI b_2.Days),.nil,(vI b_2.From),(vI b_2.To),(vI b_2.Prio),.nil,(vB b_2.Gone)]))]:Hp)) (λ_=>True) ?_ ?_
 ·refine bG (aC 0 2 (.inr (by kernel_rfl)) (λ_ _ ag=>trivial) iX pu rfl rfl (.agg [(vS a_1.Key),(vS a_1.Item),(vI a_1.Version),(vI a_1.First),(vI a_1.Last),(vI a_1.Every),(vI a_1.Days),.nil,(vI a_1.From),(vI a_1.To),(vI a_1.Prio),.nil,(vB a_1.Gone)]) rfl wz ?_)
  obtain ⟨r_9,hr_10,h_8⟩:=bind_some h_8
  refine aD (rf hr_10) rfl hb62 rfl rfl rfl rfl wz (aC 2 3 (.inr (by kernel_rfl)) (λ_ _ ag=>⟨.inl ⟨rfl,rfl⟩,trivial⟩) iX pu rfl rfl (.agg [(vS b_2.Key),(vS b_2.Item),(vI b_2.Version),(vI b_2.First),(vI b_2.Last),(vI b_2.Every),(vI b_2.Days),.nil,(vI b_2.From),(vI b_2.To),(vI b_2.Prio),.nil,(vB b_2.Gone)]) rfl wz ?_)
  obtain ⟨r_11,hr_12,h_8⟩:=bind_some h_8
  refine aD (rf hr_12) rfl hb62 rfl rfl rfl rfl wz (ae (vB (sEq r_9 r_11)) wz rfl ?_)
  rcases au h_8 with⟨hc_13,h_8⟩|⟨hc_13,h_8⟩
  ·refine ax rfl hc_13 wz (aF mZ rfl 7 rfl wa (aC 7 0 (.inr (by kernel_rfl)) (λ_ _ ag=>⟨.inl ⟨rfl,rfl⟩,⟨.inl ⟨rfl,rfl⟩,trivial⟩⟩) u6 zx rfl rfl (vL eI a_1.Except) rfl wa (aF mZ rfl 7 rfl wa (aC 9 1 (.inr (by kernel_rfl)) (λ_ _ ag=>⟨.inl ⟨rfl,rfl⟩,⟨.inl ⟨rfl,rfl⟩,⟨.inl ⟨rfl,rfl⟩,trivial⟩⟩⟩) u6 zx rfl rfl (vL eI b_2.Except) rfl wa ?_))))
   obtain ⟨r_14,hr_15,h_8⟩:=bind_some h_8
   refine aD (lY hr_15) rfl hb63 rfl rfl rfl rfl wa (ae (vB r_14) wz rfl ?_)
   rcases au h_8 with⟨hc_16,h_8⟩|⟨hc_16,h_8⟩
   ·refine ax rfl hc_16 wz (aF lI rfl 11 rfl wa (aC 14 0 (.inr (by kernel_rfl)) (λ_ _ ag=>⟨.inl ⟨rfl,rfl⟩,⟨.inl ⟨rfl,rfl⟩,⟨.inl ⟨rfl,rfl⟩,⟨.inl ⟨rfl,rfl⟩,trivial⟩⟩⟩⟩) uX yK rfl rfl (vL eS a_1.Tags) rfl wa (aF lI rfl 11 rfl wa (aC 16 1 (.inr (by kernel_rfl)) (λ_ _ ag=>⟨.inl ⟨rfl,rfl⟩,⟨.inl ⟨rfl,rfl⟩,⟨.inl ⟨rfl,rfl⟩,⟨.inl ⟨rfl,rfl⟩,⟨.inl ⟨rfl,rfl⟩,trivial⟩⟩⟩⟩⟩) uX yK rfl rfl (vL eS b_2.Tags) rfl wa ?_))))
    obtain ⟨r_17,hr_18,h_8⟩:=bind_some h_8
    refine aD (jk hr_18) rfl hb33 rfl rfl rfl rfl wa (ae (vB r_17) wz rfl (ae (vB r_17) wz rfl (ak ?_)))
    obtain rfl:=aj h_8
    exact cu
   ·refine ax rfl hc_16 wz (ah wa (ah wa (ah wa (ah wa (ah wa (ae (vB false) wz rfl (ae (vB false) wz rfl (ak ?_))))))))
    obtain rfl:=aj h_8
    exact cu
  ·refine ax rfl hc_13 wz (ah wa (ah wa (ah wa (ah wa (ah wa (ae (vB false) wz rfl (ae (vB false) wz rfl (ah wa (ah wa (ah wa (ah wa (ah wa (ae (vB false) wz rfl (ae (vB false) wz rfl (ak ?_)))))))))))))))
   obtain rfl:=aj h_8
   exact cu
 ·rintro ⟨⟩ _ sl_ H_ hp_ hq_
  refine aM _ hp_ hq_ ?_
  obtain rfl:=aj hF
  exact ay (aO (.inr rfl) [(vB v_7)] ⟨rfl,trivial⟩ rfl rfl rfl)
theorem fI {s1_1:(List Entry)} {s2_2:(List Entry)} {r:Bool} (hF:aQ s1_1 s2_2=some r) :
  FnM Tryz.prog 18 [(vL Entry.enc s1_1),(vL Entry.enc s2_2),(.fn 19 [])] [] (vB r) []:=by
 refine FnM.of_wH ⟨Tryz.prog,32,[],[]⟩ rfl Tryz.func18 rfl rfl (lb_ rfl) (by kernel_rfl) ?_
 unfold aQ at hF
 refine af (aa (ae (vB false) wz rfl (ak (af (af (aa (ae (vL Entry.enc s1_1) wz rfl (bJ BG rfl wz (ae (vL Entry.enc s2_2) wz rfl (bJ BG rfl wz (ae (vB ((s1_1.length:Int) != (s2_2.length:Int))) wz rfl (ak ?_))))))))))))
 rcases au hF with⟨hc_4,hF⟩|⟨hc_4,hF⟩
 ·refine aB rfl hc_4 (af (aa (ae (vB false) wz rfl (ak ?_))))
  obtain rfl:=aj hF
  exact ay (aO (.inr rfl) [(vB false)] ⟨rfl,trivial⟩ rfl rfl rfl)
 ·refine aA rfl hc_4 (av (af (af (aa (ae (vL Entry.enc s1_1) wz rfl (bJ BG rfl wz (ae (vI 0) wz rfl (ak ?_))))))))
  obtain ⟨o_13,hj_14,hF⟩:=bind_some hF
  obtain ⟨hn_9,hj_14⟩:=bg hj_14
  refine aH (β:=(Unit)) (λ(s_10:Unit)=>([]:SL_)) (λ(s_10:Unit)=>([]:Hp)) (λp=>o_13 = .go p) ?_ ?_
  ·refine aG (bv (β:=Nat×(List Entry)×(Unit)) (λp=>(λ(k_5:Nat) (l_6:List Entry) (s_10:Unit)=>([(1,(vL Entry.enc s2_2)),(2,(.fn 19 [])),(15,(vL Entry.enc s1_1)),(16,(vI (s1_1.length:Int))),(17,(vI (k_5:Int)))]:SL_)) p.1 p.2.1 p.2.2) (λp=>(λ(k_5:Nat) (l_6:List Entry) (s_10:Unit)=>([]:Hp)) p.1 p.2.1 p.2.2) (λp=>forR (λk x s=>aP s2_2 k x s) p.2.1 p.1 p.2.2=some o_13/\(s1_1).drop p.1=p.2.1) (λp=>p.2.1.length) (0,s1_1,()) ⟨hj_14,rfl⟩ rfl (aK rfl) ?_)
   rintro ⟨k_5,l_6,s_10⟩ ⟨hL_12,hD_8⟩
   dsimp only at hL_12 hD_8
   cases l_6 with
   | nil =>
    obtain rfl:=aj hL_12
    refine af (aa (ae (vB (decide ((k_5:Int)<(s1_1.length:Int)))) wz rfl (ak ?_)))
    refine af (aA rfl (drop_nil hD_8) (aX ?_))
    exact aS (s_10) rfl rfl (aK rfl)
   | cons x_7 l_6 =>
    obtain ⟨c_,hc_11,hL_12⟩:=bind_some hL_12
    refine af (aa (ae (vB (decide ((k_5:Int)<(s1_1.length:Int)))) wz rfl (ak ?_)))
    refine af (aB rfl (bz hD_8) (av ?_))
    unfold aP at hc_11
    refine af (aG (af (aa (ae (vI (k_5:Int)) wz rfl (dP Cg rfl rfl (bE hD_8) rfl wz (bO iX pu rfl (.d (.agg (Entry.enc x_7))) rfl wz (dA 0 (.inl rfl) z35 rfl wz (λn_15=>ae (vI (k_5:Int)) wz rfl (dX 0 il ft 0 iX rfl rfl [(vS x_7.Key),(vS x_7.Item),(vI x_7.Version),(vI x_7.First),(vI x_7.Last),(vI x_7.Every),(vI x_7.Days),(vL eI x_7.Except),(vI x_7.From),(vI x_7.To),(vI x_7.Prio),(vL eS x_7.Tags),(vB x_7.Gone)] rfl wz (ak (af (aa (ae (vL Entry.enc s2_2) wz rfl (ae (vI (k_5:Int)) wz rfl ?_))))))))))))))
    obtain ⟨y_16,hy_17,hc_11⟩:=bind_some hc_11
    refine dP Cg rfl rfl hy_17 rfl wz (bO iX pu rfl (.d (.agg (Entry.enc y_16))) rfl wz (dA 0 (.inl rfl) z35 rfl wz (λn_18=>dX 0 il ft 1 iX rfl rfl [(vS y_16.Key),(vS y_16.Item),(vI y_16.Version),(vI y_16.First),(vI y_16.Last),(vI y_16.Every),(vI y_16.Days),(vL eI y_16.Except),(vI y_16.From),(vI y_16.To),(vI y_16.Prio),(vL eS y_16.Tags),(vB y_16.Gone)] rfl wz (ak (af (aa (ae (.fn 19 []) wz rfl (aC 0 0 il ft iX pu rfl rfl (.d (.agg (Entry.enc x_7))) rfl wz (aC 0 1 il ft iX pu rfl rfl (.d (.agg (Entry.enc y_16))) rfl wz ?_)))))))))
    obtain ⟨r_19,hr_20,hc_11⟩:=bind_some hc_11
    refine aD (yX hr_20) rfl hb19 rfl rfl rfl rfl wz (ae (vB (!r_19)) wz rfl (ak ?_))
    rcases au hc_11 with⟨hc_21,hc_11⟩|⟨hc_21,hc_11⟩
    ·refine aB rfl hc_21 (af (aa (ae (vB false) wz rfl (ak ?_))))
     obtain rfl:=aj hc_11
     obtain rfl:=aj hL_12
     obtain rfl:=aj hF
     exact ay (aO (.inr rfl) [(vB false)] ⟨rfl,trivial⟩ rfl rfl rfl)
    ·refine aA rfl hc_21 (av (aa (eQ (bB hD_8 hn_9) wz rfl (ae (vI ((k_5+1:Nat):Int)) wz rfl (ak ?_)))))
     obtain rfl:=aj hc_11
     exact aY (k_5+1,l_6,()) ⟨hL_12,aR hD_8⟩ (ls_ _) rfl (aK rfl)
  ·rintro s_10 ho_ sl_ H_ hp_ hq_
   subst ho_
   refine aM _ hp_ hq_ (af (aa (ae (vB true) wz rfl (ak ?_))))
   obtain rfl:=aj hF
   exact ay (aO (.inr rfl) [(vB true)] ⟨rfl,trivial⟩ rfl rfl rfl)
theorem gW {p_1:(List Entry)} {q_2:(List Entry)} {r:Bool} (hF:cz p_1 q_2=some r) :
  FnM Tryz.prog 22 [(vL Entry.enc p_1),(vL Entry.enc q_2)] [] (vB r) []:=by
 refine FnM.of_wH ⟨Tryz.prog,8,[],[]⟩ rfl Tryz.func22 rfl rfl (lb_ rfl) (by kernel_rfl) ?_
 unfold cz at hF
 refine af (aa (ae (vB false) wz rfl (ak (af (aa (ae (vL Entry.enc p_1) wz rfl (ae (vL Entry.enc q_2) wz rfl ?_)))))))
 obtain ⟨r_3,hr_4,hF⟩:=bind_some hF
 refine aD (fI hr_4) rfl hb18 rfl rfl rfl rfl wz (ae (vB r_3) wz rfl (ak ?_))
 obtain rfl:=aj hF
 exact ay (aO (.inr rfl) [(vB r_3)] ⟨rfl,trivial⟩ rfl rfl rfl)
theorem o5 {r_1:Rect} {r:Int} (hF:kL r_1=some r) :
  FnM Tryz.prog 154 [(.d (.agg (Rect.enc r_1)))] [] (vI r) []:=by
 refine FnM.of_wH ⟨Tryz.prog,25,[],[]⟩ rfl Tryz.func154 rfl rfl (lb_ rfl) (by kernel_rfl) ?_
 unfold kL at hF
 refine af (aa (gH 0 (.inl rfl) [(vI r_1.X),(vI r_1.Y),(vI r_1.W),(vI r_1.H)] rfl rfl wz (λn_2=>ae (vI 0) wz rfl (ak (af (af ?_))))))
 obtain ⟨v_3,h_4,hF⟩:=bind_some hF
 refine aH (β:=Unit) (λ_=>([(1,(.ref n_2 0 0)),(10,(vB v_3))]:SL_)) (λ_=>([(n_2,some (.cells 4 [(vI r_1.X),(vI r_1.Y),(vI r_1.W),(vI r_1.H)]))]:Hp)) (λ_=>True) ?_ ?_
 ·refine aa (aF vN rfl 0 rfl wz (aC 0 0 il ft sz3 ag3 rfl rfl (vI r_1.X) rfl wz ?_))
  obtain ⟨r_5,hr_6,h_4⟩:=bind_some h_4
  refine aD (bf hr_6) rfl qj rfl rfl rfl rfl wz ?_
  rcases au h_4 with⟨hc_7,h_4⟩|⟨hc_7,h_4⟩
  ·refine ax rfl hc_7 wz (ah wa (ah wa (ah wa (ae (vB true) wz rfl (ak ?_)))))
   obtain rfl:=aj h_4
   exact cu
  ·refine ax rfl hc_7 wz (aF qJ rfl 1 rfl wa (aC 0 0 il ft sz3 ag3 rfl rfl (vI r_1.Y) rfl wa ?_))
   obtain ⟨r_8,hr_9,h_4⟩:=bind_some h_4
   refine aD (bf hr_9) rfl qj rfl rfl rfl rfl wa (ae (vB r_8) wz rfl (ak ?_))
   obtain rfl:=aj h_4
   exact cu
 ·rintro ⟨⟩ _ sl_ H_ hp_ hq_
  refine aM _ hp_ hq_ ?_
  rcases au hF with⟨hc_10,hF⟩|⟨hc_10,hF⟩
  ·refine aB rfl hc_10 (af (aa (ae (vI 1) wz rfl (ak ?_))))
   obtain rfl:=aj hF
   exact ay (aO (.inr rfl) [(vI 1)] ⟨rfl,trivial⟩ rfl rfl rfl)
  ·refine aA rfl hc_10 (av (af (af ?_)))
   obtain ⟨v_11,h_12,hF⟩:=bind_some hF
   refine aH (β:=Unit) (λ_=>([(24,(vB v_11))]:SL_)) (λ_=>([(n_2,some (.cells 4 [(vI r_1.X),(vI r_1.Y),(vI r_1.W),(vI r_1.H)]))]:Hp)) (λ_=>True) ?_ ?_
   ·refine aa (aF AB rfl 2 rfl wz (aC 0 0 il ft sz3 ag3 rfl rfl (vI r_1.W) rfl wz (aF vN rfl 0 rfl wz (aC 0 0 il ft sz3 ag3 rfl rfl (vI r_1.X) rfl wz (ae (vI (w64 (100000-r_1.X))) wz rfl ?_)))))
    obtain ⟨r_13,hr_14,h_12⟩:=bind_some h_12
    refine aD (bf hr_14) rfl qj rfl rfl rfl rfl wz ?_
    rcases au h_12 with⟨hc_15,h_12⟩|⟨hc_15,h_12⟩
    ·refine ax rfl hc_15 wz (ah wa (ah wa (ah wa (ah wa (ah wa (ah wa (ae (vB true) wz rfl (ak ?_))))))))
     obtain rfl:=aj h_12
     exact cu
    ·refine ax rfl hc_15 wz (aF yf rfl 3 rfl wa (aC 0 0 il ft sz3 ag3 rfl rfl (vI r_1.H) rfl wa (aF qJ rfl 1 rfl wa (aC 0 0 il ft sz3 ag3 rfl rfl (vI r_1.Y) rfl wa (ae (vI (w64 (100000-r_1.Y))) wa rfl ?_)))))
     obtain ⟨r_16,hr_17,h_12⟩:=bind_some h_12
     refine aD (bf hr_17) rfl qj rfl rfl rfl rfl wa (ae (vB r_16) wz rfl (ak ?_))
     obtain rfl:=aj h_12
     exact cu
   ·rintro ⟨⟩ _ sl_ H_ hp_ hq_
    refine aM _ hp_ hq_ ?_
    rcases au hF with⟨hc_18,hF⟩|⟨hc_18,hF⟩
    ·refine aB rfl hc_18 (af (aa (ae (vI 1) wz rfl (ak ?_))))
     obtain rfl:=aj hF
     exact ay (aO (.inr rfl) [(vI 1)] ⟨rfl,trivial⟩ rfl rfl rfl)
    ·refine aA rfl hc_18 (av (af (aa (ae (vI 0) wz rfl (ak ?_)))))
     obtain rfl:=aj hF
     exact ay (aO (.inr rfl) [(vI 0)] ⟨rfl,trivial⟩ rfl rfl rfl)
end Go.Proofs.YtnjnggakgeommaaGreatDoor.Law

