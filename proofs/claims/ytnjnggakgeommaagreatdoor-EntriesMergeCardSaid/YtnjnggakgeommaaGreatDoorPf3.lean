/-
 The machine computes these plain functions (written by a program of ours).
-/
import Derived.Test.YtnjnggakgeommaaGreatDoorFacts
import Derived.Test.YtnjnggakgeommaaGreatDoorDefs
import Derived.Test.YtnjnggakgeommaaGreatDoorPf2
import Derived.Test.YtnjnggakgeommaaGreatDoorShelf
open Go Go.Eng Go.Proofs
namespace Go.Proofs.YtnjnggakgeommaaGreatDoor.Law
set_option maxRecDepth 100000
set_option linter.unusedVariables false
set_option maxHeartbeats 1000000
theorem uT {a_1:Entry} {b_2:Entry} {r:Bool} (hF:iP a_1 b_2=some r) :
  FnM Tryz.prog 45 [(.d (.agg (Entry.enc a_1))),(.d (.agg (Entry.enc b_2)))] [] (vB r) []:=by
 refine FnM.of_wH ⟨Tryz.prog,94,[],[]⟩ rfl Tryz.func45 rfl rfl (lb_ rfl) (by kernel_rfl) ?_
 unfold iP at hF
 refine ah (aa (jm 0 (.inl rfl) [(vS a_1.Key),(vS a_1.Item),(vI a_1.Version),(vI a_1.First),(vI a_1.Last),(vI a_1.Every),(vI a_1.Days),(vL eI a_1.Except),(vI a_1.From),(vI a_1.To),(vI a_1.Prio),(vL eS a_1.Tags),(vB a_1.Gone)] rfl rfl wz (λn_3=>jm 0 (.inl rfl) [(vS b_2.Key),(vS b_2.Item),(vI b_2.Version),(vI b_2.First),(vI b_2.Last),(vI b_2.Every),(vI b_2.Days),(vL eI b_2.Except),(vI b_2.From),(vI b_2.To),(vI b_2.Prio),(vL eS b_2.Tags),(vB b_2.Gone)] rfl rfl wz (λn_4=>ae (vB false) wz rfl (ak (ah ?_))))))
 obtain ⟨v_5,h_6,hF⟩:=bind_some hF
 refine aJ (β:=Unit) (λ_=>([(4,(vB v_5))]:SL_)) (λ_=>([(n_3,some (.cells 13 [(vS a_1.Key),(vS a_1.Item),(vI a_1.Version),(vI a_1.First),(vI a_1.Last),(vI a_1.Every),(vI a_1.Days),(vL eI a_1.Except),(vI a_1.From),(vI a_1.To),(vI a_1.Prio),(vL eS a_1.Tags),(vB a_1.Gone)])),(n_4,some (.cells 13 [(vS b_2.Key),(vS b_2.Item),(vI b_2.Version),(vI b_2.First),(vI b_2.Last),(vI b_2.Every),(vI b_2.Days),(vL eI b_2.Except),(vI b_2.From),(vI b_2.To),(vI b_2.Prio),(vL eS b_2.Tags),(vB b_2.Gone)]))]:Hp)) (λ_=>True) ?_ ?_
 ·refine aa (aD jd rfl 0 rfl wz (aB 0 0 il ft sz9 ag9 rfl rfl (vS a_1.Key) rfl wz (aD jd rfl 0 rfl wz (aB 0 1 il ft sz9 ag9 rfl rfl (vS b_2.Key) rfl wz (ae (vB (sEq a_1.Key b_2.Key)) wz rfl ?_)))))
  rcases au h_6 with⟨hc_7,h_6⟩|⟨hc_7,h_6⟩
  ·refine ax rfl hc_7 wz (aD ut rfl 1 rfl wa (aB 0 0 il ft sz9 ag9 rfl rfl (vS a_1.Item) rfl wa (aD ut rfl 1 rfl wa (aB 0 1 il ft sz9 ag9 rfl rfl (vS b_2.Item) rfl wa (ae (vB (sEq a_1.Item b_2.Item)) wa rfl (ae (vB (sEq a_1.Item b_2.Item)) wz rfl ?_))))))
   rcases au h_6 with⟨hc_8,h_6⟩|⟨hc_8,h_6⟩
   ·refine ax rfl hc_8 wz (aD kz rfl 2 rfl wa (aB 0 0 il ft sz3 ag3 rfl rfl (vI a_1.Version) rfl wa (aD kz rfl 2 rfl wa (aB 0 1 il ft sz3 ag3 rfl rfl (vI b_2.Version) rfl wa (ae (vB (a_1.Version==b_2.Version)) wa rfl (ae (vB (a_1.Version==b_2.Version)) wz rfl ?_))))))
    rcases au h_6 with⟨hc_9,h_6⟩|⟨hc_9,h_6⟩
    ·refine ax rfl hc_9 wz (aD mZ rfl 3 rfl wa (aB 0 0 il ft sz3 ag3 rfl rfl (vI a_1.First) rfl wa (aD mZ rfl 3 rfl wa (aB 0 1 il ft sz3 ag3 rfl rfl (vI b_2.First) rfl wa (ae (vB (a_1.First==b_2.First)) wa rfl (ae (vB (a_1.First==b_2.First)) wz rfl ?_))))))
     rcases au h_6 with⟨hc_10,h_6⟩|⟨hc_10,h_6⟩
     ·refine ax rfl hc_10 wz (aD lZ rfl 4 rfl wa (aB 0 0 il ft sz3 ag3 rfl rfl (vI a_1.Last) rfl wa (aD lZ rfl 4 rfl wa (aB 0 1 il ft sz3 ag3 rfl rfl (vI b_2.Last) rfl wa (ae (vB (a_1.Last==b_2.Last)) wa rfl (ae (vB (a_1.Last==b_2.Last)) wz rfl ?_))))))
      rcases au h_6 with⟨hc_11,h_6⟩|⟨hc_11,h_6⟩
      ·refine ax rfl hc_11 wz (aD rE rfl 5 rfl wa (aB 0 0 il ft sz3 ag3 rfl rfl (vI a_1.Every) rfl wa (aD rE rfl 5 rfl wa (aB 0 1 il ft sz3 ag3 rfl rfl (vI b_2.Every) rfl wa (ae (vB (a_1.Every==b_2.Every)) wa rfl (ae (vB (a_1.Every==b_2.Every)) wz rfl ?_))))))
       rcases au h_6 with⟨hc_12,h_6⟩|⟨hc_12,h_6⟩
       ·refine ax rfl hc_12 wz (aD rR rfl 6 rfl wa (aB 0 0 il ft sz3 ag3 rfl rfl (vI a_1.Days) rfl wa (aD rR rfl 6 rfl wa (aB 0 1 il ft sz3 ag3 rfl rfl (vI b_2.Days) rfl wa (ae (vB (a_1.Days==b_2.Days)) wa rfl (ae (vB (a_1.Days==b_2.Days)) wz rfl ?_))))))
        rcases au h_6 with⟨hc_13,h_6⟩|⟨hc_13,h_6⟩
        ·refine ax rfl hc_13 wz (aD iU rfl 7 rfl wa (aB 0 0 il ft mK pV rfl rfl (vL eI a_1.Except) rfl wa (aD iU rfl 7 rfl wa (aB 0 1 il ft mK pV rfl rfl (vL eI b_2.Except) rfl wa ?_))))
         obtain ⟨r_14,hr_15,h_6⟩:=bind_some h_6
         refine aF (j3 hr_15) rfl hb63 rfl rfl rfl rfl wa (ae (vB r_14) wz rfl ?_)
         rcases au h_6 with⟨hc_16,h_6⟩|⟨hc_16,h_6⟩
         ·refine ax rfl hc_16 wz (aD pQ rfl 8 rfl wa (aB 0 0 il ft sz3 ag3 rfl rfl (vI a_1.From) rfl wa (aD pQ rfl 8 rfl wa (aB 0 1 il ft sz3 ag3 rfl rfl (vI b_2.From) rfl wa (ae (vB (a_1.From==b_2.From)) wa rfl (ae (vB (a_1.From==b_2.From)) wz rfl ?_))))))
          rcases au h_6 with⟨hc_17,h_6⟩|⟨hc_17,h_6⟩
          ·refine ax rfl hc_17 wz (aD rA rfl 9 rfl wa (aB 0 0 il ft sz3 ag3 rfl rfl (vI a_1.To) rfl wa (aD rA rfl 9 rfl wa (aB 0 1 il ft sz3 ag3 rfl rfl (vI b_2.To) rfl wa (ae (vB (a_1.To==b_2.To)) wa rfl (ae (vB (a_1.To==b_2.To)) wz rfl ?_))))))
           rcases au h_6 with⟨hc_18,h_6⟩|⟨hc_18,h_6⟩
           ·refine ax rfl hc_18 wz (aD qI rfl 10 rfl wa (aB 0 0 il ft sz3 ag3 rfl rfl (vI a_1.Prio) rfl wa (aD qI rfl 10 rfl wa (aB 0 1 il ft sz3 ag3 rfl rfl (vI b_2.Prio) rfl wa (ae (vB (a_1.Prio==b_2.Prio)) wa rfl (ae (vB (a_1.Prio==b_2.Prio)) wz rfl ?_))))))
            rcases au h_6 with⟨hc_19,h_6⟩|⟨hc_19,h_6⟩
            ·refine ax rfl hc_19 wz (aD iW rfl 11 rfl wa (aB 0 0 il ft o6 sK rfl rfl (vL eS a_1.Tags) rfl wa (aD iW rfl 11 rfl wa (aB 0 1 il ft o6 sK rfl rfl (vL eS b_2.Tags) rfl wa ?_))))
             obtain ⟨r_20,hr_21,h_6⟩:=bind_some h_6
             refine aF (ic hr_21) rfl hb33 rfl rfl rfl rfl wa (ae (vB r_20) wz rfl ?_)
             rcases au h_6 with⟨hc_22,h_6⟩|⟨hc_22,h_6⟩
             ·refine ax rfl hc_22 wz (aD tu rfl 12 rfl wa (aB 0 0 il ft sz4 ag4 rfl rfl (vB a_1.Gone) rfl wa (aD tu rfl 12 rfl wa (aB 0 1 il ft sz4 ag4 rfl rfl (vB b_2.Gone) rfl wa (h_beql un4 rfl rfl wa (ae (vB (a_1.Gone==b_2.Gone)) wz rfl (ae (vB (a_1.Gone==b_2.Gone)) wz rfl (ak ?_))))))))
              obtain rfl:=aj h_6
              exact cu
             ·refine ax rfl hc_22 wz (af wa (af wa (af wa (af wa (af wa (ae (vB false) wz rfl (ae (vB false) wz rfl (ak ?_))))))))
              obtain rfl:=aj h_6
              exact cu
            ·refine ax rfl hc_19 wz (af wa (af wa (af wa (af wa (af wa (ae (vB false) wz rfl (ae (vB false) wz rfl (af wa (af wa (af wa (af wa (af wa (ae (vB false) wz rfl (ae (vB false) wz rfl (ak ?_)))))))))))))))
             obtain rfl:=aj h_6
             exact cu
           ·refine ax rfl hc_18 wz (af wa (af wa (af wa (af wa (af wa (ae (vB false) wz rfl (ae (vB false) wz rfl (af wa (af wa (af wa (af wa (af wa (ae (vB false) wz rfl (ae (vB false) wz rfl (af wa (af wa (af wa (af wa (af wa (ae (vB false) wz rfl (ae (vB false) wz rfl (ak ?_))))))))))))))))))))))
            obtain rfl:=aj h_6
            exact cu
          ·refine ax rfl hc_17 wz (af wa (af wa (af wa (af wa (af wa (ae (vB false) wz rfl (ae (vB false) wz rfl (af wa (af wa (af wa (af wa (af wa (ae (vB false) wz rfl (ae (vB false) wz rfl (af wa (af wa (af wa (af wa (af wa (ae (vB false) wz rfl (ae (vB false) wz rfl (af wa (af wa ?_)))))))))))))))))))))))
           refine af wa (af wa (af wa (ae (vB false) wz rfl (ae (vB false) wz rfl (ak ?_)))))
           obtain rfl:=aj h_6
           exact cu
         ·refine ax rfl hc_16 wz (af wa (af wa (af wa (af wa (af wa (ae (vB false) wz rfl (ae (vB false) wz rfl (af wa (af wa (af wa (af wa (af wa (ae (vB false) wz rfl (ae (vB false) wz rfl (af wa (af wa (af wa (af wa (af wa (ae (vB false) wz rfl (ae (vB false) wz rfl (af wa (af wa ?_)))))))))))))))))))))))
          refine af wa (af wa (af wa (ae (vB false) wz rfl (ae (vB false) wz rfl (af wa (af wa (af wa (af wa (af wa (ae (vB false) wz rfl (ae (vB false) wz rfl (ak ?_))))))))))))
          obtain rfl:=aj h_6
          exact cu
        ·refine ax rfl hc_13 wz (af wa (af wa (af wa (af wa (af wa (ae (vB false) wz rfl (ae (vB false) wz rfl (af wa (af wa (af wa (af wa (af wa (ae (vB false) wz rfl (ae (vB false) wz rfl (af wa (af wa (af wa (af wa (af wa (ae (vB false) wz rfl (ae (vB false) wz rfl (af wa (af wa ?_)))))))))))))))))))))))
         refine af wa (af wa (af wa (ae (vB false) wz rfl (ae (vB false) wz rfl (af wa (af wa (af wa (af wa (af wa (ae (vB false) wz rfl (ae (vB false) wz rfl (af wa (af wa (af wa (af wa (af wa (ae (vB false) wz rfl (ae (vB false) wz rfl (ak ?_)))))))))))))))))))
         obtain rfl:=aj h_6
         exact cu
       ·refine ax rfl hc_12 wz (af wa (af wa (af wa (af wa (af wa (ae (vB false) wz rfl (ae (vB false) wz rfl (af wa (af wa (af wa (af wa (af wa (ae (vB false) wz rfl (ae (vB false) wz rfl (af wa (af wa (af wa (af wa (af wa (ae (vB false) wz rfl (ae (vB false) wz rfl (af wa (af wa ?_)))))))))))))))))))))))
        refine af wa (af wa (af wa (ae (vB false) wz rfl (ae (vB false) wz rfl (af wa (af wa (af wa (af wa (af wa (ae (vB false) wz rfl (ae (vB false) wz rfl (af wa (af wa (af wa (af wa (af wa (ae (vB false) wz rfl (ae (vB false) wz rfl (af wa (af wa (af wa (af wa (af wa ?_)))))))))))))))))))))))
        refine ae (vB false) wz rfl (ae (vB false) wz rfl (ak ?_))
        obtain rfl:=aj h_6
        exact cu
      ·refine ax rfl hc_11 wz (af wa (af wa (af wa (af wa (af wa (ae (vB false) wz rfl (ae (vB false) wz rfl (af wa (af wa (af wa (af wa (af wa (ae (vB false) wz rfl (ae (vB false) wz rfl (af wa (af wa (af wa (af wa (af wa (ae (vB false) wz rfl (ae (vB false) wz rfl (af wa (af wa ?_)))))))))))))))))))))))
       refine af wa (af wa (af wa (ae (vB false) wz rfl (ae (vB false) wz rfl (af wa (af wa (af wa (af wa (af wa (ae (vB false) wz rfl (ae (vB false) wz rfl (af wa (af wa (af wa (af wa (af wa (ae (vB false) wz rfl (ae (vB false) wz rfl (af wa (af wa (af wa (af wa (af wa ?_)))))))))))))))))))))))
       refine ae (vB false) wz rfl (ae (vB false) wz rfl (af wa (af wa (af wa (af wa (af wa (ae (vB false) wz rfl (ae (vB false) wz rfl (ak ?_)))))))))
       obtain rfl:=aj h_6
       exact cu
     ·refine ax rfl hc_10 wz (af wa (af wa (af wa (af wa (af wa (ae (vB false) wz rfl (ae (vB false) wz rfl (af wa (af wa (af wa (af wa (af wa (ae (vB false) wz rfl (ae (vB false) wz rfl (af wa (af wa (af wa (af wa (af wa (ae (vB false) wz rfl (ae (vB false) wz rfl (af wa (af wa ?_)))))))))))))))))))))))
      refine af wa (af wa (af wa (ae (vB false) wz rfl (ae (vB false) wz rfl (af wa (af wa (af wa (af wa (af wa (ae (vB false) wz rfl (ae (vB false) wz rfl (af wa (af wa (af wa (af wa (af wa (ae (vB false) wz rfl (ae (vB false) wz rfl (af wa (af wa (af wa (af wa (af wa ?_)))))))))))))))))))))))
      refine ae (vB false) wz rfl (ae (vB false) wz rfl (af wa (af wa (af wa (af wa (af wa (ae (vB false) wz rfl (ae (vB false) wz rfl (af wa (af wa (af wa (af wa (af wa (ae (vB false) wz rfl (ae (vB false) wz rfl (ak ?_))))))))))))))))
      obtain rfl:=aj h_6
      exact cu
    ·refine ax rfl hc_9 wz (af wa (af wa (af wa (af wa (af wa (ae (vB false) wz rfl (ae (vB false) wz rfl (af wa (af wa (af wa (af wa (af wa (ae (vB false) wz rfl (ae (vB false) wz rfl (af wa (af wa (af wa (af wa (af wa (ae (vB false) wz rfl (ae (vB false) wz rfl (af wa (af wa ?_)))))))))))))))))))))))
     refine af wa (af wa (af wa (ae (vB false) wz rfl (ae (vB false) wz rfl (af wa (af wa (af wa (af wa (af wa (ae (vB false) wz rfl (ae (vB false) wz rfl (af wa (af wa (af wa (af wa (af wa (ae (vB false) wz rfl (ae (vB false) wz rfl (af wa (af wa (af wa (af wa (af wa ?_)))))))))))))))))))))))
     refine ae (vB false) wz rfl (ae (vB false) wz rfl (af wa (af wa (af wa (af wa (af wa (ae (vB false) wz rfl (ae (vB false) wz rfl (af wa (af wa (af wa (af wa (af wa (ae (vB false) wz rfl (ae (vB false) wz rfl (af wa (af wa (af wa (af wa (af wa (ae (vB false) wz rfl (ae (vB false) wz rfl (ak ?_)))))))))))))))))))))))
     obtain rfl:=aj h_6
     exact cu
   ·refine ax rfl hc_8 wz (af wa (af wa (af wa (af wa (af wa (ae (vB false) wz rfl (ae (vB false) wz rfl (af wa (af wa (af wa (af wa (af wa (ae (vB false) wz rfl (ae (vB false) wz rfl (af wa (af wa (af wa (af wa (af wa (ae (vB false) wz rfl (ae (vB false) wz rfl (af wa (af wa ?_)))))))))))))))))))))))
    refine af wa (af wa (af wa (ae (vB false) wz rfl (ae (vB false) wz rfl (af wa (af wa (af wa (af wa (af wa (ae (vB false) wz rfl (ae (vB false) wz rfl (af wa (af wa (af wa (af wa (af wa (ae (vB false) wz rfl (ae (vB false) wz rfl (af wa (af wa (af wa (af wa (af wa ?_)))))))))))))))))))))))
    refine ae (vB false) wz rfl (ae (vB false) wz rfl (af wa (af wa (af wa (af wa (af wa (ae (vB false) wz rfl (ae (vB false) wz rfl (af wa (af wa (af wa (af wa (af wa (ae (vB false) wz rfl (ae (vB false) wz rfl (af wa (af wa (af wa (af wa (af wa (ae (vB false) wz rfl (ae (vB false) wz rfl (af wa ?_)))))))))))))))))))))))
    refine af wa (af wa (af wa (af wa (ae (vB false) wz rfl (ae (vB false) wz rfl (ak ?_))))))
    obtain rfl:=aj h_6
    exact cu
  ·refine ax rfl hc_7 wz (af wa (af wa (af wa (af wa (af wa (ae (vB false) wz rfl (ae (vB false) wz rfl (af wa (af wa (af wa (af wa (af wa (ae (vB false) wz rfl (ae (vB false) wz rfl (af wa (af wa (af wa (af wa (af wa (ae (vB false) wz rfl (ae (vB false) wz rfl (af wa (af wa ?_)))))))))))))))))))))))
   refine af wa (af wa (af wa (ae (vB false) wz rfl (ae (vB false) wz rfl (af wa (af wa (af wa (af wa (af wa (ae (vB false) wz rfl (ae (vB false) wz rfl (af wa (af wa (af wa (af wa (af wa (ae (vB false) wz rfl (ae (vB false) wz rfl (af wa (af wa (af wa (af wa (af wa ?_)))))))))))))))))))))))
   refine ae (vB false) wz rfl (ae (vB false) wz rfl (af wa (af wa (af wa (af wa (af wa (ae (vB false) wz rfl (ae (vB false) wz rfl (af wa (af wa (af wa (af wa (af wa (ae (vB false) wz rfl (ae (vB false) wz rfl (af wa (af wa (af wa (af wa (af wa (ae (vB false) wz rfl (ae (vB false) wz rfl (af wa ?_)))))))))))))))))))))))
   refine af wa (af wa (af wa (af wa (ae (vB false) wz rfl (ae (vB false) wz rfl (af wa (af wa (af wa (af wa (af wa (ae (vB false) wz rfl (ae (vB false) wz rfl (ak ?_)))))))))))))
   obtain rfl:=aj h_6
   exact cu
 ·rintro ⟨⟩ _ sl_ H_ hp_ hq_
  refine aZ _ hp_ hq_ ?_
  obtain rfl:=aj hF
  exact aA (bv (.inr rfl) [(vB v_5)] ⟨rfl,trivial⟩ rfl rfl rfl)
theorem vJ {m:(List (ByteArray×Entry))} :
  FnM Tryz.prog 47 [(.map (av 0))] [(bM D.str (λx=>D.agg (Entry.enc x)) m)] (.fn 89 [(.ref (av 1) 0 0)]) [some (bM D.str (λx=>D.agg (Entry.enc x)) m),some (.cells 1 [(.map (av 0))])] :=
 EG (λmb w=>Tryz.maps_Keys_47 mb w) _
theorem sZ {m:(List (ByteArray×Entry))} {r:List ByteArray} (hF:l8 m=some r) :
  FnM Tryz.prog 46 [(.fn 89 [(.ref (av 0) 0 0)])] [.cells 1 [(.map (av 1))],(bM D.str (λx=>D.agg (Entry.enc x)) m)] (vL eS r) [some (.cells 1 [(.map (av 1))]),some (bM D.str (λx=>D.agg (Entry.enc x)) m)] :=
 wO (eV:=(λx=>D.agg (Entry.enc x))) rfl (by kernel_rfl) (λb nn Bm D0 w h1 h2 h3 h4 h5=>Tryz.sorted_Keys_89 b nn Bm D0 w h1 h2 h3 h4 h5) hF
theorem lh {s_1:(List ByteArray)} {r:(List ByteArray)} (hF:ed s_1=some r) :
  FnM Tryz.prog 90 [(vL eS s_1)] [] (vL eS r) []:=by
 refine FnM.of_wH ⟨Tryz.prog,8,[],[]⟩ rfl Tryz.func90 rfl rfl (lb_ rfl) (by kernel_rfl) ?_
 unfold ed at hF
 refine ah (aa (ae .nil wz rfl (ak (ah (ah (aa (ae (vL eS s_1) wz rfl (wu uN rfl wz (λb_2 hb_3=>ak ?_)))))))))
 cases b_2 with
 | true =>
  refine aG rfl rfl ?_
  obtain rfl:=hb_3 rfl
  replace hF:=qB hF
  refine ah (aa (ae .nil wz rfl (ak ?_)))
  obtain rfl:=aj hF
  exact aA (bv (.inr rfl) [.nil] ⟨rfl,trivial⟩ rfl rfl rfl)
 | false =>
  refine aC rfl rfl (ay (ah (aa (Aa kv pg rfl wz (ae (vL eS s_1) wz rfl ?_)))))
  obtain ⟨a_4,hz_5,hF⟩:=bind_some hF
  refine zt 0 (.inl rfl) AC AC sz9 z9 rfl (by decide) by9 (by decide) (λ_=>rfl) rfl rfl hz_5 wz (λn_6=>ae (gV n_6 1 a_4) wz rfl (ak (gW 0 rfl (gu 2 0 rfl rfl (gu 7 0 rfl rfl ?_)))))
  obtain rfl:=aj hF
  exact aA (bv (.inr rfl) [(vL eS a_4)] ⟨rfl,trivial⟩ rfl rfl rfl)
theorem sO {e_1:Entry} {r:Entry} (hF:jb e_1=some r) :
  FnM Tryz.prog 48 [(.d (.agg (Entry.enc e_1)))] [] (.d (.agg (Entry.enc r))) []:=by
 refine FnM.of_wH ⟨Tryz.prog,12,[],[]⟩ rfl Tryz.func48 rfl rfl (lb_ rfl) (by kernel_rfl) ?_
 unfold jb at hF
 refine ah (aa (jm 0 (.inl rfl) [(vS e_1.Key),(vS e_1.Item),(vI e_1.Version),(vI e_1.First),(vI e_1.Last),(vI e_1.Every),(vI e_1.Days),(vL eI e_1.Except),(vI e_1.From),(vI e_1.To),(vI e_1.Prio),(vL eS e_1.Tags),(vB e_1.Gone)] rfl rfl wz (λn_2=>fP 0 (.inl rfl) z35 rfl wz (λn_3=>ak (ah (fC (aD iU rfl 7 rfl wz (aB 1 0 (.inr (by kernel_rfl)) (λ_ _ ag=>trivial) mK pV rfl rfl (vL eI e_1.Except) rfl wz ?_))))))))
 obtain ⟨r_4,hr_5,hF⟩:=bind_some hF
 refine aF (nz hr_5) rfl hb42 rfl rfl rfl rfl wz (aD iW rfl 11 rfl wz (aB 4 0 (.inr (by kernel_rfl)) (λ_ _ ag=>⟨.inl ⟨rfl,rfl⟩,trivial⟩) o6 sK rfl rfl (vL eS e_1.Tags) rfl wz ?_))
 obtain ⟨r_6,hr_7,hF⟩:=bind_some hF
 refine aF (lh hr_7) rfl hb90 rfl rfl rfl rfl wz (aD iU rfl 7 rfl wz (gz 7 (.inr (by kernel_rfl)) (λ_ _ ag=>⟨.inr (.inr (by kernel_rfl)),⟨.inr (.inr (by kernel_rfl)),trivial⟩⟩) 0 mK rfl rfl [(vS e_1.Key),(vS e_1.Item),(vI e_1.Version),(vI e_1.First),(vI e_1.Last),(vI e_1.Every),(vI e_1.Days),(vL eI r_4),(vI e_1.From),(vI e_1.To),(vI e_1.Prio),(vL eS e_1.Tags),(vB e_1.Gone)] rfl wz (aD iW rfl 11 rfl wz (gz 9 (.inr (by kernel_rfl)) (λ_ _ ag=>⟨.inr (.inr (by kernel_rfl)),⟨.inr (.inr (by kernel_rfl)),⟨.inr (.inr (by kernel_rfl)),trivial⟩⟩⟩) 0 o6 rfl rfl [(vS e_1.Key),(vS e_1.Item),(vI e_1.Version),(vI e_1.First),(vI e_1.Last),(vI e_1.Every),(vI e_1.Days),(vL eI r_4),(vI e_1.From),(vI e_1.To),(vI e_1.Prio),(vL eS r_6),(vB e_1.Gone)] rfl wz (ak (ah (aa (aB 0 0 il ft fu jK rfl rfl (.d (.agg (Entry.enc (⟨e_1.Key,e_1.Item,e_1.Version,e_1.First,e_1.Last,e_1.Every,e_1.Days,r_4,e_1.From,e_1.To,e_1.Prio,r_6,e_1.Gone⟩:Entry)))) rfl wz (gz 0 il ft 1 fu rfl rfl [(vS e_1.Key),(vS e_1.Item),(vI e_1.Version),(vI e_1.First),(vI e_1.Last),(vI e_1.Every),(vI e_1.Days),(vL eI r_4),(vI e_1.From),(vI e_1.To),(vI e_1.Prio),(vL eS r_6),(vB e_1.Gone)] rfl wz (ak ?_))))))))))
 obtain rfl:=aj hF
 exact aA (bv (.inr rfl) [(.d (.agg (Entry.enc (⟨e_1.Key,e_1.Item,e_1.Version,e_1.First,e_1.Last,e_1.Every,e_1.Days,r_4,e_1.From,e_1.To,e_1.Prio,r_6,e_1.Gone⟩:Entry))))] ⟨⟨1,_,_,_,_,_,_,_,rfl,rfl,fu,jK,rfl⟩,trivial⟩ rfl rfl rfl)
theorem sN {a_1:(List Entry)} {b_2:(List Entry)} {r:(List Entry)×Int} (hF:gp a_1 b_2=some r) :
  FnM Tryz.prog 11 [(vL Entry.enc a_1),(vL Entry.enc b_2)] [] (.tup [(vL Entry.enc r.1),(vI r.2)]) []:=by
 refine FnM.of_wH ⟨Tryz.prog,94,[],[]⟩ rfl Tryz.func11 rfl rfl (lb_ rfl) (by kernel_rfl) ?_
 unfold gp at hF
 refine ah (aa (ae .nil wz rfl (ae (vI 0) wz rfl (ak (ah (ah (aa (ae (vL Entry.enc a_1) wz rfl (ae (vL Entry.enc b_2) wz rfl (ae (.d (.agg [dl Entry.enc a_1,dl Entry.enc b_2])) wz (by kernel_rfl) (ae (vI 0) wz rfl (ak ?_))))))))))))
 obtain ⟨o_11,hj_12,hF⟩:=bind_some hF
 obtain ⟨hn_7,hj_12⟩:=bJ hj_12
 refine aJ (β:=(Unit)) (λ(s_8:Unit)=>([(0,(vL Entry.enc a_1)),(1,(vL Entry.enc b_2))]:SL_)) (λ(s_8:Unit)=>([]:Hp)) (λp=>o_11 = .go p) ?_ ?_
 ·refine aK (bX (β:=Nat×(List Nat)×(Unit)) (λp=>(λ(k_3:Nat) (l_4:List Nat) (s_8:Unit)=>([(0,(vL Entry.enc a_1)),(1,(vL Entry.enc b_2)),(19,(.d (.agg [dl Entry.enc a_1,dl Entry.enc b_2]))),(20,(vI (k_3:Int)))]:SL_)) p.1 p.2.1 p.2.2) (λp=>(λ(k_3:Nat) (l_4:List Nat) (s_8:Unit)=>([]:Hp)) p.1 p.2.1 p.2.2) (λp=>dR (λk x s=>dL a_1 b_2 k x s) p.2.1 p.1 p.2.2=some o_11/\((List.range (2:Int).toNat)).drop p.1=p.2.1) (λp=>p.2.1.length) (0,(List.range (2:Int).toNat),()) ⟨hj_12,rfl⟩ rfl (aN rfl) ?_)
  rintro ⟨k_3,l_4,s_8⟩ ⟨hL_10,hD_6⟩
  dsimp only at hL_10 hD_6
  cases l_4 with
  | nil =>
   obtain rfl:=aj hL_10
   refine ah (aa (ae (vB (decide ((k_3:Int)<2))) wz rfl (ak ?_)))
   refine ah (aC rfl (nO hD_6) (bT ?_))
   exact cB (s_8) rfl rfl (aN rfl)
  | cons x_5 l_4 =>
   obtain ⟨c_,hc_9,hL_10⟩:=bind_some hL_10
   refine ah (aa (ae (vB (decide ((k_3:Int)<2))) wz rfl (ak ?_)))
   refine ah (aG rfl (l6 hD_6) (ay ?_))
   unfold dL at hc_9
   refine ah (aK (ah (aa ?_)))
   obtain ⟨y_13,hy_14,hc_9⟩:=bind_some hc_9
   refine h_idxa (enc:=(eL Entry.enc)) (xs:=([a_1,b_2]:List (List Entry))) un80 sz26 ag26 rfl rfl rfl rfl hy_14 (λ_=>rfl) (.inr rfl) (vL Entry.enc y_13) rfl wz (ae (vL Entry.enc y_13) wz rfl (ak (ah (aa (ae (vL Entry.enc y_13) wz rfl ?_)))))
   obtain ⟨r_15,hr_16,hc_9⟩:=bind_some hc_9
   refine aF (gK hr_16) rfl hb13 rfl rfl rfl rfl wz (ae (vI r_15) wz rfl (ak (ah (aa (ae (vI r_15) wz rfl (ae (vB (r_15 != 0)) wz rfl (ak ?_)))))))
   rcases au hc_9 with⟨hc_17,hc_9⟩|⟨hc_17,hc_9⟩
   ·refine aG rfl hc_17 (ah (aa (ae (vI r_15) wz rfl (ae .nil wz rfl (ae (vI r_15) wz rfl (ak ?_))))))
    obtain rfl:=aj hc_9
    obtain rfl:=aj hL_10
    obtain rfl:=aj hF
    exact aA (bv (.inr rfl) [.nil,(vI r_15)] ⟨rfl,⟨rfl,trivial⟩⟩ rfl rfl rfl)
   ·refine aC rfl hc_17 (ay (aa (gX (nP hD_6 hn_7) wz rfl (ae (vI ((k_3+1:Nat):Int)) wz rfl (ak ?_)))))
    obtain rfl:=aj hc_9
    exact bO (k_3+1,l_4,()) ⟨hL_10,bg hD_6⟩ (ls_ _) rfl (aN rfl)
 ·rintro s_8 ho_ sl_ H_ hp_ hq_
  subst ho_
  refine aZ _ hp_ hq_ (ah (aa (h_mkmap 0 (.inl rfl) wz (λn_18=>h_reH (b':=some (bM D.str (λx=>D.agg (Entry.enc x)) ([]:List (ByteArray×Entry)))) 0 rfl rfl (ae (.map n_18) wz rfl (ak (ah (ah (aa (ae (vL Entry.enc a_1) wz rfl (ae (vL Entry.enc b_2) wz rfl (dY (([a_1,b_2]:List (List Entry)).map (eL Entry.enc)) Fg ez140 rfl rfl rfl rfl rfl wz ?_))))))))))))
  obtain ⟨r_19,hr_20,hF⟩:=bind_some hF
  refine aF (jH hr_20) rfl hb44 rfl rfl rfl rfl wz (dP nY rfl wz (ae (vI 0) wz rfl (ak ?_)))
  obtain ⟨o_29,hj_30,hF⟩:=bind_some hF
  obtain ⟨hn_25,hj_30⟩:=bJ hj_30
  refine aJ (β:=((List (ByteArray×Entry)))) (λ(s_26:(List (ByteArray×Entry)))=>([(9,(.map n_18))]:SL_)) (λ(s_26:(List (ByteArray×Entry)))=>([(n_18,some (bM D.str (λx=>D.agg (Entry.enc x)) s_26))]:Hp)) (λp=>o_29 = .go p) ?_ ?_
  ·refine aK (bX (β:=Nat×(List Entry)×((List (ByteArray×Entry)))) (λp=>(λ(k_21:Nat) (l_22:List Entry) (s_26:(List (ByteArray×Entry)))=>([(9,(.map n_18)),(33,(vL Entry.enc r_19)),(34,(vI (r_19.length:Int))),(35,(vI (k_21:Int)))]:SL_)) p.1 p.2.1 p.2.2) (λp=>(λ(k_21:Nat) (l_22:List Entry) (s_26:(List (ByteArray×Entry)))=>([(n_18,some (bM D.str (λx=>D.agg (Entry.enc x)) s_26))]:Hp)) p.1 p.2.1 p.2.2) (λp=>dR (λk x s=>eu k x s) p.2.1 p.1 p.2.2=some o_29/\(r_19).drop p.1=p.2.1) (λp=>p.2.1.length) (0,r_19,([]:List (ByteArray×Entry))) ⟨hj_30,rfl⟩ rfl (aN rfl) ?_)
   rintro ⟨k_21,l_22,s_26⟩ ⟨hL_28,hD_24⟩
   dsimp only at hL_28 hD_24
   cases l_22 with
   | nil =>
    obtain rfl:=aj hL_28
    refine ah (aa (ae (vB (decide ((k_21:Int)<(r_19.length:Int)))) wz rfl (ak ?_)))
    refine ah (aC rfl (drop_nil hD_24) (bT ?_))
    exact cB (s_26) rfl rfl (aN rfl)
   | cons x_23 l_22 =>
    obtain ⟨c_,hc_27,hL_28⟩:=bind_some hL_28
    refine ah (aa (ae (vB (decide ((k_21:Int)<(r_19.length:Int)))) wz rfl (ak ?_)))
    refine ah (aG rfl (dA hD_24) (ay ?_))
    unfold eu at hc_27
    refine ah (aK (ah (aa (iH lg rfl rfl (dU hD_24) rfl wz (eO fu jK rfl (.d (.agg (Entry.enc x_23))) rfl wz (fP 0 (.inl rfl) z35 rfl wz (λn_31=>gz 0 il ft 1 fu rfl rfl [(vS x_23.Key),(vS x_23.Item),(vI x_23.Version),(vI x_23.First),(vI x_23.Last),(vI x_23.Every),(vI x_23.Days),(vL eI x_23.Except),(vI x_23.From),(vI x_23.To),(vI x_23.Prio),(vL eS x_23.Tags),(vB x_23.Gone)] rfl wz (ak (ah (aa (ae (.map n_18) wz rfl (aD jd rfl 0 rfl wz (aB 0 1 il ft sz9 ag9 rfl rfl (vS x_23.Key) rfl wz (Ak (eq:=eqS) (kD:=D.str) (vD:=(λx=>D.agg (Entry.enc x))) (es:=s_26) (k:=x_23.Key) (z:=(⟨(⟨#[]⟩:ByteArray),(⟨#[]⟩:ByteArray),0,0,0,0,0,([]:List Int),0,0,0,([]:List ByteArray),false⟩:Entry)) 0 0 il ft (λ_ _=>rfl) mt81 (by kernel_rfl) (by kernel_rfl) rfl rfl rfl (.tup [(.d (.agg (Entry.enc ((bL eqS s_26 x_23.Key).getD (⟨(⟨#[]⟩:ByteArray),(⟨#[]⟩:ByteArray),0,0,0,0,0,([]:List Int),0,0,0,([]:List ByteArray),false⟩:Entry))))),(vB ((bL eqS s_26 x_23.Key).isSome))]) rfl wz (ae (.tup [(.d (.agg (Entry.enc ((bL eqS s_26 x_23.Key).getD (⟨(⟨#[]⟩:ByteArray),(⟨#[]⟩:ByteArray),0,0,0,0,0,([]:List Int),0,0,0,([]:List ByteArray),false⟩:Entry))))),(vB ((bL eqS s_26 x_23.Key).isSome))]) wz rfl (ae (.d (.agg (Entry.enc ((bL eqS s_26 x_23.Key).getD (⟨(⟨#[]⟩:ByteArray),(⟨#[]⟩:ByteArray),0,0,0,0,0,([]:List Int),0,0,0,([]:List ByteArray),false⟩:Entry))))) wz rfl (ae (vB ((bL eqS s_26 x_23.Key).isSome)) wz rfl (fP 0 (.inl rfl) z35 rfl wz (λn_32=>gz 0 il ft 2 fu rfl rfl [(vS (((bL eqS s_26 x_23.Key).getD (⟨(⟨#[]⟩:ByteArray),(⟨#[]⟩:ByteArray),0,0,0,0,0,([]:List Int),0,0,0,([]:List ByteArray),false⟩:Entry)).Key)),(vS (((bL eqS s_26 x_23.Key).getD (⟨(⟨#[]⟩:ByteArray),(⟨#[]⟩:ByteArray),0,0,0,0,0,([]:List Int),0,0,0,([]:List ByteArray),false⟩:Entry)).Item)),(vI (((bL eqS s_26 x_23.Key).getD (⟨(⟨#[]⟩:ByteArray),(⟨#[]⟩:ByteArray),0,0,0,0,0,([]:List Int),0,0,0,([]:List ByteArray),false⟩:Entry)).Version)),(vI (((bL eqS s_26 x_23.Key).getD (⟨(⟨#[]⟩:ByteArray),(⟨#[]⟩:ByteArray),0,0,0,0,0,([]:List Int),0,0,0,([]:List ByteArray),false⟩:Entry)).First)),(vI (((bL eqS s_26 x_23.Key).getD (⟨(⟨#[]⟩:ByteArray),(⟨#[]⟩:ByteArray),0,0,0,0,0,([]:List Int),0,0,0,([]:List ByteArray),false⟩:Entry)).Last)),(vI (((bL eqS s_26 x_23.Key).getD (⟨(⟨#[]⟩:ByteArray),(⟨#[]⟩:ByteArray),0,0,0,0,0,([]:List Int),0,0,0,([]:List ByteArray),false⟩:Entry)).Every)),(vI (((bL eqS s_26 x_23.Key).getD (⟨(⟨#[]⟩:ByteArray),(⟨#[]⟩:ByteArray),0,0,0,0,0,([]:List Int),0,0,0,([]:List ByteArray),false⟩:Entry)).Days)),(vL eI (((bL eqS s_26 x_23.Key).getD (⟨(⟨#[]⟩:ByteArray),(⟨#[]⟩:ByteArray),0,0,0,0,0,([]:List Int),0,0,0,([]:List ByteArray),false⟩:Entry)).Except)),(vI (((bL eqS s_26 x_23.Key).getD (⟨(⟨#[]⟩:ByteArray),(⟨#[]⟩:ByteArray),0,0,0,0,0,([]:List Int),0,0,0,([]:List ByteArray),false⟩:Entry)).From)),(vI (((bL eqS s_26 x_23.Key).getD (⟨(⟨#[]⟩:ByteArray),(⟨#[]⟩:ByteArray),0,0,0,0,0,([]:List Int),0,0,0,([]:List ByteArray),false⟩:Entry)).To)),(vI (((bL eqS s_26 x_23.Key).getD (⟨(⟨#[]⟩:ByteArray),(⟨#[]⟩:ByteArray),0,0,0,0,0,([]:List Int),0,0,0,([]:List ByteArray),false⟩:Entry)).Prio)),(vL eS (((bL eqS s_26 x_23.Key).getD (⟨(⟨#[]⟩:ByteArray),(⟨#[]⟩:ByteArray),0,0,0,0,0,([]:List Int),0,0,0,([]:List ByteArray),false⟩:Entry)).Tags)),(vB (((bL eqS s_26 x_23.Key).getD (⟨(⟨#[]⟩:ByteArray),(⟨#[]⟩:ByteArray),0,0,0,0,0,([]:List Int),0,0,0,([]:List ByteArray),false⟩:Entry)).Gone))] rfl wz (ae (vB ((bL eqS s_26 x_23.Key).isSome)) wz rfl (ak (ah (ah ?_)))))))))))))))))))))))
    obtain ⟨v_33,h_34,hc_27⟩:=bind_some hc_27
    refine aJ (β:=Unit) (λ_=>([(9,(.map n_18)),(11,(.ref n_31 0 0)),(12,(.ref n_32 0 0)),(13,(vB ((bL eqS s_26 x_23.Key).isSome))),(33,(vL Entry.enc r_19)),(34,(vI (r_19.length:Int))),(35,(vI (k_21:Int))),(59,(vB v_33))]:SL_)) (λ_=>([(n_18,some (bM D.str (λx=>D.agg (Entry.enc x)) s_26)),(n_31,some (.cells 13 [(vS x_23.Key),(vS x_23.Item),(vI x_23.Version),(vI x_23.First),(vI x_23.Last),(vI x_23.Every),(vI x_23.Days),(vL eI x_23.Except),(vI x_23.From),(vI x_23.To),(vI x_23.Prio),(vL eS x_23.Tags),(vB x_23.Gone)])),(n_32,some (.cells 13 [(vS (((bL eqS s_26 x_23.Key).getD (⟨(⟨#[]⟩:ByteArray),(⟨#[]⟩:ByteArray),0,0,0,0,0,([]:List Int),0,0,0,([]:List ByteArray),false⟩:Entry)).Key)),(vS (((bL eqS s_26 x_23.Key).getD (⟨(⟨#[]⟩:ByteArray),(⟨#[]⟩:ByteArray),0,0,0,0,0,([]:List Int),0,0,0,([]:List ByteArray),false⟩:Entry)).Item)),(vI (((bL eqS s_26 x_23.Key).getD (⟨(⟨#[]⟩:ByteArray),(⟨#[]⟩:ByteArray),0,0,0,0,0,([]:List Int),0,0,0,([]:List ByteArray),false⟩:Entry)).Version)),(vI (((bL eqS s_26 x_23.Key).getD (⟨(⟨#[]⟩:ByteArray),(⟨#[]⟩:ByteArray),0,0,0,0,0,([]:List Int),0,0,0,([]:List ByteArray),false⟩:Entry)).First)),(vI (((bL eqS s_26 x_23.Key).getD (⟨(⟨#[]⟩:ByteArray),(⟨#[]⟩:ByteArray),0,0,0,0,0,([]:List Int),0,0,0,([]:List ByteArray),false⟩:Entry)).Last)),(vI (((bL eqS s_26 x_23.Key).getD (⟨(⟨#[]⟩:ByteArray),(⟨#[]⟩:ByteArray),0,0,0,0,0,([]:List Int),0,0,0,([]:List ByteArray),false⟩:Entry)).Every)),(vI (((bL eqS s_26 x_23.Key).getD (⟨(⟨#[]⟩:ByteArray),(⟨#[]⟩:ByteArray),0,0,0,0,0,([]:List Int),0,0,0,([]:List ByteArray),false⟩:Entry)).Days)),(vL eI (((bL eqS s_26 x_23.Key).getD (⟨(⟨#[]⟩:ByteArray),(⟨#[]⟩:ByteArray),0,0,0,0,0,([]:List Int),0,0,0,([]:List ByteArray),false⟩:Entry)).Except)),(vI (((bL eqS s_26 x_23.Key).getD (⟨(⟨#[]⟩:ByteArray),(⟨#[]⟩:ByteArray),0,0,0,0,0,([]:List Int),0,0,0,([]:List ByteArray),false⟩:Entry)).From)),(vI (((bL eqS s_26 x_23.Key).getD (⟨(⟨#[]⟩:ByteArray),(⟨#[]⟩:ByteArray),0,0,0,0,0,([]:List Int),0,0,0,([]:List ByteArray),false⟩:Entry)).To)),(vI (((bL eqS s_26 x_23.Key).getD (⟨(⟨#[]⟩:ByteArray),(⟨#[]⟩:ByteArray),0,0,0,0,0,([]:List Int),0,0,0,([]:List ByteArray),false⟩:Entry)).Prio)),(vL eS (((bL eqS s_26 x_23.Key).getD (⟨(⟨#[]⟩:ByteArray),(⟨#[]⟩:ByteArray),0,0,0,0,0,([]:List Int),0,0,0,([]:List ByteArray),false⟩:Entry)).Tags)),(vB (((bL eqS s_26 x_23.Key).getD (⟨(⟨#[]⟩:ByteArray),(⟨#[]⟩:ByteArray),0,0,0,0,0,([]:List Int),0,0,0,([]:List ByteArray),false⟩:Entry)).Gone))]))]:Hp)) (λ_=>True) ?_ ?_
    ·refine aa (ae (vB ((bL eqS s_26 x_23.Key).isSome)) wz rfl ?_)
     rcases au h_34 with⟨hc_35,h_34⟩|⟨hc_35,h_34⟩
     ·refine ax rfl hc_35 wz (aD kz rfl 2 rfl wa (aB 0 2 il ft sz3 ag3 rfl rfl (vI (((bL eqS s_26 x_23.Key).getD (⟨(⟨#[]⟩:ByteArray),(⟨#[]⟩:ByteArray),0,0,0,0,0,([]:List Int),0,0,0,([]:List ByteArray),false⟩:Entry)).Version)) rfl wa (aD kz rfl 2 rfl wa (aB 0 1 il ft sz3 ag3 rfl rfl (vI x_23.Version) rfl wa (ae (vB ((((bL eqS s_26 x_23.Key).getD (⟨(⟨#[]⟩:ByteArray),(⟨#[]⟩:ByteArray),0,0,0,0,0,([]:List Int),0,0,0,([]:List ByteArray),false⟩:Entry)).Version)==x_23.Version)) wa rfl (ae (vB ((((bL eqS s_26 x_23.Key).getD (⟨(⟨#[]⟩:ByteArray),(⟨#[]⟩:ByteArray),0,0,0,0,0,([]:List Int),0,0,0,([]:List ByteArray),false⟩:Entry)).Version)==x_23.Version)) wz rfl ?_))))))
      rcases au h_34 with⟨hc_36,h_34⟩|⟨hc_36,h_34⟩
      ·refine ax rfl hc_36 wz (aB 0 2 il ft fu jK rfl rfl (.d (.agg (Entry.enc ((bL eqS s_26 x_23.Key).getD (⟨(⟨#[]⟩:ByteArray),(⟨#[]⟩:ByteArray),0,0,0,0,0,([]:List Int),0,0,0,([]:List ByteArray),false⟩:Entry))))) rfl wa (aB 0 1 il ft fu jK rfl rfl (.d (.agg (Entry.enc x_23))) rfl wa ?_))
       obtain ⟨r_37,hr_38,h_34⟩:=bind_some h_34
       refine aF (uT hr_38) rfl hb45 rfl rfl rfl rfl wa (ae (vB (!r_37)) wa rfl (ae (vB (!r_37)) wz rfl (ak ?_)))
       obtain rfl:=aj h_34
       exact cu
      ·refine ax rfl hc_36 wz (af wa (af wa (af wa (af wa (ae (vB false) wz rfl (ak ?_))))))
       obtain rfl:=aj h_34
       exact cu
     ·refine ax rfl hc_35 wz (af wa (af wa (af wa (af wa (af wa (ae (vB false) wz rfl (ae (vB false) wz rfl (af wa (af wa (af wa (af wa (ae (vB false) wz rfl (ak ?_)))))))))))))
      obtain rfl:=aj h_34
      exact cu
    ·rintro ⟨⟩ _ sl_ H_ hp_ hq_
     refine aZ _ hp_ hq_ ?_
     rcases au hc_27 with⟨hc_39,hc_27⟩|⟨hc_39,hc_27⟩
     ·refine aG rfl hc_39 (ah (aa (ae .nil wz rfl (ae (vI 13) wz rfl (ak ?_)))))
      obtain rfl:=aj hc_27
      obtain rfl:=aj hL_28
      obtain rfl:=aj hF
      exact aA (bv (.inr rfl) [.nil,(vI 13)] ⟨rfl,⟨rfl,trivial⟩⟩ rfl rfl rfl)
     ·refine aC rfl hc_39 (ay (ah ?_))
      obtain ⟨v_40,h_41,hc_27⟩:=bind_some hc_27
      refine aJ (β:=Unit) (λ_=>([(9,(.map n_18)),(11,(.ref n_31 0 0)),(33,(vL Entry.enc r_19)),(34,(vI (r_19.length:Int))),(35,(vI (k_21:Int))),(68,(vB v_40))]:SL_)) (λ_=>([(n_18,some (bM D.str (λx=>D.agg (Entry.enc x)) s_26)),(n_31,some (.cells 13 [(vS x_23.Key),(vS x_23.Item),(vI x_23.Version),(vI x_23.First),(vI x_23.Last),(vI x_23.Every),(vI x_23.Days),(vL eI x_23.Except),(vI x_23.From),(vI x_23.To),(vI x_23.Prio),(vL eS x_23.Tags),(vB x_23.Gone)])),(n_32,some (.cells 13 [(vS (((bL eqS s_26 x_23.Key).getD (⟨(⟨#[]⟩:ByteArray),(⟨#[]⟩:ByteArray),0,0,0,0,0,([]:List Int),0,0,0,([]:List ByteArray),false⟩:Entry)).Key)),(vS (((bL eqS s_26 x_23.Key).getD (⟨(⟨#[]⟩:ByteArray),(⟨#[]⟩:ByteArray),0,0,0,0,0,([]:List Int),0,0,0,([]:List ByteArray),false⟩:Entry)).Item)),(vI (((bL eqS s_26 x_23.Key).getD (⟨(⟨#[]⟩:ByteArray),(⟨#[]⟩:ByteArray),0,0,0,0,0,([]:List Int),0,0,0,([]:List ByteArray),false⟩:Entry)).Version)),(vI (((bL eqS s_26 x_23.Key).getD (⟨(⟨#[]⟩:ByteArray),(⟨#[]⟩:ByteArray),0,0,0,0,0,([]:List Int),0,0,0,([]:List ByteArray),false⟩:Entry)).First)),(vI (((bL eqS s_26 x_23.Key).getD (⟨(⟨#[]⟩:ByteArray),(⟨#[]⟩:ByteArray),0,0,0,0,0,([]:List Int),0,0,0,([]:List ByteArray),false⟩:Entry)).Last)),(vI (((bL eqS s_26 x_23.Key).getD (⟨(⟨#[]⟩:ByteArray),(⟨#[]⟩:ByteArray),0,0,0,0,0,([]:List Int),0,0,0,([]:List ByteArray),false⟩:Entry)).Every)),(vI (((bL eqS s_26 x_23.Key).getD (⟨(⟨#[]⟩:ByteArray),(⟨#[]⟩:ByteArray),0,0,0,0,0,([]:List Int),0,0,0,([]:List ByteArray),false⟩:Entry)).Days)),(vL eI (((bL eqS s_26 x_23.Key).getD (⟨(⟨#[]⟩:ByteArray),(⟨#[]⟩:ByteArray),0,0,0,0,0,([]:List Int),0,0,0,([]:List ByteArray),false⟩:Entry)).Except)),(vI (((bL eqS s_26 x_23.Key).getD (⟨(⟨#[]⟩:ByteArray),(⟨#[]⟩:ByteArray),0,0,0,0,0,([]:List Int),0,0,0,([]:List ByteArray),false⟩:Entry)).From)),(vI (((bL eqS s_26 x_23.Key).getD (⟨(⟨#[]⟩:ByteArray),(⟨#[]⟩:ByteArray),0,0,0,0,0,([]:List Int),0,0,0,([]:List ByteArray),false⟩:Entry)).To)),(vI (((bL eqS s_26 x_23.Key).getD (⟨(⟨#[]⟩:ByteArray),(⟨#[]⟩:ByteArray),0,0,0,0,0,([]:List Int),0,0,0,([]:List ByteArray),false⟩:Entry)).Prio)),(vL eS (((bL eqS s_26 x_23.Key).getD (⟨(⟨#[]⟩:ByteArray),(⟨#[]⟩:ByteArray),0,0,0,0,0,([]:List Int),0,0,0,([]:List ByteArray),false⟩:Entry)).Tags)),(vB (((bL eqS s_26 x_23.Key).getD (⟨(⟨#[]⟩:ByteArray),(⟨#[]⟩:ByteArray),0,0,0,0,0,([]:List Int),0,0,0,([]:List ByteArray),false⟩:Entry)).Gone))]))]:Hp)) (λ_=>True) ?_ ?_
      ·refine aa (ae (vB ((bL eqS s_26 x_23.Key).isSome)) wz rfl (ae (vB (!((bL eqS s_26 x_23.Key).isSome))) wz rfl ?_))
       rcases au h_41 with⟨hc_42,h_41⟩|⟨hc_42,h_41⟩
       ·refine ax rfl hc_42 wz (af wa (af wa (af wa (af wa (af wa (ae (vB true) wz rfl (ak ?_)))))))
        obtain rfl:=aj h_41
        exact cu
       ·refine ax rfl hc_42 wz (aD kz rfl 2 rfl wa (aB 0 1 il ft sz3 ag3 rfl rfl (vI x_23.Version) rfl wa (aD kz rfl 2 rfl wa (aB 0 2 il ft sz3 ag3 rfl rfl (vI (((bL eqS s_26 x_23.Key).getD (⟨(⟨#[]⟩:ByteArray),(⟨#[]⟩:ByteArray),0,0,0,0,0,([]:List Int),0,0,0,([]:List ByteArray),false⟩:Entry)).Version)) rfl wa (ae (vB (decide (x_23.Version>(((bL eqS s_26 x_23.Key).getD (⟨(⟨#[]⟩:ByteArray),(⟨#[]⟩:ByteArray),0,0,0,0,0,([]:List Int),0,0,0,([]:List ByteArray),false⟩:Entry)).Version)))) wa rfl (ae (vB (decide (x_23.Version>(((bL eqS s_26 x_23.Key).getD (⟨(⟨#[]⟩:ByteArray),(⟨#[]⟩:ByteArray),0,0,0,0,0,([]:List Int),0,0,0,([]:List ByteArray),false⟩:Entry)).Version)))) wz rfl (ak ?_)))))))
        obtain rfl:=aj h_41
        exact cu
      ·rintro ⟨⟩ _ sl_ H_ hp_ hq_
       refine aZ _ hp_ hq_ ?_
       obtain ⟨v_43,h_44,hc_27⟩:=bind_some hc_27
       refine aJ (β:=Unit) (λ_=>([(9,(.map n_18)),(33,(vL Entry.enc r_19)),(34,(vI (r_19.length:Int))),(35,(vI (k_21:Int)))]:SL_)) (λ_=>([(n_18,some (bM D.str (λx=>D.agg (Entry.enc x)) v_43)),(n_31,some (.cells 13 [(vS x_23.Key),(vS x_23.Item),(vI x_23.Version),(vI x_23.First),(vI x_23.Last),(vI x_23.Every),(vI x_23.Days),(vL eI x_23.Except),(vI x_23.From),(vI x_23.To),(vI x_23.Prio),(vL eS x_23.Tags),(vB x_23.Gone)])),(n_32,some (.cells 13 [(vS (((bL eqS s_26 x_23.Key).getD (⟨(⟨#[]⟩:ByteArray),(⟨#[]⟩:ByteArray),0,0,0,0,0,([]:List Int),0,0,0,([]:List ByteArray),false⟩:Entry)).Key)),(vS (((bL eqS s_26 x_23.Key).getD (⟨(⟨#[]⟩:ByteArray),(⟨#[]⟩:ByteArray),0,0,0,0,0,([]:List Int),0,0,0,([]:List ByteArray),false⟩:Entry)).Item)),(vI (((bL eqS s_26 x_23.Key).getD (⟨(⟨#[]⟩:ByteArray),(⟨#[]⟩:ByteArray),0,0,0,0,0,([]:List Int),0,0,0,([]:List ByteArray),false⟩:Entry)).Version)),(vI (((bL eqS s_26 x_23.Key).getD (⟨(⟨#[]⟩:ByteArray),(⟨#[]⟩:ByteArray),0,0,0,0,0,([]:List Int),0,0,0,([]:List ByteArray),false⟩:Entry)).First)),(vI (((bL eqS s_26 x_23.Key).getD (⟨(⟨#[]⟩:ByteArray),(⟨#[]⟩:ByteArray),0,0,0,0,0,([]:List Int),0,0,0,([]:List ByteArray),false⟩:Entry)).Last)),(vI (((bL eqS s_26 x_23.Key).getD (⟨(⟨#[]⟩:ByteArray),(⟨#[]⟩:ByteArray),0,0,0,0,0,([]:List Int),0,0,0,([]:List ByteArray),false⟩:Entry)).Every)),(vI (((bL eqS s_26 x_23.Key).getD (⟨(⟨#[]⟩:ByteArray),(⟨#[]⟩:ByteArray),0,0,0,0,0,([]:List Int),0,0,0,([]:List ByteArray),false⟩:Entry)).Days)),(vL eI (((bL eqS s_26 x_23.Key).getD (⟨(⟨#[]⟩:ByteArray),(⟨#[]⟩:ByteArray),0,0,0,0,0,([]:List Int),0,0,0,([]:List ByteArray),false⟩:Entry)).Except)),(vI (((bL eqS s_26 x_23.Key).getD (⟨(⟨#[]⟩:ByteArray),(⟨#[]⟩:ByteArray),0,0,0,0,0,([]:List Int),0,0,0,([]:List ByteArray),false⟩:Entry)).From)),(vI (((bL eqS s_26 x_23.Key).getD (⟨(⟨#[]⟩:ByteArray),(⟨#[]⟩:ByteArray),0,0,0,0,0,([]:List Int),0,0,0,([]:List ByteArray),false⟩:Entry)).To)),(vI (((bL eqS s_26 x_23.Key).getD (⟨(⟨#[]⟩:ByteArray),(⟨#[]⟩:ByteArray),0,0,0,0,0,([]:List Int),0,0,0,([]:List ByteArray),false⟩:Entry)).Prio)),(vL eS (((bL eqS s_26 x_23.Key).getD (⟨(⟨#[]⟩:ByteArray),(⟨#[]⟩:ByteArray),0,0,0,0,0,([]:List Int),0,0,0,([]:List ByteArray),false⟩:Entry)).Tags)),(vB (((bL eqS s_26 x_23.Key).getD (⟨(⟨#[]⟩:ByteArray),(⟨#[]⟩:ByteArray),0,0,0,0,0,([]:List Int),0,0,0,([]:List ByteArray),false⟩:Entry)).Gone))]))]:Hp)) (λ_=>True) ?_ ?_
       ·rcases au h_44 with⟨hc_45,h_44⟩|⟨hc_45,h_44⟩
        ·refine aG rfl hc_45 (aa (ae (.map n_18) wz rfl (aD jd rfl 0 rfl wz (aB 0 1 il ft sz9 ag9 rfl rfl (vS x_23.Key) rfl wz (aB 0 1 il ft fu jK rfl rfl (.d (.agg (Entry.enc x_23))) rfl wz (Gn (eq:=eqS) (kD:=D.str) (vD:=(λx=>D.agg (Entry.enc x))) (es:=s_26) (k:=x_23.Key) (v:=x_23) 0 0 il ft (λ_ _=>rfl) mt81 (by kernel_rfl) rfl rfl rfl rfl wz (ak ?_)))))))
         obtain rfl:=aj h_44
         exact cu
        ·refine aC rfl hc_45 (ay ?_)
         obtain rfl:=aj h_44
         exact cu
       ·rintro ⟨⟩ _ sl_ H_ hp_ hq_
        refine aZ _ hp_ hq_ (aa (gX (dD hD_24 hn_25) wz rfl (ae (vI ((k_21+1:Nat):Int)) wz rfl (ak ?_))))
        obtain rfl:=aj hc_27
        exact bO (k_21+1,l_22,v_43) ⟨hL_28,bg hD_24⟩ (ls_ _) rfl (aN rfl)
  ·rintro s_26 ho_ sl_ H_ hp_ hq_
   subst ho_
   refine aZ _ hp_ hq_ (ah (ah (aa (ae (.map n_18) wz rfl (ES (kD:=D.str) (vD:=(λx=>D.agg (Entry.enc x))) (es:=s_26) 0 0 il ft mt81 rfl rfl wz (ae (vB (decide ((s_26.length:Int)>200))) wz rfl (ak ?_)))))))
   rcases au hF with⟨hc_46,hF⟩|⟨hc_46,hF⟩
   ·refine aG rfl hc_46 (ah (aa (ae .nil wz rfl (ae (vI 2) wz rfl (ak ?_)))))
    obtain rfl:=aj hF
    exact aA (bv (.inr rfl) [.nil,(vI 2)] ⟨rfl,⟨rfl,trivial⟩⟩ rfl rfl rfl)
   ·refine aC rfl hc_46 (ay (ah (aa (ae .nil wz rfl (ak (ah (ah (aa (ae (.map n_18) wz rfl (h_calln [0] 1 (vJ (m:=s_26)) rfl hb47 rfl (by kernel_rfl) (by kernel_rfl) (by kernel_rfl) (by kernel_rfl) (by kernel_rfl) (by kernel_rfl) (by kernel_rfl) (by decide) (by kernel_rfl) (by kernel_rfl) wz (λnu_47=>(.fn 89 [(.ref (nu_47 0) 0 0)])) (λ_=>by kernel_rfl) (λnu_47=>([(n_18,some (bM D.str (λx=>D.agg (Entry.enc x)) s_26)),((nu_47 0),some (.cells 1 [(.map n_18)]))]:Hp)) (λ_=>by kernel_rfl) ?_))))))))))
    intro nu_47
    obtain ⟨r_48,hr_49,hF⟩:=bind_some hF
    refine aY 0 [1,0] il ft (sZ hr_49) rfl hb46 rfl (by kernel_rfl) (by kernel_rfl) (by kernel_rfl) (by kernel_rfl) (by kernel_rfl) (by kernel_rfl) (by kernel_rfl) (by decide) (by kernel_rfl) wz (vL eS r_48) (by kernel_rfl) ([(n_18,some (bM D.str (λx=>D.agg (Entry.enc x)) s_26)),((nu_47 0),some (.cells 1 [(.map n_18)]))]:Hp) (by kernel_rfl) (dP uN rfl wz (ae (vI 0) wz rfl (ak (nu (λn_57 => ?_)))))
    obtain ⟨o_62,hj_63,hF⟩:=bind_some hF
    obtain ⟨hn_55,hj_63⟩:=bJ hj_63
    refine aJ (β:=((List Entry))×Nm) (λp=>(λ(s_56:List Entry) (n_59:Nm)=>([(14,(gV n_59 13 s_56))]:SL_)) p.1 p.2) (λp=>(λ(s_56:List Entry) (n_59:Nm)=>([(n_18,some (bM D.str (λx=>D.agg (Entry.enc x)) s_26)),((nu_47 0),some (.cells 1 [(.map n_18)])),(n_59,gB 13 Entry.enc s_56)]:Hp)) p.1 p.2) (λp=>o_62 = .go p.1) ?_ ?_
    ·refine aK (bX (β:=Nat×(List ByteArray)×((List Entry))×Nm) (λp=>(λ(k_51:Nat) (l_52:List ByteArray) (s_56:List Entry) (n_59:Nm)=>([(9,(.map n_18)),(14,(gV n_59 13 s_56)),(79,(vL eS r_48)),(80,(vI (r_48.length:Int))),(81,(vI (k_51:Int)))]:SL_)) p.1 p.2.1 p.2.2.1 p.2.2.2) (λp=>(λ(k_51:Nat) (l_52:List ByteArray) (s_56:List Entry) (n_59:Nm)=>([(n_18,some (bM D.str (λx=>D.agg (Entry.enc x)) s_26)),((nu_47 0),some (.cells 1 [(.map n_18)])),(n_59,gB 13 Entry.enc s_56)]:Hp)) p.1 p.2.1 p.2.2.1 p.2.2.2) (λp=>dR (λk x s=>eD s_26 k x s) p.2.1 p.1 p.2.2.1=some o_62/\(r_48).drop p.1=p.2.1) (λp=>p.2.1.length) (0,r_48,([]:List Entry),n_57) ⟨hj_63,rfl⟩ rfl (aN rfl) ?_)
     rintro ⟨k_51,l_52,s_56,n_59⟩ ⟨hL_61,hD_54⟩
     dsimp only at hL_61 hD_54
     cases l_52 with
     | nil =>
      obtain rfl:=aj hL_61
      refine ah (aa (ae (vB (decide ((k_51:Int)<(r_48.length:Int)))) wz rfl (ak ?_)))
      refine ah (aC rfl (drop_nil hD_54) (bT ?_))
      exact cB (s_56,n_59) rfl rfl (aN rfl)
     | cons x_53 l_52 =>
      obtain ⟨c_,hc_60,hL_61⟩:=bind_some hL_61
      refine ah (aa (ae (vB (decide ((k_51:Int)<(r_48.length:Int)))) wz rfl (ak ?_)))
      refine ah (aG rfl (dA hD_54) (ay ?_))
      unfold eD at hc_60
      refine ah (aK (ah (aa (iH kv rfl rfl (dU hD_54) rfl wz (eO sz9 ag9 rfl (vS x_53) rfl wz (ae (vS x_53) wz rfl (ak (aa (ae (gV n_59 13 s_56) wz rfl (ae (.map n_18) wz rfl (ae (vS x_53) wz rfl (Ak (eq:=eqS) (kD:=D.str) (vD:=(λx=>D.agg (Entry.enc x))) (es:=s_26) (k:=x_53) (z:=(⟨(⟨#[]⟩:ByteArray),(⟨#[]⟩:ByteArray),0,0,0,0,0,([]:List Int),0,0,0,([]:List ByteArray),false⟩:Entry)) 0 0 il ft (λ_ _=>rfl) mt81 (by kernel_rfl) (by kernel_rfl) rfl rfl rfl (.d (.agg (Entry.enc ((bL eqS s_26 x_53).getD (⟨(⟨#[]⟩:ByteArray),(⟨#[]⟩:ByteArray),0,0,0,0,0,([]:List Int),0,0,0,([]:List ByteArray),false⟩:Entry))))) rfl wz ?_))))))))))))
      obtain ⟨r_64,hr_65,hc_60⟩:=bind_some hc_60
      refine aF (sO hr_65) rfl hb48 rfl rfl rfl rfl wz (dY (([r_64]:List Entry).map Entry.enc) lg EF rfl rfl rfl rfl rfl wz ?_)
      obtain ⟨a_66,hz_67,hc_60⟩:=bind_some hc_60
      refine mY 0 il ft (i:=2) uS uS fu z35 rfl (by decide) DX (by decide) (λ_=>rfl) rfl rfl rfl hz_67 wz (λn_68=>ae (gV n_68 13 a_66) wz rfl (ak (aa (gX (dD hD_54 hn_55) wz rfl (ae (vI ((k_51+1:Nat):Int)) wz rfl (ak ?_))))))
      obtain rfl:=aj hc_60
      exact bO (k_51+1,l_52,a_66,n_68) ⟨hL_61,bg hD_54⟩ (ls_ _) rfl (aN rfl)
    ·rintro ⟨s_56,n_59⟩ ho_ sl_ H_ hp_ hq_
     subst ho_
     refine aZ _ hp_ hq_ (ah (aa (ae (gV n_59 13 s_56) wz rfl (ae (gV n_59 13 s_56) wz rfl (ae (vI 0) wz rfl (ak (gW 2 rfl (gu 4 2 rfl rfl (gu 14 2 rfl rfl (gu 93 2 rfl rfl ?_))))))))))
     obtain rfl:=aj hF
     exact aA (bv (.inr rfl) [(vL Entry.enc s_56),(vI 0)] ⟨rfl,⟨rfl,trivial⟩⟩ rfl rfl rfl)
theorem iQ {n_1:Int} {low_2:Int} {high_3:Int} {r:Bool} (hF:jV n_1 low_2 high_3=some r) :
  FnM Tryz.prog 55 [(vI n_1),(vI low_2),(vI high_3)] [] (vB r) []:=by
 refine FnM.of_wH ⟨Tryz.prog,15,[],[]⟩ rfl Tryz.func55 rfl rfl (lb_ rfl) (by kernel_rfl) ?_
 unfold jV at hF
 refine ah (aa (ae (vB false) wz rfl (ak (ah ?_))))
 obtain ⟨v_4,h_5,hF⟩:=bind_some hF
 refine aJ (β:=Unit) (λ_=>([(6,(vB v_4))]:SL_)) (λ_=>([]:Hp)) (λ_=>True) ?_ ?_
 ·refine aa (ae (vI low_2) wz rfl (ae (vI n_1) wz rfl (ae (vB (decide (low_2<=n_1))) wz rfl ?_)))
  rcases au h_5 with⟨hc_6,h_5⟩|⟨hc_6,h_5⟩
  ·refine ax rfl hc_6 wz (ae (vI n_1) wa rfl (ae (vI high_3) wa rfl (ae (vB (decide (n_1<=high_3))) wa rfl (ae (vB (decide (n_1<=high_3))) wz rfl (ae (vB (decide (n_1<=high_3))) wz rfl (ak ?_))))))
   obtain rfl:=aj h_5
   exact cu
  ·refine ax rfl hc_6 wz (af wa (af wa (af wa (ae (vB false) wz rfl (ae (vB false) wz rfl (ak ?_))))))
   obtain rfl:=aj h_5
   exact cu
 ·rintro ⟨⟩ _ sl_ H_ hp_ hq_
  refine aZ _ hp_ hq_ ?_
  obtain rfl:=aj hF
  exact aA (bv (.inr rfl) [(vB v_4)] ⟨rfl,trivial⟩ rfl rfl rfl)
theorem ko {s_1:ByteArray} {c_2:Int} {r:Int} (hF:dJ s_1 c_2=some r) :
  FnM Tryz.prog 198 [(vS s_1),(.d (.int .u8 c_2))] [] (vI r) []:=by
 refine FnM.of_wH ⟨Tryz.prog,8,[],[]⟩ rfl Tryz.func198 rfl rfl (lb_ rfl) (by kernel_rfl) ?_
 unfold dJ at hF
 refine ah (aa (ae (vI 0) wz rfl (ak (ah (aa (ae (vS s_1) wz rfl (ae (.d (.int .u8 c_2)) wz rfl (h_ext (ext_ixB (f:=245) Tryz.func245 rfl rfl (by kernel_rfl) (by kernel_rfl) _ _) rfl nb245 rfl wz (ae (vI (ixB s_1 c_2)) wz rfl (ak ?_))))))))))
 obtain rfl:=aj hF
 exact aA (bv (.inr rfl) [(vI (ixB s_1 c_2))] ⟨rfl,trivial⟩ rfl rfl rfl)
theorem pY {s_1:ByteArray} {c_2:Int} {r:Int} (hF:strings_IndexByte s_1 c_2=some r) :
  FnM Tryz.prog 137 [(vS s_1),(.d (.int .u8 c_2))] [] (vI r) []:=by
 refine FnM.of_wH ⟨Tryz.prog,8,[],[]⟩ rfl Tryz.func137 rfl rfl (lb_ rfl) (by kernel_rfl) ?_
 unfold strings_IndexByte at hF
 refine ah (aa (ae (vI 0) wz rfl (ak (ah (aa (ae (vS s_1) wz rfl (ae (.d (.int .u8 c_2)) wz rfl ?_)))))))
 obtain ⟨r_3,hr_4,hF⟩:=bind_some hF
 refine aF (ko hr_4) rfl hb198 rfl rfl rfl rfl wz (ae (vI r_3) wz rfl (ak ?_))
 obtain rfl:=aj hF
 exact aA (bv (.inr rfl) [(vI r_3)] ⟨rfl,trivial⟩ rfl rfl rfl)
theorem vo {s_1:ByteArray} {somev_2:ByteArray} {r:Bool} (hF:nA s_1 somev_2=some r) :
  FnM Tryz.prog 93 [(vS s_1),(vS somev_2)] [] (vB r) []:=by
 refine FnM.of_wH ⟨Tryz.prog,18,[],[]⟩ rfl Tryz.func93 rfl rfl (lb_ rfl) (by kernel_rfl) ?_
 unfold nA at hF
 refine ah (aa (ae (vB false) wz rfl (ak (ah (ah (aa (ae (vS s_1) wz rfl (zO un9 rfl wz (ae (vI 0) wz rfl (ak ?_))))))))))
 obtain ⟨o_11,hj_12,hF⟩:=bind_some hF
 obtain ⟨hn_7,hj_12⟩:=bJ hj_12
 refine aJ (β:=(Unit)) (λ(s_8:Unit)=>([]:SL_)) (λ(s_8:Unit)=>([]:Hp)) (λp=>o_11 = .go p) ?_ ?_
 ·refine aK (bX (β:=Nat×(List Nat)×(Unit)) (λp=>(λ(k_3:Nat) (l_4:List Nat) (s_8:Unit)=>([(0,(vS s_1)),(1,(vS somev_2)),(7,(vI (s_1.size:Int))),(8,(vI (k_3:Int)))]:SL_)) p.1 p.2.1 p.2.2) (λp=>(λ(k_3:Nat) (l_4:List Nat) (s_8:Unit)=>([]:Hp)) p.1 p.2.1 p.2.2) (λp=>dR (λk x s=>jZ s_1 somev_2 k x s) p.2.1 p.1 p.2.2=some o_11/\((List.range ((s_1.size:Int)).toNat)).drop p.1=p.2.1) (λp=>p.2.1.length) (0,(List.range ((s_1.size:Int)).toNat),()) ⟨hj_12,rfl⟩ rfl (aN rfl) ?_)
  rintro ⟨k_3,l_4,s_8⟩ ⟨hL_10,hD_6⟩
  dsimp only at hL_10 hD_6
  cases l_4 with
  | nil =>
   obtain rfl:=aj hL_10
   refine ah (aa (ae (vB (decide ((k_3:Int)<(s_1.size:Int)))) wz rfl (ak ?_)))
   refine ah (aC rfl (nO hD_6) (bT ?_))
   exact cB (s_8) rfl rfl (aN rfl)
  | cons x_5 l_4 =>
   obtain ⟨c_,hc_9,hL_10⟩:=bind_some hL_10
   refine ah (aa (ae (vB (decide ((k_3:Int)<(s_1.size:Int)))) wz rfl (ak ?_)))
   refine ah (aG rfl (l6 hD_6) (ay ?_))
   unfold jZ at hc_9
   refine ah (aK (ah (aa (ae (vI (k_3:Int)) wz rfl (ae (vI (k_3:Int)) wz rfl (ak (ah (aa (ae (vS somev_2) wz rfl (ae (vS s_1) wz rfl (ae (vI (k_3:Int)) wz rfl ?_)))))))))))
   obtain ⟨b_13,hy_14,hc_9⟩:=bind_some hc_9
   refine Ct un9 rfl rfl hy_14 wz ?_
   obtain ⟨r_15,hr_16,hc_9⟩:=bind_some hc_9
   refine aF (pY hr_16) rfl hb137 rfl rfl rfl rfl wz (ae (vB (decide (r_15<0))) wz rfl (ak ?_))
   rcases au hc_9 with⟨hc_17,hc_9⟩|⟨hc_17,hc_9⟩
   ·refine aG rfl hc_17 (ah (aa (ae (vB false) wz rfl (ak ?_))))
    obtain rfl:=aj hc_9
    obtain rfl:=aj hL_10
    obtain rfl:=aj hF
    exact aA (bv (.inr rfl) [(vB false)] ⟨rfl,trivial⟩ rfl rfl rfl)
   ·refine aC rfl hc_17 (ay (aa (gX (nP hD_6 hn_7) wz rfl (ae (vI ((k_3+1:Nat):Int)) wz rfl (ak ?_)))))
    obtain rfl:=aj hc_9
    exact bO (k_3+1,l_4,()) ⟨hL_10,bg hD_6⟩ (ls_ _) rfl (aN rfl)
 ·rintro s_8 ho_ sl_ H_ hp_ hq_
  subst ho_
  refine aZ _ hp_ hq_ (ah (aa (ae (vB true) wz rfl (ak ?_))))
  obtain rfl:=aj hF
  exact aA (bv (.inr rfl) [(vB true)] ⟨rfl,trivial⟩ rfl rfl rfl)
theorem mr {s_1:ByteArray} {r:Bool} (hF:lS s_1=some r) :
  FnM Tryz.prog 54 [(vS s_1)] [] (vB r) []:=by
 refine FnM.of_wH ⟨Tryz.prog,15,[],[]⟩ rfl Tryz.func54 rfl rfl (lb_ rfl) (by kernel_rfl) ?_
 unfold lS at hF
 refine ah (aa (ae (vB false) wz rfl (ak (ah ?_))))
 obtain ⟨v_2,h_3,hF⟩:=bind_some hF
 refine aJ (β:=Unit) (λ_=>([(2,(vB v_2))]:SL_)) (λ_=>([]:Hp)) (λ_=>True) ?_ ?_
 ·refine aa (ae (vS s_1) wz rfl (zO un9 rfl wz ?_))
  obtain ⟨r_4,hr_5,h_3⟩:=bind_some h_3
  refine aF (iQ hr_5) rfl yf rfl rfl rfl rfl wz ?_
  rcases au h_3 with⟨hc_6,h_3⟩|⟨hc_6,h_3⟩
  ·refine ax rfl hc_6 wz (ae (vS s_1) wa rfl ?_)
   obtain ⟨y_7,hy_8,h_3⟩:=bind_some h_3
   refine wC un9 rfl rfl hy_8 wa ?_
   obtain ⟨r_9,hr_10,h_3⟩:=bind_some h_3
   refine aF (vo hr_10) rfl hb93 rfl rfl rfl rfl wa (ae (vB r_9) wz rfl ?_)
   rcases au h_3 with⟨hc_11,h_3⟩|⟨hc_11,h_3⟩
   ·refine ax rfl hc_11 wz (ae (vS s_1) wa rfl ?_)
    obtain ⟨r_12,hr_13,h_3⟩:=bind_some h_3
    refine aF (vo hr_13) rfl hb93 rfl rfl rfl rfl wa (ae (vB r_12) wz rfl (ae (vB r_12) wz rfl (ak ?_)))
    obtain rfl:=aj h_3
    exact cu
   ·refine ax rfl hc_11 wz (af wa (af wa (ae (vB false) wz rfl (ae (vB false) wz rfl (ak ?_)))))
    obtain rfl:=aj h_3
    exact cu
  ·refine ax rfl hc_6 wz (af wa (af wa (af wa (ae (vB false) wz rfl (ae (vB false) wz rfl (af wa (af wa (ae (vB false) wz rfl (ae (vB false) wz rfl (ak ?_))))))))))
   obtain rfl:=aj h_3
   exact cu
 ·rintro ⟨⟩ _ sl_ H_ hp_ hq_
  refine aZ _ hp_ hq_ ?_
  obtain rfl:=aj hF
  exact aA (bv (.inr rfl) [(vB v_2)] ⟨rfl,trivial⟩ rfl rfl rfl)
theorem rD {l_1:(List ByteArray)} {r:Int} (hF:jS l_1=some r) :
  FnM Tryz.prog 94 [(vL eS l_1)] [] (vI r) []:=by
 refine FnM.of_wH ⟨Tryz.prog,27,[],[]⟩ rfl Tryz.func94 rfl rfl (lb_ rfl) (by kernel_rfl) ?_
 unfold jS at hF
 refine ah (aa (ae (vI 0) wz rfl (ak (ah (ah (aa (ae (vL eS l_1) wz rfl (dP uN rfl wz (ae (vI 0) wz rfl (ak ?_))))))))))
 obtain ⟨o_10,hj_11,hF⟩:=bind_some hF
 obtain ⟨hn_6,hj_11⟩:=bJ hj_11
 refine aJ (β:=(Unit)) (λ(s_7:Unit)=>([]:SL_)) (λ(s_7:Unit)=>([]:Hp)) (λp=>o_10 = .go p) ?_ ?_
 ·refine aK (bX (β:=Nat×(List ByteArray)×(Unit)) (λp=>(λ(k_2:Nat) (l_3:List ByteArray) (s_7:Unit)=>([(0,(vL eS l_1)),(5,(vL eS l_1)),(6,(vI (l_1.length:Int))),(7,(vI (k_2:Int)))]:SL_)) p.1 p.2.1 p.2.2) (λp=>(λ(k_2:Nat) (l_3:List ByteArray) (s_7:Unit)=>([]:Hp)) p.1 p.2.1 p.2.2) (λp=>dR (λk x s=>iB l_1 k x s) p.2.1 p.1 p.2.2=some o_10/\(l_1).drop p.1=p.2.1) (λp=>p.2.1.length) (0,l_1,()) ⟨hj_11,rfl⟩ rfl (aN rfl) ?_)
  rintro ⟨k_2,l_3,s_7⟩ ⟨hL_9,hD_5⟩
  dsimp only at hL_9 hD_5
  cases l_3 with
  | nil =>
   obtain rfl:=aj hL_9
   refine ah (aa (ae (vB (decide ((k_2:Int)<(l_1.length:Int)))) wz rfl (ak ?_)))
   refine ah (aC rfl (drop_nil hD_5) (bT ?_))
   exact cB (s_7) rfl rfl (aN rfl)
  | cons x_4 l_3 =>
   obtain ⟨c_,hc_8,hL_9⟩:=bind_some hL_9
   refine ah (aa (ae (vB (decide ((k_2:Int)<(l_1.length:Int)))) wz rfl (ak ?_)))
   refine ah (aG rfl (dA hD_5) (ay ?_))
   unfold iB at hc_8
   refine ah (aK (ah (aa (ae (vI (k_2:Int)) wz rfl (iH kv rfl rfl (dU hD_5) rfl wz (eO sz9 ag9 rfl (vS x_4) rfl wz (ae (vI (k_2:Int)) wz rfl (ae (vS x_4) wz rfl (ak (ah (ah (aa (ae (vS x_4) wz rfl ?_)))))))))))))
   obtain ⟨r_12,hr_13,hc_8⟩:=bind_some hc_8
   refine aF (mr hr_13) rfl FK rfl rfl rfl rfl wz (ae (vB (!r_12)) wz rfl (ak ?_))
   rcases au hc_8 with⟨hc_14,hc_8⟩|⟨hc_14,hc_8⟩
   ·refine aG rfl hc_14 (ah (aa (ae (vI 5) wz rfl (ak ?_))))
    obtain rfl:=aj hc_8
    obtain rfl:=aj hL_9
    obtain rfl:=aj hF
    exact aA (bv (.inr rfl) [(vI 5)] ⟨rfl,trivial⟩ rfl rfl rfl)
   ·refine aC rfl hc_14 (ay (ah ?_))
    obtain ⟨v_15,h_16,hc_8⟩:=bind_some hc_8
    refine aJ (β:=Unit) (λ_=>([(0,(vL eS l_1)),(5,(vL eS l_1)),(6,(vI (l_1.length:Int))),(7,(vI (k_2:Int))),(25,(vB v_15))]:SL_)) (λ_=>([]:Hp)) (λ_=>True) ?_ ?_
    ·refine aa (ae (vI (k_2:Int)) wz rfl (ae (vB (decide ((k_2:Int)>0))) wz rfl ?_))
     rcases au h_16 with⟨hc_17,h_16⟩|⟨hc_17,h_16⟩
     ·refine ax rfl hc_17 wz (ae (vS x_4) wa rfl (ae (vL eS l_1) wa rfl (ae (vI (k_2:Int)) wa rfl (ae (vI (w64 ((k_2:Int)-1))) wa rfl ?_))))
      obtain ⟨y_18,hy_19,h_16⟩:=bind_some h_16
      refine iH kv rfl rfl hy_19 rfl wa (eO sz9 ag9 rfl (vS y_18) rfl wa (ae (vB (sLe x_4 y_18)) wa rfl (ae (vB (sLe x_4 y_18)) wz rfl (ak ?_))))
      obtain rfl:=aj h_16
      exact cu
     ·refine ax rfl hc_17 wz (af wa (af wa (af wa (af wa (af wa (af wa (af wa (ae (vB false) wz rfl (ak ?_)))))))))
      obtain rfl:=aj h_16
      exact cu
    ·rintro ⟨⟩ _ sl_ H_ hp_ hq_
     refine aZ _ hp_ hq_ ?_
     rcases au hc_8 with⟨hc_20,hc_8⟩|⟨hc_20,hc_8⟩
     ·refine aG rfl hc_20 (ah (aa (ae (vI 7) wz rfl (ak ?_))))
      obtain rfl:=aj hc_8
      obtain rfl:=aj hL_9
      obtain rfl:=aj hF
      exact aA (bv (.inr rfl) [(vI 7)] ⟨rfl,trivial⟩ rfl rfl rfl)
     ·refine aC rfl hc_20 (ay (aa (gX (dD hD_5 hn_6) wz rfl (ae (vI ((k_2+1:Nat):Int)) wz rfl (ak ?_)))))
      obtain rfl:=aj hc_8
      exact bO (k_2+1,l_3,()) ⟨hL_9,bg hD_5⟩ (ls_ _) rfl (aN rfl)
 ·rintro s_7 ho_ sl_ H_ hp_ hq_
  subst ho_
  refine aZ _ hp_ hq_ (ah (aa (ae (vI 0) wz rfl (ak ?_))))
  obtain rfl:=aj hF
  exact aA (bv (.inr rfl) [(vI 0)] ⟨rfl,trivial⟩ rfl rfl rfl)
theorem nN {l_1:(List ByteArray)} {r:Int} (hF:iO l_1=some r) :
  FnM Tryz.prog 56 [(vL eS l_1)] [] (vI r) []:=by
 refine FnM.of_wH ⟨Tryz.prog,8,[],[]⟩ rfl Tryz.func56 rfl rfl (lb_ rfl) (by kernel_rfl) ?_
 unfold iO at hF
 refine ah (aa (ae (vI 0) wz rfl (ak (ah (ah (aa (ae (vL eS l_1) wz rfl (dP uN rfl wz (ae (vB (decide ((l_1.length:Int)>20))) wz rfl (ak ?_))))))))))
 rcases au hF with⟨hc_2,hF⟩|⟨hc_2,hF⟩
 ·refine aG rfl hc_2 (ah (aa (ae (vI 2) wz rfl (ak ?_))))
  obtain rfl:=aj hF
  exact aA (bv (.inr rfl) [(vI 2)] ⟨rfl,trivial⟩ rfl rfl rfl)
 ·refine aC rfl hc_2 (ay (ah (aa (ae (vL eS l_1) wz rfl ?_))))
  obtain ⟨r_3,hr_4,hF⟩:=bind_some hF
  refine aF (rD hr_4) rfl hb94 rfl rfl rfl rfl wz (ae (vI r_3) wz rfl (ak ?_))
  obtain rfl:=aj hF
  exact aA (bv (.inr rfl) [(vI r_3)] ⟨rfl,trivial⟩ rfl rfl rfl)
theorem tO {e_1:Entry} {r:Int} (hF:jf e_1=some r) :
  FnM Tryz.prog 49 [(.d (.agg (Entry.enc e_1)))] [] (vI r) []:=by
 refine FnM.of_wH ⟨Tryz.prog,94,[],[]⟩ rfl Tryz.func49 rfl rfl (lb_ rfl) (by kernel_rfl) ?_
 unfold jf at hF
 refine ah (aa (jm 0 (.inl rfl) [(vS e_1.Key),(vS e_1.Item),(vI e_1.Version),(vI e_1.First),(vI e_1.Last),(vI e_1.Every),(vI e_1.Days),(vL eI e_1.Except),(vI e_1.From),(vI e_1.To),(vI e_1.Prio),(vL eS e_1.Tags),(vB e_1.Gone)] rfl rfl wz (λn_2=>ae (vI 0) wz rfl (ak (ah (aK (ah ?_)))))))
 obtain ⟨v_3,h_4,hF⟩:=bind_some hF
 refine aJ (β:=Unit) (λ_=>([(1,(.ref n_2 0 0)),(5,(vB v_3))]:SL_)) (λ_=>([(n_2,some (.cells 13 [(vS e_1.Key),(vS e_1.Item),(vI e_1.Version),(vI e_1.First),(vI e_1.Last),(vI e_1.Every),(vI e_1.Days),(vL eI e_1.Except),(vI e_1.From),(vI e_1.To),(vI e_1.Prio),(vL eS e_1.Tags),(vB e_1.Gone)]))]:Hp)) (λ_=>True) ?_ ?_
 ·refine aa (aD jd rfl 0 rfl wz (aB 0 0 il ft sz9 ag9 rfl rfl (vS e_1.Key) rfl wz ?_))
  obtain ⟨r_5,hr_6,h_4⟩:=bind_some h_4
  refine aF (mr hr_6) rfl FK rfl rfl rfl rfl wz (ae (vB (!r_5)) wz rfl ?_)
  rcases au h_4 with⟨hc_7,h_4⟩|⟨hc_7,h_4⟩
  ·refine ax rfl hc_7 wz (af wa (af wa (af wa (af wa (ae (vB true) wz rfl (ae (vB true) wz rfl (ak ?_)))))))
   obtain rfl:=aj h_4
   exact cu
  ·refine ax rfl hc_7 wz (aD ut rfl 1 rfl wa (aB 0 0 il ft sz9 ag9 rfl rfl (vS e_1.Item) rfl wa ?_))
   obtain ⟨r_8,hr_9,h_4⟩:=bind_some h_4
   refine aF (mr hr_9) rfl FK rfl rfl rfl rfl wa (ae (vB (!r_8)) wa rfl (ae (vB (!r_8)) wz rfl (ae (vB (!r_8)) wz rfl (ak ?_))))
   obtain rfl:=aj h_4
   exact cu
 ·rintro ⟨⟩ _ sl_ H_ hp_ hq_
  refine aZ _ hp_ hq_ ?_
  rcases au hF with⟨hc_10,hF⟩|⟨hc_10,hF⟩
  ·refine aG rfl hc_10 (ah (aa (ae (vI 5) wz rfl (ak ?_))))
   obtain rfl:=aj hF
   exact aA (bv (.inr rfl) [(vI 5)] ⟨rfl,trivial⟩ rfl rfl rfl)
  ·refine aC rfl hc_10 (ah ?_)
   obtain ⟨v_11,h_12,hF⟩:=bind_some hF
   refine aJ (β:=Unit) (λ_=>([(1,(.ref n_2 0 0)),(16,(vB v_11))]:SL_)) (λ_=>([(n_2,some (.cells 13 [(vS e_1.Key),(vS e_1.Item),(vI e_1.Version),(vI e_1.First),(vI e_1.Last),(vI e_1.Every),(vI e_1.Days),(vL eI e_1.Except),(vI e_1.From),(vI e_1.To),(vI e_1.Prio),(vL eS e_1.Tags),(vB e_1.Gone)]))]:Hp)) (λ_=>True) ?_ ?_
   ·refine aa (aD kz rfl 2 rfl wz (aB 0 0 il ft sz3 ag3 rfl rfl (vI e_1.Version) rfl wz ?_))
    obtain ⟨r_13,hr_14,h_12⟩:=bind_some h_12
    refine aF (iQ hr_14) rfl yf rfl rfl rfl rfl wz (ae (vB (!r_13)) wz rfl ?_)
    rcases au h_12 with⟨hc_15,h_12⟩|⟨hc_15,h_12⟩
    ·refine ax rfl hc_15 wz (af wa (af wa (af wa (af wa (af wa (af wa (ae (vB true) wz rfl (ae (vB true) wz rfl (af wa (af wa (af wa (ae (vB true) wz rfl (ae (vB true) wz rfl (af wa (af wa (af wa (af wa (ae (vB true) wz rfl (ae (vB true) wz rfl (af wa (af wa (af wa (af wa ?_)))))))))))))))))))))))
     refine ae (vB true) wz rfl (ae (vB true) wz rfl (ak ?_))
     obtain rfl:=aj h_12
     exact cu
    ·refine ax rfl hc_15 wz (aD mZ rfl 3 rfl wa (aB 0 0 il ft sz3 ag3 rfl rfl (vI e_1.First) rfl wa (aD lZ rfl 4 rfl wa (aB 0 0 il ft sz3 ag3 rfl rfl (vI e_1.Last) rfl wa ?_))))
     obtain ⟨r_16,hr_17,h_12⟩:=bind_some h_12
     refine aF (iQ hr_17) rfl yf rfl rfl rfl rfl wa (ae (vB (!r_16)) wa rfl (ae (vB (!r_16)) wz rfl ?_))
     rcases au h_12 with⟨hc_18,h_12⟩|⟨hc_18,h_12⟩
     ·refine ax rfl hc_18 wz (af wa (af wa (af wa (ae (vB true) wz rfl (ae (vB true) wz rfl (af wa (af wa (af wa (af wa (ae (vB true) wz rfl (ae (vB true) wz rfl (af wa (af wa (af wa (af wa (ae (vB true) wz rfl (ae (vB true) wz rfl (ak ?_))))))))))))))))))
      obtain rfl:=aj h_12
      exact cu
     ·refine ax rfl hc_18 wz (aD lZ rfl 4 rfl wa (aB 0 0 il ft sz3 ag3 rfl rfl (vI e_1.Last) rfl wa (ae (vB (decide (e_1.Last>4000))) wa rfl (ae (vB (decide (e_1.Last>4000))) wz rfl ?_))))
      rcases au h_12 with⟨hc_19,h_12⟩|⟨hc_19,h_12⟩
      ·refine ax rfl hc_19 wz (af wa (af wa (af wa (af wa (ae (vB true) wz rfl (ae (vB true) wz rfl (af wa (af wa (af wa (af wa (ae (vB true) wz rfl (ae (vB true) wz rfl (ak ?_)))))))))))))
       obtain rfl:=aj h_12
       exact cu
      ·refine ax rfl hc_19 wz (aD rE rfl 5 rfl wa (aB 0 0 il ft sz3 ag3 rfl rfl (vI e_1.Every) rfl wa ?_))
       obtain ⟨r_20,hr_21,h_12⟩:=bind_some h_12
       refine aF (iQ hr_21) rfl yf rfl rfl rfl rfl wa (ae (vB (!r_20)) wa rfl (ae (vB (!r_20)) wz rfl ?_))
       rcases au h_12 with⟨hc_22,h_12⟩|⟨hc_22,h_12⟩
       ·refine ax rfl hc_22 wz (af wa (af wa (af wa (af wa (ae (vB true) wz rfl (ae (vB true) wz rfl (ak ?_)))))))
        obtain rfl:=aj h_12
        exact cu
       ·refine ax rfl hc_22 wz (aD rR rfl 6 rfl wa (aB 0 0 il ft sz3 ag3 rfl rfl (vI e_1.Days) rfl wa ?_))
        obtain ⟨r_23,hr_24,h_12⟩:=bind_some h_12
        refine aF (iQ hr_24) rfl yf rfl rfl rfl rfl wa (ae (vB (!r_23)) wa rfl (ae (vB (!r_23)) wz rfl (ae (vB (!r_23)) wz rfl (ak ?_))))
        obtain rfl:=aj h_12
        exact cu
   ·rintro ⟨⟩ _ sl_ H_ hp_ hq_
    refine aZ _ hp_ hq_ ?_
    rcases au hF with⟨hc_25,hF⟩|⟨hc_25,hF⟩
    ·refine aG rfl hc_25 (ah (aa (ae (vI 1) wz rfl (ak ?_))))
     obtain rfl:=aj hF
     exact aA (bv (.inr rfl) [(vI 1)] ⟨rfl,trivial⟩ rfl rfl rfl)
    ·refine aC rfl hc_25 (ah (aa (aD iU rfl 7 rfl wz (aB 0 0 il ft mK pV rfl rfl (vL eI e_1.Except) rfl wz (dP qj rfl wz (ae (vB (decide ((e_1.Except.length:Int)>100))) wz rfl (ae (vB (decide ((e_1.Except.length:Int)>100))) wz rfl (ak ?_))))))))
     rcases au hF with⟨hc_26,hF⟩|⟨hc_26,hF⟩
     ·refine aG rfl hc_26 (ah (aa (ae (vI 2) wz rfl (ak ?_))))
      obtain rfl:=aj hF
      exact aA (bv (.inr rfl) [(vI 2)] ⟨rfl,trivial⟩ rfl rfl rfl)
     ·refine aC rfl hc_26 (ay (ah (ah (aa (aD iU rfl 7 rfl wz (aB 0 0 il ft mK pV rfl rfl (vL eI e_1.Except) rfl wz (dP qj rfl wz (ae (vI 0) wz rfl (ak ?_)))))))))
      obtain ⟨o_35,hj_36,hF⟩:=bind_some hF
      obtain ⟨hn_31,hj_36⟩:=bJ hj_36
      refine aJ (β:=(Unit)) (λ(s_32:Unit)=>([(1,(.ref n_2 0 0))]:SL_)) (λ(s_32:Unit)=>([(n_2,some (.cells 13 [(vS e_1.Key),(vS e_1.Item),(vI e_1.Version),(vI e_1.First),(vI e_1.Last),(vI e_1.Every),(vI e_1.Days),(vL eI e_1.Except),(vI e_1.From),(vI e_1.To),(vI e_1.Prio),(vL eS e_1.Tags),(vB e_1.Gone)]))]:Hp)) (λp=>o_35 = .go p) ?_ ?_
      ·refine aK (bX (β:=Nat×(List Int)×(Unit)) (λp=>(λ(k_27:Nat) (l_28:List Int) (s_32:Unit)=>([(1,(.ref n_2 0 0)),(52,(vL eI e_1.Except)),(53,(vI (e_1.Except.length:Int))),(54,(vI (k_27:Int)))]:SL_)) p.1 p.2.1 p.2.2) (λp=>(λ(k_27:Nat) (l_28:List Int) (s_32:Unit)=>([(n_2,some (.cells 13 [(vS e_1.Key),(vS e_1.Item),(vI e_1.Version),(vI e_1.First),(vI e_1.Last),(vI e_1.Every),(vI e_1.Days),(vL eI e_1.Except),(vI e_1.From),(vI e_1.To),(vI e_1.Prio),(vL eS e_1.Tags),(vB e_1.Gone)]))]:Hp)) p.1 p.2.1 p.2.2) (λp=>dR (λk x s=>iV e_1 k x s) p.2.1 p.1 p.2.2=some o_35/\(e_1.Except).drop p.1=p.2.1) (λp=>p.2.1.length) (0,e_1.Except,()) ⟨hj_36,rfl⟩ rfl (aN rfl) ?_)
       rintro ⟨k_27,l_28,s_32⟩ ⟨hL_34,hD_30⟩
       dsimp only at hL_34 hD_30
       cases l_28 with
       | nil =>
        obtain rfl:=aj hL_34
        refine ah (aa (ae (vB (decide ((k_27:Int)<(e_1.Except.length:Int)))) wz rfl (ak ?_)))
        refine ah (aC rfl (drop_nil hD_30) (bT ?_))
        exact cB (s_32) rfl rfl (aN rfl)
       | cons x_29 l_28 =>
        obtain ⟨c_,hc_33,hL_34⟩:=bind_some hL_34
        refine ah (aa (ae (vB (decide ((k_27:Int)<(e_1.Except.length:Int)))) wz rfl (ak ?_)))
        refine ah (aG rfl (dA hD_30) (ay ?_))
        unfold iV at hc_33
        refine ah (aK (ah (aa (ae (vI (k_27:Int)) wz rfl (iH kw rfl rfl (dU hD_30) rfl wz (eO sz3 ag3 rfl (vI x_29) rfl wz (ae (vI (k_27:Int)) wz rfl (ae (vI x_29) wz rfl (ak (ah (ah (aa (ae (vI x_29) wz rfl ?_)))))))))))))
        obtain ⟨r_37,hr_38,hc_33⟩:=bind_some hc_33
        refine aF (iQ hr_38) rfl yf rfl rfl rfl rfl wz (ae (vB (!r_37)) wz rfl (ak ?_))
        rcases au hc_33 with⟨hc_39,hc_33⟩|⟨hc_39,hc_33⟩
        ·refine aG rfl hc_39 (ah (aa (ae (vI 1) wz rfl (ak ?_))))
         obtain rfl:=aj hc_33
         obtain rfl:=aj hL_34
         obtain rfl:=aj hF
         exact aA (bv (.inr rfl) [(vI 1)] ⟨rfl,trivial⟩ rfl rfl rfl)
        ·refine aC rfl hc_39 (ay (ah ?_))
         obtain ⟨v_40,h_41,hc_33⟩:=bind_some hc_33
         refine aJ (β:=Unit) (λ_=>([(1,(.ref n_2 0 0)),(52,(vL eI e_1.Except)),(53,(vI (e_1.Except.length:Int))),(54,(vI (k_27:Int))),(73,(vB v_40))]:SL_)) (λ_=>([(n_2,some (.cells 13 [(vS e_1.Key),(vS e_1.Item),(vI e_1.Version),(vI e_1.First),(vI e_1.Last),(vI e_1.Every),(vI e_1.Days),(vL eI e_1.Except),(vI e_1.From),(vI e_1.To),(vI e_1.Prio),(vL eS e_1.Tags),(vB e_1.Gone)]))]:Hp)) (λ_=>True) ?_ ?_
         ·refine aa (ae (vI (k_27:Int)) wz rfl (ae (vB (decide ((k_27:Int)>0))) wz rfl ?_))
          rcases au h_41 with⟨hc_42,h_41⟩|⟨hc_42,h_41⟩
          ·refine ax rfl hc_42 wz (ae (vI x_29) wa rfl (aD iU rfl 7 rfl wa (aB 0 0 il ft mK pV rfl rfl (vL eI e_1.Except) rfl wa (ae (vI (k_27:Int)) wa rfl (ae (vI (w64 ((k_27:Int)-1))) wa rfl ?_)))))
           obtain ⟨y_43,hy_44,h_41⟩:=bind_some h_41
           refine iH kw rfl rfl hy_44 rfl wa (eO sz3 ag3 rfl (vI y_43) rfl wa (ae (vB (decide (x_29<=y_43))) wa rfl (ae (vB (decide (x_29<=y_43))) wz rfl (ak ?_))))
           obtain rfl:=aj h_41
           exact cu
          ·refine ax rfl hc_42 wz (af wa (af wa (af wa (af wa (af wa (af wa (af wa (af wa (ae (vB false) wz rfl (ak ?_))))))))))
           obtain rfl:=aj h_41
           exact cu
         ·rintro ⟨⟩ _ sl_ H_ hp_ hq_
          refine aZ _ hp_ hq_ ?_
          rcases au hc_33 with⟨hc_45,hc_33⟩|⟨hc_45,hc_33⟩
          ·refine aG rfl hc_45 (ah (aa (ae (vI 7) wz rfl (ak ?_))))
           obtain rfl:=aj hc_33
           obtain rfl:=aj hL_34
           obtain rfl:=aj hF
           exact aA (bv (.inr rfl) [(vI 7)] ⟨rfl,trivial⟩ rfl rfl rfl)
          ·refine aC rfl hc_45 (ay (aa (gX (dD hD_30 hn_31) wz rfl (ae (vI ((k_27+1:Nat):Int)) wz rfl (ak ?_)))))
           obtain rfl:=aj hc_33
           exact bO (k_27+1,l_28,()) ⟨hL_34,bg hD_30⟩ (ls_ _) rfl (aN rfl)
      ·rintro s_32 ho_ sl_ H_ hp_ hq_
       subst ho_
       refine aZ _ hp_ hq_ (ah (ah ?_))
       obtain ⟨v_46,h_47,hF⟩:=bind_some hF
       refine aJ (β:=Unit) (λ_=>([(1,(.ref n_2 0 0)),(90,(vB v_46))]:SL_)) (λ_=>([(n_2,some (.cells 13 [(vS e_1.Key),(vS e_1.Item),(vI e_1.Version),(vI e_1.First),(vI e_1.Last),(vI e_1.Every),(vI e_1.Days),(vL eI e_1.Except),(vI e_1.From),(vI e_1.To),(vI e_1.Prio),(vL eS e_1.Tags),(vB e_1.Gone)]))]:Hp)) (λ_=>True) ?_ ?_
       ·refine aa (aD pQ rfl 8 rfl wz (aB 0 0 il ft sz3 ag3 rfl rfl (vI e_1.From) rfl wz ?_))
        obtain ⟨r_48,hr_49,h_47⟩:=bind_some h_47
        refine aF (iQ hr_49) rfl yf rfl rfl rfl rfl wz (ae (vB (!r_48)) wz rfl ?_)
        rcases au h_47 with⟨hc_50,h_47⟩|⟨hc_50,h_47⟩
        ·refine ax rfl hc_50 wz (af wa (af wa (af wa (af wa (ae (vB true) wz rfl (ae (vB true) wz rfl (af wa (af wa (af wa (af wa (ae (vB true) wz rfl (ak ?_))))))))))))
         obtain rfl:=aj h_47
         exact cu
        ·refine ax rfl hc_50 wz (aD rA rfl 9 rfl wa (aB 0 0 il ft sz3 ag3 rfl rfl (vI e_1.To) rfl wa ?_))
         obtain ⟨r_51,hr_52,h_47⟩:=bind_some h_47
         refine aF (iQ hr_52) rfl yf rfl rfl rfl rfl wa (ae (vB (!r_51)) wa rfl (ae (vB (!r_51)) wz rfl ?_))
         rcases au h_47 with⟨hc_53,h_47⟩|⟨hc_53,h_47⟩
         ·refine ax rfl hc_53 wz (af wa (af wa (af wa (af wa (ae (vB true) wz rfl (ak ?_))))))
          obtain rfl:=aj h_47
          exact cu
         ·refine ax rfl hc_53 wz (aD qI rfl 10 rfl wa (aB 0 0 il ft sz3 ag3 rfl rfl (vI e_1.Prio) rfl wa ?_))
          obtain ⟨r_54,hr_55,h_47⟩:=bind_some h_47
          refine aF (iQ hr_55) rfl yf rfl rfl rfl rfl wa (ae (vB (!r_54)) wa rfl (ae (vB (!r_54)) wz rfl (ak ?_)))
          obtain rfl:=aj h_47
          exact cu
       ·rintro ⟨⟩ _ sl_ H_ hp_ hq_
        refine aZ _ hp_ hq_ ?_
        rcases au hF with⟨hc_56,hF⟩|⟨hc_56,hF⟩
        ·refine aG rfl hc_56 (ah (aa (ae (vI 1) wz rfl (ak ?_))))
         obtain rfl:=aj hF
         exact aA (bv (.inr rfl) [(vI 1)] ⟨rfl,trivial⟩ rfl rfl rfl)
        ·refine aC rfl hc_56 (ay (ah (aa (aD iW rfl 11 rfl wz (aB 0 0 il ft o6 sK rfl rfl (vL eS e_1.Tags) rfl wz ?_)))))
         obtain ⟨r_57,hr_58,hF⟩:=bind_some hF
         refine aF (nN hr_58) rfl hb56 rfl rfl rfl rfl wz (ae (vI r_57) wz rfl (ak ?_))
         obtain rfl:=aj hF
         exact aA (bv (.inr rfl) [(vI r_57)] ⟨rfl,trivial⟩ rfl rfl rfl)
theorem lI {l_1:(List Entry)} {r:Int} (hF:fU l_1=some r) :
  FnM Tryz.prog 12 [(vL Entry.enc l_1)] [] (vI r) []:=by
 refine FnM.of_wH ⟨Tryz.prog,28,[],[]⟩ rfl Tryz.func12 rfl rfl (lb_ rfl) (by kernel_rfl) ?_
 unfold fU at hF
 refine ah (aa (ae (vI 0) wz rfl (ak (ah (ah (aa (ae (vL Entry.enc l_1) wz rfl (dP nY rfl wz (ae (vB (decide ((l_1.length:Int)>200))) wz rfl (ak ?_))))))))))
 rcases au hF with⟨hc_2,hF⟩|⟨hc_2,hF⟩
 ·refine aG rfl hc_2 (ah (aa (ae (vI 2) wz rfl (ak ?_))))
  obtain rfl:=aj hF
  exact aA (bv (.inr rfl) [(vI 2)] ⟨rfl,trivial⟩ rfl rfl rfl)
 ·refine aC rfl hc_2 (ay (ah (aa (ae (vS (⟨#[]⟩:ByteArray)) wz rfl (ak (ah (ah (aa (ae (vL Entry.enc l_1) wz rfl (dP nY rfl wz (ae (vI 0) wz rfl (ak ?_))))))))))))
  obtain ⟨o_11,hj_12,hF⟩:=bind_some hF
  obtain ⟨hn_7,hj_12⟩:=bJ hj_12
  refine aJ (β:=(ByteArray)) (λ(s_8:ByteArray)=>([]:SL_)) (λ(s_8:ByteArray)=>([]:Hp)) (λp=>o_11 = .go p) ?_ ?_
  ·refine aK (bX (β:=Nat×(List Entry)×(ByteArray)) (λp=>(λ(k_3:Nat) (l_4:List Entry) (s_8:ByteArray)=>([(3,(vS s_8)),(10,(vL Entry.enc l_1)),(11,(vI (l_1.length:Int))),(12,(vI (k_3:Int)))]:SL_)) p.1 p.2.1 p.2.2) (λp=>(λ(k_3:Nat) (l_4:List Entry) (s_8:ByteArray)=>([]:Hp)) p.1 p.2.1 p.2.2) (λp=>dR (λk x s=>eH k x s) p.2.1 p.1 p.2.2=some o_11/\(l_1).drop p.1=p.2.1) (λp=>p.2.1.length) (0,l_1,(⟨#[]⟩:ByteArray)) ⟨hj_12,rfl⟩ rfl (aN rfl) ?_)
   rintro ⟨k_3,l_4,s_8⟩ ⟨hL_10,hD_6⟩
   dsimp only at hL_10 hD_6
   cases l_4 with
   | nil =>
    obtain rfl:=aj hL_10
    refine ah (aa (ae (vB (decide ((k_3:Int)<(l_1.length:Int)))) wz rfl (ak ?_)))
    refine ah (aC rfl (drop_nil hD_6) (bT ?_))
    exact cB (s_8) rfl rfl (aN rfl)
   | cons x_5 l_4 =>
    obtain ⟨c_,hc_9,hL_10⟩:=bind_some hL_10
    refine ah (aa (ae (vB (decide ((k_3:Int)<(l_1.length:Int)))) wz rfl (ak ?_)))
    refine ah (aG rfl (dA hD_6) (ay ?_))
    unfold eH at hc_9
    refine ah (aK (ah (aa (iH lg rfl rfl (dU hD_6) rfl wz (eO fu jK rfl (.d (.agg (Entry.enc x_5))) rfl wz (fP 0 (.inl rfl) z35 rfl wz (λn_13=>gz 0 il ft 0 fu rfl rfl [(vS x_5.Key),(vS x_5.Item),(vI x_5.Version),(vI x_5.First),(vI x_5.Last),(vI x_5.Every),(vI x_5.Days),(vL eI x_5.Except),(vI x_5.From),(vI x_5.To),(vI x_5.Prio),(vL eS x_5.Tags),(vB x_5.Gone)] rfl wz (ak (ah (ah (aa (aB 0 0 il ft fu jK rfl rfl (.d (.agg (Entry.enc x_5))) rfl wz ?_))))))))))))
    obtain ⟨r_14,hr_15,hc_9⟩:=bind_some hc_9
    refine aF (tO hr_15) rfl hb49 rfl rfl rfl rfl wz (ae (vI r_14) wz rfl (ak (ah (aa (ae (vI r_14) wz rfl (ae (vB (r_14 != 0)) wz rfl (ak ?_)))))))
    rcases au hc_9 with⟨hc_16,hc_9⟩|⟨hc_16,hc_9⟩
    ·refine aG rfl hc_16 (ah (aa (ae (vI r_14) wz rfl (ae (vI r_14) wz rfl (ak ?_)))))
     obtain rfl:=aj hc_9
     obtain rfl:=aj hL_10
     obtain rfl:=aj hF
     exact aA (bv (.inr rfl) [(vI r_14)] ⟨rfl,trivial⟩ rfl rfl rfl)
    ·refine aC rfl hc_16 (ay (ah (ah (aa (aD jd rfl 0 rfl wz (aB 0 0 il ft sz9 ag9 rfl rfl (vS x_5.Key) rfl wz (ae (vS s_8) wz rfl (ae (vB (sLe x_5.Key s_8)) wz rfl (ak ?_)))))))))
     rcases au hc_9 with⟨hc_17,hc_9⟩|⟨hc_17,hc_9⟩
     ·refine aG rfl hc_17 (ah (aa (ae (vI 7) wz rfl (ak ?_))))
      obtain rfl:=aj hc_9
      obtain rfl:=aj hL_10
      obtain rfl:=aj hF
      exact aA (bv (.inr rfl) [(vI 7)] ⟨rfl,trivial⟩ rfl rfl rfl)
     ·refine aC rfl hc_17 (ay (aa (aD jd rfl 0 rfl wz (aB 0 0 il ft sz9 ag9 rfl rfl (vS x_5.Key) rfl wz (ae (vS x_5.Key) wz rfl (ak (aa (gX (dD hD_6 hn_7) wz rfl (ae (vI ((k_3+1:Nat):Int)) wz rfl (ak ?_))))))))))
      obtain rfl:=aj hc_9
      exact bO (k_3+1,l_4,x_5.Key) ⟨hL_10,bg hD_6⟩ (ls_ _) rfl (aN rfl)
  ·rintro s_8 ho_ sl_ H_ hp_ hq_
   subst ho_
   refine aZ _ hp_ hq_ (ah (aa (ae (vI 0) wz rfl (ak ?_))))
   obtain rfl:=aj hF
   exact aA (bv (.inr rfl) [(vI 0)] ⟨rfl,trivial⟩ rfl rfl rfl)
end Go.Proofs.YtnjnggakgeommaaGreatDoor.Law

