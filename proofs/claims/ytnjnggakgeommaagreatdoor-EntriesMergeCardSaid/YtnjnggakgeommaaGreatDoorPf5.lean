/-
 The machine computes these plain functions (written by a program of ours).
-/
import Derived.Test.YtnjnggakgeommaaGreatDoorFacts
import Derived.Test.YtnjnggakgeommaaGreatDoorDefs
import Derived.Test.YtnjnggakgeommaaGreatDoorPf4
open Go Go.Eng Go.Proofs
namespace Go.Proofs.YtnjnggakgeommaaGreatDoor.Law
set_option maxRecDepth 100000
set_option linter.unusedVariables false
set_option maxHeartbeats 1000000
theorem vP {t_1:Window} {wv_2:Window} {r:Window} (hF:lV t_1 wv_2=some r) :
  FnM Tryz.prog 103 [(.d (.agg (Window.enc t_1))),(.d (.agg (Window.enc wv_2)))] [] (.d (.agg (Window.enc r))) []:=by
 refine FnM.of_wH ⟨Tryz.prog,16,[],[]⟩ rfl Tryz.func103 rfl rfl (lb_ rfl) (by kernel_rfl) ?_
 unfold lV at hF
 refine ah (aa (jm 0 (.inl rfl) [(vI t_1.From),(vI t_1.To)] rfl rfl wz (λn_3=>jm 0 (.inl rfl) [(vI wv_2.From),(vI wv_2.To)] rfl rfl wz (λn_4=>fP 0 (.inl rfl) z49 rfl wz (λn_5=>ak (ah (aa (aD oG rfl 0 rfl wz (aB 0 0 il ft sz3 ag3 rfl rfl (vI t_1.From) rfl wz (aD oG rfl 0 rfl wz (aB 0 1 il ft sz3 ag3 rfl rfl (vI wv_2.From) rfl wz (su (vI (pW t_1.From wv_2.From)) rfl (.inr rfl) wz (aD oU rfl 1 rfl wz (aB 0 0 il ft sz3 ag3 rfl rfl (vI t_1.To) rfl wz (aD oU rfl 1 rfl wz (aB 0 1 il ft sz3 ag3 rfl rfl (vI wv_2.To) rfl wz (su (vI (qi t_1.To wv_2.To)) rfl (.inl rfl) wz (ae (.d (.agg (Window.enc (⟨(pW t_1.From wv_2.From),(qi t_1.To wv_2.To)⟩:Window)))) wz (by kernel_rfl) (gz 0 il ft 2 tV rfl rfl [(vI (pW t_1.From wv_2.From)),(vI (qi t_1.To wv_2.To))] rfl wz (ak ?_))))))))))))))))))))
 obtain rfl:=aj hF
 exact aA (bv (.inr rfl) [(.d (.agg (Window.enc (⟨(pW t_1.From wv_2.From),(qi t_1.To wv_2.To)⟩:Window))))] ⟨⟨2,_,_,_,_,_,_,_,rfl,rfl,tV,AZ,rfl⟩,trivial⟩ rfl rfl rfl)
theorem ru {e_1:Entry} {zone_2:Int} {wv_3:Window} {r:(List Window)} (hF:ji e_1 zone_2 wv_3=some r) :
  FnM Tryz.prog 102 [(.d (.agg (Entry.enc e_1))),(vI zone_2),(.d (.agg (Window.enc wv_3)))] [] (gV (av 0) 2 r) (([]:List Box).map some++gO 2 Window.enc r):=by
 refine FnM.of_wH ⟨Tryz.prog,72,[],[]⟩ rfl Tryz.func102 rfl rfl (lb_ rfl) (by kernel_rfl) ?_
 unfold ji at hF
 refine ah (aa (jm 0 (.inl rfl) [(vS e_1.Key),(vS e_1.Item),(vI e_1.Version),(vI e_1.First),(vI e_1.Last),(vI e_1.Every),(vI e_1.Days),(vL eI e_1.Except),(vI e_1.From),(vI e_1.To),(vI e_1.Prio),(vL eS e_1.Tags),(vB e_1.Gone)] rfl rfl wz (λn_4=>jm 0 (.inl rfl) [(vI wv_3.From),(vI wv_3.To)] rfl rfl wz (λn_5=>ae .nil wz rfl (ak (ah (aa (ae .nil wz rfl (ak (ah (ah ?_)))))))))))
 obtain ⟨v_6,h_7,hF⟩:=bind_some hF
 refine aJ (β:=Unit) (λ_=>([(1,(vI zone_2)),(3,(.ref n_4 0 0)),(5,(.ref n_5 0 0)),(7,.nil),(20,(vB v_6))]:SL_)) (λ_=>([(n_4,some (.cells 13 [(vS e_1.Key),(vS e_1.Item),(vI e_1.Version),(vI e_1.First),(vI e_1.Last),(vI e_1.Every),(vI e_1.Days),(vL eI e_1.Except),(vI e_1.From),(vI e_1.To),(vI e_1.Prio),(vL eS e_1.Tags),(vB e_1.Gone)])),(n_5,some (.cells 2 [(vI wv_3.From),(vI wv_3.To)]))]:Hp)) (λ_=>True) ?_ ?_
 ·refine aa (aD tu rfl 12 rfl wz (aB 0 0 il ft sz4 ag4 rfl rfl (vB e_1.Gone) rfl wz ?_))
  rcases au h_7 with⟨hc_8,h_7⟩|⟨hc_8,h_7⟩
  ·refine ax rfl hc_8 wz (af wa (af wa (af wa (af wa (af wa (ae (vB true) wz rfl (ak ?_)))))))
   obtain rfl:=aj h_7
   exact cu
  ·refine ax rfl hc_8 wz (aD oG rfl 0 rfl wa (aB 0 1 il ft sz3 ag3 rfl rfl (vI wv_3.From) rfl wa (aD oU rfl 1 rfl wa (aB 0 1 il ft sz3 ag3 rfl rfl (vI wv_3.To) rfl wa (ae (vB (decide (wv_3.From>=wv_3.To))) wa rfl (ae (vB (decide (wv_3.From>=wv_3.To))) wz rfl (ak ?_)))))))
   obtain rfl:=aj h_7
   exact cu
 ·rintro ⟨⟩ _ sl_ H_ hp_ hq_
  refine aZ _ hp_ hq_ ?_
  rcases au hF with⟨hc_9,hF⟩|⟨hc_9,hF⟩
  ·refine aG rfl hc_9 (ah (aa (ae .nil wz rfl (ak (nu (λn_10 => ?_))))))
   obtain rfl:=aj hF
   exact aA (Cf (outs:=([]:List Box)) (.inr rfl) 2 rfl rfl rfl (by kernel_rfl) (by kernel_rfl))
  ·refine aC rfl hc_9 (ay (ah (aa (aD oG rfl 0 rfl wz (aB 0 1 il ft sz3 ag3 rfl rfl (vI wv_3.From) rfl wz (ae (vI zone_2) wz rfl (ae (vI (w64 (zone_2*60000))) wz rfl (ae (vI (w64 (wv_3.From+(w64 (zone_2*60000))))) wz rfl (ae (vI (w64 ((w64 (wv_3.From+(w64 (zone_2*60000)))).tdiv 86400000))) wz rfl (ae (vI (w64 ((w64 ((w64 (wv_3.From+(w64 (zone_2*60000)))).tdiv 86400000))-2))) wz rfl (ae (vI (w64 ((w64 ((w64 (wv_3.From+(w64 (zone_2*60000)))).tdiv 86400000))-2))) wz rfl (ak (ah (aa (aD oU rfl 1 rfl wz (aB 0 1 il ft sz3 ag3 rfl rfl (vI wv_3.To) rfl wz (ae (vI zone_2) wz rfl (ae (vI (w64 (zone_2*60000))) wz rfl (ae (vI (w64 (wv_3.To+(w64 (zone_2*60000))))) wz rfl (ae (vI (w64 ((w64 (wv_3.To+(w64 (zone_2*60000)))).tdiv 86400000))) wz rfl (ae (vI (w64 ((w64 ((w64 (wv_3.To+(w64 (zone_2*60000)))).tdiv 86400000))+1))) wz rfl (ae (vI (w64 ((w64 ((w64 (wv_3.To+(w64 (zone_2*60000)))).tdiv 86400000))+1))) wz rfl (ak ?_)))))))))))))))))))))))
   refine ah (ah (aa (ae (vI (w64 ((w64 ((w64 (wv_3.From+(w64 (zone_2*60000)))).tdiv 86400000))-2))) wz rfl (aD mZ rfl 3 rfl wz (aB 0 0 il ft sz3 ag3 rfl rfl (vI e_1.First) rfl wz (su (vI (pW (w64 ((w64 ((w64 (wv_3.From+(w64 (zone_2*60000)))).tdiv 86400000))-2)) e_1.First)) rfl (.inr rfl) wz (ae (vI (pW (w64 ((w64 ((w64 (wv_3.From+(w64 (zone_2*60000)))).tdiv 86400000))-2)) e_1.First)) wz rfl (ak (nu (λn_17 => ?_))))))))))
   obtain ⟨o_22,hj_23,hF⟩:=bind_some hF
   obtain ⟨nq_41,hj_23⟩:=kQ hj_23
   refine aJ (β:=((List Window)×Int)×Nm) (λp=>(λ(s_16:(List Window)×Int) (n_19:Nm)=>([(7,(gV n_19 2 s_16.1))]:SL_)) p.1 p.2) (λp=>(λ(s_16:(List Window)×Int) (n_19:Nm)=>([(n_4,some (.cells 13 [(vS e_1.Key),(vS e_1.Item),(vI e_1.Version),(vI e_1.First),(vI e_1.Last),(vI e_1.Every),(vI e_1.Days),(vL eI e_1.Except),(vI e_1.From),(vI e_1.To),(vI e_1.Prio),(vL eS e_1.Tags),(vB e_1.Gone)])),(n_5,some (.cells 2 [(vI wv_3.From),(vI wv_3.To)])),(n_19,gB 2 Window.enc s_16.1)]:Hp)) p.1 p.2) (λp=>o_22 = .go p.1) ?_ ?_
   ·refine aK (bX (β:=Nat×((List Window)×Int)×Nm) (λp=>(λ(k_11:Nat) (s_16:(List Window)×Int) (n_19:Nm)=>([(1,(vI zone_2)),(3,(.ref n_4 0 0)),(5,(.ref n_5 0 0)),(7,(gV n_19 2 s_16.1)),(9,(vI (w64 ((w64 ((w64 (wv_3.To+(w64 (zone_2*60000)))).tdiv 86400000))+1)))),(10,(vI s_16.2))]:SL_)) p.1 p.2.1 p.2.2) (λp=>(λ(k_11:Nat) (s_16:(List Window)×Int) (n_19:Nm)=>([(n_4,some (.cells 13 [(vS e_1.Key),(vS e_1.Item),(vI e_1.Version),(vI e_1.First),(vI e_1.Last),(vI e_1.Every),(vI e_1.Days),(vL eI e_1.Except),(vI e_1.From),(vI e_1.To),(vI e_1.Prio),(vL eS e_1.Tags),(vB e_1.Gone)])),(n_5,some (.cells 2 [(vI wv_3.From),(vI wv_3.To)])),(n_19,gB 2 Window.enc s_16.1)]:Hp)) p.1 p.2.1 p.2.2) (λp=>fM (λs=>fD wv_3 zone_2 e_1 s) p.1 p.2.1=some o_22) (λp=>p.1) (nq_41,(([]:List Window),(pW (w64 ((w64 ((w64 (wv_3.From+(w64 (zone_2*60000)))).tdiv 86400000))-2)) e_1.First)),n_17) hj_23 rfl (aN rfl) ?_)
    rintro ⟨k_11,s_16,n_19⟩ hL_21
    dsimp only at hL_21
    cases k_11 with
    | zero=>cases hL_21
    | succ k_11 =>
     obtain ⟨c_,hc_20,hL_21⟩:=bind_some hL_21
     unfold fD at hc_20
     refine ah (ah (aa (ae (vI s_16.2) wz rfl (ae (vI (w64 ((w64 ((w64 (wv_3.To+(w64 (zone_2*60000)))).tdiv 86400000))+1))) wz rfl (aD lZ rfl 4 rfl wz (aB 0 0 il ft sz3 ag3 rfl rfl (vI e_1.Last) rfl wz (su (vI (qi (w64 ((w64 ((w64 (wv_3.To+(w64 (zone_2*60000)))).tdiv 86400000))+1)) e_1.Last)) rfl (.inl rfl) wz (ae (vB (decide (s_16.2<=(qi (w64 ((w64 ((w64 (wv_3.To+(w64 (zone_2*60000)))).tdiv 86400000))+1)) e_1.Last)))) wz rfl (ak ?_)))))))))
     rcases au hc_20 with⟨hc_24,hc_20⟩|⟨hc_24,hc_20⟩
     ·refine aG rfl hc_24 (ay (ah (aK (ah (ah (aa (aB 0 0 il ft fu jK rfl rfl (.d (.agg (Entry.enc e_1))) rfl wz (ae (vI s_16.2) wz rfl ?_))))))))
      obtain ⟨r_25,hr_26,hc_20⟩:=bind_some hc_20
      refine aF (tZ hr_26) rfl hb152 rfl rfl rfl rfl wz (ae (vB (!r_25)) wz rfl (ak ?_))
      rcases au hc_20 with⟨hc_27,hc_20⟩|⟨hc_27,hc_20⟩
      ·refine aG rfl hc_27 (bT (aa (ae (vI s_16.2) wz rfl (ae (vI (w64 (s_16.2+1))) wz rfl (ae (vI (w64 (s_16.2+1))) wz rfl (ak ?_))))))
       obtain rfl:=aj hc_20
       exact bO (k_11,(s_16.1,(w64 (s_16.2+1))),n_19) hL_21 (ls_ _) rfl (aN rfl)
      ·refine aC rfl hc_27 (ay (ah (aa (aB 0 0 il ft fu jK rfl rfl (.d (.agg (Entry.enc e_1))) rfl wz (ae (vI zone_2) wz rfl (ae (vI s_16.2) wz rfl ?_))))))
       obtain ⟨r_28,hr_29,hc_20⟩:=bind_some hc_20
       refine aF (ry hr_29) rfl hb153 rfl rfl rfl rfl wz (fP 0 (.inl rfl) z49 rfl wz (λn_30=>gz 0 il ft 3 tV rfl rfl [(vI r_28.From),(vI r_28.To)] rfl wz (ak (ah ?_))))
       obtain ⟨v_31,h_32,hc_20⟩:=bind_some hc_20
       refine aJ (β:=Unit) (λ_=>([(1,(vI zone_2)),(3,(.ref n_4 0 0)),(5,(.ref n_5 0 0)),(7,(gV n_19 2 s_16.1)),(9,(vI (w64 ((w64 ((w64 (wv_3.To+(w64 (zone_2*60000)))).tdiv 86400000))+1)))),(10,(vI s_16.2)),(11,(.ref n_30 0 0)),(66,(vB v_31))]:SL_)) (λ_=>([(n_4,some (.cells 13 [(vS e_1.Key),(vS e_1.Item),(vI e_1.Version),(vI e_1.First),(vI e_1.Last),(vI e_1.Every),(vI e_1.Days),(vL eI e_1.Except),(vI e_1.From),(vI e_1.To),(vI e_1.Prio),(vL eS e_1.Tags),(vB e_1.Gone)])),(n_5,some (.cells 2 [(vI wv_3.From),(vI wv_3.To)])),(n_19,gB 2 Window.enc s_16.1),(n_30,some (.cells 2 [(vI r_28.From),(vI r_28.To)]))]:Hp)) (λ_=>True) ?_ ?_
       ·refine aa (aD oG rfl 0 rfl wz (aB 0 3 il ft sz3 ag3 rfl rfl (vI r_28.From) rfl wz (aD oU rfl 1 rfl wz (aB 0 1 il ft sz3 ag3 rfl rfl (vI wv_3.To) rfl wz (ae (vB (decide (r_28.From<wv_3.To))) wz rfl ?_)))))
        rcases au h_32 with⟨hc_33,h_32⟩|⟨hc_33,h_32⟩
        ·refine ax rfl hc_33 wz (aD oU rfl 1 rfl wa (aB 0 3 il ft sz3 ag3 rfl rfl (vI r_28.To) rfl wa (aD oG rfl 0 rfl wa (aB 0 1 il ft sz3 ag3 rfl rfl (vI wv_3.From) rfl wa (ae (vB (decide (r_28.To>wv_3.From))) wa rfl (ae (vB (decide (r_28.To>wv_3.From))) wz rfl (ak ?_)))))))
         obtain rfl:=aj h_32
         exact cu
        ·refine ax rfl hc_33 wz (af wa (af wa (af wa (af wa (af wa (ae (vB false) wz rfl (ak ?_)))))))
         obtain rfl:=aj h_32
         exact cu
       ·rintro ⟨⟩ _ sl_ H_ hp_ hq_
        refine aZ _ hp_ hq_ ?_
        obtain ⟨v_34,h_35,hc_20⟩:=bind_some hc_20
        refine aJ (β:=Nm) (λ(n_36:Nm)=>([(1,(vI zone_2)),(3,(.ref n_4 0 0)),(5,(.ref n_5 0 0)),(7,(gV n_36 2 v_34)),(9,(vI (w64 ((w64 ((w64 (wv_3.To+(w64 (zone_2*60000)))).tdiv 86400000))+1)))),(10,(vI s_16.2))]:SL_)) (λ(n_36:Nm)=>([(n_4,some (.cells 13 [(vS e_1.Key),(vS e_1.Item),(vI e_1.Version),(vI e_1.First),(vI e_1.Last),(vI e_1.Every),(vI e_1.Days),(vL eI e_1.Except),(vI e_1.From),(vI e_1.To),(vI e_1.Prio),(vL eS e_1.Tags),(vB e_1.Gone)])),(n_5,some (.cells 2 [(vI wv_3.From),(vI wv_3.To)])),(n_36,gB 2 Window.enc v_34),(n_30,some (.cells 2 [(vI r_28.From),(vI r_28.To)]))]:Hp)) (λ_=>True) ?_ ?_
        ·rcases au h_35 with⟨hc_37,h_35⟩|⟨hc_37,h_35⟩
         ·refine aG rfl hc_37 (aa (ae (gV n_19 2 s_16.1) wz rfl (aB 0 3 il ft tV AZ rfl rfl (.d (.agg (Window.enc r_28))) rfl wz (dY (([r_28]:List Window).map Window.enc) es56 ez56 rfl rfl rfl rfl rfl wz ?_))))
          obtain ⟨a_38,hz_39,h_35⟩:=bind_some h_35
          refine mY 0 il ft (i:=2) el56 el56 tV z49 rfl (by decide) by49 (by decide) (λ_=>rfl) rfl rfl rfl hz_39 wz (λn_40=>ae (gV n_40 2 a_38) wz rfl (ak ?_))
          obtain rfl:=aj h_35
          exact cB n_40 trivial rfl (aN rfl)
         ·refine aC rfl hc_37 (ay ?_)
          obtain rfl:=aj h_35
          exact cB n_19 trivial rfl (aN rfl)
        ·rintro n_36 _ sl_ H_ hp_ hq_
         refine aZ _ hp_ hq_ (aa (ae (vI s_16.2) wz rfl (ae (vI (w64 (s_16.2+1))) wz rfl (ae (vI (w64 (s_16.2+1))) wz rfl (ak ?_)))))
         obtain rfl:=aj hc_20
         exact bO (k_11,(v_34,(w64 (s_16.2+1))),n_36) hL_21 (ls_ _) rfl (aN rfl)
     ·refine aC rfl hc_24 (bT ?_)
      obtain rfl:=aj hc_20
      obtain rfl:=aj hL_21
      exact cB ((s_16.1,s_16.2),n_19) rfl rfl (aN rfl)
   ·rintro ⟨s_16,n_19⟩ ho_ sl_ H_ hp_ hq_
    subst ho_
    refine aZ _ hp_ hq_ (ah (aa (ae (gV n_19 2 s_16.1) wz rfl (ae (gV n_19 2 s_16.1) wz rfl (ak ?_)))))
    obtain rfl:=aj hF
    exact aA (Cf (outs:=([]:List Box)) (.inr rfl) 2 rfl rfl rfl (by kernel_rfl) (by kernel_rfl))
theorem sV {e_1:Entry} {zone_2:Int} {wv_3:Window} {r:(List Window)×Int} (hF:iX e_1 zone_2 wv_3=some r) :
  FnM Tryz.prog 64 [(.d (.agg (Entry.enc e_1))),(vI zone_2),(.d (.agg (Window.enc wv_3)))] [] (.tup [(vL Window.enc r.1),(vI r.2)]) []:=by
 refine FnM.of_wH ⟨Tryz.prog,45,[],[]⟩ rfl Tryz.func64 rfl rfl (lb_ rfl) (by kernel_rfl) ?_
 unfold iX at hF
 refine ah (aa (jm 0 (.inl rfl) [(vS e_1.Key),(vS e_1.Item),(vI e_1.Version),(vI e_1.First),(vI e_1.Last),(vI e_1.Every),(vI e_1.Days),(vL eI e_1.Except),(vI e_1.From),(vI e_1.To),(vI e_1.Prio),(vL eS e_1.Tags),(vB e_1.Gone)] rfl rfl wz (λn_4=>jm 0 (.inl rfl) [(vI wv_3.From),(vI wv_3.To)] rfl rfl wz (λn_5=>ae .nil wz rfl (ae (vI 0) wz rfl (ak (ah (ah (aa (aB 0 0 il ft fu jK rfl rfl (.d (.agg (Entry.enc e_1))) rfl wz (dY (([e_1]:List Entry).map Entry.enc) lg EF rfl rfl rfl rfl rfl wz ?_)))))))))))
 obtain ⟨r_6,hr_7,hF⟩:=bind_some hF
 refine aF (gK hr_7) rfl hb13 rfl rfl rfl rfl wz (ae (vI r_6) wz rfl (ak (ah (aa (ae (vI r_6) wz rfl (ae (vB (r_6 != 0)) wz rfl (ak ?_)))))))
 rcases au hF with⟨hc_8,hF⟩|⟨hc_8,hF⟩
 ·refine aG rfl hc_8 (ah (aa (ae (vI r_6) wz rfl (ae .nil wz rfl (ae (vI r_6) wz rfl (ak ?_))))))
  obtain rfl:=aj hF
  exact aA (bv (.inr rfl) [.nil,(vI r_6)] ⟨rfl,⟨rfl,trivial⟩⟩ rfl rfl rfl)
 ·refine aC rfl hc_8 (ay (ah (ah (aa (ae (vI zone_2) wz rfl ?_)))))
  obtain ⟨r_9,hr_10,hF⟩:=bind_some hF
  refine aF (dC hr_10) rfl xN rfl rfl rfl rfl wz (ak ?_)
  rcases au hF with⟨hc_11,hF⟩|⟨hc_11,hF⟩
  ·refine aG rfl hc_11 (ah (aa (ae .nil wz rfl (ae (vI 1) wz rfl (ak ?_)))))
   obtain rfl:=aj hF
   exact aA (bv (.inr rfl) [.nil,(vI 1)] ⟨rfl,⟨rfl,trivial⟩⟩ rfl rfl rfl)
  ·refine aC rfl hc_11 (ay (ah (ah (aa (aB 0 1 il ft tV AZ rfl rfl (.d (.agg (Window.enc wv_3))) rfl wz ?_)))))
   obtain ⟨r_12,hr_13,hF⟩:=bind_some hF
   refine aF (nQ hr_13) rfl hb101 rfl rfl rfl rfl wz (ae (vI r_12) wz rfl (ak (ah (aa (ae (vI r_12) wz rfl (ae (vB (r_12 != 0)) wz rfl (ak ?_)))))))
   rcases au hF with⟨hc_14,hF⟩|⟨hc_14,hF⟩
   ·refine aG rfl hc_14 (ah (aa (ae (vI r_12) wz rfl (ae .nil wz rfl (ae (vI r_12) wz rfl (ak ?_))))))
    obtain rfl:=aj hF
    exact aA (bv (.inr rfl) [.nil,(vI r_12)] ⟨rfl,⟨rfl,trivial⟩⟩ rfl rfl rfl)
   ·refine aC rfl hc_14 (ay (ah (aa (aB 0 0 il ft fu jK rfl rfl (.d (.agg (Entry.enc e_1))) rfl wz (ae (vI zone_2) wz rfl (aB 0 1 il ft tV AZ rfl rfl (.d (.agg (Window.enc wv_3))) rfl wz ?_))))))
    obtain ⟨r_15,hr_16,hF⟩:=bind_some hF
    refine uf [] (ru hr_16) rfl hb102 rfl (by kernel_rfl) (by kernel_rfl) (by kernel_rfl) (by kernel_rfl) (by kernel_rfl) rfl (by decide) (by kernel_rfl) wz ([(n_4,some (.cells 13 [(vS e_1.Key),(vS e_1.Item),(vI e_1.Version),(vI e_1.First),(vI e_1.Last),(vI e_1.Every),(vI e_1.Days),(vL eI e_1.Except),(vI e_1.From),(vI e_1.To),(vI e_1.Prio),(vL eS e_1.Tags),(vB e_1.Gone)])),(n_5,some (.cells 2 [(vI wv_3.From),(vI wv_3.To)]))]:Hp) (λ_=>by kernel_rfl) (λn_18=>ae (gV n_18 2 r_15) wz rfl (ak (ah (ah (aa (ae (gV n_18 2 r_15) wz rfl (wE un56 rfl wz (ae (vI 0) wz rfl (ak ?_)))))))))
    obtain ⟨o_27,hj_28,hF⟩:=bind_some hF
    obtain ⟨hn_23,hj_28⟩:=bJ hj_28
    refine aJ (β:=((List Window))) (λ(s_24:List Window)=>([(10,(gV n_18 2 s_24))]:SL_)) (λ(s_24:List Window)=>([(n_4,some (.cells 13 [(vS e_1.Key),(vS e_1.Item),(vI e_1.Version),(vI e_1.First),(vI e_1.Last),(vI e_1.Every),(vI e_1.Days),(vL eI e_1.Except),(vI e_1.From),(vI e_1.To),(vI e_1.Prio),(vL eS e_1.Tags),(vB e_1.Gone)])),(n_5,some (.cells 2 [(vI wv_3.From),(vI wv_3.To)])),(n_18,gB 2 Window.enc s_24)]:Hp)) (λp=>o_27 = .go p) ?_ ?_
    ·refine aK (bX (β:=Nat×(List Nat)×((List Window))) (λp=>(λ(k_19:Nat) (l_20:List Nat) (s_24:List Window)=>([(5,(.ref n_5 0 0)),(10,(gV n_18 2 s_24)),(30,(gV n_18 2 s_24)),(31,(vI (r_15.length:Int))),(32,(vI (k_19:Int)))]:SL_)) p.1 p.2.1 p.2.2) (λp=>(λ(k_19:Nat) (l_20:List Nat) (s_24:List Window)=>([(n_4,some (.cells 13 [(vS e_1.Key),(vS e_1.Item),(vI e_1.Version),(vI e_1.First),(vI e_1.Last),(vI e_1.Every),(vI e_1.Days),(vL eI e_1.Except),(vI e_1.From),(vI e_1.To),(vI e_1.Prio),(vL eS e_1.Tags),(vB e_1.Gone)])),(n_5,some (.cells 2 [(vI wv_3.From),(vI wv_3.To)])),(n_18,gB 2 Window.enc s_24)]:Hp)) p.1 p.2.1 p.2.2) (λp=>dR (λk x s=>fG wv_3 k x s) p.2.1 p.1 p.2.2=some o_27/\((List.range ((r_15.length:Int)).toNat)).drop p.1=p.2.1) (λp=>p.2.1.length) (0,(List.range ((r_15.length:Int)).toNat),r_15) ⟨hj_28,rfl⟩ rfl (aN rfl) ?_)
     rintro ⟨k_19,l_20,s_24⟩ ⟨hL_26,hD_22⟩
     dsimp only at hL_26 hD_22
     cases l_20 with
     | nil =>
      obtain rfl:=aj hL_26
      refine ah (aa (ae (vB (decide ((k_19:Int)<(r_15.length:Int)))) wz rfl (ak ?_)))
      refine ah (aC rfl (nO hD_22) (bT ?_))
      exact cB (s_24) rfl rfl (aN rfl)
     | cons x_21 l_20 =>
      obtain ⟨c_,hc_25,hL_26⟩:=bind_some hL_26
      refine ah (aa (ae (vB (decide ((k_19:Int)<(r_15.length:Int)))) wz rfl (ak ?_)))
      refine ah (aG rfl (l6 hD_22) (ay ?_))
      unfold fG at hc_25
      refine ah (aK (ah (aa (ae (vI (k_19:Int)) wz rfl ?_))))
      obtain ⟨_,hi_29,hc_25⟩:=bind_some hc_25
      refine oC es56 rfl rfl (lG hi_29) (jJ hi_29) wz ?_
      obtain ⟨e_30,hy_31,hc_25⟩:=bind_some hc_25
      refine mf 0 2 il ft tV AZ rfl rfl hy_31 (.d (.agg (Window.enc e_30))) rfl wz (fP 0 (.inl rfl) z49 rfl wz (λn_32=>ae (vI (k_19:Int)) wz rfl (gz 0 il ft 3 tV rfl rfl [(vI e_30.From),(vI e_30.To)] rfl wz (ak (aa (ae (gV n_18 2 s_24) wz rfl (ae (vI (k_19:Int)) wz rfl (aB 0 3 il ft tV AZ rfl rfl (.d (.agg (Window.enc e_30))) rfl wz (aB 0 1 il ft tV AZ rfl rfl (.d (.agg (Window.enc wv_3))) rfl wz ?_)))))))))
      obtain ⟨r_33,hr_34,hc_25⟩:=bind_some hc_25
      refine aF (vP hr_34) rfl hb103 rfl rfl rfl rfl wz ?_
      obtain ⟨_,hi_35,hc_25⟩:=bind_some hc_25
      refine oC es56 rfl rfl (lG hi_35) (jJ hi_35) wz ?_
      obtain ⟨e_36,hy_37,hc_25⟩:=bind_some hc_25
      refine jl 0 il ft 2 tV rfl rfl hy_37 r_33 rfl wz (dZ (v':=(gV n_18 2 (s_24.set (0+((k_19:Int)).toNat) r_33))) 10 rfl (bE (by simp)) (dZ (v':=(gV n_18 2 (s_24.set (0+((k_19:Int)).toNat) r_33))) 30 rfl (bE (by simp)) (dZ (v':=(gV n_18 2 (s_24.set (0+((k_19:Int)).toNat) r_33))) 37 rfl (bE (by simp)) (ak (aa (gX (nP hD_22 hn_23) wz rfl (ae (vI ((k_19+1:Nat):Int)) wz rfl (ak ?_))))))))
      obtain rfl:=aj hc_25
      exact bO (k_19+1,l_20,(s_24.set (0+((k_19:Int)).toNat) r_33)) ⟨hL_26,bg hD_22⟩ (ls_ _) rfl (aN rfl)
    ·rintro s_24 ho_ sl_ H_ hp_ hq_
     subst ho_
     refine aZ _ hp_ hq_ (ah (aa (ae (gV n_18 2 s_24) wz rfl (ae (gV n_18 2 s_24) wz rfl (ae (vI 0) wz rfl (ak (gW 2 rfl (gu 6 2 rfl rfl (gu 10 2 rfl rfl (gu 44 2 rfl rfl ?_))))))))))
     obtain rfl:=aj hF
     exact aA (bv (.inr rfl) [(vL Window.enc s_24),(vI 0)] ⟨rfl,⟨rfl,trivial⟩⟩ rfl rfl rfl)
theorem zL {r:Bool} (hF:ow  = some r) :
  FnM Tryz.prog 20 [] [] (vB r) []:=by
 refine FnM.of_wH ⟨Tryz.prog,23,[],[]⟩ rfl Tryz.func20 rfl rfl (lb_ rfl) (by kernel_rfl) ?_
 unfold ow at hF
 refine ah (aa (ae (vB false) wz rfl (ak (ah (aa (ae (.agg [(vS (⟨#[97]⟩:ByteArray)),(vS (⟨#[98]⟩:ByteArray)),(vI 0),(vI 0),(vI 0),(vI 1),(vI 127),.nil,(vI 1),(vI 2),(vI 0),.nil,(vB false)]) wz (by kernel_rfl) (ae (.d (.agg (Window.enc (⟨0,86400000⟩:Window)))) wz (by kernel_rfl) ?_)))))))
 obtain ⟨r_1,hr_2,hF⟩:=bind_some hF
 refine aF (sV hr_2) rfl hb64 rfl rfl rfl rfl wz (ae (.tup [(vL Window.enc r_1.1),(vI r_1.2)]) wz rfl (ae (vL Window.enc r_1.1) wz rfl (ae (vI r_1.2) wz rfl (ae (vL Window.enc r_1.1) wz rfl (ae (vI r_1.2) wz rfl (ak (ah ?_)))))))
 obtain ⟨v_3,h_4,hF⟩:=bind_some hF
 refine aJ (β:=Unit) (λ_=>([(0,(vB v_3))]:SL_)) (λ_=>([]:Hp)) (λ_=>True) ?_ ?_
 ·refine aa (ae (vI r_1.2) wz rfl (ae (vB (r_1.2==0)) wz rfl ?_))
  rcases au h_4 with⟨hc_5,h_4⟩|⟨hc_5,h_4⟩
  ·refine ax rfl hc_5 wz (ae (vL Window.enc r_1.1) wa rfl (dP un56 rfl wa (ae (vB ((r_1.1.length:Int)==1)) wa rfl (ae (vB ((r_1.1.length:Int)==1)) wz rfl ?_))))
   rcases au h_4 with⟨hc_6,h_4⟩|⟨hc_6,h_4⟩
   ·refine ax rfl hc_6 wz (ae (vL Window.enc r_1.1) wa rfl ?_)
    obtain ⟨y_7,hy_8,h_4⟩:=bind_some h_4
    refine iH es56 rfl rfl hy_8 rfl wa (h_fac oG rfl [.int .i64 y_7.From,.int .i64 y_7.To] rfl rfl wa (eO sz3 ag3 rfl (vI y_7.From) rfl wa (ae (vB (y_7.From==60000)) wa rfl (ae (vB (y_7.From==60000)) wz rfl (ae (vB (y_7.From==60000)) wz rfl (ak ?_))))))
    obtain rfl:=aj h_4
    exact cu
   ·refine ax rfl hc_6 wz (af wa (af wa (af wa (af wa (af wa (ae (vB false) wz rfl (ae (vB false) wz rfl (ak ?_))))))))
    obtain rfl:=aj h_4
    exact cu
  ·refine ax rfl hc_5 wz (af wa (af wa (af wa (ae (vB false) wz rfl (ae (vB false) wz rfl (af wa (af wa (af wa (af wa (af wa (ae (vB false) wz rfl (ae (vB false) wz rfl (ak ?_)))))))))))))
   obtain rfl:=aj h_4
   exact cu
 ·rintro ⟨⟩ _ sl_ H_ hp_ hq_
  refine aZ _ hp_ hq_ ?_
  obtain rfl:=aj hF
  exact aA (bv (.inr rfl) [(vB v_3)] ⟨rfl,trivial⟩ rfl rfl rfl)
theorem qM {l_1:(List Int)} {r:Bool} (hF:jB l_1=some r) :
  FnM Tryz.prog 3 [(vL eI l_1)] [] (vB r) []:=by
 refine FnM.of_wH ⟨Tryz.prog,86,[],[]⟩ rfl Tryz.func3 rfl rfl (lb_ rfl) (by kernel_rfl) ?_
 unfold jB at hF
 refine ah (aa (ae (vB false) wz rfl (ak (ah (aa (ae (vL eI l_1) wz rfl (ae (.d (.agg (Stream.enc (⟨l_1,0⟩:Stream)))) wz (by kernel_rfl) (jm 0 (.inl rfl) [(vL eI l_1),(vI 0)] rfl rfl wz (λn_2=>ae (.ref n_2 0 0) wz rfl (ak (ah (aa (ae (.ref n_2 0 0) wz rfl ?_)))))))))))))
 obtain ⟨r_3,hr_4,hF⟩:=bind_some hF
 refine aY 0 [0] il ft (kY hr_4) rfl hb6 rfl (by kernel_rfl) (by kernel_rfl) (by kernel_rfl) (by kernel_rfl) (by kernel_rfl) (by kernel_rfl) (by kernel_rfl) (by decide) (by kernel_rfl) wz (vL Entry.enc r_3.1) (by kernel_rfl) ([(n_2,some (.cells 2 [(vL eI r_3.2.L),(vI r_3.2.f_at)]))]:Hp) (by kernel_rfl) (ae (.ref n_2 0 0) wz rfl ?_)
 obtain ⟨r_6,hr_7,hF⟩:=bind_some hF
 refine aY 0 [0] il ft (kY hr_7) rfl hb6 rfl (by kernel_rfl) (by kernel_rfl) (by kernel_rfl) (by kernel_rfl) (by kernel_rfl) (by kernel_rfl) (by kernel_rfl) (by decide) (by kernel_rfl) wz (vL Entry.enc r_6.1) (by kernel_rfl) ([(n_2,some (.cells 2 [(vL eI r_6.2.L),(vI r_6.2.f_at)]))]:Hp) (by kernel_rfl) (ae (.ref n_2 0 0) wz rfl ?_)
 obtain ⟨r_9,hr_10,hF⟩:=bind_some hF
 refine aY 0 [0] il ft (qN hr_10) rfl hb7 rfl (by kernel_rfl) (by kernel_rfl) (by kernel_rfl) (by kernel_rfl) (by kernel_rfl) (by kernel_rfl) (by kernel_rfl) (by decide) (by kernel_rfl) wz (.d (.agg (Player.enc r_9.1))) (by kernel_rfl) ([(n_2,some (.cells 2 [(vL eI r_9.2.L),(vI r_9.2.f_at)]))]:Hp) (by kernel_rfl) (fP 0 (.inl rfl) z30 rfl wz (λn_12=>ae (vL Entry.enc r_3.1) wz rfl (ae (vL Entry.enc r_6.1) wz rfl (gz 0 il ft 1 x9 rfl rfl [(vS r_9.1.Key),(vS r_9.1.Screen),(vI r_9.1.Zone),(vL eS r_9.1.Tags)] rfl wz (ak (ah (ah (aa (ae (.ref n_2 0 0) wz rfl ?_)))))))))
 obtain ⟨r_13,hr_14,hF⟩:=bind_some hF
 refine aY 0 [0] il ft (di hr_14) rfl hb8 rfl (by kernel_rfl) (by kernel_rfl) (by kernel_rfl) (by kernel_rfl) (by kernel_rfl) (by kernel_rfl) (by kernel_rfl) (by decide) (by kernel_rfl) wz (vB r_13.1) (by kernel_rfl) ([(n_2,some (.cells 2 [(vL eI r_13.2.L),(vI r_13.2.f_at)])),(n_12,some (.cells 4 [(vS r_9.1.Key),(vS r_9.1.Screen),(vI r_9.1.Zone),(vL eS r_9.1.Tags)]))]:Hp) (by kernel_rfl) (ak ?_)
 obtain ⟨v_18,h_19,hF⟩:=bind_some hF
 refine FM (β:=Unit) (λ_=>([(4,(vL Entry.enc r_3.1)),(5,(vL Entry.enc v_18.1)),(6,(.ref n_12 0 0))]:SL_)) (λ_=>([(n_2,some (.cells 2 [(vL eI v_18.2.1),(vI v_18.2.2)])),(n_12,some (.cells 4 [(vS r_9.1.Key),(vS r_9.1.Screen),(vI r_9.1.Zone),(vL eS r_9.1.Tags)]))]:Hp)) (λ_=>True) ?_ ?_
 ·rcases au h_19 with⟨hc_20,h_19⟩|⟨hc_20,h_19⟩
  ·refine aG rfl hc_20 (ah (aa (ae (vL Entry.enc r_3.1) wz rfl ?_)))
   obtain ⟨r_21,hr_22,h_19⟩:=bind_some h_19
   refine uf [] (fO hr_22) rfl hb9 rfl (by kernel_rfl) (by kernel_rfl) (by kernel_rfl) (by kernel_rfl) (by kernel_rfl) rfl (by decide) (by kernel_rfl) wz ([(n_2,some (.cells 2 [(vL eI r_13.2.L),(vI r_13.2.f_at)])),(n_12,some (.cells 4 [(vS r_9.1.Key),(vS r_9.1.Screen),(vI r_9.1.Zone),(vL eS r_9.1.Tags)]))]:Hp) (λ_=>by kernel_rfl) (λn_24=>ae (gV n_24 13 r_21) wz rfl (ak (ah (aa (ae (gV n_24 13 r_21) wz rfl (wE nY rfl wz (ae (vI 0) wz rfl (ak ?_))))))))
   obtain ⟨o_33,hj_34,h_19⟩:=bind_some h_19
   obtain ⟨hn_29,hj_34⟩:=bJ hj_34
   refine aJ (β:=((List Entry)×(List Int)×Int)) (λ(s_30:(List Entry)×(List Int)×Int)=>([(4,(vL Entry.enc r_3.1)),(5,(gV n_24 13 s_30.1)),(6,(.ref n_12 0 0))]:SL_)) (λ(s_30:(List Entry)×(List Int)×Int)=>([(n_2,some (.cells 2 [(vL eI s_30.2.1),(vI s_30.2.2)])),(n_12,some (.cells 4 [(vS r_9.1.Key),(vS r_9.1.Screen),(vI r_9.1.Zone),(vL eS r_9.1.Tags)])),(n_24,gB 13 Entry.enc s_30.1)]:Hp)) (λp=>o_33 = .go p) ?_ ?_
   ·refine aK (bX (β:=Nat×(List Nat)×((List Entry)×(List Int)×Int)) (λp=>(λ(k_25:Nat) (l_26:List Nat) (s_30:(List Entry)×(List Int)×Int)=>([(3,(.ref n_2 0 0)),(4,(vL Entry.enc r_3.1)),(5,(gV n_24 13 s_30.1)),(6,(.ref n_12 0 0)),(26,(vI (r_21.length:Int))),(27,(vI (k_25:Int)))]:SL_)) p.1 p.2.1 p.2.2) (λp=>(λ(k_25:Nat) (l_26:List Nat) (s_30:(List Entry)×(List Int)×Int)=>([(n_2,some (.cells 2 [(vL eI s_30.2.1),(vI s_30.2.2)])),(n_12,some (.cells 4 [(vS r_9.1.Key),(vS r_9.1.Screen),(vI r_9.1.Zone),(vL eS r_9.1.Tags)])),(n_24,gB 13 Entry.enc s_30.1)]:Hp)) p.1 p.2.1 p.2.2) (λp=>dR (λk x s=>eG k x s) p.2.1 p.1 p.2.2=some o_33/\((List.range ((r_21.length:Int)).toNat)).drop p.1=p.2.1) (λp=>p.2.1.length) (0,(List.range ((r_21.length:Int)).toNat),(r_21,r_13.2.L,r_13.2.f_at)) ⟨hj_34,rfl⟩ rfl (aN rfl) ?_)
    rintro ⟨k_25,l_26,s_30⟩ ⟨hL_32,hD_28⟩
    dsimp only at hL_32 hD_28
    cases l_26 with
    | nil =>
     obtain rfl:=aj hL_32
     refine ah (aa (ae (vB (decide ((k_25:Int)<(r_21.length:Int)))) wz rfl (ak ?_)))
     refine ah (aC rfl (nO hD_28) (bT ?_))
     exact cB (s_30) rfl rfl (aN rfl)
    | cons x_27 l_26 =>
     obtain ⟨c_,hc_31,hL_32⟩:=bind_some hL_32
     refine ah (aa (ae (vB (decide ((k_25:Int)<(r_21.length:Int)))) wz rfl (ak ?_)))
     refine ah (aG rfl (l6 hD_28) (ay ?_))
     unfold eG at hc_31
     refine ah (aK (ah (aa (ae (vI (k_25:Int)) wz rfl (ae (vI (k_25:Int)) wz rfl (ak (ah (aa (ae (gV n_24 13 s_30.1) wz rfl (ae (vI (k_25:Int)) wz rfl (ae (.ref n_2 0 0) wz rfl ?_)))))))))))
     obtain ⟨r_35,hr_36,hc_31⟩:=bind_some hc_31
     refine aY 0 [0] il ft (jX hr_36) rfl hb10 rfl (by kernel_rfl) (by kernel_rfl) (by kernel_rfl) (by kernel_rfl) (by kernel_rfl) (by kernel_rfl) (by kernel_rfl) (by decide) (by kernel_rfl) wz (vI r_35.1) (by kernel_rfl) ([(n_2,some (.cells 2 [(vL eI r_35.2.L),(vI r_35.2.f_at)])),(n_12,some (.cells 4 [(vS r_9.1.Key),(vS r_9.1.Screen),(vI r_9.1.Zone),(vL eS r_9.1.Tags)])),(n_24,gB 13 Entry.enc s_30.1)]:Hp) (by kernel_rfl) ?_
     obtain ⟨_,hi_38,hc_31⟩:=bind_some hc_31
     refine oC lg rfl rfl (lG hi_38) (jJ hi_38) wz (aD kz rfl 2 rfl wz ?_)
     obtain ⟨e_39,hy_40,hc_31⟩:=bind_some hc_31
     refine jl 0 il ft 2 sz3 rfl rfl hy_40 (⟨e_39.Key,e_39.Item,r_35.1,e_39.First,e_39.Last,e_39.Every,e_39.Days,e_39.Except,e_39.From,e_39.To,e_39.Prio,e_39.Tags,e_39.Gone⟩:Entry) rfl wz (dZ (v':=(gV n_24 13 (s_30.1.set (0+((k_25:Int)).toNat) (⟨e_39.Key,e_39.Item,r_35.1,e_39.First,e_39.Last,e_39.Every,e_39.Days,e_39.Except,e_39.From,e_39.To,e_39.Prio,e_39.Tags,e_39.Gone⟩:Entry)))) 5 rfl (bE (by simp)) (dZ (v':=(gV n_24 13 (s_30.1.set (0+((k_25:Int)).toNat) (⟨e_39.Key,e_39.Item,r_35.1,e_39.First,e_39.Last,e_39.Every,e_39.Days,e_39.Except,e_39.From,e_39.To,e_39.Prio,e_39.Tags,e_39.Gone⟩:Entry)))) 30 rfl (bE (by simp)) (ak (aa (ae (gV n_24 13 (s_30.1.set (0+((k_25:Int)).toNat) (⟨e_39.Key,e_39.Item,r_35.1,e_39.First,e_39.Last,e_39.Every,e_39.Days,e_39.Except,e_39.From,e_39.To,e_39.Prio,e_39.Tags,e_39.Gone⟩:Entry))) wz rfl (ae (vI (k_25:Int)) wz rfl (ae (.ref n_2 0 0) wz rfl ?_)))))))
     obtain ⟨r_41,hr_42,hc_31⟩:=bind_some hc_31
     refine aY 0 [0] il ft (di hr_42) rfl hb8 rfl (by kernel_rfl) (by kernel_rfl) (by kernel_rfl) (by kernel_rfl) (by kernel_rfl) (by kernel_rfl) (by kernel_rfl) (by decide) (by kernel_rfl) wz (vB r_41.1) (by kernel_rfl) ([(n_2,some (.cells 2 [(vL eI r_41.2.L),(vI r_41.2.f_at)])),(n_12,some (.cells 4 [(vS r_9.1.Key),(vS r_9.1.Screen),(vI r_9.1.Zone),(vL eS r_9.1.Tags)])),(n_24,gB 13 Entry.enc (s_30.1.set (0+((k_25:Int)).toNat) (⟨e_39.Key,e_39.Item,r_35.1,e_39.First,e_39.Last,e_39.Every,e_39.Days,e_39.Except,e_39.From,e_39.To,e_39.Prio,e_39.Tags,e_39.Gone⟩:Entry)))]:Hp) (by kernel_rfl) ?_
     obtain ⟨_,hi_44,hc_31⟩:=bind_some hc_31
     refine oC lg rfl rfl (lG hi_44) (jJ hi_44) wz (aD tu rfl 12 rfl wz ?_)
     obtain ⟨e_45,hy_46,hc_31⟩:=bind_some hc_31
     refine jl 0 il ft 2 sz4 rfl rfl hy_46 (⟨e_45.Key,e_45.Item,e_45.Version,e_45.First,e_45.Last,e_45.Every,e_45.Days,e_45.Except,e_45.From,e_45.To,e_45.Prio,e_45.Tags,r_41.1⟩:Entry) rfl wz (dZ (v':=(gV n_24 13 ((s_30.1.set (0+((k_25:Int)).toNat) (⟨e_39.Key,e_39.Item,r_35.1,e_39.First,e_39.Last,e_39.Every,e_39.Days,e_39.Except,e_39.From,e_39.To,e_39.Prio,e_39.Tags,e_39.Gone⟩:Entry)).set (0+((k_25:Int)).toNat) (⟨e_45.Key,e_45.Item,e_45.Version,e_45.First,e_45.Last,e_45.Every,e_45.Days,e_45.Except,e_45.From,e_45.To,e_45.Prio,e_45.Tags,r_41.1⟩:Entry)))) 5 rfl (bE (by simp)) (dZ (v':=(gV n_24 13 ((s_30.1.set (0+((k_25:Int)).toNat) (⟨e_39.Key,e_39.Item,r_35.1,e_39.First,e_39.Last,e_39.Every,e_39.Days,e_39.Except,e_39.From,e_39.To,e_39.Prio,e_39.Tags,e_39.Gone⟩:Entry)).set (0+((k_25:Int)).toNat) (⟨e_45.Key,e_45.Item,e_45.Version,e_45.First,e_45.Last,e_45.Every,e_45.Days,e_45.Except,e_45.From,e_45.To,e_45.Prio,e_45.Tags,r_41.1⟩:Entry)))) 30 rfl (bE (by simp)) (dZ (v':=(gV n_24 13 ((s_30.1.set (0+((k_25:Int)).toNat) (⟨e_39.Key,e_39.Item,r_35.1,e_39.First,e_39.Last,e_39.Every,e_39.Days,e_39.Except,e_39.From,e_39.To,e_39.Prio,e_39.Tags,e_39.Gone⟩:Entry)).set (0+((k_25:Int)).toNat) (⟨e_45.Key,e_45.Item,e_45.Version,e_45.First,e_45.Last,e_45.Every,e_45.Days,e_45.Except,e_45.From,e_45.To,e_45.Prio,e_45.Tags,r_41.1⟩:Entry)))) 36 rfl (bE (by simp)) (ak (aa (gX (nP hD_28 hn_29) wz rfl (ae (vI ((k_25+1:Nat):Int)) wz rfl (ak ?_))))))))
     obtain rfl:=aj hc_31
     exact bO (k_25+1,l_26,(((s_30.1.set (0+((k_25:Int)).toNat) (⟨e_39.Key,e_39.Item,r_35.1,e_39.First,e_39.Last,e_39.Every,e_39.Days,e_39.Except,e_39.From,e_39.To,e_39.Prio,e_39.Tags,e_39.Gone⟩:Entry)).set (0+((k_25:Int)).toNat) (⟨e_45.Key,e_45.Item,e_45.Version,e_45.First,e_45.Last,e_45.Every,e_45.Days,e_45.Except,e_45.From,e_45.To,e_45.Prio,e_45.Tags,r_41.1⟩:Entry)),r_41.2.L,r_41.2.f_at)) ⟨hL_32,bg hD_28⟩ (ls_ _) rfl (aN rfl)
   ·rintro s_30 ho_ sl_ H_ hp_ hq_
    subst ho_
    intro C_ b_ Q_ key_
    refine aZ _ hp_ hq_ (gW 2 rfl (gu 5 2 rfl rfl ?_))
    obtain rfl:=aj h_19
    exact key_ () trivial _ _ rfl (aN rfl)
  ·refine aC rfl hc_20 (ay ?_)
   intro C_ b_ Q_ key_
   obtain rfl:=aj h_19
   exact key_ () trivial _ _ rfl (aN rfl)
 ·rintro ⟨⟩ _ sl_ H_ hp_ hq_
  refine aZ _ hp_ hq_ (ah (aa (ae (vL Entry.enc r_3.1) wz rfl (ae (vL Entry.enc v_18.1) wz rfl ?_))))
  obtain ⟨r_47,hr_48,hF⟩:=bind_some hF
  refine aF (sN hr_48) rfl hb11 rfl rfl rfl rfl wz (ae (.tup [(vL Entry.enc r_47.1),(vI r_47.2)]) wz rfl (ae (vL Entry.enc r_47.1) wz rfl (ae (vI r_47.2) wz rfl (ae (vL Entry.enc r_47.1) wz rfl (ae (vI r_47.2) wz rfl (ak (ah (aa (ae (vL Entry.enc r_3.1) wz rfl ?_)))))))))
  obtain ⟨r_49,hr_50,hF⟩:=bind_some hF
  refine aF (lI hr_50) rfl hb12 rfl rfl rfl rfl wz (ae (vI r_49) wz rfl (ak (ah (ah ?_))))
  obtain ⟨v_51,h_52,hF⟩:=bind_some hF
  refine aJ (β:=Unit) (λ_=>([(4,(vL Entry.enc r_3.1)),(5,(vL Entry.enc v_18.1)),(8,(vL Entry.enc r_47.1)),(9,(vI r_47.2)),(10,(vI r_49)),(61,(vB v_51))]:SL_)) (λ_=>([(n_2,some (.cells 2 [(vL eI v_18.2.1),(vI v_18.2.2)])),(n_12,some (.cells 4 [(vS r_9.1.Key),(vS r_9.1.Screen),(vI r_9.1.Zone),(vL eS r_9.1.Tags)]))]:Hp)) (λ_=>True) ?_ ?_
  ·refine fC (ae (vL Entry.enc r_3.1) wz rfl ?_)
   obtain ⟨r_53,hr_54,h_52⟩:=bind_some h_52
   refine aF (gK hr_54) rfl hb13 rfl rfl rfl rfl wz (ae (vI r_49) wz rfl (ae (vB (r_53 != r_49)) wz rfl ?_))
   rcases au h_52 with⟨hc_55,h_52⟩|⟨hc_55,h_52⟩
   ·refine ax rfl hc_55 wz (af wa (af wa (af wa (af wa (af wa (ae (vB true) wz rfl (ak ?_)))))))
    obtain rfl:=aj h_52
    exact cu
   ·refine ax rfl hc_55 wz (aB 5 1 (.inr (by kernel_rfl)) (λ_ _ ag=>trivial) x9 ET rfl rfl (.d (.agg (Player.enc r_9.1))) rfl wa ?_)
    obtain ⟨r_56,hr_57,h_52⟩:=bind_some h_52
    refine aF (nI hr_57) rfl hb14 rfl rfl rfl rfl wa (aB 7 1 (.inr (by kernel_rfl)) (λ_ _ ag=>⟨.inl ⟨rfl,rfl⟩,trivial⟩) x9 ET rfl rfl (.d (.agg (Player.enc r_9.1))) rfl wa ?_)
    obtain ⟨r_58,hr_59,h_52⟩:=bind_some h_52
    refine aF (rM hr_59) rfl hb15 rfl rfl rfl rfl wa (ae (vB (r_56 != r_58)) wa rfl (ae (vB (r_56 != r_58)) wz rfl (ak ?_)))
    obtain rfl:=aj h_52
    exact cu
  ·rintro ⟨⟩ _ sl_ H_ hp_ hq_
   refine aZ _ hp_ hq_ ?_
   rcases au hF with⟨hc_60,hF⟩|⟨hc_60,hF⟩
   ·refine aG rfl hc_60 (ah (aa (ae (vB false) wz rfl (ak ?_))))
    obtain rfl:=aj hF
    exact aA (bv (.inr rfl) [(vB false)] ⟨rfl,trivial⟩ rfl rfl rfl)
   ·refine aC rfl hc_60 (ay (ah (aa (ae .nil wz rfl (ak (ah (ah (aa (ae (vI r_49) wz rfl (ae (vL Entry.enc v_18.1) wz rfl ?_))))))))))
    obtain ⟨r_61,hr_62,hF⟩:=bind_some hF
    refine aF (lI hr_62) rfl hb12 rfl rfl rfl rfl wz (dY (([r_49,r_61]:List Int).map eI) es93 ez93 rfl rfl rfl rfl rfl wz ?_)
    obtain ⟨r_63,hr_64,hF⟩:=bind_some hF
    refine aF (BI hr_64) rfl hb16 rfl rfl rfl rfl wz (ae (vI r_63) wz rfl (ak (ah (aa (ae (vI r_63) wz rfl (ae (vB (r_63==0)) wz rfl (ak (wH_nilL Entry.enc 11 rfl ?_))))))))
    obtain ⟨v_67,h_68,hF⟩:=bind_some hF
    refine aJ (β:=Unit) (λ_=>([(8,(vL Entry.enc r_47.1)),(9,(vI r_47.2)),(10,(vI v_67.1)),(11,(vL Entry.enc v_67.2))]:SL_)) (λ_=>([(n_2,some (.cells 2 [(vL eI v_18.2.1),(vI v_18.2.2)])),(n_12,some (.cells 4 [(vS r_9.1.Key),(vS r_9.1.Screen),(vI r_9.1.Zone),(vL eS r_9.1.Tags)]))]:Hp)) (λ_=>True) ?_ ?_
    ·rcases au h_68 with⟨hc_69,h_68⟩|⟨hc_69,h_68⟩
     ·refine aG rfl hc_69 (aa (ae (vL Entry.enc r_3.1) wz rfl (ae (vL Entry.enc v_18.1) wz rfl ?_)))
      obtain ⟨r_70,hr_71,h_68⟩:=bind_some h_68
      refine aF (uw hr_71) rfl hb17 rfl rfl rfl rfl wz (ae (.tup [(vL Entry.enc r_70.1),(vI r_70.2)]) wz rfl (ae (vL Entry.enc r_70.1) wz rfl (ae (vI r_70.2) wz rfl (ae (vL Entry.enc r_70.1) wz rfl (ae (vI r_70.2) wz rfl (ak ?_))))))
      obtain rfl:=aj h_68
      exact cu
     ·refine aC rfl hc_69 (ay ?_)
      obtain rfl:=aj h_68
      exact cu
    ·rintro ⟨⟩ _ sl_ H_ hp_ hq_
     refine aZ _ hp_ hq_ (ah ?_)
     obtain ⟨v_72,h_73,hF⟩:=bind_some hF
     refine aJ (β:=Unit) (λ_=>([(2,(vB v_72))]:SL_)) (λ_=>([(n_2,some (.cells 2 [(vL eI v_18.2.1),(vI v_18.2.2)])),(n_12,some (.cells 4 [(vS r_9.1.Key),(vS r_9.1.Screen),(vI r_9.1.Zone),(vL eS r_9.1.Tags)]))]:Hp)) (λ_=>True) ?_ ?_
     ·refine aa (ae (vI r_47.2) wz rfl (ae (vI v_67.1) wz rfl (ae (vB (r_47.2==v_67.1)) wz rfl ?_)))
      rcases au h_73 with⟨hc_74,h_73⟩|⟨hc_74,h_73⟩
      ·refine ax rfl hc_74 wz (ae (vL Entry.enc r_47.1) wa rfl (ae (vL Entry.enc v_67.2) wa rfl ?_))
       obtain ⟨r_75,hr_76,h_73⟩:=bind_some h_73
       refine aF (ek hr_76) rfl hb18 rfl rfl rfl rfl wa (ae (vB r_75) wz rfl ?_)
       rcases au h_73 with⟨hc_77,h_73⟩|⟨hc_77,h_73⟩
       ·refine ax rfl hc_77 wz ?_
        obtain ⟨r_78,hr_79,h_73⟩:=bind_some h_73
        refine aF (zL hr_79) rfl hb20 rfl rfl rfl rfl wa (ae (vB r_78) wz rfl (ae (vB r_78) wz rfl (ak ?_)))
        obtain rfl:=aj h_73
        exact cu
       ·refine ax rfl hc_77 wz (af wa (ae (vB false) wz rfl (ae (vB false) wz rfl (ak ?_))))
        obtain rfl:=aj h_73
        exact cu
      ·refine ax rfl hc_74 wz (af wa (af wa (af wa (ae (vB false) wz rfl (ae (vB false) wz rfl (af wa (ae (vB false) wz rfl (ae (vB false) wz rfl (ak ?_)))))))))
       obtain rfl:=aj h_73
       exact cu
     ·rintro ⟨⟩ _ sl_ H_ hp_ hq_
      refine aZ _ hp_ hq_ ?_
      obtain rfl:=aj hF
      exact aA (bv (.inr rfl) [(vB v_72)] ⟨rfl,trivial⟩ rfl rfl rfl)
end Go.Proofs.YtnjnggakgeommaaGreatDoor.Law

