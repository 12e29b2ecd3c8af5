/-
 The machine computes these plain functions (written by a program of ours).
-/
import Derived.Test.YtpmokglbipebcaaGreatDoorFacts
import Derived.Test.YtpmokglbipebcaaGreatDoorDefs
import Derived.Test.YtpmokglbipebcaaGreatDoorPf3
import Derived.Test.YtpmokglbipebcaaGreatDoorShelf
open Go Go.Eng Go.Proofs
namespace Go.Proofs.YtpmokglbipebcaaGreatDoor.Law
set_option maxRecDepth 100000
set_option linter.unusedVariables false
set_option maxHeartbeats 1000000
theorem yo {a_1:(List Alert)} {b_2:(List Alert)} {r:(List Alert)×Int} (hF:jU a_1 b_2=some r) :
  FnM Tryz.prog 11 [(vL Alert.enc a_1),(vL Alert.enc b_2)] [] (.tup [(vL Alert.enc r.1),(vI r.2)]) []:=by
 refine FnM.of_wH ⟨Tryz.prog,68,[],[]⟩ rfl Tryz.func11 rfl rfl (lb_ rfl) (by kernel_rfl) ?_
 unfold jU at hF
 refine af (aa (ae .nil wz rfl (ae (vI 0) wz rfl (aj (af (af (aa (ae (vL Alert.enc a_1) wz rfl (ae (vL Alert.enc b_2) wz rfl (ae (.d (.agg [dl Alert.enc a_1,dl Alert.enc b_2])) wz (by kernel_rfl) (ae (vI 0) wz rfl (aj ?_))))))))))))
 obtain ⟨o_11,hj_12,hF⟩:=bind_some hF
 obtain ⟨hn_7,hj_12⟩:=bv hj_12
 refine aI (β:=(Unit)) (λ(s_8:Unit)=>([(0,(vL Alert.enc a_1)),(1,(vL Alert.enc b_2))]:SL_)) (λ(s_8:Unit)=>([]:Hp)) (λp=>o_11 = .go p) ?_ ?_
 ·refine aB (bn (β:=Nat×(List Nat)×(Unit)) (λp=>(λ(k_3:Nat) (l_4:List Nat) (s_8:Unit)=>([(0,(vL Alert.enc a_1)),(1,(vL Alert.enc b_2)),(17,(.d (.agg [dl Alert.enc a_1,dl Alert.enc b_2]))),(18,(vI (k_3:Int)))]:SL_)) p.1 p.2.1 p.2.2) (λp=>(λ(k_3:Nat) (l_4:List Nat) (s_8:Unit)=>([]:Hp)) p.1 p.2.1 p.2.2) (λp=>forR (λk x s=>fQ a_1 b_2 k x s) p.2.1 p.1 p.2.2=some o_11/\((List.range (2:Int).toNat)).drop p.1=p.2.1) (λp=>p.2.1.length) (0,(List.range (2:Int).toNat),()) ⟨hj_12,rfl⟩ rfl (aK rfl) ?_)
  rintro ⟨k_3,l_4,s_8⟩ ⟨hL_10,hD_6⟩
  dsimp only at hL_10 hD_6
  cases l_4 with
  | nil =>
   obtain rfl:=ah hL_10
   refine af (aa (ae (vB (decide ((k_3:Int)<2))) wz rfl (aj ?_)))
   refine af (ax rfl (qo hD_6) (bE ?_))
   exact bN (s_8) rfl rfl (aK rfl)
  | cons x_5 l_4 =>
   obtain ⟨c_,hc_9,hL_10⟩:=bind_some hL_10
   refine af (aa (ae (vB (decide ((k_3:Int)<2))) wz rfl (aj ?_)))
   refine af (aA rfl (og hD_6) (av ?_))
   unfold fQ at hc_9
   refine af (aB (af (aa ?_)))
   obtain ⟨y_13,hy_14,hc_9⟩:=bind_some hc_9
   refine h_idxa (enc:=(eL Alert.enc)) (xs:=([a_1,b_2]:List (List Alert))) un64 sz26 ag26 rfl rfl rfl rfl hy_14 (λ_=>rfl) (.inr rfl) (vL Alert.enc y_13) rfl wz (ae (vL Alert.enc y_13) wz rfl (aj (af (aa (ae (vL Alert.enc y_13) wz rfl ?_)))))
   obtain ⟨r_15,hr_16,hc_9⟩:=bind_some hc_9
   refine aH (jR hr_16) rfl hb13 rfl rfl rfl rfl wz (ae (vI r_15) wz rfl (aj (af (aa (ae (vI r_15) wz rfl (ae (vB (r_15 != 0)) wz rfl (aj ?_)))))))
   rcases ak hc_9 with⟨hc_17,hc_9⟩|⟨hc_17,hc_9⟩
   ·refine aA rfl hc_17 (af (aa (ae (vI r_15) wz rfl (ae .nil wz rfl (ae (vI r_15) wz rfl (aj ?_))))))
    obtain rfl:=ah hc_9
    obtain rfl:=ah hL_10
    obtain rfl:=ah hF
    exact ay (aX (.inr rfl) [.nil,(vI r_15)] ⟨rfl,⟨rfl,trivial⟩⟩ rfl rfl rfl)
   ·refine ax rfl hc_17 (av (aa (gN (qd hD_6 hn_7) wz rfl (ae (vI ((k_3+1:Nat):Int)) wz rfl (aj ?_)))))
    obtain rfl:=ah hc_9
    exact bC (k_3+1,l_4,()) ⟨hL_10,aY hD_6⟩ (ls_ _) rfl (aK rfl)
 ·rintro s_8 ho_ sl_ H_ hp_ hq_
  subst ho_
  refine aV _ hp_ hq_ (af (aa (Cg 0 (.inl rfl) wz (λn_18=>Jd (b':=some (bM D.str (λx=>D.agg (Alert.enc x)) ([]:List (ByteArray×Alert)))) 0 rfl rfl (ae (.map n_18) wz rfl (aj (af (aa (ae .nil wz rfl (aj (af (af (aa (ae (vL Alert.enc a_1) wz rfl (ae (vL Alert.enc b_2) wz rfl (fB (([a_1,b_2]:List (List Alert)).map (eL Alert.enc)) Il ez110 rfl rfl rfl rfl rfl wz ?_))))))))))))))))
  obtain ⟨r_19,hr_20,hF⟩:=bind_some hF
  refine aH (kI hr_20) rfl hb40 rfl rfl rfl rfl wz (dA lK rfl wz (ae (vI 0) wz rfl (aj (uf (λn_27 => ?_)))))
  obtain ⟨o_32,hj_33,hF⟩:=bind_some hF
  obtain ⟨hn_25,hj_33⟩:=bv hj_33
  refine aI (β:=((List (ByteArray×Alert))×(List Alert))×Nm) (λp=>(λ(s_26:(List (ByteArray×Alert))×(List Alert)) (n_29:Nm)=>([(10,(gV n_29 9 s_26.2))]:SL_)) p.1 p.2) (λp=>(λ(s_26:(List (ByteArray×Alert))×(List Alert)) (n_29:Nm)=>([(n_18,some (bM D.str (λx=>D.agg (Alert.enc x)) s_26.1)),(n_29,gB 9 Alert.enc s_26.2)]:Hp)) p.1 p.2) (λp=>o_32 = .go p.1) ?_ ?_
  ·refine aB (bn (β:=Nat×(List Alert)×((List (ByteArray×Alert))×(List Alert))×Nm) (λp=>(λ(k_21:Nat) (l_22:List Alert) (s_26:(List (ByteArray×Alert))×(List Alert)) (n_29:Nm)=>([(9,(.map n_18)),(10,(gV n_29 9 s_26.2)),(31,(vL Alert.enc r_19)),(32,(vI (r_19.length:Int))),(33,(vI (k_21:Int)))]:SL_)) p.1 p.2.1 p.2.2.1 p.2.2.2) (λp=>(λ(k_21:Nat) (l_22:List Alert) (s_26:(List (ByteArray×Alert))×(List Alert)) (n_29:Nm)=>([(n_18,some (bM D.str (λx=>D.agg (Alert.enc x)) s_26.1)),(n_29,gB 9 Alert.enc s_26.2)]:Hp)) p.1 p.2.1 p.2.2.1 p.2.2.2) (λp=>forR (λk x s=>ib k x s) p.2.1 p.1 p.2.2.1=some o_32/\(r_19).drop p.1=p.2.1) (λp=>p.2.1.length) (0,r_19,(([]:List (ByteArray×Alert)),([]:List Alert)),n_27) ⟨hj_33,rfl⟩ rfl (aK rfl) ?_)
   rintro ⟨k_21,l_22,s_26,n_29⟩ ⟨hL_31,hD_24⟩
   dsimp only at hL_31 hD_24
   cases l_22 with
   | nil =>
    obtain rfl:=ah hL_31
    refine af (aa (ae (vB (decide ((k_21:Int)<(r_19.length:Int)))) wz rfl (aj ?_)))
    refine af (ax rfl (drop_nil hD_24) (bE ?_))
    exact bN (s_26,n_29) rfl rfl (aK rfl)
   | cons x_23 l_22 =>
    obtain ⟨c_,hc_30,hL_31⟩:=bind_some hL_31
    refine af (aa (ae (vB (decide ((k_21:Int)<(r_19.length:Int)))) wz rfl (aj ?_)))
    refine af (aA rfl (bP hD_24) (av ?_))
    unfold ib at hc_30
    refine af (aB (af (aa (jk iU rfl rfl (dB hD_24) rfl wz (fA dM iw rfl (.d (.agg (Alert.enc x_23))) rfl wz (fP 0 (.inl rfl) z33 rfl wz (λn_34=>fU 0 il ft 2 dM rfl rfl [(vS x_23.Id),(vS x_23.Sender),(vI x_23.Kind),(vL eS x_23.Refs),(vI x_23.At),(vI x_23.Until),(vI x_23.Weight),(vL Rect.enc x_23.Areas),(vS x_23.Text)] rfl wz (aj (af (aa (ae (.map n_18) wz rfl (aF ic rfl 0 rfl wz (aD 0 2 il ft sz9 ag9 rfl rfl (vS x_23.Id) rfl wz (Eb (eq:=eqS) (kD:=D.str) (vD:=(λx=>D.agg (Alert.enc x))) (es:=s_26.1) (k:=x_23.Id) (z:=(⟨(⟨#[]⟩:ByteArray),(⟨#[]⟩:ByteArray),0,([]:List ByteArray),0,0,0,([]:List Rect),(⟨#[]⟩:ByteArray)⟩:Alert)) 0 0 il ft (λ_ _=>rfl) mt65 (by kernel_rfl) (by kernel_rfl) rfl rfl rfl (.tup [(.d (.agg (Alert.enc ((jo eqS s_26.1 x_23.Id).getD (⟨(⟨#[]⟩:ByteArray),(⟨#[]⟩:ByteArray),0,([]:List ByteArray),0,0,0,([]:List Rect),(⟨#[]⟩:ByteArray)⟩:Alert))))),(vB ((jo eqS s_26.1 x_23.Id).isSome))]) rfl wz (ae (.tup [(.d (.agg (Alert.enc ((jo eqS s_26.1 x_23.Id).getD (⟨(⟨#[]⟩:ByteArray),(⟨#[]⟩:ByteArray),0,([]:List ByteArray),0,0,0,([]:List Rect),(⟨#[]⟩:ByteArray)⟩:Alert))))),(vB ((jo eqS s_26.1 x_23.Id).isSome))]) wz rfl (ae (.d (.agg (Alert.enc ((jo eqS s_26.1 x_23.Id).getD (⟨(⟨#[]⟩:ByteArray),(⟨#[]⟩:ByteArray),0,([]:List ByteArray),0,0,0,([]:List Rect),(⟨#[]⟩:ByteArray)⟩:Alert))))) wz rfl (ae (vB ((jo eqS s_26.1 x_23.Id).isSome)) wz rfl (fP 0 (.inl rfl) z33 rfl wz (λn_35=>fU 0 il ft 3 dM rfl rfl [(vS (((jo eqS s_26.1 x_23.Id).getD (⟨(⟨#[]⟩:ByteArray),(⟨#[]⟩:ByteArray),0,([]:List ByteArray),0,0,0,([]:List Rect),(⟨#[]⟩:ByteArray)⟩:Alert)).Id)),(vS (((jo eqS s_26.1 x_23.Id).getD (⟨(⟨#[]⟩:ByteArray),(⟨#[]⟩:ByteArray),0,([]:List ByteArray),0,0,0,([]:List Rect),(⟨#[]⟩:ByteArray)⟩:Alert)).Sender)),(vI (((jo eqS s_26.1 x_23.Id).getD (⟨(⟨#[]⟩:ByteArray),(⟨#[]⟩:ByteArray),0,([]:List ByteArray),0,0,0,([]:List Rect),(⟨#[]⟩:ByteArray)⟩:Alert)).Kind)),(vL eS (((jo eqS s_26.1 x_23.Id).getD (⟨(⟨#[]⟩:ByteArray),(⟨#[]⟩:ByteArray),0,([]:List ByteArray),0,0,0,([]:List Rect),(⟨#[]⟩:ByteArray)⟩:Alert)).Refs)),(vI (((jo eqS s_26.1 x_23.Id).getD (⟨(⟨#[]⟩:ByteArray),(⟨#[]⟩:ByteArray),0,([]:List ByteArray),0,0,0,([]:List Rect),(⟨#[]⟩:ByteArray)⟩:Alert)).At)),(vI (((jo eqS s_26.1 x_23.Id).getD (⟨(⟨#[]⟩:ByteArray),(⟨#[]⟩:ByteArray),0,([]:List ByteArray),0,0,0,([]:List Rect),(⟨#[]⟩:ByteArray)⟩:Alert)).Until)),(vI (((jo eqS s_26.1 x_23.Id).getD (⟨(⟨#[]⟩:ByteArray),(⟨#[]⟩:ByteArray),0,([]:List ByteArray),0,0,0,([]:List Rect),(⟨#[]⟩:ByteArray)⟩:Alert)).Weight)),(vL Rect.enc (((jo eqS s_26.1 x_23.Id).getD (⟨(⟨#[]⟩:ByteArray),(⟨#[]⟩:ByteArray),0,([]:List ByteArray),0,0,0,([]:List Rect),(⟨#[]⟩:ByteArray)⟩:Alert)).Areas)),(vS (((jo eqS s_26.1 x_23.Id).getD (⟨(⟨#[]⟩:ByteArray),(⟨#[]⟩:ByteArray),0,([]:List ByteArray),0,0,0,([]:List Rect),(⟨#[]⟩:ByteArray)⟩:Alert)).Text))] rfl wz (ae (vB ((jo eqS s_26.1 x_23.Id).isSome)) wz rfl (aj (aB (af ?_)))))))))))))))))))))))
    refine aa (ae (vB ((jo eqS s_26.1 x_23.Id).isSome)) wz rfl (ae (vB (!((jo eqS s_26.1 x_23.Id).isSome))) wz rfl (ae (vB (!((jo eqS s_26.1 x_23.Id).isSome))) wz rfl (aj ?_))))
    rcases ak hc_30 with⟨hc_36,hc_30⟩|⟨hc_36,hc_30⟩
    ·refine aA rfl hc_36 (af (aa (ae (.map n_18) wz rfl (aF ic rfl 0 rfl wz (aD 0 2 il ft sz9 ag9 rfl rfl (vS x_23.Id) rfl wz (aD 0 2 il ft dM iw rfl rfl (.d (.agg (Alert.enc x_23))) rfl wz (y8 (eq:=eqS) (kD:=D.str) (vD:=(λx=>D.agg (Alert.enc x))) (es:=s_26.1) (k:=x_23.Id) (v:=x_23) 0 0 il ft (λ_ _=>rfl) mt65 (by kernel_rfl) rfl rfl rfl rfl wz (aj (aa (ae (gV n_29 9 s_26.2) wz rfl (aD 0 2 il ft dM iw rfl rfl (.d (.agg (Alert.enc x_23))) rfl wz ?_)))))))))))
     obtain ⟨r_37,hr_38,hc_30⟩:=bind_some hc_30
     refine aH (x9 hr_38) rfl hb41 rfl rfl rfl rfl wz (fB (([r_37]:List Alert).map Alert.enc) iU Eh rfl rfl rfl rfl rfl wz ?_)
     obtain ⟨a_39,hz_40,hc_30⟩:=bind_some hc_30
     refine rQ 0 il ft (i:=1) vZ vZ dM z33 rfl (by decide) GN (by decide) (λ_=>rfl) rfl rfl rfl hz_40 wz (λn_41=>ae (gV n_41 9 a_39) wz rfl (aj (aa (gN (bU hD_24 hn_25) wz rfl (ae (vI ((k_21+1:Nat):Int)) wz rfl (aj ?_))))))
     obtain rfl:=ah hc_30
     exact bC (k_21+1,l_22,((pg eqS s_26.1 x_23.Id x_23),a_39),n_41) ⟨hL_31,aY hD_24⟩ (ls_ _) rfl (aK rfl)
    ·refine ax rfl hc_36 (af (aa (aD 0 3 il ft dM iw rfl rfl (.d (.agg (Alert.enc ((jo eqS s_26.1 x_23.Id).getD (⟨(⟨#[]⟩:ByteArray),(⟨#[]⟩:ByteArray),0,([]:List ByteArray),0,0,0,([]:List Rect),(⟨#[]⟩:ByteArray)⟩:Alert))))) rfl wz (aD 0 2 il ft dM iw rfl rfl (.d (.agg (Alert.enc x_23))) rfl wz ?_))))
     obtain ⟨r_42,hr_43,hc_30⟩:=bind_some hc_30
     refine aH (zT hr_43) rfl hb42 rfl rfl rfl rfl wz (ae (vB (!r_42)) wz rfl (ae (vB (!r_42)) wz rfl (aj ?_)))
     rcases ak hc_30 with⟨hc_44,hc_30⟩|⟨hc_44,hc_30⟩
     ·refine aA rfl hc_44 (af (aa (ae .nil wz rfl (ae (vI 13) wz rfl (aj ?_)))))
      obtain rfl:=ah hc_30
      obtain rfl:=ah hL_31
      obtain rfl:=ah hF
      exact ay (aX (.inr rfl) [.nil,(vI 13)] ⟨rfl,⟨rfl,trivial⟩⟩ rfl rfl rfl)
     ·refine ax rfl hc_44 (av (aa (gN (bU hD_24 hn_25) wz rfl (ae (vI ((k_21+1:Nat):Int)) wz rfl (aj ?_)))))
      obtain rfl:=ah hc_30
      exact bC (k_21+1,l_22,(s_26.1,s_26.2),n_29) ⟨hL_31,aY hD_24⟩ (ls_ _) rfl (aK rfl)
  ·rintro ⟨s_26,n_29⟩ ho_ sl_ H_ hp_ hq_
   subst ho_
   refine aV _ hp_ hq_ (af (af (aa (ae (gV n_29 9 s_26.2) wz rfl (yx lK rfl wz (ae (vB (decide ((s_26.2.length:Int)>300))) wz rfl (aj ?_)))))))
   rcases ak hF with⟨hc_45,hF⟩|⟨hc_45,hF⟩
   ·refine aA rfl hc_45 (af (aa (ae .nil wz rfl (ae (vI 2) wz rfl (aj ?_)))))
    obtain rfl:=ah hF
    exact ay (aX (.inr rfl) [.nil,(vI 2)] ⟨rfl,⟨rfl,trivial⟩⟩ rfl rfl rfl)
   ·refine ax rfl hc_45 (av (af (aa (ae (gV n_29 9 s_26.2) wz rfl ?_))))
    obtain ⟨r_46,hr_47,hF⟩:=bind_some hF
    obtain ⟨_,hs_48,hF⟩:=bind_some hF
    replace hs_48:=lV hs_48
    refine mJ 0 [] 1 0 il ft (jw hr_47) rfl hb43 rfl rfl rfl (by kernel_rfl) rfl (.inl rfl) rfl (by kernel_rfl) (by kernel_rfl) (by kernel_rfl) (by kernel_rfl) rfl (by decide) (by kernel_rfl) jG (sV hs_48) wz ([(n_18,some (bM D.str (λx=>D.agg (Alert.enc x)) s_26.1)),(n_29,gB 9 Alert.enc r_46)]:Hp) (by kernel_rfl) (cK (v':=(gV n_29 9 r_46)) 10 rfl (dH hs_48.symm) (cK (v':=(gV n_29 9 r_46)) 62 rfl (dH hs_48.symm) (cK (v':=(gV n_29 9 r_46)) 65 rfl (dH hs_48.symm) (aj (af (aa (ae (gV n_29 9 r_46) wz rfl (ae (gV n_29 9 r_46) wz rfl (ae (vI 0) wz rfl (aj (jq 1 rfl (fC 4 1 rfl rfl (fC 10 1 rfl rfl (fC 62 1 rfl rfl (fC 65 1 rfl rfl (fC 67 1 rfl rfl ?_))))))))))))))))
    obtain rfl:=ah hF
    exact ay (aX (.inr rfl) [(vL Alert.enc r_46),(vI 0)] ⟨rfl,⟨rfl,trivial⟩⟩ rfl rfl rfl)
theorem kv {n_1:Int} {low_2:Int} {high_3:Int} {r:Bool} (hF:lN n_1 low_2 high_3=some r) :
  FnM Tryz.prog 83 [(vI n_1),(vI low_2),(vI high_3)] [] (vB r) []:=by
 refine FnM.of_wH ⟨Tryz.prog,15,[],[]⟩ rfl Tryz.func83 rfl rfl (lb_ rfl) (by kernel_rfl) ?_
 unfold lN at hF
 refine af (aa (ae (vB false) wz rfl (aj (af ?_))))
 obtain ⟨v_4,h_5,hF⟩:=bind_some hF
 refine aI (β:=Unit) (λ_=>([(6,(vB v_4))]:SL_)) (λ_=>([]:Hp)) (λ_=>True) ?_ ?_
 ·refine aa (ae (vI low_2) wz rfl (ae (vI n_1) wz rfl (ae (vB (decide (low_2<=n_1))) wz rfl ?_)))
  rcases ak h_5 with⟨hc_6,h_5⟩|⟨hc_6,h_5⟩
  ·refine aC rfl hc_6 wz (ae (vI n_1) wa rfl (ae (vI high_3) wa rfl (ae (vB (decide (n_1<=high_3))) wa rfl (ae (vB (decide (n_1<=high_3))) wz rfl (ae (vB (decide (n_1<=high_3))) wz rfl (aj ?_))))))
   obtain rfl:=ah h_5
   exact cu
  ·refine aC rfl hc_6 wz (ai wa (ai wa (ai wa (ae (vB false) wz rfl (ae (vB false) wz rfl (aj ?_))))))
   obtain rfl:=ah h_5
   exact cu
 ·rintro ⟨⟩ _ sl_ H_ hp_ hq_
  refine aV _ hp_ hq_ ?_
  obtain rfl:=ah hF
  exact ay (aX (.inr rfl) [(vB v_4)] ⟨rfl,trivial⟩ rfl rfl rfl)
theorem lD {s_1:ByteArray} {c_2:Int} {r:Int} (hF:dZ s_1 c_2=some r) :
  FnM Tryz.prog 194 [(vS s_1),(.d (.int .u8 c_2))] [] (vI r) []:=by
 refine FnM.of_wH ⟨Tryz.prog,8,[],[]⟩ rfl Tryz.func194 rfl rfl (lb_ rfl) (by kernel_rfl) ?_
 unfold dZ at hF
 refine af (aa (ae (vI 0) wz rfl (aj (af (aa (ae (vS s_1) wz rfl (ae (.d (.int .u8 c_2)) wz rfl (h_ext (ext_ixB (f:=217) Tryz.func217 rfl rfl (by kernel_rfl) (by kernel_rfl) _ _) rfl nb217 rfl wz (ae (vI (ixB s_1 c_2)) wz rfl (aj ?_))))))))))
 obtain rfl:=ah hF
 exact ay (aX (.inr rfl) [(vI (ixB s_1 c_2))] ⟨rfl,trivial⟩ rfl rfl rfl)
theorem q9 {s_1:ByteArray} {c_2:Int} {r:Int} (hF:strings_IndexByte s_1 c_2=some r) :
  FnM Tryz.prog 164 [(vS s_1),(.d (.int .u8 c_2))] [] (vI r) []:=by
 refine FnM.of_wH ⟨Tryz.prog,8,[],[]⟩ rfl Tryz.func164 rfl rfl (lb_ rfl) (by kernel_rfl) ?_
 unfold strings_IndexByte at hF
 refine af (aa (ae (vI 0) wz rfl (aj (af (aa (ae (vS s_1) wz rfl (ae (.d (.int .u8 c_2)) wz rfl ?_)))))))
 obtain ⟨r_3,hr_4,hF⟩:=bind_some hF
 refine aH (lD hr_4) rfl hb194 rfl rfl rfl rfl wz (ae (vI r_3) wz rfl (aj ?_))
 obtain rfl:=ah hF
 exact ay (aX (.inr rfl) [(vI r_3)] ⟨rfl,trivial⟩ rfl rfl rfl)
theorem xx {s_1:ByteArray} {somev_2:ByteArray} {r:Bool} (hF:p9 s_1 somev_2=some r) :
  FnM Tryz.prog 124 [(vS s_1),(vS somev_2)] [] (vB r) []:=by
 refine FnM.of_wH ⟨Tryz.prog,18,[],[]⟩ rfl Tryz.func124 rfl rfl (lb_ rfl) (by kernel_rfl) ?_
 unfold p9 at hF
 refine af (aa (ae (vB false) wz rfl (aj (af (af (aa (ae (vS s_1) wz rfl (nk un9 rfl wz (ae (vI 0) wz rfl (aj ?_))))))))))
 obtain ⟨o_11,hj_12,hF⟩:=bind_some hF
 obtain ⟨hn_7,hj_12⟩:=bv hj_12
 refine aI (β:=(Unit)) (λ(s_8:Unit)=>([]:SL_)) (λ(s_8:Unit)=>([]:Hp)) (λp=>o_11 = .go p) ?_ ?_
 ·refine aB (bn (β:=Nat×(List Nat)×(Unit)) (λp=>(λ(k_3:Nat) (l_4:List Nat) (s_8:Unit)=>([(0,(vS s_1)),(1,(vS somev_2)),(7,(vI (s_1.size:Int))),(8,(vI (k_3:Int)))]:SL_)) p.1 p.2.1 p.2.2) (λp=>(λ(k_3:Nat) (l_4:List Nat) (s_8:Unit)=>([]:Hp)) p.1 p.2.1 p.2.2) (λp=>forR (λk x s=>ll s_1 somev_2 k x s) p.2.1 p.1 p.2.2=some o_11/\((List.range ((s_1.size:Int)).toNat)).drop p.1=p.2.1) (λp=>p.2.1.length) (0,(List.range ((s_1.size:Int)).toNat),()) ⟨hj_12,rfl⟩ rfl (aK rfl) ?_)
  rintro ⟨k_3,l_4,s_8⟩ ⟨hL_10,hD_6⟩
  dsimp only at hL_10 hD_6
  cases l_4 with
  | nil =>
   obtain rfl:=ah hL_10
   refine af (aa (ae (vB (decide ((k_3:Int)<(s_1.size:Int)))) wz rfl (aj ?_)))
   refine af (ax rfl (qo hD_6) (bE ?_))
   exact bN (s_8) rfl rfl (aK rfl)
  | cons x_5 l_4 =>
   obtain ⟨c_,hc_9,hL_10⟩:=bind_some hL_10
   refine af (aa (ae (vB (decide ((k_3:Int)<(s_1.size:Int)))) wz rfl (aj ?_)))
   refine af (aA rfl (og hD_6) (av ?_))
   unfold ll at hc_9
   refine af (aB (af (aa (ae (vI (k_3:Int)) wz rfl (ae (vI (k_3:Int)) wz rfl (aj (af (aa (ae (vS somev_2) wz rfl (ae (vS s_1) wz rfl (ae (vI (k_3:Int)) wz rfl ?_)))))))))))
   obtain ⟨b_13,hy_14,hc_9⟩:=bind_some hc_9
   refine o9 un9 rfl rfl hy_14 wz ?_
   obtain ⟨r_15,hr_16,hc_9⟩:=bind_some hc_9
   refine aH (q9 hr_16) rfl hb164 rfl rfl rfl rfl wz (ae (vB (decide (r_15<0))) wz rfl (aj ?_))
   rcases ak hc_9 with⟨hc_17,hc_9⟩|⟨hc_17,hc_9⟩
   ·refine aA rfl hc_17 (af (aa (ae (vB false) wz rfl (aj ?_))))
    obtain rfl:=ah hc_9
    obtain rfl:=ah hL_10
    obtain rfl:=ah hF
    exact ay (aX (.inr rfl) [(vB false)] ⟨rfl,trivial⟩ rfl rfl rfl)
   ·refine ax rfl hc_17 (av (aa (gN (qd hD_6 hn_7) wz rfl (ae (vI ((k_3+1:Nat):Int)) wz rfl (aj ?_)))))
    obtain rfl:=ah hc_9
    exact bC (k_3+1,l_4,()) ⟨hL_10,aY hD_6⟩ (ls_ _) rfl (aK rfl)
 ·rintro s_8 ho_ sl_ H_ hp_ hq_
  subst ho_
  refine aV _ hp_ hq_ (af (aa (ae (vB true) wz rfl (aj ?_))))
  obtain rfl:=ah hF
  exact ay (aX (.inr rfl) [(vB true)] ⟨rfl,trivial⟩ rfl rfl rfl)
theorem tT {s_1:ByteArray} {r:Bool} (hF:qy s_1=some r) :
  FnM Tryz.prog 82 [(vS s_1)] [] (vB r) []:=by
 refine FnM.of_wH ⟨Tryz.prog,15,[],[]⟩ rfl Tryz.func82 rfl rfl (lb_ rfl) (by kernel_rfl) ?_
 unfold qy at hF
 refine af (aa (ae (vB false) wz rfl (aj (af ?_))))
 obtain ⟨v_2,h_3,hF⟩:=bind_some hF
 refine aI (β:=Unit) (λ_=>([(2,(vB v_2))]:SL_)) (λ_=>([]:Hp)) (λ_=>True) ?_ ?_
 ·refine aa (ae (vS s_1) wz rfl (nk un9 rfl wz ?_))
  obtain ⟨r_4,hr_5,h_3⟩:=bind_some h_3
  refine aH (kv hr_5) rfl Bw rfl rfl rfl rfl wz ?_
  rcases ak h_3 with⟨hc_6,h_3⟩|⟨hc_6,h_3⟩
  ·refine aC rfl hc_6 wz (ae (vS s_1) wa rfl ?_)
   obtain ⟨y_7,hy_8,h_3⟩:=bind_some h_3
   refine rA un9 rfl rfl hy_8 wa ?_
   obtain ⟨r_9,hr_10,h_3⟩:=bind_some h_3
   refine aH (xx hr_10) rfl hb124 rfl rfl rfl rfl wa (ae (vB r_9) wz rfl ?_)
   rcases ak h_3 with⟨hc_11,h_3⟩|⟨hc_11,h_3⟩
   ·refine aC rfl hc_11 wz (ae (vS s_1) wa rfl ?_)
    obtain ⟨r_12,hr_13,h_3⟩:=bind_some h_3
    refine aH (xx hr_13) rfl hb124 rfl rfl rfl rfl wa (ae (vB r_12) wz rfl (ae (vB r_12) wz rfl (aj ?_)))
    obtain rfl:=ah h_3
    exact cu
   ·refine aC rfl hc_11 wz (ai wa (ai wa (ae (vB false) wz rfl (ae (vB false) wz rfl (aj ?_)))))
    obtain rfl:=ah h_3
    exact cu
  ·refine aC rfl hc_6 wz (ai wa (ai wa (ai wa (ae (vB false) wz rfl (ae (vB false) wz rfl (ai wa (ai wa (ae (vB false) wz rfl (ae (vB false) wz rfl (aj ?_))))))))))
   obtain rfl:=ah h_3
   exact cu
 ·rintro ⟨⟩ _ sl_ H_ hp_ hq_
  refine aV _ hp_ hq_ ?_
  obtain rfl:=ah hF
  exact ay (aX (.inr rfl) [(vB v_2)] ⟨rfl,trivial⟩ rfl rfl rfl)
theorem Ac {atv_1:Int} {r:Bool} (hF:nV atv_1=some r) :
  FnM Tryz.prog 60 [(vI atv_1)] [] (vB r) []:=by
 refine FnM.of_wH ⟨Tryz.prog,5,[],[]⟩ rfl Tryz.func60 rfl rfl (lb_ rfl) (by kernel_rfl) ?_
 unfold nV at hF
 refine af (aa (ae (vB false) wz rfl (aj (af (aa (ae (vI atv_1) wz rfl ?_))))))
 obtain ⟨r_2,hr_3,hF⟩:=bind_some hF
 refine aH (kv hr_3) rfl Bw rfl rfl rfl rfl wz (ae (vB r_2) wz rfl (aj ?_))
 obtain rfl:=ah hF
 exact ay (aX (.inr rfl) [(vB r_2)] ⟨rfl,trivial⟩ rfl rfl rfl)
theorem wB {r_1:Rect} {r:Int} (hF:kQ r_1=some r) :
  FnM Tryz.prog 84 [(.d (.agg (Rect.enc r_1)))] [] (vI r) []:=by
 refine FnM.of_wH ⟨Tryz.prog,31,[],[]⟩ rfl Tryz.func84 rfl rfl (lb_ rfl) (by kernel_rfl) ?_
 unfold kQ at hF
 refine af (aa (jN 0 (.inl rfl) [(vI r_1.X),(vI r_1.Y),(vI r_1.W),(vI r_1.H)] rfl rfl wz (λn_2=>ae (vI 0) wz rfl (aj (af (af ?_))))))
 obtain ⟨v_3,h_4,hF⟩:=bind_some hF
 refine aI (β:=Unit) (λ_=>([(30,(vB v_3))]:SL_)) (λ_=>([(n_2,some (.cells 4 [(vI r_1.X),(vI r_1.Y),(vI r_1.W),(vI r_1.H)]))]:Hp)) (λ_=>True) ?_ ?_
 ·refine aa (aF rR rfl 0 rfl wz (aD 0 0 il ft sz3 ag3 rfl rfl (vI r_1.X) rfl wz ?_))
  obtain ⟨r_5,hr_6,h_4⟩:=bind_some h_4
  refine aH (kv hr_6) rfl Bw rfl rfl rfl rfl wz (ae (vB (!r_5)) wz rfl ?_)
  rcases ak h_4 with⟨hc_7,h_4⟩|⟨hc_7,h_4⟩
  ·refine aC rfl hc_7 wz (ai wa (ai wa (ai wa (ai wa (ae (vB true) wz rfl (ae (vB true) wz rfl (ai wa (ai wa (ai wa (ai wa (ai wa (ai wa (ai wa (ae (vB true) wz rfl (ae (vB true) wz rfl (ai wa (ai wa (ai wa (ai wa (ai wa (ai wa (ai wa (ae (vB true) wz rfl ?_)))))))))))))))))))))))
   refine aj ?_
   obtain rfl:=ah h_4
   exact cu
  ·refine aC rfl hc_7 wz (aF rC rfl 1 rfl wa (aD 0 0 il ft sz3 ag3 rfl rfl (vI r_1.Y) rfl wa ?_))
   obtain ⟨r_8,hr_9,h_4⟩:=bind_some h_4
   refine aH (kv hr_9) rfl Bw rfl rfl rfl rfl wa (ae (vB (!r_8)) wa rfl (ae (vB (!r_8)) wz rfl ?_))
   rcases ak h_4 with⟨hc_10,h_4⟩|⟨hc_10,h_4⟩
   ·refine aC rfl hc_10 wz (ai wa (ai wa (ai wa (ai wa (ai wa (ai wa (ai wa (ae (vB true) wz rfl (ae (vB true) wz rfl (ai wa (ai wa (ai wa (ai wa (ai wa (ai wa (ai wa (ae (vB true) wz rfl (aj ?_))))))))))))))))))
    obtain rfl:=ah h_4
    exact cu
   ·refine aC rfl hc_10 wz (aF yY rfl 2 rfl wa (aD 0 0 il ft sz3 ag3 rfl rfl (vI r_1.W) rfl wa (aF rR rfl 0 rfl wa (aD 0 0 il ft sz3 ag3 rfl rfl (vI r_1.X) rfl wa (ae (vI (w64 (100000-r_1.X))) wa rfl ?_)))))
    obtain ⟨r_11,hr_12,h_4⟩:=bind_some h_4
    refine aH (kv hr_12) rfl Bw rfl rfl rfl rfl wa (ae (vB (!r_11)) wa rfl (ae (vB (!r_11)) wz rfl ?_))
    rcases ak h_4 with⟨hc_13,h_4⟩|⟨hc_13,h_4⟩
    ·refine aC rfl hc_13 wz (ai wa (ai wa (ai wa (ai wa (ai wa (ai wa (ai wa (ae (vB true) wz rfl (aj ?_)))))))))
     obtain rfl:=ah h_4
     exact cu
    ·refine aC rfl hc_13 wz (aF wo rfl 3 rfl wa (aD 0 0 il ft sz3 ag3 rfl rfl (vI r_1.H) rfl wa (aF rC rfl 1 rfl wa (aD 0 0 il ft sz3 ag3 rfl rfl (vI r_1.Y) rfl wa (ae (vI (w64 (100000-r_1.Y))) wa rfl ?_)))))
     obtain ⟨r_14,hr_15,h_4⟩:=bind_some h_4
     refine aH (kv hr_15) rfl Bw rfl rfl rfl rfl wa (ae (vB (!r_14)) wa rfl (ae (vB (!r_14)) wz rfl (aj ?_)))
     obtain rfl:=ah h_4
     exact cu
 ·rintro ⟨⟩ _ sl_ H_ hp_ hq_
  refine aV _ hp_ hq_ ?_
  rcases ak hF with⟨hc_16,hF⟩|⟨hc_16,hF⟩
  ·refine aA rfl hc_16 (af (aa (ae (vI 1) wz rfl (aj ?_))))
   obtain rfl:=ah hF
   exact ay (aX (.inr rfl) [(vI 1)] ⟨rfl,trivial⟩ rfl rfl rfl)
  ·refine ax rfl hc_16 (av (af (aa (ae (vI 0) wz rfl (aj ?_)))))
   obtain rfl:=ah hF
   exact ay (aX (.inr rfl) [(vI 0)] ⟨rfl,trivial⟩ rfl rfl rfl)
theorem zt {r_1:Int} {r:Bool} (hF:mY r_1=some r) :
  FnM Tryz.prog 127 [(.d (.int .i32 r_1))] [] (vB r) []:=by
 refine FnM.of_wH ⟨Tryz.prog,9,[],[]⟩ rfl Tryz.func127 rfl rfl (lb_ rfl) (by kernel_rfl) ?_
 unfold mY at hF
 refine af (aa (ae (vB false) wz rfl (aj (af ?_))))
 obtain ⟨v_2,h_3,hF⟩:=bind_some hF
 refine aI (β:=Unit) (λ_=>([(2,(vB v_2))]:SL_)) (λ_=>([]:Hp)) (λ_=>True) ?_ ?_
 ·refine aa (ae (.d (.int .i32 r_1)) wz rfl (ae (vB (decide (r_1<32))) wz rfl ?_))
  rcases ak h_3 with⟨hc_4,h_3⟩|⟨hc_4,h_3⟩
  ·refine aC rfl hc_4 wz (ai wa (ai wa (ae (vB true) wz rfl (ae (vB true) wz rfl (aj ?_)))))
   obtain rfl:=ah h_3
   exact cu
  ·refine aC rfl hc_4 wz (ae (.d (.int .i32 r_1)) wa rfl (ae (vB (r_1==127)) wa rfl (ae (vB (r_1==127)) wz rfl (ae (vB (r_1==127)) wz rfl (aj ?_)))))
   obtain rfl:=ah h_3
   exact cu
 ·rintro ⟨⟩ _ sl_ H_ hp_ hq_
  refine aV _ hp_ hq_ ?_
  obtain rfl:=ah hF
  exact ay (aX (.inr rfl) [(vB v_2)] ⟨rfl,trivial⟩ rfl rfl rfl)
theorem mV {x:ByteArray} {r:Bool} (hF:gZ x=some r) :
  FnM Tryz.prog 126 [(.d (.str x)),(.fn 127 [])] [] (.d (.bool r)) [] :=
 zV rfl (λa b h=>zt h) hb127 (λs p w eg hp=>Tryz.strings_ContainsFunc_grows 127 #[] eg p s w hp) hF
theorem BS {s_1:ByteArray} {r:Bool} (hF:nT s_1=some r) :
  FnM Tryz.prog 85 [(vS s_1)] [] (vB r) []:=by
 refine FnM.of_wH ⟨Tryz.prog,21,[],[]⟩ rfl Tryz.func85 rfl rfl (lb_ rfl) (by kernel_rfl) ?_
 unfold nT at hF
 refine af (aa (ae (vB false) wz rfl (aj (af ?_))))
 obtain ⟨v_2,h_3,hF⟩:=bind_some hF
 refine aI (β:=Unit) (λ_=>([(2,(vB v_2))]:SL_)) (λ_=>([]:Hp)) (λ_=>True) ?_ ?_
 ·refine aa (ae (vS s_1) wz rfl ?_)
  obtain ⟨r_4,hr_5,h_3⟩:=bind_some h_3
  refine aH (jI hr_5) rfl hb125 rfl rfl rfl rfl wz ?_
  rcases ak h_3 with⟨hc_6,h_3⟩|⟨hc_6,h_3⟩
  ·refine aC rfl hc_6 wz (ae (vS s_1) wa rfl ?_)
   obtain ⟨r_7,hr_8,h_3⟩:=bind_some h_3
   refine aH (mV hr_8) rfl hb126 rfl rfl rfl rfl wa (ae (vB (!r_7)) wa rfl (ae (vB (!r_7)) wz rfl ?_))
   rcases ak h_3 with⟨hc_9,h_3⟩|⟨hc_9,h_3⟩
   ·refine aC rfl hc_9 wz (ae (vS s_1) wa rfl ?_)
    obtain ⟨r_10,hr_11,h_3⟩:=bind_some h_3
    refine aH (qQ hr_11) rfl hb128 rfl rfl rfl rfl wa (ae (vS s_1) wa rfl (ae (vB (sEq r_10 s_1)) wa rfl (ae (vB (sEq r_10 s_1)) wz rfl ?_)))
    rcases ak h_3 with⟨hc_12,h_3⟩|⟨hc_12,h_3⟩
    ·refine aC rfl hc_12 wz (ae (vS s_1) wa rfl ?_)
     obtain ⟨r_13,hr_14,h_3⟩:=bind_some h_3
     refine aH (nH hr_14) rfl hb129 rfl rfl rfl rfl wa (ae (vB (!r_13)) wa rfl (ae (vB (!r_13)) wz rfl (ae (vB (!r_13)) wz rfl (aj ?_))))
     obtain rfl:=ah h_3
     exact cu
    ·refine aC rfl hc_12 wz (ai wa (ai wa (ai wa (ae (vB false) wz rfl (ae (vB false) wz rfl (aj ?_))))))
     obtain rfl:=ah h_3
     exact cu
   ·refine aC rfl hc_9 wz (ai wa (ai wa (ai wa (ai wa (ae (vB false) wz rfl (ae (vB false) wz rfl (ai wa (ai wa (ai wa (ae (vB false) wz rfl (ae (vB false) wz rfl (aj ?_))))))))))))
    obtain rfl:=ah h_3
    exact cu
  ·refine aC rfl hc_6 wz (ai wa (ai wa (ai wa (ae (vB false) wz rfl (ae (vB false) wz rfl (ai wa (ai wa (ai wa (ai wa (ae (vB false) wz rfl (ae (vB false) wz rfl (ai wa (ai wa (ai wa (ae (vB false) wz rfl (ae (vB false) wz rfl (aj ?_)))))))))))))))))
   obtain rfl:=ah h_3
   exact cu
 ·rintro ⟨⟩ _ sl_ H_ hp_ hq_
  refine aV _ hp_ hq_ ?_
  obtain rfl:=ah hF
  exact ay (aX (.inr rfl) [(vB v_2)] ⟨rfl,trivial⟩ rfl rfl rfl)
theorem uL {a_1:Alert} {r:Int} (hF:jT a_1=some r) :
  FnM Tryz.prog 45 [(.d (.agg (Alert.enc a_1)))] [] (vI r) []:=by
 refine FnM.of_wH ⟨Tryz.prog,139,[],[]⟩ rfl Tryz.func45 rfl rfl (lb_ rfl) (by kernel_rfl) ?_
 unfold jT at hF
 refine af (aa (jN 0 (.inl rfl) [(vS a_1.Id),(vS a_1.Sender),(vI a_1.Kind),(vL eS a_1.Refs),(vI a_1.At),(vI a_1.Until),(vI a_1.Weight),(vL Rect.enc a_1.Areas),(vS a_1.Text)] rfl rfl wz (λn_2=>ae (vI 0) wz rfl (aj (af (aB (af ?_)))))))
 obtain ⟨v_3,h_4,hF⟩:=bind_some hF
 refine aI (β:=Unit) (λ_=>([(1,(.ref n_2 0 0)),(8,(vB v_3))]:SL_)) (λ_=>([(n_2,some (.cells 9 [(vS a_1.Id),(vS a_1.Sender),(vI a_1.Kind),(vL eS a_1.Refs),(vI a_1.At),(vI a_1.Until),(vI a_1.Weight),(vL Rect.enc a_1.Areas),(vS a_1.Text)]))]:Hp)) (λ_=>True) ?_ ?_
 ·refine aa (aF ic rfl 0 rfl wz (aD 0 0 il ft sz9 ag9 rfl rfl (vS a_1.Id) rfl wz ?_))
  obtain ⟨r_5,hr_6,h_4⟩:=bind_some h_4
  refine aH (tT hr_6) rfl hb82 rfl rfl rfl rfl wz (ae (vB (!r_5)) wz rfl ?_)
  rcases ak h_4 with⟨hc_7,h_4⟩|⟨hc_7,h_4⟩
  ·refine aC rfl hc_7 wz (ai wa (ai wa (ai wa (ai wa (ae (vB true) wz rfl (ae (vB true) wz rfl (aj ?_)))))))
   obtain rfl:=ah h_4
   exact cu
  ·refine aC rfl hc_7 wz (aF vT rfl 1 rfl wa (aD 0 0 il ft sz9 ag9 rfl rfl (vS a_1.Sender) rfl wa ?_))
   obtain ⟨r_8,hr_9,h_4⟩:=bind_some h_4
   refine aH (tT hr_9) rfl hb82 rfl rfl rfl rfl wa (ae (vB (!r_8)) wa rfl (ae (vB (!r_8)) wz rfl (ae (vB (!r_8)) wz rfl (aj ?_))))
   obtain rfl:=ah h_4
   exact cu
 ·rintro ⟨⟩ _ sl_ H_ hp_ hq_
  refine aV _ hp_ hq_ ?_
  rcases ak hF with⟨hc_10,hF⟩|⟨hc_10,hF⟩
  ·refine aA rfl hc_10 (af (aa (ae (vI 5) wz rfl (aj ?_))))
   obtain rfl:=ah hF
   exact ay (aX (.inr rfl) [(vI 5)] ⟨rfl,trivial⟩ rfl rfl rfl)
  ·refine ax rfl hc_10 (af (aa (aF l5 rfl 2 rfl wz (aD 0 0 il ft sz3 ag3 rfl rfl (vI a_1.Kind) rfl wz ?_))))
   obtain ⟨r_11,hr_12,hF⟩:=bind_some hF
   refine aH (kv hr_12) rfl Bw rfl rfl rfl rfl wz (ae (vB (!r_11)) wz rfl (ae (vB (!r_11)) wz rfl (aj ?_)))
   rcases ak hF with⟨hc_13,hF⟩|⟨hc_13,hF⟩
   ·refine aA rfl hc_13 (af (aa (ae (vI 4) wz rfl (aj ?_))))
    obtain rfl:=ah hF
    exact ay (aX (.inr rfl) [(vI 4)] ⟨rfl,trivial⟩ rfl rfl rfl)
   ·refine ax rfl hc_13 (af (aa (aF jB rfl 3 rfl wz (aD 0 0 il ft qO uq rfl rfl (vL eS a_1.Refs) rfl wz (dA sP rfl wz (ae (vB (decide ((a_1.Refs.length:Int)>20))) wz rfl (ae (vB (decide ((a_1.Refs.length:Int)>20))) wz rfl (aj ?_))))))))
    rcases ak hF with⟨hc_14,hF⟩|⟨hc_14,hF⟩
    ·refine aA rfl hc_14 (af (aa (ae (vI 2) wz rfl (aj ?_))))
     obtain rfl:=ah hF
     exact ay (aX (.inr rfl) [(vI 2)] ⟨rfl,trivial⟩ rfl rfl rfl)
    ·refine ax rfl hc_14 (av (af (af (aa (aF jB rfl 3 rfl wz (aD 0 0 il ft qO uq rfl rfl (vL eS a_1.Refs) rfl wz (dA sP rfl wz (ae (vI 0) wz rfl (aj ?_)))))))))
     obtain ⟨o_23,hj_24,hF⟩:=bind_some hF
     obtain ⟨hn_19,hj_24⟩:=bv hj_24
     refine aI (β:=(Unit)) (λ(s_20:Unit)=>([(1,(.ref n_2 0 0))]:SL_)) (λ(s_20:Unit)=>([(n_2,some (.cells 9 [(vS a_1.Id),(vS a_1.Sender),(vI a_1.Kind),(vL eS a_1.Refs),(vI a_1.At),(vI a_1.Until),(vI a_1.Weight),(vL Rect.enc a_1.Areas),(vS a_1.Text)]))]:Hp)) (λp=>o_23 = .go p) ?_ ?_
     ·refine aB (bn (β:=Nat×(List ByteArray)×(Unit)) (λp=>(λ(k_15:Nat) (l_16:List ByteArray) (s_20:Unit)=>([(1,(.ref n_2 0 0)),(30,(vL eS a_1.Refs)),(31,(vI (a_1.Refs.length:Int))),(32,(vI (k_15:Int)))]:SL_)) p.1 p.2.1 p.2.2) (λp=>(λ(k_15:Nat) (l_16:List ByteArray) (s_20:Unit)=>([(n_2,some (.cells 9 [(vS a_1.Id),(vS a_1.Sender),(vI a_1.Kind),(vL eS a_1.Refs),(vI a_1.At),(vI a_1.Until),(vI a_1.Weight),(vL Rect.enc a_1.Areas),(vS a_1.Text)]))]:Hp)) p.1 p.2.1 p.2.2) (λp=>forR (λk x s=>gy a_1 k x s) p.2.1 p.1 p.2.2=some o_23/\(a_1.Refs).drop p.1=p.2.1) (λp=>p.2.1.length) (0,a_1.Refs,()) ⟨hj_24,rfl⟩ rfl (aK rfl) ?_)
      rintro ⟨k_15,l_16,s_20⟩ ⟨hL_22,hD_18⟩
      dsimp only at hL_22 hD_18
      cases l_16 with
      | nil =>
       obtain rfl:=ah hL_22
       refine af (aa (ae (vB (decide ((k_15:Int)<(a_1.Refs.length:Int)))) wz rfl (aj ?_)))
       refine af (ax rfl (drop_nil hD_18) (bE ?_))
       exact bN (s_20) rfl rfl (aK rfl)
      | cons x_17 l_16 =>
       obtain ⟨c_,hc_21,hL_22⟩:=bind_some hL_22
       refine af (aa (ae (vB (decide ((k_15:Int)<(a_1.Refs.length:Int)))) wz rfl (aj ?_)))
       refine af (aA rfl (bP hD_18) (av ?_))
       unfold gy at hc_21
       refine af (aB (af (aa (ae (vI (k_15:Int)) wz rfl (jk lW rfl rfl (dB hD_18) rfl wz (fA sz9 ag9 rfl (vS x_17) rfl wz (ae (vI (k_15:Int)) wz rfl (ae (vS x_17) wz rfl (aj (aB (af (aa (ae (vS x_17) wz rfl ?_)))))))))))))
       obtain ⟨r_25,hr_26,hc_21⟩:=bind_some hc_21
       refine aH (tT hr_26) rfl hb82 rfl rfl rfl rfl wz (ae (vB (!r_25)) wz rfl (ae (vB (!r_25)) wz rfl (aj ?_)))
       rcases ak hc_21 with⟨hc_27,hc_21⟩|⟨hc_27,hc_21⟩
       ·refine aA rfl hc_27 (af (aa (ae (vI 5) wz rfl (aj ?_))))
        obtain rfl:=ah hc_21
        obtain rfl:=ah hL_22
        obtain rfl:=ah hF
        exact ay (aX (.inr rfl) [(vI 5)] ⟨rfl,trivial⟩ rfl rfl rfl)
       ·refine ax rfl hc_27 (af ?_)
        obtain ⟨v_28,h_29,hc_21⟩:=bind_some hc_21
        refine aI (β:=Unit) (λ_=>([(1,(.ref n_2 0 0)),(4,(vS x_17)),(30,(vL eS a_1.Refs)),(31,(vI (a_1.Refs.length:Int))),(32,(vI (k_15:Int))),(41,(vB v_28))]:SL_)) (λ_=>([(n_2,some (.cells 9 [(vS a_1.Id),(vS a_1.Sender),(vI a_1.Kind),(vL eS a_1.Refs),(vI a_1.At),(vI a_1.Until),(vI a_1.Weight),(vL Rect.enc a_1.Areas),(vS a_1.Text)]))]:Hp)) (λ_=>True) ?_ ?_
        ·refine aa (ae (vI (k_15:Int)) wz rfl (ae (vB (decide ((k_15:Int)>0))) wz rfl ?_))
         rcases ak h_29 with⟨hc_30,h_29⟩|⟨hc_30,h_29⟩
         ·refine aC rfl hc_30 wz (ae (vS x_17) wa rfl (aF jB rfl 3 rfl wa (aD 0 0 il ft qO uq rfl rfl (vL eS a_1.Refs) rfl wa (ae (vI (k_15:Int)) wa rfl (ae (vI (w64 ((k_15:Int)-1))) wa rfl ?_)))))
          obtain ⟨y_31,hy_32,h_29⟩:=bind_some h_29
          refine jk lW rfl rfl hy_32 rfl wa (fA sz9 ag9 rfl (vS y_31) rfl wa (ae (vB (sLe x_17 y_31)) wa rfl (ae (vB (sLe x_17 y_31)) wz rfl (ae (vB (sLe x_17 y_31)) wz rfl (aj ?_)))))
          obtain rfl:=ah h_29
          exact cu
         ·refine aC rfl hc_30 wz (ai wa (ai wa (ai wa (ai wa (ai wa (ai wa (ai wa (ai wa (ae (vB false) wz rfl (ae (vB false) wz rfl (aj ?_)))))))))))
          obtain rfl:=ah h_29
          exact cu
        ·rintro ⟨⟩ _ sl_ H_ hp_ hq_
         refine aV _ hp_ hq_ ?_
         rcases ak hc_21 with⟨hc_33,hc_21⟩|⟨hc_33,hc_21⟩
         ·refine aA rfl hc_33 (af (aa (ae (vI 7) wz rfl (aj ?_))))
          obtain rfl:=ah hc_21
          obtain rfl:=ah hL_22
          obtain rfl:=ah hF
          exact ay (aX (.inr rfl) [(vI 7)] ⟨rfl,trivial⟩ rfl rfl rfl)
         ·refine ax rfl hc_33 (af (aa (ae (vS x_17) wz rfl (aF ic rfl 0 rfl wz (aD 0 0 il ft sz9 ag9 rfl rfl (vS a_1.Id) rfl wz (ae (vB (sEq x_17 a_1.Id)) wz rfl (ae (vB (sEq x_17 a_1.Id)) wz rfl (aj ?_))))))))
          rcases ak hc_21 with⟨hc_34,hc_21⟩|⟨hc_34,hc_21⟩
          ·refine aA rfl hc_34 (af (aa (ae (vI 14) wz rfl (aj ?_))))
           obtain rfl:=ah hc_21
           obtain rfl:=ah hL_22
           obtain rfl:=ah hF
           exact ay (aX (.inr rfl) [(vI 14)] ⟨rfl,trivial⟩ rfl rfl rfl)
          ·refine ax rfl hc_34 (av (aa (gN (bU hD_18 hn_19) wz rfl (ae (vI ((k_15+1:Nat):Int)) wz rfl (aj ?_)))))
           obtain rfl:=ah hc_21
           exact bC (k_15+1,l_16,()) ⟨hL_22,aY hD_18⟩ (ls_ _) rfl (aK rfl)
     ·rintro s_20 ho_ sl_ H_ hp_ hq_
      subst ho_
      refine aV _ hp_ hq_ (af (aB (af (aa (aF l5 rfl 2 rfl wz (aD 0 0 il ft sz3 ag3 rfl rfl (vI a_1.Kind) rfl wz (ae (vB (a_1.Kind==1)) wz rfl (aF jB rfl 3 rfl wz (aD 0 0 il ft qO uq rfl rfl (vL eS a_1.Refs) rfl wz (dA sP rfl wz (ae (vB ((a_1.Refs.length:Int)==0)) wz rfl (Bt un4 rfl rfl wz (ae (vB (!((a_1.Kind==1)==((a_1.Refs.length:Int)==0)))) wz rfl (aj ?_))))))))))))))
      rcases ak hF with⟨hc_35,hF⟩|⟨hc_35,hF⟩
      ·refine aA rfl hc_35 (af (aa (ae (vI 3) wz rfl (aj ?_))))
       obtain rfl:=ah hF
       exact ay (aX (.inr rfl) [(vI 3)] ⟨rfl,trivial⟩ rfl rfl rfl)
      ·refine ax rfl hc_35 (af ?_)
       obtain ⟨v_36,h_37,hF⟩:=bind_some hF
       refine aI (β:=Unit) (λ_=>([(1,(.ref n_2 0 0)),(69,(vB v_36))]:SL_)) (λ_=>([(n_2,some (.cells 9 [(vS a_1.Id),(vS a_1.Sender),(vI a_1.Kind),(vL eS a_1.Refs),(vI a_1.At),(vI a_1.Until),(vI a_1.Weight),(vL Rect.enc a_1.Areas),(vS a_1.Text)]))]:Hp)) (λ_=>True) ?_ ?_
       ·refine aa (aF iG rfl 4 rfl wz (aD 0 0 il ft sz3 ag3 rfl rfl (vI a_1.At) rfl wz ?_))
        obtain ⟨r_38,hr_39,h_37⟩:=bind_some h_37
        refine aH (Ac hr_39) rfl hb60 rfl rfl rfl rfl wz (ae (vB (!r_38)) wz rfl ?_)
        rcases ak h_37 with⟨hc_40,h_37⟩|⟨hc_40,h_37⟩
        ·refine aC rfl hc_40 wz (ai wa (ai wa (ai wa (ai wa (ai wa (ai wa (ai wa (ai wa (ai wa (ai wa (ae (vB true) wz rfl (ae (vB true) wz rfl (ai wa (ai wa (ai wa (ai wa (ae (vB true) wz rfl (ae (vB true) wz rfl (aj ?_)))))))))))))))))))
         obtain rfl:=ah h_37
         exact cu
        ·refine aC rfl hc_40 wz (aF uA rfl 5 rfl wa (aD 0 0 il ft sz3 ag3 rfl rfl (vI a_1.Until) rfl wa (aF iG rfl 4 rfl wa (aD 0 0 il ft sz3 ag3 rfl rfl (vI a_1.At) rfl wa (ae (vI (w64 (a_1.At+1))) wa rfl (aF iG rfl 4 rfl wa (aD 0 0 il ft sz3 ag3 rfl rfl (vI a_1.At) rfl wa (ae (vI (w64 (a_1.At+2592000000))) wa rfl ?_))))))))
         obtain ⟨r_41,hr_42,h_37⟩:=bind_some h_37
         refine aH (kv hr_42) rfl Bw rfl rfl rfl rfl wa (ae (vB (!r_41)) wa rfl (ae (vB (!r_41)) wz rfl ?_))
         rcases ak h_37 with⟨hc_43,h_37⟩|⟨hc_43,h_37⟩
         ·refine aC rfl hc_43 wz (ai wa (ai wa (ai wa (ai wa (ae (vB true) wz rfl (ae (vB true) wz rfl (aj ?_)))))))
          obtain rfl:=ah h_37
          exact cu
         ·refine aC rfl hc_43 wz (aF uG rfl 6 rfl wa (aD 0 0 il ft sz3 ag3 rfl rfl (vI a_1.Weight) rfl wa ?_))
          obtain ⟨r_44,hr_45,h_37⟩:=bind_some h_37
          refine aH (kv hr_45) rfl Bw rfl rfl rfl rfl wa (ae (vB (!r_44)) wa rfl (ae (vB (!r_44)) wz rfl (ae (vB (!r_44)) wz rfl (aj ?_))))
          obtain rfl:=ah h_37
          exact cu
       ·rintro ⟨⟩ _ sl_ H_ hp_ hq_
        refine aV _ hp_ hq_ ?_
        rcases ak hF with⟨hc_46,hF⟩|⟨hc_46,hF⟩
        ·refine aA rfl hc_46 (af (aa (ae (vI 1) wz rfl (aj ?_))))
         obtain rfl:=ah hF
         exact ay (aX (.inr rfl) [(vI 1)] ⟨rfl,trivial⟩ rfl rfl rfl)
        ·refine ax rfl hc_46 (af (aa (aF kY rfl 7 rfl wz (aD 0 0 il ft tY xO rfl rfl (vL Rect.enc a_1.Areas) rfl wz (dA xE rfl wz (ae (vB (decide ((a_1.Areas.length:Int)>20))) wz rfl (ae (vB (decide ((a_1.Areas.length:Int)>20))) wz rfl (aj ?_))))))))
         rcases ak hF with⟨hc_47,hF⟩|⟨hc_47,hF⟩
         ·refine aA rfl hc_47 (af (aa (ae (vI 2) wz rfl (aj ?_))))
          obtain rfl:=ah hF
          exact ay (aX (.inr rfl) [(vI 2)] ⟨rfl,trivial⟩ rfl rfl rfl)
         ·refine ax rfl hc_47 (av (af (af (aa (aF kY rfl 7 rfl wz (aD 0 0 il ft tY xO rfl rfl (vL Rect.enc a_1.Areas) rfl wz (dA xE rfl wz (ae (vI 0) wz rfl (aj ?_)))))))))
          obtain ⟨o_56,hj_57,hF⟩:=bind_some hF
          obtain ⟨hn_52,hj_57⟩:=bv hj_57
          refine aI (β:=(Unit)) (λ(s_53:Unit)=>([(1,(.ref n_2 0 0))]:SL_)) (λ(s_53:Unit)=>([(n_2,some (.cells 9 [(vS a_1.Id),(vS a_1.Sender),(vI a_1.Kind),(vL eS a_1.Refs),(vI a_1.At),(vI a_1.Until),(vI a_1.Weight),(vL Rect.enc a_1.Areas),(vS a_1.Text)]))]:Hp)) (λp=>o_56 = .go p) ?_ ?_
          ·refine aB (bn (β:=Nat×(List Rect)×(Unit)) (λp=>(λ(k_48:Nat) (l_49:List Rect) (s_53:Unit)=>([(1,(.ref n_2 0 0)),(98,(vL Rect.enc a_1.Areas)),(99,(vI (a_1.Areas.length:Int))),(100,(vI (k_48:Int)))]:SL_)) p.1 p.2.1 p.2.2) (λp=>(λ(k_48:Nat) (l_49:List Rect) (s_53:Unit)=>([(n_2,some (.cells 9 [(vS a_1.Id),(vS a_1.Sender),(vI a_1.Kind),(vL eS a_1.Refs),(vI a_1.At),(vI a_1.Until),(vI a_1.Weight),(vL Rect.enc a_1.Areas),(vS a_1.Text)]))]:Hp)) p.1 p.2.1 p.2.2) (λp=>forR (λk x s=>gq k x s) p.2.1 p.1 p.2.2=some o_56/\(a_1.Areas).drop p.1=p.2.1) (λp=>p.2.1.length) (0,a_1.Areas,()) ⟨hj_57,rfl⟩ rfl (aK rfl) ?_)
           rintro ⟨k_48,l_49,s_53⟩ ⟨hL_55,hD_51⟩
           dsimp only at hL_55 hD_51
           cases l_49 with
           | nil =>
            obtain rfl:=ah hL_55
            refine af (aa (ae (vB (decide ((k_48:Int)<(a_1.Areas.length:Int)))) wz rfl (aj ?_)))
            refine af (ax rfl (drop_nil hD_51) (bE ?_))
            exact bN (s_53) rfl rfl (aK rfl)
           | cons x_50 l_49 =>
            obtain ⟨c_,hc_54,hL_55⟩:=bind_some hL_55
            refine af (aa (ae (vB (decide ((k_48:Int)<(a_1.Areas.length:Int)))) wz rfl (aj ?_)))
            refine af (aA rfl (bP hD_51) (av ?_))
            unfold gq at hc_54
            refine af (aB (af (aa (jk zX rfl rfl (dB hD_51) rfl wz (fA nW xM rfl (.d (.agg (Rect.enc x_50))) rfl wz (fP 0 (.inl rfl) z77 rfl wz (λn_58=>fU 0 il ft 1 nW rfl rfl [(vI x_50.X),(vI x_50.Y),(vI x_50.W),(vI x_50.H)] rfl wz (aj (af (aa (aD 0 1 il ft nW xM rfl rfl (.d (.agg (Rect.enc x_50))) rfl wz ?_)))))))))))
            obtain ⟨r_59,hr_60,hc_54⟩:=bind_some hc_54
            refine aH (wB hr_60) rfl hb84 rfl rfl rfl rfl wz (ae (vI r_59) wz rfl (aj (af (aa (ae (vI r_59) wz rfl (ae (vB (r_59 != 0)) wz rfl (aj ?_)))))))
            rcases ak hc_54 with⟨hc_61,hc_54⟩|⟨hc_61,hc_54⟩
            ·refine aA rfl hc_61 (af (aa (ae (vI r_59) wz rfl (ae (vI r_59) wz rfl (aj ?_)))))
             obtain rfl:=ah hc_54
             obtain rfl:=ah hL_55
             obtain rfl:=ah hF
             exact ay (aX (.inr rfl) [(vI r_59)] ⟨rfl,trivial⟩ rfl rfl rfl)
            ·refine ax rfl hc_61 (av (aa (gN (bU hD_51 hn_52) wz rfl (ae (vI ((k_48+1:Nat):Int)) wz rfl (aj ?_)))))
             obtain rfl:=ah hc_54
             exact bC (k_48+1,l_49,()) ⟨hL_55,aY hD_51⟩ (ls_ _) rfl (aK rfl)
          ·rintro s_53 ho_ sl_ H_ hp_ hq_
           subst ho_
           refine aV _ hp_ hq_ (af (aB (af (aa (aF l5 rfl 2 rfl wz (aD 0 0 il ft sz3 ag3 rfl rfl (vI a_1.Kind) rfl wz (ae (vB (a_1.Kind==3)) wz rfl (aF kY rfl 7 rfl wz (aD 0 0 il ft tY xO rfl rfl (vL Rect.enc a_1.Areas) rfl wz (dA xE rfl wz (ae (vB ((a_1.Areas.length:Int)==0)) wz rfl (Bt un4 rfl rfl wz (ae (vB (!((a_1.Kind==3)==((a_1.Areas.length:Int)==0)))) wz rfl (aj ?_))))))))))))))
           rcases ak hF with⟨hc_62,hF⟩|⟨hc_62,hF⟩
           ·refine aA rfl hc_62 (af (aa (ae (vI 3) wz rfl (aj ?_))))
            obtain rfl:=ah hF
            exact ay (aX (.inr rfl) [(vI 3)] ⟨rfl,trivial⟩ rfl rfl rfl)
           ·refine ax rfl hc_62 (af (aa (aF ni rfl 8 rfl wz (aD 0 0 il ft sz9 ag9 rfl rfl (vS a_1.Text) rfl wz (nk un9 rfl wz (ae (vB (decide ((a_1.Text.size:Int)>500))) wz rfl (ae (vB (decide ((a_1.Text.size:Int)>500))) wz rfl (aj ?_))))))))
            rcases ak hF with⟨hc_63,hF⟩|⟨hc_63,hF⟩
            ·refine aA rfl hc_63 (af (aa (ae (vI 2) wz rfl (aj ?_))))
             obtain rfl:=ah hF
             exact ay (aX (.inr rfl) [(vI 2)] ⟨rfl,trivial⟩ rfl rfl rfl)
            ·refine ax rfl hc_63 (af ?_)
             obtain ⟨v_64,h_65,hF⟩:=bind_some hF
             refine aI (β:=Unit) (λ_=>([(124,(vB v_64))]:SL_)) (λ_=>([(n_2,some (.cells 9 [(vS a_1.Id),(vS a_1.Sender),(vI a_1.Kind),(vL eS a_1.Refs),(vI a_1.At),(vI a_1.Until),(vI a_1.Weight),(vL Rect.enc a_1.Areas),(vS a_1.Text)]))]:Hp)) (λ_=>True) ?_ ?_
             ·refine aa (aF ni rfl 8 rfl wz (aD 0 0 il ft sz9 ag9 rfl rfl (vS a_1.Text) rfl wz ?_))
              obtain ⟨r_66,hr_67,h_65⟩:=bind_some h_65
              refine aH (BS hr_67) rfl hb85 rfl rfl rfl rfl wz (ae (vB (!r_66)) wz rfl ?_)
              rcases ak h_65 with⟨hc_68,h_65⟩|⟨hc_68,h_65⟩
              ·refine aC rfl hc_68 wz (ai wa (ai wa (ai wa (ai wa (ai (wn rfl rfl) (ai (wn rfl rfl) (ai (wn rfl rfl) (ai wa (ae (vB true) wz rfl (ae (vB true) wz rfl (aj ?_)))))))))))
               obtain rfl:=ah h_65
               exact cu
              ·refine aC rfl hc_68 wz (aF ni rfl 8 rfl wa (aD 0 0 il ft sz9 ag9 rfl rfl (vS a_1.Text) rfl wa (ae (vB (sEq a_1.Text (⟨#[]⟩:ByteArray))) wa rfl ?_)))
               rcases ak h_65 with⟨hc_69,h_65⟩|⟨hc_69,h_65⟩
               ·refine aC rfl hc_69 wa (aF l5 rfl 2 rfl wa (aD 0 0 il ft sz3 ag3 rfl rfl (vI a_1.Kind) rfl wa (ae (vB (a_1.Kind != 3)) wa rfl (ae (vB (a_1.Kind != 3)) wa rfl (ae (vB (a_1.Kind != 3)) wz rfl (ae (vB (a_1.Kind != 3)) wz rfl (aj ?_)))))))
                obtain rfl:=ah h_65
                exact cu
               ·refine aC rfl hc_69 wa (ai wa (ai wa (ai wa (ae (vB false) wa rfl (ae (vB false) wz rfl (ae (vB false) wz rfl (aj ?_)))))))
                obtain rfl:=ah h_65
                exact cu
             ·rintro ⟨⟩ _ sl_ H_ hp_ hq_
              refine aV _ hp_ hq_ ?_
              rcases ak hF with⟨hc_70,hF⟩|⟨hc_70,hF⟩
              ·refine aA rfl hc_70 (af (aa (ae (vI 3) wz rfl (aj ?_))))
               obtain rfl:=ah hF
               exact ay (aX (.inr rfl) [(vI 3)] ⟨rfl,trivial⟩ rfl rfl rfl)
              ·refine ax rfl hc_70 (av (af (aa (ae (vI 0) wz rfl (aj ?_)))))
               obtain rfl:=ah hF
               exact ay (aX (.inr rfl) [(vI 0)] ⟨rfl,trivial⟩ rfl rfl rfl)
theorem CF {n_1:Int} {r:Int} (hF:ve n_1=some r) :
  FnM Tryz.prog 86 [(vI n_1)] [] (vI r) []:=by
 refine FnM.of_wH ⟨Tryz.prog,9,[],[]⟩ rfl Tryz.func86 rfl rfl (lb_ rfl) (by kernel_rfl) ?_
 unfold ve at hF
 refine af (aa (ae (vI 0) wz rfl (aj (af (aB (af (aa (ae (vI n_1) wz rfl (ae (vB (decide (n_1<0))) wz rfl (ae (vB (decide (n_1<0))) wz rfl (aj ?_)))))))))))
 rcases ak hF with⟨hc_2,hF⟩|⟨hc_2,hF⟩
 ·refine aA rfl hc_2 (af (aa (ae (vI (-1)) wz rfl (aj ?_))))
  obtain rfl:=ah hF
  exact ay (aX (.inr rfl) [(vI (-1))] ⟨rfl,trivial⟩ rfl rfl rfl)
 ·refine ax rfl hc_2 (af (aa (ae (vI n_1) wz rfl (ae (vB (decide (n_1>0))) wz rfl (ae (vB (decide (n_1>0))) wz rfl (aj ?_))))))
  rcases ak hF with⟨hc_3,hF⟩|⟨hc_3,hF⟩
  ·refine aA rfl hc_3 (af (aa (ae (vI 1) wz rfl (aj ?_))))
   obtain rfl:=ah hF
   exact ay (aX (.inr rfl) [(vI 1)] ⟨rfl,trivial⟩ rfl rfl rfl)
  ·refine ax rfl hc_3 (av (af (aa (ae (vI 0) wz rfl (aj ?_)))))
   obtain rfl:=ah hF
   exact ay (aX (.inr rfl) [(vI 0)] ⟨rfl,trivial⟩ rfl rfl rfl)
theorem oZ {a_1:Alert} {b_2:Alert} {r:Int} (hF:fT a_1 b_2=some r) :
  FnM Tryz.prog 46 [(.d (.agg (Alert.enc a_1))),(.d (.agg (Alert.enc b_2)))] [] (vI r) []:=by
 refine FnM.of_wH ⟨Tryz.prog,21,[],[]⟩ rfl Tryz.func46 rfl rfl (lb_ rfl) (by kernel_rfl) ?_
 unfold fT at hF
 refine af (aa (jN 0 (.inl rfl) [(vS a_1.Id),(vS a_1.Sender),(vI a_1.Kind),(vL eS a_1.Refs),(vI a_1.At),(vI a_1.Until),(vI a_1.Weight),(vL Rect.enc a_1.Areas),(vS a_1.Text)] rfl rfl wz (λn_3=>jN 0 (.inl rfl) [(vS b_2.Id),(vS b_2.Sender),(vI b_2.Kind),(vL eS b_2.Refs),(vI b_2.At),(vI b_2.Until),(vI b_2.Weight),(vL Rect.enc b_2.Areas),(vS b_2.Text)] rfl rfl wz (λn_4=>ae (vI 0) wz rfl (aj (af (af (aa (aF iG rfl 4 rfl wz (aD 0 0 il ft sz3 ag3 rfl rfl (vI a_1.At) rfl wz (aF iG rfl 4 rfl wz (aD 0 1 il ft sz3 ag3 rfl rfl (vI b_2.At) rfl wz (ae (vB (a_1.At != b_2.At)) wz rfl (aj ?_))))))))))))))
 rcases ak hF with⟨hc_5,hF⟩|⟨hc_5,hF⟩
 ·refine aA rfl hc_5 (af (aa (aF iG rfl 4 rfl wz (aD 0 0 il ft sz3 ag3 rfl rfl (vI a_1.At) rfl wz (aF iG rfl 4 rfl wz (aD 0 1 il ft sz3 ag3 rfl rfl (vI b_2.At) rfl wz (ae (vI (w64 (a_1.At-b_2.At))) wz rfl ?_)))))))
  obtain ⟨r_6,hr_7,hF⟩:=bind_some hF
  refine aH (CF hr_7) rfl hb86 rfl rfl rfl rfl wz (ae (vI r_6) wz rfl (aj ?_))
  obtain rfl:=ah hF
  exact ay (aX (.inr rfl) [(vI r_6)] ⟨rfl,trivial⟩ rfl rfl rfl)
 ·refine ax rfl hc_5 (av (af (aa (aF ic rfl 0 rfl wz (aD 0 0 il ft sz9 ag9 rfl rfl (vS a_1.Id) rfl wz (aF ic rfl 0 rfl wz (aD 0 1 il ft sz9 ag9 rfl rfl (vS b_2.Id) rfl wz ?_)))))))
  obtain ⟨r_8,hr_9,hF⟩:=bind_some hF
  refine aH (oI hr_9) rfl hb81 rfl rfl rfl rfl wz (ae (vI r_8) wz rfl (aj ?_))
  obtain rfl:=ah hF
  exact ay (aX (.inr rfl) [(vI r_8)] ⟨rfl,trivial⟩ rfl rfl rfl)
theorem oH {l_1:(List Alert)} {r:Int} (hF:iA l_1=some r) :
  FnM Tryz.prog 12 [(vL Alert.enc l_1)] [] (vI r) []:=by
 refine FnM.of_wH ⟨Tryz.prog,53,[],[]⟩ rfl Tryz.func12 rfl rfl (lb_ rfl) (by kernel_rfl) ?_
 unfold iA at hF
 refine af (aa (ae (vI 0) wz rfl (aj (af (af (aa (ae (vL Alert.enc l_1) wz rfl (dA lK rfl wz (ae (vB (decide ((l_1.length:Int)>300))) wz rfl (aj ?_))))))))))
 rcases ak hF with⟨hc_2,hF⟩|⟨hc_2,hF⟩
 ·refine aA rfl hc_2 (af (aa (ae (vI 2) wz rfl (aj ?_))))
  obtain rfl:=ah hF
  exact ay (aX (.inr rfl) [(vI 2)] ⟨rfl,trivial⟩ rfl rfl rfl)
 ·refine ax rfl hc_2 (av (af (af (aa (ae (vL Alert.enc l_1) wz rfl (dA lK rfl wz (ae (vI 0) wz rfl (aj ?_))))))))
  obtain ⟨o_11,hj_12,hF⟩:=bind_some hF
  obtain ⟨hn_7,hj_12⟩:=bv hj_12
  refine aI (β:=(Unit)) (λ(s_8:Unit)=>([(0,(vL Alert.enc l_1))]:SL_)) (λ(s_8:Unit)=>([]:Hp)) (λp=>o_11 = .go p) ?_ ?_
  ·refine aB (bn (β:=Nat×(List Alert)×(Unit)) (λp=>(λ(k_3:Nat) (l_4:List Alert) (s_8:Unit)=>([(0,(vL Alert.enc l_1)),(12,(vL Alert.enc l_1)),(13,(vI (l_1.length:Int))),(14,(vI (k_3:Int)))]:SL_)) p.1 p.2.1 p.2.2) (λp=>(λ(k_3:Nat) (l_4:List Alert) (s_8:Unit)=>([]:Hp)) p.1 p.2.1 p.2.2) (λp=>forR (λk x s=>fH l_1 k x s) p.2.1 p.1 p.2.2=some o_11/\(l_1).drop p.1=p.2.1) (λp=>p.2.1.length) (0,l_1,()) ⟨hj_12,rfl⟩ rfl (aK rfl) ?_)
   rintro ⟨k_3,l_4,s_8⟩ ⟨hL_10,hD_6⟩
   dsimp only at hL_10 hD_6
   cases l_4 with
   | nil =>
    obtain rfl:=ah hL_10
    refine af (aa (ae (vB (decide ((k_3:Int)<(l_1.length:Int)))) wz rfl (aj ?_)))
    refine af (ax rfl (drop_nil hD_6) (bE ?_))
    exact bN (s_8) rfl rfl (aK rfl)
   | cons x_5 l_4 =>
    obtain ⟨c_,hc_9,hL_10⟩:=bind_some hL_10
    refine af (aa (ae (vB (decide ((k_3:Int)<(l_1.length:Int)))) wz rfl (aj ?_)))
    refine af (aA rfl (bP hD_6) (av ?_))
    unfold fH at hc_9
    refine af (aB (af (aa (ae (vI (k_3:Int)) wz rfl (jk iU rfl rfl (dB hD_6) rfl wz (fA dM iw rfl (.d (.agg (Alert.enc x_5))) rfl wz (fP 0 (.inl rfl) z33 rfl wz (λn_13=>ae (vI (k_3:Int)) wz rfl (fU 0 il ft 0 dM rfl rfl [(vS x_5.Id),(vS x_5.Sender),(vI x_5.Kind),(vL eS x_5.Refs),(vI x_5.At),(vI x_5.Until),(vI x_5.Weight),(vL Rect.enc x_5.Areas),(vS x_5.Text)] rfl wz (aj (af (af (aa (aD 0 0 il ft dM iw rfl rfl (.d (.agg (Alert.enc x_5))) rfl wz ?_))))))))))))))
    obtain ⟨r_14,hr_15,hc_9⟩:=bind_some hc_9
    refine aH (uL hr_15) rfl hb45 rfl rfl rfl rfl wz (ae (vI r_14) wz rfl (aj (af (aa (ae (vI r_14) wz rfl (ae (vB (r_14 != 0)) wz rfl (aj ?_)))))))
    rcases ak hc_9 with⟨hc_16,hc_9⟩|⟨hc_16,hc_9⟩
    ·refine aA rfl hc_16 (af (aa (ae (vI r_14) wz rfl (ae (vI r_14) wz rfl (aj ?_)))))
     obtain rfl:=ah hc_9
     obtain rfl:=ah hL_10
     obtain rfl:=ah hF
     exact ay (aX (.inr rfl) [(vI r_14)] ⟨rfl,trivial⟩ rfl rfl rfl)
    ·refine ax rfl hc_16 (av (af ?_))
     obtain ⟨v_17,h_18,hc_9⟩:=bind_some hc_9
     refine aI (β:=Unit) (λ_=>([(0,(vL Alert.enc l_1)),(12,(vL Alert.enc l_1)),(13,(vI (l_1.length:Int))),(14,(vI (k_3:Int))),(35,(vB v_17))]:SL_)) (λ_=>([(n_13,some (.cells 9 [(vS x_5.Id),(vS x_5.Sender),(vI x_5.Kind),(vL eS x_5.Refs),(vI x_5.At),(vI x_5.Until),(vI x_5.Weight),(vL Rect.enc x_5.Areas),(vS x_5.Text)]))]:Hp)) (λ_=>True) ?_ ?_
     ·refine eu (ae (vI (k_3:Int)) wz rfl (ae (vB (decide ((k_3:Int)>0))) wz rfl ?_))
      rcases ak h_18 with⟨hc_19,h_18⟩|⟨hc_19,h_18⟩
      ·refine aC rfl hc_19 wz (ae (vL Alert.enc l_1) wa rfl (ae (vI (k_3:Int)) wa rfl (ae (vI (w64 ((k_3:Int)-1))) wa rfl ?_)))
       obtain ⟨y_20,hy_21,h_18⟩:=bind_some h_18
       refine jk iU rfl rfl hy_21 rfl wa (fA dM iw rfl (.d (.agg (Alert.enc y_20))) rfl wa (aD 8 0 (.inr (by kernel_rfl)) (λ_ _ ag=>trivial) dM iw rfl rfl (.d (.agg (Alert.enc x_5))) rfl wa ?_))
       obtain ⟨r_22,hr_23,h_18⟩:=bind_some h_18
       refine aH (oZ hr_23) rfl hb46 rfl rfl rfl rfl wa (ae (vB (decide (r_22>=0))) wa rfl (ae (vB (decide (r_22>=0))) wz rfl (aj ?_)))
       obtain rfl:=ah h_18
       exact cu
      ·refine aC rfl hc_19 wz (ai wa (ai wa (ai wa (ai wa (ai wa (ai wa (ai wa (ai wa (ae (vB false) wz rfl (aj ?_))))))))))
       obtain rfl:=ah h_18
       exact cu
     ·rintro ⟨⟩ _ sl_ H_ hp_ hq_
      refine aV _ hp_ hq_ ?_
      rcases ak hc_9 with⟨hc_24,hc_9⟩|⟨hc_24,hc_9⟩
      ·refine aA rfl hc_24 (af (aa (ae (vI 7) wz rfl (aj ?_))))
       obtain rfl:=ah hc_9
       obtain rfl:=ah hL_10
       obtain rfl:=ah hF
       exact ay (aX (.inr rfl) [(vI 7)] ⟨rfl,trivial⟩ rfl rfl rfl)
      ·refine ax rfl hc_24 (av (aa (gN (bU hD_6 hn_7) wz rfl (ae (vI ((k_3+1:Nat):Int)) wz rfl (aj ?_)))))
       obtain rfl:=ah hc_9
       exact bC (k_3+1,l_4,()) ⟨hL_10,aY hD_6⟩ (ls_ _) rfl (aK rfl)
  ·rintro s_8 ho_ sl_ H_ hp_ hq_
   subst ho_
   refine aV _ hp_ hq_ (af (aa (Cg 0 (.inl rfl) wz (λn_25=>Jd (b':=some (bM D.str D.bool ([]:List (ByteArray×Bool)))) 0 rfl rfl (ae (.map n_25) wz rfl (aj (af (af (aa (ae (vL Alert.enc l_1) wz rfl (dA lK rfl wz (ae (vI 0) wz rfl (aj ?_)))))))))))))
   obtain ⟨o_34,hj_35,hF⟩:=bind_some hF
   obtain ⟨hn_30,hj_35⟩:=bv hj_35
   refine aI (β:=((List (ByteArray×Bool)))) (λ(s_31:(List (ByteArray×Bool)))=>([(0,(vL Alert.enc l_1)),(6,(.map n_25))]:SL_)) (λ(s_31:(List (ByteArray×Bool)))=>([(n_25,some (bM D.str D.bool s_31))]:Hp)) (λp=>o_34 = .go p) ?_ ?_
   ·refine aB (bn (β:=Nat×(List Alert)×((List (ByteArray×Bool)))) (λp=>(λ(k_26:Nat) (l_27:List Alert) (s_31:(List (ByteArray×Bool)))=>([(0,(vL Alert.enc l_1)),(6,(.map n_25)),(38,(vL Alert.enc l_1)),(39,(vI (l_1.length:Int))),(40,(vI (k_26:Int)))]:SL_)) p.1 p.2.1 p.2.2) (λp=>(λ(k_26:Nat) (l_27:List Alert) (s_31:(List (ByteArray×Bool)))=>([(n_25,some (bM D.str D.bool s_31))]:Hp)) p.1 p.2.1 p.2.2) (λp=>forR (λk x s=>gX k x s) p.2.1 p.1 p.2.2=some o_34/\(l_1).drop p.1=p.2.1) (λp=>p.2.1.length) (0,l_1,([]:List (ByteArray×Bool))) ⟨hj_35,rfl⟩ rfl (aK rfl) ?_)
    rintro ⟨k_26,l_27,s_31⟩ ⟨hL_33,hD_29⟩
    dsimp only at hL_33 hD_29
    cases l_27 with
    | nil =>
     obtain rfl:=ah hL_33
     refine af (aa (ae (vB (decide ((k_26:Int)<(l_1.length:Int)))) wz rfl (aj ?_)))
     refine af (ax rfl (drop_nil hD_29) (bE ?_))
     exact bN (s_31) rfl rfl (aK rfl)
    | cons x_28 l_27 =>
     obtain ⟨c_,hc_32,hL_33⟩:=bind_some hL_33
     refine af (aa (ae (vB (decide ((k_26:Int)<(l_1.length:Int)))) wz rfl (aj ?_)))
     refine af (aA rfl (bP hD_29) (av ?_))
     unfold gX at hc_32
     refine af (aB (af (aa (jk iU rfl rfl (dB hD_29) rfl wz (fA dM iw rfl (.d (.agg (Alert.enc x_28))) rfl wz (fP 0 (.inl rfl) z33 rfl wz (λn_36=>fU 0 il ft 1 dM rfl rfl [(vS x_28.Id),(vS x_28.Sender),(vI x_28.Kind),(vL eS x_28.Refs),(vI x_28.At),(vI x_28.Until),(vI x_28.Weight),(vL Rect.enc x_28.Areas),(vS x_28.Text)] rfl wz (aj (aa (ae (.map n_25) wz rfl (aF ic rfl 0 rfl wz (aD 0 1 il ft sz9 ag9 rfl rfl (vS x_28.Id) rfl wz (y8 (eq:=eqS) (kD:=D.str) (vD:=D.bool) (es:=s_31) (k:=x_28.Id) (v:=true) 0 0 il ft (λ_ _=>rfl) mt72 (by kernel_rfl) rfl rfl rfl rfl wz (aj (aa (gN (bU hD_29 hn_30) wz rfl (ae (vI ((k_26+1:Nat):Int)) wz rfl (aj ?_))))))))))))))))))
     obtain rfl:=ah hc_32
     exact bC (k_26+1,l_27,(pg eqS s_31 x_28.Id true)) ⟨hL_33,aY hD_29⟩ (ls_ _) rfl (aK rfl)
   ·rintro s_31 ho_ sl_ H_ hp_ hq_
    subst ho_
    refine aV _ hp_ hq_ (af (af (aa (ae (.map n_25) wz rfl (Jl (kD:=D.str) (vD:=D.bool) (es:=s_31) 0 0 il ft mt72 rfl rfl wz (ae (vL Alert.enc l_1) wz rfl (dA lK rfl wz (ae (vB (decide ((s_31.length:Int)<(l_1.length:Int)))) wz rfl (aj ?_)))))))))
    rcases ak hF with⟨hc_37,hF⟩|⟨hc_37,hF⟩
    ·refine aA rfl hc_37 (af (aa (ae (vI 6) wz rfl (aj ?_))))
     obtain rfl:=ah hF
     exact ay (aX (.inr rfl) [(vI 6)] ⟨rfl,trivial⟩ rfl rfl rfl)
    ·refine ax rfl hc_37 (av (af (aa (ae (vI 0) wz rfl (aj ?_)))))
     obtain rfl:=ah hF
     exact ay (aX (.inr rfl) [(vI 0)] ⟨rfl,trivial⟩ rfl rfl rfl)
theorem CG {l_1:(List Int)} {r:Int} (hF:rE l_1=some r) :
  FnM Tryz.prog 14 [(vL eI l_1)] [] (vI r) []:=by
 refine FnM.of_wH ⟨Tryz.prog,15,[],[]⟩ rfl Tryz.func14 rfl rfl (lb_ rfl) (by kernel_rfl) ?_
 unfold rE at hF
 refine af (aa (ae (vI 0) wz rfl (aj (af (af (aa (ae (vL eI l_1) wz rfl (dA un73 rfl wz (ae (vI 0) wz rfl (aj ?_))))))))))
 obtain ⟨o_10,hj_11,hF⟩:=bind_some hF
 obtain ⟨hn_6,hj_11⟩:=bv hj_11
 refine aI (β:=(Unit)) (λ(s_7:Unit)=>([]:SL_)) (λ(s_7:Unit)=>([]:Hp)) (λp=>o_10 = .go p) ?_ ?_
 ·refine aB (bn (β:=Nat×(List Int)×(Unit)) (λp=>(λ(k_2:Nat) (l_3:List Int) (s_7:Unit)=>([(5,(vL eI l_1)),(6,(vI (l_1.length:Int))),(7,(vI (k_2:Int)))]:SL_)) p.1 p.2.1 p.2.2) (λp=>(λ(k_2:Nat) (l_3:List Int) (s_7:Unit)=>([]:Hp)) p.1 p.2.1 p.2.2) (λp=>forR (λk x s=>mM k x s) p.2.1 p.1 p.2.2=some o_10/\(l_1).drop p.1=p.2.1) (λp=>p.2.1.length) (0,l_1,()) ⟨hj_11,rfl⟩ rfl (aK rfl) ?_)
  rintro ⟨k_2,l_3,s_7⟩ ⟨hL_9,hD_5⟩
  dsimp only at hL_9 hD_5
  cases l_3 with
  | nil =>
   obtain rfl:=ah hL_9
   refine af (aa (ae (vB (decide ((k_2:Int)<(l_1.length:Int)))) wz rfl (aj ?_)))
   refine af (ax rfl (drop_nil hD_5) (bE ?_))
   exact bN (s_7) rfl rfl (aK rfl)
  | cons x_4 l_3 =>
   obtain ⟨c_,hc_8,hL_9⟩:=bind_some hL_9
   refine af (aa (ae (vB (decide ((k_2:Int)<(l_1.length:Int)))) wz rfl (aj ?_)))
   refine af (aA rfl (bP hD_5) (av ?_))
   unfold mM at hc_8
   refine af (aB (af (aa (jk es73 rfl rfl (dB hD_5) rfl wz (fA sz36 ag36 rfl (vI x_4) rfl wz (ae (vI x_4) wz rfl (aj (af (aa (ae (vI x_4) wz rfl (ae (vB (x_4 != 0)) wz rfl (aj ?_))))))))))))
   rcases ak hc_8 with⟨hc_12,hc_8⟩|⟨hc_12,hc_8⟩
   ·refine aA rfl hc_12 (af (aa (ae (vI x_4) wz rfl (ae (vI x_4) wz rfl (aj ?_)))))
    obtain rfl:=ah hc_8
    obtain rfl:=ah hL_9
    obtain rfl:=ah hF
    exact ay (aX (.inr rfl) [(vI x_4)] ⟨rfl,trivial⟩ rfl rfl rfl)
   ·refine ax rfl hc_12 (av (aa (gN (bU hD_5 hn_6) wz rfl (ae (vI ((k_2+1:Nat):Int)) wz rfl (aj ?_)))))
    obtain rfl:=ah hc_8
    exact bC (k_2+1,l_3,()) ⟨hL_9,aY hD_5⟩ (ls_ _) rfl (aK rfl)
 ·rintro s_7 ho_ sl_ H_ hp_ hq_
  subst ho_
  refine aV _ hp_ hq_ (af (aa (ae (vI 0) wz rfl (aj ?_))))
  obtain rfl:=ah hF
  exact ay (aX (.inr rfl) [(vI 0)] ⟨rfl,trivial⟩ rfl rfl rfl)
theorem vH {o_1:Alert} {p_2:Alert} {r:Bool} (hF:lQ o_1 p_2=some r) :
  FnM Tryz.prog 49 [(.d (.agg (Alert.enc o_1))),(.ref (au 0) 0 0)] [(.cells 9 [(vS p_2.Id),(vS p_2.Sender),(vI p_2.Kind),(vL eS p_2.Refs),(vI p_2.At),(vI p_2.Until),(vI p_2.Weight),(vL Rect.enc p_2.Areas),(vS p_2.Text)])] (vB r) [some (.cells 9 [(vS p_2.Id),(vS p_2.Sender),(vI p_2.Kind),(vL eS p_2.Refs),(vI p_2.At),(vI p_2.Until),(vI p_2.Weight),(vL Rect.enc p_2.Areas),(vS p_2.Text)])]:=by
 refine FnM.of_wH ⟨Tryz.prog,9,[],[]⟩ rfl Tryz.func49 rfl rfl (lb_ rfl) (by kernel_rfl) ?_
 unfold lQ at hF
 refine af (aa (jN 0 (.inl rfl) [(vS o_1.Id),(vS o_1.Sender),(vI o_1.Kind),(vL eS o_1.Refs),(vI o_1.At),(vI o_1.Until),(vI o_1.Weight),(vL Rect.enc o_1.Areas),(vS o_1.Text)] rfl rfl wz (λn_3=>ae (vB false) wz rfl (aj (af (aa (aF ic rfl 0 rfl wz (aD 0 1 il ft sz9 ag9 rfl rfl (vS o_1.Id) rfl wz (aF ic rfl 0 rfl wz (aD 0 0 il ft sz9 ag9 rfl rfl (vS p_2.Id) rfl wz (ae (vB (sEq o_1.Id p_2.Id)) wz rfl (ae (vB (sEq o_1.Id p_2.Id)) wz rfl (aj ?_)))))))))))))
 obtain rfl:=ah hF
 exact ay (uj (.inr rfl) [(vB (sEq o_1.Id p_2.Id))] _ [0] [au 0] ⟨rfl,trivial⟩ (.cons (iq rfl rfl) (.nil)) (by kernel_rfl) ⟨(by kernel_rfl),trivial⟩ (by decide) (by kernel_rfl))
theorem je {s_1:(List Alert)} {f2_3:Alert} {r:Int} (hF:bf s_1 f2_3=some r) :
  FnM Tryz.prog 48 [(dV (au 1) 9 s_1),(.fn 49 [(.ref (au 0) 0 0)])] (([(.cells 9 [(vS f2_3.Id),(vS f2_3.Sender),(vI f2_3.Kind),(vL eS f2_3.Refs),(vI f2_3.At),(vI f2_3.Until),(vI f2_3.Weight),(vL Rect.enc f2_3.Areas),(vS f2_3.Text)])]:List Box)++gI 9 Alert.enc s_1) (vI r) (([(.cells 9 [(vS f2_3.Id),(vS f2_3.Sender),(vI f2_3.Kind),(vL eS f2_3.Refs),(vI f2_3.At),(vI f2_3.Until),(vI f2_3.Weight),(vL Rect.enc f2_3.Areas),(vS f2_3.Text)])]:List Box).map some++gT s_1 (gB 9 Alert.enc s_1)):=by
 refine FnM.of_wHv ⟨Tryz.prog,19,[],[]⟩ rfl Tryz.func48 rfl rfl (lb_ rfl) (by kernel_rfl) ?_
 unfold bf at hF
 refine af (aa (ae (vI 0) wz rfl (aj (af (af (aa (ae (dV (au 1) 9 s_1) wz rfl (BM lK rfl wz (ae (vI 0) wz rfl (aj ?_))))))))))
 obtain ⟨o_12,hj_13,hF⟩:=bind_some hF
 obtain ⟨hn_8,hj_13⟩:=bv hj_13
 refine aI (β:=(Unit)) (λ(s_9:Unit)=>([]:SL_)) (λ(s_9:Unit)=>([((au 0),some (.cells 9 [(vS f2_3.Id),(vS f2_3.Sender),(vI f2_3.Kind),(vL eS f2_3.Refs),(vI f2_3.At),(vI f2_3.Until),(vI f2_3.Weight),(vL Rect.enc f2_3.Areas),(vS f2_3.Text)])),((au 1),gB 9 Alert.enc s_1)]:Hp)) (λp=>o_12 = .go p) ?_ ?_
 ·refine aB (bn (β:=Nat×(List Nat)×(Unit)) (λp=>(λ(k_4:Nat) (l_5:List Nat) (s_9:Unit)=>([(0,(dV (au 1) 9 s_1)),(1,(.fn 49 [(.ref (au 0) 0 0)])),(7,(vI (s_1.length:Int))),(8,(vI (k_4:Int)))]:SL_)) p.1 p.2.1 p.2.2) (λp=>(λ(k_4:Nat) (l_5:List Nat) (s_9:Unit)=>([((au 0),some (.cells 9 [(vS f2_3.Id),(vS f2_3.Sender),(vI f2_3.Kind),(vL eS f2_3.Refs),(vI f2_3.At),(vI f2_3.Until),(vI f2_3.Weight),(vL Rect.enc f2_3.Areas),(vS f2_3.Text)])),((au 1),gB 9 Alert.enc s_1)]:Hp)) p.1 p.2.1 p.2.2) (λp=>forR (λk x s=>aU s_1 f2_3 k x s) p.2.1 p.1 p.2.2=some o_12/\((List.range ((s_1.length:Int)).toNat)).drop p.1=p.2.1) (λp=>p.2.1.length) (0,(List.range ((s_1.length:Int)).toNat),()) ⟨hj_13,rfl⟩ rfl (aK rfl) ?_)
  rintro ⟨k_4,l_5,s_9⟩ ⟨hL_11,hD_7⟩
  dsimp only at hL_11 hD_7
  cases l_5 with
  | nil =>
   obtain rfl:=ah hL_11
   refine af (aa (ae (vB (decide ((k_4:Int)<(s_1.length:Int)))) wz rfl (aj ?_)))
   refine af (ax rfl (qo hD_7) (bE ?_))
   exact bN (s_9) rfl rfl (aK rfl)
  | cons x_6 l_5 =>
   obtain ⟨c_,hc_10,hL_11⟩:=bind_some hL_11
   refine af (aa (ae (vB (decide ((k_4:Int)<(s_1.length:Int)))) wz rfl (aj ?_)))
   refine af (aA rfl (og hD_7) (av ?_))
   unfold aU at hc_10
   refine af (aB (af (aa (ae (vI (k_4:Int)) wz rfl (ae (vI (k_4:Int)) wz rfl (aj (af (aa (ae (.fn 49 [(.ref (au 0) 0 0)]) wz rfl (ae (dV (au 1) 9 s_1) wz rfl (ae (vI (k_4:Int)) wz rfl ?_)))))))))))
   obtain ⟨_,hi_14,hc_10⟩:=bind_some hc_10
   refine jb iU rfl rfl (kC hi_14) (iy hi_14) wz ?_
   obtain ⟨e_15,hy_16,hc_10⟩:=bind_some hc_10
   refine kH 0 1 il ft dM iw rfl rfl hy_16 (.d (.agg (Alert.enc e_15))) rfl wz ?_
   obtain ⟨r_17,hr_18,hc_10⟩:=bind_some hc_10
   refine aW 0 [0] il ft (vH hr_18) rfl hb49 rfl (by kernel_rfl) (by kernel_rfl) (by kernel_rfl) (by kernel_rfl) (by kernel_rfl) (by kernel_rfl) (by kernel_rfl) (by decide) (by kernel_rfl) wz (vB r_17) (by kernel_rfl) ([((au 0),some (.cells 9 [(vS f2_3.Id),(vS f2_3.Sender),(vI f2_3.Kind),(vL eS f2_3.Refs),(vI f2_3.At),(vI f2_3.Until),(vI f2_3.Weight),(vL Rect.enc f2_3.Areas),(vS f2_3.Text)])),((au 1),gB 9 Alert.enc s_1)]:Hp) (by kernel_rfl) (aj ?_)
   rcases ak hc_10 with⟨hc_20,hc_10⟩|⟨hc_20,hc_10⟩
   ·refine aA rfl hc_20 (af (aa (ae (vI (k_4:Int)) wz rfl (ae (vI (k_4:Int)) wz rfl (aj ?_)))))
    obtain rfl:=ah hc_10
    obtain rfl:=ah hL_11
    obtain rfl:=ah hF
    exact ay (vg (bs:=([(.cells 9 [(vS f2_3.Id),(vS f2_3.Sender),(vI f2_3.Kind),(vL eS f2_3.Refs),(vI f2_3.At),(vI f2_3.Until),(vI f2_3.Weight),(vL Rect.enc f2_3.Areas),(vS f2_3.Text)])]:List Box)) (os:=([(.cells 9 [(vS f2_3.Id),(vS f2_3.Sender),(vI f2_3.Kind),(vL eS f2_3.Refs),(vI f2_3.At),(vI f2_3.Until),(vI f2_3.Weight),(vL Rect.enc f2_3.Areas),(vS f2_3.Text)])]:List Box)) (xs:=s_1) (o:=gB 9 Alert.enc s_1) (.inr rfl) [(vI (k_4:Int))] ⟨rfl,trivial⟩ rfl rfl rfl rfl rfl (by kernel_rfl) jG rfl)
   ·refine ax rfl hc_20 (av (aa (gN (qd hD_7 hn_8) wz rfl (ae (vI ((k_4+1:Nat):Int)) wz rfl (aj ?_)))))
    obtain rfl:=ah hc_10
    exact bC (k_4+1,l_5,()) ⟨hL_11,aY hD_7⟩ (ls_ _) rfl (aK rfl)
 ·rintro s_9 ho_ sl_ H_ hp_ hq_
  subst ho_
  refine aV _ hp_ hq_ (af (aa (ae (vI (-1)) wz rfl (aj ?_))))
  obtain rfl:=ah hF
  exact ay (vg (bs:=([(.cells 9 [(vS f2_3.Id),(vS f2_3.Sender),(vI f2_3.Kind),(vL eS f2_3.Refs),(vI f2_3.At),(vI f2_3.Until),(vI f2_3.Weight),(vL Rect.enc f2_3.Areas),(vS f2_3.Text)])]:List Box)) (os:=([(.cells 9 [(vS f2_3.Id),(vS f2_3.Sender),(vI f2_3.Kind),(vL eS f2_3.Refs),(vI f2_3.At),(vI f2_3.Until),(vI f2_3.Weight),(vL Rect.enc f2_3.Areas),(vS f2_3.Text)])]:List Box)) (xs:=s_1) (o:=gB 9 Alert.enc s_1) (.inr rfl) [(vI (-1))] ⟨rfl,trivial⟩ rfl rfl rfl rfl rfl (by kernel_rfl) jG rfl)
theorem uV {r:(List ByteArray)} (hF:lM  = some r) :
  FnM Tryz.prog 93 [] [] (vL eS r) []:=by
 refine FnM.of_wH ⟨Tryz.prog,2,[],[]⟩ rfl Tryz.func93 rfl rfl (lb_ rfl) (by kernel_rfl) ?_
 unfold lM at hF
 refine af (aa (ae .nil wz rfl (aj (af (aa (fB (([(⟨#[]⟩:ByteArray),(⟨#[110,101,119]⟩:ByteArray),(⟨#[117,112,100,97,116,101]⟩:ByteArray),(⟨#[99,97,110,99,101,108]⟩:ByteArray)]:List ByteArray).map eS) lW rV rfl rfl rfl rfl rfl wz (ae (vL eS ([(⟨#[]⟩:ByteArray),(⟨#[110,101,119]⟩:ByteArray),(⟨#[117,112,100,97,116,101]⟩:ByteArray),(⟨#[99,97,110,99,101,108]⟩:ByteArray)]:List ByteArray)) wz rfl (aj ?_))))))))
 obtain rfl:=ah hF
 exact ay (aX (.inr rfl) [(vL eS ([(⟨#[]⟩:ByteArray),(⟨#[110,101,119]⟩:ByteArray),(⟨#[117,112,100,97,116,101]⟩:ByteArray),(⟨#[99,97,110,99,101,108]⟩:ByteArray)]:List ByteArray))] ⟨rfl,trivial⟩ rfl rfl rfl)
theorem xI {x0:Int} {r:ByteArray} (hF:strconv_Itoa x0=some r) :
  FnM Tryz.prog 130 [(vI x0)] [] (vS r) [] :=
 itoa_ok Tryz.strconv_Itoa EP hF
theorem xG {x0:(List ByteArray)} {x1:ByteArray} {r:ByteArray} (hF:strings_Join x0 x1=some r) :
  FnM Tryz.prog 131 [(vL eS x0),(vS x1)] [] (vS r) [] :=
 join_ok rfl Tryz.strings_Join_none Tryz.strings_Join hF
theorem rX {l_1:(List Int)} {r:ByteArray} (hF:jO l_1=some r) :
  FnM Tryz.prog 94 [(vL eI l_1)] [] (vS r) []:=by
 refine FnM.of_wH ⟨Tryz.prog,20,[],[]⟩ rfl Tryz.func94 rfl rfl (lb_ rfl) (by kernel_rfl) ?_
 unfold jO at hF
 refine af (aa (ae (vS (⟨#[]⟩:ByteArray)) wz rfl (aj (af (aa (ae .nil wz rfl (aj (af (af (aa (ae (vL eI l_1) wz rfl (dA Gx rfl wz (ae (vI 0) wz rfl (aj (uf (λn_8 => ?_))))))))))))))))
 obtain ⟨o_13,hj_14,hF⟩:=bind_some hF
 obtain ⟨hn_6,hj_14⟩:=bv hj_14
 refine aI (β:=((List ByteArray))×Nm) (λp=>(λ(s_7:List ByteArray) (n_10:Nm)=>([(3,(gV n_10 1 s_7))]:SL_)) p.1 p.2) (λp=>(λ(s_7:List ByteArray) (n_10:Nm)=>([(n_10,gB 1 eS s_7)]:Hp)) p.1 p.2) (λp=>o_13 = .go p.1) ?_ ?_
 ·refine aB (bn (β:=Nat×(List Int)×((List ByteArray))×Nm) (λp=>(λ(k_2:Nat) (l_3:List Int) (s_7:List ByteArray) (n_10:Nm)=>([(3,(gV n_10 1 s_7)),(6,(vL eI l_1)),(7,(vI (l_1.length:Int))),(8,(vI (k_2:Int)))]:SL_)) p.1 p.2.1 p.2.2.1 p.2.2.2) (λp=>(λ(k_2:Nat) (l_3:List Int) (s_7:List ByteArray) (n_10:Nm)=>([(n_10,gB 1 eS s_7)]:Hp)) p.1 p.2.1 p.2.2.1 p.2.2.2) (λp=>forR (λk x s=>iM k x s) p.2.1 p.1 p.2.2.1=some o_13/\(l_1).drop p.1=p.2.1) (λp=>p.2.1.length) (0,l_1,([]:List ByteArray),n_8) ⟨hj_14,rfl⟩ rfl (aK rfl) ?_)
  rintro ⟨k_2,l_3,s_7,n_10⟩ ⟨hL_12,hD_5⟩
  dsimp only at hL_12 hD_5
  cases l_3 with
  | nil =>
   obtain rfl:=ah hL_12
   refine af (aa (ae (vB (decide ((k_2:Int)<(l_1.length:Int)))) wz rfl (aj ?_)))
   refine af (ax rfl (drop_nil hD_5) (bE ?_))
   exact bN (s_7,n_10) rfl rfl (aK rfl)
  | cons x_4 l_3 =>
   obtain ⟨c_,hc_11,hL_12⟩:=bind_some hL_12
   refine af (aa (ae (vB (decide ((k_2:Int)<(l_1.length:Int)))) wz rfl (aj ?_)))
   refine af (aA rfl (bP hD_5) (av ?_))
   unfold iM at hc_11
   refine af (aB (af (aa (jk wM rfl rfl (dB hD_5) rfl wz (fA sz3 ag3 rfl (vI x_4) rfl wz (ae (vI x_4) wz rfl (aj (aa (ae (gV n_10 1 s_7) wz rfl (ae (vI x_4) wz rfl ?_))))))))))
   obtain ⟨r_15,hr_16,hc_11⟩:=bind_some hc_11
   refine aH (xI hr_16) rfl hb130 rfl rfl rfl rfl wz (fB (([r_15]:List ByteArray).map eS) lW rV rfl rfl rfl rfl rfl wz ?_)
   obtain ⟨a_17,hz_18,hc_11⟩:=bind_some hc_11
   refine rQ 0 il ft (i:=0) Ht Ht sz9 z9 rfl (by decide) by9 (by decide) (λ_=>rfl) rfl rfl rfl hz_18 wz (λn_19=>ae (gV n_19 1 a_17) wz rfl (aj (aa (gN (bU hD_5 hn_6) wz rfl (ae (vI ((k_2+1:Nat):Int)) wz rfl (aj ?_))))))
   obtain rfl:=ah hc_11
   exact bC (k_2+1,l_3,a_17,n_19) ⟨hL_12,aY hD_5⟩ (ls_ _) rfl (aK rfl)
 ·rintro ⟨s_7,n_10⟩ ho_ sl_ H_ hp_ hq_
  subst ho_
  refine aV _ hp_ hq_ (af (jq 0 rfl (fC 3 0 rfl rfl (aa (ae (vL eS s_7) wz rfl ?_)))))
  obtain ⟨r_20,hr_21,hF⟩:=bind_some hF
  refine aH (xG hr_21) rfl hb131 rfl rfl rfl rfl wz (ae (vS r_20) wz rfl (aj ?_))
  obtain rfl:=ah hF
  exact ay (aX (.inr rfl) [(vS r_20)] ⟨rfl,trivial⟩ rfl rfl rfl)
theorem o8 {l_1:(List Alert)} {r:ByteArray} (hF:iL l_1=some r) :
  FnM Tryz.prog 50 [(vL Alert.enc l_1)] [] (vS r) []:=by
 refine FnM.of_wH ⟨Tryz.prog,89,[],[]⟩ rfl Tryz.func50 rfl rfl (lb_ rfl) (by kernel_rfl) ?_
 unfold iL at hF
 refine af (aa (ae (vS (⟨#[]⟩:ByteArray)) wz rfl (aj (af (aa (ae (vS (⟨#[]⟩:ByteArray)) wz rfl (aj (af (af (aa (ae (vL Alert.enc l_1) wz rfl (dA lK rfl wz (ae (vI 0) wz rfl (aj ?_))))))))))))))
 obtain ⟨o_10,hj_11,hF⟩:=bind_some hF
 obtain ⟨hn_6,hj_11⟩:=bv hj_11
 refine aI (β:=(ByteArray)) (λ(s_7:ByteArray)=>([(3,(vS s_7))]:SL_)) (λ(s_7:ByteArray)=>([]:Hp)) (λp=>o_10 = .go p) ?_ ?_
 ·refine aB (bn (β:=Nat×(List Alert)×(ByteArray)) (λp=>(λ(k_2:Nat) (l_3:List Alert) (s_7:ByteArray)=>([(3,(vS s_7)),(10,(vL Alert.enc l_1)),(11,(vI (l_1.length:Int))),(12,(vI (k_2:Int)))]:SL_)) p.1 p.2.1 p.2.2) (λp=>(λ(k_2:Nat) (l_3:List Alert) (s_7:ByteArray)=>([]:Hp)) p.1 p.2.1 p.2.2) (λp=>forR (λk x s=>iB k x s) p.2.1 p.1 p.2.2=some o_10/\(l_1).drop p.1=p.2.1) (λp=>p.2.1.length) (0,l_1,(⟨#[]⟩:ByteArray)) ⟨hj_11,rfl⟩ rfl (aK rfl) ?_)
  rintro ⟨k_2,l_3,s_7⟩ ⟨hL_9,hD_5⟩
  dsimp only at hL_9 hD_5
  cases l_3 with
  | nil =>
   obtain rfl:=ah hL_9
   refine af (aa (ae (vB (decide ((k_2:Int)<(l_1.length:Int)))) wz rfl (aj ?_)))
   refine af (ax rfl (drop_nil hD_5) (bE ?_))
   exact bN (s_7) rfl rfl (aK rfl)
  | cons x_4 l_3 =>
   obtain ⟨c_,hc_8,hL_9⟩:=bind_some hL_9
   refine af (aa (ae (vB (decide ((k_2:Int)<(l_1.length:Int)))) wz rfl (aj ?_)))
   refine af (aA rfl (bP hD_5) (av ?_))
   unfold iB at hc_8
   refine af (aB (af (aa (jk iU rfl rfl (dB hD_5) rfl wz (fA dM iw rfl (.d (.agg (Alert.enc x_4))) rfl wz (fP 0 (.inl rfl) z33 rfl wz (λn_12=>fU 0 il ft 0 dM rfl rfl [(vS x_4.Id),(vS x_4.Sender),(vI x_4.Kind),(vL eS x_4.Refs),(vI x_4.At),(vI x_4.Until),(vI x_4.Weight),(vL Rect.enc x_4.Areas),(vS x_4.Text)] rfl wz (aj (af (eu (ae (vS s_7) wz rfl (aF ic rfl 0 rfl wz (aD 2 0 (.inr (by kernel_rfl)) (λ_ _ ag=>trivial) sz9 ag9 rfl rfl (vS x_4.Id) rfl wz ?_)))))))))))))
   obtain ⟨s_13,hz_14,hc_8⟩:=bind_some hc_8
   refine lX rfl rfl hz_14 wz ?_
   obtain ⟨s_15,hz_16,hc_8⟩:=bind_some hc_8
   refine lX rfl rfl hz_16 wz (aF vT rfl 1 rfl wz (aD 6 0 (.inr (by kernel_rfl)) (λ_ _ ag=>⟨.inl ⟨rfl,rfl⟩,trivial⟩) sz9 ag9 rfl rfl (vS x_4.Sender) rfl wz ?_))
   obtain ⟨s_17,hz_18,hc_8⟩:=bind_some hc_8
   refine lX rfl rfl hz_18 wz ?_
   obtain ⟨s_19,hz_20,hc_8⟩:=bind_some hc_8
   refine lX rfl rfl hz_20 wz ?_
   obtain ⟨r_21,hr_22,hc_8⟩:=bind_some hc_8
   refine aH (uV hr_22) rfl hb93 rfl rfl rfl rfl wz (aF l5 rfl 2 rfl wz (aD 11 0 (.inr (by kernel_rfl)) (λ_ _ ag=>⟨.inl ⟨rfl,rfl⟩,⟨.inl ⟨rfl,rfl⟩,trivial⟩⟩) sz3 ag3 rfl rfl (vI x_4.Kind) rfl wz ?_))
   obtain ⟨y_23,hy_24,hc_8⟩:=bind_some hc_8
   refine jk lW rfl rfl hy_24 rfl wz (fA sz9 ag9 rfl (vS y_23) rfl wz ?_)
   obtain ⟨s_25,hz_26,hc_8⟩:=bind_some hc_8
   refine lX rfl rfl hz_26 wz ?_
   obtain ⟨s_27,hz_28,hc_8⟩:=bind_some hc_8
   refine lX rfl rfl hz_28 wz (aF iG rfl 4 rfl wz (aD 17 0 (.inr (by kernel_rfl)) (λ_ _ ag=>⟨.inl ⟨rfl,rfl⟩,⟨.inl ⟨rfl,rfl⟩,⟨.inl ⟨rfl,rfl⟩,trivial⟩⟩⟩) sz3 ag3 rfl rfl (vI x_4.At) rfl wz (aF uA rfl 5 rfl wz (aD 19 0 (.inr (by kernel_rfl)) (λ_ _ ag=>⟨.inl ⟨rfl,rfl⟩,⟨.inl ⟨rfl,rfl⟩,⟨.inl ⟨rfl,rfl⟩,⟨.inl ⟨rfl,rfl⟩,trivial⟩⟩⟩⟩) sz3 ag3 rfl rfl (vI x_4.Until) rfl wz (aF uG rfl 6 rfl wz (aD 21 0 (.inr (by kernel_rfl)) (λ_ _ ag=>⟨.inl ⟨rfl,rfl⟩,⟨.inl ⟨rfl,rfl⟩,⟨.inl ⟨rfl,rfl⟩,⟨.inl ⟨rfl,rfl⟩,⟨.inl ⟨rfl,rfl⟩,trivial⟩⟩⟩⟩⟩) sz3 ag3 rfl rfl (vI x_4.Weight) rfl wz (fB (([x_4.At,x_4.Until,x_4.Weight]:List Int).map eI) wM BA rfl rfl rfl rfl rfl wz ?_)))))))
   obtain ⟨r_29,hr_30,hc_8⟩:=bind_some hc_8
   refine aH (rX hr_30) rfl hb94 rfl rfl rfl rfl wz ?_
   obtain ⟨s_31,hz_32,hc_8⟩:=bind_some hc_8
   refine lX rfl rfl hz_32 wz ?_
   obtain ⟨s_33,hz_34,hc_8⟩:=bind_some hc_8
   refine lX rfl rfl hz_34 wz ?_
   obtain ⟨s_35,hz_36,hc_8⟩:=bind_some hc_8
   refine lX rfl rfl hz_36 wz (ae (vS s_35) wz rfl (aj (aV (H0:=([(n_12,some (.cells 9 [(vS x_4.Id),(vS x_4.Sender),(vI x_4.Kind),(vL eS x_4.Refs),(vI x_4.At),(vI x_4.Until),(vI x_4.Weight),(vL Rect.enc x_4.Areas),(vS x_4.Text)]))]:Hp)) ([(3,(vS s_35)),(5,(.ref n_12 0 0)),(10,(vL Alert.enc l_1)),(11,(vI (l_1.length:Int))),(12,(vI (k_2:Int)))]:SL_) (by kernel_rfl) (Ew (by kernel_rfl)) (af (af (aa (aF jB rfl 3 rfl wz (aD 0 0 il ft qO uq rfl rfl (vL eS x_4.Refs) rfl wz (dA sP rfl wz (ae (vI 0) wz rfl (aj ?_)))))))))))
   obtain ⟨o_45,hj_46,hc_8⟩:=bind_some hc_8
   obtain ⟨hn_41,hj_46⟩:=bv hj_46
   refine aI (β:=(ByteArray)) (λ(s_42:ByteArray)=>([(3,(vS s_42)),(5,(.ref n_12 0 0)),(10,(vL Alert.enc l_1)),(11,(vI (l_1.length:Int))),(12,(vI (k_2:Int)))]:SL_)) (λ(s_42:ByteArray)=>([(n_12,some (.cells 9 [(vS x_4.Id),(vS x_4.Sender),(vI x_4.Kind),(vL eS x_4.Refs),(vI x_4.At),(vI x_4.Until),(vI x_4.Weight),(vL Rect.enc x_4.Areas),(vS x_4.Text)]))]:Hp)) (λp=>o_45 = .go p) ?_ ?_
   ·refine aB (bn (β:=Nat×(List ByteArray)×(ByteArray)) (λp=>(λ(k_37:Nat) (l_38:List ByteArray) (s_42:ByteArray)=>([(3,(vS s_42)),(5,(.ref n_12 0 0)),(10,(vL Alert.enc l_1)),(11,(vI (l_1.length:Int))),(12,(vI (k_2:Int))),(44,(vL eS x_4.Refs)),(45,(vI (x_4.Refs.length:Int))),(46,(vI (k_37:Int)))]:SL_)) p.1 p.2.1 p.2.2) (λp=>(λ(k_37:Nat) (l_38:List ByteArray) (s_42:ByteArray)=>([(n_12,some (.cells 9 [(vS x_4.Id),(vS x_4.Sender),(vI x_4.Kind),(vL eS x_4.Refs),(vI x_4.At),(vI x_4.Until),(vI x_4.Weight),(vL Rect.enc x_4.Areas),(vS x_4.Text)]))]:Hp)) p.1 p.2.1 p.2.2) (λp=>forR (λk x s=>gD k x s) p.2.1 p.1 p.2.2=some o_45/\(x_4.Refs).drop p.1=p.2.1) (λp=>p.2.1.length) (0,x_4.Refs,s_35) ⟨hj_46,rfl⟩ rfl (aK rfl) ?_)
    rintro ⟨k_37,l_38,s_42⟩ ⟨hL_44,hD_40⟩
    dsimp only at hL_44 hD_40
    cases l_38 with
    | nil =>
     obtain rfl:=ah hL_44
     refine af (aa (ae (vB (decide ((k_37:Int)<(x_4.Refs.length:Int)))) wz rfl (aj ?_)))
     refine af (ax rfl (drop_nil hD_40) (bE ?_))
     exact bN (s_42) rfl rfl (aK rfl)
    | cons x_39 l_38 =>
     obtain ⟨c_,hc_43,hL_44⟩:=bind_some hL_44
     refine af (aa (ae (vB (decide ((k_37:Int)<(x_4.Refs.length:Int)))) wz rfl (aj ?_)))
     refine af (aA rfl (bP hD_40) (av ?_))
     unfold gD at hc_43
     refine af (aB (af (aa (jk lW rfl rfl (dB hD_40) rfl wz (fA sz9 ag9 rfl (vS x_39) rfl wz (ae (vS x_39) wz rfl (aj (aa (ae (vS s_42) wz rfl (ae (vS x_39) wz rfl ?_))))))))))
     obtain ⟨s_47,hz_48,hc_43⟩:=bind_some hc_43
     refine lX rfl rfl hz_48 wz ?_
     obtain ⟨s_49,hz_50,hc_43⟩:=bind_some hc_43
     refine lX rfl rfl hz_50 wz ?_
     obtain ⟨s_51,hz_52,hc_43⟩:=bind_some hc_43
     refine lX rfl rfl hz_52 wz (ae (vS s_51) wz rfl (aj (aa (gN (bU hD_40 hn_41) wz rfl (ae (vI ((k_37+1:Nat):Int)) wz rfl (aj ?_))))))
     obtain rfl:=ah hc_43
     exact bC (k_37+1,l_38,s_51) ⟨hL_44,aY hD_40⟩ (ls_ _) rfl (aK rfl)
   ·rintro s_42 ho_ sl_ H_ hp_ hq_
    subst ho_
    refine aV _ hp_ hq_ (af (af (aa (aF kY rfl 7 rfl wz (aD 0 0 il ft tY xO rfl rfl (vL Rect.enc x_4.Areas) rfl wz (dA xE rfl wz (ae (vI 0) wz rfl (aj ?_))))))))
    obtain ⟨o_61,hj_62,hc_8⟩:=bind_some hc_8
    obtain ⟨hn_57,hj_62⟩:=bv hj_62
    refine aI (β:=(ByteArray)) (λ(s_58:ByteArray)=>([(3,(vS s_58)),(5,(.ref n_12 0 0)),(10,(vL Alert.enc l_1)),(11,(vI (l_1.length:Int))),(12,(vI (k_2:Int)))]:SL_)) (λ(s_58:ByteArray)=>([(n_12,some (.cells 9 [(vS x_4.Id),(vS x_4.Sender),(vI x_4.Kind),(vL eS x_4.Refs),(vI x_4.At),(vI x_4.Until),(vI x_4.Weight),(vL Rect.enc x_4.Areas),(vS x_4.Text)]))]:Hp)) (λp=>o_61 = .go p) ?_ ?_
    ·refine aB (bn (β:=Nat×(List Rect)×(ByteArray)) (λp=>(λ(k_53:Nat) (l_54:List Rect) (s_58:ByteArray)=>([(3,(vS s_58)),(5,(.ref n_12 0 0)),(10,(vL Alert.enc l_1)),(11,(vI (l_1.length:Int))),(12,(vI (k_2:Int))),(57,(vL Rect.enc x_4.Areas)),(58,(vI (x_4.Areas.length:Int))),(59,(vI (k_53:Int)))]:SL_)) p.1 p.2.1 p.2.2) (λp=>(λ(k_53:Nat) (l_54:List Rect) (s_58:ByteArray)=>([(n_12,some (.cells 9 [(vS x_4.Id),(vS x_4.Sender),(vI x_4.Kind),(vL eS x_4.Refs),(vI x_4.At),(vI x_4.Until),(vI x_4.Weight),(vL Rect.enc x_4.Areas),(vS x_4.Text)]))]:Hp)) p.1 p.2.1 p.2.2) (λp=>forR (λk x s=>gz k x s) p.2.1 p.1 p.2.2=some o_61/\(x_4.Areas).drop p.1=p.2.1) (λp=>p.2.1.length) (0,x_4.Areas,s_42) ⟨hj_62,rfl⟩ rfl (aK rfl) ?_)
     rintro ⟨k_53,l_54,s_58⟩ ⟨hL_60,hD_56⟩
     dsimp only at hL_60 hD_56
     cases l_54 with
     | nil =>
      obtain rfl:=ah hL_60
      refine af (aa (ae (vB (decide ((k_53:Int)<(x_4.Areas.length:Int)))) wz rfl (aj ?_)))
      refine af (ax rfl (drop_nil hD_56) (bE ?_))
      exact bN (s_58) rfl rfl (aK rfl)
     | cons x_55 l_54 =>
      obtain ⟨c_,hc_59,hL_60⟩:=bind_some hL_60
      refine af (aa (ae (vB (decide ((k_53:Int)<(x_4.Areas.length:Int)))) wz rfl (aj ?_)))
      refine af (aA rfl (bP hD_56) (av ?_))
      unfold gz at hc_59
      refine af (aB (af (aa (jk zX rfl rfl (dB hD_56) rfl wz (fA nW xM rfl (.d (.agg (Rect.enc x_55))) rfl wz (fP 0 (.inl rfl) z77 rfl wz (λn_63=>fU 0 il ft 1 nW rfl rfl [(vI x_55.X),(vI x_55.Y),(vI x_55.W),(vI x_55.H)] rfl wz (aj (aa (ae (vS s_58) wz rfl (aF rR rfl 0 rfl wz (aD 0 1 il ft sz3 ag3 rfl rfl (vI x_55.X) rfl wz (aF rC rfl 1 rfl wz (aD 0 1 il ft sz3 ag3 rfl rfl (vI x_55.Y) rfl wz (aF yY rfl 2 rfl wz (aD 0 1 il ft sz3 ag3 rfl rfl (vI x_55.W) rfl wz (aF wo rfl 3 rfl wz (aD 0 1 il ft sz3 ag3 rfl rfl (vI x_55.H) rfl wz (fB (([x_55.X,x_55.Y,x_55.W,x_55.H]:List Int).map eI) wM BA rfl rfl rfl rfl rfl wz ?_)))))))))))))))))))
      obtain ⟨r_64,hr_65,hc_59⟩:=bind_some hc_59
      refine aH (rX hr_65) rfl hb94 rfl rfl rfl rfl wz ?_
      obtain ⟨s_66,hz_67,hc_59⟩:=bind_some hc_59
      refine lX rfl rfl hz_67 wz ?_
      obtain ⟨s_68,hz_69,hc_59⟩:=bind_some hc_59
      refine lX rfl rfl hz_69 wz ?_
      obtain ⟨s_70,hz_71,hc_59⟩:=bind_some hc_59
      refine lX rfl rfl hz_71 wz (ae (vS s_70) wz rfl (aj (aa (gN (bU hD_56 hn_57) wz rfl (ae (vI ((k_53+1:Nat):Int)) wz rfl (aj ?_))))))
      obtain rfl:=ah hc_59
      exact bC (k_53+1,l_54,s_70) ⟨hL_60,aY hD_56⟩ (ls_ _) rfl (aK rfl)
    ·rintro s_58 ho_ sl_ H_ hp_ hq_
     subst ho_
     refine aV _ hp_ hq_ (af (aa (aF ni rfl 8 rfl wz (aD 0 0 il ft sz9 ag9 rfl rfl (vS x_4.Text) rfl wz (ae (vB (sNe x_4.Text (⟨#[]⟩:ByteArray))) wz rfl (aj ?_))))))
     obtain ⟨v_72,h_73,hc_8⟩:=bind_some hc_8
     refine aI (β:=Unit) (λ_=>([(3,(vS v_72)),(10,(vL Alert.enc l_1)),(11,(vI (l_1.length:Int))),(12,(vI (k_2:Int)))]:SL_)) (λ_=>([(n_12,some (.cells 9 [(vS x_4.Id),(vS x_4.Sender),(vI x_4.Kind),(vL eS x_4.Refs),(vI x_4.At),(vI x_4.Until),(vI x_4.Weight),(vL Rect.enc x_4.Areas),(vS x_4.Text)]))]:Hp)) (λ_=>True) ?_ ?_
     ·rcases ak h_73 with⟨hc_74,h_73⟩|⟨hc_74,h_73⟩
      ·refine aA rfl hc_74 (aa (ae (vS s_58) wz rfl (aF ni rfl 8 rfl wz (aD 0 0 il ft sz9 ag9 rfl rfl (vS x_4.Text) rfl wz ?_))))
       obtain ⟨s_75,hz_76,h_73⟩:=bind_some h_73
       refine lX rfl rfl hz_76 wz ?_
       obtain ⟨s_77,hz_78,h_73⟩:=bind_some h_73
       refine lX rfl rfl hz_78 wz ?_
       obtain ⟨s_79,hz_80,h_73⟩:=bind_some h_73
       refine lX rfl rfl hz_80 wz (ae (vS s_79) wz rfl (aj ?_))
       obtain rfl:=ah h_73
       exact cu
      ·refine ax rfl hc_74 (av ?_)
       obtain rfl:=ah h_73
       exact cu
     ·rintro ⟨⟩ _ sl_ H_ hp_ hq_
      refine aV _ hp_ hq_ (aa (gN (bU hD_5 hn_6) wz rfl (ae (vI ((k_2+1:Nat):Int)) wz rfl (aj ?_))))
      obtain rfl:=ah hc_8
      exact bC (k_2+1,l_3,v_72) ⟨hL_9,aY hD_5⟩ (ls_ _) rfl (aK rfl)
 ·rintro s_7 ho_ sl_ H_ hp_ hq_
  subst ho_
  refine aV _ hp_ hq_ (af (aa (ae (vS s_7) wz rfl (ae (vS s_7) wz rfl (aj ?_)))))
  obtain rfl:=ah hF
  exact ay (aX (.inr rfl) [(vS s_7)] ⟨rfl,trivial⟩ rfl rfl rfl)
end Go.Proofs.YtpmokglbipebcaaGreatDoor.Law

