/-
 The machine computes these plain functions (written by a program of ours).
-/
import Derived.Test.YtljhfffghjclfaaGreatDoorFacts
import Derived.Test.YtljhfffghjclfaaGreatDoorDefs
import Derived.Test.YtljhfffghjclfaaGreatDoorPf2
import Derived.Test.YtljhfffghjclfaaGreatDoorShelf
open Go Go.Eng Go.Proofs
namespace Go.Proofs.YtljhfffghjclfaaGreatDoor.Law
set_option maxRecDepth 100000
set_option linter.unusedVariables false
set_option maxHeartbeats 1000000
theorem yQ {a_1:Alert} {b_2:Alert} {r:Int} (hF:je a_1 b_2=some r) :
  FnM Tryz.prog 44 [(.d (.agg (Alert.enc a_1))),(.d (.agg (Alert.enc b_2)))] [] (vI r) []:=by
 refine FnM.of_wH ⟨Tryz.prog,17,[],[]⟩ rfl Tryz.func44 rfl rfl (lb_ rfl) (by kernel_rfl) ?_
 unfold je at hF
 refine ai (lY 0 (.inl rfl) (Alert.v a_1) rfl rfl wz (λn_3=>lY 0 (.inl rfl) (Alert.v b_2) rfl rfl wz (λn_4=>aa (vI 0) (ah (au (bQ (aG jb rfl 4 rfl wz (aI 1 0 (.inr (by kernel_rfl)) (λ_ _ ag=>trivial) sz3 ag3 rfl rfl (vI a_1.At) rfl wz (aG jb rfl 4 rfl wz (aI 3 1 (.inr (by kernel_rfl)) (λ_ _ ag=>⟨.inl ⟨rfl,rfl⟩,trivial⟩) sz3 ag3 rfl rfl (vI b_2.At) rfl wz ?_))))))))))
 obtain ⟨r_5,hr_6,hF⟩:=bind_some hF
 refine aD (wV hr_6) rfl hb74 rfl rfl rfl rfl wz (aG jT rfl 0 rfl wz (aI 6 0 (.inr (by kernel_rfl)) (λ_ _ ag=>⟨.inl ⟨rfl,rfl⟩,⟨.inl ⟨rfl,rfl⟩,trivial⟩⟩) sz9 ag9 rfl rfl (vS a_1.Id) rfl wz (aG jT rfl 0 rfl wz (aI 8 1 (.inr (by kernel_rfl)) (λ_ _ ag=>⟨.inl ⟨rfl,rfl⟩,⟨.inl ⟨rfl,rfl⟩,⟨.inl ⟨rfl,rfl⟩,trivial⟩⟩⟩) sz9 ag9 rfl rfl (vS b_2.Id) rfl wz ?_))))
 obtain ⟨r_7,hr_8,hF⟩:=bind_some hF
 refine aD (o6 hr_8) rfl hb53 rfl rfl rfl rfl wz (di (([r_5,r_7]:List Int).map eI) jZ uy rfl rfl rfl rfl rfl wz ?_)
 obtain ⟨r_9,hr_10,hF⟩:=bind_some hF
 refine aD (Cc hr_10) rfl hb73 rfl rfl rfl rfl wz (aa (vI r_9) (ah ?_))
 obtain rfl:=ae hF
 exact ax (aK [(vI r_9)] ⟨rfl,trivial⟩)
theorem kJ {l_1:(List Alert)} {r:Int} (hF:bS l_1=some r) :
  FnM Tryz.prog 22 [(vL Alert.enc l_1)] [] (vI r) []:=by
 refine FnM.of_wH ⟨Tryz.prog,52,[],[]⟩ rfl Tryz.func22 rfl rfl (lb_ rfl) (by kernel_rfl) ?_
 unfold bS at hF
 refine ai (aa (vI 0) (ah (au (ai (aa (vL Alert.enc l_1) (dz oK rfl wz (aa (vB (decide ((l_1.length:Int)>300))) (ah ?_))))))))
 rcases aj hF with⟨hc_2,hF⟩|⟨hc_2,hF⟩
 ·refine aC rfl hc_2 (ai (aa (vI 2) (ah ?_)))
  obtain rfl:=ae hF
  exact ax (aK [(vI 2)] ⟨rfl,trivial⟩)
 ·refine aB rfl hc_2 (aA (au (ai (aa (vL Alert.enc l_1) (dz oK rfl wz (aa (vI 0) (ah ?_)))))))
  obtain ⟨o_11,hj_12,hF⟩:=bind_some hF
  obtain ⟨hn_7,hj_12⟩:=bu hj_12
  refine dU (λ(s_8:Unit)=>[(0,(vL Alert.enc l_1))]) (λ(s_8:Unit)=>[]) (λ(k_3:Nat)=>(λ(s_8:Unit)=>[(0,(vL Alert.enc l_1)),(12,(vL Alert.enc l_1)),(13,(vI (l_1.length:Int))),(14,(vI (k_3:Int)))])) (λk x s=>dH l_1 k x s) o_11 l_1 () hj_12 rfl (aM rfl) ?_ ?_
  ·rintro ⟨k_3,l_4,s_8⟩ ⟨hL_10,hD_6⟩
   dsimp only at hL_10 hD_6
   cases l_4 with
   | nil =>
    obtain rfl:=ae hL_10
    refine ai (aa (vB (decide ((k_3:Int)<(l_1.length:Int)))) (ah ?_))
    refine au (aB rfl (drop_nil hD_6) (bO ?_))
    exact bD (s_8) rfl rfl (aM rfl)
   | cons x_5 l_4 =>
    obtain ⟨c_,hc_9,hL_10⟩:=bind_some hL_10
    refine ai (aa (vB (decide ((k_3:Int)<(l_1.length:Int)))) (ah ?_))
    refine au (aC rfl (bL hD_6) (aA ?_))
    unfold dH at hc_9
    refine au (aR (ai (aa (vI (k_3:Int)) (eD lJ rfl rfl (dh hD_6) rfl wz (bK iT mQ rfl (.d (.agg (Alert.enc x_5))) rfl wz (gN 0 (.inl rfl) z40 rfl wz (λn_13=>aa (vI (k_3:Int)) (fe 0 il ft 0 iT rfl rfl (Alert.v x_5) rfl wz (ah (au (ai (aI 0 0 il ft iT mQ rfl rfl (.d (.agg (Alert.enc x_5))) rfl wz ?_))))))))))))
    obtain ⟨r_14,hr_15,hc_9⟩:=bind_some hc_9
    refine aD (vH hr_15) rfl hb43 rfl rfl rfl rfl wz (aa (vI r_14) (ah (ai (aa (vI r_14) (aa (vB (r_14 != 0)) (ah ?_))))))
    rcases aj hc_9 with⟨hc_16,hc_9⟩|⟨hc_16,hc_9⟩
    ·refine aC rfl hc_16 (ai (aa (vI r_14) (aa (vI r_14) (ah ?_))))
     obtain rfl:=ae hc_9
     obtain rfl:=ae hL_10
     obtain rfl:=ae hF
     exact ax (aK [(vI r_14)] ⟨rfl,trivial⟩)
    ·refine aB rfl hc_16 (aA (au ?_))
     obtain ⟨v_17,h_18,hc_9⟩:=bind_some hc_9
     refine aN [(0,(vL Alert.enc l_1)),(12,(vL Alert.enc l_1)),(13,(vI (l_1.length:Int))),(14,(vI (k_3:Int))),(35,(vB v_17))] [(n_13,some (.cells 9 (Alert.v x_5)))] ?_ ?_
     ·refine bQ (aa (vI (k_3:Int)) (aa (vB (decide ((k_3:Int)>0))) ?_))
      rcases aj h_18 with⟨hc_19,h_18⟩|⟨hc_19,h_18⟩
      ·refine ay rfl hc_19 wz (aH (vL Alert.enc l_1) wa rfl (aH (vI (k_3:Int)) wa rfl (aH (vI (w64 ((k_3:Int)-1))) wa rfl ?_)))
       obtain ⟨y_20,hy_21,h_18⟩:=bind_some h_18
       refine eD lJ rfl rfl hy_21 rfl wa (bK iT mQ rfl (.d (.agg (Alert.enc y_20))) rfl wa (aI 8 0 (.inr (by kernel_rfl)) (λ_ _ ag=>trivial) iT mQ rfl rfl (.d (.agg (Alert.enc x_5))) rfl wa ?_))
       obtain ⟨r_22,hr_23,h_18⟩:=bind_some h_18
       refine aD (yQ hr_23) rfl hb44 rfl rfl rfl rfl wa (aH (vB (decide (r_22>=0))) wa rfl (aa (vB (decide (r_22>=0))) (ah ?_)))
       obtain rfl:=ae h_18
       exact cu
      ·refine ay rfl hc_19 wz (af (af (af (af (af (af (af (af (aa (vB false) (ah ?_))))))))))
       obtain rfl:=ae h_18
       exact cu
     ·rintro ⟨⟩ _ sl_ H_ hp_ hq_
      refine aP _ hp_ hq_ ?_
      rcases aj hc_9 with⟨hc_24,hc_9⟩|⟨hc_24,hc_9⟩
      ·refine aC rfl hc_24 (ai (aa (vI 7) (ah ?_)))
       obtain rfl:=ae hc_9
       obtain rfl:=ae hL_10
       obtain rfl:=ae hF
       exact ax (aK [(vI 7)] ⟨rfl,trivial⟩)
      ·refine aB rfl hc_24 (aA (av (gY (cZ hD_6 hn_7) wz rfl (aa (vI ((k_3+1:Nat):Int)) (ah ?_)))))
       obtain rfl:=ae hc_9
       exact bN (k_3+1,l_4,()) ⟨hL_10,bn hD_6⟩ (ls_ _) rfl (aM rfl)
  ·rintro s_8 ho_ sl_ H_ hp_ hq_
   subst ho_
   refine aP _ hp_ hq_ (ai (Ee 0 (.inl rfl) wz (λn_25=>mJ (b':=some (bM D.str D.bool ([]:List (ByteArray×Bool)))) 0 rfl rfl (aa (.map n_25) (ah (au (ai (aa (vL Alert.enc l_1) (dz oK rfl wz (aa (vI 0) (ah ?_)))))))))))
   obtain ⟨o_34,hj_35,hF⟩:=bind_some hF
   obtain ⟨hn_30,hj_35⟩:=bu hj_35
   refine dU (λ(s_31:(List (ByteArray×Bool)))=>[]) (λ(s_31:(List (ByteArray×Bool)))=>[(n_25,some (bM D.str D.bool s_31))]) (λ(k_26:Nat)=>(λ(s_31:(List (ByteArray×Bool)))=>[(6,(.map n_25)),(38,(vL Alert.enc l_1)),(39,(vI (l_1.length:Int))),(40,(vI (k_26:Int)))])) (λk x s=>bP k x s) o_34 l_1 ([]:List (ByteArray×Bool)) hj_35 rfl (aM rfl) ?_ ?_
   ·rintro ⟨k_26,l_27,s_31⟩ ⟨hL_33,hD_29⟩
    dsimp only at hL_33 hD_29
    cases l_27 with
    | nil =>
     obtain rfl:=ae hL_33
     refine ai (aa (vB (decide ((k_26:Int)<(l_1.length:Int)))) (ah ?_))
     refine au (aB rfl (drop_nil hD_29) (bO ?_))
     exact bD (s_31) rfl rfl (aM rfl)
    | cons x_28 l_27 =>
     obtain ⟨c_,hc_32,hL_33⟩:=bind_some hL_33
     refine ai (aa (vB (decide ((k_26:Int)<(l_1.length:Int)))) (ah ?_))
     refine au (aC rfl (bL hD_29) (aA ?_))
     unfold bP at hc_32
     refine au (aR (ai (eD lJ rfl rfl (dh hD_29) rfl wz (bK iT mQ rfl (.d (.agg (Alert.enc x_28))) rfl wz (gN 0 (.inl rfl) z40 rfl wz (λn_36=>fe 0 il ft 1 iT rfl rfl (Alert.v x_28) rfl wz (ah (au (ai (aa (.map n_25) (aG jT rfl 0 rfl wz (aI 0 1 il ft sz9 ag9 rfl rfl (vS x_28.Id) rfl wz (GQ (eq:=eqS) (kD:=D.str) (vD:=D.bool) (es:=s_31) (k:=x_28.Id) (z:=false) 0 0 il ft (λ_ _=>rfl) mt68 (by kernel_rfl) (by kernel_rfl) rfl rfl rfl (vB ((eX eqS s_31 x_28.Id).getD false)) rfl wz (ah ?_))))))))))))))
     rcases aj hc_32 with⟨hc_37,hc_32⟩|⟨hc_37,hc_32⟩
     ·refine aC rfl hc_37 (ai (aa (vI 6) (ah ?_)))
      obtain rfl:=ae hc_32
      obtain rfl:=ae hL_33
      obtain rfl:=ae hF
      exact ax (aK [(vI 6)] ⟨rfl,trivial⟩)
     ·refine aB rfl hc_37 (aA (av (aa (.map n_25) (aG jT rfl 0 rfl wz (aI 0 1 il ft sz9 ag9 rfl rfl (vS x_28.Id) rfl wz (FX (eq:=eqS) (kD:=D.str) (vD:=D.bool) (es:=s_31) (k:=x_28.Id) (v:=true) 0 0 il ft (λ_ _=>rfl) mt68 (by kernel_rfl) rfl rfl rfl rfl wz (ah (av (gY (cZ hD_29 hn_30) wz rfl (aa (vI ((k_26+1:Nat):Int)) (ah ?_)))))))))))
      obtain rfl:=ae hc_32
      exact bN (k_26+1,l_27,(aO eqS s_31 x_28.Id true)) ⟨hL_33,bn hD_29⟩ (ls_ _) rfl (aM rfl)
   ·rintro s_31 ho_ sl_ H_ hp_ hq_
    subst ho_
    refine aP _ hp_ hq_ (ai (aa (vI 0) (ah ?_)))
    obtain rfl:=ae hF
    exact ax (aK [(vI 0)] ⟨rfl,trivial⟩)
theorem pJ {r:(List ByteArray)} (hF:gQ  = some r) :
  FnM Tryz.prog 25 [] [] (vL eS r) []:=by
 refine FnM.of_wH ⟨Tryz.prog,2,[],[]⟩ rfl Tryz.func25 rfl rfl (lb_ rfl) (by kernel_rfl) ?_
 unfold gQ at hF
 refine ai (aa .nil (ah (ai (di (([(⟨#[]⟩:ByteArray),(⟨#[110,101,119]⟩:ByteArray),(⟨#[117,112,100,97,116,101]⟩:ByteArray),(⟨#[99,97,110,99,101,108]⟩:ByteArray)]:List ByteArray).map eS) fO nE rfl rfl rfl rfl rfl wz (aa (vL eS ([(⟨#[]⟩:ByteArray),(⟨#[110,101,119]⟩:ByteArray),(⟨#[117,112,100,97,116,101]⟩:ByteArray),(⟨#[99,97,110,99,101,108]⟩:ByteArray)]:List ByteArray)) (ah ?_))))))
 obtain rfl:=ae hF
 exact ax (aK [(vL eS ([(⟨#[]⟩:ByteArray),(⟨#[110,101,119]⟩:ByteArray),(⟨#[117,112,100,97,116,101]⟩:ByteArray),(⟨#[99,97,110,99,101,108]⟩:ByteArray)]:List ByteArray))] ⟨rfl,trivial⟩)
theorem ug {first_1:ByteArray} {numbers_2:(List Int)} {r:ByteArray} (hF:kr first_1 numbers_2=some r) :
  FnM Tryz.prog 24 [(vS first_1),(vL eI numbers_2)] [] (vS r) []:=by
 refine FnM.of_wH ⟨Tryz.prog,21,[],[]⟩ rfl Tryz.func24 rfl rfl (lb_ rfl) (by kernel_rfl) ?_
 unfold kr at hF
 refine ai (aa (vS (⟨#[]⟩:ByteArray)) (ah (au (ai (aa (vL eI numbers_2) (dz IA rfl wz (aa (vI 0) (ah ?_))))))))
 obtain ⟨o_11,hj_12,hF⟩:=bind_some hF
 obtain ⟨hn_7,hj_12⟩:=bu hj_12
 refine dU (λ(s_8:ByteArray)=>[(0,(vS s_8))]) (λ(s_8:ByteArray)=>[]) (λ(k_3:Nat)=>(λ(s_8:ByteArray)=>[(0,(vS s_8)),(7,(vL eI numbers_2)),(8,(vI (numbers_2.length:Int))),(9,(vI (k_3:Int)))])) (λk x s=>jg k x s) o_11 numbers_2 first_1 hj_12 rfl (aM rfl) ?_ ?_
 ·rintro ⟨k_3,l_4,s_8⟩ ⟨hL_10,hD_6⟩
  dsimp only at hL_10 hD_6
  cases l_4 with
  | nil =>
   obtain rfl:=ae hL_10
   refine ai (aa (vB (decide ((k_3:Int)<(numbers_2.length:Int)))) (ah ?_))
   refine au (aB rfl (drop_nil hD_6) (bO ?_))
   exact bD (s_8) rfl rfl (aM rfl)
  | cons x_5 l_4 =>
   obtain ⟨c_,hc_9,hL_10⟩:=bind_some hL_10
   refine ai (aa (vB (decide ((k_3:Int)<(numbers_2.length:Int)))) (ah ?_))
   refine au (aC rfl (bL hD_6) (aA ?_))
   unfold jg at hc_9
   refine au (aR (ai (eD jZ rfl rfl (dh hD_6) rfl wz (bK sz3 ag3 rfl (vI x_5) rfl wz (aa (vI x_5) (ah (av (aa (vS s_8) (aa (vI x_5) ?_)))))))))
   obtain ⟨r_13,hr_14,hc_9⟩:=bind_some hc_9
   refine aD (ow hr_14) rfl hb46 rfl rfl rfl rfl wz ?_
   obtain ⟨s_15,hz_16,hc_9⟩:=bind_some hc_9
   refine gq rfl rfl hz_16 wz ?_
   obtain ⟨s_17,hz_18,hc_9⟩:=bind_some hc_9
   refine gq rfl rfl hz_18 wz (aa (vS s_17) (ah (av (gY (cZ hD_6 hn_7) wz rfl (aa (vI ((k_3+1:Nat):Int)) (ah ?_))))))
   obtain rfl:=ae hc_9
   exact bN (k_3+1,l_4,s_17) ⟨hL_10,bn hD_6⟩ (ls_ _) rfl (aM rfl)
 ·rintro s_8 ho_ sl_ H_ hp_ hq_
  subst ho_
  refine aP _ hp_ hq_ (ai (aa (vS s_8) ?_))
  obtain ⟨s_19,hz_20,hF⟩:=bind_some hF
  refine gq rfl rfl hz_20 wz (aa (vS s_19) (ah ?_))
  obtain rfl:=ae hF
  exact ax (aK [(vS s_19)] ⟨rfl,trivial⟩)
theorem xV:qQ Tryz.prog 23 56 54 9 :=
 KX Tryz.lays166 Tryz.Builder_Extra_166
theorem xR:BldT Tryz.prog 54 9 5 :=
 ⟨by kernel_rfl,by kernel_rfl,by kernel_rfl,by kernel_rfl,by kernel_rfl,rfl⟩
theorem Mg:xG Tryz.prog 26 56 :=
 lenDoes Tryz.lays170
theorem LD:uV Tryz.prog 27 56 :=
 strDoes Tryz.lays169 Tryz.Builder_Extra_169 rfl
theorem Cq {l_1:(List Alert)} {r:ByteArray×Int} (hF:lI l_1=some r) :
  FnM Tryz.prog 6 [(vL Alert.enc l_1)] [] (.tup [(vS r.1),(vI r.2)]) []:=by
 refine FnM.of_wH ⟨Tryz.prog,89,[5],[]⟩ rfl Tryz.func6 rfl rfl (lb_ rfl) (by kernel_rfl) ?_
 unfold lI at hF
 refine ai (aa (vS (⟨#[]⟩:ByteArray)) (aa (vI 0) (ah (au (ai (aa (vL Alert.enc l_1) ?_))))))
 obtain ⟨r_2,hr_3,hF⟩:=bind_some hF
 refine aD (kJ hr_3) rfl hb22 rfl rfl rfl rfl wz (aa (vI r_2) (ah (ai (aa (vI r_2) (aa (vB (r_2 != 0)) (ah ?_))))))
 rcases aj hF with⟨hc_4,hF⟩|⟨hc_4,hF⟩
 ·refine aC rfl hc_4 (ai (aa (vI r_2) (aa (vS (⟨#[]⟩:ByteArray)) (aa (vI r_2) (ah ?_)))))
  obtain rfl:=ae hF
  exact ax (aK [(vS (⟨#[]⟩:ByteArray)),(vI r_2)] ⟨rfl,⟨rfl,trivial⟩⟩)
 ·refine aB rfl hc_4 (aA (ai (Mk 0 (.inl rfl) z56 wz (λn_5=>lF (λn_6=>mJ (b':=some (.cells (1048576+56) [.any,gV n_6 1 ([]:List Int)])) 0 rfl rfl (ah (au (ai (aa (vL Alert.enc l_1) (dz oK rfl wz (aa (vI 0) (ah ?_))))))))))))
  obtain ⟨o_17,hj_18,hF⟩:=bind_some hF
  obtain ⟨hn_11,hj_18⟩:=bu hj_18
  refine iZ (σ:=(List Int)) (N:=Nm) (λp=>(λ(s_12:List Int) (n_14:Nm)=>([(5,(.ref n_5 0 0))]:SL_)) p.1 p.2) (λp=>(λ(s_12:List Int) (n_14:Nm)=>([(n_5,some (.cells (1048576+56) [.any,(gV n_14 1 s_12)])),(n_14,gB 1 (eK .u8) s_12)]:Hp)) p.1 p.2) (λ(k_7:Nat)=>(λp=>(λ(s_12:List Int) (n_14:Nm)=>([(5,(.ref n_5 0 0)),(17,(vL Alert.enc l_1)),(18,(vI (l_1.length:Int))),(19,(vI (k_7:Int)))]:SL_)) p.1 p.2)) (λk x s=>jO k x s) o_17 l_1 (([]:List Int),n_6) hj_18 rfl (aM rfl) ?_ ?_
  ·rintro ⟨k_7,l_8,s_12,n_14⟩ ⟨hL_16,hD_10⟩
   dsimp only at hL_16 hD_10
   cases l_8 with
   | nil =>
    obtain rfl:=ae hL_16
    refine ai (aa (vB (decide ((k_7:Int)<(l_1.length:Int)))) (ah ?_))
    refine au (aB rfl (drop_nil hD_10) (bO ?_))
    exact bD (s_12,n_14) rfl rfl (aM rfl)
   | cons x_9 l_8 =>
    obtain ⟨c_,hc_15,hL_16⟩:=bind_some hL_16
    refine ai (aa (vB (decide ((k_7:Int)<(l_1.length:Int)))) (ah ?_))
    refine au (aC rfl (bL hD_10) (aA ?_))
    unfold jO at hc_15
    refine au (aR (ai (eD lJ rfl rfl (dh hD_10) rfl wz (bK iT mQ rfl (.d (.agg (Alert.enc x_9))) rfl wz (gN 0 (.inl rfl) z40 rfl wz (λn_19=>fe 0 il ft 2 iT rfl rfl (Alert.v x_9) rfl wz (ah (au (bQ (aG jT rfl 0 rfl wz (aI 1 2 (.inr (by kernel_rfl)) (λ_ _ ag=>trivial) sz9 ag9 rfl rfl (vS x_9.Id) rfl wz ?_)))))))))))
    obtain ⟨s_20,hz_21,hc_15⟩:=bind_some hc_15
    refine gq rfl rfl hz_21 wz ?_
    obtain ⟨s_22,hz_23,hc_15⟩:=bind_some hc_15
    refine gq rfl rfl hz_23 wz (aG Bo rfl 1 rfl wz (aI 5 2 (.inr (by kernel_rfl)) (λ_ _ ag=>⟨.inl ⟨rfl,rfl⟩,trivial⟩) sz9 ag9 rfl rfl (vS x_9.Sender) rfl wz ?_))
    obtain ⟨s_24,hz_25,hc_15⟩:=bind_some hc_15
    refine gq rfl rfl hz_25 wz ?_
    obtain ⟨s_26,hz_27,hc_15⟩:=bind_some hc_15
    refine gq rfl rfl hz_27 wz ?_
    obtain ⟨r_28,hr_29,hc_15⟩:=bind_some hc_15
    refine aD (pJ hr_29) rfl hb25 rfl rfl rfl rfl wz (aG mr rfl 2 rfl wz (aI 10 2 (.inr (by kernel_rfl)) (λ_ _ ag=>⟨.inl ⟨rfl,rfl⟩,⟨.inl ⟨rfl,rfl⟩,trivial⟩⟩) sz3 ag3 rfl rfl (vI x_9.Kind) rfl wz ?_))
    obtain ⟨y_30,hy_31,hc_15⟩:=bind_some hc_15
    refine eD fO rfl rfl hy_31 rfl wz (bK sz9 ag9 rfl (vS y_30) rfl wz ?_)
    obtain ⟨s_32,hz_33,hc_15⟩:=bind_some hc_15
    refine gq rfl rfl hz_33 wz (aG jb rfl 4 rfl wz (aI 15 2 (.inr (by kernel_rfl)) (λ_ _ ag=>⟨.inl ⟨rfl,rfl⟩,⟨.inl ⟨rfl,rfl⟩,⟨.inl ⟨rfl,rfl⟩,trivial⟩⟩⟩) sz3 ag3 rfl rfl (vI x_9.At) rfl wz (aG wC rfl 5 rfl wz (aI 17 2 (.inr (by kernel_rfl)) (λ_ _ ag=>⟨.inl ⟨rfl,rfl⟩,⟨.inl ⟨rfl,rfl⟩,⟨.inl ⟨rfl,rfl⟩,⟨.inl ⟨rfl,rfl⟩,trivial⟩⟩⟩⟩) sz3 ag3 rfl rfl (vI x_9.Until) rfl wz (aG Aw rfl 6 rfl wz (aI 19 2 (.inr (by kernel_rfl)) (λ_ _ ag=>⟨.inl ⟨rfl,rfl⟩,⟨.inl ⟨rfl,rfl⟩,⟨.inl ⟨rfl,rfl⟩,⟨.inl ⟨rfl,rfl⟩,⟨.inl ⟨rfl,rfl⟩,trivial⟩⟩⟩⟩⟩) sz3 ag3 rfl rfl (vI x_9.Weight) rfl wz (di (([x_9.At,x_9.Until,x_9.Weight]:List Int).map eI) jZ uy rfl rfl rfl rfl rfl wz ?_)))))))
    obtain ⟨r_34,hr_35,hc_15⟩:=bind_some hc_15
    refine aD (ug hr_35) rfl hb24 rfl rfl rfl rfl wz ?_
    obtain ⟨a_36,hz_37,hc_15⟩:=bind_some hc_15
    refine u6 22 0 1 (.inr (by kernel_rfl)) (λ_ _ ag=>⟨.inr (.inr (by kernel_rfl)),⟨.inr (.inr (by kernel_rfl)),⟨.inr (.inr (by kernel_rfl)),⟨.inr (.inr (by kernel_rfl)),⟨.inr (.inr (by kernel_rfl)),⟨.inr (.inr (by kernel_rfl)),trivial⟩⟩⟩⟩⟩⟩) xV xR rfl hb23 rfl rfl rfl rfl (by decide) hz_37 wz (λn_38=>ah (au (ai (aG iK rfl 3 rfl wz (aI 0 2 il ft oI uP rfl rfl (vL eS x_9.Refs) rfl wz (dz kQ rfl wz (aa (vI 0) (ah (aP (H0:=([(n_5,some (.cells (1048576+56) [.any,(gV n_38 1 a_36)])),(n_38,gB 1 (eK .u8) a_36),(n_19,some (.cells 9 (Alert.v x_9)))]:Hp)) ([(5,(.ref n_5 0 0)),(7,(.ref n_19 0 0)),(17,(vL Alert.enc l_1)),(18,(vI (l_1.length:Int))),(19,(vI (k_7:Int))),(47,(vL eS x_9.Refs)),(48,(vI (x_9.Refs.length:Int))),(49,(vI 0))]:SL_) (by kernel_rfl) (qb (by kernel_rfl)) ?_)))))))))
    obtain ⟨o_49,hj_50,hc_15⟩:=bind_some hc_15
    obtain ⟨hn_43,hj_50⟩:=bu hj_50
    refine iZ (σ:=(List Int)) (N:=Nm) (λp=>(λ(s_44:List Int) (n_46:Nm)=>([(5,(.ref n_5 0 0)),(7,(.ref n_19 0 0)),(17,(vL Alert.enc l_1)),(18,(vI (l_1.length:Int))),(19,(vI (k_7:Int)))]:SL_)) p.1 p.2) (λp=>(λ(s_44:List Int) (n_46:Nm)=>([(n_5,some (.cells (1048576+56) [.any,(gV n_46 1 s_44)])),(n_46,gB 1 (eK .u8) s_44),(n_19,some (.cells 9 (Alert.v x_9)))]:Hp)) p.1 p.2) (λ(k_39:Nat)=>(λp=>(λ(s_44:List Int) (n_46:Nm)=>([(5,(.ref n_5 0 0)),(7,(.ref n_19 0 0)),(17,(vL Alert.enc l_1)),(18,(vI (l_1.length:Int))),(19,(vI (k_7:Int))),(47,(vL eS x_9.Refs)),(48,(vI (x_9.Refs.length:Int))),(49,(vI (k_39:Int)))]:SL_)) p.1 p.2)) (λk x s=>jN k x s) o_49 x_9.Refs (a_36,n_38) hj_50 rfl (aM rfl) ?_ ?_
    ·rintro ⟨k_39,l_40,s_44,n_46⟩ ⟨hL_48,hD_42⟩
     dsimp only at hL_48 hD_42
     cases l_40 with
     | nil =>
      obtain rfl:=ae hL_48
      refine ai (aa (vB (decide ((k_39:Int)<(x_9.Refs.length:Int)))) (ah ?_))
      refine au (aB rfl (drop_nil hD_42) (bO ?_))
      exact bD (s_44,n_46) rfl rfl (aM rfl)
     | cons x_41 l_40 =>
      obtain ⟨c_,hc_47,hL_48⟩:=bind_some hL_48
      refine ai (aa (vB (decide ((k_39:Int)<(x_9.Refs.length:Int)))) (ah ?_))
      refine au (aC rfl (bL hD_42) (aA ?_))
      unfold jN at hc_47
      refine au (aR (ai (eD fO rfl rfl (dh hD_42) rfl wz (bK sz9 ag9 rfl (vS x_41) rfl wz (aa (vS x_41) (ah (av (aa (vS x_41) ?_))))))))
      obtain ⟨s_51,hz_52,hc_47⟩:=bind_some hc_47
      refine gq rfl rfl hz_52 wz ?_
      obtain ⟨s_53,hz_54,hc_47⟩:=bind_some hc_47
      refine gq rfl rfl hz_54 wz ?_
      obtain ⟨a_55,hz_56,hc_47⟩:=bind_some hc_47
      refine u6 0 0 1 il ft xV xR rfl hb23 rfl rfl rfl rfl (by decide) hz_56 wz (λn_57=>ah (av (gY (cZ hD_42 hn_43) wz rfl (aa (vI ((k_39+1:Nat):Int)) (ah ?_)))))
      obtain rfl:=ae hc_47
      exact bN (k_39+1,l_40,a_55,n_57) ⟨hL_48,bn hD_42⟩ (ls_ _) rfl (aM rfl)
    ·rintro ⟨s_44,n_46⟩ ho_ sl_ H_ hp_ hq_
     subst ho_
     refine aP _ hp_ hq_ (au (ai (aG jE rfl 7 rfl wz (aI 0 2 il ft rR xZ rfl rfl (vL Rect.enc x_9.Areas) rfl wz (dz Cx rfl wz (aa (vI 0) (ah ?_)))))))
     obtain ⟨o_68,hj_69,hc_15⟩:=bind_some hc_15
     obtain ⟨hn_62,hj_69⟩:=bu hj_69
     refine iZ (σ:=(List Int)) (N:=Nm) (λp=>(λ(s_63:List Int) (n_65:Nm)=>([(5,(.ref n_5 0 0)),(7,(.ref n_19 0 0)),(17,(vL Alert.enc l_1)),(18,(vI (l_1.length:Int))),(19,(vI (k_7:Int)))]:SL_)) p.1 p.2) (λp=>(λ(s_63:List Int) (n_65:Nm)=>([(n_5,some (.cells (1048576+56) [.any,(gV n_65 1 s_63)])),(n_65,gB 1 (eK .u8) s_63),(n_19,some (.cells 9 (Alert.v x_9)))]:Hp)) p.1 p.2) (λ(k_58:Nat)=>(λp=>(λ(s_63:List Int) (n_65:Nm)=>([(5,(.ref n_5 0 0)),(7,(.ref n_19 0 0)),(17,(vL Alert.enc l_1)),(18,(vI (l_1.length:Int))),(19,(vI (k_7:Int))),(59,(vL Rect.enc x_9.Areas)),(60,(vI (x_9.Areas.length:Int))),(61,(vI (k_58:Int)))]:SL_)) p.1 p.2)) (λk x s=>jQ k x s) o_68 x_9.Areas (s_44,n_46) hj_69 rfl (aM rfl) ?_ ?_
     ·rintro ⟨k_58,l_59,s_63,n_65⟩ ⟨hL_67,hD_61⟩
      dsimp only at hL_67 hD_61
      cases l_59 with
      | nil =>
       obtain rfl:=ae hL_67
       refine ai (aa (vB (decide ((k_58:Int)<(x_9.Areas.length:Int)))) (ah ?_))
       refine au (aB rfl (drop_nil hD_61) (bO ?_))
       exact bD (s_63,n_65) rfl rfl (aM rfl)
      | cons x_60 l_59 =>
       obtain ⟨c_,hc_66,hL_67⟩:=bind_some hL_67
       refine ai (aa (vB (decide ((k_58:Int)<(x_9.Areas.length:Int)))) (ah ?_))
       refine au (aC rfl (bL hD_61) (aA ?_))
       unfold jQ at hc_66
       refine au (aR (ai (eD Au rfl rfl (dh hD_61) rfl wz (bK nW Aj rfl (.d (.agg (Rect.enc x_60))) rfl wz (gN 0 (.inl rfl) z64 rfl wz (λn_70=>fe 0 il ft 3 nW rfl rfl (Rect.v x_60) rfl wz (ah (av (aG rZ rfl 0 rfl wz (aI 0 3 il ft sz3 ag3 rfl rfl (vI x_60.X) rfl wz (aG sI rfl 1 rfl wz (aI 0 3 il ft sz3 ag3 rfl rfl (vI x_60.Y) rfl wz (aG yG rfl 2 rfl wz (aI 0 3 il ft sz3 ag3 rfl rfl (vI x_60.W) rfl wz (aG wy rfl 3 rfl wz (aI 0 3 il ft sz3 ag3 rfl rfl (vI x_60.H) rfl wz (di (([x_60.X,x_60.Y,x_60.W,x_60.H]:List Int).map eI) jZ uy rfl rfl rfl rfl rfl wz ?_)))))))))))))))))
       obtain ⟨r_71,hr_72,hc_66⟩:=bind_some hc_66
       refine aD (ug hr_72) rfl hb24 rfl rfl rfl rfl wz ?_
       obtain ⟨a_73,hz_74,hc_66⟩:=bind_some hc_66
       refine u6 0 0 1 il ft xV xR rfl hb23 rfl rfl rfl rfl (by decide) hz_74 wz (λn_75=>ah (av (gY (cZ hD_61 hn_62) wz rfl (aa (vI ((k_58+1:Nat):Int)) (ah ?_)))))
       obtain rfl:=ae hc_66
       exact bN (k_58+1,l_59,a_73,n_75) ⟨hL_67,bn hD_61⟩ (ls_ _) rfl (aM rfl)
     ·rintro ⟨s_63,n_65⟩ ho_ sl_ H_ hp_ hq_
      subst ho_
      refine aP _ hp_ hq_ (ai (aG kC rfl 8 rfl wz (aI 0 2 il ft sz9 ag9 rfl rfl (vS x_9.Text) rfl wz (aa (vB (sNe x_9.Text (⟨#[]⟩:ByteArray))) (ah ?_)))))
      obtain ⟨v_76,h_77,hc_15⟩:=bind_some hc_15
      refine lG (β:=Nm) (λ(n_78:Nm)=>([(5,(.ref n_5 0 0)),(17,(vL Alert.enc l_1)),(18,(vI (l_1.length:Int))),(19,(vI (k_7:Int)))]:SL_)) (λ(n_78:Nm)=>([(n_5,some (.cells (1048576+56) [.any,(gV n_78 1 v_76)])),(n_78,gB 1 (eK .u8) v_76),(n_19,some (.cells 9 (Alert.v x_9)))]:Hp)) (λ_=>True) ?_ ?_
      ·rcases aj h_77 with⟨hc_79,h_77⟩|⟨hc_79,h_77⟩
       ·refine aC rfl hc_79 (av (aG kC rfl 8 rfl wz (aI 0 2 il ft sz9 ag9 rfl rfl (vS x_9.Text) rfl wz ?_)))
        obtain ⟨s_80,hz_81,h_77⟩:=bind_some h_77
        refine gq rfl rfl hz_81 wz ?_
        obtain ⟨s_82,hz_83,h_77⟩:=bind_some h_77
        refine gq rfl rfl hz_83 wz ?_
        obtain ⟨a_84,hz_85,h_77⟩:=bind_some h_77
        refine u6 0 0 1 il ft xV xR rfl hb23 rfl rfl rfl rfl (by decide) hz_85 wz (λn_86=>ah ?_)
        obtain rfl:=ae h_77
        exact bD n_86 trivial rfl (aM rfl)
       ·refine aB rfl hc_79 (aA ?_)
        obtain rfl:=ae h_77
        exact bD n_65 trivial rfl (aM rfl)
      ·rintro n_78 _ sl_ H_ hp_ hq_
       refine aP _ hp_ hq_ (av (gY (cZ hD_10 hn_11) wz rfl (aa (vI ((k_7+1:Nat):Int)) (ah ?_))))
       obtain rfl:=ae hc_15
       exact bN (k_7+1,l_8,v_76,n_78) ⟨hL_16,bn hD_10⟩ (ls_ _) rfl (aM rfl)
  ·rintro ⟨s_12,n_14⟩ ho_ sl_ H_ hp_ hq_
   subst ho_
   refine aP _ hp_ hq_ (au (ai (h_blenL 0 0 1 il ft Mg rfl hb26 rfl rfl rfl (by decide) wz (aa (vB (decide ((s_12.length:Int)>200000))) (ah ?_)))))
   rcases aj hF with⟨hc_87,hF⟩|⟨hc_87,hF⟩
   ·refine aC rfl hc_87 (ai (aa (vS (⟨#[]⟩:ByteArray)) (aa (vI 2) (ah ?_))))
    obtain rfl:=ae hF
    exact ax (aK [(vS (⟨#[]⟩:ByteArray)),(vI 2)] ⟨rfl,⟨rfl,trivial⟩⟩)
   ·refine aB rfl hc_87 (aA (ai ?_))
    obtain ⟨s_88,hz_89,hF⟩:=bind_some hF
    refine h_bstrL 0 0 1 il ft LD rfl hb27 rfl rfl rfl (by decide) hz_89 wz (aa (vS s_88) (aa (vI 0) (ah ?_)))
    obtain rfl:=ae hF
    exact ax (aK [(vS s_88),(vI 0)] ⟨rfl,⟨rfl,trivial⟩⟩)
theorem kS {n_1:Int} {low_2:Int} {high_3:Int} {r:Bool} (hF:mI n_1 low_2 high_3=some r) :
  FnM Tryz.prog 48 [(vI n_1),(vI low_2),(vI high_3)] [] (vB r) []:=by
 refine FnM.of_wH ⟨Tryz.prog,15,[],[]⟩ rfl Tryz.func48 rfl rfl (lb_ rfl) (by kernel_rfl) ?_
 unfold mI at hF
 refine ai (aa (vB false) (ah (au ?_)))
 obtain ⟨v_4,h_5,hF⟩:=bind_some hF
 refine aN [(6,(vB v_4))] [] ?_ ?_
 ·refine av (aa (vI low_2) (aa (vI n_1) (aa (vB (decide (low_2<=n_1))) ?_)))
  rcases aj h_5 with⟨hc_6,h_5⟩|⟨hc_6,h_5⟩
  ·refine ay rfl hc_6 wz (aH (vI n_1) wa rfl (aH (vI high_3) wa rfl (aH (vB (decide (n_1<=high_3))) wa rfl (aa (vB (decide (n_1<=high_3))) (aa (vB (decide (n_1<=high_3))) (ah ?_))))))
   obtain rfl:=ae h_5
   exact cu
  ·refine ay rfl hc_6 wz (af (af (af (aa (vB false) (aa (vB false) (ah ?_))))))
   obtain rfl:=ae h_5
   exact cu
 ·rintro ⟨⟩ _ sl_ H_ hp_ hq_
  refine aP _ hp_ hq_ ?_
  obtain rfl:=ae hF
  exact ax (aK [(vB v_4)] ⟨rfl,trivial⟩)
theorem iR {s_1:ByteArray} {c_2:Int} {r:Int} (hF:dB s_1 c_2=some r) :
  FnM Tryz.prog 135 [(vS s_1),(.d (.int .u8 c_2))] [] (vI r) []:=by
 refine FnM.of_wH ⟨Tryz.prog,8,[],[]⟩ rfl Tryz.func135 rfl rfl (lb_ rfl) (by kernel_rfl) ?_
 unfold dB at hF
 refine ai (aa (vI 0) (ah (ai (aa (vS s_1) (aa (.d (.int .u8 c_2)) (h_ext (ext_ixB (f:=155) Tryz.func155 rfl rfl (by kernel_rfl) (by kernel_rfl) _ _) rfl nb155 rfl wz (aa (vI (ixB s_1 c_2)) (ah ?_))))))))
 obtain rfl:=ae hF
 exact ax (aK [(vI (ixB s_1 c_2))] ⟨rfl,trivial⟩)
theorem uM {s_1:ByteArray} {c_2:Int} {r:Int} (hF:strings_IndexByte s_1 c_2=some r) :
  FnM Tryz.prog 106 [(vS s_1),(.d (.int .u8 c_2))] [] (vI r) []:=by
 refine FnM.of_wH ⟨Tryz.prog,8,[],[]⟩ rfl Tryz.func106 rfl rfl (lb_ rfl) (by kernel_rfl) ?_
 unfold strings_IndexByte at hF
 refine ai (aa (vI 0) (ah (ai (aa (vS s_1) (aa (.d (.int .u8 c_2)) ?_)))))
 obtain ⟨r_3,hr_4,hF⟩:=bind_some hF
 refine aD (iR hr_4) rfl hb135 rfl rfl rfl rfl wz (aa (vI r_3) (ah ?_))
 obtain rfl:=ae hF
 exact ax (aK [(vI r_3)] ⟨rfl,trivial⟩)
theorem uj {s_1:ByteArray} {somev_2:ByteArray} {r:Bool} (hF:nQ s_1 somev_2=some r) :
  FnM Tryz.prog 77 [(vS s_1),(vS somev_2)] [] (vB r) []:=by
 refine FnM.of_wH ⟨Tryz.prog,18,[],[]⟩ rfl Tryz.func77 rfl rfl (lb_ rfl) (by kernel_rfl) ?_
 unfold nQ at hF
 refine ai (aa (vB false) (ah (au (ai (aa (vS s_1) (iU un9 rfl wz (aa (vI 0) (ah ?_))))))))
 obtain ⟨o_11,hj_12,hF⟩:=bind_some hF
 obtain ⟨hn_7,hj_12⟩:=bu hj_12
 refine dU (λ(s_8:Unit)=>[]) (λ(s_8:Unit)=>[]) (λ(k_3:Nat)=>(λ(s_8:Unit)=>[(0,(vS s_1)),(1,(vS somev_2)),(7,(vI (s_1.size:Int))),(8,(vI (k_3:Int)))])) (λk x s=>l6 s_1 somev_2 k x s) o_11 (List.range ((s_1.size:Int)).toNat) () hj_12 rfl (aM rfl) ?_ ?_
 ·rintro ⟨k_3,l_4,s_8⟩ ⟨hL_10,hD_6⟩
  dsimp only at hL_10 hD_6
  cases l_4 with
  | nil =>
   obtain rfl:=ae hL_10
   refine ai (aa (vB (decide ((k_3:Int)<(s_1.size:Int)))) (ah ?_))
   refine au (aB rfl (ru hD_6) (bO ?_))
   exact bD (s_8) rfl rfl (aM rfl)
  | cons x_5 l_4 =>
   obtain ⟨c_,hc_9,hL_10⟩:=bind_some hL_10
   refine ai (aa (vB (decide ((k_3:Int)<(s_1.size:Int)))) (ah ?_))
   refine au (aC rfl (pQ hD_6) (aA ?_))
   unfold l6 at hc_9
   refine au (aR (ai (aa (vI (k_3:Int)) (aa (vI (k_3:Int)) (ah (ai (aa (vS somev_2) (aa (vS s_1) (aa (vI (k_3:Int)) ?_)))))))))
   obtain ⟨b_13,hy_14,hc_9⟩:=bind_some hc_9
   refine qE un9 rfl rfl hy_14 wz ?_
   obtain ⟨r_15,hr_16,hc_9⟩:=bind_some hc_9
   refine aD (uM hr_16) rfl hb106 rfl rfl rfl rfl wz (aa (vB (decide (r_15<0))) (ah ?_))
   rcases aj hc_9 with⟨hc_17,hc_9⟩|⟨hc_17,hc_9⟩
   ·refine aC rfl hc_17 (ai (aa (vB false) (ah ?_)))
    obtain rfl:=ae hc_9
    obtain rfl:=ae hL_10
    obtain rfl:=ae hF
    exact ax (aK [(vB false)] ⟨rfl,trivial⟩)
   ·refine aB rfl hc_17 (aA (av (gY (rA hD_6 hn_7) wz rfl (aa (vI ((k_3+1:Nat):Int)) (ah ?_)))))
    obtain rfl:=ae hc_9
    exact bN (k_3+1,l_4,()) ⟨hL_10,bn hD_6⟩ (ls_ _) rfl (aM rfl)
 ·rintro s_8 ho_ sl_ H_ hp_ hq_
  subst ho_
  refine aP _ hp_ hq_ (ai (aa (vB true) (ah ?_)))
  obtain rfl:=ae hF
  exact ax (aK [(vB true)] ⟨rfl,trivial⟩)
theorem wB {s_1:ByteArray} {r:Bool} (hF:sF s_1=some r) :
  FnM Tryz.prog 47 [(vS s_1)] [] (vB r) []:=by
 refine FnM.of_wH ⟨Tryz.prog,15,[],[]⟩ rfl Tryz.func47 rfl rfl (lb_ rfl) (by kernel_rfl) ?_
 unfold sF at hF
 refine ai (aa (vB false) (ah (au ?_)))
 obtain ⟨v_2,h_3,hF⟩:=bind_some hF
 refine aN [(2,(vB v_2))] [] ?_ ?_
 ·refine av (aa (vS s_1) (iU un9 rfl wz ?_))
  obtain ⟨r_4,hr_5,h_3⟩:=bind_some h_3
  refine aD (kS hr_5) rfl hb48 rfl rfl rfl rfl wz ?_
  rcases aj h_3 with⟨hc_6,h_3⟩|⟨hc_6,h_3⟩
  ·refine ay rfl hc_6 wz (aH (vS s_1) wa rfl ?_)
   obtain ⟨y_7,hy_8,h_3⟩:=bind_some h_3
   refine jh un9 rfl rfl hy_8 wa ?_
   obtain ⟨r_9,hr_10,h_3⟩:=bind_some h_3
   refine aD (uj hr_10) rfl hb77 rfl rfl rfl rfl wa (aa (vB r_9) ?_)
   rcases aj h_3 with⟨hc_11,h_3⟩|⟨hc_11,h_3⟩
   ·refine ay rfl hc_11 wz (aH (vS s_1) wa rfl ?_)
    obtain ⟨r_12,hr_13,h_3⟩:=bind_some h_3
    refine aD (uj hr_13) rfl hb77 rfl rfl rfl rfl wa (aa (vB r_12) (aa (vB r_12) (ah ?_)))
    obtain rfl:=ae h_3
    exact cu
   ·refine ay rfl hc_11 wz (af (af (aa (vB false) (aa (vB false) (ah ?_)))))
    obtain rfl:=ae h_3
    exact cu
  ·refine ay rfl hc_6 wz (af (af (af (aa (vB false) (aa (vB false) (af (af (aa (vB false) (aa (vB false) (ah ?_))))))))))
   obtain rfl:=ae h_3
   exact cu
 ·rintro ⟨⟩ _ sl_ H_ hp_ hq_
  refine aP _ hp_ hq_ ?_
  obtain rfl:=ae hF
  exact ax (aK [(vB v_2)] ⟨rfl,trivial⟩)
theorem Ck {atv_1:Int} {r:Bool} (hF:oQ atv_1=some r) :
  FnM Tryz.prog 49 [(vI atv_1)] [] (vB r) []:=by
 refine FnM.of_wH ⟨Tryz.prog,5,[],[]⟩ rfl Tryz.func49 rfl rfl (lb_ rfl) (by kernel_rfl) ?_
 unfold oQ at hF
 refine ai (aa (vB false) (ah (ai (aa (vI atv_1) ?_))))
 obtain ⟨r_2,hr_3,hF⟩:=bind_some hF
 refine aD (kS hr_3) rfl hb48 rfl rfl rfl rfl wz (aa (vB r_2) (ah ?_))
 obtain rfl:=ae hF
 exact ax (aK [(vB r_2)] ⟨rfl,trivial⟩)
theorem yM {r_1:Rect} {r:Int} (hF:lm r_1=some r) :
  FnM Tryz.prog 50 [(.d (.agg (Rect.enc r_1)))] [] (vI r) []:=by
 refine FnM.of_wH ⟨Tryz.prog,31,[],[]⟩ rfl Tryz.func50 rfl rfl (lb_ rfl) (by kernel_rfl) ?_
 unfold lm at hF
 refine ai (lY 0 (.inl rfl) (Rect.v r_1) rfl rfl wz (λn_2=>aa (vI 0) (ah (au (au ?_)))))
 obtain ⟨v_3,h_4,hF⟩:=bind_some hF
 refine aN [(30,(vB v_3))] [(n_2,some (.cells 4 (Rect.v r_1)))] ?_ ?_
 ·refine av (aG rZ rfl 0 rfl wz (aI 0 0 il ft sz3 ag3 rfl rfl (vI r_1.X) rfl wz ?_))
  obtain ⟨r_5,hr_6,h_4⟩:=bind_some h_4
  refine aD (kS hr_6) rfl hb48 rfl rfl rfl rfl wz (aa (vB (!r_5)) ?_)
  rcases aj h_4 with⟨hc_7,h_4⟩|⟨hc_7,h_4⟩
  ·refine ay rfl hc_7 wz (af (af (af (af (aa (vB true) (aa (vB true) (af (af (af (af (af (af (af (aa (vB true) (aa (vB true) (af (af (af (af (af (af (af (aa (vB true) ?_)))))))))))))))))))))))
   refine ah ?_
   obtain rfl:=ae h_4
   exact cu
  ·refine ay rfl hc_7 wz (aG sI rfl 1 rfl wa (aI 0 0 il ft sz3 ag3 rfl rfl (vI r_1.Y) rfl wa ?_))
   obtain ⟨r_8,hr_9,h_4⟩:=bind_some h_4
   refine aD (kS hr_9) rfl hb48 rfl rfl rfl rfl wa (aH (vB (!r_8)) wa rfl (aa (vB (!r_8)) ?_))
   rcases aj h_4 with⟨hc_10,h_4⟩|⟨hc_10,h_4⟩
   ·refine ay rfl hc_10 wz (af (af (af (af (af (af (af (aa (vB true) (aa (vB true) (af (af (af (af (af (af (af (aa (vB true) (ah ?_))))))))))))))))))
    obtain rfl:=ae h_4
    exact cu
   ·refine ay rfl hc_10 wz (aG yG rfl 2 rfl wa (aI 0 0 il ft sz3 ag3 rfl rfl (vI r_1.W) rfl wa (aG rZ rfl 0 rfl wa (aI 0 0 il ft sz3 ag3 rfl rfl (vI r_1.X) rfl wa (aH (vI (w64 (100000-r_1.X))) wa rfl ?_)))))
    obtain ⟨r_11,hr_12,h_4⟩:=bind_some h_4
    refine aD (kS hr_12) rfl hb48 rfl rfl rfl rfl wa (aH (vB (!r_11)) wa rfl (aa (vB (!r_11)) ?_))
    rcases aj h_4 with⟨hc_13,h_4⟩|⟨hc_13,h_4⟩
    ·refine ay rfl hc_13 wz (af (af (af (af (af (af (af (aa (vB true) (ah ?_)))))))))
     obtain rfl:=ae h_4
     exact cu
    ·refine ay rfl hc_13 wz (aG wy rfl 3 rfl wa (aI 0 0 il ft sz3 ag3 rfl rfl (vI r_1.H) rfl wa (aG sI rfl 1 rfl wa (aI 0 0 il ft sz3 ag3 rfl rfl (vI r_1.Y) rfl wa (aH (vI (w64 (100000-r_1.Y))) wa rfl ?_)))))
     obtain ⟨r_14,hr_15,h_4⟩:=bind_some h_4
     refine aD (kS hr_15) rfl hb48 rfl rfl rfl rfl wa (aH (vB (!r_14)) wa rfl (aa (vB (!r_14)) (ah ?_)))
     obtain rfl:=ae h_4
     exact cu
 ·rintro ⟨⟩ _ sl_ H_ hp_ hq_
  refine aP _ hp_ hq_ ?_
  rcases aj hF with⟨hc_16,hF⟩|⟨hc_16,hF⟩
  ·refine aC rfl hc_16 (ai (aa (vI 1) (ah ?_)))
   obtain rfl:=ae hF
   exact ax (aK [(vI 1)] ⟨rfl,trivial⟩)
  ·refine aB rfl hc_16 (aA (ai (aa (vI 0) (ah ?_))))
   obtain rfl:=ae hF
   exact ax (aK [(vI 0)] ⟨rfl,trivial⟩)
theorem BS {r_1:Int} {r:Bool} (hF:nN r_1=some r) :
  FnM Tryz.prog 80 [(.d (.int .i32 r_1))] [] (vB r) []:=by
 refine FnM.of_wH ⟨Tryz.prog,9,[],[]⟩ rfl Tryz.func80 rfl rfl (lb_ rfl) (by kernel_rfl) ?_
 unfold nN at hF
 refine ai (aa (vB false) (ah (au ?_)))
 obtain ⟨v_2,h_3,hF⟩:=bind_some hF
 refine aN [(2,(vB v_2))] [] ?_ ?_
 ·refine av (aa (.d (.int .i32 r_1)) (aa (vB (decide (r_1<32))) ?_))
  rcases aj h_3 with⟨hc_4,h_3⟩|⟨hc_4,h_3⟩
  ·refine ay rfl hc_4 wz (af (af (aa (vB true) (aa (vB true) (ah ?_)))))
   obtain rfl:=ae h_3
   exact cu
  ·refine ay rfl hc_4 wz (aH (.d (.int .i32 r_1)) wa rfl (aH (vB (r_1==127)) wa rfl (aa (vB (r_1==127)) (aa (vB (r_1==127)) (ah ?_)))))
   obtain rfl:=ae h_3
   exact cu
 ·rintro ⟨⟩ _ sl_ H_ hp_ hq_
  refine aP _ hp_ hq_ ?_
  obtain rfl:=ae hF
  exact ax (aK [(vB v_2)] ⟨rfl,trivial⟩)
theorem om {x:ByteArray} {r:Bool} (hF:fP x=some r) :
  FnM Tryz.prog 79 [(.d (.str x)),(.fn 80 [])] [] (.d (.bool r)) [] :=
 CB rfl (λa b h=>BS h) hb80 (λs p w eg hp=>Tryz.strings_ContainsFunc_grows 80 #[] eg p s w hp) hF
theorem EF {s_1:ByteArray} {r:Bool} (hF:ref_Plain s_1=some r) :
  FnM Tryz.prog 51 [(vS s_1)] [] (vB r) []:=by
 refine FnM.of_wH ⟨Tryz.prog,21,[],[]⟩ rfl Tryz.func51 rfl rfl (lb_ rfl) (by kernel_rfl) ?_
 unfold ref_Plain at hF
 refine ai (aa (vB false) (ah (au ?_)))
 obtain ⟨v_2,h_3,hF⟩:=bind_some hF
 refine aN [(2,(vB v_2))] [] ?_ ?_
 ·refine av (aa (vS s_1) ?_)
  obtain ⟨r_4,hr_5,h_3⟩:=bind_some h_3
  refine aD (jV hr_5) rfl hb78 rfl rfl rfl rfl wz ?_
  rcases aj h_3 with⟨hc_6,h_3⟩|⟨hc_6,h_3⟩
  ·refine ay rfl hc_6 wz (aH (vS s_1) wa rfl ?_)
   obtain ⟨r_7,hr_8,h_3⟩:=bind_some h_3
   refine aD (om hr_8) rfl hb79 rfl rfl rfl rfl wa (aH (vB (!r_7)) wa rfl (aa (vB (!r_7)) ?_))
   rcases aj h_3 with⟨hc_9,h_3⟩|⟨hc_9,h_3⟩
   ·refine ay rfl hc_9 wz (aH (vS s_1) wa rfl ?_)
    obtain ⟨r_10,hr_11,h_3⟩:=bind_some h_3
    refine aD (tC hr_11) rfl hb81 rfl rfl rfl rfl wa (aH (vS s_1) wa rfl (aH (vB (sEq r_10 s_1)) wa rfl (aa (vB (sEq r_10 s_1)) ?_)))
    rcases aj h_3 with⟨hc_12,h_3⟩|⟨hc_12,h_3⟩
    ·refine ay rfl hc_12 wz (aH (vS s_1) wa rfl ?_)
     obtain ⟨r_13,hr_14,h_3⟩:=bind_some h_3
     refine aD (oz hr_14) rfl hb82 rfl rfl rfl rfl wa (aH (vB (!r_13)) wa rfl (aa (vB (!r_13)) (aa (vB (!r_13)) (ah ?_))))
     obtain rfl:=ae h_3
     exact cu
    ·refine ay rfl hc_12 wz (af (af (af (aa (vB false) (aa (vB false) (ah ?_))))))
     obtain rfl:=ae h_3
     exact cu
   ·refine ay rfl hc_9 wz (af (af (af (af (aa (vB false) (aa (vB false) (af (af (af (aa (vB false) (aa (vB false) (ah ?_))))))))))))
    obtain rfl:=ae h_3
    exact cu
  ·refine ay rfl hc_6 wz (af (af (af (aa (vB false) (aa (vB false) (af (af (af (af (aa (vB false) (aa (vB false) (af (af (af (aa (vB false) (aa (vB false) (ah ?_)))))))))))))))))
   obtain rfl:=ae h_3
   exact cu
 ·rintro ⟨⟩ _ sl_ H_ hp_ hq_
  refine aP _ hp_ hq_ ?_
  obtain rfl:=ae hF
  exact ax (aK [(vB v_2)] ⟨rfl,trivial⟩)
theorem wY {a_1:Alert} {r:Int} (hF:kz a_1=some r) :
  FnM Tryz.prog 28 [(.d (.agg (Alert.enc a_1)))] [] (vI r) []:=by
 refine FnM.of_wH ⟨Tryz.prog,139,[],[]⟩ rfl Tryz.func28 rfl rfl (lb_ rfl) (by kernel_rfl) ?_
 unfold kz at hF
 refine ai (lY 0 (.inl rfl) (Alert.v a_1) rfl rfl wz (λn_2=>aa (vI 0) (ah (au (aR (au ?_))))))
 obtain ⟨v_3,h_4,hF⟩:=bind_some hF
 refine aN [(1,(.ref n_2 0 0)),(8,(vB v_3))] [(n_2,some (.cells 9 (Alert.v a_1)))] ?_ ?_
 ·refine av (aG jT rfl 0 rfl wz (aI 0 0 il ft sz9 ag9 rfl rfl (vS a_1.Id) rfl wz ?_))
  obtain ⟨r_5,hr_6,h_4⟩:=bind_some h_4
  refine aD (wB hr_6) rfl hb47 rfl rfl rfl rfl wz (aa (vB (!r_5)) ?_)
  rcases aj h_4 with⟨hc_7,h_4⟩|⟨hc_7,h_4⟩
  ·refine ay rfl hc_7 wz (af (af (af (af (aa (vB true) (aa (vB true) (ah ?_)))))))
   obtain rfl:=ae h_4
   exact cu
  ·refine ay rfl hc_7 wz (aG Bo rfl 1 rfl wa (aI 0 0 il ft sz9 ag9 rfl rfl (vS a_1.Sender) rfl wa ?_))
   obtain ⟨r_8,hr_9,h_4⟩:=bind_some h_4
   refine aD (wB hr_9) rfl hb47 rfl rfl rfl rfl wa (aH (vB (!r_8)) wa rfl (aa (vB (!r_8)) (aa (vB (!r_8)) (ah ?_))))
   obtain rfl:=ae h_4
   exact cu
 ·rintro ⟨⟩ _ sl_ H_ hp_ hq_
  refine aP _ hp_ hq_ ?_
  rcases aj hF with⟨hc_10,hF⟩|⟨hc_10,hF⟩
  ·refine aC rfl hc_10 (ai (aa (vI 5) (ah ?_)))
   obtain rfl:=ae hF
   exact ax (aK [(vI 5)] ⟨rfl,trivial⟩)
  ·refine aB rfl hc_10 (ai (aG mr rfl 2 rfl wz (aI 0 0 il ft sz3 ag3 rfl rfl (vI a_1.Kind) rfl wz ?_)))
   obtain ⟨r_11,hr_12,hF⟩:=bind_some hF
   refine aD (kS hr_12) rfl hb48 rfl rfl rfl rfl wz (aa (vB (!r_11)) (aa (vB (!r_11)) (ah ?_)))
   rcases aj hF with⟨hc_13,hF⟩|⟨hc_13,hF⟩
   ·refine aC rfl hc_13 (ai (aa (vI 4) (ah ?_)))
    obtain rfl:=ae hF
    exact ax (aK [(vI 4)] ⟨rfl,trivial⟩)
   ·refine aB rfl hc_13 (ai (aG iK rfl 3 rfl wz (aI 0 0 il ft oI uP rfl rfl (vL eS a_1.Refs) rfl wz (dz kQ rfl wz (aa (vB (decide ((a_1.Refs.length:Int)>20))) (aa (vB (decide ((a_1.Refs.length:Int)>20))) (ah ?_)))))))
    rcases aj hF with⟨hc_14,hF⟩|⟨hc_14,hF⟩
    ·refine aC rfl hc_14 (ai (aa (vI 2) (ah ?_)))
     obtain rfl:=ae hF
     exact ax (aK [(vI 2)] ⟨rfl,trivial⟩)
    ·refine aB rfl hc_14 (aA (au (ai (aG iK rfl 3 rfl wz (aI 0 0 il ft oI uP rfl rfl (vL eS a_1.Refs) rfl wz (dz kQ rfl wz (aa (vI 0) (ah ?_))))))))
     obtain ⟨o_23,hj_24,hF⟩:=bind_some hF
     obtain ⟨hn_19,hj_24⟩:=bu hj_24
     refine dU (λ(s_20:Unit)=>[(1,(.ref n_2 0 0))]) (λ(s_20:Unit)=>[(n_2,some (.cells 9 (Alert.v a_1)))]) (λ(k_15:Nat)=>(λ(s_20:Unit)=>[(1,(.ref n_2 0 0)),(30,(vL eS a_1.Refs)),(31,(vI (a_1.Refs.length:Int))),(32,(vI (k_15:Int)))])) (λk x s=>gK a_1 k x s) o_23 a_1.Refs () hj_24 rfl (aM rfl) ?_ ?_
     ·rintro ⟨k_15,l_16,s_20⟩ ⟨hL_22,hD_18⟩
      dsimp only at hL_22 hD_18
      cases l_16 with
      | nil =>
       obtain rfl:=ae hL_22
       refine ai (aa (vB (decide ((k_15:Int)<(a_1.Refs.length:Int)))) (ah ?_))
       refine au (aB rfl (drop_nil hD_18) (bO ?_))
       exact bD (s_20) rfl rfl (aM rfl)
      | cons x_17 l_16 =>
       obtain ⟨c_,hc_21,hL_22⟩:=bind_some hL_22
       refine ai (aa (vB (decide ((k_15:Int)<(a_1.Refs.length:Int)))) (ah ?_))
       refine au (aC rfl (bL hD_18) (aA ?_))
       unfold gK at hc_21
       refine au (aR (ai (aa (vI (k_15:Int)) (eD fO rfl rfl (dh hD_18) rfl wz (bK sz9 ag9 rfl (vS x_17) rfl wz (aa (vI (k_15:Int)) (aa (vS x_17) (ah (aR (ai (aa (vS x_17) ?_)))))))))))
       obtain ⟨r_25,hr_26,hc_21⟩:=bind_some hc_21
       refine aD (wB hr_26) rfl hb47 rfl rfl rfl rfl wz (aa (vB (!r_25)) (aa (vB (!r_25)) (ah ?_)))
       rcases aj hc_21 with⟨hc_27,hc_21⟩|⟨hc_27,hc_21⟩
       ·refine aC rfl hc_27 (ai (aa (vI 5) (ah ?_)))
        obtain rfl:=ae hc_21
        obtain rfl:=ae hL_22
        obtain rfl:=ae hF
        exact ax (aK [(vI 5)] ⟨rfl,trivial⟩)
       ·refine aB rfl hc_27 (au ?_)
        obtain ⟨v_28,h_29,hc_21⟩:=bind_some hc_21
        refine aN [(1,(.ref n_2 0 0)),(4,(vS x_17)),(30,(vL eS a_1.Refs)),(31,(vI (a_1.Refs.length:Int))),(32,(vI (k_15:Int))),(41,(vB v_28))] [(n_2,some (.cells 9 (Alert.v a_1)))] ?_ ?_
        ·refine av (aa (vI (k_15:Int)) (aa (vB (decide ((k_15:Int)>0))) ?_))
         rcases aj h_29 with⟨hc_30,h_29⟩|⟨hc_30,h_29⟩
         ·refine ay rfl hc_30 wz (aH (vS x_17) wa rfl (aG iK rfl 3 rfl wa (aI 0 0 il ft oI uP rfl rfl (vL eS a_1.Refs) rfl wa (aH (vI (k_15:Int)) wa rfl (aH (vI (w64 ((k_15:Int)-1))) wa rfl ?_)))))
          obtain ⟨y_31,hy_32,h_29⟩:=bind_some h_29
          refine eD fO rfl rfl hy_32 rfl wa (bK sz9 ag9 rfl (vS y_31) rfl wa (aH (vB (sLe x_17 y_31)) wa rfl (aa (vB (sLe x_17 y_31)) (aa (vB (sLe x_17 y_31)) (ah ?_)))))
          obtain rfl:=ae h_29
          exact cu
         ·refine ay rfl hc_30 wz (af (af (af (af (af (af (af (af (aa (vB false) (aa (vB false) (ah ?_)))))))))))
          obtain rfl:=ae h_29
          exact cu
        ·rintro ⟨⟩ _ sl_ H_ hp_ hq_
         refine aP _ hp_ hq_ ?_
         rcases aj hc_21 with⟨hc_33,hc_21⟩|⟨hc_33,hc_21⟩
         ·refine aC rfl hc_33 (ai (aa (vI 7) (ah ?_)))
          obtain rfl:=ae hc_21
          obtain rfl:=ae hL_22
          obtain rfl:=ae hF
          exact ax (aK [(vI 7)] ⟨rfl,trivial⟩)
         ·refine aB rfl hc_33 (ai (aa (vS x_17) (aG jT rfl 0 rfl wz (aI 0 0 il ft sz9 ag9 rfl rfl (vS a_1.Id) rfl wz (aa (vB (sEq x_17 a_1.Id)) (aa (vB (sEq x_17 a_1.Id)) (ah ?_)))))))
          rcases aj hc_21 with⟨hc_34,hc_21⟩|⟨hc_34,hc_21⟩
          ·refine aC rfl hc_34 (ai (aa (vI 14) (ah ?_)))
           obtain rfl:=ae hc_21
           obtain rfl:=ae hL_22
           obtain rfl:=ae hF
           exact ax (aK [(vI 14)] ⟨rfl,trivial⟩)
          ·refine aB rfl hc_34 (aA (av (gY (cZ hD_18 hn_19) wz rfl (aa (vI ((k_15+1:Nat):Int)) (ah ?_)))))
           obtain rfl:=ae hc_21
           exact bN (k_15+1,l_16,()) ⟨hL_22,bn hD_18⟩ (ls_ _) rfl (aM rfl)
     ·rintro s_20 ho_ sl_ H_ hp_ hq_
      subst ho_
      refine aP _ hp_ hq_ (au (aR (ai (aG mr rfl 2 rfl wz (aI 0 0 il ft sz3 ag3 rfl rfl (vI a_1.Kind) rfl wz (aa (vB (a_1.Kind==1)) (aG iK rfl 3 rfl wz (aI 0 0 il ft oI uP rfl rfl (vL eS a_1.Refs) rfl wz (dz kQ rfl wz (aa (vB ((a_1.Refs.length:Int)==0)) (Ed un4 rfl rfl wz (aa (vB (!((a_1.Kind==1)==((a_1.Refs.length:Int)==0)))) (ah ?_)))))))))))))
      rcases aj hF with⟨hc_35,hF⟩|⟨hc_35,hF⟩
      ·refine aC rfl hc_35 (ai (aa (vI 3) (ah ?_)))
       obtain rfl:=ae hF
       exact ax (aK [(vI 3)] ⟨rfl,trivial⟩)
      ·refine aB rfl hc_35 (au ?_)
       obtain ⟨v_36,h_37,hF⟩:=bind_some hF
       refine aN [(1,(.ref n_2 0 0)),(69,(vB v_36))] [(n_2,some (.cells 9 (Alert.v a_1)))] ?_ ?_
       ·refine av (aG jb rfl 4 rfl wz (aI 0 0 il ft sz3 ag3 rfl rfl (vI a_1.At) rfl wz ?_))
        obtain ⟨r_38,hr_39,h_37⟩:=bind_some h_37
        refine aD (Ck hr_39) rfl hb49 rfl rfl rfl rfl wz (aa (vB (!r_38)) ?_)
        rcases aj h_37 with⟨hc_40,h_37⟩|⟨hc_40,h_37⟩
        ·refine ay rfl hc_40 wz (af (af (af (af (af (af (af (af (af (af (aa (vB true) (aa (vB true) (af (af (af (af (aa (vB true) (aa (vB true) (ah ?_)))))))))))))))))))
         obtain rfl:=ae h_37
         exact cu
        ·refine ay rfl hc_40 wz (aG wC rfl 5 rfl wa (aI 0 0 il ft sz3 ag3 rfl rfl (vI a_1.Until) rfl wa (aG jb rfl 4 rfl wa (aI 0 0 il ft sz3 ag3 rfl rfl (vI a_1.At) rfl wa (aH (vI (w64 (a_1.At+1))) wa rfl (aG jb rfl 4 rfl wa (aI 0 0 il ft sz3 ag3 rfl rfl (vI a_1.At) rfl wa (aH (vI (w64 (a_1.At+2592000000))) wa rfl ?_))))))))
         obtain ⟨r_41,hr_42,h_37⟩:=bind_some h_37
         refine aD (kS hr_42) rfl hb48 rfl rfl rfl rfl wa (aH (vB (!r_41)) wa rfl (aa (vB (!r_41)) ?_))
         rcases aj h_37 with⟨hc_43,h_37⟩|⟨hc_43,h_37⟩
         ·refine ay rfl hc_43 wz (af (af (af (af (aa (vB true) (aa (vB true) (ah ?_)))))))
          obtain rfl:=ae h_37
          exact cu
         ·refine ay rfl hc_43 wz (aG Aw rfl 6 rfl wa (aI 0 0 il ft sz3 ag3 rfl rfl (vI a_1.Weight) rfl wa ?_))
          obtain ⟨r_44,hr_45,h_37⟩:=bind_some h_37
          refine aD (kS hr_45) rfl hb48 rfl rfl rfl rfl wa (aH (vB (!r_44)) wa rfl (aa (vB (!r_44)) (aa (vB (!r_44)) (ah ?_))))
          obtain rfl:=ae h_37
          exact cu
       ·rintro ⟨⟩ _ sl_ H_ hp_ hq_
        refine aP _ hp_ hq_ ?_
        rcases aj hF with⟨hc_46,hF⟩|⟨hc_46,hF⟩
        ·refine aC rfl hc_46 (ai (aa (vI 1) (ah ?_)))
         obtain rfl:=ae hF
         exact ax (aK [(vI 1)] ⟨rfl,trivial⟩)
        ·refine aB rfl hc_46 (ai (aG jE rfl 7 rfl wz (aI 0 0 il ft rR xZ rfl rfl (vL Rect.enc a_1.Areas) rfl wz (dz Cx rfl wz (aa (vB (decide ((a_1.Areas.length:Int)>20))) (aa (vB (decide ((a_1.Areas.length:Int)>20))) (ah ?_)))))))
         rcases aj hF with⟨hc_47,hF⟩|⟨hc_47,hF⟩
         ·refine aC rfl hc_47 (ai (aa (vI 2) (ah ?_)))
          obtain rfl:=ae hF
          exact ax (aK [(vI 2)] ⟨rfl,trivial⟩)
         ·refine aB rfl hc_47 (aA (au (ai (aG jE rfl 7 rfl wz (aI 0 0 il ft rR xZ rfl rfl (vL Rect.enc a_1.Areas) rfl wz (dz Cx rfl wz (aa (vI 0) (ah ?_))))))))
          obtain ⟨o_56,hj_57,hF⟩:=bind_some hF
          obtain ⟨hn_52,hj_57⟩:=bu hj_57
          refine dU (λ(s_53:Unit)=>[(1,(.ref n_2 0 0))]) (λ(s_53:Unit)=>[(n_2,some (.cells 9 (Alert.v a_1)))]) (λ(k_48:Nat)=>(λ(s_53:Unit)=>[(1,(.ref n_2 0 0)),(98,(vL Rect.enc a_1.Areas)),(99,(vI (a_1.Areas.length:Int))),(100,(vI (k_48:Int)))])) (λk x s=>gM k x s) o_56 a_1.Areas () hj_57 rfl (aM rfl) ?_ ?_
          ·rintro ⟨k_48,l_49,s_53⟩ ⟨hL_55,hD_51⟩
           dsimp only at hL_55 hD_51
           cases l_49 with
           | nil =>
            obtain rfl:=ae hL_55
            refine ai (aa (vB (decide ((k_48:Int)<(a_1.Areas.length:Int)))) (ah ?_))
            refine au (aB rfl (drop_nil hD_51) (bO ?_))
            exact bD (s_53) rfl rfl (aM rfl)
           | cons x_50 l_49 =>
            obtain ⟨c_,hc_54,hL_55⟩:=bind_some hL_55
            refine ai (aa (vB (decide ((k_48:Int)<(a_1.Areas.length:Int)))) (ah ?_))
            refine au (aC rfl (bL hD_51) (aA ?_))
            unfold gM at hc_54
            refine au (aR (ai (eD Au rfl rfl (dh hD_51) rfl wz (bK nW Aj rfl (.d (.agg (Rect.enc x_50))) rfl wz (gN 0 (.inl rfl) z64 rfl wz (λn_58=>fe 0 il ft 1 nW rfl rfl (Rect.v x_50) rfl wz (ah (ai (aI 0 1 il ft nW Aj rfl rfl (.d (.agg (Rect.enc x_50))) rfl wz ?_)))))))))
            obtain ⟨r_59,hr_60,hc_54⟩:=bind_some hc_54
            refine aD (yM hr_60) rfl hb50 rfl rfl rfl rfl wz (aa (vI r_59) (ah (ai (aa (vI r_59) (aa (vB (r_59 != 0)) (ah ?_))))))
            rcases aj hc_54 with⟨hc_61,hc_54⟩|⟨hc_61,hc_54⟩
            ·refine aC rfl hc_61 (ai (aa (vI r_59) (aa (vI r_59) (ah ?_))))
             obtain rfl:=ae hc_54
             obtain rfl:=ae hL_55
             obtain rfl:=ae hF
             exact ax (aK [(vI r_59)] ⟨rfl,trivial⟩)
            ·refine aB rfl hc_61 (aA (av (gY (cZ hD_51 hn_52) wz rfl (aa (vI ((k_48+1:Nat):Int)) (ah ?_)))))
             obtain rfl:=ae hc_54
             exact bN (k_48+1,l_49,()) ⟨hL_55,bn hD_51⟩ (ls_ _) rfl (aM rfl)
          ·rintro s_53 ho_ sl_ H_ hp_ hq_
           subst ho_
           refine aP _ hp_ hq_ (au (aR (ai (aG mr rfl 2 rfl wz (aI 0 0 il ft sz3 ag3 rfl rfl (vI a_1.Kind) rfl wz (aa (vB (a_1.Kind==3)) (aG jE rfl 7 rfl wz (aI 0 0 il ft rR xZ rfl rfl (vL Rect.enc a_1.Areas) rfl wz (dz Cx rfl wz (aa (vB ((a_1.Areas.length:Int)==0)) (Ed un4 rfl rfl wz (aa (vB (!((a_1.Kind==3)==((a_1.Areas.length:Int)==0)))) (ah ?_)))))))))))))
           rcases aj hF with⟨hc_62,hF⟩|⟨hc_62,hF⟩
           ·refine aC rfl hc_62 (ai (aa (vI 3) (ah ?_)))
            obtain rfl:=ae hF
            exact ax (aK [(vI 3)] ⟨rfl,trivial⟩)
           ·refine aB rfl hc_62 (ai (aG kC rfl 8 rfl wz (aI 0 0 il ft sz9 ag9 rfl rfl (vS a_1.Text) rfl wz (iU un9 rfl wz (aa (vB (decide ((a_1.Text.size:Int)>500))) (aa (vB (decide ((a_1.Text.size:Int)>500))) (ah ?_)))))))
            rcases aj hF with⟨hc_63,hF⟩|⟨hc_63,hF⟩
            ·refine aC rfl hc_63 (ai (aa (vI 2) (ah ?_)))
             obtain rfl:=ae hF
             exact ax (aK [(vI 2)] ⟨rfl,trivial⟩)
            ·refine aB rfl hc_63 (au ?_)
             obtain ⟨v_64,h_65,hF⟩:=bind_some hF
             refine aN [(124,(vB v_64))] [(n_2,some (.cells 9 (Alert.v a_1)))] ?_ ?_
             ·refine av (aG kC rfl 8 rfl wz (aI 0 0 il ft sz9 ag9 rfl rfl (vS a_1.Text) rfl wz ?_))
              obtain ⟨r_66,hr_67,h_65⟩:=bind_some h_65
              refine aD (EF hr_67) rfl hb51 rfl rfl rfl rfl wz (aa (vB (!r_66)) ?_)
              rcases aj h_65 with⟨hc_68,h_65⟩|⟨hc_68,h_65⟩
              ·refine ay rfl hc_68 wz (af (af (af (af (aX (wn rfl rfl) (aX (wn rfl rfl) (aX (wn rfl rfl) (af (aa (vB true) (aa (vB true) (ah ?_)))))))))))
               obtain rfl:=ae h_65
               exact cu
              ·refine ay rfl hc_68 wz (aG kC rfl 8 rfl wa (aI 0 0 il ft sz9 ag9 rfl rfl (vS a_1.Text) rfl wa (aH (vB (sEq a_1.Text (⟨#[]⟩:ByteArray))) wa rfl ?_)))
               rcases aj h_65 with⟨hc_69,h_65⟩|⟨hc_69,h_65⟩
               ·refine ay rfl hc_69 wa (aG mr rfl 2 rfl wa (aI 0 0 il ft sz3 ag3 rfl rfl (vI a_1.Kind) rfl wa (aH (vB (a_1.Kind != 3)) wa rfl (aH (vB (a_1.Kind != 3)) wa rfl (aa (vB (a_1.Kind != 3)) (aa (vB (a_1.Kind != 3)) (ah ?_)))))))
                obtain rfl:=ae h_65
                exact cu
               ·refine ay rfl hc_69 wa (af (af (af (aH (vB false) wa rfl (aa (vB false) (aa (vB false) (ah ?_)))))))
                obtain rfl:=ae h_65
                exact cu
             ·rintro ⟨⟩ _ sl_ H_ hp_ hq_
              refine aP _ hp_ hq_ ?_
              rcases aj hF with⟨hc_70,hF⟩|⟨hc_70,hF⟩
              ·refine aC rfl hc_70 (ai (aa (vI 3) (ah ?_)))
               obtain rfl:=ae hF
               exact ax (aK [(vI 3)] ⟨rfl,trivial⟩)
              ·refine aB rfl hc_70 (aA (ai (aa (vI 0) (ah ?_))))
               obtain rfl:=ae hF
               exact ax (aK [(vI 0)] ⟨rfl,trivial⟩)
theorem Gz {n_1:Int} {r:Int} (hF:xe n_1=some r) :
  FnM Tryz.prog 52 [(vI n_1)] [] (vI r) []:=by
 refine FnM.of_wH ⟨Tryz.prog,9,[],[]⟩ rfl Tryz.func52 rfl rfl (lb_ rfl) (by kernel_rfl) ?_
 unfold xe at hF
 refine ai (aa (vI 0) (ah (au (aR (ai (aa (vI n_1) (aa (vB (decide (n_1<0))) (aa (vB (decide (n_1<0))) (ah ?_)))))))))
 rcases aj hF with⟨hc_2,hF⟩|⟨hc_2,hF⟩
 ·refine aC rfl hc_2 (ai (aa (vI (-1)) (ah ?_)))
  obtain rfl:=ae hF
  exact ax (aK [(vI (-1))] ⟨rfl,trivial⟩)
 ·refine aB rfl hc_2 (ai (aa (vI n_1) (aa (vB (decide (n_1>0))) (aa (vB (decide (n_1>0))) (ah ?_)))))
  rcases aj hF with⟨hc_3,hF⟩|⟨hc_3,hF⟩
  ·refine aC rfl hc_3 (ai (aa (vI 1) (ah ?_)))
   obtain rfl:=ae hF
   exact ax (aK [(vI 1)] ⟨rfl,trivial⟩)
  ·refine aB rfl hc_3 (aA (ai (aa (vI 0) (ah ?_))))
   obtain rfl:=ae hF
   exact ax (aK [(vI 0)] ⟨rfl,trivial⟩)
theorem xH {a_1:Alert} {b_2:Alert} {r:Int} (hF:jr a_1 b_2=some r) :
  FnM Tryz.prog 29 [(.d (.agg (Alert.enc a_1))),(.d (.agg (Alert.enc b_2)))] [] (vI r) []:=by
 refine FnM.of_wH ⟨Tryz.prog,21,[],[]⟩ rfl Tryz.func29 rfl rfl (lb_ rfl) (by kernel_rfl) ?_
 unfold jr at hF
 refine ai (lY 0 (.inl rfl) (Alert.v a_1) rfl rfl wz (λn_3=>lY 0 (.inl rfl) (Alert.v b_2) rfl rfl wz (λn_4=>aa (vI 0) (ah (au (ai (aG jb rfl 4 rfl wz (aI 0 0 il ft sz3 ag3 rfl rfl (vI a_1.At) rfl wz (aG jb rfl 4 rfl wz (aI 0 1 il ft sz3 ag3 rfl rfl (vI b_2.At) rfl wz (aa (vB (a_1.At != b_2.At)) (ah ?_))))))))))))
 rcases aj hF with⟨hc_5,hF⟩|⟨hc_5,hF⟩
 ·refine aC rfl hc_5 (ai (aG jb rfl 4 rfl wz (aI 0 0 il ft sz3 ag3 rfl rfl (vI a_1.At) rfl wz (aG jb rfl 4 rfl wz (aI 0 1 il ft sz3 ag3 rfl rfl (vI b_2.At) rfl wz (aa (vI (w64 (a_1.At-b_2.At))) ?_))))))
  obtain ⟨r_6,hr_7,hF⟩:=bind_some hF
  refine aD (Gz hr_7) rfl hb52 rfl rfl rfl rfl wz (aa (vI r_6) (ah ?_))
  obtain rfl:=ae hF
  exact ax (aK [(vI r_6)] ⟨rfl,trivial⟩)
 ·refine aB rfl hc_5 (aA (ai (aG jT rfl 0 rfl wz (aI 0 0 il ft sz9 ag9 rfl rfl (vS a_1.Id) rfl wz (aG jT rfl 0 rfl wz (aI 0 1 il ft sz9 ag9 rfl rfl (vS b_2.Id) rfl wz ?_))))))
  obtain ⟨r_8,hr_9,hF⟩:=bind_some hF
  refine aD (o6 hr_9) rfl hb53 rfl rfl rfl rfl wz (aa (vI r_8) (ah ?_))
  obtain rfl:=ae hF
  exact ax (aK [(vI r_8)] ⟨rfl,trivial⟩)
theorem pX {l_1:(List Alert)} {r:Int} (hF:gU l_1=some r) :
  FnM Tryz.prog 7 [(vL Alert.enc l_1)] [] (vI r) []:=by
 refine FnM.of_wH ⟨Tryz.prog,53,[],[]⟩ rfl Tryz.func7 rfl rfl (lb_ rfl) (by kernel_rfl) ?_
 unfold gU at hF
 refine ai (aa (vI 0) (ah (au (ai (aa (vL Alert.enc l_1) (dz oK rfl wz (aa (vB (decide ((l_1.length:Int)>300))) (ah ?_))))))))
 rcases aj hF with⟨hc_2,hF⟩|⟨hc_2,hF⟩
 ·refine aC rfl hc_2 (ai (aa (vI 2) (ah ?_)))
  obtain rfl:=ae hF
  exact ax (aK [(vI 2)] ⟨rfl,trivial⟩)
 ·refine aB rfl hc_2 (aA (au (ai (aa (vL Alert.enc l_1) (dz oK rfl wz (aa (vI 0) (ah ?_)))))))
  obtain ⟨o_11,hj_12,hF⟩:=bind_some hF
  obtain ⟨hn_7,hj_12⟩:=bu hj_12
  refine dU (λ(s_8:Unit)=>[(0,(vL Alert.enc l_1))]) (λ(s_8:Unit)=>[]) (λ(k_3:Nat)=>(λ(s_8:Unit)=>[(0,(vL Alert.enc l_1)),(12,(vL Alert.enc l_1)),(13,(vI (l_1.length:Int))),(14,(vI (k_3:Int)))])) (λk x s=>fZ l_1 k x s) o_11 l_1 () hj_12 rfl (aM rfl) ?_ ?_
  ·rintro ⟨k_3,l_4,s_8⟩ ⟨hL_10,hD_6⟩
   dsimp only at hL_10 hD_6
   cases l_4 with
   | nil =>
    obtain rfl:=ae hL_10
    refine ai (aa (vB (decide ((k_3:Int)<(l_1.length:Int)))) (ah ?_))
    refine au (aB rfl (drop_nil hD_6) (bO ?_))
    exact bD (s_8) rfl rfl (aM rfl)
   | cons x_5 l_4 =>
    obtain ⟨c_,hc_9,hL_10⟩:=bind_some hL_10
    refine ai (aa (vB (decide ((k_3:Int)<(l_1.length:Int)))) (ah ?_))
    refine au (aC rfl (bL hD_6) (aA ?_))
    unfold fZ at hc_9
    refine au (aR (ai (aa (vI (k_3:Int)) (eD lJ rfl rfl (dh hD_6) rfl wz (bK iT mQ rfl (.d (.agg (Alert.enc x_5))) rfl wz (gN 0 (.inl rfl) z40 rfl wz (λn_13=>aa (vI (k_3:Int)) (fe 0 il ft 0 iT rfl rfl (Alert.v x_5) rfl wz (ah (au (ai (aI 0 0 il ft iT mQ rfl rfl (.d (.agg (Alert.enc x_5))) rfl wz ?_))))))))))))
    obtain ⟨r_14,hr_15,hc_9⟩:=bind_some hc_9
    refine aD (wY hr_15) rfl hb28 rfl rfl rfl rfl wz (aa (vI r_14) (ah (ai (aa (vI r_14) (aa (vB (r_14 != 0)) (ah ?_))))))
    rcases aj hc_9 with⟨hc_16,hc_9⟩|⟨hc_16,hc_9⟩
    ·refine aC rfl hc_16 (ai (aa (vI r_14) (aa (vI r_14) (ah ?_))))
     obtain rfl:=ae hc_9
     obtain rfl:=ae hL_10
     obtain rfl:=ae hF
     exact ax (aK [(vI r_14)] ⟨rfl,trivial⟩)
    ·refine aB rfl hc_16 (aA (au ?_))
     obtain ⟨v_17,h_18,hc_9⟩:=bind_some hc_9
     refine aN [(0,(vL Alert.enc l_1)),(12,(vL Alert.enc l_1)),(13,(vI (l_1.length:Int))),(14,(vI (k_3:Int))),(35,(vB v_17))] [(n_13,some (.cells 9 (Alert.v x_5)))] ?_ ?_
     ·refine bQ (aa (vI (k_3:Int)) (aa (vB (decide ((k_3:Int)>0))) ?_))
      rcases aj h_18 with⟨hc_19,h_18⟩|⟨hc_19,h_18⟩
      ·refine ay rfl hc_19 wz (aH (vL Alert.enc l_1) wa rfl (aH (vI (k_3:Int)) wa rfl (aH (vI (w64 ((k_3:Int)-1))) wa rfl ?_)))
       obtain ⟨y_20,hy_21,h_18⟩:=bind_some h_18
       refine eD lJ rfl rfl hy_21 rfl wa (bK iT mQ rfl (.d (.agg (Alert.enc y_20))) rfl wa (aI 8 0 (.inr (by kernel_rfl)) (λ_ _ ag=>trivial) iT mQ rfl rfl (.d (.agg (Alert.enc x_5))) rfl wa ?_))
       obtain ⟨r_22,hr_23,h_18⟩:=bind_some h_18
       refine aD (xH hr_23) rfl hb29 rfl rfl rfl rfl wa (aH (vB (decide (r_22>=0))) wa rfl (aa (vB (decide (r_22>=0))) (ah ?_)))
       obtain rfl:=ae h_18
       exact cu
      ·refine ay rfl hc_19 wz (af (af (af (af (af (af (af (af (aa (vB false) (ah ?_))))))))))
       obtain rfl:=ae h_18
       exact cu
     ·rintro ⟨⟩ _ sl_ H_ hp_ hq_
      refine aP _ hp_ hq_ ?_
      rcases aj hc_9 with⟨hc_24,hc_9⟩|⟨hc_24,hc_9⟩
      ·refine aC rfl hc_24 (ai (aa (vI 7) (ah ?_)))
       obtain rfl:=ae hc_9
       obtain rfl:=ae hL_10
       obtain rfl:=ae hF
       exact ax (aK [(vI 7)] ⟨rfl,trivial⟩)
      ·refine aB rfl hc_24 (aA (av (gY (cZ hD_6 hn_7) wz rfl (aa (vI ((k_3+1:Nat):Int)) (ah ?_)))))
       obtain rfl:=ae hc_9
       exact bN (k_3+1,l_4,()) ⟨hL_10,bn hD_6⟩ (ls_ _) rfl (aM rfl)
  ·rintro s_8 ho_ sl_ H_ hp_ hq_
   subst ho_
   refine aP _ hp_ hq_ (ai (Ee 0 (.inl rfl) wz (λn_25=>mJ (b':=some (bM D.str D.bool ([]:List (ByteArray×Bool)))) 0 rfl rfl (aa (.map n_25) (ah (au (ai (aa (vL Alert.enc l_1) (dz oK rfl wz (aa (vI 0) (ah ?_)))))))))))
   obtain ⟨o_34,hj_35,hF⟩:=bind_some hF
   obtain ⟨hn_30,hj_35⟩:=bu hj_35
   refine dU (λ(s_31:(List (ByteArray×Bool)))=>[(0,(vL Alert.enc l_1)),(6,(.map n_25))]) (λ(s_31:(List (ByteArray×Bool)))=>[(n_25,some (bM D.str D.bool s_31))]) (λ(k_26:Nat)=>(λ(s_31:(List (ByteArray×Bool)))=>[(0,(vL Alert.enc l_1)),(6,(.map n_25)),(38,(vL Alert.enc l_1)),(39,(vI (l_1.length:Int))),(40,(vI (k_26:Int)))])) (λk x s=>iJ k x s) o_34 l_1 ([]:List (ByteArray×Bool)) hj_35 rfl (aM rfl) ?_ ?_
   ·rintro ⟨k_26,l_27,s_31⟩ ⟨hL_33,hD_29⟩
    dsimp only at hL_33 hD_29
    cases l_27 with
    | nil =>
     obtain rfl:=ae hL_33
     refine ai (aa (vB (decide ((k_26:Int)<(l_1.length:Int)))) (ah ?_))
     refine au (aB rfl (drop_nil hD_29) (bO ?_))
     exact bD (s_31) rfl rfl (aM rfl)
    | cons x_28 l_27 =>
     obtain ⟨c_,hc_32,hL_33⟩:=bind_some hL_33
     refine ai (aa (vB (decide ((k_26:Int)<(l_1.length:Int)))) (ah ?_))
     refine au (aC rfl (bL hD_29) (aA ?_))
     unfold iJ at hc_32
     refine au (aR (ai (eD lJ rfl rfl (dh hD_29) rfl wz (bK iT mQ rfl (.d (.agg (Alert.enc x_28))) rfl wz (gN 0 (.inl rfl) z40 rfl wz (λn_36=>fe 0 il ft 1 iT rfl rfl (Alert.v x_28) rfl wz (ah (av (aa (.map n_25) (aG jT rfl 0 rfl wz (aI 0 1 il ft sz9 ag9 rfl rfl (vS x_28.Id) rfl wz (FX (eq:=eqS) (kD:=D.str) (vD:=D.bool) (es:=s_31) (k:=x_28.Id) (v:=true) 0 0 il ft (λ_ _=>rfl) mt68 (by kernel_rfl) rfl rfl rfl rfl wz (ah (av (gY (cZ hD_29 hn_30) wz rfl (aa (vI ((k_26+1:Nat):Int)) (ah ?_)))))))))))))))))
     obtain rfl:=ae hc_32
     exact bN (k_26+1,l_27,(aO eqS s_31 x_28.Id true)) ⟨hL_33,bn hD_29⟩ (ls_ _) rfl (aM rfl)
   ·rintro s_31 ho_ sl_ H_ hp_ hq_
    subst ho_
    refine aP _ hp_ hq_ (au (ai (aa (.map n_25) (LG (kD:=D.str) (vD:=D.bool) (es:=s_31) 0 0 il ft mt68 rfl rfl wz (aa (vL Alert.enc l_1) (dz oK rfl wz (aa (vB (decide ((s_31.length:Int)<(l_1.length:Int)))) (ah ?_))))))))
    rcases aj hF with⟨hc_37,hF⟩|⟨hc_37,hF⟩
    ·refine aC rfl hc_37 (ai (aa (vI 6) (ah ?_)))
     obtain rfl:=ae hF
     exact ax (aK [(vI 6)] ⟨rfl,trivial⟩)
    ·refine aB rfl hc_37 (aA (ai (aa (vI 0) (ah ?_))))
     obtain rfl:=ae hF
     exact ax (aK [(vI 0)] ⟨rfl,trivial⟩)
theorem nC {x0:ByteArray} {x1:ByteArray} {r:(List ByteArray)} (hF:strings_Split x0 x1=some r) :
  FnM Tryz.prog 55 [(vS x0),(vS x1)] [] (vL eS r) [] :=
 M4 rfl Tryz.strings_Split y8 hF
theorem ET {s_1:ByteArray} {r:(List ByteArray)×Bool} (hF:uU s_1=some r) :
  FnM Tryz.prog 32 [(vS s_1)] [] (.tup [(vL eS r.1),(vB r.2)]) []:=by
 refine FnM.of_wH ⟨Tryz.prog,19,[],[]⟩ rfl Tryz.func32 rfl rfl (lb_ rfl) (by kernel_rfl) ?_
 unfold uU at hF
 refine ai (aa .nil (aa (vB false) (ah (ai (aa (vS s_1) ?_)))))
 obtain ⟨r_2,hr_3,hF⟩:=bind_some hF
 refine aD (nC hr_3) rfl hb55 rfl rfl rfl rfl wz (aa (vL eS r_2) (ah (ai (aa (vL eS r_2) (dz kQ rfl wz (aa (vI (w64 ((r_2.length:Int)-1))) (aa (vI (w64 ((r_2.length:Int)-1))) (ah (au (ai (aa (vL eS r_2) (aa (vI (w64 ((r_2.length:Int)-1))) ?_))))))))))))
 obtain ⟨y_4,hy_5,hF⟩:=bind_some hF
 refine eD fO rfl rfl hy_5 rfl wz (bK sz9 ag9 rfl (vS y_4) rfl wz (aa (vB (sEq y_4 (⟨#[]⟩:ByteArray))) (ah ?_)))
 rcases aj hF with⟨hc_6,hF⟩|⟨hc_6,hF⟩
 ·refine aC rfl hc_6 (ai (aa (vL eS r_2) (aa (vI (w64 ((r_2.length:Int)-1))) ?_)))
  obtain ⟨y_7,hy_8,hF⟩:=bind_some hF
  refine nX kQ sz9 (λ_=>rfl) rfl rfl hy_8 wz (aa (vL eS y_7) (aa (vB true) (ah ?_)))
  obtain rfl:=ae hF
  exact ax (aK [(vL eS y_7),(vB true)] ⟨rfl,⟨rfl,trivial⟩⟩)
 ·refine aB rfl hc_6 (aA (ai (aa (vL eS r_2) (aa (vL eS r_2) (aa (vB false) (ah ?_))))))
  obtain rfl:=ae hF
  exact ax (aK [(vL eS r_2),(vB false)] ⟨rfl,⟨rfl,trivial⟩⟩)
theorem iQ {s_1:ByteArray} {prefixv_2:ByteArray} {r:Bool} (hF:bz s_1 prefixv_2=some r) :
  FnM Tryz.prog 121 [(vS s_1),(vS prefixv_2)] [] (vB r) []:=by
 refine FnM.of_wH ⟨Tryz.prog,18,[],[]⟩ rfl Tryz.func121 rfl rfl (lb_ rfl) (by kernel_rfl) ?_
 unfold bz at hF
 refine ai (aa (vB false) (ah (au ?_)))
 obtain ⟨v_3,h_4,hF⟩:=bind_some hF
 refine aN [(4,(vB v_3))] [] ?_ ?_
 ·refine av (aa (vS s_1) (iU un9 rfl wz (aa (vS prefixv_2) (iU un9 rfl wz (aa (vB (decide ((s_1.size:Int)>=(prefixv_2.size:Int)))) ?_)))))
  rcases aj h_4 with⟨hc_5,h_4⟩|⟨hc_5,h_4⟩
  ·refine ay rfl hc_5 wz (aH (vS s_1) wa rfl (aH (vS prefixv_2) wa rfl (iU un9 rfl wa ?_)))
   obtain ⟨y_6,hy_7,h_4⟩:=bind_some h_4
   refine jh un9 rfl rfl hy_7 wa (aH (vS prefixv_2) wa rfl (aH (vB (sEq y_6 prefixv_2)) wa rfl (aa (vB (sEq y_6 prefixv_2)) (aa (vB (sEq y_6 prefixv_2)) (ah ?_)))))
   obtain rfl:=ae h_4
   exact cu
  ·refine ay rfl hc_5 wz (af (af (af (af (af (af (aa (vB false) (aa (vB false) (ah ?_)))))))))
   obtain rfl:=ae h_4
   exact cu
 ·rintro ⟨⟩ _ sl_ H_ hp_ hq_
  refine aP _ hp_ hq_ ?_
  obtain rfl:=ae hF
  exact ax (aK [(vB v_3)] ⟨rfl,trivial⟩)
theorem ma {s_1:ByteArray} {prefixv_2:ByteArray} {r:ByteArray×Bool} (hF:eu s_1 prefixv_2=some r) :
  FnM Tryz.prog 86 [(vS s_1),(vS prefixv_2)] [] (.tup [(vS r.1),(vB r.2)]) []:=by
 refine FnM.of_wH ⟨Tryz.prog,15,[],[]⟩ rfl Tryz.func86 rfl rfl (lb_ rfl) (by kernel_rfl) ?_
 unfold eu at hF
 refine ai (aa (vS (⟨#[]⟩:ByteArray)) (aa (vB false) (ah (au (ai (aa (vS s_1) (aa (vS prefixv_2) ?_)))))))
 obtain ⟨r_3,hr_4,hF⟩:=bind_some hF
 refine aD (iQ hr_4) rfl hb121 rfl rfl rfl rfl wz (aa (vB (!r_3)) (ah ?_))
 rcases aj hF with⟨hc_5,hF⟩|⟨hc_5,hF⟩
 ·refine aC rfl hc_5 (ai (aa (vS s_1) (aa (vS s_1) (aa (vB false) (ah ?_)))))
  obtain rfl:=ae hF
  exact ax (aK [(vS s_1),(vB false)] ⟨rfl,⟨rfl,trivial⟩⟩)
 ·refine aB rfl hc_5 (aA (ai (aa (vS s_1) (aa (vS prefixv_2) (iU un9 rfl wz ?_)))))
  obtain ⟨y_6,hy_7,hF⟩:=bind_some hF
  refine jl un9 rfl rfl hy_7 wz (aa (vS y_6) (aa (vB true) (ah ?_)))
  obtain rfl:=ae hF
  exact ax (aK [(vS y_6),(vB true)] ⟨rfl,⟨rfl,trivial⟩⟩)
theorem nM {s_1:ByteArray} {prefixv_2:ByteArray} {r:ByteArray×Bool} (hF:strings_CutPrefix s_1 prefixv_2=some r) :
  FnM Tryz.prog 56 [(vS s_1),(vS prefixv_2)] [] (.tup [(vS r.1),(vB r.2)]) []:=by
 refine FnM.of_wH ⟨Tryz.prog,11,[],[]⟩ rfl Tryz.func56 rfl rfl (lb_ rfl) (by kernel_rfl) ?_
 unfold strings_CutPrefix at hF
 refine ai (aa (vS (⟨#[]⟩:ByteArray)) (aa (vB false) (ah (ai (aa (vS s_1) (aa (vS prefixv_2) ?_))))))
 obtain ⟨r_3,hr_4,hF⟩:=bind_some hF
 refine aD (ma hr_4) rfl hb86 rfl rfl rfl rfl wz (aa (vS r_3.1) (aa (vB r_3.2) (aa (vS r_3.1) (aa (vB r_3.2) (ah ?_)))))
 obtain rfl:=ae hF
 exact ax (aK [(vS r_3.1),(vB r_3.2)] ⟨rfl,⟨rfl,trivial⟩⟩)
theorem gz {s_1:(List ByteArray)} {v_2:ByteArray} {r:Int} (hF:bg s_1 v_2=some r) :
  FnM Tryz.prog 58 [(vL eS s_1),(vS v_2)] [] (vI r) []:=by
 refine FnM.of_wH ⟨Tryz.prog,19,[],[]⟩ rfl Tryz.func58 rfl rfl (lb_ rfl) (by kernel_rfl) ?_
 unfold bg at hF
 refine ai (aa (vI 0) (ah (au (ai (aa (vL eS s_1) (dz kQ rfl wz (aa (vI 0) (ah ?_))))))))
 obtain ⟨o_11,hj_12,hF⟩:=bind_some hF
 obtain ⟨hn_7,hj_12⟩:=bu hj_12
 refine dU (λ(s_8:Unit)=>[]) (λ(s_8:Unit)=>[]) (λ(k_3:Nat)=>(λ(s_8:Unit)=>[(0,(vL eS s_1)),(1,(vS v_2)),(7,(vI (s_1.length:Int))),(8,(vI (k_3:Int)))])) (λk x s=>bZ v_2 k x s) o_11 s_1 () hj_12 rfl (aM rfl) ?_ ?_
 ·rintro ⟨k_3,l_4,s_8⟩ ⟨hL_10,hD_6⟩
  dsimp only at hL_10 hD_6
  cases l_4 with
  | nil =>
   obtain rfl:=ae hL_10
   refine ai (aa (vB (decide ((k_3:Int)<(s_1.length:Int)))) (ah ?_))
   refine au (aB rfl (drop_nil hD_6) (bO ?_))
   exact bD (s_8) rfl rfl (aM rfl)
  | cons x_5 l_4 =>
   obtain ⟨c_,hc_9,hL_10⟩:=bind_some hL_10
   refine ai (aa (vB (decide ((k_3:Int)<(s_1.length:Int)))) (ah ?_))
   refine au (aC rfl (bL hD_6) (aA ?_))
   unfold bZ at hc_9
   refine au (aR (ai (aa (vI (k_3:Int)) (aa (vI (k_3:Int)) (ah (ai (aa (vS v_2) (aa (vL eS s_1) (aa (vI (k_3:Int)) (eD fO rfl rfl (dh hD_6) rfl wz (bK sz9 ag9 rfl (vS x_5) rfl wz (aa (vB (sEq v_2 x_5)) (ah ?_)))))))))))))
   rcases aj hc_9 with⟨hc_13,hc_9⟩|⟨hc_13,hc_9⟩
   ·refine aC rfl hc_13 (ai (aa (vI (k_3:Int)) (aa (vI (k_3:Int)) (ah ?_))))
    obtain rfl:=ae hc_9
    obtain rfl:=ae hL_10
    obtain rfl:=ae hF
    exact ax (aK [(vI (k_3:Int))] ⟨rfl,trivial⟩)
   ·refine aB rfl hc_13 (aA (av (gY (cZ hD_6 hn_7) wz rfl (aa (vI ((k_3+1:Nat):Int)) (ah ?_)))))
    obtain rfl:=ae hc_9
    exact bN (k_3+1,l_4,()) ⟨hL_10,bn hD_6⟩ (ls_ _) rfl (aM rfl)
 ·rintro s_8 ho_ sl_ H_ hp_ hq_
  subst ho_
  refine aP _ hp_ hq_ (ai (aa (vI (-1)) (ah ?_)))
  obtain rfl:=ae hF
  exact ax (aK [(vI (-1))] ⟨rfl,trivial⟩)
theorem iY {s_1:(List ByteArray)} {v_2:ByteArray} {r:Bool} (hF:cz s_1 v_2=some r) :
  FnM Tryz.prog 87 [(vL eS s_1),(vS v_2)] [] (vB r) []:=by
 refine FnM.of_wH ⟨Tryz.prog,9,[],[]⟩ rfl Tryz.func87 rfl rfl (lb_ rfl) (by kernel_rfl) ?_
 unfold cz at hF
 refine ai (aa (vB false) (ah (ai (aa (vL eS s_1) (aa (vS v_2) ?_)))))
 obtain ⟨r_3,hr_4,hF⟩:=bind_some hF
 refine aD (gz hr_4) rfl hb58 rfl rfl rfl rfl wz (aa (vB (decide (r_3>=0))) (aa (vB (decide (r_3>=0))) (ah ?_)))
 obtain rfl:=ae hF
 exact ax (aK [(vB (decide (r_3>=0)))] ⟨rfl,trivial⟩)
theorem EG {s_1:ByteArray} {r:(List ByteArray)×Bool} (hF:lZ s_1=some r) :
  FnM Tryz.prog 57 [(vS s_1)] [] (.tup [(vL eS r.1),(vB r.2)]) []:=by
 refine FnM.of_wH ⟨Tryz.prog,11,[],[]⟩ rfl Tryz.func57 rfl rfl (lb_ rfl) (by kernel_rfl) ?_
 unfold lZ at hF
 refine ai (aa .nil (aa (vB false) (ah (ai (aa (vS s_1) ?_)))))
 obtain ⟨r_2,hr_3,hF⟩:=bind_some hF
 refine aD (nC hr_3) rfl hb55 rfl rfl rfl rfl wz (aa (vL eS r_2) (ah (ai (aa (vL eS r_2) (aa (vL eS r_2) ?_)))))
 obtain ⟨r_4,hr_5,hF⟩:=bind_some hF
 refine aD (iY hr_5) rfl hb87 rfl rfl rfl rfl wz (aa (vB (!r_4)) (aa (vL eS r_2) (aa (vB (!r_4)) (ah ?_))))
 obtain rfl:=ae hF
 exact ax (aK [(vL eS r_2),(vB (!r_4))] ⟨rfl,⟨rfl,trivial⟩⟩)
theorem lT {s_1:ByteArray} {prefixv_2:ByteArray} {r:ByteArray} (hF:dw s_1 prefixv_2=some r) :
  FnM Tryz.prog 144 [(vS s_1),(vS prefixv_2)] [] (vS r) []:=by
 refine FnM.of_wH ⟨Tryz.prog,13,[],[]⟩ rfl Tryz.func144 rfl rfl (lb_ rfl) (by kernel_rfl) ?_
 unfold dw at hF
 refine ai (aa (vS (⟨#[]⟩:ByteArray)) (ah (au (ai (aa (vS s_1) (aa (vS prefixv_2) ?_))))))
 obtain ⟨r_3,hr_4,hF⟩:=bind_some hF
 refine aD (iQ hr_4) rfl hb121 rfl rfl rfl rfl wz (ah ?_)
 rcases aj hF with⟨hc_5,hF⟩|⟨hc_5,hF⟩
 ·refine aC rfl hc_5 (ai (aa (vS s_1) (aa (vS prefixv_2) (iU un9 rfl wz ?_))))
  obtain ⟨y_6,hy_7,hF⟩:=bind_some hF
  refine jl un9 rfl rfl hy_7 wz (aa (vS y_6) (ah ?_))
  obtain rfl:=ae hF
  exact ax (aK [(vS y_6)] ⟨rfl,trivial⟩)
 ·refine aB rfl hc_5 (aA (ai (aa (vS s_1) (aa (vS s_1) (ah ?_)))))
  obtain rfl:=ae hF
  exact ax (aK [(vS s_1)] ⟨rfl,trivial⟩)
theorem mV {s_1:ByteArray} {prefixv_2:ByteArray} {r:ByteArray} (hF:strings_TrimPrefix s_1 prefixv_2=some r) :
  FnM Tryz.prog 122 [(vS s_1),(vS prefixv_2)] [] (vS r) []:=by
 refine FnM.of_wH ⟨Tryz.prog,8,[],[]⟩ rfl Tryz.func122 rfl rfl (lb_ rfl) (by kernel_rfl) ?_
 unfold strings_TrimPrefix at hF
 refine ai (aa (vS (⟨#[]⟩:ByteArray)) (ah (ai (aa (vS s_1) (aa (vS prefixv_2) ?_)))))
 obtain ⟨r_3,hr_4,hF⟩:=bind_some hF
 refine aD (lT hr_4) rfl hb144 rfl rfl rfl rfl wz (aa (vS r_3) (ah ?_))
 obtain rfl:=ae hF
 exact ax (aK [(vS r_3)] ⟨rfl,trivial⟩)
theorem strconv_Atoi_ok {x0:ByteArray} {r:Int} (hF:strconv_Atoi x0=some r) :
  FnM Tryz.prog 123 [(.d (.str x0))] [] (.tup [(.d (.int .i64 r)),.nili]) [] :=
 atoi_ok rfl Tryz.strconv_Atoi hF
theorem CE {s_1:ByteArray} {most_2:Int} {r:Int×Bool} (hF:pM s_1 most_2=some r) :
  FnM Tryz.prog 88 [(vS s_1),(vI most_2)] [] (.tup [(vI r.1),(vB r.2)]) []:=by
 refine FnM.of_wH ⟨Tryz.prog,53,[],[]⟩ rfl Tryz.func88 rfl rfl (lb_ rfl) (by kernel_rfl) ?_
 unfold pM at hF
 refine ai (aa (vI 0) (aa (vB false) (ah (ai (aa (vS s_1) ?_)))))
 obtain ⟨r_3,hr_4,hF⟩:=bind_some hF
 refine aD (mV hr_4) rfl hb122 rfl rfl rfl rfl wz (aa (vS r_3) (ah (au (au ?_))))
 obtain ⟨v_5,h_6,hF⟩:=bind_some hF
 refine aN [(0,(vS s_1)),(6,(vS r_3)),(28,(vB v_5))] [] ?_ ?_
 ·refine av (aa (vS r_3) (aa (vB (sEq r_3 (⟨#[]⟩:ByteArray))) ?_))
  rcases aj h_6 with⟨hc_7,h_6⟩|⟨hc_7,h_6⟩
  ·refine ay rfl hc_7 wz (af (af (af (af (aa (vB true) (aa (vB true) (af (af (af (af (aX (wn rfl rfl) (aX (wn rfl rfl) (af (aa (vB true) (ah ?_)))))))))))))))
   obtain rfl:=ae h_6
   exact cu
  ·refine ay rfl hc_7 wz (aH (vS r_3) wa rfl (iU un9 rfl wa (aH (vI most_2) wa rfl (aH (vB (decide ((r_3.size:Int)>most_2))) wa rfl (aa (vB (decide ((r_3.size:Int)>most_2))) ?_)))))
   rcases aj h_6 with⟨hc_8,h_6⟩|⟨hc_8,h_6⟩
   ·refine ay rfl hc_8 wz (af (af (af (af (aX (wn rfl rfl) (aX (wn rfl rfl) (af (aa (vB true) (ah ?_)))))))))
    obtain rfl:=ae h_6
    exact cu
   ·refine ay rfl hc_8 wz (aH (vS r_3) wa rfl ?_)
    obtain ⟨b_9,hy_10,h_6⟩:=bind_some h_6
    refine qE un9 rfl rfl hy_10 wa (aH (vB ((b_9.toNat:Int)==48)) wa rfl ?_)
    rcases aj h_6 with⟨hc_11,h_6⟩|⟨hc_11,h_6⟩
    ·refine ay rfl hc_11 wa (aH (vS s_1) wa rfl (aH (vB (sNe s_1 (⟨#[48]⟩:ByteArray))) wa rfl (aH (vB (sNe s_1 (⟨#[48]⟩:ByteArray))) wa rfl (aa (vB (sNe s_1 (⟨#[48]⟩:ByteArray))) (ah ?_)))))
     obtain rfl:=ae h_6
     exact cu
    ·refine ay rfl hc_11 wa (af (af (aH (vB false) wa rfl (aa (vB false) (ah ?_)))))
     obtain rfl:=ae h_6
     exact cu
 ·rintro ⟨⟩ _ sl_ H_ hp_ hq_
  refine aP _ hp_ hq_ ?_
  rcases aj hF with⟨hc_12,hF⟩|⟨hc_12,hF⟩
  ·refine aC rfl hc_12 (ai (aa (vI 0) (aa (vB false) (ah ?_))))
   obtain rfl:=ae hF
   exact ax (aK [(vI 0),(vB false)] ⟨rfl,⟨rfl,trivial⟩⟩)
  ·refine aB rfl hc_12 (aA (au (ai (aa (vI 0) (ah ?_)))))
   obtain ⟨o_21,hj_22,hF⟩:=bind_some hF
   obtain ⟨nq_34,hj_22⟩:=lU hj_22
   refine oP (λ(s_18:Int)=>[(0,(vS s_1))]) (λ(s_18:Int)=>[]) (λ(k_13:Nat)=>(λ(s_18:Int)=>[(0,(vS s_1)),(6,(vS r_3)),(7,(vI s_18))])) (λs=>gu r_3 s) o_21 nq_34 0 hj_22 rfl (aM rfl) ?_ ?_
   ·rintro ⟨k_13,s_18⟩ hL_20
    dsimp only at hL_20
    cases k_13 with
    | zero=>cases hL_20
    | succ k_13 =>
     obtain ⟨c_,hc_19,hL_20⟩:=bind_some hL_20
     unfold gu at hc_19
     refine au (ai (aa (vI s_18) (aa (vS r_3) (iU un9 rfl wz (aa (vB (decide (s_18<(r_3.size:Int)))) (ah ?_))))))
     rcases aj hc_19 with⟨hc_23,hc_19⟩|⟨hc_23,hc_19⟩
     ·refine aC rfl hc_23 (aA (au (aR (au ?_))))
      obtain ⟨v_24,h_25,hc_19⟩:=bind_some hc_19
      refine aN [(0,(vS s_1)),(6,(vS r_3)),(7,(vI s_18)),(44,(vB v_24))] [] ?_ ?_
      ·refine av (aa (vS r_3) (aa (vI s_18) ?_))
       obtain ⟨b_26,hy_27,h_25⟩:=bind_some h_25
       refine qE un9 rfl rfl hy_27 wz (aa (vB (decide ((b_26.toNat:Int)<48))) ?_)
       rcases aj h_25 with⟨hc_28,h_25⟩|⟨hc_28,h_25⟩
       ·refine ay rfl hc_28 wz (af (af (af (af (aa (vB true) (ah ?_))))))
        obtain rfl:=ae h_25
        exact cu
       ·refine ay rfl hc_28 wz (aH (vS r_3) wa rfl (aH (vI s_18) wa rfl ?_))
        obtain ⟨b_29,hy_30,h_25⟩:=bind_some h_25
        refine qE un9 rfl rfl hy_30 wa (aH (vB (decide ((b_29.toNat:Int)>57))) wa rfl (aa (vB (decide ((b_29.toNat:Int)>57))) (ah ?_)))
        obtain rfl:=ae h_25
        exact cu
      ·rintro ⟨⟩ _ sl_ H_ hp_ hq_
       refine aP _ hp_ hq_ ?_
       rcases aj hc_19 with⟨hc_31,hc_19⟩|⟨hc_31,hc_19⟩
       ·refine aC rfl hc_31 (ai (aa (vI 0) (aa (vB false) (ah ?_))))
        obtain rfl:=ae hc_19
        obtain rfl:=ae hL_20
        obtain rfl:=ae hF
        exact ax (aK [(vI 0),(vB false)] ⟨rfl,⟨rfl,trivial⟩⟩)
       ·refine aB rfl hc_31 (aA (av (aa (vI s_18) (aa (vI (w64 (s_18+1))) (aa (vI (w64 (s_18+1))) (ah ?_))))))
        obtain rfl:=ae hc_19
        exact bN (k_13,(w64 (s_18+1))) hL_20 (ls_ _) rfl (aM rfl)
     ·refine aB rfl hc_23 (bO ?_)
      obtain rfl:=ae hc_19
      obtain rfl:=ae hL_20
      exact bD (s_18) rfl rfl (aM rfl)
   ·rintro s_18 ho_ sl_ H_ hp_ hq_
    subst ho_
    refine aP _ hp_ hq_ (ai (aa (vS s_1) ?_))
    obtain ⟨r_32,hr_33,hF⟩:=bind_some hF
    refine aD (strconv_Atoi_ok hr_33) rfl hb123 rfl rfl rfl rfl wz (aa (.tup [(vI r_32),.nili]) (aa (vI r_32) (aa .nili (aa (vI r_32) (aa .nili (ah (au (bQ (aa (vI r_32) (aa .nili (h_ieq if58 rfl rfl rfl wz (aa (vI r_32) (aa (vB true) (ah ?_))))))))))))))
    obtain rfl:=ae hF
    exact ax (aK [(vI r_32),(vB true)] ⟨rfl,⟨rfl,trivial⟩⟩)
theorem rF {l_1:(List ByteArray)} {r:(List Int)×Bool} (hF:iw l_1=some r) :
  FnM Tryz.prog 59 [(vL eS l_1)] [] (.tup [(vL eI r.1),(vB r.2)]) []:=by
 refine FnM.of_wH ⟨Tryz.prog,28,[],[]⟩ rfl Tryz.func59 rfl rfl (lb_ rfl) (by kernel_rfl) ?_
 unfold iw at hF
 refine ai (aa .nil (aa (vB false) (ah (ai (aa .nil (ah (au (ai (aa (vL eS l_1) (dz kQ rfl wz (aa (vI 0) (ah (ni (λn_8 => ?_))))))))))))))
 obtain ⟨o_13,hj_14,hF⟩:=bind_some hF
 obtain ⟨hn_6,hj_14⟩:=bu hj_14
 refine iZ (σ:=(List Int)) (N:=Nm) (λp=>(λ(s_7:List Int) (n_10:Nm)=>([(4,(gV n_10 1 s_7))]:SL_)) p.1 p.2) (λp=>(λ(s_7:List Int) (n_10:Nm)=>([(n_10,gB 1 eI s_7)]:Hp)) p.1 p.2) (λ(k_2:Nat)=>(λp=>(λ(s_7:List Int) (n_10:Nm)=>([(4,(gV n_10 1 s_7)),(9,(vL eS l_1)),(10,(vI (l_1.length:Int))),(11,(vI (k_2:Int)))]:SL_)) p.1 p.2)) (λk x s=>fo k x s) o_13 l_1 (([]:List Int),n_8) hj_14 rfl (aM rfl) ?_ ?_
 ·rintro ⟨k_2,l_3,s_7,n_10⟩ ⟨hL_12,hD_5⟩
  dsimp only at hL_12 hD_5
  cases l_3 with
  | nil =>
   obtain rfl:=ae hL_12
   refine ai (aa (vB (decide ((k_2:Int)<(l_1.length:Int)))) (ah ?_))
   refine au (aB rfl (drop_nil hD_5) (bO ?_))
   exact bD (s_7,n_10) rfl rfl (aM rfl)
  | cons x_4 l_3 =>
   obtain ⟨c_,hc_11,hL_12⟩:=bind_some hL_12
   refine ai (aa (vB (decide ((k_2:Int)<(l_1.length:Int)))) (ah ?_))
   refine au (aC rfl (bL hD_5) (aA ?_))
   unfold fo at hc_11
   refine au (aR (ai (eD fO rfl rfl (dh hD_5) rfl wz (bK sz9 ag9 rfl (vS x_4) rfl wz (aa (vS x_4) (ah (ai (aa (vS x_4) ?_))))))))
   obtain ⟨r_15,hr_16,hc_11⟩:=bind_some hc_11
   refine aD (CE hr_16) rfl hb88 rfl rfl rfl rfl wz (aa (.tup [(vI r_15.1),(vB r_15.2)]) (aa (vI r_15.1) (aa (vB r_15.2) (aa (vI r_15.1) (aa (vB r_15.2) (ah (au (ai (aa (vB r_15.2) (aa (vB (!r_15.2)) (ah ?_)))))))))))
   rcases aj hc_11 with⟨hc_17,hc_11⟩|⟨hc_17,hc_11⟩
   ·refine aC rfl hc_17 (ai (aa .nil (aa (vB false) (ah ?_))))
    obtain rfl:=ae hc_11
    obtain rfl:=ae hL_12
    obtain rfl:=ae hF
    exact ax (aK [.nil,(vB false)] ⟨rfl,⟨rfl,trivial⟩⟩)
   ·refine aB rfl hc_17 (aA (av (aa (gV n_10 1 s_7) (aa (vI r_15.1) (di (([r_15.1]:List Int).map eI) jZ uy rfl rfl rfl rfl rfl wz ?_)))))
    obtain ⟨a_18,hz_19,hc_11⟩:=bind_some hc_11
    refine lS 0 il ft (i:=0) el22 el22 sz3 z3 rfl (by decide) by3 (by decide) (λ_=>rfl) rfl rfl rfl hz_19 wz (λn_20=>aa (gV n_20 1 a_18) (ah (av (gY (cZ hD_5 hn_6) wz rfl (aa (vI ((k_2+1:Nat):Int)) (ah ?_))))))
    obtain rfl:=ae hc_11
    exact bN (k_2+1,l_3,a_18,n_20) ⟨hL_12,bn hD_5⟩ (ls_ _) rfl (aM rfl)
 ·rintro ⟨s_7,n_10⟩ ho_ sl_ H_ hp_ hq_
  subst ho_
  refine aP _ hp_ hq_ (ai (aa (gV n_10 1 s_7) (aa (gV n_10 1 s_7) (aa (vB true) (ah (iW 0 rfl (ji 2 0 rfl rfl (ji 4 0 rfl rfl (ji 27 0 rfl rfl ?_)))))))))
  obtain rfl:=ae hF
  exact ax (aK [(vL eI s_7),(vB true)] ⟨rfl,⟨rfl,trivial⟩⟩)
end Go.Proofs.YtljhfffghjclfaaGreatDoor.Law

