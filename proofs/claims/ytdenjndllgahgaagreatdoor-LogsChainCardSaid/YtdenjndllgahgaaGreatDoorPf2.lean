/-
 The machine computes these plain functions (written by a program of ours).
-/
import Derived.Test.YtdenjndllgahgaaGreatDoorFacts
import Derived.Test.YtdenjndllgahgaaGreatDoorDefs
import Derived.Test.YtdenjndllgahgaaGreatDoorPf1
import Derived.Test.YtdenjndllgahgaaGreatDoorShelf
open Go Go.Eng Go.Proofs
namespace Go.Proofs.YtdenjndllgahgaaGreatDoor.Law
set_option maxRecDepth 100000
set_option linter.unusedVariables false
set_option maxHeartbeats 1000000
theorem kP {x_1:Int} {y_2:Int} {r:Int} (hF:cmp_Compare_int x_1 y_2=some r) :
  FnM Tryz.prog 118 [(vI x_1),(vI y_2)] [] (vI r) []:=by
 refine FnM.of_wH ⟨Tryz.prog,20,[],[]⟩ rfl Tryz.func118 rfl rfl (lb_ rfl) (by kernel_rfl) ?_
 unfold cmp_Compare_int at hF
 refine af (aa (ae (vI 0) wz rfl (ai (af (aa (ae (vI x_1) wz rfl ?_))))))
 obtain ⟨r_3,hr_4,hF⟩:=bind_some hF
 refine ay (l9 hr_4) rfl hb147 rfl rfl rfl rfl wz (ae (vB r_3) wz rfl (ai (af (aa (ae (vI y_2) wz rfl ?_)))))
 obtain ⟨r_5,hr_6,hF⟩:=bind_some hF
 refine ay (l9 hr_6) rfl hb147 rfl rfl rfl rfl wz (ae (vB r_5) wz rfl (ai (af (af (aa (ae (vB r_3) wz rfl (ai ?_)))))))
 rcases ak hF with⟨hc_7,hF⟩|⟨hc_7,hF⟩
 ·refine aB rfl hc_7 (af (af (aa (ae (vB r_5) wz rfl (ai ?_)))))
  rcases ak hF with⟨hc_8,hF⟩|⟨hc_8,hF⟩
  ·refine aB rfl hc_8 (af (aa (ae (vI 0) wz rfl (ai ?_))))
   obtain rfl:=ah hF
   exact av (aS (.inr rfl) [(vI 0)] ⟨rfl,trivial⟩ rfl rfl rfl)
  ·refine aA rfl hc_8 (ax (af (aa (ae (vI (-1)) wz rfl (ai ?_)))))
   obtain rfl:=ah hF
   exact av (aS (.inr rfl) [(vI (-1))] ⟨rfl,trivial⟩ rfl rfl rfl)
 ·refine aA rfl hc_7 (ax (af (af (aa (ae (vB r_5) wz rfl (ai ?_))))))
  rcases ak hF with⟨hc_9,hF⟩|⟨hc_9,hF⟩
  ·refine aB rfl hc_9 (af (aa (ae (vI 1) wz rfl (ai ?_))))
   obtain rfl:=ah hF
   exact av (aS (.inr rfl) [(vI 1)] ⟨rfl,trivial⟩ rfl rfl rfl)
  ·refine aA rfl hc_9 (ax (af (af (aa (ae (vI x_1) wz rfl (ae (vI y_2) wz rfl (ae (vB (decide (x_1<y_2))) wz rfl (ai ?_))))))))
   rcases ak hF with⟨hc_10,hF⟩|⟨hc_10,hF⟩
   ·refine aB rfl hc_10 (af (aa (ae (vI (-1)) wz rfl (ai ?_))))
    obtain rfl:=ah hF
    exact av (aS (.inr rfl) [(vI (-1))] ⟨rfl,trivial⟩ rfl rfl rfl)
   ·refine aA rfl hc_10 (ax (af (af (aa (ae (vI x_1) wz rfl (ae (vI y_2) wz rfl (ae (vB (decide (x_1>y_2))) wz rfl (ai ?_))))))))
    rcases ak hF with⟨hc_11,hF⟩|⟨hc_11,hF⟩
    ·refine aB rfl hc_11 (af (aa (ae (vI 1) wz rfl (ai ?_))))
     obtain rfl:=ah hF
     exact av (aS (.inr rfl) [(vI 1)] ⟨rfl,trivial⟩ rfl rfl rfl)
    ·refine aA rfl hc_11 (ax (af (aa (ae (vI 0) wz rfl (ai ?_)))))
     obtain rfl:=ah hF
     exact av (aS (.inr rfl) [(vI 0)] ⟨rfl,trivial⟩ rfl rfl rfl)
theorem pu {vals_1:(List Int)} {r:Int} (hF:jy vals_1=some r) :
  FnM Tryz.prog 117 [(vL eI vals_1)] [] (vI r) []:=by
 refine FnM.of_wH ⟨Tryz.prog,18,[],[]⟩ rfl Tryz.func117 rfl rfl (lb_ rfl) (by kernel_rfl) ?_
 unfold jy at hF
 refine af (aa (ae (vI 0) wz rfl (ai (af (aa (ae (vI 0) wz rfl (ai (af (af (aa (ae (vL eI vals_1) wz rfl (eP Cw rfl wz (ae (vI 0) wz rfl (ai ?_))))))))))))))
 obtain ⟨o_10,hj_11,hF⟩:=bind_some hF
 obtain ⟨hn_6,hj_11⟩:=bJ hj_11
 refine aH (β:=(Unit)) (λ(s_7:Unit)=>([(3,(vI 0))]:SL_)) (λ(s_7:Unit)=>([]:Hp)) (λp=>o_10 = .go p) ?_ ?_
 ·refine aG (bZ (β:=Nat×(List Int)×(Unit)) (λp=>(λ(k_2:Nat) (l_3:List Int) (s_7:Unit)=>([(3,(vI 0)),(6,(vL eI vals_1)),(7,(vI (vals_1.length:Int))),(8,(vI (k_2:Int)))]:SL_)) p.1 p.2.1 p.2.2) (λp=>(λ(k_2:Nat) (l_3:List Int) (s_7:Unit)=>([]:Hp)) p.1 p.2.1 p.2.2) (λp=>dF (λk x s=>jE k x s) p.2.1 p.1 p.2.2=some o_10/\(vals_1).drop p.1=p.2.1) (λp=>p.2.1.length) (0,vals_1,()) ⟨hj_11,rfl⟩ rfl (aN rfl) ?_)
  rintro ⟨k_2,l_3,s_7⟩ ⟨hL_9,hD_5⟩
  dsimp only at hL_9 hD_5
  cases l_3 with
  | nil =>
   obtain rfl:=ah hL_9
   refine af (aa (ae (vB (decide ((k_2:Int)<(vals_1.length:Int)))) wz rfl (ai ?_)))
   refine af (aA rfl (drop_nil hD_5) (cz ?_))
   exact bW (s_7) rfl rfl (aN rfl)
  | cons x_4 l_3 =>
   obtain ⟨c_,hc_8,hL_9⟩:=bind_some hL_9
   refine af (aa (ae (vB (decide ((k_2:Int)<(vals_1.length:Int)))) wz rfl (ai ?_)))
   refine af (aB rfl (dN hD_5) (ax ?_))
   unfold jE at hc_8
   refine af (aG (af (aa (gM uV rfl rfl (eB hD_5) rfl wz (dM sz3 ag3 rfl (vI x_4) rfl wz (ae (vI x_4) wz rfl (ai (af (aa (ae (vI x_4) wz rfl (ae (vI 0) wz rfl (ae (vB (x_4 != 0)) wz rfl (ai ?_)))))))))))))
   rcases ak hc_8 with⟨hc_12,hc_8⟩|⟨hc_12,hc_8⟩
   ·refine aB rfl hc_12 (af (aa (ae (vI x_4) wz rfl (ae (vI x_4) wz rfl (ai ?_)))))
    obtain rfl:=ah hc_8
    obtain rfl:=ah hL_9
    obtain rfl:=ah hF
    exact av (aS (.inr rfl) [(vI x_4)] ⟨rfl,trivial⟩ rfl rfl rfl)
   ·refine aA rfl hc_12 (ax (aa (iQ (dX hD_5 hn_6) wz rfl (ae (vI ((k_2+1:Nat):Int)) wz rfl (ai ?_)))))
    obtain rfl:=ah hc_8
    exact cO (k_2+1,l_3,()) ⟨hL_9,bv hD_5⟩ (ls_ _) rfl (aN rfl)
 ·rintro s_7 ho_ sl_ H_ hp_ hq_
  subst ho_
  refine aV _ hp_ hq_ (af (aa (ae (vI 0) wz rfl (ae (vI 0) wz rfl (ai ?_)))))
  obtain rfl:=ah hF
  exact av (aS (.inr rfl) [(vI 0)] ⟨rfl,trivial⟩ rfl rfl rfl)
theorem oG {a_1:Log_} {b_2:Log_} {r:Int} (hF:eU a_1 b_2=some r) :
  FnM Tryz.prog 80 [(.d (.agg (Log_.enc a_1))),(.d (.agg (Log_.enc b_2)))] [] (vI r) []:=by
 refine FnM.of_wH ⟨Tryz.prog,17,[],[]⟩ rfl Tryz.func80 rfl rfl (lb_ rfl) (by kernel_rfl) ?_
 unfold eU at hF
 refine af (aa (kY 0 (.inl rfl) [(vS a_1.Player),(vS a_1.Item),(vI a_1.No),(vI a_1.Clock),(vI a_1.Long),(vS a_1.Sum)] rfl rfl wz (λn_3=>kY 0 (.inl rfl) [(vS b_2.Player),(vS b_2.Item),(vI b_2.No),(vI b_2.Clock),(vI b_2.Long),(vS b_2.Sum)] rfl rfl wz (λn_4=>ae (vI 0) wz rfl (ai (af (bU (aO fZ rfl 0 rfl wz (aK 1 0 (.inr (by kernel_rfl)) (λ_ _ ag=>trivial) sz9 ag9 rfl rfl (vS a_1.Player) rfl wz (aO fZ rfl 0 rfl wz (aK 3 1 (.inr (by kernel_rfl)) (λ_ _ ag=>⟨.inl ⟨rfl,rfl⟩,trivial⟩) sz9 ag9 rfl rfl (vS b_2.Player) rfl wz ?_)))))))))))
 obtain ⟨r_5,hr_6,hF⟩:=bind_some hF
 refine ay (iC hr_6) rfl De rfl rfl rfl rfl wz (aO iX rfl 2 rfl wz (aK 6 0 (.inr (by kernel_rfl)) (λ_ _ ag=>⟨.inl ⟨rfl,rfl⟩,⟨.inl ⟨rfl,rfl⟩,trivial⟩⟩) sz3 ag3 rfl rfl (vI a_1.No) rfl wz (aO iX rfl 2 rfl wz (aK 8 1 (.inr (by kernel_rfl)) (λ_ _ ag=>⟨.inl ⟨rfl,rfl⟩,⟨.inl ⟨rfl,rfl⟩,⟨.inl ⟨rfl,rfl⟩,trivial⟩⟩⟩) sz3 ag3 rfl rfl (vI b_2.No) rfl wz ?_))))
 obtain ⟨r_7,hr_8,hF⟩:=bind_some hF
 refine ay (kP hr_8) rfl hb118 rfl rfl rfl rfl wz (gW (([r_5,r_7]:List Int).map eI) uV Al rfl rfl rfl rfl rfl wz ?_)
 obtain ⟨r_9,hr_10,hF⟩:=bind_some hF
 refine ay (pu hr_10) rfl hb117 rfl rfl rfl rfl wz (ae (vI r_9) wz rfl (ai ?_))
 obtain rfl:=ah hF
 exact av (aS (.inr rfl) [(vI r_9)] ⟨rfl,trivial⟩ rfl rfl rfl)
theorem qa {l_1:(List Log_)} {r:Int} (hF:fK l_1=some r) :
  FnM Tryz.prog 39 [(vL Log_.enc l_1)] [] (vI r) []:=by
 refine FnM.of_wH ⟨Tryz.prog,38,[],[]⟩ rfl Tryz.func39 rfl rfl (lb_ rfl) (by kernel_rfl) ?_
 unfold fK at hF
 refine af (aa (ae (vI 0) wz rfl (ai (af (af (aa (ae (vL Log_.enc l_1) wz rfl (eP kC rfl wz (ae (vB (decide ((l_1.length:Int)>2000))) wz rfl (ai ?_))))))))))
 rcases ak hF with⟨hc_2,hF⟩|⟨hc_2,hF⟩
 ·refine aB rfl hc_2 (af (aa (ae (vI 2) wz rfl (ai ?_))))
  obtain rfl:=ah hF
  exact av (aS (.inr rfl) [(vI 2)] ⟨rfl,trivial⟩ rfl rfl rfl)
 ·refine aA rfl hc_2 (ax (af (af (aa (ae (vL Log_.enc l_1) wz rfl (eP kC rfl wz (ae (vI 0) wz rfl (ai ?_))))))))
  obtain ⟨o_11,hj_12,hF⟩:=bind_some hF
  obtain ⟨hn_7,hj_12⟩:=bJ hj_12
  refine aH (β:=(Unit)) (λ(s_8:Unit)=>([]:SL_)) (λ(s_8:Unit)=>([]:Hp)) (λp=>o_11 = .go p) ?_ ?_
  ·refine aG (bZ (β:=Nat×(List Log_)×(Unit)) (λp=>(λ(k_3:Nat) (l_4:List Log_) (s_8:Unit)=>([(0,(vL Log_.enc l_1)),(9,(vL Log_.enc l_1)),(10,(vI (l_1.length:Int))),(11,(vI (k_3:Int)))]:SL_)) p.1 p.2.1 p.2.2) (λp=>(λ(k_3:Nat) (l_4:List Log_) (s_8:Unit)=>([]:Hp)) p.1 p.2.1 p.2.2) (λp=>dF (λk x s=>fF l_1 k x s) p.2.1 p.1 p.2.2=some o_11/\(l_1).drop p.1=p.2.1) (λp=>p.2.1.length) (0,l_1,()) ⟨hj_12,rfl⟩ rfl (aN rfl) ?_)
   rintro ⟨k_3,l_4,s_8⟩ ⟨hL_10,hD_6⟩
   dsimp only at hL_10 hD_6
   cases l_4 with
   | nil =>
    obtain rfl:=ah hL_10
    refine af (aa (ae (vB (decide ((k_3:Int)<(l_1.length:Int)))) wz rfl (ai ?_)))
    refine af (aA rfl (drop_nil hD_6) (cz ?_))
    exact bW (s_8) rfl rfl (aN rfl)
   | cons x_5 l_4 =>
    obtain ⟨c_,hc_9,hL_10⟩:=bind_some hL_10
    refine af (aa (ae (vB (decide ((k_3:Int)<(l_1.length:Int)))) wz rfl (ai ?_)))
    refine af (aB rfl (dN hD_6) (ax ?_))
    unfold fF at hc_9
    refine af (aG (af (aa (ae (vI (k_3:Int)) wz rfl (gM kz rfl rfl (eB hD_6) rfl wz (dM eG iw rfl (.d (.agg (Log_.enc x_5))) rfl wz (iA 0 (.inl rfl) z43 rfl wz (λn_13=>ae (vI (k_3:Int)) wz rfl (lm 0 il ft 0 eG rfl rfl [(vS x_5.Player),(vS x_5.Item),(vI x_5.No),(vI x_5.Clock),(vI x_5.Long),(vS x_5.Sum)] rfl wz (ai (af (af (aa (aK 0 0 il ft eG iw rfl rfl (.d (.agg (Log_.enc x_5))) rfl wz ?_))))))))))))))
    obtain ⟨r_14,hr_15,hc_9⟩:=bind_some hc_9
    refine ay (ja hr_15) rfl hb83 rfl rfl rfl rfl wz (ae (vI r_14) wz rfl (ai (af (aa (ae (vI r_14) wz rfl (ae (vB (r_14 != 0)) wz rfl (ai ?_)))))))
    rcases ak hc_9 with⟨hc_16,hc_9⟩|⟨hc_16,hc_9⟩
    ·refine aB rfl hc_16 (af (aa (ae (vI r_14) wz rfl (ae (vI r_14) wz rfl (ai ?_)))))
     obtain rfl:=ah hc_9
     obtain rfl:=ah hL_10
     obtain rfl:=ah hF
     exact av (aS (.inr rfl) [(vI r_14)] ⟨rfl,trivial⟩ rfl rfl rfl)
    ·refine aA rfl hc_16 (ax (af (af (aa (aO mJ rfl 5 rfl wz (aK 0 0 il ft sz9 ag9 rfl rfl (vS x_5.Sum) rfl wz ?_))))))
     obtain ⟨r_17,hr_18,hc_9⟩:=bind_some hc_9
     refine ay (nk hr_18) rfl hb84 rfl rfl rfl rfl wz (ae (vB (!r_17)) wz rfl (ai ?_))
     rcases ak hc_9 with⟨hc_19,hc_9⟩|⟨hc_19,hc_9⟩
     ·refine aB rfl hc_19 (af (aa (ae (vI 3) wz rfl (ai ?_))))
      obtain rfl:=ah hc_9
      obtain rfl:=ah hL_10
      obtain rfl:=ah hF
      exact av (aS (.inr rfl) [(vI 3)] ⟨rfl,trivial⟩ rfl rfl rfl)
     ·refine aA rfl hc_19 (ax (af ?_))
      obtain ⟨v_20,h_21,hc_9⟩:=bind_some hc_9
      refine aH (β:=Unit) (λ_=>([(0,(vL Log_.enc l_1)),(9,(vL Log_.enc l_1)),(10,(vI (l_1.length:Int))),(11,(vI (k_3:Int))),(36,(vB v_20))]:SL_)) (λ_=>([(n_13,some (.cells 6 [(vS x_5.Player),(vS x_5.Item),(vI x_5.No),(vI x_5.Clock),(vI x_5.Long),(vS x_5.Sum)]))]:Hp)) (λ_=>True) ?_ ?_
      ·refine bU (ae (vI (k_3:Int)) wz rfl (ae (vB (decide ((k_3:Int)>0))) wz rfl ?_))
       rcases ak h_21 with⟨hc_22,h_21⟩|⟨hc_22,h_21⟩
       ·refine aC rfl hc_22 wz (ae (vL Log_.enc l_1) wa rfl (ae (vI (k_3:Int)) wa rfl (ae (vI (w64 ((k_3:Int)-1))) wa rfl ?_)))
        obtain ⟨y_23,hy_24,h_21⟩:=bind_some h_21
        refine gM kz rfl rfl hy_24 rfl wa (dM eG iw rfl (.d (.agg (Log_.enc y_23))) rfl wa (aK 8 0 (.inr (by kernel_rfl)) (λ_ _ ag=>trivial) eG iw rfl rfl (.d (.agg (Log_.enc x_5))) rfl wa ?_))
        obtain ⟨r_25,hr_26,h_21⟩:=bind_some h_21
        refine ay (oG hr_26) rfl hb80 rfl rfl rfl rfl wa (ae (vB (decide (r_25>=0))) wa rfl (ae (vB (decide (r_25>=0))) wz rfl (ai ?_)))
        obtain rfl:=ah h_21
        exact cu
       ·refine aC rfl hc_22 wz (aj wa (aj wa (aj wa (aj wa (aj wa (aj wa (aj wa (aj wa (ae (vB false) wz rfl (ai ?_))))))))))
        obtain rfl:=ah h_21
        exact cu
      ·rintro ⟨⟩ _ sl_ H_ hp_ hq_
       refine aV _ hp_ hq_ ?_
       rcases ak hc_9 with⟨hc_27,hc_9⟩|⟨hc_27,hc_9⟩
       ·refine aB rfl hc_27 (af (aa (ae (vI 7) wz rfl (ai ?_))))
        obtain rfl:=ah hc_9
        obtain rfl:=ah hL_10
        obtain rfl:=ah hF
        exact av (aS (.inr rfl) [(vI 7)] ⟨rfl,trivial⟩ rfl rfl rfl)
       ·refine aA rfl hc_27 (ax (aa (iQ (dX hD_6 hn_7) wz rfl (ae (vI ((k_3+1:Nat):Int)) wz rfl (ai ?_)))))
        obtain rfl:=ah hc_9
        exact cO (k_3+1,l_4,()) ⟨hL_10,bv hD_6⟩ (ls_ _) rfl (aN rfl)
  ·rintro s_8 ho_ sl_ H_ hp_ hq_
   subst ho_
   refine aV _ hp_ hq_ (af (aa (ae (vI 0) wz rfl (ai ?_))))
   obtain rfl:=ah hF
   exact av (aS (.inr rfl) [(vI 0)] ⟨rfl,trivial⟩ rfl rfl rfl)
theorem oW {n_1:Int} {low_2:Int} {high_3:Int} {r:Bool} (hF:mG n_1 low_2 high_3=some r) :
  FnM Tryz.prog 71 [(vI n_1),(vI low_2),(vI high_3)] [] (vB r) []:=by
 refine FnM.of_wH ⟨Tryz.prog,15,[],[]⟩ rfl Tryz.func71 rfl rfl (lb_ rfl) (by kernel_rfl) ?_
 unfold mG at hF
 refine af (aa (ae (vB false) wz rfl (ai (af ?_))))
 obtain ⟨v_4,h_5,hF⟩:=bind_some hF
 refine aH (β:=Unit) (λ_=>([(6,(vB v_4))]:SL_)) (λ_=>([]:Hp)) (λ_=>True) ?_ ?_
 ·refine aa (ae (vI low_2) wz rfl (ae (vI n_1) wz rfl (ae (vB (decide (low_2<=n_1))) wz rfl ?_)))
  rcases ak h_5 with⟨hc_6,h_5⟩|⟨hc_6,h_5⟩
  ·refine aC rfl hc_6 wz (ae (vI n_1) wa rfl (ae (vI high_3) wa rfl (ae (vB (decide (n_1<=high_3))) wa rfl (ae (vB (decide (n_1<=high_3))) wz rfl (ae (vB (decide (n_1<=high_3))) wz rfl (ai ?_))))))
   obtain rfl:=ah h_5
   exact cu
  ·refine aC rfl hc_6 wz (aj wa (aj wa (aj wa (ae (vB false) wz rfl (ae (vB false) wz rfl (ai ?_))))))
   obtain rfl:=ah h_5
   exact cu
 ·rintro ⟨⟩ _ sl_ H_ hp_ hq_
  refine aV _ hp_ hq_ ?_
  obtain rfl:=ah hF
  exact av (aS (.inr rfl) [(vB v_4)] ⟨rfl,trivial⟩ rfl rfl rfl)
theorem iU {s_1:ByteArray} {c_2:Int} {r:Int} (hF:bS s_1 c_2=some r) :
  FnM Tryz.prog 144 [(vS s_1),(.d (.int .u8 c_2))] [] (vI r) []:=by
 refine FnM.of_wH ⟨Tryz.prog,8,[],[]⟩ rfl Tryz.func144 rfl rfl (lb_ rfl) (by kernel_rfl) ?_
 unfold bS at hF
 refine af (aa (ae (vI 0) wz rfl (ai (af (aa (ae (vS s_1) wz rfl (ae (.d (.int .u8 c_2)) wz rfl (h_ext (ext_ixB (f:=189) Tryz.func189 rfl rfl (by kernel_rfl) (by kernel_rfl) _ _) rfl nb189 rfl wz (ae (vI (ixB s_1 c_2)) wz rfl (ai ?_))))))))))
 obtain rfl:=ah hF
 exact av (aS (.inr rfl) [(vI (ixB s_1 c_2))] ⟨rfl,trivial⟩ rfl rfl rfl)
theorem nQ {s_1:ByteArray} {c_2:Int} {r:Int} (hF:strings_IndexByte s_1 c_2=some r) :
  FnM Tryz.prog 113 [(vS s_1),(.d (.int .u8 c_2))] [] (vI r) []:=by
 refine FnM.of_wH ⟨Tryz.prog,8,[],[]⟩ rfl Tryz.func113 rfl rfl (lb_ rfl) (by kernel_rfl) ?_
 unfold strings_IndexByte at hF
 refine af (aa (ae (vI 0) wz rfl (ai (af (aa (ae (vS s_1) wz rfl (ae (.d (.int .u8 c_2)) wz rfl ?_)))))))
 obtain ⟨r_3,hr_4,hF⟩:=bind_some hF
 refine ay (iU hr_4) rfl hb144 rfl rfl rfl rfl wz (ae (vI r_3) wz rfl (ai ?_))
 obtain rfl:=ah hF
 exact av (aS (.inr rfl) [(vI r_3)] ⟨rfl,trivial⟩ rfl rfl rfl)
theorem nS {s_1:ByteArray} {somev_2:ByteArray} {r:Bool} (hF:jR s_1 somev_2=some r) :
  FnM Tryz.prog 69 [(vS s_1),(vS somev_2)] [] (vB r) []:=by
 refine FnM.of_wH ⟨Tryz.prog,18,[],[]⟩ rfl Tryz.func69 rfl rfl (lb_ rfl) (by kernel_rfl) ?_
 unfold jR at hF
 refine af (aa (ae (vB false) wz rfl (ai (af (af (aa (ae (vS s_1) wz rfl (oF un9 rfl wz (ae (vI 0) wz rfl (ai ?_))))))))))
 obtain ⟨o_11,hj_12,hF⟩:=bind_some hF
 obtain ⟨hn_7,hj_12⟩:=bJ hj_12
 refine aH (β:=(Unit)) (λ(s_8:Unit)=>([]:SL_)) (λ(s_8:Unit)=>([]:Hp)) (λp=>o_11 = .go p) ?_ ?_
 ·refine aG (bZ (β:=Nat×(List Nat)×(Unit)) (λp=>(λ(k_3:Nat) (l_4:List Nat) (s_8:Unit)=>([(0,(vS s_1)),(1,(vS somev_2)),(7,(vI (s_1.size:Int))),(8,(vI (k_3:Int)))]:SL_)) p.1 p.2.1 p.2.2) (λp=>(λ(k_3:Nat) (l_4:List Nat) (s_8:Unit)=>([]:Hp)) p.1 p.2.1 p.2.2) (λp=>dF (λk x s=>iK s_1 somev_2 k x s) p.2.1 p.1 p.2.2=some o_11/\((List.range ((s_1.size:Int)).toNat)).drop p.1=p.2.1) (λp=>p.2.1.length) (0,(List.range ((s_1.size:Int)).toNat),()) ⟨hj_12,rfl⟩ rfl (aN rfl) ?_)
  rintro ⟨k_3,l_4,s_8⟩ ⟨hL_10,hD_6⟩
  dsimp only at hL_10 hD_6
  cases l_4 with
  | nil =>
   obtain rfl:=ah hL_10
   refine af (aa (ae (vB (decide ((k_3:Int)<(s_1.size:Int)))) wz rfl (ai ?_)))
   refine af (aA rfl (kJ hD_6) (cz ?_))
   exact bW (s_8) rfl rfl (aN rfl)
  | cons x_5 l_4 =>
   obtain ⟨c_,hc_9,hL_10⟩:=bind_some hL_10
   refine af (aa (ae (vB (decide ((k_3:Int)<(s_1.size:Int)))) wz rfl (ai ?_)))
   refine af (aB rfl (jm hD_6) (ax ?_))
   unfold iK at hc_9
   refine af (aG (af (aa (ae (vI (k_3:Int)) wz rfl (ae (vI (k_3:Int)) wz rfl (ai (af (aa (ae (vS somev_2) wz rfl (ae (vS s_1) wz rfl (ae (vI (k_3:Int)) wz rfl ?_)))))))))))
   obtain ⟨b_13,hy_14,hc_9⟩:=bind_some hc_9
   refine p8 un9 rfl rfl hy_14 wz ?_
   obtain ⟨r_15,hr_16,hc_9⟩:=bind_some hc_9
   refine ay (nQ hr_16) rfl hb113 rfl rfl rfl rfl wz (ae (vB (decide (r_15<0))) wz rfl (ai ?_))
   rcases ak hc_9 with⟨hc_17,hc_9⟩|⟨hc_17,hc_9⟩
   ·refine aB rfl hc_17 (af (aa (ae (vB false) wz rfl (ai ?_))))
    obtain rfl:=ah hc_9
    obtain rfl:=ah hL_10
    obtain rfl:=ah hF
    exact av (aS (.inr rfl) [(vB false)] ⟨rfl,trivial⟩ rfl rfl rfl)
   ·refine aA rfl hc_17 (ax (aa (iQ (kN hD_6 hn_7) wz rfl (ae (vI ((k_3+1:Nat):Int)) wz rfl (ai ?_)))))
    obtain rfl:=ah hc_9
    exact cO (k_3+1,l_4,()) ⟨hL_10,bv hD_6⟩ (ls_ _) rfl (aN rfl)
 ·rintro s_8 ho_ sl_ H_ hp_ hq_
  subst ho_
  refine aV _ hp_ hq_ (af (aa (ae (vB true) wz rfl (ai ?_))))
  obtain rfl:=ah hF
  exact av (aS (.inr rfl) [(vB true)] ⟨rfl,trivial⟩ rfl rfl rfl)
theorem u6 {s_1:ByteArray} {r:Bool} (hF:oL s_1=some r) :
  FnM Tryz.prog 70 [(vS s_1)] [] (vB r) []:=by
 refine FnM.of_wH ⟨Tryz.prog,15,[],[]⟩ rfl Tryz.func70 rfl rfl (lb_ rfl) (by kernel_rfl) ?_
 unfold oL at hF
 refine af (aa (ae (vB false) wz rfl (ai (af ?_))))
 obtain ⟨v_2,h_3,hF⟩:=bind_some hF
 refine aH (β:=Unit) (λ_=>([(2,(vB v_2))]:SL_)) (λ_=>([]:Hp)) (λ_=>True) ?_ ?_
 ·refine aa (ae (vS s_1) wz rfl (oF un9 rfl wz ?_))
  obtain ⟨r_4,hr_5,h_3⟩:=bind_some h_3
  refine ay (oW hr_5) rfl hb71 rfl rfl rfl rfl wz ?_
  rcases ak h_3 with⟨hc_6,h_3⟩|⟨hc_6,h_3⟩
  ·refine aC rfl hc_6 wz (ae (vS s_1) wa rfl ?_)
   obtain ⟨y_7,hy_8,h_3⟩:=bind_some h_3
   refine uU un9 rfl rfl hy_8 wa ?_
   obtain ⟨r_9,hr_10,h_3⟩:=bind_some h_3
   refine ay (nS hr_10) rfl hb69 rfl rfl rfl rfl wa (ae (vB r_9) wz rfl ?_)
   rcases ak h_3 with⟨hc_11,h_3⟩|⟨hc_11,h_3⟩
   ·refine aC rfl hc_11 wz (ae (vS s_1) wa rfl ?_)
    obtain ⟨r_12,hr_13,h_3⟩:=bind_some h_3
    refine ay (nS hr_13) rfl hb69 rfl rfl rfl rfl wa (ae (vB r_12) wz rfl (ae (vB r_12) wz rfl (ai ?_)))
    obtain rfl:=ah h_3
    exact cu
   ·refine aC rfl hc_11 wz (aj wa (aj wa (ae (vB false) wz rfl (ae (vB false) wz rfl (ai ?_)))))
    obtain rfl:=ah h_3
    exact cu
  ·refine aC rfl hc_6 wz (aj wa (aj wa (aj wa (ae (vB false) wz rfl (ae (vB false) wz rfl (aj wa (aj wa (ae (vB false) wz rfl (ae (vB false) wz rfl (ai ?_))))))))))
   obtain rfl:=ah h_3
   exact cu
 ·rintro ⟨⟩ _ sl_ H_ hp_ hq_
  refine aV _ hp_ hq_ ?_
  obtain rfl:=ah hF
  exact av (aS (.inr rfl) [(vB v_2)] ⟨rfl,trivial⟩ rfl rfl rfl)
theorem wD {atv_1:Int} {r:Bool} (hF:lF atv_1=some r) :
  FnM Tryz.prog 72 [(vI atv_1)] [] (vB r) []:=by
 refine FnM.of_wH ⟨Tryz.prog,5,[],[]⟩ rfl Tryz.func72 rfl rfl (lb_ rfl) (by kernel_rfl) ?_
 unfold lF at hF
 refine af (aa (ae (vB false) wz rfl (ai (af (aa (ae (vI atv_1) wz rfl ?_))))))
 obtain ⟨r_2,hr_3,hF⟩:=bind_some hF
 refine ay (oW hr_3) rfl hb71 rfl rfl rfl rfl wz (ae (vB r_2) wz rfl (ai ?_))
 obtain rfl:=ah hF
 exact av (aS (.inr rfl) [(vB r_2)] ⟨rfl,trivial⟩ rfl rfl rfl)
theorem kS {l_1:Log_} {r:Int} (hF:gu l_1=some r) :
  FnM Tryz.prog 24 [(.d (.agg (Log_.enc l_1)))] [] (vI r) []:=by
 refine FnM.of_wH ⟨Tryz.prog,31,[],[]⟩ rfl Tryz.func24 rfl rfl (lb_ rfl) (by kernel_rfl) ?_
 unfold gu at hF
 refine af (aa (kY 0 (.inl rfl) [(vS l_1.Player),(vS l_1.Item),(vI l_1.No),(vI l_1.Clock),(vI l_1.Long),(vS l_1.Sum)] rfl rfl wz (λn_2=>ae (vI 0) wz rfl (ai (af (aG (af ?_)))))))
 obtain ⟨v_3,h_4,hF⟩:=bind_some hF
 refine aH (β:=Unit) (λ_=>([(1,(.ref n_2 0 0)),(3,(vB v_3))]:SL_)) (λ_=>([(n_2,some (.cells 6 [(vS l_1.Player),(vS l_1.Item),(vI l_1.No),(vI l_1.Clock),(vI l_1.Long),(vS l_1.Sum)]))]:Hp)) (λ_=>True) ?_ ?_
 ·refine aa (aO fZ rfl 0 rfl wz (aK 0 0 il ft sz9 ag9 rfl rfl (vS l_1.Player) rfl wz ?_))
  obtain ⟨r_5,hr_6,h_4⟩:=bind_some h_4
  refine ay (u6 hr_6) rfl hb70 rfl rfl rfl rfl wz (ae (vB (!r_5)) wz rfl ?_)
  rcases ak h_4 with⟨hc_7,h_4⟩|⟨hc_7,h_4⟩
  ·refine aC rfl hc_7 wz (aj wa (aj wa (aj wa (aj wa (ae (vB true) wz rfl (ae (vB true) wz rfl (ai ?_)))))))
   obtain rfl:=ah h_4
   exact cu
  ·refine aC rfl hc_7 wz (aO rV rfl 1 rfl wa (aK 0 0 il ft sz9 ag9 rfl rfl (vS l_1.Item) rfl wa ?_))
   obtain ⟨r_8,hr_9,h_4⟩:=bind_some h_4
   refine ay (u6 hr_9) rfl hb70 rfl rfl rfl rfl wa (ae (vB (!r_8)) wa rfl (ae (vB (!r_8)) wz rfl (ae (vB (!r_8)) wz rfl (ai ?_))))
   obtain rfl:=ah h_4
   exact cu
 ·rintro ⟨⟩ _ sl_ H_ hp_ hq_
  refine aV _ hp_ hq_ ?_
  rcases ak hF with⟨hc_10,hF⟩|⟨hc_10,hF⟩
  ·refine aB rfl hc_10 (af (aa (ae (vI 5) wz rfl (ai ?_))))
   obtain rfl:=ah hF
   exact av (aS (.inr rfl) [(vI 5)] ⟨rfl,trivial⟩ rfl rfl rfl)
  ·refine aA rfl hc_10 (af ?_)
   obtain ⟨v_11,h_12,hF⟩:=bind_some hF
   refine aH (β:=Unit) (λ_=>([(14,(vB v_11))]:SL_)) (λ_=>([(n_2,some (.cells 6 [(vS l_1.Player),(vS l_1.Item),(vI l_1.No),(vI l_1.Clock),(vI l_1.Long),(vS l_1.Sum)]))]:Hp)) (λ_=>True) ?_ ?_
   ·refine aa (aO iX rfl 2 rfl wz (aK 0 0 il ft sz3 ag3 rfl rfl (vI l_1.No) rfl wz ?_))
    obtain ⟨r_13,hr_14,h_12⟩:=bind_some h_12
    refine ay (oW hr_14) rfl hb71 rfl rfl rfl rfl wz (ae (vB (!r_13)) wz rfl ?_)
    rcases ak h_12 with⟨hc_15,h_12⟩|⟨hc_15,h_12⟩
    ·refine aC rfl hc_15 wz (aj wa (aj wa (aj wa (aj wa (ae (vB true) wz rfl (ae (vB true) wz rfl (aj wa (aj wa (aj wa (aj wa (ae (vB true) wz rfl (ae (vB true) wz rfl (ai ?_)))))))))))))
     obtain rfl:=ah h_12
     exact cu
    ·refine aC rfl hc_15 wz (aO vk rfl 3 rfl wa (aK 0 0 il ft sz3 ag3 rfl rfl (vI l_1.Clock) rfl wa ?_))
     obtain ⟨r_16,hr_17,h_12⟩:=bind_some h_12
     refine ay (wD hr_17) rfl hb72 rfl rfl rfl rfl wa (ae (vB (!r_16)) wa rfl (ae (vB (!r_16)) wz rfl ?_))
     rcases ak h_12 with⟨hc_18,h_12⟩|⟨hc_18,h_12⟩
     ·refine aC rfl hc_18 wz (aj wa (aj wa (aj wa (aj wa (ae (vB true) wz rfl (ae (vB true) wz rfl (ai ?_)))))))
      obtain rfl:=ah h_12
      exact cu
     ·refine aC rfl hc_18 wz (aO uT rfl 4 rfl wa (aK 0 0 il ft sz3 ag3 rfl rfl (vI l_1.Long) rfl wa ?_))
      obtain ⟨r_19,hr_20,h_12⟩:=bind_some h_12
      refine ay (oW hr_20) rfl hb71 rfl rfl rfl rfl wa (ae (vB (!r_19)) wa rfl (ae (vB (!r_19)) wz rfl (ae (vB (!r_19)) wz rfl (ai ?_))))
      obtain rfl:=ah h_12
      exact cu
   ·rintro ⟨⟩ _ sl_ H_ hp_ hq_
    refine aV _ hp_ hq_ ?_
    rcases ak hF with⟨hc_21,hF⟩|⟨hc_21,hF⟩
    ·refine aB rfl hc_21 (af (aa (ae (vI 1) wz rfl (ai ?_))))
     obtain rfl:=ah hF
     exact av (aS (.inr rfl) [(vI 1)] ⟨rfl,trivial⟩ rfl rfl rfl)
    ·refine aA rfl hc_21 (ax (af (aa (ae (vI 0) wz rfl (ai ?_)))))
     obtain rfl:=ah hF
     exact av (aS (.inr rfl) [(vI 0)] ⟨rfl,trivial⟩ rfl rfl rfl)
theorem pJ {s_1:ByteArray} {r:Bool} (hF:jB s_1=some r) :
  FnM Tryz.prog 23 [(vS s_1)] [] (vB r) []:=by
 refine FnM.of_wH ⟨Tryz.prog,10,[],[]⟩ rfl Tryz.func23 rfl rfl (lb_ rfl) (by kernel_rfl) ?_
 unfold jB at hF
 refine af (aa (ae (vB false) wz rfl (ai (af ?_))))
 obtain ⟨v_2,h_3,hF⟩:=bind_some hF
 refine aH (β:=Unit) (λ_=>([(2,(vB v_2))]:SL_)) (λ_=>([]:Hp)) (λ_=>True) ?_ ?_
 ·refine aa (ae (vS s_1) wz rfl (oF un9 rfl wz (ae (vB ((s_1.size:Int)==16)) wz rfl ?_)))
  rcases ak h_3 with⟨hc_4,h_3⟩|⟨hc_4,h_3⟩
  ·refine aC rfl hc_4 wz (ae (vS s_1) wa rfl ?_)
   obtain ⟨r_5,hr_6,h_3⟩:=bind_some h_3
   refine ay (nS hr_6) rfl hb69 rfl rfl rfl rfl wa (ae (vB r_5) wz rfl (ae (vB r_5) wz rfl (ai ?_)))
   obtain rfl:=ah h_3
   exact cu
  ·refine aC rfl hc_4 wz (aj wa (aj wa (ae (vB false) wz rfl (ae (vB false) wz rfl (ai ?_)))))
   obtain rfl:=ah h_3
   exact cu
 ·rintro ⟨⟩ _ sl_ H_ hp_ hq_
  refine aV _ hp_ hq_ ?_
  obtain rfl:=ah hF
  exact av (aS (.inr rfl) [(vB v_2)] ⟨rfl,trivial⟩ rfl rfl rfl)
theorem zY {n_1:Int} {r:Int} (hF:nW n_1=some r) :
  FnM Tryz.prog 108 [(vI n_1)] [] (vI r) []:=by
 refine FnM.of_wH ⟨Tryz.prog,9,[],[]⟩ rfl Tryz.func108 rfl rfl (lb_ rfl) (by kernel_rfl) ?_
 unfold nW at hF
 refine af (aa (ae (vI 0) wz rfl (ai (af (aG (af (aa (ae (vI n_1) wz rfl (ae (vB (decide (n_1<0))) wz rfl (ae (vB (decide (n_1<0))) wz rfl (ai ?_)))))))))))
 rcases ak hF with⟨hc_2,hF⟩|⟨hc_2,hF⟩
 ·refine aB rfl hc_2 (af (aa (ae (vI (-1)) wz rfl (ai ?_))))
  obtain rfl:=ah hF
  exact av (aS (.inr rfl) [(vI (-1))] ⟨rfl,trivial⟩ rfl rfl rfl)
 ·refine aA rfl hc_2 (af (aa (ae (vI n_1) wz rfl (ae (vB (decide (n_1>0))) wz rfl (ae (vB (decide (n_1>0))) wz rfl (ai ?_))))))
  rcases ak hF with⟨hc_3,hF⟩|⟨hc_3,hF⟩
  ·refine aB rfl hc_3 (af (aa (ae (vI 1) wz rfl (ai ?_))))
   obtain rfl:=ah hF
   exact av (aS (.inr rfl) [(vI 1)] ⟨rfl,trivial⟩ rfl rfl rfl)
  ·refine aA rfl hc_3 (ax (af (aa (ae (vI 0) wz rfl (ai ?_)))))
   obtain rfl:=ah hF
   exact av (aS (.inr rfl) [(vI 0)] ⟨rfl,trivial⟩ rfl rfl rfl)
theorem tq {a_1:Log_} {b_2:Log_} {r:Int} (hF:iZ a_1 b_2=some r) :
  FnM Tryz.prog 62 [(.d (.agg (Log_.enc a_1))),(.d (.agg (Log_.enc b_2)))] [] (vI r) []:=by
 refine FnM.of_wH ⟨Tryz.prog,21,[],[]⟩ rfl Tryz.func62 rfl rfl (lb_ rfl) (by kernel_rfl) ?_
 unfold iZ at hF
 refine af (aa (kY 0 (.inl rfl) [(vS a_1.Player),(vS a_1.Item),(vI a_1.No),(vI a_1.Clock),(vI a_1.Long),(vS a_1.Sum)] rfl rfl wz (λn_3=>kY 0 (.inl rfl) [(vS b_2.Player),(vS b_2.Item),(vI b_2.No),(vI b_2.Clock),(vI b_2.Long),(vS b_2.Sum)] rfl rfl wz (λn_4=>ae (vI 0) wz rfl (ai (af (af (aa (aO fZ rfl 0 rfl wz (aK 0 0 il ft sz9 ag9 rfl rfl (vS a_1.Player) rfl wz (aO fZ rfl 0 rfl wz (aK 0 1 il ft sz9 ag9 rfl rfl (vS b_2.Player) rfl wz (ae (vB (sNe a_1.Player b_2.Player)) wz rfl (ai ?_))))))))))))))
 rcases ak hF with⟨hc_5,hF⟩|⟨hc_5,hF⟩
 ·refine aB rfl hc_5 (af (aa (aO fZ rfl 0 rfl wz (aK 0 0 il ft sz9 ag9 rfl rfl (vS a_1.Player) rfl wz (aO fZ rfl 0 rfl wz (aK 0 1 il ft sz9 ag9 rfl rfl (vS b_2.Player) rfl wz ?_))))))
  obtain ⟨r_6,hr_7,hF⟩:=bind_some hF
  refine ay (iC hr_7) rfl De rfl rfl rfl rfl wz (ae (vI r_6) wz rfl (ai ?_))
  obtain rfl:=ah hF
  exact av (aS (.inr rfl) [(vI r_6)] ⟨rfl,trivial⟩ rfl rfl rfl)
 ·refine aA rfl hc_5 (ax (af (aa (aO iX rfl 2 rfl wz (aK 0 0 il ft sz3 ag3 rfl rfl (vI a_1.No) rfl wz (aO iX rfl 2 rfl wz (aK 0 1 il ft sz3 ag3 rfl rfl (vI b_2.No) rfl wz (ae (vI (w64 (a_1.No-b_2.No))) wz rfl ?_))))))))
  obtain ⟨r_8,hr_9,hF⟩:=bind_some hF
  refine ay (zY hr_9) rfl hb108 rfl rfl rfl rfl wz (ae (vI r_8) wz rfl (ai ?_))
  obtain rfl:=ah hF
  exact av (aS (.inr rfl) [(vI r_8)] ⟨rfl,trivial⟩ rfl rfl rfl)
theorem rM {l_1:(List Log_)} {r:Int} (hF:ic l_1=some r) :
  FnM Tryz.prog 10 [(vL Log_.enc l_1)] [] (vI r) []:=by
 refine FnM.of_wH ⟨Tryz.prog,40,[],[]⟩ rfl Tryz.func10 rfl rfl (lb_ rfl) (by kernel_rfl) ?_
 unfold ic at hF
 refine af (aa (ae (vI 0) wz rfl (ai (af (af (aa (ae (vL Log_.enc l_1) wz rfl (eP kC rfl wz (ae (vB (decide ((l_1.length:Int)>2000))) wz rfl (ai ?_))))))))))
 rcases ak hF with⟨hc_2,hF⟩|⟨hc_2,hF⟩
 ·refine aB rfl hc_2 (af (aa (ae (vI 2) wz rfl (ai ?_))))
  obtain rfl:=ah hF
  exact av (aS (.inr rfl) [(vI 2)] ⟨rfl,trivial⟩ rfl rfl rfl)
 ·refine aA rfl hc_2 (ax (af (af (aa (ae (vL Log_.enc l_1) wz rfl (eP kC rfl wz (ae (vI 0) wz rfl (ai ?_))))))))
  obtain ⟨o_11,hj_12,hF⟩:=bind_some hF
  obtain ⟨hn_7,hj_12⟩:=bJ hj_12
  refine aH (β:=(Unit)) (λ(s_8:Unit)=>([]:SL_)) (λ(s_8:Unit)=>([]:Hp)) (λp=>o_11 = .go p) ?_ ?_
  ·refine aG (bZ (β:=Nat×(List Log_)×(Unit)) (λp=>(λ(k_3:Nat) (l_4:List Log_) (s_8:Unit)=>([(0,(vL Log_.enc l_1)),(9,(vL Log_.enc l_1)),(10,(vI (l_1.length:Int))),(11,(vI (k_3:Int)))]:SL_)) p.1 p.2.1 p.2.2) (λp=>(λ(k_3:Nat) (l_4:List Log_) (s_8:Unit)=>([]:Hp)) p.1 p.2.1 p.2.2) (λp=>dF (λk x s=>gP l_1 k x s) p.2.1 p.1 p.2.2=some o_11/\(l_1).drop p.1=p.2.1) (λp=>p.2.1.length) (0,l_1,()) ⟨hj_12,rfl⟩ rfl (aN rfl) ?_)
   rintro ⟨k_3,l_4,s_8⟩ ⟨hL_10,hD_6⟩
   dsimp only at hL_10 hD_6
   cases l_4 with
   | nil =>
    obtain rfl:=ah hL_10
    refine af (aa (ae (vB (decide ((k_3:Int)<(l_1.length:Int)))) wz rfl (ai ?_)))
    refine af (aA rfl (drop_nil hD_6) (cz ?_))
    exact bW (s_8) rfl rfl (aN rfl)
   | cons x_5 l_4 =>
    obtain ⟨c_,hc_9,hL_10⟩:=bind_some hL_10
    refine af (aa (ae (vB (decide ((k_3:Int)<(l_1.length:Int)))) wz rfl (ai ?_)))
    refine af (aB rfl (dN hD_6) (ax ?_))
    unfold gP at hc_9
    refine af (aG (af (aa (ae (vI (k_3:Int)) wz rfl (gM kz rfl rfl (eB hD_6) rfl wz (dM eG iw rfl (.d (.agg (Log_.enc x_5))) rfl wz (iA 0 (.inl rfl) z43 rfl wz (λn_13=>ae (vI (k_3:Int)) wz rfl (lm 0 il ft 0 eG rfl rfl [(vS x_5.Player),(vS x_5.Item),(vI x_5.No),(vI x_5.Clock),(vI x_5.Long),(vS x_5.Sum)] rfl wz (ai (af (af (aa (aK 0 0 il ft eG iw rfl rfl (.d (.agg (Log_.enc x_5))) rfl wz ?_))))))))))))))
    obtain ⟨r_14,hr_15,hc_9⟩:=bind_some hc_9
    refine ay (kS hr_15) rfl hb24 rfl rfl rfl rfl wz (ae (vI r_14) wz rfl (ai (af (aa (ae (vI r_14) wz rfl (ae (vB (r_14 != 0)) wz rfl (ai ?_)))))))
    rcases ak hc_9 with⟨hc_16,hc_9⟩|⟨hc_16,hc_9⟩
    ·refine aB rfl hc_16 (af (aa (ae (vI r_14) wz rfl (ae (vI r_14) wz rfl (ai ?_)))))
     obtain rfl:=ah hc_9
     obtain rfl:=ah hL_10
     obtain rfl:=ah hF
     exact av (aS (.inr rfl) [(vI r_14)] ⟨rfl,trivial⟩ rfl rfl rfl)
    ·refine aA rfl hc_16 (ax (aG (af (aa (aO mJ rfl 5 rfl wz (aK 0 0 il ft sz9 ag9 rfl rfl (vS x_5.Sum) rfl wz ?_))))))
     obtain ⟨r_17,hr_18,hc_9⟩:=bind_some hc_9
     refine ay (pJ hr_18) rfl hb23 rfl rfl rfl rfl wz (ae (vB (!r_17)) wz rfl (ae (vB (!r_17)) wz rfl (ai ?_)))
     rcases ak hc_9 with⟨hc_19,hc_9⟩|⟨hc_19,hc_9⟩
     ·refine aB rfl hc_19 (af (aa (ae (vI 3) wz rfl (ai ?_))))
      obtain rfl:=ah hc_9
      obtain rfl:=ah hL_10
      obtain rfl:=ah hF
      exact av (aS (.inr rfl) [(vI 3)] ⟨rfl,trivial⟩ rfl rfl rfl)
     ·refine aA rfl hc_19 (af ?_)
      obtain ⟨v_20,h_21,hc_9⟩:=bind_some hc_9
      refine aH (β:=Unit) (λ_=>([(0,(vL Log_.enc l_1)),(9,(vL Log_.enc l_1)),(10,(vI (l_1.length:Int))),(11,(vI (k_3:Int))),(26,(vB v_20))]:SL_)) (λ_=>([(n_13,some (.cells 6 [(vS x_5.Player),(vS x_5.Item),(vI x_5.No),(vI x_5.Clock),(vI x_5.Long),(vS x_5.Sum)]))]:Hp)) (λ_=>True) ?_ ?_
      ·refine bU (ae (vI (k_3:Int)) wz rfl (ae (vB (decide ((k_3:Int)>0))) wz rfl ?_))
       rcases ak h_21 with⟨hc_22,h_21⟩|⟨hc_22,h_21⟩
       ·refine aC rfl hc_22 wz (ae (vL Log_.enc l_1) wa rfl (ae (vI (k_3:Int)) wa rfl (ae (vI (w64 ((k_3:Int)-1))) wa rfl ?_)))
        obtain ⟨y_23,hy_24,h_21⟩:=bind_some h_21
        refine gM kz rfl rfl hy_24 rfl wa (dM eG iw rfl (.d (.agg (Log_.enc y_23))) rfl wa (aK 8 0 (.inr (by kernel_rfl)) (λ_ _ ag=>trivial) eG iw rfl rfl (.d (.agg (Log_.enc x_5))) rfl wa ?_))
        obtain ⟨r_25,hr_26,h_21⟩:=bind_some h_21
        refine ay (tq hr_26) rfl hb62 rfl rfl rfl rfl wa (ae (vB (decide (r_25>=0))) wa rfl (ae (vB (decide (r_25>=0))) wz rfl (ae (vB (decide (r_25>=0))) wz rfl (ai ?_))))
        obtain rfl:=ah h_21
        exact cu
       ·refine aC rfl hc_22 wz (aj wa (aj wa (aj wa (aj wa (aj wa (aj wa (aj wa (aj wa (ae (vB false) wz rfl (ae (vB false) wz rfl (ai ?_)))))))))))
        obtain rfl:=ah h_21
        exact cu
      ·rintro ⟨⟩ _ sl_ H_ hp_ hq_
       refine aV _ hp_ hq_ ?_
       rcases ak hc_9 with⟨hc_27,hc_9⟩|⟨hc_27,hc_9⟩
       ·refine aB rfl hc_27 (af (aa (ae (vI 7) wz rfl (ai ?_))))
        obtain rfl:=ah hc_9
        obtain rfl:=ah hL_10
        obtain rfl:=ah hF
        exact av (aS (.inr rfl) [(vI 7)] ⟨rfl,trivial⟩ rfl rfl rfl)
       ·refine aA rfl hc_27 (ax (aa (iQ (dX hD_6 hn_7) wz rfl (ae (vI ((k_3+1:Nat):Int)) wz rfl (ai ?_)))))
        obtain rfl:=ah hc_9
        exact cO (k_3+1,l_4,()) ⟨hL_10,bv hD_6⟩ (ls_ _) rfl (aN rfl)
  ·rintro s_8 ho_ sl_ H_ hp_ hq_
   subst ho_
   refine aV _ hp_ hq_ (af (aa (ae (vI 0) wz rfl (ai ?_))))
   obtain rfl:=ah hF
   exact av (aS (.inr rfl) [(vI 0)] ⟨rfl,trivial⟩ rfl rfl rfl)
theorem lc {last_1:ByteArray} {r:Int} (hF:eO last_1=some r) :
  FnM Tryz.prog 85 [(vS last_1)] [] (vI r) []:=by
 refine FnM.of_wH ⟨Tryz.prog,10,[],[]⟩ rfl Tryz.func85 rfl rfl (lb_ rfl) (by kernel_rfl) ?_
 unfold eO at hF
 refine af (aa (ae (vI 0) wz rfl (ai (af (af ?_)))))
 obtain ⟨v_2,h_3,hF⟩:=bind_some hF
 refine aH (β:=Unit) (λ_=>([(9,(vB v_2))]:SL_)) (λ_=>([]:Hp)) (λ_=>True) ?_ ?_
 ·refine aa (ae (vS last_1) wz rfl (ae (vB (sNe last_1 (⟨#[]⟩:ByteArray))) wz rfl ?_))
  rcases ak h_3 with⟨hc_4,h_3⟩|⟨hc_4,h_3⟩
  ·refine aC rfl hc_4 wz (ae (vS last_1) wa rfl ?_)
   obtain ⟨r_5,hr_6,h_3⟩:=bind_some h_3
   refine ay (nk hr_6) rfl hb84 rfl rfl rfl rfl wa (ae (vB (!r_5)) wa rfl (ae (vB (!r_5)) wz rfl (ai ?_)))
   obtain rfl:=ah h_3
   exact cu
  ·refine aC rfl hc_4 wz (aj wa (aj wa (aj wa (ae (vB false) wz rfl (ai ?_)))))
   obtain rfl:=ah h_3
   exact cu
 ·rintro ⟨⟩ _ sl_ H_ hp_ hq_
  refine aV _ hp_ hq_ ?_
  rcases ak hF with⟨hc_7,hF⟩|⟨hc_7,hF⟩
  ·refine aB rfl hc_7 (af (aa (ae (vI 3) wz rfl (ai ?_))))
   obtain rfl:=ah hF
   exact av (aS (.inr rfl) [(vI 3)] ⟨rfl,trivial⟩ rfl rfl rfl)
  ·refine aA rfl hc_7 (ax (af (aa (ae (vI 0) wz rfl (ai ?_)))))
   obtain rfl:=ah hF
   exact av (aS (.inr rfl) [(vI 0)] ⟨rfl,trivial⟩ rfl rfl rfl)
theorem wo {l_1:Log_} {r:ByteArray} (hF:lC l_1=some r) :
  FnM Tryz.prog 90 [(.d (.agg (Log_.enc l_1)))] [] (vS r) []:=by
 refine FnM.of_wH ⟨Tryz.prog,24,[],[]⟩ rfl Tryz.func90 rfl rfl (lb_ rfl) (by kernel_rfl) ?_
 unfold lC at hF
 refine af (aa (kY 0 (.inl rfl) [(vS l_1.Player),(vS l_1.Item),(vI l_1.No),(vI l_1.Clock),(vI l_1.Long),(vS l_1.Sum)] rfl rfl wz (λn_2=>ae (vS (⟨#[]⟩:ByteArray)) wz rfl (ai (af (bU (aO fZ rfl 0 rfl wz (aK 1 0 (.inr (by kernel_rfl)) (λ_ _ ag=>trivial) sz9 ag9 rfl rfl (vS l_1.Player) rfl wz ?_))))))))
 obtain ⟨s_3,hz_4,hF⟩:=bind_some hF
 refine ji rfl rfl hz_4 wz (aO rV rfl 1 rfl wz (aK 4 0 (.inr (by kernel_rfl)) (λ_ _ ag=>⟨.inl ⟨rfl,rfl⟩,trivial⟩) sz9 ag9 rfl rfl (vS l_1.Item) rfl wz ?_))
 obtain ⟨s_5,hz_6,hF⟩:=bind_some hF
 refine ji rfl rfl hz_6 wz ?_
 obtain ⟨s_7,hz_8,hF⟩:=bind_some hF
 refine ji rfl rfl hz_8 wz (aO iX rfl 2 rfl wz (aK 8 0 (.inr (by kernel_rfl)) (λ_ _ ag=>⟨.inl ⟨rfl,rfl⟩,⟨.inl ⟨rfl,rfl⟩,trivial⟩⟩) sz3 ag3 rfl rfl (vI l_1.No) rfl wz ?_))
 obtain ⟨r_9,hr_10,hF⟩:=bind_some hF
 refine ay (iy hr_10) rfl Bw rfl rfl rfl rfl wz ?_
 obtain ⟨s_11,hz_12,hF⟩:=bind_some hF
 refine ji rfl rfl hz_12 wz ?_
 obtain ⟨s_13,hz_14,hF⟩:=bind_some hF
 refine ji rfl rfl hz_14 wz (aO vk rfl 3 rfl wz (aK 13 0 (.inr (by kernel_rfl)) (λ_ _ ag=>⟨.inl ⟨rfl,rfl⟩,⟨.inl ⟨rfl,rfl⟩,⟨.inl ⟨rfl,rfl⟩,trivial⟩⟩⟩) sz3 ag3 rfl rfl (vI l_1.Clock) rfl wz ?_))
 obtain ⟨r_15,hr_16,hF⟩:=bind_some hF
 refine ay (iy hr_16) rfl Bw rfl rfl rfl rfl wz ?_
 obtain ⟨s_17,hz_18,hF⟩:=bind_some hF
 refine ji rfl rfl hz_18 wz ?_
 obtain ⟨s_19,hz_20,hF⟩:=bind_some hF
 refine ji rfl rfl hz_20 wz (aO uT rfl 4 rfl wz (aK 18 0 (.inr (by kernel_rfl)) (λ_ _ ag=>⟨.inl ⟨rfl,rfl⟩,⟨.inl ⟨rfl,rfl⟩,⟨.inl ⟨rfl,rfl⟩,⟨.inl ⟨rfl,rfl⟩,trivial⟩⟩⟩⟩) sz3 ag3 rfl rfl (vI l_1.Long) rfl wz ?_))
 obtain ⟨r_21,hr_22,hF⟩:=bind_some hF
 refine ay (iy hr_22) rfl Bw rfl rfl rfl rfl wz ?_
 obtain ⟨s_23,hz_24,hF⟩:=bind_some hF
 refine ji rfl rfl hz_24 wz (ae (vS s_23) wz rfl (ai ?_))
 obtain rfl:=ah hF
 exact av (aS (.inr rfl) [(vS s_23)] ⟨rfl,trivial⟩ rfl rfl rfl)
theorem je {x_1:Int} {r:Bool} (hF:cB x_1=some r) :
  FnM Tryz.prog 214 [(vI x_1)] [] (vB r) []:=by
 refine FnM.of_wH ⟨Tryz.prog,8,[],[]⟩ rfl Tryz.func214 rfl rfl (lb_ rfl) (by kernel_rfl) ?_
 unfold cB at hF
 refine af (aa (ae (vB false) wz rfl (ai (af (aa (ae (vI x_1) wz rfl (ae (vI x_1) wz rfl (ae (vI (w64 (x_1-1))) wz rfl (ae (vI (yU .i64 x_1 (w64 (x_1-1)))) wz rfl (ae (vB ((yU .i64 x_1 (w64 (x_1-1)))==0)) wz rfl (ae (vB ((yU .i64 x_1 (w64 (x_1-1)))==0)) wz rfl (ai ?_))))))))))))
 obtain rfl:=ah hF
 exact av (aS (.inr rfl) [(vB ((yU .i64 x_1 (w64 (x_1-1)))==0))] ⟨rfl,trivial⟩ rfl rfl rfl)
theorem kZ {x0:Int} {r:Int} (hF:fB x0=some r) :
  FnM Tryz.prog 215 [(.d (.int .u64 x0))] [] (vI r) [] :=
 tz_ok db_g Tryz.bits_TrailingZeros laid_db hF
theorem jl {dst_1:(List Int)} {u_2:Int} {base_3:Int} {neg_4:Bool} {append_5:Bool} {r:(List Int)×ByteArray} (hF:bG dst_1 u_2 base_3 neg_4 append_5=some r) :
  FnM Tryz.prog 184 [(vL (eK .u8) dst_1),(.d (.int .u64 u_2)),(vI base_3),(vB neg_4),(vB append_5)] [] (.tup [(vL (eK .u8) r.1),(vS r.2)]) []:=by
 refine FnM.of_wH ⟨Tryz.prog,102,[],[]⟩ rfl Tryz.func184 rfl rfl (lb_ rfl) (by kernel_rfl) ?_
 unfold bG at hF
 refine af (aa (ae .nil wz rfl (ae (vS (⟨#[]⟩:ByteArray)) wz rfl (ai (af (af ?_))))))
 obtain ⟨v_6,h_7,hF⟩:=bind_some hF
 refine aH (β:=Unit) (λ_=>([(0,(vL (eK .u8) dst_1)),(1,(.d (.int .u64 u_2))),(2,(vI base_3)),(3,(vB neg_4)),(4,(vB append_5)),(10,.nil),(11,(vS (⟨#[]⟩:ByteArray))),(28,(vB v_6))]:SL_)) (λ_=>([]:Hp)) (λ_=>True) ?_ ?_
 ·refine aa (ae (vI base_3) wz rfl (ae (vB (decide (base_3<2))) wz rfl ?_))
  rcases ak h_7 with⟨hc_8,h_7⟩|⟨hc_8,h_7⟩
  ·refine aC rfl hc_8 wz (aj wa (aj wa (ae (vB true) wz rfl (ae (vB true) wz rfl (aj wa (aj wa (ae (vB true) wz rfl (ai ?_))))))))
   obtain rfl:=ah h_7
   exact cu
  ·refine aC rfl hc_8 wz (ae (vI base_3) wa rfl (ae (vB (base_3==10)) wa rfl (ae (vB (base_3==10)) wz rfl ?_)))
   rcases ak h_7 with⟨hc_9,h_7⟩|⟨hc_9,h_7⟩
   ·refine aC rfl hc_9 wz (aj wa (aj wa (ae (vB true) wz rfl (ai ?_))))
    obtain rfl:=ah h_7
    exact cu
   ·refine aC rfl hc_9 wz (ae (vI base_3) wa rfl (ae (vB (decide (base_3>36))) wa rfl (ae (vB (decide (base_3>36))) wz rfl (ai ?_))))
    obtain rfl:=ah h_7
    exact cu
 ·rintro ⟨⟩ _ sl_ H_ hp_ hq_
  refine aV _ hp_ hq_ ?_
  obtain ⟨v_10,h_11,hF⟩:=bind_some hF
  refine aH (β:=Unit) (λ_=>([(0,(vL (eK .u8) dst_1)),(1,(.d (.int .u64 u_2))),(2,(vI base_3)),(3,(vB neg_4)),(4,(vB append_5)),(10,.nil),(11,(vS (⟨#[]⟩:ByteArray)))]:SL_)) (λ_=>([]:Hp)) (λ_=>True) ?_ ?_
  ·rcases ak h_11 with⟨hc_12,h_11⟩|⟨hc_12,h_11⟩
   ·refine aB rfl hc_12 (aa ?_)
    cases h_11
   ·refine aA rfl hc_12 (ax ?_)
    obtain rfl:=ah h_11
    exact cu
  ·rintro ⟨⟩ _ sl_ H_ hp_ hq_
   refine aV _ hp_ hq_ (af (aa (y9 (List.replicate 65 (0:Int)) 0 (.inl rfl) z223 (by kernel_rfl) (by kernel_rfl) sD wz (λn_13=>ai (af (aa (ae (vI 65) wz rfl (ai (af (af (aa (ae (vB neg_4) wz rfl (ai ?_)))))))))))))
   obtain ⟨v_14,h_15,hF⟩:=bind_some hF
   refine aH (β:=Unit) (λ_=>([(0,(vL (eK .u8) dst_1)),(1,(.d (.int .u64 v_14))),(2,(vI base_3)),(3,(vB neg_4)),(4,(vB append_5)),(10,.nil),(11,(vS (⟨#[]⟩:ByteArray))),(12,(.ref n_13 0 0)),(13,(vI 65))]:SL_)) (λ_=>([(n_13,some (bV 1 (eK .u8) (List.replicate 65 (0:Int))))]:Hp)) (λ_=>True) ?_ ?_
   ·rcases ak h_15 with⟨hc_16,h_15⟩|⟨hc_16,h_15⟩
    ·refine aB rfl hc_16 (aa (ae (.d (.int .u64 u_2)) wz rfl (ae (.d (.int .u64 (IntKind.u64.wrap (0-u_2)))) wz rfl (ae (.d (.int .u64 (IntKind.u64.wrap (0-u_2)))) wz rfl (ai ?_)))))
     obtain rfl:=ah h_15
     exact cu
    ·refine aA rfl hc_16 (ax ?_)
     obtain rfl:=ah h_15
     exact cu
   ·rintro ⟨⟩ _ sl_ H_ hp_ hq_
    refine aV _ hp_ hq_ (af (af (aa (ae (vI base_3) wz rfl ?_))))
    obtain ⟨r_17,hr_18,hF⟩:=bind_some hF
    refine ay (je hr_18) rfl hb214 rfl rfl rfl rfl wz (ai ?_)
    obtain ⟨v_19,h_20,hF⟩:=bind_some hF
    refine aH (β:=Unit) (λ_=>([(0,(vL (eK .u8) dst_1)),(3,(vB neg_4)),(4,(vB append_5)),(10,.nil),(11,(vS (⟨#[]⟩:ByteArray))),(12,(.ref n_13 0 0)),(13,(vI v_19.2))]:SL_)) (λ_=>([(n_13,some (bV 1 (eK .u8) v_19.1))]:Hp)) (λ_=>True) ?_ ?_
    ·rcases ak h_20 with⟨hc_21,h_20⟩|⟨hc_21,h_20⟩
     ·refine aB rfl hc_21 (af (aa (ae (vI base_3) wz rfl (nP un3 Ej rfl wz ?_))))
      obtain ⟨r_22,hr_23,h_20⟩:=bind_some h_20
      refine ay (kZ hr_23) rfl hb215 rfl rfl rfl rfl wz (nP un3 Ej rfl wz (ae (.d (.int .u64 (IntKind.u64.wrap r_22))) wz rfl (ai (af (aa (ae (vI base_3) wz rfl (nP un3 Et rfl wz (ae (.d (.int .u64 (IntKind.u64.wrap base_3))) wz rfl (ai (af (aa (ae (vI base_3) wz rfl (nP un3 Ej rfl wz (ae (.d (.int .u64 (IntKind.u64.wrap ((IntKind.u64.wrap base_3)-1)))) wz rfl (ae (.d (.int .u64 (IntKind.u64.wrap ((IntKind.u64.wrap base_3)-1)))) wz rfl (ai (af ?_)))))))))))))))))
      obtain ⟨o_32,hj_33,h_20⟩:=bind_some h_20
      obtain ⟨nq_47,hj_33⟩:=jA hj_33
      refine aH (β:=((List Int)×Int×Int)) (λ(s_29:(List Int)×Int×Int)=>([(0,(vL (eK .u8) dst_1)),(1,(.d (.int .u64 s_29.2.1))),(3,(vB neg_4)),(4,(vB append_5)),(10,.nil),(11,(vS (⟨#[]⟩:ByteArray))),(12,(.ref n_13 0 0)),(13,(vI s_29.2.2))]:SL_)) (λ(s_29:(List Int)×Int×Int)=>([(n_13,some (bV 1 (eK .u8) s_29.1))]:Hp)) (λp=>o_32 = .go p) ?_ ?_
      ·refine aG (bZ (β:=Nat×((List Int)×Int×Int)) (λp=>(λ(k_24:Nat) (s_29:(List Int)×Int×Int)=>([(0,(vL (eK .u8) dst_1)),(1,(.d (.int .u64 s_29.2.1))),(3,(vB neg_4)),(4,(vB append_5)),(10,.nil),(11,(vS (⟨#[]⟩:ByteArray))),(12,(.ref n_13 0 0)),(13,(vI s_29.2.2)),(14,(.d (.int .u64 (IntKind.u64.wrap r_22)))),(15,(.d (.int .u64 (IntKind.u64.wrap base_3)))),(16,(.d (.int .u64 (IntKind.u64.wrap ((IntKind.u64.wrap base_3)-1)))))]:SL_)) p.1 p.2) (λp=>(λ(k_24:Nat) (s_29:(List Int)×Int×Int)=>([(n_13,some (bV 1 (eK .u8) s_29.1))]:Hp)) p.1 p.2) (λp=>fE (λs=>aQ base_3 r_22 s) p.1 p.2=some o_32) (λp=>p.1) (nq_47,((List.replicate 65 (0:Int)),v_14,65)) hj_33 rfl (aN rfl) ?_)
       rintro ⟨k_24,s_29⟩ hL_31
       dsimp only at hL_31
       cases k_24 with
       | zero=>cases hL_31
       | succ k_24 =>
        obtain ⟨c_,hc_30,hL_31⟩:=bind_some hL_31
        unfold aQ at hc_30
        refine af (af (aa (ae (.d (.int .u64 s_29.2.1)) wz rfl (ae (.d (.int .u64 (IntKind.u64.wrap base_3))) wz rfl (ae (vB (decide (s_29.2.1>=(IntKind.u64.wrap base_3)))) wz rfl (ai ?_))))))
        rcases ak hc_30 with⟨hc_34,hc_30⟩|⟨hc_34,hc_30⟩
        ·refine aB rfl hc_34 (ax (aG (af (aa (ae (vI s_29.2.2) wz rfl (ae (vI (w64 (s_29.2.2-1))) wz rfl (ae (vI (w64 (s_29.2.2-1))) wz rfl (ai (af (aa (ae (vI (w64 (s_29.2.2-1))) wz rfl (ae (.d (.int .u64 s_29.2.1)) wz rfl (ae (.d (.int .u64 (IntKind.u64.wrap ((IntKind.u64.wrap base_3)-1)))) wz rfl (ae (.d (.int .u64 (yU .u64 s_29.2.1 (IntKind.u64.wrap ((IntKind.u64.wrap base_3)-1))))) wz rfl ?_))))))))))))))
         obtain ⟨b_35,hy_36,hc_30⟩:=bind_some hc_30
         refine p8 un9 rfl rfl hy_36 wz ?_
         obtain ⟨_,hi_37,hc_30⟩:=bind_some hc_30
         refine ze 0 0 il ft sD rfl rfl rfl (zu hi_37) (vz hi_37) wz ?_
         obtain ⟨e_38,hy_39,hc_30⟩:=bind_some hc_30
         refine vF 0 il ft 0 sz5 rfl rfl hy_39 (b_35.toNat:Int) rfl wz (ai (aa (ae (.d (.int .u64 s_29.2.1)) wz rfl (ae (.d (.int .u64 (IntKind.u64.wrap r_22))) wz rfl ?_))))
         obtain ⟨q_40,hz_41,hc_30⟩:=bind_some hc_30
         refine h_shr rfl rfl hz_41 wz (ae (.d (.int .u64 q_40)) wz rfl (ai ?_))
         obtain rfl:=ah hc_30
         exact cO (k_24,((s_29.1.set ((w64 (s_29.2.2-1))).toNat (b_35.toNat:Int)),q_40,(w64 (s_29.2.2-1)))) hL_31 (ls_ _) rfl (aN rfl)
        ·refine aA rfl hc_34 (cz ?_)
         obtain rfl:=ah hc_30
         obtain rfl:=ah hL_31
         exact bW ((s_29.1,s_29.2.1,s_29.2.2)) rfl rfl (aN rfl)
      ·rintro s_29 ho_ sl_ H_ hp_ hq_
       subst ho_
       refine aV _ hp_ hq_ (af (aa (ae (vI s_29.2.2) wz rfl (ae (vI (w64 (s_29.2.2-1))) wz rfl (ae (vI (w64 (s_29.2.2-1))) wz rfl (ai (aa (ae (vI (w64 (s_29.2.2-1))) wz rfl (ae (.d (.int .u64 s_29.2.1)) wz rfl ?_)))))))))
       obtain ⟨b_42,hy_43,h_20⟩:=bind_some h_20
       refine p8 un9 rfl rfl hy_43 wz ?_
       obtain ⟨_,hi_44,h_20⟩:=bind_some h_20
       refine ze 0 0 il ft sD rfl rfl rfl (zu hi_44) (vz hi_44) wz ?_
       obtain ⟨e_45,hy_46,h_20⟩:=bind_some h_20
       refine vF 0 il ft 0 sz5 rfl rfl hy_46 (b_42.toNat:Int) rfl wz (ai ?_)
       obtain rfl:=ah h_20
       exact cu
     ·refine aA rfl hc_21 (af (aa (ae (vI base_3) wz rfl (nP un3 Et rfl wz (ae (.d (.int .u64 (IntKind.u64.wrap base_3))) wz rfl (ai (af ?_)))))))
      obtain ⟨o_56,hj_57,h_20⟩:=bind_some h_20
      obtain ⟨nq_71,hj_57⟩:=jA hj_57
      refine aH (β:=((List Int)×Int×Int)) (λ(s_53:(List Int)×Int×Int)=>([(0,(vL (eK .u8) dst_1)),(1,(.d (.int .u64 s_53.2.1))),(3,(vB neg_4)),(4,(vB append_5)),(10,.nil),(11,(vS (⟨#[]⟩:ByteArray))),(12,(.ref n_13 0 0)),(13,(vI s_53.2.2))]:SL_)) (λ(s_53:(List Int)×Int×Int)=>([(n_13,some (bV 1 (eK .u8) s_53.1))]:Hp)) (λp=>o_56 = .go p) ?_ ?_
      ·refine aG (bZ (β:=Nat×((List Int)×Int×Int)) (λp=>(λ(k_48:Nat) (s_53:(List Int)×Int×Int)=>([(0,(vL (eK .u8) dst_1)),(1,(.d (.int .u64 s_53.2.1))),(3,(vB neg_4)),(4,(vB append_5)),(10,.nil),(11,(vS (⟨#[]⟩:ByteArray))),(12,(.ref n_13 0 0)),(13,(vI s_53.2.2)),(17,(.d (.int .u64 (IntKind.u64.wrap base_3))))]:SL_)) p.1 p.2) (λp=>(λ(k_48:Nat) (s_53:(List Int)×Int×Int)=>([(n_13,some (bV 1 (eK .u8) s_53.1))]:Hp)) p.1 p.2) (λp=>fE (λs=>dG base_3 s) p.1 p.2=some o_56) (λp=>p.1) (nq_71,((List.replicate 65 (0:Int)),v_14,65)) hj_57 rfl (aN rfl) ?_)
       rintro ⟨k_48,s_53⟩ hL_55
       dsimp only at hL_55
       cases k_48 with
       | zero=>cases hL_55
       | succ k_48 =>
        obtain ⟨c_,hc_54,hL_55⟩:=bind_some hL_55
        unfold dG at hc_54
        refine af (af (aa (ae (.d (.int .u64 s_53.2.1)) wz rfl (ae (.d (.int .u64 (IntKind.u64.wrap base_3))) wz rfl (ae (vB (decide (s_53.2.1>=(IntKind.u64.wrap base_3)))) wz rfl (ai ?_))))))
        rcases ak hc_54 with⟨hc_58,hc_54⟩|⟨hc_58,hc_54⟩
        ·refine aB rfl hc_58 (ax (aG (af (aa (ae (vI s_53.2.2) wz rfl (ae (vI (w64 (s_53.2.2-1))) wz rfl (ae (vI (w64 (s_53.2.2-1))) wz rfl (ai (af (aa (ae (.d (.int .u64 s_53.2.1)) wz rfl (ae (.d (.int .u64 (IntKind.u64.wrap base_3))) wz rfl ?_))))))))))))
         obtain ⟨q_59,hz_60,hc_54⟩:=bind_some hc_54
         refine Dy rfl rfl hz_60 wz (ae (.d (.int .u64 q_59)) wz rfl (ai (af (aa (ae (vI (w64 (s_53.2.2-1))) wz rfl (ae (.d (.int .u64 s_53.2.1)) wz rfl (ae (.d (.int .u64 q_59)) wz rfl (ae (.d (.int .u64 (IntKind.u64.wrap base_3))) wz rfl (ae (.d (.int .u64 (IntKind.u64.wrap (q_59*(IntKind.u64.wrap base_3))))) wz rfl (ae (.d (.int .u64 (IntKind.u64.wrap (s_53.2.1-(IntKind.u64.wrap (q_59*(IntKind.u64.wrap base_3))))))) wz rfl ?_))))))))))
         obtain ⟨b_61,hy_62,hc_54⟩:=bind_some hc_54
         refine p8 un9 rfl rfl hy_62 wz ?_
         obtain ⟨_,hi_63,hc_54⟩:=bind_some hc_54
         refine ze 0 0 il ft sD rfl rfl rfl (zu hi_63) (vz hi_63) wz ?_
         obtain ⟨e_64,hy_65,hc_54⟩:=bind_some hc_54
         refine vF 0 il ft 0 sz5 rfl rfl hy_65 (b_61.toNat:Int) rfl wz (ai (aa (ae (.d (.int .u64 q_59)) wz rfl (ae (.d (.int .u64 q_59)) wz rfl (ai ?_)))))
         obtain rfl:=ah hc_54
         exact cO (k_48,((s_53.1.set ((w64 (s_53.2.2-1))).toNat (b_61.toNat:Int)),q_59,(w64 (s_53.2.2-1)))) hL_55 (ls_ _) rfl (aN rfl)
        ·refine aA rfl hc_58 (cz ?_)
         obtain rfl:=ah hc_54
         obtain rfl:=ah hL_55
         exact bW ((s_53.1,s_53.2.1,s_53.2.2)) rfl rfl (aN rfl)
      ·rintro s_53 ho_ sl_ H_ hp_ hq_
       subst ho_
       refine aV _ hp_ hq_ (af (aa (ae (vI s_53.2.2) wz rfl (ae (vI (w64 (s_53.2.2-1))) wz rfl (ae (vI (w64 (s_53.2.2-1))) wz rfl (ai (aa (ae (vI (w64 (s_53.2.2-1))) wz rfl (ae (.d (.int .u64 s_53.2.1)) wz rfl ?_)))))))))
       obtain ⟨b_66,hy_67,h_20⟩:=bind_some h_20
       refine p8 un9 rfl rfl hy_67 wz ?_
       obtain ⟨_,hi_68,h_20⟩:=bind_some h_20
       refine ze 0 0 il ft sD rfl rfl rfl (zu hi_68) (vz hi_68) wz ?_
       obtain ⟨e_69,hy_70,h_20⟩:=bind_some h_20
       refine vF 0 il ft 0 sz5 rfl rfl hy_70 (b_66.toNat:Int) rfl wz (ai ?_)
       obtain rfl:=ah h_20
       exact cu
    ·rintro ⟨⟩ _ sl_ H_ hp_ hq_
     refine aV _ hp_ hq_ (af (af (aa (ae (vB neg_4) wz rfl (ai ?_)))))
     obtain ⟨v_72,h_73,hF⟩:=bind_some hF
     refine aH (β:=Unit) (λ_=>([(0,(vL (eK .u8) dst_1)),(4,(vB append_5)),(10,.nil),(11,(vS (⟨#[]⟩:ByteArray))),(12,(.ref n_13 0 0)),(13,(vI v_72.2))]:SL_)) (λ_=>([(n_13,some (bV 1 (eK .u8) v_72.1))]:Hp)) (λ_=>True) ?_ ?_
     ·rcases ak h_73 with⟨hc_74,h_73⟩|⟨hc_74,h_73⟩
      ·refine aB rfl hc_74 (af (aa (ae (vI v_19.2) wz rfl (ae (vI (w64 (v_19.2-1))) wz rfl (ae (vI (w64 (v_19.2-1))) wz rfl (ai (aa (ae (vI (w64 (v_19.2-1))) wz rfl ?_))))))))
       obtain ⟨_,hi_75,h_73⟩:=bind_some h_73
       refine ze 0 0 il ft sD rfl rfl rfl (zu hi_75) (vz hi_75) wz ?_
       obtain ⟨e_76,hy_77,h_73⟩:=bind_some h_73
       refine vF 0 il ft 0 sz5 rfl rfl hy_77 45 rfl wz (ai ?_)
       obtain rfl:=ah h_73
       exact cu
      ·refine aA rfl hc_74 (ax ?_)
       obtain rfl:=ah h_73
       exact cu
     ·rintro ⟨⟩ _ sl_ H_ hp_ hq_
      refine aV _ hp_ hq_ (af (af (aa (ae (vB append_5) wz rfl (ai ?_)))))
      rcases ak hF with⟨hc_78,hF⟩|⟨hc_78,hF⟩
      ·refine aB rfl hc_78 (af (aa (ae (vL (eK .u8) dst_1) wz rfl (ae (vI v_72.2) wz rfl ?_))))
       obtain ⟨_,hn_79,hF⟩:=bind_some hF
       obtain ⟨_,hr_80,hF⟩:=bind_some hF
       refine yH 0 0 il ft sD rfl rfl rfl hn_79 hr_80 wz ?_
       cases hF
      ·refine aA rfl hc_78 (ax (af (aa (ae (vI v_72.2) wz rfl ?_))))
       obtain ⟨_,hn_81,hF⟩:=bind_some hF
       obtain ⟨_,hr_82,hF⟩:=bind_some hF
       refine yH 0 0 il ft sD rfl rfl rfl hn_81 hr_82 wz (h_convp 0 0 il ft un92 un9 un5 rfl rfl (qQ hr_82) wz (ae (vS (Go.strOfNums (xB v_72.1 ((v_72.2).toNat) (((v_72.1.length:Int)).toNat-(v_72.2).toNat)))) wz rfl (ai ?_)))
       obtain rfl:=ah hF
       exact av (aS (.inr rfl) [.nil,(vS (Go.strOfNums (xB v_72.1 ((v_72.2).toNat) (((v_72.1.length:Int)).toNat-(v_72.2).toNat))))] ⟨rfl,⟨rfl,trivial⟩⟩ rfl rfl rfl)
theorem jk {i_1:Int} {base_2:Int} {r:ByteArray} (hF:di i_1 base_2=some r) :
  FnM Tryz.prog 140 [(.d (.int .u64 i_1)),(vI base_2)] [] (vS r) []:=by
 refine FnM.of_wH ⟨Tryz.prog,32,[],[]⟩ rfl Tryz.func140 rfl rfl (lb_ rfl) (by kernel_rfl) ?_
 unfold di at hF
 refine af (aa (ae (vS (⟨#[]⟩:ByteArray)) wz rfl (ai (af (af (aa (ae (vI base_2) wz rfl (ae (vB (base_2==10)) wz rfl (ai ?_)))))))))
 rcases ak hF with⟨hc_3,hF⟩|⟨hc_3,hF⟩
 ·refine aB rfl hc_3 (af (af (aa (ae (.d (.int .u64 i_1)) wz rfl (ae (vB (decide (i_1<100))) wz rfl (ai ?_))))))
  rcases ak hF with⟨hc_4,hF⟩|⟨hc_4,hF⟩
  ·refine aB rfl hc_4 (af (aa (ae (.d (.int .u64 i_1)) wz rfl (nP Et un3 rfl wz ?_))))
   cases hF
  ·refine aA rfl hc_4 (ax (af (aa (y9 (List.replicate 24 (0:Int)) 0 (.inl rfl) z197 (by kernel_rfl) (by kernel_rfl) ab197 wz (λn_5=>ai (af (aa (ae (.d (.int .u64 i_1)) wz rfl ?_))))))))
   cases hF
 ·refine aA rfl hc_3 (ax (af (aa (ae (.d (.int .u64 i_1)) wz rfl (ae (vI base_2) wz rfl ?_)))))
  obtain ⟨r_6,hr_7,hF⟩:=bind_some hF
  refine ay (jl hr_7) rfl hb184 rfl rfl rfl rfl wz (ae (.tup [(vL (eK .u8) r_6.1),(vS r_6.2)]) wz rfl (ae (vL (eK .u8) r_6.1) wz rfl (ae (vS r_6.2) wz rfl (ae (vL (eK .u8) r_6.1) wz rfl (ae (vS r_6.2) wz rfl (ai (af (aa (ae (vS r_6.2) wz rfl (ae (vS r_6.2) wz rfl (ai ?_)))))))))))
  obtain rfl:=ah hF
  exact av (aS (.inr rfl) [(vS r_6.2)] ⟨rfl,trivial⟩ rfl rfl rfl)
theorem nE {i_1:Int} {base_2:Int} {r:ByteArray} (hF:eu i_1 base_2=some r) :
  FnM Tryz.prog 110 [(.d (.int .u64 i_1)),(vI base_2)] [] (vS r) []:=by
 refine FnM.of_wH ⟨Tryz.prog,8,[],[]⟩ rfl Tryz.func110 rfl rfl (lb_ rfl) (by kernel_rfl) ?_
 unfold eu at hF
 refine af (aa (ae (vS (⟨#[]⟩:ByteArray)) wz rfl (ai (af (aa (ae (.d (.int .u64 i_1)) wz rfl (ae (vI base_2) wz rfl ?_)))))))
 obtain ⟨r_3,hr_4,hF⟩:=bind_some hF
 refine ay (jk hr_4) rfl hb140 rfl rfl rfl rfl wz (ae (vS r_3) wz rfl (ai ?_))
 obtain rfl:=ah hF
 exact av (aS (.inr rfl) [(vS r_3)] ⟨rfl,trivial⟩ rfl rfl rfl)
theorem qI {x0:ByteArray} {x1:Int} {r:ByteArray} (hF:strings_Repeat x0 x1=some r) :
  FnM Tryz.prog 111 [(vS x0),(vI x1)] [] (vS r) [] :=
 C8 rfl Tryz.strings_Repeat  hF
theorem wm {s_1:ByteArray} {r:ByteArray} (hF:jq s_1=some r) :
  FnM Tryz.prog 60 [(vS s_1)] [] (vS r) []:=by
 refine FnM.of_wH ⟨Tryz.prog,27,[],[]⟩ rfl Tryz.func60 rfl rfl (lb_ rfl) (by kernel_rfl) ?_
 unfold jq at hF
 refine af (aa (ae (vS (⟨#[]⟩:ByteArray)) wz rfl (ai (af (aa (ae (.d (.int .u64 14695981039346656037)) wz rfl (ai (af (af (aa (ae (vS s_1) wz rfl (oF un9 rfl wz (ae (vI 0) wz rfl (ai ?_))))))))))))))
 obtain ⟨o_10,hj_11,hF⟩:=bind_some hF
 obtain ⟨hn_6,hj_11⟩:=bJ hj_11
 refine aH (β:=(Int)) (λ(s_7:Int)=>([(3,(.d (.int .u64 s_7)))]:SL_)) (λ(s_7:Int)=>([]:Hp)) (λp=>o_10 = .go p) ?_ ?_
 ·refine aG (bZ (β:=Nat×(List Nat)×(Int)) (λp=>(λ(k_2:Nat) (l_3:List Nat) (s_7:Int)=>([(0,(vS s_1)),(3,(.d (.int .u64 s_7))),(7,(vI (s_1.size:Int))),(8,(vI (k_2:Int)))]:SL_)) p.1 p.2.1 p.2.2) (λp=>(λ(k_2:Nat) (l_3:List Nat) (s_7:Int)=>([]:Hp)) p.1 p.2.1 p.2.2) (λp=>dF (λk x s=>iq s_1 k x s) p.2.1 p.1 p.2.2=some o_10/\((List.range ((s_1.size:Int)).toNat)).drop p.1=p.2.1) (λp=>p.2.1.length) (0,(List.range ((s_1.size:Int)).toNat),14695981039346656037) ⟨hj_11,rfl⟩ rfl (aN rfl) ?_)
  rintro ⟨k_2,l_3,s_7⟩ ⟨hL_9,hD_5⟩
  dsimp only at hL_9 hD_5
  cases l_3 with
  | nil =>
   obtain rfl:=ah hL_9
   refine af (aa (ae (vB (decide ((k_2:Int)<(s_1.size:Int)))) wz rfl (ai ?_)))
   refine af (aA rfl (kJ hD_5) (cz ?_))
   exact bW (s_7) rfl rfl (aN rfl)
  | cons x_4 l_3 =>
   obtain ⟨c_,hc_8,hL_9⟩:=bind_some hL_9
   refine af (aa (ae (vB (decide ((k_2:Int)<(s_1.size:Int)))) wz rfl (ai ?_)))
   refine af (aB rfl (jm hD_5) (ax ?_))
   unfold iq at hc_8
   refine af (aG (af (aa (ae (vI (k_2:Int)) wz rfl (ae (vI (k_2:Int)) wz rfl (ai (aa (ae (.d (.int .u64 s_7)) wz rfl (ae (vS s_1) wz rfl (ae (vI (k_2:Int)) wz rfl ?_))))))))))
   obtain ⟨b_12,hy_13,hc_8⟩:=bind_some hc_8
   refine p8 un9 rfl rfl hy_13 wz (nP un5 Et rfl wz (ae (.d (.int .u64 (vo .u64 s_7 (IntKind.u64.wrap (b_12.toNat:Int))))) wz rfl (ae (.d (.int .u64 (IntKind.u64.wrap ((vo .u64 s_7 (IntKind.u64.wrap (b_12.toNat:Int)))*1099511628211)))) wz rfl (ae (.d (.int .u64 (IntKind.u64.wrap ((vo .u64 s_7 (IntKind.u64.wrap (b_12.toNat:Int)))*1099511628211)))) wz rfl (ai (aa (iQ (kN hD_5 hn_6) wz rfl (ae (vI ((k_2+1:Nat):Int)) wz rfl (ai ?_)))))))))
   obtain rfl:=ah hc_8
   exact cO (k_2+1,l_3,(IntKind.u64.wrap ((vo .u64 s_7 (IntKind.u64.wrap (b_12.toNat:Int)))*1099511628211))) ⟨hL_9,bv hD_5⟩ (ls_ _) rfl (aN rfl)
 ·rintro s_7 ho_ sl_ H_ hp_ hq_
  subst ho_
  refine aV _ hp_ hq_ (af (aa (ae (.d (.int .u64 s_7)) wz rfl ?_)))
  obtain ⟨r_14,hr_15,hF⟩:=bind_some hF
  refine ay (nE hr_15) rfl hb110 rfl rfl rfl rfl wz (ae (vS r_14) wz rfl (ai (af (aa (ae (vS r_14) wz rfl (oF un9 rfl wz (ae (vI (w64 (16-(r_14.size:Int)))) wz rfl ?_)))))))
  obtain ⟨r_16,hr_17,hF⟩:=bind_some hF
  refine ay (qI hr_17) rfl hb111 rfl rfl rfl rfl wz (ae (vS r_14) wz rfl ?_)
  obtain ⟨s_18,hz_19,hF⟩:=bind_some hF
  refine ji rfl rfl hz_19 wz (ae (vS s_18) wz rfl (ai ?_))
  obtain rfl:=ah hF
  exact av (aS (.inr rfl) [(vS s_18)] ⟨rfl,trivial⟩ rfl rfl rfl)
theorem qF {last_1:ByteArray} {l_2:Log_} {r:ByteArray} (hF:kI last_1 l_2=some r) :
  FnM Tryz.prog 82 [(vS last_1),(.d (.agg (Log_.enc l_2)))] [] (vS r) []:=by
 refine FnM.of_wH ⟨Tryz.prog,11,[],[]⟩ rfl Tryz.func82 rfl rfl (lb_ rfl) (by kernel_rfl) ?_
 unfold kI at hF
 refine af (aa (kY 0 (.inl rfl) [(vS l_2.Player),(vS l_2.Item),(vI l_2.No),(vI l_2.Clock),(vI l_2.Long),(vS l_2.Sum)] rfl rfl wz (λn_3=>ae (vS (⟨#[]⟩:ByteArray)) wz rfl (ai (af (aa (ae (vS last_1) wz rfl ?_)))))))
 obtain ⟨s_4,hz_5,hF⟩:=bind_some hF
 refine ji rfl rfl hz_5 wz (aK 0 0 il ft eG iw rfl rfl (.d (.agg (Log_.enc l_2))) rfl wz ?_)
 obtain ⟨r_6,hr_7,hF⟩:=bind_some hF
 refine ay (wo hr_7) rfl hb90 rfl rfl rfl rfl wz ?_
 obtain ⟨s_8,hz_9,hF⟩:=bind_some hF
 refine ji rfl rfl hz_9 wz ?_
 obtain ⟨r_10,hr_11,hF⟩:=bind_some hF
 refine ay (wm hr_11) rfl hb60 rfl rfl rfl rfl wz (ae (vS r_10) wz rfl (ai ?_))
 obtain rfl:=ah hF
 exact av (aS (.inr rfl) [(vS r_10)] ⟨rfl,trivial⟩ rfl rfl rfl)
theorem xX {last_1:ByteArray} {l_2:Log_} {r:ByteArray×Int} (hF:lY last_1 l_2=some r) :
  FnM Tryz.prog 40 [(vS last_1),(.d (.agg (Log_.enc l_2)))] [] (.tup [(vS r.1),(vI r.2)]) []:=by
 refine FnM.of_wH ⟨Tryz.prog,21,[],[]⟩ rfl Tryz.func40 rfl rfl (lb_ rfl) (by kernel_rfl) ?_
 unfold lY at hF
 refine af (aa (kY 0 (.inl rfl) [(vS l_2.Player),(vS l_2.Item),(vI l_2.No),(vI l_2.Clock),(vI l_2.Long),(vS l_2.Sum)] rfl rfl wz (λn_3=>ae (vS (⟨#[]⟩:ByteArray)) wz rfl (ae (vI 0) wz rfl (ai (af (af (aa (ae (vS last_1) wz rfl ?_)))))))))
 obtain ⟨r_4,hr_5,hF⟩:=bind_some hF
 refine ay (lc hr_5) rfl hb85 rfl rfl rfl rfl wz (ae (vI r_4) wz rfl (ai (af (aa (ae (vI r_4) wz rfl (ae (vB (r_4 != 0)) wz rfl (ai ?_)))))))
 rcases ak hF with⟨hc_6,hF⟩|⟨hc_6,hF⟩
 ·refine aB rfl hc_6 (af (aa (ae (vI r_4) wz rfl (ae (vS (⟨#[]⟩:ByteArray)) wz rfl (ae (vI r_4) wz rfl (ai ?_))))))
  obtain rfl:=ah hF
  exact av (aS (.inr rfl) [(vS (⟨#[]⟩:ByteArray)),(vI r_4)] ⟨rfl,⟨rfl,trivial⟩⟩ rfl rfl rfl)
 ·refine aA rfl hc_6 (ax (af (af (aa (aK 0 0 il ft eG iw rfl rfl (.d (.agg (Log_.enc l_2))) rfl wz ?_)))))
  obtain ⟨r_7,hr_8,hF⟩:=bind_some hF
  refine ay (ja hr_8) rfl hb83 rfl rfl rfl rfl wz (ae (vI r_7) wz rfl (ai (af (aa (ae (vI r_7) wz rfl (ae (vB (r_7 != 0)) wz rfl (ai ?_)))))))
  rcases ak hF with⟨hc_9,hF⟩|⟨hc_9,hF⟩
  ·refine aB rfl hc_9 (af (aa (ae (vI r_7) wz rfl (ae (vS (⟨#[]⟩:ByteArray)) wz rfl (ae (vI r_7) wz rfl (ai ?_))))))
   obtain rfl:=ah hF
   exact av (aS (.inr rfl) [(vS (⟨#[]⟩:ByteArray)),(vI r_7)] ⟨rfl,⟨rfl,trivial⟩⟩ rfl rfl rfl)
  ·refine aA rfl hc_9 (ax (af (aa (ae (vS last_1) wz rfl (aK 0 0 il ft eG iw rfl rfl (.d (.agg (Log_.enc l_2))) rfl wz ?_)))))
   obtain ⟨r_10,hr_11,hF⟩:=bind_some hF
   refine ay (qF hr_11) rfl hb82 rfl rfl rfl rfl wz (ae (vS r_10) wz rfl (ae (vI 0) wz rfl (ai ?_)))
   obtain rfl:=ah hF
   exact av (aS (.inr rfl) [(vS r_10),(vI 0)] ⟨rfl,⟨rfl,trivial⟩⟩ rfl rfl rfl)
theorem l8 {s_1:ByteArray} {r:Int} (hF:fO s_1=some r) :
  FnM Tryz.prog 41 [(vS s_1)] [] (vI r) []:=by
 refine FnM.of_wH ⟨Tryz.prog,10,[],[]⟩ rfl Tryz.func41 rfl rfl (lb_ rfl) (by kernel_rfl) ?_
 unfold fO at hF
 refine af (aa (ae (vI 0) wz rfl (ai (af (af ?_)))))
 obtain ⟨v_2,h_3,hF⟩:=bind_some hF
 refine aH (β:=Unit) (λ_=>([(9,(vB v_2))]:SL_)) (λ_=>([]:Hp)) (λ_=>True) ?_ ?_
 ·refine aa (ae (vS s_1) wz rfl (ae (vB (sNe s_1 (⟨#[]⟩:ByteArray))) wz rfl ?_))
  rcases ak h_3 with⟨hc_4,h_3⟩|⟨hc_4,h_3⟩
  ·refine aC rfl hc_4 wz (ae (vS s_1) wa rfl ?_)
   obtain ⟨r_5,hr_6,h_3⟩:=bind_some h_3
   refine ay (pJ hr_6) rfl hb23 rfl rfl rfl rfl wa (ae (vB (!r_5)) wa rfl (ae (vB (!r_5)) wz rfl (ai ?_)))
   obtain rfl:=ah h_3
   exact cu
  ·refine aC rfl hc_4 wz (aj wa (aj wa (aj wa (ae (vB false) wz rfl (ai ?_)))))
   obtain rfl:=ah h_3
   exact cu
 ·rintro ⟨⟩ _ sl_ H_ hp_ hq_
  refine aV _ hp_ hq_ ?_
  rcases ak hF with⟨hc_7,hF⟩|⟨hc_7,hF⟩
  ·refine aB rfl hc_7 (af (aa (ae (vI 3) wz rfl (ai ?_))))
   obtain rfl:=ah hF
   exact av (aS (.inr rfl) [(vI 3)] ⟨rfl,trivial⟩ rfl rfl rfl)
  ·refine aA rfl hc_7 (ax (af (aa (ae (vI 0) wz rfl (ai ?_)))))
   obtain rfl:=ah hF
   exact av (aS (.inr rfl) [(vI 0)] ⟨rfl,trivial⟩ rfl rfl rfl)
theorem yO {l_1:(List Int)} {r:Int} (hF:nO l_1=some r) :
  FnM Tryz.prog 14 [(vL eI l_1)] [] (vI r) []:=by
 refine FnM.of_wH ⟨Tryz.prog,15,[],[]⟩ rfl Tryz.func14 rfl rfl (lb_ rfl) (by kernel_rfl) ?_
 unfold nO at hF
 refine af (aa (ae (vI 0) wz rfl (ai (af (af (aa (ae (vL eI l_1) wz rfl (eP un90 rfl wz (ae (vI 0) wz rfl (ai ?_))))))))))
 obtain ⟨o_10,hj_11,hF⟩:=bind_some hF
 obtain ⟨hn_6,hj_11⟩:=bJ hj_11
 refine aH (β:=(Unit)) (λ(s_7:Unit)=>([]:SL_)) (λ(s_7:Unit)=>([]:Hp)) (λp=>o_10 = .go p) ?_ ?_
 ·refine aG (bZ (β:=Nat×(List Int)×(Unit)) (λp=>(λ(k_2:Nat) (l_3:List Int) (s_7:Unit)=>([(5,(vL eI l_1)),(6,(vI (l_1.length:Int))),(7,(vI (k_2:Int)))]:SL_)) p.1 p.2.1 p.2.2) (λp=>(λ(k_2:Nat) (l_3:List Int) (s_7:Unit)=>([]:Hp)) p.1 p.2.1 p.2.2) (λp=>dF (λk x s=>lQ k x s) p.2.1 p.1 p.2.2=some o_10/\(l_1).drop p.1=p.2.1) (λp=>p.2.1.length) (0,l_1,()) ⟨hj_11,rfl⟩ rfl (aN rfl) ?_)
  rintro ⟨k_2,l_3,s_7⟩ ⟨hL_9,hD_5⟩
  dsimp only at hL_9 hD_5
  cases l_3 with
  | nil =>
   obtain rfl:=ah hL_9
   refine af (aa (ae (vB (decide ((k_2:Int)<(l_1.length:Int)))) wz rfl (ai ?_)))
   refine af (aA rfl (drop_nil hD_5) (cz ?_))
   exact bW (s_7) rfl rfl (aN rfl)
  | cons x_4 l_3 =>
   obtain ⟨c_,hc_8,hL_9⟩:=bind_some hL_9
   refine af (aa (ae (vB (decide ((k_2:Int)<(l_1.length:Int)))) wz rfl (ai ?_)))
   refine af (aB rfl (dN hD_5) (ax ?_))
   unfold lQ at hc_8
   refine af (aG (af (aa (gM es90 rfl rfl (eB hD_5) rfl wz (dM sz28 ag28 rfl (vI x_4) rfl wz (ae (vI x_4) wz rfl (ai (af (aa (ae (vI x_4) wz rfl (ae (vB (x_4 != 0)) wz rfl (ai ?_))))))))))))
   rcases ak hc_8 with⟨hc_12,hc_8⟩|⟨hc_12,hc_8⟩
   ·refine aB rfl hc_12 (af (aa (ae (vI x_4) wz rfl (ae (vI x_4) wz rfl (ai ?_)))))
    obtain rfl:=ah hc_8
    obtain rfl:=ah hL_9
    obtain rfl:=ah hF
    exact av (aS (.inr rfl) [(vI x_4)] ⟨rfl,trivial⟩ rfl rfl rfl)
   ·refine aA rfl hc_12 (ax (aa (iQ (dX hD_5 hn_6) wz rfl (ae (vI ((k_2+1:Nat):Int)) wz rfl (ai ?_)))))
    obtain rfl:=ah hc_8
    exact cO (k_2+1,l_3,()) ⟨hL_9,bv hD_5⟩ (ls_ _) rfl (aN rfl)
 ·rintro s_7 ho_ sl_ H_ hp_ hq_
  subst ho_
  refine aV _ hp_ hq_ (af (aa (ae (vI 0) wz rfl (ai ?_))))
  obtain rfl:=ah hF
  exact av (aS (.inr rfl) [(vI 0)] ⟨rfl,trivial⟩ rfl rfl rfl)
theorem iG {y_1:Log_} {p_2:Stream} {r:Bool×Stream} (hF:cZ y_1 p_2=some r) :
  FnM Tryz.prog 44 [(.d (.agg (Log_.enc y_1))),(.ref (au 0) 0 0)] [(.cells 1 [(.ref (au 1) 0 0)]),(.cells 2 [(vL eI p_2.L),(vI p_2.f_at)])] (vB r.1) [some (.cells 1 [(.ref (au 1) 0 0)]),some (.cells 2 [(vL eI r.2.L),(vI r.2.f_at)])]:=by
 refine FnM.of_wH ⟨Tryz.prog,12,[],[]⟩ rfl Tryz.func44 rfl rfl (lb_ rfl) (by kernel_rfl) ?_
 unfold cZ at hF
 refine af (aa (kY 0 (.inl rfl) [(vS y_1.Player),(vS y_1.Item),(vI y_1.No),(vI y_1.Clock),(vI y_1.Long),(vS y_1.Sum)] rfl rfl wz (λn_3=>ae (vB false) wz rfl (ai (af ?_)))))
 obtain ⟨v_4,h_5,hF⟩:=bind_some hF
 refine aH (β:=Unit) (λ_=>([(3,(vB v_4.1))]:SL_)) (λ_=>([((au 0),some (.cells 1 [(.ref (au 1) 0 0)])),((au 1),some (.cells 2 [(vL eI v_4.2.1),(vI v_4.2.2)])),(n_3,some (.cells 6 [(vS y_1.Player),(vS y_1.Item),(vI y_1.No),(vI y_1.Clock),(vI y_1.Long),(vS y_1.Sum)]))]:Hp)) (λ_=>True) ?_ ?_
 ·refine aa (aO fZ rfl 0 rfl wz (aK 0 2 il ft sz9 ag9 rfl rfl (vS y_1.Player) rfl wz (ae (vB (sNe y_1.Player (⟨#[112,97]⟩:ByteArray))) wz rfl ?_)))
  rcases ak h_5 with⟨hc_6,h_5⟩|⟨hc_6,h_5⟩
  ·refine aC rfl hc_6 wz (aK 0 0 il ft DK ag23 rfl rfl (.ref (au 1) 0 0) rfl wa ?_)
   obtain ⟨r_7,hr_8,h_5⟩:=bind_some h_5
   refine bu 0 [1] il ft (dP hr_8) rfl CR rfl (by kernel_rfl) (by kernel_rfl) (by kernel_rfl) (by kernel_rfl) (by kernel_rfl) (by kernel_rfl) (by kernel_rfl) (by decide) (by kernel_rfl) wa (vB r_7.1) (by kernel_rfl) ([((au 0),some (.cells 1 [(.ref (au 1) 0 0)])),((au 1),some (.cells 2 [(vL eI r_7.2.L),(vI r_7.2.f_at)])),(n_3,some (.cells 6 [(vS y_1.Player),(vS y_1.Item),(vI y_1.No),(vI y_1.Clock),(vI y_1.Long),(vS y_1.Sum)]))]:Hp) (by kernel_rfl) (ae (vB (!r_7.1)) wa rfl (ae (vB (!r_7.1)) wz rfl (ae (vB (!r_7.1)) wz rfl (ai ?_))))
   obtain rfl:=ah h_5
   exact cu
  ·refine aC rfl hc_6 wz (aj wa (aj wa (aj wa (ae (vB false) wz rfl (ae (vB false) wz rfl (ai ?_))))))
   obtain rfl:=ah h_5
   exact cu
 ·rintro ⟨⟩ _ sl_ H_ hp_ hq_
  refine aV _ hp_ hq_ ?_
  obtain rfl:=ah hF
  exact av (nI (.inr rfl) [(vB v_4.1)] _ [0,1] [au 0,au 1] ⟨rfl,trivial⟩ (.cons (eQ rfl rfl) (.nil)) (by kernel_rfl) ⟨(by kernel_rfl),⟨(by kernel_rfl),trivial⟩⟩ (by decide) (by kernel_rfl))
theorem eX {s_1:(List Log_)} {r:(List Log_)} (hF:aR s_1=some r) :
  FnM Tryz.prog 29 [(vL Log_.enc s_1)] [] (gV (au 0) 6 r) (([]:List Box).map some++gO 6 Log_.enc r):=by
 refine FnM.of_wH ⟨Tryz.prog,8,[],[]⟩ rfl Tryz.func29 rfl rfl (lb_ rfl) (by kernel_rfl) ?_
 unfold aR at hF
 refine af (aa (ae .nil wz rfl (ai (af (af (aa (ae (vL Log_.enc s_1) wz rfl (h_nileq kC rfl wz (λb_2 hb_3=>ai ?_)))))))))
 cases b_2 with
 | true =>
  refine aB rfl rfl ?_
  obtain rfl:=hb_3 rfl
  replace hF:=C9 hF
  refine af (aa (ae .nil wz rfl (ai (ut (λn_4 => ?_)))))
  obtain rfl:=ah hF
  exact av (finG (outs:=([]:List Box)) (.inr rfl) 0 rfl rfl rfl (by kernel_rfl) (by kernel_rfl))
 | false =>
  refine aA rfl rfl (ax (af (aa (h_lit0 kz ez26 rfl wz (ae (vL Log_.enc s_1) wz rfl ?_)))))
  obtain ⟨a_5,hz_6,hF⟩:=bind_some hF
  refine h_appn 0 (.inl rfl) Ae Ae eG z43 rfl (by decide) by43 (by decide) (λ_=>rfl) rfl rfl hz_6 wz (λn_7=>ae (gV n_7 6 a_5) wz rfl (ai ?_))
  obtain rfl:=ah hF
  exact av (finG (outs:=([]:List Box)) (.inr rfl) 0 rfl rfl rfl (by kernel_rfl) (by kernel_rfl))
theorem gz {s_1:(List Log_)} {f2_3:Stream} {r:Int×Stream} (hF:bf s_1 f2_3=some r) :
  FnM Tryz.prog 87 [(vV (au 2) 6 s_1),(.fn 44 [(.ref (au 0) 0 0)])] (([(.cells 1 [(.ref (au 1) 0 0)]),(.cells 2 [(vL eI f2_3.L),(vI f2_3.f_at)])]:List Box)++[(bV 6 Log_.enc s_1)]) (vI r.1) ((([(.cells 1 [(.ref (au 1) 0 0)]),(.cells 2 [(vL eI r.2.L),(vI r.2.f_at)])]:List Box)).map some++[some (bV 6 Log_.enc s_1)]):=by
 refine FnM.of_wH ⟨Tryz.prog,19,[],[]⟩ rfl Tryz.func87 rfl rfl (lb_ rfl) (by kernel_rfl) ?_
 unfold bf at hF
 refine af (aa (ae (vI 0) wz rfl (ai (af (af (aa (ae (vV (au 2) 6 s_1) wz rfl (AB kC rfl wz (ae (vI 0) wz rfl (ai ?_))))))))))
 obtain ⟨o_12,hj_13,hF⟩:=bind_some hF
 obtain ⟨hn_8,hj_13⟩:=bJ hj_13
 refine aH (β:=((List Int)×Int)) (λ(s_9:(List Int)×Int)=>([]:SL_)) (λ(s_9:(List Int)×Int)=>([((au 0),some (.cells 1 [(.ref (au 1) 0 0)])),((au 1),some (.cells 2 [(vL eI s_9.1),(vI s_9.2)])),((au 2),some (bV 6 Log_.enc s_1))]:Hp)) (λp=>o_12 = .go p) ?_ ?_
 ·refine aG (bZ (β:=Nat×(List Nat)×((List Int)×Int)) (λp=>(λ(k_4:Nat) (l_5:List Nat) (s_9:(List Int)×Int)=>([(0,(vV (au 2) 6 s_1)),(1,(.fn 44 [(.ref (au 0) 0 0)])),(7,(vI (s_1.length:Int))),(8,(vI (k_4:Int)))]:SL_)) p.1 p.2.1 p.2.2) (λp=>(λ(k_4:Nat) (l_5:List Nat) (s_9:(List Int)×Int)=>([((au 0),some (.cells 1 [(.ref (au 1) 0 0)])),((au 1),some (.cells 2 [(vL eI s_9.1),(vI s_9.2)])),((au 2),some (bV 6 Log_.enc s_1))]:Hp)) p.1 p.2.1 p.2.2) (λp=>dF (λk x s=>aI s_1 k x s) p.2.1 p.1 p.2.2=some o_12/\((List.range ((s_1.length:Int)).toNat)).drop p.1=p.2.1) (λp=>p.2.1.length) (0,(List.range ((s_1.length:Int)).toNat),(f2_3.L,f2_3.f_at)) ⟨hj_13,rfl⟩ rfl (aN rfl) ?_)
  rintro ⟨k_4,l_5,s_9⟩ ⟨hL_11,hD_7⟩
  dsimp only at hL_11 hD_7
  cases l_5 with
  | nil =>
   obtain rfl:=ah hL_11
   refine af (aa (ae (vB (decide ((k_4:Int)<(s_1.length:Int)))) wz rfl (ai ?_)))
   refine af (aA rfl (kJ hD_7) (cz ?_))
   exact bW (s_9) rfl rfl (aN rfl)
  | cons x_6 l_5 =>
   obtain ⟨c_,hc_10,hL_11⟩:=bind_some hL_11
   refine af (aa (ae (vB (decide ((k_4:Int)<(s_1.length:Int)))) wz rfl (ai ?_)))
   refine af (aB rfl (jm hD_7) (ax ?_))
   unfold aI at hc_10
   refine af (aG (af (aa (ae (vI (k_4:Int)) wz rfl (ae (vI (k_4:Int)) wz rfl (ai (af (aa (ae (.fn 44 [(.ref (au 0) 0 0)]) wz rfl (ae (vV (au 2) 6 s_1) wz rfl (ae (vI (k_4:Int)) wz rfl ?_)))))))))))
   obtain ⟨_,hi_14,hc_10⟩:=bind_some hc_10
   refine Bz kz rfl rfl (uS hi_14) (nT hi_14) wz ?_
   obtain ⟨e_15,hy_16,hc_10⟩:=bind_some hc_10
   refine Dv 0 2 il ft eG iw rfl rfl hy_16 (.d (.agg (Log_.enc e_15))) rfl wz ?_
   obtain ⟨r_17,hr_18,hc_10⟩:=bind_some hc_10
   refine bu 0 [0,1] il ft (iG hr_18) rfl hb44 rfl (by kernel_rfl) (by kernel_rfl) (by kernel_rfl) (by kernel_rfl) (by kernel_rfl) (by kernel_rfl) (by kernel_rfl) (by decide) (by kernel_rfl) wz (vB r_17.1) (by kernel_rfl) ([((au 0),some (.cells 1 [(.ref (au 1) 0 0)])),((au 1),some (.cells 2 [(vL eI r_17.2.L),(vI r_17.2.f_at)])),((au 2),some (bV 6 Log_.enc s_1))]:Hp) (by kernel_rfl) (ai ?_)
   rcases ak hc_10 with⟨hc_20,hc_10⟩|⟨hc_20,hc_10⟩
   ·refine aB rfl hc_20 (af (aa (ae (vI (k_4:Int)) wz rfl (ae (vI (k_4:Int)) wz rfl (ai ?_)))))
    obtain rfl:=ah hc_10
    obtain rfl:=ah hL_11
    obtain rfl:=ah hF
    exact av (nI (.inr rfl) [(vI (k_4:Int))] _ [0,1,2] [au 0,au 1,au 2] ⟨rfl,trivial⟩ (.cons (eQ rfl rfl) (.nil)) (by kernel_rfl) ⟨(by kernel_rfl),⟨(by kernel_rfl),⟨(by kernel_rfl),trivial⟩⟩⟩ (by decide) (by kernel_rfl))
   ·refine aA rfl hc_20 (ax (aa (iQ (kN hD_7 hn_8) wz rfl (ae (vI ((k_4+1:Nat):Int)) wz rfl (ai ?_)))))
    obtain rfl:=ah hc_10
    exact cO (k_4+1,l_5,(r_17.2.L,r_17.2.f_at)) ⟨hL_11,bv hD_7⟩ (ls_ _) rfl (aN rfl)
 ·rintro s_9 ho_ sl_ H_ hp_ hq_
  subst ho_
  refine aV _ hp_ hq_ (af (aa (ae (vI (-1)) wz rfl (ai ?_))))
  obtain rfl:=ah hF
  exact av (nI (.inr rfl) [(vI (-1))] _ [0,1,2] [au 0,au 1,au 2] ⟨rfl,trivial⟩ (.cons (eQ rfl rfl) (.nil)) (by kernel_rfl) ⟨(by kernel_rfl),⟨(by kernel_rfl),⟨(by kernel_rfl),trivial⟩⟩⟩ (by decide) (by kernel_rfl))
theorem fU {s_1:(List Log_)} {del2_3:Stream} {r:(List Log_)×Stream} (hF:aW s_1 del2_3=some r) :
  FnM Tryz.prog 43 [(vV (au 2) 6 s_1),(.fn 44 [(.ref (au 0) 0 0)])] (([(.cells 1 [(.ref (au 1) 0 0)]),(.cells 2 [(vL eI del2_3.L),(vI del2_3.f_at)])]:List Box)++[(bV 6 Log_.enc s_1)]) (vV (au 2) 6 r.1) ((([(.cells 1 [(.ref (au 1) 0 0)]),(.cells 2 [(vL eI r.2.L),(vI r.2.f_at)])]:List Box)).map some++[some (bV 6 Log_.enc r.1)]):=by
 refine FnM.of_wH ⟨Tryz.prog,42,[],[]⟩ rfl Tryz.func43 rfl rfl (lb_ rfl) (by kernel_rfl) ?_
 unfold aW at hF
 refine af (aa (ae .nil wz rfl (ai (af (aa (ae (vV (au 2) 6 s_1) wz rfl (ae (.fn 44 [(.ref (au 0) 0 0)]) wz rfl ?_)))))))
 obtain ⟨r_4,hr_5,hF⟩:=bind_some hF
 refine zg 0 [0,1] 2 0 il ft (gz hr_5) rfl hb87 rfl rfl (by kernel_rfl) (by kernel_rfl) rfl rfl (by kernel_rfl) (by kernel_rfl) (by kernel_rfl) (by kernel_rfl) rfl (by decide) (by kernel_rfl) bV_ok wz (vI r_4.1) (by kernel_rfl) ([((au 0),some (.cells 1 [(.ref (au 1) 0 0)])),((au 1),some (.cells 2 [(vL eI r_4.2.L),(vI r_4.2.f_at)])),((au 2),some (bV 6 Log_.enc s_1))]:Hp) (by kernel_rfl) (ae (vI r_4.1) wz rfl (ai (af (af (aa (ae (vI r_4.1) wz rfl (ae (vB (r_4.1==(-1))) wz rfl (ai ?_))))))))
 rcases ak hF with⟨hc_6,hF⟩|⟨hc_6,hF⟩
 ·refine aB rfl hc_6 (af (aa (ae (vV (au 2) 6 s_1) wz rfl (ae (vV (au 2) 6 s_1) wz rfl (ai ?_)))))
  obtain rfl:=ah hF
  exact av (nI (.inr rfl) [(vV (au 2) 6 s_1)] _ [0,1,2] [au 0,au 1,au 2] ⟨rfl,trivial⟩ (.cons (uQ _) (.nil)) (by kernel_rfl) ⟨(by kernel_rfl),⟨(by kernel_rfl),⟨(by kernel_rfl),trivial⟩⟩⟩ (by decide) (by kernel_rfl))
 ·refine aA rfl hc_6 (ax (af (af (aa (ae (vI r_4.1) wz rfl (ae (vI (w64 (r_4.1+1))) wz rfl (ae (vI (w64 (r_4.1+1))) wz rfl (ai ?_))))))))
  obtain ⟨o_15,hj_16,hF⟩:=bind_some hF
  obtain ⟨nq_33,hj_16⟩:=jA hj_16
  refine aH (β:=((List Log_)×Int×Int×(List Int)×Int)) (λ(s_12:(List Log_)×Int×Int×(List Int)×Int)=>([(0,(vV (au 2) 6 s_12.1)),(5,(vI s_12.2.1))]:SL_)) (λ(s_12:(List Log_)×Int×Int×(List Int)×Int)=>([((au 0),some (.cells 1 [(.ref (au 1) 0 0)])),((au 1),some (.cells 2 [(vL eI s_12.2.2.2.1),(vI s_12.2.2.2.2)])),((au 2),some (bV 6 Log_.enc s_12.1))]:Hp)) (λp=>o_15 = .go p) ?_ ?_
  ·refine aG (bZ (β:=Nat×((List Log_)×Int×Int×(List Int)×Int)) (λp=>(λ(k_7:Nat) (s_12:(List Log_)×Int×Int×(List Int)×Int)=>([(0,(vV (au 2) 6 s_12.1)),(1,(.fn 44 [(.ref (au 0) 0 0)])),(5,(vI s_12.2.1)),(6,(vI s_12.2.2.1))]:SL_)) p.1 p.2) (λp=>(λ(k_7:Nat) (s_12:(List Log_)×Int×Int×(List Int)×Int)=>([((au 0),some (.cells 1 [(.ref (au 1) 0 0)])),((au 1),some (.cells 2 [(vL eI s_12.2.2.2.1),(vI s_12.2.2.2.2)])),((au 2),some (bV 6 Log_.enc s_12.1))]:Hp)) p.1 p.2) (λp=>fE (λs=>aJ s) p.1 p.2=some o_15) (λp=>p.1) (nq_33,(s_1,r_4.1,(w64 (r_4.1+1)),r_4.2.L,r_4.2.f_at)) hj_16 rfl (aN rfl) ?_)
   rintro ⟨k_7,s_12⟩ hL_14
   dsimp only at hL_14
   cases k_7 with
   | zero=>cases hL_14
   | succ k_7 =>
    obtain ⟨c_,hc_13,hL_14⟩:=bind_some hL_14
    unfold aJ at hc_13
    refine af (af (aa (ae (vI s_12.2.2.1) wz rfl (ae (vV (au 2) 6 s_12.1) wz rfl (AB kC rfl wz (ae (vB (decide (s_12.2.2.1<(s_12.1.length:Int)))) wz rfl (ai ?_)))))))
    rcases ak hc_13 with⟨hc_17,hc_13⟩|⟨hc_17,hc_13⟩
    ·refine aB rfl hc_17 (ax (af (aG (af (aa (ae (vV (au 2) 6 s_12.1) wz rfl (ae (vI s_12.2.2.1) wz rfl ?_)))))))
     obtain ⟨_,hi_18,hc_13⟩:=bind_some hc_13
     refine Bz kz rfl rfl (uS hi_18) (nT hi_18) wz ?_
     obtain ⟨e_19,hy_20,hc_13⟩:=bind_some hc_13
     refine Dv 0 2 il ft eG iw rfl rfl hy_20 (.d (.agg (Log_.enc e_19))) rfl wz (iA 0 (.inl rfl) z43 rfl wz (λn_21=>lm 0 il ft 3 eG rfl rfl [(vS e_19.Player),(vS e_19.Item),(vI e_19.No),(vI e_19.Clock),(vI e_19.Long),(vS e_19.Sum)] rfl wz (ai (af (aa (ae (.fn 44 [(.ref (au 0) 0 0)]) wz rfl (aK 0 3 il ft eG iw rfl rfl (.d (.agg (Log_.enc e_19))) rfl wz ?_)))))))
     obtain ⟨r_22,hr_23,hc_13⟩:=bind_some hc_13
     refine bu 0 [0,1] il ft (iG hr_23) rfl hb44 rfl (by kernel_rfl) (by kernel_rfl) (by kernel_rfl) (by kernel_rfl) (by kernel_rfl) (by kernel_rfl) (by kernel_rfl) (by decide) (by kernel_rfl) wz (vB r_22.1) (by kernel_rfl) ([((au 0),some (.cells 1 [(.ref (au 1) 0 0)])),((au 1),some (.cells 2 [(vL eI r_22.2.L),(vI r_22.2.f_at)])),((au 2),some (bV 6 Log_.enc s_12.1)),(n_21,some (.cells 6 [(vS e_19.Player),(vS e_19.Item),(vI e_19.No),(vI e_19.Clock),(vI e_19.Long),(vS e_19.Sum)]))]:Hp) (by kernel_rfl) (ae (vB (!r_22.1)) wz rfl (ai ?_))
     obtain ⟨v_25,h_26,hc_13⟩:=bind_some hc_13
     refine aH (β:=Unit) (λ_=>([(0,(vV (au 2) 6 v_25.1)),(1,(.fn 44 [(.ref (au 0) 0 0)])),(5,(vI v_25.2)),(6,(vI s_12.2.2.1))]:SL_)) (λ_=>([((au 0),some (.cells 1 [(.ref (au 1) 0 0)])),((au 1),some (.cells 2 [(vL eI r_22.2.L),(vI r_22.2.f_at)])),((au 2),some (bV 6 Log_.enc v_25.1)),(n_21,some (.cells 6 [(vS e_19.Player),(vS e_19.Item),(vI e_19.No),(vI e_19.Clock),(vI e_19.Long),(vS e_19.Sum)]))]:Hp)) (λ_=>True) ?_ ?_
     ·rcases ak h_26 with⟨hc_27,h_26⟩|⟨hc_27,h_26⟩
      ·refine aB rfl hc_27 (af (aa (ae (vV (au 2) 6 s_12.1) wz rfl (ae (vI s_12.2.1) wz rfl (aK 0 3 il ft eG iw rfl rfl (.d (.agg (Log_.enc e_19))) rfl wz ?_)))))
       obtain ⟨_,hi_28,h_26⟩:=bind_some h_26
       refine Bz kz rfl rfl (uS hi_28) (nT hi_28) wz ?_
       obtain ⟨e_29,hy_30,h_26⟩:=bind_some h_26
       refine vF 0 il ft 2 eG rfl rfl hy_30 e_19 rfl wz (fH (v':=(vV (au 2) 6 (s_12.1.set (0+(s_12.2.1).toNat) e_19))) 0 rfl (qY (by simp)) (fH (v':=(vV (au 2) 6 (s_12.1.set (0+(s_12.2.1).toNat) e_19))) 17 rfl (qY (by simp)) (fH (v':=(vV (au 2) 6 (s_12.1.set (0+(s_12.2.1).toNat) e_19))) 22 rfl (qY (by simp)) (fH (v':=(vV (au 2) 6 (s_12.1.set (0+(s_12.2.1).toNat) e_19))) 30 rfl (qY (by simp)) (ai (aa (ae (vI s_12.2.1) wz rfl (ae (vI (w64 (s_12.2.1+1))) wz rfl (ae (vI (w64 (s_12.2.1+1))) wz rfl (ai ?_))))))))))
       obtain rfl:=ah h_26
       exact cu
      ·refine aA rfl hc_27 (ax ?_)
       obtain rfl:=ah h_26
       exact cu
     ·rintro ⟨⟩ _ sl_ H_ hp_ hq_
      refine aV _ hp_ hq_ (aa (ae (vI s_12.2.2.1) wz rfl (ae (vI (w64 (s_12.2.2.1+1))) wz rfl (ae (vI (w64 (s_12.2.2.1+1))) wz rfl (ai ?_)))))
      obtain rfl:=ah hc_13
      exact cO (k_7,(v_25.1,v_25.2,(w64 (s_12.2.2.1+1)),r_22.2.L,r_22.2.f_at)) hL_14 (ls_ _) rfl (aN rfl)
    ·refine aA rfl hc_17 (cz ?_)
     obtain rfl:=ah hc_13
     obtain rfl:=ah hL_14
     exact bW ((s_12.1,s_12.2.1,s_12.2.2.1,s_12.2.2.2.1,s_12.2.2.2.2)) rfl rfl (aN rfl)
  ·rintro s_12 ho_ sl_ H_ hp_ hq_
   subst ho_
   refine aV _ hp_ hq_ (af (aa (ae (vV (au 2) 6 s_12.1) wz rfl (ae (vI s_12.2.1) wz rfl ?_))))
   obtain ⟨_,hr_31,hF⟩:=bind_some hF
   refine Dk kC eG rfl rfl hr_31 wz (h_clear (i:=2) 0 il ft (⟨(⟨#[]⟩:ByteArray),(⟨#[]⟩:ByteArray),0,0,0,(⟨#[]⟩:ByteArray)⟩:Log_) Ae eG z43 rfl rfl rfl (by decide) rfl (qQ hr_31) rfl wz (fH (v':=(vV (au 2) 6 (s_12.1.take ((s_12.2.1).toNat)++List.replicate (((s_12.1.length:Int)).toNat-(s_12.2.1).toNat) (⟨(⟨#[]⟩:ByteArray),(⟨#[]⟩:ByteArray),0,0,0,(⟨#[]⟩:ByteArray)⟩:Log_)++s_12.1.drop (((s_12.2.1).toNat)+(((s_12.1.length:Int)).toNat-(s_12.2.1).toNat))))) 0 rfl (qY (wY (qQ hr_31))) (fH (v':=(vV (au 2) 6 (s_12.1.take ((s_12.2.1).toNat)++List.replicate (((s_12.1.length:Int)).toNat-(s_12.2.1).toNat) (⟨(⟨#[]⟩:ByteArray),(⟨#[]⟩:ByteArray),0,0,0,(⟨#[]⟩:ByteArray)⟩:Log_)++s_12.1.drop (((s_12.2.1).toNat)+(((s_12.1.length:Int)).toNat-(s_12.2.1).toNat))))) 36 rfl (qY (wY (qQ hr_31))) (ai (af (aa (ae (vV (au 2) 6 (s_12.1.take ((s_12.2.1).toNat)++List.replicate (((s_12.1.length:Int)).toNat-(s_12.2.1).toNat) (⟨(⟨#[]⟩:ByteArray),(⟨#[]⟩:ByteArray),0,0,0,(⟨#[]⟩:ByteArray)⟩:Log_)++s_12.1.drop (((s_12.2.1).toNat)+(((s_12.1.length:Int)).toNat-(s_12.2.1).toNat)))) wz rfl (ae (vI s_12.2.1) wz rfl ?_))))))))
   obtain ⟨_,hr_32,hF⟩:=bind_some hF
   refine Dq kC eG rfl rfl hr_32 wz (ae (.vs (au 2) 6 0 ((s_12.2.1).toNat)) wz rfl (ai (wH_re (v':=(vV (au 2) 6 ((s_12.1.take ((s_12.2.1).toNat)++List.replicate (((s_12.1.length:Int)).toNat-(s_12.2.1).toNat) (⟨(⟨#[]⟩:ByteArray),(⟨#[]⟩:ByteArray),0,0,0,(⟨#[]⟩:ByteArray)⟩:Log_)++s_12.1.drop (((s_12.2.1).toNat)+(((s_12.1.length:Int)).toNat-(s_12.2.1).toNat))).take ((s_12.2.1).toNat)))) 4 rfl (vV_take (qQ hr_32)) (wH_shr 2 ((s_12.2.1).toNat) rfl ?_))))
   obtain rfl:=ah hF
   exact av (nI (.inr rfl) [(vV (au 2) 6 ((s_12.1.take ((s_12.2.1).toNat)++List.replicate (((s_12.1.length:Int)).toNat-(s_12.2.1).toNat) (⟨(⟨#[]⟩:ByteArray),(⟨#[]⟩:ByteArray),0,0,0,(⟨#[]⟩:ByteArray)⟩:Log_)++s_12.1.drop (((s_12.2.1).toNat)+(((s_12.1.length:Int)).toNat-(s_12.2.1).toNat))).take ((s_12.2.1).toNat)))] _ [0,1,2] [au 0,au 1,au 2] ⟨rfl,trivial⟩ (.cons (uQ _) (.nil)) (by kernel_rfl) ⟨(by kernel_rfl),⟨(by kernel_rfl),⟨(by kernel_rfl),trivial⟩⟩⟩ (by decide) (by kernel_rfl))
end Go.Proofs.YtdenjndllgahgaaGreatDoor.Law

