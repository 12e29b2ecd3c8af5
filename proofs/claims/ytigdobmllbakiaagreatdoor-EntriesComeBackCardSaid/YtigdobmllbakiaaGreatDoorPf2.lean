/-
 The machine computes these plain functions (written by a program of ours).
-/
import Derived.Test.YtigdobmllbakiaaGreatDoorFacts
import Derived.Test.YtigdobmllbakiaaGreatDoorDefs
import Derived.Test.YtigdobmllbakiaaGreatDoorPf1
import Derived.Test.YtigdobmllbakiaaGreatDoorShelf
open Go Go.Eng Go.Proofs
namespace Go.Proofs.YtigdobmllbakiaaGreatDoor.Law
set_option maxRecDepth 100000
set_option linter.unusedVariables false
set_option maxHeartbeats 1000000
theorem DT {s_1:ByteArray} {most_2:Int} {r:Int×Bool} (hF:kK s_1 most_2=some r) :
  FnM Tryz.prog 100 [(vS s_1),(vI most_2)] [] (.tup [(vI r.1),(vB r.2)]) []:=by
 refine FnM.of_wH ⟨Tryz.prog,53,[],[]⟩ rfl Tryz.func100 rfl rfl (lb_ rfl) (by kernel_rfl) ?_
 unfold kK at hF
 refine aj (aa (vI 0) (aa (vB false) (af (aj (aa (vS s_1) ?_)))))
 obtain ⟨r_3,hr_4,hF⟩:=bind_some hF
 refine aC (uP hr_4) rfl hb120 rfl rfl rfl rfl wz (aa (vS r_3) (af (au (au ?_))))
 obtain ⟨v_5,h_6,hF⟩:=bind_some hF
 refine aR [(0,(vS s_1)),(6,(vS r_3)),(28,(vB v_5))] [] ?_ ?_
 ·refine av (aa (vS r_3) (aa (vB (sEq r_3 (⟨#[]⟩:ByteArray))) ?_))
  rcases ak h_6 with⟨hc_7,h_6⟩|⟨hc_7,h_6⟩
  ·refine aD rfl hc_7 wz (ah (ah (ah (ah (aa (vB true) (aa (vB true) (ah (ah (ah (ah (bG (wn rfl rfl) (bG (wn rfl rfl) (ah (aa (vB true) (af ?_)))))))))))))))
   obtain rfl:=ae h_6
   exact cu
  ·refine aD rfl hc_7 wz (aJ (vS r_3) wa rfl (nH un9 rfl wa (aJ (vI most_2) wa rfl (aJ (vB (decide ((r_3.size:Int)>most_2))) wa rfl (aa (vB (decide ((r_3.size:Int)>most_2))) ?_)))))
   rcases ak h_6 with⟨hc_8,h_6⟩|⟨hc_8,h_6⟩
   ·refine aD rfl hc_8 wz (ah (ah (ah (ah (bG (wn rfl rfl) (bG (wn rfl rfl) (ah (aa (vB true) (af ?_)))))))))
    obtain rfl:=ae h_6
    exact cu
   ·refine aD rfl hc_8 wz (aJ (vS r_3) wa rfl ?_)
    obtain ⟨b_9,hy_10,h_6⟩:=bind_some h_6
    refine vw un9 rfl rfl hy_10 wa (aJ (vB ((b_9.toNat:Int)==48)) wa rfl ?_)
    rcases ak h_6 with⟨hc_11,h_6⟩|⟨hc_11,h_6⟩
    ·refine aD rfl hc_11 wa (aJ (vS s_1) wa rfl (aJ (vB (sNe s_1 (⟨#[48]⟩:ByteArray))) wa rfl (aJ (vB (sNe s_1 (⟨#[48]⟩:ByteArray))) wa rfl (aa (vB (sNe s_1 (⟨#[48]⟩:ByteArray))) (af ?_)))))
     obtain rfl:=ae h_6
     exact cu
    ·refine aD rfl hc_11 wa (ah (ah (aJ (vB false) wa rfl (aa (vB false) (af ?_)))))
     obtain rfl:=ae h_6
     exact cu
 ·rintro ⟨⟩ _ sl_ H_ hp_ hq_
  refine aQ _ hp_ hq_ ?_
  rcases ak hF with⟨hc_12,hF⟩|⟨hc_12,hF⟩
  ·refine aB rfl hc_12 (aj (aa (vI 0) (aa (vB false) (af ?_))))
   obtain rfl:=ae hF
   exact ay (aK [(vI 0),(vB false)] ⟨rfl,⟨rfl,trivial⟩⟩)
  ·refine aA rfl hc_12 (ax (au (aj (aa (vI 0) (af ?_)))))
   obtain ⟨o_21,hj_22,hF⟩:=bind_some hF
   obtain ⟨nq_34,hj_22⟩:=gu hj_22
   refine jB (λ(s_18:Int)=>[(0,(vS s_1))]) (λ(s_18:Int)=>[]) (λ(k_13:Nat)=>(λ(s_18:Int)=>[(0,(vS s_1)),(6,(vS r_3)),(7,(vI s_18))])) (λs=>dL r_3 s) o_21 nq_34 0 hj_22 rfl (aL rfl) ?_ ?_
   ·rintro ⟨k_13,s_18⟩ hL_20
    dsimp only at hL_20
    cases k_13 with
    | zero=>cases hL_20
    | succ k_13 =>
     obtain ⟨c_,hc_19,hL_20⟩:=bind_some hL_20
     unfold dL at hc_19
     refine au (aj (aa (vI s_18) (aa (vS r_3) (nH un9 rfl wz (aa (vB (decide (s_18<(r_3.size:Int)))) (af ?_))))))
     rcases ak hc_19 with⟨hc_23,hc_19⟩|⟨hc_23,hc_19⟩
     ·refine aB rfl hc_23 (ax (au (aO (au ?_))))
      obtain ⟨v_24,h_25,hc_19⟩:=bind_some hc_19
      refine aR [(0,(vS s_1)),(6,(vS r_3)),(7,(vI s_18)),(44,(vB v_24))] [] ?_ ?_
      ·refine av (aa (vS r_3) (aa (vI s_18) ?_))
       obtain ⟨b_26,hy_27,h_25⟩:=bind_some h_25
       refine vw un9 rfl rfl hy_27 wz (aa (vB (decide ((b_26.toNat:Int)<48))) ?_)
       rcases ak h_25 with⟨hc_28,h_25⟩|⟨hc_28,h_25⟩
       ·refine aD rfl hc_28 wz (ah (ah (ah (ah (aa (vB true) (af ?_))))))
        obtain rfl:=ae h_25
        exact cu
       ·refine aD rfl hc_28 wz (aJ (vS r_3) wa rfl (aJ (vI s_18) wa rfl ?_))
        obtain ⟨b_29,hy_30,h_25⟩:=bind_some h_25
        refine vw un9 rfl rfl hy_30 wa (aJ (vB (decide ((b_29.toNat:Int)>57))) wa rfl (aa (vB (decide ((b_29.toNat:Int)>57))) (af ?_)))
        obtain rfl:=ae h_25
        exact cu
      ·rintro ⟨⟩ _ sl_ H_ hp_ hq_
       refine aQ _ hp_ hq_ ?_
       rcases ak hc_19 with⟨hc_31,hc_19⟩|⟨hc_31,hc_19⟩
       ·refine aB rfl hc_31 (aj (aa (vI 0) (aa (vB false) (af ?_))))
        obtain rfl:=ae hc_19
        obtain rfl:=ae hL_20
        obtain rfl:=ae hF
        exact ay (aK [(vI 0),(vB false)] ⟨rfl,⟨rfl,trivial⟩⟩)
       ·refine aA rfl hc_31 (ax (av (aa (vI s_18) (aa (vI (w64 (s_18+1))) (aa (vI (w64 (s_18+1))) (af ?_))))))
        obtain rfl:=ae hc_19
        exact aY (k_13,(w64 (s_18+1))) hL_20 (ls_ _) rfl (aL rfl)
     ·refine aA rfl hc_23 (bg ?_)
      obtain rfl:=ae hc_19
      obtain rfl:=ae hL_20
      exact aZ (s_18) rfl rfl (aL rfl)
   ·rintro s_18 ho_ sl_ H_ hp_ hq_
    subst ho_
    refine aQ _ hp_ hq_ (aj (aa (vS s_1) ?_))
    obtain ⟨r_32,hr_33,hF⟩:=bind_some hF
    refine aC (strconv_Atoi_ok hr_33) rfl hb121 rfl rfl rfl rfl wz (aa (.tup [(vI r_32),.nili]) (aa (vI r_32) (aa .nili (aa (vI r_32) (aa .nili (af (au (bL (aa (vI r_32) (aa .nili (h_ieq if51 rfl rfl rfl wz (aa (vI r_32) (aa (vB true) (af ?_))))))))))))))
    obtain rfl:=ae hF
    exact ay (aK [(vI r_32),(vB true)] ⟨rfl,⟨rfl,trivial⟩⟩)
theorem FR {s_1:ByteArray} {r:Int×Bool} (hF:nU s_1=some r) :
  FnM Tryz.prog 71 [(vS s_1)] [] (.tup [(vI r.1),(vB r.2)]) []:=by
 refine FnM.of_wH ⟨Tryz.prog,8,[],[]⟩ rfl Tryz.func71 rfl rfl (lb_ rfl) (by kernel_rfl) ?_
 unfold nU at hF
 refine aj (aa (vI 0) (aa (vB false) (af (aj (aa (vS s_1) ?_)))))
 obtain ⟨r_2,hr_3,hF⟩:=bind_some hF
 refine aC (DT hr_3) rfl hb100 rfl rfl rfl rfl wz (aa (vI r_2.1) (aa (vB r_2.2) (aa (vI r_2.1) (aa (vB r_2.2) (af ?_)))))
 obtain rfl:=ae hF
 exact ay (aK [(vI r_2.1),(vB r_2.2)] ⟨rfl,⟨rfl,trivial⟩⟩)
theorem uW {l_1:(List ByteArray)} {r:(List Int)×Bool} (hF:jH l_1=some r) :
  FnM Tryz.prog 42 [(vL eS l_1)] [] (.tup [(vL eI r.1),(vB r.2)]) []:=by
 refine FnM.of_wH ⟨Tryz.prog,28,[],[]⟩ rfl Tryz.func42 rfl rfl (lb_ rfl) (by kernel_rfl) ?_
 unfold jH at hF
 refine aj (aa .nil (aa (vB false) (af (aj (aa .nil (af (au (aj (aa (vL eS l_1) (bI qQ rfl wz (aa (vI 0) (af (lJ (λn_8 => ?_))))))))))))))
 obtain ⟨o_13,hj_14,hF⟩:=bind_some hF
 obtain ⟨hn_6,hj_14⟩:=aX hj_14
 refine fV (σ:=(List Int)) (N:=Nm) (λp=>(λ(s_7:List Int) (n_10:Nm)=>([(4,(gV n_10 1 s_7))]:SL_)) p.1 p.2) (λp=>(λ(s_7:List Int) (n_10:Nm)=>([(n_10,gB 1 eI s_7)]:Hp)) p.1 p.2) (λ(k_2:Nat)=>(λp=>(λ(s_7:List Int) (n_10:Nm)=>([(4,(gV n_10 1 s_7)),(9,(vL eS l_1)),(10,(vI (l_1.length:Int))),(11,(vI (k_2:Int)))]:SL_)) p.1 p.2)) (λk x s=>dG k x s) o_13 l_1 (([]:List Int),n_8) hj_14 rfl (aL rfl) ?_ ?_
 ·rintro ⟨k_2,l_3,s_7,n_10⟩ ⟨hL_12,hD_5⟩
  dsimp only at hL_12 hD_5
  cases l_3 with
  | nil =>
   obtain rfl:=ae hL_12
   refine aj (aa (vB (decide ((k_2:Int)<(l_1.length:Int)))) (af ?_))
   refine au (aA rfl (drop_nil hD_5) (bg ?_))
   exact aZ (s_7,n_10) rfl rfl (aL rfl)
  | cons x_4 l_3 =>
   obtain ⟨c_,hc_11,hL_12⟩:=bind_some hL_12
   refine aj (aa (vB (decide ((k_2:Int)<(l_1.length:Int)))) (af ?_))
   refine au (aB rfl (bz hD_5) (ax ?_))
   unfold dG at hc_11
   refine au (aO (aj (cZ lH rfl rfl (bH hD_5) rfl wz (bC sz9 ag9 rfl (vS x_4) rfl wz (aa (vS x_4) (af (aj (aa (vS x_4) ?_))))))))
   obtain ⟨r_15,hr_16,hc_11⟩:=bind_some hc_11
   refine aC (FR hr_16) rfl hb71 rfl rfl rfl rfl wz (aa (.tup [(vI r_15.1),(vB r_15.2)]) (aa (vI r_15.1) (aa (vB r_15.2) (aa (vI r_15.1) (aa (vB r_15.2) (af (au (aj (aa (vB r_15.2) (aa (vB (!r_15.2)) (af ?_)))))))))))
   rcases ak hc_11 with⟨hc_17,hc_11⟩|⟨hc_17,hc_11⟩
   ·refine aB rfl hc_17 (aj (aa .nil (aa (vB false) (af ?_))))
    obtain rfl:=ae hc_11
    obtain rfl:=ae hL_12
    obtain rfl:=ae hF
    exact ay (aK [.nil,(vB false)] ⟨rfl,⟨rfl,trivial⟩⟩)
   ·refine aA rfl hc_17 (ax (av (aa (gV n_10 1 s_7) (aa (vI r_15.1) (dW (([r_15.1]:List Int).map eI) iQ wX rfl rfl rfl rfl rfl wz ?_)))))
    obtain ⟨a_18,hz_19,hc_11⟩:=bind_some hc_11
    refine jV 0 il ft (i:=0) Jh Jh sz3 z3 rfl (by decide) by3 (by decide) (λ_=>rfl) rfl rfl rfl hz_19 wz (λn_20=>aa (gV n_20 1 a_18) (af (av (eY (bD hD_5 hn_6) wz rfl (aa (vI ((k_2+1:Nat):Int)) (af ?_))))))
    obtain rfl:=ae hc_11
    exact aY (k_2+1,l_3,a_18,n_20) ⟨hL_12,aV hD_5⟩ (ls_ _) rfl (aL rfl)
 ·rintro ⟨s_7,n_10⟩ ho_ sl_ H_ hp_ hq_
  subst ho_
  refine aQ _ hp_ hq_ (aj (aa (gV n_10 1 s_7) (aa (gV n_10 1 s_7) (aa (vB true) (af (gH 0 rfl (fO 2 0 rfl rfl (fO 4 0 rfl rfl (fO 27 0 rfl rfl ?_)))))))))
  obtain rfl:=ae hF
  exact ay (aK [(vL eI s_7),(vB true)] ⟨rfl,⟨rfl,trivial⟩⟩)
theorem ou {s_1:ByteArray} {r:(List ByteArray)×Bool} (hF:cB s_1=some r) :
  FnM Tryz.prog 43 [(vS s_1)] [] (.tup [(vL eS r.1),(vB r.2)]) []:=by
 refine FnM.of_wH ⟨Tryz.prog,13,[],[]⟩ rfl Tryz.func43 rfl rfl (lb_ rfl) (by kernel_rfl) ?_
 unfold cB at hF
 refine aj (aa .nil (aa (vB false) (af (au (aj (aa (vS s_1) (aa (vB (sEq s_1 (⟨#[45]⟩:ByteArray))) (af ?_))))))))
 rcases ak hF with⟨hc_2,hF⟩|⟨hc_2,hF⟩
 ·refine aB rfl hc_2 (aj (aa .nil (aa (vB true) (af ?_))))
  obtain rfl:=ae hF
  exact ay (aK [.nil,(vB true)] ⟨rfl,⟨rfl,trivial⟩⟩)
 ·refine aA rfl hc_2 (ax (aj (aa (vS s_1) ?_)))
  obtain ⟨r_3,hr_4,hF⟩:=bind_some hF
  refine aC (nC hr_4) rfl hb40 rfl rfl rfl rfl wz (aa (vL eS r_3) (af (aj (aa (vL eS r_3) (aa (vL eS r_3) ?_)))))
  obtain ⟨r_5,hr_6,hF⟩:=bind_some hF
  refine aC (iY hr_6) rfl hb70 rfl rfl rfl rfl wz (aa (vB (!r_5)) (aa (vL eS r_3) (aa (vB (!r_5)) (af ?_))))
  obtain rfl:=ae hF
  exact ay (aK [(vL eS r_3),(vB (!r_5))] ⟨rfl,⟨rfl,trivial⟩⟩)
theorem uL {line_1:ByteArray} {r:Entry×Bool} (hF:fu line_1=some r) :
  FnM Tryz.prog 21 [(vS line_1)] [] (.tup [(.d (.agg (Entry.enc r.1))),(vB r.2)]) []:=by
 refine FnM.of_wH ⟨Tryz.prog,116,[],[]⟩ rfl Tryz.func21 rfl rfl (lb_ rfl) (by kernel_rfl) ?_
 unfold fu at hF
 refine aj (dE 0 (.inl rfl) z36 rfl wz (λn_2=>aa (vB false) (af (aj (aa (vS line_1) ?_)))))
 obtain ⟨r_3,hr_4,hF⟩:=bind_some hF
 refine aC (EG hr_4) rfl hb41 rfl rfl rfl rfl wz (aa (.tup [(vL eS r_3.1),(vB r_3.2)]) (aa (vL eS r_3.1) (aa (vB r_3.2) (aa (vL eS r_3.1) (aa (vB r_3.2) (af (au (au ?_))))))))
 obtain ⟨v_5,h_6,hF⟩:=bind_some hF
 refine aR [(2,(.ref n_2 0 0)),(4,(vL eS r_3.1)),(37,(vB v_5))] [(n_2,some (.cells 13 [(vS (⟨#[]⟩:ByteArray)),(vS (⟨#[]⟩:ByteArray)),(vI 0),(vI 0),(vI 0),(vI 0),(vI 0),.nil,(vI 0),(vI 0),(vI 0),.nil,(vB false)]))] ?_ ?_
 ·refine av (aa (vB r_3.2) (aa (vB (!r_3.2)) ?_))
  rcases ak h_6 with⟨hc_7,h_6⟩|⟨hc_7,h_6⟩
  ·refine aD rfl hc_7 wz (ah (ah (ah (aa (vB true) (aa (vB true) (ah (ah (ah (ah (ah (bG (wn rfl rfl) (bG (wn rfl rfl) (bG (wn rfl rfl) (bG (wn rfl rfl) (ah (aa (vB true) (af ?_)))))))))))))))))
   obtain rfl:=ae h_6
   exact cu
  ·refine aD rfl hc_7 wz (aJ (vL eS r_3.1) wa rfl (bI qQ rfl wa (aJ (vB ((r_3.1.length:Int) != 13)) wa rfl (aa (vB ((r_3.1.length:Int) != 13)) ?_))))
   rcases ak h_6 with⟨hc_8,h_6⟩|⟨hc_8,h_6⟩
   ·refine aD rfl hc_8 wz (ah (ah (ah (ah (ah (bG (wn rfl rfl) (bG (wn rfl rfl) (bG (wn rfl rfl) (bG (wn rfl rfl) (ah (aa (vB true) (af ?_))))))))))))
    obtain rfl:=ae h_6
    exact cu
   ·refine aD rfl hc_8 wz (aJ (vL eS r_3.1) wa rfl ?_)
    obtain ⟨y_9,hy_10,h_6⟩:=bind_some h_6
    refine cZ lH rfl rfl hy_10 rfl wa (bC sz9 ag9 rfl (vS y_9) rfl wa (aJ (vB (sNe y_9 (⟨#[111,110]⟩:ByteArray))) wa rfl ?_))
    rcases ak h_6 with⟨hc_11,h_6⟩|⟨hc_11,h_6⟩
    ·refine aD rfl hc_11 wa (aJ (vL eS r_3.1) wa rfl ?_)
     obtain ⟨y_12,hy_13,h_6⟩:=bind_some h_6
     refine cZ lH rfl rfl hy_13 rfl wa (bC sz9 ag9 rfl (vS y_12) rfl wa (aJ (vB (sNe y_12 (⟨#[103,111,110,101]⟩:ByteArray))) wa rfl (aJ (vB (sNe y_12 (⟨#[103,111,110,101]⟩:ByteArray))) wa rfl (aa (vB (sNe y_12 (⟨#[103,111,110,101]⟩:ByteArray))) (af ?_)))))
     obtain rfl:=ae h_6
     exact cu
    ·refine aD rfl hc_11 wa (ah (ah (ah (ah (aJ (vB false) wa rfl (aa (vB false) (af ?_)))))))
     obtain rfl:=ae h_6
     exact cu
 ·rintro ⟨⟩ _ sl_ H_ hp_ hq_
  refine aQ _ hp_ hq_ ?_
  rcases ak hF with⟨hc_14,hF⟩|⟨hc_14,hF⟩
  ·refine aB rfl hc_14 (aj (aJ (.agg [(vS (⟨#[]⟩:ByteArray)),(vS (⟨#[]⟩:ByteArray)),(vI 0),(vI 0),(vI 0),(vI 0),(vI 0),.nil,(vI 0),(vI 0),(vI 0),.nil,(vB false)]) wz (by kernel_rfl) (fo 0 il ft 0 jW rfl rfl [(vS (⟨#[]⟩:ByteArray)),(vS (⟨#[]⟩:ByteArray)),(vI 0),(vI 0),(vI 0),(vI 0),(vI 0),.nil,(vI 0),(vI 0),(vI 0),.nil,(vB false)] rfl wz (aa (vB false) (af ?_)))))
   obtain rfl:=ae hF
   exact ay (aK [(.agg [(vS (⟨#[]⟩:ByteArray)),(vS (⟨#[]⟩:ByteArray)),(vI 0),(vI 0),(vI 0),(vI 0),(vI 0),.nil,(vI 0),(vI 0),(vI 0),.nil,(vB false)]),(vB false)] ⟨⟨0,_,_,_,_,_,_,_,rfl,rfl,jW,ql,rfl⟩,⟨rfl,trivial⟩⟩)
  ·refine aA rfl hc_14 (ax (aj (aa (vL eS r_3.1) ?_)))
   obtain ⟨y_15,hy_16,hF⟩:=bind_some hF
   refine Dq qQ sz9 (λ_=>rfl) rfl rfl rfl hy_16 wz ?_
   obtain ⟨r_17,hr_18,hF⟩:=bind_some hF
   refine aC (uW hr_18) rfl hb42 rfl rfl rfl rfl wz (aa (.tup [(vL eI r_17.1),(vB r_17.2)]) (aa (vL eI r_17.1) (aa (vB r_17.2) (aa (vL eI r_17.1) (aa (vB r_17.2) (af (aj (aa (vL eS r_3.1) ?_))))))))
   obtain ⟨y_19,hy_20,hF⟩:=bind_some hF
   refine cZ lH rfl rfl hy_20 rfl wz (bC sz9 ag9 rfl (vS y_19) rfl wz ?_)
   obtain ⟨r_21,hr_22,hF⟩:=bind_some hF
   refine aC (ou hr_22) rfl hb43 rfl rfl rfl rfl wz (aa (.tup [(vL eS r_21.1),(vB r_21.2)]) (aa (vL eS r_21.1) (aa (vB r_21.2) (aa (vL eS r_21.1) (aa (vB r_21.2) (af (aj (aa (vL eS r_21.1) ?_))))))))
   obtain ⟨r_23,hr_24,hF⟩:=bind_some hF
   refine aC (uW hr_24) rfl hb42 rfl rfl rfl rfl wz (aa (.tup [(vL eI r_23.1),(vB r_23.2)]) (aa (vL eI r_23.1) (aa (vB r_23.2) (aa (vL eI r_23.1) (aa (vB r_23.2) (af (aj (aa (vL eS r_3.1) ?_))))))))
   obtain ⟨y_25,hy_26,hF⟩:=bind_some hF
   refine cZ lH rfl rfl hy_26 rfl wz (bC sz9 ag9 rfl (vS y_25) rfl wz ?_)
   obtain ⟨r_27,hr_28,hF⟩:=bind_some hF
   refine aC (ou hr_28) rfl hb43 rfl rfl rfl rfl wz (aa (.tup [(vL eS r_27.1),(vB r_27.2)]) (aa (vL eS r_27.1) (aa (vB r_27.2) (aa (vL eS r_27.1) (aa (vB r_27.2) (af (aQ (H0:=([(n_2,some (.cells 13 [(vS (⟨#[]⟩:ByteArray)),(vS (⟨#[]⟩:ByteArray)),(vI 0),(vI 0),(vI 0),(vI 0),(vI 0),.nil,(vI 0),(vI 0),(vI 0),.nil,(vB false)]))]:Hp)) ([(2,(.ref n_2 0 0)),(4,(vL eS r_3.1)),(6,(vL eI r_17.1)),(7,(vB r_17.2)),(9,(vB r_21.2)),(10,(vL eI r_23.1)),(11,(vB r_23.2)),(12,(vL eS r_27.1)),(13,(vB r_27.2))]:SL_) (by kernel_rfl) (rE (by kernel_rfl)) (au (au ?_)))))))))
   obtain ⟨v_29,h_30,hF⟩:=bind_some hF
   refine aR [(2,(.ref n_2 0 0)),(4,(vL eS r_3.1)),(6,(vL eI r_17.1)),(10,(vL eI r_23.1)),(12,(vL eS r_27.1)),(77,(vB v_29))] [(n_2,some (.cells 13 [(vS (⟨#[]⟩:ByteArray)),(vS (⟨#[]⟩:ByteArray)),(vI 0),(vI 0),(vI 0),(vI 0),(vI 0),.nil,(vI 0),(vI 0),(vI 0),.nil,(vB false)]))] ?_ ?_
   ·refine av (aa (vB r_17.2) (aa (vB (!r_17.2)) ?_))
    rcases ak h_30 with⟨hc_31,h_30⟩|⟨hc_31,h_30⟩
    ·refine aD rfl hc_31 wz (ah (ah (aa (vB true) (aa (vB true) (ah (ah (aa (vB true) (aa (vB true) (ah (ah (aa (vB true) (af ?_))))))))))))
     obtain rfl:=ae h_30
     exact cu
    ·refine aD rfl hc_31 wz (aJ (vB r_21.2) wa rfl (aJ (vB (!r_21.2)) wa rfl (aa (vB (!r_21.2)) ?_)))
     rcases ak h_30 with⟨hc_32,h_30⟩|⟨hc_32,h_30⟩
     ·refine aD rfl hc_32 wz (ah (ah (aa (vB true) (aa (vB true) (ah (ah (aa (vB true) (af ?_))))))))
      obtain rfl:=ae h_30
      exact cu
     ·refine aD rfl hc_32 wz (aJ (vB r_23.2) wa rfl (aJ (vB (!r_23.2)) wa rfl (aa (vB (!r_23.2)) ?_)))
      rcases ak h_30 with⟨hc_33,h_30⟩|⟨hc_33,h_30⟩
      ·refine aD rfl hc_33 wz (ah (ah (aa (vB true) (af ?_))))
       obtain rfl:=ae h_30
       exact cu
      ·refine aD rfl hc_33 wz (aJ (vB r_27.2) wa rfl (aJ (vB (!r_27.2)) wa rfl (aa (vB (!r_27.2)) (af ?_))))
       obtain rfl:=ae h_30
       exact cu
   ·rintro ⟨⟩ _ sl_ H_ hp_ hq_
    refine aQ _ hp_ hq_ ?_
    rcases ak hF with⟨hc_34,hF⟩|⟨hc_34,hF⟩
    ·refine aB rfl hc_34 (aj (aJ (.agg [(vS (⟨#[]⟩:ByteArray)),(vS (⟨#[]⟩:ByteArray)),(vI 0),(vI 0),(vI 0),(vI 0),(vI 0),.nil,(vI 0),(vI 0),(vI 0),.nil,(vB false)]) wz (by kernel_rfl) (fo 0 il ft 0 jW rfl rfl [(vS (⟨#[]⟩:ByteArray)),(vS (⟨#[]⟩:ByteArray)),(vI 0),(vI 0),(vI 0),(vI 0),(vI 0),.nil,(vI 0),(vI 0),(vI 0),.nil,(vB false)] rfl wz (aa (vB false) (af ?_)))))
     obtain rfl:=ae hF
     exact ay (aK [(.agg [(vS (⟨#[]⟩:ByteArray)),(vS (⟨#[]⟩:ByteArray)),(vI 0),(vI 0),(vI 0),(vI 0),(vI 0),.nil,(vI 0),(vI 0),(vI 0),.nil,(vB false)]),(vB false)] ⟨⟨0,_,_,_,_,_,_,_,rfl,rfl,jW,ql,rfl⟩,⟨rfl,trivial⟩⟩)
    ·refine aA rfl hc_34 (ax (au (bL (aa (vL eS r_3.1) ?_))))
     obtain ⟨y_35,hy_36,hF⟩:=bind_some hF
     refine cZ lH rfl rfl hy_36 rfl wz (bC sz9 ag9 rfl (vS y_35) rfl wz (aa (vL eS r_3.1) ?_))
     obtain ⟨y_37,hy_38,hF⟩:=bind_some hF
     refine cZ lH rfl rfl hy_38 rfl wz (bC sz9 ag9 rfl (vS y_37) rfl wz (aa (vL eI r_17.1) ?_))
     obtain ⟨y_39,hy_40,hF⟩:=bind_some hF
     refine cZ iQ rfl rfl hy_40 rfl wz (bC sz3 ag3 rfl (vI y_39) rfl wz (aa (vL eI r_17.1) ?_))
     obtain ⟨y_41,hy_42,hF⟩:=bind_some hF
     refine cZ iQ rfl rfl hy_42 rfl wz (bC sz3 ag3 rfl (vI y_41) rfl wz (aa (vL eI r_17.1) ?_))
     obtain ⟨y_43,hy_44,hF⟩:=bind_some hF
     refine cZ iQ rfl rfl hy_44 rfl wz (bC sz3 ag3 rfl (vI y_43) rfl wz (aa (vL eI r_17.1) ?_))
     obtain ⟨y_45,hy_46,hF⟩:=bind_some hF
     refine cZ iQ rfl rfl hy_46 rfl wz (bC sz3 ag3 rfl (vI y_45) rfl wz (aa (vL eI r_17.1) ?_))
     obtain ⟨y_47,hy_48,hF⟩:=bind_some hF
     refine cZ iQ rfl rfl hy_48 rfl wz (bC sz3 ag3 rfl (vI y_47) rfl wz (aa (vL eI r_17.1) ?_))
     obtain ⟨y_49,hy_50,hF⟩:=bind_some hF
     refine cZ iQ rfl rfl hy_50 rfl wz (bC sz3 ag3 rfl (vI y_49) rfl wz (aa (vL eI r_17.1) ?_))
     obtain ⟨y_51,hy_52,hF⟩:=bind_some hF
     refine cZ iQ rfl rfl hy_52 rfl wz (bC sz3 ag3 rfl (vI y_51) rfl wz (aa (vL eI r_17.1) ?_))
     obtain ⟨y_53,hy_54,hF⟩:=bind_some hF
     refine cZ iQ rfl rfl hy_54 rfl wz (bC sz3 ag3 rfl (vI y_53) rfl wz (aa (vL eS r_3.1) ?_))
     obtain ⟨y_55,hy_56,hF⟩:=bind_some hF
     refine cZ lH rfl rfl hy_56 rfl wz (bC sz9 ag9 rfl (vS y_55) rfl wz (aa (vB (sEq y_55 (⟨#[103,111,110,101]⟩:ByteArray))) (aa (vL eI r_23.1) (aa (vL eS r_27.1) (aJ (.d (.agg (Entry.enc (⟨y_35,y_37,y_39,y_41,y_43,y_45,y_47,r_23.1,y_49,y_51,y_53,r_27.1,(sEq y_55 (⟨#[103,111,110,101]⟩:ByteArray))⟩:Entry)))) wz (by kernel_rfl) (fo 37 (.inr (by kernel_rfl)) (λ_ _ ag=>trivial) 0 jW rfl rfl [(vS y_35),(vS y_37),(vI y_39),(vI y_41),(vI y_43),(vI y_45),(vI y_47),(vL eI r_23.1),(vI y_49),(vI y_51),(vI y_53),(vL eS r_27.1),(vB (sEq y_55 (⟨#[103,111,110,101]⟩:ByteArray)))] rfl wz (aa (vB true) (af (aQ (H0:=([(n_2,some (.cells 13 [(vS y_35),(vS y_37),(vI y_39),(vI y_41),(vI y_43),(vI y_45),(vI y_47),(vL eI r_23.1),(vI y_49),(vI y_51),(vI y_53),(vL eS r_27.1),(vB (sEq y_55 (⟨#[103,111,110,101]⟩:ByteArray)))]))]:Hp)) ([(2,(.ref n_2 0 0)),(3,(vB true))]:SL_) (by kernel_rfl) (rE (by kernel_rfl)) ?_)))))))))
     obtain rfl:=ae hF
     exact ay (aK [(.d (.agg (Entry.enc (⟨y_35,y_37,y_39,y_41,y_43,y_45,y_47,r_23.1,y_49,y_51,y_53,r_27.1,(sEq y_55 (⟨#[103,111,110,101]⟩:ByteArray))⟩:Entry)))),(vB true)] ⟨⟨0,_,_,_,_,_,_,_,rfl,rfl,jW,ql,rfl⟩,⟨rfl,trivial⟩⟩)
theorem rY {text_1:ByteArray} {r:(List Entry)×Int×Int} (hF:ig text_1=some r) :
  FnM Tryz.prog 6 [(vS text_1)] [] (.tup [(vL Entry.enc r.1),(vI r.2.1),(vI r.2.2)]) []:=by
 refine FnM.of_wH ⟨Tryz.prog,58,[],[]⟩ rfl Tryz.func6 rfl rfl (lb_ rfl) (by kernel_rfl) ?_
 unfold ig at hF
 refine aj (aa .nil (aa (vI 0) (aa (vI 0) (af (au (aj (aa (vS text_1) (nH un9 rfl wz (aa (vB (decide ((text_1.size:Int)>200000))) (af ?_))))))))))
 rcases ak hF with⟨hc_2,hF⟩|⟨hc_2,hF⟩
 ·refine aB rfl hc_2 (aj (aa .nil (aa (vI 0) (aa (vI 2) (af ?_)))))
  obtain rfl:=ae hF
  exact ay (aK [.nil,(vI 0),(vI 2)] ⟨rfl,⟨rfl,⟨rfl,trivial⟩⟩⟩)
 ·refine aA rfl hc_2 (ax (aj (aa (vS text_1) ?_)))
  obtain ⟨r_3,hr_4,hF⟩:=bind_some hF
  refine aC (FT hr_4) rfl hb20 rfl rfl rfl rfl wz (aa (.tup [(vL eS r_3.1),(vB r_3.2)]) (aa (vL eS r_3.1) (aa (vB r_3.2) (aa (vL eS r_3.1) (aa (vB r_3.2) (af (aj (aa .nil (af (au (aj (aa (vL eS r_3.1) (bI qQ rfl wz (aa (vI 0) (af (lJ (λn_11 => ?_)))))))))))))))))
  obtain ⟨o_16,hj_17,hF⟩:=bind_some hF
  obtain ⟨hn_9,hj_17⟩:=aX hj_17
  refine fV (σ:=(List Entry)) (N:=Nm) (λp=>(λ(s_10:List Entry) (n_13:Nm)=>([(7,(gV n_13 13 s_10))]:SL_)) p.1 p.2) (λp=>(λ(s_10:List Entry) (n_13:Nm)=>([(n_13,gB 13 Entry.enc s_10)]:Hp)) p.1 p.2) (λ(k_5:Nat)=>(λp=>(λ(s_10:List Entry) (n_13:Nm)=>([(5,(vL eS r_3.1)),(6,(vB r_3.2)),(7,(gV n_13 13 s_10)),(21,(vL eS r_3.1)),(22,(vI (r_3.1.length:Int))),(23,(vI (k_5:Int)))]:SL_)) p.1 p.2)) (λk x s=>dK r_3 k x s) o_16 r_3.1 (([]:List Entry),n_11) hj_17 rfl (aL rfl) ?_ ?_
  ·rintro ⟨k_5,l_6,s_10,n_13⟩ ⟨hL_15,hD_8⟩
   dsimp only at hL_15 hD_8
   cases l_6 with
   | nil =>
    obtain rfl:=ae hL_15
    refine aj (aa (vB (decide ((k_5:Int)<(r_3.1.length:Int)))) (af ?_))
    refine au (aA rfl (drop_nil hD_8) (bg ?_))
    exact aZ (s_10,n_13) rfl rfl (aL rfl)
   | cons x_7 l_6 =>
    obtain ⟨c_,hc_14,hL_15⟩:=bind_some hL_15
    refine aj (aa (vB (decide ((k_5:Int)<(r_3.1.length:Int)))) (af ?_))
    refine au (aB rfl (bz hD_8) (ax ?_))
    unfold dK at hc_14
    refine au (aO (aj (aa (vI (k_5:Int)) (cZ lH rfl rfl (bH hD_8) rfl wz (bC sz9 ag9 rfl (vS x_7) rfl wz (aa (vI (k_5:Int)) (aa (vS x_7) (af (aj (aa (vS x_7) ?_))))))))))
    obtain ⟨r_18,hr_19,hc_14⟩:=bind_some hc_14
    refine aC (uL hr_19) rfl hb21 rfl rfl rfl rfl wz (aa (.tup [(.d (.agg (Entry.enc r_18.1))),(vB r_18.2)]) (aa (.d (.agg (Entry.enc r_18.1))) (aa (vB r_18.2) (dE 0 (.inl rfl) z36 rfl wz (λn_20=>fo 0 il ft 1 jW rfl rfl (Entry.v r_18.1) rfl wz (aa (vB r_18.2) (af (au (au ?_)))))))))
    obtain ⟨v_21,h_22,hc_14⟩:=bind_some hc_14
    refine aR [(5,(vL eS r_3.1)),(6,(vB r_3.2)),(7,(gV n_13 13 s_10)),(8,(vI (k_5:Int))),(10,(.ref n_20 0 0)),(21,(vL eS r_3.1)),(22,(vI (r_3.1.length:Int))),(23,(vI (k_5:Int))),(45,(vB v_21))] [(n_13,gB 13 Entry.enc s_10),(n_20,some (.cells 13 (Entry.v r_18.1)))] ?_ ?_
    ·refine av (aa (vB r_18.2) (aa (vB (!r_18.2)) ?_))
     rcases ak h_22 with⟨hc_23,h_22⟩|⟨hc_23,h_22⟩
     ·refine aD rfl hc_23 wz (ah (ah (ah (bG (wn rfl rfl) (bG (wn rfl rfl) (bG (wn rfl rfl) (bG (wn rfl rfl) (bG (wn rfl rfl) (ah (aa (vB true) (af ?_)))))))))))
      obtain rfl:=ae h_22
      exact cu
     ·refine aD rfl hc_23 wz (aJ (vB r_3.2) wa rfl (aJ (vB (!r_3.2)) wa rfl ?_))
      rcases ak h_22 with⟨hc_24,h_22⟩|⟨hc_24,h_22⟩
      ·refine aD rfl hc_24 wa (aJ (vI (k_5:Int)) wa rfl (aJ (vL eS r_3.1) wa rfl (bI qQ rfl wa (aJ (vI (w64 ((r_3.1.length:Int)-1))) wa rfl (aJ (vB ((k_5:Int)==(w64 ((r_3.1.length:Int)-1)))) wa rfl (aJ (vB ((k_5:Int)==(w64 ((r_3.1.length:Int)-1)))) wa rfl (aa (vB ((k_5:Int)==(w64 ((r_3.1.length:Int)-1)))) (af ?_))))))))
       obtain rfl:=ae h_22
       exact cu
      ·refine aD rfl hc_24 wa (ah (ah (ah (ah (ah (aJ (vB false) wa rfl (aa (vB false) (af ?_))))))))
       obtain rfl:=ae h_22
       exact cu
    ·rintro ⟨⟩ _ sl_ H_ hp_ hq_
     refine aQ _ hp_ hq_ ?_
     rcases ak hc_14 with⟨hc_25,hc_14⟩|⟨hc_25,hc_14⟩
     ·refine aB rfl hc_25 (aj (aa (vI (k_5:Int)) (aa .nil (aa (vI (k_5:Int)) (aa (vI 9) (af ?_))))))
      obtain rfl:=ae hc_14
      obtain rfl:=ae hL_15
      obtain rfl:=ae hF
      exact ay (aK [.nil,(vI (k_5:Int)),(vI 9)] ⟨rfl,⟨rfl,⟨rfl,trivial⟩⟩⟩)
     ·refine aA rfl hc_25 (ax (av (aa (gV n_13 13 s_10) (aG 0 1 il ft jW ql rfl rfl (.d (.agg (Entry.enc r_18.1))) rfl wz (dW (([r_18.1]:List Entry).map Entry.enc) EI ez26 rfl rfl rfl rfl rfl wz ?_)))))
      obtain ⟨a_26,hz_27,hc_14⟩:=bind_some hc_14
      refine jV 0 il ft (i:=0) el26 el26 jW z36 rfl (by decide) by36 (by decide) (λ_=>rfl) rfl rfl rfl hz_27 wz (λn_28=>aa (gV n_28 13 a_26) (af (av (eY (bD hD_8 hn_9) wz rfl (aa (vI ((k_5+1:Nat):Int)) (af ?_))))))
      obtain rfl:=ae hc_14
      exact aY (k_5+1,l_6,a_26,n_28) ⟨hL_15,aV hD_8⟩ (ls_ _) rfl (aL rfl)
  ·rintro ⟨s_10,n_13⟩ ho_ sl_ H_ hp_ hq_
   subst ho_
   refine aQ _ hp_ hq_ (au (au (gH 0 rfl (fO 7 0 rfl rfl (av (aa (vL Entry.enc s_10) ?_))))))
   obtain ⟨r_29,hr_30,hF⟩:=bind_some hF
   refine aC (jh hr_30) rfl hb15 rfl rfl rfl rfl wz (aa (vI r_29) (af (aj (aa (vI r_29) (aa (vB (r_29 != 0)) (af ?_))))))
   rcases ak hF with⟨hc_31,hF⟩|⟨hc_31,hF⟩
   ·refine aB rfl hc_31 (aj (aa (vI r_29) (aa .nil (aa (vI 0) (aa (vI r_29) (af ?_))))))
    obtain rfl:=ae hF
    exact ay (aK [.nil,(vI 0),(vI r_29)] ⟨rfl,⟨rfl,⟨rfl,trivial⟩⟩⟩)
   ·refine aA rfl hc_31 (ax (aj (aa (vL Entry.enc s_10) (aa (vL Entry.enc s_10) (aa (vI 0) (aa (vI 0) (af ?_)))))))
    obtain rfl:=ae hF
    exact ay (aK [(vL Entry.enc s_10),(vI 0),(vI 0)] ⟨rfl,⟨rfl,⟨rfl,trivial⟩⟩⟩)
theorem BG {l_1:(List Int)} {r:ByteArray} (hF:oG l_1=some r) :
  FnM Tryz.prog 44 [(vL eI l_1)] [] (vS r) []:=by
 refine FnM.of_wH ⟨Tryz.prog,20,[],[]⟩ rfl Tryz.func44 rfl rfl (lb_ rfl) (by kernel_rfl) ?_
 unfold oG at hF
 refine aj (aa (vS (⟨#[]⟩:ByteArray)) (af (aj (aa .nil (af (au (aj (aa (vL eI l_1) (bI pV rfl wz (aa (vI 0) (af (lJ (λn_8 => ?_)))))))))))))
 obtain ⟨o_13,hj_14,hF⟩:=bind_some hF
 obtain ⟨hn_6,hj_14⟩:=aX hj_14
 refine fV (σ:=(List ByteArray)) (N:=Nm) (λp=>(λ(s_7:List ByteArray) (n_10:Nm)=>([(3,(gV n_10 1 s_7))]:SL_)) p.1 p.2) (λp=>(λ(s_7:List ByteArray) (n_10:Nm)=>([(n_10,gB 1 eS s_7)]:Hp)) p.1 p.2) (λ(k_2:Nat)=>(λp=>(λ(s_7:List ByteArray) (n_10:Nm)=>([(3,(gV n_10 1 s_7)),(6,(vL eI l_1)),(7,(vI (l_1.length:Int))),(8,(vI (k_2:Int)))]:SL_)) p.1 p.2)) (λk x s=>jw k x s) o_13 l_1 (([]:List ByteArray),n_8) hj_14 rfl (aL rfl) ?_ ?_
 ·rintro ⟨k_2,l_3,s_7,n_10⟩ ⟨hL_12,hD_5⟩
  dsimp only at hL_12 hD_5
  cases l_3 with
  | nil =>
   obtain rfl:=ae hL_12
   refine aj (aa (vB (decide ((k_2:Int)<(l_1.length:Int)))) (af ?_))
   refine au (aA rfl (drop_nil hD_5) (bg ?_))
   exact aZ (s_7,n_10) rfl rfl (aL rfl)
  | cons x_4 l_3 =>
   obtain ⟨c_,hc_11,hL_12⟩:=bind_some hL_12
   refine aj (aa (vB (decide ((k_2:Int)<(l_1.length:Int)))) (af ?_))
   refine au (aB rfl (bz hD_5) (ax ?_))
   unfold jw at hc_11
   refine au (aO (aj (cZ iQ rfl rfl (bH hD_5) rfl wz (bC sz3 ag3 rfl (vI x_4) rfl wz (aa (vI x_4) (af (av (aa (gV n_10 1 s_7) (aa (vI x_4) ?_)))))))))
   obtain ⟨r_15,hr_16,hc_11⟩:=bind_some hc_11
   refine aC (lX hr_16) rfl hb37 rfl rfl rfl rfl wz (dW (([r_15]:List ByteArray).map eS) lH zC rfl rfl rfl rfl rfl wz ?_)
   obtain ⟨a_17,hz_18,hc_11⟩:=bind_some hc_11
   refine jV 0 il ft (i:=0) Bb Bb sz9 z9 rfl (by decide) by9 (by decide) (λ_=>rfl) rfl rfl rfl hz_18 wz (λn_19=>aa (gV n_19 1 a_17) (af (av (eY (bD hD_5 hn_6) wz rfl (aa (vI ((k_2+1:Nat):Int)) (af ?_))))))
   obtain rfl:=ae hc_11
   exact aY (k_2+1,l_3,a_17,n_19) ⟨hL_12,aV hD_5⟩ (ls_ _) rfl (aL rfl)
 ·rintro ⟨s_7,n_10⟩ ho_ sl_ H_ hp_ hq_
  subst ho_
  refine aQ _ hp_ hq_ (au (gH 0 rfl (fO 3 0 rfl rfl (av (aa (vL eS s_7) ?_)))))
  obtain ⟨r_20,hr_21,hF⟩:=bind_some hF
  refine aC (jN hr_21) rfl Np rfl rfl rfl rfl wz (aa (vS r_20) (af ?_))
  obtain rfl:=ae hF
  exact ay (aK [(vS r_20)] ⟨rfl,trivial⟩)
theorem xA {l_1:(List ByteArray)} {r:ByteArray} (hF:qh l_1=some r) :
  FnM Tryz.prog 45 [(vL eS l_1)] [] (vS r) []:=by
 refine FnM.of_wH ⟨Tryz.prog,8,[],[]⟩ rfl Tryz.func45 rfl rfl (lb_ rfl) (by kernel_rfl) ?_
 unfold qh at hF
 refine aj (aa (vS (⟨#[]⟩:ByteArray)) (af (au (aj (aa (vL eS l_1) (bI qQ rfl wz (aa (vB ((l_1.length:Int)==0)) (af ?_))))))))
 rcases ak hF with⟨hc_2,hF⟩|⟨hc_2,hF⟩
 ·refine aB rfl hc_2 (aj (aa (vS (⟨#[45]⟩:ByteArray)) (af ?_)))
  obtain rfl:=ae hF
  exact ay (aK [(vS (⟨#[45]⟩:ByteArray))] ⟨rfl,trivial⟩)
 ·refine aA rfl hc_2 (ax (aj (aa (vL eS l_1) ?_)))
  obtain ⟨r_3,hr_4,hF⟩:=bind_some hF
  refine aC (jN hr_4) rfl Np rfl rfl rfl rfl wz (aa (vS r_3) (af ?_))
  obtain rfl:=ae hF
  exact ay (aK [(vS r_3)] ⟨rfl,trivial⟩)
theorem nW {e_1:Entry} {r:ByteArray} (hF:fG e_1=some r) :
  FnM Tryz.prog 22 [(.d (.agg (Entry.enc e_1)))] [] (vS r) []:=by
 refine FnM.of_wH ⟨Tryz.prog,52,[],[]⟩ rfl Tryz.func22 rfl rfl (lb_ rfl) (by kernel_rfl) ?_
 unfold fG at hF
 refine aj (ik 0 (.inl rfl) (Entry.v e_1) rfl rfl wz (λn_2=>aa (vS (⟨#[]⟩:ByteArray)) (af (aj (aa .nil (af (au (aj (aI rO rfl 7 rfl wz (aG 0 0 il ft yu Cb rfl rfl (vL eI e_1.Except) rfl wz (bI pV rfl wz (aa (vI 0) (af (lJ (λn_9 => ?_)))))))))))))))
 obtain ⟨o_14,hj_15,hF⟩:=bind_some hF
 obtain ⟨hn_7,hj_15⟩:=aX hj_15
 refine fV (σ:=(List ByteArray)) (N:=Nm) (λp=>(λ(s_8:List ByteArray) (n_11:Nm)=>([(1,(.ref n_2 0 0)),(3,(gV n_11 1 s_8))]:SL_)) p.1 p.2) (λp=>(λ(s_8:List ByteArray) (n_11:Nm)=>([(n_2,some (.cells 13 (Entry.v e_1))),(n_11,gB 1 eS s_8)]:Hp)) p.1 p.2) (λ(k_3:Nat)=>(λp=>(λ(s_8:List ByteArray) (n_11:Nm)=>([(1,(.ref n_2 0 0)),(3,(gV n_11 1 s_8)),(8,(vL eI e_1.Except)),(9,(vI (e_1.Except.length:Int))),(10,(vI (k_3:Int)))]:SL_)) p.1 p.2)) (λk x s=>kY k x s) o_14 e_1.Except (([]:List ByteArray),n_9) hj_15 rfl (aL rfl) ?_ ?_
 ·rintro ⟨k_3,l_4,s_8,n_11⟩ ⟨hL_13,hD_6⟩
  dsimp only at hL_13 hD_6
  cases l_4 with
  | nil =>
   obtain rfl:=ae hL_13
   refine aj (aa (vB (decide ((k_3:Int)<(e_1.Except.length:Int)))) (af ?_))
   refine au (aA rfl (drop_nil hD_6) (bg ?_))
   exact aZ (s_8,n_11) rfl rfl (aL rfl)
  | cons x_5 l_4 =>
   obtain ⟨c_,hc_12,hL_13⟩:=bind_some hL_13
   refine aj (aa (vB (decide ((k_3:Int)<(e_1.Except.length:Int)))) (af ?_))
   refine au (aB rfl (bz hD_6) (ax ?_))
   unfold kY at hc_12
   refine au (aO (aj (cZ iQ rfl rfl (bH hD_6) rfl wz (bC sz3 ag3 rfl (vI x_5) rfl wz (aa (vI x_5) (af (av (aa (gV n_11 1 s_8) (aa (vI x_5) ?_)))))))))
   obtain ⟨r_16,hr_17,hc_12⟩:=bind_some hc_12
   refine aC (lX hr_17) rfl hb37 rfl rfl rfl rfl wz (dW (([r_16]:List ByteArray).map eS) lH zC rfl rfl rfl rfl rfl wz ?_)
   obtain ⟨a_18,hz_19,hc_12⟩:=bind_some hc_12
   refine jV 0 il ft (i:=1) Bb Bb sz9 z9 rfl (by decide) by9 (by decide) (λ_=>rfl) rfl rfl rfl hz_19 wz (λn_20=>aa (gV n_20 1 a_18) (af (av (eY (bD hD_6 hn_7) wz rfl (aa (vI ((k_3+1:Nat):Int)) (af ?_))))))
   obtain rfl:=ae hc_12
   exact aY (k_3+1,l_4,a_18,n_20) ⟨hL_13,aV hD_6⟩ (ls_ _) rfl (aL rfl)
 ·rintro ⟨s_8,n_11⟩ ho_ sl_ H_ hp_ hq_
  subst ho_
  refine aQ _ hp_ hq_ (aj (aa (vS (⟨#[111,110]⟩:ByteArray)) (af (au (aj (aI Fe rfl 12 rfl wz (aG 0 0 il ft sz4 ag4 rfl rfl (vB e_1.Gone) rfl wz (af ?_))))))))
  obtain ⟨v_21,h_22,hF⟩:=bind_some hF
  refine aR [(1,(.ref n_2 0 0)),(3,(gV n_11 1 s_8)),(6,(vS v_21))] [(n_2,some (.cells 13 (Entry.v e_1))),(n_11,gB 1 eS s_8)] ?_ ?_
  ·rcases ak h_22 with⟨hc_23,h_22⟩|⟨hc_23,h_22⟩
   ·refine aB rfl hc_23 (av (aa (vS (⟨#[103,111,110,101]⟩:ByteArray)) (af ?_)))
    obtain rfl:=ae h_22
    exact cu
   ·refine aA rfl hc_23 (ax ?_)
    obtain rfl:=ae h_22
    exact cu
  ·rintro ⟨⟩ _ sl_ H_ hp_ hq_
   refine aQ _ hp_ hq_ (au (gH 1 rfl (fO 3 1 rfl rfl (bL (aI Dn rfl 0 rfl wz (aG 1 0 (.inr (by kernel_rfl)) (λ_ _ ag=>trivial) sz9 ag9 rfl rfl (vS e_1.Key) rfl wz (aI JJ rfl 1 rfl wz (aG 3 0 (.inr (by kernel_rfl)) (λ_ _ ag=>⟨.inl ⟨rfl,rfl⟩,trivial⟩) sz9 ag9 rfl rfl (vS e_1.Item) rfl wz (aI Jy rfl 2 rfl wz (aG 5 0 (.inr (by kernel_rfl)) (λ_ _ ag=>⟨.inl ⟨rfl,rfl⟩,⟨.inl ⟨rfl,rfl⟩,trivial⟩⟩) sz3 ag3 rfl rfl (vI e_1.Version) rfl wz (aI xM rfl 3 rfl wz (aG 7 0 (.inr (by kernel_rfl)) (λ_ _ ag=>⟨.inl ⟨rfl,rfl⟩,⟨.inl ⟨rfl,rfl⟩,⟨.inl ⟨rfl,rfl⟩,trivial⟩⟩⟩) sz3 ag3 rfl rfl (vI e_1.First) rfl wz (aI xY rfl 4 rfl wz (aG 9 0 (.inr (by kernel_rfl)) (λ_ _ ag=>⟨.inl ⟨rfl,rfl⟩,⟨.inl ⟨rfl,rfl⟩,⟨.inl ⟨rfl,rfl⟩,⟨.inl ⟨rfl,rfl⟩,trivial⟩⟩⟩⟩) sz3 ag3 rfl rfl (vI e_1.Last) rfl wz (aI Fs rfl 5 rfl wz (aG 11 0 (.inr (by kernel_rfl)) (λ_ _ ag=>⟨.inl ⟨rfl,rfl⟩,⟨.inl ⟨rfl,rfl⟩,⟨.inl ⟨rfl,rfl⟩,⟨.inl ⟨rfl,rfl⟩,⟨.inl ⟨rfl,rfl⟩,trivial⟩⟩⟩⟩⟩) sz3 ag3 rfl rfl (vI e_1.Every) rfl wz (aI FN rfl 6 rfl wz (aG 13 0 (.inr (by kernel_rfl)) (λ_ _ ag=>⟨.inl ⟨rfl,rfl⟩,⟨.inl ⟨rfl,rfl⟩,⟨.inl ⟨rfl,rfl⟩,⟨.inl ⟨rfl,rfl⟩,⟨.inl ⟨rfl,rfl⟩,⟨.inl ⟨rfl,rfl⟩,trivial⟩⟩⟩⟩⟩⟩) sz3 ag3 rfl rfl (vI e_1.Days) rfl wz (aI CL rfl 8 rfl wz (aG 15 0 (.inr (by kernel_rfl)) (λ_ _ ag=>⟨.inl ⟨rfl,rfl⟩,⟨.inl ⟨rfl,rfl⟩,⟨.inl ⟨rfl,rfl⟩,⟨.inl ⟨rfl,rfl⟩,⟨.inl ⟨rfl,rfl⟩,⟨.inl ⟨rfl,rfl⟩,⟨.inl ⟨rfl,rfl⟩,trivial⟩⟩⟩⟩⟩⟩⟩) sz3 ag3 rfl rfl (vI e_1.From) rfl wz (aI Fb rfl 9 rfl wz (aG 17 0 (.inr (by kernel_rfl)) (λ_ _ ag=>⟨.inl ⟨rfl,rfl⟩,⟨.inl ⟨rfl,rfl⟩,⟨.inl ⟨rfl,rfl⟩,⟨.inl ⟨rfl,rfl⟩,⟨.inl ⟨rfl,rfl⟩,⟨.inl ⟨rfl,rfl⟩,⟨.inl ⟨rfl,rfl⟩,⟨.inl ⟨rfl,rfl⟩,trivial⟩⟩⟩⟩⟩⟩⟩⟩) sz3 ag3 rfl rfl (vI e_1.To) rfl wz (aI E8 rfl 10 rfl wz ?_)))))))))))))))))))))))
   refine aG 19 0 (.inr (by kernel_rfl)) (λ_ _ ag=>⟨.inl ⟨rfl,rfl⟩,⟨.inl ⟨rfl,rfl⟩,⟨.inl ⟨rfl,rfl⟩,⟨.inl ⟨rfl,rfl⟩,⟨.inl ⟨rfl,rfl⟩,⟨.inl ⟨rfl,rfl⟩,⟨.inl ⟨rfl,rfl⟩,⟨.inl ⟨rfl,rfl⟩,⟨.inl ⟨rfl,rfl⟩,trivial⟩⟩⟩⟩⟩⟩⟩⟩⟩) sz3 ag3 rfl rfl (vI e_1.Prio) rfl wz (dW (([e_1.Version,e_1.First,e_1.Last,e_1.Every,e_1.Days,e_1.From,e_1.To,e_1.Prio]:List Int).map eI) iQ wX rfl rfl rfl rfl rfl wz ?_)
   obtain ⟨r_24,hr_25,hF⟩:=bind_some hF
   refine aC (BG hr_25) rfl hb44 rfl rfl rfl rfl wz (aa (vS v_21) (aa (vL eS s_8) ?_))
   obtain ⟨r_26,hr_27,hF⟩:=bind_some hF
   refine aC (xA hr_27) rfl hb45 rfl rfl rfl rfl wz (aI pW rfl 11 rfl wz (aG 26 0 (.inr (by kernel_rfl)) (λ_ _ ag=>⟨.inl ⟨rfl,rfl⟩,⟨.inl ⟨rfl,rfl⟩,⟨.inl ⟨rfl,rfl⟩,⟨.inl ⟨rfl,rfl⟩,⟨.inl ⟨rfl,rfl⟩,⟨.inl ⟨rfl,rfl⟩,⟨.inl ⟨rfl,rfl⟩,⟨.inl ⟨rfl,rfl⟩,⟨.inl ⟨rfl,rfl⟩,⟨.inl ⟨rfl,rfl⟩,trivial⟩⟩⟩⟩⟩⟩⟩⟩⟩⟩) yZ Cs rfl rfl (vL eS e_1.Tags) rfl wz ?_))
   obtain ⟨r_28,hr_29,hF⟩:=bind_some hF
   refine aC (xA hr_29) rfl hb45 rfl rfl rfl rfl wz (dW (([e_1.Key,e_1.Item,r_24,v_21,r_26,r_28]:List ByteArray).map eS) lH zC rfl rfl rfl rfl rfl wz ?_)
   obtain ⟨r_30,hr_31,hF⟩:=bind_some hF
   refine aC (jN hr_31) rfl Np rfl rfl rfl rfl wz (aa (vS r_30) (af (aQ (H0:=([(n_2,some (.cells 13 (Entry.v e_1))),(n_11,gF 1 eS s_8)]:Hp)) ([(2,(vS r_30))]:SL_) (by kernel_rfl) (rE (by kernel_rfl)) ?_)))
   obtain rfl:=ae hF
   exact ay (aK [(vS r_30)] ⟨rfl,trivial⟩)
theorem si {s1_1:(List Int)} {s2_2:(List Int)} {r:Bool} (hF:gJ s1_1 s2_2=some r) :
  FnM Tryz.prog 23 [(vL eI s1_1),(vL eI s2_2)] [] (vB r) []:=by
 refine FnM.of_wH ⟨Tryz.prog,26,[],[]⟩ rfl Tryz.func23 rfl rfl (lb_ rfl) (by kernel_rfl) ?_
 unfold gJ at hF
 refine aj (aa (vB false) (af (au (aj (aa (vL eI s1_1) (bI pV rfl wz (aa (vL eI s2_2) (bI pV rfl wz (aa (vB ((s1_1.length:Int) != (s2_2.length:Int))) (af ?_))))))))))
 rcases ak hF with⟨hc_3,hF⟩|⟨hc_3,hF⟩
 ·refine aB rfl hc_3 (aj (aa (vB false) (af ?_)))
  obtain rfl:=ae hF
  exact ay (aK [(vB false)] ⟨rfl,trivial⟩)
 ·refine aA rfl hc_3 (ax (au (aj (aa (vL eI s1_1) (bI pV rfl wz (aa (vI 0) (af ?_)))))))
  obtain ⟨o_12,hj_13,hF⟩:=bind_some hF
  obtain ⟨hn_8,hj_13⟩:=aX hj_13
  refine di (λ(s_9:Unit)=>[]) (λ(s_9:Unit)=>[]) (λ(k_4:Nat)=>(λ(s_9:Unit)=>[(0,(vL eI s1_1)),(1,(vL eI s2_2)),(12,(vI (s1_1.length:Int))),(13,(vI (k_4:Int)))])) (λk x s=>dR s2_2 k x s) o_12 s1_1 () hj_13 rfl (aL rfl) ?_ ?_
  ·rintro ⟨k_4,l_5,s_9⟩ ⟨hL_11,hD_7⟩
   dsimp only at hL_11 hD_7
   cases l_5 with
   | nil =>
    obtain rfl:=ae hL_11
    refine aj (aa (vB (decide ((k_4:Int)<(s1_1.length:Int)))) (af ?_))
    refine au (aA rfl (drop_nil hD_7) (bg ?_))
    exact aZ (s_9) rfl rfl (aL rfl)
   | cons x_6 l_5 =>
    obtain ⟨c_,hc_10,hL_11⟩:=bind_some hL_11
    refine aj (aa (vB (decide ((k_4:Int)<(s1_1.length:Int)))) (af ?_))
    refine au (aB rfl (bz hD_7) (ax ?_))
    unfold dR at hc_10
    refine au (aO (aj (aa (vI (k_4:Int)) (aa (vI (k_4:Int)) (af (au (bL (aa (vL eI s1_1) (aa (vI (k_4:Int)) (cZ iQ rfl rfl (bH hD_7) rfl wz (bC sz3 ag3 rfl (vI x_6) rfl wz (aa (vL eI s2_2) (aa (vI (k_4:Int)) ?_)))))))))))))
    obtain ⟨y_14,hy_15,hc_10⟩:=bind_some hc_10
    refine cZ iQ rfl rfl hy_15 rfl wz (bC sz3 ag3 rfl (vI y_14) rfl wz (aa (vB (x_6 != y_14)) (af ?_)))
    rcases ak hc_10 with⟨hc_16,hc_10⟩|⟨hc_16,hc_10⟩
    ·refine aB rfl hc_16 (aj (aa (vB false) (af ?_)))
     obtain rfl:=ae hc_10
     obtain rfl:=ae hL_11
     obtain rfl:=ae hF
     exact ay (aK [(vB false)] ⟨rfl,trivial⟩)
    ·refine aA rfl hc_16 (ax (av (eY (bD hD_7 hn_8) wz rfl (aa (vI ((k_4+1:Nat):Int)) (af ?_)))))
     obtain rfl:=ae hc_10
     exact aY (k_4+1,l_5,()) ⟨hL_11,aV hD_7⟩ (ls_ _) rfl (aL rfl)
  ·rintro s_9 ho_ sl_ H_ hp_ hq_
   subst ho_
   refine aQ _ hp_ hq_ (aj (aa (vB true) (af ?_)))
   obtain rfl:=ae hF
   exact ay (aK [(vB true)] ⟨rfl,trivial⟩)
theorem oz {s1_1:(List ByteArray)} {s2_2:(List ByteArray)} {r:Bool} (hF:dX s1_1 s2_2=some r) :
  FnM Tryz.prog 24 [(vL eS s1_1),(vL eS s2_2)] [] (vB r) []:=by
 refine FnM.of_wH ⟨Tryz.prog,26,[],[]⟩ rfl Tryz.func24 rfl rfl (lb_ rfl) (by kernel_rfl) ?_
 unfold dX at hF
 refine aj (aa (vB false) (af (au (aj (aa (vL eS s1_1) (bI qQ rfl wz (aa (vL eS s2_2) (bI qQ rfl wz (aa (vB ((s1_1.length:Int) != (s2_2.length:Int))) (af ?_))))))))))
 rcases ak hF with⟨hc_3,hF⟩|⟨hc_3,hF⟩
 ·refine aB rfl hc_3 (aj (aa (vB false) (af ?_)))
  obtain rfl:=ae hF
  exact ay (aK [(vB false)] ⟨rfl,trivial⟩)
 ·refine aA rfl hc_3 (ax (au (aj (aa (vL eS s1_1) (bI qQ rfl wz (aa (vI 0) (af ?_)))))))
  obtain ⟨o_12,hj_13,hF⟩:=bind_some hF
  obtain ⟨hn_8,hj_13⟩:=aX hj_13
  refine di (λ(s_9:Unit)=>[]) (λ(s_9:Unit)=>[]) (λ(k_4:Nat)=>(λ(s_9:Unit)=>[(0,(vL eS s1_1)),(1,(vL eS s2_2)),(12,(vI (s1_1.length:Int))),(13,(vI (k_4:Int)))])) (λk x s=>cO s2_2 k x s) o_12 s1_1 () hj_13 rfl (aL rfl) ?_ ?_
  ·rintro ⟨k_4,l_5,s_9⟩ ⟨hL_11,hD_7⟩
   dsimp only at hL_11 hD_7
   cases l_5 with
   | nil =>
    obtain rfl:=ae hL_11
    refine aj (aa (vB (decide ((k_4:Int)<(s1_1.length:Int)))) (af ?_))
    refine au (aA rfl (drop_nil hD_7) (bg ?_))
    exact aZ (s_9) rfl rfl (aL rfl)
   | cons x_6 l_5 =>
    obtain ⟨c_,hc_10,hL_11⟩:=bind_some hL_11
    refine aj (aa (vB (decide ((k_4:Int)<(s1_1.length:Int)))) (af ?_))
    refine au (aB rfl (bz hD_7) (ax ?_))
    unfold cO at hc_10
    refine au (aO (aj (aa (vI (k_4:Int)) (aa (vI (k_4:Int)) (af (au (bL (aa (vL eS s1_1) (aa (vI (k_4:Int)) (cZ lH rfl rfl (bH hD_7) rfl wz (bC sz9 ag9 rfl (vS x_6) rfl wz (aa (vL eS s2_2) (aa (vI (k_4:Int)) ?_)))))))))))))
    obtain ⟨y_14,hy_15,hc_10⟩:=bind_some hc_10
    refine cZ lH rfl rfl hy_15 rfl wz (bC sz9 ag9 rfl (vS y_14) rfl wz (aa (vB (sNe x_6 y_14)) (af ?_)))
    rcases ak hc_10 with⟨hc_16,hc_10⟩|⟨hc_16,hc_10⟩
    ·refine aB rfl hc_16 (aj (aa (vB false) (af ?_)))
     obtain rfl:=ae hc_10
     obtain rfl:=ae hL_11
     obtain rfl:=ae hF
     exact ay (aK [(vB false)] ⟨rfl,trivial⟩)
    ·refine aA rfl hc_16 (ax (av (eY (bD hD_7 hn_8) wz rfl (aa (vI ((k_4+1:Nat):Int)) (af ?_)))))
     obtain rfl:=ae hc_10
     exact aY (k_4+1,l_5,()) ⟨hL_11,aV hD_7⟩ (ls_ _) rfl (aL rfl)
  ·rintro s_9 ho_ sl_ H_ hp_ hq_
   subst ho_
   refine aQ _ hp_ hq_ (aj (aa (vB true) (af ?_)))
   obtain rfl:=ae hF
   exact ay (aK [(vB true)] ⟨rfl,trivial⟩)
theorem zZ {a_1:Entry} {b_2:Entry} {r:Bool} (hF:iq a_1 b_2=some r) :
  FnM Tryz.prog 8 [(.d (.agg (Entry.enc a_1))),(.d (.agg (Entry.enc b_2)))] [] (vB r) []:=by
 refine FnM.of_wH ⟨Tryz.prog,32,[],[]⟩ rfl Tryz.func8 rfl rfl (lb_ rfl) (by kernel_rfl) ?_
 unfold iq at hF
 refine aj (ik 0 (.inl rfl) (Entry.v a_1) rfl rfl wz (λn_3=>ik 0 (.inl rfl) (Entry.v b_2) rfl rfl wz (λn_4=>aa (vB false) (af (au (bL (aG 0 0 (.inr (by kernel_rfl)) (λ_ _ ag=>trivial) jW ql rfl rfl (.d (.agg (Entry.enc a_1))) rfl wz (aG 1 1 (.inr (by kernel_rfl)) (λ_ _ ag=>⟨.inl ⟨rfl,rfl⟩,trivial⟩) jW ql rfl rfl (.d (.agg (Entry.enc b_2))) rfl wz (dE 2 (.inr (by kernel_rfl)) z36 rfl wz (λn_5=>dE 3 (.inr (by kernel_rfl)) z36 rfl wz (λn_6=>fo 4 (.inr (by kernel_rfl)) (λ_ _ ag=>⟨.inr (.inr (by kernel_rfl)),⟨.inr (.inl (dis1 (NB ag (i:=2) (j:=1) rfl rfl (by decide)))),⟨.inr (.inr (by kernel_rfl)),⟨.inr (.inr (by kernel_rfl)),trivial⟩⟩⟩⟩) 2 jW rfl rfl (Entry.v a_1) rfl wz (fo 5 (.inr (by kernel_rfl)) (λ_ _ ag=>⟨.inr (.inr (by kernel_rfl)),⟨.inr (.inr (by kernel_rfl)),⟨.inr (.inr (by kernel_rfl)),⟨.inr (.inr (by kernel_rfl)),⟨.inr (.inr (by kernel_rfl)),trivial⟩⟩⟩⟩⟩) 3 jW rfl rfl (Entry.v b_2) rfl wz (af (aj (aI rO rfl 7 rfl wz (fo 0 il ft 2 yu rfl rfl [(vS a_1.Key),(vS a_1.Item),(vI a_1.Version),(vI a_1.First),(vI a_1.Last),(vI a_1.Every),(vI a_1.Days),.nil,(vI a_1.From),(vI a_1.To),(vI a_1.Prio),(vL eS a_1.Tags),(vB a_1.Gone)] rfl wz (aI pW rfl 11 rfl wz (fo 0 il ft 2 yZ rfl rfl [(vS a_1.Key),(vS a_1.Item),(vI a_1.Version),(vI a_1.First),(vI a_1.Last),(vI a_1.Every),(vI a_1.Days),.nil,(vI a_1.From),(vI a_1.To),(vI a_1.Prio),.nil,(vB a_1.Gone)] rfl wz (aI rO rfl 7 rfl wz (fo 0 il ft 3 yu rfl rfl [(vS b_2.Key),(vS b_2.Item),(vI b_2.Version),(vI b_2.First),(vI b_2.Last),(vI b_2.Every),(vI b_2.Days),.nil,(vI b_2.From),(vI b_2.To),(vI b_2.Prio),(vL eS b_2.Tags),(vB b_2.Gone)] rfl wz (aI pW rfl 11 rfl wz (fo 0 il ft 3 yZ rfl rfl [(vS b_2.Key),(vS b_2.Item),(vI b_2.Version),(vI b_2.First),(vI b_2.Last),(vI b_2.Every),(vI b_2.Days),.nil,(vI b_2.From),(vI b_2.To),(vI b_2.Prio),.nil,(vB b_2.Gone)] rfl wz (af ?_)))))))))))))))))))))))
 refine au ?_
 obtain ⟨v_7,h_8,hF⟩:=bind_some hF
 refine aR [(4,(vB v_7))] [(n_3,some (.cells 13 (Entry.v a_1))),(n_4,some (.cells 13 (Entry.v b_2))),(n_5,some (.cells 13 [(vS a_1.Key),(vS a_1.Item),(vI a_1.Version),(vI a_1.First),(vI a_1.Last),(vI a_1.Every),(vI a_1.Days),.nil,(vI a_1.From),(vI a_1.To),(vI a_1.Prio),.nil,(vB a_1.Gone)])),(n_6,some (.cells 13 [(vS b_2.Key),(vS b_2.Item),(vI b_2.Version),(vI b_2.First),(vI b_2.Last),(vI b_2.Every),(vI b_2.Days),.nil,(vI b_2.From),(vI b_2.To),(vI b_2.Prio),.nil,(vB b_2.Gone)]))] ?_ ?_
 ·refine bL (aG 0 2 (.inr (by kernel_rfl)) (λ_ _ ag=>trivial) jW ql rfl rfl (.agg [(vS a_1.Key),(vS a_1.Item),(vI a_1.Version),(vI a_1.First),(vI a_1.Last),(vI a_1.Every),(vI a_1.Days),.nil,(vI a_1.From),(vI a_1.To),(vI a_1.Prio),.nil,(vB a_1.Gone)]) rfl wz ?_)
  obtain ⟨r_9,hr_10,h_8⟩:=bind_some h_8
  refine aC (nW hr_10) rfl hb22 rfl rfl rfl rfl wz (aG 2 3 (.inr (by kernel_rfl)) (λ_ _ ag=>⟨.inl ⟨rfl,rfl⟩,trivial⟩) jW ql rfl rfl (.agg [(vS b_2.Key),(vS b_2.Item),(vI b_2.Version),(vI b_2.First),(vI b_2.Last),(vI b_2.Every),(vI b_2.Days),.nil,(vI b_2.From),(vI b_2.To),(vI b_2.Prio),.nil,(vB b_2.Gone)]) rfl wz ?_)
  obtain ⟨r_11,hr_12,h_8⟩:=bind_some h_8
  refine aC (nW hr_12) rfl hb22 rfl rfl rfl rfl wz (aa (vB (sEq r_9 r_11)) ?_)
  rcases ak h_8 with⟨hc_13,h_8⟩|⟨hc_13,h_8⟩
  ·refine aD rfl hc_13 wz (aI rO rfl 7 rfl wa (aG 7 0 (.inr (by kernel_rfl)) (λ_ _ ag=>⟨.inl ⟨rfl,rfl⟩,⟨.inl ⟨rfl,rfl⟩,trivial⟩⟩) yu Cb rfl rfl (vL eI a_1.Except) rfl wa (aI rO rfl 7 rfl wa (aG 9 1 (.inr (by kernel_rfl)) (λ_ _ ag=>⟨.inl ⟨rfl,rfl⟩,⟨.inl ⟨rfl,rfl⟩,⟨.inl ⟨rfl,rfl⟩,trivial⟩⟩⟩) yu Cb rfl rfl (vL eI b_2.Except) rfl wa ?_))))
   obtain ⟨r_14,hr_15,h_8⟩:=bind_some h_8
   refine aC (si hr_15) rfl hb23 rfl rfl rfl rfl wa (aa (vB r_14) ?_)
   rcases ak h_8 with⟨hc_16,h_8⟩|⟨hc_16,h_8⟩
   ·refine aD rfl hc_16 wz (aI pW rfl 11 rfl wa (aG 14 0 (.inr (by kernel_rfl)) (λ_ _ ag=>⟨.inl ⟨rfl,rfl⟩,⟨.inl ⟨rfl,rfl⟩,⟨.inl ⟨rfl,rfl⟩,⟨.inl ⟨rfl,rfl⟩,trivial⟩⟩⟩⟩) yZ Cs rfl rfl (vL eS a_1.Tags) rfl wa (aI pW rfl 11 rfl wa (aG 16 1 (.inr (by kernel_rfl)) (λ_ _ ag=>⟨.inl ⟨rfl,rfl⟩,⟨.inl ⟨rfl,rfl⟩,⟨.inl ⟨rfl,rfl⟩,⟨.inl ⟨rfl,rfl⟩,⟨.inl ⟨rfl,rfl⟩,trivial⟩⟩⟩⟩⟩) yZ Cs rfl rfl (vL eS b_2.Tags) rfl wa ?_))))
    obtain ⟨r_17,hr_18,h_8⟩:=bind_some h_8
    refine aC (oz hr_18) rfl hb24 rfl rfl rfl rfl wa (aa (vB r_17) (aa (vB r_17) (af ?_)))
    obtain rfl:=ae h_8
    exact cu
   ·refine aD rfl hc_16 wz (ah (ah (ah (ah (ah (aa (vB false) (aa (vB false) (af ?_))))))))
    obtain rfl:=ae h_8
    exact cu
  ·refine aD rfl hc_13 wz (ah (ah (ah (ah (ah (aa (vB false) (aa (vB false) (ah (ah (ah (ah (ah (aa (vB false) (aa (vB false) (af ?_)))))))))))))))
   obtain rfl:=ae h_8
   exact cu
 ·rintro ⟨⟩ _ sl_ H_ hp_ hq_
  refine aQ _ hp_ hq_ ?_
  obtain rfl:=ae hF
  exact ay (aK [(vB v_7)] ⟨rfl,trivial⟩)
theorem fM {s1_1:(List Entry)} {s2_2:(List Entry)} {r:Bool} (hF:aS s1_1 s2_2=some r) :
  FnM Tryz.prog 7 [(vL Entry.enc s1_1),(vL Entry.enc s2_2),(.fn 8 [])] [] (vB r) []:=by
 refine FnM.of_wH ⟨Tryz.prog,32,[],[]⟩ rfl Tryz.func7 rfl rfl (lb_ rfl) (by kernel_rfl) ?_
 unfold aS at hF
 refine aj (aa (vB false) (af (au (aj (aa (vL Entry.enc s1_1) (bI IG rfl wz (aa (vL Entry.enc s2_2) (bI IG rfl wz (aa (vB ((s1_1.length:Int) != (s2_2.length:Int))) (af ?_))))))))))
 rcases ak hF with⟨hc_4,hF⟩|⟨hc_4,hF⟩
 ·refine aB rfl hc_4 (aj (aa (vB false) (af ?_)))
  obtain rfl:=ae hF
  exact ay (aK [(vB false)] ⟨rfl,trivial⟩)
 ·refine aA rfl hc_4 (ax (au (aj (aa (vL Entry.enc s1_1) (bI IG rfl wz (aa (vI 0) (af ?_)))))))
  obtain ⟨o_13,hj_14,hF⟩:=bind_some hF
  obtain ⟨hn_9,hj_14⟩:=aX hj_14
  refine di (λ(s_10:Unit)=>[]) (λ(s_10:Unit)=>[]) (λ(k_5:Nat)=>(λ(s_10:Unit)=>[(1,(vL Entry.enc s2_2)),(2,(.fn 8 [])),(15,(vL Entry.enc s1_1)),(16,(vI (s1_1.length:Int))),(17,(vI (k_5:Int)))])) (λk x s=>aN s2_2 k x s) o_13 s1_1 () hj_14 rfl (aL rfl) ?_ ?_
  ·rintro ⟨k_5,l_6,s_10⟩ ⟨hL_12,hD_8⟩
   dsimp only at hL_12 hD_8
   cases l_6 with
   | nil =>
    obtain rfl:=ae hL_12
    refine aj (aa (vB (decide ((k_5:Int)<(s1_1.length:Int)))) (af ?_))
    refine au (aA rfl (drop_nil hD_8) (bg ?_))
    exact aZ (s_10) rfl rfl (aL rfl)
   | cons x_7 l_6 =>
    obtain ⟨c_,hc_11,hL_12⟩:=bind_some hL_12
    refine aj (aa (vB (decide ((k_5:Int)<(s1_1.length:Int)))) (af ?_))
    refine au (aB rfl (bz hD_8) (ax ?_))
    unfold aN at hc_11
    refine au (aO (aj (aa (vI (k_5:Int)) (cZ EI rfl rfl (bH hD_8) rfl wz (bC jW ql rfl (.d (.agg (Entry.enc x_7))) rfl wz (dE 0 (.inl rfl) z36 rfl wz (λn_15=>aa (vI (k_5:Int)) (fo 0 il ft 0 jW rfl rfl (Entry.v x_7) rfl wz (af (aj (aa (vL Entry.enc s2_2) (aa (vI (k_5:Int)) ?_))))))))))))
    obtain ⟨y_16,hy_17,hc_11⟩:=bind_some hc_11
    refine cZ EI rfl rfl hy_17 rfl wz (bC jW ql rfl (.d (.agg (Entry.enc y_16))) rfl wz (dE 0 (.inl rfl) z36 rfl wz (λn_18=>fo 0 il ft 1 jW rfl rfl (Entry.v y_16) rfl wz (af (aj (aa (.fn 8 []) (aG 0 0 il ft jW ql rfl rfl (.d (.agg (Entry.enc x_7))) rfl wz (aG 0 1 il ft jW ql rfl rfl (.d (.agg (Entry.enc y_16))) rfl wz ?_))))))))
    obtain ⟨r_19,hr_20,hc_11⟩:=bind_some hc_11
    refine aC (zZ hr_20) rfl hb8 rfl rfl rfl rfl wz (aa (vB (!r_19)) (af ?_))
    rcases ak hc_11 with⟨hc_21,hc_11⟩|⟨hc_21,hc_11⟩
    ·refine aB rfl hc_21 (aj (aa (vB false) (af ?_)))
     obtain rfl:=ae hc_11
     obtain rfl:=ae hL_12
     obtain rfl:=ae hF
     exact ay (aK [(vB false)] ⟨rfl,trivial⟩)
    ·refine aA rfl hc_21 (ax (av (eY (bD hD_8 hn_9) wz rfl (aa (vI ((k_5+1:Nat):Int)) (af ?_)))))
     obtain rfl:=ae hc_11
     exact aY (k_5+1,l_6,()) ⟨hL_12,aV hD_8⟩ (ls_ _) rfl (aL rfl)
  ·rintro s_10 ho_ sl_ H_ hp_ hq_
   subst ho_
   refine aQ _ hp_ hq_ (aj (aa (vB true) (af ?_)))
   obtain rfl:=ae hF
   exact ay (aK [(vB true)] ⟨rfl,trivial⟩)
theorem yo {l_1:(List Entry)} {r:ByteArray} (hF:kw l_1=some r) :
  FnM Tryz.prog 25 [(vL Entry.enc l_1)] [] (vS r) []:=by
 refine FnM.of_wH ⟨Tryz.prog,19,[],[]⟩ rfl Tryz.func25 rfl rfl (lb_ rfl) (by kernel_rfl) ?_
 unfold kw at hF
 refine aj (aa (vS (⟨#[]⟩:ByteArray)) (af (aj (aa (vS (⟨#[]⟩:ByteArray)) (af (au (aj (aa (vL Entry.enc l_1) (bI IG rfl wz (aa (vI 0) (af ?_)))))))))))
 obtain ⟨o_10,hj_11,hF⟩:=bind_some hF
 obtain ⟨hn_6,hj_11⟩:=aX hj_11
 refine di (λ(s_7:ByteArray)=>[(3,(vS s_7))]) (λ(s_7:ByteArray)=>[]) (λ(k_2:Nat)=>(λ(s_7:ByteArray)=>[(3,(vS s_7)),(6,(vL Entry.enc l_1)),(7,(vI (l_1.length:Int))),(8,(vI (k_2:Int)))])) (λk x s=>gP k x s) o_10 l_1 (⟨#[]⟩:ByteArray) hj_11 rfl (aL rfl) ?_ ?_
 ·rintro ⟨k_2,l_3,s_7⟩ ⟨hL_9,hD_5⟩
  dsimp only at hL_9 hD_5
  cases l_3 with
  | nil =>
   obtain rfl:=ae hL_9
   refine aj (aa (vB (decide ((k_2:Int)<(l_1.length:Int)))) (af ?_))
   refine au (aA rfl (drop_nil hD_5) (bg ?_))
   exact aZ (s_7) rfl rfl (aL rfl)
  | cons x_4 l_3 =>
   obtain ⟨c_,hc_8,hL_9⟩:=bind_some hL_9
   refine aj (aa (vB (decide ((k_2:Int)<(l_1.length:Int)))) (af ?_))
   refine au (aB rfl (bz hD_5) (ax ?_))
   unfold gP at hc_8
   refine au (aO (aj (cZ EI rfl rfl (bH hD_5) rfl wz (bC jW ql rfl (.d (.agg (Entry.enc x_4))) rfl wz (dE 0 (.inl rfl) z36 rfl wz (λn_12=>fo 0 il ft 0 jW rfl rfl (Entry.v x_4) rfl wz (af (av (aa (vS s_7) (aG 0 0 il ft jW ql rfl rfl (.d (.agg (Entry.enc x_4))) rfl wz ?_))))))))))
   obtain ⟨r_13,hr_14,hc_8⟩:=bind_some hc_8
   refine aC (nW hr_14) rfl hb22 rfl rfl rfl rfl wz ?_
   obtain ⟨s_15,hz_16,hc_8⟩:=bind_some hc_8
   refine Ae rfl rfl hz_16 wz ?_
   obtain ⟨s_17,hz_18,hc_8⟩:=bind_some hc_8
   refine Ae rfl rfl hz_18 wz (aa (vS s_17) (af (av (eY (bD hD_5 hn_6) wz rfl (aa (vI ((k_2+1:Nat):Int)) (af ?_))))))
   obtain rfl:=ae hc_8
   exact aY (k_2+1,l_3,s_17) ⟨hL_9,aV hD_5⟩ (ls_ _) rfl (aL rfl)
 ·rintro s_7 ho_ sl_ H_ hp_ hq_
  subst ho_
  refine aQ _ hp_ hq_ (aj (aa (vS s_7) (aa (vS s_7) (af ?_))))
  obtain rfl:=ae hF
  exact ay (aK [(vS s_7)] ⟨rfl,trivial⟩)
theorem vE {s_1:Stream} {t_2:ByteArray} {withv_3:ByteArray} {r:ByteArray×Stream} (hF:gL s_1 t_2 withv_3=some r) :
  FnM Tryz.prog 26 [(.ref (aF 0) 0 0),(vS t_2),(vS withv_3)] [(.cells 2 [(vL eI s_1.L),(vI s_1.f_at)])] (vS r.1) [some (.cells 2 [(vL eI r.2.L),(vI r.2.f_at)])]:=by
 refine FnM.of_wH ⟨Tryz.prog,63,[],[]⟩ rfl Tryz.func26 rfl rfl (lb_ rfl) (by kernel_rfl) ?_
 unfold gL at hF
 refine aj (aa (vS (⟨#[]⟩:ByteArray)) (af (au (au ?_))))
 obtain ⟨v_4,h_5,hF⟩:=bind_some hF
 refine aR [(0,(.ref (aF 0) 0 0)),(1,(vS t_2)),(2,(vS withv_3)),(14,(vB v_4))] [((aF 0),some (.cells 2 [(vL eI s_1.L),(vI s_1.f_at)]))] ?_ ?_
 ·refine av (aa (vS t_2) (aa (vB (sEq t_2 (⟨#[]⟩:ByteArray))) ?_))
  rcases ak h_5 with⟨hc_6,h_5⟩|⟨hc_6,h_5⟩
  ·refine aD rfl hc_6 wz (ah (ah (aa (vB true) (af ?_))))
   obtain rfl:=ae h_5
   exact cu
  ·refine aD rfl hc_6 wz (aJ (vS withv_3) wa rfl (aJ (vB (sEq withv_3 (⟨#[]⟩:ByteArray))) wa rfl (aa (vB (sEq withv_3 (⟨#[]⟩:ByteArray))) (af ?_))))
   obtain rfl:=ae h_5
   exact cu
 ·rintro ⟨⟩ _ sl_ H_ hp_ hq_
  refine aQ _ hp_ hq_ ?_
  rcases ak hF with⟨hc_7,hF⟩|⟨hc_7,hF⟩
  ·refine aB rfl hc_7 (aj (aa (vS withv_3) (aa (vS withv_3) (af ?_))))
   obtain rfl:=ae hF
   exact ay (y8 (.inr rfl) [(vS withv_3)] _ [0] [aF 0] ⟨rfl,trivial⟩ (.cons (ja rfl rfl) (.nil)) (by kernel_rfl) ⟨(by kernel_rfl),trivial⟩ (by decide) (by kernel_rfl))
  ·refine aA rfl hc_7 (ax (aj (aa (.ref (aF 0) 0 0) (aa (vS t_2) (nH un9 rfl wz ?_)))))
   obtain ⟨r_8,hr_9,hF⟩:=bind_some hF
   refine dN 0 [0] il ft (fK hr_9) rfl JS rfl (by kernel_rfl) (by kernel_rfl) (by kernel_rfl) (by kernel_rfl) (by kernel_rfl) (by kernel_rfl) (by kernel_rfl) (by decide) (by kernel_rfl) wz (vI r_8.1) (by kernel_rfl) ([((aF 0),some (.cells 2 [(vL eI r_8.2.L),(vI r_8.2.f_at)]))]:Hp) (by kernel_rfl) (aa (vI r_8.1) (af (aj (aa (vS withv_3) (aa (.ref (aF 0) 0 0) (aa (vS withv_3) (nH un9 rfl wz ?_)))))))
   obtain ⟨r_11,hr_12,hF⟩:=bind_some hF
   refine dN 0 [0] il ft (fK hr_12) rfl JS rfl (by kernel_rfl) (by kernel_rfl) (by kernel_rfl) (by kernel_rfl) (by kernel_rfl) (by kernel_rfl) (by kernel_rfl) (by decide) (by kernel_rfl) wz (vI r_11.1) (by kernel_rfl) ([((aF 0),some (.cells 2 [(vL eI r_11.2.L),(vI r_11.2.f_at)]))]:Hp) (by kernel_rfl) ?_
   obtain ⟨b_14,hy_15,hF⟩:=bind_some hF
   refine vw un9 rfl rfl hy_15 wz (aa (.d (.int .u8 (b_14.toNat:Int))) (af (au (aj (aa (.ref (aF 0) 0 0) ?_)))))
   obtain ⟨r_16,hr_17,hF⟩:=bind_some hF
   refine dN 0 [0] il ft (fK hr_17) rfl JS rfl (by kernel_rfl) (by kernel_rfl) (by kernel_rfl) (by kernel_rfl) (by kernel_rfl) (by kernel_rfl) (by kernel_rfl) (by decide) (by kernel_rfl) wz (vI r_16.1) (by kernel_rfl) ([((aF 0),some (.cells 2 [(vL eI r_16.2.L),(vI r_16.2.f_at)]))]:Hp) (by kernel_rfl) (af (aO (aj (aa (vB (r_16.1==0)) (aa (vB (r_16.1==0)) (af ?_))))))
   rcases ak hF with⟨hc_19,hF⟩|⟨hc_19,hF⟩
   ·refine aB rfl hc_19 (au (bL (aa (vS t_2) (aa (vI r_8.1) ?_))))
    obtain ⟨y_20,hy_21,hF⟩:=bind_some hF
    refine nu un9 rfl rfl hy_21 wz (aa (.d (.int .u8 (b_14.toNat:Int))) (x9 un5 un21 rfl wz (Kg un21 un9 rfl wz ?_)))
    obtain ⟨s_22,hz_23,hF⟩:=bind_some hF
    refine Ae rfl rfl hz_23 wz (aa (vS t_2) (aa (vI r_8.1) (aa (vI (w64 (r_8.1+1))) ?_)))
    obtain ⟨y_24,hy_25,hF⟩:=bind_some hF
    refine ni un9 rfl rfl hy_25 wz ?_
    obtain ⟨s_26,hz_27,hF⟩:=bind_some hF
    refine Ae rfl rfl hz_27 wz (aa (vS s_26) (af ?_))
    obtain rfl:=ae hF
    exact ay (y8 (.inr rfl) [(vS s_26)] _ [0] [aF 0] ⟨rfl,trivial⟩ (.cons (ja rfl rfl) (.nil)) (by kernel_rfl) ⟨(by kernel_rfl),trivial⟩ (by decide) (by kernel_rfl))
   ·refine aA rfl hc_19 (aj (aa (vB (r_16.1==1)) (aa (vB (r_16.1==1)) (af ?_))))
    rcases ak hF with⟨hc_28,hF⟩|⟨hc_28,hF⟩
    ·refine aB rfl hc_28 (au (bL (aa (vS t_2) (aa (vI r_8.1) ?_))))
     obtain ⟨y_29,hy_30,hF⟩:=bind_some hF
     refine nu un9 rfl rfl hy_30 wz (aa (.d (.int .u8 (b_14.toNat:Int))) (x9 un5 un21 rfl wz (Kg un21 un9 rfl wz ?_)))
     obtain ⟨s_31,hz_32,hF⟩:=bind_some hF
     refine Ae rfl rfl hz_32 wz (aa (vS t_2) (aa (vI r_8.1) ?_))
     obtain ⟨y_33,hy_34,hF⟩:=bind_some hF
     refine ni un9 rfl rfl hy_34 wz ?_
     obtain ⟨s_35,hz_36,hF⟩:=bind_some hF
     refine Ae rfl rfl hz_36 wz (aa (vS s_35) (af (aQ (H0:=([((aF 0),some (.cells 2 [(vL eI r_16.2.L),(vI r_16.2.f_at)]))]:Hp)) ([(6,(vS s_35))]:SL_) (by kernel_rfl) (rE (by kernel_rfl)) ?_)))
     obtain rfl:=ae hF
     exact ay (y8 (.inr rfl) [(vS s_35)] _ [0] [aF 0] ⟨rfl,trivial⟩ (.cons (ja rfl rfl) (.nil)) (by kernel_rfl) ⟨(by kernel_rfl),trivial⟩ (by decide) (by kernel_rfl))
    ·refine aA rfl hc_28 (ax (au (bL (aa (vS t_2) (aa (vI r_8.1) ?_)))))
     obtain ⟨y_37,hy_38,hF⟩:=bind_some hF
     refine nu un9 rfl rfl hy_38 wz (aa (vS t_2) (aa (vI r_8.1) (aa (vI (w64 (r_8.1+1))) ?_)))
     obtain ⟨y_39,hy_40,hF⟩:=bind_some hF
     refine ni un9 rfl rfl hy_40 wz ?_
     obtain ⟨s_41,hz_42,hF⟩:=bind_some hF
     refine Ae rfl rfl hz_42 wz (aa (vS s_41) (af ?_))
     obtain rfl:=ae hF
     exact ay (y8 (.inr rfl) [(vS s_41)] _ [0] [aF 0] ⟨rfl,trivial⟩ (.cons (ja rfl rfl) (.nil)) (by kernel_rfl) ⟨(by kernel_rfl),trivial⟩ (by decide) (by kernel_rfl))
theorem xP {x0:ByteArray} {x1:ByteArray} {x2:ByteArray} {x3:Int} {r:ByteArray} (hF:strings_Replace x0 x1 x2 x3=some r) :
  FnM Tryz.prog 27 [(vS x0),(vS x1),(vS x2),(vI x3)] [] (vS r) [] :=
 IM rfl Tryz.strings_Replace vo hF
theorem tq {s_1:Stream} {r:ByteArray×Stream} (hF:ib s_1=some r) :
  FnM Tryz.prog 9 [(.ref (aF 0) 0 0)] [(.cells 2 [(vL eI s_1.L),(vI s_1.f_at)])] (vS r.1) [some (.cells 2 [(vL eI r.2.L),(vI r.2.f_at)])]:=by
 refine FnM.of_wH ⟨Tryz.prog,27,[],[]⟩ rfl Tryz.func9 rfl rfl (lb_ rfl) (by kernel_rfl) ?_
 unfold ib at hF
 refine aj (aa (vS (⟨#[]⟩:ByteArray)) (af (aj (aa (.ref (aF 0) 0 0) ?_))))
 obtain ⟨r_2,hr_3,hF⟩:=bind_some hF
 refine dN 0 [0] il ft (lw hr_3) rfl hb4 rfl (by kernel_rfl) (by kernel_rfl) (by kernel_rfl) (by kernel_rfl) (by kernel_rfl) (by kernel_rfl) (by kernel_rfl) (by decide) (by kernel_rfl) wz (vL Entry.enc r_2.1) (by kernel_rfl) ([((aF 0),some (.cells 2 [(vL eI r_2.2.L),(vI r_2.2.f_at)]))]:Hp) (by kernel_rfl) ?_
 obtain ⟨r_5,hr_6,hF⟩:=bind_some hF
 refine aC (yo hr_6) rfl hb25 rfl rfl rfl rfl wz (aa (vS r_5) (af (au (aj (aa (.ref (aF 0) 0 0) (dW (([0,0,1,2]:List Int).map eI) iQ wX rfl rfl rfl rfl rfl wz ?_))))))
 obtain ⟨r_7,hr_8,hF⟩:=bind_some hF
 refine dN 0 [0] il ft (eX hr_8) rfl Gp rfl (by kernel_rfl) (by kernel_rfl) (by kernel_rfl) (by kernel_rfl) (by kernel_rfl) (by kernel_rfl) (by kernel_rfl) (by decide) (by kernel_rfl) wz (vI r_7.1) (by kernel_rfl) ([((aF 0),some (.cells 2 [(vL eI r_7.2.L),(vI r_7.2.f_at)]))]:Hp) (by kernel_rfl) (aa (vI 0) (af ?_))
 obtain ⟨o_18,hj_19,hF⟩:=bind_some hF
 obtain ⟨hn_14,hj_19⟩:=aX hj_19
 refine di (λ(s_15:ByteArray×(List Int)×Int)=>[(0,(.ref (aF 0) 0 0)),(3,(vS s_15.1))]) (λ(s_15:ByteArray×(List Int)×Int)=>[((aF 0),some (.cells 2 [(vL eI s_15.2.1),(vI s_15.2.2)]))]) (λ(k_10:Nat)=>(λ(s_15:ByteArray×(List Int)×Int)=>[(0,(.ref (aF 0) 0 0)),(3,(vS s_15.1)),(9,(vI r_7.1)),(10,(vI (k_10:Int)))])) (λk x s=>fI k x s) o_18 (List.range (r_7.1).toNat) (r_5,r_7.2.L,r_7.2.f_at) hj_19 rfl (aL rfl) ?_ ?_
 ·rintro ⟨k_10,l_11,s_15⟩ ⟨hL_17,hD_13⟩
  dsimp only at hL_17 hD_13
  cases l_11 with
  | nil =>
   obtain rfl:=ae hL_17
   refine aj (aa (vB (decide ((k_10:Int)<r_7.1))) (af ?_))
   refine au (aA rfl (Et hD_13) (bg ?_))
   exact aZ (s_15) rfl rfl (aL rfl)
  | cons x_12 l_11 =>
   obtain ⟨c_,hc_16,hL_17⟩:=bind_some hL_17
   refine aj (aa (vB (decide ((k_10:Int)<r_7.1))) (af ?_))
   refine au (aB rfl (Du hD_13) (ax ?_))
   unfold fI at hc_16
   refine au (aO (av (aa (.ref (aF 0) 0 0) (aa (vS s_15.1) ?_))))
   obtain ⟨r_20,hr_21,hc_16⟩:=bind_some hc_16
   refine dN 0 [0] il ft (vE hr_21) rfl hb26 rfl (by kernel_rfl) (by kernel_rfl) (by kernel_rfl) (by kernel_rfl) (by kernel_rfl) (by kernel_rfl) (by kernel_rfl) (by decide) (by kernel_rfl) wz (vS r_20.1) (by kernel_rfl) ([((aF 0),some (.cells 2 [(vL eI r_20.2.L),(vI r_20.2.f_at)]))]:Hp) (by kernel_rfl) (aa (vS r_20.1) (af (av (eY (Ev hD_13 hn_14) wz rfl (aa (vI ((k_10+1:Nat):Int)) (af ?_))))))
   obtain rfl:=ae hc_16
   exact aY (k_10+1,l_11,(r_20.1,r_20.2.L,r_20.2.f_at)) ⟨hL_17,aV hD_13⟩ (ls_ _) rfl (aL rfl)
 ·rintro s_15 ho_ sl_ H_ hp_ hq_
  subst ho_
  refine aQ _ hp_ hq_ (au (aj (aa (.ref (aF 0) 0 0) ?_)))
  obtain ⟨r_23,hr_24,hF⟩:=bind_some hF
  refine dN 0 [0] il ft (iW hr_24) rfl Mm rfl (by kernel_rfl) (by kernel_rfl) (by kernel_rfl) (by kernel_rfl) (by kernel_rfl) (by kernel_rfl) (by kernel_rfl) (by decide) (by kernel_rfl) wz (vB r_23.1) (by kernel_rfl) ([((aF 0),some (.cells 2 [(vL eI r_23.2.L),(vI r_23.2.f_at)]))]:Hp) (by kernel_rfl) (af ?_)
  obtain ⟨v_26,h_27,hF⟩:=bind_some hF
  refine aR [(3,(vS v_26.1))] [((aF 0),some (.cells 2 [(vL eI v_26.2.1),(vI v_26.2.2)]))] ?_ ?_
  ·rcases ak h_27 with⟨hc_28,h_27⟩|⟨hc_28,h_27⟩
   ·refine aB rfl hc_28 (av (aa (vS s_15.1) (aa (.ref (aF 0) 0 0) (dW (([(⟨#[32,111,110,32]⟩:ByteArray),(⟨#[32,45,32]⟩:ByteArray),(⟨#[32,49,50,55,32]⟩:ByteArray),(⟨#[44]⟩:ByteArray)]:List ByteArray).map eS) lH zC rfl rfl rfl rfl rfl wz ?_))))
    obtain ⟨r_29,hr_30,h_27⟩:=bind_some h_27
    refine dN 0 [0] il ft (mO hr_30) rfl hb12 rfl (by kernel_rfl) (by kernel_rfl) (by kernel_rfl) (by kernel_rfl) (by kernel_rfl) (by kernel_rfl) (by kernel_rfl) (by decide) (by kernel_rfl) wz (vS r_29.1) (by kernel_rfl) ([((aF 0),some (.cells 2 [(vL eI r_29.2.L),(vI r_29.2.f_at)]))]:Hp) (by kernel_rfl) (aa (.ref (aF 0) 0 0) (dW (([(⟨#[32,111,102,102,32]⟩:ByteArray),(⟨#[32,45,45,32]⟩:ByteArray),(⟨#[32]⟩:ByteArray),(⟨#[44,44]⟩:ByteArray)]:List ByteArray).map eS) lH zC rfl rfl rfl rfl rfl wz ?_))
    obtain ⟨r_32,hr_33,h_27⟩:=bind_some h_27
    refine dN 0 [0] il ft (mO hr_33) rfl hb12 rfl (by kernel_rfl) (by kernel_rfl) (by kernel_rfl) (by kernel_rfl) (by kernel_rfl) (by kernel_rfl) (by kernel_rfl) (by decide) (by kernel_rfl) wz (vS r_32.1) (by kernel_rfl) ([((aF 0),some (.cells 2 [(vL eI r_32.2.L),(vI r_32.2.f_at)]))]:Hp) (by kernel_rfl) ?_
    obtain ⟨r_35,hr_36,h_27⟩:=bind_some h_27
    refine aC (xP hr_36) rfl hb27 rfl rfl rfl rfl wz (aa (vS r_35) (af ?_))
    obtain rfl:=ae h_27
    exact cu
   ·refine aA rfl hc_28 (ax ?_)
    obtain rfl:=ae h_27
    exact cu
  ·rintro ⟨⟩ _ sl_ H_ hp_ hq_
   refine aQ _ hp_ hq_ (aj (aa (vS v_26.1) (aa (vS v_26.1) (af ?_))))
   obtain rfl:=ae hF
   exact ay (y8 (.inr rfl) [(vS v_26.1)] _ [0] [aF 0] ⟨rfl,trivial⟩ (.cons (ja rfl rfl) (.nil)) (by kernel_rfl) ⟨(by kernel_rfl),trivial⟩ (by decide) (by kernel_rfl))
theorem pK {r_1:Rect} {r:Int} (hF:lc r_1=some r) :
  FnM Tryz.prog 77 [(.d (.agg (Rect.enc r_1)))] [] (vI r) []:=by
 refine FnM.of_wH ⟨Tryz.prog,25,[],[]⟩ rfl Tryz.func77 rfl rfl (lb_ rfl) (by kernel_rfl) ?_
 unfold lc at hF
 refine aj (ik 0 (.inl rfl) (Rect.v r_1) rfl rfl wz (λn_2=>aa (vI 0) (af (au (au ?_)))))
 obtain ⟨v_3,h_4,hF⟩:=bind_some hF
 refine aR [(1,(.ref n_2 0 0)),(10,(vB v_3))] [(n_2,some (.cells 4 (Rect.v r_1)))] ?_ ?_
 ·refine av (aI zk rfl 0 rfl wz (aG 0 0 il ft sz3 ag3 rfl rfl (vI r_1.X) rfl wz ?_))
  obtain ⟨r_5,hr_6,h_4⟩:=bind_some h_4
  refine aC (bn hr_6) rfl qN rfl rfl rfl rfl wz ?_
  rcases ak h_4 with⟨hc_7,h_4⟩|⟨hc_7,h_4⟩
  ·refine aD rfl hc_7 wz (ah (ah (ah (aa (vB true) (af ?_)))))
   obtain rfl:=ae h_4
   exact cu
  ·refine aD rfl hc_7 wz (aI vC rfl 1 rfl wa (aG 0 0 il ft sz3 ag3 rfl rfl (vI r_1.Y) rfl wa ?_))
   obtain ⟨r_8,hr_9,h_4⟩:=bind_some h_4
   refine aC (bn hr_9) rfl qN rfl rfl rfl rfl wa (aa (vB r_8) (af ?_))
   obtain rfl:=ae h_4
   exact cu
 ·rintro ⟨⟩ _ sl_ H_ hp_ hq_
  refine aQ _ hp_ hq_ ?_
  rcases ak hF with⟨hc_10,hF⟩|⟨hc_10,hF⟩
  ·refine aB rfl hc_10 (aj (aa (vI 1) (af ?_)))
   obtain rfl:=ae hF
   exact ay (aK [(vI 1)] ⟨rfl,trivial⟩)
  ·refine aA rfl hc_10 (ax (au (au ?_)))
   obtain ⟨v_11,h_12,hF⟩:=bind_some hF
   refine aR [(24,(vB v_11))] [(n_2,some (.cells 4 (Rect.v r_1)))] ?_ ?_
   ·refine av (aI Gj rfl 2 rfl wz (aG 0 0 il ft sz3 ag3 rfl rfl (vI r_1.W) rfl wz (aI zk rfl 0 rfl wz (aG 0 0 il ft sz3 ag3 rfl rfl (vI r_1.X) rfl wz (aa (vI (w64 (100000-r_1.X))) ?_)))))
    obtain ⟨r_13,hr_14,h_12⟩:=bind_some h_12
    refine aC (bn hr_14) rfl qN rfl rfl rfl rfl wz ?_
    rcases ak h_12 with⟨hc_15,h_12⟩|⟨hc_15,h_12⟩
    ·refine aD rfl hc_15 wz (ah (ah (ah (ah (ah (ah (aa (vB true) (af ?_))))))))
     obtain rfl:=ae h_12
     exact cu
    ·refine aD rfl hc_15 wz (aI BQ rfl 3 rfl wa (aG 0 0 il ft sz3 ag3 rfl rfl (vI r_1.H) rfl wa (aI vC rfl 1 rfl wa (aG 0 0 il ft sz3 ag3 rfl rfl (vI r_1.Y) rfl wa (aJ (vI (w64 (100000-r_1.Y))) wa rfl ?_)))))
     obtain ⟨r_16,hr_17,h_12⟩:=bind_some h_12
     refine aC (bn hr_17) rfl qN rfl rfl rfl rfl wa (aa (vB r_16) (af ?_))
     obtain rfl:=ae h_12
     exact cu
   ·rintro ⟨⟩ _ sl_ H_ hp_ hq_
    refine aQ _ hp_ hq_ ?_
    rcases ak hF with⟨hc_18,hF⟩|⟨hc_18,hF⟩
    ·refine aB rfl hc_18 (aj (aa (vI 1) (af ?_)))
     obtain rfl:=ae hF
     exact ay (aK [(vI 1)] ⟨rfl,trivial⟩)
    ·refine aA rfl hc_18 (ax (aj (aa (vI 0) (af ?_))))
     obtain rfl:=ae hF
     exact ay (aK [(vI 0)] ⟨rfl,trivial⟩)
theorem vU {l_1:(List Rect)} {r:Int} (hF:ko l_1=some r) :
  FnM Tryz.prog 50 [(vL Rect.enc l_1)] [] (vI r) []:=by
 refine FnM.of_wH ⟨Tryz.prog,21,[],[]⟩ rfl Tryz.func50 rfl rfl (lb_ rfl) (by kernel_rfl) ?_
 unfold ko at hF
 refine aj (aa (vI 0) (af (au (aj (aa (vL Rect.enc l_1) (bI zI rfl wz (aa (vB (decide ((l_1.length:Int)>2000))) (af ?_))))))))
 rcases ak hF with⟨hc_2,hF⟩|⟨hc_2,hF⟩
 ·refine aB rfl hc_2 (aj (aa (vI 2) (af ?_)))
  obtain rfl:=ae hF
  exact ay (aK [(vI 2)] ⟨rfl,trivial⟩)
 ·refine aA rfl hc_2 (ax (au (aj (aa (vL Rect.enc l_1) (bI zI rfl wz (aa (vI 0) (af ?_)))))))
  obtain ⟨o_11,hj_12,hF⟩:=bind_some hF
  obtain ⟨hn_7,hj_12⟩:=aX hj_12
  refine di (λ(s_8:Unit)=>[]) (λ(s_8:Unit)=>[]) (λ(k_3:Nat)=>(λ(s_8:Unit)=>[(9,(vL Rect.enc l_1)),(10,(vI (l_1.length:Int))),(11,(vI (k_3:Int)))])) (λk x s=>kQ k x s) o_11 l_1 () hj_12 rfl (aL rfl) ?_ ?_
  ·rintro ⟨k_3,l_4,s_8⟩ ⟨hL_10,hD_6⟩
   dsimp only at hL_10 hD_6
   cases l_4 with
   | nil =>
    obtain rfl:=ae hL_10
    refine aj (aa (vB (decide ((k_3:Int)<(l_1.length:Int)))) (af ?_))
    refine au (aA rfl (drop_nil hD_6) (bg ?_))
    exact aZ (s_8) rfl rfl (aL rfl)
   | cons x_5 l_4 =>
    obtain ⟨c_,hc_9,hL_10⟩:=bind_some hL_10
    refine aj (aa (vB (decide ((k_3:Int)<(l_1.length:Int)))) (af ?_))
    refine au (aB rfl (bz hD_6) (ax ?_))
    unfold kQ at hc_9
    refine au (aO (aj (cZ FV rfl rfl (bH hD_6) rfl wz (bC vk Gm rfl (.d (.agg (Rect.enc x_5))) rfl wz (dE 0 (.inl rfl) z68 rfl wz (λn_13=>fo 0 il ft 0 vk rfl rfl (Rect.v x_5) rfl wz (af (aj (aG 0 0 il ft vk Gm rfl rfl (.d (.agg (Rect.enc x_5))) rfl wz ?_)))))))))
    obtain ⟨r_14,hr_15,hc_9⟩:=bind_some hc_9
    refine aC (pK hr_15) rfl hb77 rfl rfl rfl rfl wz (aa (vI r_14) (af (aj (aa (vI r_14) (aa (vB (r_14 != 0)) (af ?_))))))
    rcases ak hc_9 with⟨hc_16,hc_9⟩|⟨hc_16,hc_9⟩
    ·refine aB rfl hc_16 (aj (aa (vI r_14) (aa (vI r_14) (af ?_))))
     obtain rfl:=ae hc_9
     obtain rfl:=ae hL_10
     obtain rfl:=ae hF
     exact ay (aK [(vI r_14)] ⟨rfl,trivial⟩)
    ·refine aA rfl hc_16 (ax (av (eY (bD hD_6 hn_7) wz rfl (aa (vI ((k_3+1:Nat):Int)) (af ?_)))))
     obtain rfl:=ae hc_9
     exact aY (k_3+1,l_4,()) ⟨hL_10,aV hD_6⟩ (ls_ _) rfl (aL rfl)
  ·rintro s_8 ho_ sl_ H_ hp_ hq_
   subst ho_
   refine aQ _ hp_ hq_ (aj (aa (vI 0) (af ?_)))
   obtain rfl:=ae hF
   exact ay (aK [(vI 0)] ⟨rfl,trivial⟩)
theorem mg {n_1:Int} {r:Bool} (hF:fQ n_1=some r) :
  FnM Tryz.prog 106 [.nil,(vI n_1)] [] (kV r (aF 0) 4 ([]:List Rect)) (kO r 4):=by
 refine FnM.of_wH ⟨Tryz.prog,27,[],[]⟩ rfl Tryz.func106 rfl rfl (lb_ rfl) (by kernel_rfl) ?_
 unfold fQ at hF
 refine aj (aa .nil (af (au (aj (aa (vI n_1) (aa (vB (decide (n_1<0))) (af ?_)))))))
 rcases ak hF with⟨hc_2,hF⟩|⟨hc_2,hF⟩
 ·refine aB rfl hc_2 (av ?_)
  cases hF
 ·refine aA rfl hc_2 (ax (au (aj (aa (vI n_1) (aa .nil (M0 II rfl wz (aa .nil (Mt zI rfl wz (aa (vI (w64 (0-0))) (aa (vI (w64 (n_1-(w64 (0-0))))) (aa (vI (w64 (n_1-(w64 (0-0))))) (af (aj (aa (vI (w64 (n_1-(w64 (0-0))))) (aa (vB (decide ((w64 (n_1-(w64 (0-0))))>0))) (af ?_))))))))))))))))
  rcases ak hF with⟨hc_3,hF⟩|⟨hc_3,hF⟩
  ·refine aB rfl hc_3 (av (aa .nil (aa .nil (M0 II rfl wz (aJ .nil wz (by kernel_rfl) (aa (vI (w64 (n_1-(w64 (0-0))))) ?_))))))
   obtain ⟨_,hz_5,hF⟩:=bind_some hF
   refine h_appz (enc:=Rect.enc) 0 (.inl rfl) II (by kernel_rfl) vk z68 rfl (by decide) by68 rfl rfl hz_5 wz (λn_4=>aa .nil (Mt zI rfl wz (h_cutm (m:=0) zI vk rfl rfl rfl (Nat.zero_le _) wz (aa (.vs n_4 4 0 0) (af (aj (aa (.vs n_4 4 0 0) (aa (.vs n_4 4 0 0) (af ?_)))))))))
   obtain rfl:=ae hF
   exact ay (finK (.inr rfl) 0 rfl rfl)
  ·refine aA rfl hc_3 (ax (aj (aa .nil (aa .nil (af ?_)))))
   obtain rfl:=ae hF
   exact ay (finK0 (.inr rfl) rfl)
theorem l8 {slices_1:(List (List Rect))} {r:(List Rect)} (hF:dS slices_1=some r) :
  FnM Tryz.prog 78 [(vL (eL Rect.enc) slices_1)] [] (vL Rect.enc r) []:=by
 refine FnM.of_wH ⟨Tryz.prog,36,[],[]⟩ rfl Tryz.func78 rfl rfl (lb_ rfl) (by kernel_rfl) ?_
 unfold dS at hF
 refine aj (aa .nil (af (aj (aa (vI 0) (af (au (aj (aa (vL (eL Rect.enc) slices_1) (bI un161 rfl wz (aa (vI 0) (af ?_)))))))))))
 obtain ⟨o_10,hj_11,hF⟩:=bind_some hF
 obtain ⟨hn_6,hj_11⟩:=aX hj_11
 refine di (λ(s_7:Int)=>[(0,(vL (eL Rect.enc) slices_1)),(3,(vI s_7))]) (λ(s_7:Int)=>[]) (λ(k_2:Nat)=>(λ(s_7:Int)=>[(0,(vL (eL Rect.enc) slices_1)),(3,(vI s_7)),(9,(vL (eL Rect.enc) slices_1)),(10,(vI (slices_1.length:Int))),(11,(vI (k_2:Int)))])) (λk x s=>fB k x s) o_10 slices_1 0 hj_11 rfl (aL rfl) ?_ ?_
 ·rintro ⟨k_2,l_3,s_7⟩ ⟨hL_9,hD_5⟩
  dsimp only at hL_9 hD_5
  cases l_3 with
  | nil =>
   obtain rfl:=ae hL_9
   refine aj (aa (vB (decide ((k_2:Int)<(slices_1.length:Int)))) (af ?_))
   refine au (aA rfl (drop_nil hD_5) (bg ?_))
   exact aZ (s_7) rfl rfl (aL rfl)
  | cons x_4 l_3 =>
   obtain ⟨c_,hc_8,hL_9⟩:=bind_some hL_9
   refine aj (aa (vB (decide ((k_2:Int)<(slices_1.length:Int)))) (af ?_))
   refine au (aB rfl (bz hD_5) (ax ?_))
   unfold fB at hc_8
   refine au (aO (aj (cZ Nq rfl rfl (bH hD_5) rfl wz (bC La LV rfl (vL Rect.enc x_4) rfl wz (aa (vL Rect.enc x_4) (af (aj (aa (vI s_7) (aa (vL Rect.enc x_4) (bI zI rfl wz (aa (vI (w64 (s_7+(x_4.length:Int)))) (aa (vI (w64 (s_7+(x_4.length:Int)))) (af (aj (aa (vI (w64 (s_7+(x_4.length:Int)))) (aa (vB (decide ((w64 (s_7+(x_4.length:Int)))<0))) (af ?_)))))))))))))))))
   obtain ⟨v_12,h_13,hc_8⟩:=bind_some hc_8
   refine aR [(0,(vL (eL Rect.enc) slices_1)),(3,(vI (w64 (s_7+(x_4.length:Int))))),(9,(vL (eL Rect.enc) slices_1)),(10,(vI (slices_1.length:Int))),(11,(vI (k_2:Int)))] [] ?_ ?_
   ·rcases ak h_13 with⟨hc_14,h_13⟩|⟨hc_14,h_13⟩
    ·refine aB rfl hc_14 (av ?_)
     cases h_13
    ·refine aA rfl hc_14 (ax ?_)
     obtain rfl:=ae h_13
     exact cu
   ·rintro ⟨⟩ _ sl_ H_ hp_ hq_
    refine aQ _ hp_ hq_ (av (eY (bD hD_5 hn_6) wz rfl (aa (vI ((k_2+1:Nat):Int)) (af ?_))))
    obtain rfl:=ae hc_8
    exact aY (k_2+1,l_3,(w64 (s_7+(x_4.length:Int)))) ⟨hL_9,aV hD_5⟩ (ls_ _) rfl (aL rfl)
 ·rintro s_7 ho_ sl_ H_ hp_ hq_
  subst ho_
  refine aQ _ hp_ hq_ (aj (aa (vI s_7) ?_))
  obtain ⟨b_15,hr_16,hF⟩:=bind_some hF
  refine h_callk (enc:=Rect.enc) (mg hr_16) rfl hb106 (by kernel_rfl) rfl (by kernel_rfl) wz (λn_17=>aa (kV b_15 n_17 4 ([]:List Rect)) (af (au (aj (aa (vL (eL Rect.enc) slices_1) (bI un161 rfl wz (aa (vI 0) (af ?_))))))))
  obtain ⟨o_28,hj_29,hF⟩:=bind_some hF
  obtain ⟨hn_22,hj_29⟩:=aX hj_29
  refine fV (σ:=(List Rect)) (N:=Nm) (λp=>(λ(s_23:List Rect) (n_25:Nm)=>([(6,(kV b_15 n_25 4 s_23))]:SL_)) p.1 p.2) (λp=>(λ(s_23:List Rect) (n_25:Nm)=>([(n_25,kB b_15 4 Rect.enc s_23)]:Hp)) p.1 p.2) (λ(k_18:Nat)=>(λp=>(λ(s_23:List Rect) (n_25:Nm)=>([(6,(kV b_15 n_25 4 s_23)),(25,(vL (eL Rect.enc) slices_1)),(26,(vI (slices_1.length:Int))),(27,(vI (k_18:Int)))]:SL_)) p.1 p.2)) (λk x s=>fw k x s) o_28 slices_1 (([]:List Rect),n_17) hj_29 rfl (aL rfl) ?_ ?_
  ·rintro ⟨k_18,l_19,s_23,n_25⟩ ⟨hL_27,hD_21⟩
   dsimp only at hL_27 hD_21
   cases l_19 with
   | nil =>
    obtain rfl:=ae hL_27
    refine aj (aa (vB (decide ((k_18:Int)<(slices_1.length:Int)))) (af ?_))
    refine au (aA rfl (drop_nil hD_21) (bg ?_))
    exact aZ (s_23,n_25) rfl rfl (aL rfl)
   | cons x_20 l_19 =>
    obtain ⟨c_,hc_26,hL_27⟩:=bind_some hL_27
    refine aj (aa (vB (decide ((k_18:Int)<(slices_1.length:Int)))) (af ?_))
    refine au (aB rfl (bz hD_21) (ax ?_))
    unfold fw at hc_26
    refine au (aO (aj (cZ Nq rfl rfl (bH hD_21) rfl wz (bC La LV rfl (vL Rect.enc x_20) rfl wz (aa (vL Rect.enc x_20) (af (av (aa (kV b_15 n_25 4 s_23) (aa (vL Rect.enc x_20) ?_)))))))))
    obtain ⟨a_30,hz_31,hc_26⟩:=bind_some hc_26
    refine h_appk 0 il ft (i:=0) II II vk z68 rfl (by decide) by68 (by decide) (λ_=>rfl) rfl rfl rfl hz_31 wz (λn_32=>aa (kV b_15 n_32 4 a_30) (af (av (eY (bD hD_21 hn_22) wz rfl (aa (vI ((k_18+1:Nat):Int)) (af ?_))))))
    obtain rfl:=ae hc_26
    exact aY (k_18+1,l_19,a_30,n_32) ⟨hL_27,aV hD_21⟩ (ls_ _) rfl (aL rfl)
  ·rintro ⟨s_23,n_25⟩ ho_ sl_ H_ hp_ hq_
   subst ho_
   refine aQ _ hp_ hq_ (aj (aa (kV b_15 n_25 4 s_23) (aa (kV b_15 n_25 4 s_23) (af (MU 0 rfl (IR 2 0 rfl rfl (IR 6 0 rfl rfl (IR 35 0 rfl rfl ?_))))))))
   obtain rfl:=ae hF
   exact ay (aK [(vL Rect.enc s_23)] ⟨rfl,trivial⟩)
theorem qO {x r:(List Int)} (hF:ic x=some r) :
  FnM Tryz.prog 79 [(dV (aF 0) 1 x)] (([]:List Box)++gI 1 eI x) (.tup []) (([]:List Box).map some++gT x (gB 1 eI r)) :=
 NE Tryz.slices_Sort_int Tryz.slices_Sort_int_none hF
theorem pz {s_1:(List Int)} {r:(List Int)} (hF:eP s_1=some r) :
  FnM Tryz.prog 80 [(dV (aF 0) 1 s_1)] (([]:List Box)++gI 1 eI s_1) (vL eI r) (([]:List Box).map some++gT s_1 none):=by
 refine FnM.of_wHv ⟨Tryz.prog,61,[],[]⟩ rfl Tryz.func80 rfl rfl (lb_ rfl) (by kernel_rfl) ?_
 unfold eP at hF
 refine aj (aa .nil (af (au (aj (aa (dV (aF 0) 1 s_1) (JI pV rfl wz (aa (vB (decide ((s_1.length:Int)<2))) (af ?_))))))))
 rcases ak hF with⟨hc_2,hF⟩|⟨hc_2,hF⟩
 ·refine aB rfl hc_2 (aj (aa (dV (aF 0) 1 s_1) (aa (dV (aF 0) 1 s_1) (af (gH 0 rfl (xJ 0 0 rfl rfl (xJ 2 0 rfl rfl (xJ 6 0 rfl rfl (xJ 9 0 rfl rfl (FM (i:=0) rfl ?_))))))))))
  obtain rfl:=ae hF
  exact ay (Jk (bs:=([]:List Box)) (os:=([]:List Box)) (xs:=s_1) (o:=none) (.inr rfl) [(vL eI s_1)] ⟨rfl,trivial⟩ rfl rfl rfl rfl rfl (by kernel_rfl) Bt rfl)
 ·refine aA rfl hc_2 (ax (au (aj (aa (vI 1) (af ?_)))))
  obtain ⟨o_11,hj_12,hF⟩:=bind_some hF
  obtain ⟨nq_52,hj_12⟩:=gu hj_12
  refine jB (λ(s_8:Int)=>[(0,(dV (aF 0) 1 s_1))]) (λ(s_8:Int)=>[((aF 0),gB 1 eI s_1)]) (λ(k_3:Nat)=>(λ(s_8:Int)=>[(0,(dV (aF 0) 1 s_1)),(3,(vI s_8))])) (λs=>dH s_1 s) o_11 nq_52 1 hj_12 rfl (aL rfl) ?_ ?_
  ·rintro ⟨k_3,s_8⟩ hL_10
   dsimp only at hL_10
   cases k_3 with
   | zero=>cases hL_10
   | succ k_3 =>
    obtain ⟨c_,hc_9,hL_10⟩:=bind_some hL_10
    unfold dH at hc_9
    refine au (aj (aa (vI s_8) (aa (dV (aF 0) 1 s_1) (JI pV rfl wz (aa (vB (decide (s_8<(s_1.length:Int)))) (af ?_))))))
    rcases ak hc_9 with⟨hc_13,hc_9⟩|⟨hc_13,hc_9⟩
    ·refine aB rfl hc_13 (ax (au (aO (au (bL (aa (dV (aF 0) 1 s_1) (aa (vI s_8) ?_)))))))
     obtain ⟨_,hi_14,hc_9⟩:=bind_some hc_9
     refine vQ iQ rfl rfl (ru hi_14) (mM hi_14) wz ?_
     obtain ⟨e_15,hy_16,hc_9⟩:=bind_some hc_9
     refine uB 3 0 (.inr (by kernel_rfl)) (λ_ _ ag=>trivial) sz3 ag3 rfl rfl hy_16 (vI e_15) rfl wz (aa (dV (aF 0) 1 s_1) (aa (vI s_8) (aa (vI (w64 (s_8-1))) ?_)))
     obtain ⟨_,hi_17,hc_9⟩:=bind_some hc_9
     refine vQ iQ rfl rfl (ru hi_17) (mM hi_17) wz ?_
     obtain ⟨e_18,hy_19,hc_9⟩:=bind_some hc_9
     refine uB 8 0 (.inr (by kernel_rfl)) (λ_ _ ag=>⟨.inl ⟨rfl,rfl⟩,trivial⟩) sz3 ag3 rfl rfl hy_19 (vI e_18) rfl wz (aa (vB (e_15==e_18)) (af ?_))
     rcases ak hc_9 with⟨hc_20,hc_9⟩|⟨hc_20,hc_9⟩
     ·refine aB rfl hc_20 (aj (aa (dV (aF 0) 1 s_1) (aa (vI s_8) ?_)))
      obtain ⟨_,hn_21,hc_9⟩:=bind_some hc_9
      replace hn_21:=Mf hn_21
      refine lm (v':=(vV (aF 0) 1 s_1)) 0 rfl (yR hn_21) (lm (v':=(vV (aF 0) 1 s_1)) 11 rfl (yR hn_21) (lm (v':=(vV (aF 0) 1 s_1)) 16 rfl (yR hn_21) (lm (v':=(vV (aF 0) 1 s_1)) 20 rfl (yR hn_21) (lm (v':=(vV (aF 0) 1 s_1)) 26 rfl (yR hn_21) (KG 0 rfl (Kq hn_21) ?_)))))
      obtain ⟨_,hr_22,hc_9⟩:=bind_some hc_9
      refine GU pV sz3 rfl rfl hr_22 wz (aa (.vs (aF 0) 1 ((s_8).toNat) (((s_1.length:Int)).toNat-(s_8).toNat)) (af (au (aj (aa (vI 1) (af ?_))))))
      obtain ⟨o_31,hj_32,hc_9⟩:=bind_some hc_9
      obtain ⟨nq_51,hj_32⟩:=gu hj_32
      refine jB (λ(s_28:(List Int)×Int×Int)=>[(0,(vV (aF 0) 1 s_28.1)),(3,(vI s_28.2.1))]) (λ(s_28:(List Int)×Int×Int)=>[((aF 0),some (bV 1 eI s_28.1))]) (λ(k_23:Nat)=>(λ(s_28:(List Int)×Int×Int)=>[(0,(vV (aF 0) 1 s_28.1)),(3,(vI s_28.2.1)),(4,(.vs (aF 0) 1 ((s_8).toNat) (((s_1.length:Int)).toNat-(s_8).toNat))),(5,(vI s_28.2.2))])) (λs=>fe s_1 s_8 s) o_31 nq_51 (s_1,s_8,1) hj_32 rfl (aL rfl) ?_ ?_
      ·rintro ⟨k_23,s_28⟩ hL_30
       dsimp only at hL_30
       cases k_23 with
       | zero=>cases hL_30
       | succ k_23 =>
        obtain ⟨c_,hc_29,hL_30⟩:=bind_some hL_30
        unfold fe at hc_29
        refine au (aj (aa (vI s_28.2.2) (aa (.vs (aF 0) 1 ((s_8).toNat) (((s_1.length:Int)).toNat-(s_8).toNat)) (h_lenp pV rfl wz (aa (vB (decide (s_28.2.2<(((((s_1.length:Int)).toNat-(s_8).toNat):Nat):Int)))) (af ?_))))))
        rcases ak hc_29 with⟨hc_33,hc_29⟩|⟨hc_33,hc_29⟩
        ·refine aB rfl hc_33 (ax (au (aO (au (bL (aa (.vs (aF 0) 1 ((s_8).toNat) (((s_1.length:Int)).toNat-(s_8).toNat)) (aa (vI s_28.2.2) ?_)))))))
         obtain ⟨_,hi_34,hc_29⟩:=bind_some hc_29
         refine Ey iQ rfl rfl (MF hi_34) (JQ hi_34) wz ?_
         obtain ⟨e_35,hy_36,hc_29⟩:=bind_some hc_29
         refine KQ 3 0 (.inr (by kernel_rfl)) (λ_ _ ag=>trivial) sz3 ag3 rfl rfl hy_36 (vI e_35) rfl wz (aa (.vs (aF 0) 1 ((s_8).toNat) (((s_1.length:Int)).toNat-(s_8).toNat)) (aa (vI s_28.2.2) (aa (vI (w64 (s_28.2.2-1))) ?_)))
         obtain ⟨_,hi_37,hc_29⟩:=bind_some hc_29
         refine Ey iQ rfl rfl (MF hi_37) (JQ hi_37) wz ?_
         obtain ⟨e_38,hy_39,hc_29⟩:=bind_some hc_29
         refine KQ 8 0 (.inr (by kernel_rfl)) (λ_ _ ag=>⟨.inl ⟨rfl,rfl⟩,trivial⟩) sz3 ag3 rfl rfl hy_39 (vI e_38) rfl wz (aa (vB (e_35 != e_38)) (af ?_))
         obtain ⟨v_40,h_41,hc_29⟩:=bind_some hc_29
         refine aR [(0,(vV (aF 0) 1 v_40.1)),(3,(vI v_40.2)),(4,(.vs (aF 0) 1 ((s_8).toNat) (((s_1.length:Int)).toNat-(s_8).toNat))),(5,(vI s_28.2.2))] [((aF 0),some (bV 1 eI v_40.1))] ?_ ?_
         ·rcases ak h_41 with⟨hc_42,h_41⟩|⟨hc_42,h_41⟩
          ·refine aB rfl hc_42 (aj (aa (vV (aF 0) 1 s_28.1) (aa (vI s_28.2.1) (aa (.vs (aF 0) 1 ((s_8).toNat) (((s_1.length:Int)).toNat-(s_8).toNat)) (aa (vI s_28.2.2) ?_)))))
           obtain ⟨_,hi_43,h_41⟩:=bind_some h_41
           refine Ey iQ rfl rfl (MF hi_43) (JQ hi_43) wz ?_
           obtain ⟨e_44,hy_45,h_41⟩:=bind_some h_41
           refine KQ 0 0 il ft sz3 ag3 rfl rfl hy_45 (vI e_44) rfl wz ?_
           obtain ⟨_,hi_46,h_41⟩:=bind_some h_41
           refine Ey iQ rfl rfl (ru hi_46) (mM hi_46) wz ?_
           obtain ⟨e_47,hy_48,h_41⟩:=bind_some h_41
           refine h_stv 0 il ft 0 sz3 rfl rfl hy_48 e_44 rfl wz (lm (v':=(vV (aF 0) 1 (s_28.1.set (0+(s_28.2.1).toNat) e_44))) 0 rfl (EW (by simp)) (lm (v':=(vV (aF 0) 1 (s_28.1.set (0+(s_28.2.1).toNat) e_44))) 45 rfl (EW (by simp)) (af (av (aa (vI s_28.2.1) (aa (vI (w64 (s_28.2.1+1))) (aa (vI (w64 (s_28.2.1+1))) (af ?_))))))))
           obtain rfl:=ae h_41
           exact cu
          ·refine aA rfl hc_42 (ax ?_)
           obtain rfl:=ae h_41
           exact cu
         ·rintro ⟨⟩ _ sl_ H_ hp_ hq_
          refine aQ _ hp_ hq_ (av (aa (vI s_28.2.2) (aa (vI (w64 (s_28.2.2+1))) (aa (vI (w64 (s_28.2.2+1))) (af ?_)))))
          obtain rfl:=ae hc_29
          exact aY (k_23,(v_40.1,v_40.2,(w64 (s_28.2.2+1)))) hL_30 (ls_ _) rfl (aL rfl)
        ·refine aA rfl hc_33 (bg ?_)
         obtain rfl:=ae hc_29
         obtain rfl:=ae hL_30
         exact aZ ((s_28.1,s_28.2.1,s_28.2.2)) rfl rfl (aL rfl)
      ·rintro s_28 ho_ sl_ H_ hp_ hq_
       subst ho_
       refine aQ _ hp_ hq_ (aj (aa (vV (aF 0) 1 s_28.1) (aa (vI s_28.2.1) ?_)))
       obtain ⟨_,hr_49,hc_9⟩:=bind_some hc_9
       refine GU pV sz3 rfl rfl hr_49 wz (h_clear (i:=0) 0 il ft 0 Jh sz3 z3 rfl rfl rfl (by decide) rfl (yQ hr_49) rfl wz (lm (v':=(vV (aF 0) 1 (s_28.1.take ((s_28.2.1).toNat)++List.replicate (((s_28.1.length:Int)).toNat-(s_28.2.1).toNat) 0++s_28.1.drop (((s_28.2.1).toNat)+(((s_28.1.length:Int)).toNat-(s_28.2.1).toNat))))) 0 rfl (EW (Er (yQ hr_49))) (lm (v':=(vV (aF 0) 1 (s_28.1.take ((s_28.2.1).toNat)++List.replicate (((s_28.1.length:Int)).toNat-(s_28.2.1).toNat) 0++s_28.1.drop (((s_28.2.1).toNat)+(((s_28.1.length:Int)).toNat-(s_28.2.1).toNat))))) 54 rfl (EW (Er (yQ hr_49))) (af (aj (aa (vV (aF 0) 1 (s_28.1.take ((s_28.2.1).toNat)++List.replicate (((s_28.1.length:Int)).toNat-(s_28.2.1).toNat) 0++s_28.1.drop (((s_28.2.1).toNat)+(((s_28.1.length:Int)).toNat-(s_28.2.1).toNat)))) (aa (vI s_28.2.1) ?_)))))))
       obtain ⟨_,hr_50,hc_9⟩:=bind_some hc_9
       refine NQ pV sz3 rfl rfl hr_50 wz (aa (.vs (aF 0) 1 0 ((s_28.2.1).toNat)) (af (EY 0 rfl (En 0 0 rfl rfl (MG 2 0 rfl rfl (yQ hr_50) (En 54 0 rfl rfl (En 57 0 rfl rfl (MG 59 0 rfl rfl (yQ hr_50) (FM (i:=0) rfl ?_)))))))))
       obtain rfl:=ae hc_9
       obtain rfl:=ae hL_10
       obtain rfl:=ae hF
       exact ay (Jk (bs:=([]:List Box)) (os:=([]:List Box)) (xs:=s_1) (o:=none) (.inr rfl) [(vL eI (cutL (s_28.1.take ((s_28.2.1).toNat)++List.replicate (((s_28.1.length:Int)).toNat-(s_28.2.1).toNat) 0++s_28.1.drop (((s_28.2.1).toNat)+(((s_28.1.length:Int)).toNat-(s_28.2.1).toNat))) 0 ((s_28.2.1).toNat)))] ⟨rfl,trivial⟩ rfl rfl rfl rfl rfl (by kernel_rfl) Bt rfl)
     ·refine aA rfl hc_20 (ax (av (aa (vI s_8) (aa (vI (w64 (s_8+1))) (aa (vI (w64 (s_8+1))) (af ?_))))))
      obtain rfl:=ae hc_9
      exact aY (k_3,(w64 (s_8+1))) hL_10 (ls_ _) rfl (aL rfl)
    ·refine aA rfl hc_13 (bg ?_)
     obtain rfl:=ae hc_9
     obtain rfl:=ae hL_10
     exact aZ (s_8) rfl rfl (aL rfl)
  ·rintro s_8 ho_ sl_ H_ hp_ hq_
   subst ho_
   refine aQ _ hp_ hq_ (aj (aa (dV (aF 0) 1 s_1) (aa (dV (aF 0) 1 s_1) (af (gH 0 rfl (xJ 0 0 rfl rfl (xJ 2 0 rfl rfl (xJ 60 0 rfl rfl (FM (i:=0) rfl ?_)))))))))
   obtain rfl:=ae hF
   exact ay (Jk (bs:=([]:List Box)) (os:=([]:List Box)) (xs:=s_1) (o:=none) (.inr rfl) [(vL eI s_1)] ⟨rfl,trivial⟩ rfl rfl rfl rfl rfl (by kernel_rfl) Bt rfl)
theorem zm {a_1:Run} {b_2:Run} {r:Int} (hF:rM a_1 b_2=some r) :
  FnM Tryz.prog 110 [(.d (.agg (Run.enc a_1))),(.d (.agg (Run.enc b_2)))] [] (vI r) []:=by
 refine FnM.of_wH ⟨Tryz.prog,10,[],[]⟩ rfl Tryz.func110 rfl rfl (lb_ rfl) (by kernel_rfl) ?_
 unfold rM at hF
 refine aj (ik 0 (.inl rfl) [(vI a_1.f_from),(vI a_1.f_to)] rfl rfl wz (λn_3=>ik 0 (.inl rfl) [(vI b_2.f_from),(vI b_2.f_to)] rfl rfl wz (λn_4=>aa (vI 0) (af (aj (aI kr rfl 0 rfl wz (aG 0 0 il ft sz3 ag3 rfl rfl (vI a_1.f_from) rfl wz (aI kr rfl 0 rfl wz (aG 0 1 il ft sz3 ag3 rfl rfl (vI b_2.f_from) rfl wz (aa (vI (w64 (a_1.f_from-b_2.f_from))) (aa (vI (w64 (a_1.f_from-b_2.f_from))) (af ?_))))))))))))
 obtain rfl:=ae hF
 exact ay (aK [(vI (w64 (a_1.f_from-b_2.f_from)))] ⟨rfl,trivial⟩)
end Go.Proofs.YtigdobmllbakiaaGreatDoor.Law

