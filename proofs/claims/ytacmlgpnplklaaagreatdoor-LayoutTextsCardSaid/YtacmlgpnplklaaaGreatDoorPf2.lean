/-
 The machine computes these plain functions (written by a program of ours).
-/
import Derived.Test.YtacmlgpnplklaaaGreatDoorFacts
import Derived.Test.YtacmlgpnplklaaaGreatDoorDefs
import Derived.Test.YtacmlgpnplklaaaGreatDoorPf1
import Derived.Test.YtacmlgpnplklaaaGreatDoorShelf
open Go Go.Eng Go.Proofs
namespace Go.Proofs.YtacmlgpnplklaaaGreatDoor.Law
set_option maxRecDepth 100000
set_option linter.unusedVariables false
set_option maxHeartbeats 1000000
theorem qp {first_1:ByteArray} {numbers_2:(List Int)} {r:ByteArray} (hF:jC first_1 numbers_2=some r) :
  FnM Tryz.prog 24 [(vS first_1),(vL eI numbers_2)] [] (vS r) []:=by
 refine FnM.of_wH ⟨Tryz.prog,20,[],[]⟩ rfl Tryz.func24 rfl rfl (lb_ rfl) (by kernel_rfl) ?_
 unfold jC at hF
 refine ai (aa (vS (⟨#[]⟩:ByteArray)) (af (ak (ai (aa (vL eI numbers_2) (dH sO rfl wz (aa (vI 0) (af ?_))))))))
 obtain ⟨o_11,hj_12,hF⟩:=bind_some hF
 obtain ⟨hn_7,hj_12⟩:=bH hj_12
 refine fO (λ(s_8:ByteArray)=>[(0,(vS s_8))]) (λ(s_8:ByteArray)=>[]) (λ(k_3:Nat)=>(λ(s_8:ByteArray)=>[(0,(vS s_8)),(7,(vL eI numbers_2)),(8,(vI (numbers_2.length:Int))),(9,(vI (k_3:Int)))])) (λk x s=>gD k x s) o_11 numbers_2 first_1 hj_12 rfl (aK rfl) ?_ ?_
 ·rintro ⟨k_3,l_4,s_8⟩ ⟨hL_10,hD_6⟩
  dsimp only at hL_10 hD_6
  cases l_4 with
  | nil =>
   obtain rfl:=ae hL_10
   refine ai (aa (vB (decide ((k_3:Int)<(numbers_2.length:Int)))) (af ?_))
   refine ak (aA rfl (drop_nil hD_6) (bE ?_))
   exact bn (s_8) rfl rfl (aK rfl)
  | cons x_5 l_4 =>
   obtain ⟨c_,hc_9,hL_10⟩:=bind_some hL_10
   refine ai (aa (vB (decide ((k_3:Int)<(numbers_2.length:Int)))) (af ?_))
   refine ak (aC rfl (bN hD_6) (ax ?_))
   unfold gD at hc_9
   refine ak (aR (ai (eH iq rfl rfl (dz hD_6) rfl wz (bT sz3 ag3 rfl (vI x_5) rfl wz (aa (vI x_5) (af (av (aa (vS s_8) (aa (vI x_5) ?_)))))))))
   obtain ⟨r_13,hr_14,hc_9⟩:=bind_some hc_9
   refine aI (mo hr_14) rfl hb50 rfl rfl rfl rfl wz ?_
   obtain ⟨s_15,hz_16,hc_9⟩:=bind_some hc_9
   refine kr rfl rfl hz_16 wz ?_
   obtain ⟨s_17,hz_18,hc_9⟩:=bind_some hc_9
   refine kr rfl rfl hz_18 wz (aa (vS s_17) (af (av (gW (bX hD_6 hn_7) wz rfl (aa (vI ((k_3+1:Nat):Int)) (af ?_))))))
   obtain rfl:=ae hc_9
   exact bD (k_3+1,l_4,s_17) ⟨hL_10,bv hD_6⟩ (ls_ _) rfl (aK rfl)
 ·rintro s_8 ho_ sl_ H_ hp_ hq_
  subst ho_
  refine aS _ hp_ hq_ (ai (aa (vS s_8) (aa (vS s_8) (af ?_))))
  obtain rfl:=ae hF
  exact ay (aN [(vS s_8)] ⟨rfl,trivial⟩)
theorem Dc:pz Tryz.prog 23 56 54 9 :=
 Ha Tryz.lays166 Tryz.Builder_Extra_166
theorem CS:BldT Tryz.prog 54 9 5 :=
 ⟨by kernel_rfl,by kernel_rfl,by kernel_rfl,by kernel_rfl,by kernel_rfl,rfl⟩
theorem H6:rH Tryz.prog 25 56 :=
 strDoes Tryz.lays169 Tryz.Builder_Extra_169 rfl
theorem zw {l_1:Layout} {r:ByteArray×Int} (hF:je l_1=some r) :
  FnM Tryz.prog 6 [(.d (.agg (Layout.enc l_1)))] [] (.tup [(vS r.1),(vI r.2)]) []:=by
 refine FnM.of_wH ⟨Tryz.prog,54,[5],[]⟩ rfl Tryz.func6 rfl rfl (lb_ rfl) (by kernel_rfl) ?_
 unfold je at hF
 refine ai (o9 0 (.inl rfl) (Layout.v l_1) rfl rfl wz (λn_2=>aa (vS (⟨#[]⟩:ByteArray)) (aa (vI 0) (af (ak (ai (aJ 0 0 il ft iK nM rfl rfl (.d (.agg (Layout.enc l_1))) rfl wz ?_)))))))
 obtain ⟨r_3,hr_4,hF⟩:=bind_some hF
 refine aI (ll hr_4) rfl hb22 rfl rfl rfl rfl wz (aa (vI r_3) (af (ai (aa (vI r_3) (aa (vB (r_3 != 0)) (af ?_))))))
 rcases aj hF with⟨hc_5,hF⟩|⟨hc_5,hF⟩
 ·refine aC rfl hc_5 (ai (aa (vI r_3) (aa (vS (⟨#[]⟩:ByteArray)) (aa (vI r_3) (af ?_)))))
  obtain rfl:=ae hF
  exact ay (aN [(vS (⟨#[]⟩:ByteArray)),(vI r_3)] ⟨rfl,⟨rfl,trivial⟩⟩)
 ·refine aA rfl hc_5 (ax (ai (Jq 0 (.inl rfl) z56 wz (λn_6=>rC (λn_7=>FX (b':=some (.cells (1048576+56) [.any,gV n_7 1 ([]:List Int)])) 1 rfl rfl (af (ai (aF pY rfl 0 rfl wz (aJ 0 0 il ft sz9 ag9 rfl rfl (vS l_1.Key) rfl wz ?_)))))))))
  obtain ⟨s_8,hz_9,hF⟩:=bind_some hF
  refine kr rfl rfl hz_9 wz (aF mq rfl 1 rfl wz (aJ 0 0 il ft sz3 ag3 rfl rfl (vI l_1.W) rfl wz (aF lC rfl 2 rfl wz (aJ 0 0 il ft sz3 ag3 rfl rfl (vI l_1.H) rfl wz (gu (([l_1.W,l_1.H]:List Int).map eI) iq tF rfl rfl rfl rfl rfl wz ?_)))))
  obtain ⟨r_10,hr_11,hF⟩:=bind_some hF
  refine aI (qp hr_11) rfl hb24 rfl rfl rfl rfl wz ?_
  obtain ⟨s_12,hz_13,hF⟩:=bind_some hF
  refine kr rfl rfl hz_13 wz ?_
  obtain ⟨a_14,hz_15,hF⟩:=bind_some hF
  refine AY 0 1 2 il ft Dc CS rfl hb23 rfl rfl rfl rfl (by decide) hz_15 wz (λn_16=>af (ak (ai (aF iQ rfl 3 rfl wz (aJ 0 0 il ft qc uI rfl rfl (vL Zone.enc l_1.Zones) rfl wz (dH uV rfl wz (aa (vI 0) (af ?_))))))))
  obtain ⟨o_27,hj_28,hF⟩:=bind_some hF
  obtain ⟨hn_21,hj_28⟩:=bH hj_28
  refine iw (σ:=(List Int)) (N:=Nm) (λp=>(λ(s_22:List Int) (n_24:Nm)=>([(5,(.ref n_6 0 0))]:SL_)) p.1 p.2) (λp=>(λ(s_22:List Int) (n_24:Nm)=>([(n_2,some (.cells 4 (Layout.v l_1))),(n_6,some (.cells (1048576+56) [.any,(gV n_24 1 s_22)])),(n_24,gB 1 (eK .u8) s_22)]:Hp)) p.1 p.2) (λ(k_17:Nat)=>(λp=>(λ(s_22:List Int) (n_24:Nm)=>([(5,(.ref n_6 0 0)),(25,(vL Zone.enc l_1.Zones)),(26,(vI (l_1.Zones.length:Int))),(27,(vI (k_17:Int)))]:SL_)) p.1 p.2)) (λk x s=>iG k x s) o_27 l_1.Zones (a_14,n_16) hj_28 rfl (aK rfl) ?_ ?_
  ·rintro ⟨k_17,l_18,s_22,n_24⟩ ⟨hL_26,hD_20⟩
   dsimp only at hL_26 hD_20
   cases l_18 with
   | nil =>
    obtain rfl:=ae hL_26
    refine ai (aa (vB (decide ((k_17:Int)<(l_1.Zones.length:Int)))) (af ?_))
    refine ak (aA rfl (drop_nil hD_20) (bE ?_))
    exact bn (s_22,n_24) rfl rfl (aK rfl)
   | cons x_19 l_18 =>
    obtain ⟨c_,hc_25,hL_26⟩:=bind_some hL_26
    refine ai (aa (vB (decide ((k_17:Int)<(l_1.Zones.length:Int)))) (af ?_))
    refine ak (aC rfl (bN hD_20) (ax ?_))
    unfold iG at hc_25
    refine ak (aR (ai (eH xA rfl rfl (dz hD_20) rfl wz (bT pO ES rfl (.d (.agg (Zone.enc x_19))) rfl wz (dM 0 (.inl rfl) z49 rfl wz (λn_29=>bR 0 il ft 3 pO rfl rfl (Zone.v x_19) rfl wz (af (av (aF qE rfl 0 rfl wz (aJ 0 3 il ft sz9 ag9 rfl rfl (vS x_19.Key) rfl wz ?_))))))))))
    obtain ⟨s_30,hz_31,hc_25⟩:=bind_some hc_25
    refine kr rfl rfl hz_31 wz (aF jJ rfl 1 rfl wz (aF kU rfl 1 rfl wz (aJ 0 3 il ft sz3 ag3 rfl rfl (vI x_19.On.X) rfl wz (aF jJ rfl 1 rfl wz (aF jI rfl 2 rfl wz (aJ 0 3 il ft sz3 ag3 rfl rfl (vI x_19.On.Y) rfl wz (aF jJ rfl 1 rfl wz (aF oM rfl 3 rfl wz (aJ 0 3 il ft sz3 ag3 rfl rfl (vI x_19.On.W) rfl wz (aF jJ rfl 1 rfl wz (aF mg rfl 4 rfl wz (aJ 0 3 il ft sz3 ag3 rfl rfl (vI x_19.On.H) rfl wz (aF BA rfl 5 rfl wz (aJ 0 3 il ft sz3 ag3 rfl rfl (vI x_19.Order) rfl wz (gu (([x_19.On.X,x_19.On.Y,x_19.On.W,x_19.On.H,x_19.Order]:List Int).map eI) iq tF rfl rfl rfl rfl rfl wz ?_)))))))))))))))
    obtain ⟨r_32,hr_33,hc_25⟩:=bind_some hc_25
    refine aI (qp hr_33) rfl hb24 rfl rfl rfl rfl wz ?_
    obtain ⟨s_34,hz_35,hc_25⟩:=bind_some hc_25
    refine kr rfl rfl hz_35 wz ?_
    obtain ⟨a_36,hz_37,hc_25⟩:=bind_some hc_25
    refine AY 0 1 2 il ft Dc CS rfl hb23 rfl rfl rfl rfl (by decide) hz_37 wz (λn_38=>af (av (gW (bX hD_20 hn_21) wz rfl (aa (vI ((k_17+1:Nat):Int)) (af ?_)))))
    obtain rfl:=ae hc_25
    exact bD (k_17+1,l_18,a_36,n_38) ⟨hL_26,bv hD_20⟩ (ls_ _) rfl (aK rfl)
  ·rintro ⟨s_22,n_24⟩ ho_ sl_ H_ hp_ hq_
   subst ho_
   refine aS _ hp_ hq_ (ai ?_)
   obtain ⟨s_39,hz_40,hF⟩:=bind_some hF
   refine h_bstrL 0 1 2 il ft H6 rfl hb25 rfl rfl rfl (by decide) hz_40 wz (aa (vS s_39) (aa (vI 0) (af ?_)))
   obtain rfl:=ae hF
   exact ay (aN [(vS s_39),(vI 0)] ⟨rfl,⟨rfl,trivial⟩⟩)
theorem lF {n_1:Int} {low_2:Int} {high_3:Int} {r:Bool} (hF:mG n_1 low_2 high_3=some r) :
  FnM Tryz.prog 30 [(vI n_1),(vI low_2),(vI high_3)] [] (vB r) []:=by
 refine FnM.of_wH ⟨Tryz.prog,15,[],[]⟩ rfl Tryz.func30 rfl rfl (lb_ rfl) (by kernel_rfl) ?_
 unfold mG at hF
 refine ai (aa (vB false) (af (ak ?_)))
 obtain ⟨v_4,h_5,hF⟩:=bind_some hF
 refine aU [(6,(vB v_4))] [] ?_ ?_
 ·refine av (aa (vI low_2) (aa (vI n_1) (aa (vB (decide (low_2<=n_1))) ?_)))
  rcases aj h_5 with⟨hc_6,h_5⟩|⟨hc_6,h_5⟩
  ·refine aD rfl hc_6 wz (aH (vI n_1) wa rfl (aH (vI high_3) wa rfl (aH (vB (decide (n_1<=high_3))) wa rfl (aa (vB (decide (n_1<=high_3))) (aa (vB (decide (n_1<=high_3))) (af ?_))))))
   obtain rfl:=ae h_5
   exact cu
  ·refine aD rfl hc_6 wz (ah (ah (ah (aa (vB false) (aa (vB false) (af ?_))))))
   obtain rfl:=ae h_5
   exact cu
 ·rintro ⟨⟩ _ sl_ H_ hp_ hq_
  refine aS _ hp_ hq_ ?_
  obtain rfl:=ae hF
  exact ay (aN [(vB v_4)] ⟨rfl,trivial⟩)
theorem gy {s_1:ByteArray} {c_2:Int} {r:Int} (hF:bU s_1 c_2=some r) :
  FnM Tryz.prog 80 [(vS s_1),(.d (.int .u8 c_2))] [] (vI r) []:=by
 refine FnM.of_wH ⟨Tryz.prog,8,[],[]⟩ rfl Tryz.func80 rfl rfl (lb_ rfl) (by kernel_rfl) ?_
 unfold bU at hF
 refine ai (aa (vI 0) (af (ai (aa (vS s_1) (aa (.d (.int .u8 c_2)) (h_ext (ext_ixB (f:=99) Tryz.func99 rfl rfl (by kernel_rfl) (by kernel_rfl) _ _) rfl nb99 rfl wz (aa (vI (ixB s_1 c_2)) (af ?_))))))))
 obtain rfl:=ae hF
 exact ay (aN [(vI (ixB s_1 c_2))] ⟨rfl,trivial⟩)
theorem qQ {s_1:ByteArray} {c_2:Int} {r:Int} (hF:strings_IndexByte s_1 c_2=some r) :
  FnM Tryz.prog 65 [(vS s_1),(.d (.int .u8 c_2))] [] (vI r) []:=by
 refine FnM.of_wH ⟨Tryz.prog,8,[],[]⟩ rfl Tryz.func65 rfl rfl (lb_ rfl) (by kernel_rfl) ?_
 unfold strings_IndexByte at hF
 refine ai (aa (vI 0) (af (ai (aa (vS s_1) (aa (.d (.int .u8 c_2)) ?_)))))
 obtain ⟨r_3,hr_4,hF⟩:=bind_some hF
 refine aI (gy hr_4) rfl hb80 rfl rfl rfl rfl wz (aa (vI r_3) (af ?_))
 obtain rfl:=ae hF
 exact ay (aN [(vI r_3)] ⟨rfl,trivial⟩)
theorem qB {s_1:ByteArray} {somev_2:ByteArray} {r:Bool} (hF:lU s_1 somev_2=some r) :
  FnM Tryz.prog 51 [(vS s_1),(vS somev_2)] [] (vB r) []:=by
 refine FnM.of_wH ⟨Tryz.prog,18,[],[]⟩ rfl Tryz.func51 rfl rfl (lb_ rfl) (by kernel_rfl) ?_
 unfold lU at hF
 refine ai (aa (vB false) (af (ak (ai (aa (vS s_1) (iX un9 rfl wz (aa (vI 0) (af ?_))))))))
 obtain ⟨o_11,hj_12,hF⟩:=bind_some hF
 obtain ⟨hn_7,hj_12⟩:=bH hj_12
 refine fO (λ(s_8:Unit)=>[]) (λ(s_8:Unit)=>[]) (λ(k_3:Nat)=>(λ(s_8:Unit)=>[(0,(vS s_1)),(1,(vS somev_2)),(7,(vI (s_1.size:Int))),(8,(vI (k_3:Int)))])) (λk x s=>kv s_1 somev_2 k x s) o_11 (List.range ((s_1.size:Int)).toNat) () hj_12 rfl (aK rfl) ?_ ?_
 ·rintro ⟨k_3,l_4,s_8⟩ ⟨hL_10,hD_6⟩
  dsimp only at hL_10 hD_6
  cases l_4 with
  | nil =>
   obtain rfl:=ae hL_10
   refine ai (aa (vB (decide ((k_3:Int)<(s_1.size:Int)))) (af ?_))
   refine ak (aA rfl (AP hD_6) (bE ?_))
   exact bn (s_8) rfl rfl (aK rfl)
  | cons x_5 l_4 =>
   obtain ⟨c_,hc_9,hL_10⟩:=bind_some hL_10
   refine ai (aa (vB (decide ((k_3:Int)<(s_1.size:Int)))) (af ?_))
   refine ak (aC rfl (yH hD_6) (ax ?_))
   unfold kv at hc_9
   refine ak (aR (ai (aa (vI (k_3:Int)) (aa (vI (k_3:Int)) (af (ai (aa (vS somev_2) (aa (vS s_1) (aa (vI (k_3:Int)) ?_)))))))))
   obtain ⟨b_13,hy_14,hc_9⟩:=bind_some hc_9
   refine qK un9 rfl rfl hy_14 wz ?_
   obtain ⟨r_15,hr_16,hc_9⟩:=bind_some hc_9
   refine aI (qQ hr_16) rfl hb65 rfl rfl rfl rfl wz (aa (vB (decide (r_15<0))) (af ?_))
   rcases aj hc_9 with⟨hc_17,hc_9⟩|⟨hc_17,hc_9⟩
   ·refine aC rfl hc_17 (ai (aa (vB false) (af ?_)))
    obtain rfl:=ae hc_9
    obtain rfl:=ae hL_10
    obtain rfl:=ae hF
    exact ay (aN [(vB false)] ⟨rfl,trivial⟩)
   ·refine aA rfl hc_17 (ax (av (gW (Ae hD_6 hn_7) wz rfl (aa (vI ((k_3+1:Nat):Int)) (af ?_)))))
    obtain rfl:=ae hc_9
    exact bD (k_3+1,l_4,()) ⟨hL_10,bv hD_6⟩ (ls_ _) rfl (aK rfl)
 ·rintro s_8 ho_ sl_ H_ hp_ hq_
  subst ho_
  refine aS _ hp_ hq_ (ai (aa (vB true) (af ?_)))
  obtain rfl:=ae hF
  exact ay (aN [(vB true)] ⟨rfl,trivial⟩)
theorem yJ {s_1:ByteArray} {r:Bool} (hF:rM s_1=some r) :
  FnM Tryz.prog 26 [(vS s_1)] [] (vB r) []:=by
 refine FnM.of_wH ⟨Tryz.prog,15,[],[]⟩ rfl Tryz.func26 rfl rfl (lb_ rfl) (by kernel_rfl) ?_
 unfold rM at hF
 refine ai (aa (vB false) (af (ak ?_)))
 obtain ⟨v_2,h_3,hF⟩:=bind_some hF
 refine aU [(2,(vB v_2))] [] ?_ ?_
 ·refine av (aa (vS s_1) (iX un9 rfl wz ?_))
  obtain ⟨r_4,hr_5,h_3⟩:=bind_some h_3
  refine aI (lF hr_5) rfl Ev rfl rfl rfl rfl wz ?_
  rcases aj h_3 with⟨hc_6,h_3⟩|⟨hc_6,h_3⟩
  ·refine aD rfl hc_6 wz (aH (vS s_1) wa rfl ?_)
   obtain ⟨y_7,hy_8,h_3⟩:=bind_some h_3
   refine ib un9 rfl rfl hy_8 wa ?_
   obtain ⟨r_9,hr_10,h_3⟩:=bind_some h_3
   refine aI (qB hr_10) rfl hb51 rfl rfl rfl rfl wa (aa (vB r_9) ?_)
   rcases aj h_3 with⟨hc_11,h_3⟩|⟨hc_11,h_3⟩
   ·refine aD rfl hc_11 wz (aH (vS s_1) wa rfl ?_)
    obtain ⟨r_12,hr_13,h_3⟩:=bind_some h_3
    refine aI (qB hr_13) rfl hb51 rfl rfl rfl rfl wa (aa (vB r_12) (aa (vB r_12) (af ?_)))
    obtain rfl:=ae h_3
    exact cu
   ·refine aD rfl hc_11 wz (ah (ah (aa (vB false) (aa (vB false) (af ?_)))))
    obtain rfl:=ae h_3
    exact cu
  ·refine aD rfl hc_6 wz (ah (ah (ah (aa (vB false) (aa (vB false) (ah (ah (aa (vB false) (aa (vB false) (af ?_))))))))))
   obtain rfl:=ae h_3
   exact cu
 ·rintro ⟨⟩ _ sl_ H_ hp_ hq_
  refine aS _ hp_ hq_ ?_
  obtain rfl:=ae hF
  exact ay (aN [(vB v_2)] ⟨rfl,trivial⟩)
theorem wR {n_1:Int} {r:Bool} (hF:pG n_1=some r) :
  FnM Tryz.prog 27 [(vI n_1)] [] (vB r) []:=by
 refine FnM.of_wH ⟨Tryz.prog,5,[],[]⟩ rfl Tryz.func27 rfl rfl (lb_ rfl) (by kernel_rfl) ?_
 unfold pG at hF
 refine ai (aa (vB false) (af (ai (aa (vI n_1) ?_))))
 obtain ⟨r_2,hr_3,hF⟩:=bind_some hF
 refine aI (lF hr_3) rfl Ev rfl rfl rfl rfl wz (aa (vB r_2) (af ?_))
 obtain rfl:=ae hF
 exact ay (aN [(vB r_2)] ⟨rfl,trivial⟩)
theorem wh {r_1:Rect} {r:Int} (hF:jN r_1=some r) :
  FnM Tryz.prog 28 [(.d (.agg (Rect.enc r_1)))] [] (vI r) []:=by
 refine FnM.of_wH ⟨Tryz.prog,31,[],[]⟩ rfl Tryz.func28 rfl rfl (lb_ rfl) (by kernel_rfl) ?_
 unfold jN at hF
 refine ai (o9 0 (.inl rfl) (Rect.v r_1) rfl rfl wz (λn_2=>aa (vI 0) (af (ak (ak ?_)))))
 obtain ⟨v_3,h_4,hF⟩:=bind_some hF
 refine aU [(30,(vB v_3))] [(n_2,some (.cells 4 (Rect.v r_1)))] ?_ ?_
 ·refine av (aF kU rfl 0 rfl wz (aJ 0 0 il ft sz3 ag3 rfl rfl (vI r_1.X) rfl wz ?_))
  obtain ⟨r_5,hr_6,h_4⟩:=bind_some h_4
  refine aI (lF hr_6) rfl Ev rfl rfl rfl rfl wz (aa (vB (!r_5)) ?_)
  rcases aj h_4 with⟨hc_7,h_4⟩|⟨hc_7,h_4⟩
  ·refine aD rfl hc_7 wz (ah (ah (ah (ah (aa (vB true) (aa (vB true) (ah (ah (ah (ah (ah (ah (ah (aa (vB true) (aa (vB true) (ah (ah (ah (ah (ah (ah (ah (aa (vB true) ?_)))))))))))))))))))))))
   refine af ?_
   obtain rfl:=ae h_4
   exact cu
  ·refine aD rfl hc_7 wz (aF jI rfl 1 rfl wa (aJ 0 0 il ft sz3 ag3 rfl rfl (vI r_1.Y) rfl wa ?_))
   obtain ⟨r_8,hr_9,h_4⟩:=bind_some h_4
   refine aI (lF hr_9) rfl Ev rfl rfl rfl rfl wa (aH (vB (!r_8)) wa rfl (aa (vB (!r_8)) ?_))
   rcases aj h_4 with⟨hc_10,h_4⟩|⟨hc_10,h_4⟩
   ·refine aD rfl hc_10 wz (ah (ah (ah (ah (ah (ah (ah (aa (vB true) (aa (vB true) (ah (ah (ah (ah (ah (ah (ah (aa (vB true) (af ?_))))))))))))))))))
    obtain rfl:=ae h_4
    exact cu
   ·refine aD rfl hc_10 wz (aF oM rfl 2 rfl wa (aJ 0 0 il ft sz3 ag3 rfl rfl (vI r_1.W) rfl wa (aF kU rfl 0 rfl wa (aJ 0 0 il ft sz3 ag3 rfl rfl (vI r_1.X) rfl wa (aH (vI (w64 (100000-r_1.X))) wa rfl ?_)))))
    obtain ⟨r_11,hr_12,h_4⟩:=bind_some h_4
    refine aI (lF hr_12) rfl Ev rfl rfl rfl rfl wa (aH (vB (!r_11)) wa rfl (aa (vB (!r_11)) ?_))
    rcases aj h_4 with⟨hc_13,h_4⟩|⟨hc_13,h_4⟩
    ·refine aD rfl hc_13 wz (ah (ah (ah (ah (ah (ah (ah (aa (vB true) (af ?_)))))))))
     obtain rfl:=ae h_4
     exact cu
    ·refine aD rfl hc_13 wz (aF mg rfl 3 rfl wa (aJ 0 0 il ft sz3 ag3 rfl rfl (vI r_1.H) rfl wa (aF jI rfl 1 rfl wa (aJ 0 0 il ft sz3 ag3 rfl rfl (vI r_1.Y) rfl wa (aH (vI (w64 (100000-r_1.Y))) wa rfl ?_)))))
     obtain ⟨r_14,hr_15,h_4⟩:=bind_some h_4
     refine aI (lF hr_15) rfl Ev rfl rfl rfl rfl wa (aH (vB (!r_14)) wa rfl (aa (vB (!r_14)) (af ?_)))
     obtain rfl:=ae h_4
     exact cu
 ·rintro ⟨⟩ _ sl_ H_ hp_ hq_
  refine aS _ hp_ hq_ ?_
  rcases aj hF with⟨hc_16,hF⟩|⟨hc_16,hF⟩
  ·refine aC rfl hc_16 (ai (aa (vI 1) (af ?_)))
   obtain rfl:=ae hF
   exact ay (aN [(vI 1)] ⟨rfl,trivial⟩)
  ·refine aA rfl hc_16 (ax (ai (aa (vI 0) (af ?_))))
   obtain rfl:=ae hF
   exact ay (aN [(vI 0)] ⟨rfl,trivial⟩)
theorem zB {r_1:Rect} {wv_2:Int} {h_3:Int} {r:Bool} (hF:p8 r_1 wv_2 h_3=some r) :
  FnM Tryz.prog 29 [(.d (.agg (Rect.enc r_1))),(vI wv_2),(vI h_3)] [] (vB r) []:=by
 refine FnM.of_wH ⟨Tryz.prog,33,[],[]⟩ rfl Tryz.func29 rfl rfl (lb_ rfl) (by kernel_rfl) ?_
 unfold p8 at hF
 refine ai (o9 0 (.inl rfl) (Rect.v r_1) rfl rfl wz (λn_4=>aa (vB false) (af (ak ?_))))
 obtain ⟨v_5,h_6,hF⟩:=bind_some hF
 refine aU [(6,(vB v_5))] [(n_4,some (.cells 4 (Rect.v r_1)))] ?_ ?_
 ·refine av (aF kU rfl 0 rfl wz (aJ 0 0 il ft sz3 ag3 rfl rfl (vI r_1.X) rfl wz (aa (vB (decide (r_1.X>=0))) ?_)))
  rcases aj h_6 with⟨hc_7,h_6⟩|⟨hc_7,h_6⟩
  ·refine aD rfl hc_7 wz (aF jI rfl 1 rfl wa (aJ 0 0 il ft sz3 ag3 rfl rfl (vI r_1.Y) rfl wa (aH (vB (decide (r_1.Y>=0))) wa rfl (aa (vB (decide (r_1.Y>=0))) ?_))))
   rcases aj h_6 with⟨hc_8,h_6⟩|⟨hc_8,h_6⟩
   ·refine aD rfl hc_8 wz (aF kU rfl 0 rfl wa (aJ 0 0 il ft sz3 ag3 rfl rfl (vI r_1.X) rfl wa (aF oM rfl 2 rfl wa (aJ 0 0 il ft sz3 ag3 rfl rfl (vI r_1.W) rfl wa (aH (vI (w64 (r_1.X+r_1.W))) wa rfl (aH (vI wv_2) wa rfl (aH (vB (decide ((w64 (r_1.X+r_1.W))<=wv_2))) wa rfl (aa (vB (decide ((w64 (r_1.X+r_1.W))<=wv_2))) ?_))))))))
    rcases aj h_6 with⟨hc_9,h_6⟩|⟨hc_9,h_6⟩
    ·refine aD rfl hc_9 wz (aF jI rfl 1 rfl wa (aJ 0 0 il ft sz3 ag3 rfl rfl (vI r_1.Y) rfl wa (aF mg rfl 3 rfl wa (aJ 0 0 il ft sz3 ag3 rfl rfl (vI r_1.H) rfl wa (aH (vI (w64 (r_1.Y+r_1.H))) wa rfl (aH (vI h_3) wa rfl (aH (vB (decide ((w64 (r_1.Y+r_1.H))<=h_3))) wa rfl (aa (vB (decide ((w64 (r_1.Y+r_1.H))<=h_3))) (aa (vB (decide ((w64 (r_1.Y+r_1.H))<=h_3))) (af ?_))))))))))
     obtain rfl:=ae h_6
     exact cu
    ·refine aD rfl hc_9 wz (ah (ah (ah (ah (ah (ah (ah (aa (vB false) (aa (vB false) (af ?_))))))))))
     obtain rfl:=ae h_6
     exact cu
   ·refine aD rfl hc_8 wz (ah (ah (ah (ah (ah (ah (ah (aa (vB false) (aa (vB false) (ah (ah (ah (ah (ah (ah (ah (aa (vB false) (aa (vB false) (af ?_)))))))))))))))))))
    obtain rfl:=ae h_6
    exact cu
  ·refine aD rfl hc_7 wz (ah (ah (ah (aa (vB false) (aa (vB false) (ah (ah (ah (ah (ah (ah (ah (aa (vB false) (aa (vB false) (ah (ah (ah (ah (ah (ah (ah (aa (vB false) (aa (vB false) ?_)))))))))))))))))))))))
   refine af ?_
   obtain rfl:=ae h_6
   exact cu
 ·rintro ⟨⟩ _ sl_ H_ hp_ hq_
  refine aS _ hp_ hq_ ?_
  obtain rfl:=ae hF
  exact ay (aN [(vB v_5)] ⟨rfl,trivial⟩)
theorem nZ {l_1:Layout} {r:Int} (hF:fE l_1=some r) :
  FnM Tryz.prog 7 [(.d (.agg (Layout.enc l_1)))] [] (vI r) []:=by
 refine FnM.of_wH ⟨Tryz.prog,67,[],[]⟩ rfl Tryz.func7 rfl rfl (lb_ rfl) (by kernel_rfl) ?_
 unfold fE at hF
 refine ai (o9 0 (.inl rfl) (Layout.v l_1) rfl rfl wz (λn_2=>aa (vI 0) (af (ak (aR (ai (aF pY rfl 0 rfl wz (aJ 0 0 il ft sz9 ag9 rfl rfl (vS l_1.Key) rfl wz ?_))))))))
 obtain ⟨r_3,hr_4,hF⟩:=bind_some hF
 refine aI (yJ hr_4) rfl hb26 rfl rfl rfl rfl wz (aa (vB (!r_3)) (aa (vB (!r_3)) (af ?_)))
 rcases aj hF with⟨hc_5,hF⟩|⟨hc_5,hF⟩
 ·refine aC rfl hc_5 (ai (aa (vI 5) (af ?_)))
  obtain rfl:=ae hF
  exact ay (aN [(vI 5)] ⟨rfl,trivial⟩)
 ·refine aA rfl hc_5 (ak ?_)
  obtain ⟨v_6,h_7,hF⟩:=bind_some hF
  refine aU [(1,(.ref n_2 0 0)),(12,(vB v_6))] [(n_2,some (.cells 4 (Layout.v l_1)))] ?_ ?_
  ·refine av (aF mq rfl 1 rfl wz (aJ 0 0 il ft sz3 ag3 rfl rfl (vI l_1.W) rfl wz ?_))
   obtain ⟨r_8,hr_9,h_7⟩:=bind_some h_7
   refine aI (wR hr_9) rfl hb27 rfl rfl rfl rfl wz (aa (vB (!r_8)) ?_)
   rcases aj h_7 with⟨hc_10,h_7⟩|⟨hc_10,h_7⟩
   ·refine aD rfl hc_10 wz (ah (ah (ah (ah (aa (vB true) (aa (vB true) (af ?_)))))))
    obtain rfl:=ae h_7
    exact cu
   ·refine aD rfl hc_10 wz (aF lC rfl 2 rfl wa (aJ 0 0 il ft sz3 ag3 rfl rfl (vI l_1.H) rfl wa ?_))
    obtain ⟨r_11,hr_12,h_7⟩:=bind_some h_7
    refine aI (wR hr_12) rfl hb27 rfl rfl rfl rfl wa (aH (vB (!r_11)) wa rfl (aa (vB (!r_11)) (aa (vB (!r_11)) (af ?_))))
    obtain rfl:=ae h_7
    exact cu
  ·rintro ⟨⟩ _ sl_ H_ hp_ hq_
   refine aS _ hp_ hq_ ?_
   rcases aj hF with⟨hc_13,hF⟩|⟨hc_13,hF⟩
   ·refine aC rfl hc_13 (ai (aa (vI 1) (af ?_)))
    obtain rfl:=ae hF
    exact ay (aN [(vI 1)] ⟨rfl,trivial⟩)
   ·refine aA rfl hc_13 (ai (aF iQ rfl 3 rfl wz (aJ 0 0 il ft qc uI rfl rfl (vL Zone.enc l_1.Zones) rfl wz (dH uV rfl wz (aa (vB (decide ((l_1.Zones.length:Int)>30))) (aa (vB (decide ((l_1.Zones.length:Int)>30))) (af ?_)))))))
    rcases aj hF with⟨hc_14,hF⟩|⟨hc_14,hF⟩
    ·refine aC rfl hc_14 (ai (aa (vI 2) (af ?_)))
     obtain rfl:=ae hF
     exact ay (aN [(vI 2)] ⟨rfl,trivial⟩)
    ·refine aA rfl hc_14 (ax (ai (aa (vS (⟨#[]⟩:ByteArray)) (af (ak (ai (aF iQ rfl 3 rfl wz (aJ 0 0 il ft qc uI rfl rfl (vL Zone.enc l_1.Zones) rfl wz (dH uV rfl wz (aa (vI 0) (af ?_)))))))))))
     obtain ⟨o_23,hj_24,hF⟩:=bind_some hF
     obtain ⟨hn_19,hj_24⟩:=bH hj_24
     refine fO (λ(s_20:ByteArray)=>[]) (λ(s_20:ByteArray)=>[(n_2,some (.cells 4 (Layout.v l_1)))]) (λ(k_15:Nat)=>(λ(s_20:ByteArray)=>[(1,(.ref n_2 0 0)),(3,(vS s_20)),(29,(vL Zone.enc l_1.Zones)),(30,(vI (l_1.Zones.length:Int))),(31,(vI (k_15:Int)))])) (λk x s=>fZ l_1 k x s) o_23 l_1.Zones (⟨#[]⟩:ByteArray) hj_24 rfl (aK rfl) ?_ ?_
     ·rintro ⟨k_15,l_16,s_20⟩ ⟨hL_22,hD_18⟩
      dsimp only at hL_22 hD_18
      cases l_16 with
      | nil =>
       obtain rfl:=ae hL_22
       refine ai (aa (vB (decide ((k_15:Int)<(l_1.Zones.length:Int)))) (af ?_))
       refine ak (aA rfl (drop_nil hD_18) (bE ?_))
       exact bn (s_20) rfl rfl (aK rfl)
      | cons x_17 l_16 =>
       obtain ⟨c_,hc_21,hL_22⟩:=bind_some hL_22
       refine ai (aa (vB (decide ((k_15:Int)<(l_1.Zones.length:Int)))) (af ?_))
       refine ak (aC rfl (bN hD_18) (ax ?_))
       unfold fZ at hc_21
       refine ak (aR (ai (eH xA rfl rfl (dz hD_18) rfl wz (bT pO ES rfl (.d (.agg (Zone.enc x_17))) rfl wz (dM 0 (.inl rfl) z49 rfl wz (λn_25=>bR 0 il ft 1 pO rfl rfl (Zone.v x_17) rfl wz (af (ak (ai (aF qE rfl 0 rfl wz (aJ 0 1 il ft sz9 ag9 rfl rfl (vS x_17.Key) rfl wz ?_)))))))))))
       obtain ⟨r_26,hr_27,hc_21⟩:=bind_some hc_21
       refine aI (yJ hr_27) rfl hb26 rfl rfl rfl rfl wz (aa (vB (!r_26)) (af ?_))
       rcases aj hc_21 with⟨hc_28,hc_21⟩|⟨hc_28,hc_21⟩
       ·refine aC rfl hc_28 (ai (aa (vI 5) (af ?_)))
        obtain rfl:=ae hc_21
        obtain rfl:=ae hL_22
        obtain rfl:=ae hF
        exact ay (aN [(vI 5)] ⟨rfl,trivial⟩)
       ·refine aA rfl hc_28 (ax (ak (ai (aF jJ rfl 1 rfl wz (aJ 0 1 il ft nC xx rfl rfl (.d (.agg (Rect.enc x_17.On))) rfl wz ?_)))))
        obtain ⟨r_29,hr_30,hc_21⟩:=bind_some hc_21
        refine aI (wh hr_30) rfl hb28 rfl rfl rfl rfl wz (aa (vI r_29) (af (ai (aa (vI r_29) (aa (vB (r_29 != 0)) (af ?_))))))
        rcases aj hc_21 with⟨hc_31,hc_21⟩|⟨hc_31,hc_21⟩
        ·refine aC rfl hc_31 (ai (aa (vI r_29) (aa (vI r_29) (af ?_))))
         obtain rfl:=ae hc_21
         obtain rfl:=ae hL_22
         obtain rfl:=ae hF
         exact ay (aN [(vI r_29)] ⟨rfl,trivial⟩)
        ·refine aA rfl hc_31 (ax (ak (aR (ai (aF jJ rfl 1 rfl wz (aJ 0 1 il ft nC xx rfl rfl (.d (.agg (Rect.enc x_17.On))) rfl wz (aF mq rfl 1 rfl wz (aJ 0 0 il ft sz3 ag3 rfl rfl (vI l_1.W) rfl wz (aF lC rfl 2 rfl wz (aJ 0 0 il ft sz3 ag3 rfl rfl (vI l_1.H) rfl wz ?_))))))))))
         obtain ⟨r_32,hr_33,hc_21⟩:=bind_some hc_21
         refine aI (zB hr_33) rfl hb29 rfl rfl rfl rfl wz (aa (vB (!r_32)) (aa (vB (!r_32)) (af ?_)))
         rcases aj hc_21 with⟨hc_34,hc_21⟩|⟨hc_34,hc_21⟩
         ·refine aC rfl hc_34 (ai (aa (vI 3) (af ?_)))
          obtain rfl:=ae hc_21
          obtain rfl:=ae hL_22
          obtain rfl:=ae hF
          exact ay (aN [(vI 3)] ⟨rfl,trivial⟩)
         ·refine aA rfl hc_34 (ai (aF BA rfl 5 rfl wz (aJ 0 1 il ft sz3 ag3 rfl rfl (vI x_17.Order) rfl wz ?_)))
          obtain ⟨r_35,hr_36,hc_21⟩:=bind_some hc_21
          refine aI (lF hr_36) rfl Ev rfl rfl rfl rfl wz (aa (vB (!r_35)) (aa (vB (!r_35)) (af ?_)))
          rcases aj hc_21 with⟨hc_37,hc_21⟩|⟨hc_37,hc_21⟩
          ·refine aC rfl hc_37 (ai (aa (vI 1) (af ?_)))
           obtain rfl:=ae hc_21
           obtain rfl:=ae hL_22
           obtain rfl:=ae hF
           exact ay (aN [(vI 1)] ⟨rfl,trivial⟩)
          ·refine aA rfl hc_37 (ai (aF qE rfl 0 rfl wz (aJ 0 1 il ft sz9 ag9 rfl rfl (vS x_17.Key) rfl wz (aa (vS s_20) (aa (vB (sLe x_17.Key s_20)) (aa (vB (sLe x_17.Key s_20)) (af (aS (H0:=([(n_2,some (.cells 4 (Layout.v l_1))),(n_25,some (.cells 6 (Zone.v x_17)))]:Hp)) ([(1,(.ref n_2 0 0)),(5,(.ref n_25 0 0)),(29,(vL Zone.enc l_1.Zones)),(30,(vI (l_1.Zones.length:Int))),(31,(vI (k_15:Int))),(59,(vB (sLe x_17.Key s_20)))]:SL_) (by kernel_rfl) (Bq (by kernel_rfl)) ?_))))))))
           rcases aj hc_21 with⟨hc_38,hc_21⟩|⟨hc_38,hc_21⟩
           ·refine aC rfl hc_38 (ai (aa (vI 7) (af ?_)))
            obtain rfl:=ae hc_21
            obtain rfl:=ae hL_22
            obtain rfl:=ae hF
            exact ay (aN [(vI 7)] ⟨rfl,trivial⟩)
           ·refine aA rfl hc_38 (ax (av (aF qE rfl 0 rfl wz (aJ 0 1 il ft sz9 ag9 rfl rfl (vS x_17.Key) rfl wz (aa (vS x_17.Key) (af (av (gW (bX hD_18 hn_19) wz rfl (aa (vI ((k_15+1:Nat):Int)) (af ?_))))))))))
            obtain rfl:=ae hc_21
            exact bD (k_15+1,l_16,x_17.Key) ⟨hL_22,bv hD_18⟩ (ls_ _) rfl (aK rfl)
     ·rintro s_20 ho_ sl_ H_ hp_ hq_
      subst ho_
      refine aS _ hp_ hq_ (ai (aa (vI 0) (af ?_)))
      obtain rfl:=ae hF
      exact ay (aN [(vI 0)] ⟨rfl,trivial⟩)
theorem lq {x0:ByteArray} {x1:ByteArray} {r:(List ByteArray)} (hF:strings_Split x0 x1=some r) :
  FnM Tryz.prog 53 [(vS x0),(vS x1)] [] (vL eS r) [] :=
 Ig rfl Tryz.strings_Split Cy hF
theorem Cm {s_1:ByteArray} {r:(List ByteArray)×Bool} (hF:oP s_1=some r) :
  FnM Tryz.prog 32 [(vS s_1)] [] (.tup [(vL eS r.1),(vB r.2)]) []:=by
 refine FnM.of_wH ⟨Tryz.prog,19,[],[]⟩ rfl Tryz.func32 rfl rfl (lb_ rfl) (by kernel_rfl) ?_
 unfold oP at hF
 refine ai (aa .nil (aa (vB false) (af (ai (aa (vS s_1) ?_)))))
 obtain ⟨r_2,hr_3,hF⟩:=bind_some hF
 refine aI (lq hr_3) rfl hb53 rfl rfl rfl rfl wz (aa (vL eS r_2) (af (ai (aa (vL eS r_2) (dH uM rfl wz (aa (vI (w64 ((r_2.length:Int)-1))) (aa (vI (w64 ((r_2.length:Int)-1))) (af (ak (ai (aa (vL eS r_2) (aa (vI (w64 ((r_2.length:Int)-1))) ?_))))))))))))
 obtain ⟨y_4,hy_5,hF⟩:=bind_some hF
 refine eH rX rfl rfl hy_5 rfl wz (bT sz9 ag9 rfl (vS y_4) rfl wz (aa (vB (sEq y_4 (⟨#[]⟩:ByteArray))) (af ?_)))
 rcases aj hF with⟨hc_6,hF⟩|⟨hc_6,hF⟩
 ·refine aC rfl hc_6 (ai (aa (vL eS r_2) (aa (vI (w64 ((r_2.length:Int)-1))) ?_)))
  obtain ⟨y_7,hy_8,hF⟩:=bind_some hF
  refine xm uM sz9 (λ_=>rfl) rfl rfl hy_8 wz (aa (vL eS y_7) (aa (vB true) (af ?_)))
  obtain rfl:=ae hF
  exact ay (aN [(vL eS y_7),(vB true)] ⟨rfl,⟨rfl,trivial⟩⟩)
 ·refine aA rfl hc_6 (ax (ai (aa (vL eS r_2) (aa (vL eS r_2) (aa (vB false) (af ?_))))))
  obtain rfl:=ae hF
  exact ay (aN [(vL eS r_2),(vB false)] ⟨rfl,⟨rfl,trivial⟩⟩)
theorem lW {s_1:(List ByteArray)} {v_2:ByteArray} {r:Int} (hF:ek s_1 v_2=some r) :
  FnM Tryz.prog 70 [(vL eS s_1),(vS v_2)] [] (vI r) []:=by
 refine FnM.of_wH ⟨Tryz.prog,19,[],[]⟩ rfl Tryz.func70 rfl rfl (lb_ rfl) (by kernel_rfl) ?_
 unfold ek at hF
 refine ai (aa (vI 0) (af (ak (ai (aa (vL eS s_1) (dH uM rfl wz (aa (vI 0) (af ?_))))))))
 obtain ⟨o_11,hj_12,hF⟩:=bind_some hF
 obtain ⟨hn_7,hj_12⟩:=bH hj_12
 refine fO (λ(s_8:Unit)=>[]) (λ(s_8:Unit)=>[]) (λ(k_3:Nat)=>(λ(s_8:Unit)=>[(0,(vL eS s_1)),(1,(vS v_2)),(7,(vI (s_1.length:Int))),(8,(vI (k_3:Int)))])) (λk x s=>cO v_2 k x s) o_11 s_1 () hj_12 rfl (aK rfl) ?_ ?_
 ·rintro ⟨k_3,l_4,s_8⟩ ⟨hL_10,hD_6⟩
  dsimp only at hL_10 hD_6
  cases l_4 with
  | nil =>
   obtain rfl:=ae hL_10
   refine ai (aa (vB (decide ((k_3:Int)<(s_1.length:Int)))) (af ?_))
   refine ak (aA rfl (drop_nil hD_6) (bE ?_))
   exact bn (s_8) rfl rfl (aK rfl)
  | cons x_5 l_4 =>
   obtain ⟨c_,hc_9,hL_10⟩:=bind_some hL_10
   refine ai (aa (vB (decide ((k_3:Int)<(s_1.length:Int)))) (af ?_))
   refine ak (aC rfl (bN hD_6) (ax ?_))
   unfold cO at hc_9
   refine ak (aR (ai (aa (vI (k_3:Int)) (aa (vI (k_3:Int)) (af (ai (aa (vS v_2) (aa (vL eS s_1) (aa (vI (k_3:Int)) (eH rX rfl rfl (dz hD_6) rfl wz (bT sz9 ag9 rfl (vS x_5) rfl wz (aa (vB (sEq v_2 x_5)) (af ?_)))))))))))))
   rcases aj hc_9 with⟨hc_13,hc_9⟩|⟨hc_13,hc_9⟩
   ·refine aC rfl hc_13 (ai (aa (vI (k_3:Int)) (aa (vI (k_3:Int)) (af ?_))))
    obtain rfl:=ae hc_9
    obtain rfl:=ae hL_10
    obtain rfl:=ae hF
    exact ay (aN [(vI (k_3:Int))] ⟨rfl,trivial⟩)
   ·refine aA rfl hc_13 (ax (av (gW (bX hD_6 hn_7) wz rfl (aa (vI ((k_3+1:Nat):Int)) (af ?_)))))
    obtain rfl:=ae hc_9
    exact bD (k_3+1,l_4,()) ⟨hL_10,bv hD_6⟩ (ls_ _) rfl (aK rfl)
 ·rintro s_8 ho_ sl_ H_ hp_ hq_
  subst ho_
  refine aS _ hp_ hq_ (ai (aa (vI (-1)) (af ?_)))
  obtain rfl:=ae hF
  exact ay (aN [(vI (-1))] ⟨rfl,trivial⟩)
theorem gJ {s_1:(List ByteArray)} {v_2:ByteArray} {r:Bool} (hF:bG s_1 v_2=some r) :
  FnM Tryz.prog 57 [(vL eS s_1),(vS v_2)] [] (vB r) []:=by
 refine FnM.of_wH ⟨Tryz.prog,9,[],[]⟩ rfl Tryz.func57 rfl rfl (lb_ rfl) (by kernel_rfl) ?_
 unfold bG at hF
 refine ai (aa (vB false) (af (ai (aa (vL eS s_1) (aa (vS v_2) ?_)))))
 obtain ⟨r_3,hr_4,hF⟩:=bind_some hF
 refine aI (lW hr_4) rfl hb70 rfl rfl rfl rfl wz (aa (vB (decide (r_3>=0))) (aa (vB (decide (r_3>=0))) (af ?_)))
 obtain rfl:=ae hF
 exact ay (aN [(vB (decide (r_3>=0)))] ⟨rfl,trivial⟩)
theorem Br {s_1:ByteArray} {r:(List ByteArray)×Bool} (hF:lH s_1=some r) :
  FnM Tryz.prog 54 [(vS s_1)] [] (.tup [(vL eS r.1),(vB r.2)]) []:=by
 refine FnM.of_wH ⟨Tryz.prog,11,[],[]⟩ rfl Tryz.func54 rfl rfl (lb_ rfl) (by kernel_rfl) ?_
 unfold lH at hF
 refine ai (aa .nil (aa (vB false) (af (ai (aa (vS s_1) ?_)))))
 obtain ⟨r_2,hr_3,hF⟩:=bind_some hF
 refine aI (lq hr_3) rfl hb53 rfl rfl rfl rfl wz (aa (vL eS r_2) (af (ai (aa (vL eS r_2) (aa (vL eS r_2) ?_)))))
 obtain ⟨r_4,hr_5,hF⟩:=bind_some hF
 refine aI (gJ hr_5) rfl hb57 rfl rfl rfl rfl wz (aa (vB (!r_4)) (aa (vL eS r_2) (aa (vB (!r_4)) (af ?_))))
 obtain rfl:=ae hF
 exact ay (aN [(vL eS r_2),(vB (!r_4))] ⟨rfl,⟨rfl,trivial⟩⟩)
theorem kG {s_1:ByteArray} {prefixv_2:ByteArray} {r:Bool} (hF:bW s_1 prefixv_2=some r) :
  FnM Tryz.prog 107 [(vS s_1),(vS prefixv_2)] [] (vB r) []:=by
 refine FnM.of_wH ⟨Tryz.prog,18,[],[]⟩ rfl Tryz.func107 rfl rfl (lb_ rfl) (by kernel_rfl) ?_
 unfold bW at hF
 refine ai (aa (vB false) (af (ak ?_)))
 obtain ⟨v_3,h_4,hF⟩:=bind_some hF
 refine aU [(4,(vB v_3))] [] ?_ ?_
 ·refine av (aa (vS s_1) (iX un9 rfl wz (aa (vS prefixv_2) (iX un9 rfl wz (aa (vB (decide ((s_1.size:Int)>=(prefixv_2.size:Int)))) ?_)))))
  rcases aj h_4 with⟨hc_5,h_4⟩|⟨hc_5,h_4⟩
  ·refine aD rfl hc_5 wz (aH (vS s_1) wa rfl (aH (vS prefixv_2) wa rfl (iX un9 rfl wa ?_)))
   obtain ⟨y_6,hy_7,h_4⟩:=bind_some h_4
   refine ib un9 rfl rfl hy_7 wa (aH (vS prefixv_2) wa rfl (aH (vB (sEq y_6 prefixv_2)) wa rfl (aa (vB (sEq y_6 prefixv_2)) (aa (vB (sEq y_6 prefixv_2)) (af ?_)))))
   obtain rfl:=ae h_4
   exact cu
  ·refine aD rfl hc_5 wz (ah (ah (ah (ah (ah (ah (aa (vB false) (aa (vB false) (af ?_)))))))))
   obtain rfl:=ae h_4
   exact cu
 ·rintro ⟨⟩ _ sl_ H_ hp_ hq_
  refine aS _ hp_ hq_ ?_
  obtain rfl:=ae hF
  exact ay (aN [(vB v_3)] ⟨rfl,trivial⟩)
theorem jW {s_1:ByteArray} {prefixv_2:ByteArray} {r:ByteArray} (hF:bO s_1 prefixv_2=some r) :
  FnM Tryz.prog 87 [(vS s_1),(vS prefixv_2)] [] (vS r) []:=by
 refine FnM.of_wH ⟨Tryz.prog,13,[],[]⟩ rfl Tryz.func87 rfl rfl (lb_ rfl) (by kernel_rfl) ?_
 unfold bO at hF
 refine ai (aa (vS (⟨#[]⟩:ByteArray)) (af (ak (ai (aa (vS s_1) (aa (vS prefixv_2) ?_))))))
 obtain ⟨r_3,hr_4,hF⟩:=bind_some hF
 refine aI (kG hr_4) rfl hb107 rfl rfl rfl rfl wz (af ?_)
 rcases aj hF with⟨hc_5,hF⟩|⟨hc_5,hF⟩
 ·refine aC rfl hc_5 (ai (aa (vS s_1) (aa (vS prefixv_2) (iX un9 rfl wz ?_))))
  obtain ⟨y_6,hy_7,hF⟩:=bind_some hF
  refine jh un9 rfl rfl hy_7 wz (aa (vS y_6) (af ?_))
  obtain rfl:=ae hF
  exact ay (aN [(vS y_6)] ⟨rfl,trivial⟩)
 ·refine aA rfl hc_5 (ax (ai (aa (vS s_1) (aa (vS s_1) (af ?_)))))
  obtain rfl:=ae hF
  exact ay (aN [(vS s_1)] ⟨rfl,trivial⟩)
theorem lh {s_1:ByteArray} {prefixv_2:ByteArray} {r:ByteArray} (hF:strings_TrimPrefix s_1 prefixv_2=some r) :
  FnM Tryz.prog 71 [(vS s_1),(vS prefixv_2)] [] (vS r) []:=by
 refine FnM.of_wH ⟨Tryz.prog,8,[],[]⟩ rfl Tryz.func71 rfl rfl (lb_ rfl) (by kernel_rfl) ?_
 unfold strings_TrimPrefix at hF
 refine ai (aa (vS (⟨#[]⟩:ByteArray)) (af (ai (aa (vS s_1) (aa (vS prefixv_2) ?_)))))
 obtain ⟨r_3,hr_4,hF⟩:=bind_some hF
 refine aI (jW hr_4) rfl hb87 rfl rfl rfl rfl wz (aa (vS r_3) (af ?_))
 obtain rfl:=ae hF
 exact ay (aN [(vS r_3)] ⟨rfl,trivial⟩)
theorem strconv_Atoi_ok {x0:ByteArray} {r:Int} (hF:strconv_Atoi x0=some r) :
  FnM Tryz.prog 72 [(.d (.str x0))] [] (.tup [(.d (.int .i64 r)),.nili]) [] :=
 atoi_ok rfl Tryz.strconv_Atoi hF
theorem zH {s_1:ByteArray} {most_2:Int} {r:Int×Bool} (hF:nP s_1 most_2=some r) :
  FnM Tryz.prog 85 [(vS s_1),(vI most_2)] [] (.tup [(vI r.1),(vB r.2)]) []:=by
 refine FnM.of_wH ⟨Tryz.prog,53,[],[]⟩ rfl Tryz.func85 rfl rfl (lb_ rfl) (by kernel_rfl) ?_
 unfold nP at hF
 refine ai (aa (vI 0) (aa (vB false) (af (ai (aa (vS s_1) ?_)))))
 obtain ⟨r_3,hr_4,hF⟩:=bind_some hF
 refine aI (lh hr_4) rfl hb71 rfl rfl rfl rfl wz (aa (vS r_3) (af (ak (ak ?_))))
 obtain ⟨v_5,h_6,hF⟩:=bind_some hF
 refine aU [(0,(vS s_1)),(6,(vS r_3)),(28,(vB v_5))] [] ?_ ?_
 ·refine av (aa (vS r_3) (aa (vB (sEq r_3 (⟨#[]⟩:ByteArray))) ?_))
  rcases aj h_6 with⟨hc_7,h_6⟩|⟨hc_7,h_6⟩
  ·refine aD rfl hc_7 wz (ah (ah (ah (ah (aa (vB true) (aa (vB true) (ah (ah (ah (ah (dC (wn rfl rfl) (dC (wn rfl rfl) (ah (aa (vB true) (af ?_)))))))))))))))
   obtain rfl:=ae h_6
   exact cu
  ·refine aD rfl hc_7 wz (aH (vS r_3) wa rfl (iX un9 rfl wa (aH (vI most_2) wa rfl (aH (vB (decide ((r_3.size:Int)>most_2))) wa rfl (aa (vB (decide ((r_3.size:Int)>most_2))) ?_)))))
   rcases aj h_6 with⟨hc_8,h_6⟩|⟨hc_8,h_6⟩
   ·refine aD rfl hc_8 wz (ah (ah (ah (ah (dC (wn rfl rfl) (dC (wn rfl rfl) (ah (aa (vB true) (af ?_)))))))))
    obtain rfl:=ae h_6
    exact cu
   ·refine aD rfl hc_8 wz (aH (vS r_3) wa rfl ?_)
    obtain ⟨b_9,hy_10,h_6⟩:=bind_some h_6
    refine qK un9 rfl rfl hy_10 wa (aH (vB ((b_9.toNat:Int)==48)) wa rfl ?_)
    rcases aj h_6 with⟨hc_11,h_6⟩|⟨hc_11,h_6⟩
    ·refine aD rfl hc_11 wa (aH (vS s_1) wa rfl (aH (vB (sNe s_1 (⟨#[48]⟩:ByteArray))) wa rfl (aH (vB (sNe s_1 (⟨#[48]⟩:ByteArray))) wa rfl (aa (vB (sNe s_1 (⟨#[48]⟩:ByteArray))) (af ?_)))))
     obtain rfl:=ae h_6
     exact cu
    ·refine aD rfl hc_11 wa (ah (ah (aH (vB false) wa rfl (aa (vB false) (af ?_)))))
     obtain rfl:=ae h_6
     exact cu
 ·rintro ⟨⟩ _ sl_ H_ hp_ hq_
  refine aS _ hp_ hq_ ?_
  rcases aj hF with⟨hc_12,hF⟩|⟨hc_12,hF⟩
  ·refine aC rfl hc_12 (ai (aa (vI 0) (aa (vB false) (af ?_))))
   obtain rfl:=ae hF
   exact ay (aN [(vI 0),(vB false)] ⟨rfl,⟨rfl,trivial⟩⟩)
  ·refine aA rfl hc_12 (ax (ak (ai (aa (vI 0) (af ?_)))))
   obtain ⟨o_21,hj_22,hF⟩:=bind_some hF
   obtain ⟨nq_34,hj_22⟩:=gU hj_22
   refine kC (λ(s_18:Int)=>[(0,(vS s_1))]) (λ(s_18:Int)=>[]) (λ(k_13:Nat)=>(λ(s_18:Int)=>[(0,(vS s_1)),(6,(vS r_3)),(7,(vI s_18))])) (λs=>eX r_3 s) o_21 nq_34 0 hj_22 rfl (aK rfl) ?_ ?_
   ·rintro ⟨k_13,s_18⟩ hL_20
    dsimp only at hL_20
    cases k_13 with
    | zero=>cases hL_20
    | succ k_13 =>
     obtain ⟨c_,hc_19,hL_20⟩:=bind_some hL_20
     unfold eX at hc_19
     refine ak (ai (aa (vI s_18) (aa (vS r_3) (iX un9 rfl wz (aa (vB (decide (s_18<(r_3.size:Int)))) (af ?_))))))
     rcases aj hc_19 with⟨hc_23,hc_19⟩|⟨hc_23,hc_19⟩
     ·refine aC rfl hc_23 (ax (ak (aR (ak ?_))))
      obtain ⟨v_24,h_25,hc_19⟩:=bind_some hc_19
      refine aU [(0,(vS s_1)),(6,(vS r_3)),(7,(vI s_18)),(44,(vB v_24))] [] ?_ ?_
      ·refine av (aa (vS r_3) (aa (vI s_18) ?_))
       obtain ⟨b_26,hy_27,h_25⟩:=bind_some h_25
       refine qK un9 rfl rfl hy_27 wz (aa (vB (decide ((b_26.toNat:Int)<48))) ?_)
       rcases aj h_25 with⟨hc_28,h_25⟩|⟨hc_28,h_25⟩
       ·refine aD rfl hc_28 wz (ah (ah (ah (ah (aa (vB true) (af ?_))))))
        obtain rfl:=ae h_25
        exact cu
       ·refine aD rfl hc_28 wz (aH (vS r_3) wa rfl (aH (vI s_18) wa rfl ?_))
        obtain ⟨b_29,hy_30,h_25⟩:=bind_some h_25
        refine qK un9 rfl rfl hy_30 wa (aH (vB (decide ((b_29.toNat:Int)>57))) wa rfl (aa (vB (decide ((b_29.toNat:Int)>57))) (af ?_)))
        obtain rfl:=ae h_25
        exact cu
      ·rintro ⟨⟩ _ sl_ H_ hp_ hq_
       refine aS _ hp_ hq_ ?_
       rcases aj hc_19 with⟨hc_31,hc_19⟩|⟨hc_31,hc_19⟩
       ·refine aC rfl hc_31 (ai (aa (vI 0) (aa (vB false) (af ?_))))
        obtain rfl:=ae hc_19
        obtain rfl:=ae hL_20
        obtain rfl:=ae hF
        exact ay (aN [(vI 0),(vB false)] ⟨rfl,⟨rfl,trivial⟩⟩)
       ·refine aA rfl hc_31 (ax (av (aa (vI s_18) (aa (vI (w64 (s_18+1))) (aa (vI (w64 (s_18+1))) (af ?_))))))
        obtain rfl:=ae hc_19
        exact bD (k_13,(w64 (s_18+1))) hL_20 (ls_ _) rfl (aK rfl)
     ·refine aA rfl hc_23 (bE ?_)
      obtain rfl:=ae hc_19
      obtain rfl:=ae hL_20
      exact bn (s_18) rfl rfl (aK rfl)
   ·rintro s_18 ho_ sl_ H_ hp_ hq_
    subst ho_
    refine aS _ hp_ hq_ (ai (aa (vS s_1) ?_))
    obtain ⟨r_32,hr_33,hF⟩:=bind_some hF
    refine aI (strconv_Atoi_ok hr_33) rfl hb72 rfl rfl rfl rfl wz (aa (.tup [(vI r_32),.nili]) (aa (vI r_32) (aa .nili (aa (vI r_32) (aa .nili (af (ak (bJ (aa (vI r_32) (aa .nili (h_ieq if58 rfl rfl rfl wz (aa (vI r_32) (aa (vB true) (af ?_))))))))))))))
    obtain rfl:=ae hF
    exact ay (aN [(vI r_32),(vB true)] ⟨rfl,⟨rfl,trivial⟩⟩)
theorem BB {s_1:ByteArray} {r:Int×Bool} (hF:pq s_1=some r) :
  FnM Tryz.prog 68 [(vS s_1)] [] (.tup [(vI r.1),(vB r.2)]) []:=by
 refine FnM.of_wH ⟨Tryz.prog,8,[],[]⟩ rfl Tryz.func68 rfl rfl (lb_ rfl) (by kernel_rfl) ?_
 unfold pq at hF
 refine ai (aa (vI 0) (aa (vB false) (af (ai (aa (vS s_1) ?_)))))
 obtain ⟨r_2,hr_3,hF⟩:=bind_some hF
 refine aI (zH hr_3) rfl hb85 rfl rfl rfl rfl wz (aa (vI r_2.1) (aa (vB r_2.2) (aa (vI r_2.1) (aa (vB r_2.2) (af ?_)))))
 obtain rfl:=ae hF
 exact ay (aN [(vI r_2.1),(vB r_2.2)] ⟨rfl,⟨rfl,trivial⟩⟩)
theorem ze {l_1:(List ByteArray)} {r:(List Int)×Bool} (hF:lY l_1=some r) :
  FnM Tryz.prog 55 [(vL eS l_1)] [] (.tup [(vL eI r.1),(vB r.2)]) []:=by
 refine FnM.of_wH ⟨Tryz.prog,28,[],[]⟩ rfl Tryz.func55 rfl rfl (lb_ rfl) (by kernel_rfl) ?_
 unfold lY at hF
 refine ai (aa .nil (aa (vB false) (af (ai (aa .nil (af (ak (ai (aa (vL eS l_1) (dH uM rfl wz (aa (vI 0) (af (nK (λn_8 => ?_))))))))))))))
 obtain ⟨o_13,hj_14,hF⟩:=bind_some hF
 obtain ⟨hn_6,hj_14⟩:=bH hj_14
 refine iw (σ:=(List Int)) (N:=Nm) (λp=>(λ(s_7:List Int) (n_10:Nm)=>([(4,(gV n_10 1 s_7))]:SL_)) p.1 p.2) (λp=>(λ(s_7:List Int) (n_10:Nm)=>([(n_10,gB 1 eI s_7)]:Hp)) p.1 p.2) (λ(k_2:Nat)=>(λp=>(λ(s_7:List Int) (n_10:Nm)=>([(4,(gV n_10 1 s_7)),(9,(vL eS l_1)),(10,(vI (l_1.length:Int))),(11,(vI (k_2:Int)))]:SL_)) p.1 p.2)) (λk x s=>fq k x s) o_13 l_1 (([]:List Int),n_8) hj_14 rfl (aK rfl) ?_ ?_
 ·rintro ⟨k_2,l_3,s_7,n_10⟩ ⟨hL_12,hD_5⟩
  dsimp only at hL_12 hD_5
  cases l_3 with
  | nil =>
   obtain rfl:=ae hL_12
   refine ai (aa (vB (decide ((k_2:Int)<(l_1.length:Int)))) (af ?_))
   refine ak (aA rfl (drop_nil hD_5) (bE ?_))
   exact bn (s_7,n_10) rfl rfl (aK rfl)
  | cons x_4 l_3 =>
   obtain ⟨c_,hc_11,hL_12⟩:=bind_some hL_12
   refine ai (aa (vB (decide ((k_2:Int)<(l_1.length:Int)))) (af ?_))
   refine ak (aC rfl (bN hD_5) (ax ?_))
   unfold fq at hc_11
   refine ak (aR (ai (eH rX rfl rfl (dz hD_5) rfl wz (bT sz9 ag9 rfl (vS x_4) rfl wz (aa (vS x_4) (af (ai (aa (vS x_4) ?_))))))))
   obtain ⟨r_15,hr_16,hc_11⟩:=bind_some hc_11
   refine aI (BB hr_16) rfl hb68 rfl rfl rfl rfl wz (aa (.tup [(vI r_15.1),(vB r_15.2)]) (aa (vI r_15.1) (aa (vB r_15.2) (aa (vI r_15.1) (aa (vB r_15.2) (af (ak (ai (aa (vB r_15.2) (aa (vB (!r_15.2)) (af ?_)))))))))))
   rcases aj hc_11 with⟨hc_17,hc_11⟩|⟨hc_17,hc_11⟩
   ·refine aC rfl hc_17 (ai (aa .nil (aa (vB false) (af ?_))))
    obtain rfl:=ae hc_11
    obtain rfl:=ae hL_12
    obtain rfl:=ae hF
    exact ay (aN [.nil,(vB false)] ⟨rfl,⟨rfl,trivial⟩⟩)
   ·refine aA rfl hc_17 (ax (av (aa (gV n_10 1 s_7) (aa (vI r_15.1) (gu (([r_15.1]:List Int).map eI) iq tF rfl rfl rfl rfl rfl wz ?_)))))
    obtain ⟨a_18,hz_19,hc_11⟩:=bind_some hc_11
    refine kI 0 il ft (i:=0) EZ EZ sz3 z3 rfl (by decide) by3 (by decide) (λ_=>rfl) rfl rfl rfl hz_19 wz (λn_20=>aa (gV n_20 1 a_18) (af (av (gW (bX hD_5 hn_6) wz rfl (aa (vI ((k_2+1:Nat):Int)) (af ?_))))))
    obtain rfl:=ae hc_11
    exact bD (k_2+1,l_3,a_18,n_20) ⟨hL_12,bv hD_5⟩ (ls_ _) rfl (aK rfl)
 ·rintro ⟨s_7,n_10⟩ ho_ sl_ H_ hp_ hq_
  subst ho_
  refine aS _ hp_ hq_ (ai (aa (gV n_10 1 s_7) (aa (gV n_10 1 s_7) (aa (vB true) (af (gN 0 rfl (gQ 2 0 rfl rfl (gQ 4 0 rfl rfl (gQ 27 0 rfl rfl ?_)))))))))
  obtain rfl:=ae hF
  exact ay (aN [(vL eI s_7),(vB true)] ⟨rfl,⟨rfl,trivial⟩⟩)
theorem tu {line_1:ByteArray} {word_2:ByteArray} {many_3:Int} {r:ByteArray×(List Int)×Bool} (hF:eD line_1 word_2 many_3=some r) :
  FnM Tryz.prog 33 [(vS line_1),(vS word_2),(vI many_3)] [] (.tup [(vS r.1),(vL eI r.2.1),(vB r.2.2)]) []:=by
 refine FnM.of_wH ⟨Tryz.prog,44,[],[]⟩ rfl Tryz.func33 rfl rfl (lb_ rfl) (by kernel_rfl) ?_
 unfold eD at hF
 refine ai (aa (vS (⟨#[]⟩:ByteArray)) (aa .nil (aa (vB false) (af (ai (aa (vS line_1) ?_))))))
 obtain ⟨r_4,hr_5,hF⟩:=bind_some hF
 refine aI (Br hr_5) rfl hb54 rfl rfl rfl rfl wz (aa (.tup [(vL eS r_4.1),(vB r_4.2)]) (aa (vL eS r_4.1) (aa (vB r_4.2) (aa (vL eS r_4.1) (aa (vB r_4.2) (af (ak (ak ?_))))))))
 obtain ⟨v_6,h_7,hF⟩:=bind_some hF
 refine aU [(9,(vL eS r_4.1)),(32,(vB v_6))] [] ?_ ?_
 ·refine av (aa (vB r_4.2) (aa (vB (!r_4.2)) ?_))
  rcases aj h_7 with⟨hc_8,h_7⟩|⟨hc_8,h_7⟩
  ·refine aD rfl hc_8 wz (ah (ah (ah (ah (ah (aa (vB true) (aa (vB true) (ah (ah (ah (ah (ah (aa (vB true) (af ?_))))))))))))))
   obtain rfl:=ae h_7
   exact cu
  ·refine aD rfl hc_8 wz (aH (vL eS r_4.1) wa rfl (dH uM rfl wa (aH (vI many_3) wa rfl (aH (vI (w64 (many_3+2))) wa rfl (aH (vB ((r_4.1.length:Int) != (w64 (many_3+2)))) wa rfl (aa (vB ((r_4.1.length:Int) != (w64 (many_3+2)))) ?_))))))
   rcases aj h_7 with⟨hc_9,h_7⟩|⟨hc_9,h_7⟩
   ·refine aD rfl hc_9 wz (ah (ah (ah (ah (ah (aa (vB true) (af ?_)))))))
    obtain rfl:=ae h_7
    exact cu
   ·refine aD rfl hc_9 wz (aH (vL eS r_4.1) wa rfl ?_)
    obtain ⟨y_10,hy_11,h_7⟩:=bind_some h_7
    refine eH rX rfl rfl hy_11 rfl wa (bT sz9 ag9 rfl (vS y_10) rfl wa (aH (vS word_2) wa rfl (aH (vB (sNe y_10 word_2)) wa rfl (aa (vB (sNe y_10 word_2)) (af ?_)))))
    obtain rfl:=ae h_7
    exact cu
 ·rintro ⟨⟩ _ sl_ H_ hp_ hq_
  refine aS _ hp_ hq_ ?_
  rcases aj hF with⟨hc_12,hF⟩|⟨hc_12,hF⟩
  ·refine aC rfl hc_12 (ai (aa (vS (⟨#[]⟩:ByteArray)) (aa .nil (aa (vB false) (af ?_)))))
   obtain rfl:=ae hF
   exact ay (aN [(vS (⟨#[]⟩:ByteArray)),.nil,(vB false)] ⟨rfl,⟨rfl,⟨rfl,trivial⟩⟩⟩)
  ·refine aA rfl hc_12 (ax (ai (aa (vL eS r_4.1) ?_)))
   obtain ⟨y_13,hy_14,hF⟩:=bind_some hF
   refine qw uM sz9 (λ_=>rfl) rfl rfl hy_14 wz ?_
   obtain ⟨r_15,hr_16,hF⟩:=bind_some hF
   refine aI (ze hr_16) rfl hb55 rfl rfl rfl rfl wz (aa (.tup [(vL eI r_15.1),(vB r_15.2)]) (aa (vL eI r_15.1) (aa (vB r_15.2) (aa (vL eI r_15.1) (aa (vB r_15.2) (af (ai (aa (vL eS r_4.1) ?_))))))))
   obtain ⟨y_17,hy_18,hF⟩:=bind_some hF
   refine eH rX rfl rfl hy_18 rfl wz (bT sz9 ag9 rfl (vS y_17) rfl wz (aa (vL eI r_15.1) (aa (vB r_15.2) (aa (vS y_17) (aa (vL eI r_15.1) (aa (vB r_15.2) (af ?_)))))))
   obtain rfl:=ae hF
   exact ay (aN [(vS y_17),(vL eI r_15.1),(vB r_15.2)] ⟨rfl,⟨rfl,⟨rfl,trivial⟩⟩⟩)
theorem kQ {xs r:(List Zone)} (hF:fu xs=some r) :
  FnM Tryz.prog 34 [(vL Zone.enc xs)] [] (vL Zone.enc r) []:=by
 unfold fu at hF
 obtain rfl:=ae hF
 refine FnM.of_wH ⟨Tryz.prog,9,[],[]⟩ rfl Tryz.func34 rfl rfl (lb_ rfl) (by kernel_rfl) (ai (aa .nil (af (ai (aa (vL Zone.enc xs) (aa (vL Zone.enc xs) (dH uV rfl wz (aa (vL Zone.enc xs) (dH uV rfl wz ?_)))))))))
 rcases em_nil xs with rfl|hne
 ·exact h_clip0 uV pO rfl rfl rfl wz (aa .nil (af (ay (aN [.nil] ⟨rfl,trivial⟩))))
 ·exact h_clip uV pO hne rfl rfl rfl wz (aa (vL Zone.enc xs) (af (ay (aN [(vL Zone.enc xs)] ⟨rfl,trivial⟩))))
theorem yA {text_1:ByteArray} {r:Layout×Int×Int} (hF:jl text_1=some r) :
  FnM Tryz.prog 9 [(vS text_1)] [] (.tup [(.d (.agg (Layout.enc r.1))),(vI r.2.1),(vI r.2.2)]) []:=by
 refine FnM.of_wH ⟨Tryz.prog,109,[],[]⟩ rfl Tryz.func9 rfl rfl (lb_ rfl) (by kernel_rfl) ?_
 unfold jl at hF
 refine ai (dM 0 (.inl rfl) z28 rfl wz (λn_2=>aa (vI 0) (aa (vI 0) (af (ak (ai (aa (vS text_1) (iX un9 rfl wz (aa (vB (decide ((text_1.size:Int)>200000))) (af ?_))))))))))
 rcases aj hF with⟨hc_3,hF⟩|⟨hc_3,hF⟩
 ·refine aC rfl hc_3 (ai (aH (.agg [(vS (⟨#[]⟩:ByteArray)),(vI 0),(vI 0),.nil]) wz (by kernel_rfl) (bR 0 il ft 0 iK rfl rfl [(vS (⟨#[]⟩:ByteArray)),(vI 0),(vI 0),.nil] rfl wz (aa (vI 0) (aa (vI 2) (af ?_))))))
  obtain rfl:=ae hF
  exact ay (aN [(.agg [(vS (⟨#[]⟩:ByteArray)),(vI 0),(vI 0),.nil]),(vI 0),(vI 2)] ⟨⟨0,_,_,_,_,_,_,_,rfl,rfl,iK,nM,rfl⟩,⟨rfl,⟨rfl,trivial⟩⟩⟩)
 ·refine aA rfl hc_3 (ax (ai (aa (vS text_1) ?_)))
  obtain ⟨r_4,hr_5,hF⟩:=bind_some hF
  refine aI (Cm hr_5) rfl hb32 rfl rfl rfl rfl wz (aa (.tup [(vL eS r_4.1),(vB r_4.2)]) (aa (vL eS r_4.1) (aa (vB r_4.2) (aa (vL eS r_4.1) (aa (vB r_4.2) (af (ak (ai (aa (vL eS r_4.1) (dH uM rfl wz (aa (vB ((r_4.1.length:Int)==0)) (af ?_))))))))))))
  rcases aj hF with⟨hc_6,hF⟩|⟨hc_6,hF⟩
  ·refine aC rfl hc_6 (ai (aH (.agg [(vS (⟨#[]⟩:ByteArray)),(vI 0),(vI 0),.nil]) wz (by kernel_rfl) (bR 0 il ft 0 iK rfl rfl [(vS (⟨#[]⟩:ByteArray)),(vI 0),(vI 0),.nil] rfl wz (aa (vI 0) (aa (vI 9) (af ?_))))))
   obtain rfl:=ae hF
   exact ay (aN [(.agg [(vS (⟨#[]⟩:ByteArray)),(vI 0),(vI 0),.nil]),(vI 0),(vI 9)] ⟨⟨0,_,_,_,_,_,_,_,rfl,rfl,iK,nM,rfl⟩,⟨rfl,⟨rfl,trivial⟩⟩⟩)
  ·refine aA rfl hc_6 (ax (ai (aH (.agg [(vS (⟨#[]⟩:ByteArray)),(vI 0),(vI 0),.nil]) wz (by kernel_rfl) (dM 0 (.inl rfl) z28 rfl wz (λn_7=>bR 0 il ft 1 iK rfl rfl [(vS (⟨#[]⟩:ByteArray)),(vI 0),(vI 0),.nil] rfl wz (af (ak (ai (aa (vL eS r_4.1) (dH uM rfl wz (aa (vI 0) (af (nK (λn_14 => ?_))))))))))))))
   obtain ⟨o_19,hj_20,hF⟩:=bind_some hF
   obtain ⟨hn_12,hj_20⟩:=bH hj_20
   refine iw (σ:=(List Zone)×ByteArray×Int×Int) (N:=Nm) (λp=>(λ(s_13:(List Zone)×ByteArray×Int×Int) (n_16:Nm)=>([(2,(.ref n_2 0 0)),(7,(.ref n_7 0 0))]:SL_)) p.1 p.2) (λp=>(λ(s_13:(List Zone)×ByteArray×Int×Int) (n_16:Nm)=>([(n_2,some (.cells 4 [(vS (⟨#[]⟩:ByteArray)),(vI 0),(vI 0),.nil])),(n_7,some (.cells 4 [(vS s_13.2.1),(vI s_13.2.2.1),(vI s_13.2.2.2),(gV n_16 6 s_13.1)])),(n_16,gB 6 Zone.enc s_13.1)]:Hp)) p.1 p.2) (λ(k_8:Nat)=>(λp=>(λ(s_13:(List Zone)×ByteArray×Int×Int) (n_16:Nm)=>([(2,(.ref n_2 0 0)),(5,(vL eS r_4.1)),(6,(vB r_4.2)),(7,(.ref n_7 0 0)),(30,(vL eS r_4.1)),(31,(vI (r_4.1.length:Int))),(32,(vI (k_8:Int)))]:SL_)) p.1 p.2)) (λk x s=>d9 r_4 k x s) o_19 r_4.1 ((([]:List Zone),(⟨#[]⟩:ByteArray),0,0),n_14) hj_20 rfl (aK rfl) ?_ ?_
   ·rintro ⟨k_8,l_9,s_13,n_16⟩ ⟨hL_18,hD_11⟩
    dsimp only at hL_18 hD_11
    cases l_9 with
    | nil =>
     obtain rfl:=ae hL_18
     refine ai (aa (vB (decide ((k_8:Int)<(r_4.1.length:Int)))) (af ?_))
     refine ak (aA rfl (drop_nil hD_11) (bE ?_))
     exact bn (s_13,n_16) rfl rfl (aK rfl)
    | cons x_10 l_9 =>
     obtain ⟨c_,hc_17,hL_18⟩:=bind_some hL_18
     refine ai (aa (vB (decide ((k_8:Int)<(r_4.1.length:Int)))) (af ?_))
     refine ak (aC rfl (bN hD_11) (ax ?_))
     unfold d9 at hc_17
     refine ak (aR (ai (aa (vI (k_8:Int)) (eH rX rfl rfl (dz hD_11) rfl wz (bT sz9 ag9 rfl (vS x_10) rfl wz (aa (vI (k_8:Int)) (aa (vS x_10) (af (ai (aa (vS (⟨#[122,111,110,101]⟩:ByteArray)) (aa (vI 5) (af (ak (ai (aa (vI (k_8:Int)) (aa (vB ((k_8:Int)==0)) (af ?_)))))))))))))))))
     obtain ⟨v_21,h_22,hc_17⟩:=bind_some hc_17
     refine aU [(2,(.ref n_2 0 0)),(5,(vL eS r_4.1)),(6,(vB r_4.2)),(7,(.ref n_7 0 0)),(8,(vI (k_8:Int))),(9,(vS x_10)),(10,(vS v_21.1)),(11,(vI v_21.2)),(30,(vL eS r_4.1)),(31,(vI (r_4.1.length:Int))),(32,(vI (k_8:Int)))] [(n_2,some (.cells 4 [(vS (⟨#[]⟩:ByteArray)),(vI 0),(vI 0),.nil])),(n_7,some (.cells 4 [(vS s_13.2.1),(vI s_13.2.2.1),(vI s_13.2.2.2),(gV n_16 6 s_13.1)])),(n_16,gB 6 Zone.enc s_13.1)] ?_ ?_
     ·rcases aj h_22 with⟨hc_23,h_22⟩|⟨hc_23,h_22⟩
      ·refine aC rfl hc_23 (av (aa (vS (⟨#[108,97,121,111,117,116]⟩:ByteArray)) (aa (vI 2) (af ?_))))
       obtain rfl:=ae h_22
       exact cu
      ·refine aA rfl hc_23 (ax ?_)
       obtain rfl:=ae h_22
       exact cu
     ·rintro ⟨⟩ _ sl_ H_ hp_ hq_
      refine aS _ hp_ hq_ (ai (aa (vS x_10) (aa (vS v_21.1) (aa (vI v_21.2) ?_))))
      obtain ⟨r_24,hr_25,hc_17⟩:=bind_some hc_17
      refine aI (tu hr_25) rfl hb33 rfl rfl rfl rfl wz (aa (.tup [(vS r_24.1),(vL eI r_24.2.1),(vB r_24.2.2)]) (aa (vS r_24.1) (aa (vL eI r_24.2.1) (aa (vB r_24.2.2) (aa (vS r_24.1) (aa (vL eI r_24.2.1) (aa (vB r_24.2.2) (af (ak (ak ?_))))))))))
      obtain ⟨v_26,h_27,hc_17⟩:=bind_some hc_17
      refine aU [(2,(.ref n_2 0 0)),(5,(vL eS r_4.1)),(6,(vB r_4.2)),(7,(.ref n_7 0 0)),(8,(vI (k_8:Int))),(12,(vS r_24.1)),(13,(vL eI r_24.2.1)),(30,(vL eS r_4.1)),(31,(vI (r_4.1.length:Int))),(32,(vI (k_8:Int))),(59,(vB v_26))] [(n_2,some (.cells 4 [(vS (⟨#[]⟩:ByteArray)),(vI 0),(vI 0),.nil])),(n_7,some (.cells 4 [(vS s_13.2.1),(vI s_13.2.2.1),(vI s_13.2.2.2),(gV n_16 6 s_13.1)])),(n_16,gB 6 Zone.enc s_13.1)] ?_ ?_
      ·refine av (aa (vB r_24.2.2) (aa (vB (!r_24.2.2)) ?_))
       rcases aj h_27 with⟨hc_28,h_27⟩|⟨hc_28,h_27⟩
       ·refine aD rfl hc_28 wz (ah (ah (ah (dC (wn rfl rfl) (dC (wn rfl rfl) (dC (wn rfl rfl) (dC (wn rfl rfl) (dC (wn rfl rfl) (ah (aa (vB true) (af ?_)))))))))))
        obtain rfl:=ae h_27
        exact cu
       ·refine aD rfl hc_28 wz (aH (vB r_4.2) wa rfl (aH (vB (!r_4.2)) wa rfl ?_))
        rcases aj h_27 with⟨hc_29,h_27⟩|⟨hc_29,h_27⟩
        ·refine aD rfl hc_29 wa (aH (vI (k_8:Int)) wa rfl (aH (vL eS r_4.1) wa rfl (dH uM rfl wa (aH (vI (w64 ((r_4.1.length:Int)-1))) wa rfl (aH (vB ((k_8:Int)==(w64 ((r_4.1.length:Int)-1)))) wa rfl (aH (vB ((k_8:Int)==(w64 ((r_4.1.length:Int)-1)))) wa rfl (aa (vB ((k_8:Int)==(w64 ((r_4.1.length:Int)-1)))) (af ?_))))))))
         obtain rfl:=ae h_27
         exact cu
        ·refine aD rfl hc_29 wa (ah (ah (ah (ah (ah (aH (vB false) wa rfl (aa (vB false) (af ?_))))))))
         obtain rfl:=ae h_27
         exact cu
      ·rintro ⟨⟩ _ sl_ H_ hp_ hq_
       refine aS _ hp_ hq_ ?_
       rcases aj hc_17 with⟨hc_30,hc_17⟩|⟨hc_30,hc_17⟩
       ·refine aC rfl hc_30 (ai (aH (.agg [(vS (⟨#[]⟩:ByteArray)),(vI 0),(vI 0),.nil]) wz (by kernel_rfl) (aa (vI (k_8:Int)) (bR 0 il ft 0 iK rfl rfl [(vS (⟨#[]⟩:ByteArray)),(vI 0),(vI 0),.nil] rfl wz (aa (vI (k_8:Int)) (aa (vI 9) (af ?_)))))))
        obtain rfl:=ae hc_17
        obtain rfl:=ae hL_18
        obtain rfl:=ae hF
        exact ay (aN [(.agg [(vS (⟨#[]⟩:ByteArray)),(vI 0),(vI 0),.nil]),(vI (k_8:Int)),(vI 9)] ⟨⟨0,_,_,_,_,_,_,_,rfl,rfl,iK,nM,rfl⟩,⟨rfl,⟨rfl,trivial⟩⟩⟩)
       ·refine aA rfl hc_30 (ax (ai (aa (vI (k_8:Int)) (aa (vB ((k_8:Int)==0)) (af ?_)))))
        obtain ⟨v_31,h_32,hc_17⟩:=bind_some hc_17
        refine jG (β:=Nm) (λ(n_33:Nm)=>([(2,(.ref n_2 0 0)),(5,(vL eS r_4.1)),(6,(vB r_4.2)),(7,(.ref n_7 0 0)),(30,(vL eS r_4.1)),(31,(vI (r_4.1.length:Int))),(32,(vI (k_8:Int)))]:SL_)) (λ(n_33:Nm)=>([(n_2,some (.cells 4 [(vS (⟨#[]⟩:ByteArray)),(vI 0),(vI 0),.nil])),(n_7,some (.cells 4 [(vS v_31.2.1),(vI v_31.2.2.1),(vI v_31.2.2.2),(gV n_33 6 v_31.1)])),(n_33,gB 6 Zone.enc v_31.1)]:Hp)) (λ_=>True) ?_ ?_
        ·rcases aj h_32 with⟨hc_34,h_32⟩|⟨hc_34,h_32⟩
         ·refine aC rfl hc_34 (bJ (aa (vS r_24.1) (aa (vL eI r_24.2.1) ?_)))
          obtain ⟨y_35,hy_36,h_32⟩:=bind_some h_32
          refine eH iq rfl rfl hy_36 rfl wz (bT sz3 ag3 rfl (vI y_35) rfl wz (aa (vL eI r_24.2.1) ?_))
          obtain ⟨y_37,hy_38,h_32⟩:=bind_some h_32
          refine eH iq rfl rfl hy_38 rfl wz (bT sz3 ag3 rfl (vI y_37) rfl wz (aF pY rfl 0 rfl wz (bR 8 (.inr (by kernel_rfl)) (λ_ _ ag=>trivial) 1 sz9 rfl rfl [(vS r_24.1),(vI s_13.2.2.1),(vI s_13.2.2.2),(gV n_16 6 s_13.1)] rfl wz (aF mq rfl 1 rfl wz (bR 10 (.inr (by kernel_rfl)) (λ_ _ ag=>⟨.inr (.inr (by kernel_rfl)),trivial⟩) 1 sz3 rfl rfl [(vS r_24.1),(vI y_35),(vI s_13.2.2.2),(gV n_16 6 s_13.1)] rfl wz (aF lC rfl 2 rfl wz (bR 12 (.inr (by kernel_rfl)) (λ_ _ ag=>⟨.inr (.inr (by kernel_rfl)),⟨.inr (.inr (by kernel_rfl)),trivial⟩⟩) 1 sz3 rfl rfl [(vS r_24.1),(vI y_35),(vI y_37),(gV n_16 6 s_13.1)] rfl wz (af ?_))))))))
          obtain rfl:=ae h_32
          exact bn n_16 trivial rfl (aK rfl)
         ·refine aA rfl hc_34 (bJ (aF iQ rfl 3 rfl wz (aJ 1 1 (.inr (by kernel_rfl)) (λ_ _ ag=>trivial) qc uI rfl rfl (gV n_16 6 s_13.1) rfl wz (aa (vS r_24.1) (aa (vL eI r_24.2.1) ?_)))))
          obtain ⟨y_39,hy_40,h_32⟩:=bind_some h_32
          refine eH iq rfl rfl hy_40 rfl wz (bT sz3 ag3 rfl (vI y_39) rfl wz (aa (vL eI r_24.2.1) ?_))
          obtain ⟨y_41,hy_42,h_32⟩:=bind_some h_32
          refine eH iq rfl rfl hy_42 rfl wz (bT sz3 ag3 rfl (vI y_41) rfl wz (aa (vL eI r_24.2.1) ?_))
          obtain ⟨y_43,hy_44,h_32⟩:=bind_some h_32
          refine eH iq rfl rfl hy_44 rfl wz (bT sz3 ag3 rfl (vI y_43) rfl wz (aa (vL eI r_24.2.1) ?_))
          obtain ⟨y_45,hy_46,h_32⟩:=bind_some h_32
          refine eH iq rfl rfl hy_46 rfl wz (bT sz3 ag3 rfl (vI y_45) rfl wz (aH (.d (.agg (Rect.enc (⟨y_39,y_41,y_43,y_45⟩:Rect)))) wz (by kernel_rfl) (aa (vL eI r_24.2.1) ?_)))
          obtain ⟨y_47,hy_48,h_32⟩:=bind_some h_32
          refine eH iq rfl rfl hy_48 rfl wz (bT sz3 ag3 rfl (vI y_47) rfl wz (aH (.d (.agg (Zone.enc (⟨r_24.1,(⟨y_39,y_41,y_43,y_45⟩:Rect),y_47⟩:Zone)))) wz (by kernel_rfl) (gu (([(⟨r_24.1,(⟨y_39,y_41,y_43,y_45⟩:Rect),y_47⟩:Zone)]:List Zone).map Zone.enc) xA IG rfl rfl rfl rfl rfl wz ?_)))
          obtain ⟨a_49,hz_50,h_32⟩:=bind_some h_32
          refine kI 21 (.inr (by kernel_rfl)) (λ_ _ ag=>⟨.inr (.inr (by kernel_rfl)),trivial⟩) (i:=2) zR zR pO z49 rfl (by decide) Iz (by decide) (λ_=>rfl) rfl rfl rfl hz_50 wz (λn_51=>aF iQ rfl 3 rfl wz (bR 23 (.inr (by kernel_rfl)) (λ_ _ ag=>⟨.inr (.inr (by kernel_rfl)),⟨.inr (.inr (by kernel_rfl)),trivial⟩⟩) 1 qc rfl rfl [(vS s_13.2.1),(vI s_13.2.2.1),(vI s_13.2.2.2),(gV n_51 6 a_49)] (FJ rfl) wz (af ?_)))
          obtain rfl:=ae h_32
          exact bn n_51 trivial rfl (aK rfl)
        ·rintro n_33 _ sl_ H_ hp_ hq_
         refine aS _ hp_ hq_ (av (gW (bX hD_11 hn_12) wz rfl (aa (vI ((k_8+1:Nat):Int)) (af ?_))))
         obtain rfl:=ae hc_17
         exact bD (k_8+1,l_9,(v_31.1,v_31.2.1,v_31.2.2.1,v_31.2.2.2),n_33) ⟨hL_18,bv hD_11⟩ (ls_ _) rfl (aK rfl)
   ·rintro ⟨s_13,n_16⟩ ho_ sl_ H_ hp_ hq_
    subst ho_
    refine aS _ hp_ hq_ (ak (ak (gN 2 rfl (Es 2 1 [(vS s_13.2.1),(vI s_13.2.2.1),(vI s_13.2.2.2),(vL Zone.enc s_13.1)] rfl rfl (λS hS=>gX (rfl) (gX (rfl) (gX (rfl) (gX (hS) (rfl))))) (av (aJ 0 1 il ft iK nM rfl rfl (.d (.agg (Layout.enc (⟨s_13.2.1,s_13.2.2.1,s_13.2.2.2,s_13.1⟩:Layout)))) rfl wz ?_))))))
    obtain ⟨r_52,hr_53,hF⟩:=bind_some hF
    refine aI (ll hr_53) rfl hb22 rfl rfl rfl rfl wz (aa (vI r_52) (af (ai (aa (vI r_52) (aa (vB (r_52 != 0)) (af ?_))))))
    rcases aj hF with⟨hc_54,hF⟩|⟨hc_54,hF⟩
    ·refine aC rfl hc_54 (ai (aH (.agg [(vS (⟨#[]⟩:ByteArray)),(vI 0),(vI 0),.nil]) wz (by kernel_rfl) (aa (vI r_52) (bR 0 il ft 0 iK rfl rfl [(vS (⟨#[]⟩:ByteArray)),(vI 0),(vI 0),.nil] rfl wz (aa (vI 0) (aa (vI r_52) (af ?_)))))))
     obtain rfl:=ae hF
     exact ay (aN [(.agg [(vS (⟨#[]⟩:ByteArray)),(vI 0),(vI 0),.nil]),(vI 0),(vI r_52)] ⟨⟨0,_,_,_,_,_,_,_,rfl,rfl,iK,nM,rfl⟩,⟨rfl,⟨rfl,trivial⟩⟩⟩)
    ·refine aA rfl hc_54 (ax (ai (aF iQ rfl 3 rfl wz (aJ 0 1 il ft qc uI rfl rfl (vL Zone.enc s_13.1) rfl wz ?_))))
     obtain ⟨r_55,hr_56,hF⟩:=bind_some hF
     refine aI (kQ hr_56) rfl hb34 rfl rfl rfl rfl wz (aF iQ rfl 3 rfl wz (bR 0 il ft 1 qc rfl rfl [(vS s_13.2.1),(vI s_13.2.2.1),(vI s_13.2.2.2),(vL Zone.enc r_55)] rfl wz (af (ai (aJ 0 1 il ft iK nM rfl rfl (.d (.agg (Layout.enc (⟨s_13.2.1,s_13.2.2.1,s_13.2.2.2,r_55⟩:Layout)))) rfl wz (bR 0 il ft 0 iK rfl rfl [(vS s_13.2.1),(vI s_13.2.2.1),(vI s_13.2.2.2),(vL Zone.enc r_55)] rfl wz (aa (vI 0) (aa (vI 0) (af ?_)))))))))
     obtain rfl:=ae hF
     exact ay (aN [(.d (.agg (Layout.enc (⟨s_13.2.1,s_13.2.2.1,s_13.2.2.2,r_55⟩:Layout)))),(vI 0),(vI 0)] ⟨⟨0,_,_,_,_,_,_,_,rfl,rfl,iK,nM,rfl⟩,⟨rfl,⟨rfl,trivial⟩⟩⟩)
theorem BM {line_1:ByteArray} {r:(List ByteArray)×Bool} (hF:rG line_1=some r) :
  FnM Tryz.prog 37 [(vS line_1)] [] (.tup [(vL eS r.1),(vB r.2)]) []:=by
 refine FnM.of_wH ⟨Tryz.prog,11,[],[]⟩ rfl Tryz.func37 rfl rfl (lb_ rfl) (by kernel_rfl) ?_
 unfold rG at hF
 refine ai (aa .nil (aa (vB false) (af (ai (aa (vS line_1) ?_)))))
 obtain ⟨r_2,hr_3,hF⟩:=bind_some hF
 refine aI (lq hr_3) rfl hb53 rfl rfl rfl rfl wz (aa (vL eS r_2) (af (ai (aa (vL eS r_2) (aa (vL eS r_2) ?_)))))
 obtain ⟨r_4,hr_5,hF⟩:=bind_some hF
 refine aI (gJ hr_5) rfl hb57 rfl rfl rfl rfl wz (aa (vB (!r_4)) (aa (vL eS r_2) (aa (vB (!r_4)) (af ?_))))
 obtain rfl:=ae hF
 exact ay (aN [(vL eS r_2),(vB (!r_4))] ⟨rfl,⟨rfl,trivial⟩⟩)
theorem zS {s_1:ByteArray} {most_2:Int} {r:Int×Bool} (hF:nu s_1 most_2=some r) :
  FnM Tryz.prog 58 [(vS s_1),(vI most_2)] [] (.tup [(vI r.1),(vB r.2)]) []:=by
 refine FnM.of_wH ⟨Tryz.prog,38,[],[]⟩ rfl Tryz.func58 rfl rfl (lb_ rfl) (by kernel_rfl) ?_
 unfold nu at hF
 refine ai (aa (vI 0) (aa (vB false) (af (ai (aa (vS s_1) ?_)))))
 obtain ⟨r_3,hr_4,hF⟩:=bind_some hF
 refine aI (lh hr_4) rfl hb71 rfl rfl rfl rfl wz (aa (vS r_3) (af (ak (ak ?_))))
 obtain ⟨v_5,h_6,hF⟩:=bind_some hF
 refine aU [(0,(vS s_1)),(23,(vB v_5))] [] ?_ ?_
 ·refine av (aa (vS r_3) (aa (vB (sEq r_3 (⟨#[]⟩:ByteArray))) ?_))
  rcases aj h_6 with⟨hc_7,h_6⟩|⟨hc_7,h_6⟩
  ·refine aD rfl hc_7 wz (ah (ah (ah (ah (aa (vB true) (aa (vB true) (ah (ah (ah (aa (vB true) (af ?_)))))))))))
   obtain rfl:=ae h_6
   exact cu
  ·refine aD rfl hc_7 wz (aH (vS r_3) wa rfl (iX un9 rfl wa (aH (vI most_2) wa rfl (aH (vB (decide ((r_3.size:Int)>most_2))) wa rfl (aa (vB (decide ((r_3.size:Int)>most_2))) ?_)))))
   rcases aj h_6 with⟨hc_8,h_6⟩|⟨hc_8,h_6⟩
   ·refine aD rfl hc_8 wz (ah (ah (ah (aa (vB true) (af ?_)))))
    obtain rfl:=ae h_6
    exact cu
   ·refine aD rfl hc_8 wz (aH (vS r_3) wa rfl ?_)
    obtain ⟨r_9,hr_10,h_6⟩:=bind_some h_6
    refine aI (qB hr_10) rfl hb51 rfl rfl rfl rfl wa (aH (vB (!r_9)) wa rfl (aa (vB (!r_9)) (af ?_)))
    obtain rfl:=ae h_6
    exact cu
 ·rintro ⟨⟩ _ sl_ H_ hp_ hq_
  refine aS _ hp_ hq_ ?_
  rcases aj hF with⟨hc_11,hF⟩|⟨hc_11,hF⟩
  ·refine aC rfl hc_11 (ai (aa (vI 0) (aa (vB false) (af ?_))))
   obtain rfl:=ae hF
   exact ay (aN [(vI 0),(vB false)] ⟨rfl,⟨rfl,trivial⟩⟩)
  ·refine aA rfl hc_11 (ax (ai (aa (vS s_1) ?_)))
   obtain ⟨r_12,hr_13,hF⟩:=bind_some hF
   refine aI (strconv_Atoi_ok hr_13) rfl hb72 rfl rfl rfl rfl wz (aa (.tup [(vI r_12),.nili]) (aa (vI r_12) (aa .nili (aa (vI r_12) (aa .nili (af (ak ?_)))))))
   obtain ⟨v_14,h_15,hF⟩:=bind_some hF
   refine aU [(4,(vI r_12)),(5,(vB v_14))] [] ?_ ?_
   ·refine av (aa (vI r_12) (aa .nili (h_ieq if58 rfl rfl rfl wz (aa (vB true) (aH (vI r_12) wa rfl ?_)))))
    obtain ⟨r_16,hr_17,h_15⟩:=bind_some h_15
    refine aI (mo hr_17) rfl hb50 rfl rfl rfl rfl wa (aH (vS s_1) wa rfl (aH (vB (sEq r_16 s_1)) wa rfl (aa (vB (sEq r_16 s_1)) (aa (vI r_12) (aa (vB (sEq r_16 s_1)) (af ?_))))))
    obtain rfl:=ae h_15
    exact cu
   ·rintro ⟨⟩ _ sl_ H_ hp_ hq_
    refine aS _ hp_ hq_ ?_
    obtain rfl:=ae hF
    exact ay (aN [(vI r_12),(vB v_14)] ⟨rfl,⟨rfl,trivial⟩⟩)
theorem vg {l_1:(List ByteArray)} {most_2:Int} {r:(List Int)×Bool} (hF:iW l_1 most_2=some r) :
  FnM Tryz.prog 38 [(vL eS l_1),(vI most_2)] [] (.tup [(vL eI r.1),(vB r.2)]) []:=by
 refine FnM.of_wH ⟨Tryz.prog,35,[],[]⟩ rfl Tryz.func38 rfl rfl (lb_ rfl) (by kernel_rfl) ?_
 unfold iW at hF
 refine ai (aa .nil (aa (vB false) (af (ai (aa .nil (af (ai (aa (vB true) (af (ak (ai (aa (vL eS l_1) (dH uM rfl wz (aa (vI 0) (af (nK (λn_9 => ?_)))))))))))))))))
 obtain ⟨o_14,hj_15,hF⟩:=bind_some hF
 obtain ⟨hn_7,hj_15⟩:=bH hj_15
 refine iw (σ:=(List Int)×Bool) (N:=Nm) (λp=>(λ(s_8:(List Int)×Bool) (n_11:Nm)=>([(6,(gV n_11 1 s_8.1)),(7,(vB s_8.2))]:SL_)) p.1 p.2) (λp=>(λ(s_8:(List Int)×Bool) (n_11:Nm)=>([(n_11,gB 1 eI s_8.1)]:Hp)) p.1 p.2) (λ(k_3:Nat)=>(λp=>(λ(s_8:(List Int)×Bool) (n_11:Nm)=>([(1,(vI most_2)),(6,(gV n_11 1 s_8.1)),(7,(vB s_8.2)),(12,(vL eS l_1)),(13,(vI (l_1.length:Int))),(14,(vI (k_3:Int)))]:SL_)) p.1 p.2)) (λk x s=>fM most_2 k x s) o_14 l_1 ((([]:List Int),true),n_9) hj_15 rfl (aK rfl) ?_ ?_
 ·rintro ⟨k_3,l_4,s_8,n_11⟩ ⟨hL_13,hD_6⟩
  dsimp only at hL_13 hD_6
  cases l_4 with
  | nil =>
   obtain rfl:=ae hL_13
   refine ai (aa (vB (decide ((k_3:Int)<(l_1.length:Int)))) (af ?_))
   refine ak (aA rfl (drop_nil hD_6) (bE ?_))
   exact bn (s_8,n_11) rfl rfl (aK rfl)
  | cons x_5 l_4 =>
   obtain ⟨c_,hc_12,hL_13⟩:=bind_some hL_13
   refine ai (aa (vB (decide ((k_3:Int)<(l_1.length:Int)))) (af ?_))
   refine ak (aC rfl (bN hD_6) (ax ?_))
   unfold fM at hc_12
   refine ak (aR (ai (eH rX rfl rfl (dz hD_6) rfl wz (bT sz9 ag9 rfl (vS x_5) rfl wz (aa (vS x_5) (af (ai (aa (vS x_5) (aa (vI most_2) ?_)))))))))
   obtain ⟨r_16,hr_17,hc_12⟩:=bind_some hc_12
   refine aI (zS hr_17) rfl hb58 rfl rfl rfl rfl wz (aa (.tup [(vI r_16.1),(vB r_16.2)]) (aa (vI r_16.1) (aa (vB r_16.2) (aa (vI r_16.1) (aa (vB r_16.2) (af ?_))))))
   obtain ⟨v_18,h_19,hc_12⟩:=bind_some hc_12
   refine jG (β:=Nm) (λ(n_20:Nm)=>([(1,(vI most_2)),(6,(gV n_20 1 v_18.1)),(7,(vB v_18.2)),(12,(vL eS l_1)),(13,(vI (l_1.length:Int))),(14,(vI (k_3:Int)))]:SL_)) (λ(n_20:Nm)=>([(n_20,gB 1 eI v_18.1)]:Hp)) (λ_=>True) ?_ ?_
   ·refine av (aa (gV n_11 1 s_8.1) (aa (vI r_16.1) (gu (([r_16.1]:List Int).map eI) iq tF rfl rfl rfl rfl rfl wz ?_)))
    obtain ⟨a_21,hz_22,h_19⟩:=bind_some h_19
    refine kI 0 il ft (i:=0) EZ EZ sz3 z3 rfl (by decide) by3 (by decide) (λ_=>rfl) rfl rfl rfl hz_22 wz (λn_23=>aa (vB s_8.2) ?_)
    rcases aj h_19 with⟨hc_24,h_19⟩|⟨hc_24,h_19⟩
    ·refine aD rfl hc_24 wz (aH (vB r_16.2) wa rfl (aa (vB r_16.2) (aa (gV n_23 1 a_21) (aa (vB r_16.2) (af ?_)))))
     obtain rfl:=ae h_19
     exact bn n_23 trivial rfl (aK rfl)
    ·refine aD rfl hc_24 wz (ah (aa (vB false) (aa (gV n_23 1 a_21) (aa (vB false) (af ?_)))))
     obtain rfl:=ae h_19
     exact bn n_23 trivial rfl (aK rfl)
   ·rintro n_20 _ sl_ H_ hp_ hq_
    refine aS _ hp_ hq_ (av (gW (bX hD_6 hn_7) wz rfl (aa (vI ((k_3+1:Nat):Int)) (af ?_))))
    obtain rfl:=ae hc_12
    exact bD (k_3+1,l_4,(v_18.1,v_18.2),n_20) ⟨hL_13,bv hD_6⟩ (ls_ _) rfl (aK rfl)
 ·rintro ⟨s_8,n_11⟩ ho_ sl_ H_ hp_ hq_
  subst ho_
  refine aS _ hp_ hq_ (ai (aa (gV n_11 1 s_8.1) (aa (vB s_8.2) (aa (gV n_11 1 s_8.1) (aa (vB s_8.2) (af (gN 0 rfl (gQ 4 0 rfl rfl (gQ 6 0 rfl rfl (gQ 33 0 rfl rfl ?_))))))))))
  obtain rfl:=ae hF
  exact ay (aN [(vL eI s_8.1),(vB s_8.2)] ⟨rfl,⟨rfl,trivial⟩⟩)
theorem rW {line_1:ByteArray} {p_2:Bool} {p_3:Layout} {r:Bool×Bool×Layout} (hF:fK line_1 p_2 p_3=some r) :
  FnM Tryz.prog 36 [(vS line_1),(.ref (au 0) 0 0),(.ref (au 1) 0 0)] (([(.cells 1 [(vB p_2)])]:List Box)++[.cells 4 ([(vS p_3.Key),(vI p_3.W),(vI p_3.H)]++[gV (au 2) 6 p_3.Zones])]++gI 6 Zone.enc p_3.Zones) (vB r.1) (([some (.cells 1 [(vB r.2.1)])]:List (Option Box))++[some (.cells 4 ([(vS r.2.2.Key),(vI r.2.2.W),(vI r.2.2.H)]++[gV (au (2+(gI 6 Zone.enc p_3.Zones).length)) 6 r.2.2.Zones]))]++gT p_3.Zones none++gO 6 Zone.enc r.2.2.Zones):=by
 refine FnM.of_wHs1 ⟨Tryz.prog,77,[],[]⟩ rfl Tryz.func36 rfl rfl (lb_ rfl) (by kernel_rfl) ?_
 unfold fK at hF
 refine ai (aa (vB false) (af (ai (aa (vS line_1) ?_))))
 obtain ⟨r_4,hr_5,hF⟩:=bind_some hF
 refine aI (BM hr_5) rfl hb37 rfl rfl rfl rfl wz (aa (.tup [(vL eS r_4.1),(vB r_4.2)]) (aa (vL eS r_4.1) (aa (vB r_4.2) (aa (vL eS r_4.1) (aa (vB r_4.2) (af (ai (aa (vS (⟨#[122,111,110,101]⟩:ByteArray)) (aa (vI 7) (af (ak (ai (aJ 0 0 il ft sz4 ag4 rfl rfl (vB p_2) rfl wz (af ?_))))))))))))))
 obtain ⟨v_6,h_7,hF⟩:=bind_some hF
 refine aU [(1,(.ref (au 0) 0 0)),(2,(.ref (au 1) 0 0)),(5,(vL eS r_4.1)),(6,(vB r_4.2)),(7,(vS v_6.1)),(8,(vI v_6.2))] [((au 0),some (.cells 1 [(vB p_2)])),((au 1),some (.cells 4 [(vS p_3.Key),(vI p_3.W),(vI p_3.H),(gV (au 2) 6 p_3.Zones)])),((au 2),gB 6 Zone.enc p_3.Zones)] ?_ ?_
 ·rcases aj h_7 with⟨hc_8,h_7⟩|⟨hc_8,h_7⟩
  ·refine aC rfl hc_8 (av (aa (vS (⟨#[108,97,121,111,117,116]⟩:ByteArray)) (aa (vI 4) (af ?_))))
   obtain rfl:=ae h_7
   exact cu
  ·refine aA rfl hc_8 (ax ?_)
   obtain rfl:=ae h_7
   exact cu
 ·rintro ⟨⟩ _ sl_ H_ hp_ hq_
  refine aS _ hp_ hq_ (ak (ak ?_))
  obtain ⟨v_9,h_10,hF⟩:=bind_some hF
  refine aU [(1,(.ref (au 0) 0 0)),(2,(.ref (au 1) 0 0)),(5,(vL eS r_4.1)),(31,(vB v_9))] [((au 0),some (.cells 1 [(vB p_2)])),((au 1),some (.cells 4 [(vS p_3.Key),(vI p_3.W),(vI p_3.H),(gV (au 2) 6 p_3.Zones)])),((au 2),gB 6 Zone.enc p_3.Zones)] ?_ ?_
  ·refine av (aa (vB r_4.2) (aa (vB (!r_4.2)) ?_))
   rcases aj h_10 with⟨hc_11,h_10⟩|⟨hc_11,h_10⟩
   ·refine aD rfl hc_11 wz (ah (ah (ah (ah (ah (aa (vB true) (aa (vB true) (ah (ah (ah (ah (aa (vB true) (af ?_)))))))))))))
    obtain rfl:=ae h_10
    exact cu
   ·refine aD rfl hc_11 wz (aH (vL eS r_4.1) wa rfl ?_)
    obtain ⟨y_12,hy_13,h_10⟩:=bind_some h_10
    refine eH rX rfl rfl hy_13 rfl wa (bT sz9 ag9 rfl (vS y_12) rfl wa (aH (vS v_6.1) wa rfl (aH (vB (sNe y_12 v_6.1)) wa rfl (aa (vB (sNe y_12 v_6.1)) ?_))))
    rcases aj h_10 with⟨hc_14,h_10⟩|⟨hc_14,h_10⟩
    ·refine aD rfl hc_14 wz (ah (ah (ah (ah (aa (vB true) (af ?_))))))
     obtain rfl:=ae h_10
     exact cu
    ·refine aD rfl hc_14 wz (aH (vL eS r_4.1) wa rfl (dH uM rfl wa (aH (vI v_6.2) wa rfl (aH (vB ((r_4.1.length:Int) != v_6.2)) wa rfl (aa (vB ((r_4.1.length:Int) != v_6.2)) (af ?_))))))
     obtain rfl:=ae h_10
     exact cu
  ·rintro ⟨⟩ _ sl_ H_ hp_ hq_
   refine aS _ hp_ hq_ ?_
   rcases aj hF with⟨hc_15,hF⟩|⟨hc_15,hF⟩
   ·refine aC rfl hc_15 (ai (aa (vB false) (af ?_)))
    obtain rfl:=ae hF
    exact ay (BH (n:=(au 2)) (.inr rfl) [(vB false)] ⟨rfl,trivial⟩ rfl rfl rfl rfl rfl rfl rfl 2 rfl rfl)
   ·refine aA rfl hc_15 (ax (ai (aa (vL eS r_4.1) ?_)))
    obtain ⟨y_16,hy_17,hF⟩:=bind_some hF
    refine qw uM sz9 (λ_=>rfl) rfl rfl hy_17 wz ?_
    obtain ⟨r_18,hr_19,hF⟩:=bind_some hF
    refine aI (vg hr_19) rfl hb38 rfl rfl rfl rfl wz (aa (.tup [(vL eI r_18.1),(vB r_18.2)]) (aa (vL eI r_18.1) (aa (vB r_18.2) (aa (vL eI r_18.1) (aa (vB r_18.2) (af (ak (ai (aJ 0 0 il ft sz4 ag4 rfl rfl (vB p_2) rfl wz (af ?_))))))))))
    obtain ⟨v_20,h_21,hF⟩:=bind_some hF
    refine jG (β:=Nm) (λ(n_22:Nm)=>([(1,(.ref (au 0) 0 0)),(10,(vB r_18.2))]:SL_)) (λ(n_22:Nm)=>([((au 0),some (.cells 1 [(vB p_2)])),((au 1),some (.cells 4 [(vS v_20.2.1),(vI v_20.2.2.1),(vI v_20.2.2.2),(gV n_22 6 v_20.1)])),(n_22,gB 6 Zone.enc v_20.1)]:Hp)) (λ_=>True) ?_ ?_
    ·rcases aj h_21 with⟨hc_23,h_21⟩|⟨hc_23,h_21⟩
     ·refine aC rfl hc_23 (bJ (aa (vL eS r_4.1) ?_))
      obtain ⟨y_24,hy_25,h_21⟩:=bind_some h_21
      refine eH rX rfl rfl hy_25 rfl wz (bT sz9 ag9 rfl (vS y_24) rfl wz (aa (vL eI r_18.1) ?_))
      obtain ⟨y_26,hy_27,h_21⟩:=bind_some h_21
      refine eH iq rfl rfl hy_27 rfl wz (bT sz3 ag3 rfl (vI y_26) rfl wz (aa (vL eI r_18.1) ?_))
      obtain ⟨y_28,hy_29,h_21⟩:=bind_some h_21
      refine eH iq rfl rfl hy_29 rfl wz (bT sz3 ag3 rfl (vI y_28) rfl wz (aF pY rfl 0 rfl wz (bR 10 (.inr (by kernel_rfl)) (λ_ _ ag=>trivial) 1 sz9 rfl rfl [(vS y_24),(vI p_3.W),(vI p_3.H),(gV (au 2) 6 p_3.Zones)] rfl wz (aF mq rfl 1 rfl wz (bR 12 (.inr (by kernel_rfl)) (λ_ _ ag=>⟨.inr (.inr (by kernel_rfl)),trivial⟩) 1 sz3 rfl rfl [(vS y_24),(vI y_26),(vI p_3.H),(gV (au 2) 6 p_3.Zones)] rfl wz (aF lC rfl 2 rfl wz (bR 14 (.inr (by kernel_rfl)) (λ_ _ ag=>⟨.inr (.inr (by kernel_rfl)),⟨.inr (.inr (by kernel_rfl)),trivial⟩⟩) 1 sz3 rfl rfl [(vS y_24),(vI y_26),(vI y_28),(gV (au 2) 6 p_3.Zones)] rfl wz (af ?_))))))))
      obtain rfl:=ae h_21
      exact bn (au 2) trivial rfl (aK rfl)
     ·refine aA rfl hc_23 (bJ (aF iQ rfl 3 rfl wz (aJ 1 1 (.inr (by kernel_rfl)) (λ_ _ ag=>trivial) qc uI rfl rfl (gV (au 2) 6 p_3.Zones) rfl wz (aa (vL eS r_4.1) ?_))))
      obtain ⟨y_30,hy_31,h_21⟩:=bind_some h_21
      refine eH rX rfl rfl hy_31 rfl wz (bT sz9 ag9 rfl (vS y_30) rfl wz (aa (vL eI r_18.1) ?_))
      obtain ⟨y_32,hy_33,h_21⟩:=bind_some h_21
      refine eH iq rfl rfl hy_33 rfl wz (bT sz3 ag3 rfl (vI y_32) rfl wz (aa (vL eI r_18.1) ?_))
      obtain ⟨y_34,hy_35,h_21⟩:=bind_some h_21
      refine eH iq rfl rfl hy_35 rfl wz (bT sz3 ag3 rfl (vI y_34) rfl wz (aa (vL eI r_18.1) ?_))
      obtain ⟨y_36,hy_37,h_21⟩:=bind_some h_21
      refine eH iq rfl rfl hy_37 rfl wz (bT sz3 ag3 rfl (vI y_36) rfl wz (aa (vL eI r_18.1) ?_))
      obtain ⟨y_38,hy_39,h_21⟩:=bind_some h_21
      refine eH iq rfl rfl hy_39 rfl wz (bT sz3 ag3 rfl (vI y_38) rfl wz (aH (.d (.agg (Rect.enc (⟨y_32,y_34,y_36,y_38⟩:Rect)))) wz (by kernel_rfl) (aa (vL eI r_18.1) ?_)))
      obtain ⟨y_40,hy_41,h_21⟩:=bind_some h_21
      refine eH iq rfl rfl hy_41 rfl wz (bT sz3 ag3 rfl (vI y_40) rfl wz (aH (.d (.agg (Zone.enc (⟨y_30,(⟨y_32,y_34,y_36,y_38⟩:Rect),y_40⟩:Zone)))) wz (by kernel_rfl) (gu (([(⟨y_30,(⟨y_32,y_34,y_36,y_38⟩:Rect),y_40⟩:Zone)]:List Zone).map Zone.enc) xA IG rfl rfl rfl rfl rfl wz ?_)))
      obtain ⟨a_42,hz_43,h_21⟩:=bind_some h_21
      refine kI 23 (.inr (by kernel_rfl)) (λ_ _ ag=>⟨.inr (.inr (by kernel_rfl)),trivial⟩) (i:=2) zR zR pO z49 rfl (by decide) Iz (by decide) (λ_=>rfl) rfl rfl rfl hz_43 wz (λn_44=>aF iQ rfl 3 rfl wz (bR 25 (.inr (by kernel_rfl)) (λ_ _ ag=>⟨.inr (.inr (by kernel_rfl)),⟨.inr (.inr (by kernel_rfl)),trivial⟩⟩) 1 qc rfl rfl [(vS p_3.Key),(vI p_3.W),(vI p_3.H),(gV n_44 6 a_42)] (FJ rfl) wz (af ?_)))
      obtain rfl:=ae h_21
      exact bn n_44 trivial rfl (aK rfl)
    ·rintro n_22 _ sl_ H_ hp_ hq_
     refine aS _ hp_ hq_ (ai (bR 0 il ft 0 sz4 rfl rfl [(vB false)] rfl wz (af (ai (aa (vB r_18.2) (aa (vB r_18.2) (af ?_)))))))
     obtain rfl:=ae hF
     exact ay (BH (n:=n_22) (.inr rfl) [(vB r_18.2)] ⟨rfl,trivial⟩ rfl rfl rfl rfl rfl rfl rfl 2 rfl rfl)
theorem l5 {s_1:ByteArray} {substr_2:ByteArray} {r:Int} (hF:dE s_1 substr_2=some r) :
  FnM Tryz.prog 86 [(vS s_1),(vS substr_2)] [] (vI r) []:=by
 refine FnM.of_wH ⟨Tryz.prog,143,[],[]⟩ rfl Tryz.func86 rfl rfl (lb_ rfl) (by kernel_rfl) ?_
 unfold dE at hF
 refine ai (aa (vI 0) (af (ai (aa (vS substr_2) (iX un9 rfl wz (aa (vI (substr_2.size:Int)) (af (ak (aR (ak ?_))))))))))
 obtain ⟨v_3,h_4,hF⟩:=bind_some hF
 refine aU [(0,(vS s_1)),(1,(vS substr_2)),(5,(vI (substr_2.size:Int))),(16,(vB v_3))] [] ?_ ?_
 ·refine av (aa (vI (substr_2.size:Int)) (aa (vB ((substr_2.size:Int)==0)) ?_))
  rcases aj h_4 with⟨hc_5,h_4⟩|⟨hc_5,h_4⟩
  ·refine aD rfl hc_5 wz (ah (ah (ah (aa (vB true) (aa (vB true) (af ?_))))))
   obtain rfl:=ae h_4
   exact cu
  ·refine aD rfl hc_5 wz (aH (vS substr_2) wa rfl (aH (vS s_1) wa rfl (aH (vB (sEq substr_2 s_1)) wa rfl (aa (vB (sEq substr_2 s_1)) (aa (vB (sEq substr_2 s_1)) (af ?_))))))
   obtain rfl:=ae h_4
   exact cu
 ·rintro ⟨⟩ _ sl_ H_ hp_ hq_
  refine aS _ hp_ hq_ ?_
  rcases aj hF with⟨hc_6,hF⟩|⟨hc_6,hF⟩
  ·refine aC rfl hc_6 (ai (aa (vI 0) (af ?_)))
   obtain rfl:=ae hF
   exact ay (aN [(vI 0)] ⟨rfl,trivial⟩)
  ·refine aA rfl hc_6 (ai (aa (vI (substr_2.size:Int)) (aa (vB ((substr_2.size:Int)==1)) (aa (vB ((substr_2.size:Int)==1)) (af ?_)))))
   rcases aj hF with⟨hc_7,hF⟩|⟨hc_7,hF⟩
   ·refine aC rfl hc_7 (ai (aa (vS s_1) (aa (vS substr_2) ?_)))
    obtain ⟨b_8,hy_9,hF⟩:=bind_some hF
    refine qK un9 rfl rfl hy_9 wz ?_
    obtain ⟨r_10,hr_11,hF⟩:=bind_some hF
    refine aI (gy hr_11) rfl hb80 rfl rfl rfl rfl wz (aa (vI r_10) (af ?_))
    obtain rfl:=ae hF
    exact ay (aN [(vI r_10)] ⟨rfl,trivial⟩)
   ·refine aA rfl hc_7 (ai (aa (vI (substr_2.size:Int)) (aa (vS s_1) (iX un9 rfl wz (aa (vB (decide ((substr_2.size:Int)>=(s_1.size:Int)))) (aa (vB (decide ((substr_2.size:Int)>=(s_1.size:Int)))) (af ?_)))))))
    rcases aj hF with⟨hc_12,hF⟩|⟨hc_12,hF⟩
    ·refine aC rfl hc_12 (ai (aa (vI (-1)) (af ?_)))
     obtain rfl:=ae hF
     exact ay (aN [(vI (-1))] ⟨rfl,trivial⟩)
    ·refine aA rfl hc_12 (ai (aa (vI (substr_2.size:Int)) ?_))
     cases hF
theorem mW {s_1:ByteArray} {sep_2:ByteArray} {r:ByteArray×ByteArray×Bool} (hF:dS s_1 sep_2=some r) :
  FnM Tryz.prog 69 [(vS s_1),(vS sep_2)] [] (.tup [(vS r.1),(vS r.2.1),(vB r.2.2)]) []:=by
 refine FnM.of_wH ⟨Tryz.prog,23,[],[]⟩ rfl Tryz.func69 rfl rfl (lb_ rfl) (by kernel_rfl) ?_
 unfold dS at hF
 refine ai (aa (vS (⟨#[]⟩:ByteArray)) (aa (vS (⟨#[]⟩:ByteArray)) (aa (vB false) (af (ak (ai (aa (vS s_1) (aa (vS sep_2) ?_))))))))
 obtain ⟨r_3,hr_4,hF⟩:=bind_some hF
 refine aI (l5 hr_4) rfl hb86 rfl rfl rfl rfl wz (aa (vI r_3) (af (ai (aa (vI r_3) (aa (vB (decide (r_3>=0))) (af ?_))))))
 rcases aj hF with⟨hc_5,hF⟩|⟨hc_5,hF⟩
 ·refine aC rfl hc_5 (ak (bJ (aa (vS s_1) (aa (vI r_3) ?_))))
  obtain ⟨y_6,hy_7,hF⟩:=bind_some hF
  refine ib un9 rfl rfl hy_7 wz (aa (vS s_1) (aa (vI r_3) (aa (vS sep_2) (iX un9 rfl wz (aa (vI (w64 (r_3+(sep_2.size:Int)))) ?_)))))
  obtain ⟨y_8,hy_9,hF⟩:=bind_some hF
  refine jh un9 rfl rfl hy_9 wz (aa (vS y_6) (aa (vS y_8) (aa (vB true) (af ?_))))
  obtain rfl:=ae hF
  exact ay (aN [(vS y_6),(vS y_8),(vB true)] ⟨rfl,⟨rfl,⟨rfl,trivial⟩⟩⟩)
 ·refine aA rfl hc_5 (ax (ai (aa (vS s_1) (aa (vS s_1) (aa (vS (⟨#[]⟩:ByteArray)) (aa (vB false) (af ?_)))))))
  obtain rfl:=ae hF
  exact ay (aN [(vS s_1),(vS (⟨#[]⟩:ByteArray)),(vB false)] ⟨rfl,⟨rfl,⟨rfl,trivial⟩⟩⟩)
theorem x9 {s_1:ByteArray} {sep_2:ByteArray} {r:ByteArray×ByteArray×Bool} (hF:strings_Cut s_1 sep_2=some r) :
  FnM Tryz.prog 56 [(vS s_1),(vS sep_2)] [] (.tup [(vS r.1),(vS r.2.1),(vB r.2.2)]) []:=by
 refine FnM.of_wH ⟨Tryz.prog,13,[],[]⟩ rfl Tryz.func56 rfl rfl (lb_ rfl) (by kernel_rfl) ?_
 unfold strings_Cut at hF
 refine ai (aa (vS (⟨#[]⟩:ByteArray)) (aa (vS (⟨#[]⟩:ByteArray)) (aa (vB false) (af (ai (aa (vS s_1) (aa (vS sep_2) ?_)))))))
 obtain ⟨r_3,hr_4,hF⟩:=bind_some hF
 refine aI (mW hr_4) rfl hb69 rfl rfl rfl rfl wz (aa (vS r_3.1) (aa (vS r_3.2.1) (aa (vB r_3.2.2) (aa (vS r_3.1) (aa (vS r_3.2.1) (aa (vB r_3.2.2) (af ?_)))))))
 obtain rfl:=ae hF
 exact ay (aN [(vS r_3.1),(vS r_3.2.1),(vB r_3.2.2)] ⟨rfl,⟨rfl,⟨rfl,trivial⟩⟩⟩)
end Go.Proofs.YtacmlgpnplklaaaGreatDoor.Law

