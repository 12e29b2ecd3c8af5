/-
 The machine computes these plain functions (written by a program of ours).
-/
import Derived.Test.YtacmlgpnplklaaaGreatDoorFacts
import Derived.Test.YtacmlgpnplklaaaGreatDoorDefs
import Derived.Test.YtacmlgpnplklaaaGreatDoorPf2
import Derived.Test.YtacmlgpnplklaaaGreatDoorShelf
open Go Go.Eng Go.Proofs
namespace Go.Proofs.YtacmlgpnplklaaaGreatDoor.Law
set_option maxRecDepth 100000
set_option linter.unusedVariables false
set_option maxHeartbeats 1000000
theorem xq {text_1:ByteArray} {take2_3:Bool} {take2_4:Layout} {r:Int×Bool×Bool×Layout} (hF:jF text_1 take2_3 take2_4=some r) :
  FnM Tryz.prog 35 [(vS text_1),(.fn 36 [(.ref (au 0) 0 0),(.ref (au 1) 0 0)])] (([(.cells 1 [(vB take2_3)])]:List Box)++[.cells 4 ([(vS take2_4.Key),(vI take2_4.W),(vI take2_4.H)]++[gV (au 2) 6 take2_4.Zones])]++gI 6 Zone.enc take2_4.Zones) (.tup [(vI r.1),(vB r.2.1)]) (([some (.cells 1 [(vB r.2.2.1)])]:List (Option Box))++[some (.cells 4 ([(vS r.2.2.2.Key),(vI r.2.2.2.W),(vI r.2.2.2.H)]++[gV (au (2+(gI 6 Zone.enc take2_4.Zones).length)) 6 r.2.2.2.Zones]))]++gT take2_4.Zones none++gO 6 Zone.enc r.2.2.2.Zones):=by
 refine FnM.of_wHs1 ⟨Tryz.prog,30,[],[]⟩ rfl Tryz.func35 rfl rfl (lb_ rfl) (by kernel_rfl) ?_
 unfold jF at hF
 refine ai (aa (vI 0) (aa (vB false) (af (ak (ai (aa (vI 0) (af ?_)))))))
 obtain ⟨o_15,hj_16,hF⟩:=bind_some hF
 obtain ⟨nq_28,hj_16⟩:=gU hj_16
 refine D7 (σ:=(List Zone)×ByteArray×Int×Bool×ByteArray×Int×Int) (N:=Nm) (λp=>(λ(s_10:(List Zone)×ByteArray×Int×Bool×ByteArray×Int×Int) (n_12:Nm)=>([]:SL_)) p.1 p.2) (λp=>(λ(s_10:(List Zone)×ByteArray×Int×Bool×ByteArray×Int×Int) (n_12:Nm)=>([((au 0),some (.cells 1 [(vB s_10.2.2.2.1)])),((au 1),some (.cells 4 [(vS s_10.2.2.2.2.1),(vI s_10.2.2.2.2.2.1),(vI s_10.2.2.2.2.2.2),(gV n_12 6 s_10.1)])),(n_12,gB 6 Zone.enc s_10.1)]:Hp)) p.1 p.2) (λ(k_5:Nat)=>(λp=>(λ(s_10:(List Zone)×ByteArray×Int×Bool×ByteArray×Int×Int) (n_12:Nm)=>([(0,(vS s_10.2.1)),(1,(.fn 36 [(.ref (au 0) 0 0),(.ref (au 1) 0 0)])),(6,(vI s_10.2.2.1))]:SL_)) p.1 p.2)) (λs=>dn s) o_15 nq_28 ((take2_4.Zones,text_1,0,take2_3,take2_4.Key,take2_4.W,take2_4.H),(au 2)) hj_16 rfl (aK rfl) ?_ ?_
 ·rintro ⟨k_5,s_10,n_12⟩ hL_14
  dsimp only at hL_14
  cases k_5 with
  | zero=>cases hL_14
  | succ k_5 =>
   obtain ⟨c_,hc_13,hL_14⟩:=bind_some hL_14
   unfold dn at hc_13
   refine ak (ai (aa (vS s_10.2.1) (aa (vB (sNe s_10.2.1 (⟨#[]⟩:ByteArray))) (af ?_))))
   rcases aj hc_13 with⟨hc_17,hc_13⟩|⟨hc_17,hc_13⟩
   ·refine aC rfl hc_17 (ax (ak (aR (ai (aa (vS s_10.2.1) ?_)))))
    obtain ⟨r_18,hr_19,hc_13⟩:=bind_some hc_13
    refine aI (x9 hr_19) rfl hb56 rfl rfl rfl rfl wz (aa (.tup [(vS r_18.1),(vS r_18.2.1),(vB r_18.2.2)]) (aa (vS r_18.1) (aa (vS r_18.2.1) (aa (vB r_18.2.2) (aa (vS r_18.1) (aa (vS r_18.2.1) (aa (vB r_18.2.2) (af (ak (ak ?_))))))))))
    obtain ⟨v_20,h_21,hc_13⟩:=bind_some hc_13
    refine jG (β:=Nm) (λ(n_22:Nm)=>([(1,(.fn 36 [(.ref (au 0) 0 0),(.ref (au 1) 0 0)])),(6,(vI s_10.2.2.1)),(8,(vS r_18.2.1)),(27,(vB v_20.2.1))]:SL_)) (λ(n_22:Nm)=>([((au 0),some (.cells 1 [(vB v_20.2.2.1)])),((au 1),some (.cells 4 [(vS v_20.2.2.2.1),(vI v_20.2.2.2.2.1),(vI v_20.2.2.2.2.2),(gV n_22 6 v_20.1)])),(n_22,gB 6 Zone.enc v_20.1)]:Hp)) (λ_=>True) ?_ ?_
    ·refine av (aa (vB r_18.2.2) (aa (vB (!r_18.2.2)) ?_))
     rcases aj h_21 with⟨hc_23,h_21⟩|⟨hc_23,h_21⟩
     ·refine aD rfl hc_23 wz (ah (ah (ah (ah (aa (vB true) (af ?_))))))
      obtain rfl:=ae h_21
      exact bn n_12 trivial rfl (aK rfl)
     ·refine aD rfl hc_23 wz (aH (.fn 36 [(.ref (au 0) 0 0),(.ref (au 1) 0 0)]) wa rfl (aH (vS r_18.1) wa rfl ?_))
      obtain ⟨r_24,hr_25,h_21⟩:=bind_some h_21
      refine Am 0 1 2 (rW hr_25) rfl hb36 rfl rfl rfl rfl rfl rfl rfl (by kernel_rfl) (by kernel_rfl) (by kernel_rfl) (by kernel_rfl) (by decide) wa (λn_26=>([((au 0),some (.cells 1 [(vB r_24.2.1)])),((au 1),some (.cells 4 [(vS r_24.2.2.Key),(vI r_24.2.2.W),(vI r_24.2.2.H),(gV n_26 6 r_24.2.2.Zones)])),(n_12,none)]:Hp)) (λ_=>by kernel_rfl) (λn_26=>aH (vB (!r_24.1)) wa rfl (aa (vB (!r_24.1)) (af ?_)))
      obtain rfl:=ae h_21
      exact bn n_26 trivial rfl (pre_is [0,1,3] (by decide) rfl)
    ·rintro n_22 _ sl_ H_ hp_ hq_
     refine aS _ hp_ hq_ ?_
     rcases aj hc_13 with⟨hc_27,hc_13⟩|⟨hc_27,hc_13⟩
     ·refine aC rfl hc_27 (ai (aa (vI s_10.2.2.1) (aa (vI s_10.2.2.1) (aa (vB false) (af ?_)))))
      obtain rfl:=ae hc_13
      obtain rfl:=ae hL_14
      obtain rfl:=ae hF
      exact ay (BH (n:=n_22) (.inr rfl) [(vI s_10.2.2.1),(vB false)] ⟨rfl,⟨rfl,trivial⟩⟩ rfl rfl rfl rfl rfl rfl rfl 2 rfl rfl)
     ·refine aA rfl hc_27 (ax (av (aa (vS r_18.2.1) (aa (vS r_18.2.1) (af (av (aa (vI s_10.2.2.1) (aa (vI (w64 (s_10.2.2.1+1))) (aa (vI (w64 (s_10.2.2.1+1))) (af ?_))))))))))
      obtain rfl:=ae hc_13
      exact bD (k_5,(v_20.1,r_18.2.1,(w64 (s_10.2.2.1+1)),v_20.2.2.1,v_20.2.2.2.1,v_20.2.2.2.2.1,v_20.2.2.2.2.2),n_22) hL_14 (ls_ _) rfl (aK rfl)
   ·refine aA rfl hc_17 (bE ?_)
    obtain rfl:=ae hc_13
    obtain rfl:=ae hL_14
    exact bn ((s_10.1,s_10.2.1,s_10.2.2.1,s_10.2.2.2.1,s_10.2.2.2.2.1,s_10.2.2.2.2.2.1,s_10.2.2.2.2.2.2),n_12) rfl rfl (aK rfl)
 ·rintro ⟨s_10,n_12⟩ ho_ sl_ H_ hp_ hq_
  subst ho_
  refine aS _ hp_ hq_ (ai (aa (vI 0) (aa (vB true) (af ?_))))
  obtain rfl:=ae hF
  exact ay (BH (n:=n_12) (.inr rfl) [(vI 0),(vB true)] ⟨rfl,⟨rfl,trivial⟩⟩ rfl rfl rfl rfl rfl rfl rfl 2 rfl rfl)
theorem uf {text_1:ByteArray} {r:Layout×Int×Int} (hF:fe text_1=some r) :
  FnM Tryz.prog 10 [(vS text_1)] [] (.tup [(.d (.agg (Layout.enc r.1))),(vI r.2.1),(vI r.2.2)]) []:=by
 refine FnM.of_wH ⟨Tryz.prog,34,[],[]⟩ rfl Tryz.func10 rfl rfl (lb_ rfl) (by kernel_rfl) ?_
 unfold fe at hF
 refine ai (dM 0 (.inl rfl) z28 rfl wz (λn_2=>aa (vI 0) (aa (vI 0) (af (ak (ai (aa (vS text_1) (iX un9 rfl wz (aa (vB (decide ((text_1.size:Int)>200000))) (af ?_))))))))))
 rcases aj hF with⟨hc_3,hF⟩|⟨hc_3,hF⟩
 ·refine aC rfl hc_3 (ai (aH (.agg [(vS (⟨#[]⟩:ByteArray)),(vI 0),(vI 0),.nil]) wz (by kernel_rfl) (bR 0 il ft 0 iK rfl rfl [(vS (⟨#[]⟩:ByteArray)),(vI 0),(vI 0),.nil] rfl wz (aa (vI 0) (aa (vI 2) (af ?_))))))
  obtain rfl:=ae hF
  exact ay (aN [(.agg [(vS (⟨#[]⟩:ByteArray)),(vI 0),(vI 0),.nil]),(vI 0),(vI 2)] ⟨⟨0,_,_,_,_,_,_,_,rfl,rfl,iK,nM,rfl⟩,⟨rfl,⟨rfl,trivial⟩⟩⟩)
 ·refine aA rfl hc_3 (ax (ai (dM 0 (.inl rfl) z28 rfl wz (λn_4=>af (ai (dM 0 (.inl rfl) z4 rfl wz (λn_5=>bR 0 il ft 2 sz4 rfl rfl [(vB true)] rfl wz (af (ai (aa (vS text_1) (aa (.fn 36 [(.ref n_5 0 0),(.ref n_4 0 0)]) (rC (λn_6=>FX (b':=some (.cells 4 [(vS (⟨#[]⟩:ByteArray)),(vI 0),(vI 0),(gV n_6 6 ([]:List Zone))])) 1 rfl rfl (FX (b':=gB 6 Zone.enc ([]:List Zone)) 3 rfl rfl ?_))))))))))))))
  obtain ⟨r_7,hr_8,hF⟩:=bind_some hF
  refine Am 2 1 3 (xq hr_8) rfl hb35 rfl rfl rfl rfl rfl rfl rfl (by kernel_rfl) (by kernel_rfl) (by kernel_rfl) (by kernel_rfl) (by decide) wz (λn_9=>([(n_2,some (.cells 4 [(vS (⟨#[]⟩:ByteArray)),(vI 0),(vI 0),.nil])),(n_4,some (.cells 4 [(vS r_7.2.2.2.Key),(vI r_7.2.2.2.W),(vI r_7.2.2.2.H),(gV n_9 6 r_7.2.2.2.Zones)])),(n_5,some (.cells 1 [(vB r_7.2.2.1)])),(n_6,none)]:Hp)) (λ_=>by kernel_rfl) (λn_9=>aa (.tup [(vI r_7.1),(vB r_7.2.1)]) (aa (vI r_7.1) (aa (vB r_7.2.1) (aa (vI r_7.1) (aa (vB r_7.2.1) (af (ak (ak ?_))))))))
  obtain ⟨v_10,h_11,hF⟩:=bind_some hF
  refine aU [(2,(.ref n_2 0 0)),(5,(.ref n_4 0 0)),(7,(vI r_7.1)),(24,(vB v_10))] [(n_2,some (.cells 4 [(vS (⟨#[]⟩:ByteArray)),(vI 0),(vI 0),.nil])),(n_4,some (.cells 4 [(vS r_7.2.2.2.Key),(vI r_7.2.2.2.W),(vI r_7.2.2.2.H),(gV n_9 6 r_7.2.2.2.Zones)])),(n_5,some (.cells 1 [(vB r_7.2.2.1)])),(n_6,none),(n_9,gB 6 Zone.enc r_7.2.2.2.Zones)] ?_ ?_
  ·refine av (aa (vB r_7.2.1) (aa (vB (!r_7.2.1)) ?_))
   rcases aj h_11 with⟨hc_12,h_11⟩|⟨hc_12,h_11⟩
   ·refine aD rfl hc_12 wz (ah (aa (vB true) (af ?_)))
    obtain rfl:=ae h_11
    exact cu
   ·refine aD rfl hc_12 wz (aJ 0 2 il ft sz4 ag4 rfl rfl (vB r_7.2.2.1) rfl wa (aa (vB r_7.2.2.1) (af ?_)))
    obtain rfl:=ae h_11
    exact cu
  ·rintro ⟨⟩ _ sl_ H_ hp_ hq_
   refine aS _ hp_ hq_ ?_
   rcases aj hF with⟨hc_13,hF⟩|⟨hc_13,hF⟩
   ·refine aC rfl hc_13 (ai (aH (.agg [(vS (⟨#[]⟩:ByteArray)),(vI 0),(vI 0),.nil]) wz (by kernel_rfl) (aa (vI r_7.1) (bR 0 il ft 0 iK rfl rfl [(vS (⟨#[]⟩:ByteArray)),(vI 0),(vI 0),.nil] rfl wz (aa (vI r_7.1) (aa (vI 9) (af ?_)))))))
    obtain rfl:=ae hF
    exact ay (aN [(.agg [(vS (⟨#[]⟩:ByteArray)),(vI 0),(vI 0),.nil]),(vI r_7.1),(vI 9)] ⟨⟨0,_,_,_,_,_,_,_,rfl,rfl,iK,nM,rfl⟩,⟨rfl,⟨rfl,trivial⟩⟩⟩)
   ·refine aA rfl hc_13 (ax (ak (ak (gN 4 rfl (Es 4 1 (Layout.v r_7.2.2.2) rfl rfl (λS hS=>gX (rfl) (gX (rfl) (gX (rfl) (gX (hS) (rfl))))) (av (aJ 0 1 il ft iK nM rfl rfl (.d (.agg (Layout.enc r_7.2.2.2))) rfl wz ?_)))))))
    obtain ⟨r_14,hr_15,hF⟩:=bind_some hF
    refine aI (nZ hr_15) rfl hb7 rfl rfl rfl rfl wz (aa (vI r_14) (af (ai (aa (vI r_14) (aa (vB (r_14 != 0)) (af ?_))))))
    rcases aj hF with⟨hc_16,hF⟩|⟨hc_16,hF⟩
    ·refine aC rfl hc_16 (ai (aH (.agg [(vS (⟨#[]⟩:ByteArray)),(vI 0),(vI 0),.nil]) wz (by kernel_rfl) (aa (vI r_14) (bR 0 il ft 0 iK rfl rfl [(vS (⟨#[]⟩:ByteArray)),(vI 0),(vI 0),.nil] rfl wz (aa (vI 0) (aa (vI r_14) (af ?_)))))))
     obtain rfl:=ae hF
     exact ay (aN [(.agg [(vS (⟨#[]⟩:ByteArray)),(vI 0),(vI 0),.nil]),(vI 0),(vI r_14)] ⟨⟨0,_,_,_,_,_,_,_,rfl,rfl,iK,nM,rfl⟩,⟨rfl,⟨rfl,trivial⟩⟩⟩)
    ·refine aA rfl hc_16 (ax (ai (aJ 0 1 il ft iK nM rfl rfl (.d (.agg (Layout.enc r_7.2.2.2))) rfl wz (bR 0 il ft 0 iK rfl rfl (Layout.v r_7.2.2.2) rfl wz (aa (vI 0) (aa (vI 0) (af ?_)))))))
     obtain rfl:=ae hF
     exact ay (aN [(.d (.agg (Layout.enc r_7.2.2.2))),(vI 0),(vI 0)] ⟨⟨0,_,_,_,_,_,_,_,rfl,rfl,iK,nM,rfl⟩,⟨rfl,⟨rfl,trivial⟩⟩⟩)
theorem kH {s1_1:(List Zone)} {s2_2:(List Zone)} {r:Bool} (hF:cB s1_1 s2_2=some r) :
  FnM Tryz.prog 39 [(vL Zone.enc s1_1),(vL Zone.enc s2_2)] [] (vB r) []:=by
 refine FnM.of_wH ⟨Tryz.prog,26,[],[]⟩ rfl Tryz.func39 rfl rfl (lb_ rfl) (by kernel_rfl) ?_
 unfold cB at hF
 refine ai (aa (vB false) (af (ak (ai (aa (vL Zone.enc s1_1) (dH uV rfl wz (aa (vL Zone.enc s2_2) (dH uV rfl wz (aa (vB ((s1_1.length:Int) != (s2_2.length:Int))) (af ?_))))))))))
 rcases aj hF with⟨hc_3,hF⟩|⟨hc_3,hF⟩
 ·refine aC rfl hc_3 (ai (aa (vB false) (af ?_)))
  obtain rfl:=ae hF
  exact ay (aN [(vB false)] ⟨rfl,trivial⟩)
 ·refine aA rfl hc_3 (ax (ak (ai (aa (vL Zone.enc s1_1) (dH uV rfl wz (aa (vI 0) (af ?_)))))))
  obtain ⟨o_12,hj_13,hF⟩:=bind_some hF
  obtain ⟨hn_8,hj_13⟩:=bH hj_13
  refine fO (λ(s_9:Unit)=>[]) (λ(s_9:Unit)=>[]) (λ(k_4:Nat)=>(λ(s_9:Unit)=>[(0,(vL Zone.enc s1_1)),(1,(vL Zone.enc s2_2)),(12,(vI (s1_1.length:Int))),(13,(vI (k_4:Int)))])) (λk x s=>bf s2_2 k x s) o_12 s1_1 () hj_13 rfl (aK rfl) ?_ ?_
  ·rintro ⟨k_4,l_5,s_9⟩ ⟨hL_11,hD_7⟩
   dsimp only at hL_11 hD_7
   cases l_5 with
   | nil =>
    obtain rfl:=ae hL_11
    refine ai (aa (vB (decide ((k_4:Int)<(s1_1.length:Int)))) (af ?_))
    refine ak (aA rfl (drop_nil hD_7) (bE ?_))
    exact bn (s_9) rfl rfl (aK rfl)
   | cons x_6 l_5 =>
    obtain ⟨c_,hc_10,hL_11⟩:=bind_some hL_11
    refine ai (aa (vB (decide ((k_4:Int)<(s1_1.length:Int)))) (af ?_))
    refine ak (aC rfl (bN hD_7) (ax ?_))
    unfold bf at hc_10
    refine ak (aR (ai (aa (vI (k_4:Int)) (aa (vI (k_4:Int)) (af (ak (bJ (aa (vL Zone.enc s1_1) (aa (vI (k_4:Int)) (eH xA rfl rfl (dz hD_7) rfl wz (bT pO ES rfl (.d (.agg (Zone.enc x_6))) rfl wz (aa (vL Zone.enc s2_2) (aa (vI (k_4:Int)) ?_)))))))))))))
    obtain ⟨y_14,hy_15,hc_10⟩:=bind_some hc_10
    refine eH xA rfl rfl hy_15 rfl wz (bT pO ES rfl (.d (.agg (Zone.enc y_14))) rfl wz (aH (vB (!((x_6.Key.toList==y_14.Key.toList)&&(((x_6.On.X==y_14.On.X)&&((x_6.On.Y==y_14.On.Y)&&((x_6.On.W==y_14.On.W)&&((x_6.On.H==y_14.On.H)&&true))))&&((x_6.Order==y_14.Order)&&true))))) wz (by kernel_rfl) (af ?_)))
    rcases aj hc_10 with⟨hc_16,hc_10⟩|⟨hc_16,hc_10⟩
    ·refine aC rfl hc_16 (ai (aa (vB false) (af ?_)))
     obtain rfl:=ae hc_10
     obtain rfl:=ae hL_11
     obtain rfl:=ae hF
     exact ay (aN [(vB false)] ⟨rfl,trivial⟩)
    ·refine aA rfl hc_16 (ax (av (gW (bX hD_7 hn_8) wz rfl (aa (vI ((k_4+1:Nat):Int)) (af ?_)))))
     obtain rfl:=ae hc_10
     exact bD (k_4+1,l_5,()) ⟨hL_11,bv hD_7⟩ (ls_ _) rfl (aK rfl)
  ·rintro s_9 ho_ sl_ H_ hp_ hq_
   subst ho_
   refine aS _ hp_ hq_ (ai (aa (vB true) (af ?_)))
   obtain rfl:=ae hF
   exact ay (aN [(vB true)] ⟨rfl,trivial⟩)
theorem uK {a_1:Layout} {b_2:Layout} {r:Bool} (hF:fV a_1 b_2=some r) :
  FnM Tryz.prog 11 [(.d (.agg (Layout.enc a_1))),(.d (.agg (Layout.enc b_2)))] [] (vB r) []:=by
 refine FnM.of_wH ⟨Tryz.prog,31,[],[]⟩ rfl Tryz.func11 rfl rfl (lb_ rfl) (by kernel_rfl) ?_
 unfold fV at hF
 refine ai (o9 0 (.inl rfl) (Layout.v a_1) rfl rfl wz (λn_3=>o9 0 (.inl rfl) (Layout.v b_2) rfl rfl wz (λn_4=>aa (vB false) (af (ak ?_)))))
 obtain ⟨v_5,h_6,hF⟩:=bind_some hF
 refine aU [(4,(vB v_5))] [(n_3,some (.cells 4 (Layout.v a_1))),(n_4,some (.cells 4 (Layout.v b_2)))] ?_ ?_
 ·refine av (aF pY rfl 0 rfl wz (aJ 0 0 il ft sz9 ag9 rfl rfl (vS a_1.Key) rfl wz (aF pY rfl 0 rfl wz (aJ 0 1 il ft sz9 ag9 rfl rfl (vS b_2.Key) rfl wz (aa (vB (sEq a_1.Key b_2.Key)) ?_)))))
  rcases aj h_6 with⟨hc_7,h_6⟩|⟨hc_7,h_6⟩
  ·refine aD rfl hc_7 wz (aF mq rfl 1 rfl wa (aJ 0 0 il ft sz3 ag3 rfl rfl (vI a_1.W) rfl wa (aF mq rfl 1 rfl wa (aJ 0 1 il ft sz3 ag3 rfl rfl (vI b_2.W) rfl wa (aH (vB (a_1.W==b_2.W)) wa rfl (aa (vB (a_1.W==b_2.W)) ?_))))))
   rcases aj h_6 with⟨hc_8,h_6⟩|⟨hc_8,h_6⟩
   ·refine aD rfl hc_8 wz (aF lC rfl 2 rfl wa (aJ 0 0 il ft sz3 ag3 rfl rfl (vI a_1.H) rfl wa (aF lC rfl 2 rfl wa (aJ 0 1 il ft sz3 ag3 rfl rfl (vI b_2.H) rfl wa (aH (vB (a_1.H==b_2.H)) wa rfl (aa (vB (a_1.H==b_2.H)) ?_))))))
    rcases aj h_6 with⟨hc_9,h_6⟩|⟨hc_9,h_6⟩
    ·refine aD rfl hc_9 wz (aF iQ rfl 3 rfl wa (aJ 0 0 il ft qc uI rfl rfl (vL Zone.enc a_1.Zones) rfl wa (aF iQ rfl 3 rfl wa (aJ 0 1 il ft qc uI rfl rfl (vL Zone.enc b_2.Zones) rfl wa ?_))))
     obtain ⟨r_10,hr_11,h_6⟩:=bind_some h_6
     refine aI (kH hr_11) rfl hb39 rfl rfl rfl rfl wa (aa (vB r_10) (aa (vB r_10) (af ?_)))
     obtain rfl:=ae h_6
     exact cu
    ·refine aD rfl hc_9 wz (ah (ah (ah (ah (ah (aa (vB false) (aa (vB false) (af ?_))))))))
     obtain rfl:=ae h_6
     exact cu
   ·refine aD rfl hc_8 wz (ah (ah (ah (ah (ah (aa (vB false) (aa (vB false) (ah (ah (ah (ah (ah (aa (vB false) (aa (vB false) (af ?_)))))))))))))))
    obtain rfl:=ae h_6
    exact cu
  ·refine aD rfl hc_7 wz (ah (ah (ah (ah (ah (aa (vB false) (aa (vB false) (ah (ah (ah (ah (ah (aa (vB false) (aa (vB false) (ah (ah (ah (ah (ah (aa (vB false) (aa (vB false) (af ?_))))))))))))))))))))))
   obtain rfl:=ae h_6
   exact cu
 ·rintro ⟨⟩ _ sl_ H_ hp_ hq_
  refine aS _ hp_ hq_ ?_
  obtain rfl:=ae hF
  exact ay (aN [(vB v_5)] ⟨rfl,trivial⟩)
theorem qG {l_1:(List Rect)} {r:Int} (hF:jc l_1=some r) :
  FnM Tryz.prog 59 [(vL Rect.enc l_1)] [] (vI r) []:=by
 refine FnM.of_wH ⟨Tryz.prog,21,[],[]⟩ rfl Tryz.func59 rfl rfl (lb_ rfl) (by kernel_rfl) ?_
 unfold jc at hF
 refine ai (aa (vI 0) (af (ak (ai (aa (vL Rect.enc l_1) (dH Bi rfl wz (aa (vB (decide ((l_1.length:Int)>2000))) (af ?_))))))))
 rcases aj hF with⟨hc_2,hF⟩|⟨hc_2,hF⟩
 ·refine aC rfl hc_2 (ai (aa (vI 2) (af ?_)))
  obtain rfl:=ae hF
  exact ay (aN [(vI 2)] ⟨rfl,trivial⟩)
 ·refine aA rfl hc_2 (ax (ak (ai (aa (vL Rect.enc l_1) (dH Bi rfl wz (aa (vI 0) (af ?_)))))))
  obtain ⟨o_11,hj_12,hF⟩:=bind_some hF
  obtain ⟨hn_7,hj_12⟩:=bH hj_12
  refine fO (λ(s_8:Unit)=>[]) (λ(s_8:Unit)=>[]) (λ(k_3:Nat)=>(λ(s_8:Unit)=>[(9,(vL Rect.enc l_1)),(10,(vI (l_1.length:Int))),(11,(vI (k_3:Int)))])) (λk x s=>jd k x s) o_11 l_1 () hj_12 rfl (aK rfl) ?_ ?_
  ·rintro ⟨k_3,l_4,s_8⟩ ⟨hL_10,hD_6⟩
   dsimp only at hL_10 hD_6
   cases l_4 with
   | nil =>
    obtain rfl:=ae hL_10
    refine ai (aa (vB (decide ((k_3:Int)<(l_1.length:Int)))) (af ?_))
    refine ak (aA rfl (drop_nil hD_6) (bE ?_))
    exact bn (s_8) rfl rfl (aK rfl)
   | cons x_5 l_4 =>
    obtain ⟨c_,hc_9,hL_10⟩:=bind_some hL_10
    refine ai (aa (vB (decide ((k_3:Int)<(l_1.length:Int)))) (af ?_))
    refine ak (aC rfl (bN hD_6) (ax ?_))
    unfold jd at hc_9
    refine ak (aR (ai (eH Hl rfl rfl (dz hD_6) rfl wz (bT nC xx rfl (.d (.agg (Rect.enc x_5))) rfl wz (dM 0 (.inl rfl) z47 rfl wz (λn_13=>bR 0 il ft 0 nC rfl rfl (Rect.v x_5) rfl wz (af (ai (aJ 0 0 il ft nC xx rfl rfl (.d (.agg (Rect.enc x_5))) rfl wz ?_)))))))))
    obtain ⟨r_14,hr_15,hc_9⟩:=bind_some hc_9
    refine aI (mP hr_15) rfl hb46 rfl rfl rfl rfl wz (aa (vI r_14) (af (ai (aa (vI r_14) (aa (vB (r_14 != 0)) (af ?_))))))
    rcases aj hc_9 with⟨hc_16,hc_9⟩|⟨hc_16,hc_9⟩
    ·refine aC rfl hc_16 (ai (aa (vI r_14) (aa (vI r_14) (af ?_))))
     obtain rfl:=ae hc_9
     obtain rfl:=ae hL_10
     obtain rfl:=ae hF
     exact ay (aN [(vI r_14)] ⟨rfl,trivial⟩)
    ·refine aA rfl hc_16 (ax (av (gW (bX hD_6 hn_7) wz rfl (aa (vI ((k_3+1:Nat):Int)) (af ?_)))))
     obtain rfl:=ae hc_9
     exact bD (k_3+1,l_4,()) ⟨hL_10,bv hD_6⟩ (ls_ _) rfl (aK rfl)
  ·rintro s_8 ho_ sl_ H_ hp_ hq_
   subst ho_
   refine aS _ hp_ hq_ (ai (aa (vI 0) (af ?_)))
   obtain rfl:=ae hF
   exact ay (aN [(vI 0)] ⟨rfl,trivial⟩)
theorem jV {n_1:Int} {r:Bool} (hF:eF n_1=some r) :
  FnM Tryz.prog 90 [.nil,(vI n_1)] [] (kV r (au 0) 4 ([]:List Rect)) (kO r 4):=by
 refine FnM.of_wH ⟨Tryz.prog,27,[],[]⟩ rfl Tryz.func90 rfl rfl (lb_ rfl) (by kernel_rfl) ?_
 unfold eF at hF
 refine ai (aa .nil (af (ak (ai (aa (vI n_1) (aa (vB (decide (n_1<0))) (af ?_)))))))
 rcases aj hF with⟨hc_2,hF⟩|⟨hc_2,hF⟩
 ·refine aC rfl hc_2 (av ?_)
  cases hF
 ·refine aA rfl hc_2 (ax (ak (ai (aa (vI n_1) (aa .nil (IM Ei rfl wz (aa .nil (IA Bi rfl wz (aa (vI (w64 (0-0))) (aa (vI (w64 (n_1-(w64 (0-0))))) (aa (vI (w64 (n_1-(w64 (0-0))))) (af (ai (aa (vI (w64 (n_1-(w64 (0-0))))) (aa (vB (decide ((w64 (n_1-(w64 (0-0))))>0))) (af ?_))))))))))))))))
  rcases aj hF with⟨hc_3,hF⟩|⟨hc_3,hF⟩
  ·refine aC rfl hc_3 (av (aa .nil (aa .nil (IM Ei rfl wz (aH .nil wz (by kernel_rfl) (aa (vI (w64 (n_1-(w64 (0-0))))) ?_))))))
   obtain ⟨_,hz_5,hF⟩:=bind_some hF
   refine h_appz (enc:=Rect.enc) 0 (.inl rfl) Ei (by kernel_rfl) nC z47 rfl (by decide) by47 rfl rfl hz_5 wz (λn_4=>aa .nil (IA Bi rfl wz (h_cutm (m:=0) Bi nC rfl rfl rfl (Nat.zero_le _) wz (aa (.vs n_4 4 0 0) (af (ai (aa (.vs n_4 4 0 0) (aa (.vs n_4 4 0 0) (af ?_)))))))))
   obtain rfl:=ae hF
   exact ay (finK (.inr rfl) 0 rfl rfl)
  ·refine aA rfl hc_3 (ax (ai (aa .nil (aa .nil (af ?_)))))
   obtain rfl:=ae hF
   exact ay (finK0 (.inr rfl) rfl)
theorem jX {slices_1:(List (List Rect))} {r:(List Rect)} (hF:dD slices_1=some r) :
  FnM Tryz.prog 73 [(vL (eL Rect.enc) slices_1)] [] (vL Rect.enc r) []:=by
 refine FnM.of_wH ⟨Tryz.prog,36,[],[]⟩ rfl Tryz.func73 rfl rfl (lb_ rfl) (by kernel_rfl) ?_
 unfold dD at hF
 refine ai (aa .nil (af (ai (aa (vI 0) (af (ak (ai (aa (vL (eL Rect.enc) slices_1) (dH un114 rfl wz (aa (vI 0) (af ?_)))))))))))
 obtain ⟨o_10,hj_11,hF⟩:=bind_some hF
 obtain ⟨hn_6,hj_11⟩:=bH hj_11
 refine fO (λ(s_7:Int)=>[(0,(vL (eL Rect.enc) slices_1)),(3,(vI s_7))]) (λ(s_7:Int)=>[]) (λ(k_2:Nat)=>(λ(s_7:Int)=>[(0,(vL (eL Rect.enc) slices_1)),(3,(vI s_7)),(9,(vL (eL Rect.enc) slices_1)),(10,(vI (slices_1.length:Int))),(11,(vI (k_2:Int)))])) (λk x s=>dW k x s) o_10 slices_1 0 hj_11 rfl (aK rfl) ?_ ?_
 ·rintro ⟨k_2,l_3,s_7⟩ ⟨hL_9,hD_5⟩
  dsimp only at hL_9 hD_5
  cases l_3 with
  | nil =>
   obtain rfl:=ae hL_9
   refine ai (aa (vB (decide ((k_2:Int)<(slices_1.length:Int)))) (af ?_))
   refine ak (aA rfl (drop_nil hD_5) (bE ?_))
   exact bn (s_7) rfl rfl (aK rfl)
  | cons x_4 l_3 =>
   obtain ⟨c_,hc_8,hL_9⟩:=bind_some hL_9
   refine ai (aa (vB (decide ((k_2:Int)<(slices_1.length:Int)))) (af ?_))
   refine ak (aC rfl (bN hD_5) (ax ?_))
   unfold dW at hc_8
   refine ak (aR (ai (eH H8 rfl rfl (dz hD_5) rfl wz (bT sz79 ag79 rfl (vL Rect.enc x_4) rfl wz (aa (vL Rect.enc x_4) (af (ai (aa (vI s_7) (aa (vL Rect.enc x_4) (dH Bi rfl wz (aa (vI (w64 (s_7+(x_4.length:Int)))) (aa (vI (w64 (s_7+(x_4.length:Int)))) (af (ai (aa (vI (w64 (s_7+(x_4.length:Int)))) (aa (vB (decide ((w64 (s_7+(x_4.length:Int)))<0))) (af ?_)))))))))))))))))
   obtain ⟨v_12,h_13,hc_8⟩:=bind_some hc_8
   refine aU [(0,(vL (eL Rect.enc) slices_1)),(3,(vI (w64 (s_7+(x_4.length:Int))))),(9,(vL (eL Rect.enc) slices_1)),(10,(vI (slices_1.length:Int))),(11,(vI (k_2:Int)))] [] ?_ ?_
   ·rcases aj h_13 with⟨hc_14,h_13⟩|⟨hc_14,h_13⟩
    ·refine aC rfl hc_14 (av ?_)
     cases h_13
    ·refine aA rfl hc_14 (ax ?_)
     obtain rfl:=ae h_13
     exact cu
   ·rintro ⟨⟩ _ sl_ H_ hp_ hq_
    refine aS _ hp_ hq_ (av (gW (bX hD_5 hn_6) wz rfl (aa (vI ((k_2+1:Nat):Int)) (af ?_))))
    obtain rfl:=ae hc_8
    exact bD (k_2+1,l_3,(w64 (s_7+(x_4.length:Int)))) ⟨hL_9,bv hD_5⟩ (ls_ _) rfl (aK rfl)
 ·rintro s_7 ho_ sl_ H_ hp_ hq_
  subst ho_
  refine aS _ hp_ hq_ (ai (aa (vI s_7) ?_))
  obtain ⟨b_15,hr_16,hF⟩:=bind_some hF
  refine h_callk (enc:=Rect.enc) (jV hr_16) rfl hb90 (by kernel_rfl) rfl (by kernel_rfl) wz (λn_17=>aa (kV b_15 n_17 4 ([]:List Rect)) (af (ak (ai (aa (vL (eL Rect.enc) slices_1) (dH un114 rfl wz (aa (vI 0) (af ?_))))))))
  obtain ⟨o_28,hj_29,hF⟩:=bind_some hF
  obtain ⟨hn_22,hj_29⟩:=bH hj_29
  refine iw (σ:=(List Rect)) (N:=Nm) (λp=>(λ(s_23:List Rect) (n_25:Nm)=>([(6,(kV b_15 n_25 4 s_23))]:SL_)) p.1 p.2) (λp=>(λ(s_23:List Rect) (n_25:Nm)=>([(n_25,kB b_15 4 Rect.enc s_23)]:Hp)) p.1 p.2) (λ(k_18:Nat)=>(λp=>(λ(s_23:List Rect) (n_25:Nm)=>([(6,(kV b_15 n_25 4 s_23)),(25,(vL (eL Rect.enc) slices_1)),(26,(vI (slices_1.length:Int))),(27,(vI (k_18:Int)))]:SL_)) p.1 p.2)) (λk x s=>dX k x s) o_28 slices_1 (([]:List Rect),n_17) hj_29 rfl (aK rfl) ?_ ?_
  ·rintro ⟨k_18,l_19,s_23,n_25⟩ ⟨hL_27,hD_21⟩
   dsimp only at hL_27 hD_21
   cases l_19 with
   | nil =>
    obtain rfl:=ae hL_27
    refine ai (aa (vB (decide ((k_18:Int)<(slices_1.length:Int)))) (af ?_))
    refine ak (aA rfl (drop_nil hD_21) (bE ?_))
    exact bn (s_23,n_25) rfl rfl (aK rfl)
   | cons x_20 l_19 =>
    obtain ⟨c_,hc_26,hL_27⟩:=bind_some hL_27
    refine ai (aa (vB (decide ((k_18:Int)<(slices_1.length:Int)))) (af ?_))
    refine ak (aC rfl (bN hD_21) (ax ?_))
    unfold dX at hc_26
    refine ak (aR (ai (eH H8 rfl rfl (dz hD_21) rfl wz (bT sz79 ag79 rfl (vL Rect.enc x_20) rfl wz (aa (vL Rect.enc x_20) (af (av (aa (kV b_15 n_25 4 s_23) (aa (vL Rect.enc x_20) ?_)))))))))
    obtain ⟨a_30,hz_31,hc_26⟩:=bind_some hc_26
    refine h_appk 0 il ft (i:=0) Ei Ei nC z47 rfl (by decide) by47 (by decide) (λ_=>rfl) rfl rfl rfl hz_31 wz (λn_32=>aa (kV b_15 n_32 4 a_30) (af (av (gW (bX hD_21 hn_22) wz rfl (aa (vI ((k_18+1:Nat):Int)) (af ?_))))))
    obtain rfl:=ae hc_26
    exact bD (k_18+1,l_19,a_30,n_32) ⟨hL_27,bv hD_21⟩ (ls_ _) rfl (aK rfl)
  ·rintro ⟨s_23,n_25⟩ ho_ sl_ H_ hp_ hq_
   subst ho_
   refine aS _ hp_ hq_ (ai (aa (kV b_15 n_25 4 s_23) (aa (kV b_15 n_25 4 s_23) (af (Jn 0 rfl (EE 2 0 rfl rfl (EE 6 0 rfl rfl (EE 35 0 rfl rfl ?_))))))))
   obtain rfl:=ae hF
   exact ay (aN [(vL Rect.enc s_23)] ⟨rfl,trivial⟩)
theorem og {x r:(List Int)} (hF:fI x=some r) :
  FnM Tryz.prog 74 [(dV (au 0) 1 x)] (([]:List Box)++gI 1 eI x) (.tup []) (([]:List Box).map some++gT x (gB 1 eI r)) :=
 IB Tryz.slices_Sort_int Tryz.slices_Sort_int_none hF
theorem ma {s_1:(List Int)} {r:(List Int)} (hF:dN s_1=some r) :
  FnM Tryz.prog 75 [(dV (au 0) 1 s_1)] (([]:List Box)++gI 1 eI s_1) (vL eI r) (([]:List Box).map some++gT s_1 none):=by
 refine FnM.of_wHv ⟨Tryz.prog,61,[],[]⟩ rfl Tryz.func75 rfl rfl (lb_ rfl) (by kernel_rfl) ?_
 unfold dN at hF
 refine ai (aa .nil (af (ak (ai (aa (dV (au 0) 1 s_1) (Fa sO rfl wz (aa (vB (decide ((s_1.length:Int)<2))) (af ?_))))))))
 rcases aj hF with⟨hc_2,hF⟩|⟨hc_2,hF⟩
 ·refine aC rfl hc_2 (ai (aa (dV (au 0) 1 s_1) (aa (dV (au 0) 1 s_1) (af (gN 0 rfl (sP 0 0 rfl rfl (sP 2 0 rfl rfl (sP 6 0 rfl rfl (sP 9 0 rfl rfl (BJ (i:=0) rfl ?_))))))))))
  obtain rfl:=ae hF
  exact ay (Ej (bs:=([]:List Box)) (os:=([]:List Box)) (xs:=s_1) (o:=none) (.inr rfl) [(vL eI s_1)] ⟨rfl,trivial⟩ rfl rfl rfl rfl rfl (by kernel_rfl) xM rfl)
 ·refine aA rfl hc_2 (ax (ak (ai (aa (vI 1) (af ?_)))))
  obtain ⟨o_11,hj_12,hF⟩:=bind_some hF
  obtain ⟨nq_52,hj_12⟩:=gU hj_12
  refine kC (λ(s_8:Int)=>[(0,(dV (au 0) 1 s_1))]) (λ(s_8:Int)=>[((au 0),gB 1 eI s_1)]) (λ(k_3:Nat)=>(λ(s_8:Int)=>[(0,(dV (au 0) 1 s_1)),(3,(vI s_8))])) (λs=>dx s_1 s) o_11 nq_52 1 hj_12 rfl (aK rfl) ?_ ?_
  ·rintro ⟨k_3,s_8⟩ hL_10
   dsimp only at hL_10
   cases k_3 with
   | zero=>cases hL_10
   | succ k_3 =>
    obtain ⟨c_,hc_9,hL_10⟩:=bind_some hL_10
    unfold dx at hc_9
    refine ak (ai (aa (vI s_8) (aa (dV (au 0) 1 s_1) (Fa sO rfl wz (aa (vB (decide (s_8<(s_1.length:Int)))) (af ?_))))))
    rcases aj hc_9 with⟨hc_13,hc_9⟩|⟨hc_13,hc_9⟩
    ·refine aC rfl hc_13 (ax (ak (aR (ak (bJ (aa (dV (au 0) 1 s_1) (aa (vI s_8) ?_)))))))
     obtain ⟨_,hi_14,hc_9⟩:=bind_some hc_9
     refine qX iq rfl rfl (qm hi_14) (mE hi_14) wz ?_
     obtain ⟨e_15,hy_16,hc_9⟩:=bind_some hc_9
     refine q9 3 0 (.inr (by kernel_rfl)) (λ_ _ ag=>trivial) sz3 ag3 rfl rfl hy_16 (vI e_15) rfl wz (aa (dV (au 0) 1 s_1) (aa (vI s_8) (aa (vI (w64 (s_8-1))) ?_)))
     obtain ⟨_,hi_17,hc_9⟩:=bind_some hc_9
     refine qX iq rfl rfl (qm hi_17) (mE hi_17) wz ?_
     obtain ⟨e_18,hy_19,hc_9⟩:=bind_some hc_9
     refine q9 8 0 (.inr (by kernel_rfl)) (λ_ _ ag=>⟨.inl ⟨rfl,rfl⟩,trivial⟩) sz3 ag3 rfl rfl hy_19 (vI e_18) rfl wz (aa (vB (e_15==e_18)) (af ?_))
     rcases aj hc_9 with⟨hc_20,hc_9⟩|⟨hc_20,hc_9⟩
     ·refine aC rfl hc_20 (ai (aa (dV (au 0) 1 s_1) (aa (vI s_8) ?_)))
      obtain ⟨_,hn_21,hc_9⟩:=bind_some hc_9
      replace hn_21:=neL_ne hn_21
      refine jU (v':=(vV (au 0) 1 s_1)) 0 rfl (uF hn_21) (jU (v':=(vV (au 0) 1 s_1)) 11 rfl (uF hn_21) (jU (v':=(vV (au 0) 1 s_1)) 16 rfl (uF hn_21) (jU (v':=(vV (au 0) 1 s_1)) 20 rfl (uF hn_21) (jU (v':=(vV (au 0) 1 s_1)) 26 rfl (uF hn_21) (FX 0 rfl (FN hn_21) ?_)))))
      obtain ⟨_,hr_22,hc_9⟩:=bind_some hc_9
      refine Eb sO sz3 rfl rfl hr_22 wz (aa (.vs (au 0) 1 ((s_8).toNat) (((s_1.length:Int)).toNat-(s_8).toNat)) (af (ak (ai (aa (vI 1) (af ?_))))))
      obtain ⟨o_31,hj_32,hc_9⟩:=bind_some hc_9
      obtain ⟨nq_51,hj_32⟩:=gU hj_32
      refine kC (λ(s_28:(List Int)×Int×Int)=>[(0,(vV (au 0) 1 s_28.1)),(3,(vI s_28.2.1))]) (λ(s_28:(List Int)×Int×Int)=>[((au 0),some (bV 1 eI s_28.1))]) (λ(k_23:Nat)=>(λ(s_28:(List Int)×Int×Int)=>[(0,(vV (au 0) 1 s_28.1)),(3,(vI s_28.2.1)),(4,(.vs (au 0) 1 ((s_8).toNat) (((s_1.length:Int)).toNat-(s_8).toNat))),(5,(vI s_28.2.2))])) (λs=>dU s_1 s_8 s) o_31 nq_51 (s_1,s_8,1) hj_32 rfl (aK rfl) ?_ ?_
      ·rintro ⟨k_23,s_28⟩ hL_30
       dsimp only at hL_30
       cases k_23 with
       | zero=>cases hL_30
       | succ k_23 =>
        obtain ⟨c_,hc_29,hL_30⟩:=bind_some hL_30
        unfold dU at hc_29
        refine ak (ai (aa (vI s_28.2.2) (aa (.vs (au 0) 1 ((s_8).toNat) (((s_1.length:Int)).toNat-(s_8).toNat)) (h_lenp sO rfl wz (aa (vB (decide (s_28.2.2<(((((s_1.length:Int)).toNat-(s_8).toNat):Nat):Int)))) (af ?_))))))
        rcases aj hc_29 with⟨hc_33,hc_29⟩|⟨hc_33,hc_29⟩
        ·refine aC rfl hc_33 (ax (ak (aR (ak (bJ (aa (.vs (au 0) 1 ((s_8).toNat) (((s_1.length:Int)).toNat-(s_8).toNat)) (aa (vI s_28.2.2) ?_)))))))
         obtain ⟨_,hi_34,hc_29⟩:=bind_some hc_29
         refine zY iq rfl rfl (Jc hi_34) (Eu hi_34) wz ?_
         obtain ⟨e_35,hy_36,hc_29⟩:=bind_some hc_29
         refine Fh 3 0 (.inr (by kernel_rfl)) (λ_ _ ag=>trivial) sz3 ag3 rfl rfl hy_36 (vI e_35) rfl wz (aa (.vs (au 0) 1 ((s_8).toNat) (((s_1.length:Int)).toNat-(s_8).toNat)) (aa (vI s_28.2.2) (aa (vI (w64 (s_28.2.2-1))) ?_)))
         obtain ⟨_,hi_37,hc_29⟩:=bind_some hc_29
         refine zY iq rfl rfl (Jc hi_37) (Eu hi_37) wz ?_
         obtain ⟨e_38,hy_39,hc_29⟩:=bind_some hc_29
         refine Fh 8 0 (.inr (by kernel_rfl)) (λ_ _ ag=>⟨.inl ⟨rfl,rfl⟩,trivial⟩) sz3 ag3 rfl rfl hy_39 (vI e_38) rfl wz (aa (vB (e_35 != e_38)) (af ?_))
         obtain ⟨v_40,h_41,hc_29⟩:=bind_some hc_29
         refine aU [(0,(vV (au 0) 1 v_40.1)),(3,(vI v_40.2)),(4,(.vs (au 0) 1 ((s_8).toNat) (((s_1.length:Int)).toNat-(s_8).toNat))),(5,(vI s_28.2.2))] [((au 0),some (bV 1 eI v_40.1))] ?_ ?_
         ·rcases aj h_41 with⟨hc_42,h_41⟩|⟨hc_42,h_41⟩
          ·refine aC rfl hc_42 (ai (aa (vV (au 0) 1 s_28.1) (aa (vI s_28.2.1) (aa (.vs (au 0) 1 ((s_8).toNat) (((s_1.length:Int)).toNat-(s_8).toNat)) (aa (vI s_28.2.2) ?_)))))
           obtain ⟨_,hi_43,h_41⟩:=bind_some h_41
           refine zY iq rfl rfl (Jc hi_43) (Eu hi_43) wz ?_
           obtain ⟨e_44,hy_45,h_41⟩:=bind_some h_41
           refine Fh 0 0 il ft sz3 ag3 rfl rfl hy_45 (vI e_44) rfl wz ?_
           obtain ⟨_,hi_46,h_41⟩:=bind_some h_41
           refine zY iq rfl rfl (qm hi_46) (mE hi_46) wz ?_
           obtain ⟨e_47,hy_48,h_41⟩:=bind_some h_41
           refine h_stv 0 il ft 0 sz3 rfl rfl hy_48 e_44 rfl wz (jU (v':=(vV (au 0) 1 (s_28.1.set (0+(s_28.2.1).toNat) e_44))) 0 rfl (Bg (by simp)) (jU (v':=(vV (au 0) 1 (s_28.1.set (0+(s_28.2.1).toNat) e_44))) 45 rfl (Bg (by simp)) (af (av (aa (vI s_28.2.1) (aa (vI (w64 (s_28.2.1+1))) (aa (vI (w64 (s_28.2.1+1))) (af ?_))))))))
           obtain rfl:=ae h_41
           exact cu
          ·refine aA rfl hc_42 (ax ?_)
           obtain rfl:=ae h_41
           exact cu
         ·rintro ⟨⟩ _ sl_ H_ hp_ hq_
          refine aS _ hp_ hq_ (av (aa (vI s_28.2.2) (aa (vI (w64 (s_28.2.2+1))) (aa (vI (w64 (s_28.2.2+1))) (af ?_)))))
          obtain rfl:=ae hc_29
          exact bD (k_23,(v_40.1,v_40.2,(w64 (s_28.2.2+1)))) hL_30 (ls_ _) rfl (aK rfl)
        ·refine aA rfl hc_33 (bE ?_)
         obtain rfl:=ae hc_29
         obtain rfl:=ae hL_30
         exact bn ((s_28.1,s_28.2.1,s_28.2.2)) rfl rfl (aK rfl)
      ·rintro s_28 ho_ sl_ H_ hp_ hq_
       subst ho_
       refine aS _ hp_ hq_ (ai (aa (vV (au 0) 1 s_28.1) (aa (vI s_28.2.1) ?_)))
       obtain ⟨_,hr_49,hc_9⟩:=bind_some hc_9
       refine Eb sO sz3 rfl rfl hr_49 wz (h_clear (i:=0) 0 il ft 0 EZ sz3 z3 rfl rfl rfl (by decide) rfl (tV hr_49) rfl wz (jU (v':=(vV (au 0) 1 (s_28.1.take ((s_28.2.1).toNat)++List.replicate (((s_28.1.length:Int)).toNat-(s_28.2.1).toNat) 0++s_28.1.drop (((s_28.2.1).toNat)+(((s_28.1.length:Int)).toNat-(s_28.2.1).toNat))))) 0 rfl (Bg (AR (tV hr_49))) (jU (v':=(vV (au 0) 1 (s_28.1.take ((s_28.2.1).toNat)++List.replicate (((s_28.1.length:Int)).toNat-(s_28.2.1).toNat) 0++s_28.1.drop (((s_28.2.1).toNat)+(((s_28.1.length:Int)).toNat-(s_28.2.1).toNat))))) 54 rfl (Bg (AR (tV hr_49))) (af (ai (aa (vV (au 0) 1 (s_28.1.take ((s_28.2.1).toNat)++List.replicate (((s_28.1.length:Int)).toNat-(s_28.2.1).toNat) 0++s_28.1.drop (((s_28.2.1).toNat)+(((s_28.1.length:Int)).toNat-(s_28.2.1).toNat)))) (aa (vI s_28.2.1) ?_)))))))
       obtain ⟨_,hr_50,hc_9⟩:=bind_some hc_9
       refine Iq sO sz3 rfl rfl hr_50 wz (aa (.vs (au 0) 1 0 ((s_28.2.1).toNat)) (af (Cb 0 rfl (A8 0 0 rfl rfl (IZ 2 0 rfl rfl (tV hr_50) (A8 54 0 rfl rfl (A8 57 0 rfl rfl (IZ 59 0 rfl rfl (tV hr_50) (BJ (i:=0) rfl ?_)))))))))
       obtain rfl:=ae hc_9
       obtain rfl:=ae hL_10
       obtain rfl:=ae hF
       exact ay (Ej (bs:=([]:List Box)) (os:=([]:List Box)) (xs:=s_1) (o:=none) (.inr rfl) [(vL eI (cutL (s_28.1.take ((s_28.2.1).toNat)++List.replicate (((s_28.1.length:Int)).toNat-(s_28.2.1).toNat) 0++s_28.1.drop (((s_28.2.1).toNat)+(((s_28.1.length:Int)).toNat-(s_28.2.1).toNat))) 0 ((s_28.2.1).toNat)))] ⟨rfl,trivial⟩ rfl rfl rfl rfl rfl (by kernel_rfl) xM rfl)
     ·refine aA rfl hc_20 (ax (av (aa (vI s_8) (aa (vI (w64 (s_8+1))) (aa (vI (w64 (s_8+1))) (af ?_))))))
      obtain rfl:=ae hc_9
      exact bD (k_3,(w64 (s_8+1))) hL_10 (ls_ _) rfl (aK rfl)
    ·refine aA rfl hc_13 (bE ?_)
     obtain rfl:=ae hc_9
     obtain rfl:=ae hL_10
     exact bn (s_8) rfl rfl (aK rfl)
  ·rintro s_8 ho_ sl_ H_ hp_ hq_
   subst ho_
   refine aS _ hp_ hq_ (ai (aa (dV (au 0) 1 s_1) (aa (dV (au 0) 1 s_1) (af (gN 0 rfl (sP 0 0 rfl rfl (sP 2 0 rfl rfl (sP 60 0 rfl rfl (BJ (i:=0) rfl ?_)))))))))
   obtain rfl:=ae hF
   exact ay (Ej (bs:=([]:List Box)) (os:=([]:List Box)) (xs:=s_1) (o:=none) (.inr rfl) [(vL eI s_1)] ⟨rfl,trivial⟩ rfl rfl rfl rfl rfl (by kernel_rfl) xM rfl)
theorem vG {a_1:Run} {b_2:Run} {r:Int} (hF:oJ a_1 b_2=some r) :
  FnM Tryz.prog 94 [(.d (.agg (Run.enc a_1))),(.d (.agg (Run.enc b_2)))] [] (vI r) []:=by
 refine FnM.of_wH ⟨Tryz.prog,10,[],[]⟩ rfl Tryz.func94 rfl rfl (lb_ rfl) (by kernel_rfl) ?_
 unfold oJ at hF
 refine ai (o9 0 (.inl rfl) [(vI a_1.f_from),(vI a_1.f_to)] rfl rfl wz (λn_3=>o9 0 (.inl rfl) [(vI b_2.f_from),(vI b_2.f_to)] rfl rfl wz (λn_4=>aa (vI 0) (af (ai (aF iY rfl 0 rfl wz (aJ 0 0 il ft sz3 ag3 rfl rfl (vI a_1.f_from) rfl wz (aF iY rfl 0 rfl wz (aJ 0 1 il ft sz3 ag3 rfl rfl (vI b_2.f_from) rfl wz (aa (vI (w64 (a_1.f_from-b_2.f_from))) (aa (vI (w64 (a_1.f_from-b_2.f_from))) (af ?_))))))))))))
 obtain rfl:=ae hF
 exact ay (aN [(vI (w64 (a_1.f_from-b_2.f_from)))] ⟨rfl,trivial⟩)
theorem sU {x_1:Int} {r:Int} (hF:mr x_1=some r) :
  FnM Tryz.prog 123 [(.d (.int .u64 x_1))] [] (vI r) []:=by
 refine FnM.of_wH ⟨Tryz.prog,25,[],[]⟩ rfl Tryz.func123 rfl rfl (lb_ rfl) (by kernel_rfl) ?_
 unfold mr at hF
 refine ai (aa (vI 0) (af (ak (ai (aa (.d (.int .u64 x_1)) (aa (vB (decide (x_1>=4294967296))) (af ?_)))))))
 obtain ⟨v_2,h_3,hF⟩:=bind_some hF
 refine aU [(0,(.d (.int .u64 v_2.1))),(2,(vI v_2.2))] [] ?_ ?_
 ·rcases aj h_3 with⟨hc_4,h_3⟩|⟨hc_4,h_3⟩
  ·refine aC rfl hc_4 (ai (aa (.d (.int .u64 x_1)) ?_))
   obtain ⟨q_5,hz_6,h_3⟩:=bind_some h_3
   refine Jj rfl rfl hz_6 wz (aa (.d (.int .u64 q_5)) (af (av (aa (vI 32) (af ?_)))))
   obtain rfl:=ae h_3
   exact cu
  ·refine aA rfl hc_4 (ax ?_)
   obtain rfl:=ae h_3
   exact cu
 ·rintro ⟨⟩ _ sl_ H_ hp_ hq_
  refine aS _ hp_ hq_ (ak (ai (aa (.d (.int .u64 v_2.1)) (aa (vB (decide (v_2.1>=65536))) (af ?_)))))
  obtain ⟨v_7,h_8,hF⟩:=bind_some hF
  refine aU [(0,(.d (.int .u64 v_7.1))),(2,(vI v_7.2))] [] ?_ ?_
  ·rcases aj h_8 with⟨hc_9,h_8⟩|⟨hc_9,h_8⟩
   ·refine aC rfl hc_9 (ai (aa (.d (.int .u64 v_2.1)) ?_))
    obtain ⟨q_10,hz_11,h_8⟩:=bind_some h_8
    refine Jj rfl rfl hz_11 wz (aa (.d (.int .u64 q_10)) (af (av (aa (vI v_2.2) (aa (vI (w64 (v_2.2+16))) (aa (vI (w64 (v_2.2+16))) (af ?_)))))))
    obtain rfl:=ae h_8
    exact cu
   ·refine aA rfl hc_9 (ax ?_)
    obtain rfl:=ae h_8
    exact cu
  ·rintro ⟨⟩ _ sl_ H_ hp_ hq_
   refine aS _ hp_ hq_ (ak (ai (aa (.d (.int .u64 v_7.1)) (aa (vB (decide (v_7.1>=256))) (af ?_)))))
   obtain ⟨v_12,h_13,hF⟩:=bind_some hF
   refine aU [(0,(.d (.int .u64 v_12.1))),(2,(vI v_12.2))] [] ?_ ?_
   ·rcases aj h_13 with⟨hc_14,h_13⟩|⟨hc_14,h_13⟩
    ·refine aC rfl hc_14 (ai (aa (.d (.int .u64 v_7.1)) ?_))
     obtain ⟨q_15,hz_16,h_13⟩:=bind_some h_13
     refine Jj rfl rfl hz_16 wz (aa (.d (.int .u64 q_15)) (af (av (aa (vI v_7.2) (aa (vI (w64 (v_7.2+8))) (aa (vI (w64 (v_7.2+8))) (af ?_)))))))
     obtain rfl:=ae h_13
     exact cu
    ·refine aA rfl hc_14 (ax ?_)
     obtain rfl:=ae h_13
     exact cu
   ·rintro ⟨⟩ _ sl_ H_ hp_ hq_
    refine aS _ hp_ hq_ (ai (aa (vI v_12.2) (aa (.d (.int .u64 v_12.1)) (yC un122 un5 rfl wz ?_))))
    obtain ⟨b_17,hy_18,hF⟩:=bind_some hF
    refine qK un9 rfl rfl hy_18 wz (yC un5 un3 rfl wz (aa (vI (w64 (v_12.2+(w64 (b_17.toNat:Int))))) (aa (vI (w64 (v_12.2+(w64 (b_17.toNat:Int))))) (af ?_))))
    obtain rfl:=ae hF
    exact ay (aN [(vI (w64 (v_12.2+(w64 (b_17.toNat:Int)))))] ⟨rfl,trivial⟩)
theorem vz {x_1:Int} {r:Int} (hF:lL x_1=some r) :
  FnM Tryz.prog 92 [(.d (.int .u64 x_1))] [] (vI r) []:=by
 refine FnM.of_wH ⟨Tryz.prog,8,[],[]⟩ rfl Tryz.func92 rfl rfl (lb_ rfl) (by kernel_rfl) ?_
 unfold lL at hF
 refine ai (aa (vI 0) (af (ak (aA rfl rfl (ax (ai (aa (.d (.int .u64 x_1)) ?_)))))))
 obtain ⟨r_2,hr_3,hF⟩:=bind_some hF
 refine aI (sU hr_3) rfl hb123 rfl rfl rfl rfl wz (aa (vI r_2) (af ?_))
 obtain rfl:=ae hF
 exact ay (aN [(vI r_2)] ⟨rfl,trivial⟩)
theorem gZ {data_1:(List Run)} {a_2:Int} {b_3:Int} {r:(List Run)} (hF:aW data_1 a_2 b_3=some r) :
  FnM Tryz.prog 140 [(dV (au 0) 2 data_1),(vI a_2),(vI b_3),(.fn 94 [])] (([]:List Box)++gI 2 Run.enc data_1) (.tup []) (([]:List Box).map some++gT data_1 (gB 2 Run.enc r)):=by
 refine FnM.of_wHv ⟨Tryz.prog,53,[],[]⟩ rfl Tryz.func140 rfl rfl (lb_ rfl) (by kernel_rfl) ?_
 unfold aW at hF
 refine ai (aa (vI a_2) (aa (vI (w64 (a_2+1))) (aa (vI (w64 (a_2+1))) (af ?_))))
 obtain ⟨o_13,hj_14,hF⟩:=bind_some hF
 obtain ⟨nq_51,hj_14⟩:=gU hj_14
 refine kC (λ(s_10:(List Run)×Int)=>[]) (λ(s_10:(List Run)×Int)=>[((au 0),gB 2 Run.enc s_10.1)]) (λ(k_5:Nat)=>(λ(s_10:(List Run)×Int)=>[(0,(dV (au 0) 2 s_10.1)),(1,(vI a_2)),(2,(vI b_3)),(3,(.fn 94 [])),(8,(vI s_10.2))])) (λs=>aV b_3 a_2 s) o_13 nq_51 (data_1,(w64 (a_2+1))) hj_14 rfl (aK rfl) ?_ ?_
 ·rintro ⟨k_5,s_10⟩ hL_12
  dsimp only at hL_12
  cases k_5 with
  | zero=>cases hL_12
  | succ k_5 =>
   obtain ⟨c_,hc_11,hL_12⟩:=bind_some hL_12
   unfold aV at hc_11
   refine ak (ai (aa (vI s_10.2) (aa (vI b_3) (aa (vB (decide (s_10.2<b_3))) (af ?_)))))
   rcases aj hc_11 with⟨hc_15,hc_11⟩|⟨hc_15,hc_11⟩
   ·refine aC rfl hc_15 (ax (ak (aR (ai (aa (vI s_10.2) (aa (vI s_10.2) (af ?_)))))))
    obtain ⟨o_24,hj_25,hc_11⟩:=bind_some hc_11
    obtain ⟨nq_50,hj_25⟩:=gU hj_25
    refine kC (λ(s_21:(List Run)×Int)=>[(0,(dV (au 0) 2 s_21.1)),(1,(vI a_2)),(2,(vI b_3)),(3,(.fn 94 [])),(8,(vI s_10.2))]) (λ(s_21:(List Run)×Int)=>[((au 0),gB 2 Run.enc s_21.1)]) (λ(k_16:Nat)=>(λ(s_21:(List Run)×Int)=>[(0,(dV (au 0) 2 s_21.1)),(1,(vI a_2)),(2,(vI b_3)),(3,(.fn 94 [])),(8,(vI s_10.2)),(9,(vI s_21.2))])) (λs=>bu a_2 s) o_24 nq_50 (s_10.1,s_10.2) hj_25 rfl (aK rfl) ?_ ?_
    ·rintro ⟨k_16,s_21⟩ hL_23
     dsimp only at hL_23
     cases k_16 with
     | zero=>cases hL_23
     | succ k_16 =>
      obtain ⟨c_,hc_22,hL_23⟩:=bind_some hL_23
      unfold bu at hc_22
      refine ak (ak ?_)
      obtain ⟨v_26,h_27,hc_22⟩:=bind_some hc_22
      refine aU [(0,(dV (au 0) 2 s_21.1)),(1,(vI a_2)),(2,(vI b_3)),(3,(.fn 94 [])),(8,(vI s_10.2)),(9,(vI s_21.2)),(34,(vB v_26))] [((au 0),gB 2 Run.enc s_21.1)] ?_ ?_
      ·refine bJ (aa (vI s_21.2) (aa (vI a_2) (aa (vB (decide (s_21.2>a_2))) ?_)))
       rcases aj h_27 with⟨hc_28,h_27⟩|⟨hc_28,h_27⟩
       ·refine aD rfl hc_28 wz (aH (.fn 94 []) wa rfl (aH (dV (au 0) 2 s_21.1) wa rfl (aH (vI s_21.2) wa rfl ?_)))
        obtain ⟨_,hi_29,h_27⟩:=bind_some h_27
        refine qX jo rfl rfl (qm hi_29) (mE hi_29) wa ?_
        obtain ⟨e_30,hy_31,h_27⟩:=bind_some h_27
        refine q9 8 0 (.inr (by kernel_rfl)) (λ_ _ ag=>trivial) kz ru rfl rfl hy_31 (.d (.agg (Run.enc e_30))) rfl wa (aH (dV (au 0) 2 s_21.1) wa rfl (aH (vI s_21.2) wa rfl (aH (vI (w64 (s_21.2-1))) wa rfl ?_)))
        obtain ⟨_,hi_32,h_27⟩:=bind_some h_27
        refine qX jo rfl rfl (qm hi_32) (mE hi_32) wa ?_
        obtain ⟨e_33,hy_34,h_27⟩:=bind_some h_27
        refine q9 13 0 (.inr (by kernel_rfl)) (λ_ _ ag=>⟨.inl ⟨rfl,rfl⟩,trivial⟩) kz ru rfl rfl hy_34 (.d (.agg (Run.enc e_33))) rfl wa ?_
        obtain ⟨r_35,hr_36,h_27⟩:=bind_some h_27
        refine aI (vG hr_36) rfl hb94 rfl rfl rfl rfl wa (aH (vB (decide (r_35<0))) wa rfl (aa (vB (decide (r_35<0))) (af ?_)))
        obtain rfl:=ae h_27
        exact cu
       ·refine aD rfl hc_28 wz (ah (ah (ah (ah (ah (ah (ah (ah (ah (ah (ah (ah (aa (vB false) (af ?_))))))))))))))
        obtain rfl:=ae h_27
        exact cu
      ·rintro ⟨⟩ _ sl_ H_ hp_ hq_
       refine aS _ hp_ hq_ ?_
       rcases aj hc_22 with⟨hc_37,hc_22⟩|⟨hc_37,hc_22⟩
       ·refine aC rfl hc_37 (ax (ak (aR (bJ (aa (dV (au 0) 2 s_21.1) (aa (vI s_21.2) (aa (dV (au 0) 2 s_21.1) (aa (vI s_21.2) (aa (vI (w64 (s_21.2-1))) (aa (dV (au 0) 2 s_21.1) (aa (vI s_21.2) (aa (vI (w64 (s_21.2-1))) ?_))))))))))))
        obtain ⟨_,hi_38,hc_22⟩:=bind_some hc_22
        refine qX jo rfl rfl (qm hi_38) (mE hi_38) wz ?_
        obtain ⟨e_39,hy_40,hc_22⟩:=bind_some hc_22
        refine q9 9 0 (.inr (by kernel_rfl)) (λ_ _ ag=>trivial) kz ru rfl rfl hy_40 (.d (.agg (Run.enc e_39))) rfl wz (aa (dV (au 0) 2 s_21.1) (aa (vI s_21.2) ?_))
        obtain ⟨_,hi_41,hc_22⟩:=bind_some hc_22
        refine qX jo rfl rfl (qm hi_41) (mE hi_41) wz ?_
        obtain ⟨e_42,hy_43,hc_22⟩:=bind_some hc_22
        refine q9 13 0 (.inr (by kernel_rfl)) (λ_ _ ag=>⟨.inl ⟨rfl,rfl⟩,trivial⟩) kz ru rfl rfl hy_43 (.d (.agg (Run.enc e_42))) rfl wz ?_
        obtain ⟨_,hi_44,hc_22⟩:=bind_some hc_22
        refine qX jo rfl rfl (qm hi_44) (mE hi_44) wz ?_
        obtain ⟨e_45,hy_46,hc_22⟩:=bind_some hc_22
        refine Er 15 (.inr (by kernel_rfl)) (λ_ _ ag=>⟨.inr (.inr (by kernel_rfl)),⟨.inr (.inr (by kernel_rfl)),trivial⟩⟩) 0 kz rfl rfl hy_46 e_39 rfl wz (jU (v':=(dV (au 0) 2 (s_21.1.set (0+(s_21.2).toNat) e_39))) 0 rfl (jY (by simp)) (jU (v':=(dV (au 0) 2 (s_21.1.set (0+(s_21.2).toNat) e_39))) 37 rfl (jY (by simp)) (jU (v':=(dV (au 0) 2 (s_21.1.set (0+(s_21.2).toNat) e_39))) 39 rfl (jY (by simp)) (jU (v':=(dV (au 0) 2 (s_21.1.set (0+(s_21.2).toNat) e_39))) 42 rfl (jY (by simp)) (jU (v':=(dV (au 0) 2 (s_21.1.set (0+(s_21.2).toNat) e_39))) 47 rfl (jY (by simp)) ?_)))))
        obtain ⟨_,hi_47,hc_22⟩:=bind_some hc_22
        refine qX jo rfl rfl (qm hi_47) (mE hi_47) wz ?_
        obtain ⟨e_48,hy_49,hc_22⟩:=bind_some hc_22
        refine Er 17 (.inr (by kernel_rfl)) (λ_ _ ag=>⟨.inr (.inr (by kernel_rfl)),⟨.inr (.inr (by kernel_rfl)),⟨.inr (.inr (by kernel_rfl)),trivial⟩⟩⟩) 0 kz rfl rfl hy_49 e_42 rfl wz (jU (v':=(dV (au 0) 2 ((s_21.1.set (0+(s_21.2).toNat) e_39).set (0+((w64 (s_21.2-1))).toNat) e_42))) 0 rfl (jY (by simp)) (jU (v':=(dV (au 0) 2 ((s_21.1.set (0+(s_21.2).toNat) e_39).set (0+((w64 (s_21.2-1))).toNat) e_42))) 37 rfl (jY (by simp)) (jU (v':=(dV (au 0) 2 ((s_21.1.set (0+(s_21.2).toNat) e_39).set (0+((w64 (s_21.2-1))).toNat) e_42))) 39 rfl (jY (by simp)) (jU (v':=(dV (au 0) 2 ((s_21.1.set (0+(s_21.2).toNat) e_39).set (0+((w64 (s_21.2-1))).toNat) e_42))) 42 rfl (jY (by simp)) (jU (v':=(dV (au 0) 2 ((s_21.1.set (0+(s_21.2).toNat) e_39).set (0+((w64 (s_21.2-1))).toNat) e_42))) 47 rfl (jY (by simp)) (af (av (aa (vI s_21.2) (aa (vI (w64 (s_21.2-1))) (aa (vI (w64 (s_21.2-1))) (af ?_)))))))))))
        obtain rfl:=ae hc_22
        exact bD (k_16,(((s_21.1.set (0+(s_21.2).toNat) e_39).set (0+((w64 (s_21.2-1))).toNat) e_42),(w64 (s_21.2-1)))) hL_23 (ls_ _) rfl (aK rfl)
       ·refine aA rfl hc_37 (bE ?_)
        obtain rfl:=ae hc_22
        obtain rfl:=ae hL_23
        exact bn ((s_21.1,s_21.2)) rfl rfl (aK rfl)
    ·rintro s_21 ho_ sl_ H_ hp_ hq_
     subst ho_
     refine aS _ hp_ hq_ (av (aa (vI s_10.2) (aa (vI (w64 (s_10.2+1))) (aa (vI (w64 (s_10.2+1))) (af ?_)))))
     obtain rfl:=ae hc_11
     exact bD (k_5,(s_21.1,(w64 (s_10.2+1)))) hL_12 (ls_ _) rfl (aK rfl)
   ·refine aA rfl hc_15 (bE ?_)
    obtain rfl:=ae hc_11
    obtain rfl:=ae hL_12
    exact bn ((s_10.1,s_10.2)) rfl rfl (aK rfl)
 ·rintro s_10 ho_ sl_ H_ hp_ hq_
  subst ho_
  show tN _ _ _ _ _ _ _ _
  obtain rfl:=ae hF
  exact FU (H0:=([((au 0),gB 2 Run.enc s_10.1)]:Hp)) (sl':=envS []) hq_ (Ej (bs:=([]:List Box)) (os:=([]:List Box)) (xs:=data_1) (o:=gB 2 Run.enc s_10.1) (.inl rfl) [] trivial rfl rfl rfl rfl rfl (by kernel_rfl) wZ rfl)
theorem jk {data_1:(List Run)} {a_2:Int} {b_3:Int} {limit_4:Int} {r:(List Run)} (hF:bA data_1 a_2 b_3 limit_4=some r) :
  FnM Tryz.prog 124 [(dV (au 0) 2 data_1),(vI a_2),(vI b_3),(vI limit_4),(.fn 94 [])] (([]:List Box)++gI 2 Run.enc data_1) (.tup []) (([]:List Box).map some++gT data_1 (gB 2 Run.enc r)):=by
 refine FnM.of_wHv ⟨Tryz.prog,148,[],[]⟩ rfl Tryz.func124 rfl rfl (lb_ rfl) (by kernel_rfl) ?_
 unfold bA at hF
 refine ai (aa (vB true) (af (ai (aa (vB true) (af ?_)))))
 obtain ⟨o_14,hj_15,hF⟩:=bind_some hF
 obtain ⟨nq_21,hj_15⟩:=gU hj_15
 refine kC (λ(s_11:Unit)=>[]) (λ(s_11:Unit)=>[((au 0),gB 2 Run.enc data_1)]) (λ(k_6:Nat)=>(λ(s_11:Unit)=>[(0,(dV (au 0) 2 data_1)),(1,(vI a_2)),(2,(vI b_3)),(3,(vI limit_4)),(4,(.fn 94 [])),(10,(vB true)),(11,(vB true))])) (λs=>bg b_3 a_2 data_1 limit_4 s) o_14 nq_21 () hj_15 rfl (aK rfl) ?_ ?_
 ·rintro ⟨k_6,s_11⟩ hL_13
  dsimp only at hL_13
  cases k_6 with
  | zero=>cases hL_13
  | succ k_6 =>
   obtain ⟨c_,hc_12,hL_13⟩:=bind_some hL_13
   unfold bg at hc_12
   refine aR (ai (aa (vI b_3) (aa (vI a_2) (aa (vI (w64 (b_3-a_2))) (aa (vI (w64 (b_3-a_2))) (af (ak (ai (aa (vI (w64 (b_3-a_2))) (aa (vB (decide ((w64 (b_3-a_2))<=12))) (af ?_)))))))))))
   rcases aj hc_12 with⟨hc_16,hc_12⟩|⟨hc_16,hc_12⟩
   ·refine aC rfl hc_16 (ai (aa (dV (au 0) 2 data_1) (aa (vI a_2) (aa (vI b_3) (aa (.fn 94 []) ?_)))))
    obtain ⟨r_17,hr_18,hc_12⟩:=bind_some hc_12
    obtain ⟨_,hs_19,hc_12⟩:=bind_some hc_12
    replace hs_19:=uP hs_19
    refine uU 0 [] 0 0 il ft (gZ hr_18) rfl hb140 rfl rfl rfl (by kernel_rfl) rfl (.inr (.inl rfl)) rfl (by kernel_rfl) (by kernel_rfl) (by kernel_rfl) (by kernel_rfl) rfl (by decide) (by kernel_rfl) wZ (FP hs_19) wz ([((au 0),gB 2 Run.enc r_17)]:Hp) (by kernel_rfl) (jU (v':=(dV (au 0) 2 r_17)) 0 rfl (jY hs_19.symm) (jU (v':=(dV (au 0) 2 r_17)) 26 rfl (jY hs_19.symm) (af ?_)))
    obtain rfl:=ae hc_12
    obtain rfl:=ae hL_13
    obtain rfl:=ae hF
    exact ay (Ej (bs:=([]:List Box)) (os:=([]:List Box)) (xs:=data_1) (o:=gB 2 Run.enc r_17) (.inr rfl) [] trivial rfl rfl rfl rfl rfl (by kernel_rfl) wZ rfl)
   ·refine aA rfl hc_16 (ax (ak (ai (aa (vI limit_4) (aa (vB (limit_4==0)) (af ?_))))))
    rcases aj hc_12 with⟨hc_20,hc_12⟩|⟨hc_20,hc_12⟩
    ·refine aC rfl hc_20 (ai (aa (dV (au 0) 2 data_1) (aa (vI a_2) (aa (vI b_3) (aa (.fn 94 []) ?_)))))
     cases hc_12
    ·refine aA rfl hc_20 (ax (ak (ai (aa (vB true) (aa (vB false) (af (aA rfl rfl (ax (ai (aa (dV (au 0) 2 data_1) (aa (vI a_2) (aa (vI b_3) (aa (.fn 94 []) ?_)))))))))))))
     cases hc_12
 ·rintro s_11 ho_ sl_ H_ hp_ hq_
  subst ho_
  show tN _ _ _ _ _ _ _ _
  obtain rfl:=ae hF
  exact FU (H0:=([((au 0),gB 2 Run.enc data_1)]:Hp)) (sl':=envS []) hq_ (Ej (bs:=([]:List Box)) (os:=([]:List Box)) (xs:=data_1) (o:=gB 2 Run.enc data_1) (.inl rfl) [] trivial rfl rfl rfl rfl rfl (by kernel_rfl) wZ rfl)
theorem iJ {x_1:(List Run)} {r:(List Run)} (hF:aX x_1=some r) :
  FnM Tryz.prog 93 [(dV (au 0) 2 x_1),(.fn 94 [])] (([]:List Box)++gI 2 Run.enc x_1) (.tup []) (([]:List Box).map some++gT x_1 (gB 2 Run.enc r)):=by
 refine FnM.of_wHv ⟨Tryz.prog,14,[],[]⟩ rfl Tryz.func93 rfl rfl (lb_ rfl) (by kernel_rfl) ?_
 unfold aX at hF
 refine ai (aa (dV (au 0) 2 x_1) (Fa sN rfl wz (aa (vI (x_1.length:Int)) (af (av (aa (dV (au 0) 2 x_1) (aa (vI (x_1.length:Int)) (aa (vI (x_1.length:Int)) (yC un3 un118 rfl wz ?_)))))))))
 obtain ⟨r_3,hr_4,hF⟩:=bind_some hF
 refine aI (vz hr_4) rfl hb92 rfl rfl rfl rfl wz (aa (.fn 94 []) ?_)
 obtain ⟨r_5,hr_6,hF⟩:=bind_some hF
 obtain ⟨_,hs_7,hF⟩:=bind_some hF
 replace hs_7:=uP hs_7
 refine uU 0 [] 0 0 il ft (jk hr_6) rfl hb124 rfl rfl rfl (by kernel_rfl) rfl (.inr (.inl rfl)) rfl (by kernel_rfl) (by kernel_rfl) (by kernel_rfl) (by kernel_rfl) rfl (by decide) (by kernel_rfl) wZ (FP hs_7) wz ([((au 0),gB 2 Run.enc r_5)]:Hp) (by kernel_rfl) (jU (v':=(dV (au 0) 2 r_5)) 0 rfl (jY hs_7.symm) (jU (v':=(dV (au 0) 2 r_5)) 5 rfl (jY hs_7.symm) (jU (v':=(dV (au 0) 2 r_5)) 7 rfl (jY hs_7.symm) (af ?_))))
 show tN _ _ _ _ _ _ _ _
 obtain rfl:=ae hF
 exact Ej (bs:=([]:List Box)) (os:=([]:List Box)) (xs:=x_1) (o:=gB 2 Run.enc r_5) (.inl rfl) [] trivial rfl rfl rfl rfl rfl (by kernel_rfl) wZ rfl
theorem ry {l_1:(List Rect)} {y_2:Int} {r:(List Run)} (hF:ko l_1 y_2=some r) :
  FnM Tryz.prog 77 [(vL Rect.enc l_1),(vI y_2)] [] (vL Run.enc r) []:=by
 refine FnM.of_wH ⟨Tryz.prog,84,[],[]⟩ rfl Tryz.func77 rfl rfl (lb_ rfl) (by kernel_rfl) ?_
 unfold ko at hF
 refine ai (aa .nil (af (ai (aa .nil (af (ak (ai (aa (vL Rect.enc l_1) (dH Bi rfl wz (aa (vI 0) (af (nK (λn_9 => ?_)))))))))))))
 obtain ⟨o_14,hj_15,hF⟩:=bind_some hF
 obtain ⟨hn_7,hj_15⟩:=bH hj_15
 refine iw (σ:=(List Run)) (N:=Nm) (λp=>(λ(s_8:List Run) (n_11:Nm)=>([(5,(gV n_11 2 s_8))]:SL_)) p.1 p.2) (λp=>(λ(s_8:List Run) (n_11:Nm)=>([(n_11,gB 2 Run.enc s_8)]:Hp)) p.1 p.2) (λ(k_3:Nat)=>(λp=>(λ(s_8:List Run) (n_11:Nm)=>([(1,(vI y_2)),(5,(gV n_11 2 s_8)),(12,(vL Rect.enc l_1)),(13,(vI (l_1.length:Int))),(14,(vI (k_3:Int)))]:SL_)) p.1 p.2)) (λk x s=>kK y_2 k x s) o_14 l_1 (([]:List Run),n_9) hj_15 rfl (aK rfl) ?_ ?_
 ·rintro ⟨k_3,l_4,s_8,n_11⟩ ⟨hL_13,hD_6⟩
  dsimp only at hL_13 hD_6
  cases l_4 with
  | nil =>
   obtain rfl:=ae hL_13
   refine ai (aa (vB (decide ((k_3:Int)<(l_1.length:Int)))) (af ?_))
   refine ak (aA rfl (drop_nil hD_6) (bE ?_))
   exact bn (s_8,n_11) rfl rfl (aK rfl)
  | cons x_5 l_4 =>
   obtain ⟨c_,hc_12,hL_13⟩:=bind_some hL_13
   refine ai (aa (vB (decide ((k_3:Int)<(l_1.length:Int)))) (af ?_))
   refine ak (aC rfl (bN hD_6) (ax ?_))
   unfold kK at hc_12
   refine ak (aR (ai (eH Hl rfl rfl (dz hD_6) rfl wz (bT nC xx rfl (.d (.agg (Rect.enc x_5))) rfl wz (dM 0 (.inl rfl) z47 rfl wz (λn_16=>bR 0 il ft 1 nC rfl rfl (Rect.v x_5) rfl wz (af (ak ?_))))))))
   obtain ⟨v_17,h_18,hc_12⟩:=bind_some hc_12
   refine aU [(1,(vI y_2)),(5,(gV n_11 2 s_8)),(7,(.ref n_16 0 0)),(12,(vL Rect.enc l_1)),(13,(vI (l_1.length:Int))),(14,(vI (k_3:Int))),(30,(vB v_17))] [(n_11,gB 2 Run.enc s_8),(n_16,some (.cells 4 (Rect.v x_5)))] ?_ ?_
   ·refine av (aF jI rfl 1 rfl wz (aJ 0 1 il ft sz3 ag3 rfl rfl (vI x_5.Y) rfl wz (aa (vI y_2) (aa (vB (decide (x_5.Y<=y_2))) ?_))))
    rcases aj h_18 with⟨hc_19,h_18⟩|⟨hc_19,h_18⟩
    ·refine aD rfl hc_19 wz (aH (vI y_2) wa rfl (aF jI rfl 1 rfl wa (aJ 0 1 il ft sz3 ag3 rfl rfl (vI x_5.Y) rfl wa (aF mg rfl 3 rfl wa (aJ 0 1 il ft sz3 ag3 rfl rfl (vI x_5.H) rfl wa (aH (vI (w64 (x_5.Y+x_5.H))) wa rfl (aH (vB (decide (y_2<(w64 (x_5.Y+x_5.H))))) wa rfl (aa (vB (decide (y_2<(w64 (x_5.Y+x_5.H))))) (af ?_)))))))))
     obtain rfl:=ae h_18
     exact cu
    ·refine aD rfl hc_19 wz (ah (ah (ah (ah (ah (ah (ah (aa (vB false) (af ?_)))))))))
     obtain rfl:=ae h_18
     exact cu
   ·rintro ⟨⟩ _ sl_ H_ hp_ hq_
    refine aS _ hp_ hq_ ?_
    obtain ⟨v_20,h_21,hc_12⟩:=bind_some hc_12
    refine jG (β:=Nm) (λ(n_22:Nm)=>([(1,(vI y_2)),(5,(gV n_22 2 v_20)),(12,(vL Rect.enc l_1)),(13,(vI (l_1.length:Int))),(14,(vI (k_3:Int)))]:SL_)) (λ(n_22:Nm)=>([(n_22,gB 2 Run.enc v_20),(n_16,some (.cells 4 (Rect.v x_5)))]:Hp)) (λ_=>True) ?_ ?_
    ·rcases aj h_21 with⟨hc_23,h_21⟩|⟨hc_23,h_21⟩
     ·refine aC rfl hc_23 (av (aa (gV n_11 2 s_8) (aF kU rfl 0 rfl wz (aJ 0 1 il ft sz3 ag3 rfl rfl (vI x_5.X) rfl wz (aF kU rfl 0 rfl wz (aJ 0 1 il ft sz3 ag3 rfl rfl (vI x_5.X) rfl wz (aF oM rfl 2 rfl wz (aJ 0 1 il ft sz3 ag3 rfl rfl (vI x_5.W) rfl wz (aa (vI (w64 (x_5.X+x_5.W))) (aH (.d (.agg (Run.enc (⟨x_5.X,(w64 (x_5.X+x_5.W))⟩:Run)))) wz (by kernel_rfl) (gu (([(⟨x_5.X,(w64 (x_5.X+x_5.W))⟩:Run)]:List Run).map Run.enc) jo F8 rfl rfl rfl rfl rfl wz ?_)))))))))))
      obtain ⟨a_24,hz_25,h_21⟩:=bind_some h_21
      refine kI 0 il ft (i:=0) wI wI kz z109 rfl (by decide) FV (by decide) (λ_=>rfl) rfl rfl rfl hz_25 wz (λn_26=>aa (gV n_26 2 a_24) (af ?_))
      obtain rfl:=ae h_21
      exact bn n_26 trivial rfl (aK rfl)
     ·refine aA rfl hc_23 (ax ?_)
      obtain rfl:=ae h_21
      exact bn n_11 trivial rfl (aK rfl)
    ·rintro n_22 _ sl_ H_ hp_ hq_
     refine aS _ hp_ hq_ (av (gW (bX hD_6 hn_7) wz rfl (aa (vI ((k_3+1:Nat):Int)) (af ?_))))
     obtain rfl:=ae hc_12
     exact bD (k_3+1,l_4,v_20,n_22) ⟨hL_13,bv hD_6⟩ (ls_ _) rfl (aK rfl)
 ·rintro ⟨s_8,n_11⟩ ho_ sl_ H_ hp_ hq_
  subst ho_
  refine aS _ hp_ hq_ (ai (aa (gV n_11 2 s_8) ?_))
  obtain ⟨r_27,hr_28,hF⟩:=bind_some hF
  obtain ⟨_,hs_29,hF⟩:=bind_some hF
  replace hs_29:=uP hs_29
  refine uU 0 [] 0 0 il ft (iJ hr_28) rfl hb93 rfl rfl rfl (by kernel_rfl) rfl (.inl rfl) rfl (by kernel_rfl) (by kernel_rfl) (by kernel_rfl) (by kernel_rfl) rfl (by decide) (by kernel_rfl) wZ (FP hs_29) wz ([(n_11,gB 2 Run.enc r_27)]:Hp) (by kernel_rfl) (jU (v':=(gV n_11 2 r_27)) 43 rfl (sV hs_29.symm) (jU (v':=(gV n_11 2 r_27)) 5 rfl (sV hs_29.symm) (af (ai (aa .nil (af (ak (ai (aa (gV n_11 2 r_27) (I6 sN rfl wz (aa (vI 0) (af (gN 0 rfl (gQ 5 0 rfl rfl (gQ 43 0 rfl rfl (gQ 45 0 rfl rfl (nK (λn_36 => ?_))))))))))))))))))
  obtain ⟨o_41,hj_42,hF⟩:=bind_some hF
  obtain ⟨hn_34,hj_42⟩:=bH hj_42
  refine iw (σ:=(List Run)) (N:=Nm) (λp=>(λ(s_35:List Run) (n_38:Nm)=>([(8,(gV n_38 2 s_35))]:SL_)) p.1 p.2) (λp=>(λ(s_35:List Run) (n_38:Nm)=>([(n_11,gF 2 Run.enc r_27),(n_38,gB 2 Run.enc s_35)]:Hp)) p.1 p.2) (λ(k_30:Nat)=>(λp=>(λ(s_35:List Run) (n_38:Nm)=>([(8,(gV n_38 2 s_35)),(45,(vL Run.enc r_27)),(46,(vI (r_27.length:Int))),(47,(vI (k_30:Int)))]:SL_)) p.1 p.2)) (λk x s=>kL k x s) o_41 r_27 (([]:List Run),n_36) hj_42 rfl (aK rfl) ?_ ?_
  ·rintro ⟨k_30,l_31,s_35,n_38⟩ ⟨hL_40,hD_33⟩
   dsimp only at hL_40 hD_33
   cases l_31 with
   | nil =>
    obtain rfl:=ae hL_40
    refine ai (aa (vB (decide ((k_30:Int)<(r_27.length:Int)))) (af ?_))
    refine ak (aA rfl (drop_nil hD_33) (bE ?_))
    exact bn (s_35,n_38) rfl rfl (aK rfl)
   | cons x_32 l_31 =>
    obtain ⟨c_,hc_39,hL_40⟩:=bind_some hL_40
    refine ai (aa (vB (decide ((k_30:Int)<(r_27.length:Int)))) (af ?_))
    refine ak (aC rfl (bN hD_33) (ax ?_))
    unfold kL at hc_39
    refine ak (aR (ai (eH jo rfl rfl (dz hD_33) rfl wz (bT kz ru rfl (.d (.agg (Run.enc x_32))) rfl wz (dM 0 (.inl rfl) z109 rfl wz (λn_43=>bR 0 il ft 2 kz rfl rfl [(vI x_32.f_from),(vI x_32.f_to)] rfl wz (af (ai (aa (gV n_38 2 s_35) (I6 sN rfl wz (aa (vI (w64 ((s_35.length:Int)-1))) (aa (vI (w64 ((s_35.length:Int)-1))) (af (ak ?_))))))))))))))
    obtain ⟨v_44,h_45,hc_39⟩:=bind_some hc_39
    refine aU [(8,(gV n_38 2 s_35)),(10,(.ref n_43 0 0)),(11,(vI (w64 ((s_35.length:Int)-1)))),(45,(vL Run.enc r_27)),(46,(vI (r_27.length:Int))),(47,(vI (k_30:Int))),(65,(vB v_44))] [(n_11,gF 2 Run.enc r_27),(n_38,gB 2 Run.enc s_35),(n_43,some (.cells 2 [(vI x_32.f_from),(vI x_32.f_to)]))] ?_ ?_
    ·refine bJ (aa (vI (w64 ((s_35.length:Int)-1))) (aa (vB (decide ((w64 ((s_35.length:Int)-1))>=0))) ?_))
     rcases aj h_45 with⟨hc_46,h_45⟩|⟨hc_46,h_45⟩
     ·refine aD rfl hc_46 wz (aF iY rfl 0 rfl wa (aJ 4 2 (.inr (by kernel_rfl)) (λ_ _ ag=>trivial) sz3 ag3 rfl rfl (vI x_32.f_from) rfl wa (aH (gV n_38 2 s_35) wa rfl (aH (vI (w64 ((s_35.length:Int)-1))) wa rfl ?_))))
      obtain ⟨_,hi_47,h_45⟩:=bind_some h_45
      refine EK jo rfl rfl (qm hi_47) (mE hi_47) wa (aF mY rfl 1 rfl wa ?_)
      obtain ⟨e_48,hy_49,h_45⟩:=bind_some h_45
      refine q9 9 1 (.inr (by kernel_rfl)) (λ_ _ ag=>⟨.inl ⟨rfl,rfl⟩,trivial⟩) sz3 ag3 rfl rfl hy_49 (vI e_48.f_to) rfl wa (aH (vB (decide (x_32.f_from<=e_48.f_to))) wa rfl (aa (vB (decide (x_32.f_from<=e_48.f_to))) (af ?_)))
      obtain rfl:=ae h_45
      exact cu
     ·refine aD rfl hc_46 wz (ah (ah (ah (ah (ah (ah (ah (ah (aa (vB false) (af ?_))))))))))
      obtain rfl:=ae h_45
      exact cu
    ·rintro ⟨⟩ _ sl_ H_ hp_ hq_
     refine aS _ hp_ hq_ ?_
     obtain ⟨v_50,h_51,hc_39⟩:=bind_some hc_39
     refine jG (β:=Nm) (λ(n_52:Nm)=>([(8,(gV n_52 2 v_50)),(45,(vL Run.enc r_27)),(46,(vI (r_27.length:Int))),(47,(vI (k_30:Int)))]:SL_)) (λ(n_52:Nm)=>([(n_11,gF 2 Run.enc r_27),(n_52,gB 2 Run.enc v_50),(n_43,some (.cells 2 [(vI x_32.f_from),(vI x_32.f_to)]))]:Hp)) (λ_=>True) ?_ ?_
     ·rcases aj h_51 with⟨hc_53,h_51⟩|⟨hc_53,h_51⟩
      ·refine aC rfl hc_53 (bJ (aa (gV n_38 2 s_35) (aa (vI (w64 ((s_35.length:Int)-1))) (aa (gV n_38 2 s_35) (aa (vI (w64 ((s_35.length:Int)-1))) ?_)))))
       obtain ⟨_,hi_54,h_51⟩:=bind_some h_51
       refine EK jo rfl rfl (qm hi_54) (mE hi_54) wz (aF mY rfl 1 rfl wz ?_)
       obtain ⟨e_55,hy_56,h_51⟩:=bind_some h_51
       refine q9 6 1 (.inr (by kernel_rfl)) (λ_ _ ag=>trivial) sz3 ag3 rfl rfl hy_56 (vI e_55.f_to) rfl wz (aF mY rfl 1 rfl wz (aJ 8 2 (.inr (by kernel_rfl)) (λ_ _ ag=>⟨.inl ⟨rfl,rfl⟩,trivial⟩) sz3 ag3 rfl rfl (vI x_32.f_to) rfl wz (DT (vI (zM e_55.f_to x_32.f_to)) rfl (.inr rfl) wz ?_)))
       obtain ⟨_,hi_57,h_51⟩:=bind_some h_51
       refine EK jo rfl rfl (qm hi_57) (mE hi_57) wz (aF mY rfl 1 rfl wz ?_)
       obtain ⟨e_58,hy_59,h_51⟩:=bind_some h_51
       refine Er 12 (.inr (by kernel_rfl)) (λ_ _ ag=>⟨.inr (.inr (by kernel_rfl)),⟨.inr (.inr (by kernel_rfl)),trivial⟩⟩) 1 sz3 rfl rfl hy_59 (⟨e_58.f_from,(zM e_55.f_to x_32.f_to)⟩:Run) rfl wz (jU (v':=(gV n_38 2 (s_35.set (0+((w64 ((s_35.length:Int)-1))).toNat) (⟨e_58.f_from,(zM e_55.f_to x_32.f_to)⟩:Run)))) 8 rfl (sV (by simp)) (jU (v':=(gV n_38 2 (s_35.set (0+((w64 ((s_35.length:Int)-1))).toNat) (⟨e_58.f_from,(zM e_55.f_to x_32.f_to)⟩:Run)))) 66 rfl (sV (by simp)) (jU (v':=(gV n_38 2 (s_35.set (0+((w64 ((s_35.length:Int)-1))).toNat) (⟨e_58.f_from,(zM e_55.f_to x_32.f_to)⟩:Run)))) 68 rfl (sV (by simp)) (af ?_))))
       obtain rfl:=ae h_51
       exact bn n_38 trivial rfl (aK rfl)
      ·refine aA rfl hc_53 (av (aa (gV n_38 2 s_35) (aJ 0 2 il ft kz ru rfl rfl (.d (.agg (Run.enc x_32))) rfl wz (gu (([x_32]:List Run).map Run.enc) jo F8 rfl rfl rfl rfl rfl wz ?_))))
       obtain ⟨a_60,hz_61,h_51⟩:=bind_some h_51
       refine kI 0 il ft (i:=1) wI wI kz z109 rfl (by decide) FV (by decide) (λ_=>rfl) rfl rfl rfl hz_61 wz (λn_62=>aa (gV n_62 2 a_60) (af ?_))
       obtain rfl:=ae h_51
       exact bn n_62 trivial rfl (aK rfl)
     ·rintro n_52 _ sl_ H_ hp_ hq_
      refine aS _ hp_ hq_ (av (gW (bX hD_33 hn_34) wz rfl (aa (vI ((k_30+1:Nat):Int)) (af ?_))))
      obtain rfl:=ae hc_39
      exact bD (k_30+1,l_31,v_50,n_52) ⟨hL_40,bv hD_33⟩ (ls_ _) rfl (aK rfl)
  ·rintro ⟨s_35,n_38⟩ ho_ sl_ H_ hp_ hq_
   subst ho_
   refine aS _ hp_ hq_ (ai (aa (gV n_38 2 s_35) (aa (gV n_38 2 s_35) (af (gN 1 rfl (gQ 4 1 rfl rfl (gQ 8 1 rfl rfl (gQ 83 1 rfl rfl ?_))))))))
   obtain rfl:=ae hF
   exact ay (aN [(vL Run.enc s_35)] ⟨rfl,trivial⟩)
theorem zf {l_1:(List Run)} {m_2:(List Run)} {r:(List Run)} (hF:lX l_1 m_2=some r) :
  FnM Tryz.prog 76 [(vL Run.enc l_1),(vL Run.enc m_2)] [] (vL Run.enc r) []:=by
 refine FnM.of_wH ⟨Tryz.prog,88,[],[]⟩ rfl Tryz.func76 rfl rfl (lb_ rfl) (by kernel_rfl) ?_
 unfold lX at hF
 refine ai (aa .nil (af (ai (aa .nil (af (ai (aa (vI 0) (af (ak (ai (aa (vL Run.enc l_1) (dH sN rfl wz (aa (vI 0) (af (nK (λn_9 => ?_))))))))))))))))
 obtain ⟨o_14,hj_15,hF⟩:=bind_some hF
 obtain ⟨hn_7,hj_15⟩:=bH hj_15
 refine iw (σ:=(List Run)×Int) (N:=Nm) (λp=>(λ(s_8:(List Run)×Int) (n_11:Nm)=>([(5,(gV n_11 2 s_8.1))]:SL_)) p.1 p.2) (λp=>(λ(s_8:(List Run)×Int) (n_11:Nm)=>([(n_11,gB 2 Run.enc s_8.1)]:Hp)) p.1 p.2) (λ(k_3:Nat)=>(λp=>(λ(s_8:(List Run)×Int) (n_11:Nm)=>([(1,(vL Run.enc m_2)),(5,(gV n_11 2 s_8.1)),(6,(vI s_8.2)),(10,(vL Run.enc l_1)),(11,(vI (l_1.length:Int))),(12,(vI (k_3:Int)))]:SL_)) p.1 p.2)) (λk x s=>jr m_2 k x s) o_14 l_1 ((([]:List Run),0),n_9) hj_15 rfl (aK rfl) ?_ ?_
 ·rintro ⟨k_3,l_4,s_8,n_11⟩ ⟨hL_13,hD_6⟩
  dsimp only at hL_13 hD_6
  cases l_4 with
  | nil =>
   obtain rfl:=ae hL_13
   refine ai (aa (vB (decide ((k_3:Int)<(l_1.length:Int)))) (af ?_))
   refine ak (aA rfl (drop_nil hD_6) (bE ?_))
   exact bn (s_8,n_11) rfl rfl (aK rfl)
  | cons x_5 l_4 =>
   obtain ⟨c_,hc_12,hL_13⟩:=bind_some hL_13
   refine ai (aa (vB (decide ((k_3:Int)<(l_1.length:Int)))) (af ?_))
   refine ak (aC rfl (bN hD_6) (ax ?_))
   unfold jr at hc_12
   refine ak (aR (ai (eH jo rfl rfl (dz hD_6) rfl wz (bT kz ru rfl (.d (.agg (Run.enc x_5))) rfl wz (dM 0 (.inl rfl) z109 rfl wz (λn_16=>bR 0 il ft 1 kz rfl rfl [(vI x_5.f_from),(vI x_5.f_to)] rfl wz (af (ak ?_))))))))
   obtain ⟨o_25,hj_26,hc_12⟩:=bind_some hc_12
   obtain ⟨nq_72,hj_26⟩:=gU hj_26
   refine kC (λ(s_22:Int)=>[(1,(vL Run.enc m_2)),(5,(gV n_11 2 s_8.1)),(6,(vI s_22)),(8,(.ref n_16 0 0)),(10,(vL Run.enc l_1)),(11,(vI (l_1.length:Int))),(12,(vI (k_3:Int)))]) (λ(s_22:Int)=>[(n_11,gB 2 Run.enc s_8.1),(n_16,some (.cells 2 [(vI x_5.f_from),(vI x_5.f_to)]))]) (λ(k_17:Nat)=>(λ(s_22:Int)=>[(1,(vL Run.enc m_2)),(5,(gV n_11 2 s_8.1)),(6,(vI s_22)),(8,(.ref n_16 0 0)),(10,(vL Run.enc l_1)),(11,(vI (l_1.length:Int))),(12,(vI (k_3:Int)))])) (λs=>kR m_2 x_5 s) o_25 nq_72 s_8.2 hj_26 rfl (aK rfl) ?_ ?_
   ·rintro ⟨k_17,s_22⟩ hL_24
    dsimp only at hL_24
    cases k_17 with
    | zero=>cases hL_24
    | succ k_17 =>
     obtain ⟨c_,hc_23,hL_24⟩:=bind_some hL_24
     unfold kR at hc_23
     refine ak (ak ?_)
     obtain ⟨v_27,h_28,hc_23⟩:=bind_some hc_23
     refine aU [(1,(vL Run.enc m_2)),(5,(gV n_11 2 s_8.1)),(6,(vI s_22)),(8,(.ref n_16 0 0)),(10,(vL Run.enc l_1)),(11,(vI (l_1.length:Int))),(12,(vI (k_3:Int))),(29,(vB v_27))] [(n_11,gB 2 Run.enc s_8.1),(n_16,some (.cells 2 [(vI x_5.f_from),(vI x_5.f_to)]))] ?_ ?_
     ·refine bJ (aa (vI s_22) (aa (vL Run.enc m_2) (dH sN rfl wz (aa (vB (decide (s_22<(m_2.length:Int)))) ?_))))
      rcases aj h_28 with⟨hc_29,h_28⟩|⟨hc_29,h_28⟩
      ·refine aD rfl hc_29 wz (aH (vL Run.enc m_2) wa rfl (aH (vI s_22) wa rfl ?_))
       obtain ⟨y_30,hy_31,h_28⟩:=bind_some h_28
       refine eH jo rfl rfl hy_31 rfl wa (AJ mY rfl [.int .i64 y_30.f_to] rfl rfl wa (bT sz3 ag3 rfl (vI y_30.f_to) rfl wa (aF iY rfl 0 rfl wa (aJ 11 1 (.inr (by kernel_rfl)) (λ_ _ ag=>trivial) sz3 ag3 rfl rfl (vI x_5.f_from) rfl wa (aH (vB (decide (y_30.f_to<=x_5.f_from))) wa rfl (aa (vB (decide (y_30.f_to<=x_5.f_from))) (af ?_)))))))
       obtain rfl:=ae h_28
       exact cu
      ·refine aD rfl hc_29 wz (ah (ah (ah (ah (ah (ah (ah (ah (aa (vB false) (af ?_))))))))))
       obtain rfl:=ae h_28
       exact cu
     ·rintro ⟨⟩ _ sl_ H_ hp_ hq_
      refine aS _ hp_ hq_ ?_
      rcases aj hc_23 with⟨hc_32,hc_23⟩|⟨hc_32,hc_23⟩
      ·refine aC rfl hc_32 (ax (aR (av (aa (vI s_22) (aa (vI (w64 (s_22+1))) (aa (vI (w64 (s_22+1))) (af ?_)))))))
       obtain rfl:=ae hc_23
       exact bD (k_17,(w64 (s_22+1))) hL_24 (ls_ _) rfl (aK rfl)
      ·refine aA rfl hc_32 (bE ?_)
       obtain rfl:=ae hc_23
       obtain rfl:=ae hL_24
       exact bn (s_22) rfl rfl (aK rfl)
   ·rintro s_22 ho_ sl_ H_ hp_ hq_
    subst ho_
    refine aS _ hp_ hq_ (ak (ai (aa (vI s_22) (aa (vI s_22) (af ?_)))))
    obtain ⟨o_43,hj_44,hc_12⟩:=bind_some hc_12
    obtain ⟨nq_71,hj_44⟩:=gU hj_44
    refine D7 (σ:=(List Run)×Int×Int) (N:=Nm) (λp=>(λ(s_38:(List Run)×Int×Int) (n_40:Nm)=>([(1,(vL Run.enc m_2)),(5,(gV n_40 2 s_38.1)),(6,(vI s_22)),(8,(.ref n_16 0 0)),(10,(vL Run.enc l_1)),(11,(vI (l_1.length:Int))),(12,(vI (k_3:Int)))]:SL_)) p.1 p.2) (λp=>(λ(s_38:(List Run)×Int×Int) (n_40:Nm)=>([(n_40,gB 2 Run.enc s_38.1),(n_16,some (.cells 2 [(vI s_38.2.2),(vI x_5.f_to)]))]:Hp)) p.1 p.2) (λ(k_33:Nat)=>(λp=>(λ(s_38:(List Run)×Int×Int) (n_40:Nm)=>([(1,(vL Run.enc m_2)),(5,(gV n_40 2 s_38.1)),(6,(vI s_22)),(8,(.ref n_16 0 0)),(9,(vI s_38.2.1)),(10,(vL Run.enc l_1)),(11,(vI (l_1.length:Int))),(12,(vI (k_3:Int)))]:SL_)) p.1 p.2)) (λs=>kN m_2 x_5 s) o_43 nq_71 ((s_8.1,s_22,x_5.f_from),n_11) hj_44 rfl (aK rfl) ?_ ?_
    ·rintro ⟨k_33,s_38,n_40⟩ hL_42
     dsimp only at hL_42
     cases k_33 with
     | zero=>cases hL_42
     | succ k_33 =>
      obtain ⟨c_,hc_41,hL_42⟩:=bind_some hL_42
      unfold kN at hc_41
      refine ak (ak ?_)
      obtain ⟨v_45,h_46,hc_41⟩:=bind_some hc_41
      refine aU [(1,(vL Run.enc m_2)),(5,(gV n_40 2 s_38.1)),(6,(vI s_22)),(8,(.ref n_16 0 0)),(9,(vI s_38.2.1)),(10,(vL Run.enc l_1)),(11,(vI (l_1.length:Int))),(12,(vI (k_3:Int))),(46,(vB v_45))] [(n_40,gB 2 Run.enc s_38.1),(n_16,some (.cells 2 [(vI s_38.2.2),(vI x_5.f_to)]))] ?_ ?_
      ·refine bJ (aa (vI s_38.2.1) (aa (vL Run.enc m_2) (dH sN rfl wz (aa (vB (decide (s_38.2.1<(m_2.length:Int)))) ?_))))
       rcases aj h_46 with⟨hc_47,h_46⟩|⟨hc_47,h_46⟩
       ·refine aD rfl hc_47 wz (aH (vL Run.enc m_2) wa rfl (aH (vI s_38.2.1) wa rfl ?_))
        obtain ⟨y_48,hy_49,h_46⟩:=bind_some h_46
        refine eH jo rfl rfl hy_49 rfl wa (AJ iY rfl [.int .i64 y_48.f_from,.int .i64 y_48.f_to] rfl rfl wa (bT sz3 ag3 rfl (vI y_48.f_from) rfl wa (aF mY rfl 1 rfl wa (aJ 11 1 (.inr (by kernel_rfl)) (λ_ _ ag=>trivial) sz3 ag3 rfl rfl (vI x_5.f_to) rfl wa (aH (vB (decide (y_48.f_from<x_5.f_to))) wa rfl (aa (vB (decide (y_48.f_from<x_5.f_to))) (af ?_)))))))
        obtain rfl:=ae h_46
        exact cu
       ·refine aD rfl hc_47 wz (ah (ah (ah (ah (ah (ah (ah (ah (aa (vB false) (af ?_))))))))))
        obtain rfl:=ae h_46
        exact cu
      ·rintro ⟨⟩ _ sl_ H_ hp_ hq_
       refine aS _ hp_ hq_ ?_
       rcases aj hc_41 with⟨hc_50,hc_41⟩|⟨hc_50,hc_41⟩
       ·refine aC rfl hc_50 (ax (ak (aR (ak (ak (bJ (aa (vL Run.enc m_2) (aa (vI s_38.2.1) ?_))))))))
        obtain ⟨y_51,hy_52,hc_41⟩:=bind_some hc_41
        refine eH jo rfl rfl hy_52 rfl wz (AJ iY rfl [.int .i64 y_51.f_from,.int .i64 y_51.f_to] rfl rfl wz (bT sz3 ag3 rfl (vI y_51.f_from) rfl wz (aF iY rfl 0 rfl wz (aJ 6 1 (.inr (by kernel_rfl)) (λ_ _ ag=>trivial) sz3 ag3 rfl rfl (vI s_38.2.2) rfl wz (aa (vB (decide (y_51.f_from>s_38.2.2))) (af ?_))))))
        obtain ⟨v_53,h_54,hc_41⟩:=bind_some hc_41
        refine jG (β:=Nm) (λ(n_55:Nm)=>([(1,(vL Run.enc m_2)),(5,(gV n_55 2 v_53)),(6,(vI s_22)),(8,(.ref n_16 0 0)),(9,(vI s_38.2.1)),(10,(vL Run.enc l_1)),(11,(vI (l_1.length:Int))),(12,(vI (k_3:Int)))]:SL_)) (λ(n_55:Nm)=>([(n_55,gB 2 Run.enc v_53),(n_16,some (.cells 2 [(vI s_38.2.2),(vI x_5.f_to)]))]:Hp)) (λ_=>True) ?_ ?_
        ·rcases aj h_54 with⟨hc_56,h_54⟩|⟨hc_56,h_54⟩
         ·refine aC rfl hc_56 (bJ (aa (gV n_40 2 s_38.1) (aF iY rfl 0 rfl wz (aJ 2 1 (.inr (by kernel_rfl)) (λ_ _ ag=>trivial) sz3 ag3 rfl rfl (vI s_38.2.2) rfl wz (aa (vL Run.enc m_2) (aa (vI s_38.2.1) ?_))))))
          obtain ⟨y_57,hy_58,h_54⟩:=bind_some h_54
          refine eH jo rfl rfl hy_58 rfl wz (AJ iY rfl [.int .i64 y_57.f_from,.int .i64 y_57.f_to] rfl rfl wz (bT sz3 ag3 rfl (vI y_57.f_from) rfl wz (aH (.d (.agg (Run.enc (⟨s_38.2.2,y_57.f_from⟩:Run)))) wz (by kernel_rfl) (gu (([(⟨s_38.2.2,y_57.f_from⟩:Run)]:List Run).map Run.enc) jo F8 rfl rfl rfl rfl rfl wz ?_))))
          obtain ⟨a_59,hz_60,h_54⟩:=bind_some h_54
          refine kI 10 (.inr (by kernel_rfl)) (λ_ _ ag=>⟨.inr (.inr (by kernel_rfl)),trivial⟩) (i:=0) wI wI kz z109 rfl (by decide) FV (by decide) (λ_=>rfl) rfl rfl rfl hz_60 wz (λn_61=>aa (gV n_61 2 a_59) (af ?_))
          obtain rfl:=ae h_54
          exact bn n_61 trivial rfl (aK rfl)
         ·refine aA rfl hc_56 (ax ?_)
          obtain rfl:=ae h_54
          exact bn n_40 trivial rfl (aK rfl)
        ·rintro n_55 _ sl_ H_ hp_ hq_
         refine aS _ hp_ hq_ (bJ (aF iY rfl 0 rfl wz (aJ 1 1 (.inr (by kernel_rfl)) (λ_ _ ag=>trivial) sz3 ag3 rfl rfl (vI s_38.2.2) rfl wz (aa (vL Run.enc m_2) (aa (vI s_38.2.1) ?_)))))
         obtain ⟨y_62,hy_63,hc_41⟩:=bind_some hc_41
         refine eH jo rfl rfl hy_63 rfl wz (AJ mY rfl [.int .i64 y_62.f_to] rfl rfl wz (bT sz3 ag3 rfl (vI y_62.f_to) rfl wz (DT (vI (zM s_38.2.2 y_62.f_to)) rfl (.inr rfl) wz (aF iY rfl 0 rfl wz (bR 9 (.inr (by kernel_rfl)) (λ_ _ ag=>⟨.inr (.inr (by kernel_rfl)),trivial⟩) 1 sz3 rfl rfl [(vI (zM s_38.2.2 y_62.f_to)),(vI x_5.f_to)] rfl wz (af (av (aa (vI s_38.2.1) (aa (vI (w64 (s_38.2.1+1))) (aa (vI (w64 (s_38.2.1+1))) (af ?_)))))))))))
         obtain rfl:=ae hc_41
         exact bD (k_33,(v_53,(w64 (s_38.2.1+1)),(zM s_38.2.2 y_62.f_to)),n_55) hL_42 (ls_ _) rfl (aK rfl)
       ·refine aA rfl hc_50 (bE ?_)
        obtain rfl:=ae hc_41
        obtain rfl:=ae hL_42
        exact bn ((s_38.1,s_38.2.1,s_38.2.2),n_40) rfl rfl (aK rfl)
    ·rintro ⟨s_38,n_40⟩ ho_ sl_ H_ hp_ hq_
     subst ho_
     refine aS _ hp_ hq_ (ai (aF iY rfl 0 rfl wz (aJ 0 1 il ft sz3 ag3 rfl rfl (vI s_38.2.2) rfl wz (aF mY rfl 1 rfl wz (aJ 0 1 il ft sz3 ag3 rfl rfl (vI x_5.f_to) rfl wz (aa (vB (decide (s_38.2.2<x_5.f_to))) (af ?_)))))))
     obtain ⟨v_64,h_65,hc_12⟩:=bind_some hc_12
     refine jG (β:=Nm) (λ(n_66:Nm)=>([(1,(vL Run.enc m_2)),(5,(gV n_66 2 v_64)),(6,(vI s_22)),(10,(vL Run.enc l_1)),(11,(vI (l_1.length:Int))),(12,(vI (k_3:Int)))]:SL_)) (λ(n_66:Nm)=>([(n_66,gB 2 Run.enc v_64),(n_16,some (.cells 2 [(vI s_38.2.2),(vI x_5.f_to)]))]:Hp)) (λ_=>True) ?_ ?_
     ·rcases aj h_65 with⟨hc_67,h_65⟩|⟨hc_67,h_65⟩
      ·refine aC rfl hc_67 (av (aa (gV n_40 2 s_38.1) (aJ 0 1 il ft kz ru rfl rfl (.d (.agg (Run.enc (⟨s_38.2.2,x_5.f_to⟩:Run)))) rfl wz (gu (([(⟨s_38.2.2,x_5.f_to⟩:Run)]:List Run).map Run.enc) jo F8 rfl rfl rfl rfl rfl wz ?_))))
       obtain ⟨a_68,hz_69,h_65⟩:=bind_some h_65
       refine kI 0 il ft (i:=0) wI wI kz z109 rfl (by decide) FV (by decide) (λ_=>rfl) rfl rfl rfl hz_69 wz (λn_70=>aa (gV n_70 2 a_68) (af ?_))
       obtain rfl:=ae h_65
       exact bn n_70 trivial rfl (aK rfl)
      ·refine aA rfl hc_67 (ax ?_)
       obtain rfl:=ae h_65
       exact bn n_40 trivial rfl (aK rfl)
     ·rintro n_66 _ sl_ H_ hp_ hq_
      refine aS _ hp_ hq_ (av (gW (bX hD_6 hn_7) wz rfl (aa (vI ((k_3+1:Nat):Int)) (af ?_))))
      obtain rfl:=ae hc_12
      exact bD (k_3+1,l_4,(v_64,s_22),n_66) ⟨hL_13,bv hD_6⟩ (ls_ _) rfl (aK rfl)
 ·rintro ⟨s_8,n_11⟩ ho_ sl_ H_ hp_ hq_
  subst ho_
  refine aS _ hp_ hq_ (ai (aa (gV n_11 2 s_8.1) (aa (gV n_11 2 s_8.1) (af (gN 0 rfl (gQ 4 0 rfl rfl (gQ 5 0 rfl rfl (gQ 87 0 rfl rfl ?_))))))))
  obtain rfl:=ae hF
  exact ay (aN [(vL Run.enc s_8.1)] ⟨rfl,trivial⟩)
theorem jB {s1_1:(List Run)} {s2_2:(List Run)} {r:Bool} (hF:dh s1_1 s2_2=some r) :
  FnM Tryz.prog 78 [(vL Run.enc s1_1),(vL Run.enc s2_2)] [] (vB r) []:=by
 refine FnM.of_wH ⟨Tryz.prog,26,[],[]⟩ rfl Tryz.func78 rfl rfl (lb_ rfl) (by kernel_rfl) ?_
 unfold dh at hF
 refine ai (aa (vB false) (af (ak (ai (aa (vL Run.enc s1_1) (dH sN rfl wz (aa (vL Run.enc s2_2) (dH sN rfl wz (aa (vB ((s1_1.length:Int) != (s2_2.length:Int))) (af ?_))))))))))
 rcases aj hF with⟨hc_3,hF⟩|⟨hc_3,hF⟩
 ·refine aC rfl hc_3 (ai (aa (vB false) (af ?_)))
  obtain rfl:=ae hF
  exact ay (aN [(vB false)] ⟨rfl,trivial⟩)
 ·refine aA rfl hc_3 (ax (ak (ai (aa (vL Run.enc s1_1) (dH sN rfl wz (aa (vI 0) (af ?_)))))))
  obtain ⟨o_12,hj_13,hF⟩:=bind_some hF
  obtain ⟨hn_8,hj_13⟩:=bH hj_13
  refine fO (λ(s_9:Unit)=>[]) (λ(s_9:Unit)=>[]) (λ(k_4:Nat)=>(λ(s_9:Unit)=>[(0,(vL Run.enc s1_1)),(1,(vL Run.enc s2_2)),(12,(vI (s1_1.length:Int))),(13,(vI (k_4:Int)))])) (λk x s=>dK s2_2 k x s) o_12 s1_1 () hj_13 rfl (aK rfl) ?_ ?_
  ·rintro ⟨k_4,l_5,s_9⟩ ⟨hL_11,hD_7⟩
   dsimp only at hL_11 hD_7
   cases l_5 with
   | nil =>
    obtain rfl:=ae hL_11
    refine ai (aa (vB (decide ((k_4:Int)<(s1_1.length:Int)))) (af ?_))
    refine ak (aA rfl (drop_nil hD_7) (bE ?_))
    exact bn (s_9) rfl rfl (aK rfl)
   | cons x_6 l_5 =>
    obtain ⟨c_,hc_10,hL_11⟩:=bind_some hL_11
    refine ai (aa (vB (decide ((k_4:Int)<(s1_1.length:Int)))) (af ?_))
    refine ak (aC rfl (bN hD_7) (ax ?_))
    unfold dK at hc_10
    refine ak (aR (ai (aa (vI (k_4:Int)) (aa (vI (k_4:Int)) (af (ak (bJ (aa (vL Run.enc s1_1) (aa (vI (k_4:Int)) (eH jo rfl rfl (dz hD_7) rfl wz (bT kz ru rfl (.d (.agg (Run.enc x_6))) rfl wz (aa (vL Run.enc s2_2) (aa (vI (k_4:Int)) ?_)))))))))))))
    obtain ⟨y_14,hy_15,hc_10⟩:=bind_some hc_10
    refine eH jo rfl rfl hy_15 rfl wz (bT kz ru rfl (.d (.agg (Run.enc y_14))) rfl wz (aH (vB (!((x_6.f_from==y_14.f_from)&&((x_6.f_to==y_14.f_to)&&true)))) wz (by kernel_rfl) (af ?_)))
    rcases aj hc_10 with⟨hc_16,hc_10⟩|⟨hc_16,hc_10⟩
    ·refine aC rfl hc_16 (ai (aa (vB false) (af ?_)))
     obtain rfl:=ae hc_10
     obtain rfl:=ae hL_11
     obtain rfl:=ae hF
     exact ay (aN [(vB false)] ⟨rfl,trivial⟩)
    ·refine aA rfl hc_16 (ax (av (gW (bX hD_7 hn_8) wz rfl (aa (vI ((k_4+1:Nat):Int)) (af ?_)))))
     obtain rfl:=ae hc_10
     exact bD (k_4+1,l_5,()) ⟨hL_11,bv hD_7⟩ (ls_ _) rfl (aK rfl)
  ·rintro s_9 ho_ sl_ H_ hp_ hq_
   subst ho_
   refine aS _ hp_ hq_ (ai (aa (vB true) (af ?_)))
   obtain rfl:=ae hF
   exact ay (aN [(vB true)] ⟨rfl,trivial⟩)
end Go.Proofs.YtacmlgpnplklaaaGreatDoor.Law

