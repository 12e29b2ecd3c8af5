/-
 The machine computes these plain functions (written by a program of ours).
-/
import Derived.Test.YtnkgapmhkhcanabGreatDoorFacts
import Derived.Test.YtnkgapmhkhcanabGreatDoorDefs
import Derived.Test.YtnkgapmhkhcanabGreatDoorPf1
import Derived.Test.YtnkgapmhkhcanabGreatDoorShelf
open Go Go.Eng Go.Proofs
namespace Go.Proofs.YtnkgapmhkhcanabGreatDoor.Law
set_option maxRecDepth 100000
set_option linter.unusedVariables false
set_option maxHeartbeats 1000000
theorem Ai {l_1:(List Log_)} {r:(List Log_)×Int} (hF:ma l_1=some r) :
  FnM Tryz.prog 8 [(vL Log_.enc l_1)] [] (.tup [(vL Log_.enc r.1),(vI r.2)]) []:=by
 refine FnM.of_wH ⟨Tryz.prog,58,[],[]⟩ rfl Tryz.func8 rfl rfl (lb_ rfl) (by kernel_rfl) ?_
 unfold ma at hF
 refine ai (aa .nil (aa (vI 0) (ah (ak (ai (aa (vL Log_.enc l_1) ?_))))))
 obtain ⟨r_2,hr_3,hF⟩:=bind_some hF
 refine aB (fZ hr_3) rfl Lv rfl rfl rfl rfl wz (aa (vI r_2) (ah (ai (aa (vI r_2) (aa (vB (r_2 != 0)) (ah ?_))))))
 rcases aj hF with⟨hc_4,hF⟩|⟨hc_4,hF⟩
 ·refine aA rfl hc_4 (ai (aa (vI r_2) (aa .nil (aa (vI r_2) (ah ?_)))))
  obtain rfl:=ae hF
  exact ay (aK [.nil,(vI r_2)] ⟨rfl,⟨rfl,trivial⟩⟩)
 ·refine ax rfl hc_4 (av (ai (aa .nil (ah (ak (ai (aa (vL Log_.enc l_1) (bG lX rfl wz (aa (vI 0) (ah (oJ (λn_11 => ?_))))))))))))
  obtain ⟨o_16,hj_17,hF⟩:=bind_some hF
  obtain ⟨hn_9,hj_17⟩:=bg hj_17
  refine jc (σ:=(List Log_)) (N:=Nm) (λp=>(λ(s_10:List Log_) (n_13:Nm)=>([(5,(gV n_13 6 s_10))]:SL_)) p.1 p.2) (λp=>(λ(s_10:List Log_) (n_13:Nm)=>([(n_13,gB 6 Log_.enc s_10)]:Hp)) p.1 p.2) (λ(k_5:Nat)=>(λp=>(λ(s_10:List Log_) (n_13:Nm)=>([(0,(vL Log_.enc l_1)),(5,(gV n_13 6 s_10)),(14,(vL Log_.enc l_1)),(15,(vI (l_1.length:Int))),(16,(vI (k_5:Int)))]:SL_)) p.1 p.2)) (λk x s=>ik l_1 k x s) o_16 l_1 (([]:List Log_),n_11) hj_17 rfl (aI rfl) ?_ ?_
  ·rintro ⟨k_5,l_6,s_10,n_13⟩ ⟨hL_15,hD_8⟩
   dsimp only at hL_15 hD_8
   cases l_6 with
   | nil =>
    obtain rfl:=ae hL_15
    refine ai (aa (vB (decide ((k_5:Int)<(l_1.length:Int)))) (ah ?_))
    refine ak (ax rfl (drop_nil hD_8) (aV ?_))
    exact aU (s_10,n_13) rfl rfl (aI rfl)
   | cons x_7 l_6 =>
    obtain ⟨c_,hc_14,hL_15⟩:=bind_some hL_15
    refine ai (aa (vB (decide ((k_5:Int)<(l_1.length:Int)))) (ah ?_))
    refine ak (aA rfl (bz hD_8) (av ?_))
    unfold ik at hc_14
    refine ak (aN (ai (aa (vI (k_5:Int)) (dB kG rfl rfl (bK hD_8) rfl wz (bA fT ni rfl (.d (.agg (Log_.enc x_7))) rfl wz (dK 0 (.inl rfl) z30 rfl wz (λn_18=>aa (vI (k_5:Int)) (gP 0 il ft 1 fT rfl rfl (Log_.v x_7) rfl wz (ah (ai (aa (vI 1) (ah (ak (ak ?_))))))))))))))
    obtain ⟨v_19,h_20,hc_14⟩:=bind_some hc_14
    refine aM [(0,(vL Log_.enc l_1)),(5,(gV n_13 6 s_10)),(6,(vI (k_5:Int))),(7,(.ref n_18 0 0)),(8,(vI 1)),(14,(vL Log_.enc l_1)),(15,(vI (l_1.length:Int))),(16,(vI (k_5:Int))),(33,(vB v_19))] [(n_13,gB 6 Log_.enc s_10),(n_18,some (.cells 6 (Log_.v x_7)))] ?_ ?_
    ·refine aZ (aa (vI (k_5:Int)) (aa (vB (decide ((k_5:Int)>0))) ?_))
     rcases aj h_20 with⟨hc_21,h_20⟩|⟨hc_21,h_20⟩
     ·refine aC rfl hc_21 wz (aG (vL Log_.enc l_1) wa rfl (aG (vI (k_5:Int)) wa rfl (aG (vI (w64 ((k_5:Int)-1))) wa rfl ?_)))
      obtain ⟨y_22,hy_23,h_20⟩:=bind_some h_20
      refine dB kG rfl rfl hy_23 rfl wa (lK rD rfl [.str y_22.Player,.str y_22.Item,.int .i64 y_22.No,.int .i64 y_22.Clock,.int .i64 y_22.Long,.str y_22.Sum] rfl rfl wa (bA sz9 ag9 rfl (vS y_22.Player) rfl wa (aJ rD rfl 0 rfl wa (aH 10 1 (.inr (by kernel_rfl)) (λ_ _ ag=>trivial) sz9 ag9 rfl rfl (vS x_7.Player) rfl wa (aG (vB (sEq y_22.Player x_7.Player)) wa rfl (aa (vB (sEq y_22.Player x_7.Player)) (ah ?_)))))))
      obtain rfl:=ae h_20
      exact cu
     ·refine aC rfl hc_21 wz (af (af (af (af (af (af (af (af (af (aa (vB false) (ah ?_)))))))))))
      obtain rfl:=ae h_20
      exact cu
    ·rintro ⟨⟩ _ sl_ H_ hp_ hq_
     refine aO _ hp_ hq_ ?_
     obtain ⟨v_24,h_25,hc_14⟩:=bind_some hc_14
     refine aM [(0,(vL Log_.enc l_1)),(5,(gV n_13 6 s_10)),(7,(.ref n_18 0 0)),(8,(vI v_24)),(14,(vL Log_.enc l_1)),(15,(vI (l_1.length:Int))),(16,(vI (k_5:Int)))] [(n_13,gB 6 Log_.enc s_10),(n_18,some (.cells 6 (Log_.v x_7)))] ?_ ?_
     ·rcases aj h_25 with⟨hc_26,h_25⟩|⟨hc_26,h_25⟩
      ·refine aA rfl hc_26 (au (aa (vL Log_.enc l_1) (aa (vI (k_5:Int)) (aa (vI (w64 ((k_5:Int)-1))) ?_))))
       obtain ⟨y_27,hy_28,h_25⟩:=bind_some h_25
       refine dB kG rfl rfl hy_28 rfl wz (lK qy rfl [.int .i64 y_27.No,.int .i64 y_27.Clock,.int .i64 y_27.Long,.str y_27.Sum] rfl rfl wz (bA sz3 ag3 rfl (vI y_27.No) rfl wz (aa (vI (w64 (y_27.No+1))) (aa (vI (w64 (y_27.No+1))) (ah ?_)))))
       obtain rfl:=ae h_25
       exact cu
      ·refine ax rfl hc_26 (av ?_)
       obtain rfl:=ae h_25
       exact cu
     ·rintro ⟨⟩ _ sl_ H_ hp_ hq_
      refine aO _ hp_ hq_ (ai (aJ qy rfl 2 rfl wz (aH 0 1 il ft sz3 ag3 rfl rfl (vI x_7.No) rfl wz (aa (vI v_24) (aa (vB (decide (x_7.No>v_24))) (ah ?_))))))
      obtain ⟨v_29,h_30,hc_14⟩:=bind_some hc_14
      refine kv (β:=Nm) (λ(n_31:Nm)=>([(0,(vL Log_.enc l_1)),(5,(gV n_31 6 v_29)),(14,(vL Log_.enc l_1)),(15,(vI (l_1.length:Int))),(16,(vI (k_5:Int)))]:SL_)) (λ(n_31:Nm)=>([(n_31,gB 6 Log_.enc v_29),(n_18,some (.cells 6 (Log_.v x_7)))]:Hp)) (λ_=>True) ?_ ?_
      ·rcases aj h_30 with⟨hc_32,h_30⟩|⟨hc_32,h_30⟩
       ·refine aA rfl hc_32 (au (aa (gV n_13 6 s_10) (aJ rD rfl 0 rfl wz (aH 0 1 il ft sz9 ag9 rfl rfl (vS x_7.Player) rfl wz (aa (vI v_24) (aJ qy rfl 2 rfl wz (aH 0 1 il ft sz3 ag3 rfl rfl (vI x_7.No) rfl wz (aa (vI v_24) (aa (vI (w64 (x_7.No-v_24))) (aG (.d (.agg (Log_.enc (⟨x_7.Player,(⟨#[]⟩:ByteArray),v_24,0,(w64 (x_7.No-v_24)),(⟨#[]⟩:ByteArray)⟩:Log_)))) wz (by kernel_rfl) (iK (([(⟨x_7.Player,(⟨#[]⟩:ByteArray),v_24,0,(w64 (x_7.No-v_24)),(⟨#[]⟩:ByteArray)⟩:Log_)]:List Log_).map Log_.enc) kG ez26 rfl rfl rfl rfl rfl wz ?_)))))))))))
        obtain ⟨a_33,hz_34,h_30⟩:=bind_some h_30
        refine mQ 0 il ft (i:=0) zw zw fT z30 rfl (by decide) Lm (by decide) (λ_=>rfl) rfl rfl rfl hz_34 wz (λn_35=>aa (gV n_35 6 a_33) (ah ?_))
        obtain rfl:=ae h_30
        exact aU n_35 trivial rfl (aI rfl)
       ·refine ax rfl hc_32 (av ?_)
        obtain rfl:=ae h_30
        exact aU n_13 trivial rfl (aI rfl)
      ·rintro n_31 _ sl_ H_ hp_ hq_
       refine aO _ hp_ hq_ (au (fq (bH hD_8 hn_9) wz rfl (aa (vI ((k_5+1:Nat):Int)) (ah ?_))))
       obtain rfl:=ae hc_14
       exact aS (k_5+1,l_6,v_29,n_31) ⟨hL_15,aR hD_8⟩ (ls_ _) rfl (aI rfl)
  ·rintro ⟨s_10,n_13⟩ ho_ sl_ H_ hp_ hq_
   subst ho_
   refine aO _ hp_ hq_ (ai (aa (gV n_13 6 s_10) (aa (gV n_13 6 s_10) (aa (vI 0) (ah (gG 0 rfl (eT 2 0 rfl rfl (eT 5 0 rfl rfl (eT 57 0 rfl rfl ?_)))))))))
   obtain rfl:=ae hF
   exact ay (aK [(vL Log_.enc s_10),(vI 0)] ⟨rfl,⟨rfl,trivial⟩⟩)
theorem vC {l_1:(List Int)} {r:Int} (hF:mY l_1=some r) :
  FnM Tryz.prog 9 [(vL eI l_1)] [] (vI r) []:=by
 refine FnM.of_wH ⟨Tryz.prog,15,[],[]⟩ rfl Tryz.func9 rfl rfl (lb_ rfl) (by kernel_rfl) ?_
 unfold mY at hF
 refine ai (aa (vI 0) (ah (ak (ai (aa (vL eI l_1) (bG un54 rfl wz (aa (vI 0) (ah ?_))))))))
 obtain ⟨o_10,hj_11,hF⟩:=bind_some hF
 obtain ⟨hn_6,hj_11⟩:=bg hj_11
 refine cK (λ(s_7:Unit)=>[]) (λ(s_7:Unit)=>[]) (λ(k_2:Nat)=>(λ(s_7:Unit)=>[(5,(vL eI l_1)),(6,(vI (l_1.length:Int))),(7,(vI (k_2:Int)))])) (λk x s=>qG k x s) o_10 l_1 () hj_11 rfl (aI rfl) ?_ ?_
 ·rintro ⟨k_2,l_3,s_7⟩ ⟨hL_9,hD_5⟩
  dsimp only at hL_9 hD_5
  cases l_3 with
  | nil =>
   obtain rfl:=ae hL_9
   refine ai (aa (vB (decide ((k_2:Int)<(l_1.length:Int)))) (ah ?_))
   refine ak (ax rfl (drop_nil hD_5) (aV ?_))
   exact aU (s_7) rfl rfl (aI rfl)
  | cons x_4 l_3 =>
   obtain ⟨c_,hc_8,hL_9⟩:=bind_some hL_9
   refine ai (aa (vB (decide ((k_2:Int)<(l_1.length:Int)))) (ah ?_))
   refine ak (aA rfl (bz hD_5) (av ?_))
   unfold qG at hc_8
   refine ak (aN (ai (dB es54 rfl rfl (bK hD_5) rfl wz (bA sz31 ag31 rfl (vI x_4) rfl wz (aa (vI x_4) (ah (ai (aa (vI x_4) (aa (vB (x_4 != 0)) (ah ?_))))))))))
   rcases aj hc_8 with⟨hc_12,hc_8⟩|⟨hc_12,hc_8⟩
   ·refine aA rfl hc_12 (ai (aa (vI x_4) (aa (vI x_4) (ah ?_))))
    obtain rfl:=ae hc_8
    obtain rfl:=ae hL_9
    obtain rfl:=ae hF
    exact ay (aK [(vI x_4)] ⟨rfl,trivial⟩)
   ·refine ax rfl hc_12 (av (au (fq (bH hD_5 hn_6) wz rfl (aa (vI ((k_2+1:Nat):Int)) (ah ?_)))))
    obtain rfl:=ae hc_8
    exact aS (k_2+1,l_3,()) ⟨hL_9,aR hD_5⟩ (ls_ _) rfl (aI rfl)
 ·rintro s_7 ho_ sl_ H_ hp_ hq_
  subst ho_
  refine aO _ hp_ hq_ (ai (aa (vI 0) (ah ?_)))
  obtain rfl:=ae hF
  exact ay (aK [(vI 0)] ⟨rfl,trivial⟩)
theorem nL {n_1:Int} {r:Bool} (hF:dC n_1=some r) :
  FnM Tryz.prog 46 [.nil,(vI n_1)] [] (kV r (aD 0) 6 ([]:List Log_)) (kO r 6):=by
 refine FnM.of_wH ⟨Tryz.prog,27,[],[]⟩ rfl Tryz.func46 rfl rfl (lb_ rfl) (by kernel_rfl) ?_
 unfold dC at hF
 refine ai (aa .nil (ah (ak (ai (aa (vI n_1) (aa (vB (decide (n_1<0))) (ah ?_)))))))
 rcases aj hF with⟨hc_2,hF⟩|⟨hc_2,hF⟩
 ·refine aA rfl hc_2 (au ?_)
  cases hF
 ·refine ax rfl hc_2 (av (ak (ai (aa (vI n_1) (aa .nil (F6 zw rfl wz (aa .nil (Fu lX rfl wz (aa (vI (w64 (0-0))) (aa (vI (w64 (n_1-(w64 (0-0))))) (aa (vI (w64 (n_1-(w64 (0-0))))) (ah (ai (aa (vI (w64 (n_1-(w64 (0-0))))) (aa (vB (decide ((w64 (n_1-(w64 (0-0))))>0))) (ah ?_))))))))))))))))
  rcases aj hF with⟨hc_3,hF⟩|⟨hc_3,hF⟩
  ·refine aA rfl hc_3 (au (aa .nil (aa .nil (F6 zw rfl wz (aG .nil wz (by kernel_rfl) (aa (vI (w64 (n_1-(w64 (0-0))))) ?_))))))
   obtain ⟨_,hz_5,hF⟩:=bind_some hF
   refine Oc (enc:=Log_.enc) 0 (.inl rfl) zw (by kernel_rfl) fT z30 rfl (by decide) Lm rfl rfl hz_5 wz (λn_4=>aa .nil (Fu lX rfl wz (Na (m:=0) lX fT rfl rfl rfl (Nat.zero_le _) wz (aa (.vs n_4 6 0 0) (ah (ai (aa (.vs n_4 6 0 0) (aa (.vs n_4 6 0 0) (ah ?_)))))))))
   obtain rfl:=ae hF
   exact ay (finK (.inr rfl) 0 rfl rfl)
  ·refine ax rfl hc_3 (av (ai (aa .nil (aa .nil (ah ?_)))))
   obtain rfl:=ae hF
   exact ay (finK0 (.inr rfl) rfl)
theorem fM {data_1:(List Log_)} {a_2:Int} {b_3:Int} {r:(List Log_)} (hF:di data_1 a_2 b_3=some r) :
  FnM Tryz.prog 77 [(dV (aD 0) 6 data_1),(vI a_2),(vI b_3),(.fn 23 [])] (([]:List Box)++gI 6 Log_.enc data_1) (.tup []) (([]:List Box).map some++gT data_1 (gB 6 Log_.enc r)):=by
 refine FnM.of_wHv ⟨Tryz.prog,53,[],[]⟩ rfl Tryz.func77 rfl rfl (lb_ rfl) (by kernel_rfl) ?_
 unfold di at hF
 refine ai (aa (vI a_2) (aa (vI (w64 (a_2+1))) (aa (vI (w64 (a_2+1))) (ah ?_))))
 obtain ⟨o_13,hj_14,hF⟩:=bind_some hF
 obtain ⟨nq_51,hj_14⟩:=cB hj_14
 refine dJ (λ(s_10:(List Log_)×Int)=>[]) (λ(s_10:(List Log_)×Int)=>[((aD 0),gB 6 Log_.enc s_10.1)]) (λ(k_5:Nat)=>(λ(s_10:(List Log_)×Int)=>[(0,(dV (aD 0) 6 s_10.1)),(1,(vI a_2)),(2,(vI b_3)),(3,(.fn 23 [])),(8,(vI s_10.2))])) (λs=>dF b_3 a_2 s) o_13 nq_51 (data_1,(w64 (a_2+1))) hj_14 rfl (aI rfl) ?_ ?_
 ·rintro ⟨k_5,s_10⟩ hL_12
  dsimp only at hL_12
  cases k_5 with
  | zero=>cases hL_12
  | succ k_5 =>
   obtain ⟨c_,hc_11,hL_12⟩:=bind_some hL_12
   unfold dF at hc_11
   refine ak (ai (aa (vI s_10.2) (aa (vI b_3) (aa (vB (decide (s_10.2<b_3))) (ah ?_)))))
   rcases aj hc_11 with⟨hc_15,hc_11⟩|⟨hc_15,hc_11⟩
   ·refine aA rfl hc_15 (av (ak (aN (ai (aa (vI s_10.2) (aa (vI s_10.2) (ah ?_)))))))
    obtain ⟨o_24,hj_25,hc_11⟩:=bind_some hc_11
    obtain ⟨nq_50,hj_25⟩:=cB hj_25
    refine dJ (λ(s_21:(List Log_)×Int)=>[(0,(dV (aD 0) 6 s_21.1)),(1,(vI a_2)),(2,(vI b_3)),(3,(.fn 23 [])),(8,(vI s_10.2))]) (λ(s_21:(List Log_)×Int)=>[((aD 0),gB 6 Log_.enc s_21.1)]) (λ(k_16:Nat)=>(λ(s_21:(List Log_)×Int)=>[(0,(dV (aD 0) 6 s_21.1)),(1,(vI a_2)),(2,(vI b_3)),(3,(.fn 23 [])),(8,(vI s_10.2)),(9,(vI s_21.2))])) (λs=>dG a_2 s) o_24 nq_50 (s_10.1,s_10.2) hj_25 rfl (aI rfl) ?_ ?_
    ·rintro ⟨k_16,s_21⟩ hL_23
     dsimp only at hL_23
     cases k_16 with
     | zero=>cases hL_23
     | succ k_16 =>
      obtain ⟨c_,hc_22,hL_23⟩:=bind_some hL_23
      unfold dG at hc_22
      refine ak (ak ?_)
      obtain ⟨v_26,h_27,hc_22⟩:=bind_some hc_22
      refine aM [(0,(dV (aD 0) 6 s_21.1)),(1,(vI a_2)),(2,(vI b_3)),(3,(.fn 23 [])),(8,(vI s_10.2)),(9,(vI s_21.2)),(34,(vB v_26))] [((aD 0),gB 6 Log_.enc s_21.1)] ?_ ?_
      ·refine aZ (aa (vI s_21.2) (aa (vI a_2) (aa (vB (decide (s_21.2>a_2))) ?_)))
       rcases aj h_27 with⟨hc_28,h_27⟩|⟨hc_28,h_27⟩
       ·refine aC rfl hc_28 wz (aG (.fn 23 []) wa rfl (aG (dV (aD 0) 6 s_21.1) wa rfl (aG (vI s_21.2) wa rfl ?_)))
        obtain ⟨_,hi_29,h_27⟩:=bind_some h_27
        refine lM kG rfl rfl (jO hi_29) (gL hi_29) wa ?_
        obtain ⟨e_30,hy_31,h_27⟩:=bind_some h_27
        refine lN 8 0 (.inr (by kernel_rfl)) (λ_ _ ag=>trivial) fT ni rfl rfl hy_31 (.d (.agg (Log_.enc e_30))) rfl wa (aG (dV (aD 0) 6 s_21.1) wa rfl (aG (vI s_21.2) wa rfl (aG (vI (w64 (s_21.2-1))) wa rfl ?_)))
        obtain ⟨_,hi_32,h_27⟩:=bind_some h_27
        refine lM kG rfl rfl (jO hi_32) (gL hi_32) wa ?_
        obtain ⟨e_33,hy_34,h_27⟩:=bind_some h_27
        refine lN 13 0 (.inr (by kernel_rfl)) (λ_ _ ag=>⟨.inl ⟨rfl,rfl⟩,trivial⟩) fT ni rfl rfl hy_34 (.d (.agg (Log_.enc e_33))) rfl wa ?_
        obtain ⟨r_35,hr_36,h_27⟩:=bind_some h_27
        refine aB (kZ hr_36) rfl hb23 rfl rfl rfl rfl wa (aG (vB (decide (r_35<0))) wa rfl (aa (vB (decide (r_35<0))) (ah ?_)))
        obtain rfl:=ae h_27
        exact cu
       ·refine aC rfl hc_28 wz (af (af (af (af (af (af (af (af (af (af (af (af (aa (vB false) (ah ?_))))))))))))))
        obtain rfl:=ae h_27
        exact cu
      ·rintro ⟨⟩ _ sl_ H_ hp_ hq_
       refine aO _ hp_ hq_ ?_
       rcases aj hc_22 with⟨hc_37,hc_22⟩|⟨hc_37,hc_22⟩
       ·refine aA rfl hc_37 (av (ak (aN (aZ (aa (dV (aD 0) 6 s_21.1) (aa (vI s_21.2) (aa (dV (aD 0) 6 s_21.1) (aa (vI s_21.2) (aa (vI (w64 (s_21.2-1))) (aa (dV (aD 0) 6 s_21.1) (aa (vI s_21.2) (aa (vI (w64 (s_21.2-1))) ?_))))))))))))
        obtain ⟨_,hi_38,hc_22⟩:=bind_some hc_22
        refine lM kG rfl rfl (jO hi_38) (gL hi_38) wz ?_
        obtain ⟨e_39,hy_40,hc_22⟩:=bind_some hc_22
        refine lN 9 0 (.inr (by kernel_rfl)) (λ_ _ ag=>trivial) fT ni rfl rfl hy_40 (.d (.agg (Log_.enc e_39))) rfl wz (aa (dV (aD 0) 6 s_21.1) (aa (vI s_21.2) ?_))
        obtain ⟨_,hi_41,hc_22⟩:=bind_some hc_22
        refine lM kG rfl rfl (jO hi_41) (gL hi_41) wz ?_
        obtain ⟨e_42,hy_43,hc_22⟩:=bind_some hc_22
        refine lN 13 0 (.inr (by kernel_rfl)) (λ_ _ ag=>⟨.inl ⟨rfl,rfl⟩,trivial⟩) fT ni rfl rfl hy_43 (.d (.agg (Log_.enc e_42))) rfl wz ?_
        obtain ⟨_,hi_44,hc_22⟩:=bind_some hc_22
        refine lM kG rfl rfl (jO hi_44) (gL hi_44) wz ?_
        obtain ⟨e_45,hy_46,hc_22⟩:=bind_some hc_22
        refine wN 15 (.inr (by kernel_rfl)) (λ_ _ ag=>⟨.inr (.inr (by kernel_rfl)),⟨.inr (.inr (by kernel_rfl)),trivial⟩⟩) 0 fT rfl rfl hy_46 e_39 rfl wz (eO (v':=(dV (aD 0) 6 (s_21.1.set (0+(s_21.2).toNat) e_39))) 0 rfl (fu (by simp)) (eO (v':=(dV (aD 0) 6 (s_21.1.set (0+(s_21.2).toNat) e_39))) 37 rfl (fu (by simp)) (eO (v':=(dV (aD 0) 6 (s_21.1.set (0+(s_21.2).toNat) e_39))) 39 rfl (fu (by simp)) (eO (v':=(dV (aD 0) 6 (s_21.1.set (0+(s_21.2).toNat) e_39))) 42 rfl (fu (by simp)) (eO (v':=(dV (aD 0) 6 (s_21.1.set (0+(s_21.2).toNat) e_39))) 47 rfl (fu (by simp)) ?_)))))
        obtain ⟨_,hi_47,hc_22⟩:=bind_some hc_22
        refine lM kG rfl rfl (jO hi_47) (gL hi_47) wz ?_
        obtain ⟨e_48,hy_49,hc_22⟩:=bind_some hc_22
        refine wN 17 (.inr (by kernel_rfl)) (λ_ _ ag=>⟨.inr (.inr (by kernel_rfl)),⟨.inr (.inr (by kernel_rfl)),⟨.inr (.inr (by kernel_rfl)),trivial⟩⟩⟩) 0 fT rfl rfl hy_49 e_42 rfl wz (eO (v':=(dV (aD 0) 6 ((s_21.1.set (0+(s_21.2).toNat) e_39).set (0+((w64 (s_21.2-1))).toNat) e_42))) 0 rfl (fu (by simp)) (eO (v':=(dV (aD 0) 6 ((s_21.1.set (0+(s_21.2).toNat) e_39).set (0+((w64 (s_21.2-1))).toNat) e_42))) 37 rfl (fu (by simp)) (eO (v':=(dV (aD 0) 6 ((s_21.1.set (0+(s_21.2).toNat) e_39).set (0+((w64 (s_21.2-1))).toNat) e_42))) 39 rfl (fu (by simp)) (eO (v':=(dV (aD 0) 6 ((s_21.1.set (0+(s_21.2).toNat) e_39).set (0+((w64 (s_21.2-1))).toNat) e_42))) 42 rfl (fu (by simp)) (eO (v':=(dV (aD 0) 6 ((s_21.1.set (0+(s_21.2).toNat) e_39).set (0+((w64 (s_21.2-1))).toNat) e_42))) 47 rfl (fu (by simp)) (ah (au (aa (vI s_21.2) (aa (vI (w64 (s_21.2-1))) (aa (vI (w64 (s_21.2-1))) (ah ?_)))))))))))
        obtain rfl:=ae hc_22
        exact aS (k_16,(((s_21.1.set (0+(s_21.2).toNat) e_39).set (0+((w64 (s_21.2-1))).toNat) e_42),(w64 (s_21.2-1)))) hL_23 (ls_ _) rfl (aI rfl)
       ·refine ax rfl hc_37 (aV ?_)
        obtain rfl:=ae hc_22
        obtain rfl:=ae hL_23
        exact aU ((s_21.1,s_21.2)) rfl rfl (aI rfl)
    ·rintro s_21 ho_ sl_ H_ hp_ hq_
     subst ho_
     refine aO _ hp_ hq_ (au (aa (vI s_10.2) (aa (vI (w64 (s_10.2+1))) (aa (vI (w64 (s_10.2+1))) (ah ?_)))))
     obtain rfl:=ae hc_11
     exact aS (k_5,(s_21.1,(w64 (s_10.2+1)))) hL_12 (ls_ _) rfl (aI rfl)
   ·refine ax rfl hc_15 (aV ?_)
    obtain rfl:=ae hc_11
    obtain rfl:=ae hL_12
    exact aU ((s_10.1,s_10.2)) rfl rfl (aI rfl)
 ·rintro s_10 ho_ sl_ H_ hp_ hq_
  subst ho_
  show vv _ _ _ _ _ _ _ _
  obtain rfl:=ae hF
  exact Cb (H0:=([((aD 0),gB 6 Log_.enc s_10.1)]:Hp)) (sl':=envS []) hq_ (yZ (bs:=([]:List Box)) (os:=([]:List Box)) (xs:=data_1) (o:=gB 6 Log_.enc s_10.1) (.inl rfl) [] trivial rfl rfl rfl rfl rfl (by kernel_rfl) rH rfl)
theorem mK {data_1:(List Log_)} {n_2:Int} {r:(List Log_)} (hF:dP data_1 n_2=some r) :
  FnM Tryz.prog 47 [(dV (aD 0) 6 data_1),(vI n_2),(.fn 23 [])] (([]:List Box)++gI 6 Log_.enc data_1) (.tup []) (([]:List Box).map some++gT data_1 (gB 6 Log_.enc r)):=by
 refine FnM.of_wHv ⟨Tryz.prog,63,[],[]⟩ rfl Tryz.func47 rfl rfl (lb_ rfl) (by kernel_rfl) ?_
 unfold dP at hF
 refine ai (aa (vI 20) (ah (ai (aa (vI 20) (aa (vI 0) (aa (vI 20) (ah (ak ?_))))))))
 obtain ⟨o_12,hj_13,hF⟩:=bind_some hF
 obtain ⟨nq_48,hj_13⟩:=cB hj_13
 refine dJ (λ(s_9:(List Log_)×Int×Int)=>[(0,(dV (aD 0) 6 s_9.1)),(1,(vI n_2)),(2,(.fn 23 [])),(6,(vI 20)),(7,(vI s_9.2.1))]) (λ(s_9:(List Log_)×Int×Int)=>[((aD 0),gB 6 Log_.enc s_9.1)]) (λ(k_4:Nat)=>(λ(s_9:(List Log_)×Int×Int)=>[(0,(dV (aD 0) 6 s_9.1)),(1,(vI n_2)),(2,(.fn 23 [])),(6,(vI 20)),(7,(vI s_9.2.1)),(8,(vI s_9.2.2))])) (λs=>fE n_2 s) o_12 nq_48 (data_1,0,20) hj_13 rfl (aI rfl) ?_ ?_
 ·rintro ⟨k_4,s_9⟩ hL_11
  dsimp only at hL_11
  cases k_4 with
  | zero=>cases hL_11
  | succ k_4 =>
   obtain ⟨c_,hc_10,hL_11⟩:=bind_some hL_11
   unfold fE at hc_10
   refine ak (ai (aa (vI s_9.2.2) (aa (vI n_2) (aa (vB (decide (s_9.2.2<=n_2))) (ah ?_)))))
   rcases aj hc_10 with⟨hc_14,hc_10⟩|⟨hc_14,hc_10⟩
   ·refine aA rfl hc_14 (av (aN (ai (aa (dV (aD 0) 6 s_9.1) (aa (vI s_9.2.1) (aa (vI s_9.2.2) (aa (.fn 23 []) ?_)))))))
    obtain ⟨r_15,hr_16,hc_10⟩:=bind_some hc_10
    obtain ⟨_,hs_17,hc_10⟩:=bind_some hc_10
    replace hs_17:=pX hs_17
    refine pq 0 [] 0 0 il ft (fM hr_16) rfl hb77 rfl rfl rfl (by kernel_rfl) rfl (.inr (.inl rfl)) rfl (by kernel_rfl) (by kernel_rfl) (by kernel_rfl) (by kernel_rfl) rfl (by decide) (by kernel_rfl) rH (Bp hs_17) wz ([((aD 0),gB 6 Log_.enc r_15)]:Hp) (by kernel_rfl) (eO (v':=(dV (aD 0) 6 r_15)) 0 rfl (fu hs_17.symm) (eO (v':=(dV (aD 0) 6 r_15)) 14 rfl (fu hs_17.symm) (ah (ai (aa (vI s_9.2.2) (aa (vI s_9.2.2) (ah (au (aa (vI s_9.2.2) (aa (vI 20) (aa (vI (w64 (s_9.2.2+20))) (aa (vI (w64 (s_9.2.2+20))) (ah ?_)))))))))))))
    obtain rfl:=ae hc_10
    exact aS (k_4,(r_15,s_9.2.2,(w64 (s_9.2.2+20)))) hL_11 (ls_ _) rfl (aI rfl)
   ·refine ax rfl hc_14 (aV ?_)
    obtain rfl:=ae hc_10
    obtain rfl:=ae hL_11
    exact aU ((s_9.1,s_9.2.1,s_9.2.2)) rfl rfl (aI rfl)
 ·rintro s_9 ho_ sl_ H_ hp_ hq_
  subst ho_
  refine aO _ hp_ hq_ (ai (aa (dV (aD 0) 6 s_9.1) (aa (vI s_9.2.1) (aa (vI n_2) (aa (.fn 23 []) ?_)))))
  obtain ⟨r_18,hr_19,hF⟩:=bind_some hF
  obtain ⟨_,hs_20,hF⟩:=bind_some hF
  replace hs_20:=pX hs_20
  refine pq 0 [] 0 0 il ft (fM hr_19) rfl hb77 rfl rfl rfl (by kernel_rfl) rfl (.inr (.inl rfl)) rfl (by kernel_rfl) (by kernel_rfl) (by kernel_rfl) (by kernel_rfl) rfl (by decide) (by kernel_rfl) rH (Bp hs_20) wz ([((aD 0),gB 6 Log_.enc r_18)]:Hp) (by kernel_rfl) (eO (v':=(dV (aD 0) 6 r_18)) 0 rfl (fu hs_20.symm) (eO (v':=(dV (aD 0) 6 r_18)) 23 rfl (fu hs_20.symm) (ah ?_)))
  obtain ⟨o_29,hj_30,hF⟩:=bind_some hF
  obtain ⟨nq_47,hj_30⟩:=cB hj_30
  refine dJ (λ(s_26:Int)=>[]) (λ(s_26:Int)=>[((aD 0),gB 6 Log_.enc r_18)]) (λ(k_21:Nat)=>(λ(s_26:Int)=>[(0,(dV (aD 0) 6 r_18)),(1,(vI n_2)),(2,(.fn 23 [])),(6,(vI s_26))])) (λs=>fF n_2 s) o_29 nq_47 20 hj_30 rfl (aI rfl) ?_ ?_
  ·rintro ⟨k_21,s_26⟩ hL_28
   dsimp only at hL_28
   cases k_21 with
   | zero=>cases hL_28
   | succ k_21 =>
    obtain ⟨c_,hc_27,hL_28⟩:=bind_some hL_28
    unfold fF at hc_27
    refine ak (ai (aa (vI s_26) (aa (vI n_2) (aa (vB (decide (s_26<n_2))) (ah ?_)))))
    rcases aj hc_27 with⟨hc_31,hc_27⟩|⟨hc_31,hc_27⟩
    ·refine aA rfl hc_31 (av (aN (ai (aa (vI s_26) (aa (vI (w64 (2*s_26))) (aa (vI 0) (aa (vI (w64 (2*s_26))) (ah (ak ?_)))))))))
     obtain ⟨o_40,hj_41,hc_27⟩:=bind_some hc_27
     obtain ⟨nq_46,hj_41⟩:=cB hj_41
     refine dJ (λ(s_37:Unit)=>[(0,(dV (aD 0) 6 r_18)),(1,(vI n_2)),(2,(.fn 23 [])),(6,(vI s_26)),(7,(vI 0))]) (λ(s_37:Unit)=>[((aD 0),gB 6 Log_.enc r_18)]) (λ(k_32:Nat)=>(λ(s_37:Unit)=>[(0,(dV (aD 0) 6 r_18)),(1,(vI n_2)),(2,(.fn 23 [])),(6,(vI s_26)),(7,(vI 0)),(8,(vI (w64 (2*s_26))))])) (λs=>fC s_26 n_2 s) o_40 nq_46 () hj_41 rfl (aI rfl) ?_ ?_
     ·rintro ⟨k_32,s_37⟩ hL_39
      dsimp only at hL_39
      cases k_32 with
      | zero=>cases hL_39
      | succ k_32 =>
       obtain ⟨c_,hc_38,hL_39⟩:=bind_some hL_39
       unfold fC at hc_38
       refine ak (ai (aa (vI (w64 (2*s_26))) (aa (vI n_2) (aa (vB (decide ((w64 (2*s_26))<=n_2))) (ah ?_)))))
       rcases aj hc_38 with⟨hc_42,hc_38⟩|⟨hc_42,hc_38⟩
       ·refine aA rfl hc_42 (av (aN (ai (aa (dV (aD 0) 6 r_18) (aa (vI 0) (aa (vI 0) (aa (vI s_26) (aa (vI (w64 (0+s_26))) (aa (vI (w64 (2*s_26))) (aa (.fn 23 []) ?_))))))))))
        cases hc_38
       ·refine ax rfl hc_42 (aV ?_)
        obtain rfl:=ae hc_38
        obtain rfl:=ae hL_39
        exact aU (()) rfl rfl (aI rfl)
     ·rintro s_37 ho_ sl_ H_ hp_ hq_
      subst ho_
      refine aO _ hp_ hq_ (ak (ai (aa (vI 0) (aa (vI s_26) (aa (vI (w64 (0+s_26))) (aa (vI (w64 (0+s_26))) (ah (ai (aa (vI (w64 (0+s_26))) (aa (vI n_2) (aa (vB (decide ((w64 (0+s_26))<n_2))) (ah ?_))))))))))))
      obtain ⟨v_43,h_44,hc_27⟩:=bind_some hc_27
      refine aM [(0,(dV (aD 0) 6 r_18)),(1,(vI n_2)),(2,(.fn 23 [])),(6,(vI s_26))] [((aD 0),gB 6 Log_.enc r_18)] ?_ ?_
      ·rcases aj h_44 with⟨hc_45,h_44⟩|⟨hc_45,h_44⟩
       ·refine aA rfl hc_45 (au (aa (dV (aD 0) 6 r_18) (aa (vI 0) (aa (vI (w64 (0+s_26))) (aa (vI n_2) (aa (.fn 23 []) ?_))))))
        cases h_44
       ·refine ax rfl hc_45 (av ?_)
        obtain rfl:=ae h_44
        exact cu
      ·rintro ⟨⟩ _ sl_ H_ hp_ hq_
       refine aO _ hp_ hq_ (au (aa (vI s_26) (aa (vI (w64 (s_26*2))) (aa (vI (w64 (s_26*2))) (ah ?_)))))
       obtain rfl:=ae hc_27
       exact aS (k_21,(w64 (s_26*2))) hL_28 (ls_ _) rfl (aI rfl)
    ·refine ax rfl hc_31 (aV ?_)
     obtain rfl:=ae hc_27
     obtain rfl:=ae hL_28
     exact aU (s_26) rfl rfl (aI rfl)
  ·rintro s_26 ho_ sl_ H_ hp_ hq_
   subst ho_
   show vv _ _ _ _ _ _ _ _
   obtain rfl:=ae hF
   exact Cb (H0:=([((aD 0),gB 6 Log_.enc r_18)]:Hp)) (sl':=envS []) hq_ (yZ (bs:=([]:List Box)) (os:=([]:List Box)) (xs:=data_1) (o:=gB 6 Log_.enc r_18) (.inl rfl) [] trivial rfl rfl rfl rfl rfl (by kernel_rfl) rH rfl)
theorem jK {x_1:(List Log_)} {r:(List Log_)} (hF:bN x_1=some r) :
  FnM Tryz.prog 26 [(dV (aD 0) 6 x_1),(.fn 23 [])] (([]:List Box)++gI 6 Log_.enc x_1) (.tup []) (([]:List Box).map some++gT x_1 (gB 6 Log_.enc r)):=by
 refine FnM.of_wHv ⟨Tryz.prog,9,[],[]⟩ rfl Tryz.func26 rfl rfl (lb_ rfl) (by kernel_rfl) ?_
 unfold bN at hF
 refine au (aa (dV (aD 0) 6 x_1) (aa (dV (aD 0) 6 x_1) (Ay lX rfl wz (aa (.fn 23 []) ?_))))
 obtain ⟨r_3,hr_4,hF⟩:=bind_some hF
 obtain ⟨_,hs_5,hF⟩:=bind_some hF
 replace hs_5:=pX hs_5
 refine pq 0 [] 0 0 il ft (mK hr_4) rfl hb47 rfl rfl rfl (by kernel_rfl) rfl (.inr (.inl rfl)) rfl (by kernel_rfl) (by kernel_rfl) (by kernel_rfl) (by kernel_rfl) rfl (by decide) (by kernel_rfl) rH (Bp hs_5) wz ([((aD 0),gB 6 Log_.enc r_3)]:Hp) (by kernel_rfl) (eO (v':=(dV (aD 0) 6 r_3)) 0 rfl (fu hs_5.symm) (eO (v':=(dV (aD 0) 6 r_3)) 4 rfl (fu hs_5.symm) (eO (v':=(dV (aD 0) 6 r_3)) 5 rfl (fu hs_5.symm) (ah ?_))))
 show vv _ _ _ _ _ _ _ _
 obtain rfl:=ae hF
 exact yZ (bs:=([]:List Box)) (os:=([]:List Box)) (xs:=x_1) (o:=gB 6 Log_.enc r_3) (.inl rfl) [] trivial rfl rfl rfl rfl rfl (by kernel_rfl) rH rfl
theorem mf {slices_1:(List (List Log_))} {r:(List Log_)} (hF:dx slices_1=some r) :
  FnM Tryz.prog 25 [(vL (eL Log_.enc) slices_1)] [] (gV (aD 0) 6 r) (([]:List Box).map some++gO 6 Log_.enc r):=by
 refine FnM.of_wH ⟨Tryz.prog,36,[],[]⟩ rfl Tryz.func25 rfl rfl (lb_ rfl) (by kernel_rfl) ?_
 unfold dx at hF
 refine ai (aa .nil (ah (ai (aa (vI 0) (ah (ak (ai (aa (vL (eL Log_.enc) slices_1) (bG un105 rfl wz (aa (vI 0) (ah ?_)))))))))))
 obtain ⟨o_10,hj_11,hF⟩:=bind_some hF
 obtain ⟨hn_6,hj_11⟩:=bg hj_11
 refine cK (λ(s_7:Int)=>[(0,(vL (eL Log_.enc) slices_1)),(3,(vI s_7))]) (λ(s_7:Int)=>[]) (λ(k_2:Nat)=>(λ(s_7:Int)=>[(0,(vL (eL Log_.enc) slices_1)),(3,(vI s_7)),(9,(vL (eL Log_.enc) slices_1)),(10,(vI (slices_1.length:Int))),(11,(vI (k_2:Int)))])) (λk x s=>bu k x s) o_10 slices_1 0 hj_11 rfl (aI rfl) ?_ ?_
 ·rintro ⟨k_2,l_3,s_7⟩ ⟨hL_9,hD_5⟩
  dsimp only at hL_9 hD_5
  cases l_3 with
  | nil =>
   obtain rfl:=ae hL_9
   refine ai (aa (vB (decide ((k_2:Int)<(slices_1.length:Int)))) (ah ?_))
   refine ak (ax rfl (drop_nil hD_5) (aV ?_))
   exact aU (s_7) rfl rfl (aI rfl)
  | cons x_4 l_3 =>
   obtain ⟨c_,hc_8,hL_9⟩:=bind_some hL_9
   refine ai (aa (vB (decide ((k_2:Int)<(slices_1.length:Int)))) (ah ?_))
   refine ak (aA rfl (bz hD_5) (av ?_))
   unfold bu at hc_8
   refine ak (aN (ai (dB N7 rfl rfl (bK hD_5) rfl wz (bA sz26 ag26 rfl (vL Log_.enc x_4) rfl wz (aa (vL Log_.enc x_4) (ah (ai (aa (vI s_7) (aa (vL Log_.enc x_4) (bG lX rfl wz (aa (vI (w64 (s_7+(x_4.length:Int)))) (aa (vI (w64 (s_7+(x_4.length:Int)))) (ah (ai (aa (vI (w64 (s_7+(x_4.length:Int)))) (aa (vB (decide ((w64 (s_7+(x_4.length:Int)))<0))) (ah ?_)))))))))))))))))
   obtain ⟨v_12,h_13,hc_8⟩:=bind_some hc_8
   refine aM [(0,(vL (eL Log_.enc) slices_1)),(3,(vI (w64 (s_7+(x_4.length:Int))))),(9,(vL (eL Log_.enc) slices_1)),(10,(vI (slices_1.length:Int))),(11,(vI (k_2:Int)))] [] ?_ ?_
   ·rcases aj h_13 with⟨hc_14,h_13⟩|⟨hc_14,h_13⟩
    ·refine aA rfl hc_14 (au ?_)
     cases h_13
    ·refine ax rfl hc_14 (av ?_)
     obtain rfl:=ae h_13
     exact cu
   ·rintro ⟨⟩ _ sl_ H_ hp_ hq_
    refine aO _ hp_ hq_ (au (fq (bH hD_5 hn_6) wz rfl (aa (vI ((k_2+1:Nat):Int)) (ah ?_))))
    obtain rfl:=ae hc_8
    exact aS (k_2+1,l_3,(w64 (s_7+(x_4.length:Int)))) ⟨hL_9,aR hD_5⟩ (ls_ _) rfl (aI rfl)
 ·rintro s_7 ho_ sl_ H_ hp_ hq_
  subst ho_
  refine aO _ hp_ hq_ (ai (aa (vI s_7) ?_))
  obtain ⟨b_15,hr_16,hF⟩:=bind_some hF
  refine KI (enc:=Log_.enc) (nL hr_16) rfl hb46 (by kernel_rfl) rfl (by kernel_rfl) wz (λn_17=>aa (kV b_15 n_17 6 ([]:List Log_)) (ah (ak (ai (aa (vL (eL Log_.enc) slices_1) (bG un105 rfl wz (aa (vI 0) (ah ?_))))))))
  obtain ⟨o_28,hj_29,hF⟩:=bind_some hF
  obtain ⟨hn_22,hj_29⟩:=bg hj_29
  refine jc (σ:=(List Log_)) (N:=Nm) (λp=>(λ(s_23:List Log_) (n_25:Nm)=>([(6,(kV b_15 n_25 6 s_23))]:SL_)) p.1 p.2) (λp=>(λ(s_23:List Log_) (n_25:Nm)=>([(n_25,kB b_15 6 Log_.enc s_23)]:Hp)) p.1 p.2) (λ(k_18:Nat)=>(λp=>(λ(s_23:List Log_) (n_25:Nm)=>([(6,(kV b_15 n_25 6 s_23)),(25,(vL (eL Log_.enc) slices_1)),(26,(vI (slices_1.length:Int))),(27,(vI (k_18:Int)))]:SL_)) p.1 p.2)) (λk x s=>bv k x s) o_28 slices_1 (([]:List Log_),n_17) hj_29 rfl (aI rfl) ?_ ?_
  ·rintro ⟨k_18,l_19,s_23,n_25⟩ ⟨hL_27,hD_21⟩
   dsimp only at hL_27 hD_21
   cases l_19 with
   | nil =>
    obtain rfl:=ae hL_27
    refine ai (aa (vB (decide ((k_18:Int)<(slices_1.length:Int)))) (ah ?_))
    refine ak (ax rfl (drop_nil hD_21) (aV ?_))
    exact aU (s_23,n_25) rfl rfl (aI rfl)
   | cons x_20 l_19 =>
    obtain ⟨c_,hc_26,hL_27⟩:=bind_some hL_27
    refine ai (aa (vB (decide ((k_18:Int)<(slices_1.length:Int)))) (ah ?_))
    refine ak (aA rfl (bz hD_21) (av ?_))
    unfold bv at hc_26
    refine ak (aN (ai (dB N7 rfl rfl (bK hD_21) rfl wz (bA sz26 ag26 rfl (vL Log_.enc x_20) rfl wz (aa (vL Log_.enc x_20) (ah (au (aa (kV b_15 n_25 6 s_23) (aa (vL Log_.enc x_20) ?_)))))))))
    obtain ⟨a_30,hz_31,hc_26⟩:=bind_some hc_26
    refine OM 0 il ft (i:=0) zw zw fT z30 rfl (by decide) Lm (by decide) (λ_=>rfl) rfl rfl rfl hz_31 wz (λn_32=>aa (kV b_15 n_32 6 a_30) (ah (au (fq (bH hD_21 hn_22) wz rfl (aa (vI ((k_18+1:Nat):Int)) (ah ?_))))))
    obtain rfl:=ae hc_26
    exact aS (k_18+1,l_19,a_30,n_32) ⟨hL_27,aR hD_21⟩ (ls_ _) rfl (aI rfl)
  ·rintro ⟨s_23,n_25⟩ ho_ sl_ H_ hp_ hq_
   subst ho_
   refine aO _ hp_ hq_ (ai (aa (kV b_15 n_25 6 s_23) (aa (kV b_15 n_25 6 s_23) (ah ?_))))
   obtain ⟨_,hk_,hF⟩:=bind_some hF
   refine wH_re (v':=(gV n_25 6 s_23)) 2 rfl (kV_g hk_) (wH_reH (b':=gB 6 Log_.enc s_23) 0 rfl (kB_g hk_) ?_)
   obtain rfl:=ae hF
   exact ay (M8 (outs:=([]:List Box)) (.inr rfl) 0 rfl rfl rfl (by kernel_rfl) (by kernel_rfl))
theorem lT {s_1:(List Log_)} {r:(List Log_)} (hF:cZ s_1=some r) :
  FnM Tryz.prog 27 [(dV (aD 0) 6 s_1)] (([]:List Box)++gI 6 Log_.enc s_1) (vL Log_.enc r) (([]:List Box).map some++gT s_1 none):=by
 refine FnM.of_wHv ⟨Tryz.prog,61,[],[]⟩ rfl Tryz.func27 rfl rfl (lb_ rfl) (by kernel_rfl) ?_
 unfold cZ at hF
 refine ai (aa .nil (ah (ak (ai (aa (dV (aD 0) 6 s_1) (Ay lX rfl wz (aa (vB (decide ((s_1.length:Int)<2))) (ah ?_))))))))
 rcases aj hF with⟨hc_2,hF⟩|⟨hc_2,hF⟩
 ·refine aA rfl hc_2 (ai (aa (dV (aD 0) 6 s_1) (aa (dV (aD 0) 6 s_1) (ah (gG 0 rfl (nS 0 0 rfl rfl (nS 2 0 rfl rfl (nS 6 0 rfl rfl (nS 9 0 rfl rfl (xM (i:=0) rfl ?_))))))))))
  obtain rfl:=ae hF
  exact ay (yZ (bs:=([]:List Box)) (os:=([]:List Box)) (xs:=s_1) (o:=none) (.inr rfl) [(vL Log_.enc s_1)] ⟨rfl,trivial⟩ rfl rfl rfl rfl rfl (by kernel_rfl) sD rfl)
 ·refine ax rfl hc_2 (av (ak (ai (aa (vI 1) (ah ?_)))))
  obtain ⟨o_11,hj_12,hF⟩:=bind_some hF
  obtain ⟨nq_52,hj_12⟩:=cB hj_12
  refine dJ (λ(s_8:Int)=>[(0,(dV (aD 0) 6 s_1))]) (λ(s_8:Int)=>[((aD 0),gB 6 Log_.enc s_1)]) (λ(k_3:Nat)=>(λ(s_8:Int)=>[(0,(dV (aD 0) 6 s_1)),(3,(vI s_8))])) (λs=>eQ s_1 s) o_11 nq_52 1 hj_12 rfl (aI rfl) ?_ ?_
  ·rintro ⟨k_3,s_8⟩ hL_10
   dsimp only at hL_10
   cases k_3 with
   | zero=>cases hL_10
   | succ k_3 =>
    obtain ⟨c_,hc_9,hL_10⟩:=bind_some hL_10
    unfold eQ at hc_9
    refine ak (ai (aa (vI s_8) (aa (dV (aD 0) 6 s_1) (Ay lX rfl wz (aa (vB (decide (s_8<(s_1.length:Int)))) (ah ?_))))))
    rcases aj hc_9 with⟨hc_13,hc_9⟩|⟨hc_13,hc_9⟩
    ·refine aA rfl hc_13 (av (ak (aN (ak (aZ (aa (dV (aD 0) 6 s_1) (aa (vI s_8) ?_)))))))
     obtain ⟨_,hi_14,hc_9⟩:=bind_some hc_9
     refine lM kG rfl rfl (jO hi_14) (gL hi_14) wz ?_
     obtain ⟨e_15,hy_16,hc_9⟩:=bind_some hc_9
     refine lN 3 0 (.inr (by kernel_rfl)) (λ_ _ ag=>trivial) fT ni rfl rfl hy_16 (.d (.agg (Log_.enc e_15))) rfl wz (aa (dV (aD 0) 6 s_1) (aa (vI s_8) (aa (vI (w64 (s_8-1))) ?_)))
     obtain ⟨_,hi_17,hc_9⟩:=bind_some hc_9
     refine lM kG rfl rfl (jO hi_17) (gL hi_17) wz ?_
     obtain ⟨e_18,hy_19,hc_9⟩:=bind_some hc_9
     refine lN 8 0 (.inr (by kernel_rfl)) (λ_ _ ag=>⟨.inl ⟨rfl,rfl⟩,trivial⟩) fT ni rfl rfl hy_19 (.d (.agg (Log_.enc e_18))) rfl wz (aG (vB ((e_15.Player.toList==e_18.Player.toList)&&((e_15.Item.toList==e_18.Item.toList)&&((e_15.No==e_18.No)&&((e_15.Clock==e_18.Clock)&&((e_15.Long==e_18.Long)&&((e_15.Sum.toList==e_18.Sum.toList)&&true))))))) wz (by kernel_rfl) (ah ?_))
     rcases aj hc_9 with⟨hc_20,hc_9⟩|⟨hc_20,hc_9⟩
     ·refine aA rfl hc_20 (ai (aa (dV (aD 0) 6 s_1) (aa (vI s_8) ?_)))
      obtain ⟨_,hn_21,hc_9⟩:=bind_some hc_9
      replace hn_21:=OA hn_21
      refine eO (v':=(vV (aD 0) 6 s_1)) 0 rfl (o5 hn_21) (eO (v':=(vV (aD 0) 6 s_1)) 11 rfl (o5 hn_21) (eO (v':=(vV (aD 0) 6 s_1)) 16 rfl (o5 hn_21) (eO (v':=(vV (aD 0) 6 s_1)) 20 rfl (o5 hn_21) (eO (v':=(vV (aD 0) 6 s_1)) 26 rfl (o5 hn_21) (KT 0 rfl (KH hn_21) ?_)))))
      obtain ⟨_,hr_22,hc_9⟩:=bind_some hc_9
      refine zK lX fT rfl rfl hr_22 wz (aa (.vs (aD 0) 6 ((s_8).toNat) (((s_1.length:Int)).toNat-(s_8).toNat)) (ah (ak (ai (aa (vI 1) (ah ?_))))))
      obtain ⟨o_31,hj_32,hc_9⟩:=bind_some hc_9
      obtain ⟨nq_51,hj_32⟩:=cB hj_32
      refine dJ (λ(s_28:(List Log_)×Int×Int)=>[(0,(vV (aD 0) 6 s_28.1)),(3,(vI s_28.2.1))]) (λ(s_28:(List Log_)×Int×Int)=>[((aD 0),some (bV 6 Log_.enc s_28.1))]) (λ(k_23:Nat)=>(λ(s_28:(List Log_)×Int×Int)=>[(0,(vV (aD 0) 6 s_28.1)),(3,(vI s_28.2.1)),(4,(.vs (aD 0) 6 ((s_8).toNat) (((s_1.length:Int)).toNat-(s_8).toNat))),(5,(vI s_28.2.2))])) (λs=>eP s_1 s_8 s) o_31 nq_51 (s_1,s_8,1) hj_32 rfl (aI rfl) ?_ ?_
      ·rintro ⟨k_23,s_28⟩ hL_30
       dsimp only at hL_30
       cases k_23 with
       | zero=>cases hL_30
       | succ k_23 =>
        obtain ⟨c_,hc_29,hL_30⟩:=bind_some hL_30
        unfold eP at hc_29
        refine ak (ai (aa (vI s_28.2.2) (aa (.vs (aD 0) 6 ((s_8).toNat) (((s_1.length:Int)).toNat-(s_8).toNat)) (NF lX rfl wz (aa (vB (decide (s_28.2.2<(((((s_1.length:Int)).toNat-(s_8).toNat):Nat):Int)))) (ah ?_))))))
        rcases aj hc_29 with⟨hc_33,hc_29⟩|⟨hc_33,hc_29⟩
        ·refine aA rfl hc_33 (av (ak (aN (ak (aZ (aa (.vs (aD 0) 6 ((s_8).toNat) (((s_1.length:Int)).toNat-(s_8).toNat)) (aa (vI s_28.2.2) ?_)))))))
         obtain ⟨_,hi_34,hc_29⟩:=bind_some hc_29
         refine yw kG rfl rfl (wO hi_34) (q9 hi_34) wz ?_
         obtain ⟨e_35,hy_36,hc_29⟩:=bind_some hc_29
         refine Db 3 0 (.inr (by kernel_rfl)) (λ_ _ ag=>trivial) fT ni rfl rfl hy_36 (.d (.agg (Log_.enc e_35))) rfl wz (aa (.vs (aD 0) 6 ((s_8).toNat) (((s_1.length:Int)).toNat-(s_8).toNat)) (aa (vI s_28.2.2) (aa (vI (w64 (s_28.2.2-1))) ?_)))
         obtain ⟨_,hi_37,hc_29⟩:=bind_some hc_29
         refine yw kG rfl rfl (wO hi_37) (q9 hi_37) wz ?_
         obtain ⟨e_38,hy_39,hc_29⟩:=bind_some hc_29
         refine Db 8 0 (.inr (by kernel_rfl)) (λ_ _ ag=>⟨.inl ⟨rfl,rfl⟩,trivial⟩) fT ni rfl rfl hy_39 (.d (.agg (Log_.enc e_38))) rfl wz (aG (vB (!((e_35.Player.toList==e_38.Player.toList)&&((e_35.Item.toList==e_38.Item.toList)&&((e_35.No==e_38.No)&&((e_35.Clock==e_38.Clock)&&((e_35.Long==e_38.Long)&&((e_35.Sum.toList==e_38.Sum.toList)&&true)))))))) wz (by kernel_rfl) (ah ?_))
         obtain ⟨v_40,h_41,hc_29⟩:=bind_some hc_29
         refine aM [(0,(vV (aD 0) 6 v_40.1)),(3,(vI v_40.2)),(4,(.vs (aD 0) 6 ((s_8).toNat) (((s_1.length:Int)).toNat-(s_8).toNat))),(5,(vI s_28.2.2))] [((aD 0),some (bV 6 Log_.enc v_40.1))] ?_ ?_
         ·rcases aj h_41 with⟨hc_42,h_41⟩|⟨hc_42,h_41⟩
          ·refine aA rfl hc_42 (ai (aa (vV (aD 0) 6 s_28.1) (aa (vI s_28.2.1) (aa (.vs (aD 0) 6 ((s_8).toNat) (((s_1.length:Int)).toNat-(s_8).toNat)) (aa (vI s_28.2.2) ?_)))))
           obtain ⟨_,hi_43,h_41⟩:=bind_some h_41
           refine yw kG rfl rfl (wO hi_43) (q9 hi_43) wz ?_
           obtain ⟨e_44,hy_45,h_41⟩:=bind_some h_41
           refine Db 0 0 il ft fT ni rfl rfl hy_45 (.d (.agg (Log_.enc e_44))) rfl wz ?_
           obtain ⟨_,hi_46,h_41⟩:=bind_some h_41
           refine yw kG rfl rfl (jO hi_46) (gL hi_46) wz ?_
           obtain ⟨e_47,hy_48,h_41⟩:=bind_some h_41
           refine Bl 0 il ft 0 fT rfl rfl hy_48 e_44 rfl wz (eO (v':=(vV (aD 0) 6 (s_28.1.set (0+(s_28.2.1).toNat) e_44))) 0 rfl (wV (by simp)) (eO (v':=(vV (aD 0) 6 (s_28.1.set (0+(s_28.2.1).toNat) e_44))) 45 rfl (wV (by simp)) (ah (au (aa (vI s_28.2.1) (aa (vI (w64 (s_28.2.1+1))) (aa (vI (w64 (s_28.2.1+1))) (ah ?_))))))))
           obtain rfl:=ae h_41
           exact cu
          ·refine ax rfl hc_42 (av ?_)
           obtain rfl:=ae h_41
           exact cu
         ·rintro ⟨⟩ _ sl_ H_ hp_ hq_
          refine aO _ hp_ hq_ (au (aa (vI s_28.2.2) (aa (vI (w64 (s_28.2.2+1))) (aa (vI (w64 (s_28.2.2+1))) (ah ?_)))))
          obtain rfl:=ae hc_29
          exact aS (k_23,(v_40.1,v_40.2,(w64 (s_28.2.2+1)))) hL_30 (ls_ _) rfl (aI rfl)
        ·refine ax rfl hc_33 (aV ?_)
         obtain rfl:=ae hc_29
         obtain rfl:=ae hL_30
         exact aU ((s_28.1,s_28.2.1,s_28.2.2)) rfl rfl (aI rfl)
      ·rintro s_28 ho_ sl_ H_ hp_ hq_
       subst ho_
       refine aO _ hp_ hq_ (ai (aa (vV (aD 0) 6 s_28.1) (aa (vI s_28.2.1) ?_)))
       obtain ⟨_,hr_49,hc_9⟩:=bind_some hc_9
       refine zK lX fT rfl rfl hr_49 wz (Ku (i:=0) 0 il ft (⟨(⟨#[]⟩:ByteArray),(⟨#[]⟩:ByteArray),0,0,0,(⟨#[]⟩:ByteArray)⟩:Log_) zw fT z30 rfl rfl rfl (by decide) rfl (nV hr_49) rfl wz (eO (v':=(vV (aD 0) 6 (s_28.1.take ((s_28.2.1).toNat)++List.replicate (((s_28.1.length:Int)).toNat-(s_28.2.1).toNat) (⟨(⟨#[]⟩:ByteArray),(⟨#[]⟩:ByteArray),0,0,0,(⟨#[]⟩:ByteArray)⟩:Log_)++s_28.1.drop (((s_28.2.1).toNat)+(((s_28.1.length:Int)).toNat-(s_28.2.1).toNat))))) 0 rfl (wV (xz (nV hr_49))) (eO (v':=(vV (aD 0) 6 (s_28.1.take ((s_28.2.1).toNat)++List.replicate (((s_28.1.length:Int)).toNat-(s_28.2.1).toNat) (⟨(⟨#[]⟩:ByteArray),(⟨#[]⟩:ByteArray),0,0,0,(⟨#[]⟩:ByteArray)⟩:Log_)++s_28.1.drop (((s_28.2.1).toNat)+(((s_28.1.length:Int)).toNat-(s_28.2.1).toNat))))) 54 rfl (wV (xz (nV hr_49))) (ah (ai (aa (vV (aD 0) 6 (s_28.1.take ((s_28.2.1).toNat)++List.replicate (((s_28.1.length:Int)).toNat-(s_28.2.1).toNat) (⟨(⟨#[]⟩:ByteArray),(⟨#[]⟩:ByteArray),0,0,0,(⟨#[]⟩:ByteArray)⟩:Log_)++s_28.1.drop (((s_28.2.1).toNat)+(((s_28.1.length:Int)).toNat-(s_28.2.1).toNat)))) (aa (vI s_28.2.1) ?_)))))))
       obtain ⟨_,hr_50,hc_9⟩:=bind_some hc_9
       refine GH lX fT rfl rfl hr_50 wz (aa (.vs (aD 0) 6 0 ((s_28.2.1).toNat)) (ah (BV 0 rfl (zA 0 0 rfl rfl (Gf 2 0 rfl rfl (nV hr_50) (zA 54 0 rfl rfl (zA 57 0 rfl rfl (Gf 59 0 rfl rfl (nV hr_50) (xM (i:=0) rfl ?_)))))))))
       obtain rfl:=ae hc_9
       obtain rfl:=ae hL_10
       obtain rfl:=ae hF
       exact ay (yZ (bs:=([]:List Box)) (os:=([]:List Box)) (xs:=s_1) (o:=none) (.inr rfl) [(vL Log_.enc (yJ (s_28.1.take ((s_28.2.1).toNat)++List.replicate (((s_28.1.length:Int)).toNat-(s_28.2.1).toNat) (⟨(⟨#[]⟩:ByteArray),(⟨#[]⟩:ByteArray),0,0,0,(⟨#[]⟩:ByteArray)⟩:Log_)++s_28.1.drop (((s_28.2.1).toNat)+(((s_28.1.length:Int)).toNat-(s_28.2.1).toNat))) 0 ((s_28.2.1).toNat)))] ⟨rfl,trivial⟩ rfl rfl rfl rfl rfl (by kernel_rfl) sD rfl)
     ·refine ax rfl hc_20 (av (au (aa (vI s_8) (aa (vI (w64 (s_8+1))) (aa (vI (w64 (s_8+1))) (ah ?_))))))
      obtain rfl:=ae hc_9
      exact aS (k_3,(w64 (s_8+1))) hL_10 (ls_ _) rfl (aI rfl)
    ·refine ax rfl hc_13 (aV ?_)
     obtain rfl:=ae hc_9
     obtain rfl:=ae hL_10
     exact aU (s_8) rfl rfl (aI rfl)
  ·rintro s_8 ho_ sl_ H_ hp_ hq_
   subst ho_
   refine aO _ hp_ hq_ (ai (aa (dV (aD 0) 6 s_1) (aa (dV (aD 0) 6 s_1) (ah (gG 0 rfl (nS 0 0 rfl rfl (nS 2 0 rfl rfl (nS 60 0 rfl rfl (xM (i:=0) rfl ?_)))))))))
   obtain rfl:=ae hF
   exact ay (yZ (bs:=([]:List Box)) (os:=([]:List Box)) (xs:=s_1) (o:=none) (.inr rfl) [(vL Log_.enc s_1)] ⟨rfl,trivial⟩ rfl rfl rfl rfl rfl (by kernel_rfl) sD rfl)
theorem wT {a_1:(List Log_)} {b_2:(List Log_)} {r:(List Log_)×Int} (hF:jN a_1 b_2=some r) :
  FnM Tryz.prog 13 [(vL Log_.enc a_1),(vL Log_.enc b_2)] [] (.tup [(vL Log_.enc r.1),(vI r.2)]) []:=by
 refine FnM.of_wH ⟨Tryz.prog,52,[],[]⟩ rfl Tryz.func13 rfl rfl (lb_ rfl) (by kernel_rfl) ?_
 unfold jN at hF
 refine ai (aa .nil (aa (vI 0) (ah (ak (ai (aa (vL Log_.enc a_1) (aa (vL Log_.enc b_2) (aG (.d (.agg [dl Log_.enc a_1,dl Log_.enc b_2])) wz (by kernel_rfl) (aa (vI 0) (ah ?_))))))))))
 obtain ⟨o_11,hj_12,hF⟩:=bind_some hF
 obtain ⟨hn_7,hj_12⟩:=bg hj_12
 refine cK (λ(s_8:Unit)=>[(0,(vL Log_.enc a_1)),(1,(vL Log_.enc b_2))]) (λ(s_8:Unit)=>[]) (λ(k_3:Nat)=>(λ(s_8:Unit)=>[(0,(vL Log_.enc a_1)),(1,(vL Log_.enc b_2)),(13,(.d (.agg [dl Log_.enc a_1,dl Log_.enc b_2]))),(14,(vI (k_3:Int)))])) (λk x s=>gK a_1 b_2 k x s) o_11 (List.range (2:Int).toNat) () hj_12 rfl (aI rfl) ?_ ?_
 ·rintro ⟨k_3,l_4,s_8⟩ ⟨hL_10,hD_6⟩
  dsimp only at hL_10 hD_6
  cases l_4 with
  | nil =>
   obtain rfl:=ae hL_10
   refine ai (aa (vB (decide ((k_3:Int)<2))) (ah ?_))
   refine ak (ax rfl (xO hD_6) (aV ?_))
   exact aU (s_8) rfl rfl (aI rfl)
  | cons x_5 l_4 =>
   obtain ⟨c_,hc_9,hL_10⟩:=bind_some hL_10
   refine ai (aa (vB (decide ((k_3:Int)<2))) (ah ?_))
   refine ak (aA rfl (vE hD_6) (av ?_))
   unfold gK at hc_9
   refine ak (aN (ai ?_))
   obtain ⟨y_13,hy_14,hc_9⟩:=bind_some hc_9
   refine h_idxa (enc:=(eL Log_.enc)) (xs:=([a_1,b_2]:List (List Log_))) un57 sz26 ag26 rfl rfl rfl rfl hy_14 (λ_=>rfl) (.inr rfl) (vL Log_.enc y_13) rfl wz (aa (vL Log_.enc y_13) (ah (ai (aa (vL Log_.enc y_13) ?_))))
   obtain ⟨r_15,hr_16,hc_9⟩:=bind_some hc_9
   refine aB (fZ hr_16) rfl Lv rfl rfl rfl rfl wz (aa (vI r_15) (ah (ai (aa (vI r_15) (aa (vB (r_15 != 0)) (ah ?_))))))
   rcases aj hc_9 with⟨hc_17,hc_9⟩|⟨hc_17,hc_9⟩
   ·refine aA rfl hc_17 (ai (aa (vI r_15) (aa .nil (aa (vI r_15) (ah ?_)))))
    obtain rfl:=ae hc_9
    obtain rfl:=ae hL_10
    obtain rfl:=ae hF
    exact ay (aK [.nil,(vI r_15)] ⟨rfl,⟨rfl,trivial⟩⟩)
   ·refine ax rfl hc_17 (av (au (fq (xN hD_6 hn_7) wz rfl (aa (vI ((k_3+1:Nat):Int)) (ah ?_)))))
    obtain rfl:=ae hc_9
    exact aS (k_3+1,l_4,()) ⟨hL_10,aR hD_6⟩ (ls_ _) rfl (aI rfl)
 ·rintro s_8 ho_ sl_ H_ hp_ hq_
  subst ho_
  refine aO _ hp_ hq_ (ai (aa (vL Log_.enc a_1) (aa (vL Log_.enc b_2) (iK (([a_1,b_2]:List (List Log_)).map (eL Log_.enc)) N7 ez105 rfl rfl rfl rfl rfl wz ?_))))
  obtain ⟨r_18,hr_19,hF⟩:=bind_some hF
  refine BS [] (mf hr_19) rfl hb25 rfl (by kernel_rfl) (by kernel_rfl) (by kernel_rfl) (by kernel_rfl) (by kernel_rfl) rfl (by decide) (by kernel_rfl) wz ([]:Hp) (λ_=>by kernel_rfl) (λn_21=>aa (gV n_21 6 r_18) (ah (ai (aa (gV n_21 6 r_18) ?_))))
  obtain ⟨r_22,hr_23,hF⟩:=bind_some hF
  obtain ⟨_,hs_24,hF⟩:=bind_some hF
  replace hs_24:=pX hs_24
  refine pq 0 [] 0 0 il ft (jK hr_23) rfl hb26 rfl rfl rfl (by kernel_rfl) rfl (.inl rfl) rfl (by kernel_rfl) (by kernel_rfl) (by kernel_rfl) (by kernel_rfl) rfl (by decide) (by kernel_rfl) rH (Bp hs_24) wz ([(n_21,gB 6 Log_.enc r_22)]:Hp) (by kernel_rfl) (eO (v':=(gV n_21 6 r_22)) 26 rfl (j6 hs_24.symm) (eO (v':=(gV n_21 6 r_22)) 27 rfl (j6 hs_24.symm) (eO (v':=(gV n_21 6 r_22)) 9 rfl (j6 hs_24.symm) (ah (ai (aa (gV n_21 6 r_22) ?_))))))
  obtain ⟨r_25,hr_26,hF⟩:=bind_some hF
  refine pq 0 [] 0 0 il ft (lT hr_26) rfl hb27 rfl rfl rfl (by kernel_rfl) rfl (.inl rfl) rfl (by kernel_rfl) (by kernel_rfl) (by kernel_rfl) (by kernel_rfl) rfl (by decide) (by kernel_rfl) sD (λ_=>rfl) wz ([(n_21,none)]:Hp) (by kernel_rfl) (aa (vL Log_.enc r_25) (ah (ak (ai (aa (vI 1) (ah ?_))))))
  obtain ⟨o_35,hj_36,hF⟩:=bind_some hF
  obtain ⟨nq_46,hj_36⟩:=cB hj_36
  refine dJ (λ(s_32:Int)=>[(9,(vL Log_.enc r_25))]) (λ(s_32:Int)=>[(n_21,none)]) (λ(k_27:Nat)=>(λ(s_32:Int)=>[(9,(vL Log_.enc r_25)),(10,(vI s_32))])) (λs=>iP r_25 s) o_35 nq_46 1 hj_36 rfl (aI rfl) ?_ ?_
  ·rintro ⟨k_27,s_32⟩ hL_34
   dsimp only at hL_34
   cases k_27 with
   | zero=>cases hL_34
   | succ k_27 =>
    obtain ⟨c_,hc_33,hL_34⟩:=bind_some hL_34
    unfold iP at hc_33
    refine ak (ai (aa (vI s_32) (aa (vL Log_.enc r_25) (bG lX rfl wz (aa (vB (decide (s_32<(r_25.length:Int)))) (ah ?_))))))
    rcases aj hc_33 with⟨hc_37,hc_33⟩|⟨hc_37,hc_33⟩
    ·refine aA rfl hc_37 (av (ak (aN (ak (aZ (aa (vL Log_.enc r_25) (aa (vI s_32) (aa (vI (w64 (s_32-1))) ?_))))))))
     obtain ⟨y_38,hy_39,hc_33⟩:=bind_some hc_33
     refine dB kG rfl rfl hy_39 rfl wz (bA fT ni rfl (.d (.agg (Log_.enc y_38))) rfl wz (aa (vL Log_.enc r_25) (aa (vI s_32) ?_)))
     obtain ⟨y_40,hy_41,hc_33⟩:=bind_some hc_33
     refine dB kG rfl rfl hy_41 rfl wz (bA fT ni rfl (.d (.agg (Log_.enc y_40))) rfl wz ?_)
     obtain ⟨r_42,hr_43,hc_33⟩:=bind_some hc_33
     refine aB (kZ hr_43) rfl hb23 rfl rfl rfl rfl wz (aa (vB (r_42==0)) (ah ?_))
     rcases aj hc_33 with⟨hc_44,hc_33⟩|⟨hc_44,hc_33⟩
     ·refine aA rfl hc_44 (ai (aa .nil (aa (vI 13) (ah ?_))))
      obtain rfl:=ae hc_33
      obtain rfl:=ae hL_34
      obtain rfl:=ae hF
      exact ay (aK [.nil,(vI 13)] ⟨rfl,⟨rfl,trivial⟩⟩)
     ·refine ax rfl hc_44 (av (au (aa (vI s_32) (aa (vI (w64 (s_32+1))) (aa (vI (w64 (s_32+1))) (ah ?_))))))
      obtain rfl:=ae hc_33
      exact aS (k_27,(w64 (s_32+1))) hL_34 (ls_ _) rfl (aI rfl)
    ·refine ax rfl hc_37 (aV ?_)
     obtain rfl:=ae hc_33
     obtain rfl:=ae hL_34
     exact aU (s_32) rfl rfl (aI rfl)
  ·rintro s_32 ho_ sl_ H_ hp_ hq_
   subst ho_
   refine aO _ hp_ hq_ (ak (ai (aa (vL Log_.enc r_25) (bG lX rfl wz (aa (vB (decide ((r_25.length:Int)>2000))) (ah ?_))))))
   rcases aj hF with⟨hc_45,hF⟩|⟨hc_45,hF⟩
   ·refine aA rfl hc_45 (ai (aa .nil (aa (vI 2) (ah ?_))))
    obtain rfl:=ae hF
    exact ay (aK [.nil,(vI 2)] ⟨rfl,⟨rfl,trivial⟩⟩)
   ·refine ax rfl hc_45 (av (ai (aa (vL Log_.enc r_25) (aa (vL Log_.enc r_25) (aa (vI 0) (ah ?_))))))
    obtain rfl:=ae hF
    exact ay (aK [(vL Log_.enc r_25),(vI 0)] ⟨rfl,⟨rfl,trivial⟩⟩)
theorem NH:tH Tryz.prog 28 63 61 9 :=
 Mh Tryz.lays166 Tryz.Builder_Extra_166
theorem NW:BldT Tryz.prog 61 9 5 :=
 ⟨by kernel_rfl,by kernel_rfl,by kernel_rfl,by kernel_rfl,by kernel_rfl,rfl⟩
theorem Nt:zy Tryz.prog 30 63 :=
 lenDoes Tryz.lays170
theorem Og:xH Tryz.prog 31 63 :=
 strDoes Tryz.lays169 Tryz.Builder_Extra_169 rfl
theorem Ei {l_1:(List Log_)} {r:ByteArray×Int} (hF:rF l_1=some r) :
  FnM Tryz.prog 14 [(vL Log_.enc l_1)] [] (.tup [(vS r.1),(vI r.2)]) []:=by
 refine FnM.of_wH ⟨Tryz.prog,31,[5],[]⟩ rfl Tryz.func14 rfl rfl (lb_ rfl) (by kernel_rfl) ?_
 unfold rF at hF
 refine ai (aa (vS (⟨#[]⟩:ByteArray)) (aa (vI 0) (ah (ak (ai (aa (vL Log_.enc l_1) ?_))))))
 obtain ⟨r_2,hr_3,hF⟩:=bind_some hF
 refine aB (fZ hr_3) rfl Lv rfl rfl rfl rfl wz (aa (vI r_2) (ah (ai (aa (vI r_2) (aa (vB (r_2 != 0)) (ah ?_))))))
 rcases aj hF with⟨hc_4,hF⟩|⟨hc_4,hF⟩
 ·refine aA rfl hc_4 (ai (aa (vI r_2) (aa (vS (⟨#[]⟩:ByteArray)) (aa (vI r_2) (ah ?_)))))
  obtain rfl:=ae hF
  exact ay (aK [(vS (⟨#[]⟩:ByteArray)),(vI r_2)] ⟨rfl,⟨rfl,trivial⟩⟩)
 ·refine ax rfl hc_4 (av (ai (NA 0 (.inl rfl) z63 wz (λn_5=>Fg (λn_6=>KT (b':=some (.cells (1048576+63) [.any,gV n_6 1 ([]:List Int)])) 0 rfl rfl (ah (ak (ai (aa (vL Log_.enc l_1) (bG lX rfl wz (aa (vI 0) (ah ?_))))))))))))
  obtain ⟨o_17,hj_18,hF⟩:=bind_some hF
  obtain ⟨hn_11,hj_18⟩:=bg hj_18
  refine jc (σ:=(List Int)) (N:=Nm) (λp=>(λ(s_12:List Int) (n_14:Nm)=>([(5,(.ref n_5 0 0))]:SL_)) p.1 p.2) (λp=>(λ(s_12:List Int) (n_14:Nm)=>([(n_5,some (.cells (1048576+63) [.any,(gV n_14 1 s_12)])),(n_14,gB 1 (eK .u8) s_12)]:Hp)) p.1 p.2) (λ(k_7:Nat)=>(λp=>(λ(s_12:List Int) (n_14:Nm)=>([(5,(.ref n_5 0 0)),(13,(vL Log_.enc l_1)),(14,(vI (l_1.length:Int))),(15,(vI (k_7:Int)))]:SL_)) p.1 p.2)) (λk x s=>j5 k x s) o_17 l_1 (([]:List Int),n_6) hj_18 rfl (aI rfl) ?_ ?_
  ·rintro ⟨k_7,l_8,s_12,n_14⟩ ⟨hL_16,hD_10⟩
   dsimp only at hL_16 hD_10
   cases l_8 with
   | nil =>
    obtain rfl:=ae hL_16
    refine ai (aa (vB (decide ((k_7:Int)<(l_1.length:Int)))) (ah ?_))
    refine ak (ax rfl (drop_nil hD_10) (aV ?_))
    exact aU (s_12,n_14) rfl rfl (aI rfl)
   | cons x_9 l_8 =>
    obtain ⟨c_,hc_15,hL_16⟩:=bind_some hL_16
    refine ai (aa (vB (decide ((k_7:Int)<(l_1.length:Int)))) (ah ?_))
    refine ak (aA rfl (bz hD_10) (av ?_))
    unfold j5 at hc_15
    refine ak (aN (ai (dB kG rfl rfl (bK hD_10) rfl wz (bA fT ni rfl (.d (.agg (Log_.enc x_9))) rfl wz (dK 0 (.inl rfl) z30 rfl wz (λn_19=>gP 0 il ft 2 fT rfl rfl (Log_.v x_9) rfl wz (ah (aZ (aH 0 2 (.inr (by kernel_rfl)) (λ_ _ ag=>trivial) fT ni rfl rfl (.d (.agg (Log_.enc x_9))) rfl wz ?_)))))))))
    obtain ⟨r_20,hr_21,hc_15⟩:=bind_some hc_15
    refine aB (ym hr_21) rfl hb29 rfl rfl rfl rfl wz ?_
    obtain ⟨s_22,hz_23,hc_15⟩:=bind_some hc_15
    refine sj rfl rfl hz_23 wz (aJ Av rfl 5 rfl wz (aH 4 2 (.inr (by kernel_rfl)) (λ_ _ ag=>⟨.inl ⟨rfl,rfl⟩,trivial⟩) sz9 ag9 rfl rfl (vS x_9.Sum) rfl wz ?_))
    obtain ⟨s_24,hz_25,hc_15⟩:=bind_some hc_15
    refine sj rfl rfl hz_25 wz ?_
    obtain ⟨s_26,hz_27,hc_15⟩:=bind_some hc_15
    refine sj rfl rfl hz_27 wz ?_
    obtain ⟨a_28,hz_29,hc_15⟩:=bind_some hc_15
    refine LY 7 0 1 (.inr (by kernel_rfl)) (λ_ _ ag=>⟨.inr (.inr (by kernel_rfl)),⟨.inr (.inr (by kernel_rfl)),trivial⟩⟩) NH NW rfl hb28 rfl rfl rfl rfl (by decide) hz_29 wz (λn_30=>ah (au (fq (bH hD_10 hn_11) wz rfl (aa (vI ((k_7+1:Nat):Int)) (ah ?_)))))
    obtain rfl:=ae hc_15
    exact aS (k_7+1,l_8,a_28,n_30) ⟨hL_16,aR hD_10⟩ (ls_ _) rfl (aI rfl)
  ·rintro ⟨s_12,n_14⟩ ho_ sl_ H_ hp_ hq_
   subst ho_
   refine aO _ hp_ hq_ (ak (ai (h_blenL 0 0 1 il ft Nt rfl hb30 rfl rfl rfl (by decide) wz (aa (vB (decide ((s_12.length:Int)>200000))) (ah ?_)))))
   rcases aj hF with⟨hc_31,hF⟩|⟨hc_31,hF⟩
   ·refine aA rfl hc_31 (ai (aa (vS (⟨#[]⟩:ByteArray)) (aa (vI 2) (ah ?_))))
    obtain rfl:=ae hF
    exact ay (aK [(vS (⟨#[]⟩:ByteArray)),(vI 2)] ⟨rfl,⟨rfl,trivial⟩⟩)
   ·refine ax rfl hc_31 (av (ai ?_))
    obtain ⟨s_32,hz_33,hF⟩:=bind_some hF
    refine h_bstrL 0 0 1 il ft Og rfl hb31 rfl rfl rfl (by decide) hz_33 wz (aa (vS s_32) (aa (vI 0) (ah ?_)))
    obtain rfl:=ae hF
    exact ay (aK [(vS s_32),(vI 0)] ⟨rfl,⟨rfl,trivial⟩⟩)
theorem ug {x0:ByteArray} {x1:ByteArray} {r:(List ByteArray)} (hF:strings_Split x0 x1=some r) :
  FnM Tryz.prog 50 [(vS x0),(vS x1)] [] (vL eS r) [] :=
 NJ rfl Tryz.strings_Split Bg hF
theorem Fq {s_1:ByteArray} {r:(List ByteArray)×Bool} (hF:uq s_1=some r) :
  FnM Tryz.prog 32 [(vS s_1)] [] (.tup [(vL eS r.1),(vB r.2)]) []:=by
 refine FnM.of_wH ⟨Tryz.prog,19,[],[]⟩ rfl Tryz.func32 rfl rfl (lb_ rfl) (by kernel_rfl) ?_
 unfold uq at hF
 refine ai (aa .nil (aa (vB false) (ah (ai (aa (vS s_1) ?_)))))
 obtain ⟨r_2,hr_3,hF⟩:=bind_some hF
 refine aB (ug hr_3) rfl hb50 rfl rfl rfl rfl wz (aa (vL eS r_2) (ah (ai (aa (vL eS r_2) (bG AU rfl wz (aa (vI (w64 ((r_2.length:Int)-1))) (aa (vI (w64 ((r_2.length:Int)-1))) (ah (ak (ai (aa (vL eS r_2) (aa (vI (w64 ((r_2.length:Int)-1))) ?_))))))))))))
 obtain ⟨y_4,hy_5,hF⟩:=bind_some hF
 refine dB yT rfl rfl hy_5 rfl wz (bA sz9 ag9 rfl (vS y_4) rfl wz (aa (vB (sEq y_4 (⟨#[]⟩:ByteArray))) (ah ?_)))
 rcases aj hF with⟨hc_6,hF⟩|⟨hc_6,hF⟩
 ·refine aA rfl hc_6 (ai (aa (vL eS r_2) (aa (vI (w64 ((r_2.length:Int)-1))) ?_)))
  obtain ⟨y_7,hy_8,hF⟩:=bind_some hF
  refine wm AU sz9 (λ_=>rfl) rfl rfl hy_8 wz (aa (vL eS y_7) (aa (vB true) (ah ?_)))
  obtain rfl:=ae hF
  exact ay (aK [(vL eS y_7),(vB true)] ⟨rfl,⟨rfl,trivial⟩⟩)
 ·refine ax rfl hc_6 (av (ai (aa (vL eS r_2) (aa (vL eS r_2) (aa (vB false) (ah ?_))))))
  obtain rfl:=ae hF
  exact ay (aK [(vL eS r_2),(vB false)] ⟨rfl,⟨rfl,trivial⟩⟩)
theorem pG {s_1:(List ByteArray)} {v_2:ByteArray} {r:Int} (hF:dW s_1 v_2=some r) :
  FnM Tryz.prog 118 [(vL eS s_1),(vS v_2)] [] (vI r) []:=by
 refine FnM.of_wH ⟨Tryz.prog,19,[],[]⟩ rfl Tryz.func118 rfl rfl (lb_ rfl) (by kernel_rfl) ?_
 unfold dW at hF
 refine ai (aa (vI 0) (ah (ak (ai (aa (vL eS s_1) (bG AU rfl wz (aa (vI 0) (ah ?_))))))))
 obtain ⟨o_11,hj_12,hF⟩:=bind_some hF
 obtain ⟨hn_7,hj_12⟩:=bg hj_12
 refine cK (λ(s_8:Unit)=>[]) (λ(s_8:Unit)=>[]) (λ(k_3:Nat)=>(λ(s_8:Unit)=>[(0,(vL eS s_1)),(1,(vS v_2)),(7,(vI (s_1.length:Int))),(8,(vI (k_3:Int)))])) (λk x s=>cO v_2 k x s) o_11 s_1 () hj_12 rfl (aI rfl) ?_ ?_
 ·rintro ⟨k_3,l_4,s_8⟩ ⟨hL_10,hD_6⟩
  dsimp only at hL_10 hD_6
  cases l_4 with
  | nil =>
   obtain rfl:=ae hL_10
   refine ai (aa (vB (decide ((k_3:Int)<(s_1.length:Int)))) (ah ?_))
   refine ak (ax rfl (drop_nil hD_6) (aV ?_))
   exact aU (s_8) rfl rfl (aI rfl)
  | cons x_5 l_4 =>
   obtain ⟨c_,hc_9,hL_10⟩:=bind_some hL_10
   refine ai (aa (vB (decide ((k_3:Int)<(s_1.length:Int)))) (ah ?_))
   refine ak (aA rfl (bz hD_6) (av ?_))
   unfold cO at hc_9
   refine ak (aN (ai (aa (vI (k_3:Int)) (aa (vI (k_3:Int)) (ah (ai (aa (vS v_2) (aa (vL eS s_1) (aa (vI (k_3:Int)) (dB yT rfl rfl (bK hD_6) rfl wz (bA sz9 ag9 rfl (vS x_5) rfl wz (aa (vB (sEq v_2 x_5)) (ah ?_)))))))))))))
   rcases aj hc_9 with⟨hc_13,hc_9⟩|⟨hc_13,hc_9⟩
   ·refine aA rfl hc_13 (ai (aa (vI (k_3:Int)) (aa (vI (k_3:Int)) (ah ?_))))
    obtain rfl:=ae hc_9
    obtain rfl:=ae hL_10
    obtain rfl:=ae hF
    exact ay (aK [(vI (k_3:Int))] ⟨rfl,trivial⟩)
   ·refine ax rfl hc_13 (av (au (fq (bH hD_6 hn_7) wz rfl (aa (vI ((k_3+1:Nat):Int)) (ah ?_)))))
    obtain rfl:=ae hc_9
    exact aS (k_3+1,l_4,()) ⟨hL_10,aR hD_6⟩ (ls_ _) rfl (aI rfl)
 ·rintro s_8 ho_ sl_ H_ hp_ hq_
  subst ho_
  refine aO _ hp_ hq_ (ai (aa (vI (-1)) (ah ?_)))
  obtain rfl:=ae hF
  exact ay (aK [(vI (-1))] ⟨rfl,trivial⟩)
theorem nC {s_1:(List ByteArray)} {v_2:ByteArray} {r:Bool} (hF:fe s_1 v_2=some r) :
  FnM Tryz.prog 82 [(vL eS s_1),(vS v_2)] [] (vB r) []:=by
 refine FnM.of_wH ⟨Tryz.prog,9,[],[]⟩ rfl Tryz.func82 rfl rfl (lb_ rfl) (by kernel_rfl) ?_
 unfold fe at hF
 refine ai (aa (vB false) (ah (ai (aa (vL eS s_1) (aa (vS v_2) ?_)))))
 obtain ⟨r_3,hr_4,hF⟩:=bind_some hF
 refine aB (pG hr_4) rfl hb118 rfl rfl rfl rfl wz (aa (vB (decide (r_3>=0))) (aa (vB (decide (r_3>=0))) (ah ?_)))
 obtain rfl:=ae hF
 exact ay (aK [(vB (decide (r_3>=0)))] ⟨rfl,trivial⟩)
theorem Ga {s_1:ByteArray} {r:(List ByteArray)×Bool} (hF:tC s_1=some r) :
  FnM Tryz.prog 51 [(vS s_1)] [] (.tup [(vL eS r.1),(vB r.2)]) []:=by
 refine FnM.of_wH ⟨Tryz.prog,11,[],[]⟩ rfl Tryz.func51 rfl rfl (lb_ rfl) (by kernel_rfl) ?_
 unfold tC at hF
 refine ai (aa .nil (aa (vB false) (ah (ai (aa (vS s_1) ?_)))))
 obtain ⟨r_2,hr_3,hF⟩:=bind_some hF
 refine aB (ug hr_3) rfl hb50 rfl rfl rfl rfl wz (aa (vL eS r_2) (ah (ai (aa (vL eS r_2) (aa (vL eS r_2) ?_)))))
 obtain ⟨r_4,hr_5,hF⟩:=bind_some hF
 refine aB (nC hr_5) rfl hb82 rfl rfl rfl rfl wz (aa (vB (!r_4)) (aa (vL eS r_2) (aa (vB (!r_4)) (ah ?_))))
 obtain rfl:=ae hF
 exact ay (aK [(vL eS r_2),(vB (!r_4))] ⟨rfl,⟨rfl,trivial⟩⟩)
theorem ny {s_1:ByteArray} {prefixv_2:ByteArray} {r:Bool} (hF:ek s_1 prefixv_2=some r) :
  FnM Tryz.prog 141 [(vS s_1),(vS prefixv_2)] [] (vB r) []:=by
 refine FnM.of_wH ⟨Tryz.prog,18,[],[]⟩ rfl Tryz.func141 rfl rfl (lb_ rfl) (by kernel_rfl) ?_
 unfold ek at hF
 refine ai (aa (vB false) (ah (ak ?_)))
 obtain ⟨v_3,h_4,hF⟩:=bind_some hF
 refine aM [(4,(vB v_3))] [] ?_ ?_
 ·refine au (aa (vS s_1) (nD un9 rfl wz (aa (vS prefixv_2) (nD un9 rfl wz (aa (vB (decide ((s_1.size:Int)>=(prefixv_2.size:Int)))) ?_)))))
  rcases aj h_4 with⟨hc_5,h_4⟩|⟨hc_5,h_4⟩
  ·refine aC rfl hc_5 wz (aG (vS s_1) wa rfl (aG (vS prefixv_2) wa rfl (nD un9 rfl wa ?_)))
   obtain ⟨y_6,hy_7,h_4⟩:=bind_some h_4
   refine CL un9 rfl rfl hy_7 wa (aG (vS prefixv_2) wa rfl (aG (vB (sEq y_6 prefixv_2)) wa rfl (aa (vB (sEq y_6 prefixv_2)) (aa (vB (sEq y_6 prefixv_2)) (ah ?_)))))
   obtain rfl:=ae h_4
   exact cu
  ·refine aC rfl hc_5 wz (af (af (af (af (af (af (aa (vB false) (aa (vB false) (ah ?_)))))))))
   obtain rfl:=ae h_4
   exact cu
 ·rintro ⟨⟩ _ sl_ H_ hp_ hq_
  refine aO _ hp_ hq_ ?_
  obtain rfl:=ae hF
  exact ay (aK [(vB v_3)] ⟨rfl,trivial⟩)
theorem mF {s_1:ByteArray} {prefixv_2:ByteArray} {r:ByteArray} (hF:dR s_1 prefixv_2=some r) :
  FnM Tryz.prog 119 [(vS s_1),(vS prefixv_2)] [] (vS r) []:=by
 refine FnM.of_wH ⟨Tryz.prog,13,[],[]⟩ rfl Tryz.func119 rfl rfl (lb_ rfl) (by kernel_rfl) ?_
 unfold dR at hF
 refine ai (aa (vS (⟨#[]⟩:ByteArray)) (ah (ak (ai (aa (vS s_1) (aa (vS prefixv_2) ?_))))))
 obtain ⟨r_3,hr_4,hF⟩:=bind_some hF
 refine aB (ny hr_4) rfl hb141 rfl rfl rfl rfl wz (ah ?_)
 rcases aj hF with⟨hc_5,hF⟩|⟨hc_5,hF⟩
 ·refine aA rfl hc_5 (ai (aa (vS s_1) (aa (vS prefixv_2) (nD un9 rfl wz ?_))))
  obtain ⟨y_6,hy_7,hF⟩:=bind_some hF
  refine Cj un9 rfl rfl hy_7 wz (aa (vS y_6) (ah ?_))
  obtain rfl:=ae hF
  exact ay (aK [(vS y_6)] ⟨rfl,trivial⟩)
 ·refine ax rfl hc_5 (av (ai (aa (vS s_1) (aa (vS s_1) (ah ?_)))))
  obtain rfl:=ae hF
  exact ay (aK [(vS s_1)] ⟨rfl,trivial⟩)
theorem ww {s_1:ByteArray} {prefixv_2:ByteArray} {r:ByteArray} (hF:strings_TrimPrefix s_1 prefixv_2=some r) :
  FnM Tryz.prog 83 [(vS s_1),(vS prefixv_2)] [] (vS r) []:=by
 refine FnM.of_wH ⟨Tryz.prog,8,[],[]⟩ rfl Tryz.func83 rfl rfl (lb_ rfl) (by kernel_rfl) ?_
 unfold strings_TrimPrefix at hF
 refine ai (aa (vS (⟨#[]⟩:ByteArray)) (ah (ai (aa (vS s_1) (aa (vS prefixv_2) ?_)))))
 obtain ⟨r_3,hr_4,hF⟩:=bind_some hF
 refine aB (mF hr_4) rfl hb119 rfl rfl rfl rfl wz (aa (vS r_3) (ah ?_))
 obtain rfl:=ae hF
 exact ay (aK [(vS r_3)] ⟨rfl,trivial⟩)
theorem strconv_Atoi_ok {x0:ByteArray} {r:Int} (hF:strconv_Atoi x0=some r) :
  FnM Tryz.prog 84 [(.d (.str x0))] [] (.tup [(.d (.int .i64 r)),.nili]) [] :=
 atoi_ok rfl Tryz.strconv_Atoi hF
theorem sU {s_1:ByteArray} {most_2:Int} {r:Int×Bool} (hF:jk s_1 most_2=some r) :
  FnM Tryz.prog 52 [(vS s_1),(vI most_2)] [] (.tup [(vI r.1),(vB r.2)]) []:=by
 refine FnM.of_wH ⟨Tryz.prog,53,[],[]⟩ rfl Tryz.func52 rfl rfl (lb_ rfl) (by kernel_rfl) ?_
 unfold jk at hF
 refine ai (aa (vI 0) (aa (vB false) (ah (ai (aa (vS s_1) ?_)))))
 obtain ⟨r_3,hr_4,hF⟩:=bind_some hF
 refine aB (ww hr_4) rfl hb83 rfl rfl rfl rfl wz (aa (vS r_3) (ah (ak (ak ?_))))
 obtain ⟨v_5,h_6,hF⟩:=bind_some hF
 refine aM [(0,(vS s_1)),(6,(vS r_3)),(28,(vB v_5))] [] ?_ ?_
 ·refine au (aa (vS r_3) (aa (vB (sEq r_3 (⟨#[]⟩:ByteArray))) ?_))
  rcases aj h_6 with⟨hc_7,h_6⟩|⟨hc_7,h_6⟩
  ·refine aC rfl hc_7 wz (af (af (af (af (aa (vB true) (aa (vB true) (af (af (af (af (bQ (wn rfl rfl) (bQ (wn rfl rfl) (af (aa (vB true) (ah ?_)))))))))))))))
   obtain rfl:=ae h_6
   exact cu
  ·refine aC rfl hc_7 wz (aG (vS r_3) wa rfl (nD un9 rfl wa (aG (vI most_2) wa rfl (aG (vB (decide ((r_3.size:Int)>most_2))) wa rfl (aa (vB (decide ((r_3.size:Int)>most_2))) ?_)))))
   rcases aj h_6 with⟨hc_8,h_6⟩|⟨hc_8,h_6⟩
   ·refine aC rfl hc_8 wz (af (af (af (af (bQ (wn rfl rfl) (bQ (wn rfl rfl) (af (aa (vB true) (ah ?_)))))))))
    obtain rfl:=ae h_6
    exact cu
   ·refine aC rfl hc_8 wz (aG (vS r_3) wa rfl ?_)
    obtain ⟨b_9,hy_10,h_6⟩:=bind_some h_6
    refine qg un9 rfl rfl hy_10 wa (aG (vB ((b_9.toNat:Int)==48)) wa rfl ?_)
    rcases aj h_6 with⟨hc_11,h_6⟩|⟨hc_11,h_6⟩
    ·refine aC rfl hc_11 wa (aG (vS s_1) wa rfl (aG (vB (sNe s_1 (⟨#[48]⟩:ByteArray))) wa rfl (aG (vB (sNe s_1 (⟨#[48]⟩:ByteArray))) wa rfl (aa (vB (sNe s_1 (⟨#[48]⟩:ByteArray))) (ah ?_)))))
     obtain rfl:=ae h_6
     exact cu
    ·refine aC rfl hc_11 wa (af (af (aG (vB false) wa rfl (aa (vB false) (ah ?_)))))
     obtain rfl:=ae h_6
     exact cu
 ·rintro ⟨⟩ _ sl_ H_ hp_ hq_
  refine aO _ hp_ hq_ ?_
  rcases aj hF with⟨hc_12,hF⟩|⟨hc_12,hF⟩
  ·refine aA rfl hc_12 (ai (aa (vI 0) (aa (vB false) (ah ?_))))
   obtain rfl:=ae hF
   exact ay (aK [(vI 0),(vB false)] ⟨rfl,⟨rfl,trivial⟩⟩)
  ·refine ax rfl hc_12 (av (ak (ai (aa (vI 0) (ah ?_)))))
   obtain ⟨o_21,hj_22,hF⟩:=bind_some hF
   obtain ⟨nq_34,hj_22⟩:=cB hj_22
   refine dJ (λ(s_18:Int)=>[(0,(vS s_1))]) (λ(s_18:Int)=>[]) (λ(k_13:Nat)=>(λ(s_18:Int)=>[(0,(vS s_1)),(6,(vS r_3)),(7,(vI s_18))])) (λs=>jl r_3 s) o_21 nq_34 0 hj_22 rfl (aI rfl) ?_ ?_
   ·rintro ⟨k_13,s_18⟩ hL_20
    dsimp only at hL_20
    cases k_13 with
    | zero=>cases hL_20
    | succ k_13 =>
     obtain ⟨c_,hc_19,hL_20⟩:=bind_some hL_20
     unfold jl at hc_19
     refine ak (ai (aa (vI s_18) (aa (vS r_3) (nD un9 rfl wz (aa (vB (decide (s_18<(r_3.size:Int)))) (ah ?_))))))
     rcases aj hc_19 with⟨hc_23,hc_19⟩|⟨hc_23,hc_19⟩
     ·refine aA rfl hc_23 (av (ak (aN (ak ?_))))
      obtain ⟨v_24,h_25,hc_19⟩:=bind_some hc_19
      refine aM [(0,(vS s_1)),(6,(vS r_3)),(7,(vI s_18)),(44,(vB v_24))] [] ?_ ?_
      ·refine au (aa (vS r_3) (aa (vI s_18) ?_))
       obtain ⟨b_26,hy_27,h_25⟩:=bind_some h_25
       refine qg un9 rfl rfl hy_27 wz (aa (vB (decide ((b_26.toNat:Int)<48))) ?_)
       rcases aj h_25 with⟨hc_28,h_25⟩|⟨hc_28,h_25⟩
       ·refine aC rfl hc_28 wz (af (af (af (af (aa (vB true) (ah ?_))))))
        obtain rfl:=ae h_25
        exact cu
       ·refine aC rfl hc_28 wz (aG (vS r_3) wa rfl (aG (vI s_18) wa rfl ?_))
        obtain ⟨b_29,hy_30,h_25⟩:=bind_some h_25
        refine qg un9 rfl rfl hy_30 wa (aG (vB (decide ((b_29.toNat:Int)>57))) wa rfl (aa (vB (decide ((b_29.toNat:Int)>57))) (ah ?_)))
        obtain rfl:=ae h_25
        exact cu
      ·rintro ⟨⟩ _ sl_ H_ hp_ hq_
       refine aO _ hp_ hq_ ?_
       rcases aj hc_19 with⟨hc_31,hc_19⟩|⟨hc_31,hc_19⟩
       ·refine aA rfl hc_31 (ai (aa (vI 0) (aa (vB false) (ah ?_))))
        obtain rfl:=ae hc_19
        obtain rfl:=ae hL_20
        obtain rfl:=ae hF
        exact ay (aK [(vI 0),(vB false)] ⟨rfl,⟨rfl,trivial⟩⟩)
       ·refine ax rfl hc_31 (av (au (aa (vI s_18) (aa (vI (w64 (s_18+1))) (aa (vI (w64 (s_18+1))) (ah ?_))))))
        obtain rfl:=ae hc_19
        exact aS (k_13,(w64 (s_18+1))) hL_20 (ls_ _) rfl (aI rfl)
     ·refine ax rfl hc_23 (aV ?_)
      obtain rfl:=ae hc_19
      obtain rfl:=ae hL_20
      exact aU (s_18) rfl rfl (aI rfl)
   ·rintro s_18 ho_ sl_ H_ hp_ hq_
    subst ho_
    refine aO _ hp_ hq_ (ai (aa (vS s_1) ?_))
    obtain ⟨r_32,hr_33,hF⟩:=bind_some hF
    refine aB (strconv_Atoi_ok hr_33) rfl hb84 rfl rfl rfl rfl wz (aa (.tup [(vI r_32),.nili]) (aa (vI r_32) (aa .nili (aa (vI r_32) (aa .nili (ah (ak (aZ (aa (vI r_32) (aa .nili (h_ieq if65 rfl rfl rfl wz (aa (vI r_32) (aa (vB true) (ah ?_))))))))))))))
    obtain rfl:=ae hF
    exact ay (aK [(vI r_32),(vB true)] ⟨rfl,⟨rfl,trivial⟩⟩)
theorem Ar {s_1:ByteArray} {r:Log_×Bool} (hF:lW s_1=some r) :
  FnM Tryz.prog 33 [(vS s_1)] [] (.tup [(.d (.agg (Log_.enc r.1))),(vB r.2)]) []:=by
 refine FnM.of_wH ⟨Tryz.prog,66,[],[]⟩ rfl Tryz.func33 rfl rfl (lb_ rfl) (by kernel_rfl) ?_
 unfold lW at hF
 refine ai (dK 0 (.inl rfl) z30 rfl wz (λn_2=>aa (vB false) (ah (ai (aa (vS s_1) ?_)))))
 obtain ⟨r_3,hr_4,hF⟩:=bind_some hF
 refine aB (Ga hr_4) rfl hb51 rfl rfl rfl rfl wz (aa (.tup [(vL eS r_3.1),(vB r_3.2)]) (aa (vL eS r_3.1) (aa (vB r_3.2) (aa (vL eS r_3.1) (aa (vB r_3.2) (ah (ak (ak ?_))))))))
 obtain ⟨v_5,h_6,hF⟩:=bind_some hF
 refine aM [(2,(.ref n_2 0 0)),(4,(vL eS r_3.1)),(23,(vB v_5))] [(n_2,some (.cells 6 [(vS (⟨#[]⟩:ByteArray)),(vS (⟨#[]⟩:ByteArray)),(vI 0),(vI 0),(vI 0),(vS (⟨#[]⟩:ByteArray))]))] ?_ ?_
 ·refine au (aa (vB r_3.2) (aa (vB (!r_3.2)) ?_))
  rcases aj h_6 with⟨hc_7,h_6⟩|⟨hc_7,h_6⟩
  ·refine aC rfl hc_7 wz (af (af (af (aa (vB true) (ah ?_)))))
   obtain rfl:=ae h_6
   exact cu
  ·refine aC rfl hc_7 wz (aG (vL eS r_3.1) wa rfl (bG AU rfl wa (aG (vB ((r_3.1.length:Int) != 6)) wa rfl (aa (vB ((r_3.1.length:Int) != 6)) (ah ?_)))))
   obtain rfl:=ae h_6
   exact cu
 ·rintro ⟨⟩ _ sl_ H_ hp_ hq_
  refine aO _ hp_ hq_ ?_
  rcases aj hF with⟨hc_8,hF⟩|⟨hc_8,hF⟩
  ·refine aA rfl hc_8 (ai (aG (.d (.agg (Log_.enc (⟨(⟨#[]⟩:ByteArray),(⟨#[]⟩:ByteArray),0,0,0,(⟨#[]⟩:ByteArray)⟩:Log_)))) wz (by kernel_rfl) (gP 0 il ft 0 fT rfl rfl [(vS (⟨#[]⟩:ByteArray)),(vS (⟨#[]⟩:ByteArray)),(vI 0),(vI 0),(vI 0),(vS (⟨#[]⟩:ByteArray))] rfl wz (aa (vB false) (ah ?_)))))
   obtain rfl:=ae hF
   exact ay (aK [(.d (.agg (Log_.enc (⟨(⟨#[]⟩:ByteArray),(⟨#[]⟩:ByteArray),0,0,0,(⟨#[]⟩:ByteArray)⟩:Log_)))),(vB false)] ⟨⟨0,_,_,_,_,_,_,_,rfl,rfl,fT,ni,rfl⟩,⟨rfl,trivial⟩⟩)
  ·refine ax rfl hc_8 (av (ai (aa (vL eS r_3.1) ?_)))
   obtain ⟨y_9,hy_10,hF⟩:=bind_some hF
   refine dB yT rfl rfl hy_10 rfl wz (bA sz9 ag9 rfl (vS y_9) rfl wz ?_)
   obtain ⟨r_11,hr_12,hF⟩:=bind_some hF
   refine aB (sU hr_12) rfl hb52 rfl rfl rfl rfl wz (aa (.tup [(vI r_11.1),(vB r_11.2)]) (aa (vI r_11.1) (aa (vB r_11.2) (aa (vI r_11.1) (aa (vB r_11.2) (ah (ai (aa (vL eS r_3.1) ?_))))))))
   obtain ⟨y_13,hy_14,hF⟩:=bind_some hF
   refine dB yT rfl rfl hy_14 rfl wz (bA sz9 ag9 rfl (vS y_13) rfl wz ?_)
   obtain ⟨r_15,hr_16,hF⟩:=bind_some hF
   refine aB (sU hr_16) rfl hb52 rfl rfl rfl rfl wz (aa (.tup [(vI r_15.1),(vB r_15.2)]) (aa (vI r_15.1) (aa (vB r_15.2) (aa (vI r_15.1) (aa (vB r_15.2) (ah (ai (aa (vL eS r_3.1) ?_))))))))
   obtain ⟨y_17,hy_18,hF⟩:=bind_some hF
   refine dB yT rfl rfl hy_18 rfl wz (bA sz9 ag9 rfl (vS y_17) rfl wz ?_)
   obtain ⟨r_19,hr_20,hF⟩:=bind_some hF
   refine aB (sU hr_20) rfl hb52 rfl rfl rfl rfl wz (aa (.tup [(vI r_19.1),(vB r_19.2)]) (aa (vI r_19.1) (aa (vB r_19.2) (aa (vI r_19.1) (aa (vB r_19.2) (ah (ak ?_)))))))
   obtain ⟨v_21,h_22,hF⟩:=bind_some hF
   refine aM [(2,(.ref n_2 0 0)),(3,(vB v_21.1))] [(n_2,some (.cells 6 [(vS v_21.2.1),(vS v_21.2.2.1),(vI r_11.1),(vI r_15.1),(vI r_19.1),(vS v_21.2.2.2)]))] ?_ ?_
   ·refine aZ (aa (vL eS r_3.1) ?_)
    obtain ⟨y_23,hy_24,h_22⟩:=bind_some h_22
    refine dB yT rfl rfl hy_24 rfl wz (bA sz9 ag9 rfl (vS y_23) rfl wz (aa (vL eS r_3.1) ?_))
    obtain ⟨y_25,hy_26,h_22⟩:=bind_some h_22
    refine dB yT rfl rfl hy_26 rfl wz (bA sz9 ag9 rfl (vS y_25) rfl wz (aa (vI r_11.1) (aa (vI r_15.1) (aa (vI r_19.1) (aa (vL eS r_3.1) ?_)))))
    obtain ⟨y_27,hy_28,h_22⟩:=bind_some h_22
    refine dB yT rfl rfl hy_28 rfl wz (bA sz9 ag9 rfl (vS y_27) rfl wz (aG (.d (.agg (Log_.enc (⟨y_23,y_25,r_11.1,r_15.1,r_19.1,y_27⟩:Log_)))) wz (by kernel_rfl) (aa (vB r_11.2) ?_)))
    rcases aj h_22 with⟨hc_29,h_22⟩|⟨hc_29,h_22⟩
    ·refine aC rfl hc_29 wz (aG (vB r_15.2) wa rfl (aa (vB r_15.2) ?_))
     rcases aj h_22 with⟨hc_30,h_22⟩|⟨hc_30,h_22⟩
     ·refine aC rfl hc_30 wz (aG (vB r_19.2) wa rfl (aa (vB r_19.2) (gP 20 (.inr (by kernel_rfl)) (λ_ _ ag=>trivial) 0 fT rfl rfl [(vS y_23),(vS y_25),(vI r_11.1),(vI r_15.1),(vI r_19.1),(vS y_27)] rfl wz (aa (vB r_19.2) (ah ?_)))))
      obtain rfl:=ae h_22
      exact cu
     ·refine aC rfl hc_30 wz (af (aa (vB false) (gP 20 (.inr (by kernel_rfl)) (λ_ _ ag=>trivial) 0 fT rfl rfl [(vS y_23),(vS y_25),(vI r_11.1),(vI r_15.1),(vI r_19.1),(vS y_27)] rfl wz (aa (vB false) (ah ?_)))))
      obtain rfl:=ae h_22
      exact cu
    ·refine aC rfl hc_29 wz (af (aa (vB false) (aa (vB false) (af (aa (vB false) (gP 20 (.inr (by kernel_rfl)) (λ_ _ ag=>trivial) 0 fT rfl rfl [(vS y_23),(vS y_25),(vI r_11.1),(vI r_15.1),(vI r_19.1),(vS y_27)] rfl wz (aa (vB false) (ah ?_))))))))
     obtain rfl:=ae h_22
     exact cu
   ·rintro ⟨⟩ _ sl_ H_ hp_ hq_
    refine aO _ hp_ hq_ ?_
    obtain rfl:=ae hF
    exact ay (aK [(.d (.agg (Log_.enc (⟨v_21.2.1,v_21.2.2.1,r_11.1,r_15.1,r_19.1,v_21.2.2.2⟩:Log_)))),(vB v_21.1)] ⟨⟨0,_,_,_,_,_,_,_,rfl,rfl,fT,ni,rfl⟩,⟨rfl,trivial⟩⟩)
theorem Ej {text_1:ByteArray} {r:(List Log_)×Int×Int} (hF:rf text_1=some r) :
  FnM Tryz.prog 15 [(vS text_1)] [] (.tup [(vL Log_.enc r.1),(vI r.2.1),(vI r.2.2)]) []:=by
 refine FnM.of_wH ⟨Tryz.prog,58,[],[]⟩ rfl Tryz.func15 rfl rfl (lb_ rfl) (by kernel_rfl) ?_
 unfold rf at hF
 refine ai (aa .nil (aa (vI 0) (aa (vI 0) (ah (ak (ai (aa (vS text_1) (nD un9 rfl wz (aa (vB (decide ((text_1.size:Int)>200000))) (ah ?_))))))))))
 rcases aj hF with⟨hc_2,hF⟩|⟨hc_2,hF⟩
 ·refine aA rfl hc_2 (ai (aa .nil (aa (vI 0) (aa (vI 2) (ah ?_)))))
  obtain rfl:=ae hF
  exact ay (aK [.nil,(vI 0),(vI 2)] ⟨rfl,⟨rfl,⟨rfl,trivial⟩⟩⟩)
 ·refine ax rfl hc_2 (av (ai (aa (vS text_1) ?_)))
  obtain ⟨r_3,hr_4,hF⟩:=bind_some hF
  refine aB (Fq hr_4) rfl hb32 rfl rfl rfl rfl wz (aa (.tup [(vL eS r_3.1),(vB r_3.2)]) (aa (vL eS r_3.1) (aa (vB r_3.2) (aa (vL eS r_3.1) (aa (vB r_3.2) (ah (ai (aa .nil (ah (ak (ai (aa (vL eS r_3.1) (bG AU rfl wz (aa (vI 0) (ah (oJ (λn_11 => ?_)))))))))))))))))
  obtain ⟨o_16,hj_17,hF⟩:=bind_some hF
  obtain ⟨hn_9,hj_17⟩:=bg hj_17
  refine jc (σ:=(List Log_)) (N:=Nm) (λp=>(λ(s_10:List Log_) (n_13:Nm)=>([(7,(gV n_13 6 s_10))]:SL_)) p.1 p.2) (λp=>(λ(s_10:List Log_) (n_13:Nm)=>([(n_13,gB 6 Log_.enc s_10)]:Hp)) p.1 p.2) (λ(k_5:Nat)=>(λp=>(λ(s_10:List Log_) (n_13:Nm)=>([(5,(vL eS r_3.1)),(6,(vB r_3.2)),(7,(gV n_13 6 s_10)),(21,(vL eS r_3.1)),(22,(vI (r_3.1.length:Int))),(23,(vI (k_5:Int)))]:SL_)) p.1 p.2)) (λk x s=>j3 r_3 k x s) o_16 r_3.1 (([]:List Log_),n_11) hj_17 rfl (aI rfl) ?_ ?_
  ·rintro ⟨k_5,l_6,s_10,n_13⟩ ⟨hL_15,hD_8⟩
   dsimp only at hL_15 hD_8
   cases l_6 with
   | nil =>
    obtain rfl:=ae hL_15
    refine ai (aa (vB (decide ((k_5:Int)<(r_3.1.length:Int)))) (ah ?_))
    refine ak (ax rfl (drop_nil hD_8) (aV ?_))
    exact aU (s_10,n_13) rfl rfl (aI rfl)
   | cons x_7 l_6 =>
    obtain ⟨c_,hc_14,hL_15⟩:=bind_some hL_15
    refine ai (aa (vB (decide ((k_5:Int)<(r_3.1.length:Int)))) (ah ?_))
    refine ak (aA rfl (bz hD_8) (av ?_))
    unfold j3 at hc_14
    refine ak (aN (ai (aa (vI (k_5:Int)) (dB yT rfl rfl (bK hD_8) rfl wz (bA sz9 ag9 rfl (vS x_7) rfl wz (aa (vI (k_5:Int)) (aa (vS x_7) (ah (ai (aa (vS x_7) ?_))))))))))
    obtain ⟨r_18,hr_19,hc_14⟩:=bind_some hc_14
    refine aB (Ar hr_19) rfl hb33 rfl rfl rfl rfl wz (aa (.tup [(.d (.agg (Log_.enc r_18.1))),(vB r_18.2)]) (aa (.d (.agg (Log_.enc r_18.1))) (aa (vB r_18.2) (dK 0 (.inl rfl) z30 rfl wz (λn_20=>gP 0 il ft 1 fT rfl rfl (Log_.v r_18.1) rfl wz (aa (vB r_18.2) (ah (ak (ak ?_)))))))))
    obtain ⟨v_21,h_22,hc_14⟩:=bind_some hc_14
    refine aM [(5,(vL eS r_3.1)),(6,(vB r_3.2)),(7,(gV n_13 6 s_10)),(8,(vI (k_5:Int))),(10,(.ref n_20 0 0)),(21,(vL eS r_3.1)),(22,(vI (r_3.1.length:Int))),(23,(vI (k_5:Int))),(45,(vB v_21))] [(n_13,gB 6 Log_.enc s_10),(n_20,some (.cells 6 (Log_.v r_18.1)))] ?_ ?_
    ·refine au (aa (vB r_18.2) (aa (vB (!r_18.2)) ?_))
     rcases aj h_22 with⟨hc_23,h_22⟩|⟨hc_23,h_22⟩
     ·refine aC rfl hc_23 wz (af (af (af (bQ (wn rfl rfl) (bQ (wn rfl rfl) (bQ (wn rfl rfl) (bQ (wn rfl rfl) (bQ (wn rfl rfl) (af (aa (vB true) (ah ?_)))))))))))
      obtain rfl:=ae h_22
      exact cu
     ·refine aC rfl hc_23 wz (aG (vB r_3.2) wa rfl (aG (vB (!r_3.2)) wa rfl ?_))
      rcases aj h_22 with⟨hc_24,h_22⟩|⟨hc_24,h_22⟩
      ·refine aC rfl hc_24 wa (aG (vI (k_5:Int)) wa rfl (aG (vL eS r_3.1) wa rfl (bG AU rfl wa (aG (vI (w64 ((r_3.1.length:Int)-1))) wa rfl (aG (vB ((k_5:Int)==(w64 ((r_3.1.length:Int)-1)))) wa rfl (aG (vB ((k_5:Int)==(w64 ((r_3.1.length:Int)-1)))) wa rfl (aa (vB ((k_5:Int)==(w64 ((r_3.1.length:Int)-1)))) (ah ?_))))))))
       obtain rfl:=ae h_22
       exact cu
      ·refine aC rfl hc_24 wa (af (af (af (af (af (aG (vB false) wa rfl (aa (vB false) (ah ?_))))))))
       obtain rfl:=ae h_22
       exact cu
    ·rintro ⟨⟩ _ sl_ H_ hp_ hq_
     refine aO _ hp_ hq_ ?_
     rcases aj hc_14 with⟨hc_25,hc_14⟩|⟨hc_25,hc_14⟩
     ·refine aA rfl hc_25 (ai (aa (vI (k_5:Int)) (aa .nil (aa (vI (k_5:Int)) (aa (vI 9) (ah ?_))))))
      obtain rfl:=ae hc_14
      obtain rfl:=ae hL_15
      obtain rfl:=ae hF
      exact ay (aK [.nil,(vI (k_5:Int)),(vI 9)] ⟨rfl,⟨rfl,⟨rfl,trivial⟩⟩⟩)
     ·refine ax rfl hc_25 (av (au (aa (gV n_13 6 s_10) (aH 0 1 il ft fT ni rfl rfl (.d (.agg (Log_.enc r_18.1))) rfl wz (iK (([r_18.1]:List Log_).map Log_.enc) kG ez26 rfl rfl rfl rfl rfl wz ?_)))))
      obtain ⟨a_26,hz_27,hc_14⟩:=bind_some hc_14
      refine mQ 0 il ft (i:=0) zw zw fT z30 rfl (by decide) Lm (by decide) (λ_=>rfl) rfl rfl rfl hz_27 wz (λn_28=>aa (gV n_28 6 a_26) (ah (au (fq (bH hD_8 hn_9) wz rfl (aa (vI ((k_5+1:Nat):Int)) (ah ?_))))))
      obtain rfl:=ae hc_14
      exact aS (k_5+1,l_6,a_26,n_28) ⟨hL_15,aR hD_8⟩ (ls_ _) rfl (aI rfl)
  ·rintro ⟨s_10,n_13⟩ ho_ sl_ H_ hp_ hq_
   subst ho_
   refine aO _ hp_ hq_ (ak (ak (gG 0 rfl (eT 7 0 rfl rfl (au (aa (vL Log_.enc s_10) ?_))))))
   obtain ⟨r_29,hr_30,hF⟩:=bind_some hF
   refine aB (fZ hr_30) rfl Lv rfl rfl rfl rfl wz (aa (vI r_29) (ah (ai (aa (vI r_29) (aa (vB (r_29 != 0)) (ah ?_))))))
   rcases aj hF with⟨hc_31,hF⟩|⟨hc_31,hF⟩
   ·refine aA rfl hc_31 (ai (aa (vI r_29) (aa .nil (aa (vI 0) (aa (vI r_29) (ah ?_))))))
    obtain rfl:=ae hF
    exact ay (aK [.nil,(vI 0),(vI r_29)] ⟨rfl,⟨rfl,⟨rfl,trivial⟩⟩⟩)
   ·refine ax rfl hc_31 (av (ai (aa (vL Log_.enc s_10) (aa (vL Log_.enc s_10) (aa (vI 0) (aa (vI 0) (ah ?_)))))))
    obtain rfl:=ae hF
    exact ay (aK [(vL Log_.enc s_10),(vI 0),(vI 0)] ⟨rfl,⟨rfl,⟨rfl,trivial⟩⟩⟩)
theorem tK {s1_1:(List Int)} {s2_2:(List Int)} {r:Bool} (hF:gJ s1_1 s2_2=some r) :
  FnM Tryz.prog 16 [(vL eI s1_1),(vL eI s2_2)] [] (vB r) []:=by
 refine FnM.of_wH ⟨Tryz.prog,26,[],[]⟩ rfl Tryz.func16 rfl rfl (lb_ rfl) (by kernel_rfl) ?_
 unfold gJ at hF
 refine ai (aa (vB false) (ah (ak (ai (aa (vL eI s1_1) (bG uF rfl wz (aa (vL eI s2_2) (bG uF rfl wz (aa (vB ((s1_1.length:Int) != (s2_2.length:Int))) (ah ?_))))))))))
 rcases aj hF with⟨hc_3,hF⟩|⟨hc_3,hF⟩
 ·refine aA rfl hc_3 (ai (aa (vB false) (ah ?_)))
  obtain rfl:=ae hF
  exact ay (aK [(vB false)] ⟨rfl,trivial⟩)
 ·refine ax rfl hc_3 (av (ak (ai (aa (vL eI s1_1) (bG uF rfl wz (aa (vI 0) (ah ?_)))))))
  obtain ⟨o_12,hj_13,hF⟩:=bind_some hF
  obtain ⟨hn_8,hj_13⟩:=bg hj_13
  refine cK (λ(s_9:Unit)=>[]) (λ(s_9:Unit)=>[]) (λ(k_4:Nat)=>(λ(s_9:Unit)=>[(0,(vL eI s1_1)),(1,(vL eI s2_2)),(12,(vI (s1_1.length:Int))),(13,(vI (k_4:Int)))])) (λk x s=>fG s2_2 k x s) o_12 s1_1 () hj_13 rfl (aI rfl) ?_ ?_
  ·rintro ⟨k_4,l_5,s_9⟩ ⟨hL_11,hD_7⟩
   dsimp only at hL_11 hD_7
   cases l_5 with
   | nil =>
    obtain rfl:=ae hL_11
    refine ai (aa (vB (decide ((k_4:Int)<(s1_1.length:Int)))) (ah ?_))
    refine ak (ax rfl (drop_nil hD_7) (aV ?_))
    exact aU (s_9) rfl rfl (aI rfl)
   | cons x_6 l_5 =>
    obtain ⟨c_,hc_10,hL_11⟩:=bind_some hL_11
    refine ai (aa (vB (decide ((k_4:Int)<(s1_1.length:Int)))) (ah ?_))
    refine ak (aA rfl (bz hD_7) (av ?_))
    unfold fG at hc_10
    refine ak (aN (ai (aa (vI (k_4:Int)) (aa (vI (k_4:Int)) (ah (ak (aZ (aa (vL eI s1_1) (aa (vI (k_4:Int)) (dB qV rfl rfl (bK hD_7) rfl wz (bA sz3 ag3 rfl (vI x_6) rfl wz (aa (vL eI s2_2) (aa (vI (k_4:Int)) ?_)))))))))))))
    obtain ⟨y_14,hy_15,hc_10⟩:=bind_some hc_10
    refine dB qV rfl rfl hy_15 rfl wz (bA sz3 ag3 rfl (vI y_14) rfl wz (aa (vB (x_6 != y_14)) (ah ?_)))
    rcases aj hc_10 with⟨hc_16,hc_10⟩|⟨hc_16,hc_10⟩
    ·refine aA rfl hc_16 (ai (aa (vB false) (ah ?_)))
     obtain rfl:=ae hc_10
     obtain rfl:=ae hL_11
     obtain rfl:=ae hF
     exact ay (aK [(vB false)] ⟨rfl,trivial⟩)
    ·refine ax rfl hc_16 (av (au (fq (bH hD_7 hn_8) wz rfl (aa (vI ((k_4+1:Nat):Int)) (ah ?_)))))
     obtain rfl:=ae hc_10
     exact aS (k_4+1,l_5,()) ⟨hL_11,aR hD_7⟩ (ls_ _) rfl (aI rfl)
  ·rintro s_9 ho_ sl_ H_ hp_ hq_
   subst ho_
   refine aO _ hp_ hq_ (ai (aa (vB true) (ah ?_)))
   obtain rfl:=ae hF
   exact ay (aK [(vB true)] ⟨rfl,trivial⟩)
end Go.Proofs.YtnkgapmhkhcanabGreatDoor.Law

