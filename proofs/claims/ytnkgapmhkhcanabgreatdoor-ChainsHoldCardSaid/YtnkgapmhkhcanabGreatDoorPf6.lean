/-
 The machine computes these plain functions (written by a program of ours).
-/
import Derived.Test.YtnkgapmhkhcanabGreatDoorFacts
import Derived.Test.YtnkgapmhkhcanabGreatDoorDefs
import Derived.Test.YtnkgapmhkhcanabGreatDoorPf5
open Go Go.Eng Go.Proofs
namespace Go.Proofs.YtnkgapmhkhcanabGreatDoor.Law
set_option maxRecDepth 100000
set_option linter.unusedVariables false
set_option maxHeartbeats 1000000
theorem yB {l_1:(List Int)} {r:Bool} (hF:mr l_1=some r) :
  FnM Tryz.prog 3 [(vL eI l_1)] [] (vB r) []:=by
 refine FnM.of_wH ⟨Tryz.prog,168,[],[]⟩ rfl Tryz.func3 rfl rfl (lb_ rfl) (by kernel_rfl) ?_
 unfold mr at hF
 refine ai (aa (vB false) (ah (ai (aa (vL eI l_1) (aG (.d (.agg (Stream.enc (⟨l_1,0⟩:Stream)))) wz (by kernel_rfl) (gZ 0 (.inl rfl) [(vL eI l_1),(vI 0)] rfl rfl wz (λn_2=>aa (.ref n_2 0 0) (ah (ai (aa .nil (ah (ak (ai (aa (.ref n_2 0 0) ?_))))))))))))))
 obtain ⟨r_3,hr_4,hF⟩:=bind_some hF
 refine uS 0 [0] il ft (rR hr_4) rfl hb4 rfl (by kernel_rfl) (by kernel_rfl) (by kernel_rfl) (by kernel_rfl) (by kernel_rfl) (by kernel_rfl) (by kernel_rfl) (by decide) (by kernel_rfl) wz (vI r_3.1) (by kernel_rfl) ([(n_2,some (.cells 2 [(vL eI r_3.2.L),(vI r_3.2.f_at)]))]:Hp) (by kernel_rfl) (aa (vI 0) (ah (oJ (λn_12 => ?_))))
 obtain ⟨o_17,hj_18,hF⟩:=bind_some hF
 obtain ⟨hn_10,hj_18⟩:=bg hj_18
 refine jc (σ:=(List Log_)×(List Int)×Int) (N:=Nm) (λp=>(λ(s_11:(List Log_)×(List Int)×Int) (n_14:Nm)=>([(3,(.ref n_2 0 0)),(4,(gV n_14 6 s_11.1))]:SL_)) p.1 p.2) (λp=>(λ(s_11:(List Log_)×(List Int)×Int) (n_14:Nm)=>([(n_2,some (.cells 2 [(vL eI s_11.2.1),(vI s_11.2.2)])),(n_14,gB 6 Log_.enc s_11.1)]:Hp)) p.1 p.2) (λ(k_6:Nat)=>(λp=>(λ(s_11:(List Log_)×(List Int)×Int) (n_14:Nm)=>([(3,(.ref n_2 0 0)),(4,(gV n_14 6 s_11.1)),(27,(vI r_3.1)),(28,(vI (k_6:Int)))]:SL_)) p.1 p.2)) (λk x s=>iJ k x s) o_17 (List.range (r_3.1).toNat) ((([]:List Log_),r_3.2.L,r_3.2.f_at),n_12) hj_18 rfl (aI rfl) ?_ ?_
 ·rintro ⟨k_6,l_7,s_11,n_14⟩ ⟨hL_16,hD_9⟩
  dsimp only at hL_16 hD_9
  cases l_7 with
  | nil =>
   obtain rfl:=ae hL_16
   refine ai (aa (vB (decide ((k_6:Int)<r_3.1))) (ah ?_))
   refine ak (ax rfl (xO hD_9) (aV ?_))
   exact aU (s_11,n_14) rfl rfl (aI rfl)
  | cons x_8 l_7 =>
   obtain ⟨c_,hc_15,hL_16⟩:=bind_some hL_16
   refine ai (aa (vB (decide ((k_6:Int)<r_3.1))) (ah ?_))
   refine ak (aA rfl (vE hD_9) (av ?_))
   unfold iJ at hc_15
   refine ak (aN (ai (aa (vI (k_6:Int)) (aa (vI (k_6:Int)) (ah (au (aa (gV n_14 6 s_11.1) (aa (.ref n_2 0 0) (iK (([(⟨#[105,97]⟩:ByteArray),(⟨#[105,98]⟩:ByteArray)]:List ByteArray).map eS) yT ez50 rfl rfl rfl rfl rfl wz ?_)))))))))
   obtain ⟨r_19,hr_20,hc_15⟩:=bind_some hc_15
   refine uS 0 [0] il ft (zm hr_20) rfl hb5 rfl (by kernel_rfl) (by kernel_rfl) (by kernel_rfl) (by kernel_rfl) (by kernel_rfl) (by kernel_rfl) (by kernel_rfl) (by decide) (by kernel_rfl) wz (vS r_19.1) (by kernel_rfl) ([(n_2,some (.cells 2 [(vL eI r_19.2.L),(vI r_19.2.f_at)])),(n_14,gB 6 Log_.enc s_11.1)]:Hp) (by kernel_rfl) (aa (vI (k_6:Int)) (aa (vI (w64 ((k_6:Int)+1))) (aa (vI (k_6:Int)) (aa (vI (w64 (100*(k_6:Int)))) (aG (.d (.agg (Log_.enc (⟨(⟨#[112]⟩:ByteArray),r_19.1,(w64 ((k_6:Int)+1)),(w64 (100*(k_6:Int))),10,(⟨#[]⟩:ByteArray)⟩:Log_)))) wz (by kernel_rfl) (iK (([(⟨(⟨#[112]⟩:ByteArray),r_19.1,(w64 ((k_6:Int)+1)),(w64 (100*(k_6:Int))),10,(⟨#[]⟩:ByteArray)⟩:Log_)]:List Log_).map Log_.enc) kG ez26 rfl rfl rfl rfl rfl wz ?_))))))
   obtain ⟨a_22,hz_23,hc_15⟩:=bind_some hc_15
   refine mQ 0 il ft (i:=1) zw zw fT z30 rfl (by decide) Lm (by decide) (λ_=>rfl) rfl rfl rfl hz_23 wz (λn_24=>aa (gV n_24 6 a_22) (ah (au (fq (xN hD_9 hn_10) wz rfl (aa (vI ((k_6+1:Nat):Int)) (ah ?_))))))
   obtain rfl:=ae hc_15
   exact aS (k_6+1,l_7,(a_22,r_19.2.L,r_19.2.f_at),n_24) ⟨hL_16,aR hD_9⟩ (ls_ _) rfl (aI rfl)
 ·rintro ⟨s_11,n_14⟩ ho_ sl_ H_ hp_ hq_
  subst ho_
  refine aO _ hp_ hq_ (ak (gG 1 rfl (eT 4 1 rfl rfl (au (aa (vL Log_.enc s_11.1) ?_)))))
  obtain ⟨r_25,hr_26,hF⟩:=bind_some hF
  refine aB (Cq hr_26) rfl hb6 rfl rfl rfl rfl wz (aa (.tup [(vL Log_.enc r_25.1),(vI r_25.2)]) (aa (vL Log_.enc r_25.1) (aa (vI r_25.2) (aa (vL Log_.enc r_25.1) (aa (vI r_25.2) (ah (ai (aa (vL Log_.enc r_25.1) ?_))))))))
  obtain ⟨r_27,hr_28,hF⟩:=bind_some hF
  refine aB (vZ hr_28) rfl hb7 rfl rfl rfl rfl wz (aa (.tup [(vL eI r_27.1),(vI r_27.2)]) (aa (vL eI r_27.1) (aa (vI r_27.2) (aa (vL eI r_27.1) (aa (vI r_27.2) (ah (ai (aa (vL Log_.enc r_25.1) ?_))))))))
  obtain ⟨r_29,hr_30,hF⟩:=bind_some hF
  refine aB (Ai hr_30) rfl hb8 rfl rfl rfl rfl wz (aa (.tup [(vL Log_.enc r_29.1),(vI r_29.2)]) (aa (vL Log_.enc r_29.1) (aa (vI r_29.2) (aa (vL Log_.enc r_29.1) (aa (vI r_29.2) (ah (ak (ak ?_))))))))
  obtain ⟨v_31,h_32,hF⟩:=bind_some hF
  refine aM [(3,(.ref n_2 0 0)),(6,(vL Log_.enc r_25.1)),(83,(vB v_31))] [(n_2,some (.cells 2 [(vL eI s_11.2.1),(vI s_11.2.2)])),(n_14,gF 6 Log_.enc s_11.1)] ?_ ?_
  ·refine au (aa (vI r_25.2) (aa (vI r_27.2) (aa (vI r_29.2) (iK (([r_25.2,r_27.2,r_29.2]:List Int).map eI) es54 ez54 rfl rfl rfl rfl rfl wz ?_))))
   obtain ⟨r_33,hr_34,h_32⟩:=bind_some h_32
   refine aB (vC hr_34) rfl hb9 rfl rfl rfl rfl wz (aa (vB (r_33 != 0)) ?_)
   rcases aj h_32 with⟨hc_35,h_32⟩|⟨hc_35,h_32⟩
   ·refine aC rfl hc_35 wz (af (af (af (af (af (aa (vB true) (aa (vB true) (af (af (af (af (af (af (aa (vB true) (aa (vB true) (af (af (af (aa (vB true) (ah ?_))))))))))))))))))))
    obtain rfl:=ae h_32
    exact cu
   ·refine aC rfl hc_35 wz (aG (vL Log_.enc r_25.1) wa rfl (bG lX rfl wa (aG (vL Log_.enc s_11.1) wa rfl (bG lX rfl wa (aG (vB ((r_25.1.length:Int) != (s_11.1.length:Int))) wa rfl (aa (vB ((r_25.1.length:Int) != (s_11.1.length:Int))) ?_))))))
    rcases aj h_32 with⟨hc_36,h_32⟩|⟨hc_36,h_32⟩
    ·refine aC rfl hc_36 wz (af (af (af (af (af (af (aa (vB true) (aa (vB true) (af (af (af (aa (vB true) (ah ?_)))))))))))))
     obtain rfl:=ae h_32
     exact cu
    ·refine aC rfl hc_36 wz (aG (vL eI r_27.1) wa rfl (bG uF rfl wa (aG (vL Log_.enc r_29.1) wa rfl (bG lX rfl wa (aG (vI (w64 ((r_27.1.length:Int)+(r_29.1.length:Int)))) wa rfl (aG (vB ((w64 ((r_27.1.length:Int)+(r_29.1.length:Int))) != 0)) wa rfl (aa (vB ((w64 ((r_27.1.length:Int)+(r_29.1.length:Int))) != 0)) ?_)))))))
     rcases aj h_32 with⟨hc_37,h_32⟩|⟨hc_37,h_32⟩
     ·refine aC rfl hc_37 wz (af (af (af (aa (vB true) (ah ?_)))))
      obtain rfl:=ae h_32
      exact cu
     ·refine aC rfl hc_37 wz (aG (vL Log_.enc r_25.1) wa rfl ?_)
      obtain ⟨r_38,hr_39,h_32⟩:=bind_some h_32
      refine aB (fZ hr_39) rfl Lv rfl rfl rfl rfl wa (aG (vB (r_38 != 0)) wa rfl (aa (vB (r_38 != 0)) (ah ?_)))
      obtain rfl:=ae h_32
      exact cu
  ·rintro ⟨⟩ _ sl_ H_ hp_ hq_
   refine aO _ hp_ hq_ ?_
   rcases aj hF with⟨hc_40,hF⟩|⟨hc_40,hF⟩
   ·refine aA rfl hc_40 (ai (aa (vB false) (ah ?_)))
    obtain rfl:=ae hF
    exact ay (aK [(vB false)] ⟨rfl,trivial⟩)
   ·refine ax rfl hc_40 (av (ai (aa (.ref n_2 0 0) (aa (vL Log_.enc r_25.1) (bG lX rfl wz ?_)))))
    obtain ⟨r_41,hr_42,hF⟩:=bind_some hF
    refine uS 0 [0] il ft (nJ hr_42) rfl hb11 rfl (by kernel_rfl) (by kernel_rfl) (by kernel_rfl) (by kernel_rfl) (by kernel_rfl) (by kernel_rfl) (by kernel_rfl) (by decide) (by kernel_rfl) wz (vI r_41.1) (by kernel_rfl) ([(n_2,some (.cells 2 [(vL eI r_41.2.L),(vI r_41.2.f_at)])),(n_14,gF 6 Log_.enc s_11.1)]:Hp) (by kernel_rfl) (aa (vI r_41.1) (ah (ai (aa (vL Log_.enc r_25.1) ?_))))
    obtain ⟨r_44,hr_45,hF⟩:=bind_some hF
    refine BS [] (jf hr_45) rfl hb12 rfl (by kernel_rfl) (by kernel_rfl) (by kernel_rfl) (by kernel_rfl) (by kernel_rfl) rfl (by decide) (by kernel_rfl) wz ([(n_2,some (.cells 2 [(vL eI r_41.2.L),(vI r_41.2.f_at)])),(n_14,gF 6 Log_.enc s_11.1)]:Hp) (λ_=>by kernel_rfl) (λn_47=>aa (gV n_47 6 r_44) (ah (ai (aa (gV n_47 6 r_44) (aa (vI r_41.1) ?_)))))
    obtain ⟨_,hi_48,hF⟩:=bind_some hF
    refine xw kG rfl rfl (jO hi_48) (gL hi_48) wz (aJ Gm rfl 4 rfl wz ?_)
    obtain ⟨e_49,hy_50,hF⟩:=bind_some hF
    refine lN 0 2 il ft sz3 ag3 rfl rfl hy_50 (vI e_49.Long) rfl wz (aa (vI (w64 (e_49.Long+1))) ?_)
    obtain ⟨_,hi_51,hF⟩:=bind_some hF
    refine xw kG rfl rfl (jO hi_51) (gL hi_51) wz (aJ Gm rfl 4 rfl wz ?_)
    obtain ⟨e_52,hy_53,hF⟩:=bind_some hF
    refine wN 0 il ft 2 sz3 rfl rfl hy_53 (⟨e_52.Player,e_52.Item,e_52.No,e_52.Clock,(w64 (e_49.Long+1)),e_52.Sum⟩:Log_) rfl wz (eO (v':=(gV n_47 6 (r_44.set (0+(r_41.1).toNat) (⟨e_52.Player,e_52.Item,e_52.No,e_52.Clock,(w64 (e_49.Long+1)),e_52.Sum⟩:Log_)))) 13 rfl (j6 (by simp)) (eO (v':=(gV n_47 6 (r_44.set (0+(r_41.1).toNat) (⟨e_52.Player,e_52.Item,e_52.No,e_52.Clock,(w64 (e_49.Long+1)),e_52.Sum⟩:Log_)))) 89 rfl (j6 (by simp)) (eO (v':=(gV n_47 6 (r_44.set (0+(r_41.1).toNat) (⟨e_52.Player,e_52.Item,e_52.No,e_52.Clock,(w64 (e_49.Long+1)),e_52.Sum⟩:Log_)))) 90 rfl (j6 (by simp)) (ah (ak (gG 2 rfl (eT 13 2 rfl rfl (eT 89 2 rfl rfl (eT 90 2 rfl rfl (au (aa (vL Log_.enc (r_44.set (0+(r_41.1).toNat) (⟨e_52.Player,e_52.Item,e_52.No,e_52.Clock,(w64 (e_49.Long+1)),e_52.Sum⟩:Log_))) ?_)))))))))))
    obtain ⟨r_54,hr_55,hF⟩:=bind_some hF
    refine aB (vZ hr_55) rfl hb7 rfl rfl rfl rfl wz (aa (.tup [(vL eI r_54.1),(vI r_54.2)]) (aa (vL eI r_54.1) (aa (vI r_54.2) (aa (vL eI r_54.1) (aa (vI r_54.2) (ah (ai (aa (.ref n_2 0 0) (aa (vL Log_.enc r_25.1) (bG lX rfl wz ?_))))))))))
    obtain ⟨r_56,hr_57,hF⟩:=bind_some hF
    refine uS 0 [0] il ft (rR hr_57) rfl hb4 rfl (by kernel_rfl) (by kernel_rfl) (by kernel_rfl) (by kernel_rfl) (by kernel_rfl) (by kernel_rfl) (by kernel_rfl) (by decide) (by kernel_rfl) wz (vI r_56.1) (by kernel_rfl) ([(n_2,some (.cells 2 [(vL eI r_56.2.L),(vI r_56.2.f_at)])),(n_14,gF 6 Log_.enc s_11.1),(n_47,gF 6 Log_.enc (r_44.set (0+(r_41.1).toNat) (⟨e_52.Player,e_52.Item,e_52.No,e_52.Clock,(w64 (e_49.Long+1)),e_52.Sum⟩:Log_)))]:Hp) (by kernel_rfl) (aa (vI r_56.1) (ah (ak (aZ (aa (vL Log_.enc r_25.1) (aa (vI r_56.1) ?_))))))
    obtain ⟨y_59,hy_60,hF⟩:=bind_some hF
    refine wm lX fT (λ_=>rfl) rfl rfl hy_60 wz (aa (vL Log_.enc r_25.1) (aa (vI r_56.1) ?_))
    obtain ⟨y_61,hy_62,hF⟩:=bind_some hF
    refine vY lX fT (λ_=>rfl) rfl rfl hy_62 wz ?_
    obtain ⟨r_63,hr_64,hF⟩:=bind_some hF
    refine aB (wT hr_64) rfl hb13 rfl rfl rfl rfl wz (aa (.tup [(vL Log_.enc r_63.1),(vI r_63.2)]) (aa (vL Log_.enc r_63.1) (aa (vI r_63.2) (aa (vL Log_.enc r_63.1) (aa (vI r_63.2) (ah (aO (H0:=([(n_2,some (.cells 2 [(vL eI r_56.2.L),(vI r_56.2.f_at)])),(n_14,gF 6 Log_.enc s_11.1),(n_47,gF 6 Log_.enc (r_44.set (0+(r_41.1).toNat) (⟨e_52.Player,e_52.Item,e_52.No,e_52.Clock,(w64 (e_49.Long+1)),e_52.Sum⟩:Log_)))]:Hp)) ([(6,(vL Log_.enc r_25.1)),(7,(vI r_54.2)),(9,(vI r_63.2)),(12,(vI r_41.1)),(14,(vL eI r_54.1)),(15,(vI r_56.1)),(16,(vL Log_.enc r_63.1))]:SL_) (by kernel_rfl) (Am (by kernel_rfl)) (ai (aa (vL Log_.enc r_25.1) (aa (vI r_56.1) ?_))))))))))
    obtain ⟨y_65,hy_66,hF⟩:=bind_some hF
    refine vY lX fT (λ_=>rfl) rfl rfl hy_66 wz (aa (vL Log_.enc r_25.1) ?_)
    obtain ⟨r_67,hr_68,hF⟩:=bind_some hF
    refine aB (wT hr_68) rfl hb13 rfl rfl rfl rfl wz (aa (.tup [(vL Log_.enc r_67.1),(vI r_67.2)]) (aa (vL Log_.enc r_67.1) (aa (vI r_67.2) (aa (vL Log_.enc r_67.1) (aa (vI r_67.2) (ah (ai (aa (vL Log_.enc r_25.1) ?_))))))))
    obtain ⟨r_69,hr_70,hF⟩:=bind_some hF
    refine aB (Ei hr_70) rfl hb14 rfl rfl rfl rfl wz (aa (.tup [(vS r_69.1),(vI r_69.2)]) (aa (vS r_69.1) (aa (vI r_69.2) (aa (vS r_69.1) (aa (vI r_69.2) (ah (ai (aa (vS r_69.1) ?_))))))))
    obtain ⟨r_71,hr_72,hF⟩:=bind_some hF
    refine aB (Ej hr_72) rfl hb15 rfl rfl rfl rfl wz (aa (.tup [(vL Log_.enc r_71.1),(vI r_71.2.1),(vI r_71.2.2)]) (aa (vL Log_.enc r_71.1) (aa (vI r_71.2.1) (aa (vI r_71.2.2) (aa (vL Log_.enc r_71.1) (aa (vI r_71.2.1) (aa (vI r_71.2.2) (ah (ak ?_)))))))))
    obtain ⟨v_73,h_74,hF⟩:=bind_some hF
    refine aM [(2,(vB v_73))] [(n_2,some (.cells 2 [(vL eI r_56.2.L),(vI r_56.2.f_at)])),(n_14,gF 6 Log_.enc s_11.1),(n_47,gF 6 Log_.enc (r_44.set (0+(r_41.1).toNat) (⟨e_52.Player,e_52.Item,e_52.No,e_52.Clock,(w64 (e_49.Long+1)),e_52.Sum⟩:Log_)))] ?_ ?_
    ·refine au (aa (vI r_54.2) (aa (vI r_63.2) (aa (vI r_67.2) (aa (vI r_69.2) (aa (vI r_71.2.2) (iK (([r_54.2,r_63.2,r_67.2,r_69.2,r_71.2.2]:List Int).map eI) es54 ez54 rfl rfl rfl rfl rfl wz ?_))))))
     obtain ⟨r_75,hr_76,h_74⟩:=bind_some h_74
     refine aB (vC hr_76) rfl hb9 rfl rfl rfl rfl wz (aa (vB (r_75==0)) ?_)
     rcases aj h_74 with⟨hc_77,h_74⟩|⟨hc_77,h_74⟩
     ·refine aC rfl hc_77 wz (aG (vL eI r_54.1) wa rfl (aG (vI r_41.1) wa rfl (iK (([r_41.1]:List Int).map eI) qV J2 rfl rfl rfl rfl rfl wa ?_)))
      obtain ⟨r_78,hr_79,h_74⟩:=bind_some h_74
      refine aB (tK hr_79) rfl hb16 rfl rfl rfl rfl wa (aa (vB r_78) ?_)
      rcases aj h_74 with⟨hc_80,h_74⟩|⟨hc_80,h_74⟩
      ·refine aC rfl hc_80 wz (aG (vL Log_.enc r_63.1) wa rfl (aG (vL Log_.enc r_25.1) wa rfl ?_))
       obtain ⟨r_81,hr_82,h_74⟩:=bind_some h_74
       refine aB (fP hr_82) rfl hb17 rfl rfl rfl rfl wa (aa (vB r_81) ?_)
       rcases aj h_74 with⟨hc_83,h_74⟩|⟨hc_83,h_74⟩
       ·refine aC rfl hc_83 wz (aG (vL Log_.enc r_67.1) wa rfl (aG (vL Log_.enc r_25.1) wa rfl ?_))
        obtain ⟨r_84,hr_85,h_74⟩:=bind_some h_74
        refine aB (fP hr_85) rfl hb17 rfl rfl rfl rfl wa (aa (vB r_84) ?_)
        rcases aj h_74 with⟨hc_86,h_74⟩|⟨hc_86,h_74⟩
        ·refine aC rfl hc_86 wz (aG (vL Log_.enc r_71.1) wa rfl (aG (vL Log_.enc r_25.1) wa rfl ?_))
         obtain ⟨r_87,hr_88,h_74⟩:=bind_some h_74
         refine aB (fP hr_88) rfl hb17 rfl rfl rfl rfl wa (aa (vB r_87) ?_)
         rcases aj h_74 with⟨hc_89,h_74⟩|⟨hc_89,h_74⟩
         ·refine aC rfl hc_89 wz ?_
          obtain ⟨r_90,hr_91,h_74⟩:=bind_some h_74
          refine aB (El hr_91) rfl hb18 rfl rfl rfl rfl wa (aa (vB r_90) (aa (vB r_90) (ah ?_)))
          obtain rfl:=ae h_74
          exact cu
         ·refine aC rfl hc_89 wz (af (aa (vB false) (aa (vB false) (ah ?_))))
          obtain rfl:=ae h_74
          exact cu
        ·refine aC rfl hc_86 wz (af (af (af (aa (vB false) (aa (vB false) (af (aa (vB false) (aa (vB false) (ah ?_)))))))))
         obtain rfl:=ae h_74
         exact cu
       ·refine aC rfl hc_83 wz (af (af (af (aa (vB false) (aa (vB false) (af (af (af (aa (vB false) (aa (vB false) (af (aa (vB false) (aa (vB false) (ah ?_))))))))))))))
        obtain rfl:=ae h_74
        exact cu
      ·refine aC rfl hc_80 wz (af (af (af (aa (vB false) (aa (vB false) (af (af (af (aa (vB false) (aa (vB false) (af (af (af (aa (vB false) (aa (vB false) (af (aa (vB false) (aa (vB false) (ah ?_)))))))))))))))))))
       obtain rfl:=ae h_74
       exact cu
     ·refine aC rfl hc_77 wz (af (af (af (af (aa (vB false) (aa (vB false) (af (af (af (aa (vB false) (aa (vB false) (af (af (af (aa (vB false) (aa (vB false) (af (af (af (aa (vB false) (aa (vB false) (af (aa (vB false) ?_)))))))))))))))))))))))
      refine aa (vB false) (ah ?_)
      obtain rfl:=ae h_74
      exact cu
    ·rintro ⟨⟩ _ sl_ H_ hp_ hq_
     refine aO _ hp_ hq_ ?_
     obtain rfl:=ae hF
     exact ay (aK [(vB v_73)] ⟨rfl,trivial⟩)
end Go.Proofs.YtnkgapmhkhcanabGreatDoor.Law

