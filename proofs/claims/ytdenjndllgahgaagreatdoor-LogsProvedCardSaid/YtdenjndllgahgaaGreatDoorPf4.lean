/-
 The machine computes these plain functions (written by a program of ours).
-/
import Derived.Test.YtdenjndllgahgaaGreatDoorFacts
import Derived.Test.YtdenjndllgahgaaGreatDoorDefs
import Derived.Test.YtdenjndllgahgaaGreatDoorPf3
open Go Go.Eng Go.Proofs
namespace Go.Proofs.YtdenjndllgahgaaGreatDoor.Law
set_option maxRecDepth 100000
set_option linter.unusedVariables false
set_option maxHeartbeats 1000000
theorem rY {l_1:(List Int)} {r:Bool} (hF:jD l_1=some r) :
  FnM Tryz.prog 3 [(vL eI l_1)] [] (vB r) []:=by
 refine FnM.of_wH ⟨Tryz.prog,190,[],[]⟩ rfl Tryz.func3 rfl rfl (lb_ rfl) (by kernel_rfl) ?_
 unfold jD at hF
 refine af (aa (ae (vB false) wz rfl (ai (af (aa (ae (vL eI l_1) wz rfl (ae (.d (.agg (Stream.enc (⟨l_1,0⟩:Stream)))) wz (by kernel_rfl) (kN 0 (.inl rfl) [(vL eI l_1),(vI 0)] rfl rfl wz (λn_2=>ae (.ref n_2 0 0) wz rfl (ai (af (aa (ae (.ref n_2 0 0) wz rfl ?_)))))))))))))
 obtain ⟨r_3,hr_4,hF⟩:=bind_some hF
 refine bf 0 [0] il ft (rD hr_4) rfl hb8 rfl (by kernel_rfl) (by kernel_rfl) (by kernel_rfl) (by kernel_rfl) (by kernel_rfl) (by kernel_rfl) (by kernel_rfl) (by decide) (by kernel_rfl) wz (vL Log_.enc r_3.1) (by kernel_rfl) ([(n_2,some (.cells 2 [(vL eI r_3.2.L),(vI r_3.2.f_at)]))]:Hp) (by kernel_rfl) (ae (vL Log_.enc r_3.1) wz rfl (ai (af (aa (ae (vL Log_.enc r_3.1) wz rfl ?_)))))
 obtain ⟨r_6,hr_7,hF⟩:=bind_some hF
 refine au (xn hr_7) rfl hb9 rfl rfl rfl rfl wz (ae (.tup [(vS r_6.1),(vI r_6.2)]) wz rfl (ae (vS r_6.1) wz rfl (ae (vI r_6.2) wz rfl (ae (vS r_6.1) wz rfl (ae (vI r_6.2) wz rfl (ai (af (aa (ae (vL Log_.enc r_3.1) wz rfl ?_)))))))))
 obtain ⟨r_8,hr_9,hF⟩:=bind_some hF
 refine au (sP hr_9) rfl hb10 rfl rfl rfl rfl wz (ae (vI r_8) wz rfl (ai (af (aa (ae (vS (⟨#[]⟩:ByteArray)) wz rfl (ai (af (af (aa (ae (vI r_8) wz rfl (ae (vB (r_8==0)) wz rfl (ai ?_))))))))))))
 obtain ⟨v_10,h_11,hF⟩:=bind_some hF
 refine aD (β:=Unit) (λ_=>([(3,(.ref n_2 0 0)),(4,(vL Log_.enc r_3.1)),(5,(vS r_6.1)),(6,(vI r_6.2)),(7,(vI r_8)),(8,(vS v_10))]:SL_)) (λ_=>([(n_2,some (.cells 2 [(vL eI r_3.2.L),(vI r_3.2.f_at)]))]:Hp)) (λ_=>True) ?_ ?_
 ·rcases aj h_11 with⟨hc_12,h_11⟩|⟨hc_12,h_11⟩
  ·refine ay rfl hc_12 (aa (ae (vL Log_.enc r_3.1) wz rfl ?_))
   obtain ⟨r_13,hr_14,h_11⟩:=bind_some h_11
   refine au (xm hr_14) rfl hb11 rfl rfl rfl rfl wz (ae (vS r_13) wz rfl (ai ?_))
   obtain rfl:=ah h_11
   exact cu
  ·refine aA rfl hc_12 (ax ?_)
   obtain rfl:=ah h_11
   exact cu
 ·rintro ⟨⟩ _ sl_ H_ hp_ hq_
  refine aL _ hp_ hq_ (af (af ?_))
  obtain ⟨v_15,h_16,hF⟩:=bind_some hF
  refine aD (β:=Unit) (λ_=>([(3,(.ref n_2 0 0)),(4,(vL Log_.enc r_3.1)),(5,(vS r_6.1)),(7,(vI r_8)),(42,(vB v_15))]:SL_)) (λ_=>([(n_2,some (.cells 2 [(vL eI r_3.2.L),(vI r_3.2.f_at)]))]:Hp)) (λ_=>True) ?_ ?_
  ·refine aa (ae (vI r_6.2) wz rfl (ae (vI r_8) wz rfl (ae (vB (r_6.2 != r_8)) wz rfl ?_)))
   rcases aj h_16 with⟨hc_17,h_16⟩|⟨hc_17,h_16⟩
   ·refine aC rfl hc_17 wz (ak wa (ak wa (ak wa (ae (vB true) wz rfl (ai ?_)))))
    obtain rfl:=ah h_16
    exact cu
   ·refine aC rfl hc_17 wz (ae (vS r_6.1) wa rfl (ae (vS v_10) wa rfl (ae (vB (sNe r_6.1 v_10)) wa rfl (ae (vB (sNe r_6.1 v_10)) wz rfl (ai ?_)))))
    obtain rfl:=ah h_16
    exact cu
  ·rintro ⟨⟩ _ sl_ H_ hp_ hq_
   refine aL _ hp_ hq_ ?_
   rcases aj hF with⟨hc_18,hF⟩|⟨hc_18,hF⟩
   ·refine ay rfl hc_18 (af (aa (ae (vB false) wz rfl (ai ?_))))
    obtain rfl:=ah hF
    exact av (aQ (.inr rfl) [(vB false)] ⟨rfl,trivial⟩ rfl rfl rfl)
   ·refine aA rfl hc_18 (ax (af (aa (ae (.ref n_2 0 0) wz rfl (dC (([0,1,2,3,(-1),11]:List Int).map eI) sZ y5 rfl rfl rfl rfl rfl wz ?_)))))
    obtain ⟨r_19,hr_20,hF⟩:=bind_some hF
    refine bf 0 [0] il ft (dR hr_20) rfl C9 rfl (by kernel_rfl) (by kernel_rfl) (by kernel_rfl) (by kernel_rfl) (by kernel_rfl) (by kernel_rfl) (by kernel_rfl) (by decide) (by kernel_rfl) wz (vI r_19.1) (by kernel_rfl) ([(n_2,some (.cells 2 [(vL eI r_19.2.L),(vI r_19.2.f_at)]))]:Hp) (by kernel_rfl) (ae (vL Log_.enc r_3.1) wz rfl (bS rR rfl wz (ae (.ref n_2 0 0) wz rfl (dC (([0,0,0,1,(-1)]:List Int).map eI) sZ y5 rfl rfl rfl rfl rfl wz ?_))))
    obtain ⟨r_22,hr_23,hF⟩:=bind_some hF
    refine bf 0 [0] il ft (dR hr_23) rfl C9 rfl (by kernel_rfl) (by kernel_rfl) (by kernel_rfl) (by kernel_rfl) (by kernel_rfl) (by kernel_rfl) (by kernel_rfl) (by decide) (by kernel_rfl) wz (vI r_22.1) (by kernel_rfl) ([(n_2,some (.cells 2 [(vL eI r_22.2.L),(vI r_22.2.f_at)]))]:Hp) (by kernel_rfl) (ae (vI (w64 ((r_3.1.length:Int)+r_22.1))) wz rfl (ae (vI r_19.1) wz rfl (ae (vI (w64 ((r_3.1.length:Int)+r_22.1))) wz rfl (ai (af (aa (ae (vL Log_.enc r_3.1) wz rfl (ae (vI r_19.1) wz rfl ?_))))))))
    obtain ⟨r_25,hr_26,hF⟩:=bind_some hF
    refine au (wQ hr_26) rfl hb13 rfl rfl rfl rfl wz (ae (.tup [(vL eS r_25.1),(vI r_25.2)]) wz rfl (ae (vL eS r_25.1) wz rfl (ae (vI r_25.2) wz rfl (ae (vL eS r_25.1) wz rfl (ae (vI r_25.2) wz rfl (ai (af ?_)))))))
    obtain ⟨v_27,h_28,hF⟩:=bind_some hF
    refine aD (β:=Unit) (λ_=>([(3,(.ref n_2 0 0)),(4,(vL Log_.enc r_3.1)),(5,(vS r_6.1)),(9,(vI r_19.1)),(10,(vI (w64 ((r_3.1.length:Int)+r_22.1)))),(11,(vL eS r_25.1)),(12,(vI r_25.2)),(13,(vI v_27))]:SL_)) (λ_=>([(n_2,some (.cells 2 [(vL eI r_22.2.L),(vI r_22.2.f_at)]))]:Hp)) (λ_=>True) ?_ ?_
    ·refine aa (ae (vI r_8) wz rfl (ae (vI r_19.1) wz rfl (ae (vB (decide (r_19.1<0))) wz rfl ?_)))
     rcases aj h_28 with⟨hc_29,h_28⟩|⟨hc_29,h_28⟩
     ·refine aC rfl hc_29 wz (ak wa (ak wa (ak wa (ak wa (ae (vB true) wz rfl ?_)))))
      obtain ⟨r_30,hr_31,h_28⟩:=bind_some h_28
      refine au (dI hr_31) rfl uC rfl rfl rfl rfl wz (dC (([r_8,r_30]:List Int).map eI) zy BD rfl rfl rfl rfl rfl wz ?_)
      obtain ⟨r_32,hr_33,h_28⟩:=bind_some h_28
      refine au (gU hr_33) rfl AP rfl rfl rfl rfl wz (ae (vI r_32) wz rfl (ai ?_))
      obtain rfl:=ah h_28
      exact cu
     ·refine aC rfl hc_29 wz (ae (vI r_19.1) wa rfl (ae (vL Log_.enc r_3.1) wa rfl (bS rR rfl wa (ae (vB (decide (r_19.1>=(r_3.1.length:Int)))) wa rfl (ae (vB (decide (r_19.1>=(r_3.1.length:Int)))) wz rfl ?_)))))
      obtain ⟨r_34,hr_35,h_28⟩:=bind_some h_28
      refine au (dI hr_35) rfl uC rfl rfl rfl rfl wz (dC (([r_8,r_34]:List Int).map eI) zy BD rfl rfl rfl rfl rfl wz ?_)
      obtain ⟨r_36,hr_37,h_28⟩:=bind_some h_28
      refine au (gU hr_37) rfl AP rfl rfl rfl rfl wz (ae (vI r_36) wz rfl (ai ?_))
      obtain rfl:=ah h_28
      exact cu
    ·rintro ⟨⟩ _ sl_ H_ hp_ hq_
     refine aL _ hp_ hq_ (af (aa (ae .nil wz rfl (ai (af (af (aa (ae (vI v_27) wz rfl (ae (vB (v_27==0)) wz rfl (ai (wH_nilL eS 14 rfl ?_)))))))))))
     obtain ⟨v_40,h_41,hF⟩:=bind_some hF
     refine aD (β:=Unit) (λ_=>([(3,(.ref n_2 0 0)),(4,(vL Log_.enc r_3.1)),(5,(vS r_6.1)),(9,(vI r_19.1)),(10,(vI (w64 ((r_3.1.length:Int)+r_22.1)))),(11,(vL eS r_25.1)),(12,(vI r_25.2)),(13,(vI v_27)),(14,(vL eS v_40))]:SL_)) (λ_=>([(n_2,some (.cells 2 [(vL eI r_22.2.L),(vI r_22.2.f_at)]))]:Hp)) (λ_=>True) ?_ ?_
     ·rcases aj h_41 with⟨hc_42,h_41⟩|⟨hc_42,h_41⟩
      ·refine ay rfl hc_42 (aa (ae (vL Log_.enc r_3.1) wz rfl (ae (vI r_19.1) wz rfl ?_)))
       obtain ⟨r_43,hr_44,h_41⟩:=bind_some h_41
       refine au (wV hr_44) rfl hb16 rfl rfl rfl rfl wz (ae (vL eS r_43) wz rfl (ai ?_))
       obtain rfl:=ah h_41
       exact cu
      ·refine aA rfl hc_42 (ax ?_)
       obtain rfl:=ah h_41
       exact cu
     ·rintro ⟨⟩ _ sl_ H_ hp_ hq_
      refine aL _ hp_ hq_ (af (af ?_))
      obtain ⟨v_45,h_46,hF⟩:=bind_some hF
      refine aD (β:=Unit) (λ_=>([(3,(.ref n_2 0 0)),(4,(vL Log_.enc r_3.1)),(5,(vS r_6.1)),(9,(vI r_19.1)),(10,(vI (w64 ((r_3.1.length:Int)+r_22.1)))),(13,(vI v_27)),(14,(vL eS v_40)),(83,(vB v_45))]:SL_)) (λ_=>([(n_2,some (.cells 2 [(vL eI r_22.2.L),(vI r_22.2.f_at)]))]:Hp)) (λ_=>True) ?_ ?_
      ·refine aa (ae (vI r_25.2) wz rfl (ae (vI v_27) wz rfl (ae (vB (r_25.2 != v_27)) wz rfl ?_)))
       rcases aj h_46 with⟨hc_47,h_46⟩|⟨hc_47,h_46⟩
       ·refine aC rfl hc_47 wz (ak wa (ak wa (ak wa (ak wa (ae (vB true) wz rfl (ai ?_))))))
        obtain rfl:=ah h_46
        exact cu
       ·refine aC rfl hc_47 wz (ae (vL eS r_25.1) wa rfl (ae (vL eS v_40) wa rfl ?_))
        obtain ⟨r_48,hr_49,h_46⟩:=bind_some h_46
        refine au (kJ hr_49) rfl hb17 rfl rfl rfl rfl wa (ae (vB (!r_48)) wa rfl (ae (vB (!r_48)) wz rfl (ai ?_)))
        obtain rfl:=ah h_46
        exact cu
      ·rintro ⟨⟩ _ sl_ H_ hp_ hq_
       refine aL _ hp_ hq_ ?_
       rcases aj hF with⟨hc_50,hF⟩|⟨hc_50,hF⟩
       ·refine ay rfl hc_50 (af (aa (ae (vB false) wz rfl (ai ?_))))
        obtain rfl:=ah hF
        exact av (aQ (.inr rfl) [(vB false)] ⟨rfl,trivial⟩ rfl rfl rfl)
       ·refine aA rfl hc_50 (ax (af (aa ?_)))
        obtain ⟨r_51,hr_52,hF⟩:=bind_some hF
        refine au (gm hr_52) rfl Au rfl rfl rfl rfl wz (ae (.d (.agg (Log_.enc (⟨(⟨#[112,97]⟩:ByteArray),(⟨#[105,97]⟩:ByteArray),1,0,5,r_51⟩:Log_)))) wz (by kernel_rfl) (kC 0 (.inl rfl) z43 rfl wz (λn_53=>ni 0 il ft 1 gP rfl rfl [(vS (⟨#[112,97]⟩:ByteArray)),(vS (⟨#[105,97]⟩:ByteArray)),(vI 1),(vI 0),(vI 5),(vS r_51)] rfl wz (ai (af (af ?_))))))
        obtain ⟨v_54,h_55,hF⟩:=bind_some hF
        refine aD (β:=Unit) (λ_=>([(3,(.ref n_2 0 0)),(4,(vL Log_.enc r_3.1)),(5,(vS r_6.1)),(9,(vI r_19.1)),(10,(vI (w64 ((r_3.1.length:Int)+r_22.1)))),(14,(vL eS v_40)),(15,(.ref n_53 0 0)),(92,(vB v_54.1))]:SL_)) (λ_=>([(n_2,some (.cells 2 [(vL eI v_54.2.1),(vI v_54.2.2)])),(n_53,some (.cells 6 [(vS (⟨#[112,97]⟩:ByteArray)),(vS (⟨#[105,97]⟩:ByteArray)),(vI 1),(vI 0),(vI 5),(vS r_51)]))]:Hp)) (λ_=>True) ?_ ?_
        ·refine aa (ae (vI v_27) wz rfl (ae (vB (v_27==0)) wz rfl ?_))
         rcases aj h_55 with⟨hc_56,h_55⟩|⟨hc_56,h_55⟩
         ·refine aC rfl hc_56 wz (ae (.ref n_2 0 0) wa rfl ?_)
          obtain ⟨r_57,hr_58,h_55⟩:=bind_some h_55
          refine bf 0 [0] il ft (dh hr_58) rfl zZ rfl (by kernel_rfl) (by kernel_rfl) (by kernel_rfl) (by kernel_rfl) (by kernel_rfl) (by kernel_rfl) (by kernel_rfl) (by decide) (by kernel_rfl) wa (vB r_57.1) (by kernel_rfl) ([(n_2,some (.cells 2 [(vL eI r_57.2.L),(vI r_57.2.f_at)])),(n_53,some (.cells 6 [(vS (⟨#[112,97]⟩:ByteArray)),(vS (⟨#[105,97]⟩:ByteArray)),(vI 1),(vI 0),(vI 5),(vS r_51)]))]:Hp) (by kernel_rfl) (ae (vB (!r_57.1)) wa rfl (ae (vB (!r_57.1)) wz rfl (ai ?_)))
          obtain rfl:=ah h_55
          exact cu
         ·refine aC rfl hc_56 wz (ak wa (ak wa (ak wa (ae (vB false) wz rfl (ai ?_)))))
          obtain rfl:=ah h_55
          exact cu
        ·rintro ⟨⟩ _ sl_ H_ hp_ hq_
         refine aL _ hp_ hq_ ?_
         obtain ⟨v_60,h_61,hF⟩:=bind_some hF
         refine aD (β:=Unit) (λ_=>([(3,(.ref n_2 0 0)),(5,(vS r_6.1)),(9,(vI r_19.1)),(10,(vI (w64 ((r_3.1.length:Int)+r_22.1)))),(14,(vL eS v_40)),(15,(.ref n_53 0 0))]:SL_)) (λ_=>([(n_2,some (.cells 2 [(vL eI v_54.2.1),(vI v_54.2.2)])),(n_53,some (.cells 6 [(vS v_60.1),(vS v_60.2.1),(vI v_60.2.2.1),(vI v_60.2.2.2.1),(vI v_60.2.2.2.2.1),(vS v_60.2.2.2.2.2)]))]:Hp)) (λ_=>True) ?_ ?_
         ·rcases aj h_61 with⟨hc_62,h_61⟩|⟨hc_62,h_61⟩
          ·refine ay rfl hc_62 (aa (ae (vL Log_.enc r_3.1) wz rfl (ae (vI r_19.1) wz rfl ?_)))
           obtain ⟨y_63,hy_64,h_61⟩:=bind_some h_61
           refine fB xe rfl rfl hy_64 rfl wz (di gP jK rfl (.d (.agg (Log_.enc y_63))) rfl wz (ni 0 il ft 1 gP rfl rfl [(vS y_63.Player),(vS y_63.Item),(vI y_63.No),(vI y_63.Clock),(vI y_63.Long),(vS y_63.Sum)] rfl wz (ai ?_)))
           obtain rfl:=ah h_61
           exact cu
          ·refine aA rfl hc_62 (ax ?_)
           obtain rfl:=ah h_61
           exact cu
         ·rintro ⟨⟩ _ sl_ H_ hp_ hq_
          refine aL _ hp_ hq_ (af (af ?_))
          obtain ⟨v_65,h_66,hF⟩:=bind_some hF
          refine aD (β:=Unit) (λ_=>([(3,(.ref n_2 0 0)),(5,(vS r_6.1)),(9,(vI r_19.1)),(10,(vI (w64 ((r_3.1.length:Int)+r_22.1)))),(14,(vL eS v_40)),(15,(.ref n_53 0 0)),(103,(vB v_65.1))]:SL_)) (λ_=>([(n_2,some (.cells 2 [(vL eI v_65.2.1),(vI v_65.2.2)])),(n_53,some (.cells 6 [(vS v_60.1),(vS v_60.2.1),(vI v_60.2.2.1),(vI v_60.2.2.2.1),(vI v_60.2.2.2.2.1),(vS v_60.2.2.2.2.2)]))]:Hp)) (λ_=>True) ?_ ?_
          ·refine aa (ae (vL eS v_40) wz rfl (bS kM rfl wz (ae (vB (decide ((v_40.length:Int)>0))) wz rfl ?_)))
           rcases aj h_66 with⟨hc_67,h_66⟩|⟨hc_67,h_66⟩
           ·refine aC rfl hc_67 wz (ae (.ref n_2 0 0) wa rfl ?_)
            obtain ⟨r_68,hr_69,h_66⟩:=bind_some h_66
            refine bf 0 [0] il ft (dh hr_69) rfl zZ rfl (by kernel_rfl) (by kernel_rfl) (by kernel_rfl) (by kernel_rfl) (by kernel_rfl) (by kernel_rfl) (by kernel_rfl) (by decide) (by kernel_rfl) wa (vB r_68.1) (by kernel_rfl) ([(n_2,some (.cells 2 [(vL eI r_68.2.L),(vI r_68.2.f_at)])),(n_53,some (.cells 6 [(vS v_60.1),(vS v_60.2.1),(vI v_60.2.2.1),(vI v_60.2.2.2.1),(vI v_60.2.2.2.2.1),(vS v_60.2.2.2.2.2)]))]:Hp) (by kernel_rfl) (ae (vB r_68.1) wz rfl (ai ?_))
            obtain rfl:=ah h_66
            exact cu
           ·refine aC rfl hc_67 wz (ak wa (ak wa (ae (vB false) wz rfl (ai ?_))))
            obtain rfl:=ah h_66
            exact cu
          ·rintro ⟨⟩ _ sl_ H_ hp_ hq_
           refine aL _ hp_ hq_ ?_
           obtain ⟨v_73,h_74,hF⟩:=bind_some hF
           refine aD (β:=Unit) (λ_=>([(3,(.ref n_2 0 0)),(5,(vS r_6.1)),(9,(vI r_19.1)),(10,(vI (w64 ((r_3.1.length:Int)+r_22.1)))),(14,(vL eS v_73.1)),(15,(.ref n_53 0 0))]:SL_)) (λ_=>([(n_2,some (.cells 2 [(vL eI v_73.2.1),(vI v_73.2.2)])),(n_53,some (.cells 6 [(vS v_60.1),(vS v_60.2.1),(vI v_60.2.2.1),(vI v_60.2.2.2.1),(vI v_60.2.2.2.2.1),(vS v_60.2.2.2.2.2)]))]:Hp)) (λ_=>True) ?_ ?_
           ·rcases aj h_74 with⟨hc_75,h_74⟩|⟨hc_75,h_74⟩
            ·refine ay rfl hc_75 (aa (ae (vL eS v_40) wz rfl ?_))
             obtain ⟨y_76,hy_77,h_74⟩:=bind_some h_74
             refine kQ kM sz9 (λ_=>rfl) rfl rfl hy_77 wz (ae (vL eS y_76) wz rfl (ai ?_))
             obtain rfl:=ah h_74
             exact cu
            ·refine aA rfl hc_75 (af (aa (ae (.ref n_2 0 0) wz rfl ?_)))
             obtain ⟨r_78,hr_79,h_74⟩:=bind_some h_74
             refine bf 0 [0] il ft (dh hr_79) rfl zZ rfl (by kernel_rfl) (by kernel_rfl) (by kernel_rfl) (by kernel_rfl) (by kernel_rfl) (by kernel_rfl) (by kernel_rfl) (by decide) (by kernel_rfl) wz (vB r_78.1) (by kernel_rfl) ([(n_2,some (.cells 2 [(vL eI r_78.2.L),(vI r_78.2.f_at)])),(n_53,some (.cells 6 [(vS v_60.1),(vS v_60.2.1),(vI v_60.2.2.1),(vI v_60.2.2.2.1),(vI v_60.2.2.2.2.1),(vS v_60.2.2.2.2.2)]))]:Hp) (by kernel_rfl) (ai ?_)
             rcases aj h_74 with⟨hc_81,h_74⟩|⟨hc_81,h_74⟩
             ·refine ay rfl hc_81 (aa (ae (vL eS v_40) wz rfl ?_))
              obtain ⟨r_82,hr_83,h_74⟩:=bind_some h_74
              refine Ci [] (jN hr_83) rfl hb20 rfl (by kernel_rfl) (by kernel_rfl) (by kernel_rfl) (by kernel_rfl) (by kernel_rfl) rfl (by decide) (by kernel_rfl) wz ([(n_2,some (.cells 2 [(vL eI r_78.2.L),(vI r_78.2.f_at)])),(n_53,some (.cells 6 [(vS v_60.1),(vS v_60.2.1),(vI v_60.2.2.1),(vI v_60.2.2.2.1),(vI v_60.2.2.2.2.1),(vS v_60.2.2.2.2.2)]))]:Hp) (λ_=>by kernel_rfl) (λn_85=>ae (.ref n_2 0 0) wz rfl ?_)
              obtain ⟨r_86,hr_87,h_74⟩:=bind_some h_74
              refine au (gm hr_87) rfl Au rfl rfl rfl rfl wz (dC (([r_86,(⟨#[122]⟩:ByteArray)]:List ByteArray).map eS) gu mY rfl rfl rfl rfl rfl wz ?_)
              obtain ⟨r_88,hr_89,h_74⟩:=bind_some h_74
              refine bf 0 [0] il ft (dn hr_89) rfl Ak rfl (by kernel_rfl) (by kernel_rfl) (by kernel_rfl) (by kernel_rfl) (by kernel_rfl) (by kernel_rfl) (by kernel_rfl) (by decide) (by kernel_rfl) wz (vS r_88.1) (by kernel_rfl) ([(n_2,some (.cells 2 [(vL eI r_88.2.L),(vI r_88.2.f_at)])),(n_53,some (.cells 6 [(vS v_60.1),(vS v_60.2.1),(vI v_60.2.2.1),(vI v_60.2.2.2.1),(vI v_60.2.2.2.2.1),(vS v_60.2.2.2.2.2)])),(n_85,gB 1 eS r_82)]:Hp) (by kernel_rfl) (dC (([r_88.1]:List ByteArray).map eS) gu mY rfl rfl rfl rfl rfl wz ?_)
              obtain ⟨a_91,hz_92,h_74⟩:=bind_some h_74
              refine ko 0 il ft (i:=2) l9 l9 sz9 z9 rfl (by decide) by9 (by decide) (λ_=>rfl) rfl rfl rfl hz_92 wz (λn_93=>Cm (λhw=>iO 2 rfl hw) (by kernel_rfl) (Cm (λhw=>dQ 115 2 rfl rfl hw) (by kernel_rfl) (ae (vL eS a_91) wz rfl (ai ?_))))
              obtain rfl:=ah h_74
              exact cu
             ·refine aA rfl hc_81 (ax ?_)
              obtain rfl:=ah h_74
              exact cu
           ·rintro ⟨⟩ _ sl_ H_ hp_ hq_
            refine aL _ hp_ hq_ (af (af ?_))
            obtain ⟨v_94,h_95,hF⟩:=bind_some hF
            refine aD (β:=Unit) (λ_=>([(3,(.ref n_2 0 0)),(5,(vS r_6.1)),(9,(vI r_19.1)),(10,(vI (w64 ((r_3.1.length:Int)+r_22.1)))),(14,(vL eS v_73.1)),(15,(.ref n_53 0 0)),(121,(vB v_94.1))]:SL_)) (λ_=>([(n_2,some (.cells 2 [(vL eI v_94.2.1),(vI v_94.2.2)])),(n_53,some (.cells 6 [(vS v_60.1),(vS v_60.2.1),(vI v_60.2.2.1),(vI v_60.2.2.2.1),(vI v_60.2.2.2.2.1),(vS v_60.2.2.2.2.2)]))]:Hp)) (λ_=>True) ?_ ?_
            ·refine aa (ae (vS r_6.1) wz rfl (ae (vB (sEq r_6.1 (⟨#[]⟩:ByteArray))) wz rfl ?_))
             rcases aj h_95 with⟨hc_96,h_95⟩|⟨hc_96,h_95⟩
             ·refine aC rfl hc_96 wz (ak wa (ak wa (ae (vB true) wz rfl (ai ?_))))
              obtain rfl:=ah h_95
              exact cu
             ·refine aC rfl hc_96 wz (ae (.ref n_2 0 0) wa rfl ?_)
              obtain ⟨r_97,hr_98,h_95⟩:=bind_some h_95
              refine bf 0 [0] il ft (dh hr_98) rfl zZ rfl (by kernel_rfl) (by kernel_rfl) (by kernel_rfl) (by kernel_rfl) (by kernel_rfl) (by kernel_rfl) (by kernel_rfl) (by decide) (by kernel_rfl) wa (vB r_97.1) (by kernel_rfl) ([(n_2,some (.cells 2 [(vL eI r_97.2.L),(vI r_97.2.f_at)])),(n_53,some (.cells 6 [(vS v_60.1),(vS v_60.2.1),(vI v_60.2.2.1),(vI v_60.2.2.2.1),(vI v_60.2.2.2.2.1),(vS v_60.2.2.2.2.2)]))]:Hp) (by kernel_rfl) (ae (vB r_97.1) wz rfl (ai ?_))
              obtain rfl:=ah h_95
              exact cu
            ·rintro ⟨⟩ _ sl_ H_ hp_ hq_
             refine aL _ hp_ hq_ ?_
             obtain ⟨v_100,h_101,hF⟩:=bind_some hF
             refine aD (β:=Unit) (λ_=>([(5,(vS v_100.1)),(9,(vI r_19.1)),(10,(vI (w64 ((r_3.1.length:Int)+r_22.1)))),(14,(vL eS v_73.1)),(15,(.ref n_53 0 0))]:SL_)) (λ_=>([(n_2,some (.cells 2 [(vL eI v_100.2.1),(vI v_100.2.2)])),(n_53,some (.cells 6 [(vS v_60.1),(vS v_60.2.1),(vI v_60.2.2.1),(vI v_60.2.2.2.1),(vI v_60.2.2.2.2.1),(vS v_60.2.2.2.2.2)]))]:Hp)) (λ_=>True) ?_ ?_
             ·rcases aj h_101 with⟨hc_102,h_101⟩|⟨hc_102,h_101⟩
              ·refine ay rfl hc_102 (aa (ae (.ref n_2 0 0) wz rfl ?_))
               obtain ⟨r_103,hr_104,h_101⟩:=bind_some h_101
               refine au (gm hr_104) rfl Au rfl rfl rfl rfl wz (dC (([r_103,(⟨#[120]⟩:ByteArray)]:List ByteArray).map eS) gu mY rfl rfl rfl rfl rfl wz ?_)
               obtain ⟨r_105,hr_106,h_101⟩:=bind_some h_101
               refine bf 0 [0] il ft (dn hr_106) rfl Ak rfl (by kernel_rfl) (by kernel_rfl) (by kernel_rfl) (by kernel_rfl) (by kernel_rfl) (by kernel_rfl) (by kernel_rfl) (by decide) (by kernel_rfl) wz (vS r_105.1) (by kernel_rfl) ([(n_2,some (.cells 2 [(vL eI r_105.2.L),(vI r_105.2.f_at)])),(n_53,some (.cells 6 [(vS v_60.1),(vS v_60.2.1),(vI v_60.2.2.1),(vI v_60.2.2.2.1),(vI v_60.2.2.2.2.1),(vS v_60.2.2.2.2.2)]))]:Hp) (by kernel_rfl) (ae (vS r_105.1) wz rfl (ai ?_))
               obtain rfl:=ah h_101
               exact cu
              ·refine aA rfl hc_102 (ax ?_)
               obtain rfl:=ah h_101
               exact cu
             ·rintro ⟨⟩ _ sl_ H_ hp_ hq_
              refine aL _ hp_ hq_ (af (aa (ae (vS v_100.1) wz rfl (ae (vI (w64 ((r_3.1.length:Int)+r_22.1))) wz rfl (ae (vI r_19.1) wz rfl (aK 0 1 il ft gP jK rfl rfl (.d (.agg (Log_.enc (⟨v_60.1,v_60.2.1,v_60.2.2.1,v_60.2.2.2.1,v_60.2.2.2.2.1,v_60.2.2.2.2.2⟩:Log_)))) rfl wz (ae (vL eS v_73.1) wz rfl ?_)))))))
              obtain ⟨r_108,hr_109,hF⟩:=bind_some hF
              refine au (ul hr_109) rfl hb22 rfl rfl rfl rfl wz (ae (.tup [(vB r_108.1),(vI r_108.2)]) wz rfl (ae (vB r_108.1) wz rfl (ae (vI r_108.2) wz rfl (ae (vB r_108.1) wz rfl (ae (vI r_108.2) wz rfl (ai (af ?_)))))))
              obtain ⟨v_110,h_111,hF⟩:=bind_some hF
              refine aD (β:=Unit) (λ_=>([(5,(vS v_100.1)),(9,(vI r_19.1)),(10,(vI (w64 ((r_3.1.length:Int)+r_22.1)))),(14,(vL eS v_73.1)),(15,(.ref n_53 0 0)),(16,(vB r_108.1)),(17,(vI r_108.2)),(18,(vI v_110))]:SL_)) (λ_=>([(n_2,some (.cells 2 [(vL eI v_100.2.1),(vI v_100.2.2)])),(n_53,some (.cells 6 [(vS v_60.1),(vS v_60.2.1),(vI v_60.2.2.1),(vI v_60.2.2.2.1),(vI v_60.2.2.2.2.1),(vS v_60.2.2.2.2.2)]))]:Hp)) (λ_=>True) ?_ ?_
              ·refine dw (ae (vS v_100.1) wz rfl ?_)
               obtain ⟨r_112,hr_113,h_111⟩:=bind_some h_111
               refine au (fG hr_113) rfl Br rfl rfl rfl rfl wz (ae (vB (!r_112)) wz rfl ?_)
               obtain ⟨r_114,hr_115,h_111⟩:=bind_some h_111
               refine au (dI hr_115) rfl uC rfl rfl rfl rfl wz (ae (vI (w64 ((r_3.1.length:Int)+r_22.1))) wz rfl (ae (vB (decide ((w64 ((r_3.1.length:Int)+r_22.1))<1))) wz rfl ?_))
               rcases aj h_111 with⟨hc_116,h_111⟩|⟨hc_116,h_111⟩
               ·refine aC rfl hc_116 wz (ak wa (ak wa (ae (vB true) wz rfl (ae (vB true) wz rfl (ak wa (ak wa (ae (vB true) wz rfl (ae (vB true) wz rfl (ak wa (ak wa (ak wa (ae (vB true) wz rfl ?_))))))))))))
                obtain ⟨r_117,hr_118,h_111⟩:=bind_some h_111
                refine au (dI hr_118) rfl uC rfl rfl rfl rfl wz (aK 20 1 (.inr (by kernel_rfl)) (λ_ _ ag=>trivial) gP jK rfl rfl (.d (.agg (Log_.enc (⟨v_60.1,v_60.2.1,v_60.2.2.1,v_60.2.2.2.1,v_60.2.2.2.2.1,v_60.2.2.2.2.2⟩:Log_)))) rfl wz ?_)
                obtain ⟨r_119,hr_120,h_111⟩:=bind_some h_111
                refine au (iw hr_120) rfl EP rfl rfl rfl rfl wz (aN jH rfl 5 rfl wz (aK 23 1 (.inr (by kernel_rfl)) (λ_ _ ag=>⟨.inl ⟨rfl,rfl⟩,trivial⟩) sz9 ag9 rfl rfl (vS v_60.2.2.2.2.2) rfl wz ?_))
                obtain ⟨r_121,hr_122,h_111⟩:=bind_some h_111
                refine au (fG hr_122) rfl Br rfl rfl rfl rfl wz (ae (vB (!r_121)) wz rfl ?_)
                obtain ⟨r_123,hr_124,h_111⟩:=bind_some h_111
                refine au (dI hr_124) rfl uC rfl rfl rfl rfl wz (dC (([r_114,r_117,r_119,r_123]:List Int).map eI) zy BD rfl rfl rfl rfl rfl wz ?_)
                obtain ⟨r_125,hr_126,h_111⟩:=bind_some h_111
                refine au (gU hr_126) rfl AP rfl rfl rfl rfl wz (ae (vI r_125) wz rfl (ai ?_))
                obtain rfl:=ah h_111
                exact cu
               ·refine aC rfl hc_116 wz (ae (vI (w64 ((r_3.1.length:Int)+r_22.1))) wa rfl (ae (vB (decide ((w64 ((r_3.1.length:Int)+r_22.1))>2000))) wa rfl (ae (vB (decide ((w64 ((r_3.1.length:Int)+r_22.1))>2000))) wz rfl ?_)))
                rcases aj h_111 with⟨hc_127,h_111⟩|⟨hc_127,h_111⟩
                ·refine aC rfl hc_127 wz (ak wa (ak wa (ae (vB true) wz rfl (ae (vB true) wz rfl (ak wa (ak wa (ak wa (ae (vB true) wz rfl ?_))))))))
                 obtain ⟨r_128,hr_129,h_111⟩:=bind_some h_111
                 refine au (dI hr_129) rfl uC rfl rfl rfl rfl wz (aK 20 1 (.inr (by kernel_rfl)) (λ_ _ ag=>trivial) gP jK rfl rfl (.d (.agg (Log_.enc (⟨v_60.1,v_60.2.1,v_60.2.2.1,v_60.2.2.2.1,v_60.2.2.2.2.1,v_60.2.2.2.2.2⟩:Log_)))) rfl wz ?_)
                 obtain ⟨r_130,hr_131,h_111⟩:=bind_some h_111
                 refine au (iw hr_131) rfl EP rfl rfl rfl rfl wz (aN jH rfl 5 rfl wz (aK 23 1 (.inr (by kernel_rfl)) (λ_ _ ag=>⟨.inl ⟨rfl,rfl⟩,trivial⟩) sz9 ag9 rfl rfl (vS v_60.2.2.2.2.2) rfl wz ?_))
                 obtain ⟨r_132,hr_133,h_111⟩:=bind_some h_111
                 refine au (fG hr_133) rfl Br rfl rfl rfl rfl wz (ae (vB (!r_132)) wz rfl ?_)
                 obtain ⟨r_134,hr_135,h_111⟩:=bind_some h_111
                 refine au (dI hr_135) rfl uC rfl rfl rfl rfl wz (dC (([r_114,r_128,r_130,r_134]:List Int).map eI) zy BD rfl rfl rfl rfl rfl wz ?_)
                 obtain ⟨r_136,hr_137,h_111⟩:=bind_some h_111
                 refine au (gU hr_137) rfl AP rfl rfl rfl rfl wz (ae (vI r_136) wz rfl (ai ?_))
                 obtain rfl:=ah h_111
                 exact cu
                ·refine aC rfl hc_127 wz (ae (vI r_19.1) wa rfl (ae (vB (decide (r_19.1<0))) wa rfl (ae (vB (decide (r_19.1<0))) wz rfl ?_)))
                 rcases aj h_111 with⟨hc_138,h_111⟩|⟨hc_138,h_111⟩
                 ·refine aC rfl hc_138 wz (ak wa (ak wa (ak wa (ae (vB true) wz rfl ?_))))
                  obtain ⟨r_139,hr_140,h_111⟩:=bind_some h_111
                  refine au (dI hr_140) rfl uC rfl rfl rfl rfl wz (aK 20 1 (.inr (by kernel_rfl)) (λ_ _ ag=>trivial) gP jK rfl rfl (.d (.agg (Log_.enc (⟨v_60.1,v_60.2.1,v_60.2.2.1,v_60.2.2.2.1,v_60.2.2.2.2.1,v_60.2.2.2.2.2⟩:Log_)))) rfl wz ?_)
                  obtain ⟨r_141,hr_142,h_111⟩:=bind_some h_111
                  refine au (iw hr_142) rfl EP rfl rfl rfl rfl wz (aN jH rfl 5 rfl wz (aK 23 1 (.inr (by kernel_rfl)) (λ_ _ ag=>⟨.inl ⟨rfl,rfl⟩,trivial⟩) sz9 ag9 rfl rfl (vS v_60.2.2.2.2.2) rfl wz ?_))
                  obtain ⟨r_143,hr_144,h_111⟩:=bind_some h_111
                  refine au (fG hr_144) rfl Br rfl rfl rfl rfl wz (ae (vB (!r_143)) wz rfl ?_)
                  obtain ⟨r_145,hr_146,h_111⟩:=bind_some h_111
                  refine au (dI hr_146) rfl uC rfl rfl rfl rfl wz (dC (([r_114,r_139,r_141,r_145]:List Int).map eI) zy BD rfl rfl rfl rfl rfl wz ?_)
                  obtain ⟨r_147,hr_148,h_111⟩:=bind_some h_111
                  refine au (gU hr_148) rfl AP rfl rfl rfl rfl wz (ae (vI r_147) wz rfl (ai ?_))
                  obtain rfl:=ah h_111
                  exact cu
                 ·refine aC rfl hc_138 wz (ae (vI r_19.1) wa rfl (ae (vI (w64 ((r_3.1.length:Int)+r_22.1))) wa rfl (ae (vB (decide (r_19.1>=(w64 ((r_3.1.length:Int)+r_22.1))))) wa rfl (ae (vB (decide (r_19.1>=(w64 ((r_3.1.length:Int)+r_22.1))))) wz rfl ?_))))
                  obtain ⟨r_149,hr_150,h_111⟩:=bind_some h_111
                  refine au (dI hr_150) rfl uC rfl rfl rfl rfl wz (aK 20 1 (.inr (by kernel_rfl)) (λ_ _ ag=>trivial) gP jK rfl rfl (.d (.agg (Log_.enc (⟨v_60.1,v_60.2.1,v_60.2.2.1,v_60.2.2.2.1,v_60.2.2.2.2.1,v_60.2.2.2.2.2⟩:Log_)))) rfl wz ?_)
                  obtain ⟨r_151,hr_152,h_111⟩:=bind_some h_111
                  refine au (iw hr_152) rfl EP rfl rfl rfl rfl wz (aN jH rfl 5 rfl wz (aK 23 1 (.inr (by kernel_rfl)) (λ_ _ ag=>⟨.inl ⟨rfl,rfl⟩,trivial⟩) sz9 ag9 rfl rfl (vS v_60.2.2.2.2.2) rfl wz ?_))
                  obtain ⟨r_153,hr_154,h_111⟩:=bind_some h_111
                  refine au (fG hr_154) rfl Br rfl rfl rfl rfl wz (ae (vB (!r_153)) wz rfl ?_)
                  obtain ⟨r_155,hr_156,h_111⟩:=bind_some h_111
                  refine au (dI hr_156) rfl uC rfl rfl rfl rfl wz (dC (([r_114,r_149,r_151,r_155]:List Int).map eI) zy BD rfl rfl rfl rfl rfl wz ?_)
                  obtain ⟨r_157,hr_158,h_111⟩:=bind_some h_111
                  refine au (gU hr_158) rfl AP rfl rfl rfl rfl wz (ae (vI r_157) wz rfl (ai ?_))
                  obtain rfl:=ah h_111
                  exact cu
              ·rintro ⟨⟩ _ sl_ H_ hp_ hq_
               refine aL _ hp_ hq_ (af (aa (ae (vI v_110) wz rfl (ae (vL eS v_73.1) wz rfl ?_))))
               obtain ⟨r_159,hr_160,hF⟩:=bind_some hF
               refine au (dY (gid:=26) (caps:=[]) (Sin:=[]) (λ_ _ h_=>qf h_) hb26 ⟨rfl,rfl⟩ (by kernel_rfl) (Eo (by kernel_rfl)) (Ca (by kernel_rfl)) hr_160) rfl hb25 rfl rfl rfl rfl wz ?_
               obtain ⟨r_161,hr_162,hF⟩:=bind_some hF
               refine au (dI hr_162) rfl uC rfl rfl rfl rfl wz (dC (([v_110,r_161]:List Int).map eI) zy BD rfl rfl rfl rfl rfl wz ?_)
               obtain ⟨r_163,hr_164,hF⟩:=bind_some hF
               refine au (gU hr_164) rfl AP rfl rfl rfl rfl wz (ae (vI r_163) wz rfl (ai (af ?_)))
               obtain ⟨v_165,h_166,hF⟩:=bind_some hF
               refine aD (β:=Unit) (λ_=>([(2,(vB v_165))]:SL_)) (λ_=>([(n_2,some (.cells 2 [(vL eI v_100.2.1),(vI v_100.2.2)])),(n_53,some (.cells 6 [(vS v_60.1),(vS v_60.2.1),(vI v_60.2.2.1),(vI v_60.2.2.2.1),(vI v_60.2.2.2.2.1),(vS v_60.2.2.2.2.2)]))]:Hp)) (λ_=>True) ?_ ?_
               ·refine aa (ae (vI r_108.2) wz rfl (ae (vI r_163) wz rfl (ae (vB (r_108.2==r_163)) wz rfl ?_)))
                rcases aj h_166 with⟨hc_167,h_166⟩|⟨hc_167,h_166⟩
                ·refine aC rfl hc_167 wz (ae (vB r_108.1) wa rfl (ae (vI r_163) wa rfl (ae (vB (r_163==0)) wa rfl ?_)))
                 rcases aj h_166 with⟨hc_168,h_166⟩|⟨hc_168,h_166⟩
                 ·refine aC rfl hc_168 wa (ae (vS v_100.1) wa rfl (ae (vI (w64 ((r_3.1.length:Int)+r_22.1))) wa rfl (ae (vI r_19.1) wa rfl (aK 0 1 il ft gP jK rfl rfl (.d (.agg (Log_.enc (⟨v_60.1,v_60.2.1,v_60.2.2.1,v_60.2.2.2.1,v_60.2.2.2.2.1,v_60.2.2.2.2.2⟩:Log_)))) rfl wa (ae (vL eS v_73.1) wa rfl ?_)))))
                  obtain ⟨r_169,hr_170,h_166⟩:=bind_some h_166
                  refine au (uA hr_170) rfl hb27 rfl rfl rfl rfl wa (ae (vB r_169) wa rfl (Es un4 rfl rfl wa (ae (vB (r_108.1==r_169)) wz rfl ?_)))
                  rcases aj h_166 with⟨hc_171,h_166⟩|⟨hc_171,h_166⟩
                  ·refine aC rfl hc_171 wz ?_
                   obtain ⟨r_172,hr_173,h_166⟩:=bind_some h_166
                   refine au (qE hr_173) rfl hb28 rfl rfl rfl rfl wa (ae (vB r_172) wz rfl (ae (vB r_172) wz rfl (ai ?_)))
                   obtain rfl:=ah h_166
                   exact cu
                  ·refine aC rfl hc_171 wz (ak wa (ae (vB false) wz rfl (ae (vB false) wz rfl (ai ?_))))
                   obtain rfl:=ah h_166
                   exact cu
                 ·refine aC rfl hc_168 wa (ak wa (ak wa (ak wa (ak wa (ak wa (ak wa (ae (vB false) wa rfl (Es un4 rfl rfl wa (ae (vB (r_108.1==false)) wz rfl ?_)))))))))
                  rcases aj h_166 with⟨hc_174,h_166⟩|⟨hc_174,h_166⟩
                  ·refine aC rfl hc_174 wz ?_
                   obtain ⟨r_175,hr_176,h_166⟩:=bind_some h_166
                   refine au (qE hr_176) rfl hb28 rfl rfl rfl rfl wa (ae (vB r_175) wz rfl (ae (vB r_175) wz rfl (ai ?_)))
                   obtain rfl:=ah h_166
                   exact cu
                  ·refine aC rfl hc_174 wz (ak wa (ae (vB false) wz rfl (ae (vB false) wz rfl (ai ?_))))
                   obtain rfl:=ah h_166
                   exact cu
                ·refine aC rfl hc_167 wz (ak wa (ak wa (ak wa (ak wa (ak (wn rfl rfl) (ak (wn rfl rfl) (ak (wn rfl rfl) (ak (wn rfl rfl) (ak (wn rfl rfl) (ak (wn rfl rfl) (ak wa (ak wa (ae (vB false) wz rfl (ae (vB false) wz rfl (ak wa (ae (vB false) wz rfl (ae (vB false) wz rfl (ai ?_))))))))))))))))))
                 obtain rfl:=ah h_166
                 exact cu
               ·rintro ⟨⟩ _ sl_ H_ hp_ hq_
                refine aL _ hp_ hq_ ?_
                obtain rfl:=ah hF
                exact av (aQ (.inr rfl) [(vB v_165)] ⟨rfl,trivial⟩ rfl rfl rfl)
end Go.Proofs.YtdenjndllgahgaaGreatDoor.Law

