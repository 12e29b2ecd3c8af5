/-
 The machine computes these plain functions (written by a program of ours).
-/
import Derived.Test.YtnfojnnfidnikaaGreatDoorFacts
import Derived.Test.YtnfojnnfidnikaaGreatDoorDefs
import Derived.Test.YtnfojnnfidnikaaGreatDoorShelf
open Go Go.Eng Go.Proofs
namespace Go.Proofs.YtnfojnnfidnikaaGreatDoor.Law
set_option maxRecDepth 100000
set_option linter.unusedVariables false
set_option maxHeartbeats 1000000
theorem vW {x_1:Int} {n_2:Int} {r:Int} (hF:ry x_1 n_2=some r) :
  FnM Tryz.prog 51 [(vI x_1),(vI n_2)] [] (vI r) []:=by
 refine FnM.of_wH ⟨Tryz.prog,16,[],[]⟩ rfl Tryz.func51 rfl rfl (lb_ rfl) (by kernel_rfl) ?_
 unfold ry at hF
 refine ai (aa (vI 0) (ah (ak (ai (aa (vI n_2) (aa (vB (decide (n_2<1))) (ah ?_)))))))
 rcases aj hF with⟨hc_3,hF⟩|⟨hc_3,hF⟩
 ·refine aA rfl hc_3 (ai (aa (vI 0) (ah ?_)))
  obtain rfl:=ae hF
  exact ay (aM [(vI 0)] ⟨rfl,trivial⟩)
 ·refine ax rfl hc_3 (av (ai (aa (vI x_1) (aa (vI n_2) ?_))))
  obtain ⟨q_4,hz_5,hF⟩:=bind_some hF
  refine Ov rfl rfl hz_5 wz (aa (vI q_4) (ah (ak (ai (aa (vI q_4) (aa (vB (decide (q_4<0))) (ah ?_)))))))
  obtain ⟨v_6,h_7,hF⟩:=bind_some hF
  refine aS [(0,(vI v_6))] [] ?_ ?_
  ·rcases aj h_7 with⟨hc_8,h_7⟩|⟨hc_8,h_7⟩
   ·refine aA rfl hc_8 (au (aa (vI q_4) (aa (vI n_2) (aa (vI (w64 (q_4+n_2))) (aa (vI (w64 (q_4+n_2))) (ah ?_))))))
    obtain rfl:=ae h_7
    exact cu
   ·refine ax rfl hc_8 (av ?_)
    obtain rfl:=ae h_7
    exact cu
  ·rintro ⟨⟩ _ sl_ H_ hp_ hq_
   refine aR _ hp_ hq_ (ai (aa (vI v_6) (aa (vI v_6) (ah ?_))))
   obtain rfl:=ae hF
   exact ay (aM [(vI v_6)] ⟨rfl,trivial⟩)
theorem kR {s_1:Stream} {n_2:Int} {r:Int×Stream} (hF:gN s_1 n_2=some r) :
  FnM Tryz.prog 29 [(.ref (aI 0) 0 0),(vI n_2)] [(.cells 2 [(vL eI s_1.L),(vI s_1.f_at)])] (vI r.1) [some (.cells 2 [(vL eI r.2.L),(vI r.2.f_at)])]:=by
 refine FnM.of_wH ⟨Tryz.prog,64,[],[]⟩ rfl Tryz.func29 rfl rfl (lb_ rfl) (by kernel_rfl) ?_
 unfold gN at hF
 refine ai (aa (vI 0) (ah (ai (aa (.ref (aI 0) 0 0) (aa (.ref (aI 0) 0 0) (aH D6 rfl 1 rfl wz (aG 0 0 il ft sz3 ag3 rfl rfl (vI s_1.f_at) rfl wz (aa (vI (w64 (s_1.f_at+1))) (aa (.ref (aI 0) 0 0) (aH D6 rfl 1 rfl wz (gu 0 il ft 0 sz3 rfl rfl [(vL eI s_1.L),(vI (w64 (s_1.f_at+1)))] rfl wz (ah (ak (ai (aa (.ref (aI 0) 0 0) (aa (.ref (aI 0) 0 0) (aH FP rfl 0 rfl wz (aG 0 0 il ft MG MN rfl rfl (vL eI s_1.L) rfl wz (bN vk rfl wz (aa (vB ((s_1.L.length:Int)==0)) (ah ?_)))))))))))))))))))))
 rcases aj hF with⟨hc_3,hF⟩|⟨hc_3,hF⟩
 ·refine aA rfl hc_3 (ai (aa (.ref (aI 0) 0 0) (aa (.ref (aI 0) 0 0) (aH D6 rfl 1 rfl wz (aG 0 0 il ft sz3 ag3 rfl rfl (vI (w64 (s_1.f_at+1))) rfl wz (aa (vI (w64 ((w64 (s_1.f_at+1))*7919))) (aa (vI n_2) ?_)))))))
  obtain ⟨r_4,hr_5,hF⟩:=bind_some hF
  refine aB (vW hr_5) rfl hb51 rfl rfl rfl rfl wz (aa (vI r_4) (ah ?_))
  obtain rfl:=ae hF
  exact ay (EC (.inr rfl) [(vI r_4)] _ [0] [aI 0] ⟨rfl,trivial⟩ (.cons (l7 rfl rfl) (.nil)) (by kernel_rfl) ⟨(by kernel_rfl),trivial⟩ (by decide) (by kernel_rfl))
 ·refine ax rfl hc_3 (av (ak (bC (aa (.ref (aI 0) 0 0) (aa (.ref (aI 0) 0 0) (aH D6 rfl 1 rfl wz (aG 3 0 (.inr (by kernel_rfl)) (λ_ _ ag=>trivial) sz3 ag3 rfl rfl (vI (w64 (s_1.f_at+1))) rfl wz (aa (vI (w64 ((w64 (s_1.f_at+1))-1))) (aa (.ref (aI 0) 0 0) (aa (.ref (aI 0) 0 0) (aH FP rfl 0 rfl wz (aG 8 0 (.inr (by kernel_rfl)) (λ_ _ ag=>⟨.inl ⟨rfl,rfl⟩,trivial⟩) MG MN rfl rfl (vL eI s_1.L) rfl wz (bN vk rfl wz ?_)))))))))))))
  obtain ⟨q_6,hz_7,hF⟩:=bind_some hF
  refine Ov rfl rfl hz_7 wz (aa (vI q_6) (ah (ak (bC (aa (.ref (aI 0) 0 0) (aa (.ref (aI 0) 0 0) (aH D6 rfl 1 rfl wz (aG 3 0 (.inr (by kernel_rfl)) (λ_ _ ag=>trivial) sz3 ag3 rfl rfl (vI (w64 (s_1.f_at+1))) rfl wz (aa (vI (w64 ((w64 (s_1.f_at+1))-1))) (aa (.ref (aI 0) 0 0) (aa (.ref (aI 0) 0 0) (aH FP rfl 0 rfl wz (aG 8 0 (.inr (by kernel_rfl)) (λ_ _ ag=>⟨.inl ⟨rfl,rfl⟩,trivial⟩) MG MN rfl rfl (vL eI s_1.L) rfl wz (bN vk rfl wz ?_))))))))))))))
  obtain ⟨q_8,hz_9,hF⟩:=bind_some hF
  refine Px rfl rfl hz_9 wz (aa (vI q_8) (ah (aR (H0:=([((aI 0),some (.cells 2 [(vL eI s_1.L),(vI (w64 (s_1.f_at+1)))]))]:Hp)) ([(0,(.ref (aI 0) 0 0)),(1,(vI n_2)),(5,(vI q_6)),(6,(vI q_8))]:SL_) (by kernel_rfl) (Ae (by kernel_rfl)) (ai (aa (.ref (aI 0) 0 0) (aa (.ref (aI 0) 0 0) (aH FP rfl 0 rfl wz (aG 0 0 il ft MG MN rfl rfl (vL eI s_1.L) rfl wz (aa (vI q_6) ?_)))))))))
  obtain ⟨y_10,hy_11,hF⟩:=bind_some hF
  refine dB mQ rfl rfl hy_11 rfl wz (bH sz3 ag3 rfl (vI y_10) rfl wz ?_)
  obtain ⟨r_12,hr_13,hF⟩:=bind_some hF
  refine aB (vW hr_13) rfl hb51 rfl rfl rfl rfl wz (aa (vI q_8) (aa (vI q_6) (aa (vI (w64 (7919+q_6))) (aa (vI (w64 (q_8*(w64 (7919+q_6))))) (aa (vI (w64 (r_12+(w64 (q_8*(w64 (7919+q_6))))))) (aa (vI n_2) ?_))))))
  obtain ⟨r_14,hr_15,hF⟩:=bind_some hF
  refine aB (vW hr_15) rfl hb51 rfl rfl rfl rfl wz (aa (vI r_14) (ah ?_))
  obtain rfl:=ae hF
  exact ay (EC (.inr rfl) [(vI r_14)] _ [0] [aI 0] ⟨rfl,trivial⟩ (.cons (l7 rfl rfl) (.nil)) (by kernel_rfl) ⟨(by kernel_rfl),trivial⟩ (by decide) (by kernel_rfl))
theorem gW {s_1:Stream} {l_2:(List Int)} {r:Int×Stream} (hF:dN s_1 l_2=some r) :
  FnM Tryz.prog 9 [(.ref (aI 0) 0 0),(vL eI l_2)] [(.cells 2 [(vL eI s_1.L),(vI s_1.f_at)])] (vI r.1) [some (.cells 2 [(vL eI r.2.L),(vI r.2.f_at)])]:=by
 refine FnM.of_wH ⟨Tryz.prog,12,[],[]⟩ rfl Tryz.func9 rfl rfl (lb_ rfl) (by kernel_rfl) ?_
 unfold dN at hF
 refine ai (aa (vI 0) (ah (ai (aa (vL eI l_2) (aa (.ref (aI 0) 0 0) (aa (vL eI l_2) (bN vk rfl wz ?_)))))))
 obtain ⟨r_3,hr_4,hF⟩:=bind_some hF
 refine iq 0 [0] il ft (kR hr_4) rfl hb29 rfl (by kernel_rfl) (by kernel_rfl) (by kernel_rfl) (by kernel_rfl) (by kernel_rfl) (by kernel_rfl) (by kernel_rfl) (by decide) (by kernel_rfl) wz (vI r_3.1) (by kernel_rfl) ([((aI 0),some (.cells 2 [(vL eI r_3.2.L),(vI r_3.2.f_at)]))]:Hp) (by kernel_rfl) ?_
 obtain ⟨y_6,hy_7,hF⟩:=bind_some hF
 refine dB mQ rfl rfl hy_7 rfl wz (bH sz3 ag3 rfl (vI y_6) rfl wz (aa (vI y_6) (ah ?_)))
 obtain rfl:=ae hF
 exact ay (EC (.inr rfl) [(vI y_6)] _ [0] [aI 0] ⟨rfl,trivial⟩ (.cons (l7 rfl rfl) (.nil)) (by kernel_rfl) ⟨(by kernel_rfl),trivial⟩ (by decide) (by kernel_rfl))
theorem jW {s_1:Stream} {low_2:Int} {high_3:Int} {r:Int×Stream} (hF:fe s_1 low_2 high_3=some r) :
  FnM Tryz.prog 11 [(.ref (aI 0) 0 0),(vI low_2),(vI high_3)] [(.cells 2 [(vL eI s_1.L),(vI s_1.f_at)])] (vI r.1) [some (.cells 2 [(vL eI r.2.L),(vI r.2.f_at)])]:=by
 refine FnM.of_wH ⟨Tryz.prog,19,[],[]⟩ rfl Tryz.func11 rfl rfl (lb_ rfl) (by kernel_rfl) ?_
 unfold fe at hF
 refine ai (aa (vI 0) (ah (ak (ai (aa (vI high_3) (aa (vI low_2) (aa (vB (decide (high_3<low_2))) (ah ?_))))))))
 rcases aj hF with⟨hc_4,hF⟩|⟨hc_4,hF⟩
 ·refine aA rfl hc_4 (ai (aa (vI low_2) (aa (vI low_2) (ah ?_))))
  obtain rfl:=ae hF
  exact ay (EC (.inr rfl) [(vI low_2)] _ [0] [aI 0] ⟨rfl,trivial⟩ (.cons (l7 rfl rfl) (.nil)) (by kernel_rfl) ⟨(by kernel_rfl),trivial⟩ (by decide) (by kernel_rfl))
 ·refine ax rfl hc_4 (av (ai (aa (vI low_2) (aa (.ref (aI 0) 0 0) (aa (vI high_3) (aa (vI low_2) (aa (vI (w64 (high_3-low_2))) (aa (vI (w64 ((w64 (high_3-low_2))+1))) ?_))))))))
  obtain ⟨r_5,hr_6,hF⟩:=bind_some hF
  refine iq 0 [0] il ft (kR hr_6) rfl hb29 rfl (by kernel_rfl) (by kernel_rfl) (by kernel_rfl) (by kernel_rfl) (by kernel_rfl) (by kernel_rfl) (by kernel_rfl) (by decide) (by kernel_rfl) wz (vI r_5.1) (by kernel_rfl) ([((aI 0),some (.cells 2 [(vL eI r_5.2.L),(vI r_5.2.f_at)]))]:Hp) (by kernel_rfl) (aa (vI (w64 (low_2+r_5.1))) (aa (vI (w64 (low_2+r_5.1))) (ah ?_)))
  obtain rfl:=ae hF
  exact ay (EC (.inr rfl) [(vI (w64 (low_2+r_5.1)))] _ [0] [aI 0] ⟨rfl,trivial⟩ (.cons (l7 rfl rfl) (.nil)) (by kernel_rfl) ⟨(by kernel_rfl),trivial⟩ (by decide) (by kernel_rfl))
theorem zo {s_1:Stream} {l_2:(List ByteArray)} {r:ByteArray×Stream} (hF:jB s_1 l_2=some r) :
  FnM Tryz.prog 12 [(.ref (aI 0) 0 0),(vL eS l_2)] [(.cells 2 [(vL eI s_1.L),(vI s_1.f_at)])] (vS r.1) [some (.cells 2 [(vL eI r.2.L),(vI r.2.f_at)])]:=by
 refine FnM.of_wH ⟨Tryz.prog,12,[],[]⟩ rfl Tryz.func12 rfl rfl (lb_ rfl) (by kernel_rfl) ?_
 unfold jB at hF
 refine ai (aa (vS (⟨#[]⟩:ByteArray)) (ah (ai (aa (vL eS l_2) (aa (.ref (aI 0) 0 0) (aa (vL eS l_2) (bN G9 rfl wz ?_)))))))
 obtain ⟨r_3,hr_4,hF⟩:=bind_some hF
 refine iq 0 [0] il ft (kR hr_4) rfl hb29 rfl (by kernel_rfl) (by kernel_rfl) (by kernel_rfl) (by kernel_rfl) (by kernel_rfl) (by kernel_rfl) (by kernel_rfl) (by decide) (by kernel_rfl) wz (vI r_3.1) (by kernel_rfl) ([((aI 0),some (.cells 2 [(vL eI r_3.2.L),(vI r_3.2.f_at)]))]:Hp) (by kernel_rfl) ?_
 obtain ⟨y_6,hy_7,hF⟩:=bind_some hF
 refine dB CJ rfl rfl hy_7 rfl wz (bH sz9 ag9 rfl (vS y_6) rfl wz (aa (vS y_6) (ah ?_)))
 obtain rfl:=ae hF
 exact ay (EC (.inr rfl) [(vS y_6)] _ [0] [aI 0] ⟨rfl,trivial⟩ (.cons (l7 rfl rfl) (.nil)) (by kernel_rfl) ⟨(by kernel_rfl),trivial⟩ (by decide) (by kernel_rfl))
theorem BC {x0:Int} {r:ByteArray} (hF:strconv_Itoa x0=some r) :
  FnM Tryz.prog 102 [(vI x0)] [] (vS r) [] :=
 itoa_ok Tryz.strconv_Itoa KC hF
theorem Bw {x0:(List ByteArray)} {x1:ByteArray} {r:ByteArray} (hF:strings_Join x0 x1=some r) :
  FnM Tryz.prog 103 [(vL eS x0),(vS x1)] [] (vS r) [] :=
 join_ok rfl Tryz.strings_Join_none Tryz.strings_Join hF
theorem Ej {l_1:(List Int)} {r:ByteArray} (hF:o9 l_1=some r) :
  FnM Tryz.prog 64 [(vL eI l_1)] [] (vS r) []:=by
 refine FnM.of_wH ⟨Tryz.prog,20,[],[]⟩ rfl Tryz.func64 rfl rfl (lb_ rfl) (by kernel_rfl) ?_
 unfold o9 at hF
 refine ai (aa (vS (⟨#[]⟩:ByteArray)) (ah (ai (aa .nil (ah (ak (ai (aa (vL eI l_1) (bN vk rfl wz (aa (vI 0) (ah (mh (λn_8 => ?_)))))))))))))
 obtain ⟨o_13,hj_14,hF⟩:=bind_some hF
 obtain ⟨hn_6,hj_14⟩:=bv hj_14
 refine iM (σ:=(List ByteArray)) (N:=Nm) (λp=>(λ(s_7:List ByteArray) (n_10:Nm)=>([(3,(gV n_10 1 s_7))]:SL_)) p.1 p.2) (λp=>(λ(s_7:List ByteArray) (n_10:Nm)=>([(n_10,gB 1 eS s_7)]:Hp)) p.1 p.2) (λ(k_2:Nat)=>(λp=>(λ(s_7:List ByteArray) (n_10:Nm)=>([(3,(gV n_10 1 s_7)),(6,(vL eI l_1)),(7,(vI (l_1.length:Int))),(8,(vI (k_2:Int)))]:SL_)) p.1 p.2)) (λk x s=>jG k x s) o_13 l_1 (([]:List ByteArray),n_8) hj_14 rfl (aK rfl) ?_ ?_
 ·rintro ⟨k_2,l_3,s_7,n_10⟩ ⟨hL_12,hD_5⟩
  dsimp only at hL_12 hD_5
  cases l_3 with
  | nil =>
   obtain rfl:=ae hL_12
   refine ai (aa (vB (decide ((k_2:Int)<(l_1.length:Int)))) (ah ?_))
   refine ak (ax rfl (drop_nil hD_5) (bf ?_))
   exact aY (s_7,n_10) rfl rfl (aK rfl)
  | cons x_4 l_3 =>
   obtain ⟨c_,hc_11,hL_12⟩:=bind_some hL_12
   refine ai (aa (vB (decide ((k_2:Int)<(l_1.length:Int)))) (ah ?_))
   refine ak (aA rfl (bA hD_5) (av ?_))
   unfold jG at hc_11
   refine ak (aQ (ai (dB mQ rfl rfl (bK hD_5) rfl wz (bH sz3 ag3 rfl (vI x_4) rfl wz (aa (vI x_4) (ah (au (aa (gV n_10 1 s_7) (aa (vI x_4) ?_)))))))))
   obtain ⟨r_15,hr_16,hc_11⟩:=bind_some hc_11
   refine aB (BC hr_16) rfl hb102 rfl rfl rfl rfl wz (fq (([r_15]:List ByteArray).map eS) CJ ez45 rfl rfl rfl rfl rfl wz ?_)
   obtain ⟨a_17,hz_18,hc_11⟩:=bind_some hc_11
   refine jL 0 il ft (i:=0) el45 el45 sz9 z9 rfl (by decide) by9 (by decide) (λ_=>rfl) rfl rfl rfl hz_18 wz (λn_19=>aa (gV n_19 1 a_17) (ah (au (fw (bE hD_5 hn_6) wz rfl (aa (vI ((k_2+1:Nat):Int)) (ah ?_))))))
   obtain rfl:=ae hc_11
   exact aZ (k_2+1,l_3,a_17,n_19) ⟨hL_12,aX hD_5⟩ (ls_ _) rfl (aK rfl)
 ·rintro ⟨s_7,n_10⟩ ho_ sl_ H_ hp_ hq_
  subst ho_
  refine aR _ hp_ hq_ (ak (gJ 0 rfl (bZ 3 0 rfl rfl (au (aa (vL eS s_7) ?_)))))
  obtain ⟨r_20,hr_21,hF⟩:=bind_some hF
  refine aB (Bw hr_21) rfl hb103 rfl rfl rfl rfl wz (aa (vS r_20) (ah ?_))
  obtain rfl:=ae hF
  exact ay (aM [(vS r_20)] ⟨rfl,trivial⟩)
theorem Cv {l_1:Log_} {r:ByteArray} (hF:oW l_1=some r) :
  FnM Tryz.prog 37 [(.d (.agg (Log_.enc l_1)))] [] (vS r) []:=by
 refine FnM.of_wH ⟨Tryz.prog,19,[],[]⟩ rfl Tryz.func37 rfl rfl (lb_ rfl) (by kernel_rfl) ?_
 unfold oW at hF
 refine ai (fJ 0 (.inl rfl) (Log_.v l_1) rfl rfl wz (λn_2=>aa (vS (⟨#[]⟩:ByteArray)) (ah (ak (bC (aH vC rfl 0 rfl wz (aG 1 0 (.inr (by kernel_rfl)) (λ_ _ ag=>trivial) sz9 ag9 rfl rfl (vS l_1.Player) rfl wz ?_)))))))
 obtain ⟨s_3,hz_4,hF⟩:=bind_some hF
 refine Di rfl rfl hz_4 wz (aH KO rfl 1 rfl wz (aG 4 0 (.inr (by kernel_rfl)) (λ_ _ ag=>⟨.inl ⟨rfl,rfl⟩,trivial⟩) sz9 ag9 rfl rfl (vS l_1.Item) rfl wz ?_))
 obtain ⟨s_5,hz_6,hF⟩:=bind_some hF
 refine Di rfl rfl hz_6 wz ?_
 obtain ⟨s_7,hz_8,hF⟩:=bind_some hF
 refine Di rfl rfl hz_8 wz (aH Hr rfl 2 rfl wz (aG 8 0 (.inr (by kernel_rfl)) (λ_ _ ag=>⟨.inl ⟨rfl,rfl⟩,⟨.inl ⟨rfl,rfl⟩,trivial⟩⟩) sz3 ag3 rfl rfl (vI l_1.No) rfl wz (aH Hg rfl 3 rfl wz (aG 10 0 (.inr (by kernel_rfl)) (λ_ _ ag=>⟨.inl ⟨rfl,rfl⟩,⟨.inl ⟨rfl,rfl⟩,⟨.inl ⟨rfl,rfl⟩,trivial⟩⟩⟩) sz3 ag3 rfl rfl (vI l_1.Clock) rfl wz (aH JN rfl 4 rfl wz (aG 12 0 (.inr (by kernel_rfl)) (λ_ _ ag=>⟨.inl ⟨rfl,rfl⟩,⟨.inl ⟨rfl,rfl⟩,⟨.inl ⟨rfl,rfl⟩,⟨.inl ⟨rfl,rfl⟩,trivial⟩⟩⟩⟩) sz3 ag3 rfl rfl (vI l_1.Long) rfl wz (fq (([l_1.No,l_1.Clock,l_1.Long]:List Int).map eI) mQ x9 rfl rfl rfl rfl rfl wz ?_)))))))
 obtain ⟨r_9,hr_10,hF⟩:=bind_some hF
 refine aB (Ej hr_10) rfl hb64 rfl rfl rfl rfl wz ?_
 obtain ⟨s_11,hz_12,hF⟩:=bind_some hF
 refine Di rfl rfl hz_12 wz (aa (vS s_11) (ah ?_))
 obtain rfl:=ae hF
 exact ay (aM [(vS s_11)] ⟨rfl,trivial⟩)
theorem IR {s_1:ByteArray} {r:ByteArray} (hF:sH s_1=some r) :
  FnM Tryz.prog 36 [(vS s_1)] [] (vS r) []:=by
 refine FnM.of_wH ⟨Tryz.prog,34,[],[]⟩ rfl Tryz.func36 rfl rfl (lb_ rfl) (by kernel_rfl) ?_
 unfold sH at hF
 refine ai (aa (vS (⟨#[]⟩:ByteArray)) (ah (ai (aa (.d (.int .u64 14695981039346656037)) (ah (ak (ai (aa (vS s_1) (h_convs un9 un126 un5 rfl wz (bN un126 rfl wz (aa (vI 0) (ah ?_))))))))))))
 obtain ⟨o_10,hj_11,hF⟩:=bind_some hF
 obtain ⟨hn_6,hj_11⟩:=bv hj_11
 refine bW (λ(s_7:Int)=>[(3,(.d (.int .u64 s_7)))]) (λ(s_7:Int)=>[]) (λ(k_2:Nat)=>(λ(s_7:Int)=>[(3,(.d (.int .u64 s_7))),(8,(vL (eK .u8) (dQ s_1))),(9,(vI ((dQ s_1).length:Int))),(10,(vI (k_2:Int)))])) (λk x s=>rW k x s) o_10 (dQ s_1) 14695981039346656037 hj_11 rfl (aK rfl) ?_ ?_
 ·rintro ⟨k_2,l_3,s_7⟩ ⟨hL_9,hD_5⟩
  dsimp only at hL_9 hD_5
  cases l_3 with
  | nil =>
   obtain rfl:=ae hL_9
   refine ai (aa (vB (decide ((k_2:Int)<((dQ s_1).length:Int)))) (ah ?_))
   refine ak (ax rfl (drop_nil hD_5) (bf ?_))
   exact aY (s_7) rfl rfl (aK rfl)
  | cons x_4 l_3 =>
   obtain ⟨c_,hc_8,hL_9⟩:=bind_some hL_9
   refine ai (aa (vB (decide ((k_2:Int)<((dQ s_1).length:Int)))) (ah ?_))
   refine ak (aA rfl (bA hD_5) (av ?_))
   unfold rW at hc_8
   refine ak (aQ (ai (dB es126 rfl rfl (bK hD_5) rfl wz (bH sz5 ag5 rfl (.d (.int .u8 x_4)) rfl wz (aa (.d (.int .u8 x_4)) (ah (au (aa (.d (.int .u64 s_7)) (aa (.d (.int .u8 x_4)) (Au un5 un125 rfl wz (aa (.d (.int .u64 (M4 .u64 s_7 (IntKind.u64.wrap x_4)))) (aa (.d (.int .u64 (IntKind.u64.wrap ((M4 .u64 s_7 (IntKind.u64.wrap x_4))*1099511628211)))) (aa (.d (.int .u64 (IntKind.u64.wrap ((M4 .u64 s_7 (IntKind.u64.wrap x_4))*1099511628211)))) (ah (au (fw (bE hD_5 hn_6) wz rfl (aa (vI ((k_2+1:Nat):Int)) (ah ?_))))))))))))))))))
   obtain rfl:=ae hc_8
   exact aZ (k_2+1,l_3,(IntKind.u64.wrap ((M4 .u64 s_7 (IntKind.u64.wrap x_4))*1099511628211))) ⟨hL_9,aX hD_5⟩ (ls_ _) rfl (aK rfl)
 ·rintro s_7 ho_ sl_ H_ hp_ hq_
  subst ho_
  refine aR _ hp_ hq_ (ai (aa (vS (⟨#[]⟩:ByteArray)) (ah (ak (ai (aa (vI 0) (ah ?_)))))))
  obtain ⟨o_20,hj_21,hF⟩:=bind_some hF
  obtain ⟨hn_16,hj_21⟩:=bv hj_21
  refine bW (λ(s_17:Int×ByteArray)=>[(6,(vS s_17.2))]) (λ(s_17:Int×ByteArray)=>[]) (λ(k_12:Nat)=>(λ(s_17:Int×ByteArray)=>[(3,(.d (.int .u64 s_17.1))),(6,(vS s_17.2)),(20,(vI (k_12:Int)))])) (λk x s=>nk k x s) o_20 (List.range (16:Int).toNat) (s_7,(⟨#[]⟩:ByteArray)) hj_21 rfl (aK rfl) ?_ ?_
  ·rintro ⟨k_12,l_13,s_17⟩ ⟨hL_19,hD_15⟩
   dsimp only at hL_19 hD_15
   cases l_13 with
   | nil =>
    obtain rfl:=ae hL_19
    refine ai (aa (vB (decide ((k_12:Int)<16))) (ah ?_))
    refine ak (ax rfl (wT hD_15) (bf ?_))
    exact aY (s_17) rfl rfl (aK rfl)
   | cons x_14 l_13 =>
    obtain ⟨c_,hc_18,hL_19⟩:=bind_some hL_19
    refine ai (aa (vB (decide ((k_12:Int)<16))) (ah ?_))
    refine ak (aA rfl (tZ hD_15) (av ?_))
    unfold nk at hc_18
    refine ak (aQ (ai (aa (.d (.int .u64 s_17.1)) (aa (.d (.int .u64 (s_17.1.tmod 16))) (aa (.d (.int .u64 s_17.1)) (aa (.d (.int .u64 (s_17.1.tmod 16))) (aa (.d (.int .u64 (IntKind.u64.wrap ((s_17.1.tmod 16)+1)))) ?_)))))))
    obtain ⟨y_22,hy_23,hc_18⟩:=bind_some hc_18
    refine EE un9 rfl rfl rfl hy_23 wz (aa (vS s_17.2) ?_)
    obtain ⟨s_24,hz_25,hc_18⟩:=bind_some hc_18
    refine Di rfl rfl hz_25 wz (aa (vS s_24) (ah (au (aa (.d (.int .u64 s_17.1)) (aa (.d (.int .u64 (IntKind.u64.wrap (s_17.1.tdiv 16)))) (aa (.d (.int .u64 (IntKind.u64.wrap (s_17.1.tdiv 16)))) (ah (au (fw (wS hD_15 hn_16) wz rfl (aa (vI ((k_12+1:Nat):Int)) (ah ?_)))))))))))
    obtain rfl:=ae hc_18
    exact aZ (k_12+1,l_13,((IntKind.u64.wrap (s_17.1.tdiv 16)),s_24)) ⟨hL_19,aX hD_15⟩ (ls_ _) rfl (aK rfl)
  ·rintro s_17 ho_ sl_ H_ hp_ hq_
   subst ho_
   refine aR _ hp_ hq_ (ai (aa (vS s_17.2) (aa (vS s_17.2) (ah ?_))))
   obtain rfl:=ae hF
   exact ay (aM [(vS s_17.2)] ⟨rfl,trivial⟩)
theorem FL {last_1:ByteArray} {l_2:Log_} {r:ByteArray} (hF:sN last_1 l_2=some r) :
  FnM Tryz.prog 13 [(vS last_1),(.d (.agg (Log_.enc l_2)))] [] (vS r) []:=by
 refine FnM.of_wH ⟨Tryz.prog,11,[],[]⟩ rfl Tryz.func13 rfl rfl (lb_ rfl) (by kernel_rfl) ?_
 unfold sN at hF
 refine ai (fJ 0 (.inl rfl) (Log_.v l_2) rfl rfl wz (λn_3=>aa (vS (⟨#[]⟩:ByteArray)) (ah (ai (aa (vS last_1) ?_)))))
 obtain ⟨s_4,hz_5,hF⟩:=bind_some hF
 refine Di rfl rfl hz_5 wz (aG 0 0 il ft BF Ia rfl rfl (.d (.agg (Log_.enc l_2))) rfl wz ?_)
 obtain ⟨r_6,hr_7,hF⟩:=bind_some hF
 refine aB (Cv hr_7) rfl hb37 rfl rfl rfl rfl wz ?_
 obtain ⟨s_8,hz_9,hF⟩:=bind_some hF
 refine Di rfl rfl hz_9 wz ?_
 obtain ⟨r_10,hr_11,hF⟩:=bind_some hF
 refine aB (IR hr_11) rfl hb36 rfl rfl rfl rfl wz (aa (vS r_10) (ah ?_))
 obtain rfl:=ae hF
 exact ay (aM [(vS r_10)] ⟨rfl,trivial⟩)
theorem zt {s_1:Stream} {n_2:Int} {r:Bool×Stream} (hF:jC s_1 n_2=some r) :
  FnM Tryz.prog 14 [(.ref (aI 0) 0 0),(vI n_2)] [(.cells 2 [(vL eI s_1.L),(vI s_1.f_at)])] (vB r.1) [some (.cells 2 [(vL eI r.2.L),(vI r.2.f_at)])]:=by
 refine FnM.of_wH ⟨Tryz.prog,9,[],[]⟩ rfl Tryz.func14 rfl rfl (lb_ rfl) (by kernel_rfl) ?_
 unfold jC at hF
 refine ai (aa (vB false) (ah (ai (aa (.ref (aI 0) 0 0) (aa (vI n_2) ?_)))))
 obtain ⟨r_3,hr_4,hF⟩:=bind_some hF
 refine iq 0 [0] il ft (kR hr_4) rfl hb29 rfl (by kernel_rfl) (by kernel_rfl) (by kernel_rfl) (by kernel_rfl) (by kernel_rfl) (by kernel_rfl) (by kernel_rfl) (by decide) (by kernel_rfl) wz (vI r_3.1) (by kernel_rfl) ([((aI 0),some (.cells 2 [(vL eI r_3.2.L),(vI r_3.2.f_at)]))]:Hp) (by kernel_rfl) (aa (vB (r_3.1==0)) (aa (vB (r_3.1==0)) (ah ?_)))
 obtain rfl:=ae hF
 exact ay (EC (.inr rfl) [(vB (r_3.1==0))] _ [0] [aI 0] ⟨rfl,trivial⟩ (.cons (l7 rfl rfl) (.nil)) (by kernel_rfl) ⟨(by kernel_rfl),trivial⟩ (by decide) (by kernel_rfl))
theorem tN {s_1:Stream} {most_2:Int} {r:(List Log_)×Stream} (hF:ic s_1 most_2=some r) :
  FnM Tryz.prog 4 [(.ref (aI 0) 0 0),(vI most_2)] [(.cells 2 [(vL eI s_1.L),(vI s_1.f_at)])] (vL Log_.enc r.1) [some (.cells 2 [(vL eI r.2.L),(vI r.2.f_at)])]:=by
 refine FnM.of_wH ⟨Tryz.prog,59,[],[]⟩ rfl Tryz.func4 rfl rfl (lb_ rfl) (by kernel_rfl) ?_
 unfold ic at hF
 refine ai (aa .nil (ah (ai (aa .nil (ah (ak (ai (fq (([(⟨#[112,97]⟩:ByteArray),(⟨#[112,98]⟩:ByteArray)]:List ByteArray).map eS) CJ ez45 rfl rfl rfl rfl rfl wz (bN G9 rfl wz (aa (vI 0) (ah (mh (λn_9 => ?_)))))))))))))
 obtain ⟨o_14,hj_15,hF⟩:=bind_some hF
 obtain ⟨hn_7,hj_15⟩:=bv hj_15
 refine iM (σ:=(List Log_)×(List Int)×Int) (N:=Nm) (λp=>(λ(s_8:(List Log_)×(List Int)×Int) (n_11:Nm)=>([(5,(gV n_11 6 s_8.1))]:SL_)) p.1 p.2) (λp=>(λ(s_8:(List Log_)×(List Int)×Int) (n_11:Nm)=>([((aI 0),some (.cells 2 [(vL eI s_8.2.1),(vI s_8.2.2)])),(n_11,gB 6 Log_.enc s_8.1)]:Hp)) p.1 p.2) (λ(k_3:Nat)=>(λp=>(λ(s_8:(List Log_)×(List Int)×Int) (n_11:Nm)=>([(0,(.ref (aI 0) 0 0)),(1,(vI most_2)),(5,(gV n_11 6 s_8.1)),(12,(vL eS ([(⟨#[112,97]⟩:ByteArray),(⟨#[112,98]⟩:ByteArray)]:List ByteArray))),(13,(vI (([(⟨#[112,97]⟩:ByteArray),(⟨#[112,98]⟩:ByteArray)]:List ByteArray).length:Int))),(14,(vI (k_3:Int)))]:SL_)) p.1 p.2)) (λk x s=>dS most_2 k x s) o_14 ([(⟨#[112,97]⟩:ByteArray),(⟨#[112,98]⟩:ByteArray)]:List ByteArray) ((([]:List Log_),s_1.L,s_1.f_at),n_9) hj_15 rfl (aK rfl) ?_ ?_
 ·rintro ⟨k_3,l_4,s_8,n_11⟩ ⟨hL_13,hD_6⟩
  dsimp only at hL_13 hD_6
  cases l_4 with
  | nil =>
   obtain rfl:=ae hL_13
   refine ai (aa (vB (decide ((k_3:Int)<(([(⟨#[112,97]⟩:ByteArray),(⟨#[112,98]⟩:ByteArray)]:List ByteArray).length:Int)))) (ah ?_))
   refine ak (ax rfl (drop_nil hD_6) (bf ?_))
   exact aY (s_8,n_11) rfl rfl (aK rfl)
  | cons x_5 l_4 =>
   obtain ⟨c_,hc_12,hL_13⟩:=bind_some hL_13
   refine ai (aa (vB (decide ((k_3:Int)<(([(⟨#[112,97]⟩:ByteArray),(⟨#[112,98]⟩:ByteArray)]:List ByteArray).length:Int)))) (ah ?_))
   refine ak (aA rfl (bA hD_6) (av ?_))
   unfold dS at hc_12
   refine ak (aQ (ai (dB CJ rfl rfl (bK hD_6) rfl wz (bH sz9 ag9 rfl (vS x_5) rfl wz (aa (vS x_5) (ah (ai (aa (.ref (aI 0) 0 0) (fq (([0,50,1000]:List Int).map eI) mQ x9 rfl rfl rfl rfl rfl wz ?_)))))))))
   obtain ⟨r_16,hr_17,hc_12⟩:=bind_some hc_12
   refine iq 0 [0] il ft (gW hr_17) rfl hb9 rfl (by kernel_rfl) (by kernel_rfl) (by kernel_rfl) (by kernel_rfl) (by kernel_rfl) (by kernel_rfl) (by kernel_rfl) (by decide) (by kernel_rfl) wz (vI r_16.1) (by kernel_rfl) ([((aI 0),some (.cells 2 [(vL eI r_16.2.L),(vI r_16.2.f_at)])),(n_11,gB 6 Log_.enc s_8.1)]:Hp) (by kernel_rfl) (aa (vS (⟨#[]⟩:ByteArray)) (aa (vI r_16.1) (ah (ai (aa (.ref (aI 0) 0 0) (aa (vI most_2) ?_))))))
   obtain ⟨r_19,hr_20,hc_12⟩:=bind_some hc_12
   refine iq 0 [0] il ft (jW hr_20) rfl hb11 rfl (by kernel_rfl) (by kernel_rfl) (by kernel_rfl) (by kernel_rfl) (by kernel_rfl) (by kernel_rfl) (by kernel_rfl) (by decide) (by kernel_rfl) wz (vI r_19.1) (by kernel_rfl) ([((aI 0),some (.cells 2 [(vL eI r_19.2.L),(vI r_19.2.f_at)])),(n_11,gB 6 Log_.enc s_8.1)]:Hp) (by kernel_rfl) (aa (vI 0) (ah ?_))
   obtain ⟨o_32,hj_33,hc_12⟩:=bind_some hc_12
   obtain ⟨hn_26,hj_33⟩:=bv hj_33
   refine iM (σ:=(List Log_)×ByteArray×Int×(List Int)×Int) (N:=Nm) (λp=>(λ(s_27:(List Log_)×ByteArray×Int×(List Int)×Int) (n_29:Nm)=>([(0,(.ref (aI 0) 0 0)),(1,(vI most_2)),(5,(gV n_29 6 s_27.1)),(12,(vL eS ([(⟨#[112,97]⟩:ByteArray),(⟨#[112,98]⟩:ByteArray)]:List ByteArray))),(13,(vI (([(⟨#[112,97]⟩:ByteArray),(⟨#[112,98]⟩:ByteArray)]:List ByteArray).length:Int))),(14,(vI (k_3:Int)))]:SL_)) p.1 p.2) (λp=>(λ(s_27:(List Log_)×ByteArray×Int×(List Int)×Int) (n_29:Nm)=>([((aI 0),some (.cells 2 [(vL eI s_27.2.2.2.1),(vI s_27.2.2.2.2)])),(n_29,gB 6 Log_.enc s_27.1)]:Hp)) p.1 p.2) (λ(k_22:Nat)=>(λp=>(λ(s_27:(List Log_)×ByteArray×Int×(List Int)×Int) (n_29:Nm)=>([(0,(.ref (aI 0) 0 0)),(1,(vI most_2)),(5,(gV n_29 6 s_27.1)),(7,(vS x_5)),(8,(vS s_27.2.1)),(9,(vI s_27.2.2.1)),(12,(vL eS ([(⟨#[112,97]⟩:ByteArray),(⟨#[112,98]⟩:ByteArray)]:List ByteArray))),(13,(vI (([(⟨#[112,97]⟩:ByteArray),(⟨#[112,98]⟩:ByteArray)]:List ByteArray).length:Int))),(14,(vI (k_3:Int))),(23,(vI r_19.1)),(24,(vI (k_22:Int)))]:SL_)) p.1 p.2)) (λk x s=>fH x_5 k x s) o_32 (List.range (r_19.1).toNat) ((s_8.1,(⟨#[]⟩:ByteArray),r_16.1,r_19.2.L,r_19.2.f_at),n_11) hj_33 rfl (aK rfl) ?_ ?_
   ·rintro ⟨k_22,l_23,s_27,n_29⟩ ⟨hL_31,hD_25⟩
    dsimp only at hL_31 hD_25
    cases l_23 with
    | nil =>
     obtain rfl:=ae hL_31
     refine ai (aa (vB (decide ((k_22:Int)<r_19.1))) (ah ?_))
     refine ak (ax rfl (wT hD_25) (bf ?_))
     exact aY (s_27,n_29) rfl rfl (aK rfl)
    | cons x_24 l_23 =>
     obtain ⟨c_,hc_30,hL_31⟩:=bind_some hL_31
     refine ai (aa (vB (decide ((k_22:Int)<r_19.1))) (ah ?_))
     refine ak (aA rfl (tZ hD_25) (av ?_))
     unfold fH at hc_30
     refine ak (aQ (ai (aa (vI (k_22:Int)) (aa (vI (k_22:Int)) (ah (ai (aa (vS x_5) (aa (.ref (aI 0) 0 0) (fq (([(⟨#[105,97]⟩:ByteArray),(⟨#[105,98]⟩:ByteArray)]:List ByteArray).map eS) CJ ez45 rfl rfl rfl rfl rfl wz ?_)))))))))
     obtain ⟨r_34,hr_35,hc_30⟩:=bind_some hc_30
     refine iq 0 [0] il ft (zo hr_35) rfl hb12 rfl (by kernel_rfl) (by kernel_rfl) (by kernel_rfl) (by kernel_rfl) (by kernel_rfl) (by kernel_rfl) (by kernel_rfl) (by decide) (by kernel_rfl) wz (vS r_34.1) (by kernel_rfl) ([((aI 0),some (.cells 2 [(vL eI r_34.2.L),(vI r_34.2.f_at)])),(n_29,gB 6 Log_.enc s_27.1)]:Hp) (by kernel_rfl) (aa (vI (k_22:Int)) (aa (vI (w64 ((k_22:Int)+1))) (aa (vI s_27.2.2.1) (aa (.ref (aI 0) 0 0) (fq (([1,10,30,100]:List Int).map eI) mQ x9 rfl rfl rfl rfl rfl wz ?_)))))
     obtain ⟨r_37,hr_38,hc_30⟩:=bind_some hc_30
     refine iq 0 [0] il ft (gW hr_38) rfl hb9 rfl (by kernel_rfl) (by kernel_rfl) (by kernel_rfl) (by kernel_rfl) (by kernel_rfl) (by kernel_rfl) (by kernel_rfl) (by decide) (by kernel_rfl) wz (vI r_37.1) (by kernel_rfl) ([((aI 0),some (.cells 2 [(vL eI r_37.2.L),(vI r_37.2.f_at)])),(n_29,gB 6 Log_.enc s_27.1)]:Hp) (by kernel_rfl) (aJ (.d (.agg (Log_.enc (⟨x_5,r_34.1,(w64 ((k_22:Int)+1)),s_27.2.2.1,r_37.1,(⟨#[]⟩:ByteArray)⟩:Log_)))) wz (by kernel_rfl) (di 0 (.inl rfl) z49 rfl wz (λn_40=>gu 0 il ft 2 BF rfl rfl [(vS x_5),(vS r_34.1),(vI (w64 ((k_22:Int)+1))),(vI s_27.2.2.1),(vI r_37.1),(vS (⟨#[]⟩:ByteArray))] rfl wz (ah (ai (aa (vS s_27.2.1) (aG 0 2 il ft BF Ia rfl rfl (.d (.agg (Log_.enc (⟨x_5,r_34.1,(w64 ((k_22:Int)+1)),s_27.2.2.1,r_37.1,(⟨#[]⟩:ByteArray)⟩:Log_)))) rfl wz ?_)))))))
     obtain ⟨r_41,hr_42,hc_30⟩:=bind_some hc_30
     refine aB (FL hr_42) rfl hb13 rfl rfl rfl rfl wz (aH Ke rfl 5 rfl wz (gu 0 il ft 2 sz9 rfl rfl [(vS x_5),(vS r_34.1),(vI (w64 ((k_22:Int)+1))),(vI s_27.2.2.1),(vI r_37.1),(vS r_41)] rfl wz (ah (ai (aH Ke rfl 5 rfl wz (aG 0 2 il ft sz9 ag9 rfl rfl (vS r_41) rfl wz (aa (vS r_41) (ah (ai (aa (vI s_27.2.2.1) (aa (.ref (aI 0) 0 0) (fq (([0,5,10,50,100]:List Int).map eI) mQ x9 rfl rfl rfl rfl rfl wz ?_))))))))))))
     obtain ⟨r_43,hr_44,hc_30⟩:=bind_some hc_30
     refine iq 0 [0] il ft (gW hr_44) rfl hb9 rfl (by kernel_rfl) (by kernel_rfl) (by kernel_rfl) (by kernel_rfl) (by kernel_rfl) (by kernel_rfl) (by kernel_rfl) (by decide) (by kernel_rfl) wz (vI r_43.1) (by kernel_rfl) ([((aI 0),some (.cells 2 [(vL eI r_43.2.L),(vI r_43.2.f_at)])),(n_29,gB 6 Log_.enc s_27.1),(n_40,some (.cells 6 [(vS x_5),(vS r_34.1),(vI (w64 ((k_22:Int)+1))),(vI s_27.2.2.1),(vI r_37.1),(vS r_41)]))]:Hp) (by kernel_rfl) (aa (vI (w64 (s_27.2.2.1+r_43.1))) (aa (vI (w64 (s_27.2.2.1+r_43.1))) (ah (ai (aa (.ref (aI 0) 0 0) ?_)))))
     obtain ⟨r_46,hr_47,hc_30⟩:=bind_some hc_30
     refine iq 0 [0] il ft (zt hr_47) rfl hb14 rfl (by kernel_rfl) (by kernel_rfl) (by kernel_rfl) (by kernel_rfl) (by kernel_rfl) (by kernel_rfl) (by kernel_rfl) (by decide) (by kernel_rfl) wz (vB r_46.1) (by kernel_rfl) ([((aI 0),some (.cells 2 [(vL eI r_46.2.L),(vI r_46.2.f_at)])),(n_29,gB 6 Log_.enc s_27.1),(n_40,some (.cells 6 [(vS x_5),(vS r_34.1),(vI (w64 ((k_22:Int)+1))),(vI s_27.2.2.1),(vI r_37.1),(vS r_41)]))]:Hp) (by kernel_rfl) (aa (vB (!r_46.1)) (ah (aR (H0:=([((aI 0),some (.cells 2 [(vL eI r_46.2.L),(vI r_46.2.f_at)])),(n_29,gB 6 Log_.enc s_27.1),(n_40,some (.cells 6 [(vS x_5),(vS r_34.1),(vI (w64 ((k_22:Int)+1))),(vI s_27.2.2.1),(vI r_37.1),(vS r_41)]))]:Hp)) ([(0,(.ref (aI 0) 0 0)),(1,(vI most_2)),(5,(gV n_29 6 s_27.1)),(7,(vS x_5)),(8,(vS r_41)),(9,(vI (w64 (s_27.2.2.1+r_43.1)))),(11,(.ref n_40 0 0)),(12,(vL eS ([(⟨#[112,97]⟩:ByteArray),(⟨#[112,98]⟩:ByteArray)]:List ByteArray))),(13,(vI (([(⟨#[112,97]⟩:ByteArray),(⟨#[112,98]⟩:ByteArray)]:List ByteArray).length:Int))),(14,(vI (k_3:Int))),(23,(vI r_19.1)),(24,(vI (k_22:Int))),(51,(vB (!r_46.1)))]:SL_) (by kernel_rfl) (Ae (by kernel_rfl)) ?_)))
     obtain ⟨v_49,h_50,hc_30⟩:=bind_some hc_30
     refine jU (β:=Nm) (λ(n_51:Nm)=>([(0,(.ref (aI 0) 0 0)),(1,(vI most_2)),(5,(gV n_51 6 v_49)),(7,(vS x_5)),(8,(vS r_41)),(9,(vI (w64 (s_27.2.2.1+r_43.1)))),(12,(vL eS ([(⟨#[112,97]⟩:ByteArray),(⟨#[112,98]⟩:ByteArray)]:List ByteArray))),(13,(vI (([(⟨#[112,97]⟩:ByteArray),(⟨#[112,98]⟩:ByteArray)]:List ByteArray).length:Int))),(14,(vI (k_3:Int))),(23,(vI r_19.1)),(24,(vI (k_22:Int)))]:SL_)) (λ(n_51:Nm)=>([((aI 0),some (.cells 2 [(vL eI r_46.2.L),(vI r_46.2.f_at)])),(n_51,gB 6 Log_.enc v_49),(n_40,some (.cells 6 [(vS x_5),(vS r_34.1),(vI (w64 ((k_22:Int)+1))),(vI s_27.2.2.1),(vI r_37.1),(vS r_41)]))]:Hp)) (λ_=>True) ?_ ?_
     ·rcases aj h_50 with⟨hc_52,h_50⟩|⟨hc_52,h_50⟩
      ·refine aA rfl hc_52 (au (aa (gV n_29 6 s_27.1) (aG 0 2 il ft BF Ia rfl rfl (.d (.agg (Log_.enc (⟨x_5,r_34.1,(w64 ((k_22:Int)+1)),s_27.2.2.1,r_37.1,r_41⟩:Log_)))) rfl wz (fq (([(⟨x_5,r_34.1,(w64 ((k_22:Int)+1)),s_27.2.2.1,r_37.1,r_41⟩:Log_)]:List Log_).map Log_.enc) GR ez26 rfl rfl rfl rfl rfl wz ?_))))
       obtain ⟨a_53,hz_54,h_50⟩:=bind_some h_50
       refine jL 0 il ft (i:=1) el26 el26 BF z49 rfl (by decide) by49 (by decide) (λ_=>rfl) rfl rfl rfl hz_54 wz (λn_55=>aa (gV n_55 6 a_53) (ah ?_))
       obtain rfl:=ae h_50
       exact aY n_55 trivial rfl (aK rfl)
      ·refine ax rfl hc_52 (av ?_)
       obtain rfl:=ae h_50
       exact aY n_29 trivial rfl (aK rfl)
     ·rintro n_51 _ sl_ H_ hp_ hq_
      refine aR _ hp_ hq_ (au (fw (wS hD_25 hn_26) wz rfl (aa (vI ((k_22+1:Nat):Int)) (ah ?_))))
      obtain rfl:=ae hc_30
      exact aZ (k_22+1,l_23,(v_49,r_41,(w64 (s_27.2.2.1+r_43.1)),r_46.2.L,r_46.2.f_at),n_51) ⟨hL_31,aX hD_25⟩ (ls_ _) rfl (aK rfl)
   ·rintro ⟨s_27,n_29⟩ ho_ sl_ H_ hp_ hq_
    subst ho_
    refine aR _ hp_ hq_ (au (fw (bE hD_6 hn_7) wz rfl (aa (vI ((k_3+1:Nat):Int)) (ah ?_))))
    obtain rfl:=ae hc_12
    exact aZ (k_3+1,l_4,(s_27.1,s_27.2.2.2.1,s_27.2.2.2.2),n_29) ⟨hL_13,aX hD_6⟩ (ls_ _) rfl (aK rfl)
 ·rintro ⟨s_8,n_11⟩ ho_ sl_ H_ hp_ hq_
  subst ho_
  refine aR _ hp_ hq_ (ai (aa (gV n_11 6 s_8.1) (aa (gV n_11 6 s_8.1) (ah (gJ 1 rfl (bZ 4 1 rfl rfl (bZ 5 1 rfl rfl (bZ 58 1 rfl rfl ?_))))))))
  obtain rfl:=ae hF
  exact ay (EC (.inr rfl) [(vL Log_.enc s_8.1)] _ [0] [aI 0] ⟨rfl,trivial⟩ (.cons (l7 rfl rfl) (.nil)) (by kernel_rfl) ⟨(by kernel_rfl),trivial⟩ (by decide) (by kernel_rfl))
theorem sM {s_1:Stream} {r:(List Beat)×Stream} (hF:gG s_1=some r) :
  FnM Tryz.prog 5 [(.ref (aI 0) 0 0)] [(.cells 2 [(vL eI s_1.L),(vI s_1.f_at)])] (vL Beat.enc r.1) [some (.cells 2 [(vL eI r.2.L),(vI r.2.f_at)])]:=by
 refine FnM.of_wH ⟨Tryz.prog,42,[],[]⟩ rfl Tryz.func5 rfl rfl (lb_ rfl) (by kernel_rfl) ?_
 unfold gG at hF
 refine ai (aa .nil (ah (ai (aa .nil (ah (ak (ai (fq (([(⟨#[112,97]⟩:ByteArray),(⟨#[112,98]⟩:ByteArray)]:List ByteArray).map eS) CJ ez45 rfl rfl rfl rfl rfl wz (bN G9 rfl wz (aa (vI 0) (ah (mh (λn_8 => ?_)))))))))))))
 obtain ⟨o_13,hj_14,hF⟩:=bind_some hF
 obtain ⟨hn_6,hj_14⟩:=bv hj_14
 refine iM (σ:=(List Beat)×(List Int)×Int) (N:=Nm) (λp=>(λ(s_7:(List Beat)×(List Int)×Int) (n_10:Nm)=>([(3,(gV n_10 3 s_7.1))]:SL_)) p.1 p.2) (λp=>(λ(s_7:(List Beat)×(List Int)×Int) (n_10:Nm)=>([((aI 0),some (.cells 2 [(vL eI s_7.2.1),(vI s_7.2.2)])),(n_10,gB 3 Beat.enc s_7.1)]:Hp)) p.1 p.2) (λ(k_2:Nat)=>(λp=>(λ(s_7:(List Beat)×(List Int)×Int) (n_10:Nm)=>([(0,(.ref (aI 0) 0 0)),(3,(gV n_10 3 s_7.1)),(8,(vL eS ([(⟨#[112,97]⟩:ByteArray),(⟨#[112,98]⟩:ByteArray)]:List ByteArray))),(9,(vI (([(⟨#[112,97]⟩:ByteArray),(⟨#[112,98]⟩:ByteArray)]:List ByteArray).length:Int))),(10,(vI (k_2:Int)))]:SL_)) p.1 p.2)) (λk x s=>fF k x s) o_13 ([(⟨#[112,97]⟩:ByteArray),(⟨#[112,98]⟩:ByteArray)]:List ByteArray) ((([]:List Beat),s_1.L,s_1.f_at),n_8) hj_14 rfl (aK rfl) ?_ ?_
 ·rintro ⟨k_2,l_3,s_7,n_10⟩ ⟨hL_12,hD_5⟩
  dsimp only at hL_12 hD_5
  cases l_3 with
  | nil =>
   obtain rfl:=ae hL_12
   refine ai (aa (vB (decide ((k_2:Int)<(([(⟨#[112,97]⟩:ByteArray),(⟨#[112,98]⟩:ByteArray)]:List ByteArray).length:Int)))) (ah ?_))
   refine ak (ax rfl (drop_nil hD_5) (bf ?_))
   exact aY (s_7,n_10) rfl rfl (aK rfl)
  | cons x_4 l_3 =>
   obtain ⟨c_,hc_11,hL_12⟩:=bind_some hL_12
   refine ai (aa (vB (decide ((k_2:Int)<(([(⟨#[112,97]⟩:ByteArray),(⟨#[112,98]⟩:ByteArray)]:List ByteArray).length:Int)))) (ah ?_))
   refine ak (aA rfl (bA hD_5) (av ?_))
   unfold fF at hc_11
   refine ak (aQ (ai (dB CJ rfl rfl (bK hD_5) rfl wz (bH sz9 ag9 rfl (vS x_4) rfl wz (aa (vS x_4) (ah (ai (aa (.ref (aI 0) 0 0) ?_))))))))
   obtain ⟨r_15,hr_16,hc_11⟩:=bind_some hc_11
   refine iq 0 [0] il ft (jW hr_16) rfl hb11 rfl (by kernel_rfl) (by kernel_rfl) (by kernel_rfl) (by kernel_rfl) (by kernel_rfl) (by kernel_rfl) (by kernel_rfl) (by decide) (by kernel_rfl) wz (vI r_15.1) (by kernel_rfl) ([((aI 0),some (.cells 2 [(vL eI r_15.2.L),(vI r_15.2.f_at)])),(n_10,gB 3 Beat.enc s_7.1)]:Hp) (by kernel_rfl) (aa (.ref (aI 0) 0 0) ?_)
   obtain ⟨r_18,hr_19,hc_11⟩:=bind_some hc_11
   refine iq 0 [0] il ft (jW hr_19) rfl hb11 rfl (by kernel_rfl) (by kernel_rfl) (by kernel_rfl) (by kernel_rfl) (by kernel_rfl) (by kernel_rfl) (by kernel_rfl) (by decide) (by kernel_rfl) wz (vI r_18.1) (by kernel_rfl) ([((aI 0),some (.cells 2 [(vL eI r_18.2.L),(vI r_18.2.f_at)])),(n_10,gB 3 Beat.enc s_7.1)]:Hp) (by kernel_rfl) (aa (vI r_15.1) (aa (vI r_18.1) (ah (ai (aa (.ref (aI 0) 0 0) ?_)))))
   obtain ⟨r_21,hr_22,hc_11⟩:=bind_some hc_11
   refine iq 0 [0] il ft (jW hr_22) rfl hb11 rfl (by kernel_rfl) (by kernel_rfl) (by kernel_rfl) (by kernel_rfl) (by kernel_rfl) (by kernel_rfl) (by kernel_rfl) (by decide) (by kernel_rfl) wz (vI r_21.1) (by kernel_rfl) ([((aI 0),some (.cells 2 [(vL eI r_21.2.L),(vI r_21.2.f_at)])),(n_10,gB 3 Beat.enc s_7.1)]:Hp) (by kernel_rfl) (aa (vI 0) (ah ?_))
   obtain ⟨o_34,hj_35,hc_11⟩:=bind_some hc_11
   obtain ⟨hn_28,hj_35⟩:=bv hj_35
   refine iM (σ:=(List Beat)×Int×Int×(List Int)×Int) (N:=Nm) (λp=>(λ(s_29:(List Beat)×Int×Int×(List Int)×Int) (n_31:Nm)=>([(0,(.ref (aI 0) 0 0)),(3,(gV n_31 3 s_29.1)),(8,(vL eS ([(⟨#[112,97]⟩:ByteArray),(⟨#[112,98]⟩:ByteArray)]:List ByteArray))),(9,(vI (([(⟨#[112,97]⟩:ByteArray),(⟨#[112,98]⟩:ByteArray)]:List ByteArray).length:Int))),(10,(vI (k_2:Int)))]:SL_)) p.1 p.2) (λp=>(λ(s_29:(List Beat)×Int×Int×(List Int)×Int) (n_31:Nm)=>([((aI 0),some (.cells 2 [(vL eI s_29.2.2.2.1),(vI s_29.2.2.2.2)])),(n_31,gB 3 Beat.enc s_29.1)]:Hp)) p.1 p.2) (λ(k_24:Nat)=>(λp=>(λ(s_29:(List Beat)×Int×Int×(List Int)×Int) (n_31:Nm)=>([(0,(.ref (aI 0) 0 0)),(3,(gV n_31 3 s_29.1)),(5,(vS x_4)),(6,(vI s_29.2.1)),(7,(vI s_29.2.2.1)),(8,(vL eS ([(⟨#[112,97]⟩:ByteArray),(⟨#[112,98]⟩:ByteArray)]:List ByteArray))),(9,(vI (([(⟨#[112,97]⟩:ByteArray),(⟨#[112,98]⟩:ByteArray)]:List ByteArray).length:Int))),(10,(vI (k_2:Int))),(19,(vI r_21.1)),(20,(vI (k_24:Int)))]:SL_)) p.1 p.2)) (λk x s=>fG x_4 k x s) o_34 (List.range (r_21.1).toNat) ((s_7.1,r_15.1,r_18.1,r_21.2.L,r_21.2.f_at),n_10) hj_35 rfl (aK rfl) ?_ ?_
   ·rintro ⟨k_24,l_25,s_29,n_31⟩ ⟨hL_33,hD_27⟩
    dsimp only at hL_33 hD_27
    cases l_25 with
    | nil =>
     obtain rfl:=ae hL_33
     refine ai (aa (vB (decide ((k_24:Int)<r_21.1))) (ah ?_))
     refine ak (ax rfl (wT hD_27) (bf ?_))
     exact aY (s_29,n_31) rfl rfl (aK rfl)
    | cons x_26 l_25 =>
     obtain ⟨c_,hc_32,hL_33⟩:=bind_some hL_33
     refine ai (aa (vB (decide ((k_24:Int)<r_21.1))) (ah ?_))
     refine ak (aA rfl (tZ hD_27) (av ?_))
     unfold fG at hc_32
     refine ak (aQ (ai (aa (gV n_31 3 s_29.1) (aa (vS x_4) (aa (vI s_29.2.1) (aa (vI s_29.2.2.1) (aJ (.d (.agg (Beat.enc (⟨x_4,s_29.2.1,s_29.2.2.1⟩:Beat)))) wz (by kernel_rfl) (fq (([(⟨x_4,s_29.2.1,s_29.2.2.1⟩:Beat)]:List Beat).map Beat.enc) KQ ez28 rfl rfl rfl rfl rfl wz ?_))))))))
     obtain ⟨a_36,hz_37,hc_32⟩:=bind_some hc_32
     refine jL 0 il ft (i:=1) el28 el28 Ka z53 rfl (by decide) by53 (by decide) (λ_=>rfl) rfl rfl rfl hz_37 wz (λn_38=>aa (gV n_38 3 a_36) (ah (ai (aa (vI s_29.2.1) (aa (.ref (aI 0) 0 0) (fq (([1,50,100,1000,2678400000]:List Int).map eI) mQ x9 rfl rfl rfl rfl rfl wz ?_))))))
     obtain ⟨r_39,hr_40,hc_32⟩:=bind_some hc_32
     refine iq 0 [0] il ft (gW hr_40) rfl hb9 rfl (by kernel_rfl) (by kernel_rfl) (by kernel_rfl) (by kernel_rfl) (by kernel_rfl) (by kernel_rfl) (by kernel_rfl) (by decide) (by kernel_rfl) wz (vI r_39.1) (by kernel_rfl) ([((aI 0),some (.cells 2 [(vL eI r_39.2.L),(vI r_39.2.f_at)])),(n_38,gB 3 Beat.enc a_36)]:Hp) (by kernel_rfl) (aa (vI (w64 (s_29.2.1+r_39.1))) (aa (vI (w64 (s_29.2.1+r_39.1))) (ah (au (aa (vI s_29.2.2.1) (aa (.ref (aI 0) 0 0) (fq (([1,40,100,1300,2592000000]:List Int).map eI) mQ x9 rfl rfl rfl rfl rfl wz ?_)))))))
     obtain ⟨r_42,hr_43,hc_32⟩:=bind_some hc_32
     refine iq 0 [0] il ft (gW hr_43) rfl hb9 rfl (by kernel_rfl) (by kernel_rfl) (by kernel_rfl) (by kernel_rfl) (by kernel_rfl) (by kernel_rfl) (by kernel_rfl) (by decide) (by kernel_rfl) wz (vI r_42.1) (by kernel_rfl) ([((aI 0),some (.cells 2 [(vL eI r_42.2.L),(vI r_42.2.f_at)])),(n_38,gB 3 Beat.enc a_36)]:Hp) (by kernel_rfl) (aa (vI (w64 (s_29.2.2.1+r_42.1))) (aa (vI (w64 (s_29.2.2.1+r_42.1))) (ah (au (fw (wS hD_27 hn_28) wz rfl (aa (vI ((k_24+1:Nat):Int)) (ah ?_)))))))
     obtain rfl:=ae hc_32
     exact aZ (k_24+1,l_25,(a_36,(w64 (s_29.2.1+r_39.1)),(w64 (s_29.2.2.1+r_42.1)),r_42.2.L,r_42.2.f_at),n_38) ⟨hL_33,aX hD_27⟩ (ls_ _) rfl (aK rfl)
   ·rintro ⟨s_29,n_31⟩ ho_ sl_ H_ hp_ hq_
    subst ho_
    refine aR _ hp_ hq_ (au (fw (bE hD_5 hn_6) wz rfl (aa (vI ((k_2+1:Nat):Int)) (ah ?_))))
    obtain rfl:=ae hc_11
    exact aZ (k_2+1,l_3,(s_29.1,s_29.2.2.2.1,s_29.2.2.2.2),n_31) ⟨hL_12,aX hD_5⟩ (ls_ _) rfl (aK rfl)
 ·rintro ⟨s_7,n_10⟩ ho_ sl_ H_ hp_ hq_
  subst ho_
  refine aR _ hp_ hq_ (ai (aa (gV n_10 3 s_7.1) (aa (gV n_10 3 s_7.1) (ah (gJ 1 rfl (bZ 2 1 rfl rfl (bZ 3 1 rfl rfl (bZ 41 1 rfl rfl ?_))))))))
  obtain rfl:=ae hF
  exact ay (EC (.inr rfl) [(vL Beat.enc s_7.1)] _ [0] [aI 0] ⟨rfl,trivial⟩ (.cons (l7 rfl rfl) (.nil)) (by kernel_rfl) ⟨(by kernel_rfl),trivial⟩ (by decide) (by kernel_rfl))
theorem dx {s_1:ByteArray} {r:Bool} (hF:dF s_1=some r) :
  FnM Tryz.prog 20 [(vS s_1)] [] (vB r) []:=by
 refine FnM.of_wH ⟨Tryz.prog,48,[],[]⟩ rfl Tryz.func20 rfl rfl (lb_ rfl) (by kernel_rfl) ?_
 unfold dF at hF
 refine ai (aa (vB false) (ah (ak (ai (aa (vI 0) (ah ?_))))))
 obtain ⟨o_10,hj_11,hF⟩:=bind_some hF
 obtain ⟨nq_33,hj_11⟩:=dh hj_11
 refine fQ (λ(s_7:Int)=>[(0,(vS s_1))]) (λ(s_7:Int)=>[]) (λ(k_2:Nat)=>(λ(s_7:Int)=>[(0,(vS s_1)),(3,(vI s_7))])) (λs=>ji s_1 s) o_10 nq_33 0 hj_11 rfl (aK rfl) ?_ ?_
 ·rintro ⟨k_2,s_7⟩ hL_9
  dsimp only at hL_9
  cases k_2 with
  | zero=>cases hL_9
  | succ k_2 =>
   obtain ⟨c_,hc_8,hL_9⟩:=bind_some hL_9
   unfold ji at hc_8
   refine ak (ai (aa (vI s_7) (aa (vS s_1) (Cs un9 rfl wz (aa (vB (decide (s_7<(s_1.size:Int)))) (ah ?_))))))
   rcases aj hc_8 with⟨hc_12,hc_8⟩|⟨hc_12,hc_8⟩
   ·refine aA rfl hc_12 (av (ak (aQ (ai (aa (vS s_1) (aa (vI s_7) ?_))))))
    obtain ⟨b_13,hy_14,hc_8⟩:=bind_some hc_8
    refine FR un9 rfl rfl hy_14 wz (aa (.d (.int .u8 (b_13.toNat:Int))) (ah (ak ?_)))
    obtain ⟨v_15,h_16,hc_8⟩:=bind_some hc_8
    refine aS [(0,(vS s_1)),(3,(vI s_7)),(40,(vB v_15))] [] ?_ ?_
    ·refine au (aa (.d (.int .u8 (b_13.toNat:Int))) (aa (vB (decide ((b_13.toNat:Int)>=97))) ?_))
     rcases aj h_16 with⟨hc_17,h_16⟩|⟨hc_17,h_16⟩
     ·refine aC rfl hc_17 wz (aJ (.d (.int .u8 (b_13.toNat:Int))) wa rfl (aJ (vB (decide ((b_13.toNat:Int)<=122))) wa rfl (aa (vB (decide ((b_13.toNat:Int)<=122))) ?_)))
      rcases aj h_16 with⟨hc_18,h_16⟩|⟨hc_18,h_16⟩
      ·refine aC rfl hc_18 wz (af (af (af (bX (wn rfl rfl) (bX (wn rfl rfl) (bX (wn rfl rfl) (bX (wn rfl rfl) (bX (wn rfl rfl) (bX (wn rfl rfl) (bX (wn rfl rfl) (bX (wn rfl rfl) (bX (wn rfl rfl) (bX (wn rfl rfl) (bX (wn rfl rfl) (bX (wn rfl rfl) (bX (wn rfl rfl) (bX (wn rfl rfl) (af (aa (vB true) (aa (vB false) (ah ?_)))))))))))))))))))))
       obtain rfl:=ae h_16
       exact cu
      ·refine aC rfl hc_18 wz (aJ (vI s_7) wa rfl (aJ (vB (decide (s_7>0))) wa rfl ?_))
       rcases aj h_16 with⟨hc_19,h_16⟩|⟨hc_19,h_16⟩
       ·refine aC rfl hc_19 wa (aJ (.d (.int .u8 (b_13.toNat:Int))) wa rfl (aJ (vB (decide ((b_13.toNat:Int)>=48))) wa rfl ?_))
        rcases aj h_16 with⟨hc_20,h_16⟩|⟨hc_20,h_16⟩
        ·refine aC rfl hc_20 wa (aJ (.d (.int .u8 (b_13.toNat:Int))) wa rfl (aJ (vB (decide ((b_13.toNat:Int)<=57))) wa rfl (aJ (vB (decide ((b_13.toNat:Int)<=57))) wa rfl ?_)))
         rcases aj h_16 with⟨hc_21,h_16⟩|⟨hc_21,h_16⟩
         ·refine aC rfl hc_21 wa (af (af (aJ (vB true) wa rfl (aJ (vB true) wa rfl (af (af (aJ (vB true) wa rfl (aJ (vB true) wa rfl (aa (vB true) (aa (vB false) (ah ?_)))))))))))
          obtain rfl:=ae h_16
          exact cu
         ·refine aC rfl hc_21 wa (aJ (.d (.int .u8 (b_13.toNat:Int))) wa rfl (aJ (vB ((b_13.toNat:Int)==45)) wa rfl (aJ (vB ((b_13.toNat:Int)==45)) wa rfl ?_)))
          rcases aj h_16 with⟨hc_22,h_16⟩|⟨hc_22,h_16⟩
          ·refine aC rfl hc_22 wa (af (af (aJ (vB true) wa rfl (aJ (vB true) wa rfl (aa (vB true) (aa (vB false) (ah ?_)))))))
           obtain rfl:=ae h_16
           exact cu
          ·refine aC rfl hc_22 wa (aJ (.d (.int .u8 (b_13.toNat:Int))) wa rfl (aJ (vB ((b_13.toNat:Int)==95)) wa rfl (aJ (vB ((b_13.toNat:Int)==95)) wa rfl (aJ (vB ((b_13.toNat:Int)==95)) wa rfl (aa (vB ((b_13.toNat:Int)==95)) (aa (vB (!((b_13.toNat:Int)==95))) (ah ?_)))))))
           obtain rfl:=ae h_16
           exact cu
        ·refine aC rfl hc_20 wa (af (af (aJ (vB false) wa rfl (aJ (vB false) wa rfl (aJ (.d (.int .u8 (b_13.toNat:Int))) wa rfl (aJ (vB ((b_13.toNat:Int)==45)) wa rfl (aJ (vB ((b_13.toNat:Int)==45)) wa rfl ?_)))))))
         rcases aj h_16 with⟨hc_23,h_16⟩|⟨hc_23,h_16⟩
         ·refine aC rfl hc_23 wa (af (af (aJ (vB true) wa rfl (aJ (vB true) wa rfl (aa (vB true) (aa (vB false) (ah ?_)))))))
          obtain rfl:=ae h_16
          exact cu
         ·refine aC rfl hc_23 wa (aJ (.d (.int .u8 (b_13.toNat:Int))) wa rfl (aJ (vB ((b_13.toNat:Int)==95)) wa rfl (aJ (vB ((b_13.toNat:Int)==95)) wa rfl (aJ (vB ((b_13.toNat:Int)==95)) wa rfl (aa (vB ((b_13.toNat:Int)==95)) (aa (vB (!((b_13.toNat:Int)==95))) (ah ?_)))))))
          obtain rfl:=ae h_16
          exact cu
       ·refine aC rfl hc_19 wa (af (af (af (bX (wn rfl rfl) (bX (wn rfl rfl) (af (af (bX (wn rfl rfl) (bX (wn rfl rfl) (af (af (bX (wn rfl rfl) (bX (wn rfl rfl) (af (aJ (vB false) wa rfl (aa (vB false) (aa (vB true) (ah ?_))))))))))))))))))
        obtain rfl:=ae h_16
        exact cu
     ·refine aC rfl hc_17 wz (af (af (aa (vB false) (aa (vB false) (aJ (vI s_7) wa rfl (aJ (vB (decide (s_7>0))) wa rfl ?_))))))
      rcases aj h_16 with⟨hc_24,h_16⟩|⟨hc_24,h_16⟩
      ·refine aC rfl hc_24 wa (aJ (.d (.int .u8 (b_13.toNat:Int))) wa rfl (aJ (vB (decide ((b_13.toNat:Int)>=48))) wa rfl ?_))
       rcases aj h_16 with⟨hc_25,h_16⟩|⟨hc_25,h_16⟩
       ·refine aC rfl hc_25 wa (aJ (.d (.int .u8 (b_13.toNat:Int))) wa rfl (aJ (vB (decide ((b_13.toNat:Int)<=57))) wa rfl (aJ (vB (decide ((b_13.toNat:Int)<=57))) wa rfl ?_)))
        rcases aj h_16 with⟨hc_26,h_16⟩|⟨hc_26,h_16⟩
        ·refine aC rfl hc_26 wa (af (af (aJ (vB true) wa rfl (aJ (vB true) wa rfl (af (af (aJ (vB true) wa rfl (aJ (vB true) wa rfl (aa (vB true) (aa (vB false) (ah ?_)))))))))))
         obtain rfl:=ae h_16
         exact cu
        ·refine aC rfl hc_26 wa (aJ (.d (.int .u8 (b_13.toNat:Int))) wa rfl (aJ (vB ((b_13.toNat:Int)==45)) wa rfl (aJ (vB ((b_13.toNat:Int)==45)) wa rfl ?_)))
         rcases aj h_16 with⟨hc_27,h_16⟩|⟨hc_27,h_16⟩
         ·refine aC rfl hc_27 wa (af (af (aJ (vB true) wa rfl (aJ (vB true) wa rfl (aa (vB true) (aa (vB false) (ah ?_)))))))
          obtain rfl:=ae h_16
          exact cu
         ·refine aC rfl hc_27 wa (aJ (.d (.int .u8 (b_13.toNat:Int))) wa rfl (aJ (vB ((b_13.toNat:Int)==95)) wa rfl (aJ (vB ((b_13.toNat:Int)==95)) wa rfl (aJ (vB ((b_13.toNat:Int)==95)) wa rfl (aa (vB ((b_13.toNat:Int)==95)) (aa (vB (!((b_13.toNat:Int)==95))) (ah ?_)))))))
          obtain rfl:=ae h_16
          exact cu
       ·refine aC rfl hc_25 wa (af (af (aJ (vB false) wa rfl (aJ (vB false) wa rfl (aJ (.d (.int .u8 (b_13.toNat:Int))) wa rfl (aJ (vB ((b_13.toNat:Int)==45)) wa rfl (aJ (vB ((b_13.toNat:Int)==45)) wa rfl ?_)))))))
        rcases aj h_16 with⟨hc_28,h_16⟩|⟨hc_28,h_16⟩
        ·refine aC rfl hc_28 wa (af (af (aJ (vB true) wa rfl (aJ (vB true) wa rfl (aa (vB true) (aa (vB false) (ah ?_)))))))
         obtain rfl:=ae h_16
         exact cu
        ·refine aC rfl hc_28 wa (aJ (.d (.int .u8 (b_13.toNat:Int))) wa rfl (aJ (vB ((b_13.toNat:Int)==95)) wa rfl (aJ (vB ((b_13.toNat:Int)==95)) wa rfl (aJ (vB ((b_13.toNat:Int)==95)) wa rfl (aa (vB ((b_13.toNat:Int)==95)) (aa (vB (!((b_13.toNat:Int)==95))) (ah ?_)))))))
         obtain rfl:=ae h_16
         exact cu
      ·refine aC rfl hc_24 wa (af (af (af (bX (wn rfl rfl) (bX (wn rfl rfl) (af (af (bX (wn rfl rfl) (bX (wn rfl rfl) (af (af (bX (wn rfl rfl) (bX (wn rfl rfl) (af (aJ (vB false) wa rfl (aa (vB false) (aa (vB true) (ah ?_))))))))))))))))))
       obtain rfl:=ae h_16
       exact cu
    ·rintro ⟨⟩ _ sl_ H_ hp_ hq_
     refine aR _ hp_ hq_ ?_
     rcases aj hc_8 with⟨hc_29,hc_8⟩|⟨hc_29,hc_8⟩
     ·refine aA rfl hc_29 (ai (aa (vB false) (ah ?_)))
      obtain rfl:=ae hc_8
      obtain rfl:=ae hL_9
      obtain rfl:=ae hF
      exact ay (aM [(vB false)] ⟨rfl,trivial⟩)
     ·refine ax rfl hc_29 (av (au (aa (vI s_7) (aa (vI (w64 (s_7+1))) (aa (vI (w64 (s_7+1))) (ah ?_))))))
      obtain rfl:=ae hc_8
      exact aZ (k_2,(w64 (s_7+1))) hL_9 (ls_ _) rfl (aK rfl)
   ·refine ax rfl hc_12 (bf ?_)
    obtain rfl:=ae hc_8
    obtain rfl:=ae hL_9
    exact aY (s_7) rfl rfl (aK rfl)
 ·rintro s_7 ho_ sl_ H_ hp_ hq_
  subst ho_
  refine aR _ hp_ hq_ (ak ?_)
  obtain ⟨v_30,h_31,hF⟩:=bind_some hF
  refine aS [(2,(vB v_30))] [] ?_ ?_
  ·refine au (aa (vS s_1) (aa (vB (sNe s_1 (⟨#[]⟩:ByteArray))) ?_))
   rcases aj h_31 with⟨hc_32,h_31⟩|⟨hc_32,h_31⟩
   ·refine aC rfl hc_32 wz (aJ (vS s_1) wa rfl (Cs un9 rfl wa (aJ (vB (decide ((s_1.size:Int)<=40))) wa rfl (aa (vB (decide ((s_1.size:Int)<=40))) (aa (vB (decide ((s_1.size:Int)<=40))) (ah ?_))))))
    obtain rfl:=ae h_31
    exact cu
   ·refine aC rfl hc_32 wz (af (af (af (aa (vB false) (aa (vB false) (ah ?_))))))
    obtain rfl:=ae h_31
    exact cu
  ·rintro ⟨⟩ _ sl_ H_ hp_ hq_
   refine aR _ hp_ hq_ ?_
   obtain rfl:=ae hF
   exact ay (aM [(vB v_30)] ⟨rfl,trivial⟩)
theorem aV {n_1:Int} {low_2:Int} {high_3:Int} {r:Bool} (hF:aO n_1 low_2 high_3=some r) :
  FnM Tryz.prog 21 [(vI n_1),(vI low_2),(vI high_3)] [] (vB r) []:=by
 refine FnM.of_wH ⟨Tryz.prog,15,[],[]⟩ rfl Tryz.func21 rfl rfl (lb_ rfl) (by kernel_rfl) ?_
 unfold aO at hF
 refine ai (aa (vB false) (ah (ak ?_)))
 obtain ⟨v_4,h_5,hF⟩:=bind_some hF
 refine aS [(6,(vB v_4))] [] ?_ ?_
 ·refine au (aa (vI n_1) (aa (vI low_2) (aa (vB (decide (n_1<low_2))) ?_)))
  rcases aj h_5 with⟨hc_6,h_5⟩|⟨hc_6,h_5⟩
  ·refine aC rfl hc_6 wz (af (af (af (aa (vB true) (aa (vB true) (ah ?_))))))
   obtain rfl:=ae h_5
   exact cu
  ·refine aC rfl hc_6 wz (aJ (vI n_1) wa rfl (aJ (vI high_3) wa rfl (aJ (vB (decide (n_1>high_3))) wa rfl (aa (vB (decide (n_1>high_3))) (aa (vB (decide (n_1>high_3))) (ah ?_))))))
   obtain rfl:=ae h_5
   exact cu
 ·rintro ⟨⟩ _ sl_ H_ hp_ hq_
  refine aR _ hp_ hq_ ?_
  obtain rfl:=ae hF
  exact ay (aM [(vB v_4)] ⟨rfl,trivial⟩)
theorem yG {l_1:Log_} {r:Int} (hF:kX l_1=some r) :
  FnM Tryz.prog 38 [(.d (.agg (Log_.enc l_1)))] [] (vI r) []:=by
 refine FnM.of_wH ⟨Tryz.prog,26,[],[]⟩ rfl Tryz.func38 rfl rfl (lb_ rfl) (by kernel_rfl) ?_
 unfold kX at hF
 refine ai (fJ 0 (.inl rfl) (Log_.v l_1) rfl rfl wz (λn_2=>aa (vI 0) (ah (ak (ak ?_)))))
 obtain ⟨v_3,h_4,hF⟩:=bind_some hF
 refine aS [(1,(.ref n_2 0 0)),(12,(vB v_3))] [(n_2,some (.cells 6 (Log_.v l_1)))] ?_ ?_
 ·refine au (aH vC rfl 0 rfl wz (aG 0 0 il ft sz9 ag9 rfl rfl (vS l_1.Player) rfl wz ?_))
  obtain ⟨r_5,hr_6,h_4⟩:=bind_some h_4
  refine aB (dx hr_6) rfl yw rfl rfl rfl rfl wz (aa (vB (!r_5)) ?_)
  rcases aj h_4 with⟨hc_7,h_4⟩|⟨hc_7,h_4⟩
  ·refine aC rfl hc_7 wz (af (af (af (af (aa (vB true) (ah ?_))))))
   obtain rfl:=ae h_4
   exact cu
  ·refine aC rfl hc_7 wz (aH KO rfl 1 rfl wa (aG 0 0 il ft sz9 ag9 rfl rfl (vS l_1.Item) rfl wa ?_))
   obtain ⟨r_8,hr_9,h_4⟩:=bind_some h_4
   refine aB (dx hr_9) rfl yw rfl rfl rfl rfl wa (aJ (vB (!r_8)) wa rfl (aa (vB (!r_8)) (ah ?_)))
   obtain rfl:=ae h_4
   exact cu
 ·rintro ⟨⟩ _ sl_ H_ hp_ hq_
  refine aR _ hp_ hq_ ?_
  rcases aj hF with⟨hc_10,hF⟩|⟨hc_10,hF⟩
  ·refine aA rfl hc_10 (ai (aa (vI 5) (ah ?_)))
   obtain rfl:=ae hF
   exact ay (aM [(vI 5)] ⟨rfl,trivial⟩)
  ·refine ax rfl hc_10 (av (ak (ak ?_)))
   obtain ⟨v_11,h_12,hF⟩:=bind_some hF
   refine aS [(25,(vB v_11))] [(n_2,some (.cells 6 (Log_.v l_1)))] ?_ ?_
   ·refine au (aH Hr rfl 2 rfl wz (aG 0 0 il ft sz3 ag3 rfl rfl (vI l_1.No) rfl wz ?_))
    obtain ⟨r_13,hr_14,h_12⟩:=bind_some h_12
    refine aB (aV hr_14) rfl nZ rfl rfl rfl rfl wz ?_
    rcases aj h_12 with⟨hc_15,h_12⟩|⟨hc_15,h_12⟩
    ·refine aC rfl hc_15 wz (af (af (af (aa (vB true) (aa (vB true) (af (af (af (aa (vB true) (ah ?_))))))))))
     obtain rfl:=ae h_12
     exact cu
    ·refine aC rfl hc_15 wz (aH Hg rfl 3 rfl wa (aG 0 0 il ft sz3 ag3 rfl rfl (vI l_1.Clock) rfl wa ?_))
     obtain ⟨r_16,hr_17,h_12⟩:=bind_some h_12
     refine aB (aV hr_17) rfl nZ rfl rfl rfl rfl wa (aa (vB r_16) ?_)
     rcases aj h_12 with⟨hc_18,h_12⟩|⟨hc_18,h_12⟩
     ·refine aC rfl hc_18 wz (af (af (af (aa (vB true) (ah ?_)))))
      obtain rfl:=ae h_12
      exact cu
     ·refine aC rfl hc_18 wz (aH JN rfl 4 rfl wa (aG 0 0 il ft sz3 ag3 rfl rfl (vI l_1.Long) rfl wa ?_))
      obtain ⟨r_19,hr_20,h_12⟩:=bind_some h_12
      refine aB (aV hr_20) rfl nZ rfl rfl rfl rfl wa (aa (vB r_19) (ah ?_))
      obtain rfl:=ae h_12
      exact cu
   ·rintro ⟨⟩ _ sl_ H_ hp_ hq_
    refine aR _ hp_ hq_ ?_
    rcases aj hF with⟨hc_21,hF⟩|⟨hc_21,hF⟩
    ·refine aA rfl hc_21 (ai (aa (vI 1) (ah ?_)))
     obtain rfl:=ae hF
     exact ay (aM [(vI 1)] ⟨rfl,trivial⟩)
    ·refine ax rfl hc_21 (av (ai (aa (vI 0) (ah ?_))))
     obtain rfl:=ae hF
     exact ay (aM [(vI 0)] ⟨rfl,trivial⟩)
theorem uR {x0:ByteArray} {x1:ByteArray} {r:ByteArray} (hF:lT x0 x1=some r) :
  FnM Tryz.prog 65 [(vS x0),(vS x1)] [] (vS r) [] :=
 PP rfl Tryz.strings_Trim_ascii  hF
theorem Bi {s_1:ByteArray} {r:Bool} (hF:nI s_1=some r) :
  FnM Tryz.prog 39 [(vS s_1)] [] (vB r) []:=by
 refine FnM.of_wH ⟨Tryz.prog,11,[],[]⟩ rfl Tryz.func39 rfl rfl (lb_ rfl) (by kernel_rfl) ?_
 unfold nI at hF
 refine ai (aa (vB false) (ah (ak ?_)))
 obtain ⟨v_2,h_3,hF⟩:=bind_some hF
 refine aS [(2,(vB v_2))] [] ?_ ?_
 ·refine au (aa (vS s_1) (Cs un9 rfl wz (aa (vB ((s_1.size:Int)==16)) ?_)))
  rcases aj h_3 with⟨hc_4,h_3⟩|⟨hc_4,h_3⟩
  ·refine aC rfl hc_4 wz (aJ (vS s_1) wa rfl ?_)
   obtain ⟨r_5,hr_6,h_3⟩:=bind_some h_3
   refine aB (uR hr_6) rfl hb65 rfl rfl rfl rfl wa (aJ (vB (sEq r_5 (⟨#[]⟩:ByteArray))) wa rfl (aa (vB (sEq r_5 (⟨#[]⟩:ByteArray))) (aa (vB (sEq r_5 (⟨#[]⟩:ByteArray))) (ah ?_))))
   obtain rfl:=ae h_3
   exact cu
  ·refine aC rfl hc_4 wz (af (af (af (aa (vB false) (aa (vB false) (ah ?_))))))
   obtain rfl:=ae h_3
   exact cu
 ·rintro ⟨⟩ _ sl_ H_ hp_ hq_
  refine aR _ hp_ hq_ ?_
  obtain rfl:=ae hF
  exact ay (aM [(vB v_2)] ⟨rfl,trivial⟩)
section
variable [dM:DM]
theorem nE {a_1:ByteArray} {b_2:ByteArray} {r:Int} (hF:fZ a_1 b_2=some r) :
  FnM Tryz.prog 49 [(vS a_1),(vS b_2)] [] (vI r) []:=by
 refine FnM.of_wH ⟨Tryz.prog,8,[],[]⟩ rfl Tryz.func49 rfl rfl (lb_ rfl) (by kernel_rfl) ?_
 unfold fZ at hF
 refine ai (aa (vI 0) (ah (ai (aa (vS a_1) (aa (vS b_2) (h_ext (PD (f:=86) Tryz.func86 rfl rfl (by kernel_rfl) (by kernel_rfl) _ _) rfl nb86 rfl wz (aa (vI (vU a_1 b_2)) (ah ?_))))))))
 obtain rfl:=ae hF
 exact ay (aM [(vI (vU a_1 b_2))] ⟨rfl,trivial⟩)
end
section
variable [dM:DM]
theorem fV {a_1:ByteArray} {b_2:ByteArray} {r:Int} (hF:strings_Compare a_1 b_2=some r) :
  FnM Tryz.prog 27 [(vS a_1),(vS b_2)] [] (vI r) []:=by
 refine FnM.of_wH ⟨Tryz.prog,8,[],[]⟩ rfl Tryz.func27 rfl rfl (lb_ rfl) (by kernel_rfl) ?_
 unfold strings_Compare at hF
 refine ai (aa (vI 0) (ah (ai (aa (vS a_1) (aa (vS b_2) ?_)))))
 obtain ⟨r_3,hr_4,hF⟩:=bind_some hF
 refine aB (nE hr_4) rfl hb49 rfl rfl rfl rfl wz (aa (vI r_3) (ah ?_))
 obtain rfl:=ae hF
 exact ay (aM [(vI r_3)] ⟨rfl,trivial⟩)
end
section
variable [dM:DM]
theorem lY {x_1:Int} {r:Bool} (hF:cmp_isNaN_int x_1=some r) :
  FnM Tryz.prog 50 [(vI x_1)] [] (vB r) []:=by
 refine FnM.of_wH ⟨Tryz.prog,6,[],[]⟩ rfl Tryz.func50 rfl rfl (lb_ rfl) (by kernel_rfl) ?_
 unfold cmp_isNaN_int at hF
 refine ai (aa (vB false) (ah (ai (aa (vI x_1) (aa (vI x_1) (aa (vB (x_1 != x_1)) (aa (vB (x_1 != x_1)) (ah ?_))))))))
 obtain rfl:=ae hF
 exact ay (aM [(vB (x_1 != x_1))] ⟨rfl,trivial⟩)
end
section
variable [dM:DM]
theorem gq {x_1:Int} {y_2:Int} {r:Int} (hF:cmp_Compare_int x_1 y_2=some r) :
  FnM Tryz.prog 28 [(vI x_1),(vI y_2)] [] (vI r) []:=by
 refine FnM.of_wH ⟨Tryz.prog,20,[],[]⟩ rfl Tryz.func28 rfl rfl (lb_ rfl) (by kernel_rfl) ?_
 unfold cmp_Compare_int at hF
 refine ai (aa (vI 0) (ah (ai (aa (vI x_1) ?_))))
 obtain ⟨r_3,hr_4,hF⟩:=bind_some hF
 refine aB (lY hr_4) rfl hb50 rfl rfl rfl rfl wz (aa (vB r_3) (ah (ai (aa (vI y_2) ?_))))
 obtain ⟨r_5,hr_6,hF⟩:=bind_some hF
 refine aB (lY hr_6) rfl hb50 rfl rfl rfl rfl wz (aa (vB r_5) (ah (ak (ai (aa (vB r_3) (ah ?_))))))
 rcases aj hF with⟨hc_7,hF⟩|⟨hc_7,hF⟩
 ·refine aA rfl hc_7 (ak (ai (aa (vB r_5) (ah ?_))))
  rcases aj hF with⟨hc_8,hF⟩|⟨hc_8,hF⟩
  ·refine aA rfl hc_8 (ai (aa (vI 0) (ah ?_)))
   obtain rfl:=ae hF
   exact ay (aM [(vI 0)] ⟨rfl,trivial⟩)
  ·refine ax rfl hc_8 (av (ai (aa (vI (-1)) (ah ?_))))
   obtain rfl:=ae hF
   exact ay (aM [(vI (-1))] ⟨rfl,trivial⟩)
 ·refine ax rfl hc_7 (av (ak (ai (aa (vB r_5) (ah ?_)))))
  rcases aj hF with⟨hc_9,hF⟩|⟨hc_9,hF⟩
  ·refine aA rfl hc_9 (ai (aa (vI 1) (ah ?_)))
   obtain rfl:=ae hF
   exact ay (aM [(vI 1)] ⟨rfl,trivial⟩)
  ·refine ax rfl hc_9 (av (ak (ai (aa (vI x_1) (aa (vI y_2) (aa (vB (decide (x_1<y_2))) (ah ?_)))))))
   rcases aj hF with⟨hc_10,hF⟩|⟨hc_10,hF⟩
   ·refine aA rfl hc_10 (ai (aa (vI (-1)) (ah ?_)))
    obtain rfl:=ae hF
    exact ay (aM [(vI (-1))] ⟨rfl,trivial⟩)
   ·refine ax rfl hc_10 (av (ak (ai (aa (vI x_1) (aa (vI y_2) (aa (vB (decide (x_1>y_2))) (ah ?_)))))))
    rcases aj hF with⟨hc_11,hF⟩|⟨hc_11,hF⟩
    ·refine aA rfl hc_11 (ai (aa (vI 1) (ah ?_)))
     obtain rfl:=ae hF
     exact ay (aM [(vI 1)] ⟨rfl,trivial⟩)
    ·refine ax rfl hc_11 (av (ai (aa (vI 0) (ah ?_))))
     obtain rfl:=ae hF
     exact ay (aM [(vI 0)] ⟨rfl,trivial⟩)
end
section
variable [dM:DM]
theorem mH {vals_1:(List Int)} {r:Int} (hF:iJ vals_1=some r) :
  FnM Tryz.prog 26 [(vL eI vals_1)] [] (vI r) []:=by
 refine FnM.of_wH ⟨Tryz.prog,18,[],[]⟩ rfl Tryz.func26 rfl rfl (lb_ rfl) (by kernel_rfl) ?_
 unfold iJ at hF
 refine ai (aa (vI 0) (ah (ai (aa (vI 0) (ah (ak (ai (aa (vL eI vals_1) (bN vk rfl wz (aa (vI 0) (ah ?_)))))))))))
 obtain ⟨o_10,hj_11,hF⟩:=bind_some hF
 obtain ⟨hn_6,hj_11⟩:=bv hj_11
 refine bW (λ(s_7:Unit)=>[(3,(vI 0))]) (λ(s_7:Unit)=>[]) (λ(k_2:Nat)=>(λ(s_7:Unit)=>[(3,(vI 0)),(6,(vL eI vals_1)),(7,(vI (vals_1.length:Int))),(8,(vI (k_2:Int)))])) (λk x s=>kH k x s) o_10 vals_1 () hj_11 rfl (aK rfl) ?_ ?_
 ·rintro ⟨k_2,l_3,s_7⟩ ⟨hL_9,hD_5⟩
  dsimp only at hL_9 hD_5
  cases l_3 with
  | nil =>
   obtain rfl:=ae hL_9
   refine ai (aa (vB (decide ((k_2:Int)<(vals_1.length:Int)))) (ah ?_))
   refine ak (ax rfl (drop_nil hD_5) (bf ?_))
   exact aY (s_7) rfl rfl (aK rfl)
  | cons x_4 l_3 =>
   obtain ⟨c_,hc_8,hL_9⟩:=bind_some hL_9
   refine ai (aa (vB (decide ((k_2:Int)<(vals_1.length:Int)))) (ah ?_))
   refine ak (aA rfl (bA hD_5) (av ?_))
   unfold kH at hc_8
   refine ak (aQ (ai (dB mQ rfl rfl (bK hD_5) rfl wz (bH sz3 ag3 rfl (vI x_4) rfl wz (aa (vI x_4) (ah (ai (aa (vI x_4) (aa (vI 0) (aa (vB (x_4 != 0)) (ah ?_)))))))))))
   rcases aj hc_8 with⟨hc_12,hc_8⟩|⟨hc_12,hc_8⟩
   ·refine aA rfl hc_12 (ai (aa (vI x_4) (aa (vI x_4) (ah ?_))))
    obtain rfl:=ae hc_8
    obtain rfl:=ae hL_9
    obtain rfl:=ae hF
    exact ay (aM [(vI x_4)] ⟨rfl,trivial⟩)
   ·refine ax rfl hc_12 (av (au (fw (bE hD_5 hn_6) wz rfl (aa (vI ((k_2+1:Nat):Int)) (ah ?_)))))
    obtain rfl:=ae hc_8
    exact aZ (k_2+1,l_3,()) ⟨hL_9,aX hD_5⟩ (ls_ _) rfl (aK rfl)
 ·rintro s_7 ho_ sl_ H_ hp_ hq_
  subst ho_
  refine aR _ hp_ hq_ (ai (aa (vI 0) (aa (vI 0) (ah ?_))))
  obtain rfl:=ae hF
  exact ay (aM [(vI 0)] ⟨rfl,trivial⟩)
end
theorem ww {a_1:Log_} {b_2:Log_} {r:Int} (hF:jh a_1 b_2=some r) :
  FnM Tryz.prog 40 [(.d (.agg (Log_.enc a_1))),(.d (.agg (Log_.enc b_2)))] [] (vI r) []:=by
 refine FnM.of_wH ⟨Tryz.prog,17,[],[]⟩ rfl Tryz.func40 rfl rfl (lb_ rfl) (by kernel_rfl) ?_
 unfold jh at hF
 refine ai (fJ 0 (.inl rfl) (Log_.v a_1) rfl rfl wz (λn_3=>fJ 0 (.inl rfl) (Log_.v b_2) rfl rfl wz (λn_4=>aa (vI 0) (ah (ak (bC (aH vC rfl 0 rfl wz (aG 1 0 (.inr (by kernel_rfl)) (λ_ _ ag=>trivial) sz9 ag9 rfl rfl (vS a_1.Player) rfl wz (aH vC rfl 0 rfl wz (aG 3 1 (.inr (by kernel_rfl)) (λ_ _ ag=>⟨.inl ⟨rfl,rfl⟩,trivial⟩) sz9 ag9 rfl rfl (vS b_2.Player) rfl wz ?_))))))))))
 obtain ⟨r_5,hr_6,hF⟩:=bind_some hF
 refine aB (fV hr_6) rfl MS rfl rfl rfl rfl wz (aH Hr rfl 2 rfl wz (aG 6 0 (.inr (by kernel_rfl)) (λ_ _ ag=>⟨.inl ⟨rfl,rfl⟩,⟨.inl ⟨rfl,rfl⟩,trivial⟩⟩) sz3 ag3 rfl rfl (vI a_1.No) rfl wz (aH Hr rfl 2 rfl wz (aG 8 1 (.inr (by kernel_rfl)) (λ_ _ ag=>⟨.inl ⟨rfl,rfl⟩,⟨.inl ⟨rfl,rfl⟩,⟨.inl ⟨rfl,rfl⟩,trivial⟩⟩⟩) sz3 ag3 rfl rfl (vI b_2.No) rfl wz ?_))))
 obtain ⟨r_7,hr_8,hF⟩:=bind_some hF
 refine aB (gq hr_8) rfl Mk rfl rfl rfl rfl wz (fq (([r_5,r_7]:List Int).map eI) mQ x9 rfl rfl rfl rfl rfl wz ?_)
 obtain ⟨r_9,hr_10,hF⟩:=bind_some hF
 refine aB (mH hr_10) rfl NA rfl rfl rfl rfl wz (aa (vI r_9) (ah ?_))
 obtain rfl:=ae hF
 exact ay (aM [(vI r_9)] ⟨rfl,trivial⟩)
theorem yx {l_1:(List Log_)} {r:Int} (hF:iY l_1=some r) :
  FnM Tryz.prog 15 [(vL Log_.enc l_1)] [] (vI r) []:=by
 refine FnM.of_wH ⟨Tryz.prog,38,[],[]⟩ rfl Tryz.func15 rfl rfl (lb_ rfl) (by kernel_rfl) ?_
 unfold iY at hF
 refine ai (aa (vI 0) (ah (ak (ai (aa (vL Log_.enc l_1) (bN Pb rfl wz (aa (vB (decide ((l_1.length:Int)>2000))) (ah ?_))))))))
 rcases aj hF with⟨hc_2,hF⟩|⟨hc_2,hF⟩
 ·refine aA rfl hc_2 (ai (aa (vI 2) (ah ?_)))
  obtain rfl:=ae hF
  exact ay (aM [(vI 2)] ⟨rfl,trivial⟩)
 ·refine ax rfl hc_2 (av (ak (ai (aa (vL Log_.enc l_1) (bN Pb rfl wz (aa (vI 0) (ah ?_)))))))
  obtain ⟨o_11,hj_12,hF⟩:=bind_some hF
  obtain ⟨hn_7,hj_12⟩:=bv hj_12
  refine bW (λ(s_8:Unit)=>[]) (λ(s_8:Unit)=>[]) (λ(k_3:Nat)=>(λ(s_8:Unit)=>[(0,(vL Log_.enc l_1)),(9,(vL Log_.enc l_1)),(10,(vI (l_1.length:Int))),(11,(vI (k_3:Int)))])) (λk x s=>jZ l_1 k x s) o_11 l_1 () hj_12 rfl (aK rfl) ?_ ?_
  ·rintro ⟨k_3,l_4,s_8⟩ ⟨hL_10,hD_6⟩
   dsimp only at hL_10 hD_6
   cases l_4 with
   | nil =>
    obtain rfl:=ae hL_10
    refine ai (aa (vB (decide ((k_3:Int)<(l_1.length:Int)))) (ah ?_))
    refine ak (ax rfl (drop_nil hD_6) (bf ?_))
    exact aY (s_8) rfl rfl (aK rfl)
   | cons x_5 l_4 =>
    obtain ⟨c_,hc_9,hL_10⟩:=bind_some hL_10
    refine ai (aa (vB (decide ((k_3:Int)<(l_1.length:Int)))) (ah ?_))
    refine ak (aA rfl (bA hD_6) (av ?_))
    unfold jZ at hc_9
    refine ak (aQ (ai (aa (vI (k_3:Int)) (dB GR rfl rfl (bK hD_6) rfl wz (bH BF Ia rfl (.d (.agg (Log_.enc x_5))) rfl wz (di 0 (.inl rfl) z49 rfl wz (λn_13=>aa (vI (k_3:Int)) (gu 0 il ft 0 BF rfl rfl (Log_.v x_5) rfl wz (ah (ak (ai (aG 0 0 il ft BF Ia rfl rfl (.d (.agg (Log_.enc x_5))) rfl wz ?_))))))))))))
    obtain ⟨r_14,hr_15,hc_9⟩:=bind_some hc_9
    refine aB (yG hr_15) rfl hb38 rfl rfl rfl rfl wz (aa (vI r_14) (ah (ai (aa (vI r_14) (aa (vB (r_14 != 0)) (ah ?_))))))
    rcases aj hc_9 with⟨hc_16,hc_9⟩|⟨hc_16,hc_9⟩
    ·refine aA rfl hc_16 (ai (aa (vI r_14) (aa (vI r_14) (ah ?_))))
     obtain rfl:=ae hc_9
     obtain rfl:=ae hL_10
     obtain rfl:=ae hF
     exact ay (aM [(vI r_14)] ⟨rfl,trivial⟩)
    ·refine ax rfl hc_16 (av (ak (ai (aH Ke rfl 5 rfl wz (aG 0 0 il ft sz9 ag9 rfl rfl (vS x_5.Sum) rfl wz ?_)))))
     obtain ⟨r_17,hr_18,hc_9⟩:=bind_some hc_9
     refine aB (Bi hr_18) rfl hb39 rfl rfl rfl rfl wz (aa (vB (!r_17)) (ah ?_))
     rcases aj hc_9 with⟨hc_19,hc_9⟩|⟨hc_19,hc_9⟩
     ·refine aA rfl hc_19 (ai (aa (vI 3) (ah ?_)))
      obtain rfl:=ae hc_9
      obtain rfl:=ae hL_10
      obtain rfl:=ae hF
      exact ay (aM [(vI 3)] ⟨rfl,trivial⟩)
     ·refine ax rfl hc_19 (av (ak ?_))
      obtain ⟨v_20,h_21,hc_9⟩:=bind_some hc_9
      refine aS [(0,(vL Log_.enc l_1)),(9,(vL Log_.enc l_1)),(10,(vI (l_1.length:Int))),(11,(vI (k_3:Int))),(36,(vB v_20))] [(n_13,some (.cells 6 (Log_.v x_5)))] ?_ ?_
      ·refine bC (aa (vI (k_3:Int)) (aa (vB (decide ((k_3:Int)>0))) ?_))
       rcases aj h_21 with⟨hc_22,h_21⟩|⟨hc_22,h_21⟩
       ·refine aC rfl hc_22 wz (aJ (vL Log_.enc l_1) wa rfl (aJ (vI (k_3:Int)) wa rfl (aJ (vI (w64 ((k_3:Int)-1))) wa rfl ?_)))
        obtain ⟨y_23,hy_24,h_21⟩:=bind_some h_21
        refine dB GR rfl rfl hy_24 rfl wa (bH BF Ia rfl (.d (.agg (Log_.enc y_23))) rfl wa (aG 8 0 (.inr (by kernel_rfl)) (λ_ _ ag=>trivial) BF Ia rfl rfl (.d (.agg (Log_.enc x_5))) rfl wa ?_))
        obtain ⟨r_25,hr_26,h_21⟩:=bind_some h_21
        refine aB (ww hr_26) rfl hb40 rfl rfl rfl rfl wa (aJ (vB (decide (r_25>=0))) wa rfl (aa (vB (decide (r_25>=0))) (ah ?_)))
        obtain rfl:=ae h_21
        exact cu
       ·refine aC rfl hc_22 wz (af (af (af (af (af (af (af (af (aa (vB false) (ah ?_))))))))))
        obtain rfl:=ae h_21
        exact cu
      ·rintro ⟨⟩ _ sl_ H_ hp_ hq_
       refine aR _ hp_ hq_ ?_
       rcases aj hc_9 with⟨hc_27,hc_9⟩|⟨hc_27,hc_9⟩
       ·refine aA rfl hc_27 (ai (aa (vI 7) (ah ?_)))
        obtain rfl:=ae hc_9
        obtain rfl:=ae hL_10
        obtain rfl:=ae hF
        exact ay (aM [(vI 7)] ⟨rfl,trivial⟩)
       ·refine ax rfl hc_27 (av (au (fw (bE hD_6 hn_7) wz rfl (aa (vI ((k_3+1:Nat):Int)) (ah ?_)))))
        obtain rfl:=ae hc_9
        exact aZ (k_3+1,l_4,()) ⟨hL_10,aX hD_6⟩ (ls_ _) rfl (aK rfl)
  ·rintro s_8 ho_ sl_ H_ hp_ hq_
   subst ho_
   refine aR _ hp_ hq_ (ai (aa (vI 0) (ah ?_)))
   obtain rfl:=ae hF
   exact ay (aM [(vI 0)] ⟨rfl,trivial⟩)
theorem eY {n_1:Int} {r:Bool} (hF:bO n_1=some r) :
  FnM Tryz.prog 18 [(vI n_1)] [] (vB r) []:=by
 refine FnM.of_wH ⟨Tryz.prog,9,[],[]⟩ rfl Tryz.func18 rfl rfl (lb_ rfl) (by kernel_rfl) ?_
 unfold bO at hF
 refine ai (aa (vB false) (ah (ak ?_)))
 obtain ⟨v_2,h_3,hF⟩:=bind_some hF
 refine aS [(2,(vB v_2))] [] ?_ ?_
 ·refine au (aa (vI n_1) (aa (vB (decide (n_1>=0))) ?_))
  rcases aj h_3 with⟨hc_4,h_3⟩|⟨hc_4,h_3⟩
  ·refine aC rfl hc_4 wz (aJ (vI n_1) wa rfl (aJ (vB (decide (n_1<345686400000))) wa rfl (aa (vB (decide (n_1<345686400000))) (aa (vB (decide (n_1<345686400000))) (ah ?_)))))
   obtain rfl:=ae h_3
   exact cu
  ·refine aC rfl hc_4 wz (af (af (aa (vB false) (aa (vB false) (ah ?_)))))
   obtain rfl:=ae h_3
   exact cu
 ·rintro ⟨⟩ _ sl_ H_ hp_ hq_
  refine aR _ hp_ hq_ ?_
  obtain rfl:=ae hF
  exact ay (aM [(vB v_2)] ⟨rfl,trivial⟩)
theorem vv {a_1:Beat} {b_2:Beat} {r:Int} (hF:gp a_1 b_2=some r) :
  FnM Tryz.prog 41 [(.d (.agg (Beat.enc a_1))),(.d (.agg (Beat.enc b_2)))] [] (vI r) []:=by
 refine FnM.of_wH ⟨Tryz.prog,17,[],[]⟩ rfl Tryz.func41 rfl rfl (lb_ rfl) (by kernel_rfl) ?_
 unfold gp at hF
 refine ai (fJ 0 (.inl rfl) (Beat.v a_1) rfl rfl wz (λn_3=>fJ 0 (.inl rfl) (Beat.v b_2) rfl rfl wz (λn_4=>aa (vI 0) (ah (ak (bC (aH zy rfl 0 rfl wz (aG 1 0 (.inr (by kernel_rfl)) (λ_ _ ag=>trivial) sz9 ag9 rfl rfl (vS a_1.Player) rfl wz (aH zy rfl 0 rfl wz (aG 3 1 (.inr (by kernel_rfl)) (λ_ _ ag=>⟨.inl ⟨rfl,rfl⟩,trivial⟩) sz9 ag9 rfl rfl (vS b_2.Player) rfl wz ?_))))))))))
 obtain ⟨r_5,hr_6,hF⟩:=bind_some hF
 refine aB (fV hr_6) rfl MS rfl rfl rfl rfl wz (aH Cn rfl 1 rfl wz (aG 6 0 (.inr (by kernel_rfl)) (λ_ _ ag=>⟨.inl ⟨rfl,rfl⟩,⟨.inl ⟨rfl,rfl⟩,trivial⟩⟩) sz3 ag3 rfl rfl (vI a_1.At) rfl wz (aH Cn rfl 1 rfl wz (aG 8 1 (.inr (by kernel_rfl)) (λ_ _ ag=>⟨.inl ⟨rfl,rfl⟩,⟨.inl ⟨rfl,rfl⟩,⟨.inl ⟨rfl,rfl⟩,trivial⟩⟩⟩) sz3 ag3 rfl rfl (vI b_2.At) rfl wz ?_))))
 obtain ⟨r_7,hr_8,hF⟩:=bind_some hF
 refine aB (gq hr_8) rfl Mk rfl rfl rfl rfl wz (fq (([r_5,r_7]:List Int).map eI) mQ x9 rfl rfl rfl rfl rfl wz ?_)
 obtain ⟨r_9,hr_10,hF⟩:=bind_some hF
 refine aB (mH hr_10) rfl NA rfl rfl rfl rfl wz (aa (vI r_9) (ah ?_))
 obtain rfl:=ae hF
 exact ay (aM [(vI r_9)] ⟨rfl,trivial⟩)
theorem qi {l_1:(List Beat)} {r:Int} (hF:dZ l_1=some r) :
  FnM Tryz.prog 16 [(vL Beat.enc l_1)] [] (vI r) []:=by
 refine FnM.of_wH ⟨Tryz.prog,69,[],[]⟩ rfl Tryz.func16 rfl rfl (lb_ rfl) (by kernel_rfl) ?_
 unfold dZ at hF
 refine ai (aa (vI 0) (ah (ak (ai (aa (vL Beat.enc l_1) (bN un28 rfl wz (aa (vB (decide ((l_1.length:Int)>500))) (ah ?_))))))))
 rcases aj hF with⟨hc_2,hF⟩|⟨hc_2,hF⟩
 ·refine aA rfl hc_2 (ai (aa (vI 2) (ah ?_)))
  obtain rfl:=ae hF
  exact ay (aM [(vI 2)] ⟨rfl,trivial⟩)
 ·refine ax rfl hc_2 (av (ak (ai (aa (vL Beat.enc l_1) (bN un28 rfl wz (aa (vI 0) (ah ?_)))))))
  obtain ⟨o_11,hj_12,hF⟩:=bind_some hF
  obtain ⟨hn_7,hj_12⟩:=bv hj_12
  refine bW (λ(s_8:Unit)=>[]) (λ(s_8:Unit)=>[]) (λ(k_3:Nat)=>(λ(s_8:Unit)=>[(0,(vL Beat.enc l_1)),(8,(vL Beat.enc l_1)),(9,(vI (l_1.length:Int))),(10,(vI (k_3:Int)))])) (λk x s=>fO l_1 k x s) o_11 l_1 () hj_12 rfl (aK rfl) ?_ ?_
  ·rintro ⟨k_3,l_4,s_8⟩ ⟨hL_10,hD_6⟩
   dsimp only at hL_10 hD_6
   cases l_4 with
   | nil =>
    obtain rfl:=ae hL_10
    refine ai (aa (vB (decide ((k_3:Int)<(l_1.length:Int)))) (ah ?_))
    refine ak (ax rfl (drop_nil hD_6) (bf ?_))
    exact aY (s_8) rfl rfl (aK rfl)
   | cons x_5 l_4 =>
    obtain ⟨c_,hc_9,hL_10⟩:=bind_some hL_10
    refine ai (aa (vB (decide ((k_3:Int)<(l_1.length:Int)))) (ah ?_))
    refine ak (aA rfl (bA hD_6) (av ?_))
    unfold fO at hc_9
    refine ak (aQ (ai (aa (vI (k_3:Int)) (dB KQ rfl rfl (bK hD_6) rfl wz (bH Ka ag53 rfl (.d (.agg (Beat.enc x_5))) rfl wz (di 0 (.inl rfl) z53 rfl wz (λn_13=>aa (vI (k_3:Int)) (gu 0 il ft 0 Ka rfl rfl (Beat.v x_5) rfl wz (ah (aQ (ai (aH zy rfl 0 rfl wz (aG 0 0 il ft sz9 ag9 rfl rfl (vS x_5.Player) rfl wz ?_)))))))))))))
    obtain ⟨r_14,hr_15,hc_9⟩:=bind_some hc_9
    refine aB (dx hr_15) rfl yw rfl rfl rfl rfl wz (aa (vB (!r_14)) (aa (vB (!r_14)) (ah ?_)))
    rcases aj hc_9 with⟨hc_16,hc_9⟩|⟨hc_16,hc_9⟩
    ·refine aA rfl hc_16 (ai (aa (vI 5) (ah ?_)))
     obtain rfl:=ae hc_9
     obtain rfl:=ae hL_10
     obtain rfl:=ae hF
     exact ay (aM [(vI 5)] ⟨rfl,trivial⟩)
    ·refine ax rfl hc_16 (ak ?_)
     obtain ⟨v_17,h_18,hc_9⟩:=bind_some hc_9
     refine aS [(0,(vL Beat.enc l_1)),(3,(vI (k_3:Int))),(4,(.ref n_13 0 0)),(8,(vL Beat.enc l_1)),(9,(vI (l_1.length:Int))),(10,(vI (k_3:Int))),(20,(vB v_17))] [(n_13,some (.cells 3 (Beat.v x_5)))] ?_ ?_
     ·refine au (aH Cn rfl 1 rfl wz (aG 0 0 il ft sz3 ag3 rfl rfl (vI x_5.At) rfl wz ?_))
      obtain ⟨r_19,hr_20,h_18⟩:=bind_some h_18
      refine aB (eY hr_20) rfl GU rfl rfl rfl rfl wz (aa (vB (!r_19)) ?_)
      rcases aj h_18 with⟨hc_21,h_18⟩|⟨hc_21,h_18⟩
      ·refine aC rfl hc_21 wz (af (af (af (aa (vB true) (aa (vB true) (ah ?_))))))
       obtain rfl:=ae h_18
       exact cu
      ·refine aC rfl hc_21 wz (aH Ee rfl 2 rfl wa (aG 0 0 il ft sz3 ag3 rfl rfl (vI x_5.Clock) rfl wa ?_))
       obtain ⟨r_22,hr_23,h_18⟩:=bind_some h_18
       refine aB (aV hr_23) rfl nZ rfl rfl rfl rfl wa (aa (vB r_22) (aa (vB r_22) (ah ?_)))
       obtain rfl:=ae h_18
       exact cu
     ·rintro ⟨⟩ _ sl_ H_ hp_ hq_
      refine aR _ hp_ hq_ ?_
      rcases aj hc_9 with⟨hc_24,hc_9⟩|⟨hc_24,hc_9⟩
      ·refine aA rfl hc_24 (ai (aa (vI 1) (ah ?_)))
       obtain rfl:=ae hc_9
       obtain rfl:=ae hL_10
       obtain rfl:=ae hF
       exact ay (aM [(vI 1)] ⟨rfl,trivial⟩)
      ·refine ax rfl hc_24 (ak ?_)
       obtain ⟨v_25,h_26,hc_9⟩:=bind_some hc_9
       refine aS [(0,(vL Beat.enc l_1)),(3,(vI (k_3:Int))),(4,(.ref n_13 0 0)),(8,(vL Beat.enc l_1)),(9,(vI (l_1.length:Int))),(10,(vI (k_3:Int))),(30,(vB v_25))] [(n_13,some (.cells 3 (Beat.v x_5)))] ?_ ?_
       ·refine bC (aa (vI (k_3:Int)) (aa (vB (decide ((k_3:Int)>0))) ?_))
        rcases aj h_26 with⟨hc_27,h_26⟩|⟨hc_27,h_26⟩
        ·refine aC rfl hc_27 wz (aJ (vL Beat.enc l_1) wa rfl (aJ (vI (k_3:Int)) wa rfl (aJ (vI (w64 ((k_3:Int)-1))) wa rfl ?_)))
         obtain ⟨y_28,hy_29,h_26⟩:=bind_some h_26
         refine dB KQ rfl rfl hy_29 rfl wa (bH Ka ag53 rfl (.d (.agg (Beat.enc y_28))) rfl wa (aG 8 0 (.inr (by kernel_rfl)) (λ_ _ ag=>trivial) Ka ag53 rfl rfl (.d (.agg (Beat.enc x_5))) rfl wa ?_))
         obtain ⟨r_30,hr_31,h_26⟩:=bind_some h_26
         refine aB (vv hr_31) rfl hb41 rfl rfl rfl rfl wa (aJ (vB (decide (r_30>=0))) wa rfl (aa (vB (decide (r_30>=0))) (aa (vB (decide (r_30>=0))) (ah ?_))))
         obtain rfl:=ae h_26
         exact cu
        ·refine aC rfl hc_27 wz (af (af (af (af (af (af (af (af (aa (vB false) (aa (vB false) (ah ?_)))))))))))
         obtain rfl:=ae h_26
         exact cu
       ·rintro ⟨⟩ _ sl_ H_ hp_ hq_
        refine aR _ hp_ hq_ ?_
        rcases aj hc_9 with⟨hc_32,hc_9⟩|⟨hc_32,hc_9⟩
        ·refine aA rfl hc_32 (ai (aa (vI 7) (ah ?_)))
         obtain rfl:=ae hc_9
         obtain rfl:=ae hL_10
         obtain rfl:=ae hF
         exact ay (aM [(vI 7)] ⟨rfl,trivial⟩)
        ·refine ax rfl hc_32 (ak ?_)
         obtain ⟨v_33,h_34,hc_9⟩:=bind_some hc_9
         refine aS [(0,(vL Beat.enc l_1)),(8,(vL Beat.enc l_1)),(9,(vI (l_1.length:Int))),(10,(vI (k_3:Int))),(43,(vB v_33))] [(n_13,some (.cells 3 (Beat.v x_5)))] ?_ ?_
         ·refine bC (aa (vI (k_3:Int)) (aa (vB (decide ((k_3:Int)>0))) ?_))
          rcases aj h_34 with⟨hc_35,h_34⟩|⟨hc_35,h_34⟩
          ·refine aC rfl hc_35 wz (aH zy rfl 0 rfl wa (aG 4 0 (.inr (by kernel_rfl)) (λ_ _ ag=>trivial) sz9 ag9 rfl rfl (vS x_5.Player) rfl wa (aJ (vL Beat.enc l_1) wa rfl (aJ (vI (k_3:Int)) wa rfl (aJ (vI (w64 ((k_3:Int)-1))) wa rfl ?_)))))
           obtain ⟨y_36,hy_37,h_34⟩:=bind_some h_34
           refine dB KQ rfl rfl hy_37 rfl wa (kv zy rfl [.str y_36.Player,.int .i64 y_36.At,.int .i64 y_36.Clock] rfl rfl wa (bH sz9 ag9 rfl (vS y_36.Player) rfl wa (aJ (vB (sEq x_5.Player y_36.Player)) wa rfl (aa (vB (sEq x_5.Player y_36.Player)) ?_))))
           rcases aj h_34 with⟨hc_38,h_34⟩|⟨hc_38,h_34⟩
           ·refine aC rfl hc_38 wz (aH Ee rfl 2 rfl wa (aG 15 0 (.inr (by kernel_rfl)) (λ_ _ ag=>⟨.inl ⟨rfl,rfl⟩,trivial⟩) sz3 ag3 rfl rfl (vI x_5.Clock) rfl wa (aJ (vL Beat.enc l_1) wa rfl (aJ (vI (k_3:Int)) wa rfl (aJ (vI (w64 ((k_3:Int)-1))) wa rfl ?_)))))
            obtain ⟨y_39,hy_40,h_34⟩:=bind_some h_34
            refine dB KQ rfl rfl hy_40 rfl wa (kv Ee rfl [.int .i64 y_39.Clock] rfl rfl wa (bH sz3 ag3 rfl (vI y_39.Clock) rfl wa (aJ (vB (decide (x_5.Clock<=y_39.Clock))) wa rfl (aa (vB (decide (x_5.Clock<=y_39.Clock))) (aa (vB (decide (x_5.Clock<=y_39.Clock))) (ah ?_))))))
            obtain rfl:=ae h_34
            exact cu
           ·refine aC rfl hc_38 wz (af (af (af (af (af (af (af (af (af (aa (vB false) (aa (vB false) (ah ?_))))))))))))
            obtain rfl:=ae h_34
            exact cu
          ·refine aC rfl hc_35 wz (af (af (af (af (af (af (af (af (af (aa (vB false) (aa (vB false) (af (af (af (af (af (af (af (af (af (aa (vB false) (aa (vB false) (ah ?_)))))))))))))))))))))))
           obtain rfl:=ae h_34
           exact cu
         ·rintro ⟨⟩ _ sl_ H_ hp_ hq_
          refine aR _ hp_ hq_ ?_
          rcases aj hc_9 with⟨hc_41,hc_9⟩|⟨hc_41,hc_9⟩
          ·refine aA rfl hc_41 (ai (aa (vI 16) (ah ?_)))
           obtain rfl:=ae hc_9
           obtain rfl:=ae hL_10
           obtain rfl:=ae hF
           exact ay (aM [(vI 16)] ⟨rfl,trivial⟩)
          ·refine ax rfl hc_41 (av (au (fw (bE hD_6 hn_7) wz rfl (aa (vI ((k_3+1:Nat):Int)) (ah ?_)))))
           obtain rfl:=ae hc_9
           exact aZ (k_3+1,l_4,()) ⟨hL_10,aX hD_6⟩ (ls_ _) rfl (aK rfl)
  ·rintro s_8 ho_ sl_ H_ hp_ hq_
   subst ho_
   refine aR _ hp_ hq_ (ai (aa (vI 0) (ah ?_)))
   obtain rfl:=ae hF
   exact ay (aM [(vI 0)] ⟨rfl,trivial⟩)
theorem sI {l_1:(List Beat)} {player_2:ByteArray} {back_3:Bool} {r:(List Beat_)} (hF:jq l_1 player_2 back_3=some r) :
  FnM Tryz.prog 42 [(vL Beat.enc l_1),(vS player_2),(vB back_3)] [] (vL Beat_.enc r) []:=by
 refine FnM.of_wH ⟨Tryz.prog,41,[],[]⟩ rfl Tryz.func42 rfl rfl (lb_ rfl) (by kernel_rfl) ?_
 unfold jq at hF
 refine ai (aa .nil (ah (ai (aa .nil (ah (ak (ai (aa (vL Beat.enc l_1) (bN un28 rfl wz (aa (vI 0) (ah (mh (λn_10 => ?_)))))))))))))
 obtain ⟨o_15,hj_16,hF⟩:=bind_some hF
 obtain ⟨hn_8,hj_16⟩:=bv hj_16
 refine iM (σ:=(List Beat_)) (N:=Nm) (λp=>(λ(s_9:List Beat_) (n_12:Nm)=>([(7,(gV n_12 2 s_9))]:SL_)) p.1 p.2) (λp=>(λ(s_9:List Beat_) (n_12:Nm)=>([(n_12,gB 2 Beat_.enc s_9)]:Hp)) p.1 p.2) (λ(k_4:Nat)=>(λp=>(λ(s_9:List Beat_) (n_12:Nm)=>([(1,(vS player_2)),(2,(vB back_3)),(7,(gV n_12 2 s_9)),(10,(vL Beat.enc l_1)),(11,(vI (l_1.length:Int))),(12,(vI (k_4:Int)))]:SL_)) p.1 p.2)) (λk x s=>iy player_2 back_3 k x s) o_15 l_1 (([]:List Beat_),n_10) hj_16 rfl (aK rfl) ?_ ?_
 ·rintro ⟨k_4,l_5,s_9,n_12⟩ ⟨hL_14,hD_7⟩
  dsimp only at hL_14 hD_7
  cases l_5 with
  | nil =>
   obtain rfl:=ae hL_14
   refine ai (aa (vB (decide ((k_4:Int)<(l_1.length:Int)))) (ah ?_))
   refine ak (ax rfl (drop_nil hD_7) (bf ?_))
   exact aY (s_9,n_12) rfl rfl (aK rfl)
  | cons x_6 l_5 =>
   obtain ⟨c_,hc_13,hL_14⟩:=bind_some hL_14
   refine ai (aa (vB (decide ((k_4:Int)<(l_1.length:Int)))) (ah ?_))
   refine ak (aA rfl (bA hD_7) (av ?_))
   unfold iy at hc_13
   refine ak (aQ (ai (dB KQ rfl rfl (bK hD_7) rfl wz (bH Ka ag53 rfl (.d (.agg (Beat.enc x_6))) rfl wz (di 0 (.inl rfl) z53 rfl wz (λn_17=>gu 0 il ft 1 Ka rfl rfl (Beat.v x_6) rfl wz (ah (aQ (ai (aH zy rfl 0 rfl wz (aG 0 1 il ft sz9 ag9 rfl rfl (vS x_6.Player) rfl wz (aa (vS player_2) (aa (vB (sNe x_6.Player player_2)) (aa (vB (sNe x_6.Player player_2)) (ah ?_)))))))))))))))
   obtain ⟨v_18,h_19,hc_13⟩:=bind_some hc_13
   refine jU (β:=Nm) (λ(n_20:Nm)=>([(1,(vS player_2)),(2,(vB back_3)),(7,(gV n_20 2 v_18)),(10,(vL Beat.enc l_1)),(11,(vI (l_1.length:Int))),(12,(vI (k_4:Int)))]:SL_)) (λ(n_20:Nm)=>([(n_20,gB 2 Beat_.enc v_18),(n_17,some (.cells 3 (Beat.v x_6)))]:Hp)) (λ_=>True) ?_ ?_
   ·rcases aj h_19 with⟨hc_21,h_19⟩|⟨hc_21,h_19⟩
    ·refine aA rfl hc_21 (av ?_)
     obtain rfl:=ae h_19
     exact aY n_12 trivial rfl (aK rfl)
    ·refine ax rfl hc_21 (ai (aa (vB back_3) (aa (vB back_3) (ah ?_))))
     rcases aj h_19 with⟨hc_22,h_19⟩|⟨hc_22,h_19⟩
     ·refine aA rfl hc_22 (au (aa (gV n_12 2 s_9) (aH Cn rfl 1 rfl wz (aG 0 1 il ft sz3 ag3 rfl rfl (vI x_6.At) rfl wz (aH Ee rfl 2 rfl wz (aG 0 1 il ft sz3 ag3 rfl rfl (vI x_6.Clock) rfl wz (aJ (.d (.agg (Beat_.enc (⟨x_6.At,x_6.Clock⟩:Beat_)))) wz (by kernel_rfl) (fq (([(⟨x_6.At,x_6.Clock⟩:Beat_)]:List Beat_).map Beat_.enc) FT ez99 rfl rfl rfl rfl rfl wz ?_))))))))
      obtain ⟨a_23,hz_24,h_19⟩:=bind_some h_19
      refine jL 0 il ft (i:=0) el99 el99 EX z130 rfl (by decide) by130 (by decide) (λ_=>rfl) rfl rfl rfl hz_24 wz (λn_25=>aa (gV n_25 2 a_23) (ah ?_))
      obtain rfl:=ae h_19
      exact aY n_25 trivial rfl (aK rfl)
     ·refine ax rfl hc_22 (au (aa (gV n_12 2 s_9) (aH Ee rfl 2 rfl wz (aG 0 1 il ft sz3 ag3 rfl rfl (vI x_6.Clock) rfl wz (aH Cn rfl 1 rfl wz (aG 0 1 il ft sz3 ag3 rfl rfl (vI x_6.At) rfl wz (aJ (.d (.agg (Beat_.enc (⟨x_6.Clock,x_6.At⟩:Beat_)))) wz (by kernel_rfl) (fq (([(⟨x_6.Clock,x_6.At⟩:Beat_)]:List Beat_).map Beat_.enc) FT ez99 rfl rfl rfl rfl rfl wz ?_))))))))
      obtain ⟨a_26,hz_27,h_19⟩:=bind_some h_19
      refine jL 0 il ft (i:=0) el99 el99 EX z130 rfl (by decide) by130 (by decide) (λ_=>rfl) rfl rfl rfl hz_27 wz (λn_28=>aa (gV n_28 2 a_26) (ah ?_))
      obtain rfl:=ae h_19
      exact aY n_28 trivial rfl (aK rfl)
   ·rintro n_20 _ sl_ H_ hp_ hq_
    refine aR _ hp_ hq_ (au (fw (bE hD_7 hn_8) wz rfl (aa (vI ((k_4+1:Nat):Int)) (ah ?_))))
    obtain rfl:=ae hc_13
    exact aZ (k_4+1,l_5,v_18,n_20) ⟨hL_14,aX hD_7⟩ (ls_ _) rfl (aK rfl)
 ·rintro ⟨s_9,n_12⟩ ho_ sl_ H_ hp_ hq_
  subst ho_
  refine aR _ hp_ hq_ (ai (aa (gV n_12 2 s_9) (aa (gV n_12 2 s_9) (ah (gJ 0 rfl (bZ 6 0 rfl rfl (bZ 7 0 rfl rfl (bZ 40 0 rfl rfl ?_))))))))
  obtain rfl:=ae hF
  exact ay (aM [(vL Beat_.enc s_9)] ⟨rfl,trivial⟩)
end Go.Proofs.YtnfojnnfidnikaaGreatDoor.Law

