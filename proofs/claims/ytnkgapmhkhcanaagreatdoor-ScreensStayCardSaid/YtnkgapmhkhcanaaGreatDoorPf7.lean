/-
 The machine computes these plain functions (written by a program of ours).
-/
import Derived.Test.YtnkgapmhkhcanaaGreatDoorFacts
import Derived.Test.YtnkgapmhkhcanaaGreatDoorDefs
import Derived.Test.YtnkgapmhkhcanaaGreatDoorPf6
open Go Go.Eng Go.Proofs
namespace Go.Proofs.YtnkgapmhkhcanaaGreatDoor.Law
set_option maxRecDepth 100000
set_option linter.unusedVariables false
set_option maxHeartbeats 1000000
theorem yz {l_1:(List Int)} {r:Bool} (hF:mM l_1=some r) :
  FnM Tryz.prog 3 [(vL eI l_1)] [] (vB r) []:=by
 refine FnM.of_wH ⟨Tryz.prog,99,[],[]⟩ rfl Tryz.func3 rfl rfl (lb_ rfl) (by kernel_rfl) ?_
 unfold mM at hF
 refine ai (aa (vB false) (ah (ai (aa (vL eI l_1) (aI (.d (.agg (Stream.enc (⟨l_1,0⟩:Stream)))) wz (by kernel_rfl) (dY 0 (.inl rfl) [(vL eI l_1),(vI 0)] rfl rfl wz (λn_2=>aa (vL eI l_1) (aI (.d (.agg (Stream.enc (⟨l_1,0⟩:Stream)))) wz (by kernel_rfl) (dY 0 (.inl rfl) [(vL eI l_1),(vI 0)] rfl rfl wz (λn_3=>aa (.ref n_2 0 0) (aa (.ref n_3 0 0) (ah (ai (aa (.ref n_2 0 0) ?_))))))))))))))
 obtain ⟨r_4,hr_5,hF⟩:=bind_some hF
 refine eB 0 [0] il ft (iU hr_5) rfl hb4 rfl (by kernel_rfl) (by kernel_rfl) (by kernel_rfl) (by kernel_rfl) (by kernel_rfl) (by kernel_rfl) (by kernel_rfl) (by decide) (by kernel_rfl) wz (.d (.agg (Rect.enc r_4.1))) (by kernel_rfl) ([(n_2,some (.cells 2 [(vL eI r_4.2.L),(vI r_4.2.f_at)])),(n_3,some (.cells 2 [(vL eI l_1),(vI 0)]))]:Hp) (by kernel_rfl) (aa (.ref n_2 0 0) ?_)
 obtain ⟨r_7,hr_8,hF⟩:=bind_some hF
 refine eB 0 [0] il ft (iU hr_8) rfl hb4 rfl (by kernel_rfl) (by kernel_rfl) (by kernel_rfl) (by kernel_rfl) (by kernel_rfl) (by kernel_rfl) (by kernel_rfl) (by decide) (by kernel_rfl) wz (.d (.agg (Rect.enc r_7.1))) (by kernel_rfl) ([(n_2,some (.cells 2 [(vL eI r_7.2.L),(vI r_7.2.f_at)])),(n_3,some (.cells 2 [(vL eI l_1),(vI 0)]))]:Hp) (by kernel_rfl) (fI (([r_4.1,r_7.1]:List Rect).map Rect.enc) tO FI rfl rfl rfl rfl rfl wz (aa (.ref n_2 0 0) ?_))
 obtain ⟨r_10,hr_11,hF⟩:=bind_some hF
 refine eB 0 [0] il ft (o8 hr_11) rfl hb5 rfl (by kernel_rfl) (by kernel_rfl) (by kernel_rfl) (by kernel_rfl) (by kernel_rfl) (by kernel_rfl) (by kernel_rfl) (by decide) (by kernel_rfl) wz (.d (.agg (Wall.enc r_10.1))) (by kernel_rfl) ([(n_2,some (.cells 2 [(vL eI r_10.2.L),(vI r_10.2.f_at)])),(n_3,some (.cells 2 [(vL eI l_1),(vI 0)]))]:Hp) (by kernel_rfl) (aa (.ref n_2 0 0) ?_)
 obtain ⟨r_13,hr_14,hF⟩:=bind_some hF
 refine eB 0 [0] il ft (nG hr_14) rfl hb6 rfl (by kernel_rfl) (by kernel_rfl) (by kernel_rfl) (by kernel_rfl) (by kernel_rfl) (by kernel_rfl) (by kernel_rfl) (by decide) (by kernel_rfl) wz (.d (.agg (Layout.enc r_13.1))) (by kernel_rfl) ([(n_2,some (.cells 2 [(vL eI r_13.2.L),(vI r_13.2.f_at)])),(n_3,some (.cells 2 [(vL eI l_1),(vI 0)]))]:Hp) (by kernel_rfl) (bf 0 (.inl rfl) z32 rfl wz (λn_16=>bf 0 (.inl rfl) z36 rfl wz (λn_17=>aa (vL Rect.enc ([r_4.1,r_7.1]:List Rect)) (cz 0 il ft 2 xC rfl rfl (Wall.v r_10.1) rfl wz (cz 0 il ft 3 xe rfl rfl (Layout.v r_13.1) rfl wz (ah (ai (aa (.ref n_3 0 0) ?_))))))))
 obtain ⟨r_18,hr_19,hF⟩:=bind_some hF
 refine eB 0 [1] il ft (iU hr_19) rfl hb4 rfl (by kernel_rfl) (by kernel_rfl) (by kernel_rfl) (by kernel_rfl) (by kernel_rfl) (by kernel_rfl) (by kernel_rfl) (by decide) (by kernel_rfl) wz (.d (.agg (Rect.enc r_18.1))) (by kernel_rfl) ([(n_2,some (.cells 2 [(vL eI r_13.2.L),(vI r_13.2.f_at)])),(n_3,some (.cells 2 [(vL eI r_18.2.L),(vI r_18.2.f_at)])),(n_16,some (.cells 4 (Wall.v r_10.1))),(n_17,some (.cells 4 (Layout.v r_13.1)))]:Hp) (by kernel_rfl) (aa (.ref n_3 0 0) ?_)
 obtain ⟨r_21,hr_22,hF⟩:=bind_some hF
 refine eB 0 [1] il ft (iU hr_22) rfl hb4 rfl (by kernel_rfl) (by kernel_rfl) (by kernel_rfl) (by kernel_rfl) (by kernel_rfl) (by kernel_rfl) (by kernel_rfl) (by decide) (by kernel_rfl) wz (.d (.agg (Rect.enc r_21.1))) (by kernel_rfl) ([(n_2,some (.cells 2 [(vL eI r_13.2.L),(vI r_13.2.f_at)])),(n_3,some (.cells 2 [(vL eI r_21.2.L),(vI r_21.2.f_at)])),(n_16,some (.cells 4 (Wall.v r_10.1))),(n_17,some (.cells 4 (Layout.v r_13.1)))]:Hp) (by kernel_rfl) (fI (([r_18.1,r_21.1]:List Rect).map Rect.enc) tO FI rfl rfl rfl rfl rfl wz (aa (.ref n_3 0 0) ?_))
 obtain ⟨r_24,hr_25,hF⟩:=bind_some hF
 refine eB 0 [1] il ft (o8 hr_25) rfl hb5 rfl (by kernel_rfl) (by kernel_rfl) (by kernel_rfl) (by kernel_rfl) (by kernel_rfl) (by kernel_rfl) (by kernel_rfl) (by decide) (by kernel_rfl) wz (.d (.agg (Wall.enc r_24.1))) (by kernel_rfl) ([(n_2,some (.cells 2 [(vL eI r_13.2.L),(vI r_13.2.f_at)])),(n_3,some (.cells 2 [(vL eI r_24.2.L),(vI r_24.2.f_at)])),(n_16,some (.cells 4 (Wall.v r_10.1))),(n_17,some (.cells 4 (Layout.v r_13.1)))]:Hp) (by kernel_rfl) (aa (.ref n_3 0 0) ?_)
 obtain ⟨r_27,hr_28,hF⟩:=bind_some hF
 refine eB 0 [1] il ft (nG hr_28) rfl hb6 rfl (by kernel_rfl) (by kernel_rfl) (by kernel_rfl) (by kernel_rfl) (by kernel_rfl) (by kernel_rfl) (by kernel_rfl) (by decide) (by kernel_rfl) wz (.d (.agg (Layout.enc r_27.1))) (by kernel_rfl) ([(n_2,some (.cells 2 [(vL eI r_13.2.L),(vI r_13.2.f_at)])),(n_3,some (.cells 2 [(vL eI r_27.2.L),(vI r_27.2.f_at)])),(n_16,some (.cells 4 (Wall.v r_10.1))),(n_17,some (.cells 4 (Layout.v r_13.1)))]:Hp) (by kernel_rfl) (bf 0 (.inl rfl) z32 rfl wz (λn_30=>bf 0 (.inl rfl) z36 rfl wz (λn_31=>aa (vL Rect.enc ([r_18.1,r_21.1]:List Rect)) (cz 0 il ft 4 xC rfl rfl (Wall.v r_24.1) rfl wz (cz 0 il ft 5 xe rfl rfl (Layout.v r_27.1) rfl wz (ah (aM (H0:=([(n_2,some (.cells 2 [(vL eI r_13.2.L),(vI r_13.2.f_at)])),(n_3,some (.cells 2 [(vL eI r_27.2.L),(vI r_27.2.f_at)])),(n_16,some (.cells 4 (Wall.v r_10.1))),(n_17,some (.cells 4 (Layout.v r_13.1))),(n_30,some (.cells 4 (Wall.v r_24.1))),(n_31,some (.cells 4 (Layout.v r_27.1)))]:Hp)) ([(5,(vL Rect.enc ([r_4.1,r_7.1]:List Rect))),(6,(.ref n_16 0 0)),(7,(.ref n_17 0 0)),(8,(vL Rect.enc ([r_18.1,r_21.1]:List Rect))),(9,(.ref n_30 0 0)),(10,(.ref n_31 0 0))]:SL_) (by kernel_rfl) (oF (by kernel_rfl)) (ai (aa (vL Rect.enc ([r_4.1,r_7.1]:List Rect)) ?_)))))))))
 obtain ⟨r_32,hr_33,hF⟩:=bind_some hF
 refine ve [.int .i64 r_32.2] [] (yG hr_33) rfl hb7 rfl (by kernel_rfl) (by kernel_rfl) (by kernel_rfl) (by kernel_rfl) (by kernel_rfl) rfl (by decide) (by kernel_rfl) wz ([(n_2,some (.cells 2 [(vL eI r_13.2.L),(vI r_13.2.f_at)])),(n_3,some (.cells 2 [(vL eI r_27.2.L),(vI r_27.2.f_at)])),(n_16,some (.cells 4 (Wall.v r_10.1))),(n_17,some (.cells 4 (Layout.v r_13.1))),(n_30,some (.cells 4 (Wall.v r_24.1))),(n_31,some (.cells 4 (Layout.v r_27.1)))]:Hp) (λ_=>by kernel_rfl) (λn_35=>aa (.tup [(gV n_35 4 r_32.1),(vI r_32.2)]) (aa (gV n_35 4 r_32.1) (aa (vI r_32.2) (aa (gV n_35 4 r_32.1) (aa (vI r_32.2) (ah (ai (aa (gV n_35 4 r_32.1) ?_))))))))
 obtain ⟨r_36,hr_37,hF⟩:=bind_some hF
 obtain ⟨_,hs_38,hF⟩:=bind_some hF
 replace hs_38:=nM hs_38
 refine nP 0 [] 6 0 il ft (jB hr_37) rfl hb8 rfl rfl rfl (by kernel_rfl) rfl (.inl rfl) rfl (by kernel_rfl) (by kernel_rfl) (by kernel_rfl) (by kernel_rfl) rfl (by decide) (by kernel_rfl) pz (yT hs_38) wz ([(n_2,some (.cells 2 [(vL eI r_13.2.L),(vI r_13.2.f_at)])),(n_3,some (.cells 2 [(vL eI r_27.2.L),(vI r_27.2.f_at)])),(n_16,some (.cells 4 (Wall.v r_10.1))),(n_17,some (.cells 4 (Layout.v r_13.1))),(n_30,some (.cells 4 (Wall.v r_24.1))),(n_31,some (.cells 4 (Layout.v r_27.1))),(n_35,gB 4 Rect.enc r_36)]:Hp) (by kernel_rfl) (gP (v':=(gV n_35 4 r_36)) 11 rfl (iq hs_38.symm) (gP (v':=(gV n_35 4 r_36)) 48 rfl (iq hs_38.symm) (gP (v':=(gV n_35 4 r_36)) 50 rfl (iq hs_38.symm) (ah (ai (aa (vL Rect.enc ([r_4.1,r_7.1]:List Rect)) ?_))))))
 obtain ⟨r_39,hr_40,hF⟩:=bind_some hF
 refine ve [.int .i64 r_39.2] [] (xO hr_40) rfl hb9 rfl (by kernel_rfl) (by kernel_rfl) (by kernel_rfl) (by kernel_rfl) (by kernel_rfl) rfl (by decide) (by kernel_rfl) wz ([(n_2,some (.cells 2 [(vL eI r_13.2.L),(vI r_13.2.f_at)])),(n_3,some (.cells 2 [(vL eI r_27.2.L),(vI r_27.2.f_at)])),(n_16,some (.cells 4 (Wall.v r_10.1))),(n_17,some (.cells 4 (Layout.v r_13.1))),(n_30,some (.cells 4 (Wall.v r_24.1))),(n_31,some (.cells 4 (Layout.v r_27.1))),(n_35,gB 4 Rect.enc r_36)]:Hp) (λ_=>by kernel_rfl) (λn_42=>aa (.tup [(gV n_42 4 r_39.1),(vI r_39.2)]) (aa (gV n_42 4 r_39.1) (aa (vI r_39.2) (aa (gV n_42 4 r_39.1) (aa (vI r_39.2) (ah (ai (aa (gV n_42 4 r_39.1) ?_))))))))
 obtain ⟨r_43,hr_44,hF⟩:=bind_some hF
 obtain ⟨_,hs_45,hF⟩:=bind_some hF
 replace hs_45:=nM hs_45
 refine nP 0 [] 7 0 il ft (jB hr_44) rfl hb8 rfl rfl rfl (by kernel_rfl) rfl (.inl rfl) rfl (by kernel_rfl) (by kernel_rfl) (by kernel_rfl) (by kernel_rfl) rfl (by decide) (by kernel_rfl) pz (yT hs_45) wz ([(n_2,some (.cells 2 [(vL eI r_13.2.L),(vI r_13.2.f_at)])),(n_3,some (.cells 2 [(vL eI r_27.2.L),(vI r_27.2.f_at)])),(n_16,some (.cells 4 (Wall.v r_10.1))),(n_17,some (.cells 4 (Layout.v r_13.1))),(n_30,some (.cells 4 (Wall.v r_24.1))),(n_31,some (.cells 4 (Layout.v r_27.1))),(n_35,gB 4 Rect.enc r_36),(n_42,gB 4 Rect.enc r_43)]:Hp) (by kernel_rfl) (gP (v':=(gV n_42 4 r_43)) 13 rfl (iq hs_45.symm) (gP (v':=(gV n_42 4 r_43)) 55 rfl (iq hs_45.symm) (gP (v':=(gV n_42 4 r_43)) 57 rfl (iq hs_45.symm) (ah (ai (av 0 2 il ft xC EA rfl rfl (.d (.agg (Wall.enc r_10.1))) rfl wz ?_))))))
 obtain ⟨r_46,hr_47,hF⟩:=bind_some hF
 refine ve [.int .i64 r_46.2] [] (Ah hr_47) rfl hb10 rfl (by kernel_rfl) (by kernel_rfl) (by kernel_rfl) (by kernel_rfl) (by kernel_rfl) rfl (by decide) (by kernel_rfl) wz ([(n_2,some (.cells 2 [(vL eI r_13.2.L),(vI r_13.2.f_at)])),(n_3,some (.cells 2 [(vL eI r_27.2.L),(vI r_27.2.f_at)])),(n_16,some (.cells 4 (Wall.v r_10.1))),(n_17,some (.cells 4 (Layout.v r_13.1))),(n_30,some (.cells 4 (Wall.v r_24.1))),(n_31,some (.cells 4 (Layout.v r_27.1))),(n_35,gB 4 Rect.enc r_36),(n_42,gB 4 Rect.enc r_43)]:Hp) (λ_=>by kernel_rfl) (λn_49=>aa (.tup [(gV n_49 4 r_46.1),(vI r_46.2)]) (aa (gV n_49 4 r_46.1) (aa (vI r_46.2) (aa (gV n_49 4 r_46.1) (aa (vI r_46.2) (ah (ai (aa (gV n_49 4 r_46.1) ?_))))))))
 obtain ⟨r_50,hr_51,hF⟩:=bind_some hF
 obtain ⟨_,hs_52,hF⟩:=bind_some hF
 replace hs_52:=nM hs_52
 refine nP 0 [] 8 0 il ft (jB hr_51) rfl hb8 rfl rfl rfl (by kernel_rfl) rfl (.inl rfl) rfl (by kernel_rfl) (by kernel_rfl) (by kernel_rfl) (by kernel_rfl) rfl (by decide) (by kernel_rfl) pz (yT hs_52) wz ([(n_2,some (.cells 2 [(vL eI r_13.2.L),(vI r_13.2.f_at)])),(n_3,some (.cells 2 [(vL eI r_27.2.L),(vI r_27.2.f_at)])),(n_16,some (.cells 4 (Wall.v r_10.1))),(n_17,some (.cells 4 (Layout.v r_13.1))),(n_30,some (.cells 4 (Wall.v r_24.1))),(n_31,some (.cells 4 (Layout.v r_27.1))),(n_35,gB 4 Rect.enc r_36),(n_42,gB 4 Rect.enc r_43),(n_49,gB 4 Rect.enc r_50)]:Hp) (by kernel_rfl) (gP (v':=(gV n_49 4 r_50)) 15 rfl (iq hs_52.symm) (gP (v':=(gV n_49 4 r_50)) 62 rfl (iq hs_52.symm) (gP (v':=(gV n_49 4 r_50)) 64 rfl (iq hs_52.symm) (ah (ai (av 0 3 il ft xe BD rfl rfl (.d (.agg (Layout.enc r_13.1))) rfl wz ?_))))))
 obtain ⟨r_53,hr_54,hF⟩:=bind_some hF
 refine ve [.int .i64 r_53.2] [] (CQ hr_54) rfl hb11 rfl (by kernel_rfl) (by kernel_rfl) (by kernel_rfl) (by kernel_rfl) (by kernel_rfl) rfl (by decide) (by kernel_rfl) wz ([(n_2,some (.cells 2 [(vL eI r_13.2.L),(vI r_13.2.f_at)])),(n_3,some (.cells 2 [(vL eI r_27.2.L),(vI r_27.2.f_at)])),(n_16,some (.cells 4 (Wall.v r_10.1))),(n_17,some (.cells 4 (Layout.v r_13.1))),(n_30,some (.cells 4 (Wall.v r_24.1))),(n_31,some (.cells 4 (Layout.v r_27.1))),(n_35,gB 4 Rect.enc r_36),(n_42,gB 4 Rect.enc r_43),(n_49,gB 4 Rect.enc r_50)]:Hp) (λ_=>by kernel_rfl) (λn_56=>aa (.tup [(gV n_56 5 r_53.1),(vI r_53.2)]) (aa (gV n_56 5 r_53.1) (aa (vI r_53.2) (aa (gV n_56 5 r_53.1) (aa (vI r_53.2) (ah (aM (H0:=([(n_2,some (.cells 2 [(vL eI r_13.2.L),(vI r_13.2.f_at)])),(n_3,some (.cells 2 [(vL eI r_27.2.L),(vI r_27.2.f_at)])),(n_16,some (.cells 4 (Wall.v r_10.1))),(n_17,some (.cells 4 (Layout.v r_13.1))),(n_30,some (.cells 4 (Wall.v r_24.1))),(n_31,some (.cells 4 (Layout.v r_27.1))),(n_35,gB 4 Rect.enc r_36),(n_42,gB 4 Rect.enc r_43),(n_49,gB 4 Rect.enc r_50),(n_56,gB 5 Piece.enc r_53.1)]:Hp)) ([(5,(vL Rect.enc ([r_4.1,r_7.1]:List Rect))),(6,(.ref n_16 0 0)),(7,(.ref n_17 0 0)),(8,(vL Rect.enc ([r_18.1,r_21.1]:List Rect))),(9,(.ref n_30 0 0)),(10,(.ref n_31 0 0)),(17,(gV n_56 5 r_53.1))]:SL_) (by kernel_rfl) (oF (by kernel_rfl)) (ai (aa (gV n_56 5 r_53.1) ?_)))))))))
 obtain ⟨r_57,hr_58,hF⟩:=bind_some hF
 obtain ⟨_,hs_59,hF⟩:=bind_some hF
 replace hs_59:=nM hs_59
 refine nP 0 [] 9 0 il ft (sQ hr_58) rfl hb12 rfl rfl rfl (by kernel_rfl) rfl (.inl rfl) rfl (by kernel_rfl) (by kernel_rfl) (by kernel_rfl) (by kernel_rfl) rfl (by decide) (by kernel_rfl) pz (yT hs_59) wz ([(n_2,some (.cells 2 [(vL eI r_13.2.L),(vI r_13.2.f_at)])),(n_3,some (.cells 2 [(vL eI r_27.2.L),(vI r_27.2.f_at)])),(n_16,some (.cells 4 (Wall.v r_10.1))),(n_17,some (.cells 4 (Layout.v r_13.1))),(n_30,some (.cells 4 (Wall.v r_24.1))),(n_31,some (.cells 4 (Layout.v r_27.1))),(n_35,gB 4 Rect.enc r_36),(n_42,gB 4 Rect.enc r_43),(n_49,gB 4 Rect.enc r_50),(n_56,gB 5 Piece.enc r_57)]:Hp) (by kernel_rfl) (gP (v':=(gV n_56 5 r_57)) 17 rfl (iq hs_59.symm) (gP (v':=(gV n_56 5 r_57)) 71 rfl (iq hs_59.symm) (ah (ai (av 0 2 il ft xC EA rfl rfl (.d (.agg (Wall.enc r_10.1))) rfl wz (av 0 3 il ft xe BD rfl rfl (.d (.agg (Layout.enc r_13.1))) rfl wz ?_))))))
 obtain ⟨r_60,hr_61,hF⟩:=bind_some hF
 refine ve [.int .i64 r_60.2] [] (Bq hr_61) rfl hb13 rfl (by kernel_rfl) (by kernel_rfl) (by kernel_rfl) (by kernel_rfl) (by kernel_rfl) rfl (by decide) (by kernel_rfl) wz ([(n_2,some (.cells 2 [(vL eI r_13.2.L),(vI r_13.2.f_at)])),(n_3,some (.cells 2 [(vL eI r_27.2.L),(vI r_27.2.f_at)])),(n_16,some (.cells 4 (Wall.v r_10.1))),(n_17,some (.cells 4 (Layout.v r_13.1))),(n_30,some (.cells 4 (Wall.v r_24.1))),(n_31,some (.cells 4 (Layout.v r_27.1))),(n_35,gB 4 Rect.enc r_36),(n_42,gB 4 Rect.enc r_43),(n_49,gB 4 Rect.enc r_50),(n_56,gB 5 Piece.enc r_57)]:Hp) (λ_=>by kernel_rfl) (λn_63=>aa (.tup [(gV n_63 6 r_60.1),(vI r_60.2)]) (aa (gV n_63 6 r_60.1) (aa (vI r_60.2) (aa (gV n_63 6 r_60.1) (aa (vI r_60.2) (ah (ai (aa (gV n_63 6 r_60.1) ?_))))))))
 obtain ⟨r_64,hr_65,hF⟩:=bind_some hF
 obtain ⟨_,hs_66,hF⟩:=bind_some hF
 replace hs_66:=nM hs_66
 refine nP 0 [] 10 0 il ft (tN hr_65) rfl hb14 rfl rfl rfl (by kernel_rfl) rfl (.inl rfl) rfl (by kernel_rfl) (by kernel_rfl) (by kernel_rfl) (by kernel_rfl) rfl (by decide) (by kernel_rfl) pz (yT hs_66) wz ([(n_2,some (.cells 2 [(vL eI r_13.2.L),(vI r_13.2.f_at)])),(n_3,some (.cells 2 [(vL eI r_27.2.L),(vI r_27.2.f_at)])),(n_16,some (.cells 4 (Wall.v r_10.1))),(n_17,some (.cells 4 (Layout.v r_13.1))),(n_30,some (.cells 4 (Wall.v r_24.1))),(n_31,some (.cells 4 (Layout.v r_27.1))),(n_35,gB 4 Rect.enc r_36),(n_42,gB 4 Rect.enc r_43),(n_49,gB 4 Rect.enc r_50),(n_56,gB 5 Piece.enc r_57),(n_63,gB 6 View.enc r_64)]:Hp) (by kernel_rfl) (gP (v':=(gV n_63 6 r_64)) 19 rfl (iq hs_66.symm) (gP (v':=(gV n_63 6 r_64)) 77 rfl (iq hs_66.symm) (gP (v':=(gV n_63 6 r_64)) 79 rfl (iq hs_66.symm) (ah (ak ?_)))))
 obtain ⟨v_67,h_68,hF⟩:=bind_some hF
 refine aP [(2,(vB v_67))] [(n_2,some (.cells 2 [(vL eI r_13.2.L),(vI r_13.2.f_at)])),(n_3,some (.cells 2 [(vL eI r_27.2.L),(vI r_27.2.f_at)])),(n_16,some (.cells 4 (Wall.v r_10.1))),(n_17,some (.cells 4 (Layout.v r_13.1))),(n_30,some (.cells 4 (Wall.v r_24.1))),(n_31,some (.cells 4 (Layout.v r_27.1))),(n_35,gB 4 Rect.enc r_36),(n_42,gB 4 Rect.enc r_43),(n_49,gB 4 Rect.enc r_50),(n_56,gB 5 Piece.enc r_57),(n_63,gB 6 View.enc r_64)] ?_ ?_
 ·refine au (aa (vL Rect.enc ([r_4.1,r_7.1]:List Rect)) (aa (vL Rect.enc ([r_18.1,r_21.1]:List Rect)) ?_))
  obtain ⟨r_69,hr_70,h_68⟩:=bind_some h_68
  refine aD (oD hr_70) rfl hb15 rfl rfl rfl rfl wz ?_
  rcases aj h_68 with⟨hc_71,h_68⟩|⟨hc_71,h_68⟩
  ·refine aF rfl hc_71 wz (ay nY rfl 3 rfl wa (av 0 2 il ft zC Am rfl rfl (vL Screen.enc r_10.1.Screens) rfl wa (ay nY rfl 3 rfl wa (av 0 4 il ft zC Am rfl rfl (vL Screen.enc r_24.1.Screens) rfl wa ?_))))
   obtain ⟨r_72,hr_73,h_68⟩:=bind_some h_68
   refine aD (mQ hr_73) rfl hb16 rfl rfl rfl rfl wa (aa (vB r_72) ?_)
   rcases aj h_68 with⟨hc_74,h_68⟩|⟨hc_74,h_68⟩
   ·refine aF rfl hc_74 wz (av 0 3 il ft xe BD rfl rfl (.d (.agg (Layout.enc r_13.1))) rfl wa (av 0 5 il ft xe BD rfl rfl (.d (.agg (Layout.enc r_27.1))) rfl wa ?_))
    obtain ⟨r_75,hr_76,h_68⟩:=bind_some h_68
    refine aD (AB hr_76) rfl hb17 rfl rfl rfl rfl wa (aa (vB r_75) ?_)
    rcases aj h_68 with⟨hc_77,h_68⟩|⟨hc_77,h_68⟩
    ·refine aF rfl hc_77 wz ?_
     obtain ⟨r_78,hr_79,h_68⟩:=bind_some h_68
     refine aD (FP hr_79) rfl hb18 rfl rfl rfl rfl wa (aa (vB r_78) (aa (vB r_78) (ah ?_)))
     obtain rfl:=ae h_68
     exact cu
    ·refine aF rfl hc_77 wz (af (aa (vB false) (aa (vB false) (ah ?_))))
     obtain rfl:=ae h_68
     exact cu
   ·refine aF rfl hc_74 wz (af (af (af (aa (vB false) (aa (vB false) (af (aa (vB false) (aa (vB false) (ah ?_)))))))))
    obtain rfl:=ae h_68
    exact cu
  ·refine aF rfl hc_71 wz (af (af (af (af (af (aa (vB false) (aa (vB false) (af (af (af (aa (vB false) (aa (vB false) (af (aa (vB false) (aa (vB false) (ah ?_))))))))))))))))
   obtain rfl:=ae h_68
   exact cu
 ·rintro ⟨⟩ _ sl_ H_ hp_ hq_
  refine aM _ hp_ hq_ ?_
  obtain rfl:=ae hF
  exact aA (aK [(vB v_67)] ⟨rfl,trivial⟩)
end Go.Proofs.YtnkgapmhkhcanaaGreatDoor.Law

