/-
 The machine computes these plain functions (written by a program of ours).
-/
import Derived.Test.YtnjnggakgeommaaGreatDoorFacts
import Derived.Test.YtnjnggakgeommaaGreatDoorDefs
import Derived.Test.YtnjnggakgeommaaGreatDoorPf1
open Go Go.Eng Go.Proofs
namespace Go.Proofs.YtnjnggakgeommaaGreatDoor.Law
set_option maxRecDepth 100000
set_option linter.unusedVariables false
set_option maxHeartbeats 1000000
theorem qN {s_1:Stream} {r:Player×Stream} (hF:gQ s_1=some r) :
  FnM Tryz.prog 7 [(.ref (av 0) 0 0)] [(.cells 2 [(vL eI s_1.L),(vI s_1.f_at)])] (.d (.agg (Player.enc r.1))) [some (.cells 2 [(vL eI r.2.L),(vI r.2.f_at)])]:=by
 refine FnM.of_wH ⟨Tryz.prog,25,[],[]⟩ rfl Tryz.func7 rfl rfl (lb_ rfl) (by kernel_rfl) ?_
 unfold gQ at hF
 refine ah (aa (fP 0 (.inl rfl) z30 rfl wz (λn_2=>ak (ah (aa (ae (.ref (av 0) 0 0) wz rfl ?_))))))
 obtain ⟨r_3,hr_4,hF⟩:=bind_some hF
 refine aY 0 [0] il ft (ni hr_4) rfl hb43 rfl (by kernel_rfl) (by kernel_rfl) (by kernel_rfl) (by kernel_rfl) (by kernel_rfl) (by kernel_rfl) (by kernel_rfl) (by decide) (by kernel_rfl) wz (.d (.agg (Player.enc r_3.1))) (by kernel_rfl) ([((av 0),some (.cells 2 [(vL eI r_3.2.L),(vI r_3.2.f_at)])),(n_2,some (.cells 4 [(vS (⟨#[]⟩:ByteArray)),(vS (⟨#[]⟩:ByteArray)),(vI 0),.nil]))]:Hp) (by kernel_rfl) (fP 0 (.inl rfl) z30 rfl wz (λn_6=>gz 0 il ft 2 x9 rfl rfl [(vS r_3.1.Key),(vS r_3.1.Screen),(vI r_3.1.Zone),(vL eS r_3.1.Tags)] rfl wz (ak (ah (ah (aa (ae (.ref (av 0) 0 0) wz rfl ?_)))))))
 obtain ⟨r_7,hr_8,hF⟩:=bind_some hF
 refine aY 0 [0] il ft (di hr_8) rfl hb8 rfl (by kernel_rfl) (by kernel_rfl) (by kernel_rfl) (by kernel_rfl) (by kernel_rfl) (by kernel_rfl) (by kernel_rfl) (by decide) (by kernel_rfl) wz (vB r_7.1) (by kernel_rfl) ([((av 0),some (.cells 2 [(vL eI r_7.2.L),(vI r_7.2.f_at)])),(n_2,some (.cells 4 [(vS (⟨#[]⟩:ByteArray)),(vS (⟨#[]⟩:ByteArray)),(vI 0),.nil])),(n_6,some (.cells 4 [(vS r_3.1.Key),(vS r_3.1.Screen),(vI r_3.1.Zone),(vL eS r_3.1.Tags)]))]:Hp) (by kernel_rfl) (ak ?_)
 obtain ⟨v_10,h_11,hF⟩:=bind_some hF
 refine aJ (β:=Unit) (λ_=>([(2,(.ref n_2 0 0)),(3,(.ref n_6 0 0))]:SL_)) (λ_=>([((av 0),some (.cells 2 [(vL eI v_10.1),(vI v_10.2.1)])),(n_2,some (.cells 4 [(vS (⟨#[]⟩:ByteArray)),(vS (⟨#[]⟩:ByteArray)),(vI 0),.nil])),(n_6,some (.cells 4 [(vS v_10.2.2.1),(vS v_10.2.2.2.1),(vI v_10.2.2.2.2.1),(vL eS v_10.2.2.2.2.2)]))]:Hp)) (λ_=>True) ?_ ?_
 ·rcases au h_11 with⟨hc_12,h_11⟩|⟨hc_12,h_11⟩
  ·refine aG rfl hc_12 (aa (ae (.ref (av 0) 0 0) wz rfl (dY (([(⟨#[112]⟩:ByteArray),(⟨#[]⟩:ByteArray)]:List ByteArray).map eS) kv pg rfl rfl rfl rfl rfl wz ?_)))
   obtain ⟨r_13,hr_14,h_11⟩:=bind_some h_11
   refine aY 0 [0] il ft (gH hr_14) rfl FE rfl (by kernel_rfl) (by kernel_rfl) (by kernel_rfl) (by kernel_rfl) (by kernel_rfl) (by kernel_rfl) (by kernel_rfl) (by decide) (by kernel_rfl) wz (vS r_13.1) (by kernel_rfl) ([((av 0),some (.cells 2 [(vL eI r_13.2.L),(vI r_13.2.f_at)])),(n_2,some (.cells 4 [(vS (⟨#[]⟩:ByteArray)),(vS (⟨#[]⟩:ByteArray)),(vI 0),.nil])),(n_6,some (.cells 4 [(vS r_3.1.Key),(vS r_3.1.Screen),(vI r_3.1.Zone),(vL eS r_3.1.Tags)]))]:Hp) (by kernel_rfl) (ae (.ref (av 0) 0 0) wz rfl (dY (([(⟨#[115,97]⟩:ByteArray),(⟨#[65]⟩:ByteArray)]:List ByteArray).map eS) kv pg rfl rfl rfl rfl rfl wz ?_))
   obtain ⟨r_16,hr_17,h_11⟩:=bind_some h_11
   refine aY 0 [0] il ft (gH hr_17) rfl FE rfl (by kernel_rfl) (by kernel_rfl) (by kernel_rfl) (by kernel_rfl) (by kernel_rfl) (by kernel_rfl) (by kernel_rfl) (by decide) (by kernel_rfl) wz (vS r_16.1) (by kernel_rfl) ([((av 0),some (.cells 2 [(vL eI r_16.2.L),(vI r_16.2.f_at)])),(n_2,some (.cells 4 [(vS (⟨#[]⟩:ByteArray)),(vS (⟨#[]⟩:ByteArray)),(vI 0),.nil])),(n_6,some (.cells 4 [(vS r_3.1.Key),(vS r_3.1.Screen),(vI r_3.1.Zone),(vL eS r_3.1.Tags)]))]:Hp) (by kernel_rfl) (ae (.ref (av 0) 0 0) wz rfl ?_)
   obtain ⟨r_19,hr_20,h_11⟩:=bind_some h_11
   refine aY 0 [0] il ft (dH hr_20) rfl zz rfl (by kernel_rfl) (by kernel_rfl) (by kernel_rfl) (by kernel_rfl) (by kernel_rfl) (by kernel_rfl) (by kernel_rfl) (by decide) (by kernel_rfl) wz (vI r_19.1) (by kernel_rfl) ([((av 0),some (.cells 2 [(vL eI r_19.2.L),(vI r_19.2.f_at)])),(n_2,some (.cells 4 [(vS (⟨#[]⟩:ByteArray)),(vS (⟨#[]⟩:ByteArray)),(vI 0),.nil])),(n_6,some (.cells 4 [(vS r_3.1.Key),(vS r_3.1.Screen),(vI r_3.1.Zone),(vL eS r_3.1.Tags)]))]:Hp) (by kernel_rfl) (dY (([(⟨#[109,97,108,108]⟩:ByteArray),(⟨#[99,105,116,121]⟩:ByteArray)]:List ByteArray).map eS) kv pg rfl rfl rfl rfl rfl wz (dY (([(⟨#[]⟩:ByteArray)]:List ByteArray).map eS) kv pg rfl rfl rfl rfl rfl wz (dY (([([(⟨#[109,97,108,108]⟩:ByteArray),(⟨#[99,105,116,121]⟩:ByteArray)]:List ByteArray),([(⟨#[]⟩:ByteArray)]:List ByteArray),([]:List ByteArray)]:List (List ByteArray)).map (eL eS)) EA ez79 rfl rfl rfl rfl rfl wz (ae (.ref (av 0) 0 0) wz rfl ?_))))
   obtain ⟨r_22,hr_23,h_11⟩:=bind_some h_11
   refine aY 0 [0] il ft (dh hr_23) rfl zJ rfl (by kernel_rfl) (by kernel_rfl) (by kernel_rfl) (by kernel_rfl) (by kernel_rfl) (by kernel_rfl) (by kernel_rfl) (by decide) (by kernel_rfl) wz (vI r_22.1) (by kernel_rfl) ([((av 0),some (.cells 2 [(vL eI r_22.2.L),(vI r_22.2.f_at)])),(n_2,some (.cells 4 [(vS (⟨#[]⟩:ByteArray)),(vS (⟨#[]⟩:ByteArray)),(vI 0),.nil])),(n_6,some (.cells 4 [(vS r_3.1.Key),(vS r_3.1.Screen),(vI r_3.1.Zone),(vL eS r_3.1.Tags)]))]:Hp) (by kernel_rfl) ?_
   obtain ⟨y_25,hy_26,h_11⟩:=bind_some h_11
   refine iH EA rfl rfl hy_26 rfl wz (eO o6 sK rfl (vL eS y_25) rfl wz (ae (.d (.agg (Player.enc (⟨r_13.1,r_16.1,r_19.1,y_25⟩:Player)))) wz (by kernel_rfl) (gz 0 il ft 2 x9 rfl rfl [(vS r_13.1),(vS r_16.1),(vI r_19.1),(vL eS y_25)] rfl wz (ak ?_))))
   obtain rfl:=aj h_11
   exact cu
  ·refine aC rfl hc_12 (ay ?_)
   obtain rfl:=aj h_11
   exact cu
 ·rintro ⟨⟩ _ sl_ H_ hp_ hq_
  refine aZ _ hp_ hq_ (ah (aa (aB 0 2 il ft x9 ET rfl rfl (.d (.agg (Player.enc (⟨v_10.2.2.1,v_10.2.2.2.1,v_10.2.2.2.2.1,v_10.2.2.2.2.2⟩:Player)))) rfl wz (gz 0 il ft 1 x9 rfl rfl [(vS v_10.2.2.1),(vS v_10.2.2.2.1),(vI v_10.2.2.2.2.1),(vL eS v_10.2.2.2.2.2)] rfl wz (ak ?_)))))
  obtain rfl:=aj hF
  exact aA (uD (.inr rfl) [(.d (.agg (Player.enc (⟨v_10.2.2.1,v_10.2.2.2.1,v_10.2.2.2.2.1,v_10.2.2.2.2.2⟩:Player))))] _ [0] [av 0] ⟨⟨1,_,_,_,_,_,_,_,rfl,rfl,x9,ET,rfl⟩,trivial⟩ (.cons (iw rfl rfl) (.nil)) (by kernel_rfl) ⟨(by kernel_rfl),trivial⟩ (by decide) (by kernel_rfl))
theorem fO {s_1:(List Entry)} {r:(List Entry)} (hF:aQ s_1=some r) :
  FnM Tryz.prog 9 [(vL Entry.enc s_1)] [] (gV (av 0) 13 r) (([]:List Box).map some++gO 13 Entry.enc r):=by
 refine FnM.of_wH ⟨Tryz.prog,8,[],[]⟩ rfl Tryz.func9 rfl rfl (lb_ rfl) (by kernel_rfl) ?_
 unfold aQ at hF
 refine ah (aa (ae .nil wz rfl (ak (ah (ah (aa (ae (vL Entry.enc s_1) wz rfl (wu nY rfl wz (λb_2 hb_3=>ak ?_)))))))))
 cases b_2 with
 | true =>
  refine aG rfl rfl ?_
  obtain rfl:=hb_3 rfl
  replace hF:=qB hF
  refine ah (aa (ae .nil wz rfl (ak (nu (λn_4 => ?_)))))
  obtain rfl:=aj hF
  exact aA (Cf (outs:=([]:List Box)) (.inr rfl) 0 rfl rfl rfl (by kernel_rfl) (by kernel_rfl))
 | false =>
  refine aC rfl rfl (ay (ah (aa (Aa lg EF rfl wz (ae (vL Entry.enc s_1) wz rfl ?_)))))
  obtain ⟨a_5,hz_6,hF⟩:=bind_some hF
  refine zt 0 (.inl rfl) uS uS fu z35 rfl (by decide) DX (by decide) (λ_=>rfl) rfl rfl hz_6 wz (λn_7=>ae (gV n_7 13 a_5) wz rfl (ak ?_))
  obtain rfl:=aj hF
  exact aA (Cf (outs:=([]:List Box)) (.inr rfl) 0 rfl rfl rfl (by kernel_rfl) (by kernel_rfl))
theorem kC {s_1:ByteArray} {r:Bool} (hF:jr s_1=some r) :
  FnM Tryz.prog 51 [(vS s_1)] [] (vB r) []:=by
 refine FnM.of_wH ⟨Tryz.prog,48,[],[]⟩ rfl Tryz.func51 rfl rfl (lb_ rfl) (by kernel_rfl) ?_
 unfold jr at hF
 refine ah (aa (ae (vB false) wz rfl (ak (ah (ah (aa (ae (vI 0) wz rfl (ak ?_))))))))
 obtain ⟨o_10,hj_11,hF⟩:=bind_some hF
 obtain ⟨nq_33,hj_11⟩:=kQ hj_11
 refine aJ (β:=(Int)) (λ(s_7:Int)=>([(0,(vS s_1))]:SL_)) (λ(s_7:Int)=>([]:Hp)) (λp=>o_10 = .go p) ?_ ?_
 ·refine aK (bX (β:=Nat×(Int)) (λp=>(λ(k_2:Nat) (s_7:Int)=>([(0,(vS s_1)),(3,(vI s_7))]:SL_)) p.1 p.2) (λp=>(λ(k_2:Nat) (s_7:Int)=>([]:Hp)) p.1 p.2) (λp=>fM (λs=>iy s_1 s) p.1 p.2=some o_10) (λp=>p.1) (nq_33,0) hj_11 rfl (aN rfl) ?_)
  rintro ⟨k_2,s_7⟩ hL_9
  dsimp only at hL_9
  cases k_2 with
  | zero=>cases hL_9
  | succ k_2 =>
   obtain ⟨c_,hc_8,hL_9⟩:=bind_some hL_9
   unfold iy at hc_8
   refine ah (ah (aa (ae (vI s_7) wz rfl (ae (vS s_1) wz rfl (zO un9 rfl wz (ae (vB (decide (s_7<(s_1.size:Int)))) wz rfl (ak ?_)))))))
   rcases au hc_8 with⟨hc_12,hc_8⟩|⟨hc_12,hc_8⟩
   ·refine aG rfl hc_12 (ay (ah (aK (ah (aa (ae (vS s_1) wz rfl (ae (vI s_7) wz rfl ?_)))))))
    obtain ⟨b_13,hy_14,hc_8⟩:=bind_some hc_8
    refine Ct un9 rfl rfl hy_14 wz (ae (.d (.int .u8 (b_13.toNat:Int))) wz rfl (ak (ah ?_)))
    obtain ⟨v_15,h_16,hc_8⟩:=bind_some hc_8
    refine aJ (β:=Unit) (λ_=>([(0,(vS s_1)),(3,(vI s_7)),(40,(vB v_15))]:SL_)) (λ_=>([]:Hp)) (λ_=>True) ?_ ?_
    ·refine aa (ae (.d (.int .u8 (b_13.toNat:Int))) wz rfl (ae (vB (decide ((b_13.toNat:Int)>=97))) wz rfl ?_))
     rcases au h_16 with⟨hc_17,h_16⟩|⟨hc_17,h_16⟩
     ·refine ax rfl hc_17 wz (ae (.d (.int .u8 (b_13.toNat:Int))) wa rfl (ae (vB (decide ((b_13.toNat:Int)<=122))) wa rfl (ae (vB (decide ((b_13.toNat:Int)<=122))) wz rfl ?_)))
      rcases au h_16 with⟨hc_18,h_16⟩|⟨hc_18,h_16⟩
      ·refine ax rfl hc_18 wz (af wa (af wa (af wa (af (wn rfl rfl) (af (wn rfl rfl) (af (wn rfl rfl) (af (wn rfl rfl) (af (wn rfl rfl) (af (wn rfl rfl) (af (wn rfl rfl) (af (wn rfl rfl) (af (wn rfl rfl) (af (wn rfl rfl) (af (wn rfl rfl) (af (wn rfl rfl) (af (wn rfl rfl) (af (wn rfl rfl) (af wa (ae (vB true) wz rfl (ae (vB false) wz rfl (ak ?_)))))))))))))))))))))
       obtain rfl:=aj h_16
       exact cu
      ·refine ax rfl hc_18 wz (ae (vI s_7) wa rfl (ae (vB (decide (s_7>0))) wa rfl ?_))
       rcases au h_16 with⟨hc_19,h_16⟩|⟨hc_19,h_16⟩
       ·refine ax rfl hc_19 wa (ae (.d (.int .u8 (b_13.toNat:Int))) wa rfl (ae (vB (decide ((b_13.toNat:Int)>=48))) wa rfl ?_))
        rcases au h_16 with⟨hc_20,h_16⟩|⟨hc_20,h_16⟩
        ·refine ax rfl hc_20 wa (ae (.d (.int .u8 (b_13.toNat:Int))) wa rfl (ae (vB (decide ((b_13.toNat:Int)<=57))) wa rfl (ae (vB (decide ((b_13.toNat:Int)<=57))) wa rfl ?_)))
         rcases au h_16 with⟨hc_21,h_16⟩|⟨hc_21,h_16⟩
         ·refine ax rfl hc_21 wa (af wa (af wa (ae (vB true) wa rfl (ae (vB true) wa rfl (af wa (af wa (ae (vB true) wa rfl (ae (vB true) wa rfl (ae (vB true) wz rfl (ae (vB false) wz rfl (ak ?_)))))))))))
          obtain rfl:=aj h_16
          exact cu
         ·refine ax rfl hc_21 wa (ae (.d (.int .u8 (b_13.toNat:Int))) wa rfl (ae (vB ((b_13.toNat:Int)==45)) wa rfl (ae (vB ((b_13.toNat:Int)==45)) wa rfl ?_)))
          rcases au h_16 with⟨hc_22,h_16⟩|⟨hc_22,h_16⟩
          ·refine ax rfl hc_22 wa (af wa (af wa (ae (vB true) wa rfl (ae (vB true) wa rfl (ae (vB true) wz rfl (ae (vB false) wz rfl (ak ?_)))))))
           obtain rfl:=aj h_16
           exact cu
          ·refine ax rfl hc_22 wa (ae (.d (.int .u8 (b_13.toNat:Int))) wa rfl (ae (vB ((b_13.toNat:Int)==95)) wa rfl (ae (vB ((b_13.toNat:Int)==95)) wa rfl (ae (vB ((b_13.toNat:Int)==95)) wa rfl (ae (vB ((b_13.toNat:Int)==95)) wz rfl (ae (vB (!((b_13.toNat:Int)==95))) wz rfl (ak ?_)))))))
           obtain rfl:=aj h_16
           exact cu
        ·refine ax rfl hc_20 wa (af wa (af wa (ae (vB false) wa rfl (ae (vB false) wa rfl (ae (.d (.int .u8 (b_13.toNat:Int))) wa rfl (ae (vB ((b_13.toNat:Int)==45)) wa rfl (ae (vB ((b_13.toNat:Int)==45)) wa rfl ?_)))))))
         rcases au h_16 with⟨hc_23,h_16⟩|⟨hc_23,h_16⟩
         ·refine ax rfl hc_23 wa (af wa (af wa (ae (vB true) wa rfl (ae (vB true) wa rfl (ae (vB true) wz rfl (ae (vB false) wz rfl (ak ?_)))))))
          obtain rfl:=aj h_16
          exact cu
         ·refine ax rfl hc_23 wa (ae (.d (.int .u8 (b_13.toNat:Int))) wa rfl (ae (vB ((b_13.toNat:Int)==95)) wa rfl (ae (vB ((b_13.toNat:Int)==95)) wa rfl (ae (vB ((b_13.toNat:Int)==95)) wa rfl (ae (vB ((b_13.toNat:Int)==95)) wz rfl (ae (vB (!((b_13.toNat:Int)==95))) wz rfl (ak ?_)))))))
          obtain rfl:=aj h_16
          exact cu
       ·refine ax rfl hc_19 wa (af wa (af wa (af wa (af (wn rfl rfl) (af (wn rfl rfl) (af wa (af wa (af (wn rfl rfl) (af (wn rfl rfl) (af wa (af wa (af (wn rfl rfl) (af (wn rfl rfl) (af wa (ae (vB false) wa rfl (ae (vB false) wz rfl (ae (vB true) wz rfl (ak ?_))))))))))))))))))
        obtain rfl:=aj h_16
        exact cu
     ·refine ax rfl hc_17 wz (af wa (af wa (ae (vB false) wz rfl (ae (vB false) wz rfl (ae (vI s_7) wa rfl (ae (vB (decide (s_7>0))) wa rfl ?_))))))
      rcases au h_16 with⟨hc_24,h_16⟩|⟨hc_24,h_16⟩
      ·refine ax rfl hc_24 wa (ae (.d (.int .u8 (b_13.toNat:Int))) wa rfl (ae (vB (decide ((b_13.toNat:Int)>=48))) wa rfl ?_))
       rcases au h_16 with⟨hc_25,h_16⟩|⟨hc_25,h_16⟩
       ·refine ax rfl hc_25 wa (ae (.d (.int .u8 (b_13.toNat:Int))) wa rfl (ae (vB (decide ((b_13.toNat:Int)<=57))) wa rfl (ae (vB (decide ((b_13.toNat:Int)<=57))) wa rfl ?_)))
        rcases au h_16 with⟨hc_26,h_16⟩|⟨hc_26,h_16⟩
        ·refine ax rfl hc_26 wa (af wa (af wa (ae (vB true) wa rfl (ae (vB true) wa rfl (af wa (af wa (ae (vB true) wa rfl (ae (vB true) wa rfl (ae (vB true) wz rfl (ae (vB false) wz rfl (ak ?_)))))))))))
         obtain rfl:=aj h_16
         exact cu
        ·refine ax rfl hc_26 wa (ae (.d (.int .u8 (b_13.toNat:Int))) wa rfl (ae (vB ((b_13.toNat:Int)==45)) wa rfl (ae (vB ((b_13.toNat:Int)==45)) wa rfl ?_)))
         rcases au h_16 with⟨hc_27,h_16⟩|⟨hc_27,h_16⟩
         ·refine ax rfl hc_27 wa (af wa (af wa (ae (vB true) wa rfl (ae (vB true) wa rfl (ae (vB true) wz rfl (ae (vB false) wz rfl (ak ?_)))))))
          obtain rfl:=aj h_16
          exact cu
         ·refine ax rfl hc_27 wa (ae (.d (.int .u8 (b_13.toNat:Int))) wa rfl (ae (vB ((b_13.toNat:Int)==95)) wa rfl (ae (vB ((b_13.toNat:Int)==95)) wa rfl (ae (vB ((b_13.toNat:Int)==95)) wa rfl (ae (vB ((b_13.toNat:Int)==95)) wz rfl (ae (vB (!((b_13.toNat:Int)==95))) wz rfl (ak ?_)))))))
          obtain rfl:=aj h_16
          exact cu
       ·refine ax rfl hc_25 wa (af wa (af wa (ae (vB false) wa rfl (ae (vB false) wa rfl (ae (.d (.int .u8 (b_13.toNat:Int))) wa rfl (ae (vB ((b_13.toNat:Int)==45)) wa rfl (ae (vB ((b_13.toNat:Int)==45)) wa rfl ?_)))))))
        rcases au h_16 with⟨hc_28,h_16⟩|⟨hc_28,h_16⟩
        ·refine ax rfl hc_28 wa (af wa (af wa (ae (vB true) wa rfl (ae (vB true) wa rfl (ae (vB true) wz rfl (ae (vB false) wz rfl (ak ?_)))))))
         obtain rfl:=aj h_16
         exact cu
        ·refine ax rfl hc_28 wa (ae (.d (.int .u8 (b_13.toNat:Int))) wa rfl (ae (vB ((b_13.toNat:Int)==95)) wa rfl (ae (vB ((b_13.toNat:Int)==95)) wa rfl (ae (vB ((b_13.toNat:Int)==95)) wa rfl (ae (vB ((b_13.toNat:Int)==95)) wz rfl (ae (vB (!((b_13.toNat:Int)==95))) wz rfl (ak ?_)))))))
         obtain rfl:=aj h_16
         exact cu
      ·refine ax rfl hc_24 wa (af wa (af wa (af wa (af (wn rfl rfl) (af (wn rfl rfl) (af wa (af wa (af (wn rfl rfl) (af (wn rfl rfl) (af wa (af wa (af (wn rfl rfl) (af (wn rfl rfl) (af wa (ae (vB false) wa rfl (ae (vB false) wz rfl (ae (vB true) wz rfl (ak ?_))))))))))))))))))
       obtain rfl:=aj h_16
       exact cu
    ·rintro ⟨⟩ _ sl_ H_ hp_ hq_
     refine aZ _ hp_ hq_ ?_
     rcases au hc_8 with⟨hc_29,hc_8⟩|⟨hc_29,hc_8⟩
     ·refine aG rfl hc_29 (ah (aa (ae (vB false) wz rfl (ak ?_))))
      obtain rfl:=aj hc_8
      obtain rfl:=aj hL_9
      obtain rfl:=aj hF
      exact aA (bv (.inr rfl) [(vB false)] ⟨rfl,trivial⟩ rfl rfl rfl)
     ·refine aC rfl hc_29 (ay (aa (ae (vI s_7) wz rfl (ae (vI (w64 (s_7+1))) wz rfl (ae (vI (w64 (s_7+1))) wz rfl (ak ?_))))))
      obtain rfl:=aj hc_8
      exact bO (k_2,(w64 (s_7+1))) hL_9 (ls_ _) rfl (aN rfl)
   ·refine aC rfl hc_12 (bT ?_)
    obtain rfl:=aj hc_8
    obtain rfl:=aj hL_9
    exact cB (s_7) rfl rfl (aN rfl)
 ·rintro s_7 ho_ sl_ H_ hp_ hq_
  subst ho_
  refine aZ _ hp_ hq_ (ah ?_)
  obtain ⟨v_30,h_31,hF⟩:=bind_some hF
  refine aJ (β:=Unit) (λ_=>([(2,(vB v_30))]:SL_)) (λ_=>([]:Hp)) (λ_=>True) ?_ ?_
  ·refine aa (ae (vS s_1) wz rfl (ae (vB (sNe s_1 (⟨#[]⟩:ByteArray))) wz rfl ?_))
   rcases au h_31 with⟨hc_32,h_31⟩|⟨hc_32,h_31⟩
   ·refine ax rfl hc_32 wz (ae (vS s_1) wa rfl (zO un9 rfl wa (ae (vB (decide ((s_1.size:Int)<=40))) wa rfl (ae (vB (decide ((s_1.size:Int)<=40))) wz rfl (ae (vB (decide ((s_1.size:Int)<=40))) wz rfl (ak ?_))))))
    obtain rfl:=aj h_31
    exact cu
   ·refine ax rfl hc_32 wz (af wa (af wa (af wa (ae (vB false) wz rfl (ae (vB false) wz rfl (ak ?_))))))
    obtain rfl:=aj h_31
    exact cu
  ·rintro ⟨⟩ _ sl_ H_ hp_ hq_
   refine aZ _ hp_ hq_ ?_
   obtain rfl:=aj hF
   exact aA (bv (.inr rfl) [(vB v_30)] ⟨rfl,trivial⟩ rfl rfl rfl)
theorem dC {n_1:Int} {low_2:Int} {high_3:Int} {r:Bool} (hF:dB n_1 low_2 high_3=some r) :
  FnM Tryz.prog 52 [(vI n_1),(vI low_2),(vI high_3)] [] (vB r) []:=by
 refine FnM.of_wH ⟨Tryz.prog,15,[],[]⟩ rfl Tryz.func52 rfl rfl (lb_ rfl) (by kernel_rfl) ?_
 unfold dB at hF
 refine ah (aa (ae (vB false) wz rfl (ak (ah ?_))))
 obtain ⟨v_4,h_5,hF⟩:=bind_some hF
 refine aJ (β:=Unit) (λ_=>([(6,(vB v_4))]:SL_)) (λ_=>([]:Hp)) (λ_=>True) ?_ ?_
 ·refine aa (ae (vI n_1) wz rfl (ae (vI low_2) wz rfl (ae (vB (decide (n_1<low_2))) wz rfl ?_)))
  rcases au h_5 with⟨hc_6,h_5⟩|⟨hc_6,h_5⟩
  ·refine ax rfl hc_6 wz (af wa (af wa (af wa (ae (vB true) wz rfl (ae (vB true) wz rfl (ak ?_))))))
   obtain rfl:=aj h_5
   exact cu
  ·refine ax rfl hc_6 wz (ae (vI n_1) wa rfl (ae (vI high_3) wa rfl (ae (vB (decide (n_1>high_3))) wa rfl (ae (vB (decide (n_1>high_3))) wz rfl (ae (vB (decide (n_1>high_3))) wz rfl (ak ?_))))))
   obtain rfl:=aj h_5
   exact cu
 ·rintro ⟨⟩ _ sl_ H_ hp_ hq_
  refine aZ _ hp_ hq_ ?_
  obtain rfl:=aj hF
  exact aA (bv (.inr rfl) [(vB v_4)] ⟨rfl,trivial⟩ rfl rfl rfl)
theorem zA {n_1:Int} {r:Bool} (hF:ou n_1=some r) :
  FnM Tryz.prog 136 [(vI n_1)] [] (vB r) []:=by
 refine FnM.of_wH ⟨Tryz.prog,9,[],[]⟩ rfl Tryz.func136 rfl rfl (lb_ rfl) (by kernel_rfl) ?_
 unfold ou at hF
 refine ah (aa (ae (vB false) wz rfl (ak (ah ?_))))
 obtain ⟨v_2,h_3,hF⟩:=bind_some hF
 refine aJ (β:=Unit) (λ_=>([(2,(vB v_2))]:SL_)) (λ_=>([]:Hp)) (λ_=>True) ?_ ?_
 ·refine aa (ae (vI n_1) wz rfl (ae (vB (decide (n_1>=0))) wz rfl ?_))
  rcases au h_3 with⟨hc_4,h_3⟩|⟨hc_4,h_3⟩
  ·refine ax rfl hc_4 wz (ae (vI n_1) wa rfl (ae (vB (decide (n_1<=4000))) wa rfl (ae (vB (decide (n_1<=4000))) wz rfl (ae (vB (decide (n_1<=4000))) wz rfl (ak ?_)))))
   obtain rfl:=aj h_3
   exact cu
  ·refine ax rfl hc_4 wz (af wa (af wa (ae (vB false) wz rfl (ae (vB false) wz rfl (ak ?_)))))
   obtain rfl:=aj h_3
   exact cu
 ·rintro ⟨⟩ _ sl_ H_ hp_ hq_
  refine aZ _ hp_ hq_ ?_
  obtain rfl:=aj hF
  exact aA (bv (.inr rfl) [(vB v_2)] ⟨rfl,trivial⟩ rfl rfl rfl)
theorem nD {l_1:(List Int)} {r:Int} (hF:fA l_1=some r) :
  FnM Tryz.prog 91 [(vL eI l_1)] [] (vI r) []:=by
 refine FnM.of_wH ⟨Tryz.prog,30,[],[]⟩ rfl Tryz.func91 rfl rfl (lb_ rfl) (by kernel_rfl) ?_
 unfold fA at hF
 refine ah (aa (ae (vI 0) wz rfl (ak (ah (ah (aa (ae (vL eI l_1) wz rfl (dP qj rfl wz (ae (vB (decide ((l_1.length:Int)>100))) wz rfl (ak ?_))))))))))
 rcases au hF with⟨hc_2,hF⟩|⟨hc_2,hF⟩
 ·refine aG rfl hc_2 (ah (aa (ae (vI 2) wz rfl (ak ?_))))
  obtain rfl:=aj hF
  exact aA (bv (.inr rfl) [(vI 2)] ⟨rfl,trivial⟩ rfl rfl rfl)
 ·refine aC rfl hc_2 (ay (ah (ah (aa (ae (vL eI l_1) wz rfl (dP qj rfl wz (ae (vI 0) wz rfl (ak ?_))))))))
  obtain ⟨o_11,hj_12,hF⟩:=bind_some hF
  obtain ⟨hn_7,hj_12⟩:=bJ hj_12
  refine aJ (β:=(Unit)) (λ(s_8:Unit)=>([]:SL_)) (λ(s_8:Unit)=>([]:Hp)) (λp=>o_11 = .go p) ?_ ?_
  ·refine aK (bX (β:=Nat×(List Int)×(Unit)) (λp=>(λ(k_3:Nat) (l_4:List Int) (s_8:Unit)=>([(0,(vL eI l_1)),(8,(vL eI l_1)),(9,(vI (l_1.length:Int))),(10,(vI (k_3:Int)))]:SL_)) p.1 p.2.1 p.2.2) (λp=>(λ(k_3:Nat) (l_4:List Int) (s_8:Unit)=>([]:Hp)) p.1 p.2.1 p.2.2) (λp=>dR (λk x s=>fI l_1 k x s) p.2.1 p.1 p.2.2=some o_11/\(l_1).drop p.1=p.2.1) (λp=>p.2.1.length) (0,l_1,()) ⟨hj_12,rfl⟩ rfl (aN rfl) ?_)
   rintro ⟨k_3,l_4,s_8⟩ ⟨hL_10,hD_6⟩
   dsimp only at hL_10 hD_6
   cases l_4 with
   | nil =>
    obtain rfl:=aj hL_10
    refine ah (aa (ae (vB (decide ((k_3:Int)<(l_1.length:Int)))) wz rfl (ak ?_)))
    refine ah (aC rfl (drop_nil hD_6) (bT ?_))
    exact cB (s_8) rfl rfl (aN rfl)
   | cons x_5 l_4 =>
    obtain ⟨c_,hc_9,hL_10⟩:=bind_some hL_10
    refine ah (aa (ae (vB (decide ((k_3:Int)<(l_1.length:Int)))) wz rfl (ak ?_)))
    refine ah (aG rfl (dA hD_6) (ay ?_))
    unfold fI at hc_9
    refine ah (aK (ah (aa (ae (vI (k_3:Int)) wz rfl (iH kw rfl rfl (dU hD_6) rfl wz (eO sz3 ag3 rfl (vI x_5) rfl wz (ae (vI (k_3:Int)) wz rfl (ae (vI x_5) wz rfl (ak (ah (ah (aa (ae (vI x_5) wz rfl ?_)))))))))))))
    obtain ⟨r_13,hr_14,hc_9⟩:=bind_some hc_9
    refine aF (zA hr_14) rfl hb136 rfl rfl rfl rfl wz (ae (vB (!r_13)) wz rfl (ak ?_))
    rcases au hc_9 with⟨hc_15,hc_9⟩|⟨hc_15,hc_9⟩
    ·refine aG rfl hc_15 (ah (aa (ae (vI 1) wz rfl (ak ?_))))
     obtain rfl:=aj hc_9
     obtain rfl:=aj hL_10
     obtain rfl:=aj hF
     exact aA (bv (.inr rfl) [(vI 1)] ⟨rfl,trivial⟩ rfl rfl rfl)
    ·refine aC rfl hc_15 (ay (ah ?_))
     obtain ⟨v_16,h_17,hc_9⟩:=bind_some hc_9
     refine aJ (β:=Unit) (λ_=>([(0,(vL eI l_1)),(8,(vL eI l_1)),(9,(vI (l_1.length:Int))),(10,(vI (k_3:Int))),(28,(vB v_16))]:SL_)) (λ_=>([]:Hp)) (λ_=>True) ?_ ?_
     ·refine aa (ae (vI (k_3:Int)) wz rfl (ae (vB (decide ((k_3:Int)>0))) wz rfl ?_))
      rcases au h_17 with⟨hc_18,h_17⟩|⟨hc_18,h_17⟩
      ·refine ax rfl hc_18 wz (ae (vI x_5) wa rfl (ae (vL eI l_1) wa rfl (ae (vI (k_3:Int)) wa rfl (ae (vI (w64 ((k_3:Int)-1))) wa rfl ?_))))
       obtain ⟨y_19,hy_20,h_17⟩:=bind_some h_17
       refine iH kw rfl rfl hy_20 rfl wa (eO sz3 ag3 rfl (vI y_19) rfl wa (ae (vB (decide (x_5<=y_19))) wa rfl (ae (vB (decide (x_5<=y_19))) wz rfl (ak ?_))))
       obtain rfl:=aj h_17
       exact cu
      ·refine ax rfl hc_18 wz (af wa (af wa (af wa (af wa (af wa (af wa (af wa (ae (vB false) wz rfl (ak ?_)))))))))
       obtain rfl:=aj h_17
       exact cu
     ·rintro ⟨⟩ _ sl_ H_ hp_ hq_
      refine aZ _ hp_ hq_ ?_
      rcases au hc_9 with⟨hc_21,hc_9⟩|⟨hc_21,hc_9⟩
      ·refine aG rfl hc_21 (ah (aa (ae (vI 7) wz rfl (ak ?_))))
       obtain rfl:=aj hc_9
       obtain rfl:=aj hL_10
       obtain rfl:=aj hF
       exact aA (bv (.inr rfl) [(vI 7)] ⟨rfl,trivial⟩ rfl rfl rfl)
      ·refine aC rfl hc_21 (ay (aa (gX (dD hD_6 hn_7) wz rfl (ae (vI ((k_3+1:Nat):Int)) wz rfl (ak ?_)))))
       obtain rfl:=aj hc_9
       exact bO (k_3+1,l_4,()) ⟨hL_10,bg hD_6⟩ (ls_ _) rfl (aN rfl)
  ·rintro s_8 ho_ sl_ H_ hp_ hq_
   subst ho_
   refine aZ _ hp_ hq_ (ah (aa (ae (vI 0) wz rfl (ak ?_))))
   obtain rfl:=aj hF
   exact aA (bv (.inr rfl) [(vI 0)] ⟨rfl,trivial⟩ rfl rfl rfl)
theorem rC {l_1:(List ByteArray)} {r:Int} (hF:jQ l_1=some r) :
  FnM Tryz.prog 92 [(vL eS l_1)] [] (vI r) []:=by
 refine FnM.of_wH ⟨Tryz.prog,27,[],[]⟩ rfl Tryz.func92 rfl rfl (lb_ rfl) (by kernel_rfl) ?_
 unfold jQ at hF
 refine ah (aa (ae (vI 0) wz rfl (ak (ah (ah (aa (ae (vL eS l_1) wz rfl (dP uN rfl wz (ae (vI 0) wz rfl (ak ?_))))))))))
 obtain ⟨o_10,hj_11,hF⟩:=bind_some hF
 obtain ⟨hn_6,hj_11⟩:=bJ hj_11
 refine aJ (β:=(Unit)) (λ(s_7:Unit)=>([]:SL_)) (λ(s_7:Unit)=>([]:Hp)) (λp=>o_10 = .go p) ?_ ?_
 ·refine aK (bX (β:=Nat×(List ByteArray)×(Unit)) (λp=>(λ(k_2:Nat) (l_3:List ByteArray) (s_7:Unit)=>([(0,(vL eS l_1)),(5,(vL eS l_1)),(6,(vI (l_1.length:Int))),(7,(vI (k_2:Int)))]:SL_)) p.1 p.2.1 p.2.2) (λp=>(λ(k_2:Nat) (l_3:List ByteArray) (s_7:Unit)=>([]:Hp)) p.1 p.2.1 p.2.2) (λp=>dR (λk x s=>ik l_1 k x s) p.2.1 p.1 p.2.2=some o_10/\(l_1).drop p.1=p.2.1) (λp=>p.2.1.length) (0,l_1,()) ⟨hj_11,rfl⟩ rfl (aN rfl) ?_)
  rintro ⟨k_2,l_3,s_7⟩ ⟨hL_9,hD_5⟩
  dsimp only at hL_9 hD_5
  cases l_3 with
  | nil =>
   obtain rfl:=aj hL_9
   refine ah (aa (ae (vB (decide ((k_2:Int)<(l_1.length:Int)))) wz rfl (ak ?_)))
   refine ah (aC rfl (drop_nil hD_5) (bT ?_))
   exact cB (s_7) rfl rfl (aN rfl)
  | cons x_4 l_3 =>
   obtain ⟨c_,hc_8,hL_9⟩:=bind_some hL_9
   refine ah (aa (ae (vB (decide ((k_2:Int)<(l_1.length:Int)))) wz rfl (ak ?_)))
   refine ah (aG rfl (dA hD_5) (ay ?_))
   unfold ik at hc_8
   refine ah (aK (ah (aa (ae (vI (k_2:Int)) wz rfl (iH kv rfl rfl (dU hD_5) rfl wz (eO sz9 ag9 rfl (vS x_4) rfl wz (ae (vI (k_2:Int)) wz rfl (ae (vS x_4) wz rfl (ak (ah (ah (aa (ae (vS x_4) wz rfl ?_)))))))))))))
   obtain ⟨r_12,hr_13,hc_8⟩:=bind_some hc_8
   refine aF (kC hr_13) rfl Gs rfl rfl rfl rfl wz (ae (vB (!r_12)) wz rfl (ak ?_))
   rcases au hc_8 with⟨hc_14,hc_8⟩|⟨hc_14,hc_8⟩
   ·refine aG rfl hc_14 (ah (aa (ae (vI 5) wz rfl (ak ?_))))
    obtain rfl:=aj hc_8
    obtain rfl:=aj hL_9
    obtain rfl:=aj hF
    exact aA (bv (.inr rfl) [(vI 5)] ⟨rfl,trivial⟩ rfl rfl rfl)
   ·refine aC rfl hc_14 (ay (ah ?_))
    obtain ⟨v_15,h_16,hc_8⟩:=bind_some hc_8
    refine aJ (β:=Unit) (λ_=>([(0,(vL eS l_1)),(5,(vL eS l_1)),(6,(vI (l_1.length:Int))),(7,(vI (k_2:Int))),(25,(vB v_15))]:SL_)) (λ_=>([]:Hp)) (λ_=>True) ?_ ?_
    ·refine aa (ae (vI (k_2:Int)) wz rfl (ae (vB (decide ((k_2:Int)>0))) wz rfl ?_))
     rcases au h_16 with⟨hc_17,h_16⟩|⟨hc_17,h_16⟩
     ·refine ax rfl hc_17 wz (ae (vS x_4) wa rfl (ae (vL eS l_1) wa rfl (ae (vI (k_2:Int)) wa rfl (ae (vI (w64 ((k_2:Int)-1))) wa rfl ?_))))
      obtain ⟨y_18,hy_19,h_16⟩:=bind_some h_16
      refine iH kv rfl rfl hy_19 rfl wa (eO sz9 ag9 rfl (vS y_18) rfl wa (ae (vB (sLe x_4 y_18)) wa rfl (ae (vB (sLe x_4 y_18)) wz rfl (ak ?_))))
      obtain rfl:=aj h_16
      exact cu
     ·refine ax rfl hc_17 wz (af wa (af wa (af wa (af wa (af wa (af wa (af wa (ae (vB false) wz rfl (ak ?_)))))))))
      obtain rfl:=aj h_16
      exact cu
    ·rintro ⟨⟩ _ sl_ H_ hp_ hq_
     refine aZ _ hp_ hq_ ?_
     rcases au hc_8 with⟨hc_20,hc_8⟩|⟨hc_20,hc_8⟩
     ·refine aG rfl hc_20 (ah (aa (ae (vI 7) wz rfl (ak ?_))))
      obtain rfl:=aj hc_8
      obtain rfl:=aj hL_9
      obtain rfl:=aj hF
      exact aA (bv (.inr rfl) [(vI 7)] ⟨rfl,trivial⟩ rfl rfl rfl)
     ·refine aC rfl hc_20 (ay (aa (gX (dD hD_5 hn_6) wz rfl (ae (vI ((k_2+1:Nat):Int)) wz rfl (ak ?_)))))
      obtain rfl:=aj hc_8
      exact bO (k_2+1,l_3,()) ⟨hL_9,bg hD_5⟩ (ls_ _) rfl (aN rfl)
 ·rintro s_7 ho_ sl_ H_ hp_ hq_
  subst ho_
  refine aZ _ hp_ hq_ (ah (aa (ae (vI 0) wz rfl (ak ?_))))
  obtain rfl:=aj hF
  exact aA (bv (.inr rfl) [(vI 0)] ⟨rfl,trivial⟩ rfl rfl rfl)
theorem kJ {l_1:(List ByteArray)} {r:Int} (hF:fo l_1=some r) :
  FnM Tryz.prog 53 [(vL eS l_1)] [] (vI r) []:=by
 refine FnM.of_wH ⟨Tryz.prog,8,[],[]⟩ rfl Tryz.func53 rfl rfl (lb_ rfl) (by kernel_rfl) ?_
 unfold fo at hF
 refine ah (aa (ae (vI 0) wz rfl (ak (ah (ah (aa (ae (vL eS l_1) wz rfl (dP uN rfl wz (ae (vB (decide ((l_1.length:Int)>20))) wz rfl (ak ?_))))))))))
 rcases au hF with⟨hc_2,hF⟩|⟨hc_2,hF⟩
 ·refine aG rfl hc_2 (ah (aa (ae (vI 2) wz rfl (ak ?_))))
  obtain rfl:=aj hF
  exact aA (bv (.inr rfl) [(vI 2)] ⟨rfl,trivial⟩ rfl rfl rfl)
 ·refine aC rfl hc_2 (ay (ah (aa (ae (vL eS l_1) wz rfl ?_))))
  obtain ⟨r_3,hr_4,hF⟩:=bind_some hF
  refine aF (rC hr_4) rfl hb92 rfl rfl rfl rfl wz (ae (vI r_3) wz rfl (ak ?_))
  obtain rfl:=aj hF
  exact aA (bv (.inr rfl) [(vI r_3)] ⟨rfl,trivial⟩ rfl rfl rfl)
theorem oQ {e_1:Entry} {r:Int} (hF:fK e_1=some r) :
  FnM Tryz.prog 50 [(.d (.agg (Entry.enc e_1)))] [] (vI r) []:=by
 refine FnM.of_wH ⟨Tryz.prog,61,[],[]⟩ rfl Tryz.func50 rfl rfl (lb_ rfl) (by kernel_rfl) ?_
 unfold fK at hF
 refine ah (aa (jm 0 (.inl rfl) [(vS e_1.Key),(vS e_1.Item),(vI e_1.Version),(vI e_1.First),(vI e_1.Last),(vI e_1.Every),(vI e_1.Days),(vL eI e_1.Except),(vI e_1.From),(vI e_1.To),(vI e_1.Prio),(vL eS e_1.Tags),(vB e_1.Gone)] rfl rfl wz (λn_2=>ae (vI 0) wz rfl (ak (ah (ah ?_))))))
 obtain ⟨v_3,h_4,hF⟩:=bind_some hF
 refine aJ (β:=Unit) (λ_=>([(1,(.ref n_2 0 0)),(13,(vB v_3))]:SL_)) (λ_=>([(n_2,some (.cells 13 [(vS e_1.Key),(vS e_1.Item),(vI e_1.Version),(vI e_1.First),(vI e_1.Last),(vI e_1.Every),(vI e_1.Days),(vL eI e_1.Except),(vI e_1.From),(vI e_1.To),(vI e_1.Prio),(vL eS e_1.Tags),(vB e_1.Gone)]))]:Hp)) (λ_=>True) ?_ ?_
 ·refine aa (aD jd rfl 0 rfl wz (aB 0 0 il ft sz9 ag9 rfl rfl (vS e_1.Key) rfl wz ?_))
  obtain ⟨r_5,hr_6,h_4⟩:=bind_some h_4
  refine aF (kC hr_6) rfl Gs rfl rfl rfl rfl wz (ae (vB (!r_5)) wz rfl ?_)
  rcases au h_4 with⟨hc_7,h_4⟩|⟨hc_7,h_4⟩
  ·refine ax rfl hc_7 wz (af wa (af wa (af wa (af wa (ae (vB true) wz rfl (ak ?_))))))
   obtain rfl:=aj h_4
   exact cu
  ·refine ax rfl hc_7 wz (aD ut rfl 1 rfl wa (aB 0 0 il ft sz9 ag9 rfl rfl (vS e_1.Item) rfl wa ?_))
   obtain ⟨r_8,hr_9,h_4⟩:=bind_some h_4
   refine aF (kC hr_9) rfl Gs rfl rfl rfl rfl wa (ae (vB (!r_8)) wa rfl (ae (vB (!r_8)) wz rfl (ak ?_)))
   obtain rfl:=aj h_4
   exact cu
 ·rintro ⟨⟩ _ sl_ H_ hp_ hq_
  refine aZ _ hp_ hq_ ?_
  rcases au hF with⟨hc_10,hF⟩|⟨hc_10,hF⟩
  ·refine aG rfl hc_10 (ah (aa (ae (vI 5) wz rfl (ak ?_))))
   obtain rfl:=aj hF
   exact aA (bv (.inr rfl) [(vI 5)] ⟨rfl,trivial⟩ rfl rfl rfl)
  ·refine aC rfl hc_10 (ay (ah (ah ?_)))
   obtain ⟨v_11,h_12,hF⟩:=bind_some hF
   refine aJ (β:=Unit) (λ_=>([(1,(.ref n_2 0 0)),(38,(vB v_11))]:SL_)) (λ_=>([(n_2,some (.cells 13 [(vS e_1.Key),(vS e_1.Item),(vI e_1.Version),(vI e_1.First),(vI e_1.Last),(vI e_1.Every),(vI e_1.Days),(vL eI e_1.Except),(vI e_1.From),(vI e_1.To),(vI e_1.Prio),(vL eS e_1.Tags),(vB e_1.Gone)]))]:Hp)) (λ_=>True) ?_ ?_
   ·refine aa (aD kz rfl 2 rfl wz (aB 0 0 il ft sz3 ag3 rfl rfl (vI e_1.Version) rfl wz ?_))
    obtain ⟨r_13,hr_14,h_12⟩:=bind_some h_12
    refine aF (dC hr_14) rfl xN rfl rfl rfl rfl wz ?_
    rcases au h_12 with⟨hc_15,h_12⟩|⟨hc_15,h_12⟩
    ·refine ax rfl hc_15 wz (af wa (af wa (af wa (af wa (af wa (ae (vB true) wz rfl (ae (vB true) wz rfl (af wa (af wa (af wa (ae (vB true) wz rfl (ae (vB true) wz rfl (af wa (af wa (af wa (ae (vB true) wz rfl (ae (vB true) wz rfl (af wa (af wa (af wa (ae (vB true) wz rfl (ak ?_))))))))))))))))))))))
     obtain rfl:=aj h_12
     exact cu
    ·refine ax rfl hc_15 wz (aD mZ rfl 3 rfl wa (aB 0 0 il ft sz3 ag3 rfl rfl (vI e_1.First) rfl wa (aD lZ rfl 4 rfl wa (aB 0 0 il ft sz3 ag3 rfl rfl (vI e_1.Last) rfl wa ?_))))
     obtain ⟨r_16,hr_17,h_12⟩:=bind_some h_12
     refine aF (dC hr_17) rfl xN rfl rfl rfl rfl wa (ae (vB r_16) wz rfl ?_)
     rcases au h_12 with⟨hc_18,h_12⟩|⟨hc_18,h_12⟩
     ·refine ax rfl hc_18 wz (af wa (af wa (af wa (ae (vB true) wz rfl (ae (vB true) wz rfl (af wa (af wa (af wa (ae (vB true) wz rfl (ae (vB true) wz rfl (af wa (af wa (af wa (ae (vB true) wz rfl (ak ?_)))))))))))))))
      obtain rfl:=aj h_12
      exact cu
     ·refine ax rfl hc_18 wz (aD lZ rfl 4 rfl wa (aB 0 0 il ft sz3 ag3 rfl rfl (vI e_1.Last) rfl wa (ae (vB (decide (e_1.Last>4000))) wa rfl (ae (vB (decide (e_1.Last>4000))) wz rfl ?_))))
      rcases au h_12 with⟨hc_19,h_12⟩|⟨hc_19,h_12⟩
      ·refine ax rfl hc_19 wz (af wa (af wa (af wa (ae (vB true) wz rfl (ae (vB true) wz rfl (af wa (af wa (af wa (ae (vB true) wz rfl (ak ?_))))))))))
       obtain rfl:=aj h_12
       exact cu
      ·refine ax rfl hc_19 wz (aD rE rfl 5 rfl wa (aB 0 0 il ft sz3 ag3 rfl rfl (vI e_1.Every) rfl wa ?_))
       obtain ⟨r_20,hr_21,h_12⟩:=bind_some h_12
       refine aF (dC hr_21) rfl xN rfl rfl rfl rfl wa (ae (vB r_20) wz rfl ?_)
       rcases au h_12 with⟨hc_22,h_12⟩|⟨hc_22,h_12⟩
       ·refine ax rfl hc_22 wz (af wa (af wa (af wa (ae (vB true) wz rfl (ak ?_)))))
        obtain rfl:=aj h_12
        exact cu
       ·refine ax rfl hc_22 wz (aD rR rfl 6 rfl wa (aB 0 0 il ft sz3 ag3 rfl rfl (vI e_1.Days) rfl wa ?_))
        obtain ⟨r_23,hr_24,h_12⟩:=bind_some h_12
        refine aF (dC hr_24) rfl xN rfl rfl rfl rfl wa (ae (vB r_23) wz rfl (ak ?_))
        obtain rfl:=aj h_12
        exact cu
   ·rintro ⟨⟩ _ sl_ H_ hp_ hq_
    refine aZ _ hp_ hq_ ?_
    rcases au hF with⟨hc_25,hF⟩|⟨hc_25,hF⟩
    ·refine aG rfl hc_25 (ah (aa (ae (vI 1) wz rfl (ak ?_))))
     obtain rfl:=aj hF
     exact aA (bv (.inr rfl) [(vI 1)] ⟨rfl,trivial⟩ rfl rfl rfl)
    ·refine aC rfl hc_25 (ay (ah (ah (aa (aD iU rfl 7 rfl wz (aB 0 0 il ft mK pV rfl rfl (vL eI e_1.Except) rfl wz ?_))))))
     obtain ⟨r_26,hr_27,hF⟩:=bind_some hF
     refine aF (nD hr_27) rfl hb91 rfl rfl rfl rfl wz (ae (vI r_26) wz rfl (ak (ah (aa (ae (vI r_26) wz rfl (ae (vB (r_26 != 0)) wz rfl (ak ?_)))))))
     rcases au hF with⟨hc_28,hF⟩|⟨hc_28,hF⟩
     ·refine aG rfl hc_28 (ah (aa (ae (vI r_26) wz rfl (ae (vI r_26) wz rfl (ak ?_)))))
      obtain rfl:=aj hF
      exact aA (bv (.inr rfl) [(vI r_26)] ⟨rfl,trivial⟩ rfl rfl rfl)
     ·refine aC rfl hc_28 (ay (ah (ah ?_)))
      obtain ⟨v_29,h_30,hF⟩:=bind_some hF
      refine aJ (β:=Unit) (λ_=>([(1,(.ref n_2 0 0)),(57,(vB v_29))]:SL_)) (λ_=>([(n_2,some (.cells 13 [(vS e_1.Key),(vS e_1.Item),(vI e_1.Version),(vI e_1.First),(vI e_1.Last),(vI e_1.Every),(vI e_1.Days),(vL eI e_1.Except),(vI e_1.From),(vI e_1.To),(vI e_1.Prio),(vL eS e_1.Tags),(vB e_1.Gone)]))]:Hp)) (λ_=>True) ?_ ?_
      ·refine aa (aD pQ rfl 8 rfl wz (aB 0 0 il ft sz3 ag3 rfl rfl (vI e_1.From) rfl wz ?_))
       obtain ⟨r_31,hr_32,h_30⟩:=bind_some h_30
       refine aF (dC hr_32) rfl xN rfl rfl rfl rfl wz ?_
       rcases au h_30 with⟨hc_33,h_30⟩|⟨hc_33,h_30⟩
       ·refine ax rfl hc_33 wz (af wa (af wa (af wa (ae (vB true) wz rfl (ae (vB true) wz rfl (af wa (af wa (af wa (ae (vB true) wz rfl (ak ?_))))))))))
        obtain rfl:=aj h_30
        exact cu
       ·refine ax rfl hc_33 wz (aD rA rfl 9 rfl wa (aB 0 0 il ft sz3 ag3 rfl rfl (vI e_1.To) rfl wa ?_))
        obtain ⟨r_34,hr_35,h_30⟩:=bind_some h_30
        refine aF (dC hr_35) rfl xN rfl rfl rfl rfl wa (ae (vB r_34) wz rfl ?_)
        rcases au h_30 with⟨hc_36,h_30⟩|⟨hc_36,h_30⟩
        ·refine ax rfl hc_36 wz (af wa (af wa (af wa (ae (vB true) wz rfl (ak ?_)))))
         obtain rfl:=aj h_30
         exact cu
        ·refine ax rfl hc_36 wz (aD qI rfl 10 rfl wa (aB 0 0 il ft sz3 ag3 rfl rfl (vI e_1.Prio) rfl wa ?_))
         obtain ⟨r_37,hr_38,h_30⟩:=bind_some h_30
         refine aF (dC hr_38) rfl xN rfl rfl rfl rfl wa (ae (vB r_37) wz rfl (ak ?_))
         obtain rfl:=aj h_30
         exact cu
      ·rintro ⟨⟩ _ sl_ H_ hp_ hq_
       refine aZ _ hp_ hq_ ?_
       rcases au hF with⟨hc_39,hF⟩|⟨hc_39,hF⟩
       ·refine aG rfl hc_39 (ah (aa (ae (vI 1) wz rfl (ak ?_))))
        obtain rfl:=aj hF
        exact aA (bv (.inr rfl) [(vI 1)] ⟨rfl,trivial⟩ rfl rfl rfl)
       ·refine aC rfl hc_39 (ay (ah (aa (aD iW rfl 11 rfl wz (aB 0 0 il ft o6 sK rfl rfl (vL eS e_1.Tags) rfl wz ?_)))))
        obtain ⟨r_40,hr_41,hF⟩:=bind_some hF
        refine aF (kJ hr_41) rfl hb53 rfl rfl rfl rfl wz (ae (vI r_40) wz rfl (ak ?_))
        obtain rfl:=aj hF
        exact aA (bv (.inr rfl) [(vI r_40)] ⟨rfl,trivial⟩ rfl rfl rfl)
theorem gK {l_1:(List Entry)} {r:Int} (hF:bC l_1=some r) :
  FnM Tryz.prog 13 [(vL Entry.enc l_1)] [] (vI r) []:=by
 refine FnM.of_wH ⟨Tryz.prog,35,[],[]⟩ rfl Tryz.func13 rfl rfl (lb_ rfl) (by kernel_rfl) ?_
 unfold bC at hF
 refine ah (aa (ae (vI 0) wz rfl (ak (ah (ah (aa (ae (vL Entry.enc l_1) wz rfl (dP nY rfl wz (ae (vB (decide ((l_1.length:Int)>200))) wz rfl (ak ?_))))))))))
 rcases au hF with⟨hc_2,hF⟩|⟨hc_2,hF⟩
 ·refine aG rfl hc_2 (ah (aa (ae (vI 2) wz rfl (ak ?_))))
  obtain rfl:=aj hF
  exact aA (bv (.inr rfl) [(vI 2)] ⟨rfl,trivial⟩ rfl rfl rfl)
 ·refine aC rfl hc_2 (ay (ah (ah (aa (ae (vL Entry.enc l_1) wz rfl (dP nY rfl wz (ae (vI 0) wz rfl (ak ?_))))))))
  obtain ⟨o_11,hj_12,hF⟩:=bind_some hF
  obtain ⟨hn_7,hj_12⟩:=bJ hj_12
  refine aJ (β:=(Unit)) (λ(s_8:Unit)=>([]:SL_)) (λ(s_8:Unit)=>([]:Hp)) (λp=>o_11 = .go p) ?_ ?_
  ·refine aK (bX (β:=Nat×(List Entry)×(Unit)) (λp=>(λ(k_3:Nat) (l_4:List Entry) (s_8:Unit)=>([(0,(vL Entry.enc l_1)),(9,(vL Entry.enc l_1)),(10,(vI (l_1.length:Int))),(11,(vI (k_3:Int)))]:SL_)) p.1 p.2.1 p.2.2) (λp=>(λ(k_3:Nat) (l_4:List Entry) (s_8:Unit)=>([]:Hp)) p.1 p.2.1 p.2.2) (λp=>dR (λk x s=>dM l_1 k x s) p.2.1 p.1 p.2.2=some o_11/\(l_1).drop p.1=p.2.1) (λp=>p.2.1.length) (0,l_1,()) ⟨hj_12,rfl⟩ rfl (aN rfl) ?_)
   rintro ⟨k_3,l_4,s_8⟩ ⟨hL_10,hD_6⟩
   dsimp only at hL_10 hD_6
   cases l_4 with
   | nil =>
    obtain rfl:=aj hL_10
    refine ah (aa (ae (vB (decide ((k_3:Int)<(l_1.length:Int)))) wz rfl (ak ?_)))
    refine ah (aC rfl (drop_nil hD_6) (bT ?_))
    exact cB (s_8) rfl rfl (aN rfl)
   | cons x_5 l_4 =>
    obtain ⟨c_,hc_9,hL_10⟩:=bind_some hL_10
    refine ah (aa (ae (vB (decide ((k_3:Int)<(l_1.length:Int)))) wz rfl (ak ?_)))
    refine ah (aG rfl (dA hD_6) (ay ?_))
    unfold dM at hc_9
    refine ah (aK (ah (aa (ae (vI (k_3:Int)) wz rfl (iH lg rfl rfl (dU hD_6) rfl wz (eO fu jK rfl (.d (.agg (Entry.enc x_5))) rfl wz (fP 0 (.inl rfl) z35 rfl wz (λn_13=>ae (vI (k_3:Int)) wz rfl (gz 0 il ft 0 fu rfl rfl [(vS x_5.Key),(vS x_5.Item),(vI x_5.Version),(vI x_5.First),(vI x_5.Last),(vI x_5.Every),(vI x_5.Days),(vL eI x_5.Except),(vI x_5.From),(vI x_5.To),(vI x_5.Prio),(vL eS x_5.Tags),(vB x_5.Gone)] rfl wz (ak (ah (ah (aa (aB 0 0 il ft fu jK rfl rfl (.d (.agg (Entry.enc x_5))) rfl wz ?_))))))))))))))
    obtain ⟨r_14,hr_15,hc_9⟩:=bind_some hc_9
    refine aF (oQ hr_15) rfl hb50 rfl rfl rfl rfl wz (ae (vI r_14) wz rfl (ak (ah (aa (ae (vI r_14) wz rfl (ae (vB (r_14 != 0)) wz rfl (ak ?_)))))))
    rcases au hc_9 with⟨hc_16,hc_9⟩|⟨hc_16,hc_9⟩
    ·refine aG rfl hc_16 (ah (aa (ae (vI r_14) wz rfl (ae (vI r_14) wz rfl (ak ?_)))))
     obtain rfl:=aj hc_9
     obtain rfl:=aj hL_10
     obtain rfl:=aj hF
     exact aA (bv (.inr rfl) [(vI r_14)] ⟨rfl,trivial⟩ rfl rfl rfl)
    ·refine aC rfl hc_16 (ay (ah ?_))
     obtain ⟨v_17,h_18,hc_9⟩:=bind_some hc_9
     refine aJ (β:=Unit) (λ_=>([(0,(vL Entry.enc l_1)),(9,(vL Entry.enc l_1)),(10,(vI (l_1.length:Int))),(11,(vI (k_3:Int))),(33,(vB v_17))]:SL_)) (λ_=>([(n_13,some (.cells 13 [(vS x_5.Key),(vS x_5.Item),(vI x_5.Version),(vI x_5.First),(vI x_5.Last),(vI x_5.Every),(vI x_5.Days),(vL eI x_5.Except),(vI x_5.From),(vI x_5.To),(vI x_5.Prio),(vL eS x_5.Tags),(vB x_5.Gone)]))]:Hp)) (λ_=>True) ?_ ?_
     ·refine fC (ae (vI (k_3:Int)) wz rfl (ae (vB (decide ((k_3:Int)>0))) wz rfl ?_))
      rcases au h_18 with⟨hc_19,h_18⟩|⟨hc_19,h_18⟩
      ·refine ax rfl hc_19 wz (aD jd rfl 0 rfl wa (aB 4 0 (.inr (by kernel_rfl)) (λ_ _ ag=>trivial) sz9 ag9 rfl rfl (vS x_5.Key) rfl wa (ae (vL Entry.enc l_1) wa rfl (ae (vI (k_3:Int)) wa rfl (ae (vI (w64 ((k_3:Int)-1))) wa rfl ?_)))))
       obtain ⟨y_20,hy_21,h_18⟩:=bind_some h_18
       refine iH lg rfl rfl hy_21 rfl wa (h_fac jd rfl (Entry.enc y_20) rfl rfl wa (eO sz9 ag9 rfl (vS y_20.Key) rfl wa (ae (vB (sLe x_5.Key y_20.Key)) wa rfl (ae (vB (sLe x_5.Key y_20.Key)) wz rfl (ak ?_)))))
       obtain rfl:=aj h_18
       exact cu
      ·refine ax rfl hc_19 wz (af wa (af wa (af wa (af wa (af wa (af wa (af wa (af wa (af wa (ae (vB false) wz rfl (ak ?_)))))))))))
       obtain rfl:=aj h_18
       exact cu
     ·rintro ⟨⟩ _ sl_ H_ hp_ hq_
      refine aZ _ hp_ hq_ ?_
      rcases au hc_9 with⟨hc_22,hc_9⟩|⟨hc_22,hc_9⟩
      ·refine aG rfl hc_22 (ah (aa (ae (vI 7) wz rfl (ak ?_))))
       obtain rfl:=aj hc_9
       obtain rfl:=aj hL_10
       obtain rfl:=aj hF
       exact aA (bv (.inr rfl) [(vI 7)] ⟨rfl,trivial⟩ rfl rfl rfl)
      ·refine aC rfl hc_22 (ay (aa (gX (dD hD_6 hn_7) wz rfl (ae (vI ((k_3+1:Nat):Int)) wz rfl (ak ?_)))))
       obtain rfl:=aj hc_9
       exact bO (k_3+1,l_4,()) ⟨hL_10,bg hD_6⟩ (ls_ _) rfl (aN rfl)
  ·rintro s_8 ho_ sl_ H_ hp_ hq_
   subst ho_
   refine aZ _ hp_ hq_ (ah (aa (ae (vI 0) wz rfl (ak ?_))))
   obtain rfl:=aj hF
   exact aA (bv (.inr rfl) [(vI 0)] ⟨rfl,trivial⟩ rfl rfl rfl)
theorem jL {n_1:Int} {r:Bool} (hF:bH n_1=some r) :
  FnM Tryz.prog 86 [.nil,(vI n_1)] [] (kV r (av 0) 13 ([]:List Entry)) (kO r 13):=by
 refine FnM.of_wH ⟨Tryz.prog,27,[],[]⟩ rfl Tryz.func86 rfl rfl (lb_ rfl) (by kernel_rfl) ?_
 unfold bH at hF
 refine ah (aa (ae .nil wz rfl (ak (ah (ah (aa (ae (vI n_1) wz rfl (ae (vB (decide (n_1<0))) wz rfl (ak ?_)))))))))
 rcases au hF with⟨hc_2,hF⟩|⟨hc_2,hF⟩
 ·refine aG rfl hc_2 (aa ?_)
  cases hF
 ·refine aC rfl hc_2 (ay (ah (ah (aa (ae (vI n_1) wz rfl (ae .nil wz rfl (Fu uS rfl wz (ae .nil wz rfl (Fv nY rfl wz (ae (vI (w64 (0-0))) wz rfl (ae (vI (w64 (n_1-(w64 (0-0))))) wz rfl (ae (vI (w64 (n_1-(w64 (0-0))))) wz rfl (ak (ah (aa (ae (vI (w64 (n_1-(w64 (0-0))))) wz rfl (ae (vB (decide ((w64 (n_1-(w64 (0-0))))>0))) wz rfl (ak ?_))))))))))))))))))
  rcases au hF with⟨hc_3,hF⟩|⟨hc_3,hF⟩
  ·refine aG rfl hc_3 (aa (ae .nil wz rfl (ae .nil wz rfl (Fu uS rfl wz (ae .nil wz (by kernel_rfl) (ae (vI (w64 (n_1-(w64 (0-0))))) wz rfl ?_))))))
   obtain ⟨_,hz_5,hF⟩:=bind_some hF
   refine h_appz (enc:=Entry.enc) 0 (.inl rfl) uS (by kernel_rfl) fu z35 rfl (by decide) DX rfl rfl hz_5 wz (λn_4=>ae .nil wz rfl (Fv nY rfl wz (h_cutm (m:=0) nY fu rfl rfl rfl (Nat.zero_le _) wz (ae (.vs n_4 13 0 0) wz rfl (ak (ah (aa (ae (.vs n_4 13 0 0) wz rfl (ae (.vs n_4 13 0 0) wz rfl (ak ?_))))))))))
   obtain rfl:=aj hF
   exact aA (finK (.inr rfl) 0 rfl rfl)
  ·refine aC rfl hc_3 (ay (ah (aa (ae .nil wz rfl (ae .nil wz rfl (ak ?_))))))
   obtain rfl:=aj hF
   exact aA (finK0 (.inr rfl) rfl)
theorem jH {slices_1:(List (List Entry))} {r:(List Entry)} (hF:bG slices_1=some r) :
  FnM Tryz.prog 44 [(vL (eL Entry.enc) slices_1)] [] (vL Entry.enc r) []:=by
 refine FnM.of_wH ⟨Tryz.prog,36,[],[]⟩ rfl Tryz.func44 rfl rfl (lb_ rfl) (by kernel_rfl) ?_
 unfold bG at hF
 refine ah (aa (ae .nil wz rfl (ak (ah (aa (ae (vI 0) wz rfl (ak (ah (ah (aa (ae (vL (eL Entry.enc) slices_1) wz rfl (dP un140 rfl wz (ae (vI 0) wz rfl (ak ?_))))))))))))))
 obtain ⟨o_10,hj_11,hF⟩:=bind_some hF
 obtain ⟨hn_6,hj_11⟩:=bJ hj_11
 refine aJ (β:=(Int)) (λ(s_7:Int)=>([(0,(vL (eL Entry.enc) slices_1)),(3,(vI s_7))]:SL_)) (λ(s_7:Int)=>([]:Hp)) (λp=>o_10 = .go p) ?_ ?_
 ·refine aK (bX (β:=Nat×(List (List Entry))×(Int)) (λp=>(λ(k_2:Nat) (l_3:List (List Entry)) (s_7:Int)=>([(0,(vL (eL Entry.enc) slices_1)),(3,(vI s_7)),(9,(vL (eL Entry.enc) slices_1)),(10,(vI (slices_1.length:Int))),(11,(vI (k_2:Int)))]:SL_)) p.1 p.2.1 p.2.2) (λp=>(λ(k_2:Nat) (l_3:List (List Entry)) (s_7:Int)=>([]:Hp)) p.1 p.2.1 p.2.2) (λp=>dR (λk x s=>aO k x s) p.2.1 p.1 p.2.2=some o_10/\(slices_1).drop p.1=p.2.1) (λp=>p.2.1.length) (0,slices_1,0) ⟨hj_11,rfl⟩ rfl (aN rfl) ?_)
  rintro ⟨k_2,l_3,s_7⟩ ⟨hL_9,hD_5⟩
  dsimp only at hL_9 hD_5
  cases l_3 with
  | nil =>
   obtain rfl:=aj hL_9
   refine ah (aa (ae (vB (decide ((k_2:Int)<(slices_1.length:Int)))) wz rfl (ak ?_)))
   refine ah (aC rfl (drop_nil hD_5) (bT ?_))
   exact cB (s_7) rfl rfl (aN rfl)
  | cons x_4 l_3 =>
   obtain ⟨c_,hc_8,hL_9⟩:=bind_some hL_9
   refine ah (aa (ae (vB (decide ((k_2:Int)<(slices_1.length:Int)))) wz rfl (ak ?_)))
   refine ah (aG rfl (dA hD_5) (ay ?_))
   unfold aO at hc_8
   refine ah (aK (ah (aa (iH Fg rfl rfl (dU hD_5) rfl wz (eO sz26 ag26 rfl (vL Entry.enc x_4) rfl wz (ae (vL Entry.enc x_4) wz rfl (ak (ah (aa (ae (vI s_7) wz rfl (ae (vL Entry.enc x_4) wz rfl (dP nY rfl wz (ae (vI (w64 (s_7+(x_4.length:Int)))) wz rfl (ae (vI (w64 (s_7+(x_4.length:Int)))) wz rfl (ak (ah (aa (ae (vI (w64 (s_7+(x_4.length:Int)))) wz rfl (ae (vB (decide ((w64 (s_7+(x_4.length:Int)))<0))) wz rfl (ak ?_))))))))))))))))))))
   obtain ⟨v_12,h_13,hc_8⟩:=bind_some hc_8
   refine aJ (β:=Unit) (λ_=>([(0,(vL (eL Entry.enc) slices_1)),(3,(vI (w64 (s_7+(x_4.length:Int))))),(9,(vL (eL Entry.enc) slices_1)),(10,(vI (slices_1.length:Int))),(11,(vI (k_2:Int)))]:SL_)) (λ_=>([]:Hp)) (λ_=>True) ?_ ?_
   ·rcases au h_13 with⟨hc_14,h_13⟩|⟨hc_14,h_13⟩
    ·refine aG rfl hc_14 (aa ?_)
     cases h_13
    ·refine aC rfl hc_14 (ay ?_)
     obtain rfl:=aj h_13
     exact cu
   ·rintro ⟨⟩ _ sl_ H_ hp_ hq_
    refine aZ _ hp_ hq_ (aa (gX (dD hD_5 hn_6) wz rfl (ae (vI ((k_2+1:Nat):Int)) wz rfl (ak ?_))))
    obtain rfl:=aj hc_8
    exact bO (k_2+1,l_3,(w64 (s_7+(x_4.length:Int)))) ⟨hL_9,bg hD_5⟩ (ls_ _) rfl (aN rfl)
 ·rintro s_7 ho_ sl_ H_ hp_ hq_
  subst ho_
  refine aZ _ hp_ hq_ (ah (aa (ae (vI s_7) wz rfl ?_)))
  obtain ⟨b_15,hr_16,hF⟩:=bind_some hF
  refine h_callk (enc:=Entry.enc) (jL hr_16) rfl hb86 (by kernel_rfl) rfl (by kernel_rfl) wz (λn_17=>ae (kV b_15 n_17 13 ([]:List Entry)) wz rfl (ak (ah (ah (aa (ae (vL (eL Entry.enc) slices_1) wz rfl (dP un140 rfl wz (ae (vI 0) wz rfl (ak ?_)))))))))
  obtain ⟨o_28,hj_29,hF⟩:=bind_some hF
  obtain ⟨hn_22,hj_29⟩:=bJ hj_29
  refine aJ (β:=((List Entry))×Nm) (λp=>(λ(s_23:List Entry) (n_25:Nm)=>([(6,(kV b_15 n_25 13 s_23))]:SL_)) p.1 p.2) (λp=>(λ(s_23:List Entry) (n_25:Nm)=>([(n_25,kB b_15 13 Entry.enc s_23)]:Hp)) p.1 p.2) (λp=>o_28 = .go p.1) ?_ ?_
  ·refine aK (bX (β:=Nat×(List (List Entry))×((List Entry))×Nm) (λp=>(λ(k_18:Nat) (l_19:List (List Entry)) (s_23:List Entry) (n_25:Nm)=>([(6,(kV b_15 n_25 13 s_23)),(25,(vL (eL Entry.enc) slices_1)),(26,(vI (slices_1.length:Int))),(27,(vI (k_18:Int)))]:SL_)) p.1 p.2.1 p.2.2.1 p.2.2.2) (λp=>(λ(k_18:Nat) (l_19:List (List Entry)) (s_23:List Entry) (n_25:Nm)=>([(n_25,kB b_15 13 Entry.enc s_23)]:Hp)) p.1 p.2.1 p.2.2.1 p.2.2.2) (λp=>dR (λk x s=>aP k x s) p.2.1 p.1 p.2.2.1=some o_28/\(slices_1).drop p.1=p.2.1) (λp=>p.2.1.length) (0,slices_1,([]:List Entry),n_17) ⟨hj_29,rfl⟩ rfl (aN rfl) ?_)
   rintro ⟨k_18,l_19,s_23,n_25⟩ ⟨hL_27,hD_21⟩
   dsimp only at hL_27 hD_21
   cases l_19 with
   | nil =>
    obtain rfl:=aj hL_27
    refine ah (aa (ae (vB (decide ((k_18:Int)<(slices_1.length:Int)))) wz rfl (ak ?_)))
    refine ah (aC rfl (drop_nil hD_21) (bT ?_))
    exact cB (s_23,n_25) rfl rfl (aN rfl)
   | cons x_20 l_19 =>
    obtain ⟨c_,hc_26,hL_27⟩:=bind_some hL_27
    refine ah (aa (ae (vB (decide ((k_18:Int)<(slices_1.length:Int)))) wz rfl (ak ?_)))
    refine ah (aG rfl (dA hD_21) (ay ?_))
    unfold aP at hc_26
    refine ah (aK (ah (aa (iH Fg rfl rfl (dU hD_21) rfl wz (eO sz26 ag26 rfl (vL Entry.enc x_20) rfl wz (ae (vL Entry.enc x_20) wz rfl (ak (aa (ae (kV b_15 n_25 13 s_23) wz rfl (ae (vL Entry.enc x_20) wz rfl ?_))))))))))
    obtain ⟨a_30,hz_31,hc_26⟩:=bind_some hc_26
    refine h_appk 0 il ft (i:=0) uS uS fu z35 rfl (by decide) DX (by decide) (λ_=>rfl) rfl rfl rfl hz_31 wz (λn_32=>ae (kV b_15 n_32 13 a_30) wz rfl (ak (aa (gX (dD hD_21 hn_22) wz rfl (ae (vI ((k_18+1:Nat):Int)) wz rfl (ak ?_))))))
    obtain rfl:=aj hc_26
    exact bO (k_18+1,l_19,a_30,n_32) ⟨hL_27,bg hD_21⟩ (ls_ _) rfl (aN rfl)
  ·rintro ⟨s_23,n_25⟩ ho_ sl_ H_ hp_ hq_
   subst ho_
   refine aZ _ hp_ hq_ (ah (aa (ae (kV b_15 n_25 13 s_23) wz rfl (ae (kV b_15 n_25 13 s_23) wz rfl (ak (EY 0 rfl (BZ 2 0 rfl rfl (BZ 6 0 rfl rfl (BZ 35 0 rfl rfl ?_)))))))))
   obtain rfl:=aj hF
   exact aA (bv (.inr rfl) [(vL Entry.enc s_23)] ⟨rfl,trivial⟩ rfl rfl rfl)
theorem j3 {s1_1:(List Int)} {s2_2:(List Int)} {r:Bool} (hF:dS s1_1 s2_2=some r) :
  FnM Tryz.prog 63 [(vL eI s1_1),(vL eI s2_2)] [] (vB r) []:=by
 refine FnM.of_wH ⟨Tryz.prog,26,[],[]⟩ rfl Tryz.func63 rfl rfl (lb_ rfl) (by kernel_rfl) ?_
 unfold dS at hF
 refine ah (aa (ae (vB false) wz rfl (ak (ah (ah (aa (ae (vL eI s1_1) wz rfl (dP qj rfl wz (ae (vL eI s2_2) wz rfl (dP qj rfl wz (ae (vB ((s1_1.length:Int) != (s2_2.length:Int))) wz rfl (ak ?_))))))))))))
 rcases au hF with⟨hc_3,hF⟩|⟨hc_3,hF⟩
 ·refine aG rfl hc_3 (ah (aa (ae (vB false) wz rfl (ak ?_))))
  obtain rfl:=aj hF
  exact aA (bv (.inr rfl) [(vB false)] ⟨rfl,trivial⟩ rfl rfl rfl)
 ·refine aC rfl hc_3 (ay (ah (ah (aa (ae (vL eI s1_1) wz rfl (dP qj rfl wz (ae (vI 0) wz rfl (ak ?_))))))))
  obtain ⟨o_12,hj_13,hF⟩:=bind_some hF
  obtain ⟨hn_8,hj_13⟩:=bJ hj_13
  refine aJ (β:=(Unit)) (λ(s_9:Unit)=>([]:SL_)) (λ(s_9:Unit)=>([]:Hp)) (λp=>o_12 = .go p) ?_ ?_
  ·refine aK (bX (β:=Nat×(List Int)×(Unit)) (λp=>(λ(k_4:Nat) (l_5:List Int) (s_9:Unit)=>([(0,(vL eI s1_1)),(1,(vL eI s2_2)),(12,(vI (s1_1.length:Int))),(13,(vI (k_4:Int)))]:SL_)) p.1 p.2.1 p.2.2) (λp=>(λ(k_4:Nat) (l_5:List Int) (s_9:Unit)=>([]:Hp)) p.1 p.2.1 p.2.2) (λp=>dR (λk x s=>dx s2_2 k x s) p.2.1 p.1 p.2.2=some o_12/\(s1_1).drop p.1=p.2.1) (λp=>p.2.1.length) (0,s1_1,()) ⟨hj_13,rfl⟩ rfl (aN rfl) ?_)
   rintro ⟨k_4,l_5,s_9⟩ ⟨hL_11,hD_7⟩
   dsimp only at hL_11 hD_7
   cases l_5 with
   | nil =>
    obtain rfl:=aj hL_11
    refine ah (aa (ae (vB (decide ((k_4:Int)<(s1_1.length:Int)))) wz rfl (ak ?_)))
    refine ah (aC rfl (drop_nil hD_7) (bT ?_))
    exact cB (s_9) rfl rfl (aN rfl)
   | cons x_6 l_5 =>
    obtain ⟨c_,hc_10,hL_11⟩:=bind_some hL_11
    refine ah (aa (ae (vB (decide ((k_4:Int)<(s1_1.length:Int)))) wz rfl (ak ?_)))
    refine ah (aG rfl (dA hD_7) (ay ?_))
    unfold dx at hc_10
    refine ah (aK (ah (aa (ae (vI (k_4:Int)) wz rfl (ae (vI (k_4:Int)) wz rfl (ak (ah (fC (ae (vL eI s1_1) wz rfl (ae (vI (k_4:Int)) wz rfl (iH kw rfl rfl (dU hD_7) rfl wz (eO sz3 ag3 rfl (vI x_6) rfl wz (ae (vL eI s2_2) wz rfl (ae (vI (k_4:Int)) wz rfl ?_))))))))))))))
    obtain ⟨y_14,hy_15,hc_10⟩:=bind_some hc_10
    refine iH kw rfl rfl hy_15 rfl wz (eO sz3 ag3 rfl (vI y_14) rfl wz (ae (vB (x_6 != y_14)) wz rfl (ak ?_)))
    rcases au hc_10 with⟨hc_16,hc_10⟩|⟨hc_16,hc_10⟩
    ·refine aG rfl hc_16 (ah (aa (ae (vB false) wz rfl (ak ?_))))
     obtain rfl:=aj hc_10
     obtain rfl:=aj hL_11
     obtain rfl:=aj hF
     exact aA (bv (.inr rfl) [(vB false)] ⟨rfl,trivial⟩ rfl rfl rfl)
    ·refine aC rfl hc_16 (ay (aa (gX (dD hD_7 hn_8) wz rfl (ae (vI ((k_4+1:Nat):Int)) wz rfl (ak ?_)))))
     obtain rfl:=aj hc_10
     exact bO (k_4+1,l_5,()) ⟨hL_11,bg hD_7⟩ (ls_ _) rfl (aN rfl)
  ·rintro s_9 ho_ sl_ H_ hp_ hq_
   subst ho_
   refine aZ _ hp_ hq_ (ah (aa (ae (vB true) wz rfl (ak ?_))))
   obtain rfl:=aj hF
   exact aA (bv (.inr rfl) [(vB true)] ⟨rfl,trivial⟩ rfl rfl rfl)
theorem ic {s1_1:(List ByteArray)} {s2_2:(List ByteArray)} {r:Bool} (hF:bR s1_1 s2_2=some r) :
  FnM Tryz.prog 33 [(vL eS s1_1),(vL eS s2_2)] [] (vB r) []:=by
 refine FnM.of_wH ⟨Tryz.prog,26,[],[]⟩ rfl Tryz.func33 rfl rfl (lb_ rfl) (by kernel_rfl) ?_
 unfold bR at hF
 refine ah (aa (ae (vB false) wz rfl (ak (ah (ah (aa (ae (vL eS s1_1) wz rfl (dP uN rfl wz (ae (vL eS s2_2) wz rfl (dP uN rfl wz (ae (vB ((s1_1.length:Int) != (s2_2.length:Int))) wz rfl (ak ?_))))))))))))
 rcases au hF with⟨hc_3,hF⟩|⟨hc_3,hF⟩
 ·refine aG rfl hc_3 (ah (aa (ae (vB false) wz rfl (ak ?_))))
  obtain rfl:=aj hF
  exact aA (bv (.inr rfl) [(vB false)] ⟨rfl,trivial⟩ rfl rfl rfl)
 ·refine aC rfl hc_3 (ay (ah (ah (aa (ae (vL eS s1_1) wz rfl (dP uN rfl wz (ae (vI 0) wz rfl (ak ?_))))))))
  obtain ⟨o_12,hj_13,hF⟩:=bind_some hF
  obtain ⟨hn_8,hj_13⟩:=bJ hj_13
  refine aJ (β:=(Unit)) (λ(s_9:Unit)=>([]:SL_)) (λ(s_9:Unit)=>([]:Hp)) (λp=>o_12 = .go p) ?_ ?_
  ·refine aK (bX (β:=Nat×(List ByteArray)×(Unit)) (λp=>(λ(k_4:Nat) (l_5:List ByteArray) (s_9:Unit)=>([(0,(vL eS s1_1)),(1,(vL eS s2_2)),(12,(vI (s1_1.length:Int))),(13,(vI (k_4:Int)))]:SL_)) p.1 p.2.1 p.2.2) (λp=>(λ(k_4:Nat) (l_5:List ByteArray) (s_9:Unit)=>([]:Hp)) p.1 p.2.1 p.2.2) (λp=>dR (λk x s=>bD s2_2 k x s) p.2.1 p.1 p.2.2=some o_12/\(s1_1).drop p.1=p.2.1) (λp=>p.2.1.length) (0,s1_1,()) ⟨hj_13,rfl⟩ rfl (aN rfl) ?_)
   rintro ⟨k_4,l_5,s_9⟩ ⟨hL_11,hD_7⟩
   dsimp only at hL_11 hD_7
   cases l_5 with
   | nil =>
    obtain rfl:=aj hL_11
    refine ah (aa (ae (vB (decide ((k_4:Int)<(s1_1.length:Int)))) wz rfl (ak ?_)))
    refine ah (aC rfl (drop_nil hD_7) (bT ?_))
    exact cB (s_9) rfl rfl (aN rfl)
   | cons x_6 l_5 =>
    obtain ⟨c_,hc_10,hL_11⟩:=bind_some hL_11
    refine ah (aa (ae (vB (decide ((k_4:Int)<(s1_1.length:Int)))) wz rfl (ak ?_)))
    refine ah (aG rfl (dA hD_7) (ay ?_))
    unfold bD at hc_10
    refine ah (aK (ah (aa (ae (vI (k_4:Int)) wz rfl (ae (vI (k_4:Int)) wz rfl (ak (ah (fC (ae (vL eS s1_1) wz rfl (ae (vI (k_4:Int)) wz rfl (iH kv rfl rfl (dU hD_7) rfl wz (eO sz9 ag9 rfl (vS x_6) rfl wz (ae (vL eS s2_2) wz rfl (ae (vI (k_4:Int)) wz rfl ?_))))))))))))))
    obtain ⟨y_14,hy_15,hc_10⟩:=bind_some hc_10
    refine iH kv rfl rfl hy_15 rfl wz (eO sz9 ag9 rfl (vS y_14) rfl wz (ae (vB (sNe x_6 y_14)) wz rfl (ak ?_)))
    rcases au hc_10 with⟨hc_16,hc_10⟩|⟨hc_16,hc_10⟩
    ·refine aG rfl hc_16 (ah (aa (ae (vB false) wz rfl (ak ?_))))
     obtain rfl:=aj hc_10
     obtain rfl:=aj hL_11
     obtain rfl:=aj hF
     exact aA (bv (.inr rfl) [(vB false)] ⟨rfl,trivial⟩ rfl rfl rfl)
    ·refine aC rfl hc_16 (ay (aa (gX (dD hD_7 hn_8) wz rfl (ae (vI ((k_4+1:Nat):Int)) wz rfl (ak ?_)))))
     obtain rfl:=aj hc_10
     exact bO (k_4+1,l_5,()) ⟨hL_11,bg hD_7⟩ (ls_ _) rfl (aN rfl)
  ·rintro s_9 ho_ sl_ H_ hp_ hq_
   subst ho_
   refine aZ _ hp_ hq_ (ah (aa (ae (vB true) wz rfl (ak ?_))))
   obtain rfl:=aj hF
   exact aA (bv (.inr rfl) [(vB true)] ⟨rfl,trivial⟩ rfl rfl rfl)
end Go.Proofs.YtnjnggakgeommaaGreatDoor.Law

