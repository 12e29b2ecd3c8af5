/-
 The machine computes these plain functions (written by a program of ours).
-/
import Derived.Test.YtdenjndllgahgaaGreatDoorFacts
import Derived.Test.YtdenjndllgahgaaGreatDoorDefs
import Derived.Test.YtdenjndllgahgaaGreatDoorPf2
open Go Go.Eng Go.Proofs
namespace Go.Proofs.YtdenjndllgahgaaGreatDoor.Law
set_option maxRecDepth 100000
set_option linter.unusedVariables false
set_option maxHeartbeats 1000000
theorem gq {s_1:(List Log_)} {f2_3:Stream} {r:Int×Stream} (hF:bz s_1 f2_3=some r) :
  FnM Tryz.prog 87 [(vL Log_.enc s_1),(.fn 44 [(.ref (au 0) 0 0)])] [(.cells 1 [(.ref (au 1) 0 0)]),(.cells 2 [(vL eI f2_3.L),(vI f2_3.f_at)])] (vI r.1) [some (.cells 1 [(.ref (au 1) 0 0)]),some (.cells 2 [(vL eI r.2.L),(vI r.2.f_at)])]:=by
 refine FnM.of_wH ⟨Tryz.prog,19,[],[]⟩ rfl Tryz.func87 rfl rfl (lb_ rfl) (by kernel_rfl) ?_
 unfold bz at hF
 refine af (aa (ae (vI 0) wz rfl (ai (af (af (aa (ae (vL Log_.enc s_1) wz rfl (eP kC rfl wz (ae (vI 0) wz rfl (ai ?_))))))))))
 obtain ⟨o_12,hj_13,hF⟩:=bind_some hF
 obtain ⟨hn_8,hj_13⟩:=bJ hj_13
 refine aH (β:=((List Int)×Int)) (λ(s_9:(List Int)×Int)=>([]:SL_)) (λ(s_9:(List Int)×Int)=>([((au 0),some (.cells 1 [(.ref (au 1) 0 0)])),((au 1),some (.cells 2 [(vL eI s_9.1),(vI s_9.2)]))]:Hp)) (λp=>o_12 = .go p) ?_ ?_
 ·refine aG (bZ (β:=Nat×(List Log_)×((List Int)×Int)) (λp=>(λ(k_4:Nat) (l_5:List Log_) (s_9:(List Int)×Int)=>([(0,(vL Log_.enc s_1)),(1,(.fn 44 [(.ref (au 0) 0 0)])),(7,(vI (s_1.length:Int))),(8,(vI (k_4:Int)))]:SL_)) p.1 p.2.1 p.2.2) (λp=>(λ(k_4:Nat) (l_5:List Log_) (s_9:(List Int)×Int)=>([((au 0),some (.cells 1 [(.ref (au 1) 0 0)])),((au 1),some (.cells 2 [(vL eI s_9.1),(vI s_9.2)]))]:Hp)) p.1 p.2.1 p.2.2) (λp=>dF (λk x s=>bL k x s) p.2.1 p.1 p.2.2=some o_12/\(s_1).drop p.1=p.2.1) (λp=>p.2.1.length) (0,s_1,(f2_3.L,f2_3.f_at)) ⟨hj_13,rfl⟩ rfl (aN rfl) ?_)
  rintro ⟨k_4,l_5,s_9⟩ ⟨hL_11,hD_7⟩
  dsimp only at hL_11 hD_7
  cases l_5 with
  | nil =>
   obtain rfl:=ah hL_11
   refine af (aa (ae (vB (decide ((k_4:Int)<(s_1.length:Int)))) wz rfl (ai ?_)))
   refine af (aA rfl (drop_nil hD_7) (cz ?_))
   exact bW (s_9) rfl rfl (aN rfl)
  | cons x_6 l_5 =>
   obtain ⟨c_,hc_10,hL_11⟩:=bind_some hL_11
   refine af (aa (ae (vB (decide ((k_4:Int)<(s_1.length:Int)))) wz rfl (ai ?_)))
   refine af (aB rfl (dN hD_7) (ax ?_))
   unfold bL at hc_10
   refine af (aG (af (aa (ae (vI (k_4:Int)) wz rfl (ae (vI (k_4:Int)) wz rfl (ai (af (aa (ae (.fn 44 [(.ref (au 0) 0 0)]) wz rfl (ae (vL Log_.enc s_1) wz rfl (ae (vI (k_4:Int)) wz rfl (gM kz rfl rfl (eB hD_7) rfl wz (dM eG iw rfl (.d (.agg (Log_.enc x_6))) rfl wz ?_)))))))))))))
   obtain ⟨r_14,hr_15,hc_10⟩:=bind_some hc_10
   refine bu 0 [0,1] il ft (iG hr_15) rfl hb44 rfl (by kernel_rfl) (by kernel_rfl) (by kernel_rfl) (by kernel_rfl) (by kernel_rfl) (by kernel_rfl) (by kernel_rfl) (by decide) (by kernel_rfl) wz (vB r_14.1) (by kernel_rfl) ([((au 0),some (.cells 1 [(.ref (au 1) 0 0)])),((au 1),some (.cells 2 [(vL eI r_14.2.L),(vI r_14.2.f_at)]))]:Hp) (by kernel_rfl) (ai ?_)
   rcases ak hc_10 with⟨hc_17,hc_10⟩|⟨hc_17,hc_10⟩
   ·refine aB rfl hc_17 (af (aa (ae (vI (k_4:Int)) wz rfl (ae (vI (k_4:Int)) wz rfl (ai ?_)))))
    obtain rfl:=ah hc_10
    obtain rfl:=ah hL_11
    obtain rfl:=ah hF
    exact av (nI (.inr rfl) [(vI (k_4:Int))] _ [0,1] [au 0,au 1] ⟨rfl,trivial⟩ (.cons (eQ rfl rfl) (.nil)) (by kernel_rfl) ⟨(by kernel_rfl),⟨(by kernel_rfl),trivial⟩⟩ (by decide) (by kernel_rfl))
   ·refine aA rfl hc_17 (ax (aa (iQ (dX hD_7 hn_8) wz rfl (ae (vI ((k_4+1:Nat):Int)) wz rfl (ai ?_)))))
    obtain rfl:=ah hc_10
    exact cO (k_4+1,l_5,(r_14.2.L,r_14.2.f_at)) ⟨hL_11,bv hD_7⟩ (ls_ _) rfl (aN rfl)
 ·rintro s_9 ho_ sl_ H_ hp_ hq_
  subst ho_
  refine aV _ hp_ hq_ (af (aa (ae (vI (-1)) wz rfl (ai ?_))))
  obtain rfl:=ah hF
  exact av (nI (.inr rfl) [(vI (-1))] _ [0,1] [au 0,au 1] ⟨rfl,trivial⟩ (.cons (eQ rfl rfl) (.nil)) (by kernel_rfl) ⟨(by kernel_rfl),⟨(by kernel_rfl),trivial⟩⟩ (by decide) (by kernel_rfl))
theorem fV {del2_3:Stream} {r:Stream} (hF:aX del2_3=some r) :
  FnM Tryz.prog 43 [.nil,(.fn 44 [(.ref (au 0) 0 0)])] [(.cells 1 [(.ref (au 1) 0 0)]),(.cells 2 [(vL eI del2_3.L),(vI del2_3.f_at)])] .nil [some (.cells 1 [(.ref (au 1) 0 0)]),some (.cells 2 [(vL eI r.L),(vI r.f_at)])]:=by
 refine FnM.of_wH ⟨Tryz.prog,42,[],[]⟩ rfl Tryz.func43 rfl rfl (lb_ rfl) (by kernel_rfl) ?_
 unfold aX at hF
 refine af (aa (ae .nil wz rfl (ai (af (aa (ae .nil wz rfl (ae (.fn 44 [(.ref (au 0) 0 0)]) wz rfl ?_)))))))
 obtain ⟨r_4,hr_5,hF⟩:=bind_some hF
 refine bu 0 [0,1] il ft (gq hr_5) rfl hb87 rfl (by kernel_rfl) (by kernel_rfl) (by kernel_rfl) (by kernel_rfl) (by kernel_rfl) (by kernel_rfl) (by kernel_rfl) (by decide) (by kernel_rfl) wz (vI r_4.1) (by kernel_rfl) ([((au 0),some (.cells 1 [(.ref (au 1) 0 0)])),((au 1),some (.cells 2 [(vL eI r_4.2.L),(vI r_4.2.f_at)]))]:Hp) (by kernel_rfl) (ae (vI r_4.1) wz rfl (ai (af (af (aa (ae (vI r_4.1) wz rfl (ae (vB (r_4.1==(-1))) wz rfl (ai ?_))))))))
 rcases ak hF with⟨hc_7,hF⟩|⟨hc_7,hF⟩
 ·refine aB rfl hc_7 (af (aa (ae .nil wz rfl (ae .nil wz rfl (ai ?_)))))
  obtain rfl:=ah hF
  exact av (nI (.inr rfl) [.nil] _ [0,1] [au 0,au 1] ⟨rfl,trivial⟩ (.cons (uQ _) (.nil)) (by kernel_rfl) ⟨(by kernel_rfl),⟨(by kernel_rfl),trivial⟩⟩ (by decide) (by kernel_rfl))
 ·refine aA rfl hc_7 (ax (af (af (aa (ae (vI r_4.1) wz rfl (ae (vI (w64 (r_4.1+1))) wz rfl (ae (vI (w64 (r_4.1+1))) wz rfl (ai ?_))))))))
  obtain ⟨o_16,hj_17,hF⟩:=bind_some hF
  obtain ⟨nq_19,hj_17⟩:=jA hj_17
  refine aH (β:=(Unit)) (λ(s_13:Unit)=>([(0,.nil),(5,(vI r_4.1))]:SL_)) (λ(s_13:Unit)=>([((au 0),some (.cells 1 [(.ref (au 1) 0 0)])),((au 1),some (.cells 2 [(vL eI r_4.2.L),(vI r_4.2.f_at)]))]:Hp)) (λp=>o_16 = .go p) ?_ ?_
  ·refine aG (bZ (β:=Nat×(Unit)) (λp=>(λ(k_8:Nat) (s_13:Unit)=>([(0,.nil),(1,(.fn 44 [(.ref (au 0) 0 0)])),(5,(vI r_4.1)),(6,(vI (w64 (r_4.1+1))))]:SL_)) p.1 p.2) (λp=>(λ(k_8:Nat) (s_13:Unit)=>([((au 0),some (.cells 1 [(.ref (au 1) 0 0)])),((au 1),some (.cells 2 [(vL eI r_4.2.L),(vI r_4.2.f_at)]))]:Hp)) p.1 p.2) (λp=>fE (λs=>bH r_4 s) p.1 p.2=some o_16) (λp=>p.1) (nq_19,()) hj_17 rfl (aN rfl) ?_)
   rintro ⟨k_8,s_13⟩ hL_15
   dsimp only at hL_15
   cases k_8 with
   | zero=>cases hL_15
   | succ k_8 =>
    obtain ⟨c_,hc_14,hL_15⟩:=bind_some hL_15
    unfold bH at hc_14
    refine af (af (aa (ae (vI (w64 (r_4.1+1))) wz rfl (ae .nil wz rfl (h_lenn kC rfl wz (ae (vB (decide ((w64 (r_4.1+1))<0))) wz rfl (ai ?_)))))))
    rcases ak hc_14 with⟨hc_18,hc_14⟩|⟨hc_18,hc_14⟩
    ·refine aB rfl hc_18 (ax (af (aG (af (aa (ae .nil wz rfl (ae (vI (w64 (r_4.1+1))) wz rfl ?_)))))))
     cases hc_14
    ·refine aA rfl hc_18 (cz ?_)
     obtain rfl:=ah hc_14
     obtain rfl:=ah hL_15
     exact bW (()) rfl rfl (aN rfl)
  ·rintro s_13 ho_ sl_ H_ hp_ hq_
   subst ho_
   refine aV _ hp_ hq_ (af (aa (ae .nil wz rfl (ae (vI r_4.1) wz rfl ?_))))
   cases hF
theorem uO {last_1:ByteArray} {l_2:(List Log_)} {r:(List Log_)×Int} (hF:jQ last_1 l_2=some r) :
  FnM Tryz.prog 45 [(vS last_1),(vL Log_.enc l_2)] [] (.tup [(vL Log_.enc r.1),(vI r.2)]) []:=by
 refine FnM.of_wH ⟨Tryz.prog,68,[],[]⟩ rfl Tryz.func45 rfl rfl (lb_ rfl) (by kernel_rfl) ?_
 unfold jQ at hF
 refine af (aa (ae .nil wz rfl (ae (vI 0) wz rfl (ai (af (af (aa (ae (vS last_1) wz rfl ?_))))))))
 obtain ⟨r_3,hr_4,hF⟩:=bind_some hF
 refine ay (lc hr_4) rfl hb85 rfl rfl rfl rfl wz (ae (vI r_3) wz rfl (ai (af (aa (ae (vI r_3) wz rfl (ae (vB (r_3 != 0)) wz rfl (ai ?_)))))))
 rcases ak hF with⟨hc_5,hF⟩|⟨hc_5,hF⟩
 ·refine aB rfl hc_5 (af (aa (ae (vI r_3) wz rfl (ae .nil wz rfl (ae (vI r_3) wz rfl (ai ?_))))))
  obtain rfl:=ah hF
  exact av (aS (.inr rfl) [.nil,(vI r_3)] ⟨rfl,⟨rfl,trivial⟩⟩ rfl rfl rfl)
 ·refine aA rfl hc_5 (ax (af (af (aa (ae (vL Log_.enc l_2) wz rfl (eP kC rfl wz (ae (vB (decide ((l_2.length:Int)>2000))) wz rfl (ai ?_))))))))
  rcases ak hF with⟨hc_6,hF⟩|⟨hc_6,hF⟩
  ·refine aB rfl hc_6 (af (aa (ae .nil wz rfl (ae (vI 2) wz rfl (ai ?_)))))
   obtain rfl:=ah hF
   exact av (aS (.inr rfl) [.nil,(vI 2)] ⟨rfl,⟨rfl,trivial⟩⟩ rfl rfl rfl)
  ·refine aA rfl hc_6 (ax (af (aa (ae (vL Log_.enc l_2) wz rfl ?_))))
   obtain ⟨r_7,hr_8,hF⟩:=bind_some hF
   refine yg [] (eX hr_8) rfl hb29 rfl (by kernel_rfl) (by kernel_rfl) (by kernel_rfl) (by kernel_rfl) (by kernel_rfl) rfl (by decide) (by kernel_rfl) wz ([]:Hp) (λ_=>by kernel_rfl) (λn_10=>ae (gV n_10 6 r_7) wz rfl (ai (af (af (aa (ae (vL Log_.enc l_2) wz rfl (eP kC rfl wz (ae (vI 0) wz rfl (ai ?_)))))))))
   obtain ⟨o_19,hj_20,hF⟩:=bind_some hF
   obtain ⟨hn_15,hj_20⟩:=bJ hj_20
   refine aH (β:=((List Log_)×ByteArray)) (λ(s_16:(List Log_)×ByteArray)=>([(7,(gV n_10 6 s_16.1))]:SL_)) (λ(s_16:(List Log_)×ByteArray)=>([(n_10,gB 6 Log_.enc s_16.1)]:Hp)) (λp=>o_19 = .go p) ?_ ?_
   ·refine aG (bZ (β:=Nat×(List Log_)×((List Log_)×ByteArray)) (λp=>(λ(k_11:Nat) (l_12:List Log_) (s_16:(List Log_)×ByteArray)=>([(0,(vS s_16.2)),(1,(vL Log_.enc l_2)),(7,(gV n_10 6 s_16.1)),(21,(vL Log_.enc l_2)),(22,(vI (l_2.length:Int))),(23,(vI (k_11:Int)))]:SL_)) p.1 p.2.1 p.2.2) (λp=>(λ(k_11:Nat) (l_12:List Log_) (s_16:(List Log_)×ByteArray)=>([(n_10,gB 6 Log_.enc s_16.1)]:Hp)) p.1 p.2.1 p.2.2) (λp=>dF (λk x s=>dZ l_2 k x s) p.2.1 p.1 p.2.2=some o_19/\(l_2).drop p.1=p.2.1) (λp=>p.2.1.length) (0,l_2,(r_7,last_1)) ⟨hj_20,rfl⟩ rfl (aN rfl) ?_)
    rintro ⟨k_11,l_12,s_16⟩ ⟨hL_18,hD_14⟩
    dsimp only at hL_18 hD_14
    cases l_12 with
    | nil =>
     obtain rfl:=ah hL_18
     refine af (aa (ae (vB (decide ((k_11:Int)<(l_2.length:Int)))) wz rfl (ai ?_)))
     refine af (aA rfl (drop_nil hD_14) (cz ?_))
     exact bW (s_16) rfl rfl (aN rfl)
    | cons x_13 l_12 =>
     obtain ⟨c_,hc_17,hL_18⟩:=bind_some hL_18
     refine af (aa (ae (vB (decide ((k_11:Int)<(l_2.length:Int)))) wz rfl (ai ?_)))
     refine af (aB rfl (dN hD_14) (ax ?_))
     unfold dZ at hc_17
     refine af (aG (af (aa (ae (vI (k_11:Int)) wz rfl (gM kz rfl rfl (eB hD_14) rfl wz (dM eG iw rfl (.d (.agg (Log_.enc x_13))) rfl wz (iA 0 (.inl rfl) z43 rfl wz (λn_21=>ae (vI (k_11:Int)) wz rfl (lm 0 il ft 1 eG rfl rfl [(vS x_13.Player),(vS x_13.Item),(vI x_13.No),(vI x_13.Clock),(vI x_13.Long),(vS x_13.Sum)] rfl wz (ai (af (af (aa (aK 0 1 il ft eG iw rfl rfl (.d (.agg (Log_.enc x_13))) rfl wz ?_))))))))))))))
     obtain ⟨r_22,hr_23,hc_17⟩:=bind_some hc_17
     refine ay (ja hr_23) rfl hb83 rfl rfl rfl rfl wz (ae (vI r_22) wz rfl (ai (af (aa (ae (vI r_22) wz rfl (ae (vB (r_22 != 0)) wz rfl (ai ?_)))))))
     rcases ak hc_17 with⟨hc_24,hc_17⟩|⟨hc_24,hc_17⟩
     ·refine aB rfl hc_24 (af (aa (ae (vI r_22) wz rfl (ae .nil wz rfl (ae (vI r_22) wz rfl (ai ?_))))))
      obtain rfl:=ah hc_17
      obtain rfl:=ah hL_18
      obtain rfl:=ah hF
      exact av (aS (.inr rfl) [.nil,(vI r_22)] ⟨rfl,⟨rfl,trivial⟩⟩ rfl rfl rfl)
     ·refine aA rfl hc_24 (ax (af (af ?_)))
      obtain ⟨v_25,h_26,hc_17⟩:=bind_some hc_17
      refine aH (β:=Unit) (λ_=>([(0,(vS s_16.2)),(1,(vL Log_.enc l_2)),(7,(gV n_10 6 s_16.1)),(8,(vI (k_11:Int))),(9,(.ref n_21 0 0)),(21,(vL Log_.enc l_2)),(22,(vI (l_2.length:Int))),(23,(vI (k_11:Int))),(43,(vB v_25))]:SL_)) (λ_=>([(n_10,gB 6 Log_.enc s_16.1),(n_21,some (.cells 6 [(vS x_13.Player),(vS x_13.Item),(vI x_13.No),(vI x_13.Clock),(vI x_13.Long),(vS x_13.Sum)]))]:Hp)) (λ_=>True) ?_ ?_
      ·refine bU (ae (vI (k_11:Int)) wz rfl (ae (vB (decide ((k_11:Int)>0))) wz rfl ?_))
       rcases ak h_26 with⟨hc_27,h_26⟩|⟨hc_27,h_26⟩
       ·refine aC rfl hc_27 wz (aO fZ rfl 0 rfl wa (aK 4 1 (.inr (by kernel_rfl)) (λ_ _ ag=>trivial) sz9 ag9 rfl rfl (vS x_13.Player) rfl wa (ae (vL Log_.enc l_2) wa rfl ?_)))
        obtain ⟨y_28,hy_29,h_26⟩:=bind_some h_26
        refine gM kz rfl rfl hy_29 rfl wa (nY fZ rfl [.str y_28.Player,.str y_28.Item,.int .i64 y_28.No,.int .i64 y_28.Clock,.int .i64 y_28.Long,.str y_28.Sum] rfl rfl wa (dM sz9 ag9 rfl (vS y_28.Player) rfl wa (ae (vB (sNe x_13.Player y_28.Player)) wa rfl (ae (vB (sNe x_13.Player y_28.Player)) wz rfl (ai ?_)))))
        obtain rfl:=ah h_26
        exact cu
       ·refine aC rfl hc_27 wz (aj wa (aj wa (aj wa (aj wa (aj wa (aj wa (aj wa (ae (vB false) wz rfl (ai ?_)))))))))
        obtain rfl:=ah h_26
        exact cu
      ·rintro ⟨⟩ _ sl_ H_ hp_ hq_
       refine aV _ hp_ hq_ ?_
       rcases ak hc_17 with⟨hc_30,hc_17⟩|⟨hc_30,hc_17⟩
       ·refine aB rfl hc_30 (af (aa (ae .nil wz rfl (ae (vI 13) wz rfl (ai ?_)))))
        obtain rfl:=ah hc_17
        obtain rfl:=ah hL_18
        obtain rfl:=ah hF
        exact av (aS (.inr rfl) [.nil,(vI 13)] ⟨rfl,⟨rfl,trivial⟩⟩ rfl rfl rfl)
       ·refine aA rfl hc_30 (ax (af (af ?_)))
        obtain ⟨v_31,h_32,hc_17⟩:=bind_some hc_17
        refine aH (β:=Unit) (λ_=>([(0,(vS s_16.2)),(1,(vL Log_.enc l_2)),(7,(gV n_10 6 s_16.1)),(8,(vI (k_11:Int))),(9,(.ref n_21 0 0)),(21,(vL Log_.enc l_2)),(22,(vI (l_2.length:Int))),(23,(vI (k_11:Int))),(57,(vB v_31))]:SL_)) (λ_=>([(n_10,gB 6 Log_.enc s_16.1),(n_21,some (.cells 6 [(vS x_13.Player),(vS x_13.Item),(vI x_13.No),(vI x_13.Clock),(vI x_13.Long),(vS x_13.Sum)]))]:Hp)) (λ_=>True) ?_ ?_
        ·refine bU (ae (vI (k_11:Int)) wz rfl (ae (vB (decide ((k_11:Int)>0))) wz rfl ?_))
         rcases ak h_32 with⟨hc_33,h_32⟩|⟨hc_33,h_32⟩
         ·refine aC rfl hc_33 wz (aO iX rfl 2 rfl wa (aK 4 1 (.inr (by kernel_rfl)) (λ_ _ ag=>trivial) sz3 ag3 rfl rfl (vI x_13.No) rfl wa (ae (vL Log_.enc l_2) wa rfl (ae (vI (k_11:Int)) wa rfl (ae (vI (w64 ((k_11:Int)-1))) wa rfl ?_)))))
          obtain ⟨y_34,hy_35,h_32⟩:=bind_some h_32
          refine gM kz rfl rfl hy_35 rfl wa (nY iX rfl [.int .i64 y_34.No,.int .i64 y_34.Clock,.int .i64 y_34.Long,.str y_34.Sum] rfl rfl wa (dM sz3 ag3 rfl (vI y_34.No) rfl wa (ae (vI (w64 (y_34.No+1))) wa rfl (ae (vB (x_13.No != (w64 (y_34.No+1)))) wa rfl (ae (vB (x_13.No != (w64 (y_34.No+1)))) wz rfl (ai ?_))))))
          obtain rfl:=ah h_32
          exact cu
         ·refine aC rfl hc_33 wz (aj wa (aj wa (aj wa (aj wa (aj wa (aj wa (aj wa (aj wa (aj wa (aj wa (ae (vB false) wz rfl (ai ?_))))))))))))
          obtain rfl:=ah h_32
          exact cu
        ·rintro ⟨⟩ _ sl_ H_ hp_ hq_
         refine aV _ hp_ hq_ ?_
         rcases ak hc_17 with⟨hc_36,hc_17⟩|⟨hc_36,hc_17⟩
         ·refine aB rfl hc_36 (af (aa (ae .nil wz rfl (ae (vI 16) wz rfl (ai ?_)))))
          obtain rfl:=ah hc_17
          obtain rfl:=ah hL_18
          obtain rfl:=ah hF
          exact av (aS (.inr rfl) [.nil,(vI 16)] ⟨rfl,⟨rfl,trivial⟩⟩ rfl rfl rfl)
         ·refine aA rfl hc_36 (ax (af (aa (ae (vS s_16.2) wz rfl (aK 0 1 il ft eG iw rfl rfl (.d (.agg (Log_.enc x_13))) rfl wz ?_)))))
          obtain ⟨r_37,hr_38,hc_17⟩:=bind_some hc_17
          refine ay (qF hr_38) rfl hb82 rfl rfl rfl rfl wz (ae (vS r_37) wz rfl (ai (aa (ae (gV n_10 6 s_16.1) wz rfl (ae (vI (k_11:Int)) wz rfl (ae (vS r_37) wz rfl ?_))))))
          obtain ⟨_,hi_39,hc_17⟩:=bind_some hc_17
          refine xP kz rfl rfl (uS hi_39) (nT hi_39) wz (aO mJ rfl 5 rfl wz ?_)
          obtain ⟨e_40,hy_41,hc_17⟩:=bind_some hc_17
          refine lS 0 il ft 0 sz9 rfl rfl hy_41 (⟨e_40.Player,e_40.Item,e_40.No,e_40.Clock,e_40.Long,r_37⟩:Log_) rfl wz (fH (v':=(gV n_10 6 (s_16.1.set (0+((k_11:Int)).toNat) (⟨e_40.Player,e_40.Item,e_40.No,e_40.Clock,e_40.Long,r_37⟩:Log_)))) 7 rfl (dD (by simp)) (fH (v':=(gV n_10 6 (s_16.1.set (0+((k_11:Int)).toNat) (⟨e_40.Player,e_40.Item,e_40.No,e_40.Clock,e_40.Long,r_37⟩:Log_)))) 61 rfl (dD (by simp)) (ai (aa (iQ (dX hD_14 hn_15) wz rfl (ae (vI ((k_11+1:Nat):Int)) wz rfl (ai ?_)))))))
          obtain rfl:=ah hc_17
          exact cO (k_11+1,l_12,((s_16.1.set (0+((k_11:Int)).toNat) (⟨e_40.Player,e_40.Item,e_40.No,e_40.Clock,e_40.Long,r_37⟩:Log_)),r_37)) ⟨hL_18,bv hD_14⟩ (ls_ _) rfl (aN rfl)
   ·rintro s_16 ho_ sl_ H_ hp_ hq_
    subst ho_
    refine aV _ hp_ hq_ (af (aa (ae (gV n_10 6 s_16.1) wz rfl (ae (gV n_10 6 s_16.1) wz rfl (ae (vI 0) wz rfl (ai (lV 0 rfl (jc 4 0 rfl rfl (jc 7 0 rfl rfl (jc 67 0 rfl rfl ?_))))))))))
    obtain rfl:=ah hF
    exact av (aS (.inr rfl) [(vL Log_.enc s_16.1),(vI 0)] ⟨rfl,⟨rfl,trivial⟩⟩ rfl rfl rfl)
theorem uu {last_1:ByteArray} {l_2:(List Log_)} {r:(List Log_)×Int} (hF:jV last_1 l_2=some r) :
  FnM Tryz.prog 46 [(vS last_1),(vL Log_.enc l_2)] [] (.tup [(vL Log_.enc r.1),(vI r.2)]) []:=by
 refine FnM.of_wH ⟨Tryz.prog,64,[],[]⟩ rfl Tryz.func46 rfl rfl (lb_ rfl) (by kernel_rfl) ?_
 unfold jV at hF
 refine af (aa (ae .nil wz rfl (ae (vI 0) wz rfl (ai (af (aG (af (aa (ae (vS last_1) wz rfl ?_)))))))))
 obtain ⟨r_3,hr_4,hF⟩:=bind_some hF
 refine ay (l8 hr_4) rfl hb41 rfl rfl rfl rfl wz (ae (vB (r_3 != 0)) wz rfl (ae (vB (r_3 != 0)) wz rfl (ai ?_)))
 rcases ak hF with⟨hc_5,hF⟩|⟨hc_5,hF⟩
 ·refine aB rfl hc_5 (af (aa (ae .nil wz rfl (ae (vI 3) wz rfl (ai ?_)))))
  obtain rfl:=ah hF
  exact av (aS (.inr rfl) [.nil,(vI 3)] ⟨rfl,⟨rfl,trivial⟩⟩ rfl rfl rfl)
 ·refine aA rfl hc_5 (af (aa (ae (vL Log_.enc l_2) wz rfl (eP kC rfl wz (ae (vB (decide ((l_2.length:Int)>2000))) wz rfl (ae (vB (decide ((l_2.length:Int)>2000))) wz rfl (ai ?_)))))))
  rcases ak hF with⟨hc_6,hF⟩|⟨hc_6,hF⟩
  ·refine aB rfl hc_6 (af (aa (ae .nil wz rfl (ae (vI 2) wz rfl (ai ?_)))))
   obtain rfl:=ah hF
   exact av (aS (.inr rfl) [.nil,(vI 2)] ⟨rfl,⟨rfl,trivial⟩⟩ rfl rfl rfl)
  ·refine aA rfl hc_6 (ax (af (aa (ae .nil wz rfl (ai (af (af (aa (ae (vL Log_.enc l_2) wz rfl (eP kC rfl wz (ae (vI 0) wz rfl (ai (ut (λn_13 => ?_))))))))))))))
   obtain ⟨o_18,hj_19,hF⟩:=bind_some hF
   obtain ⟨hn_11,hj_19⟩:=bJ hj_19
   refine aH (β:=((List Log_)×ByteArray)×Nm) (λp=>(λ(s_12:(List Log_)×ByteArray) (n_15:Nm)=>([(6,(gV n_15 6 s_12.1))]:SL_)) p.1 p.2) (λp=>(λ(s_12:(List Log_)×ByteArray) (n_15:Nm)=>([(n_15,gB 6 Log_.enc s_12.1)]:Hp)) p.1 p.2) (λp=>o_18 = .go p.1) ?_ ?_
   ·refine aG (bZ (β:=Nat×(List Log_)×((List Log_)×ByteArray)×Nm) (λp=>(λ(k_7:Nat) (l_8:List Log_) (s_12:(List Log_)×ByteArray) (n_15:Nm)=>([(0,(vS s_12.2)),(1,(vL Log_.enc l_2)),(6,(gV n_15 6 s_12.1)),(18,(vL Log_.enc l_2)),(19,(vI (l_2.length:Int))),(20,(vI (k_7:Int)))]:SL_)) p.1 p.2.1 p.2.2.1 p.2.2.2) (λp=>(λ(k_7:Nat) (l_8:List Log_) (s_12:(List Log_)×ByteArray) (n_15:Nm)=>([(n_15,gB 6 Log_.enc s_12.1)]:Hp)) p.1 p.2.1 p.2.2.1 p.2.2.2) (λp=>dF (λk x s=>dW l_2 k x s) p.2.1 p.1 p.2.2.1=some o_18/\(l_2).drop p.1=p.2.1) (λp=>p.2.1.length) (0,l_2,(([]:List Log_),last_1),n_13) ⟨hj_19,rfl⟩ rfl (aN rfl) ?_)
    rintro ⟨k_7,l_8,s_12,n_15⟩ ⟨hL_17,hD_10⟩
    dsimp only at hL_17 hD_10
    cases l_8 with
    | nil =>
     obtain rfl:=ah hL_17
     refine af (aa (ae (vB (decide ((k_7:Int)<(l_2.length:Int)))) wz rfl (ai ?_)))
     refine af (aA rfl (drop_nil hD_10) (cz ?_))
     exact bW (s_12,n_15) rfl rfl (aN rfl)
    | cons x_9 l_8 =>
     obtain ⟨c_,hc_16,hL_17⟩:=bind_some hL_17
     refine af (aa (ae (vB (decide ((k_7:Int)<(l_2.length:Int)))) wz rfl (ai ?_)))
     refine af (aB rfl (dN hD_10) (ax ?_))
     unfold dW at hc_16
     refine af (aG (af (aa (ae (vI (k_7:Int)) wz rfl (gM kz rfl rfl (eB hD_10) rfl wz (dM eG iw rfl (.d (.agg (Log_.enc x_9))) rfl wz (iA 0 (.inl rfl) z43 rfl wz (λn_20=>ae (vI (k_7:Int)) wz rfl (lm 0 il ft 1 eG rfl rfl [(vS x_9.Player),(vS x_9.Item),(vI x_9.No),(vI x_9.Clock),(vI x_9.Long),(vS x_9.Sum)] rfl wz (ai (af (af (aa (aK 0 1 il ft eG iw rfl rfl (.d (.agg (Log_.enc x_9))) rfl wz ?_))))))))))))))
     obtain ⟨r_21,hr_22,hc_16⟩:=bind_some hc_16
     refine ay (kS hr_22) rfl hb24 rfl rfl rfl rfl wz (ae (vI r_21) wz rfl (ai (af (aa (ae (vI r_21) wz rfl (ae (vB (r_21 != 0)) wz rfl (ai ?_)))))))
     rcases ak hc_16 with⟨hc_23,hc_16⟩|⟨hc_23,hc_16⟩
     ·refine aB rfl hc_23 (af (aa (ae (vI r_21) wz rfl (ae .nil wz rfl (ae (vI r_21) wz rfl (ai ?_))))))
      obtain rfl:=ah hc_16
      obtain rfl:=ah hL_17
      obtain rfl:=ah hF
      exact av (aS (.inr rfl) [.nil,(vI r_21)] ⟨rfl,⟨rfl,trivial⟩⟩ rfl rfl rfl)
     ·refine aA rfl hc_23 (ax (af (aG (af (bU (aO fZ rfl 0 rfl wz (aK 1 1 (.inr (by kernel_rfl)) (λ_ _ ag=>trivial) sz9 ag9 rfl rfl (vS x_9.Player) rfl wz (ae (vL Log_.enc l_2) wz rfl ?_))))))))
      obtain ⟨y_24,hy_25,hc_16⟩:=bind_some hc_16
      refine gM kz rfl rfl hy_25 rfl wz (nY fZ rfl [.str y_24.Player,.str y_24.Item,.int .i64 y_24.No,.int .i64 y_24.Clock,.int .i64 y_24.Long,.str y_24.Sum] rfl rfl wz (dM sz9 ag9 rfl (vS y_24.Player) rfl wz (ae (vB (sNe x_9.Player y_24.Player)) wz rfl (ae (vB (sNe x_9.Player y_24.Player)) wz rfl (ai ?_)))))
      rcases ak hc_16 with⟨hc_26,hc_16⟩|⟨hc_26,hc_16⟩
      ·refine aB rfl hc_26 (af (aa (ae .nil wz rfl (ae (vI 13) wz rfl (ai ?_)))))
       obtain rfl:=ah hc_16
       obtain rfl:=ah hL_17
       obtain rfl:=ah hF
       exact av (aS (.inr rfl) [.nil,(vI 13)] ⟨rfl,⟨rfl,trivial⟩⟩ rfl rfl rfl)
      ·refine aA rfl hc_26 (af ?_)
       obtain ⟨v_27,h_28,hc_16⟩:=bind_some hc_16
       refine aH (β:=Unit) (λ_=>([(0,(vS s_12.2)),(1,(vL Log_.enc l_2)),(6,(gV n_15 6 s_12.1)),(8,(.ref n_20 0 0)),(18,(vL Log_.enc l_2)),(19,(vI (l_2.length:Int))),(20,(vI (k_7:Int))),(38,(vB v_27))]:SL_)) (λ_=>([(n_15,gB 6 Log_.enc s_12.1),(n_20,some (.cells 6 [(vS x_9.Player),(vS x_9.Item),(vI x_9.No),(vI x_9.Clock),(vI x_9.Long),(vS x_9.Sum)]))]:Hp)) (λ_=>True) ?_ ?_
       ·refine bU (ae (vI (k_7:Int)) wz rfl (ae (vB (decide ((k_7:Int)>0))) wz rfl ?_))
        rcases ak h_28 with⟨hc_29,h_28⟩|⟨hc_29,h_28⟩
        ·refine aC rfl hc_29 wz (aO iX rfl 2 rfl wa (aK 4 1 (.inr (by kernel_rfl)) (λ_ _ ag=>trivial) sz3 ag3 rfl rfl (vI x_9.No) rfl wa (ae (vL Log_.enc l_2) wa rfl (ae (vI (k_7:Int)) wa rfl (ae (vI (w64 ((k_7:Int)-1))) wa rfl ?_)))))
         obtain ⟨y_30,hy_31,h_28⟩:=bind_some h_28
         refine gM kz rfl rfl hy_31 rfl wa (nY iX rfl [.int .i64 y_30.No,.int .i64 y_30.Clock,.int .i64 y_30.Long,.str y_30.Sum] rfl rfl wa (dM sz3 ag3 rfl (vI y_30.No) rfl wa (ae (vI (w64 (y_30.No+1))) wa rfl (ae (vB (x_9.No != (w64 (y_30.No+1)))) wa rfl (ae (vB (x_9.No != (w64 (y_30.No+1)))) wz rfl (ae (vB (x_9.No != (w64 (y_30.No+1)))) wz rfl (ai ?_)))))))
         obtain rfl:=ah h_28
         exact cu
        ·refine aC rfl hc_29 wz (aj wa (aj wa (aj wa (aj wa (aj wa (aj wa (aj wa (aj wa (aj wa (aj wa (ae (vB false) wz rfl (ae (vB false) wz rfl (ai ?_)))))))))))))
         obtain rfl:=ah h_28
         exact cu
       ·rintro ⟨⟩ _ sl_ H_ hp_ hq_
        refine aV _ hp_ hq_ ?_
        rcases ak hc_16 with⟨hc_32,hc_16⟩|⟨hc_32,hc_16⟩
        ·refine aB rfl hc_32 (af (aa (ae .nil wz rfl (ae (vI 16) wz rfl (ai ?_)))))
         obtain rfl:=ah hc_16
         obtain rfl:=ah hL_17
         obtain rfl:=ah hF
         exact av (aS (.inr rfl) [.nil,(vI 16)] ⟨rfl,⟨rfl,trivial⟩⟩ rfl rfl rfl)
        ·refine aA rfl hc_32 (ax (af (aa (ae (vS s_12.2) wz rfl (aK 0 1 il ft eG iw rfl rfl (.d (.agg (Log_.enc x_9))) rfl wz ?_)))))
         obtain ⟨r_33,hr_34,hc_16⟩:=bind_some hc_16
         refine ay (mR hr_34) rfl hb42 rfl rfl rfl rfl wz (ae (vS r_33) wz rfl (ai (af (aa (ae (vS r_33) wz rfl (aO mJ rfl 5 rfl wz (lm 0 il ft 1 sz9 rfl rfl [(vS x_9.Player),(vS x_9.Item),(vI x_9.No),(vI x_9.Clock),(vI x_9.Long),(vS r_33)] rfl wz (ai (aa (ae (gV n_15 6 s_12.1) wz rfl (aK 0 1 il ft eG iw rfl rfl (.d (.agg (Log_.enc (⟨x_9.Player,x_9.Item,x_9.No,x_9.Clock,x_9.Long,r_33⟩:Log_)))) rfl wz (gW (([(⟨x_9.Player,x_9.Item,x_9.No,x_9.Clock,x_9.Long,r_33⟩:Log_)]:List Log_).map Log_.enc) kz ez26 rfl rfl rfl rfl rfl wz ?_))))))))))))
         obtain ⟨a_35,hz_36,hc_16⟩:=bind_some hc_16
         refine vM 0 il ft (i:=0) Ae Ae eG z43 rfl (by decide) by43 (by decide) (λ_=>rfl) rfl rfl rfl hz_36 wz (λn_37=>ae (gV n_37 6 a_35) wz rfl (ai (aa (iQ (dX hD_10 hn_11) wz rfl (ae (vI ((k_7+1:Nat):Int)) wz rfl (ai ?_))))))
         obtain rfl:=ah hc_16
         exact cO (k_7+1,l_8,(a_35,r_33),n_37) ⟨hL_17,bv hD_10⟩ (ls_ _) rfl (aN rfl)
   ·rintro ⟨s_12,n_15⟩ ho_ sl_ H_ hp_ hq_
    subst ho_
    refine aV _ hp_ hq_ (af (aa (ae (gV n_15 6 s_12.1) wz rfl (ae (gV n_15 6 s_12.1) wz rfl (ae (vI 0) wz rfl (ai (lV 0 rfl (jc 4 0 rfl rfl (jc 6 0 rfl rfl (jc 63 0 rfl rfl ?_))))))))))
    obtain rfl:=ah hF
    exact av (aS (.inr rfl) [(vL Log_.enc s_12.1),(vI 0)] ⟨rfl,⟨rfl,trivial⟩⟩ rfl rfl rfl)
theorem jh {s1_1:(List Log_)} {s2_2:(List Log_)} {r:Bool} (hF:bC s1_1 s2_2=some r) :
  FnM Tryz.prog 37 [(vL Log_.enc s1_1),(vL Log_.enc s2_2)] [] (vB r) []:=by
 refine FnM.of_wH ⟨Tryz.prog,26,[],[]⟩ rfl Tryz.func37 rfl rfl (lb_ rfl) (by kernel_rfl) ?_
 unfold bC at hF
 refine af (aa (ae (vB false) wz rfl (ai (af (af (aa (ae (vL Log_.enc s1_1) wz rfl (eP kC rfl wz (ae (vL Log_.enc s2_2) wz rfl (eP kC rfl wz (ae (vB ((s1_1.length:Int) != (s2_2.length:Int))) wz rfl (ai ?_))))))))))))
 rcases ak hF with⟨hc_3,hF⟩|⟨hc_3,hF⟩
 ·refine aB rfl hc_3 (af (aa (ae (vB false) wz rfl (ai ?_))))
  obtain rfl:=ah hF
  exact av (aS (.inr rfl) [(vB false)] ⟨rfl,trivial⟩ rfl rfl rfl)
 ·refine aA rfl hc_3 (ax (af (af (aa (ae (vL Log_.enc s1_1) wz rfl (eP kC rfl wz (ae (vI 0) wz rfl (ai ?_))))))))
  obtain ⟨o_12,hj_13,hF⟩:=bind_some hF
  obtain ⟨hn_8,hj_13⟩:=bJ hj_13
  refine aH (β:=(Unit)) (λ(s_9:Unit)=>([]:SL_)) (λ(s_9:Unit)=>([]:Hp)) (λp=>o_12 = .go p) ?_ ?_
  ·refine aG (bZ (β:=Nat×(List Log_)×(Unit)) (λp=>(λ(k_4:Nat) (l_5:List Log_) (s_9:Unit)=>([(0,(vL Log_.enc s1_1)),(1,(vL Log_.enc s2_2)),(12,(vI (s1_1.length:Int))),(13,(vI (k_4:Int)))]:SL_)) p.1 p.2.1 p.2.2) (λp=>(λ(k_4:Nat) (l_5:List Log_) (s_9:Unit)=>([]:Hp)) p.1 p.2.1 p.2.2) (λp=>dF (λk x s=>aY s2_2 k x s) p.2.1 p.1 p.2.2=some o_12/\(s1_1).drop p.1=p.2.1) (λp=>p.2.1.length) (0,s1_1,()) ⟨hj_13,rfl⟩ rfl (aN rfl) ?_)
   rintro ⟨k_4,l_5,s_9⟩ ⟨hL_11,hD_7⟩
   dsimp only at hL_11 hD_7
   cases l_5 with
   | nil =>
    obtain rfl:=ah hL_11
    refine af (aa (ae (vB (decide ((k_4:Int)<(s1_1.length:Int)))) wz rfl (ai ?_)))
    refine af (aA rfl (drop_nil hD_7) (cz ?_))
    exact bW (s_9) rfl rfl (aN rfl)
   | cons x_6 l_5 =>
    obtain ⟨c_,hc_10,hL_11⟩:=bind_some hL_11
    refine af (aa (ae (vB (decide ((k_4:Int)<(s1_1.length:Int)))) wz rfl (ai ?_)))
    refine af (aB rfl (dN hD_7) (ax ?_))
    unfold aY at hc_10
    refine af (aG (af (aa (ae (vI (k_4:Int)) wz rfl (ae (vI (k_4:Int)) wz rfl (ai (af (bU (ae (vL Log_.enc s1_1) wz rfl (ae (vI (k_4:Int)) wz rfl (gM kz rfl rfl (eB hD_7) rfl wz (dM eG iw rfl (.d (.agg (Log_.enc x_6))) rfl wz (ae (vL Log_.enc s2_2) wz rfl (ae (vI (k_4:Int)) wz rfl ?_))))))))))))))
    obtain ⟨y_14,hy_15,hc_10⟩:=bind_some hc_10
    refine gM kz rfl rfl hy_15 rfl wz (dM eG iw rfl (.d (.agg (Log_.enc y_14))) rfl wz (ae (vB (!((x_6.Player.toList==y_14.Player.toList)&&((x_6.Item.toList==y_14.Item.toList)&&((x_6.No==y_14.No)&&((x_6.Clock==y_14.Clock)&&((x_6.Long==y_14.Long)&&((x_6.Sum.toList==y_14.Sum.toList)&&true)))))))) wz (by kernel_rfl) (ai ?_)))
    rcases ak hc_10 with⟨hc_16,hc_10⟩|⟨hc_16,hc_10⟩
    ·refine aB rfl hc_16 (af (aa (ae (vB false) wz rfl (ai ?_))))
     obtain rfl:=ah hc_10
     obtain rfl:=ah hL_11
     obtain rfl:=ah hF
     exact av (aS (.inr rfl) [(vB false)] ⟨rfl,trivial⟩ rfl rfl rfl)
    ·refine aA rfl hc_16 (ax (aa (iQ (dX hD_7 hn_8) wz rfl (ae (vI ((k_4+1:Nat):Int)) wz rfl (ai ?_)))))
     obtain rfl:=ah hc_10
     exact cO (k_4+1,l_5,()) ⟨hL_11,bv hD_7⟩ (ls_ _) rfl (aN rfl)
  ·rintro s_9 ho_ sl_ H_ hp_ hq_
   subst ho_
   refine aV _ hp_ hq_ (af (aa (ae (vB true) wz rfl (ai ?_))))
   obtain rfl:=ah hF
   exact av (aS (.inr rfl) [(vB true)] ⟨rfl,trivial⟩ rfl rfl rfl)
theorem fM {n_1:Int} {r:Bool} (hF:dK n_1=some r) :
  FnM Tryz.prog 102 [(vI n_1)] [] (vB r) []:=by
 refine FnM.of_wH ⟨Tryz.prog,9,[],[]⟩ rfl Tryz.func102 rfl rfl (lb_ rfl) (by kernel_rfl) ?_
 unfold dK at hF
 refine af (aa (ae (vB false) wz rfl (ai (af ?_))))
 obtain ⟨v_2,h_3,hF⟩:=bind_some hF
 refine aH (β:=Unit) (λ_=>([(2,(vB v_2))]:SL_)) (λ_=>([]:Hp)) (λ_=>True) ?_ ?_
 ·refine aa (ae (vI n_1) wz rfl (ae (vB (decide (n_1>=0))) wz rfl ?_))
  rcases ak h_3 with⟨hc_4,h_3⟩|⟨hc_4,h_3⟩
  ·refine aC rfl hc_4 wz (ae (vI n_1) wa rfl (ae (vB (decide (n_1<345686400000))) wa rfl (ae (vB (decide (n_1<345686400000))) wz rfl (ae (vB (decide (n_1<345686400000))) wz rfl (ai ?_)))))
   obtain rfl:=ah h_3
   exact cu
  ·refine aC rfl hc_4 wz (aj wa (aj wa (ae (vB false) wz rfl (ae (vB false) wz rfl (ai ?_)))))
   obtain rfl:=ah h_3
   exact cu
 ·rintro ⟨⟩ _ sl_ H_ hp_ hq_
  refine aV _ hp_ hq_ ?_
  obtain rfl:=ah hF
  exact av (aS (.inr rfl) [(vB v_2)] ⟨rfl,trivial⟩ rfl rfl rfl)
theorem nJ {a_1:Beat} {b_2:Beat} {r:Int} (hF:dY a_1 b_2=some r) :
  FnM Tryz.prog 130 [(.d (.agg (Beat.enc a_1))),(.d (.agg (Beat.enc b_2)))] [] (vI r) []:=by
 refine FnM.of_wH ⟨Tryz.prog,17,[],[]⟩ rfl Tryz.func130 rfl rfl (lb_ rfl) (by kernel_rfl) ?_
 unfold dY at hF
 refine af (aa (kY 0 (.inl rfl) [(vS a_1.Player),(vI a_1.At),(vI a_1.Clock)] rfl rfl wz (λn_3=>kY 0 (.inl rfl) [(vS b_2.Player),(vI b_2.At),(vI b_2.Clock)] rfl rfl wz (λn_4=>ae (vI 0) wz rfl (ai (af (bU (aO oN rfl 0 rfl wz (aK 1 0 (.inr (by kernel_rfl)) (λ_ _ ag=>trivial) sz9 ag9 rfl rfl (vS a_1.Player) rfl wz (aO oN rfl 0 rfl wz (aK 3 1 (.inr (by kernel_rfl)) (λ_ _ ag=>⟨.inl ⟨rfl,rfl⟩,trivial⟩) sz9 ag9 rfl rfl (vS b_2.Player) rfl wz ?_)))))))))))
 obtain ⟨r_5,hr_6,hF⟩:=bind_some hF
 refine ay (iC hr_6) rfl De rfl rfl rfl rfl wz (aO qp rfl 1 rfl wz (aK 6 0 (.inr (by kernel_rfl)) (λ_ _ ag=>⟨.inl ⟨rfl,rfl⟩,⟨.inl ⟨rfl,rfl⟩,trivial⟩⟩) sz3 ag3 rfl rfl (vI a_1.At) rfl wz (aO qp rfl 1 rfl wz (aK 8 1 (.inr (by kernel_rfl)) (λ_ _ ag=>⟨.inl ⟨rfl,rfl⟩,⟨.inl ⟨rfl,rfl⟩,⟨.inl ⟨rfl,rfl⟩,trivial⟩⟩⟩) sz3 ag3 rfl rfl (vI b_2.At) rfl wz ?_))))
 obtain ⟨r_7,hr_8,hF⟩:=bind_some hF
 refine ay (kP hr_8) rfl hb118 rfl rfl rfl rfl wz (gW (([r_5,r_7]:List Int).map eI) uV Al rfl rfl rfl rfl rfl wz ?_)
 obtain ⟨r_9,hr_10,hF⟩:=bind_some hF
 refine ay (pu hr_10) rfl hb117 rfl rfl rfl rfl wz (ae (vI r_9) wz rfl (ai ?_))
 obtain rfl:=ah hF
 exact av (aS (.inr rfl) [(vI r_9)] ⟨rfl,trivial⟩ rfl rfl rfl)
theorem o6 {l_1:(List Beat)} {r:Int} (hF:fA l_1=some r) :
  FnM Tryz.prog 100 [(vL Beat.enc l_1)] [] (vI r) []:=by
 refine FnM.of_wH ⟨Tryz.prog,69,[],[]⟩ rfl Tryz.func100 rfl rfl (lb_ rfl) (by kernel_rfl) ?_
 unfold fA at hF
 refine af (aa (ae (vI 0) wz rfl (ai (af (af (aa (ae (vL Beat.enc l_1) wz rfl (eP un74 rfl wz (ae (vB (decide ((l_1.length:Int)>500))) wz rfl (ai ?_))))))))))
 rcases ak hF with⟨hc_2,hF⟩|⟨hc_2,hF⟩
 ·refine aB rfl hc_2 (af (aa (ae (vI 2) wz rfl (ai ?_))))
  obtain rfl:=ah hF
  exact av (aS (.inr rfl) [(vI 2)] ⟨rfl,trivial⟩ rfl rfl rfl)
 ·refine aA rfl hc_2 (ax (af (af (aa (ae (vL Beat.enc l_1) wz rfl (eP un74 rfl wz (ae (vI 0) wz rfl (ai ?_))))))))
  obtain ⟨o_11,hj_12,hF⟩:=bind_some hF
  obtain ⟨hn_7,hj_12⟩:=bJ hj_12
  refine aH (β:=(Unit)) (λ(s_8:Unit)=>([]:SL_)) (λ(s_8:Unit)=>([]:Hp)) (λp=>o_11 = .go p) ?_ ?_
  ·refine aG (bZ (β:=Nat×(List Beat)×(Unit)) (λp=>(λ(k_3:Nat) (l_4:List Beat) (s_8:Unit)=>([(0,(vL Beat.enc l_1)),(8,(vL Beat.enc l_1)),(9,(vI (l_1.length:Int))),(10,(vI (k_3:Int)))]:SL_)) p.1 p.2.1 p.2.2) (λp=>(λ(k_3:Nat) (l_4:List Beat) (s_8:Unit)=>([]:Hp)) p.1 p.2.1 p.2.2) (λp=>dF (λk x s=>fq l_1 k x s) p.2.1 p.1 p.2.2=some o_11/\(l_1).drop p.1=p.2.1) (λp=>p.2.1.length) (0,l_1,()) ⟨hj_12,rfl⟩ rfl (aN rfl) ?_)
   rintro ⟨k_3,l_4,s_8⟩ ⟨hL_10,hD_6⟩
   dsimp only at hL_10 hD_6
   cases l_4 with
   | nil =>
    obtain rfl:=ah hL_10
    refine af (aa (ae (vB (decide ((k_3:Int)<(l_1.length:Int)))) wz rfl (ai ?_)))
    refine af (aA rfl (drop_nil hD_6) (cz ?_))
    exact bW (s_8) rfl rfl (aN rfl)
   | cons x_5 l_4 =>
    obtain ⟨c_,hc_9,hL_10⟩:=bind_some hL_10
    refine af (aa (ae (vB (decide ((k_3:Int)<(l_1.length:Int)))) wz rfl (ai ?_)))
    refine af (aB rfl (dN hD_6) (ax ?_))
    unfold fq at hc_9
    refine af (aG (af (aa (ae (vI (k_3:Int)) wz rfl (gM Cm rfl rfl (eB hD_6) rfl wz (dM wQ BF rfl (.d (.agg (Beat.enc x_5))) rfl wz (iA 0 (.inl rfl) z101 rfl wz (λn_13=>ae (vI (k_3:Int)) wz rfl (lm 0 il ft 0 wQ rfl rfl [(vS x_5.Player),(vI x_5.At),(vI x_5.Clock)] rfl wz (ai (aG (af (aa (aO oN rfl 0 rfl wz (aK 0 0 il ft sz9 ag9 rfl rfl (vS x_5.Player) rfl wz ?_)))))))))))))))
    obtain ⟨r_14,hr_15,hc_9⟩:=bind_some hc_9
    refine ay (kE hr_15) rfl Cb rfl rfl rfl rfl wz (ae (vB (!r_14)) wz rfl (ae (vB (!r_14)) wz rfl (ai ?_)))
    rcases ak hc_9 with⟨hc_16,hc_9⟩|⟨hc_16,hc_9⟩
    ·refine aB rfl hc_16 (af (aa (ae (vI 5) wz rfl (ai ?_))))
     obtain rfl:=ah hc_9
     obtain rfl:=ah hL_10
     obtain rfl:=ah hF
     exact av (aS (.inr rfl) [(vI 5)] ⟨rfl,trivial⟩ rfl rfl rfl)
    ·refine aA rfl hc_16 (af ?_)
     obtain ⟨v_17,h_18,hc_9⟩:=bind_some hc_9
     refine aH (β:=Unit) (λ_=>([(0,(vL Beat.enc l_1)),(3,(vI (k_3:Int))),(4,(.ref n_13 0 0)),(8,(vL Beat.enc l_1)),(9,(vI (l_1.length:Int))),(10,(vI (k_3:Int))),(20,(vB v_17))]:SL_)) (λ_=>([(n_13,some (.cells 3 [(vS x_5.Player),(vI x_5.At),(vI x_5.Clock)]))]:Hp)) (λ_=>True) ?_ ?_
     ·refine aa (aO qp rfl 1 rfl wz (aK 0 0 il ft sz3 ag3 rfl rfl (vI x_5.At) rfl wz ?_))
      obtain ⟨r_19,hr_20,h_18⟩:=bind_some h_18
      refine ay (fM hr_20) rfl yZ rfl rfl rfl rfl wz (ae (vB (!r_19)) wz rfl ?_)
      rcases ak h_18 with⟨hc_21,h_18⟩|⟨hc_21,h_18⟩
      ·refine aC rfl hc_21 wz (aj wa (aj wa (aj wa (ae (vB true) wz rfl (ae (vB true) wz rfl (ai ?_))))))
       obtain rfl:=ah h_18
       exact cu
      ·refine aC rfl hc_21 wz (aO qJ rfl 2 rfl wa (aK 0 0 il ft sz3 ag3 rfl rfl (vI x_5.Clock) rfl wa ?_))
       obtain ⟨r_22,hr_23,h_18⟩:=bind_some h_18
       refine ay (jd hr_23) rfl hb65 rfl rfl rfl rfl wa (ae (vB r_22) wz rfl (ae (vB r_22) wz rfl (ai ?_)))
       obtain rfl:=ah h_18
       exact cu
     ·rintro ⟨⟩ _ sl_ H_ hp_ hq_
      refine aV _ hp_ hq_ ?_
      rcases ak hc_9 with⟨hc_24,hc_9⟩|⟨hc_24,hc_9⟩
      ·refine aB rfl hc_24 (af (aa (ae (vI 1) wz rfl (ai ?_))))
       obtain rfl:=ah hc_9
       obtain rfl:=ah hL_10
       obtain rfl:=ah hF
       exact av (aS (.inr rfl) [(vI 1)] ⟨rfl,trivial⟩ rfl rfl rfl)
      ·refine aA rfl hc_24 (af ?_)
       obtain ⟨v_25,h_26,hc_9⟩:=bind_some hc_9
       refine aH (β:=Unit) (λ_=>([(0,(vL Beat.enc l_1)),(3,(vI (k_3:Int))),(4,(.ref n_13 0 0)),(8,(vL Beat.enc l_1)),(9,(vI (l_1.length:Int))),(10,(vI (k_3:Int))),(30,(vB v_25))]:SL_)) (λ_=>([(n_13,some (.cells 3 [(vS x_5.Player),(vI x_5.At),(vI x_5.Clock)]))]:Hp)) (λ_=>True) ?_ ?_
       ·refine bU (ae (vI (k_3:Int)) wz rfl (ae (vB (decide ((k_3:Int)>0))) wz rfl ?_))
        rcases ak h_26 with⟨hc_27,h_26⟩|⟨hc_27,h_26⟩
        ·refine aC rfl hc_27 wz (ae (vL Beat.enc l_1) wa rfl (ae (vI (k_3:Int)) wa rfl (ae (vI (w64 ((k_3:Int)-1))) wa rfl ?_)))
         obtain ⟨y_28,hy_29,h_26⟩:=bind_some h_26
         refine gM Cm rfl rfl hy_29 rfl wa (dM wQ BF rfl (.d (.agg (Beat.enc y_28))) rfl wa (aK 8 0 (.inr (by kernel_rfl)) (λ_ _ ag=>trivial) wQ BF rfl rfl (.d (.agg (Beat.enc x_5))) rfl wa ?_))
         obtain ⟨r_30,hr_31,h_26⟩:=bind_some h_26
         refine ay (nJ hr_31) rfl hb130 rfl rfl rfl rfl wa (ae (vB (decide (r_30>=0))) wa rfl (ae (vB (decide (r_30>=0))) wz rfl (ae (vB (decide (r_30>=0))) wz rfl (ai ?_))))
         obtain rfl:=ah h_26
         exact cu
        ·refine aC rfl hc_27 wz (aj wa (aj wa (aj wa (aj wa (aj wa (aj wa (aj wa (aj wa (ae (vB false) wz rfl (ae (vB false) wz rfl (ai ?_)))))))))))
         obtain rfl:=ah h_26
         exact cu
       ·rintro ⟨⟩ _ sl_ H_ hp_ hq_
        refine aV _ hp_ hq_ ?_
        rcases ak hc_9 with⟨hc_32,hc_9⟩|⟨hc_32,hc_9⟩
        ·refine aB rfl hc_32 (af (aa (ae (vI 7) wz rfl (ai ?_))))
         obtain rfl:=ah hc_9
         obtain rfl:=ah hL_10
         obtain rfl:=ah hF
         exact av (aS (.inr rfl) [(vI 7)] ⟨rfl,trivial⟩ rfl rfl rfl)
        ·refine aA rfl hc_32 (af ?_)
         obtain ⟨v_33,h_34,hc_9⟩:=bind_some hc_9
         refine aH (β:=Unit) (λ_=>([(0,(vL Beat.enc l_1)),(8,(vL Beat.enc l_1)),(9,(vI (l_1.length:Int))),(10,(vI (k_3:Int))),(43,(vB v_33))]:SL_)) (λ_=>([(n_13,some (.cells 3 [(vS x_5.Player),(vI x_5.At),(vI x_5.Clock)]))]:Hp)) (λ_=>True) ?_ ?_
         ·refine bU (ae (vI (k_3:Int)) wz rfl (ae (vB (decide ((k_3:Int)>0))) wz rfl ?_))
          rcases ak h_34 with⟨hc_35,h_34⟩|⟨hc_35,h_34⟩
          ·refine aC rfl hc_35 wz (aO oN rfl 0 rfl wa (aK 4 0 (.inr (by kernel_rfl)) (λ_ _ ag=>trivial) sz9 ag9 rfl rfl (vS x_5.Player) rfl wa (ae (vL Beat.enc l_1) wa rfl (ae (vI (k_3:Int)) wa rfl (ae (vI (w64 ((k_3:Int)-1))) wa rfl ?_)))))
           obtain ⟨y_36,hy_37,h_34⟩:=bind_some h_34
           refine gM Cm rfl rfl hy_37 rfl wa (nY oN rfl [.str y_36.Player,.int .i64 y_36.At,.int .i64 y_36.Clock] rfl rfl wa (dM sz9 ag9 rfl (vS y_36.Player) rfl wa (ae (vB (sEq x_5.Player y_36.Player)) wa rfl (ae (vB (sEq x_5.Player y_36.Player)) wz rfl ?_))))
           rcases ak h_34 with⟨hc_38,h_34⟩|⟨hc_38,h_34⟩
           ·refine aC rfl hc_38 wz (aO qJ rfl 2 rfl wa (aK 15 0 (.inr (by kernel_rfl)) (λ_ _ ag=>⟨.inl ⟨rfl,rfl⟩,trivial⟩) sz3 ag3 rfl rfl (vI x_5.Clock) rfl wa (ae (vL Beat.enc l_1) wa rfl (ae (vI (k_3:Int)) wa rfl (ae (vI (w64 ((k_3:Int)-1))) wa rfl ?_)))))
            obtain ⟨y_39,hy_40,h_34⟩:=bind_some h_34
            refine gM Cm rfl rfl hy_40 rfl wa (nY qJ rfl [.int .i64 y_39.Clock] rfl rfl wa (dM sz3 ag3 rfl (vI y_39.Clock) rfl wa (ae (vB (decide (x_5.Clock<=y_39.Clock))) wa rfl (ae (vB (decide (x_5.Clock<=y_39.Clock))) wz rfl (ae (vB (decide (x_5.Clock<=y_39.Clock))) wz rfl (ai ?_))))))
            obtain rfl:=ah h_34
            exact cu
           ·refine aC rfl hc_38 wz (aj wa (aj wa (aj wa (aj wa (aj wa (aj wa (aj wa (aj wa (aj wa (ae (vB false) wz rfl (ae (vB false) wz rfl (ai ?_))))))))))))
            obtain rfl:=ah h_34
            exact cu
          ·refine aC rfl hc_35 wz (aj wa (aj wa (aj wa (aj wa (aj wa (aj wa (aj wa (aj wa (aj wa (ae (vB false) wz rfl (ae (vB false) wz rfl (aj wa (aj wa (aj wa (aj wa (aj wa (aj wa (aj wa (aj wa (aj wa (ae (vB false) wz rfl (ae (vB false) wz rfl (ai ?_)))))))))))))))))))))))
           obtain rfl:=ah h_34
           exact cu
         ·rintro ⟨⟩ _ sl_ H_ hp_ hq_
          refine aV _ hp_ hq_ ?_
          rcases ak hc_9 with⟨hc_41,hc_9⟩|⟨hc_41,hc_9⟩
          ·refine aB rfl hc_41 (af (aa (ae (vI 16) wz rfl (ai ?_))))
           obtain rfl:=ah hc_9
           obtain rfl:=ah hL_10
           obtain rfl:=ah hF
           exact av (aS (.inr rfl) [(vI 16)] ⟨rfl,trivial⟩ rfl rfl rfl)
          ·refine aA rfl hc_41 (ax (aa (iQ (dX hD_6 hn_7) wz rfl (ae (vI ((k_3+1:Nat):Int)) wz rfl (ai ?_)))))
           obtain rfl:=ah hc_9
           exact cO (k_3+1,l_4,()) ⟨hL_10,bv hD_6⟩ (ls_ _) rfl (aN rfl)
  ·rintro s_8 ho_ sl_ H_ hp_ hq_
   subst ho_
   refine aV _ hp_ hq_ (af (aa (ae (vI 0) wz rfl (ai ?_))))
   obtain rfl:=ah hF
   exact av (aS (.inr rfl) [(vI 0)] ⟨rfl,trivial⟩ rfl rfl rfl)
theorem q8 {l_1:(List Beat)} {player_2:ByteArray} {back_3:Bool} {r:(List Beat_)} (hF:ik l_1 player_2 back_3=some r) :
  FnM Tryz.prog 131 [(vL Beat.enc l_1),(vS player_2),(vB back_3)] [] (vL Beat_.enc r) []:=by
 refine FnM.of_wH ⟨Tryz.prog,41,[],[]⟩ rfl Tryz.func131 rfl rfl (lb_ rfl) (by kernel_rfl) ?_
 unfold ik at hF
 refine af (aa (ae .nil wz rfl (ai (af (aa (ae .nil wz rfl (ai (af (af (aa (ae (vL Beat.enc l_1) wz rfl (eP un74 rfl wz (ae (vI 0) wz rfl (ai (ut (λn_10 => ?_))))))))))))))))
 obtain ⟨o_15,hj_16,hF⟩:=bind_some hF
 obtain ⟨hn_8,hj_16⟩:=bJ hj_16
 refine aH (β:=((List Beat_))×Nm) (λp=>(λ(s_9:List Beat_) (n_12:Nm)=>([(7,(gV n_12 2 s_9))]:SL_)) p.1 p.2) (λp=>(λ(s_9:List Beat_) (n_12:Nm)=>([(n_12,gB 2 Beat_.enc s_9)]:Hp)) p.1 p.2) (λp=>o_15 = .go p.1) ?_ ?_
 ·refine aG (bZ (β:=Nat×(List Beat)×((List Beat_))×Nm) (λp=>(λ(k_4:Nat) (l_5:List Beat) (s_9:List Beat_) (n_12:Nm)=>([(1,(vS player_2)),(2,(vB back_3)),(7,(gV n_12 2 s_9)),(10,(vL Beat.enc l_1)),(11,(vI (l_1.length:Int))),(12,(vI (k_4:Int)))]:SL_)) p.1 p.2.1 p.2.2.1 p.2.2.2) (λp=>(λ(k_4:Nat) (l_5:List Beat) (s_9:List Beat_) (n_12:Nm)=>([(n_12,gB 2 Beat_.enc s_9)]:Hp)) p.1 p.2.1 p.2.2.1 p.2.2.2) (λp=>dF (λk x s=>dU player_2 back_3 k x s) p.2.1 p.1 p.2.2.1=some o_15/\(l_1).drop p.1=p.2.1) (λp=>p.2.1.length) (0,l_1,([]:List Beat_),n_10) ⟨hj_16,rfl⟩ rfl (aN rfl) ?_)
  rintro ⟨k_4,l_5,s_9,n_12⟩ ⟨hL_14,hD_7⟩
  dsimp only at hL_14 hD_7
  cases l_5 with
  | nil =>
   obtain rfl:=ah hL_14
   refine af (aa (ae (vB (decide ((k_4:Int)<(l_1.length:Int)))) wz rfl (ai ?_)))
   refine af (aA rfl (drop_nil hD_7) (cz ?_))
   exact bW (s_9,n_12) rfl rfl (aN rfl)
  | cons x_6 l_5 =>
   obtain ⟨c_,hc_13,hL_14⟩:=bind_some hL_14
   refine af (aa (ae (vB (decide ((k_4:Int)<(l_1.length:Int)))) wz rfl (ai ?_)))
   refine af (aB rfl (dN hD_7) (ax ?_))
   unfold dU at hc_13
   refine af (aG (af (aa (gM Cm rfl rfl (eB hD_7) rfl wz (dM wQ BF rfl (.d (.agg (Beat.enc x_6))) rfl wz (iA 0 (.inl rfl) z101 rfl wz (λn_17=>lm 0 il ft 1 wQ rfl rfl [(vS x_6.Player),(vI x_6.At),(vI x_6.Clock)] rfl wz (ai (aG (af (aa (aO oN rfl 0 rfl wz (aK 0 1 il ft sz9 ag9 rfl rfl (vS x_6.Player) rfl wz (ae (vS player_2) wz rfl (ae (vB (sNe x_6.Player player_2)) wz rfl (ae (vB (sNe x_6.Player player_2)) wz rfl (ai ?_)))))))))))))))))
   obtain ⟨v_18,h_19,hc_13⟩:=bind_some hc_13
   refine aH (β:=Nm) (λ(n_20:Nm)=>([(1,(vS player_2)),(2,(vB back_3)),(7,(gV n_20 2 v_18)),(10,(vL Beat.enc l_1)),(11,(vI (l_1.length:Int))),(12,(vI (k_4:Int)))]:SL_)) (λ(n_20:Nm)=>([(n_20,gB 2 Beat_.enc v_18),(n_17,some (.cells 3 [(vS x_6.Player),(vI x_6.At),(vI x_6.Clock)]))]:Hp)) (λ_=>True) ?_ ?_
   ·rcases ak h_19 with⟨hc_21,h_19⟩|⟨hc_21,h_19⟩
    ·refine aB rfl hc_21 (ax ?_)
     obtain rfl:=ah h_19
     exact bW n_12 trivial rfl (aN rfl)
    ·refine aA rfl hc_21 (af (aa (ae (vB back_3) wz rfl (ae (vB back_3) wz rfl (ai ?_)))))
     rcases ak h_19 with⟨hc_22,h_19⟩|⟨hc_22,h_19⟩
     ·refine aB rfl hc_22 (aa (ae (gV n_12 2 s_9) wz rfl (aO qp rfl 1 rfl wz (aK 0 1 il ft sz3 ag3 rfl rfl (vI x_6.At) rfl wz (aO qJ rfl 2 rfl wz (aK 0 1 il ft sz3 ag3 rfl rfl (vI x_6.Clock) rfl wz (ae (.d (.agg (Beat_.enc (⟨x_6.At,x_6.Clock⟩:Beat_)))) wz (by kernel_rfl) (gW (([(⟨x_6.At,x_6.Clock⟩:Beat_)]:List Beat_).map Beat_.enc) qR ez151 rfl rfl rfl rfl rfl wz ?_))))))))
      obtain ⟨a_23,hz_24,h_19⟩:=bind_some h_19
      refine vM 0 il ft (i:=0) BL BL xh z179 rfl (by decide) by179 (by decide) (λ_=>rfl) rfl rfl rfl hz_24 wz (λn_25=>ae (gV n_25 2 a_23) wz rfl (ai ?_))
      obtain rfl:=ah h_19
      exact bW n_25 trivial rfl (aN rfl)
     ·refine aA rfl hc_22 (aa (ae (gV n_12 2 s_9) wz rfl (aO qJ rfl 2 rfl wz (aK 0 1 il ft sz3 ag3 rfl rfl (vI x_6.Clock) rfl wz (aO qp rfl 1 rfl wz (aK 0 1 il ft sz3 ag3 rfl rfl (vI x_6.At) rfl wz (ae (.d (.agg (Beat_.enc (⟨x_6.Clock,x_6.At⟩:Beat_)))) wz (by kernel_rfl) (gW (([(⟨x_6.Clock,x_6.At⟩:Beat_)]:List Beat_).map Beat_.enc) qR ez151 rfl rfl rfl rfl rfl wz ?_))))))))
      obtain ⟨a_26,hz_27,h_19⟩:=bind_some h_19
      refine vM 0 il ft (i:=0) BL BL xh z179 rfl (by decide) by179 (by decide) (λ_=>rfl) rfl rfl rfl hz_27 wz (λn_28=>ae (gV n_28 2 a_26) wz rfl (ai ?_))
      obtain rfl:=ah h_19
      exact bW n_28 trivial rfl (aN rfl)
   ·rintro n_20 _ sl_ H_ hp_ hq_
    refine aV _ hp_ hq_ (aa (iQ (dX hD_7 hn_8) wz rfl (ae (vI ((k_4+1:Nat):Int)) wz rfl (ai ?_))))
    obtain rfl:=ah hc_13
    exact cO (k_4+1,l_5,v_18,n_20) ⟨hL_14,bv hD_7⟩ (ls_ _) rfl (aN rfl)
 ·rintro ⟨s_9,n_12⟩ ho_ sl_ H_ hp_ hq_
  subst ho_
  refine aV _ hp_ hq_ (af (aa (ae (gV n_12 2 s_9) wz rfl (ae (gV n_12 2 s_9) wz rfl (ai (lV 0 rfl (jc 6 0 rfl rfl (jc 7 0 rfl rfl (jc 40 0 rfl rfl ?_)))))))))
  obtain rfl:=ah hF
  exact av (aS (.inr rfl) [(vL Beat_.enc s_9)] ⟨rfl,trivial⟩ rfl rfl rfl)
theorem sZ {l_1:(List Beat_)} {n_2:Int} {r:Int×Int} (hF:jb l_1 n_2=some r) :
  FnM Tryz.prog 132 [(vL Beat_.enc l_1),(vI n_2)] [] (.tup [(vI r.1),(vI r.2)]) []:=by
 refine FnM.of_wH ⟨Tryz.prog,108,[],[]⟩ rfl Tryz.func132 rfl rfl (lb_ rfl) (by kernel_rfl) ?_
 unfold jb at hF
 refine af (aa (ae (vI 0) wz rfl (ae (vI 0) wz rfl (ai (af (af (aa (ae (vL Beat_.enc l_1) wz rfl (eP DC rfl wz (ae (vB ((l_1.length:Int)==0)) wz rfl (ai ?_)))))))))))
 rcases ak hF with⟨hc_3,hF⟩|⟨hc_3,hF⟩
 ·refine aB rfl hc_3 (af (aa (ae (vI 0) wz rfl (ae (vI 8) wz rfl (ai ?_)))))
  obtain rfl:=ah hF
  exact av (aS (.inr rfl) [(vI 0),(vI 8)] ⟨rfl,⟨rfl,trivial⟩⟩ rfl rfl rfl)
 ·refine aA rfl hc_3 (ax (af (aa (ae (vI 0) wz rfl (ai (af ?_))))))
  obtain ⟨o_12,hj_13,hF⟩:=bind_some hF
  obtain ⟨nq_51,hj_13⟩:=jA hj_13
  refine aH (β:=(Int)) (λ(s_9:Int)=>([(0,(vL Beat_.enc l_1)),(1,(vI n_2)),(6,(vI s_9))]:SL_)) (λ(s_9:Int)=>([]:Hp)) (λp=>o_12 = .go p) ?_ ?_
  ·refine aG (bZ (β:=Nat×(Int)) (λp=>(λ(k_4:Nat) (s_9:Int)=>([(0,(vL Beat_.enc l_1)),(1,(vI n_2)),(6,(vI s_9))]:SL_)) p.1 p.2) (λp=>(λ(k_4:Nat) (s_9:Int)=>([]:Hp)) p.1 p.2) (λp=>fE (λs=>dC l_1 n_2 s) p.1 p.2=some o_12) (λp=>p.1) (nq_51,0) hj_13 rfl (aN rfl) ?_)
   rintro ⟨k_4,s_9⟩ hL_11
   dsimp only at hL_11
   cases k_4 with
   | zero=>cases hL_11
   | succ k_4 =>
    obtain ⟨c_,hc_10,hL_11⟩:=bind_some hL_11
    unfold dC at hc_10
    refine af (af ?_)
    obtain ⟨v_14,h_15,hc_10⟩:=bind_some hc_10
    refine aH (β:=Unit) (λ_=>([(0,(vL Beat_.enc l_1)),(1,(vI n_2)),(6,(vI s_9)),(25,(vB v_14))]:SL_)) (λ_=>([]:Hp)) (λ_=>True) ?_ ?_
    ·refine aa (ae (vI s_9) wz rfl (ae (vL Beat_.enc l_1) wz rfl (eP DC rfl wz (ae (vB (decide (s_9<(l_1.length:Int)))) wz rfl ?_))))
     rcases ak h_15 with⟨hc_16,h_15⟩|⟨hc_16,h_15⟩
     ·refine aC rfl hc_16 wz (ae (vL Beat_.enc l_1) wa rfl (ae (vI s_9) wa rfl ?_))
      obtain ⟨y_17,hy_18,h_15⟩:=bind_some h_15
      refine gM qR rfl rfl hy_18 rfl wa (nY lJ rfl [.int .i64 y_17.f_from,.int .i64 y_17.f_to] rfl rfl wa (dM sz3 ag3 rfl (vI y_17.f_from) rfl wa (ae (vI n_2) wa rfl (ae (vB (decide (y_17.f_from<=n_2))) wa rfl (ae (vB (decide (y_17.f_from<=n_2))) wz rfl (ai ?_))))))
      obtain rfl:=ah h_15
      exact cu
     ·refine aC rfl hc_16 wz (aj wa (aj wa (aj wa (aj wa (aj wa (aj wa (aj wa (ae (vB false) wz rfl (ai ?_)))))))))
      obtain rfl:=ah h_15
      exact cu
    ·rintro ⟨⟩ _ sl_ H_ hp_ hq_
     refine aV _ hp_ hq_ ?_
     rcases ak hc_10 with⟨hc_19,hc_10⟩|⟨hc_19,hc_10⟩
     ·refine aB rfl hc_19 (ax (aG (aa (ae (vI s_9) wz rfl (ae (vI (w64 (s_9+1))) wz rfl (ae (vI (w64 (s_9+1))) wz rfl (ai ?_)))))))
      obtain rfl:=ah hc_10
      exact cO (k_4,(w64 (s_9+1))) hL_11 (ls_ _) rfl (aN rfl)
     ·refine aA rfl hc_19 (cz ?_)
      obtain rfl:=ah hc_10
      obtain rfl:=ah hL_11
      exact bW (s_9) rfl rfl (aN rfl)
  ·rintro s_9 ho_ sl_ H_ hp_ hq_
   subst ho_
   refine aV _ hp_ hq_ (af (aa (ae (vI 0) wz rfl (ai (af (aG (af (aa (ae (vI s_9) wz rfl (ae (vB (s_9==0)) wz rfl (ae (vB (s_9==0)) wz rfl (ai ?_))))))))))))
   rcases ak hF with⟨hc_20,hF⟩|⟨hc_20,hF⟩
   ·refine aB rfl hc_20 (bU (ae (vL Beat_.enc l_1) wz rfl ?_))
    obtain ⟨y_21,hy_22,hF⟩:=bind_some hF
    refine gM qR rfl rfl hy_22 rfl wz (nY mO rfl [.int .i64 y_21.f_to] rfl rfl wz (dM sz3 ag3 rfl (vI y_21.f_to) rfl wz (ae (vL Beat_.enc l_1) wz rfl ?_)))
    obtain ⟨y_23,hy_24,hF⟩:=bind_some hF
    refine gM qR rfl rfl hy_24 rfl wz (nY lJ rfl [.int .i64 y_23.f_from,.int .i64 y_23.f_to] rfl rfl wz (dM sz3 ag3 rfl (vI y_23.f_from) rfl wz (ae (vI n_2) wz rfl (ae (vI (w64 (y_23.f_from-n_2))) wz rfl (ae (vI (w64 (y_21.f_to-(w64 (y_23.f_from-n_2))))) wz rfl (ae (vI (w64 (y_21.f_to-(w64 (y_23.f_from-n_2))))) wz rfl (ai (af (af (aa (ae (vI (w64 (y_21.f_to-(w64 (y_23.f_from-n_2))))) wz rfl ?_)))))))))))
    obtain ⟨r_25,hr_26,hF⟩:=bind_some hF
    refine ay (fM hr_26) rfl yZ rfl rfl rfl rfl wz (ae (vB (!r_25)) wz rfl (ai ?_))
    rcases ak hF with⟨hc_27,hF⟩|⟨hc_27,hF⟩
    ·refine aB rfl hc_27 (af (aa (ae (vI 0) wz rfl (ae (vI 11) wz rfl (ai ?_)))))
     obtain rfl:=ah hF
     exact av (aS (.inr rfl) [(vI 0),(vI 11)] ⟨rfl,⟨rfl,trivial⟩⟩ rfl rfl rfl)
    ·refine aA rfl hc_27 (ax (af (aa (ae (vI (w64 (y_21.f_to-(w64 (y_23.f_from-n_2))))) wz rfl (ae (vI (w64 (y_21.f_to-(w64 (y_23.f_from-n_2))))) wz rfl (ae (vI 0) wz rfl (ai ?_)))))))
     obtain rfl:=ah hF
     exact av (aS (.inr rfl) [(vI (w64 (y_21.f_to-(w64 (y_23.f_from-n_2))))),(vI 0)] ⟨rfl,⟨rfl,trivial⟩⟩ rfl rfl rfl)
   ·refine aA rfl hc_20 (af (aa (ae (vI s_9) wz rfl (ae (vL Beat_.enc l_1) wz rfl (eP DC rfl wz (ae (vB (s_9==(l_1.length:Int))) wz rfl (ae (vB (s_9==(l_1.length:Int))) wz rfl (ai ?_))))))))
    rcases ak hF with⟨hc_28,hF⟩|⟨hc_28,hF⟩
    ·refine aB rfl hc_28 (bU (ae (vL Beat_.enc l_1) wz rfl (ae (vI s_9) wz rfl (ae (vI (w64 (s_9-1))) wz rfl ?_))))
     obtain ⟨y_29,hy_30,hF⟩:=bind_some hF
     refine gM qR rfl rfl hy_30 rfl wz (nY mO rfl [.int .i64 y_29.f_to] rfl rfl wz (dM sz3 ag3 rfl (vI y_29.f_to) rfl wz (ae (vI n_2) wz rfl (ae (vI (w64 (y_29.f_to+n_2))) wz rfl (ae (vL Beat_.enc l_1) wz rfl (ae (vI s_9) wz rfl (ae (vI (w64 (s_9-1))) wz rfl ?_)))))))
     obtain ⟨y_31,hy_32,hF⟩:=bind_some hF
     refine gM qR rfl rfl hy_32 rfl wz (nY lJ rfl [.int .i64 y_31.f_from,.int .i64 y_31.f_to] rfl rfl wz (dM sz3 ag3 rfl (vI y_31.f_from) rfl wz (ae (vI (w64 ((w64 (y_29.f_to+n_2))-y_31.f_from))) wz rfl (ae (vI (w64 ((w64 (y_29.f_to+n_2))-y_31.f_from))) wz rfl (ai (af (af (aa (ae (vI (w64 ((w64 (y_29.f_to+n_2))-y_31.f_from))) wz rfl ?_)))))))))
     obtain ⟨r_33,hr_34,hF⟩:=bind_some hF
     refine ay (fM hr_34) rfl yZ rfl rfl rfl rfl wz (ae (vB (!r_33)) wz rfl (ai ?_))
     rcases ak hF with⟨hc_35,hF⟩|⟨hc_35,hF⟩
     ·refine aB rfl hc_35 (af (aa (ae (vI 0) wz rfl (ae (vI 11) wz rfl (ai (aV (H0:=([]:Hp)) ([(4,(vI 0)),(5,(vI 11))]:SL_) (by kernel_rfl) (yn (by kernel_rfl)) ?_))))))
      obtain rfl:=ah hF
      exact av (aS (.inr rfl) [(vI 0),(vI 11)] ⟨rfl,⟨rfl,trivial⟩⟩ rfl rfl rfl)
     ·refine aA rfl hc_35 (ax (af (aa (ae (vI (w64 ((w64 (y_29.f_to+n_2))-y_31.f_from))) wz rfl (ae (vI (w64 ((w64 (y_29.f_to+n_2))-y_31.f_from))) wz rfl (ae (vI 0) wz rfl (ai (aV (H0:=([]:Hp)) ([(4,(vI (w64 ((w64 (y_29.f_to+n_2))-y_31.f_from)))),(5,(vI 0))]:SL_) (by kernel_rfl) (yn (by kernel_rfl)) ?_))))))))
      obtain rfl:=ah hF
      exact av (aS (.inr rfl) [(vI (w64 ((w64 (y_29.f_to+n_2))-y_31.f_from))),(vI 0)] ⟨rfl,⟨rfl,trivial⟩⟩ rfl rfl rfl)
    ·refine aA rfl hc_28 (af (bU (ae (vL Beat_.enc l_1) wz rfl (ae (vI s_9) wz rfl (ae (vI (w64 (s_9-1))) wz rfl ?_)))))
     obtain ⟨y_36,hy_37,hF⟩:=bind_some hF
     refine gM qR rfl rfl hy_37 rfl wz (dM xh ag179 rfl (.d (.agg (Beat_.enc y_36))) rfl wz (ae (vL Beat_.enc l_1) wz rfl (ae (vI s_9) wz rfl ?_)))
     obtain ⟨y_38,hy_39,hF⟩:=bind_some hF
     refine gM qR rfl rfl hy_39 rfl wz (dM xh ag179 rfl (.d (.agg (Beat_.enc y_38))) rfl wz (iA 9 (.inr (by kernel_rfl)) z179 rfl wz (λn_40=>iA 10 (.inr (by kernel_rfl)) z179 rfl wz (λn_41=>lm 11 (.inr (by kernel_rfl)) (λ_ _ ag=>⟨.inr (.inr (by kernel_rfl)),⟨.inr (.inr (by kernel_rfl)),trivial⟩⟩) 0 xh rfl rfl [(vI y_36.f_from),(vI y_36.f_to)] rfl wz (lm 12 (.inr (by kernel_rfl)) (λ_ _ ag=>⟨.inr (.inr (by kernel_rfl)),⟨.inr (.inr (by kernel_rfl)),⟨.inr (.inr (by kernel_rfl)),trivial⟩⟩⟩) 1 xh rfl rfl [(vI y_38.f_from),(vI y_38.f_to)] rfl wz (ai (af (af ?_))))))))
     obtain ⟨v_42,h_43,hF⟩:=bind_some hF
     refine aH (β:=Unit) (λ_=>([(1,(vI n_2)),(8,(.ref n_40 0 0)),(9,(.ref n_41 0 0)),(50,(vB v_42))]:SL_)) (λ_=>([(n_40,some (.cells 2 [(vI y_36.f_from),(vI y_36.f_to)])),(n_41,some (.cells 2 [(vI y_38.f_from),(vI y_38.f_to)]))]:Hp)) (λ_=>True) ?_ ?_
     ·refine aa (aO lJ rfl 0 rfl wz (aK 0 1 il ft sz3 ag3 rfl rfl (vI y_38.f_from) rfl wz (aO lJ rfl 0 rfl wz (aK 0 0 il ft sz3 ag3 rfl rfl (vI y_36.f_from) rfl wz (ae (vI (w64 (y_38.f_from-y_36.f_from))) wz rfl (ae (vB (decide ((w64 (y_38.f_from-y_36.f_from))>2592000000))) wz rfl ?_))))))
      rcases ak h_43 with⟨hc_44,h_43⟩|⟨hc_44,h_43⟩
      ·refine aC rfl hc_44 wz (aj wa (aj wa (aj wa (aj wa (aj wa (aj wa (ae (vB true) wz rfl (ai ?_))))))))
       obtain rfl:=ah h_43
       exact cu
      ·refine aC rfl hc_44 wz (aO mO rfl 1 rfl wa (aK 0 1 il ft sz3 ag3 rfl rfl (vI y_38.f_to) rfl wa (aO mO rfl 1 rfl wa (aK 0 0 il ft sz3 ag3 rfl rfl (vI y_36.f_to) rfl wa (ae (vI (w64 (y_38.f_to-y_36.f_to))) wa rfl (ae (vB (decide ((w64 (y_38.f_to-y_36.f_to))>2592000000))) wa rfl (ae (vB (decide ((w64 (y_38.f_to-y_36.f_to))>2592000000))) wz rfl (ai ?_))))))))
       obtain rfl:=ah h_43
       exact cu
     ·rintro ⟨⟩ _ sl_ H_ hp_ hq_
      refine aV _ hp_ hq_ ?_
      rcases ak hF with⟨hc_45,hF⟩|⟨hc_45,hF⟩
      ·refine aB rfl hc_45 (af (aa (ae (vI 0) wz rfl (ae (vI 2) wz rfl (ai ?_)))))
       obtain rfl:=ah hF
       exact av (aS (.inr rfl) [(vI 0),(vI 2)] ⟨rfl,⟨rfl,trivial⟩⟩ rfl rfl rfl)
      ·refine aA rfl hc_45 (ax (bU (aO mO rfl 1 rfl wz (aK 1 0 (.inr (by kernel_rfl)) (λ_ _ ag=>trivial) sz3 ag3 rfl rfl (vI y_36.f_to) rfl wz (ae (vI n_2) wz rfl (aO lJ rfl 0 rfl wz (aK 4 0 (.inr (by kernel_rfl)) (λ_ _ ag=>⟨.inl ⟨rfl,rfl⟩,trivial⟩) sz3 ag3 rfl rfl (vI y_36.f_from) rfl wz (ae (vI (w64 (n_2-y_36.f_from))) wz rfl (aO mO rfl 1 rfl wz (aK 7 1 (.inr (by kernel_rfl)) (λ_ _ ag=>⟨.inl ⟨rfl,rfl⟩,⟨.inl ⟨rfl,rfl⟩,trivial⟩⟩) sz3 ag3 rfl rfl (vI y_38.f_to) rfl wz (aO mO rfl 1 rfl wz (aK 9 0 (.inr (by kernel_rfl)) (λ_ _ ag=>⟨.inl ⟨rfl,rfl⟩,⟨.inl ⟨rfl,rfl⟩,⟨.inl ⟨rfl,rfl⟩,trivial⟩⟩⟩) sz3 ag3 rfl rfl (vI y_36.f_to) rfl wz (ae (vI (w64 (y_38.f_to-y_36.f_to))) wz rfl (ae (vI (w64 ((w64 (n_2-y_36.f_from))*(w64 (y_38.f_to-y_36.f_to))))) wz rfl (aO lJ rfl 0 rfl wz (aK 13 1 (.inr (by kernel_rfl)) (λ_ _ ag=>⟨.inl ⟨rfl,rfl⟩,⟨.inl ⟨rfl,rfl⟩,⟨.inl ⟨rfl,rfl⟩,⟨.inl ⟨rfl,rfl⟩,trivial⟩⟩⟩⟩) sz3 ag3 rfl rfl (vI y_38.f_from) rfl wz (aO lJ rfl 0 rfl wz (aK 15 0 (.inr (by kernel_rfl)) (λ_ _ ag=>⟨.inl ⟨rfl,rfl⟩,⟨.inl ⟨rfl,rfl⟩,⟨.inl ⟨rfl,rfl⟩,⟨.inl ⟨rfl,rfl⟩,⟨.inl ⟨rfl,rfl⟩,trivial⟩⟩⟩⟩⟩) sz3 ag3 rfl rfl (vI y_36.f_from) rfl wz (ae (vI (w64 (y_38.f_from-y_36.f_from))) wz rfl ?_)))))))))))))))))))
       obtain ⟨q_46,hz_47,hF⟩:=bind_some hF
       refine Dy rfl rfl hz_47 wz (ae (vI (w64 (y_36.f_to+q_46))) wz rfl (ae (vI (w64 (y_36.f_to+q_46))) wz rfl (ai (af (af (aa (ae (vI (w64 (y_36.f_to+q_46))) wz rfl ?_)))))))
       obtain ⟨r_48,hr_49,hF⟩:=bind_some hF
       refine ay (fM hr_49) rfl yZ rfl rfl rfl rfl wz (ae (vB (!r_48)) wz rfl (ai ?_))
       rcases ak hF with⟨hc_50,hF⟩|⟨hc_50,hF⟩
       ·refine aB rfl hc_50 (af (aa (ae (vI 0) wz rfl (ae (vI 11) wz rfl (ai ?_)))))
        obtain rfl:=ah hF
        exact av (aS (.inr rfl) [(vI 0),(vI 11)] ⟨rfl,⟨rfl,trivial⟩⟩ rfl rfl rfl)
       ·refine aA rfl hc_50 (ax (af (aa (ae (vI (w64 (y_36.f_to+q_46))) wz rfl (ae (vI (w64 (y_36.f_to+q_46))) wz rfl (ae (vI 0) wz rfl (ai ?_)))))))
        obtain rfl:=ah hF
        exact av (aS (.inr rfl) [(vI (w64 (y_36.f_to+q_46))),(vI 0)] ⟨rfl,⟨rfl,trivial⟩⟩ rfl rfl rfl)
theorem uz {l_1:(List Beat)} {player_2:ByteArray} {n_3:Int} {back_4:Bool} {r:Int×Int} (hF:iI l_1 player_2 n_3 back_4=some r) :
  FnM Tryz.prog 114 [(vL Beat.enc l_1),(vS player_2),(vI n_3),(vB back_4)] [] (.tup [(vI r.1),(vI r.2)]) []:=by
 refine FnM.of_wH ⟨Tryz.prog,30,[],[]⟩ rfl Tryz.func114 rfl rfl (lb_ rfl) (by kernel_rfl) ?_
 unfold iI at hF
 refine af (aa (ae (vI 0) wz rfl (ae (vI 0) wz rfl (ai (af (af (aa (ae (vL Beat.enc l_1) wz rfl ?_))))))))
 obtain ⟨r_5,hr_6,hF⟩:=bind_some hF
 refine ay (o6 hr_6) rfl hb100 rfl rfl rfl rfl wz (ae (vI r_5) wz rfl (ai (af (aa (ae (vI r_5) wz rfl (ae (vB (r_5 != 0)) wz rfl (ai ?_)))))))
 rcases ak hF with⟨hc_7,hF⟩|⟨hc_7,hF⟩
 ·refine aB rfl hc_7 (af (aa (ae (vI r_5) wz rfl (ae (vI 0) wz rfl (ae (vI r_5) wz rfl (ai ?_))))))
  obtain rfl:=ah hF
  exact av (aS (.inr rfl) [(vI 0),(vI r_5)] ⟨rfl,⟨rfl,trivial⟩⟩ rfl rfl rfl)
 ·refine aA rfl hc_7 (ax (af (af (aa (ae (vS player_2) wz rfl ?_)))))
  obtain ⟨r_8,hr_9,hF⟩:=bind_some hF
  refine ay (kE hr_9) rfl Cb rfl rfl rfl rfl wz (ae (vB (!r_8)) wz rfl (ai ?_))
  rcases ak hF with⟨hc_10,hF⟩|⟨hc_10,hF⟩
  ·refine aB rfl hc_10 (af (aa (ae (vI 0) wz rfl (ae (vI 5) wz rfl (ai ?_)))))
   obtain rfl:=ah hF
   exact av (aS (.inr rfl) [(vI 0),(vI 5)] ⟨rfl,⟨rfl,trivial⟩⟩ rfl rfl rfl)
  ·refine aA rfl hc_10 (ax (af (af (aa (ae (vI n_3) wz rfl ?_)))))
   obtain ⟨r_11,hr_12,hF⟩:=bind_some hF
   refine ay (fM hr_12) rfl yZ rfl rfl rfl rfl wz (ae (vB (!r_11)) wz rfl (ai ?_))
   rcases ak hF with⟨hc_13,hF⟩|⟨hc_13,hF⟩
   ·refine aB rfl hc_13 (af (aa (ae (vI 0) wz rfl (ae (vI 1) wz rfl (ai ?_)))))
    obtain rfl:=ah hF
    exact av (aS (.inr rfl) [(vI 0),(vI 1)] ⟨rfl,⟨rfl,trivial⟩⟩ rfl rfl rfl)
   ·refine aA rfl hc_13 (ax (af (aa (ae (vL Beat.enc l_1) wz rfl (ae (vS player_2) wz rfl (ae (vB back_4) wz rfl ?_))))))
    obtain ⟨r_14,hr_15,hF⟩:=bind_some hF
    refine ay (q8 hr_15) rfl hb131 rfl rfl rfl rfl wz (ae (vI n_3) wz rfl ?_)
    obtain ⟨r_16,hr_17,hF⟩:=bind_some hF
    refine ay (sZ hr_17) rfl hb132 rfl rfl rfl rfl wz (ae (vI r_16.1) wz rfl (ae (vI r_16.2) wz rfl (ae (vI r_16.1) wz rfl (ae (vI r_16.2) wz rfl (ai ?_)))))
    obtain rfl:=ah hF
    exact av (aS (.inr rfl) [(vI r_16.1),(vI r_16.2)] ⟨rfl,⟨rfl,trivial⟩⟩ rfl rfl rfl)
theorem u7 {l_1:(List Beat)} {player_2:ByteArray} {clock_3:Int} {r:Int×Int} (hF:lL l_1 player_2 clock_3=some r) :
  FnM Tryz.prog 76 [(vL Beat.enc l_1),(vS player_2),(vI clock_3)] [] (.tup [(vI r.1),(vI r.2)]) []:=by
 refine FnM.of_wH ⟨Tryz.prog,14,[],[]⟩ rfl Tryz.func76 rfl rfl (lb_ rfl) (by kernel_rfl) ?_
 unfold lL at hF
 refine af (aa (ae (vI 0) wz rfl (ae (vI 0) wz rfl (ai (af (aa (ae (vL Beat.enc l_1) wz rfl (ae (vS player_2) wz rfl (ae (vI clock_3) wz rfl ?_)))))))))
 obtain ⟨r_4,hr_5,hF⟩:=bind_some hF
 refine ay (uz hr_5) rfl hb114 rfl rfl rfl rfl wz (ae (vI r_4.1) wz rfl (ae (vI r_4.2) wz rfl (ae (vI r_4.1) wz rfl (ae (vI r_4.2) wz rfl (ai ?_)))))
 obtain rfl:=ah hF
 exact av (aS (.inr rfl) [(vI r_4.1),(vI r_4.2)] ⟨rfl,⟨rfl,trivial⟩⟩ rfl rfl rfl)
theorem wy {r:Bool} (hF:kR  = some r) :
  FnM Tryz.prog 28 [] [] (vB r) []:=by
 refine FnM.of_wH ⟨Tryz.prog,16,[],[]⟩ rfl Tryz.func28 rfl rfl (lb_ rfl) (by kernel_rfl) ?_
 unfold kR at hF
 refine af (aa (ae (vB false) wz rfl (ai (af (aa (ae (.d (.agg (Beat.enc (⟨(⟨#[112]⟩:ByteArray),0,100⟩:Beat)))) wz (by kernel_rfl) (ae (.d (.agg (Beat.enc (⟨(⟨#[112]⟩:ByteArray),1000,1300⟩:Beat)))) wz (by kernel_rfl) (gW (([(⟨(⟨#[112]⟩:ByteArray),0,100⟩:Beat),(⟨(⟨#[112]⟩:ByteArray),1000,1300⟩:Beat)]:List Beat).map Beat.enc) Cm ez74 rfl rfl rfl rfl rfl wz ?_))))))))
 obtain ⟨r_1,hr_2,hF⟩:=bind_some hF
 refine ay (u7 hr_2) rfl hb76 rfl rfl rfl rfl wz (ae (.tup [(vI r_1.1),(vI r_1.2)]) wz rfl (ae (vI r_1.1) wz rfl (ae (vI r_1.2) wz rfl (ae (vI r_1.1) wz rfl (ae (vI r_1.2) wz rfl (ai (af ?_)))))))
 obtain ⟨v_3,h_4,hF⟩:=bind_some hF
 refine aH (β:=Unit) (λ_=>([(0,(vB v_3))]:SL_)) (λ_=>([]:Hp)) (λ_=>True) ?_ ?_
 ·refine aa (ae (vI r_1.2) wz rfl (ae (vB (r_1.2==0)) wz rfl ?_))
  rcases ak h_4 with⟨hc_5,h_4⟩|⟨hc_5,h_4⟩
  ·refine aC rfl hc_5 wz (ae (vI r_1.1) wa rfl (ae (vB (r_1.1==500)) wa rfl (ae (vB (r_1.1==500)) wz rfl (ae (vB (r_1.1==500)) wz rfl (ai ?_)))))
   obtain rfl:=ah h_4
   exact cu
  ·refine aC rfl hc_5 wz (aj wa (aj wa (ae (vB false) wz rfl (ae (vB false) wz rfl (ai ?_)))))
   obtain rfl:=ah h_4
   exact cu
 ·rintro ⟨⟩ _ sl_ H_ hp_ hq_
  refine aV _ hp_ hq_ ?_
  obtain rfl:=ah hF
  exact av (aS (.inr rfl) [(vB v_3)] ⟨rfl,trivial⟩ rfl rfl rfl)
theorem q9 {l_1:(List Int)} {r:Bool} (hF:jI l_1=some r) :
  FnM Tryz.prog 5 [(vL eI l_1)] [] (vB r) []:=by
 refine FnM.of_wH ⟨Tryz.prog,113,[],[]⟩ rfl Tryz.func5 rfl rfl (lb_ rfl) (by kernel_rfl) ?_
 unfold jI at hF
 refine af (aa (ae (vB false) wz rfl (ai (af (aa (ae (vL eI l_1) wz rfl (ae (.d (.agg (Stream.enc (⟨l_1,0⟩:Stream)))) wz (by kernel_rfl) (kY 0 (.inl rfl) [(vL eI l_1),(vI 0)] rfl rfl wz (λn_2=>iA 0 (.inl rfl) z23 rfl wz (λn_3=>lm 0 il ft 1 DK rfl rfl [(.ref n_2 0 0)] rfl wz (ai (af (bU (aK 0 1 (.inr (by kernel_rfl)) (λ_ _ ag=>trivial) DK ag23 rfl rfl (.ref n_2 0 0) rfl wz ?_))))))))))))))
 obtain ⟨r_4,hr_5,hF⟩:=bind_some hF
 refine bu 1 [0] (.inr (by kernel_rfl)) (λ_ _ ag=>by exact⟨.inr (.inr (by kernel_rfl)),trivial⟩) (qN hr_5) rfl hb8 rfl (by kernel_rfl) (by kernel_rfl) (by kernel_rfl) (by kernel_rfl) (by kernel_rfl) (by kernel_rfl) (by kernel_rfl) (by decide) (by kernel_rfl) wz (vL Log_.enc r_4.1) (by kernel_rfl) ([(n_2,some (.cells 2 [(vL eI r_4.2.L),(vI r_4.2.f_at)])),(n_3,some (.cells 1 [(.ref n_2 0 0)]))]:Hp) (by kernel_rfl) (aK 2 1 (.inr (by kernel_rfl)) (λ_ _ ag=>⟨.inl ⟨rfl,rfl⟩,⟨.inr (.inl (dis1 (ag_ne ag (i:=1) (j:=0) rfl rfl (by decide)))),trivial⟩⟩) DK ag23 rfl rfl (.ref n_2 0 0) rfl wz ?_)
 obtain ⟨r_7,hr_8,hF⟩:=bind_some hF
 refine ay (oo hr_8) rfl hb18 rfl rfl rfl rfl wz (gW (([(⟨#[]⟩:ByteArray),(⟨#[]⟩:ByteArray),r_7,(⟨#[120]⟩:ByteArray),(⟨#[48,49,50,51,52,53,54,55,56,57,65,66,67,68,69,70]⟩:ByteArray)]:List ByteArray).map eS) uy yc rfl rfl rfl rfl rfl wz ?_)
 obtain ⟨r_9,hr_10,hF⟩:=bind_some hF
 refine bu 5 [0] (.inr (by kernel_rfl)) (λ_ _ ag=>by exact⟨.inr (.inr (by kernel_rfl)),⟨.inr (.inr (by kernel_rfl)),⟨.inr (.inr (by kernel_rfl)),trivial⟩⟩⟩) (dz hr_10) rfl AQ rfl (by kernel_rfl) (by kernel_rfl) (by kernel_rfl) (by kernel_rfl) (by kernel_rfl) (by kernel_rfl) (by kernel_rfl) (by decide) (by kernel_rfl) wz (vS r_9.1) (by kernel_rfl) ([(n_2,some (.cells 2 [(vL eI r_9.2.L),(vI r_9.2.f_at)])),(n_3,some (.cells 1 [(.ref n_2 0 0)]))]:Hp) (by kernel_rfl) (ae (vL Log_.enc r_4.1) wz rfl (ae (vS r_9.1) wz rfl (ai (af (af (aa (ae (vL Log_.enc r_4.1) wz rfl ?_)))))))
 obtain ⟨r_12,hr_13,hF⟩:=bind_some hF
 refine ay (qa hr_13) rfl hb39 rfl rfl rfl rfl wz (ae (vL Log_.enc r_4.1) wz rfl ?_)
 obtain ⟨r_14,hr_15,hF⟩:=bind_some hF
 refine ay (rM hr_15) rfl hb10 rfl rfl rfl rfl wz (ae (vB (r_12 != r_14)) wz rfl (ai ?_))
 rcases ak hF with⟨hc_16,hF⟩|⟨hc_16,hF⟩
 ·refine aB rfl hc_16 (af (aa (ae (vB false) wz rfl (ai ?_))))
  obtain rfl:=ah hF
  exact av (aS (.inr rfl) [(vB false)] ⟨rfl,trivial⟩ rfl rfl rfl)
 ·refine aA rfl hc_16 (ax (af (af (aa (ae (vL Log_.enc r_4.1) wz rfl (eP kC rfl wz (ae (vI 0) wz rfl (ai ?_))))))))
  obtain ⟨o_25,hj_26,hF⟩:=bind_some hF
  obtain ⟨hn_21,hj_26⟩:=bJ hj_26
  refine aH (β:=(Unit)) (λ(s_22:Unit)=>([(3,(.ref n_3 0 0)),(4,(vL Log_.enc r_4.1)),(5,(vS r_9.1))]:SL_)) (λ(s_22:Unit)=>([(n_2,some (.cells 2 [(vL eI r_9.2.L),(vI r_9.2.f_at)])),(n_3,some (.cells 1 [(.ref n_2 0 0)]))]:Hp)) (λp=>o_25 = .go p) ?_ ?_
  ·refine aG (bZ (β:=Nat×(List Log_)×(Unit)) (λp=>(λ(k_17:Nat) (l_18:List Log_) (s_22:Unit)=>([(3,(.ref n_3 0 0)),(4,(vL Log_.enc r_4.1)),(5,(vS r_9.1)),(31,(vL Log_.enc r_4.1)),(32,(vI (r_4.1.length:Int))),(33,(vI (k_17:Int)))]:SL_)) p.1 p.2.1 p.2.2) (λp=>(λ(k_17:Nat) (l_18:List Log_) (s_22:Unit)=>([(n_2,some (.cells 2 [(vL eI r_9.2.L),(vI r_9.2.f_at)])),(n_3,some (.cells 1 [(.ref n_2 0 0)]))]:Hp)) p.1 p.2.1 p.2.2) (λp=>dF (λk x s=>dV r_9 k x s) p.2.1 p.1 p.2.2=some o_25/\(r_4.1).drop p.1=p.2.1) (λp=>p.2.1.length) (0,r_4.1,()) ⟨hj_26,rfl⟩ rfl (aN rfl) ?_)
   rintro ⟨k_17,l_18,s_22⟩ ⟨hL_24,hD_20⟩
   dsimp only at hL_24 hD_20
   cases l_18 with
   | nil =>
    obtain rfl:=ah hL_24
    refine af (aa (ae (vB (decide ((k_17:Int)<(r_4.1.length:Int)))) wz rfl (ai ?_)))
    refine af (aA rfl (drop_nil hD_20) (cz ?_))
    exact bW (s_22) rfl rfl (aN rfl)
   | cons x_19 l_18 =>
    obtain ⟨c_,hc_23,hL_24⟩:=bind_some hL_24
    refine af (aa (ae (vB (decide ((k_17:Int)<(r_4.1.length:Int)))) wz rfl (ai ?_)))
    refine af (aB rfl (dN hD_20) (ax ?_))
    unfold dV at hc_23
    refine af (aG (af (aa (gM kz rfl rfl (eB hD_20) rfl wz (dM eG iw rfl (.d (.agg (Log_.enc x_19))) rfl wz (iA 0 (.inl rfl) z43 rfl wz (λn_27=>lm 0 il ft 2 eG rfl rfl [(vS x_19.Player),(vS x_19.Item),(vI x_19.No),(vI x_19.Clock),(vI x_19.Long),(vS x_19.Sum)] rfl wz (ai (af (aa (ae (vS r_9.1) wz rfl (aK 0 2 il ft eG iw rfl rfl (.d (.agg (Log_.enc x_19))) rfl wz ?_))))))))))))
    obtain ⟨r_28,hr_29,hc_23⟩:=bind_some hc_23
    refine ay (xX hr_29) rfl hb40 rfl rfl rfl rfl wz (ae (.tup [(vS r_28.1),(vI r_28.2)]) wz rfl (ae (vS r_28.1) wz rfl (ae (vI r_28.2) wz rfl (ae (vS r_28.1) wz rfl (ae (vI r_28.2) wz rfl (ai (af (bU (ae (vS r_9.1) wz rfl ?_)))))))))
    obtain ⟨r_30,hr_31,hc_23⟩:=bind_some hc_23
    refine ay (l8 hr_31) rfl hb41 rfl rfl rfl rfl wz (aK 2 2 (.inr (by kernel_rfl)) (λ_ _ ag=>trivial) eG iw rfl rfl (.d (.agg (Log_.enc x_19))) rfl wz ?_)
    obtain ⟨r_32,hr_33,hc_23⟩:=bind_some hc_23
    refine ay (kS hr_33) rfl hb24 rfl rfl rfl rfl wz (gW (([r_30,r_32]:List Int).map eI) es90 ez90 rfl rfl rfl rfl rfl wz ?_)
    obtain ⟨r_34,hr_35,hc_23⟩:=bind_some hc_23
    refine ay (yO hr_35) rfl hb14 rfl rfl rfl rfl wz (ae (vI r_34) wz rfl (ai (af ?_)))
    obtain ⟨v_36,h_37,hc_23⟩:=bind_some hc_23
    refine aH (β:=Unit) (λ_=>([(3,(.ref n_3 0 0)),(4,(vL Log_.enc r_4.1)),(5,(vS r_9.1)),(31,(vL Log_.enc r_4.1)),(32,(vI (r_4.1.length:Int))),(33,(vI (k_17:Int))),(70,(vB v_36))]:SL_)) (λ_=>([(n_2,some (.cells 2 [(vL eI r_9.2.L),(vI r_9.2.f_at)])),(n_3,some (.cells 1 [(.ref n_2 0 0)])),(n_27,some (.cells 6 [(vS x_19.Player),(vS x_19.Item),(vI x_19.No),(vI x_19.Clock),(vI x_19.Long),(vS x_19.Sum)]))]:Hp)) (λ_=>True) ?_ ?_
    ·refine aa (ae (vI r_28.2) wz rfl (ae (vI r_34) wz rfl (ae (vB (r_28.2 != r_34)) wz rfl ?_)))
     rcases ak h_37 with⟨hc_38,h_37⟩|⟨hc_38,h_37⟩
     ·refine aC rfl hc_38 wz (aj wa (aj wa (aj wa (aj (wn rfl rfl) (aj (wn rfl rfl) (aj (wn rfl rfl) (aj (wn rfl rfl) (aj (wn rfl rfl) (aj wa (ae (vB true) wz rfl (ae (vB true) wz rfl (aj wa (aj wa (aj wa (aj (wn rfl rfl) (aj (wn rfl rfl) (aj wa (ae (vB true) wz rfl (ai ?_)))))))))))))))))))
      obtain rfl:=ah h_37
      exact cu
     ·refine aC rfl hc_38 wz (ae (vI r_34) wa rfl (ae (vB (r_34==0)) wa rfl ?_))
      rcases ak h_37 with⟨hc_39,h_37⟩|⟨hc_39,h_37⟩
      ·refine aC rfl hc_39 wa (ae (vS r_28.1) wa rfl (ae (vS r_9.1) wa rfl (aK 0 2 il ft eG iw rfl rfl (.d (.agg (Log_.enc x_19))) rfl wa ?_)))
       obtain ⟨r_40,hr_41,h_37⟩:=bind_some h_37
       refine ay (mR hr_41) rfl hb42 rfl rfl rfl rfl wa (ae (vB (sNe r_28.1 r_40)) wa rfl (ae (vB (sNe r_28.1 r_40)) wa rfl (ae (vB (sNe r_28.1 r_40)) wz rfl ?_)))
       rcases ak h_37 with⟨hc_42,h_37⟩|⟨hc_42,h_37⟩
       ·refine aC rfl hc_42 wz (aj wa (aj wa (aj wa (aj (wn rfl rfl) (aj (wn rfl rfl) (aj wa (ae (vB true) wz rfl (ai ?_))))))))
        obtain rfl:=ah h_37
        exact cu
       ·refine aC rfl hc_42 wz (ae (vI r_34) wa rfl (ae (vB (r_34 != 0)) wa rfl ?_))
        rcases ak h_37 with⟨hc_43,h_37⟩|⟨hc_43,h_37⟩
        ·refine aC rfl hc_43 wa (ae (vS r_28.1) wa rfl (ae (vB (sNe r_28.1 (⟨#[]⟩:ByteArray))) wa rfl (ae (vB (sNe r_28.1 (⟨#[]⟩:ByteArray))) wa rfl (ae (vB (sNe r_28.1 (⟨#[]⟩:ByteArray))) wz rfl (ai ?_)))))
         obtain rfl:=ah h_37
         exact cu
        ·refine aC rfl hc_43 wa (aj wa (aj wa (ae (vB false) wa rfl (ae (vB false) wz rfl (ai ?_)))))
         obtain rfl:=ah h_37
         exact cu
      ·refine aC rfl hc_39 wa (aj wa (aj wa (aj wa (aj wa (aj wa (ae (vB false) wa rfl (ae (vB false) wz rfl (ae (vB false) wz rfl (ae (vI r_34) wa rfl (ae (vB (r_34 != 0)) wa rfl ?_))))))))))
       rcases ak h_37 with⟨hc_44,h_37⟩|⟨hc_44,h_37⟩
       ·refine aC rfl hc_44 wa (ae (vS r_28.1) wa rfl (ae (vB (sNe r_28.1 (⟨#[]⟩:ByteArray))) wa rfl (ae (vB (sNe r_28.1 (⟨#[]⟩:ByteArray))) wa rfl (ae (vB (sNe r_28.1 (⟨#[]⟩:ByteArray))) wz rfl (ai ?_)))))
        obtain rfl:=ah h_37
        exact cu
       ·refine aC rfl hc_44 wa (aj wa (aj wa (ae (vB false) wa rfl (ae (vB false) wz rfl (ai ?_)))))
        obtain rfl:=ah h_37
        exact cu
    ·rintro ⟨⟩ _ sl_ H_ hp_ hq_
     refine aV _ hp_ hq_ ?_
     rcases ak hc_23 with⟨hc_45,hc_23⟩|⟨hc_45,hc_23⟩
     ·refine aB rfl hc_45 (af (aa (ae (vB false) wz rfl (ai ?_))))
      obtain rfl:=ah hc_23
      obtain rfl:=ah hL_24
      obtain rfl:=ah hF
      exact av (aS (.inr rfl) [(vB false)] ⟨rfl,trivial⟩ rfl rfl rfl)
     ·refine aA rfl hc_45 (ax (aa (iQ (dX hD_20 hn_21) wz rfl (ae (vI ((k_17+1:Nat):Int)) wz rfl (ai ?_)))))
      obtain rfl:=ah hc_23
      exact cO (k_17+1,l_18,()) ⟨hL_24,bv hD_20⟩ (ls_ _) rfl (aN rfl)
  ·rintro s_22 ho_ sl_ H_ hp_ hq_
   subst ho_
   refine aV _ hp_ hq_ (af (aa (ae (vL Log_.enc r_4.1) wz rfl ?_)))
   obtain ⟨r_46,hr_47,hF⟩:=bind_some hF
   refine yg [] (eX hr_47) rfl hb29 rfl (by kernel_rfl) (by kernel_rfl) (by kernel_rfl) (by kernel_rfl) (by kernel_rfl) rfl (by decide) (by kernel_rfl) wz ([(n_2,some (.cells 2 [(vL eI r_9.2.L),(vI r_9.2.f_at)])),(n_3,some (.cells 1 [(.ref n_2 0 0)]))]:Hp) (λ_=>by kernel_rfl) (λn_49=>ae (.fn 44 [(.ref n_3 0 0)]) wz rfl (fH (v':=(kV false n_49 6 r_46)) 73 rfl rfl (DJ (b':=kB false 6 Log_.enc r_46) 2 rfl rfl ?_)))
   obtain ⟨r_50,hr_51,hF⟩:=bind_some hF
   obtain ⟨_,hl_53,hF⟩:=bind_some hF
   obtain ⟨r_54,hr_52,hF⟩:=bind_some hF
   replace hl_53:=leL_le hl_53
   obtain ⟨_,hk_55,hF⟩:=bind_some hF
   replace hk_55:=Ei hk_55
   refine CO [1,0] 2 0 (fU hr_51) (fV hr_52) hl_53 (λh1_ h2_=>Eb h1_ h2_ hk_55 (λe_=>by rw [e_] <;> rfl)) rfl hb43 rfl rfl (by kernel_rfl) (by kernel_rfl) (by kernel_rfl) rfl rfl (by kernel_rfl) (by kernel_rfl) (by kernel_rfl) (by kernel_rfl) rfl rfl (by decide) wz ([(n_2,some (.cells 2 [(vL eI r_50.2.L),(vI r_50.2.f_at)])),(n_3,some (.cells 1 [(.ref n_2 0 0)])),(n_49,kB (false || !r_46.isEmpty) 6 Log_.enc r_50.1)]:Hp) (by kernel_rfl) (ae (kV (false || !r_46.isEmpty) n_49 6 r_50.1) wz rfl (ai (af (af (aa (aK 0 1 il ft DK ag23 rfl rfl (.ref n_2 0 0) rfl wz ?_))))))
   obtain ⟨r_56,hr_57,hF⟩:=bind_some hF
   refine bu 0 [0] il ft (dP hr_57) rfl CR rfl (by kernel_rfl) (by kernel_rfl) (by kernel_rfl) (by kernel_rfl) (by kernel_rfl) (by kernel_rfl) (by kernel_rfl) (by decide) (by kernel_rfl) wz (vB r_56.1) (by kernel_rfl) ([(n_2,some (.cells 2 [(vL eI r_56.2.L),(vI r_56.2.f_at)])),(n_3,some (.cells 1 [(.ref n_2 0 0)])),(n_49,kB (false || !r_46.isEmpty) 6 Log_.enc r_50.1)]:Hp) (by kernel_rfl) (ai ?_)
   obtain ⟨v_59,h_60,hF⟩:=bind_some hF
   refine aH (β:=Unit) (λ_=>([(5,(vS r_9.1)),(11,(kV (false || !r_46.isEmpty) n_49 6 v_59))]:SL_)) (λ_=>([(n_2,some (.cells 2 [(vL eI r_56.2.L),(vI r_56.2.f_at)])),(n_3,some (.cells 1 [(.ref n_2 0 0)])),(n_49,kB (false || !r_46.isEmpty) 6 Log_.enc v_59)]:Hp)) (λ_=>True) ?_ ?_
   ·rcases ak h_60 with⟨hc_61,h_60⟩|⟨hc_61,h_60⟩
    ·refine aB rfl hc_61 (af (aa (ae (kV (false || !r_46.isEmpty) n_49 6 r_50.1) wz rfl (h_lenk kC rfl wz (ae (vI 0) wz rfl (ai ?_))))))
     obtain ⟨o_70,hj_71,h_60⟩:=bind_some h_60
     obtain ⟨hn_66,hj_71⟩:=bJ hj_71
     refine aH (β:=((List Log_))) (λ(s_67:List Log_)=>([(5,(vS r_9.1)),(11,(kV (false || !r_46.isEmpty) n_49 6 s_67))]:SL_)) (λ(s_67:List Log_)=>([(n_2,some (.cells 2 [(vL eI r_56.2.L),(vI r_56.2.f_at)])),(n_3,some (.cells 1 [(.ref n_2 0 0)])),(n_49,kB (false || !r_46.isEmpty) 6 Log_.enc s_67)]:Hp)) (λp=>o_70 = .go p) ?_ ?_
     ·refine aG (bZ (β:=Nat×(List Nat)×((List Log_))) (λp=>(λ(k_62:Nat) (l_63:List Nat) (s_67:List Log_)=>([(5,(vS r_9.1)),(11,(kV (false || !r_46.isEmpty) n_49 6 s_67)),(79,(vI (r_50.1.length:Int))),(80,(vI (k_62:Int)))]:SL_)) p.1 p.2.1 p.2.2) (λp=>(λ(k_62:Nat) (l_63:List Nat) (s_67:List Log_)=>([(n_2,some (.cells 2 [(vL eI r_56.2.L),(vI r_56.2.f_at)])),(n_3,some (.cells 1 [(.ref n_2 0 0)])),(n_49,kB (false || !r_46.isEmpty) 6 Log_.enc s_67)]:Hp)) p.1 p.2.1 p.2.2) (λp=>dF (λk x s=>dh k x s) p.2.1 p.1 p.2.2=some o_70/\((List.range ((r_50.1.length:Int)).toNat)).drop p.1=p.2.1) (λp=>p.2.1.length) (0,(List.range ((r_50.1.length:Int)).toNat),r_50.1) ⟨hj_71,rfl⟩ rfl (aN rfl) ?_)
      rintro ⟨k_62,l_63,s_67⟩ ⟨hL_69,hD_65⟩
      dsimp only at hL_69 hD_65
      cases l_63 with
      | nil =>
       obtain rfl:=ah hL_69
       refine af (aa (ae (vB (decide ((k_62:Int)<(r_50.1.length:Int)))) wz rfl (ai ?_)))
       refine af (aA rfl (kJ hD_65) (cz ?_))
       exact bW (s_67) rfl rfl (aN rfl)
      | cons x_64 l_63 =>
       obtain ⟨c_,hc_68,hL_69⟩:=bind_some hL_69
       refine af (aa (ae (vB (decide ((k_62:Int)<(r_50.1.length:Int)))) wz rfl (ai ?_)))
       refine af (aB rfl (jm hD_65) (ax ?_))
       unfold dh at hc_68
       refine af (aG (af (aa (ae (vI (k_62:Int)) wz rfl (ae (vI (k_62:Int)) wz rfl (ai (aa (ae (kV (false || !r_46.isEmpty) n_49 6 s_67) wz rfl (ae (vI (k_62:Int)) wz rfl (ae (vI (k_62:Int)) wz rfl (ae (vI (w64 (7+(k_62:Int)))) wz rfl ?_)))))))))))
       obtain ⟨_,hi_72,hc_68⟩:=bind_some hc_68
       have hn_73:=inR_ne hi_72
       refine fH (v':=(gV n_49 6 s_67)) 11 rfl (Ca hn_73) (fH (v':=(gV n_49 6 s_67)) 83 rfl (Ca hn_73) (DJ 2 rfl (kB_gB hn_73) (xP kz rfl rfl (uS hi_72) (nT hi_72) wz (aO iX rfl 2 rfl wz ?_))))
       obtain ⟨e_74,hy_75,hc_68⟩:=bind_some hc_68
       refine lS 0 il ft 2 sz3 rfl rfl hy_75 (⟨e_74.Player,e_74.Item,(w64 (7+(k_62:Int))),e_74.Clock,e_74.Long,e_74.Sum⟩:Log_) rfl wz (fH (v':=(gV n_49 6 (s_67.set (0+((k_62:Int)).toNat) (⟨e_74.Player,e_74.Item,(w64 (7+(k_62:Int))),e_74.Clock,e_74.Long,e_74.Sum⟩:Log_)))) 11 rfl (dD (by simp)) (fH (v':=(gV n_49 6 (s_67.set (0+((k_62:Int)).toNat) (⟨e_74.Player,e_74.Item,(w64 (7+(k_62:Int))),e_74.Clock,e_74.Long,e_74.Sum⟩:Log_)))) 83 rfl (dD (by simp)) (fH (v':=(kV (false || !r_46.isEmpty) n_49 6 (s_67.set (0+((k_62:Int)).toNat) (⟨e_74.Player,e_74.Item,(w64 (7+(k_62:Int))),e_74.Clock,e_74.Long,e_74.Sum⟩:Log_)))) 11 rfl (Ca (Ai hn_73)).symm (fH (v':=(kV (false || !r_46.isEmpty) n_49 6 (s_67.set (0+((k_62:Int)).toNat) (⟨e_74.Player,e_74.Item,(w64 (7+(k_62:Int))),e_74.Clock,e_74.Long,e_74.Sum⟩:Log_)))) 83 rfl (Ca (Ai hn_73)).symm (DJ (b':=kB (false || !r_46.isEmpty) 6 Log_.enc (s_67.set (0+((k_62:Int)).toNat) (⟨e_74.Player,e_74.Item,(w64 (7+(k_62:Int))),e_74.Clock,e_74.Long,e_74.Sum⟩:Log_))) 2 rfl (kB_gB (Ai hn_73)).symm (ai (aa (iQ (kN hD_65 hn_66) wz rfl (ae (vI ((k_62+1:Nat):Int)) wz rfl (ai ?_))))))))))
       obtain rfl:=ah hc_68
       exact cO (k_62+1,l_63,(s_67.set (0+((k_62:Int)).toNat) (⟨e_74.Player,e_74.Item,(w64 (7+(k_62:Int))),e_74.Clock,e_74.Long,e_74.Sum⟩:Log_))) ⟨hL_69,bv hD_65⟩ (ls_ _) rfl (aN rfl)
     ·rintro s_67 ho_ sl_ H_ hp_ hq_
      subst ho_
      obtain rfl:=ah h_60
      exact bW () trivial (pick_at [0,1] hp_ rfl) (pre_at hq_ (aN rfl))
    ·refine aA rfl hc_61 (ax ?_)
     obtain rfl:=ah h_60
     exact cu
   ·rintro ⟨⟩ _ sl_ H_ hp_ hq_
    refine aV _ hp_ hq_ (af (DR 2 rfl (wH_cok 11 2 rfl rfl (aa (ae (vS r_9.1) wz rfl (ae (vL Log_.enc v_59) wz rfl ?_))))))
    obtain ⟨r_76,hr_77,hF⟩:=bind_some hF
    refine ay (uO hr_77) rfl hb45 rfl rfl rfl rfl wz (ae (.tup [(vL Log_.enc r_76.1),(vI r_76.2)]) wz rfl (ae (vL Log_.enc r_76.1) wz rfl (ae (vI r_76.2) wz rfl (ae (vL Log_.enc r_76.1) wz rfl (ae (vI r_76.2) wz rfl (ai (af (aa (ae (vS r_9.1) wz rfl (ae (vL Log_.enc v_59) wz rfl ?_))))))))))
    obtain ⟨r_78,hr_79,hF⟩:=bind_some hF
    refine ay (uu hr_79) rfl hb46 rfl rfl rfl rfl wz (ae (.tup [(vL Log_.enc r_78.1),(vI r_78.2)]) wz rfl (ae (vL Log_.enc r_78.1) wz rfl (ae (vI r_78.2) wz rfl (ae (vL Log_.enc r_78.1) wz rfl (ae (vI r_78.2) wz rfl (ai (af ?_)))))))
    obtain ⟨v_80,h_81,hF⟩:=bind_some hF
    refine aH (β:=Unit) (λ_=>([(2,(vB v_80))]:SL_)) (λ_=>([(n_2,some (.cells 2 [(vL eI r_56.2.L),(vI r_56.2.f_at)])),(n_3,some (.cells 1 [(.ref n_2 0 0)])),(n_49,kF (false || !r_46.isEmpty) 6 Log_.enc v_59)]:Hp)) (λ_=>True) ?_ ?_
    ·refine aa (ae (vI r_76.2) wz rfl (ae (vI r_78.2) wz rfl (ae (vB (r_76.2==r_78.2)) wz rfl ?_)))
     rcases ak h_81 with⟨hc_82,h_81⟩|⟨hc_82,h_81⟩
     ·refine aC rfl hc_82 wz (ae (vL Log_.enc r_76.1) wa rfl (ae (vL Log_.enc r_78.1) wa rfl ?_))
      obtain ⟨r_83,hr_84,h_81⟩:=bind_some h_81
      refine ay (jh hr_84) rfl hb37 rfl rfl rfl rfl wa (ae (vB r_83) wz rfl ?_)
      rcases ak h_81 with⟨hc_85,h_81⟩|⟨hc_85,h_81⟩
      ·refine aC rfl hc_85 wz ?_
       obtain ⟨r_86,hr_87,h_81⟩:=bind_some h_81
       refine ay (wy hr_87) rfl hb28 rfl rfl rfl rfl wa (ae (vB r_86) wz rfl (ae (vB r_86) wz rfl (ai ?_)))
       obtain rfl:=ah h_81
       exact cu
      ·refine aC rfl hc_85 wz (aj wa (ae (vB false) wz rfl (ae (vB false) wz rfl (ai ?_))))
       obtain rfl:=ah h_81
       exact cu
     ·refine aC rfl hc_82 wz (aj wa (aj wa (aj wa (ae (vB false) wz rfl (ae (vB false) wz rfl (aj wa (ae (vB false) wz rfl (ae (vB false) wz rfl (ai ?_)))))))))
      obtain rfl:=ah h_81
      exact cu
    ·rintro ⟨⟩ _ sl_ H_ hp_ hq_
     refine aV _ hp_ hq_ ?_
     obtain rfl:=ah hF
     exact av (aS (.inr rfl) [(vB v_80)] ⟨rfl,trivial⟩ rfl rfl rfl)
end Go.Proofs.YtdenjndllgahgaaGreatDoor.Law

