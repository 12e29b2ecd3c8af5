/-
 The machine computes these plain functions (written by a program of ours).
-/
import Derived.Test.YtjhcehhmdmbleaaGreatDoorFacts
import Derived.Test.YtjhcehhmdmbleaaGreatDoorDefs
import Derived.Test.YtjhcehhmdmbleaaGreatDoorPf6
open Go Go.Eng Go.Proofs
namespace Go.Proofs.YtjhcehhmdmbleaaGreatDoor.Law
set_option maxRecDepth 100000
set_option linter.unusedVariables false
set_option maxHeartbeats 1000000
theorem xg {l_1:(List Post)} {r:Int} (hF:jS l_1=some r) :
  FnM Tryz.prog 162 [(vL Post.enc l_1)] [] (vI r) []:=by
 refine FnM.of_wH ⟨Tryz.prog,44,[],[]⟩ rfl Tryz.func162 rfl rfl (Nat.le_of_ble_eq_true rfl) (by kernel_rfl) ?_
 unfold jS at hF
 refine af (aa (ae (vI 0) wz rfl (ai (af (af (aa (ae (vL Post.enc l_1) wz rfl (bP un63 rfl wz (ae (vB (decide ((l_1.length:Int) > 500))) wz rfl (ai ?_))))))))))
 rcases ak hF with⟨hc_2,hF⟩ | ⟨hc_2,hF⟩
 ·refine aB rfl hc_2 (af (aa (ae (vI 2) wz rfl (ai ?_))))
  obtain rfl:=ah hF
  exact ay (aM (.inr rfl) [(vI 2)] ⟨rfl,trivial⟩ rfl rfl rfl)
 ·refine aA rfl hc_2 (av (af (af (aa (ae (vL Post.enc l_1) wz rfl (bP un63 rfl wz (ae (vI 0) wz rfl (ai ?_))))))))
  obtain ⟨o_11,hj_12,hF⟩:=bind_some hF
  obtain ⟨hn_7,hj_12⟩:=aQ hj_12
  refine aG (β:=(Unit)) (fun (s_8:Unit)=>([]:List (Nat×V))) (fun (s_8:Unit)=>([]:Hp)) (fun p=>o_11 = .go p) ?_ ?_
  ·refine aF (aW (β:=Nat×(List Post)×(Unit)) (fun p=>(fun (k_3:Nat) (l_4:List Post) (s_8:Unit)=>([(0,(vL Post.enc l_1)),(8,(vL Post.enc l_1)),(9,(vI (l_1.length:Int))),(10,(vI (k_3:Int)))]:List (Nat×V))) p.1 p.2.1 p.2.2) (fun p=>(fun (k_3:Nat) (l_4:List Post) (s_8:Unit)=>([]:Hp)) p.1 p.2.1 p.2.2) (fun p=>forR (fun k x s=>iy l_1 k x s) p.2.1 p.1 p.2.2=some o_11∧(l_1).drop p.1=p.2.1) (fun p=>p.2.1.length) (0,l_1,()) ⟨hj_12,rfl⟩ rfl (aH rfl) ?_)
   rintro ⟨k_3,l_4,s_8⟩ ⟨hL_10,hD_6⟩
   dsimp only at hL_10 hD_6
   cases l_4 with
   | nil =>
    obtain rfl:=ah hL_10
    refine af (aa (ae (vB (decide ((k_3:Int) < (l_1.length:Int)))) wz rfl (ai ?_)))
    refine af (aA rfl (drop_nil hD_6) (aS ?_))
    exact aP (s_8) rfl rfl (aH rfl)
   | cons x_5 l_4 =>
    obtain ⟨c_,hc_9,hL_10⟩:=bind_some hL_10
    refine af (aa (ae (vB (decide ((k_3:Int) < (l_1.length:Int)))) wz rfl (ai ?_)))
    refine af (aB rfl (aX hD_6) (av ?_))
    unfold iy at hc_9
    refine af (aF (af (aa (ae (vI (k_3:Int)) wz rfl (dL es63 rfl rfl (bC hD_6) rfl wz (bJ sz66 ag66 rfl (.d (.agg (Post.enc x_5))) rfl wz (aY 0 (.inl rfl) z66 rfl wz (fun n_13=>ae (vI (k_3:Int)) wz rfl (bL 0 il ft 0 sz66 rfl rfl [(vS x_5.Player),(vI x_5.X),(vI x_5.Y)] rfl wz (ai (aF (af (aa (ax JE rfl 0 rfl wz (au 0 0 il ft sz9 ag9 rfl rfl (vS x_5.Player) rfl wz ?_)))))))))))))))
    obtain ⟨r_14,hr_15,hc_9⟩:=bind_some hc_9
    refine aC (dN hr_15) rfl qM rfl rfl rfl rfl wz (ae (vB (!r_14)) wz rfl (ae (vB (!r_14)) wz rfl (ai ?_)))
    rcases ak hc_9 with⟨hc_16,hc_9⟩ | ⟨hc_16,hc_9⟩
    ·refine aB rfl hc_16 (af (aa (ae (vI 5) wz rfl (ai ?_))))
     obtain rfl:=ah hc_9
     obtain rfl:=ah hL_10
     obtain rfl:=ah hF
     exact ay (aM (.inr rfl) [(vI 5)] ⟨rfl,trivial⟩ rfl rfl rfl)
    ·refine aA rfl hc_16 (af ?_)
     obtain ⟨v_17,h_18,hc_9⟩:=bind_some hc_9
     refine aG (β:=Unit) (fun _=>([(0,(vL Post.enc l_1)),(3,(vI (k_3:Int))),(4,(.ref n_13 0 0)),(8,(vL Post.enc l_1)),(9,(vI (l_1.length:Int))),(10,(vI (k_3:Int))),(20,(vB v_17))]:List (Nat×V))) (fun _=>([(n_13,some (.cells 3 [(vS x_5.Player),(vI x_5.X),(vI x_5.Y)]))]:Hp)) (fun _=>True) ?_ ?_
     ·refine aa (ax J3 rfl 1 rfl wz (au 0 0 il ft sz3 ag3 rfl rfl (vI x_5.X) rfl wz ?_))
      obtain ⟨r_19,hr_20,h_18⟩:=bind_some h_18
      refine aC (bf hr_20) rfl pJ rfl rfl rfl rfl wz ?_
      rcases ak h_18 with⟨hc_21,h_18⟩ | ⟨hc_21,h_18⟩
      ·refine aD rfl hc_21 wz (aj wa (aj wa (aj wa (ae (vB true) wz rfl (ae (vB true) wz rfl (ai ?_))))))
       obtain rfl:=ah h_18
       exact cu
      ·refine aD rfl hc_21 wz (ax JU rfl 2 rfl wa (au 0 0 il ft sz3 ag3 rfl rfl (vI x_5.Y) rfl wa ?_))
       obtain ⟨r_22,hr_23,h_18⟩:=bind_some h_18
       refine aC (bf hr_23) rfl pJ rfl rfl rfl rfl wa (ae (vB r_22) wz rfl (ae (vB r_22) wz rfl (ai ?_)))
       obtain rfl:=ah h_18
       exact cu
     ·rintro ⟨⟩ _ sl_ H_ hp_ hq_
      refine aK _ hp_ hq_ ?_
      rcases ak hc_9 with⟨hc_24,hc_9⟩ | ⟨hc_24,hc_9⟩
      ·refine aB rfl hc_24 (af (aa (ae (vI 1) wz rfl (ai ?_))))
       obtain rfl:=ah hc_9
       obtain rfl:=ah hL_10
       obtain rfl:=ah hF
       exact ay (aM (.inr rfl) [(vI 1)] ⟨rfl,trivial⟩ rfl rfl rfl)
      ·refine aA rfl hc_24 (af ?_)
       obtain ⟨v_25,h_26,hc_9⟩:=bind_some hc_9
       refine aG (β:=Unit) (fun _=>([(0,(vL Post.enc l_1)),(8,(vL Post.enc l_1)),(9,(vI (l_1.length:Int))),(10,(vI (k_3:Int))),(29,(vB v_25))]:List (Nat×V))) (fun _=>([(n_13,some (.cells 3 [(vS x_5.Player),(vI x_5.X),(vI x_5.Y)]))]:Hp)) (fun _=>True) ?_ ?_
       ·refine bB (ae (vI (k_3:Int)) wz rfl (ae (vB (decide ((k_3:Int) > 0))) wz rfl ?_))
        rcases ak h_26 with⟨hc_27,h_26⟩ | ⟨hc_27,h_26⟩
        ·refine aD rfl hc_27 wz (ax JE rfl 0 rfl wa (au 4 0 (.inr (by kernel_rfl)) (fun _ _ ag=>trivial) sz9 ag9 rfl rfl (vS x_5.Player) rfl wa (ae (vL Post.enc l_1) wa rfl (ae (vI (k_3:Int)) wa rfl (ae (vI (w64 ((k_3:Int) - 1))) wa rfl ?_)))))
         obtain ⟨y_28,hy_29,h_26⟩:=bind_some h_26
         refine dL es63 rfl rfl hy_29 rfl wa (lW JE rfl [.str y_28.Player,.int .i64 y_28.X,.int .i64 y_28.Y] rfl rfl wa (bJ sz9 ag9 rfl (vS y_28.Player) rfl wa (ae (vB (sLe x_5.Player y_28.Player)) wa rfl (ae (vB (sLe x_5.Player y_28.Player)) wz rfl (ae (vB (sLe x_5.Player y_28.Player)) wz rfl (ai ?_))))))
         obtain rfl:=ah h_26
         exact cu
        ·refine aD rfl hc_27 wz (aj wa (aj wa (aj wa (aj wa (aj wa (aj wa (aj wa (aj wa (aj wa (ae (vB false) wz rfl (ae (vB false) wz rfl (ai ?_))))))))))))
         obtain rfl:=ah h_26
         exact cu
       ·rintro ⟨⟩ _ sl_ H_ hp_ hq_
        refine aK _ hp_ hq_ ?_
        rcases ak hc_9 with⟨hc_30,hc_9⟩ | ⟨hc_30,hc_9⟩
        ·refine aB rfl hc_30 (af (aa (ae (vI 7) wz rfl (ai ?_))))
         obtain rfl:=ah hc_9
         obtain rfl:=ah hL_10
         obtain rfl:=ah hF
         exact ay (aM (.inr rfl) [(vI 7)] ⟨rfl,trivial⟩ rfl rfl rfl)
        ·refine aA rfl hc_30 (av (aa (dQ (bu hD_6 hn_7) wz rfl (ae (vI ((k_3 + 1:Nat):Int)) wz rfl (ai ?_)))))
         obtain rfl:=ah hc_9
         exact aR (k_3 + 1,l_4,()) ⟨hL_10,aN hD_6⟩ (Nat.lt_succ_self _) rfl (aH rfl)
  ·rintro s_8 ho_ sl_ H_ hp_ hq_
   subst ho_
   refine aK _ hp_ hq_ (af (aa (ae (vI 0) wz rfl (ai ?_))))
   obtain rfl:=ah hF
   exact ay (aM (.inr rfl) [(vI 0)] ⟨rfl,trivial⟩ rfl rfl rfl)
theorem yu {l_1:(List Alert)} {posts_2:(List Post)} {r:Int} (hF:kC l_1 posts_2=some r) :
  FnM Tryz.prog 83 [(vL Alert.enc l_1),(vL Post.enc posts_2)] [] (vI r) []:=by
 refine FnM.of_wH ⟨Tryz.prog,13,[],[]⟩ rfl Tryz.func83 rfl rfl (Nat.le_of_ble_eq_true rfl) (by kernel_rfl) ?_
 unfold kC at hF
 refine af (aa (ae (vI 0) wz rfl (ai (af (af (aa (ae (vL Alert.enc l_1) wz rfl ?_)))))))
 obtain ⟨r_3,hr_4,hF⟩:=bind_some hF
 refine aC (vM hr_4) rfl hb161 rfl rfl rfl rfl wz (ae (vI r_3) wz rfl (ai (af (aa (ae (vI r_3) wz rfl (ae (vB (r_3 != 0)) wz rfl (ai ?_)))))))
 rcases ak hF with⟨hc_5,hF⟩ | ⟨hc_5,hF⟩
 ·refine aB rfl hc_5 (af (aa (ae (vI r_3) wz rfl (ae (vI r_3) wz rfl (ai ?_)))))
  obtain rfl:=ah hF
  exact ay (aM (.inr rfl) [(vI r_3)] ⟨rfl,trivial⟩ rfl rfl rfl)
 ·refine aA rfl hc_5 (av (af (aa (ae (vL Post.enc posts_2) wz rfl ?_))))
  obtain ⟨r_6,hr_7,hF⟩:=bind_some hF
  refine aC (xg hr_7) rfl hb162 rfl rfl rfl rfl wz (ae (vI r_6) wz rfl (ai ?_))
  obtain rfl:=ah hF
  exact ay (aM (.inr rfl) [(vI r_6)] ⟨rfl,trivial⟩ rfl rfl rfl)
theorem yh {r_1:Rect} {p_2:Post} {r:Bool} (hF:pR r_1 p_2=some r) :
  FnM Tryz.prog 183 [(.d (.agg (Rect.enc r_1))),(.ref (aJ 0) 0 0)] [(.cells 3 [(vS p_2.Player),(vI p_2.X),(vI p_2.Y)])] (vB r) [some (.cells 3 [(vS p_2.Player),(vI p_2.X),(vI p_2.Y)])]:=by
 refine FnM.of_wH ⟨Tryz.prog,36,[],[]⟩ rfl Tryz.func183 rfl rfl (Nat.le_of_ble_eq_true rfl) (by kernel_rfl) ?_
 unfold pR at hF
 refine af (aa (dJ 0 (.inl rfl) [(vI r_1.X),(vI r_1.Y),(vI r_1.W),(vI r_1.H)] rfl rfl wz (fun n_3=>ae (vB false) wz rfl (ai (af ?_)))))
 obtain ⟨v_4,h_5,hF⟩:=bind_some hF
 refine aG (β:=Unit) (fun _=>([(3,(vB v_4))]:List (Nat×V))) (fun _=>([((aJ 0),some (.cells 3 [(vS p_2.Player),(vI p_2.X),(vI p_2.Y)])),(n_3,some (.cells 4 [(vI r_1.X),(vI r_1.Y),(vI r_1.W),(vI r_1.H)]))]:Hp)) (fun _=>True) ?_ ?_
 ·refine aa (ax gQ rfl 0 rfl wz (au 0 1 il ft sz3 ag3 rfl rfl (vI r_1.X) rfl wz (ax J3 rfl 1 rfl wz (au 0 0 il ft sz3 ag3 rfl rfl (vI p_2.X) rfl wz (ae (vB (decide (r_1.X≤p_2.X))) wz rfl ?_)))))
  rcases ak h_5 with⟨hc_6,h_5⟩ | ⟨hc_6,h_5⟩
  ·refine aD rfl hc_6 wz (ax J3 rfl 1 rfl wa (au 0 0 il ft sz3 ag3 rfl rfl (vI p_2.X) rfl wa (ax gQ rfl 0 rfl wa (au 0 1 il ft sz3 ag3 rfl rfl (vI r_1.X) rfl wa (ax ku rfl 2 rfl wa (au 0 1 il ft sz3 ag3 rfl rfl (vI r_1.W) rfl wa (ae (vI (w64 (r_1.X + r_1.W))) wa rfl (ae (vB (decide (p_2.X < (w64 (r_1.X + r_1.W))))) wa rfl (ae (vB (decide (p_2.X < (w64 (r_1.X + r_1.W))))) wz rfl ?_)))))))))
   rcases ak h_5 with⟨hc_7,h_5⟩ | ⟨hc_7,h_5⟩
   ·refine aD rfl hc_7 wz (ax fV rfl 1 rfl wa (au 0 1 il ft sz3 ag3 rfl rfl (vI r_1.Y) rfl wa (ax JU rfl 2 rfl wa (au 0 0 il ft sz3 ag3 rfl rfl (vI p_2.Y) rfl wa (ae (vB (decide (r_1.Y≤p_2.Y))) wa rfl (ae (vB (decide (r_1.Y≤p_2.Y))) wz rfl ?_))))))
    rcases ak h_5 with⟨hc_8,h_5⟩ | ⟨hc_8,h_5⟩
    ·refine aD rfl hc_8 wz (ax JU rfl 2 rfl wa (au 0 0 il ft sz3 ag3 rfl rfl (vI p_2.Y) rfl wa (ax fV rfl 1 rfl wa (au 0 1 il ft sz3 ag3 rfl rfl (vI r_1.Y) rfl wa (ax kw rfl 3 rfl wa (au 0 1 il ft sz3 ag3 rfl rfl (vI r_1.H) rfl wa (ae (vI (w64 (r_1.Y + r_1.H))) wa rfl (ae (vB (decide (p_2.Y < (w64 (r_1.Y + r_1.H))))) wa rfl (ae (vB (decide (p_2.Y < (w64 (r_1.Y + r_1.H))))) wz rfl (ae (vB (decide (p_2.Y < (w64 (r_1.Y + r_1.H))))) wz rfl (ai ?_)))))))))))
     obtain rfl:=ah h_5
     exact cu
    ·refine aD rfl hc_8 wz (aj wa (aj wa (aj wa (aj wa (aj wa (aj wa (aj wa (aj wa (ae (vB false) wz rfl (ae (vB false) wz rfl (ai ?_)))))))))))
     obtain rfl:=ah h_5
     exact cu
   ·refine aD rfl hc_7 wz (aj wa (aj wa (aj wa (aj wa (aj wa (ae (vB false) wz rfl (ae (vB false) wz rfl (aj wa (aj wa (aj wa (aj wa (aj wa (aj wa (aj wa (aj wa (ae (vB false) wz rfl (ae (vB false) wz rfl (ai ?_))))))))))))))))))
    obtain rfl:=ah h_5
    exact cu
  ·refine aD rfl hc_6 wz (aj wa (aj wa (aj wa (aj wa (aj wa (aj wa (aj wa (aj wa (ae (vB false) wz rfl (ae (vB false) wz rfl (aj wa (aj wa (aj wa (aj wa (aj wa (ae (vB false) wz rfl (ae (vB false) wz rfl (aj wa (aj wa (aj wa (aj wa (aj wa (aj wa ?_)))))))))))))))))))))))
   refine aj wa (aj wa (ae (vB false) wz rfl (ae (vB false) wz rfl (ai ?_))))
   obtain rfl:=ah h_5
   exact cu
 ·rintro ⟨⟩ _ sl_ H_ hp_ hq_
  refine aK _ hp_ hq_ ?_
  obtain rfl:=ah hF
  exact ay (FQ (.inr rfl) [(vB v_4)] _ [0] [aJ 0] ⟨rfl,trivial⟩ (.cons (mF rfl rfl) (.nil)) (by kernel_rfl) ⟨(by kernel_rfl),trivial⟩ (by decide) (by kernel_rfl))
theorem lQ {s_1:(List Rect)} {f_2:Rect→Option Bool} {r:Int} {gid:FuncId} {caps:List V} {Sin:List Box} (hfn:∀ x0 r,f_2 x0=some r→FnM Tryz.prog gid ([(.d (.agg (Rect.enc x0)))]++caps) Sin (vB r) (Sin.map some)) (hbF:aI Tryz.prog gid=true) (hcapF:caps.flatMap frz = []∧caps.map co0=caps) (hokF:okL Sin.length caps=true) (hsF:∀ b∈Sin,b.ok Sin.length=true) (hmF:∀ b∈Sin,b.mut=true) (hF:fD s_1 f_2=some r) :
  FnM Tryz.prog 249 [(vL Rect.enc s_1),(.fn gid caps)] Sin (vI r) (Sin.map some):=by
 refine FnM.of_wH ⟨Tryz.prog,19,[],[]⟩ rfl Tryz.func249 rfl rfl (Nat.le_of_ble_eq_true rfl) (by kernel_rfl) ?_
 unfold fD at hF
 refine af (aa (ae (vI 0) wz rfl (ai (af (af (aa (ae (vL Rect.enc s_1) wz rfl (bP zw rfl wz (ae (vI 0) wz rfl (ai ?_))))))))))
 obtain ⟨o_11,hj_12,hF⟩:=bind_some hF
 obtain ⟨hn_7,hj_12⟩:=aQ hj_12
 refine aG (β:=(Unit)) (fun (s_8:Unit)=>([]:List (Nat×V))) (fun (s_8:Unit)=>(nV 0 Sin)) (fun p=>o_11 = .go p) ?_ ?_
 ·refine aF (aW (β:=Nat×(List Rect)×(Unit)) (fun p=>(fun (k_3:Nat) (l_4:List Rect) (s_8:Unit)=>([(0,(vL Rect.enc s_1)),(1,(.fn gid caps)),(7,(vI (s_1.length:Int))),(8,(vI (k_3:Int)))]:List (Nat×V))) p.1 p.2.1 p.2.2) (fun p=>(fun (k_3:Nat) (l_4:List Rect) (s_8:Unit)=>(nV 0 Sin)) p.1 p.2.1 p.2.2) (fun p=>forR (fun k x s=>eT f_2 k x s) p.2.1 p.1 p.2.2=some o_11∧(s_1).drop p.1=p.2.1) (fun p=>p.2.1.length) (0,s_1,()) ⟨hj_12,rfl⟩ rfl (C9 _) ?_)
  rintro ⟨k_3,l_4,s_8⟩ ⟨hL_10,hD_6⟩
  dsimp only at hL_10 hD_6
  cases l_4 with
  | nil =>
   obtain rfl:=ah hL_10
   refine af (aa (ae (vB (decide ((k_3:Int) < (s_1.length:Int)))) wz rfl (ai ?_)))
   refine af (aA rfl (drop_nil hD_6) (aS ?_))
   exact aP (s_8) rfl rfl (C9 _)
  | cons x_5 l_4 =>
   obtain ⟨c_,hc_9,hL_10⟩:=bind_some hL_10
   refine af (aa (ae (vB (decide ((k_3:Int) < (s_1.length:Int)))) wz rfl (ai ?_)))
   refine af (aB rfl (aX hD_6) (av ?_))
   unfold eT at hc_9
   refine af (aF (af (aa (ae (vI (k_3:Int)) wz rfl (ae (vI (k_3:Int)) wz rfl (ai (af (aa (ae (.fn gid caps) wz rfl (ae (vL Rect.enc s_1) wz rfl (ae (vI (k_3:Int)) wz rfl (dL zu rfl rfl (bC hD_6) rfl wz (bJ dx gm rfl (.d (.agg (Rect.enc x_5))) rfl wz ?_)))))))))))))
   obtain ⟨r_13,hr_14,hc_9⟩:=bind_some hc_9
   refine J5 (hfn _ _ hr_14) rfl hbF rfl rfl hcapF hokF hsF hmF rfl wz rfl (ai ?_)
   rcases ak hc_9 with⟨hc_15,hc_9⟩ | ⟨hc_15,hc_9⟩
   ·refine aB rfl hc_15 (af (aa (ae (vI (k_3:Int)) wz rfl (ae (vI (k_3:Int)) wz rfl (ai ?_)))))
    obtain rfl:=ah hc_9
    obtain rfl:=ah hL_10
    obtain rfl:=ah hF
    exact ay (finS hsF (.inr rfl) [(vI (k_3:Int))] ⟨rfl,trivial⟩ rfl rfl rfl)
   ·refine aA rfl hc_15 (av (aa (dQ (bu hD_6 hn_7) wz rfl (ae (vI ((k_3 + 1:Nat):Int)) wz rfl (ai ?_)))))
    obtain rfl:=ah hc_9
    exact aR (k_3 + 1,l_4,()) ⟨hL_10,aN hD_6⟩ (Nat.lt_succ_self _) rfl (C9 _)
 ·rintro s_8 ho_ sl_ H_ hp_ hq_
  subst ho_
  refine aK _ hp_ hq_ (af (aa (ae (vI (-1)) wz rfl (ai ?_))))
  obtain rfl:=ah hF
  exact ay (finS hsF (.inr rfl) [(vI (-1))] ⟨rfl,trivial⟩ rfl rfl rfl)
theorem kL {s_1:(List Rect)} {f_2:Rect→Option Bool} {r:Bool} {gid:FuncId} {caps:List V} {Sin:List Box} (hfn:∀ x0 r,f_2 x0=some r→FnM Tryz.prog gid ([(.d (.agg (Rect.enc x0)))]++caps) Sin (vB r) (Sin.map some)) (hbF:aI Tryz.prog gid=true) (hcapF:caps.flatMap frz = []∧caps.map co0=caps) (hokF:okL Sin.length caps=true) (hsF:∀ b∈Sin,b.ok Sin.length=true) (hmF:∀ b∈Sin,b.mut=true) (hF:eO s_1 f_2=some r) :
  FnM Tryz.prog 182 [(vL Rect.enc s_1),(.fn gid caps)] Sin (vB r) (Sin.map some):=by
 refine FnM.of_wH ⟨Tryz.prog,9,[],[]⟩ rfl Tryz.func182 rfl rfl (Nat.le_of_ble_eq_true rfl) (by kernel_rfl) ?_
 unfold eO at hF
 refine af (aa (ae (vB false) wz rfl (ai (af (aa (ae (vL Rect.enc s_1) wz rfl (ae (.fn gid caps) wz rfl ?_)))))))
 obtain ⟨r_3,hr_4,hF⟩:=bind_some hF
 refine J5 (lQ (gid:=gid) (caps:=caps) (Sin:=Sin) hfn hbF hcapF hokF hsF hmF hr_4) rfl hb249 rfl rfl ⟨rfl,rfl⟩ (by simp [okL,okV,hokF]) hsF hmF rfl wz rfl (ae (vB (decide (r_3≥0))) wz rfl (ae (vB (decide (r_3≥0))) wz rfl (ai ?_)))
 obtain rfl:=ah hF
 exact ay (finS hsF (.inr rfl) [(vB (decide (r_3≥0)))] ⟨rfl,trivial⟩ rfl rfl rfl)
theorem AR {a_1:Alert} {p_2:Post} {r:Bool} (hF:oN a_1 p_2=some r) :
  FnM Tryz.prog 109 [(.d (.agg (Alert.enc a_1))),(.d (.agg (Post.enc p_2)))] [] (vB r) []:=by
 refine FnM.of_wH ⟨Tryz.prog,9,[],[]⟩ rfl Tryz.func109 rfl rfl (Nat.le_of_ble_eq_true rfl) (by kernel_rfl) ?_
 unfold oN at hF
 refine af (aa (dJ 0 (.inl rfl) [(vS a_1.Id),(vS a_1.Sender),(vI a_1.Kind),(vL eS a_1.Refs),(vI a_1.At),(vI a_1.Until),(vI a_1.Weight),(vL Rect.enc a_1.Areas),(vS a_1.Text)] rfl rfl wz (fun n_3=>dJ 0 (.inl rfl) [(vS p_2.Player),(vI p_2.X),(vI p_2.Y)] rfl rfl wz (fun n_4=>ae (vB false) wz rfl (ai (af (aa (ax BJ rfl 7 rfl wz (au 0 0 il ft Mf LQ rfl rfl (vL Rect.enc a_1.Areas) rfl wz (ae (.fn 183 [(.ref n_4 0 0)]) wz rfl ?_))))))))))
 obtain ⟨r_5,hr_6,hF⟩:=bind_some hF
 refine gL 0 [1] il ft (kL (gid:=183) (caps := [.ref (aJ 0) 0 0]) (Sin := [(.cells 3 [(vS p_2.Player),(vI p_2.X),(vI p_2.Y)])]) (fun _ _ h_=>yh h_) hb183 ⟨rfl,rfl⟩ (by kernel_rfl) (all_ok (by kernel_rfl)) (all_mut (by kernel_rfl)) hr_6) rfl hb182 rfl (by kernel_rfl) (by kernel_rfl) (by kernel_rfl) (by kernel_rfl) (by kernel_rfl) (by kernel_rfl) (by kernel_rfl) (by decide) (by kernel_rfl) wz (vB r_5) (by kernel_rfl) ([(n_3,some (.cells 9 [(vS a_1.Id),(vS a_1.Sender),(vI a_1.Kind),(vL eS a_1.Refs),(vI a_1.At),(vI a_1.Until),(vI a_1.Weight),(vL Rect.enc a_1.Areas),(vS a_1.Text)])),(n_4,some (.cells 3 [(vS p_2.Player),(vI p_2.X),(vI p_2.Y)]))]:Hp) (by kernel_rfl) (ae (vB r_5) wz rfl (ai ?_))
 obtain rfl:=ah hF
 exact ay (aM (.inr rfl) [(vB r_5)] ⟨rfl,trivial⟩ rfl rfl rfl)
theorem zD {a_1:Alert} {p_2:Post} {r:Bool×Int} (hF:mr a_1 p_2=some r) :
  FnM Tryz.prog 45 [(.d (.agg (Alert.enc a_1))),(.d (.agg (Post.enc p_2)))] [] (.tup [(vB r.1),(vI r.2)]) []:=by
 refine FnM.of_wH ⟨Tryz.prog,18,[],[]⟩ rfl Tryz.func45 rfl rfl (Nat.le_of_ble_eq_true rfl) (by kernel_rfl) ?_
 unfold mr at hF
 refine af (aa (dJ 0 (.inl rfl) [(vS a_1.Id),(vS a_1.Sender),(vI a_1.Kind),(vL eS a_1.Refs),(vI a_1.At),(vI a_1.Until),(vI a_1.Weight),(vL Rect.enc a_1.Areas),(vS a_1.Text)] rfl rfl wz (fun n_3=>dJ 0 (.inl rfl) [(vS p_2.Player),(vI p_2.X),(vI p_2.Y)] rfl rfl wz (fun n_4=>ae (vB false) wz rfl (ae (vI 0) wz rfl (ai (af (af (aa (au 0 0 il ft uV yN rfl rfl (.d (.agg (Alert.enc a_1))) rfl wz (fH (([a_1]:List Alert).map Alert.enc) es56 ez56 rfl rfl rfl rfl rfl wz (au 0 1 il ft sz66 ag66 rfl rfl (.d (.agg (Post.enc p_2))) rfl wz (fH (([p_2]:List Post).map Post.enc) es63 ez63 rfl rfl rfl rfl rfl wz ?_)))))))))))))
 obtain ⟨r_5,hr_6,hF⟩:=bind_some hF
 refine aC (yu hr_6) rfl hb83 rfl rfl rfl rfl wz (ae (vI r_5) wz rfl (ai (af (aa (ae (vI r_5) wz rfl (ae (vB (r_5 != 0)) wz rfl (ai ?_)))))))
 rcases ak hF with⟨hc_7,hF⟩ | ⟨hc_7,hF⟩
 ·refine aB rfl hc_7 (af (aa (ae (vI r_5) wz rfl (ae (vB false) wz rfl (ae (vI r_5) wz rfl (ai ?_))))))
  obtain rfl:=ah hF
  exact ay (aM (.inr rfl) [(vB false),(vI r_5)] ⟨rfl,⟨rfl,trivial⟩⟩ rfl rfl rfl)
 ·refine aA rfl hc_7 (av (af (aa (au 0 0 il ft uV yN rfl rfl (.d (.agg (Alert.enc a_1))) rfl wz (au 0 1 il ft sz66 ag66 rfl rfl (.d (.agg (Post.enc p_2))) rfl wz ?_)))))
  obtain ⟨r_8,hr_9,hF⟩:=bind_some hF
  refine aC (AR hr_9) rfl hb109 rfl rfl rfl rfl wz (ae (vB r_8) wz rfl (ae (vI 0) wz rfl (ai ?_)))
  obtain rfl:=ah hF
  exact ay (aM (.inr rfl) [(vB r_8),(vI 0)] ⟨rfl,⟨rfl,trivial⟩⟩ rfl rfl rfl)
theorem Ew {r:Bool} (hF:oG  = some r) :
  FnM Tryz.prog 17 [] [] (vB r) []:=by
 refine FnM.of_wH ⟨Tryz.prog,75,[],[]⟩ rfl Tryz.func17 rfl rfl (Nat.le_of_ble_eq_true rfl) (by kernel_rfl) ?_
 unfold oG at hF
 refine af (aa (ae (vB false) wz rfl (ai (af (aa (ae (.d (.agg (Rect.enc (⟨0,0,2,2⟩:Rect)))) wz (by kernel_rfl) (ae (.d (.agg (Rect.enc (⟨1,1,2,2⟩:Rect)))) wz (by kernel_rfl) (fH (([(⟨0,0,2,2⟩:Rect),(⟨1,1,2,2⟩:Rect)]:List Rect).map Rect.enc) zu JM rfl rfl rfl rfl rfl wz ?_))))))))
 obtain ⟨r_1,hr_2,hF⟩:=bind_some hF
 refine aC (Dk hr_2) rfl hb77 rfl rfl rfl rfl wz (ae (.tup [(vI r_1.1),(vI r_1.2)]) wz rfl (ae (vI r_1.1) wz rfl (ae (vI r_1.2) wz rfl (ae (vI r_1.1) wz rfl (ae (vI r_1.2) wz rfl (ai (af (aa (ae (.agg [(vS (⟨#[97]⟩:ByteArray)),(vS (⟨#[98]⟩:ByteArray)),(vI 0),(vI 0),(vI 0),(vI 1),(vI 127),.nil,(vI 1),(vI 2),(vI 0),.nil,(vB false)]) wz (by kernel_rfl) (ae (.d (.agg (Window.enc (⟨0,86400000⟩:Window)))) wz (by kernel_rfl) ?_))))))))))
 obtain ⟨r_3,hr_4,hF⟩:=bind_some hF
 refine aC (yV hr_4) rfl hb78 rfl rfl rfl rfl wz (ae (.tup [(vL Window.enc r_3.1),(vI r_3.2)]) wz rfl (ae (vL Window.enc r_3.1) wz rfl (ae (vI r_3.2) wz rfl (ae (vL Window.enc r_3.1) wz rfl (ae (vI r_3.2) wz rfl (ai (af (aa (ae (.d (.agg (Window.enc (⟨0,100⟩:Window)))) wz (by kernel_rfl) (ae (.agg [(vS (⟨#[97]⟩:ByteArray)),(vS (⟨#[]⟩:ByteArray)),(vI 0),(vI 100),.nil,(vI 10),(vI 0),(vI 0)]) wz (by kernel_rfl) ?_))))))))))
 obtain ⟨r_5,hr_6,hF⟩:=bind_some hF
 refine aC (DY hr_6) rfl hb79 rfl rfl rfl rfl wz (ae (.tup [(vI r_5.1),(vI r_5.2)]) wz rfl (ae (vI r_5.1) wz rfl (ae (vI r_5.2) wz rfl (ae (vI r_5.1) wz rfl (ae (vI r_5.2) wz rfl (ai (af (aa (ae (.d (.agg (Beat.enc (⟨(⟨#[112]⟩:ByteArray),0,100⟩:Beat)))) wz (by kernel_rfl) (ae (.d (.agg (Beat.enc (⟨(⟨#[112]⟩:ByteArray),1000,1300⟩:Beat)))) wz (by kernel_rfl) (fH (([(⟨(⟨#[112]⟩:ByteArray),0,100⟩:Beat),(⟨(⟨#[112]⟩:ByteArray),1000,1300⟩:Beat)]:List Beat).map Beat.enc) E9 ez158 rfl rfl rfl rfl rfl wz ?_)))))))))))
 obtain ⟨r_7,hr_8,hF⟩:=bind_some hF
 refine aC (Co hr_8) rfl hb80 rfl rfl rfl rfl wz (ae (.tup [(vI r_7.1),(vI r_7.2)]) wz rfl (ae (vI r_7.1) wz rfl (ae (vI r_7.2) wz rfl (ae (vI r_7.1) wz rfl (ae (vI r_7.2) wz rfl (ai (aK (H0:=([]:Hp)) ([(1,(vI r_1.1)),(2,(vI r_1.2)),(3,(vL Window.enc r_3.1)),(4,(vI r_3.2)),(5,(vI r_5.1)),(6,(vI r_5.2)),(7,(vI r_7.1)),(8,(vI r_7.2))]:List (Nat×V)) (by kernel_rfl) (mM (by kernel_rfl)) (af (aa (ae (.d (.agg (Rect.enc (⟨0,0,2,2⟩:Rect)))) wz (by kernel_rfl) (fH (([(⟨0,0,2,2⟩:Rect)]:List Rect).map Rect.enc) zu JM rfl rfl rfl rfl rfl wz (ae (.agg [(vS (⟨#[97]⟩:ByteArray)),(vS (⟨#[115]⟩:ByteArray)),(vI 1),.nil,(vI 0),(vI 5),(vI 1),(vL Rect.enc ([(⟨0,0,2,2⟩:Rect)]:List Rect)),(vS (⟨#[120]⟩:ByteArray))]) wz (by kernel_rfl) (aY 0 (.inl rfl) z100 rfl wz (fun n_9=>bL 0 il ft 0 uV rfl rfl [(vS (⟨#[97]⟩:ByteArray)),(vS (⟨#[115]⟩:ByteArray)),(vI 1),.nil,(vI 0),(vI 5),(vI 1),(vL Rect.enc ([(⟨0,0,2,2⟩:Rect)]:List Rect)),(vS (⟨#[120]⟩:ByteArray))] rfl wz (ai (af (aa (au 0 0 il ft uV yN rfl rfl (.agg [(vS (⟨#[97]⟩:ByteArray)),(vS (⟨#[115]⟩:ByteArray)),(vI 1),.nil,(vI 0),(vI 5),(vI 1),(vL Rect.enc ([(⟨0,0,2,2⟩:Rect)]:List Rect)),(vS (⟨#[120]⟩:ByteArray))]) rfl wz (ae (.d (.agg (Post.enc (⟨(⟨#[112]⟩:ByteArray),1,1⟩:Post)))) wz (by kernel_rfl) ?_)))))))))))))))))))
 obtain ⟨r_10,hr_11,hF⟩:=bind_some hF
 refine aC (zD hr_11) rfl hb45 rfl rfl rfl rfl wz (ae (.tup [(vB r_10.1),(vI r_10.2)]) wz rfl (ae (vB r_10.1) wz rfl (ae (vI r_10.2) wz rfl (ae (vB r_10.1) wz rfl (ae (vI r_10.2) wz rfl (ai (af ?_)))))))
 obtain ⟨v_12,h_13,hF⟩:=bind_some hF
 refine aG (β:=Unit) (fun _=>([(0,(vB v_12))]:List (Nat×V))) (fun _=>([(n_9,some (.cells 9 [(vS (⟨#[97]⟩:ByteArray)),(vS (⟨#[115]⟩:ByteArray)),(vI 1),.nil,(vI 0),(vI 5),(vI 1),(vL Rect.enc ([(⟨0,0,2,2⟩:Rect)]:List Rect)),(vS (⟨#[120]⟩:ByteArray))]))]:Hp)) (fun _=>True) ?_ ?_
 ·refine aa (ae (vI r_1.2) wz rfl (ae (vI r_3.2) wz rfl (ae (vI r_5.2) wz rfl (ae (vI r_7.2) wz rfl (ae (vI r_10.2) wz rfl (fH (([r_1.2,r_3.2,r_5.2,r_7.2,r_10.2]:List Int).map eI) NQ ez140 rfl rfl rfl rfl rfl wz ?_))))))
  obtain ⟨r_14,hr_15,h_13⟩:=bind_some h_13
  refine aC (zC hr_15) rfl hb14 rfl rfl rfl rfl wz (ae (vB (r_14 == 0)) wz rfl ?_)
  rcases ak h_13 with⟨hc_16,h_13⟩ | ⟨hc_16,h_13⟩
  ·refine aD rfl hc_16 wz (ae (vI r_1.1) wa rfl (ae (vB (r_1.1 == 7)) wa rfl (ae (vB (r_1.1 == 7)) wz rfl ?_)))
   rcases ak h_13 with⟨hc_17,h_13⟩ | ⟨hc_17,h_13⟩
   ·refine aD rfl hc_17 wz (ae (vL Window.enc r_3.1) wa rfl (bP un147 rfl wa (ae (vB ((r_3.1.length:Int) == 1)) wa rfl (ae (vB ((r_3.1.length:Int) == 1)) wz rfl ?_))))
    rcases ak h_13 with⟨hc_18,h_13⟩ | ⟨hc_18,h_13⟩
    ·refine aD rfl hc_18 wz (ae (vI r_5.1) wa rfl (ae (vB (r_5.1 == 5)) wa rfl (ae (vB (r_5.1 == 5)) wz rfl ?_)))
     rcases ak h_13 with⟨hc_19,h_13⟩ | ⟨hc_19,h_13⟩
     ·refine aD rfl hc_19 wz (ae (vI r_7.1) wa rfl (ae (vB (r_7.1 == 500)) wa rfl (ae (vB (r_7.1 == 500)) wz rfl ?_)))
      rcases ak h_13 with⟨hc_20,h_13⟩ | ⟨hc_20,h_13⟩
      ·refine aD rfl hc_20 wz (ae (vB r_10.1) wa rfl (ae (vB r_10.1) wz rfl (ae (vB r_10.1) wz rfl (ai ?_))))
       obtain rfl:=ah h_13
       exact cu
      ·refine aD rfl hc_20 wz (aj wa (ae (vB false) wz rfl (ae (vB false) wz rfl (ai ?_))))
       obtain rfl:=ah h_13
       exact cu
     ·refine aD rfl hc_19 wz (aj wa (aj wa (ae (vB false) wz rfl (ae (vB false) wz rfl (aj wa (ae (vB false) wz rfl (ae (vB false) wz rfl (ai ?_))))))))
      obtain rfl:=ah h_13
      exact cu
    ·refine aD rfl hc_18 wz (aj wa (aj wa (ae (vB false) wz rfl (ae (vB false) wz rfl (aj wa (aj wa (ae (vB false) wz rfl (ae (vB false) wz rfl (aj wa (ae (vB false) wz rfl (ae (vB false) wz rfl (ai ?_))))))))))))
     obtain rfl:=ah h_13
     exact cu
   ·refine aD rfl hc_17 wz (aj wa (aj wa (aj wa (ae (vB false) wz rfl (ae (vB false) wz rfl (aj wa (aj wa (ae (vB false) wz rfl (ae (vB false) wz rfl (aj wa (aj wa (ae (vB false) wz rfl (ae (vB false) wz rfl (aj wa (ae (vB false) wz rfl (ae (vB false) wz rfl (ai ?_)))))))))))))))))
    obtain rfl:=ah h_13
    exact cu
  ·refine aD rfl hc_16 wz (aj wa (aj wa (ae (vB false) wz rfl (ae (vB false) wz rfl (aj wa (aj wa (aj wa (ae (vB false) wz rfl (ae (vB false) wz rfl (aj wa (aj wa (ae (vB false) wz rfl (ae (vB false) wz rfl (aj wa (aj wa (ae (vB false) wz rfl (ae (vB false) wz rfl (aj wa (ae (vB false) wz rfl (ae (vB false) wz rfl (ai ?_)))))))))))))))))))))
   obtain rfl:=ah h_13
   exact cu
 ·rintro ⟨⟩ _ sl_ H_ hp_ hq_
  refine aK _ hp_ hq_ ?_
  obtain rfl:=ah hF
  exact ay (aM (.inr rfl) [(vB v_12)] ⟨rfl,trivial⟩ rfl rfl rfl)
theorem vg {l_1:(List Int)} {r:Bool} (hF:ko l_1=some r) :
  FnM Tryz.prog 3 [(vL eI l_1)] [] (vB r) []:=by
 refine FnM.of_wH ⟨Tryz.prog,143,[],[]⟩ rfl Tryz.func3 rfl rfl (Nat.le_of_ble_eq_true rfl) (by kernel_rfl) ?_
 unfold ko at hF
 refine af (aa (ae (vB false) wz rfl (ai (af (aa (ae (vL eI l_1) wz rfl (ae (.d (.agg (Stream.enc (⟨l_1,0⟩:Stream)))) wz (by kernel_rfl) (dJ 0 (.inl rfl) [(vL eI l_1),(vI 0)] rfl rfl wz (fun n_2=>ae (.ref n_2 0 0) wz rfl (ai (af (aa (ae (.ref n_2 0 0) wz rfl ?_)))))))))))))
 obtain ⟨r_3,hr_4,hF⟩:=bind_some hF
 refine gL 0 [0] il ft (uz hr_4) rfl hb9 rfl (by kernel_rfl) (by kernel_rfl) (by kernel_rfl) (by kernel_rfl) (by kernel_rfl) (by kernel_rfl) (by kernel_rfl) (by decide) (by kernel_rfl) wz (.d (.agg (Wall.enc r_3.1))) (by kernel_rfl) ([(n_2,some (.cells 2 [(vL eI r_3.2.L),(vI r_3.2.f_at)]))]:Hp) (by kernel_rfl) (ae (.ref n_2 0 0) wz rfl ?_)
 obtain ⟨r_6,hr_7,hF⟩:=bind_some hF
 refine gL 0 [0] il ft (sw hr_7) rfl hb10 rfl (by kernel_rfl) (by kernel_rfl) (by kernel_rfl) (by kernel_rfl) (by kernel_rfl) (by kernel_rfl) (by kernel_rfl) (by decide) (by kernel_rfl) wz (.d (.agg (Layout.enc r_6.1))) (by kernel_rfl) ([(n_2,some (.cells 2 [(vL eI r_6.2.L),(vI r_6.2.f_at)]))]:Hp) (by kernel_rfl) (aY 0 (.inl rfl) z28 rfl wz (fun n_9=>aY 0 (.inl rfl) z32 rfl wz (fun n_10=>bL 0 il ft 1 xk rfl rfl [(vS r_3.1.Key),(vI r_3.1.W),(vI r_3.1.H),(vL Screen.enc r_3.1.Screens)] rfl wz (bL 0 il ft 2 yg rfl rfl [(vS r_6.1.Key),(vI r_6.1.W),(vI r_6.1.H),(vL Zone.enc r_6.1.Zones)] rfl wz (ai (af (aa (au 0 1 il ft xk Cf rfl rfl (.d (.agg (Wall.enc r_3.1))) rfl wz (au 0 2 il ft yg BF rfl rfl (.d (.agg (Layout.enc r_6.1))) rfl wz ?_)))))))))
 obtain ⟨r_11,hr_12,hF⟩:=bind_some hF
 refine aC (Bo hr_12) rfl hb11 rfl rfl rfl rfl wz (ae (.tup [(vL View.enc r_11.1),(vI r_11.2)]) wz rfl (ae (vL View.enc r_11.1) wz rfl (ae (vI r_11.2) wz rfl (ae (vL View.enc r_11.1) wz rfl (ae (vI r_11.2) wz rfl (ai (af (aa (au 0 1 il ft xk Cf rfl rfl (.d (.agg (Wall.enc r_3.1))) rfl wz (au 0 2 il ft yg BF rfl rfl (.d (.agg (Layout.enc r_6.1))) rfl wz ?_))))))))))
 obtain ⟨r_13,hr_14,hF⟩:=bind_some hF
 refine aC (CQ hr_14) rfl hb12 rfl rfl rfl rfl wz (ae (.tup [(vI r_13.1),(vI r_13.2)]) wz rfl (ae (vI r_13.1) wz rfl (ae (vI r_13.2) wz rfl (ae (vI r_13.1) wz rfl (ae (vI r_13.2) wz rfl (ai (af (aa (au 0 2 il ft yg BF rfl rfl (.d (.agg (Layout.enc r_6.1))) rfl wz ?_)))))))))
 obtain ⟨r_15,hr_16,hF⟩:=bind_some hF
 refine aC (Di hr_16) rfl hb13 rfl rfl rfl rfl wz (ae (.tup [(vL Piece.enc r_15.1),(vI r_15.2)]) wz rfl (ae (vL Piece.enc r_15.1) wz rfl (ae (vI r_15.2) wz rfl (ae (vL Piece.enc r_15.1) wz rfl (ae (vI r_15.2) wz rfl (ai (aK (H0:=([(n_2,some (.cells 2 [(vL eI r_6.2.L),(vI r_6.2.f_at)])),(n_9,some (.cells 4 [(vS r_3.1.Key),(vI r_3.1.W),(vI r_3.1.H),(vL Screen.enc r_3.1.Screens)])),(n_10,some (.cells 4 [(vS r_6.1.Key),(vI r_6.1.W),(vI r_6.1.H),(vL Zone.enc r_6.1.Zones)]))]:Hp)) ([(4,(.ref n_9 0 0)),(5,(.ref n_10 0 0)),(6,(vL View.enc r_11.1)),(7,(vI r_11.2)),(8,(vI r_13.1)),(9,(vI r_13.2)),(10,(vL Piece.enc r_15.1)),(11,(vI r_15.2))]:List (Nat×V)) (by kernel_rfl) (mM (by kernel_rfl)) (af (af (aa (ae (vI r_11.2) wz rfl (ae (vI r_13.2) wz rfl (ae (vI r_15.2) wz rfl (fH (([r_11.2,r_13.2,r_15.2]:List Int).map eI) NQ ez140 rfl rfl rfl rfl rfl wz ?_))))))))))))))
 obtain ⟨r_17,hr_18,hF⟩:=bind_some hF
 refine aC (zC hr_18) rfl hb14 rfl rfl rfl rfl wz (ae (vB (r_17 != 0)) wz rfl (ai ?_))
 rcases ak hF with⟨hc_19,hF⟩ | ⟨hc_19,hF⟩
 ·refine aB rfl hc_19 (af (aa (ae (vB false) wz rfl (ai ?_))))
  obtain rfl:=ah hF
  exact ay (aM (.inr rfl) [(vB false)] ⟨rfl,trivial⟩ rfl rfl rfl)
 ·refine aA rfl hc_19 (av (af (aa (ae (vI r_13.1) wz rfl (ae (vI r_13.1) wz rfl (ae (vI 0) wz rfl (ai (af (af (aa (ae (vL View.enc r_11.1) wz rfl (bP un34 rfl wz (ae (vI 0) wz rfl (ai ?_))))))))))))))
  obtain ⟨o_28,hj_29,hF⟩:=bind_some hF
  obtain ⟨hn_24,hj_29⟩:=aQ hj_29
  refine aG (β:=(Int)) (fun (s_25:Int)=>([(4,(.ref n_9 0 0)),(5,(.ref n_10 0 0)),(8,(vI r_13.1)),(10,(vL Piece.enc r_15.1)),(12,(vI s_25)),(13,(vI 0))]:List (Nat×V))) (fun (s_25:Int)=>([(n_2,some (.cells 2 [(vL eI r_6.2.L),(vI r_6.2.f_at)])),(n_9,some (.cells 4 [(vS r_3.1.Key),(vI r_3.1.W),(vI r_3.1.H),(vL Screen.enc r_3.1.Screens)])),(n_10,some (.cells 4 [(vS r_6.1.Key),(vI r_6.1.W),(vI r_6.1.H),(vL Zone.enc r_6.1.Zones)]))]:Hp)) (fun p=>o_28 = .go p) ?_ ?_
  ·refine aF (aW (β:=Nat×(List View)×(Int)) (fun p=>(fun (k_20:Nat) (l_21:List View) (s_25:Int)=>([(4,(.ref n_9 0 0)),(5,(.ref n_10 0 0)),(6,(vL View.enc r_11.1)),(8,(vI r_13.1)),(10,(vL Piece.enc r_15.1)),(12,(vI s_25)),(13,(vI 0)),(56,(vL View.enc r_11.1)),(57,(vI (r_11.1.length:Int))),(58,(vI (k_20:Int)))]:List (Nat×V))) p.1 p.2.1 p.2.2) (fun p=>(fun (k_20:Nat) (l_21:List View) (s_25:Int)=>([(n_2,some (.cells 2 [(vL eI r_6.2.L),(vI r_6.2.f_at)])),(n_9,some (.cells 4 [(vS r_3.1.Key),(vI r_3.1.W),(vI r_3.1.H),(vL Screen.enc r_3.1.Screens)])),(n_10,some (.cells 4 [(vS r_6.1.Key),(vI r_6.1.W),(vI r_6.1.H),(vL Zone.enc r_6.1.Zones)]))]:Hp)) p.1 p.2.1 p.2.2) (fun p=>forR (fun k x s=>fo r_11 k x s) p.2.1 p.1 p.2.2=some o_28∧(r_11.1).drop p.1=p.2.1) (fun p=>p.2.1.length) (0,r_11.1,r_13.1) ⟨hj_29,rfl⟩ rfl (aH rfl) ?_)
   rintro ⟨k_20,l_21,s_25⟩ ⟨hL_27,hD_23⟩
   dsimp only at hL_27 hD_23
   cases l_21 with
   | nil =>
    obtain rfl:=ah hL_27
    refine af (aa (ae (vB (decide ((k_20:Int) < (r_11.1.length:Int)))) wz rfl (ai ?_)))
    refine af (aA rfl (drop_nil hD_23) (aS ?_))
    exact aP (s_25) rfl rfl (aH rfl)
   | cons x_22 l_21 =>
    obtain ⟨c_,hc_26,hL_27⟩:=bind_some hL_27
    refine af (aa (ae (vB (decide ((k_20:Int) < (r_11.1.length:Int)))) wz rfl (ai ?_)))
    refine af (aB rfl (aX hD_23) (av ?_))
    unfold fo at hc_26
    refine af (aF (af (aa (ae (vI (k_20:Int)) wz rfl (dL es34 rfl rfl (bC hD_23) rfl wz (bJ LD ag47 rfl (.d (.agg (View.enc x_22))) rfl wz (aY 0 (.inl rfl) z47 rfl wz (fun n_30=>ae (vI (k_20:Int)) wz rfl (bL 0 il ft 3 LD rfl rfl [(vS x_22.Screen),(vS x_22.Zone),(vI x_22.On.X),(vI x_22.On.Y),(vI x_22.On.W),(vI x_22.On.H)] rfl wz (ai (af (aa (ae (vI s_25) wz rfl (ax Gs rfl 2 rfl wz (ax ku rfl 4 rfl wz (au 0 3 il ft sz3 ag3 rfl rfl (vI x_22.On.W) rfl wz (ax Gs rfl 2 rfl wz (ax kw rfl 5 rfl wz (au 0 3 il ft sz3 ag3 rfl rfl (vI x_22.On.H) rfl wz (ae (vI (w64 (x_22.On.W * x_22.On.H))) wz rfl (ae (vI (w64 (s_25 + (w64 (x_22.On.W * x_22.On.H))))) wz rfl (ae (vI (w64 (s_25 + (w64 (x_22.On.W * x_22.On.H))))) wz rfl (ai ?_)))))))))))))))))))))))
    refine af (aa (ae (vL View.enc r_11.1) wz rfl (ae (vI (k_20:Int)) wz rfl ?_)))
    obtain ⟨y_31,hy_32,hc_26⟩:=bind_some hc_26
    refine pM un34 LD (fun _=>rfl) rfl rfl hy_32 wz (bP un34 rfl wz (ae (vI 0) wz rfl (ai ?_)))
    obtain ⟨o_41,hj_42,hc_26⟩:=bind_some hc_26
    obtain ⟨hn_37,hj_42⟩:=aQ hj_42
    refine aG (β:=(Unit)) (fun (s_38:Unit)=>([(4,(.ref n_9 0 0)),(5,(.ref n_10 0 0)),(6,(vL View.enc r_11.1)),(8,(vI r_13.1)),(10,(vL Piece.enc r_15.1)),(12,(vI (w64 (s_25 + (w64 (x_22.On.W * x_22.On.H)))))),(13,(vI 0)),(56,(vL View.enc r_11.1)),(57,(vI (r_11.1.length:Int))),(58,(vI (k_20:Int)))]:List (Nat×V))) (fun (s_38:Unit)=>([(n_2,some (.cells 2 [(vL eI r_6.2.L),(vI r_6.2.f_at)])),(n_9,some (.cells 4 [(vS r_3.1.Key),(vI r_3.1.W),(vI r_3.1.H),(vL Screen.enc r_3.1.Screens)])),(n_10,some (.cells 4 [(vS r_6.1.Key),(vI r_6.1.W),(vI r_6.1.H),(vL Zone.enc r_6.1.Zones)])),(n_30,some (.cells 6 [(vS x_22.Screen),(vS x_22.Zone),(vI x_22.On.X),(vI x_22.On.Y),(vI x_22.On.W),(vI x_22.On.H)]))]:Hp)) (fun p=>o_41 = .go p) ?_ ?_
    ·refine aF (aW (β:=Nat×(List View)×(Unit)) (fun p=>(fun (k_33:Nat) (l_34:List View) (s_38:Unit)=>([(4,(.ref n_9 0 0)),(5,(.ref n_10 0 0)),(6,(vL View.enc r_11.1)),(8,(vI r_13.1)),(10,(vL Piece.enc r_15.1)),(12,(vI (w64 (s_25 + (w64 (x_22.On.W * x_22.On.H)))))),(13,(vI 0)),(15,(.ref n_30 0 0)),(56,(vL View.enc r_11.1)),(57,(vI (r_11.1.length:Int))),(58,(vI (k_20:Int))),(74,(vL View.enc y_31)),(75,(vI (y_31.length:Int))),(76,(vI (k_33:Int)))]:List (Nat×V))) p.1 p.2.1 p.2.2) (fun p=>(fun (k_33:Nat) (l_34:List View) (s_38:Unit)=>([(n_2,some (.cells 2 [(vL eI r_6.2.L),(vI r_6.2.f_at)])),(n_9,some (.cells 4 [(vS r_3.1.Key),(vI r_3.1.W),(vI r_3.1.H),(vL Screen.enc r_3.1.Screens)])),(n_10,some (.cells 4 [(vS r_6.1.Key),(vI r_6.1.W),(vI r_6.1.H),(vL Zone.enc r_6.1.Zones)])),(n_30,some (.cells 6 [(vS x_22.Screen),(vS x_22.Zone),(vI x_22.On.X),(vI x_22.On.Y),(vI x_22.On.W),(vI x_22.On.H)]))]:Hp)) p.1 p.2.1 p.2.2) (fun p=>forR (fun k x s=>fe x_22 k x s) p.2.1 p.1 p.2.2=some o_41∧(y_31).drop p.1=p.2.1) (fun p=>p.2.1.length) (0,y_31,()) ⟨hj_42,rfl⟩ rfl (aH rfl) ?_)
     rintro ⟨k_33,l_34,s_38⟩ ⟨hL_40,hD_36⟩
     dsimp only at hL_40 hD_36
     cases l_34 with
     | nil =>
      obtain rfl:=ah hL_40
      refine af (aa (ae (vB (decide ((k_33:Int) < (y_31.length:Int)))) wz rfl (ai ?_)))
      refine af (aA rfl (drop_nil hD_36) (aS ?_))
      exact aP (s_38) rfl rfl (aH rfl)
     | cons x_35 l_34 =>
      obtain ⟨c_,hc_39,hL_40⟩:=bind_some hL_40
      refine af (aa (ae (vB (decide ((k_33:Int) < (y_31.length:Int)))) wz rfl (ai ?_)))
      refine af (aB rfl (aX hD_36) (av ?_))
      unfold fe at hc_39
      refine af (aF (af (aa (dL es34 rfl rfl (bC hD_36) rfl wz (bJ LD ag47 rfl (.d (.agg (View.enc x_35))) rfl wz (aY 0 (.inl rfl) z47 rfl wz (fun n_43=>bL 0 il ft 4 LD rfl rfl [(vS x_35.Screen),(vS x_35.Zone),(vI x_35.On.X),(vI x_35.On.Y),(vI x_35.On.W),(vI x_35.On.H)] rfl wz (ai (af (aa (ax Gs rfl 2 rfl wz (au 0 3 il ft dx gm rfl rfl (.d (.agg (Rect.enc x_22.On))) rfl wz (ax Gs rfl 2 rfl wz (au 0 4 il ft dx gm rfl rfl (.d (.agg (Rect.enc x_35.On))) rfl wz ?_))))))))))))))
      obtain ⟨r_44,hr_45,hc_39⟩:=bind_some hc_39
      refine aC (DD hr_45) rfl hb15 rfl rfl rfl rfl wz (ae (.tup [(.d (.agg (Rect.enc r_44.1))),(vB r_44.2.1),(vI r_44.2.2)]) wz rfl (ae (.d (.agg (Rect.enc r_44.1))) wz rfl (ae (vB r_44.2.1) wz rfl (ae (vI r_44.2.2) wz rfl (aY 0 (.inl rfl) z45 rfl wz (fun n_46=>bL 0 il ft 5 dx rfl rfl [(vI r_44.1.X),(vI r_44.1.Y),(vI r_44.1.W),(vI r_44.1.H)] rfl wz (ae (vB r_44.2.1) wz rfl (ae (vI r_44.2.2) wz rfl (ai (af ?_))))))))))
      obtain ⟨v_47,h_48,hc_39⟩:=bind_some hc_39
      refine aG (β:=Unit) (fun _=>([(4,(.ref n_9 0 0)),(5,(.ref n_10 0 0)),(6,(vL View.enc r_11.1)),(8,(vI r_13.1)),(10,(vL Piece.enc r_15.1)),(12,(vI (w64 (s_25 + (w64 (x_22.On.W * x_22.On.H)))))),(13,(vI 0)),(15,(.ref n_30 0 0)),(56,(vL View.enc r_11.1)),(57,(vI (r_11.1.length:Int))),(58,(vI (k_20:Int))),(74,(vL View.enc y_31)),(75,(vI (y_31.length:Int))),(76,(vI (k_33:Int))),(100,(vB v_47))]:List (Nat×V))) (fun _=>([(n_2,some (.cells 2 [(vL eI r_6.2.L),(vI r_6.2.f_at)])),(n_9,some (.cells 4 [(vS r_3.1.Key),(vI r_3.1.W),(vI r_3.1.H),(vL Screen.enc r_3.1.Screens)])),(n_10,some (.cells 4 [(vS r_6.1.Key),(vI r_6.1.W),(vI r_6.1.H),(vL Zone.enc r_6.1.Zones)])),(n_30,some (.cells 6 [(vS x_22.Screen),(vS x_22.Zone),(vI x_22.On.X),(vI x_22.On.Y),(vI x_22.On.W),(vI x_22.On.H)])),(n_43,some (.cells 6 [(vS x_35.Screen),(vS x_35.Zone),(vI x_35.On.X),(vI x_35.On.Y),(vI x_35.On.W),(vI x_35.On.H)])),(n_46,some (.cells 4 [(vI r_44.1.X),(vI r_44.1.Y),(vI r_44.1.W),(vI r_44.1.H)]))]:Hp)) (fun _=>True) ?_ ?_
      ·refine aa (ae (vI r_44.2.2) wz rfl (ae (vB (r_44.2.2 != 0)) wz rfl ?_))
       rcases ak h_48 with⟨hc_49,h_48⟩ | ⟨hc_49,h_48⟩
       ·refine aD rfl hc_49 wz (aj wa (aj wa (aj (wn rfl rfl) (aj (wn rfl rfl) (aj (wn rfl rfl) (aj (wn rfl rfl) (aj (wn rfl rfl) (aj wa (ae (vB true) wz rfl (ai ?_))))))))))
        obtain rfl:=ah h_48
        exact cu
       ·refine aD rfl hc_49 wz (ae (vB r_44.2.1) wa rfl ?_)
        rcases ak h_48 with⟨hc_50,h_48⟩ | ⟨hc_50,h_48⟩
        ·refine aD rfl hc_50 wa (ax Ms rfl 0 rfl wa (au 0 3 il ft sz9 ag9 rfl rfl (vS x_22.Screen) rfl wa (ax Ms rfl 0 rfl wa (au 0 4 il ft sz9 ag9 rfl rfl (vS x_35.Screen) rfl wa (ae (vB (sEq x_22.Screen x_35.Screen)) wa rfl (ae (vB (sEq x_22.Screen x_35.Screen)) wa rfl (ae (vB (sEq x_22.Screen x_35.Screen)) wz rfl (ai ?_))))))))
         obtain rfl:=ah h_48
         exact cu
        ·refine aD rfl hc_50 wa (aj wa (aj wa (aj wa (aj wa (aj wa (ae (vB false) wa rfl (ae (vB false) wz rfl (ai ?_))))))))
         obtain rfl:=ah h_48
         exact cu
      ·rintro ⟨⟩ _ sl_ H_ hp_ hq_
       refine aK _ hp_ hq_ ?_
       rcases ak hc_39 with⟨hc_51,hc_39⟩ | ⟨hc_51,hc_39⟩
       ·refine aB rfl hc_51 (af (aa (ae (vB false) wz rfl (ai ?_))))
        obtain rfl:=ah hc_39
        obtain rfl:=ah hL_40
        obtain rfl:=ah hc_26
        obtain rfl:=ah hL_27
        obtain rfl:=ah hF
        exact ay (aM (.inr rfl) [(vB false)] ⟨rfl,trivial⟩ rfl rfl rfl)
       ·refine aA rfl hc_51 (av (aa (dQ (bu hD_36 hn_37) wz rfl (ae (vI ((k_33 + 1:Nat):Int)) wz rfl (ai ?_)))))
        obtain rfl:=ah hc_39
        exact aR (k_33 + 1,l_34,()) ⟨hL_40,aN hD_36⟩ (Nat.lt_succ_self _) rfl (aH rfl)
    ·rintro s_38 ho_ sl_ H_ hp_ hq_
     subst ho_
     refine aK _ hp_ hq_ (aa (dQ (bu hD_23 hn_24) wz rfl (ae (vI ((k_20 + 1:Nat):Int)) wz rfl (ai ?_))))
     obtain rfl:=ah hc_26
     exact aR (k_20 + 1,l_21,(w64 (s_25 + (w64 (x_22.On.W * x_22.On.H))))) ⟨hL_27,aN hD_23⟩ (Nat.lt_succ_self _) rfl (aH rfl)
  ·rintro s_25 ho_ sl_ H_ hp_ hq_
   subst ho_
   refine aK _ hp_ hq_ (af (af (aa (ae (vL Piece.enc r_15.1) wz rfl (bP MU rfl wz (ae (vI 0) wz rfl (ai ?_)))))))
   obtain ⟨o_60,hj_61,hF⟩:=bind_some hF
   obtain ⟨hn_56,hj_61⟩:=aQ hj_61
   refine aG (β:=(Int)) (fun (s_57:Int)=>([(8,(vI r_13.1)),(12,(vI s_25)),(13,(vI s_57))]:List (Nat×V))) (fun (s_57:Int)=>([(n_2,some (.cells 2 [(vL eI r_6.2.L),(vI r_6.2.f_at)])),(n_9,some (.cells 4 [(vS r_3.1.Key),(vI r_3.1.W),(vI r_3.1.H),(vL Screen.enc r_3.1.Screens)])),(n_10,some (.cells 4 [(vS r_6.1.Key),(vI r_6.1.W),(vI r_6.1.H),(vL Zone.enc r_6.1.Zones)]))]:Hp)) (fun p=>o_60 = .go p) ?_ ?_
   ·refine aF (aW (β:=Nat×(List Piece)×(Int)) (fun p=>(fun (k_52:Nat) (l_53:List Piece) (s_57:Int)=>([(4,(.ref n_9 0 0)),(5,(.ref n_10 0 0)),(8,(vI r_13.1)),(12,(vI s_25)),(13,(vI s_57)),(103,(vL Piece.enc r_15.1)),(104,(vI (r_15.1.length:Int))),(105,(vI (k_52:Int)))]:List (Nat×V))) p.1 p.2.1 p.2.2) (fun p=>(fun (k_52:Nat) (l_53:List Piece) (s_57:Int)=>([(n_2,some (.cells 2 [(vL eI r_6.2.L),(vI r_6.2.f_at)])),(n_9,some (.cells 4 [(vS r_3.1.Key),(vI r_3.1.W),(vI r_3.1.H),(vL Screen.enc r_3.1.Screens)])),(n_10,some (.cells 4 [(vS r_6.1.Key),(vI r_6.1.W),(vI r_6.1.H),(vL Zone.enc r_6.1.Zones)]))]:Hp)) p.1 p.2.1 p.2.2) (fun p=>forR (fun k x s=>gz r_6 r_3 k x s) p.2.1 p.1 p.2.2=some o_60∧(r_15.1).drop p.1=p.2.1) (fun p=>p.2.1.length) (0,r_15.1,0) ⟨hj_61,rfl⟩ rfl (aH rfl) ?_)
    rintro ⟨k_52,l_53,s_57⟩ ⟨hL_59,hD_55⟩
    dsimp only at hL_59 hD_55
    cases l_53 with
    | nil =>
     obtain rfl:=ah hL_59
     refine af (aa (ae (vB (decide ((k_52:Int) < (r_15.1.length:Int)))) wz rfl (ai ?_)))
     refine af (aA rfl (drop_nil hD_55) (aS ?_))
     exact aP (s_57) rfl rfl (aH rfl)
    | cons x_54 l_53 =>
     obtain ⟨c_,hc_58,hL_59⟩:=bind_some hL_59
     refine af (aa (ae (vB (decide ((k_52:Int) < (r_15.1.length:Int)))) wz rfl (ai ?_)))
     refine af (aB rfl (aX hD_55) (av ?_))
     unfold gz at hc_58
     refine af (aF (af (aa (dL LC rfl rfl (bC hD_55) rfl wz (bJ Et ag51 rfl (.d (.agg (Piece.enc x_54))) rfl wz (aY 0 (.inl rfl) z51 rfl wz (fun n_62=>bL 0 il ft 3 Et rfl rfl [(vS x_54.Zone),(vI x_54.On.X),(vI x_54.On.Y),(vI x_54.On.W),(vI x_54.On.H)] rfl wz (ai (af (aa (ax GI rfl 1 rfl wz (au 0 3 il ft dx gm rfl rfl (.d (.agg (Rect.enc x_54.On))) rfl wz (ax zU rfl 1 rfl wz (au 0 2 il ft sz3 ag3 rfl rfl (vI r_6.1.W) rfl wz (ax Av rfl 2 rfl wz (au 0 2 il ft sz3 ag3 rfl rfl (vI r_6.1.H) rfl wz (ax wo rfl 1 rfl wz (au 0 1 il ft sz3 ag3 rfl rfl (vI r_3.1.W) rfl wz (ax wC rfl 2 rfl wz (au 0 1 il ft sz3 ag3 rfl rfl (vI r_3.1.H) rfl wz ?_))))))))))))))))))))
     obtain ⟨r_63,hr_64,hc_58⟩:=bind_some hc_58
     refine aC (Bz hr_64) rfl hb16 rfl rfl rfl rfl wz (ae (.tup [(.d (.agg (Rect.enc r_63.1))),(vI r_63.2)]) wz rfl (ae (.d (.agg (Rect.enc r_63.1))) wz rfl (ae (vI r_63.2) wz rfl (aY 0 (.inl rfl) z45 rfl wz (fun n_65=>bL 0 il ft 4 dx rfl rfl [(vI r_63.1.X),(vI r_63.1.Y),(vI r_63.1.W),(vI r_63.1.H)] rfl wz (ae (vI r_63.2) wz rfl (ai (af (af (aa (ae (vI r_63.2) wz rfl (ae (vB (r_63.2 != 0)) wz rfl (ai ?_)))))))))))))
     rcases ak hc_58 with⟨hc_66,hc_58⟩ | ⟨hc_66,hc_58⟩
     ·refine aB rfl hc_66 (af (aa (ae (vB false) wz rfl (ai ?_))))
      obtain rfl:=ah hc_58
      obtain rfl:=ah hL_59
      obtain rfl:=ah hF
      exact ay (aM (.inr rfl) [(vB false)] ⟨rfl,trivial⟩ rfl rfl rfl)
     ·refine aA rfl hc_66 (av (aa (ae (vI s_57) wz rfl (ax ku rfl 2 rfl wz (au 0 4 il ft sz3 ag3 rfl rfl (vI r_63.1.W) rfl wz (ax kw rfl 3 rfl wz (au 0 4 il ft sz3 ag3 rfl rfl (vI r_63.1.H) rfl wz (ae (vI (w64 (r_63.1.W * r_63.1.H))) wz rfl (ae (vI (w64 (s_57 + (w64 (r_63.1.W * r_63.1.H))))) wz rfl (ae (vI (w64 (s_57 + (w64 (r_63.1.W * r_63.1.H))))) wz rfl (ai (aK (H0:=([(n_2,some (.cells 2 [(vL eI r_6.2.L),(vI r_6.2.f_at)])),(n_9,some (.cells 4 [(vS r_3.1.Key),(vI r_3.1.W),(vI r_3.1.H),(vL Screen.enc r_3.1.Screens)])),(n_10,some (.cells 4 [(vS r_6.1.Key),(vI r_6.1.W),(vI r_6.1.H),(vL Zone.enc r_6.1.Zones)])),(n_62,some (.cells 5 [(vS x_54.Zone),(vI x_54.On.X),(vI x_54.On.Y),(vI x_54.On.W),(vI x_54.On.H)])),(n_65,some (.cells 4 [(vI r_63.1.X),(vI r_63.1.Y),(vI r_63.1.W),(vI r_63.1.H)]))]:Hp)) ([(4,(.ref n_9 0 0)),(5,(.ref n_10 0 0)),(8,(vI r_13.1)),(12,(vI s_25)),(13,(vI (w64 (s_57 + (w64 (r_63.1.W * r_63.1.H)))))),(103,(vL Piece.enc r_15.1)),(104,(vI (r_15.1.length:Int))),(105,(vI (k_52:Int)))]:List (Nat×V)) (by kernel_rfl) (mM (by kernel_rfl)) (aa (dQ (bu hD_55 hn_56) wz rfl (ae (vI ((k_52 + 1:Nat):Int)) wz rfl (ai ?_))))))))))))))))
      obtain rfl:=ah hc_58
      exact aR (k_52 + 1,l_53,(w64 (s_57 + (w64 (r_63.1.W * r_63.1.H))))) ⟨hL_59,aN hD_55⟩ (Nat.lt_succ_self _) rfl (aH rfl)
   ·rintro s_57 ho_ sl_ H_ hp_ hq_
    subst ho_
    refine aK _ hp_ hq_ (af ?_)
    obtain ⟨v_67,h_68,hF⟩:=bind_some hF
    refine aG (β:=Unit) (fun _=>([(2,(vB v_67))]:List (Nat×V))) (fun _=>([(n_2,some (.cells 2 [(vL eI r_6.2.L),(vI r_6.2.f_at)])),(n_9,some (.cells 4 [(vS r_3.1.Key),(vI r_3.1.W),(vI r_3.1.H),(vL Screen.enc r_3.1.Screens)])),(n_10,some (.cells 4 [(vS r_6.1.Key),(vI r_6.1.W),(vI r_6.1.H),(vL Zone.enc r_6.1.Zones)]))]:Hp)) (fun _=>True) ?_ ?_
    ·refine aa (ae (vI s_25) wz rfl (ae (vI s_57) wz rfl (ae (vB (s_25 == s_57)) wz rfl ?_)))
     rcases ak h_68 with⟨hc_69,h_68⟩ | ⟨hc_69,h_68⟩
     ·refine aD rfl hc_69 wz (ae (vI r_13.1) wa rfl (ae (vB (decide (r_13.1≥0))) wa rfl (ae (vB (decide (r_13.1≥0))) wz rfl ?_)))
      rcases ak h_68 with⟨hc_70,h_68⟩ | ⟨hc_70,h_68⟩
      ·refine aD rfl hc_70 wz ?_
       obtain ⟨r_71,hr_72,h_68⟩:=bind_some h_68
       refine aC (Ew hr_72) rfl hb17 rfl rfl rfl rfl wa (ae (vB r_71) wz rfl (ae (vB r_71) wz rfl (ai ?_)))
       obtain rfl:=ah h_68
       exact cu
      ·refine aD rfl hc_70 wz (aj wa (ae (vB false) wz rfl (ae (vB false) wz rfl (ai ?_))))
       obtain rfl:=ah h_68
       exact cu
     ·refine aD rfl hc_69 wz (aj wa (aj wa (ae (vB false) wz rfl (ae (vB false) wz rfl (aj wa (ae (vB false) wz rfl (ae (vB false) wz rfl (ai ?_))))))))
      obtain rfl:=ah h_68
      exact cu
    ·rintro ⟨⟩ _ sl_ H_ hp_ hq_
     refine aK _ hp_ hq_ ?_
     obtain rfl:=ah hF
     exact ay (aM (.inr rfl) [(vB v_67)] ⟨rfl,trivial⟩ rfl rfl rfl)
end Go.Proofs.YtjhcehhmdmbleaaGreatDoor.Law

