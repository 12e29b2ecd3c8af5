/-
 The machine computes these plain functions (written by a program of ours).
-/
import Derived.Test.YtekmkepojbhafaeGreatDoorFacts
import Derived.Test.YtekmkepojbhafaeGreatDoorDefs
import Derived.Test.YtekmkepojbhafaeGreatDoorPf4
open Go Go.Eng Go.Proofs
namespace Go.Proofs.YtekmkepojbhafaeGreatDoor.Law
set_option maxRecDepth 100000
set_option linter.unusedVariables false
set_option maxHeartbeats 1000000
theorem kJ {s_1:(List Rect)} {f_2:Rect->Option Bool} {r:Int} {gid:FuncId} {caps:List V} {Sin:List Box} (hfn:∀x0 r,f_2 x0=some r->FnM Tryz.prog gid ([(.d (.agg (Rect.enc x0)))]++caps) Sin (vB r) (Sin.map some)) (hbF:aD Tryz.prog gid=true) (hcapF:caps.flatMap frz=[]/\caps.map co0=caps) (hokF:okL Sin.length caps=true) (hsF:∀b∈Sin,b.ok Sin.length=true) (hmF:∀b∈Sin,b.mut=true) (hF:eT s_1 f_2=some r) :
  FnM Tryz.prog 125 [(vL Rect.enc s_1),(.fn gid caps)] Sin (vI r) (Sin.map some):=by
 refine FnM.of_wH ⟨Tryz.prog,19,[],[]⟩ rfl Tryz.func125 rfl rfl (lb_ rfl) (by kernel_rfl) ?_
 unfold eT at hF
 refine ai (aa (vI 0) (af (ak (ai (aa (vL Rect.enc s_1) (dB GX rfl wz (aa (vI 0) (af ?_))))))))
 obtain ⟨o_11,hj_12,hF⟩:=bind_some hF
 obtain ⟨hn_7,hj_12⟩:=aZ hj_12
 refine dF (λ(s_8:Unit)=>[]) (λ(s_8:Unit)=>(mg 0 Sin)) (λ(k_3:Nat)=>(λ(s_8:Unit)=>[(0,(vL Rect.enc s_1)),(1,(.fn gid caps)),(7,(vI (s_1.length:Int))),(8,(vI (k_3:Int)))])) (λk x s=>dX f_2 k x s) o_11 s_1 () hj_12 rfl (mr _) ?_ ?_
 ·rintro ⟨k_3,l_4,s_8⟩ ⟨hL_10,hD_6⟩
  dsimp only at hL_10 hD_6
  cases l_4 with
  | nil =>
   obtain rfl:=ae hL_10
   refine ai (aa (vB (decide ((k_3:Int)<(s_1.length:Int)))) (af ?_))
   refine ak (aA rfl (drop_nil hD_6) (bn ?_))
   exact aW (s_8) rfl rfl (mr _)
  | cons x_5 l_4 =>
   obtain ⟨c_,hc_9,hL_10⟩:=bind_some hL_10
   refine ai (aa (vB (decide ((k_3:Int)<(s_1.length:Int)))) (af ?_))
   refine ak (aB rfl (bC hD_6) (ax ?_))
   unfold dX at hc_9
   refine ak (aN (ai (aa (vI (k_3:Int)) (aa (vI (k_3:Int)) (af (ai (aa (.fn gid caps) (aa (vL Rect.enc s_1) (aa (vI (k_3:Int)) (iV Iu rfl rfl (bT hD_6) rfl wz (eP sI Cw rfl (.d (.agg (Rect.enc x_5))) rfl wz ?_)))))))))))
   obtain ⟨r_13,hr_14,hc_9⟩:=bind_some hc_9
   refine tZ (hfn _ _ hr_14) rfl hbF rfl rfl hcapF hokF hsF hmF rfl wz rfl (af ?_)
   rcases aj hc_9 with⟨hc_15,hc_9⟩|⟨hc_15,hc_9⟩
   ·refine aB rfl hc_15 (ai (aa (vI (k_3:Int)) (aa (vI (k_3:Int)) (af ?_))))
    obtain rfl:=ae hc_9
    obtain rfl:=ae hL_10
    obtain rfl:=ae hF
    exact ay (Dk hsF (.inr rfl) [(vI (k_3:Int))] ⟨rfl,trivial⟩ rfl rfl rfl)
   ·refine aA rfl hc_15 (ax (au (fQ (bL hD_6 hn_7) wz rfl (aa (vI ((k_3+1:Nat):Int)) (af ?_)))))
    obtain rfl:=ae hc_9
    exact bg (k_3+1,l_4,()) ⟨hL_10,aS hD_6⟩ (ls_ _) rfl (mr _)
 ·rintro s_8 ho_ sl_ H_ hp_ hq_
  subst ho_
  refine aP _ hp_ hq_ (ai (aa (vI (-1)) (af ?_)))
  obtain rfl:=ae hF
  exact ay (Dk hsF (.inr rfl) [(vI (-1))] ⟨rfl,trivial⟩ rfl rfl rfl)
theorem jJ {s_1:(List Rect)} {f_2:Rect->Option Bool} {r:Bool} {gid:FuncId} {caps:List V} {Sin:List Box} (hfn:∀x0 r,f_2 x0=some r->FnM Tryz.prog gid ([(.d (.agg (Rect.enc x0)))]++caps) Sin (vB r) (Sin.map some)) (hbF:aD Tryz.prog gid=true) (hcapF:caps.flatMap frz=[]/\caps.map co0=caps) (hokF:okL Sin.length caps=true) (hsF:∀b∈Sin,b.ok Sin.length=true) (hmF:∀b∈Sin,b.mut=true) (hF:dW s_1 f_2=some r) :
  FnM Tryz.prog 96 [(vL Rect.enc s_1),(.fn gid caps)] Sin (vB r) (Sin.map some):=by
 refine FnM.of_wH ⟨Tryz.prog,9,[],[]⟩ rfl Tryz.func96 rfl rfl (lb_ rfl) (by kernel_rfl) ?_
 unfold dW at hF
 refine ai (aa (vB false) (af (ai (aa (vL Rect.enc s_1) (aa (.fn gid caps) ?_)))))
 obtain ⟨r_3,hr_4,hF⟩:=bind_some hF
 refine tZ (kJ (gid:=gid) (caps:=caps) (Sin:=Sin) hfn hbF hcapF hokF hsF hmF hr_4) rfl hb125 rfl rfl ⟨rfl,rfl⟩ (by simp [okL,okV,hokF]) hsF hmF rfl wz rfl (aa (vB (decide (r_3>=0))) (aa (vB (decide (r_3>=0))) (af ?_)))
 obtain rfl:=ae hF
 exact ay (Dk hsF (.inr rfl) [(vB (decide (r_3>=0)))] ⟨rfl,trivial⟩ rfl rfl rfl)
theorem w9 {a_1:Alert} {p_2:Post} {r:Bool} (hF:nu a_1 p_2=some r) :
  FnM Tryz.prog 68 [(.d (.agg (Alert.enc a_1))),(.d (.agg (Post.enc p_2)))] [] (vB r) []:=by
 refine FnM.of_wH ⟨Tryz.prog,9,[],[]⟩ rfl Tryz.func68 rfl rfl (lb_ rfl) (by kernel_rfl) ?_
 unfold nu at hF
 refine ai (gP 0 (.inl rfl) (Alert.v a_1) rfl rfl wz (λn_3=>gP 0 (.inl rfl) (Post.v p_2) rfl rfl wz (λn_4=>aa (vB false) (af (ai (aH qd rfl 7 rfl wz (aG 0 0 il ft AR Eo rfl rfl (vL Rect.enc a_1.Areas) rfl wz (aa (.fn 97 [(.ref n_4 0 0)]) ?_))))))))
 obtain ⟨r_5,hr_6,hF⟩:=bind_some hF
 refine aV 0 [1] il ft (jJ (gid:=97) (caps:=[.ref (av 0) 0 0]) (Sin:=[(.cells 3 (Post.v p_2))]) (λ_ _ h_=>vW h_) hb97 ⟨rfl,rfl⟩ (by kernel_rfl) (vo (by kernel_rfl)) (rD (by kernel_rfl)) hr_6) rfl hb96 rfl (by kernel_rfl) (by kernel_rfl) (by kernel_rfl) (by kernel_rfl) (by kernel_rfl) (by kernel_rfl) (by kernel_rfl) (by decide) (by kernel_rfl) wz (vB r_5) (by kernel_rfl) ([(n_3,some (.cells 9 (Alert.v a_1))),(n_4,some (.cells 3 (Post.v p_2)))]:Hp) (by kernel_rfl) (aa (vB r_5) (af ?_))
 obtain rfl:=ae hF
 exact ay (aM [(vB r_5)] ⟨rfl,trivial⟩)
theorem xE {a_1:Alert} {p_2:Post} {r:Bool×Int} (hF:lh a_1 p_2=some r) :
  FnM Tryz.prog 44 [(.d (.agg (Alert.enc a_1))),(.d (.agg (Post.enc p_2)))] [] (.tup [(vB r.1),(vI r.2)]) []:=by
 refine FnM.of_wH ⟨Tryz.prog,18,[],[]⟩ rfl Tryz.func44 rfl rfl (lb_ rfl) (by kernel_rfl) ?_
 unfold lh at hF
 refine ai (gP 0 (.inl rfl) (Alert.v a_1) rfl rfl wz (λn_3=>gP 0 (.inl rfl) (Post.v p_2) rfl rfl wz (λn_4=>aa (vB false) (aa (vI 0) (af (ak (ai (aG 0 0 il ft fo iW rfl rfl (.d (.agg (Alert.enc a_1))) rfl wz (eO (([a_1]:List Alert).map Alert.enc) nM ez26 rfl rfl rfl rfl rfl wz (aG 0 1 il ft sz79 ag79 rfl rfl (.d (.agg (Post.enc p_2))) rfl wz (eO (([p_2]:List Post).map Post.enc) es92 ez92 rfl rfl rfl rfl rfl wz ?_)))))))))))
 obtain ⟨r_5,hr_6,hF⟩:=bind_some hF
 refine aF (vF hr_6) rfl hb67 rfl rfl rfl rfl wz (aa (vI r_5) (af (ai (aa (vI r_5) (aa (vB (r_5 != 0)) (af ?_))))))
 rcases aj hF with⟨hc_7,hF⟩|⟨hc_7,hF⟩
 ·refine aB rfl hc_7 (ai (aa (vI r_5) (aa (vB false) (aa (vI r_5) (af ?_)))))
  obtain rfl:=ae hF
  exact ay (aM [(vB false),(vI r_5)] ⟨rfl,⟨rfl,trivial⟩⟩)
 ·refine aA rfl hc_7 (ax (ai (aG 0 0 il ft fo iW rfl rfl (.d (.agg (Alert.enc a_1))) rfl wz (aG 0 1 il ft sz79 ag79 rfl rfl (.d (.agg (Post.enc p_2))) rfl wz ?_))))
  obtain ⟨r_8,hr_9,hF⟩:=bind_some hF
  refine aF (w9 hr_9) rfl hb68 rfl rfl rfl rfl wz (aa (vB r_8) (aa (vI 0) (af ?_)))
  obtain rfl:=ae hF
  exact ay (aM [(vB r_8),(vI 0)] ⟨rfl,⟨rfl,trivial⟩⟩)
theorem AX {r:Bool} (hF:mR  = some r) :
  FnM Tryz.prog 19 [] [] (vB r) []:=by
 refine FnM.of_wH ⟨Tryz.prog,18,[],[]⟩ rfl Tryz.func19 rfl rfl (lb_ rfl) (by kernel_rfl) ?_
 unfold mR at hF
 refine ai (aa (vB false) (af (ai (aI (.d (.agg (Rect.enc (⟨0,0,2,2⟩:Rect)))) wz (by kernel_rfl) (eO (([(⟨0,0,2,2⟩:Rect)]:List Rect).map Rect.enc) Iu ez49 rfl rfl rfl rfl rfl wz (aI (.agg [(vS (⟨#[97]⟩:ByteArray)),(vS (⟨#[115]⟩:ByteArray)),(vI 1),.nil,(vI 0),(vI 5),(vI 1),(vL Rect.enc ([(⟨0,0,2,2⟩:Rect)]:List Rect)),(vS (⟨#[120]⟩:ByteArray))]) wz (by kernel_rfl) (fF 0 (.inl rfl) z51 rfl wz (λn_1=>fV 0 il ft 0 fo rfl rfl [(vS (⟨#[97]⟩:ByteArray)),(vS (⟨#[115]⟩:ByteArray)),(vI 1),.nil,(vI 0),(vI 5),(vI 1),(vL Rect.enc ([(⟨0,0,2,2⟩:Rect)]:List Rect)),(vS (⟨#[120]⟩:ByteArray))] rfl wz (af (ai (aG 0 0 il ft fo iW rfl rfl (.agg [(vS (⟨#[97]⟩:ByteArray)),(vS (⟨#[115]⟩:ByteArray)),(vI 1),.nil,(vI 0),(vI 5),(vI 1),(vL Rect.enc ([(⟨0,0,2,2⟩:Rect)]:List Rect)),(vS (⟨#[120]⟩:ByteArray))]) rfl wz (aI (.d (.agg (Post.enc (⟨(⟨#[112]⟩:ByteArray),1,1⟩:Post)))) wz (by kernel_rfl) ?_))))))))))))
 obtain ⟨r_2,hr_3,hF⟩:=bind_some hF
 refine aF (xE hr_3) rfl hb44 rfl rfl rfl rfl wz (aa (.tup [(vB r_2.1),(vI r_2.2)]) (aa (vB r_2.1) (aa (vI r_2.2) (aa (vB r_2.1) (aa (vI r_2.2) (af (ak ?_)))))))
 obtain ⟨v_4,h_5,hF⟩:=bind_some hF
 refine aO [(0,(vB v_4))] [(n_1,some (.cells 9 [(vS (⟨#[97]⟩:ByteArray)),(vS (⟨#[115]⟩:ByteArray)),(vI 1),.nil,(vI 0),(vI 5),(vI 1),(vL Rect.enc ([(⟨0,0,2,2⟩:Rect)]:List Rect)),(vS (⟨#[120]⟩:ByteArray))]))] ?_ ?_
 ·refine au (aa (vI r_2.2) (aa (vB (r_2.2==0)) ?_))
  rcases aj h_5 with⟨hc_6,h_5⟩|⟨hc_6,h_5⟩
  ·refine aC rfl hc_6 wz (aI (vB r_2.1) wa rfl (aa (vB r_2.1) (aa (vB r_2.1) (af ?_))))
   obtain rfl:=ae h_5
   exact cu
  ·refine aC rfl hc_6 wz (ah (aa (vB false) (aa (vB false) (af ?_))))
   obtain rfl:=ae h_5
   exact cu
 ·rintro ⟨⟩ _ sl_ H_ hp_ hq_
  refine aP _ hp_ hq_ ?_
  obtain rfl:=ae hF
  exact ay (aM [(vB v_4)] ⟨rfl,trivial⟩)
theorem tT {l_1:(List Int)} {r:Bool} (hF:jP l_1=some r) :
  FnM Tryz.prog 3 [(vL eI l_1)] [] (vB r) []:=by
 refine FnM.of_wH ⟨Tryz.prog,107,[],[]⟩ rfl Tryz.func3 rfl rfl (lb_ rfl) (by kernel_rfl) ?_
 unfold jP at hF
 refine ai (aa (vB false) (af (ai (aa (vL eI l_1) (aI (.d (.agg (Stream.enc (⟨l_1,0⟩:Stream)))) wz (by kernel_rfl) (gP 0 (.inl rfl) [(vL eI l_1),(vI 0)] rfl rfl wz (λn_2=>aa (.ref n_2 0 0) (af (ai (aa (.ref n_2 0 0) ?_))))))))))
 obtain ⟨r_3,hr_4,hF⟩:=bind_some hF
 refine aV 0 [0] il ft (uH hr_4) rfl hb4 rfl (by kernel_rfl) (by kernel_rfl) (by kernel_rfl) (by kernel_rfl) (by kernel_rfl) (by kernel_rfl) (by kernel_rfl) (by decide) (by kernel_rfl) wz (vL Alert.enc r_3.1) (by kernel_rfl) ([(n_2,some (.cells 2 [(vL eI r_3.2.L),(vI r_3.2.f_at)]))]:Hp) (by kernel_rfl) (aa (.ref n_2 0 0) (eO (([(⟨#[97,97]⟩:ByteArray),(⟨#[97,98]⟩:ByteArray),(⟨#[97,99]⟩:ByteArray),(⟨#[122,122]⟩:ByteArray)]:List ByteArray).map eS) iL oM rfl rfl rfl rfl rfl wz ?_))
 obtain ⟨r_6,hr_7,hF⟩:=bind_some hF
 refine aV 0 [0] il ft (fE hr_7) rfl hb5 rfl (by kernel_rfl) (by kernel_rfl) (by kernel_rfl) (by kernel_rfl) (by kernel_rfl) (by kernel_rfl) (by kernel_rfl) (by decide) (by kernel_rfl) wz (vS r_6.1) (by kernel_rfl) ([(n_2,some (.cells 2 [(vL eI r_6.2.L),(vI r_6.2.f_at)]))]:Hp) (by kernel_rfl) (aa (.ref n_2 0 0) (eO (([0,5,10,15,20,25,30,60,(-1)]:List Int).map eI) pK xw rfl rfl rfl rfl rfl wz ?_))
 obtain ⟨r_9,hr_10,hF⟩:=bind_some hF
 refine aV 0 [0] il ft (fu hr_10) rfl hb6 rfl (by kernel_rfl) (by kernel_rfl) (by kernel_rfl) (by kernel_rfl) (by kernel_rfl) (by kernel_rfl) (by kernel_rfl) (by decide) (by kernel_rfl) wz (vI r_9.1) (by kernel_rfl) ([(n_2,some (.cells 2 [(vL eI r_9.2.L),(vI r_9.2.f_at)]))]:Hp) (by kernel_rfl) (aa (vL Alert.enc r_3.1) (aa (vS r_6.1) (aa (vI r_9.1) (af (ai (aa (vL Alert.enc r_3.1) (aa (vS r_6.1) ?_)))))))
 obtain ⟨r_12,hr_13,hF⟩:=bind_some hF
 refine aF (yH hr_13) rfl hb7 rfl rfl rfl rfl wz (aa (.tup [(vL eS r_12.1),(vI r_12.2)]) (aa (vL eS r_12.1) (aa (vI r_12.2) (aa (vL eS r_12.1) (aa (vI r_12.2) (af (ai (aa (vL Alert.enc r_3.1) ?_))))))))
 obtain ⟨r_14,hr_15,hF⟩:=bind_some hF
 refine aF (zW hr_15) rfl hb8 rfl rfl rfl rfl wz (aa (.tup [(vL eS r_14.1),(vI r_14.2)]) (aa (vL eS r_14.1) (aa (vI r_14.2) (aa (vL eS r_14.1) (aa (vI r_14.2) (af (aP (H0:=([(n_2,some (.cells 2 [(vL eI r_9.2.L),(vI r_9.2.f_at)]))]:Hp)) ([(4,(vL Alert.enc r_3.1)),(5,(vS r_6.1)),(6,(vI r_9.1)),(7,(vL eS r_12.1)),(8,(vI r_12.2)),(9,(vL eS r_14.1)),(10,(vI r_14.2))]:SL_) (by kernel_rfl) (FU (by kernel_rfl)) (ai (aa (vL Alert.enc r_3.1) (aa (vI r_9.1) ?_))))))))))
 obtain ⟨r_16,hr_17,hF⟩:=bind_some hF
 refine aF (xN hr_17) rfl hb9 rfl rfl rfl rfl wz (aa (.tup [(vL eS r_16.1),(vI r_16.2)]) (aa (vL eS r_16.1) (aa (vI r_16.2) (aa (vL eS r_16.1) (aa (vI r_16.2) (af (ai (aa (vL Alert.enc r_3.1) ?_))))))))
 obtain ⟨r_18,hr_19,hF⟩:=bind_some hF
 refine aF (vK hr_19) rfl hb10 rfl rfl rfl rfl wz (aa (vI r_18) (af (ai (aa (vI r_18) (aa (vI r_18) (aa (vI r_9.1) ?_))))))
 obtain ⟨r_20,hr_21,hF⟩:=bind_some hF
 refine aF (vv hr_21) rfl hb12 rfl rfl rfl rfl wz (eO (([r_18,r_20]:List Int).map eI) es69 ez69 rfl rfl rfl rfl rfl wz ?_)
 obtain ⟨r_22,hr_23,hF⟩:=bind_some hF
 refine aF (EF hr_23) rfl hb11 rfl rfl rfl rfl wz (aa (vI r_18) (aa (vI r_22) (af (ak (ai (aa (vI r_18) (aa (vB (r_18==0)) (af ?_))))))))
 obtain ⟨v_24,h_25,hF⟩:=bind_some hF
 refine aO [(4,(vL Alert.enc r_3.1)),(5,(vS r_6.1)),(6,(vI r_9.1)),(7,(vL eS r_12.1)),(8,(vI r_12.2)),(9,(vL eS r_14.1)),(10,(vI r_14.2)),(11,(vL eS r_16.1)),(12,(vI r_16.2)),(13,(vI r_18)),(14,(vI v_24)),(15,(vI r_22))] [(n_2,some (.cells 2 [(vL eI r_9.2.L),(vI r_9.2.f_at)]))] ?_ ?_
 ·rcases aj h_25 with⟨hc_26,h_25⟩|⟨hc_26,h_25⟩
  ·refine aB rfl hc_26 (au (aa (vL Alert.enc r_3.1) (aa (vS r_6.1) ?_)))
   obtain ⟨r_27,hr_28,h_25⟩:=bind_some h_25
   refine aF (yJ hr_28) rfl hb14 rfl rfl rfl rfl wz (aa (vB (!r_27)) ?_)
   obtain ⟨r_29,hr_30,h_25⟩:=bind_some h_25
   refine aF (yh hr_30) rfl hb13 rfl rfl rfl rfl wz (aa (vI r_29) (af ?_))
   obtain rfl:=ae h_25
   exact cu
  ·refine aA rfl hc_26 (ax ?_)
   obtain rfl:=ae h_25
   exact cu
 ·rintro ⟨⟩ _ sl_ H_ hp_ hq_
  refine aP _ hp_ hq_ (ai (aa .nil (aa .nil (aa .nil (af (ak (ai (aa (vI v_24) (aa (vB (v_24==0)) (af (Dz eS 16 rfl ?_)))))))))))
  obtain ⟨v_33,h_34,hF⟩:=bind_some hF
  refine aO [(4,(vL Alert.enc r_3.1)),(6,(vI r_9.1)),(7,(vL eS r_12.1)),(8,(vI r_12.2)),(9,(vL eS r_14.1)),(10,(vI r_14.2)),(11,(vL eS r_16.1)),(12,(vI r_16.2)),(13,(vI r_18)),(14,(vI v_24)),(15,(vI r_22)),(16,(vL eS v_33)),(17,.nil),(18,.nil)] [(n_2,some (.cells 2 [(vL eI r_9.2.L),(vI r_9.2.f_at)]))] ?_ ?_
  ·rcases aj h_34 with⟨hc_35,h_34⟩|⟨hc_35,h_34⟩
   ·refine aB rfl hc_35 (au (aa (vL Alert.enc r_3.1) (aa (vS r_6.1) ?_)))
    obtain ⟨r_36,hr_37,h_34⟩:=bind_some h_34
    refine aF (yF hr_37) rfl hb15 rfl rfl rfl rfl wz (aa (vL eS r_36) (af ?_))
    obtain rfl:=ae h_34
    exact cu
   ·refine aA rfl hc_35 (ax ?_)
    obtain rfl:=ae h_34
    exact cu
  ·rintro ⟨⟩ _ sl_ H_ hp_ hq_
   refine aP _ hp_ hq_ (ak (ai (aa (vI r_18) (aa (vB (r_18==0)) (af (Dz eS 17 rfl ?_))))))
   obtain ⟨v_40,h_41,hF⟩:=bind_some hF
   refine aO [(4,(vL Alert.enc r_3.1)),(6,(vI r_9.1)),(7,(vL eS r_12.1)),(8,(vI r_12.2)),(9,(vL eS r_14.1)),(10,(vI r_14.2)),(11,(vL eS r_16.1)),(12,(vI r_16.2)),(13,(vI r_18)),(14,(vI v_24)),(15,(vI r_22)),(16,(vL eS v_33)),(17,(vL eS v_40)),(18,.nil)] [(n_2,some (.cells 2 [(vL eI r_9.2.L),(vI r_9.2.f_at)]))] ?_ ?_
   ·rcases aj h_41 with⟨hc_42,h_41⟩|⟨hc_42,h_41⟩
    ·refine aB rfl hc_42 (au (aa (vL Alert.enc r_3.1) ?_))
     obtain ⟨r_43,hr_44,h_41⟩:=bind_some h_41
     refine aF (AL hr_44) rfl hb16 rfl rfl rfl rfl wz (aa (vL eS r_43) (af ?_))
     obtain rfl:=ae h_41
     exact cu
    ·refine aA rfl hc_42 (ax ?_)
     obtain rfl:=ae h_41
     exact cu
   ·rintro ⟨⟩ _ sl_ H_ hp_ hq_
    refine aP _ hp_ hq_ (ak (ai (aa (vI r_22) (aa (vB (r_22==0)) (af (Dz eS 18 rfl ?_))))))
    obtain ⟨v_47,h_48,hF⟩:=bind_some hF
    refine aO [(7,(vL eS r_12.1)),(8,(vI r_12.2)),(9,(vL eS r_14.1)),(10,(vI r_14.2)),(11,(vL eS r_16.1)),(12,(vI r_16.2)),(13,(vI r_18)),(14,(vI v_24)),(15,(vI r_22)),(16,(vL eS v_33)),(17,(vL eS v_40)),(18,(vL eS v_47))] [(n_2,some (.cells 2 [(vL eI r_9.2.L),(vI r_9.2.f_at)]))] ?_ ?_
    ·rcases aj h_48 with⟨hc_49,h_48⟩|⟨hc_49,h_48⟩
     ·refine aB rfl hc_49 (au (aa (vL Alert.enc r_3.1) (aa (vI r_9.1) ?_)))
      obtain ⟨r_50,hr_51,h_48⟩:=bind_some h_48
      refine aF (y5 hr_51) rfl hb17 rfl rfl rfl rfl wz (aa (vL eS r_50) (af ?_))
      obtain rfl:=ae h_48
      exact cu
     ·refine aA rfl hc_49 (ax ?_)
      obtain rfl:=ae h_48
      exact cu
    ·rintro ⟨⟩ _ sl_ H_ hp_ hq_
     refine aP _ hp_ hq_ (ak ?_)
     obtain ⟨v_52,h_53,hF⟩:=bind_some hF
     refine aO [(2,(vB v_52))] [(n_2,some (.cells 2 [(vL eI r_9.2.L),(vI r_9.2.f_at)]))] ?_ ?_
     ·refine au (aa (vI r_12.2) (aa (vI v_24) (aa (vB (r_12.2==v_24)) ?_)))
      rcases aj h_53 with⟨hc_54,h_53⟩|⟨hc_54,h_53⟩
      ·refine aC rfl hc_54 wz (aI (vL eS r_12.1) wa rfl (aI (vL eS v_33) wa rfl ?_))
       obtain ⟨r_55,hr_56,h_53⟩:=bind_some h_53
       refine aF (fZ hr_56) rfl hb18 rfl rfl rfl rfl wa (aa (vB r_55) ?_)
       rcases aj h_53 with⟨hc_57,h_53⟩|⟨hc_57,h_53⟩
       ·refine aC rfl hc_57 wz (aI (vI r_14.2) wa rfl (aI (vI r_18) wa rfl (aI (vB (r_14.2==r_18)) wa rfl (aa (vB (r_14.2==r_18)) ?_))))
        rcases aj h_53 with⟨hc_58,h_53⟩|⟨hc_58,h_53⟩
        ·refine aC rfl hc_58 wz (aI (vL eS r_14.1) wa rfl (aI (vL eS v_40) wa rfl ?_))
         obtain ⟨r_59,hr_60,h_53⟩:=bind_some h_53
         refine aF (fZ hr_60) rfl hb18 rfl rfl rfl rfl wa (aa (vB r_59) ?_)
         rcases aj h_53 with⟨hc_61,h_53⟩|⟨hc_61,h_53⟩
         ·refine aC rfl hc_61 wz (aI (vI r_16.2) wa rfl (aI (vI r_22) wa rfl (aI (vB (r_16.2==r_22)) wa rfl (aa (vB (r_16.2==r_22)) ?_))))
          rcases aj h_53 with⟨hc_62,h_53⟩|⟨hc_62,h_53⟩
          ·refine aC rfl hc_62 wz (aI (vL eS r_16.1) wa rfl (aI (vL eS v_47) wa rfl ?_))
           obtain ⟨r_63,hr_64,h_53⟩:=bind_some h_53
           refine aF (fZ hr_64) rfl hb18 rfl rfl rfl rfl wa (aa (vB r_63) ?_)
           rcases aj h_53 with⟨hc_65,h_53⟩|⟨hc_65,h_53⟩
           ·refine aC rfl hc_65 wz ?_
            obtain ⟨r_66,hr_67,h_53⟩:=bind_some h_53
            refine aF (AX hr_67) rfl hb19 rfl rfl rfl rfl wa (aa (vB r_66) (aa (vB r_66) (af ?_)))
            obtain rfl:=ae h_53
            exact cu
           ·refine aC rfl hc_65 wz (ah (aa (vB false) (aa (vB false) (af ?_))))
            obtain rfl:=ae h_53
            exact cu
          ·refine aC rfl hc_62 wz (ah (ah (ah (aa (vB false) (aa (vB false) (ah (aa (vB false) (aa (vB false) (af ?_)))))))))
           obtain rfl:=ae h_53
           exact cu
         ·refine aC rfl hc_61 wz (ah (ah (ah (aa (vB false) (aa (vB false) (ah (ah (ah (aa (vB false) (aa (vB false) (ah (aa (vB false) (aa (vB false) (af ?_))))))))))))))
          obtain rfl:=ae h_53
          exact cu
        ·refine aC rfl hc_58 wz (ah (ah (ah (aa (vB false) (aa (vB false) (ah (ah (ah (aa (vB false) (aa (vB false) (ah (ah (ah (aa (vB false) (aa (vB false) (ah (aa (vB false) (aa (vB false) (af ?_)))))))))))))))))))
         obtain rfl:=ae h_53
         exact cu
       ·refine aC rfl hc_57 wz (ah (ah (ah (aa (vB false) (aa (vB false) (ah (ah (ah (aa (vB false) (aa (vB false) (ah (ah (ah (aa (vB false) (aa (vB false) (ah (ah (ah (aa (vB false) (aa (vB false) (ah (aa (vB false) (aa (vB false) ?_)))))))))))))))))))))))
        refine af ?_
        obtain rfl:=ae h_53
        exact cu
      ·refine aC rfl hc_54 wz (ah (ah (ah (aa (vB false) (aa (vB false) (ah (ah (ah (aa (vB false) (aa (vB false) (ah (ah (ah (aa (vB false) (aa (vB false) (ah (ah (ah (aa (vB false) (aa (vB false) (ah (ah (ah ?_)))))))))))))))))))))))
       refine aa (vB false) (aa (vB false) (ah (aa (vB false) (aa (vB false) (af ?_)))))
       obtain rfl:=ae h_53
       exact cu
     ·rintro ⟨⟩ _ sl_ H_ hp_ hq_
      refine aP _ hp_ hq_ ?_
      obtain rfl:=ae hF
      exact ay (aM [(vB v_52)] ⟨rfl,trivial⟩)
end Go.Proofs.YtekmkepojbhafaeGreatDoor.Law

