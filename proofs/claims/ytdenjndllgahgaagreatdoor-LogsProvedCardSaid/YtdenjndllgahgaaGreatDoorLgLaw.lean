import Derived.Test.YtdenjndllgahgaaGreatDoorLgGen
import Derived.Test.YtdenjndllgahgaaGreatDoorCkLaw
/-
  THE PLAIN LAW: Root, Path and Proves are as specified for all logs, numbers and paths.
-/
open Go Go.Eng
namespace Go.Proofs.YtdenjndllgahgaaGreatDoor.Law
set_option linter.unusedVariables false
set_option linter.unusedSimpArgs false
theorem Ay:∀(l:List Int) (k:Nat),dW (λk x s=>ic k x s) l k ()=some (qh (l.foldr or0 0))
  | [],k=>rfl
  | e::l,k=>by
    simp only [dW]
    have hstep:ic k e ()=some (qh e):=by
      unfold ic qh
      cases h:(e==0)with
      | true => have : (e != 0) = false := by simpa using h
                rw [this];rfl
      | false => have : (e != 0) = true := by simpa using h
                 rw [this];rfl
    rw [hstep]
    simp only [ob_,List.foldr_cons,qh,or0]
    cases h:(e==0)with
    | true=>simp only [cond_true];exact Ay l (k+1)
    | false=>simp only [cond_false,h]
theorem errsN (l:List Int) (hl:l.length<=1000):dF l=some (l.foldr or0 0):=by
  unfold dF
  rw [fo (by omega),Ay]
  simp only [ob_,pV]
theorem or0_z (a:Int):or0 a 0=a:=by
  unfold or0
  cases h:(a==0)with
  | true=>simp only [cond_true];exact (eq_of_beq h).symm
  | false=>rfl
theorem Aw (a:ByteArray):sNe a a=false:=by rw [uF];simp
theorem qB (f:ByteArray->Option Bool) (g:ByteArray->Bool):∀(l:List ByteArray) (k:Nat),(∀x∈l,f x=some (g x))->∃c,dW (λk x s=>aP f k x s) l k ()=some c /\
    (l.any g=true->∃j:Nat,c = .ret (j:Int))/\(l.any g=false->c = .go ())
  | [],k,h=>⟨_,rfl,(λh=>by cases h),λ_=>rfl⟩
  | x::l,k,h=>by
    obtain ⟨c,h1,h2,h3⟩:=qB f g l (k+1) (λy hy=>h y (List.mem_cons_of_mem _ hy))
    cases hg:g x with
    | true =>
      refine⟨.ret (k:Int),?_,λ_=>⟨k,rfl⟩,λh=>by simp [hg]at h⟩
      simp only [dW]
      unfold aP
      rw [h x (by simp),hg];rfl
    | false =>
      refine⟨c,?_,λh=>h2 (by simpa [hg]using h),λh=>h3 (by simpa [hg]using h)⟩
      have hstep:aP f k x ()=some (.go ()):=by
        unfold aP
        rw [h x (by simp),hg];rfl
      simp only [dW,hstep,ob_]
      exact h1
theorem og (l:List ByteArray) (f:ByteArray->Option Bool) (g:ByteArray->Bool) (hl:l.length<=1000000000) (h:∀x∈l,f x=some (g x)):aS l f=some (l.any g):=by
  unfold aS cz
  obtain ⟨c,h1,h2,h3⟩:=qB f g l 0 h
  rw [fo (by omega),h1]
  cases ha:l.any g with
  | true =>
    obtain ⟨j,rfl⟩:=h2 ha
    simp only [ob_,xH]
    have:decide ((j:Int)>=0)=true:=decide_eq_true (by omega)
    rw [this]
  | false =>
    rw [h3 ha];rfl
theorem vw (l2:List ByteArray):∀(xs:List ByteArray) (k:Nat),l2.drop k=xs->dW (λk x s=>aY l2 k x s) xs k ()=some (.go ())
  | [],k,h=>rfl
  | x::xs,k,h=>by
    have hstep:aY l2 k x ()=some (.go ()):=by
      unfold aY
      rw [fe h]
      simp only [ob_,Aw]
      rfl
    simp only [dW,hstep,ob_]
    exact vw l2 xs (k+1) (bT h)
theorem Al (l:List ByteArray) (hl:l.length<=1000000000):bO l l=some true:=by
  unfold bO
  have e:((l.length:Int) != (l.length:Int))=false:=by simp
  rw [e,cond_false,fo (by omega),vw l l 0 rfl]
  rfl
theorem Du (l:List ByteArray) (hl:l.length<=1000000000):bM l=some l:=by
  unfold bM
  rw [jE [] l (by simpa using hl)]
  simp
def mI (root:ByteArray) (many i:Int) (y:Log_) (path:List ByteArray):Int :=
  bif !iJ root then 3 else bif (gQ many 1 2000||gQ i 0 (many-1))then 1 else bif mF y != 0 then mF y else bif (!iJ y.Sum||path.any λm => !iJ m)then 3 else 0
theorem vG (root:ByteArray) (many i:Int) (y:Log_) (path:List ByteArray) (hr:aV root) (hm : -1000000<=many/\many<=1000000) (hy:eu y) (hp:∀x∈path,aV x) (hl:path.length<=1000000000) :
    fA root many i y path=some (mI root many i y path):=by
  have hc:=og path (λx0=>d9 x0) (λm => !iJ m) hl (λx hx=>by
    unfold d9
    rw [pQ (hp x hx)];rfl)
  unfold fA mI
  rw [pQ hr,pQ hy.2.2.1,uf hy,hc,cK (by omega)]
  simp only [ob_,nK]
  generalize (path.any λm => !iJ m)=A
  cases iJ root <;> cases gQ many 1 2000 <;> cases gQ i 0 (many-1) <;> cases (mF y != 0) <;> cases iJ y.Sum <;> cases A <;> rfl
theorem C8 (root:ByteArray) (many i:Int) (y:Log_) (path:List ByteArray) (hr:aV root) (hm : -1000000<=many/\many<=1000000) (hy:eu y) (hp:∀x∈path,aV x) (hl:path.length<=100000000) :
    ∃v,(mI root many i y path=0->jF root many i y path=some v)/\jB root many i y path=some (bif mI root many i y path==0 then (v,0)else (false,mI root many i y path)):=by
  unfold jB jF
  rw [vG root many i y path hr hm hy hp (by omega),leafP hy,leafR hy]
  simp only [ob_]
  by_cases hf:mI root many i y path=0
  · have hb:gQ many 1 2000=false/\gQ i 0 (many-1)=false:=by
      unfold mI at hf
      cases h1:iJ root <;> cases h2:gQ many 1 2000 <;> cases h3:gQ i 0 (many-1) <;> rw [h1,h2,h3]at hf <;> simp at hf ⊢
    have b1:=wN hb.1
    have b2:=wN hb.2
    have e:(mI root many i y path != 0)=false:=by simp [hf]
    have e':(mI root many i y path==0)=true:=by simp [hf]
    rw [e,e']
    simp only [cond_false,cond_true]
    obtain ⟨m,rfl⟩:∃m:Nat,many=m:=⟨many.toNat,by omega⟩
    obtain ⟨k,rfl⟩:∃k:Nat,i=k:=⟨i.toNat,by omega⟩
    rcases Ap m k path (ng y) (by omega) (by omega) hp (oH y) hl with⟨n,s,h1,h2⟩|⟨n,h1,h2⟩
    · rw [dL h1,dL h2]
      simp only [ob_,iV]
      obtain ⟨v,hv⟩:∃v,(bif ((s.2.2.1.length:Int)==0)then some (sEq s.2.2.2 root)else some false)=some v:=by
        cases ((s.2.2.1.length:Int)==0) <;> exact⟨_,rfl⟩
      exact⟨v,λ_=>by rw [hv];rfl,by rw [hv];rfl⟩
    · rw [dL h1,dL h2]
      exact⟨false,λ_=>rfl,rfl⟩
  · have e:(mI root many i y path != 0)=true:=by simp [hf]
    have e':(mI root many i y path==0)=false:=by simp [hf]
    rw [e,e']
    exact⟨false,λh=>absurd h hf,rfl⟩
theorem ms {α:Type} {E:Option α} {f:α->Option Bool} {P:α->Prop} (h:∃a,E=some a/\P a) (k:∀a,P a->f a=some true):E.bind f=some true:=by
  obtain ⟨a,h1,h2⟩:=h
  rw [h1];exact k a h2
theorem logsProved (l:List Int):jD l=some true:=by
  unfold jD
  refine ms (logs_ok ⟨l,0⟩ 5 (by decide) (b:=0) ⟨Int.le_refl _,Int.le_refl _⟩ (by decide)) (λx hx => ?_)
  obtain ⟨o1,hl,hg⟩:=hx
  have hl':x.1.length<=10:=hl
  obtain ⟨r,hr,hr1,hr2⟩:=root_eq x.1 hg (by omega)
  obtain ⟨R,hR,hR1,hR2⟩:∃R,aV R/\jP x.1=some (R,gJ x.1)/\(bif (gJ x.1==0)then (j6 x.1).bind λr_13=>some r_13 else some (⟨#[]⟩:ByteArray))=some R:=by
    by_cases hf:gJ x.1=0
    · have e':(gJ x.1==0)=true:=by simp [hf]
      rw [e']at hr2 ⊢
      exact⟨r,hr,by rw [hr2,hf];rfl,by rw [hr1 hf];rfl⟩
    · have e':(gJ x.1==0)=false:=by simp [hf]
      rw [e']at hr2 ⊢
      exact⟨⟨#[]⟩,bL rfl,by rw [hr2];rfl,rfl⟩
  rw [hR1];simp only [ob_]
  rw [logsR x.1 hg (by omega)];simp only [ob_]
  rw [hR2];simp only [ob_,Aw]
  have e0:(gJ x.1 != gJ x.1)=false:=by simp
  rw [e0];simp only [cond_false,ob_]
  refine ms (sI x.2 _ o1 (by omega) (by simp) (by simp)) (λi hi => ?_)
  refine ms (sI i.2 _ hi.2 (by omega) (by simp) (by simp)) (λd hd => ?_)
  have hib : -1<=i.1/\i.1<=11:=by
    have:=hi.1
    simp only [List.mem_cons,List.not_mem_nil,or_false]at this
    rcases this with h|h|h|h|h|h <;> omega
  have hdb : -1<=d.1/\d.1<=1:=by
    have:=hd.1
    simp only [List.mem_cons,List.not_mem_nil,or_false]at this
    rcases this with h|h|h|h|h <;> omega
  obtain ⟨p,hps,hpl,hp1,hp2⟩:=path_eq x.1 i.1 hg (by omega) (by omega)
  obtain ⟨P,hPs,hPl,hP1,hP2⟩:∃P:List ByteArray,(∀z∈P,aV z)/\P.length<=10000000/\jW x.1 i.1=some (P,lN x.1 i.1)/\(bif (lN x.1 i.1==0)then (jU x.1 i.1).bind λr_43=>some r_43 else some ([]:List ByteArray))=some P:=by
    by_cases hf:lN x.1 i.1=0
    · have e':(lN x.1 i.1==0)=true:=by simp [hf]
      rw [e']at hp2 ⊢
      exact⟨p,hps,hpl,by rw [hp2,hf];rfl,by rw [hp1 hf];rfl⟩
    · have e':(lN x.1 i.1==0)=false:=by simp [hf]
      rw [e']at hp2 ⊢
      exact⟨[],(λz hz=>by cases hz),by simp,by rw [hp2];rfl,rfl⟩
  rw [hP1];simp only [ob_]
  have hv27:(bif (decide (i.1<0))then (bz true 1).bind λr_30=>(dF ([gJ x.1,r_30]:List Int)).bind λr_32=>some r_32 else (bz (decide (i.1>=(x.1.length:Int))) 1).bind λr_34=>(dF ([gJ x.1,r_34]:List Int)).bind λr_36=>some r_36)=some (lN x.1 i.1):=by
    unfold lN
    cases h1:decide (i.1<0)with
    | true =>
      have:gQ i.1 0 ((x.1.length:Int)-1)=true:=by unfold gQ;rw [h1];rfl
      rw [this]
      simp only [cond_true,uK,ob_,ES]
    | false =>
      have:gQ i.1 0 ((x.1.length:Int)-1)=decide (i.1>=(x.1.length:Int)):=by
        unfold gQ;rw [h1,Bool.false_or];exact decide_eq_decide.2 (by omega)
      rw [this]
      simp only [cond_false,uK,ob_,ES]
  rw [hv27];simp only [ob_]
  rw [hP2];simp only [ob_]
  have e1:(lN x.1 i.1 != lN x.1 i.1)=false:=by simp
  rw [e1,Al P (by omega)];simp only [cond_false,ob_,Bool.not_true]
  rw [show (⟨#[120]⟩:ByteArray)=BB [120] from rfl,uh [120] (by simp)];simp only [ob_]
  refine ms (P:=λv=>Ok ⟨v.2.1,v.2.2⟩ 410/\(v.1=true->lN x.1 i.1=0)) (mc (λh => ?_) (λ_ => ?_)) (λv hv => ?_)
  · refine mb (pu d.2 4 hd.2 (by omega) (by decide) (by decide)) (λc hc=>mr ⟨hc.mono (by omega),λ_=>eq_of_beq h⟩)
  · exact mr ⟨hd.2.mono (by omega),λh=>by cases h⟩
  refine ms (P:=λy=>eu ⟨y.1,y.2.1,y.2.2.1,y.2.2.2.1,y.2.2.2.2.1,y.2.2.2.2.2⟩) (mc (λh => ?_) (λ_ => ?_)) (λy hy => ?_)
  · have h0:=hv.2 h
    unfold lN at h0
    obtain ⟨_,h2⟩:=or0_0 h0
    have hb:gQ i.1 0 ((x.1.length:Int)-1)=false:=by
      cases hc:gQ i.1 0 ((x.1.length:Int)-1)with
      | false=>rfl
      | true=>rw [hc]at h2;cases h2
    have:=wN hb
    obtain ⟨z,hz,hzm⟩:=yj (l:=x.1) (r:=i.1) (by omega) (by omega)
    rw [hz]
    exact mr (hg z hzm)
  · exact mr ⟨bL rfl,bL rfl,iU _,by show Med 1;unfold Med;omega,by show Med 0;unfold Med;omega,by show Med 5;unfold Med;omega⟩
  refine ms (P:=λw=>Ok ⟨w.2.1,w.2.2⟩ 415/\(w.1=true->0<P.length)) (mc (λh => ?_) (λ_ => ?_)) (λw hw => ?_)
  · refine mb (pu _ 6 hv.1 (by omega) (by decide) (by decide)) (λc hc=>mr ⟨hc.mono (by omega),λ_ => ?_⟩)
    simp only [decide_eq_true_eq]at h;omega
  · exact mr ⟨hv.1.mono (by omega),λh=>by cases h⟩
  refine ms (P:=λq=>Ok ⟨q.2.1,q.2.2⟩ 430/\(∀z∈q.1,aV z)/\q.1.length<=20000000) (mc (λh => ?_) (λ_ => ?_)) (λq hq => ?_)
  · have hpos:=hw.2 h
    have hsub:uq P 1 (P.length:Int)=some (P.drop 1):=by
      unfold uq
      rw [if_pos ⟨by omega,by omega,by simp;omega,by simp⟩]
      simp
    rw [hsub]
    exact mr ⟨hw.1.mono (by omega),λz hz=>hPs z (List.mem_of_mem_drop hz),by simp;omega⟩
  · refine mb (pu _ 8 hw.1 (by omega) (by decide) (by decide)) (λc hc=>mc (λ_ => ?_) (λ_ => ?_))
    · rw [Du P (by omega),show (⟨#[121]⟩:ByteArray)=BB [121] from rfl,uh [121] (by simp)]
      simp only [ob_]
      refine mb (oK c.2 _ hc (by omega) (by simp) (by simp)) (λz hz => ?_)
      have hzs:aV z.1:=jR hz.1 (pY (iU _) (bL rfl))
      rw [jE P [_] (by simp;omega)]
      refine mr ⟨hz.2.mono (by omega),λa ha => ?_,by simp;omega⟩
      rcases List.mem_append.1 ha with ha|ha
      · exact hPs a ha
      · rw [List.mem_singleton.1 ha];exact hzs
    · exact mr ⟨hc.mono (by omega),hPs,by show P.length<=20000000;omega⟩
  refine ms (P:=λu=>Ok ⟨u.2.1,u.2.2⟩ 440) (mc (λ_ => ?_) (λ_ => ?_)) (λu hu => ?_)
  · exact mr (hq.1.mono (by omega))
  · exact mb (pu _ 12 hq.1 (by omega) (by decide) (by decide)) (λc hc=>mr (hc.mono (by omega)))
  refine ms (P:=λt=>aV t.1) (mc (λ_ => ?_) (λ_ => ?_)) (λt ht => ?_)
  · rw [show (⟨#[]⟩:ByteArray)=BB [] from rfl,uh [] (by simp)]
    simp only [ob_]
    exact mb (oK _ _ hu (by omega) (by simp) (by simp)) (λz hz=>mr (jR hz.1 (pY (iU _) (bL rfl))))
  · exact mr hR
  have hw64:w64 ((x.1.length:Int)+d.1)=(x.1.length:Int)+d.1:=cK (by omega)
  rw [hw64]
  generalize hmany:(x.1.length:Int)+d.1=many
  have hmb : -1000000<=many/\many<=1000000:=by omega
  obtain ⟨vv,hv1,hv2⟩:=C8 t.1 many i.1 ⟨y.1,y.2.1,y.2.2.1,y.2.2.2.1,y.2.2.2.2.1,y.2.2.2.2.2⟩ q.1 ht hmb hy hq.2.1 (by omega)
  rw [hv2];simp only [ob_]
  have hlf:=vO hy
  have hsm:=lu hy.2.2.1
  have hrm:=lu ht
  have hcf:=og q.1 (λx0=>fZ x0) (λm => !iJ m) (by omega) (λz hz=>by
    unfold fZ
    rw [lu (hq.2.1 z hz)];rfl)
  have hsm':bP y.2.2.2.2.2=some (iJ y.2.2.2.2.2):=hsm
  obtain ⟨e110,h110,h163⟩:∃e,((bP t.1).bind λr_112=>(bz (!r_112) 3).bind λr_114=>bif (decide (many<1))then (bz true 1).bind λr_117=>(dz (⟨y.1,y.2.1,y.2.2.1,y.2.2.2.1,y.2.2.2.2.1,y.2.2.2.2.2⟩:Log_)).bind λr_119=>(bP y.2.2.2.2.2).bind λr_121=>(bz (!r_121) 3).bind λr_123=>(dF ([r_114,r_117,r_119,r_123]:List Int)).bind λr_125=>some r_125 else bif (decide (many>2000))then (bz true 1).bind λr_128=>(dz (⟨y.1,y.2.1,y.2.2.1,y.2.2.2.1,y.2.2.2.2.1,y.2.2.2.2.2⟩:Log_)).bind λr_130=>(bP y.2.2.2.2.2).bind λr_132=>(bz (!r_132) 3).bind λr_134=>(dF ([r_114,r_128,r_130,r_134]:List Int)).bind λr_136=>some r_136 else bif (decide (i.1<0))then (bz true 1).bind λr_139=>(dz (⟨y.1,y.2.1,y.2.2.1,y.2.2.2.1,y.2.2.2.2.1,y.2.2.2.2.2⟩:Log_)).bind λr_141=>(bP y.2.2.2.2.2).bind λr_143=>(bz (!r_143) 3).bind λr_145=>(dF ([r_114,r_139,r_141,r_145]:List Int)).bind λr_147=>some r_147 else (bz (decide (i.1>=many)) 1).bind λr_149=>(dz (⟨y.1,y.2.1,y.2.2.1,y.2.2.2.1,y.2.2.2.2.1,y.2.2.2.2.2⟩:Log_)).bind λr_151=>(bP y.2.2.2.2.2).bind λr_153=>(bz (!r_153) 3).bind λr_155=>(dF ([r_114,r_149,r_151,r_155]:List Int)).bind λr_157=>some r_157)=some e /\
      or0 e (bif (q.1.any λm => !iJ m)then 3 else 0)=mI t.1 many i.1 ⟨y.1,y.2.1,y.2.2.1,y.2.2.2.1,y.2.2.2.2.1,y.2.2.2.2.2⟩ q.1:=by
    have hout:(gQ many 1 2000||gQ i.1 0 (many-1))=(decide (many<1)||(decide (many>2000)||(decide (i.1<0)||decide (i.1>=many)))):=by
      unfold gQ
      have:decide (i.1>many-1)=decide (i.1>=many):=decide_eq_decide.2 (by omega)
      rw [this]
      cases decide (many<1) <;> cases decide (many>2000) <;> rfl
    rw [hrm,hlf,hsm']
    unfold mI
    rw [hout]
    simp only [ob_,uK,errsN _ (show ([_,_,_,_]:List Int).length<=1000 by simp),List.foldr_cons,List.foldr_nil,or0_z]
    generalize hF:mF (⟨y.1,y.2.1,y.2.2.1,y.2.2.2.1,y.2.2.2.2.1,y.2.2.2.2.2⟩:Log_)=F
    cases decide (many<1) <;> cases decide (many>2000) <;> cases decide (i.1<0) <;> cases decide (i.1>=many) <;> cases iJ t.1 <;> cases iJ y.2.2.2.2.2 <;> cases (q.1.any λm => !iJ m) <;>
      (refine⟨_,rfl,?_⟩;by_cases hF0:F=0
       · subst hF0;first | rfl | simp [or0]
       · have e1:(F==0)=false:=by simp [hF0]
         have e2:(F != 0)=true:=by simp [hF0]
         simp [or0,e1,e2])
  rw [h110];simp only [ob_]
  rw [hcf];simp only [ob_,uK,ES]
  rw [h163]
  generalize hPF:mI t.1 many i.1 ⟨y.1,y.2.1,y.2.2.1,y.2.2.2.1,y.2.2.2.2.1,y.2.2.2.2.2⟩ q.1=PF
  rw [hPF]at hv1
  by_cases hf:PF=0
  · subst hf
    rw [hv1 rfl]
    simp [xJ]
  · have e':(PF==0)=false:=by simp [hf]
    rw [e']
    simp [xJ]
end Go.Proofs.YtdenjndllgahgaaGreatDoor.Law

