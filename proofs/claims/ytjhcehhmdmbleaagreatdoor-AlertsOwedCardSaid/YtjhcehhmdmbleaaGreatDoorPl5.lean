/-
  THE PLAIN LAW (part 5).
-/
import Derived.Test.YtjhcehhmdmbleaaGreatDoorPl4
import Derived.Test.YtjhcehhmdmbleaaGreatDoorDefs
open Go Go.Eng
namespace Go.Proofs.YtjhcehhmdmbleaaGreatDoor.Law
set_option linter.unusedVariables false
set_option linter.unusedSimpArgs false
set_option maxRecDepth 100000
def gS (p id:ByteArray) (t:Int) (x:Receipt) (g:Int):Int:=bif (decide (x.Player=p)&&(decide (x.Alert=id)&&(decide (x.At<=t)&&(decide (g<0)||decide (x.At<g)))))then x.At else g
def gV (p id:ByteArray) (t:Int) (l:List Receipt):Int:=l.foldl (λg x=>gS p id t x g) (-1)
theorem Ju (p id:ByteArray) (t:Int) (l:List Receipt) (x:Receipt):gV p id t (l++[x])=gS p id t x (gV p id t l):=by
 unfold gV;rw [List.foldl_append];rfl
theorem J2 (r:List Receipt) (hr:r.length<=100000) (p id:ByteArray) (t:Int):wY r p id t=some (gV p id t r):=by
 unfold wY
 obtain ⟨u,u1,u2⟩:=jg (body:=λk x s=>sK p id t k x s) (λk s=>s=gV p id t (r.take k)) (xs:=r) (s:=(-1:Int)) (by omega) (λk x s hx hs=>by
  have et:r.take (k+1)=r.take k++[x]:=by rw [List.take_add_one,hx];rfl
  rw [et,Ju,<- hs]
  refine⟨_,?_,rfl⟩
  unfold sK gS
  rw [oI,oI]
  cases decide (x.Player=p) <;> cases decide (x.Alert=id) <;> cases decide (x.At<=t) <;> cases decide (s<0) <;> cases decide (x.At<s) <;> rfl) rfl
 rw [u1,u2,List.take_length];rfl
def gO (g:Int):Option Int:=bif decide (g<0)then none else some g
theorem DV (r:List Receipt) (hr:r.length<=100000) (h0:∀x∈r,0<=x.At) (t:Int):∃m,l6 r t=some m/\∀p id,mGet eqP m ⟨p,id⟩=gO (gV p id t r)/\(gV p id t r = -1\/0<=gV p id t r):=by
 unfold l6
 obtain ⟨u,u1,u2⟩:=jg (body:=λk x s=>mE t k x s) (λk s=>∀p id,mGet eqP s ⟨p,id⟩=gO (gV p id t (r.take k))/\(gV p id t (r.take k) = -1\/0<=gV p id t (r.take k))) (xs:=r) (s:=([]:List (Pair×Int))) (by omega) (λk x s hx hs=>by
  have et:r.take (k+1)=r.take k++[x]:=by rw [List.take_add_one,hx];rfl
  have hx0:=h0 x (List.mem_of_getElem? hx)
  have he:(λ(a b:Pair)=>(eqS a.f_player b.f_player&&(eqS a.f_alert b.f_alert&&true)))=eqP:=rfl
  obtain ⟨k1,k2⟩:=hs x.Player x.Alert
  generalize hg:gV x.Player x.Alert t (r.take k)=g at k1 k2
  refine⟨bif (decide (x.At<=t)&&(decide (g<0)||decide (x.At<g)))then sS eqP s ⟨x.Player,x.Alert⟩ x.At else s,?_,λp id => ?_⟩
  ·unfold mE
   rw [he,k1]
   unfold gO
   cases decide (x.At<=t) <;> cases h2:decide (g<0) <;> cases h3:decide (x.At<g) <;> simp only [cond_true,cond_false,Option.isSome_some,Option.isSome_none,Option.getD_some,Bool.not_true,Bool.not_false,ob_,Bool.false_and,Bool.true_and,Bool.or_false,Bool.or_true,Bool.false_or,Bool.true_or,h3]
  ·rw [et,Ju]
   by_cases hk:p=x.Player/\id=x.Alert
   ·obtain ⟨rfl,rfl⟩:=hk
    rw [hg]
    unfold gS
    rw [decide_eq_true rfl,decide_eq_true rfl,Bool.true_and,Bool.true_and]
    cases hc:(decide (x.At<=t)&&(decide (g<0)||decide (x.At<g)))with
    | false =>
     simp only [cond_false]
     exact⟨k1,k2⟩
    | true =>
     simp only [cond_true]
     rw [uI uN,if_pos ((uN _ _).2 rfl)]
     exact⟨by unfold gO;rw [decide_eq_false (by omega)];rfl,.inr hx0⟩
   ·have e1:gS p id t x (gV p id t (r.take k))=gV p id t (r.take k):=by
     unfold gS
     have:(decide (x.Player=p)&&(decide (x.Alert=id)&&(decide (x.At<=t)&&(decide (gV p id t (r.take k)<0)||decide (x.At<gV p id t (r.take k))))))=false:=by
      by_cases h1:x.Player=p
      ·have h2:¬x.Alert=id:=λe=>hk ⟨h1.symm,e.symm⟩
       rw [decide_eq_false h2,Bool.false_and,Bool.and_false]
      ·rw [decide_eq_false h1,Bool.false_and]
     rw [this];rfl
    rw [e1]
    obtain ⟨j1,j2⟩:=hs p id
    refine⟨?_,j2⟩
    rw [<- j1]
    cases (decide (x.At<=t)&&(decide (g<0)||decide (x.At<g)))with
    | false=>rfl
    | true =>
     rw [cond_true,uI uN,if_neg (λq=>hk (by
      have:=(uN _ _).1 q
      cases this
      exact⟨rfl,rfl⟩))]) (λp id=>⟨rfl,.inl rfl⟩)
 rw [List.take_length]at u2
 rw [u1]
 exact⟨u,rfl,u2⟩
def shB (l:List Alert) (a:Alert) (p:Post) (t:Int):Bool:=(decide (a.Kind≠3)&&(decide (a.At<=t)&&decide (a.At<mR l a)))&&hasB a.Areas p.X p.Y
theorem F5 {l:List Alert} (h:CA l) {a:Alert} (ha:a∈l) (p:Post) (t:Int):mG a (mR l a) p t=some (shB l a p t):=by
 unfold mG shB
 have e:(a.Kind != 3)=decide (a.Kind≠3):=by rw [Bool.eq_iff_iff];simp
 rw [e,yM (h.areas a ha) (h.alen a ha)]
 cases decide (a.Kind≠3) <;> cases decide (a.At<=t) <;> cases decide (a.At<mR l a) <;> rfl
theorem H6 {l:List Alert} (hg:GAs l) (h:CA l) {a:Alert} (ha:a∈l) (p:Post) (t:Int):pK l a p t=some (shB l a p t):=by
 unfold pK shB
 have e:(a.Kind != 3)=decide (a.Kind≠3):=by rw [Bool.eq_iff_iff];simp
 rw [e,CB hg h.ids ha,yV (h.areas a ha) (h.alen a ha)]
 cases decide (a.Kind≠3) <;> cases decide (a.At<=t) <;> cases h3:decide (a.At<mR l a) <;> simp only [cond_true,cond_false,ob_,h3] <;> rfl
def dC (l:List Alert) (r:List Receipt) (inv t:Int) (p:Post) (a:Alert):Bool:=shB l a p t&&(decide (a.At+inv<t)&&((decide (gV p.Player a.Id t r<0)||decide (gV p.Player a.Id t r>a.At+inv))&&decide (mR l a>=a.At+inv)))
def dL (l:List Alert) (r:List Receipt) (inv t:Int) (p:Post) (a:Alert):List Debt:=bif dC l r inv t p a then [⟨p.Player,a.Id,a.At+inv,gV p.Player a.Id t r⟩]else []
theorem LQ (l:List Alert) (r:List Receipt) (inv t:Int) (p:Post) (a:Alert):(dL l r inv t p a).length<=1:=by
 unfold dL;cases dC l r inv t p a <;> simp
theorem debt_K {l:List Alert} (h:CA l) {r:List Receipt} {inv t:Int} (hi:0<=inv/\inv<=2592000000) {m:List (Pair×Int)} (hm:∀p id,mGet eqP m ⟨p,id⟩=gO (gV p id t r)/\(gV p id t r = -1\/0<=gV p id t r)) (p:Post) {k:Nat} {a:Alert} (ha:l[k]? = some a) (s:List Debt) (hl:s.length<=1000) :
  kH (l.map (mR l)) p t inv m k a s=some (.go (s++dL l r inv t p a)):=by
 have hmem:=List.mem_of_getElem? ha
 have hat:=h.at_ a hmem
 have he:(λ(a b:Pair)=>(eqS a.f_player b.f_player&&(eqS a.f_alert b.f_alert&&true)))=eqP:=rfl
 have hidx:idx (l.map (mR l)) (k:Int)=some (mR l a):=ER ha
 have hw:w64 (a.At+inv)=a.At+inv:=cO (by omega)
 obtain ⟨m1,m2⟩:=hm p.Player a.Id
 unfold kH dL dC
 rw [he,hidx,ob_,F5 h hmem,ob_,m1,hw]
 unfold gO
 generalize gV p.Player a.Id t r=g at m2
 have d1:decide (a.At+inv>=t) = !decide (a.At+inv<t):=by rw [Bool.eq_iff_iff];simp
 have d2:decide (mR l a<a.At+inv) = !decide (mR l a>=a.At+inv):=by rw [Bool.eq_iff_iff];simp
 simp only [ob_,d1,d2]
 cases shB l a p t with
 | false=>simp
 | true =>
  cases decide (a.At+inv<t)with
  | false=>simp
  | true =>
   cases decide (mR l a>=a.At+inv)with
   | false=>simp
   | true =>
    simp only [Bool.not_true,cond_false,ob_,Bool.true_and,Bool.and_true]
    cases h2:decide (g<0)with
    | true =>
     have hg:g = -1:=by
      have:=of_decide_eq_true h2
      omega
     subst hg
     simp only [cond_true,Option.isSome_none,Bool.not_false,Bool.true_or]
     rw [kW _ _ (by simp only [List.length_cons,List.length_nil];omega)];rfl
    | false =>
     simp only [cond_false,Option.isSome_some,Bool.not_true,Option.getD_some,Bool.false_or]
     cases h3:decide (g>a.At+inv)with
     | true =>
      simp only [cond_true]
      rw [kW _ _ (by simp only [List.length_cons,List.length_nil];omega)];rfl
     | false=>simp
theorem debt_R {l:List Alert} (hga:GAs l) (h:CA l) {r:List Receipt} (hr:r.length<=100000) {inv t:Int} (hi:0<=inv/\inv<=2592000000) (p:Post) {k:Nat} {a:Alert} (ha:a∈l) (s:List Debt) (hl:s.length<=1000) :
  kG r p t inv l k a s=some (.go (s++dL l r inv t p a)):=by
 have hat:=h.at_ a ha
 have hw:w64 (a.At+inv)=a.At+inv:=cO (by omega)
 unfold kG dL dC
 rw [J2 r hr,ob_,H6 hga h ha,CB hga h.ids ha,hw]
 generalize gV p.Player a.Id t r=g
 simp only [ob_]
 cases shB l a p t <;> cases decide (a.At+inv<t) <;> cases decide (g<0) <;> cases decide (g>a.At+inv) <;> cases decide (mR l a>=a.At+inv) <;>
  simp only [cond_true,cond_false,ob_,Bool.true_and,Bool.false_and,Bool.and_false,Bool.and_true,Bool.true_or,Bool.false_or,Bool.or_true,Bool.or_false,List.append_nil] <;>
  (rw [kW _ _ (by simp only [List.length_cons,List.length_nil];omega)];rfl)
def dA (l:List Alert) (ps:List Post) (r:List Receipt) (inv t:Int):List Debt:=ps.flatMap λp=>l.flatMap λa=>dL l r inv t p a
theorem zH {α β:Type} (f:α->List β) (l:List α) (x:α):(l++[x]).flatMap f=l.flatMap f++f x:=by simp
theorem uE {α β:Type} (f:α->List β) (n:Nat) (h:∀x,(f x).length<=n):∀l:List α,(l.flatMap f).length<=l.length*n
 | []=>by simp
 | x::l=>by
  rw [List.flatMap_cons,List.length_append,List.length_cons,Nat.succ_mul]
  have:=h x
  have:=uE f n h l
  omega
theorem Ck {l:List Alert} (hl:l.length<=12) {ps:List Post} (hp:ps.length<=10) {r:List Receipt} {inv t:Int} {B:Post->Nat->Alert->List Debt->Option (Ctl (List Debt) Unit)} (hB:∀p (k:Nat) a s,l[k]? = some a->s.length<=1000->B p k a s=some (.go (s++dL l r inv t p a)))
  {C:Nat->Post->List Debt->Option (Ctl (List Debt) Unit)} (hC:∀k p s,C k p s=(forL l s (λj a s=>B p j a s)).bind λo=>thenC o (λs=>some (.go s)) (λ_=>none)):forL ps ([]:List Debt) (λk p s=>C k p s)=some (.go (dA l ps r inv t)):=by
 have h12:∀(p:Post) (j:Nat),((l.take j).flatMap λa=>dL l r inv t p a).length<=12:=λp j=>by
  have h1:=uE (λa=>dL l r inv t p a) 1 (λa=>LQ l r inv t p a) (l.take j)
  have h2:=take_len l j
  omega
 obtain ⟨u,u1,u2⟩:=jg (body:=λk p s=>C k p s) (λk s=>s=(ps.take k).flatMap λp=>l.flatMap λa=>dL l r inv t p a) (xs:=ps) (s:=([]:List Debt)) (by omega) (λk p s hx hs=>by
  have hk:k<ps.length:=(List.getElem?_eq_some_iff.1 hx).1
  have et:ps.take (k+1)=ps.take k++[p]:=by rw [List.take_add_one,hx];rfl
  have hsl:s.length<=120:=by
   rw [hs]
   have h1:=uE (λp=>l.flatMap λa=>dL l r inv t p a) 12 (λp=>by
    have:=h12 p l.length
    rwa [List.take_length]at this) (ps.take k)
   have h2:=take_len ps k
   omega
  obtain ⟨v,v1,v2⟩:=jg (body:=λj a s=>B p j a s) (λj s'=>s'=s++(l.take j).flatMap λa=>dL l r inv t p a) (xs:=l) (s:=s) (by omega) (λj a s' ha hs'=>by
   have et2:l.take (j+1)=l.take j++[a]:=by rw [List.take_add_one,ha];rfl
   have:=h12 p j
   rw [hB p j a s' ha (by rw [hs',List.length_append];omega)]
   exact⟨_,rfl,by rw [et2,zH,hs',List.append_assoc]⟩) (by simp)
  rw [List.take_length]at v2
  rw [hC,v1]
  exact⟨v,rfl,by rw [et,zH,v2,hs]⟩) rfl
 rw [u1,u2,List.take_length];rfl
theorem cmpS2 (a b d e:ByteArray):bn [a,b] [d,e]=some (or0 (ko a d) (ko b e)):=by
 unfold bn
 rw [fD (by simp)]
 have f1:∀(k:Nat) (x y:ByteArray),([d,e]:List ByteArray)[k]? = some y->k<2->bT [d,e] k x ()=some (bif ko x y != 0 then .ret (ko x y)else .go ()):=by
  intro k x y h hk
  unfold bT
  rw [decide_eq_false (by simp only [List.length_cons,List.length_nil];omega),cond_false,pW,h]
  simp only [ob_]
  rw [Ep,ob_]
  cases ko x y != 0 <;> rfl
 have g1:=f1 0 a d rfl (by decide)
 have g2:=f1 (0+1) b e rfl (by decide)
 simp only [forR,g1,g2,ob_]
 unfold or0
 by_cases h1:ko a d=0
 ·rw [h1]
  by_cases h2:ko b e=0
  ·rw [h2];rfl
  ·have e1:(ko b e != 0)=true:=by simpa using h2
   rw [e1];rfl
 ·have e1:(ko a d != 0)=true:=by simpa using h1
  have e2:(ko a d==0)=false:=by simpa using h1
  rw [e1,e2];rfl
theorem Ib (s:List Debt):gK s=dh s:=by
 unfold gK dh
 exact CV (F1:=λa b=>lH a b) (F2:=λa b=>jk a b) Gt Gt (λa _ b _=>by
   unfold lH Gt
   rw [cmpS2];rfl) (λa _ b _=>by
   unfold jk Gt
   rw [nG,nG]
   simp only [ob_]
   rw [Fj];rfl) (λa b=>Iff.rfl)
theorem Mj {l:List Alert} (hga:GAs l) (h:CA l) {ps:List Post} (hp:ps.length<=10) {r:List Receipt} (hr:r.length<=1000) (h0:∀x∈r,0<=x.At) {inv t:Int} (hi:0<=inv/\inv<=2592000000) :
  ∃d m,d.length<=1000/\l6 r t=some m/\nV l ps r inv t=some d/\(forL ps ([]:List Debt) (λk x s=>l7 l (l.map (mR l)) t inv m k x s)).bind (λo_33=>thenC o_33 (λs_27=>(dh s_27).bind λr_71=>(mP r_71 s_27).bind λ_=>some (r_71,(0:Int))) (λ_=>none))=some (d,0):=by
 have hl:=h.len
 obtain ⟨m,m1,m2⟩:=DV r (by omega) h0 t
 have a1:=Ck (l:=l) hl hp (r:=r) (inv:=inv) (t:=t) (B:=λp k a s=>kH (l.map (mR l)) p t inv m k a s) (λp k a s ha hs=>debt_K h hi m2 p ha s hs) (C:=λk p s=>l7 l (l.map (mR l)) t inv m k p s) (λk p s=>rfl)
 have a2:=Ck (l:=l) hl hp (r:=r) (inv:=inv) (t:=t) (B:=λp k a s=>kG r p t inv l k a s) (λp k a s ha hs=>debt_R hga h (by omega) hi p (List.mem_of_getElem? ha) s hs) (C:=λk p s=>ol l r t inv k p s) (λk p s=>rfl)
 have hdl:(dA l ps r inv t).length<=120:=by
  have h1:=uE (λp=>l.flatMap λa=>dL l r inv t p a) 12 (λp=>by
   have:=uE (λa=>dL l r inv t p a) 1 (λa=>LQ l r inv t p a) l
   omega) ps
  unfold dA
  omega
 obtain ⟨q,q1,q2⟩:=sortD (dA l ps r inv t) (by omega)
 have e3:mP q (dA l ps r inv t)=some ():=by unfold mP;rw [if_pos q2.length_eq]
 have hq:=q2.length_eq
 refine⟨q,m,by omega,m1,?_,?_⟩
 ·unfold nV
  rw [a2]
  simp only [ob_,thenC]
  rw [Ib,q1,ob_,e3];rfl
 ·rw [a1]
  simp only [ob_,thenC]
  rw [q1,ob_,e3];rfl
def BX (a_1:Int) (b_2:Int):Option (Int) :=
 (Cu (a_1,b_2) (λs=>uM s)).bind λo_11=>thenC o_11 (λs_8=>some (Mi s_8.1 (w64 (0-s_8.1)))) (λ_=>none)
theorem Ik (a_1:Int) (b_2:Int):Le (BX a_1 b_2) (yN a_1 b_2):=by
 unfold BX yN
 repeat' (with_reducible first | exact Le.refl _ | refine Le.loop (λ_ => ?_) | refine Le.forL (λ_ _ _ => ?_) | refine Le.thenC (λ_ => ?_) (λ_ => ?_) | refine Le.cond ?_ ?_ | refine Le.bind ?_ (λ_ => ?_))
def wu (num_1:Int) (den_2:Int):Option (Fraction) :=
 (bif (decide (den_2<0))then some ((w64 (0-num_1)),(w64 (0-den_2)))else some (num_1,den_2)).bind λv_4=>(BX v_4.1 v_4.2).bind λr_7=>(Bf .i64 v_4.1 r_7).bind λq_9=>(Bf .i64 v_4.2 r_7).bind λq_11=>some (⟨q_9,q_11⟩:Fraction)
theorem DK (num_1:Int) (den_2:Int):Le (wu num_1 den_2) (nH num_1 den_2):=by
 unfold wu nH
 repeat' (with_reducible first | exact Le.refl _ | exact Ik _ _ | refine Le.loop (λ_ => ?_) | refine Le.forL (λ_ _ _ => ?_) | refine Le.thenC (λ_ => ?_) (λ_ => ?_) | refine Le.cond ?_ ?_ | refine Le.bind ?_ (λ_ => ?_))
def wW (num_1:Int) (den_2:Int):Option (Fraction) :=
 (Cu (num_1,den_2) (λs=>pO s)).bind λo_12=>thenC o_12 (λs_9=>(bif (decide (s_9.1<0))then some (w64 (0-s_9.1))else some s_9.1).bind λv_17=>(Bf .i64 num_1 v_17).bind λq_20=>(Bf .i64 den_2 v_17).bind λq_22=>some (⟨q_20,q_22⟩:Fraction)) (λ_=>none)
theorem Dk (num_1:Int) (den_2:Int):Le (wW num_1 den_2) (nJ num_1 den_2):=by
 unfold wW nJ
 repeat' (with_reducible first | exact Le.refl _ | refine Le.loop (λ_ => ?_) | refine Le.forL (λ_ _ _ => ?_) | refine Le.thenC (λ_ => ?_) (λ_ => ?_) | refine Le.cond ?_ ?_ | refine Le.bind ?_ (λ_ => ?_))
theorem low_eq {n d:Nat} (hd:1<=d/\d<=3) (hn:n<=d):∃f,nH (n:Int) (d:Int)=some f/\nJ (n:Int) (d:Int)=some f:=by
 have one:∀(a b:Int) (f:Fraction),wu a b=some f->wW a b=some f->∃f,nH a b=some f/\nJ a b=some f:=λa b f h1 h2=>⟨f,DK _ _ _ h1,Dk _ _ _ h2⟩
 have hd':d=1\/d=2\/d=3:=by omega
 rcases hd' with rfl|rfl|rfl
 ·have hn':n=0\/n=1:=by omega
  rcases hn' with rfl|rfl
  ·exact one 0 1 ⟨0,1⟩ (by kernel_rfl) (by kernel_rfl)
  ·exact one 1 1 ⟨1,1⟩ (by kernel_rfl) (by kernel_rfl)
 ·have hn':n=0\/n=1\/n=2:=by omega
  rcases hn' with rfl|rfl|rfl
  ·exact one 0 2 ⟨0,1⟩ (by kernel_rfl) (by kernel_rfl)
  ·exact one 1 2 ⟨1,2⟩ (by kernel_rfl) (by kernel_rfl)
  ·exact one 2 2 ⟨1,1⟩ (by kernel_rfl) (by kernel_rfl)
 ·have hn':n=0\/n=1\/n=2\/n=3:=by omega
  rcases hn' with rfl|rfl|rfl|rfl
  ·exact one 0 3 ⟨0,1⟩ (by kernel_rfl) (by kernel_rfl)
  ·exact one 1 3 ⟨1,3⟩ (by kernel_rfl) (by kernel_rfl)
  ·exact one 2 3 ⟨2,3⟩ (by kernel_rfl) (by kernel_rfl)
  ·exact one 3 3 ⟨1,1⟩ (by kernel_rfl) (by kernel_rfl)
def nR (l:List Alert) (a:Alert) (t:Int) (ps:List Post):Nat:=(ps.filter λp=>shB l a p t).length
def gR (l:List Alert) (a:Alert) (r:List Receipt) (t:Int) (ps:List Post):Nat:=(ps.filter λp=>shB l a p t&&decide (gV p.Player a.Id t r>=0)).length
theorem JL (l:List Alert) (a:Alert) (t:Int) (ps:List Post) (p:Post):nR l a t (ps++[p])=nR l a t ps+(bif shB l a p t then 1 else 0):=by
 unfold nR
 rw [List.filter_append,List.length_append]
 congr 1
 cases h:shB l a p t <;> simp [h]
theorem JY (l:List Alert) (a:Alert) (r:List Receipt) (t:Int) (ps:List Post) (p:Post):gR l a r t (ps++[p])=gR l a r t ps+(bif shB l a p t&&decide (gV p.Player a.Id t r>=0)then 1 else 0):=by
 unfold gR
 rw [List.filter_append,List.length_append]
 congr 1
 cases h:(shB l a p t&&decide (gV p.Player a.Id t r>=0)) <;> simp [h]
theorem MC (l:List Alert) (a:Alert) (t:Int) (ps:List Post):nR l a t ps<=ps.length:=List.length_filter_le _ _
theorem Lr (l:List Alert) (a:Alert) (r:List Receipt) (t:Int) (ps:List Post):gR l a r t ps<=nR l a t ps:=by
 have h:∀ps:List Post,gR l a r t ps<=nR l a t ps:=by
  intro ps
  induction ps with
  | nil=>exact Nat.le_refl _
  | cons p ps ih =>
   unfold gR nR at *
   rw [List.filter_cons,List.filter_cons]
   cases h1:shB l a p t with
   | false=>simpa using ih
   | true =>
    cases decide (gV p.Player a.Id t r>=0)with
    | false =>
     show (List.filter _ ps).length<=(p::List.filter _ ps).length
     rw [List.length_cons];exact Nat.le_succ_of_le ih
    | true =>
     show (p::List.filter _ ps).length<=(p::List.filter _ ps).length
     rw [List.length_cons,List.length_cons];exact Nat.succ_le_succ ih
 exact h ps
theorem KQ {l:List Alert} (h:CA l) {ps:List Post} (hp:ps.length<=3) {r:List Receipt} {t:Int} {m:List (Pair×Int)} (hm:∀p id,mGet eqP m ⟨p,id⟩=gO (gV p id t r)/\(gV p id t r = -1\/0<=gV p id t r)) {i:Nat} {a:Alert} (ha:l[i]? = some a) :
  forL ps ((0:Int),(0:Int)) (λk x s=>jq l (i:Int) (l.map (mR l)) t m a.Id k x s)=some (.go ((nR l a t ps:Int),(gR l a r t ps:Int))):=by
 have hmem:=List.mem_of_getElem? ha
 have he:(λ(a b:Pair)=>(eqS a.f_player b.f_player&&(eqS a.f_alert b.f_alert&&true)))=eqP:=rfl
 obtain ⟨u,u1,u2⟩:=jg (body:=λk x s=>jq l (i:Int) (l.map (mR l)) t m a.Id k x s) (λk s=>s=((nR l a t (ps.take k):Int),(gR l a r t (ps.take k):Int))) (xs:=ps) (s:=((0:Int),(0:Int))) (by omega) (λk p s hx hs=>by
  have et:ps.take (k+1)=ps.take k++[p]:=by rw [List.take_add_one,hx];rfl
  have h1:=MC l a t (ps.take k)
  have h2:=Lr l a r t (ps.take k)
  have h3:=take_len ps k
  obtain ⟨m1,m2⟩:=hm p.Player a.Id
  unfold jq
  rw [hs,he,pW,ha,ob_,ER ha,ob_,F5 h hmem,ob_,m1,et,JL,JY]
  unfold gO
  generalize gV p.Player a.Id t r=g at m2
  cases shB l a p t with
  | false=>exact⟨_,rfl,by simp⟩
  | true =>
   simp only [Bool.not_true,cond_false,cond_true,Bool.true_and]
   cases hg:decide (g<0)with
   | true =>
    have:decide (g>=0)=false:=by have:=of_decide_eq_true hg;exact decide_eq_false (by omega)
    rw [this]
    simp only [cond_true,cond_false,Option.isSome_none,ob_]
    rw [cO (by omega)]
    exact⟨_,rfl,by simp⟩
   | false =>
    have:decide (g>=0)=true:=by have:=of_decide_eq_false hg;exact decide_eq_true (by omega)
    rw [this]
    simp only [cond_true,cond_false,Option.isSome_some,ob_]
    rw [cO (by omega),cO (by omega)]
    exact⟨_,rfl,by simp⟩) rfl
 rw [u1,u2,List.take_length]
theorem KM {l:List Alert} (hga:GAs l) (h:CA l) {ps:List Post} (hp:ps.length<=3) {r:List Receipt} (hr:r.length<=1000) {t:Int} {i:Nat} {a:Alert} (ha:l[i]? = some a) :
  forL l ((0:Int),(0:Int)) (λk x s=>iT ps a.Id l t r k x s)=some (.go ((gR l a r t ps:Int),(nR l a t ps:Int))):=by
 have hmem:=List.mem_of_getElem? ha
 have hl:=h.len
 obtain ⟨u,u1,u2⟩:=jg (body:=λk x s=>iT ps a.Id l t r k x s) (λk s=>s=if i<k then ((gR l a r t ps:Int),(nR l a t ps:Int))else ((0:Int),(0:Int))) (xs:=l) (s:=((0:Int),(0:Int))) (by omega) (λk x s hx hs=>by
  have hxm:=List.mem_of_getElem? hx
  by_cases hki:k=i
  ·subst hki
   rw [ha]at hx
   obtain rfl:=Option.some.inj hx
   rw [if_neg (Nat.lt_irrefl _)]at hs
   obtain ⟨v,v1,v2⟩:=jg (body:=λk x s=>iH a a.Id l t r k x s) (λj s=>s=((gR l a r t (ps.take j):Int),(nR l a t (ps.take j):Int))) (xs:=ps) (s:=((0:Int),(0:Int))) (by omega) (λj p s hx hs=>by
    have et:ps.take (j+1)=ps.take j++[p]:=by rw [List.take_add_one,hx];rfl
    have h1:=MC l a t (ps.take j)
    have h2:=Lr l a r t (ps.take j)
    have h3:=take_len ps j
    unfold iH
    rw [hs,oI,decide_eq_true rfl,cond_true,H6 hga h hmem,ob_,ob_,J2 r (by omega),et,JL,JY]
    cases shB l a p t with
    | false=>exact⟨_,rfl,by simp⟩
    | true =>
     simp only [cond_true,Bool.true_and,ob_]
     cases decide (gV p.Player a.Id t r>=0)with
     | false =>
      simp only [cond_false,ob_]
      rw [cO (by omega)]
      exact⟨_,rfl,by simp⟩
     | true =>
      simp only [cond_true,ob_]
      rw [cO (by omega),cO (by omega)]
      exact⟨_,rfl,by simp⟩) rfl
   rw [List.take_length]at v2
   unfold iT
   rw [hs,v1]
   exact⟨_,rfl,by rw [if_pos (ls_ _),v2]⟩
  ·have hne:¬x.Id=a.Id:=λe=>hki (Cs h.ids hx ha e)
   obtain ⟨v,v1,v2⟩:=jg (body:=λk x' s'=>iH x a.Id l t r k x' s') (λj s'=>s'=(s.1,s.2)) (xs:=ps) (s:=(s.1,s.2)) (by omega) (λj p s' hx hs'=>by
    unfold iH
    rw [oI,decide_eq_false hne]
    exact⟨_,rfl,by simp only [];exact hs'⟩) rfl
   unfold iT
   rw [v1]
   refine⟨_,rfl,?_⟩
   rw [v2,hs]
   by_cases h1:i<k
   ·rw [if_pos h1,if_pos (by omega)]
   ·rw [if_neg h1,if_neg (by omega)]) (by rw [if_neg (Nat.not_lt_zero _)])
 have hi:i<l.length:=(List.getElem?_eq_some_iff.1 ha).1
 rw [u1,u2,if_pos hi]
def saw (r:List Receipt) (t:Int) (p id:ByteArray):Bool:=r.any λx=>decide (x.Player=p)&&(decide (x.Alert=id)&&(x.Seen&&decide (x.At<=t)))
theorem saw_doc (r:List Receipt) (hr:r.length<=1000) (p:Post) (a:Alert) (t:Int):bO r (λx0=>jE x0 p a t)=some (saw r t p.Player a.Id):=by
 unfold bO dI saw
 rw [fD (by omega)]
 rcases uD (f:=λx0=>jE x0 p a t) (p:=λx=>decide (x.Player=p.Player)&&(decide (x.Alert=a.Id)&&(x.Seen&&decide (x.At<=t)))) (B:=λk x s=>dw (λx0=>jE x0 p a t) k x s) (λk x=>rfl) r 0 (λx _=>by
  unfold jE
  rw [oI,oI]
  cases decide (x.Player=p.Player) <;> cases decide (x.Alert=a.Id) <;> cases x.Seen <;> rfl)with⟨h1,h2⟩ | ⟨j,x,h1,h2,_,h4,h5⟩
 ·rw [h2,h1];rfl
 ·rw [h4,h5]
  simp only [ob_,thenC]
  rw [decide_eq_true (by omega)]
theorem M4 (r:List Receipt) (t:Int) (p id:ByteArray) (x:Receipt):saw (r++[x]) t p id=(saw r t p id||(decide (x.Player=p)&&(decide (x.Alert=id)&&(x.Seen&&decide (x.At<=t))))):=by
 unfold saw
 rw [List.any_append];simp
theorem saw_map (r:List Receipt) (hr:r.length<=1000) (t:Int):∃m,forL r ([]:List (Pair×Bool)) (λk x s=>jO t k x s)=some (.go m)/\∀p id,(mGet eqP m ⟨p,id⟩).getD false=saw r t p id:=by
 have he:(λ(a b:Pair)=>(eqS a.f_player b.f_player&&(eqS a.f_alert b.f_alert&&true)))=eqP:=rfl
 obtain ⟨u,u1,u2⟩:=jg (body:=λk x s=>jO t k x s) (λk s=>∀p id,(mGet eqP s ⟨p,id⟩).getD false=saw (r.take k) t p id) (xs:=r) (s:=([]:List (Pair×Bool))) (by omega) (λk x s hx hs=>by
  have et:r.take (k+1)=r.take k++[x]:=by rw [List.take_add_one,hx];rfl
  refine⟨bif x.Seen&&decide (x.At<=t)then sS eqP s ⟨x.Player,x.Alert⟩ true else s,?_,λp id => ?_⟩
  ·unfold jO
   rw [he]
   cases x.Seen <;> cases decide (x.At<=t) <;> rfl
  ·rw [et,M4,<- hs p id]
   cases (x.Seen&&decide (x.At<=t))with
   | false=>simp
   | true =>
    rw [cond_true,uI uN]
    by_cases hk:p=x.Player/\id=x.Alert
    ·obtain ⟨rfl,rfl⟩:=hk
     rw [if_pos ((uN _ _).2 rfl)]
     simp
    ·rw [if_neg (λq=>hk (by
      have:=(uN _ _).1 q
      cases this
      exact⟨rfl,rfl⟩))]
     have:(decide (x.Player=p)&&(decide (x.Alert=id)&&true))=false:=by
      by_cases h1:x.Player=p
      ·have h2:¬x.Alert=id:=λe=>hk ⟨h1.symm,e.symm⟩
       rw [decide_eq_false h2,Bool.false_and,Bool.and_false]
      ·rw [decide_eq_false h1,Bool.false_and]
     rw [this,Bool.or_false]) (λp id=>rfl)
 rw [List.take_length]at u2
 exact⟨u,u1,u2⟩
def Ba (a:Alert) (ps:List Post):Bool:=ps.any λp=>hasB a.Areas p.X p.Y
def Bg (r:List Receipt) (t:Int) (a:Alert) (ps:List Post):Bool:=ps.any λp=>hasB a.Areas p.X p.Y&&saw r t p.Player a.Id
def uB (l:List Alert) (ps:List Post) (r:List Receipt) (wait t:Int) (a:Alert):Bool:=onB l t a&&(decide (a.At+wait<=t)&&(Ba a ps && !Bg r t a ps))
theorem zh {α:Type} (f:α->Bool) (l:List α) (x:α):(l++[x]).any f=(l.any f||f x):=by rw [List.any_append];simp
theorem K6 {l:List Alert} (h:CA l) {ps:List Post} (hp:ps.length<=3) {r:List Receipt} {wait t:Int} (hw:0<=wait/\wait<=2592000000) {m:List (Pair×Bool)} (hm:∀p id,(mGet eqP m ⟨p,id⟩).getD false=saw r t p id) {k:Nat} {a:Alert} (ha:l[k]? = some a) (s:List ByteArray) (hs:s.length<=100) :
  jN (l.map (mR l)) t wait ps m k a s=some (.go (s++(bif uB l ps r wait t a then [a.Id]else []))):=by
 have hmem:=List.mem_of_getElem? ha
 have hat:=h.at_ a hmem
 have he:(λ(a b:Pair)=>(eqS a.f_player b.f_player&&(eqS a.f_alert b.f_alert&&true)))=eqP:=rfl
 have hl2:∃n c:Nat,forL ps ((0:Int),(0:Int)) (λk x s=>jP a m k x s)=some (.go ((n:Int),(c:Int)))/\decide (n>0)=Ba a ps/\decide (c>0)=Bg r t a ps:=by
  obtain ⟨u,u1,n,c,u2,_,_,u3,u4⟩:=jg (body:=λk x s=>jP a m k x s) (λk s=>∃n c:Nat,s=((n:Int),(c:Int))/\n<=k/\c<=k/\decide (n>0)=Ba a (ps.take k)/\decide (c>0)=Bg r t a (ps.take k)) (xs:=ps) (s:=((0:Int),(0:Int))) (by omega) (λk p s hx ⟨n,c,i1,i2,i3,i4,i5⟩=>by
   have hk:k<ps.length:=(List.getElem?_eq_some_iff.1 hx).1
   have et:ps.take (k+1)=ps.take k++[p]:=by rw [List.take_add_one,hx];rfl
   have eP:Ba a (ps.take (k+1))=(Ba a (ps.take k)||hasB a.Areas p.X p.Y):=by unfold Ba;rw [et,zh]
   have eS:Bg r t a (ps.take (k+1))=(Bg r t a (ps.take k)||(hasB a.Areas p.X p.Y&&saw r t p.Player a.Id)):=by unfold Bg;rw [et,zh]
   unfold jP
   rw [i1,he,yM (h.areas a hmem) (h.alen a hmem),ob_,hm,eP,eS,<- i4,<- i5]
   cases hasB a.Areas p.X p.Y with
   | false=>exact⟨_,rfl,n,c,rfl,by omega,by omega,by simp,by simp⟩
   | true =>
    simp only [cond_true,Bool.or_true,Bool.true_and]
    cases saw r t p.Player a.Id with
    | false =>
     refine⟨((n:Int)+1,(c:Int)),?_,n+1,c,by simp,by omega,by omega,by simp,by simp⟩
     have hf:gM false=some 0:=rfl
     rw [hf,ob_,cO (by omega),cO (by omega),ob_]
     simp
    | true =>
     refine⟨((n:Int)+1,(c:Int)+1),?_,n+1,c+1,by simp,by omega,by omega,by simp,by simp⟩
     have hf:gM true=some 1:=rfl
     rw [hf,ob_,cO (by omega),cO (by omega),ob_]) ⟨0,0,rfl,Nat.le_refl _,Nat.le_refl _,rfl,rfl⟩
  rw [List.take_length]at u3 u4
  exact⟨n,c,by rw [u1,u2],u3,u4⟩
 obtain ⟨n,c,n1,n2,n3⟩:=hl2
 unfold jN uB
 rw [ER ha,ob_,isOn_eq,ob_,cO (n:=a.At+wait) (by omega),<- n2,<- n3]
 have d1:decide (a.At+wait>t) = !decide (a.At+wait<=t):=by rw [Bool.eq_iff_iff];simp
 rw [d1]
 cases onB l t a with
 | false=>simp
 | true =>
  cases decide (a.At+wait<=t)with
  | false=>simp
  | true =>
   simp only [Bool.not_true,cond_false,ob_,n1,thenC,Bool.true_and]
   have e1:decide ((n:Int)>0)=decide (n>0):=by rw [decide_eq_decide];omega
   have e2:((c:Int)==0) = !decide (c>0):=by rw [Bool.eq_iff_iff];simp
   rw [e1,e2]
   cases decide (n>0)with
   | false=>simp
   | true =>
    simp only [cond_true,ob_,Bool.true_and]
    cases decide (c>0)with
    | true=>simp
    | false =>
     simp only [Bool.not_false,cond_true]
     rw [kW _ _ (by simp only [List.length_cons,List.length_nil];omega)];rfl
theorem Nf {l:List Alert} (hga:GAs l) (h:CA l) {ps:List Post} (hp:ps.length<=3) {r:List Receipt} (hr:r.length<=1000) {wait t:Int} (ht:0<=t/\t<=345686399999) {k:Nat} {a:Alert} (ha:a∈l) (s:List ByteArray) (hs:s.length<=100) :
  jQ ps r t l wait k a s=some (.go (s++(bif uB l ps r wait t a then [a.Id]else []))):=by
 have hat:=h.at_ a ha
 obtain ⟨u,u1,u2⟩:=jg (body:=λk x s=>lc a r t k x s) (λk s=>s=(Ba a (ps.take k),Bg r t a (ps.take k))) (xs:=ps) (s:=(false,false)) (by omega) (λk p s hx hs=>by
  have et:ps.take (k+1)=ps.take k++[p]:=by rw [List.take_add_one,hx];rfl
  have eP:Ba a (ps.take (k+1))=(Ba a (ps.take k)||hasB a.Areas p.X p.Y):=by unfold Ba;rw [et,zh]
  have eS:Bg r t a (ps.take (k+1))=(Bg r t a (ps.take k)||(hasB a.Areas p.X p.Y&&saw r t p.Player a.Id)):=by unfold Bg;rw [et,zh]
  unfold lc
  rw [hs,yV (h.areas a ha) (h.alen a ha),ob_,saw_doc r hr,eP,eS]
  cases hasB a.Areas p.X p.Y <;> cases Ba a (ps.take k) <;> cases Bg r t a (ps.take k) <;> exact⟨_,rfl,rfl⟩) rfl
 rw [List.take_length]at u2
 unfold jQ uB
 rw [u1,u2]
 simp only [ob_,thenC]
 rw [KI hga h.ids ha,cO (n:=t-a.At) (by omega)]
 have d1:decide (t-a.At>=wait)=decide (a.At+wait<=t):=by rw [decide_eq_decide];omega
 rw [d1]
 cases onB l t a <;> cases decide (a.At+wait<=t) <;> cases Ba a ps <;> cases Bg r t a ps <;>
  simp only [cond_true,cond_false,ob_,Bool.true_and,Bool.false_and,Bool.and_false,Bool.and_true,Bool.not_true,Bool.not_false,List.append_nil] <;>
  (rw [kW _ _ (by simp only [List.length_cons,List.length_nil];omega)];rfl)
def uL (l:List Alert) (ps:List Post) (r:List Receipt) (wait t:Int) (m:List Alert):List ByteArray:=m.flatMap λa=>bif uB l ps r wait t a then [a.Id]else []
theorem AP {l:List Alert} (hl:l.length<=12) {ps:List Post} {r:List Receipt} {wait t:Int} {B:Nat->Alert->List ByteArray->Option (Ctl (List ByteArray) Unit)} (hB:∀(k:Nat) a s,l[k]? = some a->s.length<=100->B k a s=some (.go (s++(bif uB l ps r wait t a then [a.Id]else [])))):forL l ([]:List ByteArray) (λk a s=>B k a s)=some (.go (uL l ps r wait t l))/\(uL l ps r wait t l).length<=100:=by
 have hlen:∀m:List Alert,(uL l ps r wait t m).length<=m.length:=λm=>by
  have:=uE (λa=>(bif uB l ps r wait t a then [a.Id]else []:List ByteArray)) 1 (λa=>by cases uB l ps r wait t a <;> simp) m
  unfold uL
  omega
 obtain ⟨u,u1,u2⟩:=jg (body:=λk a s=>B k a s) (λk s=>s=uL l ps r wait t (l.take k)) (xs:=l) (s:=([]:List ByteArray)) (by omega) (λk a s ha hs=>by
  have et:l.take (k+1)=l.take k++[a]:=by rw [List.take_add_one,ha];rfl
  have h1:=hlen (l.take k)
  have h2:=take_len l k
  rw [hB k a s ha (by rw [hs];omega)]
  exact⟨_,rfl,by rw [et,hs];unfold uL;rw [zH]⟩) rfl
 have:=hlen l
 rw [u1,u2,List.take_length]
 exact⟨rfl,by omega⟩
theorem Hw (s:Stream) {b:Int} (hs:Ok s b) (hb:b<=100000):∃l s',kr s 5=some (l,s')/\GAs l/\Ok s' (b+400):=by
 obtain ⟨l,s1,a1,a2,a3⟩:=Gb 5 (by decide) s hs (by omega)
 have hl:l.length<=6:=Nat.le_trans a2.len (by decide)
 have hg:∀x∈l,GA x:=λx hx=>(a2.right x hx).ga
 unfold kr
 rw [a1,ob_]
 simp only []
 by_cases h0:(l.length:Int)>0
 ·obtain ⟨f,s2,b1,b2⟩:=pY s1 10 a3 (by omega) (by decide) (by decide)
  rw [decide_eq_true h0,cond_true,b1,ob_,ob_]
  simp only []
  cases f with
  | false=>exact⟨l,s2,rfl,⟨hg,hl⟩,b2.mono (by omega)⟩
  | true =>
   rw [cond_true]
   obtain ⟨i,s3,c1,c2,c3,c4⟩:=pQ s2 (l.length:Int) b2 (by omega) (by omega) (by omega)
   have e0:(⟨s2.L,s2.f_at⟩:Stream)=s2:=rfl
   rw [e0,c1,ob_]
   simp only []
   rw [x8 (by omega) (by omega),ob_]
   obtain ⟨k,s4,d1,d2,d3,d4⟩:=pQ s3 6 c4 (by omega) (by decide) (by decide)
   rw [d1,ob_]
   simp only []
   have hi:0+i.toNat<l.length:=by omega
   have hx:l[0+i.toNat]? = some l[0+i.toNat]:=List.getElem?_eq_getElem hi
   have hgx:=hg _ (List.getElem_mem hi)
   generalize l[0+i.toNat]=x at hx hgx
   have two:∀(y z:Alert) (s:Stream) {c:Int},GA z->Ok s c->c<=b+400->∃l' s',some ((l.set (0+i.toNat) y).set (0+i.toNat) z,(⟨s.L,s.f_at⟩:Stream))=some (l',s')/\GAs l'/\Ok s' (b+400):=λy z s c hz hs hc=>by
    refine⟨_,_,rfl,?_,hs.mono hc⟩
    rw [List.set_set]
    exact⟨Bt hg hz,by rw [List.length_set];exact hl⟩
   have one:∀(z:Alert) (s:Stream) {c:Int},GA z->Ok s c->c<=b+400->∃l' s',some (l.set (0+i.toNat) z,(⟨s.L,s.f_at⟩:Stream))=some (l',s')/\GAs l'/\Ok s' (b+400):=λz s c hz hs hc =>
    ⟨_,_,rfl,⟨Bt hg hz,by rw [List.length_set];exact hl⟩,hs.mono hc⟩
   cases k0:k==0 with
   | true =>
    rw [cond_true,hx,ob_]
    obtain ⟨u,s5,e1,e2,e3⟩:=p8 s4 [x.Id,(⟨#[]⟩:ByteArray),(⟨#[97,97]⟩:ByteArray)] d4 (by omega) (by simp) (by simp)
    obtain ⟨v,s6,f1,f2,f3⟩:=p8 s5 [(⟨#[119,120]⟩:ByteArray),(⟨#[65]⟩:ByteArray)] e3 (by omega) (by simp) (by simp)
    rw [e1,ob_]
    simp only []
    rw [f1]
    simp only [ob_]
    rw [lS hi]
    simp only [ob_]
    refine two _ _ s6 ⟨?_,?_,hgx.refs,hgx.rlen,hgx.alen,hgx.at_,hgx.until_,hgx.text⟩ f3 (by omega)
    ·simp only [List.mem_cons,List.not_mem_nil,or_false]at e2
     rcases e2 with rfl|rfl|rfl
     ·exact hgx.id
     ·exact iy rfl
     ·exact iy rfl
    ·simp only [List.mem_cons,List.not_mem_nil,or_false]at f2
     rcases f2 with rfl|rfl <;> exact iy rfl
   | false =>
   rw [cond_false]
   cases k1:k==1 with
   | true =>
    obtain ⟨u,s5,e1,e2,e3⟩:=zB s4 1 3 d4 (by omega) (by decide) (by decide) (by decide)
    rw [cond_true,e1,hx]
    simp only [ob_]
    exact one _ s5 ⟨hgx.id,hgx.sender,hgx.refs,hgx.rlen,hgx.alen,hgx.at_,hgx.until_,hgx.text⟩ e3 (by omega)
   | false =>
   rw [cond_false]
   cases k2:k==2 with
   | true =>
    rw [cond_true,hx,ob_]
    obtain ⟨u,s5,e1,e2,e3,e4⟩:=pQ s4 5 d4 (by omega) (by decide) (by decide)
    rw [e1,ob_]
    simp only []
    obtain ⟨y,y1,y2⟩:=FL (l:=([([]:List ByteArray),([(⟨#[97,98]⟩:ByteArray),(⟨#[97,97]⟩:ByteArray)]:List ByteArray),([x.Id]:List ByteArray),([(⟨#[65]⟩:ByteArray)]:List ByteArray),([(⟨#[97,97]⟩:ByteArray),(⟨#[122,122]⟩:ByteArray)]:List ByteArray)]:List (List ByteArray))) (r:=u) e2 (by simp;omega)
    rw [y1]
    simp only [ob_]
    have hy:(∀r∈y,ShA r)/\y.length<=5:=by
     simp only [List.mem_cons,List.not_mem_nil,or_false]at y2
     rcases y2 with rfl|rfl|rfl|rfl|rfl
     ·exact⟨λr hr=>(by cases hr),by simp⟩
     ·refine⟨λr hr => ?_,by simp⟩
      simp only [List.mem_cons,List.not_mem_nil,or_false]at hr
      rcases hr with rfl|rfl <;> exact iy rfl
     ·refine⟨λr hr => ?_,by simp⟩
      rw [List.mem_singleton.1 hr];exact hgx.id
     ·refine⟨λr hr => ?_,by simp⟩
      rw [List.mem_singleton.1 hr];exact iy rfl
     ·refine⟨λr hr => ?_,by simp⟩
      simp only [List.mem_cons,List.not_mem_nil,or_false]at hr
      rcases hr with rfl|rfl <;> exact iy rfl
    exact one _ s5 ⟨hgx.id,hgx.sender,hy.1,hy.2,hgx.alen,hgx.at_,hgx.until_,hgx.text⟩ e4 (by omega)
   | false =>
   rw [cond_false]
   cases k3:k==3 with
   | true =>
    obtain ⟨u,s5,e1,e2,e3⟩:=zB s4 0 30 d4 (by omega) (by decide) (by decide) (by decide)
    obtain ⟨v,s6,f1,f2,f3⟩:=zB s5 0 60 e3 (by omega) (by decide) (by decide) (by decide)
    rw [cond_true,e1,ob_]
    simp only []
    rw [f1,hx]
    simp only [ob_]
    rw [lS hi]
    simp only [ob_]
    exact two _ _ s6 ⟨hgx.id,hgx.sender,hgx.refs,hgx.rlen,hgx.alen,e2,f2,hgx.text⟩ f3 (by omega)
   | false =>
   rw [cond_false]
   cases k4:k==4 with
   | true =>
    obtain ⟨u,s5,e1,e2,e3⟩:=KW s4 d4 (by omega)
    obtain ⟨v,s6,f1,f2,f3⟩:=zB s5 1 9 e3 (by omega) (by decide) (by decide) (by decide)
    rw [cond_true,e1,ob_]
    simp only []
    rw [f1,hx]
    simp only [ob_]
    rw [lS hi]
    simp only [ob_]
    exact two _ _ s6 ⟨hgx.id,hgx.sender,hgx.refs,hgx.rlen,e2,hgx.at_,hgx.until_,hgx.text⟩ f3 (by omega)
   | false =>
    obtain ⟨u,s5,e1,e2,e3⟩:=p8 s4 [(⟨#[]⟩:ByteArray),(⟨#[32,120]⟩:ByteArray),(⟨#[97,32,32,98]⟩:ByteArray),(⟨#[10]⟩:ByteArray),(⟨#[255]⟩:ByteArray)] d4 (by omega) (by simp) (by simp)
    rw [cond_false,e1,hx]
    simp only [ob_]
    refine one _ s5 ⟨hgx.id,hgx.sender,hgx.refs,hgx.rlen,hgx.alen,hgx.at_,hgx.until_,?_⟩ e3 (by omega)
    simp only [List.mem_cons,List.not_mem_nil,or_false]at e2
    unfold txtL
    rcases e2 with rfl|rfl|rfl|rfl|rfl <;> simp
 ·rw [decide_eq_false h0,cond_false,ob_]
  exact⟨l,s1,rfl,⟨hg,hl⟩,a3.mono (by omega)⟩
def o6 (s_1:ByteArray):Option (Bool) :=
 (Cu 0 (λs=>jT s_1 s)).bind λo_10=>thenC o_10 (λs_7=>(bif (sNe s_1 (⟨#[]⟩:ByteArray))then some (decide ((s_1.size:Int)<=40))else some false).bind λv_30=>some v_30) (λr=>some r)
theorem vF (s_1:ByteArray):Le (o6 s_1) (kit_IsKey s_1):=by
 unfold o6 kit_IsKey
 repeat' (with_reducible first | exact Le.refl _ | refine Le.loop (λ_ => ?_) | refine Le.forL (λ_ _ _ => ?_) | refine Le.thenC (λ_ => ?_) (λ_ => ?_) | refine Le.cond ?_ ?_ | refine Le.bind ?_ (λ_ => ?_))
def mU (a_1:Alert) (k_4:Nat) (x_6:ByteArray) (s_9:Unit):Option (Ctl (Unit) (Int)) :=
 (o6 x_6).bind λr_14=>bif (!r_14)then some (.ret 5)else (bif (decide ((k_4:Int)>0))then (idx a_1.Refs (w64 ((k_4:Int)-1))).bind λy_20=>some (sLe x_6 y_20)else some false).bind λv_17=>bif v_17 then some (.ret 7)else bif (sEq x_6 a_1.Id)then some (.ret 14)else some (.go ())
theorem vW (a_1:Alert) (k_4:Nat) (x_6:ByteArray) (s_9:Unit):Le (mU a_1 k_4 x_6 s_9) (fK a_1 k_4 x_6 s_9):=by
 unfold mU fK
 repeat' (with_reducible first | exact Le.refl _ | exact vF _ | refine Le.loop (λ_ => ?_) | refine Le.forL (λ_ _ _ => ?_) | refine Le.thenC (λ_ => ?_) (λ_ => ?_) | refine Le.cond ?_ ?_ | refine Le.bind ?_ (λ_ => ?_))
def pJ (a_1:Alert):Option (Int) :=
 bif (decide ((a_1.Refs.length:Int)>20))then some 2 else (forL a_1.Refs () (λk x s=>mU a_1 k x s)).bind λo_12=>thenC o_12 (λs_9=>bif (!((a_1.Kind==1)==((a_1.Refs.length:Int)==0)))then some 3 else some 0) (λr=>some r)
theorem yx (a_1:Alert):Le (pJ a_1) (jf a_1):=by
 unfold pJ jf
 repeat' (with_reducible first | exact Le.refl _ | exact vW _ _ _ _ | refine Le.loop (λ_ => ?_) | refine Le.forL (λ_ _ _ => ?_) | refine Le.thenC (λ_ => ?_) (λ_ => ?_) | refine Le.cond ?_ ?_ | refine Le.bind ?_ (λ_ => ?_))
def oJ (a_1:Alert):Option (Int) :=
 ((o6 a_1.Id).bind λr_5=>bif (!r_5)then some true else (o6 a_1.Sender).bind λr_8=>some (!r_8)).bind λv_3=>bif v_3 then some 5 else (dB a_1.Kind 1 3).bind λr_11=>bif r_11 then some 4 else (pJ a_1).bind λr_14=>bif (r_14 != 0)then some r_14 else ((gY a_1.At).bind λr_19=>bif (!r_19)then some true else (dB a_1.Until (w64 (a_1.At+1)) (w64 (a_1.At+2592000000))).bind λr_22=>bif r_22 then some true else (dB a_1.Weight 1 9).bind λr_25=>some r_25).bind λv_17=>bif v_17 then some 1 else bif (decide ((a_1.Areas.length:Int)>20))then some 2 else (forL a_1.Areas () (λk x s=>fV k x s)).bind λo_37=>thenC o_37 (λs_34=>bif (!((a_1.Kind==3)==((a_1.Areas.length:Int)==0)))then some 3 else bif (decide ((a_1.Text.size:Int)>500))then some 2 else ((gJ a_1.Text).bind λr_47=>bif (!r_47)then some true else bif (sEq a_1.Text (⟨#[]⟩:ByteArray))then some (!(a_1.Kind==3))else some false).bind λv_45=>bif v_45 then some 3 else some 0) (λr=>some r)
theorem xN (a_1:Alert):Le (oJ a_1) (iL a_1):=by
 unfold oJ iL
 repeat' (with_reducible first | exact Le.refl _ | exact vF _ | exact yx _ | exact gD _ | exact Bd _ | refine Le.loop (λ_ => ?_) | refine Le.forL (λ_ _ _ => ?_) | refine Le.thenC (λ_ => ?_) (λ_ => ?_) | refine Le.cond ?_ ?_ | refine Le.bind ?_ (λ_ => ?_))
def lL (l_1:(List Alert)) (k_3:Nat) (x_5:Alert) (s_8:Unit):Option (Ctl (Unit) (Int)) :=
 (oJ x_5).bind λr_14=>bif (r_14 != 0)then some (.ret r_14)else (bif (decide ((k_3:Int)>0))then (idx l_1 (w64 ((k_3:Int)-1))).bind λy_20=>(jl y_20 x_5).bind λr_22=>some (decide (r_22>=0))else some false).bind λv_17=>bif v_17 then some (.ret 7)else some (.go ())
theorem tY (l_1:(List Alert)) (k_3:Nat) (x_5:Alert) (s_8:Unit):Le (lL l_1 k_3 x_5 s_8) (eQ l_1 k_3 x_5 s_8):=by
 unfold lL eQ
 repeat' (with_reducible first | exact Le.refl _ | exact xN _ | refine Le.loop (λ_ => ?_) | refine Le.forL (λ_ _ _ => ?_) | refine Le.thenC (λ_ => ?_) (λ_ => ?_) | refine Le.cond ?_ ?_ | refine Le.bind ?_ (λ_ => ?_))
def nO (l_1:(List Alert)):Option (Int) :=
 bif (decide ((l_1.length:Int)>300))then some 2 else (forL l_1 () (λk x s=>lL l_1 k x s)).bind λo_11=>thenC o_11 (λs_8=>(forL l_1 ([]:List (ByteArray×Bool)) (λk x s=>dE k x s)).bind λo_34=>thenC o_34 (λs_31=>some 0) (λr=>some r)) (λr=>some r)
theorem wo (l_1:(List Alert)):Le (nO l_1) (gX l_1):=by
 unfold nO gX
 repeat' (with_reducible first | exact Le.refl _ | exact tY _ _ _ _ | refine Le.loop (λ_ => ?_) | refine Le.forL (λ_ _ _ => ?_) | refine Le.thenC (λ_ => ?_) (λ_ => ?_) | refine Le.cond ?_ ?_ | refine Le.bind ?_ (λ_ => ?_))
def lX (l_1:(List Post)) (k_3:Nat) (x_5:Post) (s_8:Unit):Option (Ctl (Unit) (Int)) :=
 (o6 x_5.Player).bind λr_14=>bif (!r_14)then some (.ret 5)else ((dB x_5.X (-100000) 100000).bind λr_19=>bif r_19 then some true else (dB x_5.Y (-100000) 100000).bind λr_22=>some r_22).bind λv_17=>bif v_17 then some (.ret 1)else (bif (decide ((k_3:Int)>0))then (idx l_1 (w64 ((k_3:Int)-1))).bind λy_28=>some (sLe x_5.Player y_28.Player)else some false).bind λv_25=>bif v_25 then some (.ret 7)else some (.go ())
theorem vo (l_1:(List Post)) (k_3:Nat) (x_5:Post) (s_8:Unit):Le (lX l_1 k_3 x_5 s_8) (fw l_1 k_3 x_5 s_8):=by
 unfold lX fw
 repeat' (with_reducible first | exact Le.refl _ | exact vF _ | refine Le.loop (λ_ => ?_) | refine Le.forL (λ_ _ _ => ?_) | refine Le.thenC (λ_ => ?_) (λ_ => ?_) | refine Le.cond ?_ ?_ | refine Le.bind ?_ (λ_ => ?_))
def oz (l_1:(List Post)):Option (Int) :=
 bif (decide ((l_1.length:Int)>500))then some 2 else (forL l_1 () (λk x s=>lX l_1 k x s)).bind λo_11=>thenC o_11 (λs_8=>some 0) (λr=>some r)
theorem xD (l_1:(List Post)):Le (oz l_1) (iM l_1):=by
 unfold oz iM
 repeat' (with_reducible first | exact Le.refl _ | exact vo _ _ _ _ | refine Le.loop (λ_ => ?_) | refine Le.forL (λ_ _ _ => ?_) | refine Le.thenC (λ_ => ?_) (λ_ => ?_) | refine Le.cond ?_ ?_ | refine Le.bind ?_ (λ_ => ?_))
def pE (l_1:(List Alert)) (posts_2:(List Post)):Option (Int) :=
 (nO l_1).bind λr_3=>bif (r_3 != 0)then some r_3 else (oz posts_2).bind λr_6=>some r_6
theorem yG (l_1:(List Alert)) (posts_2:(List Post)):Le (pE l_1 posts_2) (ig l_1 posts_2):=by
 unfold pE ig
 repeat' (with_reducible first | exact Le.refl _ | exact wo _ | exact xD _ | refine Le.loop (λ_ => ?_) | refine Le.forL (λ_ _ _ => ?_) | refine Le.thenC (λ_ => ?_) (λ_ => ?_) | refine Le.cond ?_ ?_ | refine Le.bind ?_ (λ_ => ?_))
def rP (a_1:Alert) (p_2:Post):Option (Bool×Int) :=
 (pE ([a_1]:List Alert) ([p_2]:List Post)).bind λr_5=>bif (r_5 != 0)then some (false,r_5)else (jo a_1 p_2).bind λr_8=>some (r_8,0)
theorem zR (a_1:Alert) (p_2:Post):Le (rP a_1 p_2) (nk a_1 p_2):=by
 unfold rP nk
 repeat' (with_reducible first | exact Le.refl _ | exact yG _ _ | refine Le.loop (λ_ => ?_) | refine Le.forL (λ_ _ _ => ?_) | refine Le.thenC (λ_ => ?_) (λ_ => ?_) | refine Le.cond ?_ ?_ | refine Le.bind ?_ (λ_ => ?_))
def wQ  : Option (Bool) :=
 (rP (⟨(⟨#[97]⟩:ByteArray),(⟨#[115]⟩:ByteArray),1,([]:List ByteArray),0,5,1,([(⟨0,0,2,2⟩:Rect)]:List Rect),(⟨#[120]⟩:ByteArray)⟩:Alert) (⟨(⟨#[112]⟩:ByteArray),1,1⟩:Post)).bind λr_2=>(bif (r_2.2==0)then some r_2.1 else some false).bind λv_4=>some v_4
theorem Dz  : Le (wQ) (pG):=by
 unfold wQ pG
 repeat' (with_reducible first | exact Le.refl _ | exact zR _ _ | refine Le.loop (λ_ => ?_) | refine Le.forL (λ_ _ _ => ?_) | refine Le.thenC (λ_ => ?_) (λ_ => ?_) | refine Le.cond ?_ ?_ | refine Le.bind ?_ (λ_ => ?_))
theorem LX:wQ=some true:=by kernel_rfl
theorem Kh:pG=some true:=Dz _ LX
theorem IB (a b:Int):jI [a,b]=some (or0 a b):=by
 unfold jI or0
 rw [fD (by simp)]
 simp only [forR,qi]
 cases ha:a==0 with
 | false =>
  have:(a != 0)=true:=by simp [bne,ha]
  simp only [this,cond_true,cond_false,ob_,thenC]
 | true =>
  have:(a != 0)=false:=by simp [bne,ha]
  simp only [this,cond_true,cond_false,ob_]
  cases hb:b==0 with
  | false =>
   have:(b != 0)=true:=by simp [bne,hb]
   simp only [this,cond_true,ob_,thenC]
  | true =>
   have:(b != 0)=false:=by simp [bne,hb]
   simp only [this,cond_false,ob_,thenC]
   rw [eq_of_beq hb]
theorem I8 (a b c:Int):jI [a,b,c]=some (or0 a (or0 b c)):=by
 unfold jI or0
 rw [fD (by simp)]
 simp only [forR,qi]
 cases ha:a==0 with
 | false =>
  have:(a != 0)=true:=by simp [bne,ha]
  simp only [this,cond_true,cond_false,ob_,thenC]
 | true =>
  have:(a != 0)=false:=by simp [bne,ha]
  simp only [this,cond_true,cond_false,ob_]
  cases hb:b==0 with
  | false =>
   have:(b != 0)=true:=by simp [bne,hb]
   simp only [this,cond_true,cond_false,ob_,thenC]
  | true =>
   have:(b != 0)=false:=by simp [bne,hb]
   simp only [this,cond_true,cond_false,ob_]
   cases hc:c==0 with
   | false =>
    have:(c != 0)=true:=by simp [bne,hc]
    simp only [this,cond_true,cond_false,ob_,thenC]
   | true =>
    have:(c != 0)=false:=by simp [bne,hc]
    simp only [this,cond_true,cond_false,ob_,thenC]
    rw [eq_of_beq hc]
def moV (t:Int):Int:=bif og t then 0 else 1
theorem lmom (t:Int):fo t=some (moV t):=by
 have hm:jF t=some (og t):=by unfold jF og;rw [yL];rfl
 unfold fo moV iX
 rw [hm]
 cases og t <;> rfl
theorem kmom (t:Int):je t=some (moV t):=momF_eq t
theorem moV_0 {t:Int} (h:moV t=0):og t=true:=by
 unfold moV at h
 cases hm:og t with
 | true=>rfl
 | false=>rw [hm]at h;cases h
theorem both_eq {l:List Alert} (h:GAs l) {ps:List Post} (hp:GPs ps):ig l ps=some (or0 (alV l) (poV ps)):=by
 unfold ig or0
 rw [alV_K h,poV_K hp,ob_,ob_]
 by_cases h0:alV l=0
 ·rw [h0];rfl
 ·have e1:(alV l==0)=false:=by simpa using h0
  have e2:(alV l != 0)=true:=by simp [bne,e1]
  rw [e1,e2];rfl
theorem J3 (a b c:Int):or0 (or0 a b) c=or0 a (or0 b c):=by
 unfold or0
 by_cases h:a=0
 ·rw [h];rfl
 ·have e1:(a==0)=false:=by simpa using h
  simp only [e1,cond_false]
theorem eqStr (l:List ByteArray) (hl:l.length<=1000000):cz l l=some true:=by
 have key:∀(xs:List ByteArray) (k:Nat),l.drop k=xs->forR (λk x s=>bQ l k x s) xs k ()=some (.go ()):=by
  intro xs
  induction xs with
  | nil=>exact λ_ _=>rfl
  | cons x xs ih =>
   intro k h
   have hg:idx l (k:Int)=some x:=by rw [pW];exact wL h
   rw [forR]
   have:bQ l k x ()=some (.go ()):=by
    unfold bQ
    rw [hg];simp [sNe,sEq]
   rw [this,ob_]
   exact ih (k+1) (aQ h)
 unfold cz
 have:((l.length:Int) != (l.length:Int))=false:=by simp
 rw [this,cond_false,fD (by omega),key l 0 rfl];rfl
theorem Lg {l:List Alert} (h:GAs l) {ps:List Post} (hp:GPs ps) {r:List Receipt} (hr:GRs r):jB l ps r=some (or0 (alV l) (or0 (poV ps) (rcV r))):=by
 unfold jB
 rw [both_eq h hp,ob_,MN hr]
 rw [<- J3]
 generalize or0 (alV l) (poV ps)=q
 unfold or0
 by_cases h0:q=0
 ·rw [h0];rfl
 ·have e1:(q==0)=false:=by simpa using h0
  have e2:(q != 0)=true:=by simp [bne,e1]
  rw [e1,e2];rfl
def ivV (n:Int):Int:=bif decide (n<0)||decide (n>2592000000)then 1 else 0
theorem iv_out (n t:Int):((dB n 0 2592000000).bind λr_11=>bif r_11 then some true else (gY t).bind λr_14=>some (!r_14))=some (or0 (ivV n) (moV t) != 0):=by
 rw [nP,ob_,sU]
 unfold ivV moV jK or0
 cases decide (n<0) <;> cases decide (n>2592000000) <;> cases og t <;> rfl
theorem iv_1 (n t:Int) (h:or0 (ivV n) (moV t)≠0):or0 (ivV n) (moV t)=1:=by
 revert h
 unfold ivV moV or0
 cases decide (n<0) <;> cases decide (n>2592000000) <;> cases og t <;> intro h <;> first | rfl | exact (h rfl).elim
theorem iv_0 {n t:Int} (h:or0 (ivV n) (moV t)=0):(0<=n/\n<=2592000000)/\0<=t/\t<=345686399999:=by
 obtain ⟨h1,h2⟩:=sG.1 h
 have hm:=moV_0 h2
 unfold og at hm
 have hm2:jK t 0 345686399999=false:=by cases hq:jK t 0 345686399999 with | false=>rfl | true=>rw [hq]at hm;cases hm
 have:=wN hm2
 refine⟨?_,this⟩
 unfold ivV at h1
 by_cases q1:n<0
 ·rw [decide_eq_true q1]at h1;cases h1
 ·by_cases q2:n>2592000000
  ·rw [decide_eq_true q2,Bool.or_true]at h1;cases h1
  ·omega
theorem IW {a b:Int} (h:a≠0):or0 a b=a:=by
 unfold or0
 have:(a==0)=false:=by simpa using h
 rw [this];rfl
theorem JA (b:Int):or0 0 b=b:=rfl
theorem KX {a:Int} (h:a≠0):(a != 0)=true:=by simpa using h
theorem KH {a:Int} (h:a≠0):(a==0)=false:=by simpa using h
theorem eqRec (l:List Receipt) (hl:l.length<=1000000):dx l l=some true:=by
 have key:∀(xs:List Receipt) (k:Nat),l.drop k=xs->forR (λk x s=>bH l k x s) xs k ()=some (.go ()):=by
  intro xs
  induction xs with
  | nil=>exact λ_ _=>rfl
  | cons x xs ih =>
   intro k h
   have hg:idx l (k:Int)=some x:=by rw [pW];exact wL h
   rw [forR]
   have:bH l k x ()=some (.go ()):=by
    unfold bH
    rw [hg];simp
   rw [this,ob_]
   exact ih (k+1) (aQ h)
 unfold dx
 have:((l.length:Int) != (l.length:Int))=false:=by simp
 rw [this,cond_false,fD (by omega),key l 0 rfl];rfl
theorem eqDeb (l:List Debt) (hl:l.length<=1000000):d9 l l=some true:=by
 have key:∀(xs:List Debt) (k:Nat),l.drop k=xs->forR (λk x s=>bZ l k x s) xs k ()=some (.go ()):=by
  intro xs
  induction xs with
  | nil=>exact λ_ _=>rfl
  | cons x xs ih =>
   intro k h
   have hg:idx l (k:Int)=some x:=by rw [pW];exact wL h
   rw [forR]
   have:bZ l k x ()=some (.go ()):=by
    unfold bZ
    rw [hg];simp
   rw [this,ob_]
   exact ih (k+1) (aQ h)
 unfold d9
 have:((l.length:Int) != (l.length:Int))=false:=by simp
 rw [this,cond_false,fD (by omega),key l 0 rfl];rfl
theorem IA {l:List Alert} (h:GAs l) {ps:List Post} (hp:GPs ps) {r:List Receipt} (hr:GRs r) (inv t:Int) :
  ∃d e,d.length<=1000/\e.length<=1000/\qf l ps r inv t=some (d,or0 (or0 (alV l) (or0 (poV ps) (rcV r))) (or0 (ivV inv) (moV t)))/\ow l ps r inv t=some (e,or0 (or0 (alV l) (or0 (poV ps) (rcV r))) (or0 (ivV inv) (moV t))) /\
   (bif (or0 (or0 (alV l) (or0 (poV ps) (rcV r))) (or0 (ivV inv) (moV t))==0)then (nV l ps r inv t).bind λr_88=>(oN l ps r inv t).bind λr_90=>some (r_88,r_90)else some (([]:List Debt),([]:List ByteArray)))=some (d,e):=by
 have hpl:=hp.2
 have hrl:=hr.2
 have hal:=h.2
 unfold qf ow
 rw [Lg h hp hr]
 simp only [ob_]
 by_cases h0:or0 (alV l) (or0 (poV ps) (rcV r))=0
 ·rw [h0,JA,bne_self_eq_false,cond_false,cond_false,iv_out]
  simp only [ob_]
  by_cases h1:or0 (ivV inv) (moV t)=0
  ·obtain ⟨k1,k23⟩:=sG.1 h0
   obtain ⟨k2,k3⟩:=sG.1 k23
   have hca:=Mt h k1
   obtain ⟨hi,ht⟩:=iv_0 h1
   have hr0:=rcV_0 k3
   obtain ⟨d,m,d1,d2,d3,d4⟩:=Mj h hca (ps:=ps) (by omega) (r:=r) (by omega) (λx hx=>(hr0 x hx).1) (t:=t) hi
   obtain ⟨m',n1,n2⟩:=saw_map r (by omega) t
   have b1:=AP (l:=l) hca.len (ps:=ps) (r:=r) (wait:=inv) (t:=t) (B:=λk a s=>jN (l.map (mR l)) t inv ps m' k a s) (λk a s ha hs=>K6 hca hpl hi n2 ha s hs)
   have b2:=AP (l:=l) hca.len (ps:=ps) (r:=r) (wait:=inv) (t:=t) (B:=λk a s=>jQ ps r t l inv k a s) (λk a s ha hs=>Nf h hca hpl (by omega) ht (List.mem_of_getElem? ha) s hs)
   rw [h1,bne_self_eq_false,cond_false,cond_false,d2,ob_,JC hca,ob_,d4,n1]
   simp only [ob_,thenC]
   rw [b1.1]
   simp only [ob_,thenC]
   have hb2:=b2.2
   refine⟨d,uL l ps r inv t l,d1,by omega,rfl,rfl,?_⟩
   rw [d3]
   unfold oN
   rw [b2.1];rfl
  ·rw [KX h1,cond_true,cond_true,iv_1 _ _ h1]
   exact⟨[],[],by simp,by simp,rfl,rfl,rfl⟩
 ·rw [KX h0,cond_true,cond_true,IW h0,KH h0]
  exact⟨[],[],by simp,by simp,rfl,rfl,rfl⟩
theorem LA (l:List Alert) (hl:l.length<=1000) (id:ByteArray):(jS l id=some false/\aP l (λx0=>ik x0 id)=some (-1))\/∃(i:Nat) (a:Alert),l[i]? = some a/\a.Id=id/\jS l id=some true/\aP l (λx0=>ik x0 id)=some (i:Int):=by
 unfold jS bI
 have e:aP l (λx0=>oM x0 id)=aP l (λx0=>ik x0 id):=rfl
 rw [e]
 unfold aP
 rw [fD (by omega)]
 rcases uD (f:=λx0=>ik x0 id) (p:=λx=>sEq x.Id id) (B:=λk x s=>bJ (λx0=>ik x0 id) k x s) (λk x=>rfl) l 0 (λx _=>rfl)with⟨h1,h2⟩|⟨j,x,h1,h2,_,h4,_⟩
 ·rw [h2];exact .inl ⟨rfl,rfl⟩
 ·rw [h4]
  refine .inr ⟨j,x,h1,(yQ _ _).1 h2,?_,?_⟩
  ·simp only [ob_,thenC]
   rw [decide_eq_true (by omega)]
  ·simp only [ob_,thenC,Nat.zero_add]
theorem Fh {l:List Alert} (h:GAs l) {ps:List Post} (hp:GPs ps) {r:List Receipt} (hr:GRs r) (id:ByteArray) (t:Int) :
  ∃(f:Fraction) (e:Int),ni l ps r id t=some (f,e) /\
   ((bif (or0 (alV l) (or0 (poV ps) (rcV r))==0)then (jS l id).bind λr_62=>(iX (!r_62) 8).bind λr_64=>(fo t).bind λr_66=>(jI ([r_64,r_66]:List Int)).bind λr_68=>some r_68 else some (or0 (alV l) (or0 (poV ps) (rcV r)))).bind λv_59 =>
    (bif (v_59==0)then (lC l ps r id t).bind λr_96=>(iX (!r_96.2) 8).bind λr_99=>some (r_99,r_96.1.Num,r_96.1.Den)else some (v_59,(0:Int),(0:Int))))=some (e,f.Num,f.Den):=by
 have hpl:=hp.2
 have hrl:=hr.2
 have hal:=h.2
 unfold ni
 rw [Lg h hp hr,ob_]
 by_cases h0:or0 (alV l) (or0 (poV ps) (rcV r))=0
 ·obtain ⟨k1,k23⟩:=sG.1 h0
  obtain ⟨k2,k3⟩:=sG.1 k23
  have hca:=Mt h k1
  have hr0:=rcV_0 k3
  rw [h0,bne_self_eq_false,cond_false,beq_self_eq_true,cond_true]
  rcases LA l (by omega) id with⟨q1,q2⟩|⟨i,a,q1,q2,q3,q4⟩
  ·rw [q1,q2]
   simp only [ob_]
   have hwh:iX (!false) 8=some 8:=rfl
   rw [hwh,lmom]
   simp only [ob_]
   rw [IB]
   exact⟨⟨0,0⟩,8,rfl,rfl⟩
  ·subst q2
   rw [q3,q4]
   simp only [ob_]
   have hwh:iX (!true) 8=some 0:=rfl
   rw [hwh,lmom,kmom,decide_eq_false (by omega),cond_false]
   simp only [ob_]
   rw [IB,JA]
   simp only [ob_]
   by_cases h1:moV t=0
   ·rw [h1,bne_self_eq_false,cond_false,beq_self_eq_true,cond_true]
    obtain ⟨m,m1,m2⟩:=DV r (by omega) (λx hx=>(hr0 x hx).1) t
    rw [m1,ob_,JC hca,ob_,KQ hca hpl m2 q1]
    unfold lC
    rw [KM h hca hpl (by omega) q1]
    simp only [ob_,thenC]
    have b1:=MC l a t ps
    have b2:=Lr l a r t ps
    by_cases hz:nR l a t ps=0
    ·have:(((nR l a t ps:Nat):Int)==0)=true:=by rw [hz];rfl
     rw [this]
     exact⟨⟨0,0⟩,8,rfl,rfl⟩
    ·have:(((nR l a t ps:Nat):Int)==0)=false:=by simpa using hz
     rw [this]
     simp only [cond_false]
     obtain ⟨f,f1,f2⟩:=low_eq (n:=gR l a r t ps) (d:=nR l a t ps) (by omega) b2
     rw [f1,f2]
     exact⟨f,0,rfl,rfl⟩
   ·rw [KX h1,cond_true,KH h1,cond_false]
    exact⟨⟨0,0⟩,moV t,rfl,rfl⟩
 ·rw [KX h0,cond_true,KH h0,cond_false,ob_,KH h0,cond_false]
  exact⟨⟨0,0⟩,_,rfl,rfl⟩
theorem Jm (b:Bool) (e:Int):iX b e=some (bif b then e else 0):=by cases b <;> rfl
theorem alertsOwed (l:List Int):oD l=some true:=by
 have h0:Ok (⟨l,0⟩:Stream) 0:=⟨Int.le_refl _,Int.le_refl _⟩
 obtain ⟨a,s1,a1,a2,a3⟩:=Hw _ h0 (by decide)
 obtain ⟨p,s2,b1,b2,b3⟩:=J5 s1 a3 (by decide)
 obtain ⟨r,s3,c1,c2,c3⟩:=zb s2 b3 (by decide)
 obtain ⟨q,s4,d1,d2,d3⟩:=zb s3 c3 (by decide)
 obtain ⟨inv,s5,e1,e2,e3⟩:=qV s4 [0,5,10,30,(-1),2592000001] d3 (by decide) (by simp) (by simp)
 obtain ⟨t,s6,f1,f2,f3⟩:=qV s5 [0,5,10,20,30,60,(-1)] e3 (by decide) (by simp) (by simp)
 obtain ⟨id,s7,g1,g2,g3⟩:=p8 s6 [(⟨#[97,97]⟩:ByteArray),(⟨#[97,98]⟩:ByteArray),(⟨#[97,99]⟩:ByteArray),(⟨#[122,122]⟩:ByteArray)] f3 (by decide) (by simp) (by simp)
 obtain ⟨kn,k1,k2,k3⟩:=MU c2 d2
 obtain ⟨d,e,m1,m2,m3,m4,m5⟩:=IA a2 b2 c2 inv t
 obtain ⟨f,er,n1,n2⟩:=Fh a2 b2 c2 id t
 have hv:(bif (decide (inv<0))then (iX true 1).bind λr_47=>(fo t).bind λr_49=>(jI ([or0 (alV a) (or0 (poV p) (rcV r)),r_47,r_49]:List Int)).bind λr_51=>some r_51 else (iX (decide (inv>2592000000)) 1).bind λr_53=>(fo t).bind λr_55=>(jI ([or0 (alV a) (or0 (poV p) (rcV r)),r_53,r_55]:List Int)).bind λr_57=>some r_57)=some (or0 (or0 (alV a) (or0 (poV p) (rcV r))) (or0 (ivV inv) (moV t))):=by
  rw [lmom,Jm,Jm]
  simp only [ob_]
  rw [I8,I8]
  unfold ivV
  cases decide (inv<0) <;> cases decide (inv>2592000000) <;> rfl
 have hkn:∃w,w.length<=100/\nU r q=some (w,or0 (rcV r) (rcV q))/\(bif (or0 (rcV r) (rcV q)==0)then (kC r q).bind λr_79=>some (r_79.2,r_79.1)else some (or0 (rcV r) (rcV q),([]:List Receipt)))=some (or0 (rcV r) (rcV q),w):=by
  by_cases z1:rcV r=0
  ·by_cases z2:rcV q=0
   ·refine⟨kn,k1,?_,?_⟩
    ·rw [k3,z1,z2];rfl
    ·rw [z1,z2,k2];rfl
   ·refine⟨[],by simp,?_,?_⟩
    ·rw [k3,z1,JA,KX z2];rfl
    ·rw [z1,JA,KH z2];rfl
  ·refine⟨[],by simp,?_,?_⟩
   ·rw [k3,KX z1,IW z1];rfl
   ·rw [IW z1,KH z1];rfl
 obtain ⟨w,w1,w2,w3⟩:=hkn
 have n2':=n2
 obtain ⟨v59,x1,x2⟩:∃v,(bif (or0 (alV a) (or0 (poV p) (rcV r))==0)then (jS a id).bind λr_62=>(iX (!r_62) 8).bind λr_64=>(fo t).bind λr_66=>(jI ([r_64,r_66]:List Int)).bind λr_68=>some r_68 else some (or0 (alV a) (or0 (poV p) (rcV r))))=some v/\(bif (v==0)then (lC a p r id t).bind λr_96=>(iX (!r_96.2) 8).bind λr_99=>some (r_99,r_96.1.Num,r_96.1.Den)else some (v,(0:Int),(0:Int)))=some (er,f.Num,f.Den):=by
  obtain ⟨v,y1,y2⟩:=bind_some n2'
  exact⟨v,y1,y2⟩
 unfold oD
 rw [a1,ob_]
 simp only []
 rw [b1,ob_]
 simp only []
 rw [c1,ob_]
 simp only []
 rw [d1,ob_]
 simp only []
 rw [e1,ob_]
 simp only []
 rw [f1,ob_]
 simp only []
 rw [g1,ob_]
 simp only []
 rw [w2,ob_,m3,ob_,n1,ob_,m4,ob_,rcV_R c2,ob_,MN c2,ob_,bne_self_eq_false,cond_false,alV_R a2,ob_,poV_R b2,ob_,I8,ob_,hv,ob_,x1,ob_,rcV_R d2,ob_,IB,ob_]
 rw [w3,ob_]
 rw [m5,ob_,x2,ob_]
 simp only [beq_self_eq_true,cond_true]
 rw [eqRec _ (by omega)]
 simp only [ob_,cond_true]
 rw [eqDeb _ (by omega)]
 simp only [ob_,cond_true,Bool.and_self]
 rw [eqStr _ (by omega)]
 simp only [ob_,cond_true,Kh]
end Go.Proofs.YtjhcehhmdmbleaaGreatDoor.Law

