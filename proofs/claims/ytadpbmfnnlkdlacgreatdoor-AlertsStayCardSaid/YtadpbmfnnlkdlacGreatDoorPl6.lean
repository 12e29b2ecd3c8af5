/-
  THE PLAIN LAW (part 6).
-/
import Derived.Test.YtadpbmfnnlkdlacGreatDoorPl5
import Derived.Test.YtadpbmfnnlkdlacGreatDoorEng5
open Go Go.Eng
namespace Go.Proofs.YtadpbmfnnlkdlacGreatDoor.Law
set_option linter.unusedVariables false
set_option linter.unusedSimpArgs false
set_option maxRecDepth 100000
def eqP (a b:Pair):Bool:=eqS a.f_player b.f_player&&(eqS a.f_alert b.f_alert&&true)
theorem FR (a b:Pair):eqP a b=true↔a=b:=by
 obtain ⟨B,a2⟩:=a
 obtain ⟨A,o⟩:=b
 unfold eqP
 rw [Bool.and_true,Bool.and_eq_true,w9,w9]
 constructor
 ·rintro ⟨h,k⟩
  simp only at h k
  rw [h,k]
 ·intro h
  cases h
  exact⟨rfl,rfl⟩
structure Just (l:List Alert) (ps:List Post) (inv t:Int) (m:List (Pair×Int)) (d:Debt):Prop where
 of:∃a∈l,∃p∈ps,d.Alert=a.Id/\d.Player=p.Player/\d.Due=a.At+inv/\hasB a.Areas p.X p.Y=true/\(mGet eqP m ⟨p.Player,a.Id⟩=some 0->a.At+inv<0)
 due:d.Due<t
 late:d.Got<0\/d.Due<d.Got
def cmpD (a b:Debt):Int:=or0 (zt a.Player b.Player) (zt a.Alert b.Alert)
theorem Gz {a b:Debt}:cmpD a b<0↔lt a.Player b.Player\/a.Player=b.Player/\lt a.Alert b.Alert:=by
 unfold cmpD
 rw [yn,xC,vv,xC]
theorem sortD (s:List Debt) (hl:s.length<=1000):∃r,fT s=some r/\r.Perm s:=by
 unfold fT
 obtain ⟨r,N,O,_⟩:=Gy (F:=λa b=>nI a b) cmpD (xs:=s) (by omega) (λa _ b _=>by
   unfold nI cmpD
   rw [sH,sH]
   simp only [ob_]
   rw [Lb];rfl)
  (λa _ h=>by
   rcases Gz.1 h with q|⟨_,q⟩
   ·exact gG _ q
   ·exact gG _ q)
  (λa _ b _ c _ h k=>by
   rw [Gz]at *
   rcases h with h|⟨h,h2⟩ <;> rcases k with k|⟨k,I⟩
   ·exact .inl (lt_trans h k)
   ·rw [<- k];exact .inl h
   ·rw [h];exact .inl k
   ·exact .inr ⟨h.trans k,lt_trans h2 I⟩)
  (λa _ b _ c _ h k q=>by
   rw [Gz]at *
   simp only [not_or,not_and]at h k
   obtain ⟨h1,h2⟩:=h
   obtain ⟨J,I⟩:=k
   rcases vT a.Player b.Player with o|o|o
   ·exact h1 o
   ·rcases vT b.Player c.Player with A|A|A
    ·exact J A
    ·have M:=h2 o
     have L:=I A
     rcases q with q|⟨_,q⟩
     ·rw [o,A]at q;exact gG _ q
     ·rcases vT a.Alert b.Alert with B|B|B
      ·exact M B
      ·rw [B]at q;exact L q
      ·exact L (lt_trans B q)
    ·rw [o]at q
     rcases q with q|⟨q,_⟩
     ·exact gG _ (lt_trans q A)
     ·rw [q]at A;exact gG _ A
   ·rcases q with q|⟨q,_⟩
    ·exact J (lt_trans o q)
    ·rw [q]at o;exact J o)
 exact⟨r,N,O⟩
def aL:List ByteArray:=[⟨#[97,97]⟩,⟨#[97,98]⟩,⟨#[97,99]⟩,⟨#[97,100]⟩,⟨#[97,101]⟩]
theorem aL_take:aL=idL.take 5:=rfl
theorem aL_rise:aL.Pairwise lt:=by rw [aL_take];exact MU.sublist (List.take_sublist _ _)
structure RcJ (ps:List Post) (k j:Nat) (x:Post) (s:List Receipt):Prop where
 rise:s.Pairwise befRc
 of:∀r∈s,(∃p∈ps.take k,r.Player=p.Player/\r.Alert∈aL)\/r.Player=x.Player/\r.Alert∈aL.take j
 at_:∀r∈s,0<=r.At/\r.At<=60
 len:s.length<=5*k+j
theorem RcJ.add {ps:List Post} (O:RPosts ps) {k j:Nat} {x:Post} (N:ps[k]? = some x) {s:List Receipt} (h:RcJ ps k j x s) {y:ByteArray} (M:aL[j]? = some y) {v:Int} (X:0<=v/\v<=60):RcJ ps k (j+1) x (s++[⟨x.Player,y,v,false⟩]):=by
 have et:aL.take (j+1)=aL.take j++[y]:=by rw [List.take_add_one,M];rfl
 refine⟨List.pairwise_append.2 ⟨h.rise,List.pairwise_singleton _ _,λr o q W => ?_⟩,λr o => ?_,λr o => ?_,by have:=h.len;simp;omega⟩
 ·rw [List.mem_singleton.1 W]
  rcases h.of r o with⟨p,I,L,_⟩|⟨I,L⟩
  ·left
   rw [L]
   obtain ⟨i,hi⟩:=List.getElem?_of_mem I
   have A:i<k:=by
    obtain ⟨h1,_⟩:=List.getElem?_eq_some_iff.1 hi
    rw [List.length_take]at h1;omega
   rw [List.getElem?_take_of_lt A]at hi
   obtain ⟨h1,J⟩:=List.getElem?_eq_some_iff.1 hi
   obtain ⟨h2,F⟩:=List.getElem?_eq_some_iff.1 N
   have:=List.pairwise_iff_getElem.1 O.rise i k (by simpa using h1) (by simpa using h2) A
   rw [List.getElem_map,List.getElem_map,J,F]at this
   exact this
  ·right
   refine⟨I,?_⟩
   obtain ⟨i,hi⟩:=List.getElem?_of_mem L
   have B:i<j:=by
    obtain ⟨h1,_⟩:=List.getElem?_eq_some_iff.1 hi
    rw [List.length_take]at h1;omega
   rw [List.getElem?_take_of_lt B]at hi
   obtain ⟨h1,J⟩:=List.getElem?_eq_some_iff.1 hi
   obtain ⟨h2,F⟩:=List.getElem?_eq_some_iff.1 M
   have:=List.pairwise_iff_getElem.1 aL_rise i j h1 h2 B
   rw [J,F]at this
   exact this
 ·rcases List.mem_append.1 o with o|o
  ·rcases h.of r o with q|⟨R,Y⟩
   ·exact .inl q
   ·exact .inr ⟨R,by rw [et];exact List.mem_append_left _ Y⟩
  ·rw [List.mem_singleton.1 o]
   exact .inr ⟨rfl,by rw [et];exact List.mem_append_right _ (List.mem_singleton.2 rfl)⟩
 ·rcases List.mem_append.1 o with o|o
  ·exact h.at_ r o
  ·rw [List.mem_singleton.1 o];exact X
theorem RcJ.mono {ps:List Post} {k j:Nat} {x:Post} {y:ByteArray} (A:aL[j]? = some y) {s:List Receipt} (h:RcJ ps k j x s):RcJ ps k (j+1) x s:=by
 have et:aL.take (j+1)=aL.take j++[y]:=by rw [List.take_add_one,A];rfl
 refine⟨h.rise,λr o => ?_,h.at_,by have:=h.len;omega⟩
 rcases h.of r o with q|⟨B,F⟩
 ·exact .inl q
 ·exact .inr ⟨B,by rw [et];exact List.mem_append_left _ F⟩
theorem RcJ.next {ps:List Post} {k:Nat} {x z:Post} (B:ps[k]? = some x) {s:List Receipt} (h:RcJ ps k 5 x s):RcJ ps (k+1) 0 z s:=by
 have et:ps.take (k+1)=ps.take k++[x]:=by rw [List.take_add_one,B];rfl
 refine⟨h.rise,λr F => ?_,h.at_,by have:=h.len;omega⟩
 left
 rw [et]
 rcases h.of r F with⟨p,o,A⟩|⟨o,A⟩
 ·exact⟨p,List.mem_append_left _ o,A⟩
 ·exact⟨x,List.mem_append_right _ (List.mem_singleton.2 rfl),o,List.mem_of_mem_take A⟩
theorem RPosts.key {ps:List Post} (o:RPosts ps) {p:Post} (h:p∈ps):kit_IsKey p.Player=some true:=(o.right p h).key
end Go.Proofs.YtadpbmfnnlkdlacGreatDoor.Law

open Go Go.Eng
namespace Go.Proofs.YtadpbmfnnlkdlacGreatDoor.Law
set_option linter.unusedVariables false
set_option linter.unusedSimpArgs false
set_option maxRecDepth 100000
end Go.Proofs.YtadpbmfnnlkdlacGreatDoor.Law

open Go Go.Eng
namespace Go.Proofs.YtadpbmfnnlkdlacGreatDoor.Law
set_option linter.unusedVariables false
set_option linter.unusedSimpArgs false
set_option maxRecDepth 100000
def gS (p id:ByteArray) (t:Int) (x:Receipt) (g:Int):Int:=bif (decide (x.Player=p)&&(decide (x.Alert=id)&&(decide (x.At<=t)&&(decide (g<0)||decide (x.At<g)))))then x.At else g
def gV (p id:ByteArray) (t:Int) (l:List Receipt):Int:=l.foldl (λg x=>gS p id t x g) (-1)
theorem gV_snoc (p id:ByteArray) (t:Int) (l:List Receipt) (x:Receipt):gV p id t (l++[x])=gS p id t x (gV p id t l):=by
 unfold gV;rw [List.foldl_append];rfl
def gO (g:Int):Option Int:=bif decide (g<0)then none else some g
theorem QC (r:List Receipt) (W:r.length<=100000) (J:∀x∈r,0<=x.At) (t:Int):∃m,uf r t=some m/\∀p id,mGet eqP m ⟨p,id⟩=gO (gV p id t r)/\(gV p id t r = -1\/0<=gV p id t r):=by
 unfold uf
 obtain ⟨u,O,B⟩:=lc (body:=λk x s=>oL t k x s) (λk s=>∀p id,mGet eqP s ⟨p,id⟩=gO (gV p id t (r.take k))/\(gV p id t (r.take k) = -1\/0<=gV p id t (r.take k))) (xs:=r) (s:=([]:List (Pair×Int))) (by omega) (λk x s A hs=>by
  have et:r.take (k+1)=r.take k++[x]:=by rw [List.take_add_one,A];rfl
  have h:=J x (List.mem_of_getElem? A)
  have N:(λ(a b:Pair)=>(eqS a.f_player b.f_player&&(eqS a.f_alert b.f_alert&&true)))=eqP:=rfl
  obtain ⟨o,F⟩:=hs x.Player x.Alert
  generalize I:gV x.Player x.Alert t (r.take k)=g at o F
  refine⟨bif (decide (x.At<=t)&&(decide (g<0)||decide (x.At<g)))then zK eqP s ⟨x.Player,x.Alert⟩ x.At else s,?_,λp id => ?_⟩
  ·unfold oL
   rw [N,o]
   unfold gO
   cases decide (x.At<=t) <;> cases h2:decide (g<0) <;> cases h3:decide (x.At<g) <;> simp only [cond_true,cond_false,Option.isSome_some,Option.isSome_none,Option.getD_some,Bool.not_true,Bool.not_false,ob_,Bool.false_and,Bool.true_and,Bool.or_false,Bool.or_true,Bool.false_or,Bool.true_or,h3]
  ·rw [et,gV_snoc]
   by_cases hk:p=x.Player/\id=x.Alert
   ·obtain ⟨rfl,rfl⟩:=hk
    rw [I]
    unfold gS
    rw [decide_eq_true rfl,decide_eq_true rfl,Bool.true_and,Bool.true_and]
    cases hc:(decide (x.At<=t)&&(decide (g<0)||decide (x.At<g)))with
    | false =>
     simp only [cond_false]
     exact⟨o,F⟩
    | true =>
     simp only [cond_true]
     rw [AL FR,if_pos ((FR _ _).2 rfl)]
     exact⟨by unfold gO;rw [decide_eq_false (by omega)];rfl,.inr h⟩
   ·have R:gS p id t x (gV p id t (r.take k))=gV p id t (r.take k):=by
     unfold gS
     have:(decide (x.Player=p)&&(decide (x.Alert=id)&&(decide (x.At<=t)&&(decide (gV p id t (r.take k)<0)||decide (x.At<gV p id t (r.take k))))))=false:=by
      by_cases h1:x.Player=p
      ·have h2:¬x.Alert=id:=λe=>hk ⟨h1.symm,e.symm⟩
       rw [decide_eq_false h2,Bool.false_and,Bool.and_false]
      ·rw [decide_eq_false h1,Bool.false_and]
     rw [this];rfl
    rw [R]
    obtain ⟨L,M⟩:=hs p id
    refine⟨?_,M⟩
    rw [<- L]
    cases (decide (x.At<=t)&&(decide (g<0)||decide (x.At<g)))with
    | false=>rfl
    | true =>
     rw [cond_true,AL FR,if_neg (λq=>hk (by
      have:=(FR _ _).1 q
      cases this
      exact⟨rfl,rfl⟩))]) (λp id=>⟨rfl,.inl rfl⟩)
 rw [List.take_length]at B
 rw [O]
 exact⟨u,rfl,B⟩
def shB (l:List Alert) (a:Alert) (p:Post) (t:Int):Bool:=(decide (a.Kind≠3)&&(decide (a.At<=t)&&decide (a.At<sP l a)))&&hasB a.Areas p.X p.Y
theorem Rc {l:List Alert} (h:CA l) {a:Alert} (o:a∈l) (p:Post) (t:Int):ru a (sP l a) p t=some (shB l a p t):=by
 unfold ru shB
 have e:(a.Kind != 3)=decide (a.Kind≠3):=by rw [Bool.eq_iff_iff];simp
 rw [e,Dn (h.areas a o) (h.alen a o)]
 cases decide (a.Kind≠3) <;> cases decide (a.At<=t) <;> cases decide (a.At<sP l a) <;> rfl
def dC (l:List Alert) (r:List Receipt) (inv t:Int) (p:Post) (a:Alert):Bool:=shB l a p t&&(decide (a.At+inv<t)&&((decide (gV p.Player a.Id t r<0)||decide (gV p.Player a.Id t r>a.At+inv))&&decide (sP l a>=a.At+inv)))
def dL (l:List Alert) (r:List Receipt) (inv t:Int) (p:Post) (a:Alert):List Debt:=bif dC l r inv t p a then [⟨p.Player,a.Id,a.At+inv,gV p.Player a.Id t r⟩]else []
theorem Su (l:List Alert) (r:List Receipt) (inv t:Int) (p:Post) (a:Alert):(dL l r inv t p a).length<=1:=by
 unfold dL;cases dC l r inv t p a <;> simp
theorem debt_K {l:List Alert} (h:CA l) {r:List Receipt} {inv t:Int} (hi:0<=inv/\inv<=2592000000) {m:List (Pair×Int)} (hm:∀p id,mGet eqP m ⟨p,id⟩=gO (gV p id t r)/\(gV p id t r = -1\/0<=gV p id t r)) (p:Post) {k:Nat} {a:Alert} (B:l[k]? = some a) (s:List Debt) (hl:s.length<=1000) :
  mr (l.map (sP l)) p t inv m k a s=some (.go (s++dL l r inv t p a)):=by
 have o:=List.mem_of_getElem? B
 have O:=h.at_ a o
 have I:(λ(a b:Pair)=>(eqS a.f_player b.f_player&&(eqS a.f_alert b.f_alert&&true)))=eqP:=rfl
 have A:idx (l.map (sP l)) (k:Int)=some (sP l a):=Po B
 have M:w64 (a.At+inv)=a.At+inv:=eD (by omega)
 obtain ⟨R,L⟩:=hm p.Player a.Id
 unfold mr dL dC
 rw [I,A,ob_,Rc h o,ob_,R,M]
 unfold gO
 generalize gV p.Player a.Id t r=g at L
 have F:decide (a.At+inv>=t) = !decide (a.At+inv<t):=by rw [Bool.eq_iff_iff];simp
 have J:decide (sP l a<a.At+inv) = !decide (sP l a>=a.At+inv):=by rw [Bool.eq_iff_iff];simp
 simp only [ob_,F,J]
 cases shB l a p t with
 | false=>simp
 | true =>
  cases decide (a.At+inv<t)with
  | false=>simp
  | true =>
   cases decide (sP l a>=a.At+inv)with
   | false=>simp
   | true =>
    simp only [Bool.not_true,cond_false,ob_,Bool.true_and,Bool.and_true]
    cases h2:decide (g<0)with
    | true =>
     have N:g = -1:=by
      have:=of_decide_eq_true h2
      omega
     subst N
     simp only [cond_true,Option.isSome_none,Bool.not_false,Bool.true_or]
     rw [kU _ _ (by simp only [List.length_cons,List.length_nil];omega)];rfl
    | false =>
     simp only [cond_false,Option.isSome_some,Bool.not_true,Option.getD_some,Bool.false_or]
     cases h3:decide (g>a.At+inv)with
     | true =>
      simp only [cond_true]
      rw [kU _ _ (by simp only [List.length_cons,List.length_nil];omega)];rfl
     | false=>simp
def dA (l:List Alert) (ps:List Post) (r:List Receipt) (inv t:Int):List Debt:=ps.flatMap λp=>l.flatMap λa=>dL l r inv t p a
theorem Je {α β:Type} (f:α->List β) (l:List α) (x:α):(l++[x]).flatMap f=l.flatMap f++f x:=by simp
theorem zZ {α β:Type} (f:α->List β) (n:Nat) (h:∀x,(f x).length<=n):∀l:List α,(l.flatMap f).length<=l.length*n
 | []=>by simp
 | x::l=>by
  rw [List.flatMap_cons,List.length_append,List.length_cons,Nat.succ_mul]
  have:=h x
  have:=zZ f n h l
  omega
theorem NR {l:List Alert} (hl:l.length<=12) {ps:List Post} (Y:ps.length<=10) {r:List Receipt} {inv t:Int} {B:Post->Nat->Alert->List Debt->Option (Ctl (List Debt) Unit)} (X:∀p (k:Nat) a s,l[k]? = some a->s.length<=1000->B p k a s=some (.go (s++dL l r inv t p a)))
  {C:Nat->Post->List Debt->Option (Ctl (List Debt) Unit)} (N:∀k p s,C k p s=(forL l s (λj a s=>B p j a s)).bind λo=>thenC o (λs=>some (.go s)) (λ_=>none)):forL ps ([]:List Debt) (λk p s=>C k p s)=some (.go (dA l ps r inv t)):=by
 have h:∀(p:Post) (j:Nat),((l.take j).flatMap λa=>dL l r inv t p a).length<=12:=λp j=>by
  have h1:=zZ (λa=>dL l r inv t p a) 1 (λa=>Su l r inv t p a) (l.take j)
  have h2:=take_len l j
  omega
 obtain ⟨u,W,O⟩:=lc (body:=λk p s=>C k p s) (λk s=>s=(ps.take k).flatMap λp=>l.flatMap λa=>dL l r inv t p a) (xs:=ps) (s:=([]:List Debt)) (by omega) (λk p s L hs=>by
  have Z:k<ps.length:=(List.getElem?_eq_some_iff.1 L).1
  have et:ps.take (k+1)=ps.take k++[p]:=by rw [List.take_add_one,L];rfl
  have R:s.length<=120:=by
   rw [hs]
   have h1:=zZ (λp=>l.flatMap λa=>dL l r inv t p a) 12 (λp=>by
    have:=h p l.length
    rwa [List.take_length]at this) (ps.take k)
   have h2:=take_len ps k
   omega
  obtain ⟨v,M,v2⟩:=lc (body:=λj a s=>B p j a s) (λj I=>I=s++(l.take j).flatMap λa=>dL l r inv t p a) (xs:=l) (s:=s) (by omega) (λj a I J A=>by
   have F:l.take (j+1)=l.take j++[a]:=by rw [List.take_add_one,J];rfl
   have:=h p j
   rw [X p j a I J (by rw [A,List.length_append];omega)]
   exact⟨_,rfl,by rw [F,Je,A,List.append_assoc]⟩) (by simp)
  rw [List.take_length]at v2
  rw [N,M]
  exact⟨v,rfl,by rw [et,Je,v2,hs]⟩) rfl
 rw [W,O,List.take_length];rfl
end Go.Proofs.YtadpbmfnnlkdlacGreatDoor.Law

open Go Go.Eng
namespace Go.Proofs.YtadpbmfnnlkdlacGreatDoor.Law
set_option linter.unusedVariables false
set_option linter.unusedSimpArgs false
set_option linter.unusedSectionVars false
theorem ND {σ ρ:Type} {body:Nat->Nat->σ->Option (Ctl σ ρ)} (I:Nat->σ->Prop) {n:Nat} {s:σ} (hl:n<=1000000) (h:∀k s,k<n->I k s->∃o,body k k s=some (.go o)/\I (k+1) o) (F:I 0 s):∃o,forL (List.range n) s body=some (.go o)/\I n o:=by
 have:=lc (body:=body) I (xs:=List.range n) (s:=s) (by rw [List.length_range];omega) (λk x s A hi=>by
  have B:k<n:=by have:=(List.getElem?_eq_some_iff.1 A).1;simpa using this
  rw [List.getElem?_range B,so_]at A
  subst A
  exact h k s B hi) F
 rw [List.length_range]at this
 exact this
theorem Dq {α β:Type} {xs:List α} {ys:List β} (h:xs.length=ys.length):iQ xs ys=some ():=by unfold iQ;rw [if_pos h]
theorem Ri {α:Type} (z:α) {B:Nat->Nat->List α->Option (Ctl (List α) Unit)} (L:∀k x s,B k x s=(inR (k:Int) s).bind λ_=>(s[(0+((k:Int)).toNat)]?).bind λ_=>some (.go (s.set (0+((k:Int)).toNat) z))) (l:List α) (hl:l.length<=1000000) :
  ∃A,(forL (List.range ((l.length:Int)).toNat) l B).bind (λo=>thenC o (λs=>some s) (λ_=>none))=some A/\iQ A l=some ():=by
 have J:((l.length:Int)).toNat=l.length:=by simp
 obtain ⟨s,I,F⟩:=ND (body:=B) (λ_ s=>s.length=l.length) (n:=l.length) (s:=l) (by omega) (λk s M hs=>by
  rw [L]
  have h:k<s.length:=by omega
  refine⟨s.set k z,?_,by rw [List.length_set];exact hs⟩
  simp only [Ae (i:=(k:Int)) (xs:=s) (by omega) (by omega),show 0+((k:Int)).toNat=k by simp,List.getElem?_eq_getElem h,ob_]) rfl
 rw [J,I]
 exact⟨s,rfl,Dq F⟩
theorem KQ {α:Type} {l:List α} {B:Nat->Nat->Unit->Option (Ctl Unit Unit)} (F:∀k x s,B k x s=(inR (k:Int) l).bind λ_=>some (.go ())) (hl:l.length<=1000000) :
  (forL (List.range ((l.length:Int)).toNat) () B).bind (λo=>thenC o (λ_=>some ()) (λ_=>none))=some ():=by
 have A:((l.length:Int)).toNat=l.length:=by simp
 obtain ⟨s,h,_⟩:=ND (body:=B) (λ_ _=>True) (n:=l.length) (s:=()) (by omega) (λk s I _=>by
  rw [F,Ae (by omega) (by omega)]
  exact⟨(),rfl,trivial⟩) trivial
 rw [A,h];rfl
theorem spS (l:List ByteArray) (hl:l.length<=1000000):lF l=some ():=KQ (B:=λk x s=>jT l k x s) (λk x s=>rfl) hl
theorem spR (l:List Rect) (hl:l.length<=1000000):kH l=some ():=KQ (B:=λk x s=>jv l k x s) (λk x s=>rfl) hl
theorem spA (l:List Alert) (hl:l.length<=1000000):jV l=some ():=KQ (B:=λk x s=>jd l k x s) (λk x s=>rfl) hl
theorem spRc (l:List Receipt) (hl:l.length<=1000000):jy l=some ():=KQ (B:=λk x s=>iO l k x s) (λk x s=>rfl) hl
theorem eqFn {α:Type} {B:Nat->α->Unit->Option (Ctl Unit Bool)} (l:List α) (hl:l.length<=1000000) (F:∀k x,l[k]? = some x->B k x ()=some (.go ())):(bif ((l.length:Int) != (l.length:Int))then some false else (forL l () B).bind λo=>thenC o (λ_=>some true) (λr=>some r))=some true:=by
 obtain ⟨s,A,_⟩:=lc (body:=B) (λ_ _=>True) (xs:=l) (s:=()) (by omega) (λk x s h _=>by
  cases s
  exact⟨(),F k x h,trivial⟩) trivial
 have e:((l.length:Int) != (l.length:Int))=false:=by simp
 rw [e,A];rfl
section
variable {l:List Alert} {f:Nat}
theorem DT (F:(l.map (·.Id)).Nodup):∀(xs o:List Alert),(∀x∈xs,x∈l)->(∀x∈o,x∈l)->KA o->∃u,MM o xs=some u/\KA u/\(∀x,x∈u↔x∈o\/x∈xs)
 | [],o,_,_,L=>⟨o,rfl,L,λx=>by simp⟩
 | x::xs,o,M,ho,L=>by
  have I:=M x (by simp)
  unfold MM MC
  cases hk:CQ x.Id o with
  | none =>
   have R:=EA hk
   obtain ⟨u,X,O,W⟩:=DT F xs (o++[x]) (λy A=>M y (List.mem_cons_of_mem _ A)) (λy A=>by
    rcases List.mem_append.1 A with A|A
    ·exact ho y A
    ·rw [List.mem_singleton.1 A];exact I) (by
    unfold KA at L ⊢
    rw [List.map_append]
    exact List.nodup_append.2 ⟨L,by simp,λa Y b hb e=>by
     obtain ⟨y,A,rfl⟩:=List.mem_map.1 Y
     have:b=x.Id:=by simpa using hb
     exact R y A (e.trans this)⟩)
   refine⟨u,X,O,λy => ?_⟩
   rw [W,List.mem_append,List.mem_singleton,List.mem_cons,or_assoc]
  | some i =>
   obtain ⟨hi,N⟩:=Kh hk
   have J:=List.getElem_mem hi
   obtain ⟨m,hm⟩:=List.getElem?_of_mem (ho _ J)
   obtain ⟨Z,B⟩:=List.getElem?_of_mem I
   have e:o[i]=x:=by
    have:=Gp F hm B N
    subst this
    rw [hm]at B
    exact Option.some.inj B
   simp only [List.getElem?_eq_getElem hi,e,if_true,ob_]
   obtain ⟨u,X,O,W⟩:=DT F xs o (λy A=>M y (List.mem_cons_of_mem _ A)) ho L
   refine⟨u,X,O,λy => ?_⟩
   rw [W]
   constructor
   ·rintro (h|h)
    ·exact .inl h
    ·exact .inr (List.mem_cons_of_mem _ h)
   ·rintro (h|h)
    ·exact .inl h
    ·rcases List.mem_cons.1 h with h|h
     ·rw [h,<- e];exact .inl J
     ·exact .inr h
theorem RAlerts.sub {n:Nat} (h:RAlerts l n) {p:List Alert} (o:p.Sublist l):RAlerts p n :=
 ⟨λx A=>h.right x (o.subset A),h.rise.sublist o,h.ids.sublist (o.map _),Nat.le_trans o.length_le h.len⟩
theorem Mq {x:Alert} (h:RightA x):RA x:=by
 refine⟨h.ga,?_⟩
 have h1:=alF_K h.ga
 rw [C8 h]at h1
 exact (Option.some.inj h1).symm
theorem QB (h:RAlerts l 6) {p q:List Alert} (M:p.Sublist l) (I:q.Sublist l) (ha:∀x∈l,x∈p\/x∈q):qG p q=some (l,0):=by
 have hll:=h.len
 have hpl:=M.length_le
 have hql:=I.length_le
 have cp:=xg (h.sub M) (by omega)
 have cq:=xg (h.sub I) (by omega)
 have F:forL (List.range (2:Int).toNat) () (λk x s=>jS p q k x s)=some (.go ()):=by
  have q1:∀x,jS p q 0 x ()=some (.go ()):=λx=>by
   unfold jS
   have:idx ([p,q]:List (List Alert)) ((0:Nat):Int)=some p:=rfl
   rw [this,ob_,cp];rfl
  have q2:∀x,jS p q (0+1) x ()=some (.go ()):=λx=>by
   unfold jS
   have:idx ([p,q]:List (List Alert)) ((0+1:Nat):Int)=some q:=rfl
   rw [this,ob_,cq];rfl
  have er:List.range (2:Int).toNat=[0,1]:=rfl
  rw [er,ja (by simp)]
  simp only [forR,q1,q2,ob_]
 have hm:∀e∈p++q,RA e:=λe he=>Mq (h.right e ((List.mem_append.1 he).elim (λk=>M.subset k) (λk=>I.subset k)))
 obtain ⟨u,u1,u2,u3⟩:=DT h.ids (p++q) [] (λx J=>(List.mem_append.1 J).elim (λk=>M.subset k) (λk=>I.subset k)) (by simp) (by simp [KA])
 have Y:=JR (B:=λk x s=>kT k x s) (λl=>(l.map Bh,l)) (λk x out J ho hl=>progA J ho hl k) (p++q) 0 [] hm (by simp) (by simp [KA]) (by simp;omega)
 rw [u1]at Y
 have N:forL (p++q) (([]:List (ByteArray×Alert)),([]:List Alert)) (λk x s=>kT k x s)=some (.go (u.map Bh,u)):=by
  rw [ja (by simp;omega)];exact Y
 have nd:∀{m:List Alert},KA m->m.Nodup:=λhk=>(List.pairwise_map.1 hk).imp (λk e=>k (by rw [e]))
 have o:u.Perm l:=(List.perm_ext_iff_of_nodup (nd u2) (nd h.ids)).2 (λx=>by
  rw [u3]
  constructor
  ·rintro (k|k)
   ·cases k
   ·exact (List.mem_append.1 k).elim (λk=>M.subset k) (λk=>I.subset k)
  ·exact λk => .inr (List.mem_append.2 (ha x k)))
 have L:∀a b:Alert,befA a b->¬befA b a:=λa b h k=>LW _ (G6 h k)
 obtain ⟨r,r1,X,r3⟩:=sort12r (cmp:=jc) (S:=eF) (λ_=>rfl) (xs:=u) (by rw [o.length_eq];omega) (R:=befA) (λa _ b _=>Fe a b) L (λa b d h k=>E9 h k)
 have O:r=l:=List.Perm.eq_of_pairwise (le:=λa b=>¬befA b a) (λx y J Z h1 h2=>by
  obtain ⟨m,hm⟩:=List.getElem?_of_mem (o.mem_iff.1 (X.mem_iff.1 J))
  obtain ⟨m',A⟩:=List.getElem?_of_mem Z
  by_cases e:x.Id=y.Id
  ·have:=Gp h.ids hm A e
   subst this
   rw [hm]at A
   exact Option.some.inj A
  ·rcases L6 x y e with k|k
   ·exact absurd k h2
   ·exact absurd k h1) r3 (h.rise.imp (λk=>L _ _ k)) (X.trans o)
 subst O
 have W:iQ r u=some ():=Dq X.length_eq
 have hul:=o.length_eq
 have e1:decide (((u.length:Nat):Int)>300)=false:=decide_eq_false (by omega)
 unfold qG
 simp only [F,ob_,tY,NH p q (by omega) (by omega),N,e1,cond_false,r1,W]
end
theorem QZ {a:List Receipt} (B:GRs a):∃r:List Receipt×Int,ug a []=some r/\r.1.length<=100:=by
 have hb:GRs []:=⟨λx L=>(by cases L),by simp⟩
 have h1:=B.2
 obtain ⟨s,M,A⟩:=sortK (a++[]) (by rw [List.length_append];simp;omega)
 have h:=A.length_eq
 rw [List.length_append]at h
 simp only [List.length_nil,Nat.add_zero]at h
 obtain ⟨r,O,X⟩:=cf_ok s (by omega)
 have N:iQ s (a++[])=some ():=Dq A.length_eq
 have F:∀(k:Nat) (l:List Receipt),([a,[]]:List (List Receipt))[k]? = some l->GRs l->oP a [] k k ()=some (bif rcV l != 0 then .ret ([],rcV l)else .go ()):=λk l hl o=>by
  unfold oP
  rw [uT,hl]
  simp only [ob_]
  rw [rcV_K o]
  simp only [ob_]
  cases rcV l != 0 <;> rfl
 have W:=F 0 a rfl B
 have R:=F (0+1) [] rfl hb
 have J:List.range (2:Int).toNat=[0,0+1]:=rfl
 unfold ug
 rw [J,ja (by simp)]
 simp only [forR,W,ob_]
 cases hv:rcV a != 0 with
 | true=>exact⟨_,rfl,by simp⟩
 | false =>
  simp only [cond_false,R,ob_]
  have I:(rcV [] != 0)=false:=rfl
  rw [I]
  simp only [cond_false,thenC,ob_]
  rw [QY a [] (by omega) (by simp),ob_,M,ob_,N,ob_,O,ob_,decide_eq_false (by omega)]
  exact⟨_,rfl,by simp only [];omega⟩
theorem R3 {l:List Alert} {n:Nat} (h:RAlerts l n) (A:n<=300) {ps:List Post} (o:RPosts ps):iL l ps=some 0:=by
 unfold iL
 rw [xg h A,ob_,KR o];rfl
theorem PW {l:List Alert} {n:Nat} (h:RAlerts l n) (hn:n<=12) {ps:List Post} (I:RPosts ps) {r:List Receipt} (J:GRs r):∃d:List Debt×Int,tK l ps r 5 40=some d/\d.1.length<=1000:=by
 have hc:=h.ca hn
 have hl:=hc.len
 have Z:=I.len
 have W:=J.2
 unfold tK rJ
 simp only [R3 h (by omega) I,ob_,bne_self_eq_false,cond_false,rcV_K J]
 cases hv:rcV r != 0 with
 | true=>exact⟨_,rfl,by simp⟩
 | false =>
  have F:rcV r=0:=by simpa [bne]using hv
  have Y:=rcV_0 F
  have e1:((aY 5 0 2592000000).bind λA=>bif A then some true else (cB 40).bind λo=>some (!o))=some false:=by kernel_rfl
  simp only [e1,cond_false,ob_]
  obtain ⟨m,m1,O⟩:=QC r (by omega) (λx N=>(Y x N).1) 40
  have a1:=NR (l:=l) hl (ps:=ps) (by omega) (r:=r) (inv:=5) (t:=40) (B:=λp k a s=>mr (l.map (sP l)) p 40 5 m k a s) (λp k a s M hs=>debt_K hc (by omega) O p M s hs) (C:=λk p s=>q8 l (l.map (sP l)) 40 5 m k p s) (λk p s=>rfl)
  have hdl:(dA l ps r 5 40).length<=120:=by
   have h1:=zZ (λp=>l.flatMap λa=>dL l r 5 40 p a) 12 (λp=>by
    have:=zZ (λa=>dL l r 5 40 p a) 1 (λa=>Su l r 5 40 p a) l
    omega) ps
   unfold dA
   omega
  obtain ⟨q,X,L⟩:=sortD (dA l ps r 5 40) (by omega)
  have R:iQ q (dA l ps r 5 40)=some ():=Dq L.length_eq
  have hq:=L.length_eq
  rw [m1,ob_,Pv hc,ob_,a1,ob_]
  show ∃d:List Debt×Int,(fT (dA l ps r 5 40)).bind _=_/\_
  rw [X,ob_,R,ob_]
  exact⟨_,rfl,by simp only [];omega⟩
theorem Mh {l:List Alert} {n:Nat} (h:RAlerts l n) (F:n<=12) {ps:List Post} (o:RPosts ps):∃d,qg l ps 10=some d/\d.1.length<=1000:=by
 have hc:=h.ca F
 have hl:=hc.len
 have J:=o.len
 have em:nQ 10=some 0:=by kernel_rfl
 obtain ⟨u,B,L⟩:=lc (body:=λk x s=>l6 l (l.map (sP l)) 10 k x s) (λk s=>s.length<=k) (xs:=ps) (s:=[]) (by omega) (λk x s I hs=>by
  have M:k<ps.length:=(List.getElem?_eq_some_iff.1 I).1
  unfold l6
  rw [QF hc,ob_]
  cases Sd l x.X x.Y 10 with
  | nil=>exact⟨s,rfl,by omega⟩
  | cons z r =>
   rw [decide_eq_true (by simp only [List.length_cons];omega),cond_true]
   show ∃N,((some z).bind λA=>_).bind _=_/\_
   rw [ob_,kU _ _ (by simp only [List.length_cons,List.length_nil];omega)]
   exact⟨_,rfl,by rw [List.length_append];simp;omega⟩) (by simp)
 unfold qg
 rw [R3 h (by omega) o,ob_,bne_self_eq_false,cond_false,em]
 simp only [ob_,bne_self_eq_false,cond_false]
 rw [Pv hc,ob_,B]
 exact⟨_,rfl,by simp only [];omega⟩
theorem alertsStay (l:List Int):qj l=some true:=by
 obtain ⟨xs,s1,a1,a2,a3⟩:=Ni 5 (by omega) ⟨l,0⟩ (b:=0) ⟨Int.le_refl _,Int.le_refl _⟩ (by decide)
 obtain ⟨ps,O,Z,L,b3⟩:=NZ s1 a3 (by omega)
 obtain ⟨F,s3,c1,J,c3⟩:=Kq O b3 (by omega)
 have a2:RAlerts xs 5:=a2
 have h6:RAlerts xs 6:=⟨a2.right,a2.rise,a2.ids,by have:=a2.len;omega⟩
 have hl:=a2.len
 have hpl:=L.len
 have W:=J.2
 have hm:qG xs []=some (xs,0):=QB h6 (List.Sublist.refl _) (List.nil_sublist _) (λx hx => .inl hx)
 obtain ⟨k,k1,k2⟩:=QZ J
 obtain ⟨d,R,d2⟩:=PW a2 (by omega) L J
 obtain ⟨c,e1,e2⟩:=Mh a2 (by omega) L
 have o:forL (List.range ((xs.length:Int)).toNat) () (λk x s=>jE (xs,0) k x s)=some (.go ()):=by
  obtain ⟨s,X,_⟩:=ND (body:=λk x s=>jE (xs,0) k x s) (λ_ _=>True) (n:=xs.length) (s:=()) (by omega) (λk s h _=>by
   refine⟨(),?_,trivial⟩
   have hg:xs[0+((k:Int)).toNat]? = some xs[k]:=by
    rw [show 0+((k:Int)).toNat=k by simp];exact List.getElem?_eq_getElem h
   have A:=(a2.right _ (List.getElem_mem h)).ga
   unfold jE
   simp only [Ae (i:=(k:Int)) (xs:=xs) (by omega) (by omega),hg,ob_,spS _ (by have:=A.rlen;omega:(xs[k]).Refs.length<=1000000),spR _ (by have:=A.alen;omega:(xs[k]).Areas.length<=1000000)]) trivial
  rw [show ((xs.length:Int)).toNat=xs.length by simp]
  exact X
 obtain ⟨d',I,v2⟩:=Ri (⟨(⟨#[]⟩:ByteArray),(⟨#[]⟩:ByteArray),0,0⟩:Debt) (B:=λk x s=>jw k x s) (λk x s=>rfl) d.1 (by omega)
 have I:kC d.1=some d':=I
 obtain ⟨c',M,u2⟩:=Ri (⟨(⟨#[]⟩:ByteArray),(⟨#[]⟩:ByteArray)⟩:Pair_) (B:=λk x s=>jr k x s) (λk x s=>rfl) c.1 (by omega)
 have M:kw c.1=some c':=M
 have y1:bN xs xs=some true:=eqFn (B:=λk x s=>bg xs k x s) xs (by omega) (λk y h=>by
  have N:=Mq (a2.right y (List.mem_of_getElem? h))
  unfold bg
  simp only [uT,h,sameRA N N,decide_true,ob_,Bool.not_true,cond_false])
 have y2:iq ps ps=some true:=eqFn (B:=λk x s=>dW ps k x s) ps (by omega) (λk y h=>by
  unfold dW
  simp only [uT,h,ob_]
  simp)
 have Y:eX F F=some true:=eqFn (B:=λk x s=>dh F k x s) F (by omega) (λk y h=>by
  unfold dh
  simp only [uT,h,ob_]
  simp)
 unfold qj
 simp only [a1,Z,c1,hm,ob_,o,thenC,spA xs (by omega),k1,spRc k.1 (by omega),R,I,v2,e1,M,u2,y1,y2,Y,cond_true,TA]
end Go.Proofs.YtadpbmfnnlkdlacGreatDoor.Law

