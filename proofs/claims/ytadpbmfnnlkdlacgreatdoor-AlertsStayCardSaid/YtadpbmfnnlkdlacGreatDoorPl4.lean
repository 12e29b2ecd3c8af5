/-
  THE PLAIN LAW (part 4).
-/
import Derived.Test.YtadpbmfnnlkdlacGreatDoorPl3
open Go Go.Eng
namespace Go.Proofs.YtadpbmfnnlkdlacGreatDoor.Law
set_option linter.unusedVariables false
set_option linter.unusedSimpArgs false
structure CA (l:List Alert):Prop where
 ids:(l.map (·.Id)).Nodup
 len:l.length<=12
 refs:∀x∈l,x.Refs.length<=1000
 alen:∀x∈l,x.Areas.length<=1000
 areas:∀x∈l,∀r∈x.Areas,Fine r
 at_:∀x∈l,0<=x.At/\x.At<=1000000000000
 until_:∀x∈l,0<=x.Until/\x.Until<=2000000000000
theorem RAlerts.ca {l:List Alert} {n:Nat} (h:RAlerts l n) (B:n<=12):CA l:=by
 refine⟨h.ids,by have:=h.len;omega,λx o => ?_,λx o => ?_,λx o r A=>((h.right x o).areas r A).1,λx o => ?_,λx o => ?_⟩
 ·have:=(h.right x o).refsLen;omega
 ·have:=(h.right x o).alen;omega
 ·have:=(h.right x o).at_;omega
 ·have:=(h.right x o).at_;have:=(h.right x o).until_;omega
theorem Gp {l:List Alert} (h:(l.map (·.Id)).Nodup) {i j:Nat} {a b:Alert} (F:l[i]? = some a) (hb:l[j]? = some b) (e:a.Id=b.Id):i=j:=by
 obtain ⟨h1,B⟩:=List.getElem?_eq_some_iff.1 F
 obtain ⟨h2,o⟩:=List.getElem?_eq_some_iff.1 hb
 have A:=List.pairwise_iff_getElem.1 h
 rcases Nat.lt_trichotomy i j with q|q|q
 ·exact absurd (by rw [List.getElem_map,List.getElem_map,B,o];exact e) (A i j (by simpa using h1) (by simpa using h2) q)
 ·exact q
 ·exact absurd (by rw [List.getElem_map,List.getElem_map,B,o];exact e.symm) (A j i (by simpa using h2) (by simpa using h1) q)
theorem QJ (l:List Alert) (a z:Alert):sP (l++[a]) z=bif cutB a z then min (sP l z) a.At else sP l z:=by
 unfold sP
 rw [List.foldl_append];rfl
def Nn (a:Alert) (j:Nat) (z:Alert):Bool:=decide (z.Id∈a.Refs.take j)&&(decide (z.Sender=a.Sender)&&decide (befA z a))
def zi (l:List Alert) (k:Nat) (a:Alert) (j:Nat) (z:Alert):Int:=bif Nn a j z then min (sP (l.take k) z) a.At else sP (l.take k) z
theorem endJ_0 (l:List Alert) (k:Nat) (a z:Alert):zi l k a 0 z=sP (l.take k) z:=by
 unfold zi Nn
 rw [decide_eq_false (by simp)];rfl
theorem SK {l:List Alert} {k:Nat} {a:Alert} (h:l[k]? = some a) (z:Alert):zi l k a a.Refs.length z=sP (l.take (k+1)) z:=by
 have et:l.take (k+1)=l.take k++[a]:=by rw [List.take_add_one,h];rfl
 rw [et,QJ]
 unfold zi Nn cutB
 rw [List.take_length]
theorem Ie {a o:Alert} {r:ByteArray}:BQ a o r=true↔o.Id=r/\o.Sender=a.Sender/\befA o a:=by
 unfold BQ
 simp only [Bool.and_eq_true,decide_eq_true_eq]
theorem LF {a z:Alert} {j:Nat}:Nn a j z=true↔z.Id∈a.Refs.take j/\z.Sender=a.Sender/\befA z a:=by
 unfold Nn
 simp only [Bool.and_eq_true,decide_eq_true_eq]
theorem QX {a z:Alert} {j:Nat} {r:ByteArray} (o:a.Refs[j]? = some r):Nn a (j+1) z=(Nn a j z||BQ a z r):=by
 have et:a.Refs.take (j+1)=a.Refs.take j++[r]:=by rw [List.take_add_one,o];rfl
 rw [Bool.eq_iff_iff,Bool.or_eq_true,LF,LF,Ie,et,List.mem_append,List.mem_singleton]
 constructor
 ·rintro ⟨h|h,k⟩
  ·exact .inl ⟨h,k⟩
  ·exact .inr ⟨h,k⟩
 ·rintro (⟨h,k⟩|⟨h,k⟩)
  ·exact⟨.inl h,k⟩
  ·exact⟨.inr h,k⟩
theorem Eh {l:List Alert} {k j:Nat} {a z:Alert} {r:ByteArray} (h:a.Refs[j]? = some r):zi l k a (j+1) z=bif BQ a z r then min (zi l k a j z) a.At else zi l k a j z:=by
 unfold zi
 rw [QX h]
 cases Nn a j z <;> cases BQ a z r <;> simp only [Bool.or_true,Bool.or_false,Bool.false_or,Bool.true_or,cond_true,cond_false]
 omega
theorem map_none {l:List Alert} {k j:Nat} {a:Alert} {r:ByteArray} (A:a.Refs[j]? = some r) (h:l.any (λo=>BQ a o r)=false):l.map (zi l k a (j+1))=l.map (zi l k a j):=by
 refine List.map_congr_left (λz B => ?_)
 have:BQ a z r=false:=by
  rw [<- Bool.not_eq_true];intro e
  have:l.any (λo=>BQ a o r)=true:=List.any_eq_true.2 ⟨z,B,e⟩
  rw [h]at this;cases this
 rw [Eh A,this,cond_false]
theorem map_one {l:List Alert} (A:(l.map (·.Id)).Nodup) {k j i:Nat} {a z:Alert} {r:ByteArray} (B:a.Refs[j]? = some r) (o:l[i]? = some z) (h:BQ a z r=true):l.map (zi l k a (j+1))=(l.map (zi l k a j)).set i (min (zi l k a j z) a.At):=by
 refine List.ext_getElem? (λn => ?_)
 rw [List.getElem?_map,List.getElem?_set]
 by_cases hin:i=n
 ·subst hin
  obtain ⟨h1,_⟩:=List.getElem?_eq_some_iff.1 o
  rw [if_pos rfl,if_pos (by simpa using h1),o,Option.map_some,Eh B,h,cond_true]
 ·rw [if_neg hin,List.getElem?_map]
  cases hn:l[n]? with
  | none=>rfl
  | some y =>
   rw [Option.map_some,Option.map_some,Eh B]
   have:BQ a y r=false:=by
    rw [<- Bool.not_eq_true];intro e
    exact hin (Gp A o hn ((Ie.1 h).1.trans (Ie.1 e).1.symm))
   rw [this,cond_false]
theorem Lt {α:Type} {f:α->Option Bool} {p:α->Bool} {B:Nat->α->Unit->Option (Ctl Unit Int)} (A:∀k x,B k x ()=(f x).bind λr=>bif r then some (.ret (k:Int))else some (.go ())):∀(xs:List α) (k:Nat),(∀x∈xs,f x=some (p x)) ->
  (xs.any p=false/\forR B xs k ()=some (.go ()))\/∃(j:Nat) (x:α),xs[j]? = some x/\p x=true/\(∀(i:Nat) (y:α),i<j->xs[i]? = some y->p y=false)/\forR B xs k ()=some (.ret ((k+j:Nat):Int))/\xs.any p=true
 | [],k,h => .inl ⟨rfl,rfl⟩
 | x::xs,k,h=>by
  have F:=h x (by simp)
  cases hp:p x with
  | true =>
   refine .inr ⟨0,x,rfl,hp,λi y hi=>absurd hi (Nat.not_lt_zero _),?_,by rw [List.any_cons,hp];rfl⟩
   rw [forR,A,F,hp];rfl
  | false =>
   have M:forR B (x::xs) k ()=forR B xs (k+1) ():=by rw [forR,A,F,hp];rfl
   rw [M,List.any_cons,hp,Bool.false_or]
   rcases Lt A xs (k+1) (λy I=>h y (by simp [I]))with⟨h1,h2⟩|⟨j,y,h1,h2,L,N,J⟩
   ·exact .inl ⟨h1,h2⟩
   ·refine .inr ⟨j+1,y,h1,h2,λi z hi o => ?_,by rw [N];congr 3;omega,J⟩
    cases i with
    | zero=>rw [List.getElem?_cons_zero,so_]at o;rw [<- o];exact hp
    | succ i=>exact L i z (by omega) (by simpa using o)
theorem minI_m (a b:Int):Aa a b=min a b:=by unfold Aa;split <;> omega
theorem Fe (a b:Alert):∃n,jc a b=some n/\(n<0↔befA a b):=by
 refine⟨_,by simp only [jc,sH,yl,Lb,ob_];rfl,?_⟩
 rw [yn,zL,xQ,xC];rfl
theorem Td (a o:Alert) (r:ByteArray):mW o r a=some (BQ a o r):=by
 obtain ⟨n,h,A⟩:=Fe o a
 unfold mW BQ
 rw [ym,ym,h]
 have:decide (n<0)=decide (befA o a):=by rw [decide_eq_decide];exact A
 cases decide (o.Id=r) <;> cases decide (o.Sender=a.Sender) <;> simp [this]
theorem find_eq {l:List Alert} (hl:l.length<=1000) (a:Alert) (r:ByteArray):(r9 l a r=some (-1)/\l.any (λo=>BQ a o r)=false)\/∃(j:Nat) (z:Alert),r9 l a r=some (j:Int)/\l[j]? = some z/\BQ a z r=true:=by
 unfold r9 eY
 rw [ja (by omega)]
 rcases Lt (f:=λh=>mW h r a) (p:=λo=>BQ a o r) (B:=λk x s=>dZ (λh=>mW h r a) k x s) (λk x=>rfl) l 0 (λx _=>Td a x r)with⟨h1,h2⟩|⟨j,x,h1,h2,_,A,_⟩
 ·rw [h2];exact .inl ⟨rfl,h1⟩
 ·rw [A];exact .inr ⟨j,x,by simp only [ob_,thenC,Nat.zero_add],h1,h2⟩
theorem Qj {l:List Alert} (h:CA l) {k j:Nat} {a:Alert} {r:ByteArray} (A:a.Refs[j]? = some r):nK l a j r (l.map (zi l k a j))=some (.go (l.map (zi l k a (j+1)))):=by
 have hl:=h.len
 unfold nK
 rcases find_eq (Nat.le_trans hl (by decide)) a r with⟨h1,h2⟩|⟨i,z,h1,h2,B⟩
 ·rw [h1,ob_,decide_eq_false (by decide),cond_false,ob_,map_none A h2]
 ·obtain ⟨hi,_⟩:=List.getElem?_eq_some_iff.1 h2
  have F:(l.map (zi l k a j))[(0+((i:Int)).toNat)]? = some (zi l k a j z):=by
   rw [show 0+((i:Int)).toNat=i by omega,List.getElem?_map,h2];rfl
  have o:inR (i:Int) (l.map (zi l k a j))=some ():=Ae (by omega) (by rw [List.length_map];omega)
  rw [h1,ob_,decide_eq_true (by omega),cond_true,o,F]
  simp only [ob_]
  rw [map_one h.ids A h2 B,minI_m,show 0+((i:Int)).toNat=i by omega]
theorem Pv {l:List Alert} (h:CA l):sG l=some (l.map (sP l)):=by
 have hl:=h.len
 unfold sG
 obtain ⟨t,J,t2⟩:=lc (body:=λk x s=>qh k x s) (λk s=>s=(l.take k).map (·.Until)) (xs:=l) (s:=([]:List Int)) (by omega) (λk x s o hs=>by
  have et:l.take (k+1)=l.take k++[x]:=by rw [List.take_add_one,o];rfl
  have M:(l.take k).length<=l.length:=by rw [List.length_take];exact Nat.min_le_right _ _
  unfold qh
  rw [hs,kU _ _ (by simp only [List.length_map,List.length_cons,List.length_nil];omega)]
  exact⟨_,rfl,by rw [et,List.map_append];rfl⟩) rfl
 rw [J,t2,List.take_length]
 simp only [ob_,thenC]
 obtain ⟨u,L,F⟩:=lc (body:=λk x s=>pY l k x s) (λk s=>s=l.map (sP (l.take k))) (xs:=l) (s:=l.map (·.Until)) (by omega) (λk x s o hs=>by
  have B:=h.refs x (List.mem_of_getElem? o)
  obtain ⟨v,A,v2⟩:=lc (body:=λj r s=>nK l x j r s) (λj s=>s=l.map (zi l k x j)) (xs:=x.Refs) (s:=s) (by omega) (λj r s I hs=>by
   rw [hs]
   exact⟨_,Qj h I,rfl⟩) (by rw [hs];exact List.map_congr_left (λz _=>(endJ_0 l k x z).symm))
  unfold pY
  rw [A]
  exact⟨v,rfl,by rw [v2];exact List.map_congr_left (λz _=>SK o z)⟩) rfl
 rw [L,F,List.take_length]
 rfl
theorem isOn_eq (l:List Alert) (a:Alert) (t:Int):vU a (sP l a) t=some (onB l t a):=by
 unfold vU onB
 have e:(a.Kind != 3)=decide (a.Kind≠3):=by rw [Bool.eq_iff_iff];simp
 rw [e]
 cases decide (a.Kind≠3) <;> cases decide (a.At<=t) <;> rfl
end Go.Proofs.YtadpbmfnnlkdlacGreatDoor.Law

open Go Go.Eng
namespace Go.Proofs.YtadpbmfnnlkdlacGreatDoor.Law
set_option linter.unusedVariables false
set_option linter.unusedSimpArgs false
set_option maxRecDepth 100000
def chA {α:Type} (stp:Option α->α->Int):Option α->List α->Int
 | _,[]=>0
 | p,x::l=>bif stp p x==0 then chA stp (some x) l else stp p x
def rU {α:Type} (l:List α) (k:Nat):Option α:=if k=0 then none else l[k-1]?
theorem Ls {α:Type} {stp:Option α->α->Int} {body:Nat->α->Unit->Option (Ctl Unit Int)} (l:List α):∀(xs:List α) (k:Nat),l.drop k=xs->(∀k x,l[k]? = some x->body k x ()=some (Bd (stp (rU l k) x)))->forR body xs k ()=some (Bd (chA stp (rU l k) xs))
 | [],k,_,_=>rfl
 | x::xs,k,A,h=>by
  have o:=LU A
  have B:rU l (k+1)=some x:=by unfold rU;rw [if_neg (by omega)];exact o
  rw [forR,h k x o,ob_,chA]
  cases hs:stp (rU l k) x==0 with
  | true =>
   have e:Bd (stp (rU l k) x) = .go ():=by unfold Bd;rw [hs];rfl
   rw [e,cond_true,<- B]
   exact Ls l xs (k+1) (aP A) h
  | false =>
   have e:Bd (stp (rU l k) x) = .ret (stp (rU l k) x):=by unfold Bd;rw [hs];rfl
   rw [e,cond_false,e]
theorem Ke {α:Type} {stp:Option α->α->Int} {body:Nat->α->Unit->Option (Ctl Unit Int)} {l:List α} (hl:l.length<=1000000) (h:∀k x,l[k]? = some x->body k x ()=some (Bd (stp (rU l k) x))):forL l () body=some (Bd (chA stp none l)):=by
 rw [ja (by omega)]
 exact Ls l l 0 rfl h
theorem Ps {α:Type} {stp:Option α->α->Int}:∀{l:List α} {p:Option α},chA stp p l=0->∀(i:Nat) (x:α),l[i]? = some x->∃q,stp q x=0/\(i=0->q=p)/\(0<i->q=l[i-1]?)
 | [],p,_,i,x,o=>by simp at o
 | y::l,p,h,i,x,o=>by
  rw [chA]at h
  cases hs:stp p y==0 with
  | false=>rw [hs,cond_false]at h;rw [h]at hs;exact absurd hs (by decide)
  | true =>
   rw [hs,cond_true]at h
   cases i with
   | zero =>
    rw [List.getElem?_cons_zero,so_]at o
    exact⟨p,by rw [<- o];exact eq_of_beq hs,λ_=>rfl,λh=>absurd h (Nat.lt_irrefl _)⟩
   | succ i =>
    rw [List.getElem?_cons_succ]at o
    obtain ⟨q,A,F,B⟩:=Ps h i x o
    refine⟨q,A,λh=>absurd h (by omega),λ_ => ?_⟩
    cases i with
    | zero=>rw [F rfl];rfl
    | succ i=>rw [B (by omega)];simp
theorem IJ (e:Int):(e=0/\Bd e = .go ())\/(e≠0/\Bd e = .ret e):=by
 unfold Bd
 by_cases h:e=0
 ·subst h;exact .inl ⟨rfl,rfl⟩
 ·have:(e==0)=false:=by simpa using h
  rw [this];exact .inr ⟨h,rfl⟩
def uo (s:ByteArray):Bool:=decide (s=⟨#[]⟩)||(decide (s=overS)||(decide (s=floodS)||decide (s=mallS)))
theorem P7:∀s∈txtL,mU s=some (uo s)/\True:=by
 intro s hs
 unfold txtL at hs
 simp only [List.mem_cons,List.not_mem_nil,or_false]at hs
 rcases hs with rfl|rfl|rfl|rfl|rfl|rfl|rfl|rfl
 ·exact⟨eu _ _ (show eU ⟨#[]⟩=some (uo ⟨#[]⟩) by kernel_rfl),trivial⟩
 ·exact⟨eu _ _ (show eU overS=some (uo overS) by kernel_rfl),trivial⟩
 ·exact⟨eu _ _ (show eU floodS=some (uo floodS) by kernel_rfl),trivial⟩
 ·exact⟨eu _ _ (show eU mallS=some (uo mallS) by kernel_rfl),trivial⟩
 ·exact⟨eu _ _ (show eU ⟨#[32,120]⟩=some (uo ⟨#[32,120]⟩) by kernel_rfl),trivial⟩
 ·exact⟨eu _ _ (show eU ⟨#[97,32,32,98]⟩=some (uo ⟨#[97,32,32,98]⟩) by kernel_rfl),trivial⟩
 ·exact⟨eu _ _ (show eU ⟨#[10]⟩=some (uo ⟨#[10]⟩) by kernel_rfl),trivial⟩
 ·exact⟨eu _ _ (show eU ⟨#[255]⟩=some (uo ⟨#[255]⟩) by kernel_rfl),trivial⟩
theorem ML:∀s∈txtL,s.size<=16:=by
 intro s hs
 unfold txtL at hs
 simp only [List.mem_cons,List.not_mem_nil,or_false]at hs
 rcases hs with rfl|rfl|rfl|rfl|rfl|rfl|rfl|rfl <;> decide
def JP {α:Type} (f:α->Bool):Option α->Bool
 | some y=>f y
 | none=>false
def BD (id:ByteArray) (p:Option ByteArray) (r:ByteArray):Int:=bif !keyB r then 5 else bif JP (λq=>sLe r q) p then 7 else bif sEq r id then 14 else 0
def yu (_:Option Rect) (r:Rect):Int:=bif Ky r then 1 else 0
theorem Qr {α β:Type} {l:List α} {k:Nat} {x:α} (h:l[k]? = some x) (hl:l.length<=1000000) (g:α->Option Bool) (f:α->Bool) (F:∀y,g y=some (f y)):(bif (decide ((k:Int)>0))then (idx l (w64 ((k:Int)-1))).bind g else some false)=some (JP f (rU l k)):=by
 rcases Nat.eq_zero_or_pos k with o|o
 ·subst o
  rw [decide_eq_false (by omega)];rfl
 ·obtain ⟨y,B,A⟩:=zW h o (by omega)
  rw [decide_eq_true (by omega),cond_true,B,ob_,F]
  unfold rU
  rw [if_neg (by omega),A];rfl
theorem NK (x:Alert) (h:GA x):∀k r,x.Refs[k]? = some r->eO x k r ()=some (Bd (BD x.Id (rU x.Refs k) r)):=λk r A=>by
 have hl:=h.rlen
 have hs:=h.refs r (List.mem_of_getElem? A)
 unfold ShA at hs
 unfold eO
 rw [rD r (by omega),Qr (β:=Unit) A (by omega) (λo=>some (sLe r o)) (λy=>sLe r y) (λ_=>rfl),ob_,ob_]
 unfold BD
 cases keyB r with
 | false=>rfl
 | true =>
  cases JP (λq=>sLe r q) (rU x.Refs k)with
  | true=>rfl
  | false=>cases sEq r x.Id <;> rfl
theorem Oh (x:Alert):∀k r,x.Areas[k]? = some r->eZ k r ()=some (Bd (yu (rU x.Areas k) r)):=λk r h=>by
 unfold eZ yu
 rw [Cx]
 cases Ky r <;> rfl
def rfV (x:Alert):Int:=chA (BD x.Id) none x.Refs
def arV (x:Alert):Int:=chA yu none x.Areas
def fmV (x:Alert):Bool := !((x.Kind==1)==((x.Refs.length:Int)==0))
def agV (x:Alert):Bool := !CP x.At||(qo x.Until (x.At+1) (x.At+2592000000)||qo x.Weight 1 9)
def txV (x:Alert):Bool := !uo x.Text||(sEq x.Text ⟨#[]⟩ && !(x.Kind==3))
def cnV (x:Alert):Bool := !((x.Kind==3)==((x.Areas.length:Int)==0))
def alF (x:Alert):Int:=bif !keyB x.Id || !keyB x.Sender then 5 else bif qo x.Kind 1 3 then 4 else bif rfV x==0 then (bif fmV x then 3 else bif agV x then 1 else bif arV x==0 then (bif cnV x then 3 else bif txV x then 3 else 0)else arV x)else rfV x
theorem alF_K {x:Alert} (h:GA x):gX x=some (alF x):=by
 have h1:=h.id
 have h2:=h.sender
 have Y:=h.at_
 have W:=h.rlen
 have R:=h.alen
 have X:=ML _ h.text
 unfold ShA at h1 h2
 have L:iM x=some (bif rfV x==0 then (bif fmV x then 3 else 0)else rfV x):=by
  unfold iM
  rw [decide_eq_false (by omega),cond_false,Ke (stp:=BD x.Id) (body:=λk r s=>eO x k r s) (by omega) (NK x h)]
  unfold rfV fmV
  rcases IJ (chA (BD x.Id) none x.Refs)with⟨A,o⟩|⟨A,o⟩
  ·rw [o,A]
   simp only [ob_,thenC]
   cases (!((x.Kind==1)==((x.Refs.length:Int)==0))) <;> rfl
  ·have:(chA (BD x.Id) none x.Refs==0)=false:=by simpa using A
   rw [o,this];rfl
 unfold gX alF
 rw [rD _ (by omega),rD _ (by omega),L,rW,z8,eD (n:=x.At+1) (by omega),eD (n:=x.At+2592000000) (by omega),rW,rW,(P7 _ h.text).1,decide_eq_false (show ¬(x.Areas.length:Int)>20 by omega),decide_eq_false (show ¬(x.Text.size:Int)>500 by omega)]
 rw [Ke (stp:=yu) (body:=λk r s=>eZ k r s) (by omega) (Oh x)]
 have N:(bif !keyB x.Id then some true else some (!keyB x.Sender))=some (!keyB x.Id || !keyB x.Sender):=by cases keyB x.Id <;> rfl
 have M:((some (CP x.At)).bind λJ=>bif (!J)then some true else (some (qo x.Until (x.At+1) (x.At+2592000000))).bind λF=>bif F then some true else (some (qo x.Weight 1 9)).bind λI=>some I)=some (agV x):=by
  unfold agV
  cases CP x.At <;> cases qo x.Until (x.At+1) (x.At+2592000000) <;> rfl
 have et:((some (uo x.Text)).bind λB=>bif (!B)then some true else bif (sEq x.Text (⟨#[]⟩:ByteArray))then some (!(x.Kind==3))else some false)=some (txV x):=by
  unfold txV
  cases uo x.Text <;> cases sEq x.Text ⟨#[]⟩ <;> rfl
 have O:(!((x.Kind==3)==((x.Areas.length:Int)==0)))=cnV x:=rfl
 rw [M,et,O]
 simp only [ob_]
 rw [N]
 simp only [ob_]
 cases (!keyB x.Id || !keyB x.Sender)with
 | true=>rfl
 | false =>
 cases qo x.Kind 1 3 with
 | true=>rfl
 | false =>
 simp only [cond_false]
 cases hr:rfV x==0 with
 | false =>
  have:(rfV x != 0)=true:=by simp [bne,hr]
  simp only [cond_false,this,cond_true]
 | true =>
  simp only [cond_true]
  cases fmV x with
  | true=>rfl
  | false =>
   cases agV x with
   | true=>rfl
   | false =>
    simp only [cond_false,bne_self_eq_false]
    unfold arV
    rcases IJ (chA yu none x.Areas)with⟨A,o⟩|⟨A,o⟩
    ·rw [o,A]
     simp only [thenC]
     cases cnV x with
     | true=>rfl
     | false=>cases txV x <;> rfl
    ·have:(chA yu none x.Areas==0)=false:=by simpa using A
     rw [o,this];rfl
end Go.Proofs.YtadpbmfnnlkdlacGreatDoor.Law

open Go Go.Eng
namespace Go.Proofs.YtadpbmfnnlkdlacGreatDoor.Law
set_option linter.unusedVariables false
set_option linter.unusedSimpArgs false
section
variable {K T:Type} {eq:K->K->Bool}
theorem RH (k:K):mGet eq ([]:List (K×T)) k=none:=rfl
theorem xI (e:K×T) (es:List (K×T)) (k:K):mGet eq (e::es) k=if eq k e.1=true then some e.2 else mGet eq es k:=by
 unfold mGet
 rw [Bf]
 by_cases h:eq k e.1=true
 ·rw [if_pos h,if_pos h];rfl
 ·rw [if_neg h,if_neg h]
  cases Bf eq k es with
  | none=>rfl
  | some j=>rfl
theorem Q6 (k:K) (v:T):zK eq ([]:List (K×T)) k v=[(k,v)]:=rfl
theorem Jy (e:K×T) (es:List (K×T)) (k:K) (v:T):zK eq (e::es) k v=if eq k e.1=true then (k,v)::es else e::zK eq es k v:=by
 unfold zK
 rw [Bf]
 by_cases h:eq k e.1=true
 ·rw [if_pos h,if_pos h];rfl
 ·rw [if_neg h,if_neg h]
  cases Bf eq k es with
  | none=>rfl
  | some j=>rfl
theorem AL (o:∀a b,eq a b=true↔a=b) (k k':K) (v:T):∀es:List (K×T),mGet eq (zK eq es k v) k'=if eq k' k=true then some v else mGet eq es k'
 | []=>by rw [Q6,xI]
 | e::es=>by
  rw [Jy,xI]
  by_cases h:eq k e.1=true
  ·rw [if_pos h,xI]
   have h1:=(o _ _).1 h
   rw [<- h1]
   by_cases h2:eq k' k=true
   ·rw [if_pos h2,if_pos h2]
   ·rw [if_neg h2,if_neg h2,if_neg h2]
  ·rw [if_neg h,xI,AL o k k' v es]
   by_cases h2:eq k' e.1=true
   ·have A:=(o _ _).1 h2
    have:¬eq k' k=true:=λq=>h (by rw [<- (o _ _).1 q];exact h2)
    rw [if_pos h2,if_neg this,if_pos h2]
   ·rw [if_neg h2,if_neg h2]
end
theorem w9 (a b:ByteArray):eqS a b=true↔a=b:=⟨Q8,λh=>by
 subst h
 obtain ⟨x⟩:=a
 show (x==x)=true
 exact beq_self_eq_true x⟩
def M9 (s:List (ByteArray×Bool)) (h:List ByteArray):Prop:=∀k,mGet eqS s k=if k∈h then some true else none
theorem M9.nil:M9 [] []:=λk=>by rw [RH,if_neg (by simp)]
theorem M9.set {s:List (ByteArray×Bool)} {o:List ByteArray} (h:M9 s o) (id:ByteArray):M9 (zK eqS s id true) (o++[id]):=λk=>by
 rw [AL w9,h k]
 by_cases h1:eqS k id=true
 ·rw [if_pos h1,if_pos (by rw [(w9 _ _).1 h1];simp)]
 ·rw [if_neg h1]
  have:k∈o++[id]↔k∈o:=by
   rw [List.mem_append,List.mem_singleton]
   exact⟨λq=>q.resolve_right (λe=>h1 ((w9 _ _).2 e)),.inl⟩
  by_cases h2:k∈o
  ·rw [if_pos h2,if_pos (this.2 h2)]
  ·rw [if_neg h2,if_neg (λq=>h2 (this.1 q))]
end Go.Proofs.YtadpbmfnnlkdlacGreatDoor.Law

open Go Go.Eng
namespace Go.Proofs.YtadpbmfnnlkdlacGreatDoor.Law
set_option linter.unusedVariables false
set_option linter.unusedSimpArgs false
def Gl (l m:List Alert) (h o t:Int):List Alert:=m.filter λz=>onB l t z&&hasB z.Areas h o
def cR (a b:Alert):Int:=or0 (Fs b.Weight a.Weight) (or0 (Fs b.At a.At) (zt a.Id b.Id))
theorem Qx (a b:Alert):pE a b=some (cR a b):=by
 simp only [pE,sH,yl,Rq,ob_];rfl
theorem DZ {a b:Alert}:cR a b<0↔zA a b=true:=by
 unfold cR
 rw [yn,yn,zL,xQ,zL,xQ,xC,Al]
 constructor
 ·rintro (h|⟨h,k|⟨k,q⟩⟩)
  ·exact .inl h
  ·exact .inr ⟨h.symm,.inl k⟩
  ·exact .inr ⟨h.symm,.inr ⟨k.symm,q⟩⟩
 ·rintro (h|⟨h,k|⟨k,q⟩⟩)
  ·exact .inl h
  ·exact .inr ⟨h.symm,.inl k⟩
  ·exact .inr ⟨h.symm,.inr ⟨k.symm,q⟩⟩
theorem Sm {a b c:Alert} (h:¬zA a b=true) (k:¬zA b c=true):¬zA a c=true:=by
 rw [Al]at *
 simp only [not_or,not_and]at h k
 rintro (q|⟨q,q2|⟨q2,q3⟩⟩)
 ·omega
 ·have h2:=h.2
  have o:=k.2
  by_cases e:a.Weight=b.Weight
  ·have:=(h2 e).1
   have:=(o (by omega)).1
   omega
  ·omega
 ·have h2:=h.2
  have o:=k.2
  by_cases e:a.Weight=b.Weight
  ·have A:=h2 e
   have a2:=o (by omega)
   by_cases e2:a.At=b.At
   ·exact lt_ntr (A.2 e2) (a2.2 (by omega)) q3
   ·have:=A.1
    have:=a2.1
    omega
  ·omega
theorem Dn {x:Alert} (h:∀r∈x.Areas,Fine r) (hl:x.Areas.length<=1000) (p:Post):kJ x p=some (hasB x.Areas p.X p.Y):=by
 unfold kJ
 rw [any_eq (λo=>nz o p) (has1 p.X p.Y) (λr A=>by
  have hs:=h r A
  unfold Fine at hs
  unfold nz has1
  rw [eD (n:=r.X+r.W) (by omega),eD (n:=r.Y+r.H) (by omega)]
  cases decide (r.X<=p.X) <;> cases decide (p.X<r.X+r.W) <;> cases decide (r.Y<=p.Y) <;> rfl) (by omega)]
 rfl
theorem Po {α β:Type} {l:List α} {f:α->β} {k:Nat} {x:α} (h:l[k]? = some x):idx (l.map f) (k:Int)=some (f x):=by
 rw [uT,List.getElem?_map,h];rfl
theorem take_len {α:Type} (l:List α) (k:Nat):(l.take k).length<=l.length:=by rw [List.length_take];exact Nat.min_le_right _ _
theorem QF {l:List Alert} (h:CA l) (p:Post) (t:Int):qX l (l.map (sP l)) p t=some (Sd l p.X p.Y t):=by
 have hl:=h.len
 unfold qX
 obtain ⟨u,Z,M⟩:=lc (body:=λk x s=>nC (l.map (sP l)) t p k x s) (λk s=>s=Gl l (l.take k) p.X p.Y t) (xs:=l) (s:=([]:List Alert)) (by omega) (λk x s o hs=>by
  have et:l.take (k+1)=l.take k++[x]:=by rw [List.take_add_one,o];rfl
  have hm:=List.mem_of_getElem? o
  have hf:Gl l (l.take (k+1)) p.X p.Y t=Gl l (l.take k) p.X p.Y t++(bif onB l t x&&hasB x.Areas p.X p.Y then [x]else []):=by
   unfold Gl
   rw [et,List.filter_append]
   congr 1
  have O:s.length<=1000:=by
   rw [hs]
   refine Nat.le_trans (List.length_filter_le _ _) ?_
   have:=take_len l k
   omega
  unfold nC
  rw [Po o,ob_,isOn_eq,ob_,Dn (h.areas x hm) (h.alen x hm)]
  rw [hf,<- hs]
  cases onB l t x with
  | false=>exact⟨_,rfl,by simp⟩
  | true =>
   cases hasB x.Areas p.X p.Y with
   | false=>exact⟨_,rfl,by simp⟩
   | true =>
    simp only [ob_,cond_true,Bool.and_true]
    rw [kU _ _ (by simp only [List.length_cons,List.length_nil];omega)]
    exact⟨_,rfl,rfl⟩) rfl
 rw [Z,M,List.take_length]
 simp only [ob_,thenC]
 have N:Gl l l p.X p.Y t=Db l p.X p.Y t:=rfl
 rw [N]
 have A:(Db l p.X p.Y t).length<=12:=by
  have:(Db l p.X p.Y t).length<=l.length:=List.length_filter_le _ _
  omega
 obtain ⟨r,W,I,r3⟩:=Tn (cmp:=pE) (S:=dB) cR (λ_=>rfl) (xs:=Db l p.X p.Y t) A (λa _ b _=>Qx a b)
  (λa b B F=>by have:=IB _ _ _ (DZ.1 B) (DZ.1 F);rw [MX]at this;cases this)
  (λa b c B F R=>Sm (λe=>B (DZ.2 e)) (λe=>F (DZ.2 e)) (DZ.1 R))
 have L:dB (Db l p.X p.Y t)=some r:=W
 have J:iQ r (Db l p.X p.Y t)=some ():=by unfold iQ;rw [if_pos I.length_eq]
 rw [L,ob_,J,ob_,rank_is h.ids p.X p.Y t I (r3.imp (λ{a b} q=>by
  cases hb:zA b a with
  | false=>rfl
  | true=>exact absurd (DZ.2 hb) q))]
end Go.Proofs.YtadpbmfnnlkdlacGreatDoor.Law

open Go Go.Eng
namespace Go.Proofs.YtadpbmfnnlkdlacGreatDoor.Law
set_option linter.unusedVariables false
set_option linter.unusedSimpArgs false
set_option maxRecDepth 100000
theorem Nu {α:Type} {l:List α} {k:Nat} {x:α} (h:l[k]? = some x) (hl:l.length<=1000000) (g:α->Option Bool) (f:α->Bool) (F:∀y∈l,g y=some (f y)):(bif (decide ((k:Int)>0))then (idx l (w64 ((k:Int)-1))).bind g else some false)=some (JP f (rU l k)):=by
 rcases Nat.eq_zero_or_pos k with o|o
 ·subst o
  rw [decide_eq_false (by omega)];rfl
 ·obtain ⟨y,B,A⟩:=zW h o (by omega)
  rw [decide_eq_true (by omega),cond_true,B,ob_,F y (List.mem_of_getElem? A)]
  unfold rU
  rw [if_neg (by omega),A];rfl
theorem alF_0 {x:Alert} (h:GA x) (o:alF x=0):(0<=x.At/\x.At<=345686399999)/\(x.At+1<=x.Until/\x.Until<=x.At+2592000000)/\∀r∈x.Areas,Fine r:=by
 unfold alF at o
 cases e1:(!keyB x.Id || !keyB x.Sender)with
 | true=>rw [e1]at o;cases o
 | false =>
 rw [e1,cond_false]at o
 cases e2:qo x.Kind 1 3 with
 | true=>rw [e2]at o;cases o
 | false =>
 rw [e2,cond_false]at o
 cases e3:rfV x==0 with
 | false=>rw [e3,cond_false]at o;rw [o]at e3;exact absurd e3 (by decide)
 | true =>
 rw [e3,cond_true]at o
 cases e4:fmV x with
 | true=>rw [e4]at o;cases o
 | false =>
 rw [e4,cond_false]at o
 cases e5:agV x with
 | true=>rw [e5]at o;cases o
 | false =>
 rw [e5,cond_false]at o
 cases e6:arV x==0 with
 | false=>rw [e6,cond_false]at o;rw [o]at e6;exact absurd e6 (by decide)
 | true =>
 unfold agV at e5
 simp only [Bool.or_eq_false_iff]at e5
 obtain ⟨F,a2,a3⟩:=e5
 have hm:CP x.At=true:=by cases hq:CP x.At with | true=>rfl | false=>rw [hq]at F;cases F
 unfold CP at hm
 have A:qo x.At 0 345686399999=false:=by cases hq:qo x.At 0 345686399999 with | false=>rfl | true=>rw [hq]at hm;cases hm
 have L:=BG A
 have J:=BG a2
 refine⟨L,J,λr I => ?_⟩
 obtain ⟨i,hi⟩:=List.getElem?_of_mem I
 obtain ⟨q,B,_⟩:=Ps (eq_of_beq e6) i r hi
 unfold yu at B
 refine Qv ?_
 cases hb:Ky r with
 | false=>rfl
 | true=>rw [hb]at B;cases B
end Go.Proofs.YtadpbmfnnlkdlacGreatDoor.Law

open Go Go.Eng
namespace Go.Proofs.YtadpbmfnnlkdlacGreatDoor.Law
set_option linter.unusedVariables false
set_option linter.unusedSimpArgs false
def RA (x:Alert):Prop:=GA x/\alF x=0
structure RF (x:Alert):Prop where
 id:keyB x.Id=true
 sender:keyB x.Sender=true
 kind:1<=x.Kind/\x.Kind<=3
 refs:∀r∈x.Refs,keyB r=true
 weight:1<=x.Weight/\x.Weight<=9
theorem ra_f {x:Alert} (o:alF x=0):RF x:=by
 unfold alF at o
 cases e1:(!keyB x.Id || !keyB x.Sender)with
 | true=>rw [e1]at o;cases o
 | false =>
 rw [e1,cond_false]at o
 cases e2:qo x.Kind 1 3 with
 | true=>rw [e2]at o;cases o
 | false =>
 rw [e2,cond_false]at o
 cases e3:rfV x==0 with
 | false=>rw [e3,cond_false]at o;rw [o]at e3;exact absurd e3 (by decide)
 | true =>
 rw [e3,cond_true]at o
 cases e4:fmV x with
 | true=>rw [e4]at o;cases o
 | false =>
 rw [e4,cond_false]at o
 cases e5:agV x with
 | true=>rw [e5]at o;cases o
 | false =>
 simp only [Bool.or_eq_false_iff,Bool.not_eq_false']at e1
 unfold agV at e5
 simp only [Bool.or_eq_false_iff]at e5
 have hb:∀{n B hi:Int},qo n B hi=false->B<=n/\n<=hi:=λh=>by
  simp only [qo,Bool.or_eq_false_iff,decide_eq_false_iff_not]at h;omega
 refine⟨e1.1,e1.2,hb e2,λr F => ?_,hb e5.2.2⟩
 obtain ⟨i,hi,rfl⟩:=List.getElem_of_mem F
 obtain ⟨q,A,_⟩:=Ps (eq_of_beq e3) i _ (List.getElem?_eq_getElem hi)
 unfold BD at A
 cases hk:keyB x.Refs[i]with
 | true=>rfl
 | false=>rw [hk]at A;cases A
theorem Gr (A:List ByteArray):∀(xs:List ByteArray) (k:Nat),xs.length=(A.drop k).length->∃o,forR (λk x s=>bW A k x s) xs k ()=some o/\thenC o (λ_=>some true) (λr=>some r)=some (decide (xs=A.drop k))
 | [],k,h=>⟨_,rfl,by
  have:A.drop k=[]:=List.eq_nil_of_length_eq_zero h.symm
  rw [this];rfl⟩
 | x::xs,k,h=>by
  have I:k<A.length:=by
   rw [List.length_drop]at h
   simp only [List.length_cons]at h
   omega
  have J:A.drop k=A[k]::A.drop (k+1):=List.drop_eq_getElem_cons I
  rw [J]at h ⊢
  obtain ⟨o,h1,h2⟩:=Gr A xs (k+1) (by simp only [List.length_cons]at h;omega)
  have B:bW A k x ()=some (bif sNe x A[k]then .ret false else .go ()):=by
   unfold bW
   rw [uT,List.getElem?_eq_getElem I]
   simp only [ob_]
   cases (sNe x A[k]) <;> rfl
  by_cases he:x=A[k]
  ·have F:(sNe x A[k])=false:=by rw [uY];simp [he]
   refine⟨o,by simp only [forR,B,F,cond_false,ob_];exact h1,?_⟩
   rw [h2]
   simp only [he,List.cons.injEq,true_and]
  ·have F:(sNe x A[k])=true:=by rw [uY];simp [he]
   refine⟨.ret false,by simp only [forR,B,F,cond_true,ob_],?_⟩
   rw [decide_eq_false (λL=>he (List.cons.inj L).1)];rfl
theorem Qi (l m:List ByteArray) (hl:l.length<=1000000000):dQ l m=some (decide (l=m)):=by
 unfold dQ
 by_cases hn:l.length=m.length
 ·have A:((l.length:Int) != (m.length:Int))=false:=by simp [hn]
  rw [A,cond_false]
  obtain ⟨o,h1,h2⟩:=Gr m l 0 (by simpa using hn)
  rw [ja (by omega),h1]
  simpa using h2
 ·have A:((l.length:Int) != (m.length:Int))=true:=by simp;omega
  have B:l≠m:=λh=>hn (by rw [h])
  rw [A,cond_true]
  simp [B]
deriving instance DecidableEq for Rect
theorem rect_eq (x y:Rect):((x.X==y.X)&&((x.Y==y.Y)&&((x.W==y.W)&&((x.H==y.H)&&true))))=decide (x=y):=by
 obtain ⟨a,b,c,d⟩:=x
 obtain ⟨A,b',h,o⟩:=y
 rw [Bool.eq_iff_iff]
 simp only [Bool.and_eq_true,beq_iff_eq,decide_eq_true_eq,Rect.mk.injEq,and_true]
theorem IQ (A:List Rect):∀(xs:List Rect) (k:Nat),xs.length=(A.drop k).length->∃o,forR (λk x s=>dw A k x s) xs k ()=some o/\thenC o (λ_=>some true) (λr=>some r)=some (decide (xs=A.drop k))
 | [],k,h=>⟨_,rfl,by
  have:A.drop k=[]:=List.eq_nil_of_length_eq_zero h.symm
  rw [this];rfl⟩
 | x::xs,k,h=>by
  have F:k<A.length:=by
   rw [List.length_drop]at h
   simp only [List.length_cons]at h
   omega
  have I:A.drop k=A[k]::A.drop (k+1):=List.drop_eq_getElem_cons F
  rw [I]at h ⊢
  obtain ⟨o,h1,h2⟩:=IQ A xs (k+1) (by simp only [List.length_cons]at h;omega)
  have B:dw A k x ()=some (bif !decide (x=A[k])then .ret false else .go ()):=by
   unfold dw
   rw [uT,List.getElem?_eq_getElem F]
   simp only [ob_,rect_eq]
   cases decide (x=A[k]) <;> rfl
  by_cases he:x=A[k]
  ·refine⟨o,by simp only [forR,B,decide_eq_true he,Bool.not_true,cond_false,ob_];exact h1,?_⟩
   rw [h2]
   simp only [he,List.cons.injEq,true_and]
  ·refine⟨.ret false,by simp only [forR,B,decide_eq_false he,Bool.not_false,cond_true,ob_],?_⟩
   rw [decide_eq_false (λJ=>he (List.cons.inj J).1)];rfl
theorem P5 (l m:List Rect) (hl:l.length<=1000000000):fq l m=some (decide (l=m)):=by
 unfold fq
 by_cases hn:l.length=m.length
 ·have A:((l.length:Int) != (m.length:Int))=false:=by simp [hn]
  rw [A,cond_false]
  obtain ⟨o,h1,h2⟩:=IQ m l 0 (by simpa using hn)
  rw [ja (by omega),h1]
  simpa using h2
 ·have A:((l.length:Int) != (m.length:Int))=true:=by simp;omega
  have B:l≠m:=λh=>hn (by rw [h])
  rw [A,cond_true]
  simp [B]
theorem Ff (c:Bool) {X:Option Bool} {p:Bool} (h:X=some p):(bif c then X else some false)=some (c&&p):=by cases c <;> simp [h]
deriving instance DecidableEq for Alert
theorem QD {a b:Alert} (h:GA a):wy a b=some (decide (a=b)):=by
 unfold wy
 rw [Qi _ _ (by have:=h.rlen;omega),P5 _ _ (by have:=h.alen;omega)]
 simp only [ob_]
 rw [Ff _ (Ff _ (Ff _ (Ff _ (Ff _ (Ff _ (Ff _ (Ff _ rfl)))))))]
 obtain ⟨W,a2,a3,a4,a5,O,L,M,a9⟩:=a
 obtain ⟨I,B,X,o,F,A,R,N,J⟩:=b
 simp only [ob_,ym]
 congr 1
 rw [Bool.eq_iff_iff]
 simp only [Bool.and_eq_true,decide_eq_true_eq,beq_iff_eq,Alert.mk.injEq]
def EK (k:Int):List UInt8:=if k=1 then [110,101,119]else if k=2 then [117,112,100,97,116,101]else [99,97,110,99,101,108]
def wV:List ByteArray->List UInt8
 | []=>[]
 | r::l=>[114,101,102,32]++r.data.toList++[10]++wV l
def xN (r:Rect):List Int:=[r.X,r.Y,r.W,r.H]
def oC:List Rect->List UInt8
 | []=>[]
 | r::l=>[97,114,101,97,32]++Go.Lib.join ((xN r).map Go.Lib.itoa) [32]++[10]++oC l
def CE (t:ByteArray):List UInt8:=if t=⟨#[]⟩then []else [116,101,120,116,32]++t.data.toList++[10]
def zn (x:Alert):List UInt8:=[97,108,101,114,116,32]++x.Id.data.toList++[32]++x.Sender.data.toList++[32]++EK x.Kind++[32]++Go.Lib.join (([x.At,x.Until,x.Weight]:List Int).map Go.Lib.itoa) [32]++[10]
def JN (x:Alert):List UInt8:=zn x++wV x.Refs++oC x.Areas++CE x.Text
theorem Mi:∀{l m:List ByteArray} {X Y:List UInt8},(∀r∈l,keyB r=true)->(∀r∈m,keyB r=true)->X.head? ≠ some 114->Y.head? ≠ some 114->wV l++X=wV m++Y->l=m/\X=Y
 | [],[],X,Y,_,_,_,_,h=>⟨rfl,by simpa [wV]using h⟩
 | [],r::m,X,Y,_,_,A,_,h=>by
  simp only [wV,List.nil_append,List.cons_append]at h
  rw [h]at A;simp at A
 | r::l,[],X,Y,_,_,_,o,h=>by
  simp only [wV,List.nil_append,List.cons_append]at h
  rw [<- h]at o;simp at o
 | r::l,q::m,X,Y,hl,hm,A,o,h=>by
  simp only [wV,List.append_assoc,List.cons_append,List.nil_append,List.cons.injEq,true_and]at h
  obtain ⟨h1,h2⟩:=wS (DJ (hl r (by simp)) (by decide)) (DJ (hm q (by simp)) (by decide)) h
  obtain ⟨F,I⟩:=Mi (λa B=>hl a (List.mem_cons_of_mem _ B)) (λa B=>hm a (List.mem_cons_of_mem _ B)) A o h2
  exact⟨by rw [KV h1,F],I⟩
theorem R5 {r q:Rect} (h:xN r=xN q):r=q:=by
 obtain ⟨a,b,c,d⟩:=r
 obtain ⟨I,b',B,F⟩:=q
 simp only [xN,List.cons.injEq,and_true]at h
 obtain ⟨h1,h2,o,A⟩:=h
 subst h1 h2 o A;rfl
theorem Jz:∀{l m:List Rect} {X Y:List UInt8},X.head? ≠ some 97->Y.head? ≠ some 97->oC l++X=oC m++Y->l=m/\X=Y
 | [],[],X,Y,_,_,h=>⟨rfl,by simpa [oC]using h⟩
 | [],r::m,X,Y,A,_,h=>by
  simp only [oC,List.nil_append,List.cons_append]at h
  rw [h]at A;simp at A
 | r::l,[],X,Y,_,o,h=>by
  simp only [oC,List.nil_append,List.cons_append]at h
  rw [<- h]at o;simp at o
 | r::l,q::m,X,Y,A,o,h=>by
  simp only [oC,List.append_assoc,List.cons_append,List.nil_append,List.cons.injEq,true_and]at h
  obtain ⟨h1,h2⟩:=wS (Dj (by decide) (by decide) (by decide) _) (Dj (by decide) (by decide) (by decide) _) h
  obtain ⟨B,F⟩:=Jz A o h2
  exact⟨by rw [R5 (D5 (l:=xN r) (m:=xN q) rfl h1),B],F⟩
theorem TL {t u:ByteArray} (h:CE t=CE u):t=u:=by
 unfold CE at h
 by_cases ht:t=⟨#[]⟩ <;> by_cases hu:u=⟨#[]⟩
 ·exact ht.trans hu.symm
 ·rw [if_pos ht,if_neg hu]at h;simp at h
 ·rw [if_neg ht,if_pos hu]at h;simp at h
 ·rw [if_neg ht,if_neg hu]at h
  have h2:=List.append_cancel_right h
  have o:=List.append_cancel_left h2
  exact KV o
theorem Ej (t:ByteArray):(CE t).head? ≠ some 97/\(CE t).head? ≠ some 114:=by
 unfold CE
 split
 ·simp
 ·simp
theorem G8 (l:List Rect) (t:ByteArray):(oC l++CE t).head? ≠ some 114:=by
 cases l with
 | nil=>simpa [oC]using (Ej t).2
 | cons r l=>simp [oC]
theorem Pk {k:Int} {c:UInt8} (hc:c=32\/c=10):c∉EK k:=by
 unfold EK
 split
 ·rcases hc with rfl|rfl <;> decide
 ·split
  ·rcases hc with rfl|rfl <;> decide
  ·rcases hc with rfl|rfl <;> decide
theorem word_inj {k m:Int} (B:1<=k/\k<=3) (hm:1<=m/\m<=3) (h:EK k=EK m):k=m:=by
 have o:k=1\/k=2\/k=3:=by omega
 have A:m=1\/m=2\/m=3:=by omega
 rcases o with rfl|rfl|rfl <;> rcases A with rfl|rfl|rfl <;> first|rfl|exact absurd h (by decide)
theorem Qk {a b:Alert} (A:RF a) (hb:RF b) (h:JN a=JN b):a=b:=by
 unfold JN zn at h
 simp only [List.append_assoc,List.cons_append,List.nil_append,List.cons.injEq,true_and]at h
 obtain ⟨h1,h2⟩:=wS (DJ A.id (by decide)) (DJ hb.id (by decide)) h
 obtain ⟨h3,Y⟩:=wS (DJ A.sender (by decide)) (DJ hb.sender (by decide)) h2
 obtain ⟨R,Z⟩:=wS (Pk (.inl rfl)) (Pk (.inl rfl)) Y
 obtain ⟨W,X⟩:=wS (Dj (by decide) (by decide) (by decide) _) (Dj (by decide) (by decide) (by decide) _) Z
 obtain ⟨L,B⟩:=Mi A.refs hb.refs (G8 _ _) (G8 _ _) X
 obtain ⟨o,F⟩:=Jz (Ej _).1 (Ej _).1 B
 have J:=KV h1
 have I:=KV h3
 have M:=word_inj A.kind hb.kind R
 have N:=D5 (l:=[a.At,a.Until,a.Weight]) (m:=[b.At,b.Until,b.Weight]) rfl W
 have e5:=TL F
 obtain ⟨a1,a2,a3,a4,a5,a6,a7,a8,a9⟩:=a
 obtain ⟨b1,b2,b3,b4,b5,b6,b7,b8,b9⟩:=b
 simp only [List.cons.injEq,and_true]at J I M N e5 L o
 obtain ⟨O,f2,f3⟩:=N
 subst J I M O f2 f3 e5 L o
 rfl
end Go.Proofs.YtadpbmfnnlkdlacGreatDoor.Law

open Go Go.Eng
namespace Go.Proofs.YtadpbmfnnlkdlacGreatDoor.Law
set_option linter.unusedVariables false
set_option linter.unusedSimpArgs false
end Go.Proofs.YtadpbmfnnlkdlacGreatDoor.Law

open Go Go.Eng
namespace Go.Proofs.YtadpbmfnnlkdlacGreatDoor.Law
set_option linter.unusedVariables false
set_option linter.unusedSimpArgs false
theorem PS {s:ByteArray} (h:ShA s):s.data.toList.length<=1000:=by rw [<- Go.Lib.size_eq];exact h
theorem J2:∀(l:List ByteArray),(∀r∈l,ShA r)->(wV l).length<=l.length*1005
 | [],_=>by simp [wV]
 | r::l,h=>by
  have:=PS (h r (by simp))
  have:=J2 l (λa o=>h a (List.mem_cons_of_mem _ o))
  simp only [wV,List.length_append,List.length_cons,List.length_nil,Nat.add_mul]
  omega
theorem JY:∀(l:List ByteArray) (k:Nat) (o:List UInt8),(∀r∈l,ShA r)->o.length+l.length*2000<=1000000->forR (λk x s=>jX k x s) l k (SB o)=some (.go (SB (o++wV l)))
 | [],k,o,_,_=>by simp [forR,wV]
 | r::l,k,o,h,hl=>by
  have L:=PS (h r (by simp))
  simp only [List.length_cons,Nat.add_mul]at hl
  have J:r=SB r.data.toList:=rfl
  have hs:jX k r (SB o)=some (.go (SB (o++([114,101,102,32]++r.data.toList++[10])))):=by
   unfold jX
   have F:pJ (⟨#[114,101,102,32]⟩:ByteArray) r=some (SB ([114,101,102,32]++r.data.toList)):=xJ [114,101,102,32] r.data.toList (by simp only [List.length_append,List.length_cons,List.length_nil];omega)
   have B:pJ (SB ([114,101,102,32]++r.data.toList)) (⟨#[10]⟩:ByteArray)=some (SB ([114,101,102,32]++r.data.toList++[10])):=xJ _ [10] (by simp only [List.length_append,List.length_cons,List.length_nil];omega)
   have I:=xJ o ([114,101,102,32]++r.data.toList++[10]) (by simp only [List.length_append,List.length_cons,List.length_nil];omega)
   simp only [F,B,I,ob_]
  simp only [forR,hs,ob_]
  rw [JY l (k+1) _ (λa A=>h a (List.mem_cons_of_mem _ A)) (by simp only [List.length_append,List.length_cons,List.length_nil];omega)]
  simp [wV]
theorem medR {r:Rect} (h:Fine r):∀n∈xN r,Med n:=λn o=>by
 obtain ⟨h1,h2,A,F,B⟩:=h
 simp only [xN,List.mem_cons,List.not_mem_nil,or_false]at o
 unfold Med
 rcases o with rfl|rfl|rfl|rfl <;> omega
theorem Iy:∀(l:List Rect),(∀r∈l,Fine r)->(oC l).length<=l.length*100
 | [],_=>by simp [oC]
 | r::l,h=>by
  have:=IM (xN r) (medR (h r (by simp)))
  have A:(xN r).length=4:=rfl
  have:=Iy l (λa o=>h a (List.mem_cons_of_mem _ o))
  simp only [oC,List.length_append,List.length_cons,List.length_nil,Nat.add_mul]
  omega
theorem HV:∀(l:List Rect) (k:Nat) (o:List UInt8),(∀r∈l,Fine r)->o.length+l.length*2000<=1000000->forR (λk x s=>jY k x s) l k (SB o)=some (.go (SB (o++oC l)))
 | [],k,o,_,_=>by simp [forR,oC]
 | r::l,k,o,h,hl=>by
  have hm:=medR (h r (by simp))
  have L:=IM (xN r) hm
  have M:(xN r).length=4:=rfl
  simp only [List.length_cons,Nat.add_mul]at hl
  have A:ou [r.X,r.Y,r.W,r.H]=some (SB (Go.Lib.join ((xN r).map Go.Lib.itoa) [32])):=GK (xN r) hm (by omega)
  have hs:jY k r (SB o)=some (.go (SB (o++([97,114,101,97,32]++Go.Lib.join ((xN r).map Go.Lib.itoa) [32]++[10])))):=by
   unfold jY
   have I:pJ (⟨#[97,114,101,97,32]⟩:ByteArray) (SB (Go.Lib.join ((xN r).map Go.Lib.itoa) [32]))=some (SB ([97,114,101,97,32]++Go.Lib.join ((xN r).map Go.Lib.itoa) [32])):=xJ [97,114,101,97,32] _ (by simp only [List.length_cons,List.length_nil];omega)
   have F:pJ (SB ([97,114,101,97,32]++Go.Lib.join ((xN r).map Go.Lib.itoa) [32])) (⟨#[10]⟩:ByteArray)=some (SB ([97,114,101,97,32]++Go.Lib.join ((xN r).map Go.Lib.itoa) [32]++[10])):=xJ _ [10] (by simp only [List.length_append,List.length_cons,List.length_nil];omega)
   have J:=xJ o ([97,114,101,97,32]++Go.Lib.join ((xN r).map Go.Lib.itoa) [32]++[10]) (by simp only [List.length_append,List.length_cons,List.length_nil];omega)
   simp only [A,I,F,J,ob_]
  simp only [forR,hs,ob_]
  rw [HV l (k+1) _ (λa B=>h a (List.mem_cons_of_mem _ B)) (by simp only [List.length_append,List.length_cons,List.length_nil];omega)]
  simp [oC]
theorem LP {x:Alert} (h:RA x):lZ [x]=some (SB (JN x)):=by
 obtain ⟨o,O⟩:=h
 have hf:=ra_f O
 obtain ⟨f1,f2,f3⟩:=alF_0 o O
 have l1:=PS o.id
 have l2:=PS o.sender
 have l3:=ML x.Text o.text
 have W:x.Kind=1\/x.Kind=2\/x.Kind=3:=by have:=hf.kind;omega
 have hm:∀n∈([x.At,x.Until,x.Weight]:List Int),Med n:=λn R=>by
  have:=hf.weight
  simp only [List.mem_cons,List.not_mem_nil,or_false]at R
  unfold Med
  rcases R with rfl|rfl|rfl <;> omega
 have F:=GK [x.At,x.Until,x.Weight] hm (by simp)
 have L:=IM [x.At,x.Until,x.Weight] hm
 simp only [List.length_cons,List.length_nil]at L
 have hw:idx ([(⟨#[]⟩:ByteArray),(⟨#[110,101,119]⟩:ByteArray),(⟨#[117,112,100,97,116,101]⟩:ByteArray),(⟨#[99,97,110,99,101,108]⟩:ByteArray)]:List ByteArray) x.Kind=some (SB (EK x.Kind)):=by
  rcases W with e|e|e <;> rw [e] <;> rfl
 have hwl:(EK x.Kind).length<=6:=by
  rcases W with e|e|e <;> rw [e] <;> decide
 have hR:=J2 x.Refs o.refs
 have hA:=Iy x.Areas f3
 have b1:=o.rlen
 have b2:=o.alen
 have e1:x.Id=SB x.Id.data.toList:=rfl
 have Z:pJ (⟨#[97,108,101,114,116,32]⟩:ByteArray) x.Id=some (SB ([97,108,101,114,116,32]++x.Id.data.toList)):=xJ [97,108,101,114,116,32] x.Id.data.toList (by simp only [List.length_cons,List.length_nil];omega)
 have J:∀l:List UInt8,l.length<=100000->pJ (SB l) (⟨#[32]⟩:ByteArray)=some (SB (l++[32])):=λl hl=>xJ l [32] (by simp only [List.length_cons,List.length_nil];omega)
 have c3:∀l:List UInt8,l.length<=100000->pJ (SB l) x.Sender=some (SB (l++x.Sender.data.toList)):=λl hl=>xJ l x.Sender.data.toList (by omega)
 have N:∀l:List UInt8,l.length<=100000->pJ (SB l) (⟨#[10]⟩:ByteArray)=some (SB (l++[10])):=λl hl=>xJ l [10] (by simp only [List.length_cons,List.length_nil];omega)
 have M:∀l m:List UInt8,l.length<=100000->m.length<=100000->pJ (SB l) (SB m)=some (SB (l++m)):=λl m hl hm=>xJ l m (by omega)
 have X:pJ (⟨#[]⟩:ByteArray) (SB (zn x))=some (SB (zn x)):=by
  have hh:(zn x).length<=100000:=by unfold zn;simp only [List.length_append,List.length_cons,List.length_nil];omega
  have:=xJ [] (zn x) (by simp only [List.length_nil];omega)
  simpa using this
 have hh:(zn x).length<=3000:=by unfold zn;simp only [List.length_append,List.length_cons,List.length_nil];omega
 have B:lD 0 x (⟨#[]⟩:ByteArray)=some (.go (SB (JN x))):=by
  unfold lD qV
  rw [Z,ob_,J _ (by simp only [List.length_append,List.length_cons,List.length_nil];omega),ob_,c3 _ (by simp only [List.length_append,List.length_cons,List.length_nil];omega),ob_,J _ (by simp only [List.length_append,List.length_cons,List.length_nil];omega),ob_,ob_,hw,ob_,
   M _ _ (by simp only [List.length_append,List.length_cons,List.length_nil];omega) (by omega),ob_,J _ (by simp only [List.length_append,List.length_cons,List.length_nil];omega),ob_,F,ob_,M _ _ (by simp only [List.length_append,List.length_cons,List.length_nil];omega) (by omega),ob_,
   N _ (by simp only [List.length_append,List.length_cons,List.length_nil];omega),ob_]
  have I:=X
  unfold zn at I
  rw [I,ob_]
  have A:([97,108,101,114,116,32]++x.Id.data.toList++[32]++x.Sender.data.toList++[32]++EK x.Kind++[32]++Go.Lib.join (([x.At,x.Until,x.Weight]:List Int).map Go.Lib.itoa) [32]++[10])=zn x:=rfl
  rw [A,ja (by omega),JY x.Refs 0 (zn x) o.refs (by omega),ob_,tY,ja (by omega),HV x.Areas 0 _ f3 (by simp only [List.length_append];omega),ob_,tY]
  unfold JN CE
  by_cases ht:x.Text=⟨#[]⟩
  ·have e:sNe x.Text (⟨#[]⟩:ByteArray)=false:=by rw [uY];simp [ht]
   rw [e,cond_false,if_pos ht,List.append_nil];rfl
  ·have e:sNe x.Text (⟨#[]⟩:ByteArray)=true:=by rw [uY];simp [ht]
   have lt':x.Text.data.toList.length<=16:=by rw [<- Go.Lib.size_eq];exact l3
   have Y:pJ (⟨#[116,101,120,116,32]⟩:ByteArray) x.Text=some (SB ([116,101,120,116,32]++x.Text.data.toList)):=xJ [116,101,120,116,32] x.Text.data.toList (by simp only [List.length_cons,List.length_nil];omega)
   rw [e,cond_true,if_neg ht,Y,ob_,N _ (by simp only [List.length_append,List.length_cons,List.length_nil];omega),ob_,M _ _ (by simp only [List.length_append];omega) (by simp only [List.length_append,List.length_cons,List.length_nil];omega),ob_]
   rfl
 unfold lZ
 rw [ja (by simp)]
 simp only [forR,B,ob_,tY]
theorem sameRA {a b:Alert} (o:RA a) (hb:RA b):qd a b=some (decide (a=b)):=by
 unfold qd
 rw [LP o,LP hb,ob_,ob_,ym]
 congr 1
 rw [Bool.eq_iff_iff,decide_eq_true_eq,decide_eq_true_eq]
 constructor
 ·exact λh=>Qk (ra_f o.2) (ra_f hb.2) (sb_inj h)
 ·rintro rfl;rfl
end Go.Proofs.YtadpbmfnnlkdlacGreatDoor.Law

open Go Go.Eng
namespace Go.Proofs.YtadpbmfnnlkdlacGreatDoor.Law
set_option linter.unusedVariables false
set_option linter.unusedSimpArgs false
def QL (x:Int):List Int->List Int
 | []=>[x]
 | y::l=>bif decide (x<=y)then x::y::l else y::QL x l
def Ih:List Int->List Int
 | []=>[]
 | x::l=>QL x (Ih l)
theorem Et (x:Int):∀l,(QL x l).Perm (x::l)
 | [] => .refl _
 | y::l=>by
  unfold QL
  cases decide (x<=y)with
  | true=>exact .refl _
  | false=>exact ((Et x l).cons y).trans (List.Perm.swap x y l)
theorem EN:∀l,(Ih l).Perm l
 | [] => .refl _
 | x::l=>(Et x _).trans ((EN l).cons x)
theorem EW (x:Int):∀l:List Int,l.Pairwise (· <= ·)->(QL x l).Pairwise (· <= ·)
 | [],_=>List.pairwise_singleton _ _
 | y::l,h=>by
  obtain ⟨h1,h2⟩:=List.pairwise_cons.1 h
  unfold QL
  by_cases hx:x<=y
  ·rw [decide_eq_true hx,cond_true]
   exact List.pairwise_cons.2 ⟨λz o=>by
    rcases List.mem_cons.1 o with rfl|o
    ·exact hx
    ·exact Int.le_trans hx (h1 z o),h⟩
  ·rw [decide_eq_false hx,cond_false]
   exact List.pairwise_cons.2 ⟨λz o=>by
    rcases List.mem_cons.1 ((Et x l).mem_iff.1 o)with rfl|o
    ·omega
    ·exact h1 z o,EW x l h2⟩
theorem Bw:∀l,(Ih l).Pairwise (· <= ·)
 | [] => .nil
 | x::l=>EW x _ (Bw l)
theorem QS (l:List Int):l.mergeSort (λx y=>decide (x<=y))=Ih l:=by
 refine List.Perm.eq_of_pairwise (le:=(· <= ·)) (λa b _ _ h1 h2=>Int.le_antisymm h1 h2) ?_ (Bw l) ((List.mergeSort_perm l _).trans (EN l).symm)
 have:=List.pairwise_mergeSort (le:=λ(x y:Int)=>decide (x<=y)) (λa b c=>by simp;omega) (λa b=>by simp;omega) l
 exact this.imp (by simp)
def zS (l:List Int):Option (List Int):=bif Nat.ble l.length 1000 then some (Ih l)else none
theorem SN (l:List Int):Le (zS l) (fH l):=λr h=>by
 unfold zS at h
 cases hb:Nat.ble l.length 1000 with
 | false=>rw [hb]at h;cases h
 | true =>
  rw [hb,cond_true]at h
  have:=Nat.le_of_ble_eq_true hb
  unfold fH LC
  rw [if_pos (by omega),QS];exact h
end Go.Proofs.YtadpbmfnnlkdlacGreatDoor.Law

