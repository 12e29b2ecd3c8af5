/-
  THE PLAIN LAW (part 2).
-/
import Derived.Test.YtadpbmfnnlkdlacGreatDoorPl1
import Derived.Test.YtadpbmfnnlkdlacGreatDoorDefs
open Go Go.Eng
namespace Go.Proofs.YtadpbmfnnlkdlacGreatDoor.Law
set_option linter.unusedVariables false
set_option linter.unusedSimpArgs false
structure CA (l:List Alert):Prop where
 ids:(l.map (·.Id)).Nodup
 len:l.length<=12
 refs:∀x∈l,x.Refs.length<=1000
 alen:∀x∈l,x.Areas.length<=1000
 areas:∀x∈l,∀r∈x.Areas,Fine r
 at_:∀x∈l,0<=x.At/\x.At<=1000000000000
 until_:∀x∈l,0<=x.Until/\x.Until<=2000000000000
theorem RAlerts.ca {l:List Alert} {n:Nat} (h:RAlerts l n) (B:n<=12):CA l:=by
 refine⟨h.ids,by have:=h.len;omega,λx o => ?_,λx o => ?_,λx o r A=>((h.right x o).areas r A).1,λx o => ?_,λx o => ?_⟩
 ·have:=(h.right x o).refsLen;omega
 ·have:=(h.right x o).alen;omega
 ·have:=(h.right x o).at_;omega
 ·have:=(h.right x o).at_;have:=(h.right x o).until_;omega
theorem GN {l:List Alert} (h:(l.map (·.Id)).Nodup) {i j:Nat} {a b:Alert} (F:l[i]? = some a) (hb:l[j]? = some b) (e:a.Id=b.Id):i=j:=by
 obtain ⟨h1,B⟩:=List.getElem?_eq_some_iff.1 F
 obtain ⟨h2,A⟩:=List.getElem?_eq_some_iff.1 hb
 have o:=List.pairwise_iff_getElem.1 h
 rcases Nat.lt_trichotomy i j with q|q|q
 ·exact absurd (by rw [List.getElem_map,List.getElem_map,B,A];exact e) (o i j (by simpa using h1) (by simpa using h2) q)
 ·exact q
 ·exact absurd (by rw [List.getElem_map,List.getElem_map,B,A];exact e.symm) (o j i (by simpa using h2) (by simpa using h1) q)
theorem PR (l:List Alert) (a z:Alert):rX (l++[a]) z=bif cutB a z then min (rX l z) a.At else rX l z:=by
 unfold rX
 rw [List.foldl_append];rfl
def Ng (a:Alert) (j:Nat) (z:Alert):Bool:=decide (z.Id∈a.Refs.take j)&&(decide (z.Sender=a.Sender)&&decide (befA z a))
def yl (l:List Alert) (k:Nat) (a:Alert) (j:Nat) (z:Alert):Int:=bif Ng a j z then min (rX (l.take k) z) a.At else rX (l.take k) z
theorem endJ_0 (l:List Alert) (k:Nat) (a z:Alert):yl l k a 0 z=rX (l.take k) z:=by
 unfold yl Ng
 rw [decide_eq_false (by simp)];rfl
theorem SC {l:List Alert} {k:Nat} {a:Alert} (h:l[k]? = some a) (z:Alert):yl l k a a.Refs.length z=rX (l.take (k+1)) z:=by
 have et:l.take (k+1)=l.take k++[a]:=by rw [List.take_add_one,h];rfl
 rw [et,PR]
 unfold yl Ng cutB
 rw [List.take_length]
theorem H5 {a o:Alert} {r:ByteArray}:BL a o r=true↔o.Id=r/\o.Sender=a.Sender/\befA o a:=by
 unfold BL
 simp only [Bool.and_eq_true,decide_eq_true_eq]
theorem ML {a z:Alert} {j:Nat}:Ng a j z=true↔z.Id∈a.Refs.take j/\z.Sender=a.Sender/\befA z a:=by
 unfold Ng
 simp only [Bool.and_eq_true,decide_eq_true_eq]
theorem QE {a z:Alert} {j:Nat} {r:ByteArray} (o:a.Refs[j]? = some r):Ng a (j+1) z=(Ng a j z||BL a z r):=by
 have et:a.Refs.take (j+1)=a.Refs.take j++[r]:=by rw [List.take_add_one,o];rfl
 rw [Bool.eq_iff_iff,Bool.or_eq_true,ML,ML,H5,et,List.mem_append,List.mem_singleton]
 constructor
 ·rintro ⟨h|h,k⟩
  ·exact .inl ⟨h,k⟩
  ·exact .inr ⟨h,k⟩
 ·rintro (⟨h,k⟩|⟨h,k⟩)
  ·exact⟨.inl h,k⟩
  ·exact⟨.inr h,k⟩
theorem El {l:List Alert} {k j:Nat} {a z:Alert} {r:ByteArray} (h:a.Refs[j]? = some r):yl l k a (j+1) z=bif BL a z r then min (yl l k a j z) a.At else yl l k a j z:=by
 unfold yl
 rw [QE h]
 cases Ng a j z <;> cases BL a z r <;> simp only [Bool.or_true,Bool.or_false,Bool.false_or,Bool.true_or,cond_true,cond_false]
 omega
theorem map_none {l:List Alert} {k j:Nat} {a:Alert} {r:ByteArray} (B:a.Refs[j]? = some r) (h:l.any (λo=>BL a o r)=false):l.map (yl l k a (j+1))=l.map (yl l k a j):=by
 refine List.map_congr_left (λz A => ?_)
 have:BL a z r=false:=by
  rw [<- Bool.not_eq_true];intro e
  have:l.any (λo=>BL a o r)=true:=List.any_eq_true.2 ⟨z,A,e⟩
  rw [h]at this;cases this
 rw [El B,this,cond_false]
theorem map_one {l:List Alert} (o:(l.map (·.Id)).Nodup) {k j i:Nat} {a z:Alert} {r:ByteArray} (B:a.Refs[j]? = some r) (A:l[i]? = some z) (h:BL a z r=true):l.map (yl l k a (j+1))=(l.map (yl l k a j)).set i (min (yl l k a j z) a.At):=by
 refine List.ext_getElem? (λn => ?_)
 rw [List.getElem?_map,List.getElem?_set]
 by_cases hin:i=n
 ·subst hin
  obtain ⟨h1,_⟩:=List.getElem?_eq_some_iff.1 A
  rw [if_pos rfl,if_pos (by simpa using h1),A,Option.map_some,El B,h,cond_true]
 ·rw [if_neg hin,List.getElem?_map]
  cases hn:l[n]? with
  | none=>rfl
  | some y =>
   rw [Option.map_some,Option.map_some,El B]
   have:BL a y r=false:=by
    rw [<- Bool.not_eq_true];intro e
    exact hin (GN o A hn ((H5.1 h).1.trans (H5.1 e).1.symm))
   rw [this,cond_false]
theorem LW {α:Type} {f:α->Option Bool} {p:α->Bool} {B:Nat->α->Unit->Option (Ctl Unit Int)} (o:∀k x,B k x ()=(f x).bind λr=>bif r then some (.ret (k:Int))else some (.go ())):∀(xs:List α) (k:Nat),(∀x∈xs,f x=some (p x)) ->
  (xs.any p=false/\forR B xs k ()=some (.go ()))\/∃(j:Nat) (x:α),xs[j]? = some x/\p x=true/\(∀(i:Nat) (y:α),i<j->xs[i]? = some y->p y=false)/\forR B xs k ()=some (.ret ((k+j:Nat):Int))/\xs.any p=true
 | [],k,h => .inl ⟨rfl,rfl⟩
 | x::xs,k,h=>by
  have F:=h x (by simp)
  cases hp:p x with
  | true =>
   refine .inr ⟨0,x,rfl,hp,λi y hi=>absurd hi (Nat.not_lt_zero _),?_,by rw [List.any_cons,hp];rfl⟩
   rw [forR,o,F,hp];rfl
  | false =>
   have J:forR B (x::xs) k ()=forR B xs (k+1) ():=by rw [forR,o,F,hp];rfl
   rw [J,List.any_cons,hp,Bool.false_or]
   rcases LW o xs (k+1) (λy I=>h y (by simp [I]))with⟨h1,h2⟩|⟨j,y,h1,h2,L,N,M⟩
   ·exact .inl ⟨h1,h2⟩
   ·refine .inr ⟨j+1,y,h1,h2,λi z hi A => ?_,by rw [N];congr 3;omega,M⟩
    cases i with
    | zero=>rw [List.getElem?_cons_zero,so_]at A;rw [<- A];exact hp
    | succ i=>exact L i z (by omega) (by simpa using A)
theorem minI_m (a b:Int):Al a b=min a b:=by unfold Al;split <;> omega
theorem ET (a b:Alert):∃n,ja a b=some n/\(n<0↔befA a b):=by
 refine⟨_,by simp only [ja,sO,xR,Ku,ob_];rfl,?_⟩
 rw [yY,Ab,Aw,xL];rfl
theorem QX (a o:Alert) (r:ByteArray):mY o r a=some (BL a o r):=by
 obtain ⟨n,h,A⟩:=ET o a
 unfold mY BL
 rw [yK,yK,h]
 have:decide (n<0)=decide (befA o a):=by rw [decide_eq_decide];exact A
 cases decide (o.Id=r) <;> cases decide (o.Sender=a.Sender) <;> simp [this]
theorem find_eq {l:List Alert} (hl:l.length<=1000) (a:Alert) (r:ByteArray):(rY l a r=some (-1)/\l.any (λo=>BL a o r)=false)\/∃(j:Nat) (z:Alert),rY l a r=some (j:Int)/\l[j]? = some z/\BL a z r=true:=by
 unfold rY eP
 rw [je (by omega)]
 rcases LW (f:=λh=>mY h r a) (p:=λo=>BL a o r) (B:=λk x s=>dU (λh=>mY h r a) k x s) (λk x=>rfl) l 0 (λx _=>QX a x r)with⟨h1,h2⟩|⟨j,x,h1,h2,_,A,_⟩
 ·rw [h2];exact .inl ⟨rfl,h1⟩
 ·rw [A];exact .inr ⟨j,x,by simp only [ob_,thenC,Nat.zero_add],h1,h2⟩
theorem QN {l:List Alert} (h:CA l) {k j:Nat} {a:Alert} {r:ByteArray} (A:a.Refs[j]? = some r):nH l a j r (l.map (yl l k a j))=some (.go (l.map (yl l k a (j+1)))):=by
 have hl:=h.len
 unfold nH
 rcases find_eq (Nat.le_trans hl (by decide)) a r with⟨h1,h2⟩|⟨i,z,h1,h2,B⟩
 ·rw [h1,ob_,decide_eq_false (by decide),cond_false,ob_,map_none A h2]
 ·obtain ⟨hi,_⟩:=List.getElem?_eq_some_iff.1 h2
  have F:(l.map (yl l k a j))[(0+((i:Int)).toNat)]? = some (yl l k a j z):=by
   rw [show 0+((i:Int)).toNat=i by omega,List.getElem?_map,h2];rfl
  have o:inR (i:Int) (l.map (yl l k a j))=some ():=zK (by omega) (by rw [List.length_map];omega)
  rw [h1,ob_,decide_eq_true (by omega),cond_true,o,F]
  simp only [ob_]
  rw [map_one h.ids A h2 B,minI_m,show 0+((i:Int)).toNat=i by omega]
theorem PL {l:List Alert} (h:CA l):su l=some (l.map (rX l)):=by
 have hl:=h.len
 unfold su
 obtain ⟨t,A,t2⟩:=kS (body:=λk x s=>qd k x s) (λk s=>s=(l.take k).map (·.Until)) (xs:=l) (s:=([]:List Int)) (by omega) (λk x s o hs=>by
  have et:l.take (k+1)=l.take k++[x]:=by rw [List.take_add_one,o];rfl
  have M:(l.take k).length<=l.length:=by rw [List.length_take];exact Nat.min_le_right _ _
  unfold qd
  rw [hs,kW _ _ (by simp only [List.length_map,List.length_cons,List.length_nil];omega)]
  exact⟨_,rfl,by rw [et,List.map_append];rfl⟩) rfl
 rw [A,t2,List.take_length]
 simp only [ob_,thenC]
 obtain ⟨u,F,I⟩:=kS (body:=λk x s=>qh l k x s) (λk s=>s=l.map (rX (l.take k))) (xs:=l) (s:=l.map (·.Until)) (by omega) (λk x s o hs=>by
  have B:=h.refs x (List.mem_of_getElem? o)
  obtain ⟨v,J,v2⟩:=kS (body:=λj r s=>nH l x j r s) (λj s=>s=l.map (yl l k x j)) (xs:=x.Refs) (s:=s) (by omega) (λj r s L hs=>by
   rw [hs]
   exact⟨_,QN h L,rfl⟩) (by rw [hs];exact List.map_congr_left (λz _=>(endJ_0 l k x z).symm))
  unfold qh
  rw [J]
  exact⟨v,rfl,by rw [v2];exact List.map_congr_left (λz _=>SC o z)⟩) rfl
 rw [F,I,List.take_length]
 rfl
theorem isOn_eq (l:List Alert) (a:Alert) (t:Int):vw a (rX l a) t=some (onB l t a):=by
 unfold vw onB
 have e:(a.Kind != 3)=decide (a.Kind≠3):=by rw [Bool.eq_iff_iff];simp
 rw [e]
 cases decide (a.Kind≠3) <;> cases decide (a.At<=t) <;> rfl
end Go.Proofs.YtadpbmfnnlkdlacGreatDoor.Law

open Go Go.Eng
namespace Go.Proofs.YtadpbmfnnlkdlacGreatDoor.Law
set_option linter.unusedVariables false
set_option linter.unusedSimpArgs false
set_option maxRecDepth 100000
def chA {α:Type} (stp:Option α->α->Int):Option α->List α->Int
 | _,[]=>0
 | p,x::l=>bif stp p x==0 then chA stp (some x) l else stp p x
def rU {α:Type} (l:List α) (k:Nat):Option α:=if k=0 then none else l[k-1]?
theorem Lj {α:Type} {stp:Option α->α->Int} {body:Nat->α->Unit->Option (Ctl Unit Int)} (l:List α):∀(xs:List α) (k:Nat),l.drop k=xs->(∀k x,l[k]? = some x->body k x ()=some (Bb (stp (rU l k) x)))->forR body xs k ()=some (Bb (chA stp (rU l k) xs))
 | [],k,_,_=>rfl
 | x::xs,k,o,h=>by
  have A:=MC o
  have B:rU l (k+1)=some x:=by unfold rU;rw [if_neg (by omega)];exact A
  rw [forR,h k x A,ob_,chA]
  cases hs:stp (rU l k) x==0 with
  | true =>
   have e:Bb (stp (rU l k) x) = .go ():=by unfold Bb;rw [hs];rfl
   rw [e,cond_true,<- B]
   exact Lj l xs (k+1) (aP o) h
  | false =>
   have e:Bb (stp (rU l k) x) = .ret (stp (rU l k) x):=by unfold Bb;rw [hs];rfl
   rw [e,cond_false,e]
theorem Ke {α:Type} {stp:Option α->α->Int} {body:Nat->α->Unit->Option (Ctl Unit Int)} {l:List α} (hl:l.length<=1000000) (h:∀k x,l[k]? = some x->body k x ()=some (Bb (stp (rU l k) x))):forL l () body=some (Bb (chA stp none l)):=by
 rw [je (by omega)]
 exact Lj l l 0 rfl h
theorem PE {α:Type} {stp:Option α->α->Int}:∀{l:List α} {p:Option α},chA stp p l=0->∀(i:Nat) (x:α),l[i]? = some x->∃q,stp q x=0/\(i=0->q=p)/\(0<i->q=l[i-1]?)
 | [],p,_,i,x,o=>by simp at o
 | y::l,p,h,i,x,o=>by
  rw [chA]at h
  cases hs:stp p y==0 with
  | false=>rw [hs,cond_false]at h;rw [h]at hs;exact absurd hs (by decide)
  | true =>
   rw [hs,cond_true]at h
   cases i with
   | zero =>
    rw [List.getElem?_cons_zero,so_]at o
    exact⟨p,by rw [<- o];exact eq_of_beq hs,λ_=>rfl,λh=>absurd h (Nat.lt_irrefl _)⟩
   | succ i =>
    rw [List.getElem?_cons_succ]at o
    obtain ⟨q,A,F,B⟩:=PE h i x o
    refine⟨q,A,λh=>absurd h (by omega),λ_ => ?_⟩
    cases i with
    | zero=>rw [F rfl];rfl
    | succ i=>rw [B (by omega)];simp
theorem GD (e:Int):(e=0/\Bb e = .go ())\/(e≠0/\Bb e = .ret e):=by
 unfold Bb
 by_cases h:e=0
 ·subst h;exact .inl ⟨rfl,rfl⟩
 ·have:(e==0)=false:=by simpa using h
  rw [this];exact .inr ⟨h,rfl⟩
def uy (s:ByteArray):Bool:=decide (s=⟨#[]⟩)||(decide (s=overS)||(decide (s=floodS)||decide (s=mallS)))
theorem PW:∀s∈txtL,mQ s=some (uy s)/\True:=by
 intro s hs
 unfold txtL at hs
 simp only [List.mem_cons,List.not_mem_nil,or_false]at hs
 rcases hs with rfl|rfl|rfl|rfl|rfl|rfl|rfl|rfl
 ·exact⟨dY _ _ (show eO ⟨#[]⟩=some (uy ⟨#[]⟩) by kernel_rfl),trivial⟩
 ·exact⟨dY _ _ (show eO overS=some (uy overS) by kernel_rfl),trivial⟩
 ·exact⟨dY _ _ (show eO floodS=some (uy floodS) by kernel_rfl),trivial⟩
 ·exact⟨dY _ _ (show eO mallS=some (uy mallS) by kernel_rfl),trivial⟩
 ·exact⟨dY _ _ (show eO ⟨#[32,120]⟩=some (uy ⟨#[32,120]⟩) by kernel_rfl),trivial⟩
 ·exact⟨dY _ _ (show eO ⟨#[97,32,32,98]⟩=some (uy ⟨#[97,32,32,98]⟩) by kernel_rfl),trivial⟩
 ·exact⟨dY _ _ (show eO ⟨#[10]⟩=some (uy ⟨#[10]⟩) by kernel_rfl),trivial⟩
 ·exact⟨dY _ _ (show eO ⟨#[255]⟩=some (uy ⟨#[255]⟩) by kernel_rfl),trivial⟩
theorem MW:∀s∈txtL,s.size<=16:=by
 intro s hs
 unfold txtL at hs
 simp only [List.mem_cons,List.not_mem_nil,or_false]at hs
 rcases hs with rfl|rfl|rfl|rfl|rfl|rfl|rfl|rfl <;> decide
def Jq {α:Type} (f:α->Bool):Option α->Bool
 | some y=>f y
 | none=>false
def Cg (id:ByteArray) (p:Option ByteArray) (r:ByteArray):Int:=bif !keyB r then 5 else bif Jq (λq=>sLe r q) p then 7 else bif sEq r id then 14 else 0
def yz (_:Option Rect) (r:Rect):Int:=bif KW r then 1 else 0
theorem QG {α β:Type} {l:List α} {k:Nat} {x:α} (h:l[k]? = some x) (hl:l.length<=1000000) (g:α->Option Bool) (f:α->Bool) (F:∀y,g y=some (f y)):(bif (decide ((k:Int)>0))then (idx l (w64 ((k:Int)-1))).bind g else some false)=some (Jq f (rU l k)):=by
 rcases Nat.eq_zero_or_pos k with o|o
 ·subst o
  rw [decide_eq_false (by omega)];rfl
 ·obtain ⟨y,A,B⟩:=zQ h o (by omega)
  rw [decide_eq_true (by omega),cond_true,A,ob_,F]
  unfold rU
  rw [if_neg (by omega),B];rfl
theorem Od (x:Alert) (h:GA x):∀k r,x.Refs[k]? = some r->dZ x k r ()=some (Bb (Cg x.Id (rU x.Refs k) r)):=λk r A=>by
 have hl:=h.rlen
 have hs:=h.refs r (List.mem_of_getElem? A)
 unfold ShA at hs
 unfold dZ
 rw [qY r (by omega),QG (β:=Unit) A (by omega) (λo=>some (sLe r o)) (λy=>sLe r y) (λ_=>rfl),ob_,ob_]
 unfold Cg
 cases keyB r with
 | false=>rfl
 | true =>
  cases Jq (λq=>sLe r q) (rU x.Refs k)with
  | true=>rfl
  | false=>cases sEq r x.Id <;> rfl
theorem Oh (x:Alert):∀k r,x.Areas[k]? = some r->eQ k r ()=some (Bb (yz (rU x.Areas k) r)):=λk r h=>by
 unfold eQ yz
 rw [Dm]
 cases KW r <;> rfl
def rfV (x:Alert):Int:=chA (Cg x.Id) none x.Refs
def arV (x:Alert):Int:=chA yz none x.Areas
def fmV (x:Alert):Bool := !((x.Kind==1)==((x.Refs.length:Int)==0))
def agV (x:Alert):Bool := !Dk x.At||(qF x.Until (x.At+1) (x.At+2592000000)||qF x.Weight 1 9)
def txV (x:Alert):Bool := !uy x.Text||(sEq x.Text ⟨#[]⟩ && !(x.Kind==3))
def cnV (x:Alert):Bool := !((x.Kind==3)==((x.Areas.length:Int)==0))
def alF (x:Alert):Int:=bif !keyB x.Id || !keyB x.Sender then 5 else bif qF x.Kind 1 3 then 4 else bif rfV x==0 then (bif fmV x then 3 else bif agV x then 1 else bif arV x==0 then (bif cnV x then 3 else bif txV x then 3 else 0)else arV x)else rfV x
theorem alF_K {x:Alert} (h:GA x):gP x=some (alF x):=by
 have h1:=h.id
 have h2:=h.sender
 have X:=h.at_
 have R:=h.rlen
 have Y:=h.alen
 have W:=MW _ h.text
 unfold ShA at h1 h2
 have L:iJ x=some (bif rfV x==0 then (bif fmV x then 3 else 0)else rfV x):=by
  unfold iJ
  rw [decide_eq_false (by omega),cond_false,Ke (stp:=Cg x.Id) (body:=λk r s=>dZ x k r s) (by omega) (Od x h)]
  unfold rfV fmV
  rcases GD (chA (Cg x.Id) none x.Refs)with⟨o,A⟩|⟨o,A⟩
  ·rw [A,o]
   simp only [ob_,thenC]
   cases (!((x.Kind==1)==((x.Refs.length:Int)==0))) <;> rfl
  ·have:(chA (Cg x.Id) none x.Refs==0)=false:=by simpa using o
   rw [A,this];rfl
 unfold gP alF
 rw [qY _ (by omega),qY _ (by omega),L,sj,zy,fG (n:=x.At+1) (by omega),fG (n:=x.At+2592000000) (by omega),sj,sj,(PW _ h.text).1,decide_eq_false (show ¬(x.Areas.length:Int)>20 by omega),decide_eq_false (show ¬(x.Text.size:Int)>500 by omega)]
 rw [Ke (stp:=yz) (body:=λk r s=>eQ k r s) (by omega) (Oh x)]
 have M:(bif !keyB x.Id then some true else some (!keyB x.Sender))=some (!keyB x.Id || !keyB x.Sender):=by cases keyB x.Id <;> rfl
 have O:((some (Dk x.At)).bind λI=>bif (!I)then some true else (some (qF x.Until (x.At+1) (x.At+2592000000))).bind λB=>bif B then some true else (some (qF x.Weight 1 9)).bind λF=>some F)=some (agV x):=by
  unfold agV
  cases Dk x.At <;> cases qF x.Until (x.At+1) (x.At+2592000000) <;> rfl
 have et:((some (uy x.Text)).bind λJ=>bif (!J)then some true else bif (sEq x.Text (⟨#[]⟩:ByteArray))then some (!(x.Kind==3))else some false)=some (txV x):=by
  unfold txV
  cases uy x.Text <;> cases sEq x.Text ⟨#[]⟩ <;> rfl
 have N:(!((x.Kind==3)==((x.Areas.length:Int)==0)))=cnV x:=rfl
 rw [O,et,N]
 simp only [ob_]
 rw [M]
 simp only [ob_]
 cases (!keyB x.Id || !keyB x.Sender)with
 | true=>rfl
 | false =>
 cases qF x.Kind 1 3 with
 | true=>rfl
 | false =>
 simp only [cond_false]
 cases hr:rfV x==0 with
 | false =>
  have:(rfV x != 0)=true:=by simp [bne,hr]
  simp only [cond_false,this,cond_true]
 | true =>
  simp only [cond_true]
  cases fmV x with
  | true=>rfl
  | false =>
   cases agV x with
   | true=>rfl
   | false =>
    simp only [cond_false,bne_self_eq_false]
    unfold arV
    rcases GD (chA yz none x.Areas)with⟨o,A⟩|⟨o,A⟩
    ·rw [A,o]
     simp only [thenC]
     cases cnV x with
     | true=>rfl
     | false=>cases txV x <;> rfl
    ·have:(chA yz none x.Areas==0)=false:=by simpa using o
     rw [A,this];rfl
end Go.Proofs.YtadpbmfnnlkdlacGreatDoor.Law

open Go Go.Eng
namespace Go.Proofs.YtadpbmfnnlkdlacGreatDoor.Law
set_option linter.unusedVariables false
set_option linter.unusedSimpArgs false
section
variable {K T:Type} {eq:K->K->Bool}
theorem Rn (k:K):mGet eq ([]:List (K×T)) k=none:=rfl
theorem xX (e:K×T) (es:List (K×T)) (k:K):mGet eq (e::es) k=if eq k e.1=true then some e.2 else mGet eq es k:=by
 unfold mGet
 rw [A9]
 by_cases h:eq k e.1=true
 ·rw [if_pos h,if_pos h];rfl
 ·rw [if_neg h,if_neg h]
  cases A9 eq k es with
  | none=>rfl
  | some j=>rfl
theorem Q9 (k:K) (v:T):zY eq ([]:List (K×T)) k v=[(k,v)]:=rfl
theorem JN (e:K×T) (es:List (K×T)) (k:K) (v:T):zY eq (e::es) k v=if eq k e.1=true then (k,v)::es else e::zY eq es k v:=by
 unfold zY
 rw [A9]
 by_cases h:eq k e.1=true
 ·rw [if_pos h,if_pos h];rfl
 ·rw [if_neg h,if_neg h]
  cases A9 eq k es with
  | none=>rfl
  | some j=>rfl
theorem Au (o:∀a b,eq a b=true↔a=b) (k k':K) (v:T):∀es:List (K×T),mGet eq (zY eq es k v) k'=if eq k' k=true then some v else mGet eq es k'
 | []=>by rw [Q9,xX]
 | e::es=>by
  rw [JN,xX]
  by_cases h:eq k e.1=true
  ·rw [if_pos h,xX]
   have h1:=(o _ _).1 h
   rw [<- h1]
   by_cases h2:eq k' k=true
   ·rw [if_pos h2,if_pos h2]
   ·rw [if_neg h2,if_neg h2,if_neg h2]
  ·rw [if_neg h,xX,Au o k k' v es]
   by_cases h2:eq k' e.1=true
   ·have A:=(o _ _).1 h2
    have:¬eq k' k=true:=λq=>h (by rw [<- (o _ _).1 q];exact h2)
    rw [if_pos h2,if_neg this,if_pos h2]
   ·rw [if_neg h2,if_neg h2]
end
theorem wM (a b:ByteArray):eqS a b=true↔a=b:=⟨Q0,λh=>by
 subst h
 obtain ⟨x⟩:=a
 show (x==x)=true
 exact beq_self_eq_true x⟩
def Mx (s:List (ByteArray×Bool)) (h:List ByteArray):Prop:=∀k,mGet eqS s k=if k∈h then some true else none
theorem Mx.nil:Mx [] []:=λk=>by rw [Rn,if_neg (by simp)]
theorem Mx.set {s:List (ByteArray×Bool)} {o:List ByteArray} (h:Mx s o) (id:ByteArray):Mx (zY eqS s id true) (o++[id]):=λk=>by
 rw [Au wM,h k]
 by_cases h1:eqS k id=true
 ·rw [if_pos h1,if_pos (by rw [(wM _ _).1 h1];simp)]
 ·rw [if_neg h1]
  have:k∈o++[id]↔k∈o:=by
   rw [List.mem_append,List.mem_singleton]
   exact⟨λq=>q.resolve_right (λe=>h1 ((wM _ _).2 e)),.inl⟩
  by_cases h2:k∈o
  ·rw [if_pos h2,if_pos (this.2 h2)]
  ·rw [if_neg h2,if_neg (λq=>h2 (this.1 q))]
end Go.Proofs.YtadpbmfnnlkdlacGreatDoor.Law

open Go Go.Eng
namespace Go.Proofs.YtadpbmfnnlkdlacGreatDoor.Law
set_option linter.unusedVariables false
set_option linter.unusedSimpArgs false
def Hm (l m:List Alert) (h o t:Int):List Alert:=m.filter λz=>onB l t z&&hasB z.Areas h o
def cR (a b:Alert):Int:=or0 (Gb b.Weight a.Weight) (or0 (Gb b.At a.At) (zF a.Id b.Id))
theorem Qp (a b:Alert):oV a b=some (cR a b):=by
 simp only [oV,sO,xR,Td,ob_];rfl
theorem ED {a b:Alert}:cR a b<0↔zx a b=true:=by
 unfold cR
 rw [yY,yY,Ab,Aw,Ab,Aw,xL,Ae]
 constructor
 ·rintro (h|⟨h,k|⟨k,q⟩⟩)
  ·exact .inl h
  ·exact .inr ⟨h.symm,.inl k⟩
  ·exact .inr ⟨h.symm,.inr ⟨k.symm,q⟩⟩
 ·rintro (h|⟨h,k|⟨k,q⟩⟩)
  ·exact .inl h
  ·exact .inr ⟨h.symm,.inl k⟩
  ·exact .inr ⟨h.symm,.inr ⟨k.symm,q⟩⟩
theorem Q5 {a b c:Alert} (h:¬zx a b=true) (k:¬zx b c=true):¬zx a c=true:=by
 rw [Ae]at *
 simp only [not_or,not_and]at h k
 rintro (q|⟨q,q2|⟨q2,q3⟩⟩)
 ·omega
 ·have h2:=h.2
  have o:=k.2
  by_cases e:a.Weight=b.Weight
  ·have:=(h2 e).1
   have:=(o (by omega)).1
   omega
  ·omega
 ·have h2:=h.2
  have o:=k.2
  by_cases e:a.Weight=b.Weight
  ·have A:=h2 e
   have a2:=o (by omega)
   by_cases e2:a.At=b.At
   ·exact lt_ntr (A.2 e2) (a2.2 (by omega)) q3
   ·have:=A.1
    have:=a2.1
    omega
  ·omega
theorem Dt {x:Alert} (h:∀r∈x.Areas,Fine r) (hl:x.Areas.length<=1000) (p:Post):kH x p=some (hasB x.Areas p.X p.Y):=by
 unfold kH
 rw [any_eq (λo=>nA o p) (has1 p.X p.Y) (λr A=>by
  have hs:=h r A
  unfold Fine at hs
  unfold nA has1
  rw [fG (n:=r.X+r.W) (by omega),fG (n:=r.Y+r.H) (by omega)]
  cases decide (r.X<=p.X) <;> cases decide (p.X<r.X+r.W) <;> cases decide (r.Y<=p.Y) <;> rfl) (by omega)]
 rfl
theorem Pp {α β:Type} {l:List α} {f:α->β} {k:Nat} {x:α} (h:l[k]? = some x):idx (l.map f) (k:Int)=some (f x):=by
 rw [wW,List.getElem?_map,h];rfl
theorem take_len {α:Type} (l:List α) (k:Nat):(l.take k).length<=l.length:=by rw [List.length_take];exact Nat.min_le_right _ _
theorem Qh {l:List Alert} (h:CA l) (p:Post) (t:Int):rJ l (l.map (rX l)) p t=some (Tu l p.X p.Y t):=by
 have hl:=h.len
 unfold rJ
 obtain ⟨u,N,R⟩:=kS (body:=λk x s=>ny (l.map (rX l)) t p k x s) (λk s=>s=Hm l (l.take k) p.X p.Y t) (xs:=l) (s:=([]:List Alert)) (by omega) (λk x s B hs=>by
  have et:l.take (k+1)=l.take k++[x]:=by rw [List.take_add_one,B];rfl
  have hm:=List.mem_of_getElem? B
  have hf:Hm l (l.take (k+1)) p.X p.Y t=Hm l (l.take k) p.X p.Y t++(bif onB l t x&&hasB x.Areas p.X p.Y then [x]else []):=by
   unfold Hm
   rw [et,List.filter_append]
   congr 1
  have J:s.length<=1000:=by
   rw [hs]
   refine Nat.le_trans (List.length_filter_le _ _) ?_
   have:=take_len l k
   omega
  unfold ny
  rw [Pp B,ob_,isOn_eq,ob_,Dt (h.areas x hm) (h.alen x hm)]
  rw [hf,<- hs]
  cases onB l t x with
  | false=>exact⟨_,rfl,by simp⟩
  | true =>
   cases hasB x.Areas p.X p.Y with
   | false=>exact⟨_,rfl,by simp⟩
   | true =>
    simp only [ob_,cond_true,Bool.and_true]
    rw [kW _ _ (by simp only [List.length_cons,List.length_nil];omega)]
    exact⟨_,rfl,rfl⟩) rfl
 rw [N,R,List.take_length]
 simp only [ob_,thenC]
 have Z:Hm l l p.X p.Y t=Dq l p.X p.Y t:=rfl
 rw [Z]
 have o:(Dq l p.X p.Y t).length<=12:=by
  have:(Dq l p.X p.Y t).length<=l.length:=List.length_filter_le _ _
  omega
 obtain ⟨r,W,I,r3⟩:=SY (cmp:=oV) (S:=dw) cR (λ_=>rfl) (xs:=Dq l p.X p.Y t) o (λa _ b _=>Qp a b)
  (λa b A F=>by have:=Gj _ _ _ (ED.1 A) (ED.1 F);rw [LD]at this;cases this)
  (λa b c A F O=>Q5 (λe=>A (ED.2 e)) (λe=>F (ED.2 e)) (ED.1 O))
 have M:dw (Dq l p.X p.Y t)=some r:=W
 have L:iP r (Dq l p.X p.Y t)=some ():=by unfold iP;rw [if_pos I.length_eq]
 rw [M,ob_,L,ob_,rank_is h.ids p.X p.Y t I (r3.imp (λ{a b} q=>by
  cases hb:zx b a with
  | false=>rfl
  | true=>exact absurd (ED.2 hb) q))]
end Go.Proofs.YtadpbmfnnlkdlacGreatDoor.Law

open Go Go.Eng
namespace Go.Proofs.YtadpbmfnnlkdlacGreatDoor.Law
set_option linter.unusedVariables false
set_option linter.unusedSimpArgs false
set_option maxRecDepth 100000
theorem ND {α:Type} {l:List α} {k:Nat} {x:α} (h:l[k]? = some x) (hl:l.length<=1000000) (g:α->Option Bool) (f:α->Bool) (F:∀y∈l,g y=some (f y)):(bif (decide ((k:Int)>0))then (idx l (w64 ((k:Int)-1))).bind g else some false)=some (Jq f (rU l k)):=by
 rcases Nat.eq_zero_or_pos k with o|o
 ·subst o
  rw [decide_eq_false (by omega)];rfl
 ·obtain ⟨y,B,A⟩:=zQ h o (by omega)
  rw [decide_eq_true (by omega),cond_true,B,ob_,F y (List.mem_of_getElem? A)]
  unfold rU
  rw [if_neg (by omega),A];rfl
theorem alF_0 {x:Alert} (h:GA x) (o:alF x=0):(0<=x.At/\x.At<=345686399999)/\(x.At+1<=x.Until/\x.Until<=x.At+2592000000)/\∀r∈x.Areas,Fine r:=by
 unfold alF at o
 cases e1:(!keyB x.Id || !keyB x.Sender)with
 | true=>rw [e1]at o;cases o
 | false =>
 rw [e1,cond_false]at o
 cases e2:qF x.Kind 1 3 with
 | true=>rw [e2]at o;cases o
 | false =>
 rw [e2,cond_false]at o
 cases e3:rfV x==0 with
 | false=>rw [e3,cond_false]at o;rw [o]at e3;exact absurd e3 (by decide)
 | true =>
 rw [e3,cond_true]at o
 cases e4:fmV x with
 | true=>rw [e4]at o;cases o
 | false =>
 rw [e4,cond_false]at o
 cases e5:agV x with
 | true=>rw [e5]at o;cases o
 | false =>
 rw [e5,cond_false]at o
 cases e6:arV x==0 with
 | false=>rw [e6,cond_false]at o;rw [o]at e6;exact absurd e6 (by decide)
 | true =>
 unfold agV at e5
 simp only [Bool.or_eq_false_iff]at e5
 obtain ⟨F,a2,a3⟩:=e5
 have hm:Dk x.At=true:=by cases hq:Dk x.At with | true=>rfl | false=>rw [hq]at F;cases F
 unfold Dk at hm
 have B:qF x.At 0 345686399999=false:=by cases hq:qF x.At 0 345686399999 with | false=>rfl | true=>rw [hq]at hm;cases hm
 have I:=BD B
 have J:=BD a2
 refine⟨I,J,λr L => ?_⟩
 obtain ⟨i,hi⟩:=List.getElem?_of_mem L
 obtain ⟨q,A,_⟩:=PE (eq_of_beq e6) i r hi
 unfold yz at A
 refine Qo ?_
 cases hb:KW r with
 | false=>rfl
 | true=>rw [hb]at A;cases A
end Go.Proofs.YtadpbmfnnlkdlacGreatDoor.Law

open Go Go.Eng
namespace Go.Proofs.YtadpbmfnnlkdlacGreatDoor.Law
set_option linter.unusedVariables false
set_option linter.unusedSimpArgs false
def RA (x:Alert):Prop:=GA x/\alF x=0
structure RF (x:Alert):Prop where
 id:keyB x.Id=true
 sender:keyB x.Sender=true
 kind:1<=x.Kind/\x.Kind<=3
 refs:∀r∈x.Refs,keyB r=true
 weight:1<=x.Weight/\x.Weight<=9
theorem ra_f {x:Alert} (o:alF x=0):RF x:=by
 unfold alF at o
 cases e1:(!keyB x.Id || !keyB x.Sender)with
 | true=>rw [e1]at o;cases o
 | false =>
 rw [e1,cond_false]at o
 cases e2:qF x.Kind 1 3 with
 | true=>rw [e2]at o;cases o
 | false =>
 rw [e2,cond_false]at o
 cases e3:rfV x==0 with
 | false=>rw [e3,cond_false]at o;rw [o]at e3;exact absurd e3 (by decide)
 | true =>
 rw [e3,cond_true]at o
 cases e4:fmV x with
 | true=>rw [e4]at o;cases o
 | false =>
 rw [e4,cond_false]at o
 cases e5:agV x with
 | true=>rw [e5]at o;cases o
 | false =>
 simp only [Bool.or_eq_false_iff,Bool.not_eq_false']at e1
 unfold agV at e5
 simp only [Bool.or_eq_false_iff]at e5
 have hb:∀{n B hi:Int},qF n B hi=false->B<=n/\n<=hi:=λh=>by
  simp only [qF,Bool.or_eq_false_iff,decide_eq_false_iff_not]at h;omega
 refine⟨e1.1,e1.2,hb e2,λr F => ?_,hb e5.2.2⟩
 obtain ⟨i,hi,rfl⟩:=List.getElem_of_mem F
 obtain ⟨q,A,_⟩:=PE (eq_of_beq e3) i _ (List.getElem?_eq_getElem hi)
 unfold Cg at A
 cases hk:keyB x.Refs[i]with
 | true=>rfl
 | false=>rw [hk]at A;cases A
theorem Hg (A:List ByteArray):∀(xs:List ByteArray) (k:Nat),xs.length=(A.drop k).length->∃o,forR (λk x s=>dN A k x s) xs k ()=some o/\thenC o (λ_=>some true) (λr=>some r)=some (decide (xs=A.drop k))
 | [],k,h=>⟨_,rfl,by
  have:A.drop k=[]:=List.eq_nil_of_length_eq_zero h.symm
  rw [this];rfl⟩
 | x::xs,k,h=>by
  have I:k<A.length:=by
   rw [List.length_drop]at h
   simp only [List.length_cons]at h
   omega
  have J:A.drop k=A[k]::A.drop (k+1):=List.drop_eq_getElem_cons I
  rw [J]at h ⊢
  obtain ⟨o,h1,h2⟩:=Hg A xs (k+1) (by simp only [List.length_cons]at h;omega)
  have B:dN A k x ()=some (bif sNe x A[k]then .ret false else .go ()):=by
   unfold dN
   rw [wW,List.getElem?_eq_getElem I]
   simp only [ob_]
   cases (sNe x A[k]) <;> rfl
  by_cases he:x=A[k]
  ·have F:(sNe x A[k])=false:=by rw [AA];simp [he]
   refine⟨o,by simp only [forR,B,F,cond_false,ob_];exact h1,?_⟩
   rw [h2]
   simp only [he,List.cons.injEq,true_and]
  ·have F:(sNe x A[k])=true:=by rw [AA];simp [he]
   refine⟨.ret false,by simp only [forR,B,F,cond_true,ob_],?_⟩
   rw [decide_eq_false (λL=>he (List.cons.inj L).1)];rfl
theorem QK (l m:List ByteArray) (hl:l.length<=1000000000):gH l m=some (decide (l=m)):=by
 unfold gH
 by_cases hn:l.length=m.length
 ·have A:((l.length:Int) != (m.length:Int))=false:=by simp [hn]
  rw [A,cond_false]
  obtain ⟨o,h1,h2⟩:=Hg m l 0 (by simpa using hn)
  rw [je (by omega),h1]
  simpa using h2
 ·have A:((l.length:Int) != (m.length:Int))=true:=by simp;omega
  have B:l≠m:=λh=>hn (by rw [h])
  rw [A,cond_true]
  simp [B]
deriving instance DecidableEq for Rect
theorem rect_eq (x y:Rect):((x.X==y.X)&&((x.Y==y.Y)&&((x.W==y.W)&&((x.H==y.H)&&true))))=decide (x=y):=by
 obtain ⟨a,b,c,d⟩:=x
 obtain ⟨A,b',o,h⟩:=y
 rw [Bool.eq_iff_iff]
 simp only [Bool.and_eq_true,beq_iff_eq,decide_eq_true_eq,Rect.mk.injEq,and_true]
theorem Ht (A:List Rect):∀(xs:List Rect) (k:Nat),xs.length=(A.drop k).length->∃o,forR (λk x s=>dh A k x s) xs k ()=some o/\thenC o (λ_=>some true) (λr=>some r)=some (decide (xs=A.drop k))
 | [],k,h=>⟨_,rfl,by
  have:A.drop k=[]:=List.eq_nil_of_length_eq_zero h.symm
  rw [this];rfl⟩
 | x::xs,k,h=>by
  have F:k<A.length:=by
   rw [List.length_drop]at h
   simp only [List.length_cons]at h
   omega
  have I:A.drop k=A[k]::A.drop (k+1):=List.drop_eq_getElem_cons F
  rw [I]at h ⊢
  obtain ⟨o,h1,h2⟩:=Ht A xs (k+1) (by simp only [List.length_cons]at h;omega)
  have B:dh A k x ()=some (bif !decide (x=A[k])then .ret false else .go ()):=by
   unfold dh
   rw [wW,List.getElem?_eq_getElem F]
   simp only [ob_,rect_eq]
   cases decide (x=A[k]) <;> rfl
  by_cases he:x=A[k]
  ·refine⟨o,by simp only [forR,B,decide_eq_true he,Bool.not_true,cond_false,ob_];exact h1,?_⟩
   rw [h2]
   simp only [he,List.cons.injEq,true_and]
  ·refine⟨.ret false,by simp only [forR,B,decide_eq_false he,Bool.not_false,cond_true,ob_],?_⟩
   rw [decide_eq_false (λJ=>he (List.cons.inj J).1)];rfl
theorem QM (l m:List Rect) (hl:l.length<=1000000000):eY l m=some (decide (l=m)):=by
 unfold eY
 by_cases hn:l.length=m.length
 ·have A:((l.length:Int) != (m.length:Int))=false:=by simp [hn]
  rw [A,cond_false]
  obtain ⟨o,h1,h2⟩:=Ht m l 0 (by simpa using hn)
  rw [je (by omega),h1]
  simpa using h2
 ·have A:((l.length:Int) != (m.length:Int))=true:=by simp;omega
  have B:l≠m:=λh=>hn (by rw [h])
  rw [A,cond_true]
  simp [B]
theorem EN (c:Bool) {X:Option Bool} {p:Bool} (h:X=some p):(bif c then X else some false)=some (c&&p):=by cases c <;> simp [h]
deriving instance DecidableEq for Alert
theorem PS {a b:Alert} (h:GA a):vZ a b=some (decide (a=b)):=by
 unfold vZ
 rw [QK _ _ (by have:=h.rlen;omega),QM _ _ (by have:=h.alen;omega)]
 simp only [ob_]
 rw [EN _ (EN _ (EN _ (EN _ (EN _ (EN _ (EN _ (EN _ rfl)))))))]
 obtain ⟨R,a2,a3,a4,a5,W,A,L,a9⟩:=a
 obtain ⟨M,O,o,I,N,J,X,F,B⟩:=b
 simp only [ob_,yK]
 congr 1
 rw [Bool.eq_iff_iff]
 simp only [Bool.and_eq_true,decide_eq_true_eq,beq_iff_eq,Alert.mk.injEq]
def EI (k:Int):List UInt8:=if k=1 then [110,101,119]else if k=2 then [117,112,100,97,116,101]else [99,97,110,99,101,108]
def wK:List ByteArray->List UInt8
 | []=>[]
 | r::l=>[114,101,102,32]++r.data.toList++[10]++wK l
def xJ (r:Rect):List Int:=[r.X,r.Y,r.W,r.H]
def oI:List Rect->List UInt8
 | []=>[]
 | r::l=>[97,114,101,97,32]++Go.Lib.join ((xJ r).map Go.Lib.itoa) [32]++[10]++oI l
def Ct (t:ByteArray):List UInt8:=if t=⟨#[]⟩then []else [116,101,120,116,32]++t.data.toList++[10]
def zl (x:Alert):List UInt8:=[97,108,101,114,116,32]++x.Id.data.toList++[32]++x.Sender.data.toList++[32]++EI x.Kind++[32]++Go.Lib.join (([x.At,x.Until,x.Weight]:List Int).map Go.Lib.itoa) [32]++[10]
def Jm (x:Alert):List UInt8:=zl x++wK x.Refs++oI x.Areas++Ct x.Text
theorem MJ:∀{l m:List ByteArray} {X Y:List UInt8},(∀r∈l,keyB r=true)->(∀r∈m,keyB r=true)->X.head? ≠ some 114->Y.head? ≠ some 114->wK l++X=wK m++Y->l=m/\X=Y
 | [],[],X,Y,_,_,_,_,h=>⟨rfl,by simpa [wK]using h⟩
 | [],r::m,X,Y,_,_,A,_,h=>by
  simp only [wK,List.nil_append,List.cons_append]at h
  rw [h]at A;simp at A
 | r::l,[],X,Y,_,_,_,o,h=>by
  simp only [wK,List.nil_append,List.cons_append]at h
  rw [<- h]at o;simp at o
 | r::l,q::m,X,Y,hl,hm,A,o,h=>by
  simp only [wK,List.append_assoc,List.cons_append,List.nil_append,List.cons.injEq,true_and]at h
  obtain ⟨h1,h2⟩:=wS (Ef (hl r (by simp)) (by decide)) (Ef (hm q (by simp)) (by decide)) h
  obtain ⟨I,F⟩:=MJ (λa B=>hl a (List.mem_cons_of_mem _ B)) (λa B=>hm a (List.mem_cons_of_mem _ B)) A o h2
  exact⟨by rw [KH h1,I],F⟩
theorem TA {r q:Rect} (h:xJ r=xJ q):r=q:=by
 obtain ⟨a,b,c,d⟩:=r
 obtain ⟨I,b',F,B⟩:=q
 simp only [xJ,List.cons.injEq,and_true]at h
 obtain ⟨h1,h2,o,A⟩:=h
 subst h1 h2 o A;rfl
theorem Je:∀{l m:List Rect} {X Y:List UInt8},X.head? ≠ some 97->Y.head? ≠ some 97->oI l++X=oI m++Y->l=m/\X=Y
 | [],[],X,Y,_,_,h=>⟨rfl,by simpa [oI]using h⟩
 | [],r::m,X,Y,A,_,h=>by
  simp only [oI,List.nil_append,List.cons_append]at h
  rw [h]at A;simp at A
 | r::l,[],X,Y,_,o,h=>by
  simp only [oI,List.nil_append,List.cons_append]at h
  rw [<- h]at o;simp at o
 | r::l,q::m,X,Y,A,o,h=>by
  simp only [oI,List.append_assoc,List.cons_append,List.nil_append,List.cons.injEq,true_and]at h
  obtain ⟨h1,h2⟩:=wS (CW (by decide) (by decide) (by decide) _) (CW (by decide) (by decide) (by decide) _) h
  obtain ⟨B,F⟩:=Je A o h2
  exact⟨by rw [TA (Ec (l:=xJ r) (m:=xJ q) rfl h1),B],F⟩
theorem Rh {t u:ByteArray} (h:Ct t=Ct u):t=u:=by
 unfold Ct at h
 by_cases ht:t=⟨#[]⟩ <;> by_cases hu:u=⟨#[]⟩
 ·exact ht.trans hu.symm
 ·rw [if_pos ht,if_neg hu]at h;simp at h
 ·rw [if_neg ht,if_pos hu]at h;simp at h
 ·rw [if_neg ht,if_neg hu]at h
  have h2:=List.append_cancel_right h
  have o:=List.append_cancel_left h2
  exact KH o
theorem Eu (t:ByteArray):(Ct t).head? ≠ some 97/\(Ct t).head? ≠ some 114:=by
 unfold Ct
 split
 ·simp
 ·simp
theorem IP (l:List Rect) (t:ByteArray):(oI l++Ct t).head? ≠ some 114:=by
 cases l with
 | nil=>simpa [oI]using (Eu t).2
 | cons r l=>simp [oI]
theorem OJ {k:Int} {c:UInt8} (hc:c=32\/c=10):c∉EI k:=by
 unfold EI
 split
 ·rcases hc with rfl|rfl <;> decide
 ·split
  ·rcases hc with rfl|rfl <;> decide
  ·rcases hc with rfl|rfl <;> decide
theorem word_inj {k m:Int} (B:1<=k/\k<=3) (hm:1<=m/\m<=3) (h:EI k=EI m):k=m:=by
 have A:k=1\/k=2\/k=3:=by omega
 have o:m=1\/m=2\/m=3:=by omega
 rcases A with rfl|rfl|rfl <;> rcases o with rfl|rfl|rfl <;> first|rfl|exact absurd h (by decide)
theorem Qi {a b:Alert} (A:RF a) (hb:RF b) (h:Jm a=Jm b):a=b:=by
 unfold Jm zl at h
 simp only [List.append_assoc,List.cons_append,List.nil_append,List.cons.injEq,true_and]at h
 obtain ⟨h1,h2⟩:=wS (Ef A.id (by decide)) (Ef hb.id (by decide)) h
 obtain ⟨Y,R⟩:=wS (Ef A.sender (by decide)) (Ef hb.sender (by decide)) h2
 obtain ⟨Z,X⟩:=wS (OJ (.inl rfl)) (OJ (.inl rfl)) R
 obtain ⟨h7,O⟩:=wS (CW (by decide) (by decide) (by decide) _) (CW (by decide) (by decide) (by decide) _) X
 obtain ⟨I,F⟩:=MJ A.refs hb.refs (IP _ _) (IP _ _) O
 obtain ⟨o,B⟩:=Je (Eu _).1 (Eu _).1 F
 have J:=KH h1
 have M:=KH Y
 have L:=word_inj A.kind hb.kind Z
 have N:=Ec (l:=[a.At,a.Until,a.Weight]) (m:=[b.At,b.Until,b.Weight]) rfl h7
 have e5:=Rh B
 obtain ⟨a1,a2,a3,a4,a5,a6,a7,a8,a9⟩:=a
 obtain ⟨b1,b2,b3,b4,b5,b6,b7,b8,b9⟩:=b
 simp only [List.cons.injEq,and_true]at J M L N e5 I o
 obtain ⟨W,f2,f3⟩:=N
 subst J M L W f2 f3 e5 I o
 rfl
end Go.Proofs.YtadpbmfnnlkdlacGreatDoor.Law

open Go Go.Eng
namespace Go.Proofs.YtadpbmfnnlkdlacGreatDoor.Law
set_option linter.unusedVariables false
set_option linter.unusedSimpArgs false
end Go.Proofs.YtadpbmfnnlkdlacGreatDoor.Law

open Go Go.Eng
namespace Go.Proofs.YtadpbmfnnlkdlacGreatDoor.Law
set_option linter.unusedVariables false
set_option linter.unusedSimpArgs false
theorem O7 {s:ByteArray} (h:ShA s):s.data.toList.length<=1000:=by rw [<- Go.Lib.size_eq];exact h
theorem Jz:∀(l:List ByteArray),(∀r∈l,ShA r)->(wK l).length<=l.length*1005
 | [],_=>by simp [wK]
 | r::l,h=>by
  have:=O7 (h r (by simp))
  have:=Jz l (λa o=>h a (List.mem_cons_of_mem _ o))
  simp only [wK,List.length_append,List.length_cons,List.length_nil,Nat.add_mul]
  omega
theorem JH:∀(l:List ByteArray) (k:Nat) (o:List UInt8),(∀r∈l,ShA r)->o.length+l.length*2000<=1000000->forR (λk x s=>jV k x s) l k (SB o)=some (.go (SB (o++wK l)))
 | [],k,o,_,_=>by simp [forR,wK]
 | r::l,k,o,h,hl=>by
  have L:=O7 (h r (by simp))
  simp only [List.length_cons,Nat.add_mul]at hl
  have J:r=SB r.data.toList:=rfl
  have hs:jV k r (SB o)=some (.go (SB (o++([114,101,102,32]++r.data.toList++[10])))):=by
   unfold jV
   have B:pJ (⟨#[114,101,102,32]⟩:ByteArray) r=some (SB ([114,101,102,32]++r.data.toList)):=xU [114,101,102,32] r.data.toList (by simp only [List.length_append,List.length_cons,List.length_nil];omega)
   have A:pJ (SB ([114,101,102,32]++r.data.toList)) (⟨#[10]⟩:ByteArray)=some (SB ([114,101,102,32]++r.data.toList++[10])):=xU _ [10] (by simp only [List.length_append,List.length_cons,List.length_nil];omega)
   have F:=xU o ([114,101,102,32]++r.data.toList++[10]) (by simp only [List.length_append,List.length_cons,List.length_nil];omega)
   simp only [B,A,F,ob_]
  simp only [forR,hs,ob_]
  rw [JH l (k+1) _ (λa I=>h a (List.mem_cons_of_mem _ I)) (by simp only [List.length_append,List.length_cons,List.length_nil];omega)]
  simp [wK]
theorem medR {r:Rect} (h:Fine r):∀n∈xJ r,Med n:=λn o=>by
 obtain ⟨h1,h2,A,F,B⟩:=h
 simp only [xJ,List.mem_cons,List.not_mem_nil,or_false]at o
 unfold Med
 rcases o with rfl|rfl|rfl|rfl <;> omega
theorem GK:∀(l:List Rect),(∀r∈l,Fine r)->(oI l).length<=l.length*100
 | [],_=>by simp [oI]
 | r::l,h=>by
  have:=GV (xJ r) (medR (h r (by simp)))
  have A:(xJ r).length=4:=rfl
  have:=GK l (λa o=>h a (List.mem_cons_of_mem _ o))
  simp only [oI,List.length_append,List.length_cons,List.length_nil,Nat.add_mul]
  omega
theorem IM:∀(l:List Rect) (k:Nat) (o:List UInt8),(∀r∈l,Fine r)->o.length+l.length*2000<=1000000->forR (λk x s=>jW k x s) l k (SB o)=some (.go (SB (o++oI l)))
 | [],k,o,_,_=>by simp [forR,oI]
 | r::l,k,o,h,hl=>by
  have hm:=medR (h r (by simp))
  have M:=GV (xJ r) hm
  have L:(xJ r).length=4:=rfl
  simp only [List.length_cons,Nat.add_mul]at hl
  have A:oF [r.X,r.Y,r.W,r.H]=some (SB (Go.Lib.join ((xJ r).map Go.Lib.itoa) [32])):=IC (xJ r) hm (by omega)
  have hs:jW k r (SB o)=some (.go (SB (o++([97,114,101,97,32]++Go.Lib.join ((xJ r).map Go.Lib.itoa) [32]++[10])))):=by
   unfold jW
   have F:pJ (⟨#[97,114,101,97,32]⟩:ByteArray) (SB (Go.Lib.join ((xJ r).map Go.Lib.itoa) [32]))=some (SB ([97,114,101,97,32]++Go.Lib.join ((xJ r).map Go.Lib.itoa) [32])):=xU [97,114,101,97,32] _ (by simp only [List.length_cons,List.length_nil];omega)
   have B:pJ (SB ([97,114,101,97,32]++Go.Lib.join ((xJ r).map Go.Lib.itoa) [32])) (⟨#[10]⟩:ByteArray)=some (SB ([97,114,101,97,32]++Go.Lib.join ((xJ r).map Go.Lib.itoa) [32]++[10])):=xU _ [10] (by simp only [List.length_append,List.length_cons,List.length_nil];omega)
   have I:=xU o ([97,114,101,97,32]++Go.Lib.join ((xJ r).map Go.Lib.itoa) [32]++[10]) (by simp only [List.length_append,List.length_cons,List.length_nil];omega)
   simp only [A,F,B,I,ob_]
  simp only [forR,hs,ob_]
  rw [IM l (k+1) _ (λa J=>h a (List.mem_cons_of_mem _ J)) (by simp only [List.length_append,List.length_cons,List.length_nil];omega)]
  simp [oI]
theorem MG {x:Alert} (h:RA x):l5 [x]=some (SB (Jm x)):=by
 obtain ⟨o,R⟩:=h
 have hf:=ra_f R
 obtain ⟨f1,f2,f3⟩:=alF_0 o R
 have l1:=O7 o.id
 have l2:=O7 o.sender
 have X:=MW x.Text o.text
 have W:x.Kind=1\/x.Kind=2\/x.Kind=3:=by have:=hf.kind;omega
 have hm:∀n∈([x.At,x.Until,x.Weight]:List Int),Med n:=λn N=>by
  have:=hf.weight
  simp only [List.mem_cons,List.not_mem_nil,or_false]at N
  unfold Med
  rcases N with rfl|rfl|rfl <;> omega
 have F:=IC [x.At,x.Until,x.Weight] hm (by simp)
 have J:=GV [x.At,x.Until,x.Weight] hm
 simp only [List.length_cons,List.length_nil]at J
 have hw:idx ([(⟨#[]⟩:ByteArray),(⟨#[110,101,119]⟩:ByteArray),(⟨#[117,112,100,97,116,101]⟩:ByteArray),(⟨#[99,97,110,99,101,108]⟩:ByteArray)]:List ByteArray) x.Kind=some (SB (EI x.Kind)):=by
  rcases W with e|e|e <;> rw [e] <;> rfl
 have Z:(EI x.Kind).length<=6:=by
  rcases W with e|e|e <;> rw [e] <;> decide
 have hR:=Jz x.Refs o.refs
 have hA:=GK x.Areas f3
 have b1:=o.rlen
 have b2:=o.alen
 have e1:x.Id=SB x.Id.data.toList:=rfl
 have c1:pJ (⟨#[97,108,101,114,116,32]⟩:ByteArray) x.Id=some (SB ([97,108,101,114,116,32]++x.Id.data.toList)):=xU [97,108,101,114,116,32] x.Id.data.toList (by simp only [List.length_cons,List.length_nil];omega)
 have L:∀l:List UInt8,l.length<=100000->pJ (SB l) (⟨#[32]⟩:ByteArray)=some (SB (l++[32])):=λl hl=>xU l [32] (by simp only [List.length_cons,List.length_nil];omega)
 have c3:∀l:List UInt8,l.length<=100000->pJ (SB l) x.Sender=some (SB (l++x.Sender.data.toList)):=λl hl=>xU l x.Sender.data.toList (by omega)
 have O:∀l:List UInt8,l.length<=100000->pJ (SB l) (⟨#[10]⟩:ByteArray)=some (SB (l++[10])):=λl hl=>xU l [10] (by simp only [List.length_cons,List.length_nil];omega)
 have M:∀l m:List UInt8,l.length<=100000->m.length<=100000->pJ (SB l) (SB m)=some (SB (l++m)):=λl m hl hm=>xU l m (by omega)
 have c6:pJ (⟨#[]⟩:ByteArray) (SB (zl x))=some (SB (zl x)):=by
  have hh:(zl x).length<=100000:=by unfold zl;simp only [List.length_append,List.length_cons,List.length_nil];omega
  have:=xU [] (zl x) (by simp only [List.length_nil];omega)
  simpa using this
 have hh:(zl x).length<=3000:=by unfold zl;simp only [List.length_append,List.length_cons,List.length_nil];omega
 have B:lH 0 x (⟨#[]⟩:ByteArray)=some (.go (SB (Jm x))):=by
  unfold lH qR
  rw [c1,ob_,L _ (by simp only [List.length_append,List.length_cons,List.length_nil];omega),ob_,c3 _ (by simp only [List.length_append,List.length_cons,List.length_nil];omega),ob_,L _ (by simp only [List.length_append,List.length_cons,List.length_nil];omega),ob_,ob_,hw,ob_,
   M _ _ (by simp only [List.length_append,List.length_cons,List.length_nil];omega) (by omega),ob_,L _ (by simp only [List.length_append,List.length_cons,List.length_nil];omega),ob_,F,ob_,M _ _ (by simp only [List.length_append,List.length_cons,List.length_nil];omega) (by omega),ob_,
   O _ (by simp only [List.length_append,List.length_cons,List.length_nil];omega),ob_]
  have I:=c6
  unfold zl at I
  rw [I,ob_]
  have A:([97,108,101,114,116,32]++x.Id.data.toList++[32]++x.Sender.data.toList++[32]++EI x.Kind++[32]++Go.Lib.join (([x.At,x.Until,x.Weight]:List Int).map Go.Lib.itoa) [32]++[10])=zl x:=rfl
  rw [A,je (by omega),JH x.Refs 0 (zl x) o.refs (by omega),ob_,tN,je (by omega),IM x.Areas 0 _ f3 (by simp only [List.length_append];omega),ob_,tN]
  unfold Jm Ct
  by_cases ht:x.Text=⟨#[]⟩
  ·have e:sNe x.Text (⟨#[]⟩:ByteArray)=false:=by rw [AA];simp [ht]
   rw [e,cond_false,if_pos ht,List.append_nil];rfl
  ·have e:sNe x.Text (⟨#[]⟩:ByteArray)=true:=by rw [AA];simp [ht]
   have Y:x.Text.data.toList.length<=16:=by rw [<- Go.Lib.size_eq];exact X
   have d1:pJ (⟨#[116,101,120,116,32]⟩:ByteArray) x.Text=some (SB ([116,101,120,116,32]++x.Text.data.toList)):=xU [116,101,120,116,32] x.Text.data.toList (by simp only [List.length_cons,List.length_nil];omega)
   rw [e,cond_true,if_neg ht,d1,ob_,O _ (by simp only [List.length_append,List.length_cons,List.length_nil];omega),ob_,M _ _ (by simp only [List.length_append];omega) (by simp only [List.length_append,List.length_cons,List.length_nil];omega),ob_]
   rfl
 unfold l5
 rw [je (by simp)]
 simp only [forR,B,ob_,tN]
theorem sameRA {a b:Alert} (o:RA a) (hb:RA b):pX a b=some (decide (a=b)):=by
 unfold pX
 rw [MG o,MG hb,ob_,ob_,yK]
 congr 1
 rw [Bool.eq_iff_iff,decide_eq_true_eq,decide_eq_true_eq]
 constructor
 ·exact λh=>Qi (ra_f o.2) (ra_f hb.2) (sb_inj h)
 ·rintro rfl;rfl
end Go.Proofs.YtadpbmfnnlkdlacGreatDoor.Law

open Go Go.Eng
namespace Go.Proofs.YtadpbmfnnlkdlacGreatDoor.Law
set_option linter.unusedVariables false
set_option linter.unusedSimpArgs false
def QD (x:Int):List Int->List Int
 | []=>[x]
 | y::l=>bif decide (x<=y)then x::y::l else y::QD x l
def Il:List Int->List Int
 | []=>[]
 | x::l=>QD x (Il l)
theorem Ex (x:Int):∀l,(QD x l).Perm (x::l)
 | [] => .refl _
 | y::l=>by
  unfold QD
  cases decide (x<=y)with
  | true=>exact .refl _
  | false=>exact ((Ex x l).cons y).trans (List.Perm.swap x y l)
theorem E5:∀l,(Il l).Perm l
 | [] => .refl _
 | x::l=>(Ex x _).trans ((E5 l).cons x)
theorem EQ (x:Int):∀l:List Int,l.Pairwise (· <= ·)->(QD x l).Pairwise (· <= ·)
 | [],_=>List.pairwise_singleton _ _
 | y::l,h=>by
  obtain ⟨h1,h2⟩:=List.pairwise_cons.1 h
  unfold QD
  by_cases hx:x<=y
  ·rw [decide_eq_true hx,cond_true]
   exact List.pairwise_cons.2 ⟨λz o=>by
    rcases List.mem_cons.1 o with rfl|o
    ·exact hx
    ·exact Int.le_trans hx (h1 z o),h⟩
  ·rw [decide_eq_false hx,cond_false]
   exact List.pairwise_cons.2 ⟨λz o=>by
    rcases List.mem_cons.1 ((Ex x l).mem_iff.1 o)with rfl|o
    ·omega
    ·exact h1 z o,EQ x l h2⟩
theorem Bv:∀l,(Il l).Pairwise (· <= ·)
 | [] => .nil
 | x::l=>EQ x _ (Bv l)
theorem Qs (l:List Int):l.mergeSort (λx y=>decide (x<=y))=Il l:=by
 refine List.Perm.eq_of_pairwise (le:=(· <= ·)) (λa b _ _ h1 h2=>Int.le_antisymm h1 h2) ?_ (Bv l) ((List.mergeSort_perm l _).trans (E5 l).symm)
 have:=List.pairwise_mergeSort (le:=λ(x y:Int)=>decide (x<=y)) (λa b c=>by simp;omega) (λa b=>by simp;omega) l
 exact this.imp (by simp)
def zW (l:List Int):Option (List Int):=bif Nat.ble l.length 1000 then some (Il l)else none
theorem RG (l:List Int):Le (zW l) (kv l):=λr h=>by
 unfold zW at h
 cases hb:Nat.ble l.length 1000 with
 | false=>rw [hb]at h;cases h
 | true =>
  rw [hb,cond_true]at h
  have:=Nat.le_of_ble_eq_true hb
  unfold kv Ps
  rw [if_pos (by omega),Qs];exact h
end Go.Proofs.YtadpbmfnnlkdlacGreatDoor.Law

open Go Go.Eng
namespace Go.Proofs.YtadpbmfnnlkdlacGreatDoor.Law
set_option linter.unusedVariables false
set_option linter.unusedSimpArgs false
set_option maxRecDepth 100000
def jH (h:ByteArray):Option (Bool) :=
 (vO 0 (λs=>lM h s)).bind λo=>thenC o (λB=>(bif (sNe h (⟨#[]⟩:ByteArray))then some (decide ((h.size:Int)<=40))else some false).bind λA=>some A) (λr=>some r)
theorem lJ (h:ByteArray):Le (jH h) (kit_IsKey h):=by
 unfold jH kit_IsKey
 repeat' (with_reducible first|exact Le.refl _|refine Le.loop (λ_=>?_)|refine Le.thenC (λ_=>?_) (λ_=>?_)|refine Le.cond ?_ ?_|refine Le.bind ?_ (λ_=>?_))
def jR (A:(List Int)) (o:Int):Option (Ctl (Int) ((List Int))) :=
 bif (decide (o<(A.length:Int)))then (inR o A).bind λ_=>(A[(0+(o).toNat)]?).bind λI=>(inR (w64 (o-1)) A).bind λ_=>(A[(0+((w64 (o-1))).toNat)]?).bind λB=>bif (I==B)then (neL A).bind λ_=>(xm A o (A.length:Int)).bind λ_=>(vO (A,o,1) (λs=>iK A o s)).bind λF=>thenC F (λh=>(xm h.1 h.2.1 (h.1.length:Int)).bind λ_=>(xm (h.1.take ((h.2.1).toNat)++List.replicate (((h.1.length:Int)).toNat-(h.2.1).toNat) 0++h.1.drop (((h.2.1).toNat)+(((h.1.length:Int)).toNat-(h.2.1).toNat))) 0 h.2.1).bind λ_=>some (.ret (IW (h.1.take ((h.2.1).toNat)++List.replicate (((h.1.length:Int)).toNat-(h.2.1).toNat) 0++h.1.drop (((h.2.1).toNat)+(((h.1.length:Int)).toNat-(h.2.1).toNat))) 0 ((h.2.1).toNat)))) (λ_=>none)else some (.go (w64 (o+1)))else some (.brk o)
theorem rO (o:(List Int)) (h:Int):Le (jR o h) (fK o h):=by
 unfold jR fK
 repeat' (with_reducible first|exact Le.refl _|refine Le.loop (λ_=>?_)|refine Le.thenC (λ_=>?_) (λ_=>?_)|refine Le.cond ?_ ?_|refine Le.bind ?_ (λ_=>?_))
def kN (h:(List Int)):Option ((List Int)) :=
 bif (decide ((h.length:Int)<2))then some h else (vO 1 (λs=>jR h s)).bind λo=>thenC o (λA=>some h) (λr=>some r)
theorem ut (h:(List Int)):Le (kN h) (ig h):=by
 unfold kN ig
 repeat' (with_reducible first|exact Le.refl _|exact rO _ _|refine Le.loop (λ_=>?_)|refine Le.thenC (λ_=>?_) (λ_=>?_)|refine Le.cond ?_ ?_|refine Le.bind ?_ (λ_=>?_))
def eD (B:Int) (F:Int) (h:(List Run)×Int):Option (Ctl ((List Run)×Int) (Unit)) :=
 bif (decide (h.2<B))then (vO (h.1,h.2) (λs=>dB F s)).bind λA=>thenC A (λo=>some (.go (o.1,(w64 (h.2+1))))) (λ_=>none)else some (.brk (h.1,h.2))
theorem lC (o:Int) (A:Int) (h:(List Run)×Int):Le (eD o A h) (bR o A h):=by
 unfold eD bR
 repeat' (with_reducible first|exact Le.refl _|refine Le.loop (λ_=>?_)|refine Le.thenC (λ_=>?_) (λ_=>?_)|refine Le.cond ?_ ?_|refine Le.bind ?_ (λ_=>?_))
def fE (h:(List Run)) (o:Int) (F:Int):Option ((List Run)) :=
 (vO (h,(w64 (o+1))) (λs=>eD F o s)).bind λB=>thenC B (λA=>some A.1) (λ_=>none)
theorem mr (h:(List Run)) (o:Int) (A:Int):Le (fE h o A) (bU h o A):=by
 unfold fE bU
 repeat' (with_reducible first|exact Le.refl _|exact lC _ _ _|refine Le.loop (λ_=>?_)|refine Le.thenC (λ_=>?_) (λ_=>?_)|refine Le.bind ?_ (λ_=>?_))
def gu (B:Int) (F:Int) (h:(List Run)) (o:Int) (I:Unit):Option (Ctl (Unit) ((List Run))) :=
 bif (decide ((w64 (B-F))<=12))then (fE h F B).bind λA=>(iP A h).bind λ_=>some (.ret A)else bif (o==0)then none else none
theorem nu (B:Int) (F:Int) (o:(List Run)) (h:Int) (A:Unit):Le (gu B F o h A) (di B F o h A):=by
 unfold gu di
 repeat' (with_reducible first|exact Le.refl _|exact mr _ _ _|refine Le.cond ?_ ?_|refine Le.bind ?_ (λ_=>?_))
def iq (h:(List Run)) (B:Int) (F:Int) (o:Int):Option ((List Run)) :=
 (vO () (λs=>gu F B h o s)).bind λA=>thenC A (λI=>some h) (λr=>some r)
theorem oD (o:(List Run)) (A:Int) (B:Int) (h:Int):Le (iq o A B h) (dH o A B h):=by
 unfold iq dH
 repeat' (with_reducible first|exact Le.refl _|exact nu _ _ _ _ _|refine Le.loop (λ_=>?_)|refine Le.thenC (λ_=>?_) (λ_=>?_)|refine Le.bind ?_ (λ_=>?_))
def fH (h:(List Run)):Option ((List Run)) :=
 (iI (IntKind.u64.wrap (h.length:Int))).bind λA=>(iq h 0 (h.length:Int) A).bind λo=>(iP o h).bind λ_=>some o
theorem mI (h:(List Run)):Le (fH h) (cz h):=by
 unfold fH cz
 repeat' (with_reducible first|exact Le.refl _|exact oD _ _ _ _|refine Le.bind ?_ (λ_=>?_))
def uU (I:(List Rect)) (J:Int):Option ((List Run)) :=
 (forL I ([]:List Run) (λk x s=>qU J k x s)).bind λo=>thenC o (λA=>(fH A).bind λh=>(iP h A).bind λ_=>(forL h ([]:List Run) (λk x s=>rC k x s)).bind λB=>thenC B (λF=>some F) (λ_=>none)) (λ_=>none)
theorem Iz (h:(List Rect)) (o:Int):Le (uU h o) (qG h o):=by
 unfold uU qG
 repeat' (with_reducible first|exact Le.refl _|exact mI _|refine Le.forL (λ_ _ _=>?_)|refine Le.thenC (λ_=>?_) (λ_=>?_)|refine Le.bind ?_ (λ_=>?_))
def uw (F:(List Run)) (N:Nat) (o:Run) (B:(List Run)×Int):Option (Ctl ((List Run)×Int) (Unit)) :=
 (vO B.2 (λs=>rA F o s)).bind λL=>thenC L (λA=>(vO (B.1,A,o.f_from) (λs=>qV F o s)).bind λM=>thenC M (λh=>(bif (decide (h.2.2<o.f_to))then (mK h.1 ([(⟨h.2.2,o.f_to⟩:Run)]:List Run)).bind λJ=>some J else some h.1).bind λI=>some (.go (I,A))) (λ_=>none)) (λ_=>none)
theorem CX (B:(List Run)) (A:Nat) (h:Run) (o:(List Run)×Int):Le (uw B A h o) (oK B A h o):=by
 unfold uw oK
 repeat' (with_reducible first|exact Le.refl _|refine Le.loop (λ_=>?_)|refine Le.thenC (λ_=>?_) (λ_=>?_)|refine Le.cond ?_ ?_|refine Le.bind ?_ (λ_=>?_))
def yZ (o:(List Run)) (B:(List Run)):Option ((List Run)) :=
 (forL o (([]:List Run),0) (λk x s=>uw B k x s)).bind λh=>thenC h (λA=>some A.1) (λ_=>none)
theorem Gz (o:(List Run)) (h:(List Run)):Le (yZ o h) (tC o h):=by
 unfold yZ tC
 repeat' (with_reducible first|exact Le.refl _|exact CX _ _ _ _|refine Le.forL (λ_ _ _=>?_)|refine Le.thenC (λ_=>?_) (λ_=>?_)|refine Le.bind ?_ (λ_=>?_))
def qZ (L:(List Int)) (W:(List Rect)) (R:(List Rect)) (I:Nat) (o:Int) (h:(List Rect)×(List Run)×Int):Option (Ctl ((List Rect)×(List Run)×Int) (Unit)) :=
 (bif (decide ((w64 ((I:Int)+1))<(L.length:Int)))then (uU W o).bind λJ=>(uU R o).bind λF=>(yZ J F).bind λO=>some O else some ([]:List Run)).bind λA=>(fF h.2.1 A).bind λN=>bif N then some (.go (h.1,h.2.1,h.2.2))else (forL h.2.1 h.1 (λk x s=>o8 h o k x s)).bind λM=>thenC M (λB=>some (.go (B,A,o))) (λ_=>none)
theorem AV (o:(List Int)) (F:(List Rect)) (I:(List Rect)) (B:Nat) (h:Int) (A:(List Rect)×(List Run)×Int):Le (qZ o F I B h A) (mf o F I B h A):=by
 unfold qZ mf
 repeat' (with_reducible first|exact Le.refl _|exact Iz _ _|exact Gz _ _|refine Le.forL (λ_ _ _=>?_)|refine Le.thenC (λ_=>?_) (λ_=>?_)|refine Le.cond ?_ ?_|refine Le.bind ?_ (λ_=>?_))
def vW (I:(List Rect)) (B:(List Rect)):Option ((List Rect)) :=
 (gD ([I,B]:List (List Rect))).bind λM=>(forL M ([]:List Int) (λk x s=>oZ k x s)).bind λJ=>thenC J (λo=>(zW o).bind λh=>(iP h o).bind λ_=>(kN h).bind λA=>(forL A (([]:List Rect),([]:List Run),0) (λk x s=>qZ A I B k x s)).bind λL=>thenC L (λF=>some F.1) (λ_=>none)) (λ_=>none)
theorem Ea (o:(List Rect)) (h:(List Rect)):Le (vW o h) (qa o h):=by
 unfold vW qa
 repeat' (with_reducible first|exact Le.refl _|exact ut _|exact AV _ _ _ _ _ _|exact RG _|refine Le.forL (λ_ _ _=>?_)|refine Le.thenC (λ_=>?_) (λ_=>?_)|refine Le.bind ?_ (λ_=>?_))
def yj (o:(List Rect)):Option (Int×Int) :=
 (nR o).bind λh=>bif (h != 0)then some (0,h)else (vW o ([]:List Rect)).bind λA=>(wX A).bind λB=>some (B,0)
theorem G7 (h:(List Rect)):Le (yj h) (tT h):=by
 unfold yj tT
 repeat' (with_reducible first|exact Le.refl _|exact Ea _ _|refine Le.cond ?_ ?_|refine Le.bind ?_ (λ_=>?_))
def pG (I:(List ByteArray)) (h:Nat) (B:ByteArray) (J:Unit):Option (Ctl (Unit) (Int)) :=
 (jH B).bind λo=>bif (!o)then some (.ret 5)else (bif (decide ((h:Int)>0))then (idx I (w64 ((h:Int)-1))).bind λA=>some (sLe B A)else some false).bind λF=>bif F then some (.ret 7)else some (.go ())
theorem zu (A:(List ByteArray)) (o:Nat) (B:ByteArray) (h:Unit):Le (pG A o B h) (kP A o B h):=by
 unfold pG kP
 repeat' (with_reducible first|exact Le.refl _|exact lJ _|refine Le.cond ?_ ?_|refine Le.bind ?_ (λ_=>?_))
def o5 (h:(List ByteArray)):Option (Int) :=
 (forL h () (λk x s=>pG h k x s)).bind λo=>thenC o (λA=>some 0) (λr=>some r)
theorem wo (h:(List ByteArray)):Le (o5 h) (lq h):=by
 unfold o5 lq
 repeat' (with_reducible first|exact Le.refl _|exact zu _ _ _ _|refine Le.forL (λ_ _ _=>?_)|refine Le.thenC (λ_=>?_) (λ_=>?_)|refine Le.bind ?_ (λ_=>?_))
def pO (h:(List ByteArray)):Option (Int) :=
 bif (decide ((h.length:Int)>20))then some 2 else (o5 h).bind λo=>some o
theorem zn (h:(List ByteArray)):Le (pO h) (kQ h):=by
 unfold pO kQ
 repeat' (with_reducible first|exact Le.refl _|exact wo _|refine Le.cond ?_ ?_|refine Le.bind ?_ (λ_=>?_))
def oC (h:Entry):Option (Int) :=
 ((jH h.Key).bind λX=>bif (!X)then some true else (jH h.Item).bind λW=>some (!W)).bind λY=>bif Y then some 5 else ((aY h.Version 0 1000000).bind λN=>bif N then some true else (aY h.First 0 h.Last).bind λB=>bif B then some true else bif (decide (h.Last>4000))then some true else (aY h.Every 1 400).bind λO=>bif O then some true else (aY h.Days 1 127).bind λA=>some A).bind λI=>bif I then some 1 else (lL h.Except).bind λo=>bif (o != 0)then some o else ((aY h.From 0 1439).bind λJ=>bif J then some true else (aY h.To 0 1439).bind λL=>bif L then some true else (aY h.Prio 0 9).bind λM=>some M).bind λR=>bif R then some 1 else (pO h.Tags).bind λF=>some F
theorem yL (h:Entry):Le (oC h) (kr h):=by
 unfold oC kr
 repeat' (with_reducible first|exact Le.refl _|exact lJ _|exact zn _|refine Le.cond ?_ ?_|refine Le.bind ?_ (λ_=>?_))
def lc (I:(List Entry)) (B:Nat) (o:Entry) (J:Unit):Option (Ctl (Unit) (Int)) :=
 (oC o).bind λh=>bif (h != 0)then some (.ret h)else (bif (decide ((B:Int)>0))then (idx I (w64 ((B:Int)-1))).bind λA=>some (sLe o.Key A.Key)else some false).bind λF=>bif F then some (.ret 7)else some (.go ())
theorem uV (A:(List Entry)) (B:Nat) (h:Entry) (o:Unit):Le (lc A B h o) (iH A B h o):=by
 unfold lc iH
 repeat' (with_reducible first|exact Le.refl _|exact yL _|refine Le.cond ?_ ?_|refine Le.bind ?_ (λ_=>?_))
def mZ (h:(List Entry)):Option (Int) :=
 bif (decide ((h.length:Int)>200))then some 2 else (forL h () (λk x s=>lc h k x s)).bind λo=>thenC o (λA=>some 0) (λr=>some r)
theorem xc (h:(List Entry)):Le (mZ h) (jy h):=by
 unfold mZ jy
 repeat' (with_reducible first|exact Le.refl _|exact uV _ _ _ _|refine Le.forL (λ_ _ _=>?_)|refine Le.thenC (λ_=>?_) (λ_=>?_)|refine Le.cond ?_ ?_|refine Le.bind ?_ (λ_=>?_))
def jY (o:(List Int)) (h:Int):Option (Int×Bool) :=
 (vO (0,(o.length:Int)) (λs=>gZ o h s)).bind λL=>thenC L (λA=>(bif (decide (A.1<(o.length:Int)))then (idx o A.1).bind λJ=>bif (J==h)then some true else (idx o A.1).bind λF=>(kI F).bind λM=>bif M then (kI h).bind λB=>some B else some false else some false).bind λI=>some (A.1,I)) (λ_=>none)
theorem sD (o:(List Int)) (h:Int):Le (jY o h) (gm o h):=by
 unfold jY gm
 repeat' (with_reducible first|exact Le.refl _|refine Le.loop (λ_=>?_)|refine Le.thenC (λ_=>?_) (λ_=>?_)|refine Le.cond ?_ ?_|refine Le.bind ?_ (λ_=>?_))
def uq (h:Entry) (o:Int):Option (Bool) :=
 ((aY o h.First h.Last).bind λJ=>bif J then some true else (MP .i64 (w64 (o-h.First)) h.Every).bind λI=>bif (I != 0)then some true else (shlO .i64 1 (o.tmod 7)).bind λB=>some ((Rp .i64 h.Days B)==0)).bind λF=>bif F then some false else (jY h.Except o).bind λA=>some (!A.2)
theorem Di (o:Entry) (h:Int):Le (uq o h) (oM o h):=by
 unfold uq oM
 repeat' (with_reducible first|exact Le.refl _|exact sD _ _|refine Le.cond ?_ ?_|refine Le.bind ?_ (λ_=>?_))
def qm (A:Window) (o:Int) (F:Entry) (h:(List Window)×Int):Option (Ctl ((List Window)×Int) (Unit)) :=
 bif (decide (h.2<=(Al (w64 ((w64 ((w64 (A.To+(w64 (o*60000)))).tdiv 86400000))+1)) F.Last)))then (uq F h.2).bind λJ=>bif (!J)then some (.go (h.1,(w64 (h.2+1))))else (qj F o h.2).bind λB=>(bif (decide (B.From<A.To))then some (decide (B.To>A.From))else some false).bind λL=>(bif L then (mK h.1 ([B]:List Window)).bind λM=>some M else some h.1).bind λI=>some (.go (I,(w64 (h.2+1))))else some (.brk (h.1,h.2))
theorem zM (A:Window) (h:Int) (B:Entry) (o:(List Window)×Int):Le (qm A h B o) (lw A h B o):=by
 unfold qm lw
 repeat' (with_reducible first|exact Le.refl _|exact Di _ _|refine Le.cond ?_ ?_|refine Le.bind ?_ (λ_=>?_))
def uu (A:Entry) (o:Int) (h:Window):Option ((List Window)) :=
 (bif A.Gone then some true else some (decide (h.From>=h.To))).bind λI=>bif I then some ([]:(List Window))else (vO (([]:List Window),(xH (w64 ((w64 ((w64 (h.From+(w64 (o*60000)))).tdiv 86400000))-2)) A.First)) (λs=>qm h o A s)).bind λB=>thenC B (λF=>some F.1) (λ_=>none)
theorem Cq (A:Entry) (h:Int) (o:Window):Le (uu A h o) (oL A h o):=by
 unfold uu oL
 repeat' (with_reducible first|exact Le.refl _|exact zM _ _ _ _|refine Le.loop (λ_=>?_)|refine Le.thenC (λ_=>?_) (λ_=>?_)|refine Le.cond ?_ ?_|refine Le.bind ?_ (λ_=>?_))
def uz (J:Entry) (h:Int) (o:Window):Option ((List Window)×Int) :=
 (mZ ([J]:List Entry)).bind λL=>bif (L != 0)then some (([]:(List Window)),L)else (aY h (-1440) 1440).bind λM=>bif M then some (([]:(List Window)),1)else (lu o).bind λA=>bif (A != 0)then some (([]:(List Window)),A)else (uu J h o).bind λB=>(forL (List.range ((B.length:Int)).toNat) B (λk x s=>nU o k x s)).bind λF=>thenC F (λI=>some (I,0)) (λ_=>none)
theorem C8 (A:Entry) (h:Int) (o:Window):Le (uz A h o) (oO A h o):=by
 unfold uz oO
 repeat' (with_reducible first|exact Le.refl _|exact xc _|exact Cq _ _ _|refine Le.forL (λ_ _ _=>?_)|refine Le.thenC (λ_=>?_) (λ_=>?_)|refine Le.cond ?_ ?_|refine Le.bind ?_ (λ_=>?_))
def qB (h:(List ByteArray)):Option (Int) :=
 bif (decide ((h.length:Int)>20))then some 2 else (o5 h).bind λo=>some o
theorem zP (h:(List ByteArray)):Le (qB h) (lK h):=by
 unfold qB lK
 repeat' (with_reducible first|exact Le.refl _|exact wo _|refine Le.cond ?_ ?_|refine Le.bind ?_ (λ_=>?_))
def kK (X:(List Campaign)) (M:Nat) (h:Campaign) (Y:Unit):Option (Ctl (Unit) (Int)) :=
 ((jH h.Key).bind λA=>bif (!A)then some true else bif (sNe h.Class (⟨#[]⟩:ByteArray))then (jH h.Class).bind λN=>some (!N)else some false).bind λB=>bif B then some (.ret 5)else (bif (decide ((M:Int)>0))then (idx X (w64 ((M:Int)-1))).bind λW=>some (sLe h.Key W.Key)else some false).bind λR=>bif R then some (.ret 7)else ((rq h.Time).bind λI=>bif (!I)then some true else (aY h.Goal 0 1000000).bind λJ=>bif J then some true else (aY h.Most 0 1000000).bind λL=>bif L then some true else (aY h.Cents 0 1000000000).bind λF=>some F).bind λO=>bif O then some (.ret 1)else (qB h.Tags).bind λo=>bif (o != 0)then some (.ret o)else some (.go ())
theorem uF (A:(List Campaign)) (B:Nat) (h:Campaign) (o:Unit):Le (kK A B h o) (ik A B h o):=by
 unfold kK ik
 repeat' (with_reducible first|exact Le.refl _|exact lJ _|exact zP _|refine Le.cond ?_ ?_|refine Le.bind ?_ (λ_=>?_))
def lZ (h:(List Campaign)):Option (Int) :=
 bif (decide ((h.length:Int)>30))then some 2 else (forL h () (λk x s=>kK h k x s)).bind λo=>thenC o (λA=>some 0) (λr=>some r)
theorem wD (h:(List Campaign)):Le (lZ h) (jg h):=by
 unfold lZ jg
 repeat' (with_reducible first|exact Le.refl _|exact uF _ _ _ _|refine Le.forL (λ_ _ _=>?_)|refine Le.thenC (λ_=>?_) (λ_=>?_)|refine Le.cond ?_ ?_|refine Le.bind ?_ (λ_=>?_))
def yD (B:Campaign) (h:Int):Option (Int×Int) :=
 (lZ ([B]:List Campaign)).bind λA=>bif (A != 0)then some (0,A)else (bX h).bind λF=>bif (!F)then some (0,1)else (wQ B h).bind λo=>some (o,0)
theorem GZ (o:Campaign) (h:Int):Le (yD o h) (tK o h):=by
 unfold yD tK
 repeat' (with_reducible first|exact Le.refl _|exact wD _|refine Le.cond ?_ ?_|refine Le.bind ?_ (λ_=>?_))
def oG (A:(List Beat)) (o:Nat) (h:Beat) (X:Unit):Option (Ctl (Unit) (Int)) :=
 (jH h.Player).bind λB=>bif (!B)then some (.ret 5)else ((bX h.At).bind λJ=>bif (!J)then some true else (aY h.Clock 0 345686399999).bind λI=>some I).bind λW=>bif W then some (.ret 1)else (bif (decide ((o:Int)>0))then (idx A (w64 ((o:Int)-1))).bind λR=>(mR R h).bind λL=>some (decide (L>=0))else some false).bind λF=>bif F then some (.ret 7)else (bif (decide ((o:Int)>0))then (idx A (w64 ((o:Int)-1))).bind λM=>bif (sEq h.Player M.Player)then (idx A (w64 ((o:Int)-1))).bind λN=>some (decide (h.Clock<=N.Clock))else some false else some false).bind λO=>bif O then some (.ret 16)else some (.go ())
theorem yH (A:(List Beat)) (B:Nat) (h:Beat) (o:Unit):Le (oG A B h o) (kg A B h o):=by
 unfold oG kg
 repeat' (with_reducible first|exact Le.refl _|exact lJ _|refine Le.cond ?_ ?_|refine Le.bind ?_ (λ_=>?_))
def ry (h:(List Beat)):Option (Int) :=
 bif (decide ((h.length:Int)>500))then some 2 else (forL h () (λk x s=>oG h k x s)).bind λo=>thenC o (λA=>some 0) (λr=>some r)
theorem Ba (h:(List Beat)):Le (ry h) (mo h):=by
 unfold ry mo
 repeat' (with_reducible first|exact Le.refl _|exact yH _ _ _ _|refine Le.forL (λ_ _ _=>?_)|refine Le.thenC (λ_=>?_) (λ_=>?_)|refine Le.cond ?_ ?_|refine Le.bind ?_ (λ_=>?_))
def xz (o:(List Beat_)) (F:Int):Option (Int×Int) :=
 bif ((o.length:Int)==0)then some (0,8)else (vO 0 (λs=>ql o F s)).bind λO=>thenC O (λB=>bif (B==0)then (idx o 0).bind λJ=>(idx o 0).bind λM=>(bX (w64 (J.f_to-(w64 (M.f_from-F))))).bind λX=>bif (!X)then some (0,11)else some ((w64 (J.f_to-(w64 (M.f_from-F)))),0)else bif (B==(o.length:Int))then (idx o (w64 (B-1))).bind λL=>(idx o (w64 (B-1))).bind λN=>(bX (w64 ((w64 (L.f_to+F))-N.f_from))).bind λY=>bif (!Y)then some (0,11)else some ((w64 ((w64 (L.f_to+F))-N.f_from)),0)else (idx o (w64 (B-1))).bind λh=>(idx o B).bind λA=>(bif (decide ((w64 (A.f_from-h.f_from))>2592000000))then some true else some (decide ((w64 (A.f_to-h.f_to))>2592000000))).bind λW=>bif W then some (0,2)else (N9 .i64 (w64 ((w64 (F-h.f_from))*(w64 (A.f_to-h.f_to)))) (w64 (A.f_from-h.f_from))).bind λI=>(bX (w64 (h.f_to+I))).bind λR=>bif (!R)then some (0,11)else some ((w64 (h.f_to+I)),0)) (λ_=>none)
theorem Fy (h:(List Beat_)) (o:Int):Le (xz h o) (qW h o):=by
 unfold xz qW
 repeat' (with_reducible first|exact Le.refl _|refine Le.loop (λ_=>?_)|refine Le.thenC (λ_=>?_) (λ_=>?_)|refine Le.cond ?_ ?_|refine Le.bind ?_ (λ_=>?_))
def yO (I:(List Beat)) (h:ByteArray) (L:Int) (o:Bool):Option (Int×Int) :=
 (ry I).bind λF=>bif (F != 0)then some (0,F)else (jH h).bind λM=>bif (!M)then some (0,5)else (bX L).bind λJ=>bif (!J)then some (0,1)else (sU I h o).bind λB=>(xz B L).bind λA=>some (A.1,A.2)
theorem Gy (A:(List Beat)) (h:ByteArray) (B:Int) (o:Bool):Le (yO A h B o) (uh A h B o):=by
 unfold yO uh
 repeat' (with_reducible first|exact Le.refl _|exact lJ _|exact Ba _|exact Fy _ _|refine Le.cond ?_ ?_|refine Le.bind ?_ (λ_=>?_))
def zb (B:(List Beat)) (h:ByteArray) (o:Int):Option (Int×Int) :=
 (yO B h o false).bind λA=>some (A.1,A.2)
theorem Hr (A:(List Beat)) (h:ByteArray) (o:Int):Le (zb A h o) (tX A h o):=by
 unfold zb tX
 repeat' (with_reducible first|exact Le.refl _|exact Gy _ _ _ _|refine Le.bind ?_ (λ_=>?_))
def pK (F:Alert) (I:Nat) (h:ByteArray) (J:Unit):Option (Ctl (Unit) (Int)) :=
 (jH h).bind λo=>bif (!o)then some (.ret 5)else (bif (decide ((I:Int)>0))then (idx F.Refs (w64 ((I:Int)-1))).bind λB=>some (sLe h B)else some false).bind λA=>bif A then some (.ret 7)else bif (sEq h F.Id)then some (.ret 14)else some (.go ())
theorem zw (o:Alert) (B:Nat) (h:ByteArray) (A:Unit):Le (pK o B h A) (dZ o B h A):=by
 unfold pK dZ
 repeat' (with_reducible first|exact Le.refl _|exact lJ _|refine Le.cond ?_ ?_|refine Le.bind ?_ (λ_=>?_))
def sw (h:Alert):Option (Int) :=
 bif (decide ((h.Refs.length:Int)>20))then some 2 else (forL h.Refs () (λk x s=>pK h k x s)).bind λo=>thenC o (λA=>bif (!((h.Kind==1)==((h.Refs.length:Int)==0)))then some 3 else some 0) (λr=>some r)
theorem BM (h:Alert):Le (sw h) (iJ h):=by
 unfold sw iJ
 repeat' (with_reducible first|exact Le.refl _|exact zw _ _ _ _|refine Le.forL (λ_ _ _=>?_)|refine Le.thenC (λ_=>?_) (λ_=>?_)|refine Le.cond ?_ ?_|refine Le.bind ?_ (λ_=>?_))
def qQ (h:Alert):Option (Int) :=
 ((jH h.Id).bind λR=>bif (!R)then some true else (jH h.Sender).bind λO=>some (!O)).bind λW=>bif W then some 5 else (aY h.Kind 1 3).bind λJ=>bif J then some 4 else (sw h).bind λo=>bif (o != 0)then some o else ((bX h.At).bind λB=>bif (!B)then some true else (aY h.Until (w64 (h.At+1)) (w64 (h.At+2592000000))).bind λA=>bif A then some true else (aY h.Weight 1 9).bind λL=>some L).bind λN=>bif N then some 1 else bif (decide ((h.Areas.length:Int)>20))then some 2 else (forL h.Areas () (λk x s=>eQ k x s)).bind λF=>thenC F (λX=>bif (!((h.Kind==3)==((h.Areas.length:Int)==0)))then some 3 else bif (decide ((h.Text.size:Int)>500))then some 2 else ((eO h.Text).bind λI=>bif (!I)then some true else bif (sEq h.Text (⟨#[]⟩:ByteArray))then some (!(h.Kind==3))else some false).bind λM=>bif M then some 3 else some 0) (λr=>some r)
theorem Bg (h:Alert):Le (qQ h) (gP h):=by
 unfold qQ gP
 repeat' (with_reducible first|exact Le.refl _|exact lJ _|exact BM _|exact dY _|exact FD _|refine Le.forL (λ_ _ _=>?_)|refine Le.thenC (λ_=>?_) (λ_=>?_)|refine Le.cond ?_ ?_|refine Le.bind ?_ (λ_=>?_))
def nL (J:(List Alert)) (F:Nat) (o:Alert) (L:Unit):Option (Ctl (Unit) (Int)) :=
 (qQ o).bind λh=>bif (h != 0)then some (.ret h)else (bif (decide ((F:Int)>0))then (idx J (w64 ((F:Int)-1))).bind λB=>(ja B o).bind λA=>some (decide (A>=0))else some false).bind λI=>bif I then some (.ret 7)else some (.go ())
theorem xA (A:(List Alert)) (B:Nat) (h:Alert) (o:Unit):Le (nL A B h o) (gK A B h o):=by
 unfold nL gK
 repeat' (with_reducible first|exact Le.refl _|exact Bg _|refine Le.cond ?_ ?_|refine Le.bind ?_ (λ_=>?_))
def qw (h:(List Alert)):Option (Int) :=
 bif (decide ((h.length:Int)>300))then some 2 else (forL h () (λk x s=>nL h k x s)).bind λA=>thenC A (λF=>(forL h ([]:List (ByteArray×Bool)) (λk x s=>gJ k x s)).bind λo=>thenC o (λB=>some 0) (λr=>some r)) (λr=>some r)
theorem zX (h:(List Alert)):Le (qw h) (iA h):=by
 unfold qw iA
 repeat' (with_reducible first|exact Le.refl _|exact xA _ _ _ _|refine Le.forL (λ_ _ _=>?_)|refine Le.thenC (λ_=>?_) (λ_=>?_)|refine Le.cond ?_ ?_|refine Le.bind ?_ (λ_=>?_))
def og (M:(List Post)) (I:Nat) (h:Post) (N:Unit):Option (Ctl (Unit) (Int)) :=
 (jH h.Player).bind λo=>bif (!o)then some (.ret 5)else ((aY h.X (-100000) 100000).bind λF=>bif F then some true else (aY h.Y (-100000) 100000).bind λB=>some B).bind λL=>bif L then some (.ret 1)else (bif (decide ((I:Int)>0))then (idx M (w64 ((I:Int)-1))).bind λJ=>some (sLe h.Player J.Player)else some false).bind λA=>bif A then some (.ret 7)else some (.go ())
theorem ze (A:(List Post)) (B:Nat) (h:Post) (o:Unit):Le (og A B h o) (iy A B h o):=by
 unfold og iy
 repeat' (with_reducible first|exact Le.refl _|exact lJ _|refine Le.cond ?_ ?_|refine Le.bind ?_ (λ_=>?_))
def rz (h:(List Post)):Option (Int) :=
 bif (decide ((h.length:Int)>500))then some 2 else (forL h () (λk x s=>og h k x s)).bind λo=>thenC o (λA=>some 0) (λr=>some r)
theorem A8 (h:(List Post)):Le (rz h) (jE h):=by
 unfold rz jE
 repeat' (with_reducible first|exact Le.refl _|exact ze _ _ _ _|refine Le.forL (λ_ _ _=>?_)|refine Le.thenC (λ_=>?_) (λ_=>?_)|refine Le.cond ?_ ?_|refine Le.bind ?_ (λ_=>?_))
def sS (A:(List Alert)) (h:(List Post)):Option (Int) :=
 (qw A).bind λo=>bif (o != 0)then some o else (rz h).bind λB=>some B
theorem BS (o:(List Alert)) (h:(List Post)):Le (sS o h) (iM o h):=by
 unfold sS iM
 repeat' (with_reducible first|exact Le.refl _|exact zX _|exact A8 _|refine Le.cond ?_ ?_|refine Le.bind ?_ (λ_=>?_))
def vR (A:Alert) (o:Post):Option (Bool×Int) :=
 (sS ([A]:List Alert) ([o]:List Post)).bind λh=>bif (h != 0)then some (false,h)else (kH A o).bind λB=>some (B,0)
theorem Ej (o:Alert) (h:Post):Le (vR o h) (pY o h):=by
 unfold vR pY
 repeat' (with_reducible first|exact Le.refl _|exact BS _ _|refine Le.cond ?_ ?_|refine Le.bind ?_ (λ_=>?_))
def zC  : Option (Bool) :=
 (yj ([(⟨0,0,2,2⟩:Rect),(⟨1,1,2,2⟩:Rect)]:List Rect)).bind λA=>(uz (⟨(⟨#[97]⟩:ByteArray),(⟨#[98]⟩:ByteArray),0,0,0,1,127,([]:List Int),1,2,0,([]:List ByteArray),false⟩:Entry) 0 (⟨0,86400000⟩:Window)).bind λI=>(yD (⟨(⟨#[97]⟩:ByteArray),(⟨#[]⟩:ByteArray),(⟨0,100⟩:Window),([]:List ByteArray),10,0,0⟩:Campaign) 50).bind λB=>(zb ([(⟨(⟨#[112]⟩:ByteArray),0,100⟩:Beat),(⟨(⟨#[112]⟩:ByteArray),1000,1300⟩:Beat)]:List Beat) (⟨#[112]⟩:ByteArray) 700).bind λF=>(vR (⟨(⟨#[97]⟩:ByteArray),(⟨#[115]⟩:ByteArray),1,([]:List ByteArray),0,5,1,([(⟨0,0,2,2⟩:Rect)]:List Rect),(⟨#[120]⟩:ByteArray)⟩:Alert) (⟨(⟨#[112]⟩:ByteArray),1,1⟩:Post)).bind λh=>((AQ ([A.2,I.2,B.2,F.2,h.2]:List Int)).bind λo=>bif (o==0)then bif (A.1==7)then bif ((I.1.length:Int)==1)then bif (B.1==5)then bif (F.1==500)then some h.1 else some false else some false else some false else some false else some false).bind λJ=>some J
theorem IZ  : Le (zC) (sK):=by
 unfold zC sK
 repeat' (with_reducible first|exact Le.refl _|exact G7 _|exact C8 _ _ _|exact GZ _ _|exact Hr _ _ _|exact Ej _ _|refine Le.cond ?_ ?_|refine Le.bind ?_ (λ_=>?_))
end Go.Proofs.YtadpbmfnnlkdlacGreatDoor.Law

open Go Go.Eng
namespace Go.Proofs.YtadpbmfnnlkdlacGreatDoor.Law
set_option linter.unusedVariables false
set_option maxRecDepth 100000
theorem ready_F:zC=some true:=by kernel_rfl
theorem R5:sK=some true:=IZ _ ready_F
end Go.Proofs.YtadpbmfnnlkdlacGreatDoor.Law


open Go Go.Eng
namespace Go.Proofs.YtadpbmfnnlkdlacGreatDoor.Law
set_option linter.unusedVariables false
set_option linter.unusedSimpArgs false
def Dj (k:ByteArray):List Alert->Option Nat
 | []=>none
 | x::xs=>if k=x.Id then some 0 else (Dj k xs).map (· + 1)
theorem Kb {k:ByteArray}:∀{l:List Alert} {i:Nat},Dj k l=some i->∃h:i<l.length,l[i].Id=k
 | [],_,h=>by cases h
 | x::xs,i,h=>by
  unfold Dj at h
  split at h
  ·rename_i e
   simp only [so_]at h
   subst h
   exact⟨by simp,e.symm⟩
  ·obtain ⟨j,hj,rfl⟩:=Option.map_eq_some_iff.1 h
   obtain ⟨h1,h2⟩:=Kb hj
   exact⟨by simpa using h1,by simpa using h2⟩
theorem Ei {k:ByteArray}:∀{l:List Alert},Dj k l=none->∀x∈l,x.Id≠k
 | [],_,_,o=>by cases o
 | y::ys,h,x,o=>by
  unfold Dj at h
  split at h
  ·cases h
  ·rename_i e
   rcases List.mem_cons.1 o with rfl|o
   ·exact λA=>e A.symm
   ·exact Ei (Option.map_eq_none_iff.1 h) x o
def Lg (h:List Alert) (x:Alert):Option (List Alert):=match Dj x.Id h with
 | none=>some (h++[x])
 | some i=>if h[i]? = some x then some h else none
def L6:List Alert->List Alert->Option (List Alert)
 | out,[]=>some out
 | out,x::xs=>(Lg out x).bind λo=>L6 o xs
def Bw (a:Alert):ByteArray×Alert:=(a.Id,a)
theorem mGetA (k:ByteArray):∀o:List Alert,mGet eqS (o.map Bw) k=(Dj k o).bind λi=>o[i]?
 | []=>rfl
 | x::xs=>by
  rw [List.map_cons,xX,Dj,show (Bw x).1=x.Id from rfl,show (Bw x).2=x from rfl]
  by_cases h:k=x.Id
  ·rw [if_pos ((wM _ _).2 h),if_pos h];rfl
  ·rw [if_neg (λq=>h ((wM _ _).1 q)),if_neg h,mGetA k xs]
   cases Dj k xs <;> simp
theorem mSetA (x:Alert):∀o:List Alert,Dj x.Id o=none->zY eqS (o.map Bw) x.Id x=(o++[x]).map Bw
 | [],_=>rfl
 | y::ys,h=>by
  unfold Dj at h
  split at h
  ·cases h
  ·rename_i e
   rw [List.map_cons,JN,show (Bw y).1=y.Id from rfl,if_neg (λq=>e ((wM _ _).1 q)),mSetA x ys (Option.map_eq_none_iff.1 h)]
   rfl
def outA (o:Option (List Alert)) {σ:Type} (f:List Alert->σ):Ctl σ (List Alert×Int):=match o with
 | none => .ret ([],13)
 | some l => .go (f l)
theorem PX {a:Alert} (h:GA a):tQ a=some a:=by
 unfold tQ gG eX
 rw [kW _ _ (by have:=h.rlen;simp;omega),kW _ _ (by have:=h.alen;simp;omega)]
 simp
theorem progA {A:List Alert} {x:Alert} (F:RA x) (ho:∀o∈A,RA o) (hl:A.length<=1000) (k:Nat):kJ k x (A.map Bw,A)=some (outA (Lg A x) λl=>(l.map Bw,l)):=by
 unfold kJ Lg
 simp only [mGetA]
 cases hk:Dj x.Id A with
 | none =>
  have hs:=mSetA x A hk
  simp only [Option.bind_none,Option.isSome_none,Bool.not_false,cond_true,PX F.1,ob_,kW A [x] (by simp;omega),hs]
  rfl
 | some i =>
  obtain ⟨hi,B⟩:=Kb hk
  simp only [ob_,List.getElem?_eq_getElem hi,Option.isSome_some,Bool.not_true,cond_false,Option.getD_some,PS (ho _ (List.getElem_mem hi)).1]
  by_cases he:A[i]=x
  ·simp only [decide_eq_true he,Bool.not_true,cond_false,he,if_true];rfl
  ·have:¬(some A[i]=some x):=λh=>he (Option.some.inj h)
   simp only [decide_eq_false he,Bool.not_false,cond_true,if_neg this];rfl
def KA (l:List Alert):Prop:=(l.map (·.Id)).Nodup
theorem addA_ok {A:List Alert} {x:Alert} (J:RA x) (ho:∀o∈A,RA o) (F:KA A) {r:List Alert} (h:Lg A x=some r):(∀o∈r,RA o)/\r.length<=A.length+1/\KA r:=by
 unfold Lg at h
 cases hk:Dj x.Id A with
 | none =>
  rw [hk]at h
  simp only [so_]at h
  subst h
  refine⟨λo B => ?_,by simp,?_⟩
  ·rcases List.mem_append.1 B with h1|h1
   ·exact ho o h1
   ·simp only [List.mem_singleton]at h1;rw [h1];exact J
  ·unfold KA
   rw [List.map_append,List.nodup_append]
   refine⟨F,by simp,λa L b hb => ?_⟩
   simp only [List.map_cons,List.map_nil,List.mem_singleton]at hb
   obtain ⟨y,I,rfl⟩:=List.mem_map.1 L
   rw [hb]
   exact Ei hk y I
 | some i =>
  rw [hk]at h
  simp only at h
  split at h
  ·simp only [so_]at h
   subst h
   exact⟨ho,by omega,F⟩
  ·cases h
theorem Ji {σ:Type} {B:Nat->Alert->σ->Option (Ctl σ (List Alert×Int))} (f:List Alert->σ) (F:∀k x h,RA x->(∀o∈h,RA o)->h.length<=1000->B k x (f h)=some (outA (Lg h x) f)):∀(xs:List Alert) (k:Nat) (h:List Alert),(∀x∈xs,RA x)->(∀o∈h,RA o)->KA h->h.length+xs.length<=1000 ->
  forR B xs k (f h)=some (outA (L6 h xs) f)
 | [],k,h,_,_,_,_=>rfl
 | x::xs,k,h,A,ho,L,hl=>by
  simp only [List.length_cons]at hl
  simp only [forR,F k x h (A x (by simp)) ho (by omega),ob_,L6]
  cases ha:Lg h x with
  | none=>rfl
  | some M =>
   obtain ⟨N,O,J⟩:=addA_ok (A x (by simp)) ho L ha
   simp only [outA,ob_]
   exact Ji f F xs (k+1) M (λy I=>A y (List.mem_cons_of_mem _ I)) N J (by omega)
theorem Nk (a b:List Alert) (J:a.length<=1000) (hb:b.length<=1000):dR [a,b]=some (a++b):=by
 unfold dR
 have F:forL [a,b] 0 (λk x s=>bD k x s)=some (.go (((a.length+b.length:Nat)):Int)):=by
  rw [je (by simp)]
  have A:∀k,bD k a 0=some (.go (a.length:Int)):=λk=>by
   unfold bD
   rw [show (0:Int)+(a.length:Int)=(a.length:Int) by omega,fG (by omega),decide_eq_false (by omega)];rfl
  have B:∀k,bD k b (a.length:Int)=some (.go ((a.length+b.length:Nat):Int)):=λk=>by
   unfold bD
   rw [fG (by omega),decide_eq_false (by omega)]
   simp
  simp only [forR,A,B,ob_]
 have o:∃g,dS (((a.length+b.length:Nat)):Int)=some g:=by
  unfold dS
  have q:w64 ((((a.length+b.length:Nat)):Int)-w64 (0-0))=((a.length+b.length:Nat):Int):=by
   rw [fG (n:=0-0) (by decide),fG (by omega)];omega
  rw [decide_eq_false (by omega),cond_false,q]
  by_cases h:(((a.length+b.length:Nat)):Int)>0
  ·rw [decide_eq_true h,cond_true]
   unfold zN
   rw [if_pos ⟨h,by omega,by omega⟩];exact⟨_,rfl⟩
  ·rw [decide_eq_false h];exact⟨_,rfl⟩
 obtain ⟨g,o⟩:=o
 have I:forL [a,b] ([]:List Alert) (λk x s=>bC k x s)=some (.go (a++b)):=by
  rw [je (by simp)]
  have A:∀k,bC k a []=some (.go a):=λk=>by
   unfold bC
   rw [kW _ _ (by simp;omega)];rfl
  have B:∀k,bC k b a=some (.go (a++b)):=λk=>by
   unfold bC
   rw [kW _ _ (by omega)];rfl
  simp only [forR,A,B,ob_]
 simp only [F,o,I,ob_,tN]
theorem sort12r {α:Type} {cmp:α->α->Option Int} {S:List α->Option (List α)} (L:∀x,S x=(iI (IntKind.u64.wrap (x.length:Int))).bind λB=>(K6 cmp x 0 (x.length:Int) B).bind λo=>(iP o x).bind λ_=>some o)
  {xs:List α} (hl:xs.length<=12) {R:α->α->Prop} (M:∀a∈xs,∀b∈xs,∃n,cmp a b=some n/\(n<0↔R a b)) (F:∀a b,R a b->¬R b a) (J:∀a b d,¬R a b->¬R b d->¬R a d) :
  ∃r,S xs=some r/\r.Perm xs/\r.Pairwise (λa b=>¬R b a):=by
 obtain ⟨k,O⟩:=TB xs.length hl
 obtain ⟨s,h1,h2,W⟩:=Sw (cmp:=cmp) (le:=λa b=>¬R b a) (p:=(· ∈ xs)) (λa b Y hb=>by
  obtain ⟨n,N,I⟩:=M a Y b hb
  exact⟨n,N,λh=>F a b (I.1 h),λh=>λq=>h (I.2 q)⟩) (λa b d h k=>J d b a k h) xs hl (λx X=>X) k
 refine⟨s,?_,h2,W⟩
 have A:iP s xs=some ():=by unfold iP;rw [if_pos h2.length_eq]
 rw [L,O,ob_,h1,ob_,A];rfl
end Go.Proofs.YtadpbmfnnlkdlacGreatDoor.Law

