import Derived.Test.YtdenjndllgahgaaGreatDoorCkMap
/-
  PLAIN LAW: ClocksPutRight is true of every stream.
-/
open Go Go.Eng
namespace Go.Proofs.YtdenjndllgahgaaGreatDoor.Law
set_option linter.unusedVariables false
set_option linter.unusedSimpArgs false
def ofB (p:ByteArray) (b:Beat):Bool:=decide (b.Player=p)
def gK (b:Beat):Beat_:=⟨b.At,b.Clock⟩
theorem AA (l:List Beat) (p:ByteArray) (hl:l.length<=1000000):jU l p=some (l.filter (ofB p)):=by
 have h1:bP l=some l:=by
  unfold bP;rw [iM [] l (by simp;omega)];rfl
 have h2:bE l p=delF (⟨(⟨#[]⟩:ByteArray),0,0⟩:Beat) (λe=>iW e p) l:=rfl
 unfold jU
 rw [h1,ob_,h2,delF_eq (f:=λe=>iW e p) (q:=λe=>sNe e.Player p) (λx _=>rfl) (by omega),ob_]
 congr 1
 apply List.filter_congr
 intro x _
 show (!sNe x.Player p)=ofB p x
 rw [vK,Bool.not_not];rfl
theorem xS (l:List Beat) (p:ByteArray) (back:Bool) (hl:l.length<=1000000):iV l p back=some ((l.filter (ofB p)).map (bif back then gK else gB)):=by
 have run:∀(xs:List Beat) (k:Nat) (acc:List Beat_),acc.length+xs.length<=1000000->dY (λk x s=>fM p back k x s) xs k acc=some (.go (acc++(xs.filter (ofB p)).map (bif back then gK else gB))):=by
  intro xs
  induction xs with
  | nil=>intro k acc _;simp [dY]
  | cons x xs ih =>
   intro k acc hlen
   simp only [List.length_cons]at hlen
   have hst:fM p back k x acc=some (.go (acc++(bif ofB p x then [(bif back then gK else gB) x]else []))):=by
    have hsn:sNe x.Player p = !ofB p x:=vK _ _
    unfold fM
    rw [hsn]
    cases ofB p x with
    | false=>simp
    | true =>
     simp only [Bool.not_true,cond_false,cond_true]
     cases back with
     | true=>simp only [cond_true,iM acc [_] (show acc.length+1<=_ by omega),ob_];rfl
     | false=>simp only [cond_false,iM acc [_] (show acc.length+1<=_ by omega),ob_];rfl
   rw [dY,hst,ob_]
   simp only
   rw [ih _ _ (by cases ofB p x <;> simp <;> omega),List.filter_cons]
   cases ofB p x <;> simp
 unfold iV
 rw [fK (by omega),run l 0 [] (by simpa using hl),ob_,fo,List.nil_append]
def pu (p:ByteArray):Int:=bif ng p then 0 else 5
def AL (n:Int):Int:=bif momB n then 0 else 1
theorem FI {l:List Beat} {p:ByteArray} (h:∀x∈l,momB x.At=true/\momB x.Clock=true) (back:Bool):Fy ((l.filter (ofB p)).map (bif back then gK else gB)):=by
 intro y hy
 obtain ⟨x,hx,rfl⟩:=List.mem_map.1 hy
 obtain ⟨h1,h2⟩:=h x (List.mem_filter.1 hx).1
 cases back with
 | true=>exact⟨q9 h1,q9 h2⟩
 | false=>exact⟨q9 h2,q9 h1⟩
theorem Gx (l:List Beat) (p:ByteArray) (n:Int) (back:Bool) (hs:∀x∈l,wN x) (hl:l.length<=1000000) (hp:eO p) :
  ∃k,(or0 (fG l) (or0 (pu p) (AL n))=0->Cut ((l.filter (ofB p)).map (bif back then gK else gB)) n k) /\
   kr l p n back=some (bif or0 (fG l) (or0 (pu p) (AL n))==0 then xx ((l.filter (ofB p)).map (bif back then gK else gB)) n k else (0,or0 (fG l) (or0 (pu p) (AL n)))):=by
 obtain ⟨k,hk⟩:=FW ((l.filter (ofB p)).map (bif back then gK else gB)) n
 refine⟨k,λ_=>hk,?_⟩
 unfold kr
 simp only [FH l hs hl,ob_,sD p (by unfold eO at hp;omega),mP,xS l p back hl]
 cases hb:fG l==0 with
 | false =>
  have h1:(fG l != 0)=true:=by simp [bne,hb]
  have h2:or0 (fG l) (or0 (pu p) (AL n))=fG l:=by unfold or0;rw [hb];rfl
  simp only [h1,cond_true,h2,hb,cond_false]
 | true =>
  have h1:(fG l != 0)=false:=by simp [bne,hb]
  have h0:fG l=0:=eq_of_beq hb
  have h2:or0 (fG l) (or0 (pu p) (AL n))=or0 (pu p) (AL n):=by rw [h0];rfl
  simp only [h1,cond_false,h2]
  unfold pu AL or0
  cases ng p with
  | false=>rfl
  | true =>
   simp only [Bool.not_true,cond_false,cond_true]
   cases hm:momB n with
   | false=>rfl
   | true =>
    simp only [Bool.not_true,cond_false,cond_true]
    have hlen:(l.filter (ofB p)).length<=1000000:=Nat.le_trans (List.length_filter_le _ _) hl
    rw [yJ hk (FI (Ca h0).2 back) (q9 hm) (by simpa using hlen)]
    rfl
theorem eta2 {α β:Type} (o:Option (α×β)):(o.bind λr=>some (r.1,r.2))=o:=by cases o <;> rfl
theorem rightA (b:List Beat) (p:ByteArray) (n:Int):mR b p n=kr b p n false:=eta2 _
theorem tX:kR=some true:=by
 unfold kR
 rw [rightA]
 obtain ⟨k,hk,h⟩:=Gx ([(⟨(⟨#[112]⟩:ByteArray),0,100⟩:Beat),(⟨(⟨#[112]⟩:ByteArray),1000,1300⟩:Beat)]:List Beat) (⟨#[112]⟩:ByteArray) 700 false
  (by intro x hx;simp only [List.mem_cons,List.not_mem_nil,or_false]at hx;rcases hx with rfl | rfl <;> exact dZ rfl) (by simp) (dZ rfl)
 rw [h]
 have h0:or0 (fG ([(⟨(⟨#[112]⟩:ByteArray),0,100⟩:Beat),(⟨(⟨#[112]⟩:ByteArray),1000,1300⟩:Beat)]:List Beat)) (or0 (pu (⟨#[112]⟩:ByteArray)) (AL 700))=0:=by decide +kernel
 have hc:=hk h0
 have hf:(([(⟨(⟨#[112]⟩:ByteArray),0,100⟩:Beat),(⟨(⟨#[112]⟩:ByteArray),1000,1300⟩:Beat)]:List Beat).filter (ofB (⟨#[112]⟩:ByteArray))).map (bif false then gK else gB)=[⟨100,0⟩,⟨1300,1000⟩]:=by kernel_rfl
 have hk1:k=1:=by
  rw [hf]at hc
  have h1:=hc.le
  have h2:k<=2:=h1
  by_cases e0:k=0
  ·subst e0;have:=hc.hi (by decide);simp at this
  ·by_cases e2:k=2
   ·subst e2;have:=hc.lo 1 (by decide) (by decide);simp at this
   ·omega
 subst hk1
 rw [h0,hf]
 decide +kernel
end Go.Proofs.YtdenjndllgahgaaGreatDoor.Law

