import Derived.Test.YtdenjndllgahgaaGreatDoorCkMap
/-
  PLAIN LAW: ClocksPutRight is true of every stream.
-/
open Go Go.Eng
namespace Go.Proofs.YtdenjndllgahgaaGreatDoor.Law
set_option linter.unusedVariables false
set_option linter.unusedSimpArgs false
def ofB (p:ByteArray) (b:Beat):Bool:=decide (b.Player=p)
def gK (b:Beat):Beat_:=⟨b.At,b.Clock⟩
theorem BA (l:List Beat) (p:ByteArray) (back:Bool) (hl:l.length<=1000000):iM l p back=some ((l.filter (ofB p)).map (bif back then gK else gB)):=by
 have run:∀(xs:List Beat) (k:Nat) (acc:List Beat_),acc.length+xs.length<=1000000->dW (λk x s=>eD p back k x s) xs k acc=some (.go (acc++(xs.filter (ofB p)).map (bif back then gK else gB))):=by
  intro xs
  induction xs with
  | nil=>intro k acc _;simp [dW]
  | cons x xs ih =>
   intro k acc hlen
   simp only [List.length_cons]at hlen
   have hst:eD p back k x acc=some (.go (acc++(bif ofB p x then [(bif back then gK else gB) x]else []))):=by
    have hsn:sNe x.Player p = !ofB p x:=uF _ _
    unfold eD
    rw [hsn]
    cases ofB p x with
    | false=>simp
    | true =>
     simp only [Bool.not_true,cond_false,cond_true]
     cases back with
     | true=>simp only [cond_true,jE acc [_] (show acc.length+1<=_ by omega),ob_];rfl
     | false=>simp only [cond_false,jE acc [_] (show acc.length+1<=_ by omega),ob_];rfl
   rw [dW,hst,ob_]
   simp only
   rw [ih _ _ (by cases ofB p x <;> simp <;> omega),List.filter_cons]
   cases ofB p x <;> simp
 unfold iM
 rw [fo (by omega),run l 0 [] (by simpa using hl),ob_,iV,List.nil_append]
def oL (p:ByteArray):Int:=bif ow p then 0 else 5
def zV (n:Int):Int:=bif kL n then 0 else 1
theorem bnd_of {l:List Beat} {p:ByteArray} (h:∀x∈l,kL x.At=true/\kL x.Clock=true) (back:Bool):BndM ((l.filter (ofB p)).map (bif back then gK else gB)):=by
 intro y hy
 obtain ⟨x,hx,rfl⟩:=List.mem_map.1 hy
 obtain ⟨h1,h2⟩:=h x (List.mem_filter.1 hx).1
 cases back with
 | true=>exact⟨u6 h1,u6 h2⟩
 | false=>exact⟨u6 h2,u6 h1⟩
theorem DF (l:List Beat) (p:ByteArray) (n:Int) (back:Bool) (hs:∀x∈l,GoodB x) (hl:l.length<=1000000) (hp:aV p) :
  ∃k,(or0 (jd l) (or0 (oL p) (zV n))=0->Cut ((l.filter (ofB p)).map (bif back then gK else gB)) n k) /\
   jl l p n back=some (bif or0 (jd l) (or0 (oL p) (zV n))==0 then mapV ((l.filter (ofB p)).map (bif back then gK else gB)) n k else (0,or0 (jd l) (or0 (oL p) (zV n)))):=by
 obtain ⟨k,hk⟩:=cut_ex ((l.filter (ofB p)).map (bif back then gK else gB)) n
 refine⟨k,λ_=>hk,?_⟩
 unfold jl
 simp only [beatsK l hs hl,ob_,rE p (by unfold aV at hp;omega),oO,BA l p back hl]
 cases hb:jd l==0 with
 | false =>
  have h1:(jd l != 0)=true:=by simp [bne,hb]
  have h2:or0 (jd l) (or0 (oL p) (zV n))=jd l:=by unfold or0;rw [hb];rfl
  simp only [h1,cond_true,h2,hb,cond_false]
 | true =>
  have h1:(jd l != 0)=false:=by simp [bne,hb]
  have h0:jd l=0:=eq_of_beq hb
  have h2:or0 (jd l) (or0 (oL p) (zV n))=or0 (oL p) (zV n):=by rw [h0];rfl
  simp only [h1,cond_false,h2]
  unfold oL zV or0
  cases ow p with
  | false=>rfl
  | true =>
   simp only [Bool.not_true,cond_false,cond_true]
   cases hm:kL n with
   | false=>rfl
   | true =>
    simp only [Bool.not_true,cond_false,cond_true]
    have hlen:(l.filter (ofB p)).length<=1000000:=Nat.le_trans (List.length_filter_le _ _) hl
    rw [Dc hk (bnd_of (EA h0).2 back) (u6 hm) (by simpa using hlen)]
    rfl
theorem eta2 {α β:Type} (o:Option (α×β)):(o.bind λr=>some (r.1,r.2))=o:=by cases o <;> rfl
theorem rightA (b:List Beat) (p:ByteArray) (n:Int):mH b p n=jl b p n false:=eta2 _
theorem xJ:jL=some true:=by
 unfold jL
 rw [rightA]
 obtain ⟨k,hk,h⟩:=DF ([(⟨(⟨#[112]⟩:ByteArray),0,100⟩:Beat),(⟨(⟨#[112]⟩:ByteArray),1000,1300⟩:Beat)]:List Beat) (⟨#[112]⟩:ByteArray) 700 false
  (by intro x hx;simp only [List.mem_cons,List.not_mem_nil,or_false]at hx;rcases hx with rfl | rfl <;> exact bL rfl) (by simp) (bL rfl)
 rw [h]
 have h0:or0 (jd ([(⟨(⟨#[112]⟩:ByteArray),0,100⟩:Beat),(⟨(⟨#[112]⟩:ByteArray),1000,1300⟩:Beat)]:List Beat)) (or0 (oL (⟨#[112]⟩:ByteArray)) (zV 700))=0:=by decide +kernel
 have hc:=hk h0
 have hf:(([(⟨(⟨#[112]⟩:ByteArray),0,100⟩:Beat),(⟨(⟨#[112]⟩:ByteArray),1000,1300⟩:Beat)]:List Beat).filter (ofB (⟨#[112]⟩:ByteArray))).map (bif false then gK else gB)=[⟨100,0⟩,⟨1300,1000⟩]:=by kernel_rfl
 have hk1:k=1:=by
  rw [hf]at hc
  have h1:=hc.le
  have h2:k<=2:=h1
  by_cases e0:k=0
  ·subst e0;have:=hc.hi (by decide);simp at this
  ·by_cases e2:k=2
   ·subst e2;have:=hc.lo 1 (by decide) (by decide);simp at this
   ·omega
 subst hk1
 rw [h0,hf]
 decide +kernel
end Go.Proofs.YtdenjndllgahgaaGreatDoor.Law

