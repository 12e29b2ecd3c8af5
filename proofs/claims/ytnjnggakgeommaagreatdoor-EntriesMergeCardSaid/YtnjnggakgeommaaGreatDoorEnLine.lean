import Derived.Test.YtnjnggakgeommaaGreatDoorTxBase
import Derived.Test.YtnjnggakgeommaaGreatDoorEpCheck
import Derived.Test.YtnjnggakgeommaaGreatDoorEpTime
/-
  PLAIN LEMMAS: entries told apart: by their fields, by their lines.
-/
open Go Go.Eng
namespace Go.Proofs.YtnjnggakgeommaaGreatDoor.Law
set_option linter.unusedVariables false
set_option linter.unusedSimpArgs false
theorem wK (l2:List Int):∀(xs:List Int) (k:Nat),xs.length=(l2.drop k).length->∃o,dR (λk x s=>dx l2 k x s) xs k ()=some o/\dz o (λ_=>some true) (λr=>some r)=some (decide (xs=l2.drop k))
 | [],k,h=>⟨_,rfl,by
  have:l2.drop k=[]:=List.eq_nil_of_length_eq_zero h.symm
  rw [this];rfl⟩
 | x::xs,k,h=>by
  have hk:k<l2.length:=by
   rw [List.length_drop]at h
   simp only [List.length_cons]at h
   omega
  have hd:l2.drop k=l2[k]::l2.drop (k+1):=List.drop_eq_getElem_cons hk
  rw [hd]at h ⊢
  obtain ⟨o,h1,h2⟩:=wK l2 xs (k+1) (by simp only [List.length_cons]at h;omega)
  have hstep:dx l2 k x ()=some (bif x != l2[k]then .ret false else .go ()):=by
   unfold dx
   rw [mM,List.getElem?_eq_getElem hk]
   simp only [ob_]
   cases (x != l2[k]) <;> rfl
  by_cases he:x=l2[k]
  ·have e1:(x != l2[k])=false:=by simp [he]
   refine⟨o,by simp only [dR,hstep,e1,cond_false,ob_];exact h1,?_⟩
   rw [h2]
   simp only [he,List.cons.injEq,true_and]
  ·have e1:(x != l2[k])=true:=by simp [he]
   refine⟨.ret false,by simp only [dR,hstep,e1,cond_true,ob_],?_⟩
   rw [decide_eq_false (λhh=>he (List.cons.inj hh).1)];rfl
theorem zh (l m:List Int) (hl:l.length<=1000000000):dS l m=some (decide (l=m)):=by
 unfold dS
 by_cases hn:l.length=m.length
 ·have e1:((l.length:Int) != (m.length:Int))=false:=by simp [hn]
  rw [e1,cond_false]
  obtain ⟨o,h1,h2⟩:=wK m l 0 (by simpa using hn)
  rw [fq (by omega),h1]
  simpa using h2
 ·have e1:((l.length:Int) != (m.length:Int))=true:=by simp;omega
  have e2:l≠m:=λh=>hn (by rw [h])
  rw [e1,cond_true]
  simp [e2]
theorem wG (l2:List ByteArray):∀(xs:List ByteArray) (k:Nat),xs.length=(l2.drop k).length->∃o,dR (λk x s=>bD l2 k x s) xs k ()=some o/\dz o (λ_=>some true) (λr=>some r)=some (decide (xs=l2.drop k))
 | [],k,h=>⟨_,rfl,by
  have:l2.drop k=[]:=List.eq_nil_of_length_eq_zero h.symm
  rw [this];rfl⟩
 | x::xs,k,h=>by
  have hk:k<l2.length:=by
   rw [List.length_drop]at h
   simp only [List.length_cons]at h
   omega
  have hd:l2.drop k=l2[k]::l2.drop (k+1):=List.drop_eq_getElem_cons hk
  rw [hd]at h ⊢
  obtain ⟨o,h1,h2⟩:=wG l2 xs (k+1) (by simp only [List.length_cons]at h;omega)
  have hstep:bD l2 k x ()=some (bif sNe x l2[k]then .ret false else .go ()):=by
   unfold bD
   rw [mM,List.getElem?_eq_getElem hk]
   simp only [ob_]
   cases (sNe x l2[k]) <;> rfl
  by_cases he:x=l2[k]
  ·have e1:(sNe x l2[k])=false:=by rw [tL];simp [he]
   refine⟨o,by simp only [dR,hstep,e1,cond_false,ob_];exact h1,?_⟩
   rw [h2]
   simp only [he,List.cons.injEq,true_and]
  ·have e1:(sNe x l2[k])=true:=by rw [tL];simp [he]
   refine⟨.ret false,by simp only [dR,hstep,e1,cond_true,ob_],?_⟩
   rw [decide_eq_false (λhh=>he (List.cons.inj hh).1)];rfl
theorem yG (l m:List ByteArray) (hl:l.length<=1000000000):bR l m=some (decide (l=m)):=by
 unfold bR
 by_cases hn:l.length=m.length
 ·have e1:((l.length:Int) != (m.length:Int))=false:=by simp [hn]
  rw [e1,cond_false]
  obtain ⟨o,h1,h2⟩:=wG m l 0 (by simpa using hn)
  rw [fq (by omega),h1]
  simpa using h2
 ·have e1:((l.length:Int) != (m.length:Int))=true:=by simp;omega
  have e2:l≠m:=λh=>hn (by rw [h])
  rw [e1,cond_true]
  simp [e2]
deriving instance DecidableEq for Entry
theorem mR (c:Bool) {X:Option Bool} {p:Bool} (h:X=some p):(bif c then X else some false)=some (c&&p):=by cases c <;> simp [h]
theorem FV (a b:Entry) (ha:a.Except.length<=1000/\a.Tags.length<=1000):iP a b=some (decide (a=b)):=by
 unfold iP
 rw [zh _ _ (by omega),yG _ _ (by omega)]
 simp only [ob_]
 rw [mR _ (mR _ (mR _ (mR _ (mR _ (mR _ (mR _ (mR _ (mR _ (mR _ (mR _ (mR _ rfl)))))))))))]
 obtain ⟨a1,a2,a3,a4,a5,a6,a7,a8,a9,a10,a11,a12,a13⟩:=a
 obtain ⟨b1,b2,b3,b4,b5,b6,b7,b8,b9,b10,b11,b12,b13⟩:=b
 simp only [ob_,sS]
 congr 1
 rw [Bool.eq_iff_iff]
 simp only [Bool.and_eq_true,decide_eq_true_eq,beq_iff_eq,Entry.mk.injEq]
def oK (e:Entry):List Int:=[e.Version,e.First,e.Last,e.Every,e.Days,e.From,e.To,e.Prio]
def DK (b:Bool):List UInt8:=bif b then [103,111,110,101]else [111,110]
def Db (e:Entry):List UInt8:=Go.Lib.join [e.Key.data.toList,e.Item.data.toList,Go.Lib.join ((oK e).map Go.Lib.itoa) [32],DK e.Gone,[45],[45]] [32]
def MedE (e:Entry):Prop:=∀n∈oK e,Med n
theorem yQ {s:ByteArray} (h:jF s):s.data.toList.length<=1000:=by rw [<- Go.Lib.size_eq];exact h
theorem Gm (e:Entry) (h:MedE e):(Go.Lib.join ((oK e).map Go.Lib.itoa) [32]).length<=200:=by
 have:=DC [32] 21 ((oK e).map Go.Lib.itoa) (λx hx=>by
  obtain ⟨n,hn,rfl⟩:=List.mem_map.1 hx
  exact Ao (h n hn))
 simp only [List.length_map,oK,List.length_cons,List.length_nil]at this
 simp only [oK]
 omega
theorem C8 {k i:ByteArray} {a1 a2 a3 a4 a5 a6 a7 a8:Int} {g:Bool} (hk:jF k) (hi:jF i) (h:MedE ⟨k,i,a1,a2,a3,a4,a5,[],a6,a7,a8,[],g⟩) :
  iR ⟨k,i,a1,a2,a3,a4,a5,[],a6,a7,a8,[],g⟩=some (SB (Db ⟨k,i,a1,a2,a3,a4,a5,[],a6,a7,a8,[],g⟩)):=by
 have hn:=Gm _ h
 unfold iR
 have e1:(bif g then some (⟨#[103,111,110,101]⟩:ByteArray)else some (⟨#[111,110]⟩:ByteArray))=some (SB (DK g)):=by cases g <;> rfl
 have e2:lX []=some (SB [45]):=rfl
 have e3:=Co (oK ⟨k,i,a1,a2,a3,a4,a5,[],a6,a7,a8,[],g⟩) h (by simp [oK])
 simp only [oK]at e3
 have e4:gN ([]:List Int) ([]:List ByteArray) (λk x s=>jy k x s)=some (.go []):=rfl
 simp only [e4,ob_,fZ,e1,e2,e3]
 have e5:=AR [k.data.toList,i.data.toList,Go.Lib.join ((oK ⟨k,i,a1,a2,a3,a4,a5,[],a6,a7,a8,[],g⟩).map Go.Lib.itoa) [32],DK g,[45],[45]] [32] 1000 (λx hx=>by
  simp only [List.mem_cons,List.not_mem_nil,or_false]at hx
  rcases hx with rfl|rfl|rfl|rfl|rfl|rfl
  ·exact yQ hk
  ·exact yQ hi
  ·omega
  ·cases g <;> decide
  ·decide
  ·decide) (by simp) (by decide)
 exact (congrArg (λo=>o.bind λr=>some r) e5).trans rfl
theorem join2 (x y:List UInt8) (r:List (List UInt8)) (sep:List UInt8):Go.Lib.join (x::y::r) sep=x++(sep++Go.Lib.join (y::r) sep):=by
 rw [Go.Lib.join_cons,xc,Go.Lib.join_cons,List.append_assoc]
def PosE (e:Entry):Prop:=jk e.Key=true/\jk e.Item=true/\∀n∈oK e,0<=n
theorem joinI (n m:Int) (r:List Int):Go.Lib.join ((n::m::r).map Go.Lib.itoa) [32]=Go.Lib.itoa n++32::Go.Lib.join ((m::r).map Go.Lib.itoa) [32]:=by
 simp only [List.map_cons,join2];rfl
theorem AO:∀{l m:List Int} {x y:List UInt8},l.length=m.length->l ≠ []->(∀n∈l,0<=n)->(∀n∈m,0<=n)->Go.Lib.join (l.map Go.Lib.itoa) [32]++32::x=Go.Lib.join (m.map Go.Lib.itoa) [32]++32::y->l=m/\x=y
 | [],_,_,_,_,hne,_,_,_=>absurd rfl hne
 | [n],[m],x,y,_,_,hn,hm,h=>by
  simp only [List.map_cons,List.map_nil,Go.Lib.join_one]at h
  obtain ⟨h1,h2⟩:=tN (wm (hn n (by simp)) (by decide)) (wm (hm m (by simp)) (by decide)) h
  exact⟨by rw [yU (hn n (by simp)) (hm m (by simp)) h1],h2⟩
 | n::n2::l,m::m2::r,x,y,hl,_,hn,hm,h=>by
  rw [joinI,joinI,List.append_assoc,List.append_assoc]at h
  simp only [List.cons_append]at h
  obtain ⟨h1,h2⟩:=tN (wm (hn n (by simp)) (by decide)) (wm (hm m (by simp)) (by decide)) h
  obtain ⟨h3,h4⟩:=AO (l:=n2::l) (m:=m2::r) (by simpa using hl) (by simp) (λa ha=>hn a (List.mem_cons_of_mem _ ha)) (λa ha=>hm a (List.mem_cons_of_mem _ ha)) h2
  exact⟨by rw [h3,yU (hn n (by simp)) (hm m (by simp)) h1],h4⟩
 | [_],[],_,_,hl,_,_,_,_=>by simp at hl
 | [_],_::_::_,_,_,hl,_,_,_,_=>by simp at hl
 | _::_::_,[],_,_,hl,_,_,_,_=>by simp at hl
 | _::_::_,[_],_,_,hl,_,_,_,_=>by simp at hl
theorem D7 {a b:Entry} (ha:PosE a) (hb:PosE b) (h:Db a=Db b):a.Key=b.Key/\a.Item=b.Item/\oK a=oK b/\a.Gone=b.Gone:=by
 unfold Db at h
 simp only [join2,List.cons_append,List.nil_append]at h
 obtain ⟨h1,h2⟩:=tN (zG ha.1 (by decide)) (zG hb.1 (by decide)) h
 obtain ⟨h3,h4⟩:=tN (zG ha.2.1 (by decide)) (zG hb.2.1 (by decide)) h2
 obtain ⟨h5,h6⟩:=AO (l:=oK a) (m:=oK b) rfl (by simp [oK]) ha.2.2 hb.2.2 h4
 refine⟨EJ h1,EJ h3,h5,?_⟩
 cases hg:a.Gone <;> cases hh:b.Gone <;> rw [hg,hh]at h6 <;> simp [DK]at h6 ⊢
end Go.Proofs.YtnjnggakgeommaaGreatDoor.Law

