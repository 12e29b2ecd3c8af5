/-
  THE PLAIN LAW (part 2).
-/
import Derived.Test.YtipjpkpmkijdoabPl1
open Go Go.Eng
namespace Go.Proofs.Ytipjpkpmkijdoab.Law
set_option linter.unusedVariables false
set_option linter.unusedSimpArgs false
def memB (v:ByteArray) (l:List ByteArray):Bool:=l.any fun x=>decide (v=x)
theorem memB_iff {v:ByteArray} {l:List ByteArray}:memB v l=true↔v∈l:=by simp [memB]
theorem memB_f {v:ByteArray} {l:List ByteArray} (h:v∉l):memB v l=false:=by
 cases hb:memB v l with
 | false=>rfl
 | true=>exact absurd (memB_iff.1 hb) h
theorem index_run (l:List ByteArray) (v:ByteArray):∀ (xs:List ByteArray) (k:Nat),∃ o,forR (fun k x s=>slices_Index_string_string_L1 v k x s) xs k ()=some o ∧ ∃ r:Int,thenC o (fun _=>some (-1)) (fun r=>some r)=some r∧decide (r≥0)=memB v xs
 | [],k=>⟨.go (),rfl,-1,rfl,by simp [memB]⟩
 | x::xs,k=>by
  have hst:slices_Index_string_string_L1 v k x ()=some (bif decide (v=x)then .ret (k:Int)else .go ()):=by
   simp only [slices_Index_string_string_L1,sEq_dec]; cases decide (v=x) <;> rfl
  rw [forR,hst,Option.bind_some]
  by_cases h:v=x
  ·simp only [decide_eq_true h,cond_true]
   exact⟨_,rfl,_,rfl,by simp [memB,h]⟩
  ·simp only [decide_eq_false h,cond_false]
   obtain ⟨o,h1,r,h2,h3⟩:=index_run l v xs (k + 1)
   exact⟨o,h1,r,h2,by rw [h3]; simp [memB,h]⟩
theorem contains_eq (l:List ByteArray) (v:ByteArray) (hl:l.length≤1000000):slices_Contains_string_string l v=some (memB v l):=by
 obtain ⟨o,h1,r,h2,h3⟩:=index_run l v l 0
 unfold slices_Contains_string_string slices_Index_string_string
 rw [forL_eq (by omega),h1,Option.bind_some,h2,Option.bind_some,h3]
theorem containsF_eq (l:List ByteArray) (f:ByteArray→Option Bool) (p:ByteArray→Bool) (hf:∀ x∈l,f x=some (p x)) (hl:l.length≤1000000):slices_ContainsFunc_string_string l f=some (l.any p):=by
 have run:∀ (xs:List ByteArray) (k:Nat),(∀ x∈xs,f x=some (p x)) → ∃ o,forR (fun k x s=>slices_IndexFunc_string_string_L1 f k x s) xs k ()=some o ∧ ∃ r:Int,thenC o (fun _=>some (-1)) (fun r=>some r)=some r∧decide (r≥0)=xs.any p:=by
  intro xs
  induction xs with
  | nil=>exact fun k _=>⟨.go (),rfl,-1,rfl,by simp⟩
  | cons x xs ih =>
   intro k hf
   have hst:slices_IndexFunc_string_string_L1 f k x ()=some (bif p x then .ret (k:Int)else .go ()):=by
    simp only [slices_IndexFunc_string_string_L1,hf x (by simp),Option.bind_some]; cases p x <;> rfl
   rw [forR,hst,Option.bind_some]
   cases hp:p x with
   | true=>exact⟨_,rfl,_,rfl,by simp [hp]⟩
   | false =>
    simp only [cond_false]
    obtain ⟨o,h1,r,h2,h3⟩:=ih (k + 1) (fun y hy=>hf y (by simp [hy]))
    exact⟨o,h1,r,h2,by rw [h3]; simp [hp]⟩
 obtain ⟨o,h1,r,h2,h3⟩:=run l 0 hf
 unfold slices_ContainsFunc_string_string slices_IndexFunc_string_string
 rw [forL_eq (by omega),h1,Option.bind_some,h2,Option.bind_some,h3]
def Rises (l:List ByteArray):Prop := ∀ i j (hi:i < l.length) (hj:j < l.length),i < j→lt l[i] l[j]
theorem chk_rises:∀ (l:List ByteArray) (last:ByteArray),chk id tagStp last l=0→Rises l ∧ ∀ x∈l,lt last x
 | [],last,h=>⟨fun i j hi=>absurd hi (Nat.not_lt_zero i),by simp⟩
 | x::xs,last,h=>by
  rw [chk]at h
  cases he:tagStp last x == 0 with
  | false=>rw [he]at h; simp only [cond_false]at h; rw [h]at he; cases he
  | true =>
   rw [he]at h
   simp only [cond_true,id]at h
   obtain ⟨h1,h2⟩:=chk_rises xs x h
   have hx:lt last x:=by
    unfold tagStp at he
    cases hk:keyB x with
    | false=>rw [hk]at he; cases he
    | true =>
     cases hl:sLe x last with
     | true=>rw [hk,hl]at he; cases he
     | false =>
      have:=mt (sLe_iff x last).2 (by rw [hl]; simp)
      exact Classical.not_not.1 this
   refine⟨fun i j hi hj hij => ?_,fun y hy => ?_⟩
   ·cases i with
    | zero=>cases j with
     | zero=>omega
     | succ j=>exact h2 _ (List.getElem_mem _)
    | succ i=>cases j with
     | zero=>omega
     | succ j=>exact h1 i j (by simpa using hi) (by simpa using hj) (by omega)
   ·rcases List.mem_cons.1 hy with rfl | hy
    ·exact hx
    ·exact lt_trans hx (h2 y hy)
theorem tagsF_0 {l:List ByteArray} (h:tagsF l=0):l.length≤20∧Rises l:=by
 unfold tagsF at h
 by_cases hl:l.length > 20
 ·rw [decide_eq_true hl]at h; cases h
 ·rw [decide_eq_false hl]at h
  exact⟨by omega,(chk_rises l nilS h).1⟩
theorem less_eq (x y:ByteArray):cmp_Less_string x y=some (sLt x y):=by
 unfold cmp_Less_string cmp_isNaN_string
 have:sNe x x=false:=by rw [sNe_dec]; simp
 rw [this]; rfl
theorem half (i j:Nat) (h:i≤1000000∧j≤1000000):shrO .u64 (IntKind.u64.wrap (w64 ((i:Int) + (j:Int)))) 1=some (((i + j) / 2:Nat):Int):=by
 have e1:w64 ((i:Int) + j)=((i + j:Nat):Int):=by rw [w64_id (by omega)]; omega
 have e2:IntKind.u64.wrap ((i + j:Nat):Int)=((i + j:Nat):Int):=IntWalk.u64_in _ (by omega)
 rw [e1,e2]
 unfold shrO
 rw [if_neg (by omega)]
 congr 1
 show Int.fdiv _ (2 ^ 1)=_
 rw [Int.fdiv_eq_ediv_of_nonneg _ (by decide)]
 omega
structure Ends (l:List ByteArray) (t:ByteArray) (i j:Nat):Prop where
 le:i≤j
 len:j≤l.length
 lo:∀ k (h:k < l.length),k < i→lt l[k] t
 hi:∀ k (h:k < l.length),j≤k → ¬ lt l[k] t
theorem bs_step (l:List ByteArray) (t:ByteArray) (i j:Nat) (hij:i < j) (hm:(i + j) / 2 < l.length) (hl:j≤1000) :
  slices_BinarySearch_string_string_L1 l t ((i:Int),(j:Int))=some (bif sLt l[(i + j) / 2] t then .go ((((i + j) / 2 + 1:Nat):Int),(j:Int))else .go ((i:Int),(((i + j) / 2:Nat):Int))):=by
 have e1:decide ((i:Int) < (j:Int))=true:=by simp; omega
 have ew:w64 (((i + j) / 2:Nat):Int)=(((i + j) / 2:Nat):Int):=w64_id (by omega)
 have ew2:w64 ((((i + j) / 2:Nat):Int) + 1)=(((i + j) / 2 + 1:Nat):Int):=by rw [w64_id (by omega)]; omega
 simp only [slices_BinarySearch_string_string_L1,e1,cond_true,half i j (by omega),Option.bind_some,ew,ew2,idx_nat,List.getElem?_eq_getElem hm,less_eq]
 cases sLt l[(i + j) / 2] t <;> rfl
theorem bs_iter (l:List ByteArray) (t:ByteArray) (hr:Rises l) (hl:l.length≤1000):∀ (d i j:Nat),j - i≤d→Ends l t i j → ∃ m:Nat,iterN (fun s=>slices_BinarySearch_string_string_L1 l t s) (d + 1) ((i:Int),(j:Int))=some (.go ((m:Int),(m:Int)))∧Ends l t m m
 | d,i,j,hd,he=>by
  have hlen:=he.len
  have hle:=he.le
  by_cases hij:i < j
  ·have hm:(i + j) / 2 < l.length:=by omega
   rw [iterN,bs_step l t i j hij hm (by omega),Option.bind_some]
   cases d with
   | zero=>omega
   | succ d =>
    cases hc:sLt l[(i + j) / 2] t with
    | true =>
     have hlt:=(sLt_iff _ _).1 hc
     simp only [cond_true]
     refine bs_iter l t hr hl d ((i + j) / 2 + 1) j (by omega) ⟨by omega,hlen,fun k hk hki => ?_,he.hi⟩
     rcases Nat.lt_or_ge k ((i + j) / 2)with h | h
     ·exact lt_trans (hr k _ hk hm h) hlt
     ·have:k=(i + j) / 2:=by omega
      subst this; exact hlt
    | false =>
     have hlt:=mt (sLt_iff _ _).2 (by rw [hc]; simp)
     simp only [cond_false]
     refine bs_iter l t hr hl d i ((i + j) / 2) (by omega) ⟨by omega,by omega,he.lo,fun k hk hki => ?_⟩
     rcases Nat.lt_or_ge ((i + j) / 2) k with h | h
     ·exact fun hx=>hlt (lt_trans (hr _ k hm hk h) hx)
     ·have:k=(i + j) / 2:=by omega
      subst this; exact hlt
  ·have e1:decide ((i:Int) < (j:Int))=false:=by simp; omega
   have:i=j:=by omega
   subst this
   have hst:slices_BinarySearch_string_string_L1 l t ((i:Int),(i:Int))=some (.brk ((i:Int),(i:Int))):=by simp only [slices_BinarySearch_string_string_L1,e1,cond_false]
   rw [iterN,hst,Option.bind_some]
   exact⟨i,rfl,he⟩
theorem bs_eq (l:List ByteArray) (t:ByteArray) (hr:Rises l) (hl:l.length≤1000):∃ i:Int,slices_BinarySearch_string_string l t=some (i,memB t l):=by
 obtain ⟨m,h1,h2⟩:=bs_iter l t hr hl l.length 0 l.length (by omega) ⟨by omega,Nat.le_refl _,fun k _ h=>absurd h (Nat.not_lt_zero k),fun k hk h=>absurd h (by omega)⟩
 have h3:=iter_loopO h1
 refine⟨m,?_⟩
 unfold slices_BinarySearch_string_string
 have h4:loopO ((0:Int),(l.length:Int)) (fun s=>slices_BinarySearch_string_string_L1 l t s)=some (Ctl.go ((m:Int),(m:Int))):=h3
 rw [h4,Option.bind_some,thenC_go]
 have key:t∈l ↔ ∃ h:m < l.length,l[m]=t:=by
  constructor
  ·intro hm
   obtain ⟨k,hk,he⟩:=List.getElem_of_mem hm
   have hk1:¬ k < m:=fun h=>by have:=h2.lo k hk h; rw [he]at this; exact lt_irr _ this
   have hml:m < l.length:=by omega
   refine⟨hml,?_⟩
   rcases Nat.lt_or_ge m k with h | h
   ·have h5:=hr m k hml hk h
    rw [he]at h5
    exact absurd h5 (h2.hi m hml (Nat.le_refl _))
   ·have:k=m:=by omega
    subst this; exact he
  ·rintro ⟨h,he⟩
   rw [← he]; exact List.getElem_mem _
 by_cases hml:m < l.length
 ·have e1:decide ((m:Int) < (l.length:Int))=true:=by simp; omega
  simp only [e1,cond_true,idx_nat,List.getElem?_eq_getElem hml,Option.bind_some,sEq_dec]
  have hn:slices_isNaN_string l[m]=some false:=by
   unfold slices_isNaN_string; rw [sNe_dec]; simp
  rw [hn]
  by_cases he:l[m]=t
  ·simp only [decide_eq_true he,cond_true,Option.bind_some,memB_iff.2 (key.2 ⟨hml,he⟩)]
  ·simp only [decide_eq_false he,cond_false,Option.bind_some,memB_f (fun h=>he (key.1 h).2)]
 ·have e1:decide ((m:Int) < (l.length:Int))=false:=by simp; omega
  simp only [e1,cond_false,Option.bind_some]
  rw [memB_f (fun h=>hml (key.1 h).1)]
def suitB (c:Campaign) (s:Spot):Bool:=(decide (c.Time.From≤s.Time.From) && decide (s.Time.To≤c.Time.To)) && !(c.Tags.any fun t => !memB t s.Tags)
theorem suitsR (c:Campaign) (s:Spot) (h1:c.Tags.length≤1000) (h2:s.Tags.length≤1000):ref_SuitsOf c s=some (suitB c s):=by
 unfold ref_SuitsOf suitB
 rw [containsF_eq c.Tags (fun x0=>ref_SuitsOf_1 x0 s) (fun t => !memB t s.Tags) (fun x _=>by simp only [ref_SuitsOf_1,contains_eq _ _ (show s.Tags.length≤1000000 by omega),Option.bind_some]) (by omega)]
 cases decide (c.Time.From≤s.Time.From) <;> cases decide (s.Time.To≤c.Time.To) <;> simp
theorem suitsK (c:Campaign) (s:Spot) (h1:c.Tags.length≤1000) (h2:tagsF s.Tags=0):booking_suits c s=some (suitB c s):=by
 obtain ⟨hl,hr⟩:=tagsF_0 h2
 have run:∀ (xs:List ByteArray) (k:Nat),forR (fun k x u=>booking_suits_L1 s k x u) xs k ()=some (bif xs.any (fun t => !memB t s.Tags)then .ret false else .go ()):=by
  intro xs
  induction xs with
  | nil=>exact fun k=>rfl
  | cons x xs ih =>
   intro k
   obtain ⟨i,hb⟩:=bs_eq s.Tags x hr (by omega)
   have hst:booking_suits_L1 s k x ()=some (bif memB x s.Tags then .go ()else .ret false):=by
    simp only [booking_suits_L1,hb,Option.bind_some]; cases memB x s.Tags <;> rfl
   rw [forR,hst,Option.bind_some,List.any_cons]
   cases memB x s.Tags with
   | true=>simp only [Bool.not_true,cond_true,Bool.false_or]; exact ih (k + 1)
   | false=>rfl
 unfold booking_suits suitB
 rw [forL_eq (by omega),run]
 have e1:decide (s.Time.From < c.Time.From) = !decide (c.Time.From≤s.Time.From):=by rw [Bool.eq_iff_iff]; simp
 have e2:decide (s.Time.To > c.Time.To) = !decide (s.Time.To≤c.Time.To):=by rw [Bool.eq_iff_iff]; simp
 rw [e1,e2]
 cases decide (c.Time.From≤s.Time.From) <;> cases decide (s.Time.To≤c.Time.To) <;> cases (c.Tags.any fun t => !memB t s.Tags) <;> rfl
end Go.Proofs.Ytipjpkpmkijdoab.Law

namespace Go.Flow
set_option linter.unusedVariables false
theorem S_split (a:Nat) (f:Nat→Int):∀ b:Nat,S (a + b) f=S a f + S b (fun i=>f (a + i))
 | 0=>by show S a f=S a f + 0; omega
 | b + 1=>by
  show S (a + b) f + f (a + b)=S a f + (S b (fun i=>f (a + i)) + f (a + b))
  rw [S_split a f b]; omega
structure Net where
 q:Nat
 m:Nat
 goal:Nat→Int
 most:Nat→Int
 room:Nat→Int
 suits:Nat→Nat→Bool
namespace Net
variable (N:Net)
def size:Nat:=2 + N.q + N.m
def can (a b:Nat):Int :=
 if a=0 then (if 2≤b∧b < 2 + N.q then N.goal (b - 2)else 0)
 else if a=1 then 0
 else if a < 2 + N.q then (if 2 + N.q≤b∧N.suits (a - 2) (b - (2 + N.q))=true then N.most (a - 2)else 0)
 else (if b=1 then N.room (a - (2 + N.q))else 0)
def ways (B:Nat→Bool) (i:Nat):Int:=S N.m (fun k=>bif !B k && N.suits i k then N.most i else 0)
def cutV (B:Nat→Bool):Int:=S N.m (fun k=>bif B k then N.room k else 0) + S N.q (fun i=>min (N.goal i) (N.ways B i))
theorem S_all0 {n:Nat} {f:Nat→Int} (h:∀ i,i < n→f i=0):S n f=0:=by rw [S_congr h,S_zero]
theorem row0 {R:Nat→Bool} (r0:R 0=true) (r1:R 1=false):S N.size (fun b=>bif R b then 0 else N.can 0 b)=S N.q (fun i=>bif R (2 + i)then 0 else N.goal i):=by
 unfold size
 rw [S_split,S_split]
 have h1:S 2 (fun b=>bif R b then 0 else N.can 0 b)=0:=S_all0 (fun b hb=>by
  have:N.can 0 b=0:=by unfold can; rw [if_pos rfl,if_neg (by omega)]
  rw [this]; cases R b <;> rfl)
 have h2:S N.q (fun i=>bif R (2 + i)then 0 else N.can 0 (2 + i))=S N.q (fun i=>bif R (2 + i)then 0 else N.goal i):=S_congr (fun i hi=>by
  have:N.can 0 (2 + i)=N.goal i:=by unfold can; rw [if_pos rfl,if_pos (by omega),show 2 + i - 2=i by omega]
  rw [this])
 have h3:S N.m (fun k=>bif R (2 + N.q + k)then 0 else N.can 0 (2 + N.q + k))=0:=S_all0 (fun b hb=>by
  have:N.can 0 (2 + N.q + b)=0:=by unfold can; rw [if_pos rfl,if_neg (by omega)]
  rw [this]; cases R (2 + N.q + b) <;> rfl)
 rw [h1,h2,h3]; omega
theorem rowC {R:Nat→Bool} {i:Nat} (hi:i < N.q):S N.size (fun b=>bif R b then 0 else N.can (2 + i) b)=N.ways (fun k=>R (2 + N.q + k)) i:=by
 unfold size ways
 rw [S_split]
 have h1:S (2 + N.q) (fun b=>bif R b then 0 else N.can (2 + i) b)=0:=S_all0 (fun b hb=>by
  have:N.can (2 + i) b=0:=by unfold can; rw [if_neg (by omega),if_neg (by omega),if_pos (by omega),if_neg (by omega)]
  rw [this]; cases R b <;> rfl)
 have h2:S N.m (fun k=>bif R (2 + N.q + k)then 0 else N.can (2 + i) (2 + N.q + k))=S N.m (fun k=>bif !R (2 + N.q + k) && N.suits i k then N.most i else 0):=S_congr (fun k hk=>by
  have:N.can (2 + i) (2 + N.q + k)=bif N.suits i k then N.most i else 0:=by
   unfold can
   rw [if_neg (by omega),if_neg (by omega),if_pos (by omega),show 2 + i - 2=i by omega,show 2 + N.q + k - (2 + N.q)=k by omega]
   cases N.suits i k with
   | true=>rw [if_pos ⟨by omega,rfl⟩]; rfl
   | false=>rw [if_neg (by simp)]; rfl
  rw [this]
  cases R (2 + N.q + k) <;> rfl)
 rw [h1,h2]; exact Int.zero_add _
theorem rowS {R:Nat→Bool} (r1:R 1=false) {k:Nat} (hk:k < N.m):S N.size (fun b=>bif R b then 0 else N.can (2 + N.q + k) b)=N.room k:=by
 have e:S N.size (fun b=>bif R b then 0 else N.can (2 + N.q + k) b)=S N.size (fun b=>if b=1 then N.room k else 0):=S_congr (fun b hb=>by
  have:N.can (2 + N.q + k) b=if b=1 then N.room k else 0:=by
   unfold can
   rw [if_neg (by omega),if_neg (by omega),if_neg (by omega),show 2 + N.q + k - (2 + N.q)=k by omega]
  rw [this]
  by_cases h1:b=1
  ·subst h1; rw [r1]; rfl
  ·rw [if_neg h1]; cases R b <;> rfl)
 rw [e,S_one _ (by unfold size; omega)]
theorem cap_eq {R:Nat→Bool} (r0:R 0=true) (r1:R 1=false):cap N.size N.can R=S N.m (fun k=>bif R (2 + N.q + k)then N.room k else 0) + S N.q (fun i=>bif R (2 + i)then N.ways (fun k=>R (2 + N.q + k)) i else N.goal i):=by
 unfold cap
 have e:S N.size (fun a=>bif R a then S N.size (fun b=>bif R b then 0 else N.can a b)else 0)=S (2 + N.q + N.m) (fun a=>bif R a then S N.size (fun b=>bif R b then 0 else N.can a b)else 0):=rfl
 rw [e,S_split,S_split]
 have h1:S 2 (fun a=>bif R a then S N.size (fun b=>bif R b then 0 else N.can a b)else 0)=S N.q (fun i=>bif R (2 + i)then 0 else N.goal i):=by
  show (0 + (bif R 0 then S N.size (fun b=>bif R b then 0 else N.can 0 b)else 0)) + (bif R 1 then S N.size (fun b=>bif R b then 0 else N.can 1 b)else 0)=_
  rw [r0,r1,cond_true,cond_false,row0 N r0 r1]; omega
 have h2:S N.q (fun i=>bif R (2 + i)then S N.size (fun b=>bif R b then 0 else N.can (2 + i) b)else 0)=S N.q (fun i=>bif R (2 + i)then N.ways (fun k=>R (2 + N.q + k)) i else 0):=S_congr (fun i hi=>by rw [rowC N hi])
 have h3:S N.m (fun k=>bif R (2 + N.q + k)then S N.size (fun b=>bif R b then 0 else N.can (2 + N.q + k) b)else 0)=S N.m (fun k=>bif R (2 + N.q + k)then N.room k else 0):=S_congr (fun k hk=>by rw [rowS N r1 hk])
 have h4:S N.q (fun i=>bif R (2 + i)then N.ways (fun k=>R (2 + N.q + k)) i else N.goal i)=S N.q (fun i=>bif R (2 + i)then 0 else N.goal i) + S N.q (fun i=>bif R (2 + i)then N.ways (fun k=>R (2 + N.q + k)) i else 0):=by
  rw [← S_add]
  exact S_congr (fun i _=>by cases R (2 + i) <;> simp)
 rw [h1,h2,h3,h4]; omega
theorem cutV_le {R:Nat→Bool} (r0:R 0=true) (r1:R 1=false):N.cutV (fun k=>R (2 + N.q + k))≤cap N.size N.can R:=by
 rw [cap_eq N r0 r1]
 unfold cutV
 have:S N.q (fun i=>min (N.goal i) (N.ways (fun k=>R (2 + N.q + k)) i))≤S N.q (fun i=>bif R (2 + i)then N.ways (fun k=>R (2 + N.q + k)) i else N.goal i):=S_le (fun i _=>by
  cases R (2 + i)
  ·show min _ _≤N.goal i; omega
  ·show min _ _≤N.ways _ i; omega)
 exact Int.add_le_add (Int.le_refl _) this
theorem cutV_is (B:Nat→Bool):∃ R:Nat→Bool,R 0=true∧R 1=false∧cap N.size N.can R=N.cutV B:=by
 let R:Nat→Bool:=fun a=>if a=0 then true else if a=1 then false else if a < 2 + N.q then decide (N.ways B (a - 2)≤N.goal (a - 2))else B (a - (2 + N.q))
 have rk:∀ k,R (2 + N.q + k)=B k:=fun k=>by
  show (if 2 + N.q + k=0 then true else if 2 + N.q + k=1 then false else if 2 + N.q + k < 2 + N.q then _ else B (2 + N.q + k - (2 + N.q)))=_
  rw [if_neg (by omega),if_neg (by omega),if_neg (by omega),show 2 + N.q + k - (2 + N.q)=k by omega]
 have ri:∀ i,i < N.q→R (2 + i)=decide (N.ways B i≤N.goal i):=fun i hi=>by
  show (if 2 + i=0 then true else if 2 + i=1 then false else if 2 + i < 2 + N.q then decide (N.ways B (2 + i - 2)≤N.goal (2 + i - 2))else _)=_
  rw [if_neg (by omega),if_neg (by omega),if_pos (by omega),show 2 + i - 2=i by omega]
 refine⟨R,rfl,rfl,?_⟩
 rw [cap_eq N (R:=R) rfl rfl,show (fun k=>R (2 + N.q + k))=B from funext rk]
 unfold cutV
 congr 1
 ·exact S_congr (fun k _=>by rw [rk])
 ·refine S_congr (fun i hi => ?_)
  rw [ri i hi]
  by_cases h:N.ways B i≤N.goal i
  ·rw [decide_eq_true h]; show N.ways B i=_; omega
  ·rw [decide_eq_false h]; show N.goal i=_; omega
theorem best {c:Nat→Nat→Int} {v:Int} (h:Flows N.size 0 1 N.can c v):(∀ B,v≤N.cutV B) ∧ ∀ R:Nat→Bool,R 0=true→R 1=false→(∀ a b,a < N.size→b < N.size→R a=true→R b=false→c a b=0)→N.cutV (fun k=>R (2 + N.q + k))=v:=by
 have hs:0 < N.size:=by unfold size; omega
 have hle:∀ B,v≤N.cutV B:=fun B=>by
  obtain ⟨R,r0,r1,e⟩:=cutV_is N B
  rw [← e]; exact (h.le hs r0 r1).2
 refine⟨hle,fun R r0 r1 h0 => ?_⟩
 have e:=h.eq hs r0 r1 h0
 have h1:=cutV_le N r0 r1
 have h2:=hle (fun k=>R (2 + N.q + k))
 omega
end Net
end Go.Flow

namespace Go.Flow
set_option linter.unusedVariables false
theorem exists_least {p:Nat→Prop}:∀ (n:Nat),p n → ∃ m,p m ∧ ∀ k,p k→m≤k:=by
 intro n
 induction n using Nat.strongRecOn with
 | _ n ih =>
  intro h
  by_cases hk:∃ k,p k∧k < n
  ·obtain ⟨k,h1,h2⟩:=hk
   exact ih k h2 h1
  ·exact⟨n,h,fun k hp=>Nat.le_of_not_lt (fun hlt=>hk ⟨k,hp,hlt⟩)⟩
inductive Rch (n s:Nat) (c:Nat→Nat→Int):Nat→Nat→Prop
 | src:Rch n s c s 0
 | step {a b d:Nat}:Rch n s c a d→0 < c a b→b < n→Rch n s c b (d + 1)
theorem Rch.zero {n s i:Nat} {c:Nat→Nat→Int} (h:Rch n s c i 0):i=s:=by cases h; rfl
theorem Rch.lt {n s i d:Nat} {c:Nat→Nat→Int} (hs:s < n) (h:Rch n s c i d):i < n:=by
 cases h with
 | src=>exact hs
 | step _ _ hb=>exact hb
end Go.Flow

namespace Go.Flow
set_option linter.unusedVariables false
namespace Net
variable (N:Net)
structure Deal (x:Nat→Nat→Int):Prop where
 pos:∀ i k,i < N.q→k < N.m→0≤x i k
 most:∀ i k,i < N.q→k < N.m→x i k≤bif N.suits i k then N.most i else 0
 goal:∀ i,i < N.q→S N.m (x i)=N.goal i
 room:∀ k,k < N.m→S N.q (fun i=>x i k)≤N.room k
structure Right:Prop where
 goal:∀ i,i < N.q→0≤N.goal i
 most:∀ i,i < N.q→0≤N.most i
 room:∀ k,k < N.m→0≤N.room k
def goals:Int:=S N.q N.goal
theorem can_to {i k:Nat} (hi:i < N.q):N.can (2 + i) (2 + N.q + k)=bif N.suits i k then N.most i else 0:=by
 unfold can
 rw [if_neg (by omega),if_neg (by omega),if_pos (by omega),show 2 + i - 2=i by omega,show 2 + N.q + k - (2 + N.q)=k by omega]
 cases N.suits i k with
 | true=>rw [if_pos ⟨by omega,rfl⟩]; rfl
 | false=>rw [if_neg (by simp)]; rfl
theorem can_sink {k:Nat}:N.can (2 + N.q + k) 1=N.room k:=by
 unfold can
 rw [if_neg (by omega),if_neg (by omega),if_neg (by omega),if_pos rfl,show 2 + N.q + k - (2 + N.q)=k by omega]
theorem can_1 (b:Nat):N.can 1 b=0:=by unfold can; rw [if_neg (by omega),if_pos rfl]
theorem can_c {i b:Nat} (hi:i < N.q) (h:b < 2 + N.q):N.can (2 + i) b=0:=by
 unfold can; rw [if_neg (by omega),if_neg (by omega),if_pos (by omega),if_neg (by omega)]
theorem can_s {k b:Nat} (h:b≠1):N.can (2 + N.q + k) b=0:=by
 unfold can; rw [if_neg (by omega),if_neg (by omega),if_neg (by omega),if_neg h]
section
variable {N}
variable {c:Nat→Nat→Int} {v:Int}
end
end Net
end Go.Flow

namespace Go.Flow
set_option linter.unusedVariables false
namespace Net
variable (N:Net)
def res (x:Nat→Nat→Int) (pr:Nat→Nat→Bool) (a b:Nat):Int :=
 if a=0 then 0
 else if a=1 then (if 2 + N.q≤b then S N.q (fun i=>x i (b - (2 + N.q)))else 0)
 else if a < 2 + N.q then
  (if b=0 then N.goal (a - 2)else if 2 + N.q≤b then (bif pr (a - 2) (b - (2 + N.q))then 0 else (bif N.suits (a - 2) (b - (2 + N.q))then N.most (a - 2)else 0) - x (a - 2) (b - (2 + N.q)))else 0)
 else
  (if b=1 then N.room (a - (2 + N.q)) - S N.q (fun i=>x i (a - (2 + N.q)))else if 2≤b∧b < 2 + N.q then (bif pr (b - 2) (a - (2 + N.q))then 0 else x (b - 2) (a - (2 + N.q)))else 0)
section
variable (x:Nat→Nat→Int) (pr:Nat→Nat→Bool)
end
end Net
end Go.Flow

namespace Go.Flow
set_option linter.unusedVariables false
namespace Net
variable (N:Net)
def after (x:Nat→Nat→Int) (pr:Nat→Nat→Bool) (i k:Nat) (c:Nat→Nat→Int) (v:Int) (j l:Nat):Int :=
 if j=i∧l=k then x i k + v else bif pr j l then x j l else c (2 + N.q + l) (2 + j)
end Net
end Go.Flow

namespace Go.Flow
set_option linter.unusedVariables false
namespace Net
variable (N:Net)
def prior (i k j l:Nat):Bool:=decide (j < i∨j=i∧l < k)
def still (y:Nat→Nat→Int) (i k:Nat) (n:Int):Net where
 q:=N.q
 m:=N.m
 goal:=fun j=>if j < i then 0 else if j=i then N.goal i - S k (y i) - n else N.goal j
 most:=N.most
 room:=fun l=>N.room l - S N.q (fun j=>bif prior i k j l then y j l else 0) - (if l=k then n else 0)
 suits:=fun j l=>if j=i then decide (k < l) && N.suits i l else N.suits j l
section
variable {N} {y:Nat→Nat→Int} {i k:Nat} {n:Int}
end
end Net
end Go.Flow

namespace Go.Flow
set_option linter.unusedVariables false
namespace Net
section
variable {N:Net}
variable (N)
end
end Net
end Go.Flow

open Go Go.Eng Go.Flow
namespace Go.Proofs.Ytipjpkpmkijdoab.Law
set_option linter.unusedVariables false
set_option linter.unusedSimpArgs false
def sumI {α:Type} (f:Nat→α→Int):Nat→List α→Int
 | _,[]=>0
 | k,x::xs=>f k x + sumI f (k + 1) xs
theorem sumI_S {α:Type} (f:Nat→α→Int) (g:Nat→Int):∀ (xs:List α) (k:Nat),(∀ i x,xs[i]? = some x→f (k + i) x=g i)→sumI f k xs=S xs.length g
 | [],k,h=>rfl
 | x::xs,k,h=>by
  have h0:=h 0 x rfl
  have ih:=sumI_S f (fun i=>g (i + 1)) xs (k + 1) (fun i y hy=>by
   have:=h (i + 1) y (by simpa using hy)
   rw [← this,show k + (i + 1)=k + 1 + i by omega])
  rw [sumI,ih,List.length_cons]
  have e:=S_split 1 g xs.length
  have e1:S 1 g=g 0:=by show 0 + g 0=_; omega
  have e2:S (xs.length + 1) g=S (1 + xs.length) g:=by rw [Nat.add_comm]
  have e3:S xs.length (fun i=>g (1 + i))=S xs.length (fun i=>g (i + 1)):=S_congr (fun i _=>by rw [Nat.add_comm])
  rw [Nat.add_zero]at h0
  omega
theorem sumI_in {α:Type} (f:Nat→α→Int) (b:Int):∀ (xs:List α) (k:Nat),(∀ j x,x∈xs→0≤f j x∧f j x≤b)→0≤sumI f k xs∧sumI f k xs≤b * xs.length
 | [],k,h=>by simp [sumI]
 | x::xs,k,h=>by
  have h1:=h k x (by simp)
  have h2:=sumI_in f b xs (k + 1) (fun j y hy=>h j y (by simp [hy]))
  have e:b * ((x::xs).length:Int)=b + b * xs.length:=by rw [List.length_cons,Int.natCast_add,Int.mul_add]; omega
  rw [sumI,e]; omega
theorem forR_sum {α ρ:Type} {body:Nat→α→Int→Option (Ctl Int ρ)} (f:Nat→α→Int):∀ (xs:List α) (k:Nat) (s:Int),0≤s→s + 1000000000 * xs.length≤1000000000000000→(∀ j x,x∈xs→0≤f j x∧f j x≤1000000000)→(∀ j x s,x∈xs→j < k + xs.length→0≤s→s≤1000000000000000→body j x s=some (.go (s + f j x))) →
  forR body xs k s=some (.go (s + sumI f k xs))
 | [],k,s,h0,h1,hf,hb=>by rw [forR,sumI]; congr 2; omega
 | x::xs,k,s,h0,h1,hf,hb=>by
  have h2:=hf k x (by simp)
  have e:(1000000000:Int) * ((x::xs).length:Int)=1000000000 + 1000000000 * xs.length:=by rw [List.length_cons,Int.natCast_add,Int.mul_add]; omega
  rw [e]at h1
  have hl:(0:Int)≤xs.length:=Int.natCast_nonneg _
  rw [forR,hb k x s (by simp) (by simp) h0 (by omega),Option.bind_some]
  simp only []
  rw [forR_sum f xs (k + 1) (s + f k x) (by omega) (by omega) (fun j y hy=>hf j y (by simp [hy])) (fun j y t hy hj=>hb j y t (by simp [hy]) (by simp only [List.length_cons]; omega)),sumI]
  congr 2; omega
def bit (u k:Nat):Bool:=decide (u / 2 ^ k % 2=1)
theorem shr_bit (u k:Nat) (hk:k≤60):shrO .i64 (u:Int) (k:Int)=some ((u / 2 ^ k:Nat):Int):=by
 unfold shrO
 rw [if_neg (by omega)]
 have e:(min ((k:Int)).toNat IntKind.i64.bits)=k:=by
  have:IntKind.i64.bits=64:=rfl
  rw [this]; omega
 rw [e,Int.fdiv_eq_ediv_of_nonneg _ (by exact Int.pow_nonneg (by decide))]
 congr 1
theorem and1 {u:Nat} (h:u < 9223372036854775808):andI .i64 (u:Int) 1=((u % 2:Nat):Int):=by
 show IntKind.i64.wrap (((BitVec.ofInt 64 (u:Int)) &&& (BitVec.ofInt 64 1)).toNat:Int)=_
 have h1:((BitVec.ofInt 64 (u:Int)) &&& (BitVec.ofInt 64 1)).toNat=u % 2:=by
  rw [BitVec.toNat_and]
  have e1:(BitVec.ofInt 64 (u:Int)).toNat=u:=by
   rw [BitVec.ofInt_natCast,BitVec.toNat_ofNat]; exact Nat.mod_eq_of_lt (by omega)
  have e2:(BitVec.ofInt 64 1).toNat=1:=by decide
  rw [e1,e2]
  exact Nat.and_two_pow_sub_one_eq_mod u 1
 rw [h1]
 exact w64_id (by omega)
theorem bit1 {u:Nat} (k:Nat) (h:u < 9223372036854775808):(andI .i64 ((u / 2 ^ k:Nat):Int) 1 == 1)=bit u k∧(andI .i64 ((u / 2 ^ k:Nat):Int) 1 == 0) = !bit u k:=by
 have hd:u / 2 ^ k < 9223372036854775808:=Nat.lt_of_le_of_lt (Nat.div_le_self _ _) h
 rw [and1 hd]
 unfold bit
 have:=Nat.mod_two_eq_zero_or_one (u / 2 ^ k)
 rcases this with e | e <;> rw [e] <;> exact⟨rfl,rfl⟩
def SpotR (s:Spot):Prop:=0≤s.Room∧s.Room≤10000000∧s.Tags.length≤1000
def CampR (c:Campaign):Prop:=0≤c.Goal∧c.Goal≤10000000∧0≤c.Most∧c.Most≤10000000∧c.Tags.length≤1000
def roomM (u:Nat) (k:Nat) (s:Spot):Int:=bif bit u k then s.Room else 0
def wayM (u:Nat) (c:Campaign) (k:Nat) (s:Spot):Int:=bif !bit u k && suitB c s then c.Most else 0
def campM (u:Nat) (spots:List Spot) (k:Nat) (c:Campaign):Int:=min c.Goal (sumI (wayM u c) 0 spots)
def cutM (spots:List Spot) (l:List Campaign) (u:Nat):Int:=sumI (roomM u) 0 spots + sumI (campM u spots) 0 l
theorem rooms_in {spots:List Spot} (hs:∀ s∈spots,SpotR s) (u:Nat):∀ j x,x∈spots→0≤roomM u j x∧roomM u j x≤10000000:=fun j x hx=>by
 have:=hs x hx
 unfold roomM
 unfold SpotR at this
 cases bit u j
 ·exact⟨Int.le_refl _,by show (0:Int)≤10000000; decide⟩
 ·exact⟨this.1,this.2.1⟩
theorem ways_in {c:Campaign} (hc:CampR c) (u:Nat) (spots:List Spot):∀ j x,x∈spots→0≤wayM u c j x∧wayM u c j x≤10000000:=fun j x hx=>by
 unfold wayM
 unfold CampR at hc
 cases (!bit u j && suitB c x)
 ·exact⟨Int.le_refl _,by show (0:Int)≤10000000; decide⟩
 ·exact⟨hc.2.2.1,hc.2.2.2.1⟩
theorem camps_in {spots:List Spot} {l:List Campaign} (hl:∀ c∈l,CampR c) (u:Nat):∀ j x,x∈l→0≤campM u spots j x∧campM u spots j x≤10000000:=fun j x hx=>by
 have h1:=hl x hx
 have h2:=sumI_in (wayM u x) 10000000 spots 0 (ways_in h1 u spots)
 unfold campM
 unfold CampR at h1
 omega
theorem L1_eq (spots:List Spot) (hs:∀ s∈spots,SpotR s) (hn:spots.length≤60) (u:Nat) (hu:u < 9223372036854775808):forL spots 0 (fun k x s=>ref_greatest_L1 u k x s)=some (.go (sumI (roomM u) 0 spots)):=by
 rw [forL_eq (by omega)]
 have:=forR_sum (body:=fun k x s=>ref_greatest_L1 u k x s) (roomM u) spots 0 0 (by omega) (by omega) (fun j x hx=>by have:=rooms_in hs u j x hx; omega) (fun j x s hx hj h0 h1=>by
  have hr:=hs x hx
  unfold SpotR at hr
  unfold ref_greatest_L1
  rw [shr_bit u j (by omega),Option.bind_some,(bit1 j hu).1]
  unfold roomM
  cases bit u j
  ·simp only [cond_false,Option.bind_some]; congr 2; omega
  ·simp only [cond_true,Option.bind_some]; rw [w64_id (by omega)])
 rw [this]; congr 2; omega
theorem L2_eq (spots:List Spot) (hs:∀ s∈spots,SpotR s) (hn:spots.length≤60) (c:Campaign) (hc:CampR c) (u:Nat) (hu:u < 9223372036854775808):forL spots 0 (fun k x s=>ref_greatest_L2 u c k x s)=some (.go (sumI (wayM u c) 0 spots)):=by
 rw [forL_eq (by omega)]
 have:=forR_sum (body:=fun k x s=>ref_greatest_L2 u c k x s) (wayM u c) spots 0 0 (by omega) (by omega) (fun j x hx=>by have:=ways_in hc u spots j x hx; omega) (fun j x s hx hj h0 h1=>by
  have hr:=hs x hx
  unfold SpotR at hr
  unfold CampR at hc
  unfold ref_greatest_L2
  rw [shr_bit u j (by omega),Option.bind_some,(bit1 j hu).2,suitsR c x hc.2.2.2.2 hr.2.2]
  unfold wayM
  cases bit u j <;> cases suitB c x <;> simp only [Bool.not_true,Bool.not_false,Bool.and_true,Bool.and_false,Bool.true_and,Bool.false_and,cond_true,cond_false,Option.bind_some]
  ·congr 2; omega
  ·rw [w64_id (by omega)]
  ·congr 2; omega
  ·congr 2; omega)
 rw [this]; congr 2; omega
theorem L3_eq (spots:List Spot) (hs:∀ s∈spots,SpotR s) (hn:spots.length≤60) (l:List Campaign) (hl:∀ c∈l,CampR c) (hm:l.length≤1000) (u:Nat) (hu:u < 9223372036854775808) (s0:Int) (h0:0≤s0∧s0≤1000000000):forL l s0 (fun k x s=>ref_greatest_L3 spots u k x s)=some (.go (s0 + sumI (campM u spots) 0 l)):=by
 rw [forL_eq (by omega)]
 refine forR_sum (body:=fun k x s=>ref_greatest_L3 spots u k x s) (campM u spots) l 0 s0 h0.1 (by omega) (fun j x hx=>by have:=camps_in (spots:=spots) hl u j x hx; omega) (fun j x s hx hj h0 h1 => ?_)
 have hc:=hl x hx
 have hin:=camps_in (spots:=spots) hl u j x hx
 unfold ref_greatest_L3
 rw [L2_eq spots hs hn x hc u hu,Option.bind_some,thenC_go]
 have e:minI x.Goal (sumI (wayM u x) 0 spots)=campM u spots j x:=by
  unfold campM
  show (if sumI (wayM u x) 0 spots < x.Goal then sumI (wayM u x) 0 spots else x.Goal)=_
  split <;> omega
 rw [e,w64_id (by omega)]
theorem greatest_cut (spots:List Spot) (hs:∀ s∈spots,SpotR s) (hn:spots.length≤30) (l:List Campaign) (hl:∀ c∈l,CampR c) (hm:l.length≤1000):∃ r,ref_greatest spots l=some r∧0≤r∧(∀ u,u < 2 ^ spots.length→r≤cutM spots l u) ∧ ∃ u,u < 2 ^ spots.length∧r=cutM spots l u:=by
 have hp:2 ^ spots.length≤1073741824:=Nat.pow_le_pow_right (by decide) hn
 have hp1:1≤2 ^ spots.length:=Nat.one_le_two_pow
 have hsh:shlO .i64 1 (spots.length:Int)=some ((2 ^ spots.length:Nat):Int):=by
  unfold shlO
  rw [if_neg (by omega)]
  have e:(min ((spots.length:Int)).toNat IntKind.i64.bits)=spots.length:=by
   have:IntKind.i64.bits=64:=rfl
   rw [this]; omega
  have e2:((2:Int) ^ spots.length)=((2 ^ spots.length:Nat):Int):=by rw [Int.natCast_pow]; rfl
  rw [e,Int.one_mul,e2]
  congr 1
  exact w64_id (by omega)
 have hrm:=fun u=>sumI_in (roomM u) 10000000 spots 0 (rooms_in hs u)
 have hcm:=fun u=>sumI_in (campM u spots) 10000000 l 0 (camps_in (spots:=spots) hl u)
 obtain ⟨r,h1,h2⟩:=forL_inv (ρ:=Unit) (xs:=List.range (2 ^ spots.length)) (s:=(-1:Int)) (body:=fun k x s=>ref_greatest_L4 spots l k x s)
  (fun k s=>(k=0∧s = -1)∨(0≤s∧(∀ u,u < k→s≤cutM spots l u) ∧ ∃ u,u < k∧s=cutM spots l u)) (by rw [List.length_range]; omega) (fun k x s hx hk hi=>by
   rw [List.length_range]at hk
   have hr:=hrm k
   have hc:=hcm k
   have hstep:ref_greatest_L4 spots l k x s=some (.go (bif (decide (s < 0) || decide (cutM spots l k < s))then cutM spots l k else s)):=by
    unfold ref_greatest_L4
    rw [L1_eq spots hs (by omega) k (by omega),Option.bind_some,thenC_go,L3_eq spots hs (by omega) l hl hm k (by omega) _ (by omega),Option.bind_some,thenC_go]
    show ((bif decide (s < 0)then some true else some (decide (cutM spots l k < s))).bind _)=_
    cases decide (s < 0) <;> cases decide (cutM spots l k < s) <;> rfl
   have hcut:0≤cutM spots l k:=by unfold cutM; omega
   rw [hstep]
   refine⟨_,rfl,.inr ?_⟩
   rcases hi with⟨hk0,hs0⟩ | ⟨g1,g2,u,g3,g4⟩
   ·rw [decide_eq_true (by omega),Bool.true_or,cond_true]
    exact⟨hcut,fun u hu=>Int.le_of_eq (by rw [show u=k by omega]),k,by omega,rfl⟩
   ·rw [decide_eq_false (by omega),Bool.false_or]
    by_cases hlt:cutM spots l k < s
    ·rw [decide_eq_true hlt,cond_true]
     refine⟨hcut,fun w hw => ?_,k,by omega,rfl⟩
     by_cases e:w=k
     ·rw [e]; exact Int.le_refl _
     ·have:=g2 w (by omega); omega
    ·rw [decide_eq_false hlt,cond_false]
     refine⟨g1,fun w hw => ?_,u,by omega,g4⟩
     by_cases e:w=k
     ·rw [e]; omega
     ·exact g2 w (by omega)) (.inl ⟨rfl,rfl⟩)
 rw [List.length_range]at h2
 rcases h2 with⟨hk0,_⟩ | ⟨g1,g2,u,g3,g4⟩
 ·omega
 ·refine⟨r,?_,g1,g2,u,g3,g4⟩
  unfold ref_greatest
  rw [hsh,Option.bind_some,show (((2 ^ spots.length:Nat):Int)).toNat=2 ^ spots.length from Int.toNat_natCast _,h1,Option.bind_some,thenC_go]
end Go.Proofs.Ytipjpkpmkijdoab.Law

open Go Go.Eng Go.Flow
namespace Go.Proofs.Ytipjpkpmkijdoab.Law
set_option linter.unusedVariables false
set_option linter.unusedSimpArgs false
theorem bit_add {u m k:Nat} (hk:k < m):bit (u + 2 ^ m) k=bit u k:=by
 obtain ⟨d,rfl⟩:∃ d,m=k + 1 + d:=⟨m - (k + 1),by omega⟩
 unfold bit
 have e:2 ^ (k + 1 + d)=(2 * 2 ^ d) * 2 ^ k:=by
  rw [Nat.pow_add,Nat.pow_succ]
  rw [Nat.mul_comm (2 ^ k) 2,Nat.mul_assoc,Nat.mul_assoc,Nat.mul_comm (2 ^ k) (2 ^ d)]
 rw [e,Nat.add_mul_div_right _ _ (Nat.pow_pos (by decide)),Nat.add_mul_mod_self_left]
theorem bit_top {u m:Nat} (h:u < 2 ^ m):bit (u + 2 ^ m) m=true∧bit u m=false:=by
 unfold bit
 have h0:u / 2 ^ m=0:=Nat.div_eq_of_lt h
 have h1:(u + 2 ^ m) / 2 ^ m=1:=by rw [Nat.add_div_right _ (Nat.pow_pos (by decide)),h0]
 rw [h0,h1]; exact⟨rfl,rfl⟩
theorem mask_of (B:Nat→Bool):∀ m:Nat,∃ u,u < 2 ^ m ∧ ∀ k,k < m→bit u k=B k
 | 0=>⟨0,by decide,fun k hk=>by omega⟩
 | m + 1=>by
  obtain ⟨u,h1,h2⟩:=mask_of B m
  have hp:2 ^ (m + 1)=2 ^ m + 2 ^ m:=by rw [Nat.pow_succ]; omega
  cases hb:B m with
  | true =>
   refine⟨u + 2 ^ m,by omega,fun k hk => ?_⟩
   by_cases hkm:k=m
   ·rw [hkm,(bit_top h1).1,hb]
   ·rw [bit_add (by omega)]; exact h2 k (by omega)
  | false =>
   refine⟨u,by omega,fun k hk => ?_⟩
   by_cases hkm:k=m
   ·rw [hkm,(bit_top h1).2,hb]
   ·exact h2 k (by omega)
def netOf (spots:List Spot) (l:List Campaign):Net where
 q:=l.length
 m:=spots.length
 goal:=fun i=>match l[i]? with | some c=>c.Goal | none=>0
 most:=fun i=>match l[i]? with | some c=>c.Most | none=>0
 room:=fun k=>match spots[k]? with | some s=>s.Room | none=>0
 suits:=fun i k=>match l[i]?,spots[k]? with | some c,some s=>suitB c s | _,_=>false
theorem cutV_congr (N:Net) {B B':Nat→Bool} (h:∀ k,k < N.m→B k=B' k):N.cutV B=N.cutV B':=by
 unfold Net.cutV Net.ways
 congr 1
 ·exact S_congr (fun k hk=>by rw [h k hk])
 ·refine S_congr (fun i _ => ?_)
  congr 1
  exact S_congr (fun k hk=>by rw [h k hk])
theorem cutM_V (spots:List Spot) (l:List Campaign) (u:Nat):cutM spots l u=(netOf spots l).cutV (bit u):=by
 unfold cutM Net.cutV
 congr 1
 ·refine sumI_S _ _ spots 0 (fun i x hx => ?_)
  show roomM u (0 + i) x=bif bit u i then (match spots[i]? with | some s=>s.Room | none=>0)else 0
  rw [hx,Nat.zero_add]; rfl
 ·refine sumI_S _ _ l 0 (fun i c hc => ?_)
  show campM u spots (0 + i) c=min (match l[i]? with | some c=>c.Goal | none=>0) ((netOf spots l).ways (bit u) i)
  rw [hc]
  unfold campM
  congr 1
  refine sumI_S _ _ spots 0 (fun k x hx => ?_)
  show wayM u c (0 + k) x=bif !bit u k && (match l[i]?,spots[k]? with | some c,some s=>suitB c s | _,_=>false)then (match l[i]? with | some c=>c.Most | none=>0)else 0
  rw [hc,hx,Nat.zero_add]; rfl
def LeastCut (N:Net) (r:Int):Prop:=(∀ B,r≤N.cutV B) ∧ ∃ B,r=N.cutV B
theorem LeastCut.uniq {N:Net} {r r':Int} (h:LeastCut N r) (h':LeastCut N r'):r=r':=by
 obtain ⟨h1,B,h2⟩:=h
 obtain ⟨h3,B',h4⟩:=h'
 have:=h1 B'
 have:=h3 B
 omega
theorem greatest_least (spots:List Spot) (hs:∀ s∈spots,SpotR s) (hn:spots.length≤30) (l:List Campaign) (hl:∀ c∈l,CampR c) (hm:l.length≤1000):∃ r,ref_greatest spots l=some r∧0≤r∧LeastCut (netOf spots l) r:=by
 obtain ⟨r,h1,h0,h2,u,h3,h4⟩:=greatest_cut spots hs hn l hl hm
 refine⟨r,h1,h0,fun B => ?_,bit u,by rw [h4,cutM_V]⟩
 obtain ⟨w,k1,k2⟩:=mask_of B spots.length
 rw [cutV_congr (netOf spots l) (B:=B) (B':=bit w) (fun k hk=>(k2 k hk).symm),← cutM_V]
 exact h2 w k1
theorem flow_least {N:Net} {c:Nat→Nat→Int} {v:Int} (h:Flows N.size 0 1 N.can c v) {R:Nat→Bool} (r0:R 0=true) (r1:R 1=false) (h0:∀ a b,a < N.size→b < N.size→R a=true→R b=false→c a b=0):LeastCut N v :=
 ⟨(N.best h).1,_,((N.best h).2 R r0 r1 h0).symm⟩
end Go.Proofs.Ytipjpkpmkijdoab.Law

open Go Go.Eng Go.Flow
namespace Go.Proofs.Ytipjpkpmkijdoab.Law
set_option linter.unusedVariables false
set_option linter.unusedSimpArgs false
set_option linter.unusedSectionVars false
theorem camp_eq (w:Web) {i:Nat} (hi:i≤1000000):booking_web_camp w (i:Int)=some (((2 + i:Nat)):Int):=by
 unfold booking_web_camp
 rw [w64_id (by omega)]
 exact congrArg some (by omega)
theorem spot_eq (rows:List (List Int)) {q k:Nat} (hq:q≤1000000) (hk:k≤1000000):booking_web_spot (⟨rows,(q:Int)⟩:Web) (k:Int)=some (((2 + q + k:Nat)):Int):=by
 unfold booking_web_spot
 simp only
 rw [w64_id (n:=2 + (q:Int)) (by omega),w64_id (by omega)]
 exact congrArg some (by omega)
theorem in0 {n:Nat} (h:0 < n):inN 0 n=some ():=by have:=inN_at (i:=0) (n:=n) h; simpa using this
section
variable {spots:List Spot} {l:List Campaign}
theorem size_eq:(netOf spots l).size=2 + spots.length + l.length:=by unfold Net.size netOf; simp only; omega
theorem goal_at {i:Nat} {c:Campaign} (h:l[i]? = some c):(netOf spots l).goal i=c.Goal∧(netOf spots l).most i=c.Most:=by unfold netOf; simp only [h]; exact⟨trivial,trivial⟩
theorem room_at {k:Nat} {s:Spot} (h:spots[k]? = some s):(netOf spots l).room k=s.Room:=by unfold netOf; simp only [h]
theorem suits_at {i k:Nat} {c:Campaign} {s:Spot} (h:l[i]? = some c) (h':spots[k]? = some s):(netOf spots l).suits i k=suitB c s:=by unfold netOf; simp only [h,h']
def made (spots:List Spot) (l:List Campaign) (i j k:Nat) (a b:Nat):Int :=
 if a=0 then (if 2≤b∧b < 2 + j then (netOf spots l).goal (b - 2)else 0)
 else if a < 2 + i then (netOf spots l).can a b
 else if a=2 + i∧i < l.length∧b < 2 + l.length + k then (netOf spots l).can a b else 0
structure Mk (spots:List Spot) (l:List Campaign) (n:Nat) (f:Nat→Nat→Int) (rows:List (List Int)):Prop where
 sq:Sq n rows
 is_:∀ a b,a < n→b < n→at2 rows a b=f a b
theorem Mk.congr {n:Nat} {f g:Nat→Nat→Int} {rows:List (List Int)} (h:Mk spots l n f rows) (e:∀ a b,a < n→b < n→f a b=g a b):Mk spots l n g rows:=⟨h.sq,fun a b ha hb=>(h.is_ a b ha hb).trans (e a b ha hb)⟩
theorem Mk.wr {n:Nat} {f g:Nat→Nat→Int} {rows:List (List Int)} (h:Mk spots l n f rows) {a b:Nat} (ha:a < n) (hb:b < n) (x:Int) {r:List Int} (hr:rows[a]? = some r) (e:∀ i j,i < n→j < n→g i j=if i=a∧j=b then x else f i j):Mk spots l n g (rows.set a (r.set b x)):=by
 obtain ⟨h1,h2⟩:=h.sq.wr ha hb x hr
 refine⟨h1,fun i j hi hj => ?_⟩
 rw [h2,e i j hi hj]
 split
 ·rfl
 ·exact h.is_ i j hi hj
variable (hs:∀ s∈spots,tagsF s.Tags=0) (hl:∀ c∈l,c.Tags.length≤1000) (hsn:spots.length≤1000) (hln:l.length≤1000)
include hs hl hsn hln
theorem new_L2 {i:Nat} {c:Campaign} (hc:l[i]? = some c) {k:Nat} {s:Spot} (hk:spots[k]? = some s) {rows:List (List Int)} (h:Mk spots l (2 + spots.length + l.length) (made spots l i (i + 1) k) rows) :
  ∃ rows',booking_newWeb_L2 c (2 + spots.length + l.length) l i k s rows=some (.go rows')∧Mk spots l (2 + spots.length + l.length) (made spots l i (i + 1) (k + 1)) rows':=by
 have hi:i < l.length:=(List.getElem?_eq_some_iff.1 hc).1
 have hk':k < spots.length:=(List.getElem?_eq_some_iff.1 hk).1
 have hsu:=suitsK c s (hl c (List.mem_of_getElem? hc)) (hs s (List.mem_of_getElem? hk))
 have hcan:(netOf spots l).can (2 + i) (2 + l.length + k)=bif suitB c s then c.Most else 0:=by
  have:=Net.can_to (N:=netOf spots l) (i:=i) (k:=k) (show i < l.length from hi)
  rw [suits_at hc hk,(goal_at hc).2]at this
  exact this
 have other:∀ a b,a < 2 + spots.length + l.length→b < 2 + spots.length + l.length → ¬ (a=2 + i∧b=2 + l.length + k)→made spots l i (i + 1) (k + 1) a b=made spots l i (i + 1) k a b:=fun a b ha hb hn=>by
  unfold made
  split
  ·rfl
  ·split
   ·rfl
   ·by_cases h1:a=2 + i
    ·by_cases h2:b < 2 + l.length + k
     ·rw [if_pos ⟨h1,hi,by omega⟩,if_pos ⟨h1,hi,h2⟩]
     ·rw [if_neg (by omega),if_neg (by omega)]
    ·rw [if_neg (by omega),if_neg (by omega)]
 have at_:made spots l i (i + 1) (k + 1) (2 + i) (2 + l.length + k)=bif suitB c s then c.Most else 0:=by
  unfold made
  rw [if_neg (by omega),if_neg (by omega),if_pos ⟨rfl,hi,by omega⟩,hcan]
 have was:made spots l i (i + 1) k (2 + i) (2 + l.length + k)=0:=by
  unfold made
  rw [if_neg (by omega),if_neg (by omega),if_neg (by omega)]
 unfold booking_newWeb_L2
 simp only [hsu,Option.bind_some]
 cases hb:suitB c s with
 | false =>
  simp only [cond_false,Option.bind_some]
  refine⟨_,rfl,h.congr (fun a b ha hb' => ?_)⟩
  by_cases h1:a=2 + i∧b=2 + l.length + k
  ·obtain ⟨rfl,rfl⟩:=h1
   rw [at_,was,hb]; rfl
  ·exact (other a b ha hb' h1).symm
 | true =>
  obtain ⟨r,r1,r2,r3⟩:=h.sq.get (a:=2 + i) (by omega)
  simp only [cond_true,h.sq.ne (by omega),Option.bind_some,lenE_at h.sq.len,camp_eq _ (show i≤1000000 by omega),inN_at (show 2 + i < 2 + spots.length + l.length by omega),toN,r1,spot_eq rows (show l.length≤1000000 by omega) (show k≤1000000 by omega),inR_at (show 2 + l.length + k < r.length by omega),r3 (2 + l.length + k) (by omega)]
  refine⟨_,rfl,h.wr (by omega) (by omega) _ r1 (fun a b ha hb' => ?_)⟩
  split
  ·rename_i h1
   obtain ⟨rfl,rfl⟩:=h1
   rw [at_,hb]; rfl
  ·rename_i h1
   exact other a b ha hb' h1
theorem new_L3 {i:Nat} {c:Campaign} (hc:l[i]? = some c) {rows:List (List Int)} (h:Mk spots l (2 + spots.length + l.length) (made spots l i i 0) rows) :
  ∃ rows',booking_newWeb_L3 (2 + spots.length + l.length) l spots i c rows=some (.go rows')∧Mk spots l (2 + spots.length + l.length) (made spots l (i + 1) (i + 1) 0) rows':=by
 have hi:i < l.length:=(List.getElem?_eq_some_iff.1 hc).1
 obtain ⟨r,r1,r2,r3⟩:=h.sq.get (a:=0) (by omega)
 have h0t:(0 + (0:Int).toNat)=0:=rfl
 have h1:Mk spots l (2 + spots.length + l.length) (made spots l i (i + 1) 0) (rows.set 0 (r.set (2 + i) c.Goal)):=h.wr (by omega) (by omega) _ r1 (fun a b ha hb=>by
  unfold made
  by_cases ha0:a=0
  ·subst ha0
   rw [if_pos rfl,if_pos rfl]
   by_cases hbi:b=2 + i
   ·subst hbi
    rw [if_pos ⟨by omega,by omega⟩,if_pos ⟨rfl,rfl⟩,show 2 + i - 2=i by omega,(goal_at hc).1]
   ·rw [if_neg (fun e:0=0∧b=2 + i=>hbi e.2)]
    by_cases h2:2≤b∧b < 2 + i
    ·rw [if_pos ⟨h2.1,by omega⟩,if_pos h2]
    ·rw [if_neg (by omega),if_neg h2]
  ·rw [if_neg ha0,if_neg (fun e:a=0∧b=2 + i=>ha0 e.1),if_neg ha0])
 obtain ⟨rows2,e1,e2⟩:=forL_ix (body:=fun k x s=>booking_newWeb_L2 c (2 + spots.length + l.length) l i k x s) (fun k rows=>Mk spots l (2 + spots.length + l.length) (made spots l i (i + 1) k) rows) (xs:=spots) (by omega) (fun k s rows hk hm=>new_L2 hs hl hsn hln hc hk hm) h1
 unfold booking_newWeb_L3
 simp only [in0 (show 0 < 2 + spots.length + l.length by omega),Option.bind_some,h0t,r1,h.sq.ne (by omega),lenE_at h.sq.len,camp_eq _ (show i≤1000000 by omega),inR_at (show 2 + i < r.length by omega),toN,r3 (2 + i) (by omega)]
 rw [e1,Option.bind_some]
 refine⟨_,rfl,e2.congr (fun a b ha hb => ?_)⟩
 unfold made
 split
 ·rfl
 ·by_cases h2:a < 2 + i
  ·rw [if_pos h2,if_pos (by omega)]
  ·rw [if_neg h2]
   by_cases h3:a=2 + i
   ·rw [if_pos ⟨h3,hi,by omega⟩,if_pos (by omega)]
   ·rw [if_neg (by omega),if_neg (by omega)]
    split
    ·rename_i h4
     obtain ⟨rfl,h4,h5⟩:=h4
     exact (Net.can_c (N:=netOf spots l) (i:=i + 1) h4 (b:=b) h5).symm
    ·rfl
theorem newWeb_ok:∃ rows,booking_newWeb spots l=some ⟨rows,(l.length:Int)⟩∧Sq (netOf spots l).size rows ∧ ∀ a b,a < (netOf spots l).size→b < (netOf spots l).size→at2 rows a b=(netOf spots l).can a b:=by
 rw [size_eq]
 have hw:w64 (w64 (2 + (spots.length:Int)) + (l.length:Int))=((2 + spots.length + l.length:Nat):Int):=by
  rw [w64_id (n:=2 + (spots.length:Int)) (by omega),w64_id (by omega)]; omega
 have hmk:∀ b:Nat,b≤24→mkN ((2 + spots.length + l.length:Nat):Int) b=some (2 + spots.length + l.length):=fun b hb=>by
  unfold mkN
  rw [if_pos ⟨by omega,by
   have:((2 + spots.length + l.length:Nat):Int) * (b:Int)≤3000 * 24:=Int.mul_le_mul (by omega) (by omega) (by omega) (by omega)
   omega,by omega⟩,Int.toNat_natCast]
 have hnz:nzI ((2 + spots.length + l.length:Nat):Int)=some ():=by unfold nzI; rw [if_pos (by omega)]
 unfold booking_newWeb
 rw [hw,hmk 24 (by decide),Option.bind_some,hnz,Option.bind_some]
 have htn:(((2 + spots.length + l.length:Nat):Int)).toNat=2 + spots.length + l.length:=Int.toNat_natCast _
 rw [htn]
 obtain ⟨rows,h1,h2,h3⟩:=forL_rng (body:=fun k x s=>booking_newWeb_L1 spots l (2 + spots.length + l.length) k x s) (fun j rows=>rows.length=2 + spots.length + l.length ∧ ∀ i,i < j→rows[i]? = some (List.replicate (2 + spots.length + l.length) (0:Int))) (n:=2 + spots.length + l.length) (s:=List.replicate (2 + spots.length + l.length) ([]:List Int)) (by omega) (fun j rows hj hi=>by
  obtain ⟨i1,i2⟩:=hi
  have hne:neL (List.replicate (2 + spots.length + l.length) (0:Int))=some ():=by rw [show 2 + spots.length + l.length=(1 + spots.length + l.length) + 1 by omega,List.replicate_succ]; rfl
  unfold booking_newWeb_L1
  simp only [hw,hmk 8 (by decide),Option.bind_some,inN_at hj,hne,toN,List.getElem?_eq_getElem (show j < rows.length by omega)]
  refine⟨_,rfl,by rw [List.length_set]; exact i1,fun i hi => ?_⟩
  rw [List.getElem?_set]
  by_cases e:j=i
  ·rw [if_pos e,if_pos (by omega)]
  ·rw [if_neg e]; exact i2 i (by omega)) ⟨by simp,fun i hi=>absurd hi (Nat.not_lt_zero i)⟩
 rw [h1,Option.bind_some]
 have hr:rows=List.replicate (2 + spots.length + l.length) (List.replicate (2 + spots.length + l.length) (0:Int)):=List.ext_getElem? (fun i=>by
  rw [List.getElem?_replicate]
  by_cases hi:i < 2 + spots.length + l.length
  ·rw [if_pos hi]; exact h3 i hi
  ·rw [if_neg hi]; exact List.getElem?_eq_none (by omega))
 subst hr
 have h0:Mk spots l (2 + spots.length + l.length) (made spots l 0 0 0) (List.replicate (2 + spots.length + l.length) (List.replicate (2 + spots.length + l.length) (0:Int))):=by
  refine⟨⟨by simp,fun r hr=>by rw [(List.mem_replicate.1 hr).2]; simp⟩,fun a b ha hb => ?_⟩
  have e:at2 (List.replicate (2 + spots.length + l.length) (List.replicate (2 + spots.length + l.length) (0:Int))) a b=0:=by
   unfold at2
   simp only [List.getD_eq_getElem?_getD,List.getElem?_replicate,if_pos ha,Option.getD_some,if_pos hb]
  rw [e]
  unfold made
  by_cases ha0:a=0
  ·rw [if_pos ha0,if_neg (by omega)]
  ·rw [if_neg ha0]
   by_cases ha1:a < 2 + 0
   ·rw [if_pos ha1,show a=1 by omega,Net.can_1]
   ·rw [if_neg ha1]
    split
    ·rename_i h4
     obtain ⟨rfl,h4,h5⟩:=h4
     exact (Net.can_c (N:=netOf spots l) (i:=0) h4 (b:=b) h5).symm
    ·rfl
 simp only [thenC]
 obtain ⟨rows2,e1,e2⟩:=forL_ix (body:=fun k x s=>booking_newWeb_L3 (2 + spots.length + l.length) l spots k x s) (fun i rows=>Mk spots l (2 + spots.length + l.length) (made spots l i i 0) rows) (xs:=l) (by omega) (fun i c rows hc hm=>new_L3 hs hl hsn hln hc hm) h0
 rw [e1,Option.bind_some]
 simp only [thenC]
 have h5:Mk spots l (2 + spots.length + l.length) (fun a b=>if a < 2 + l.length + 0 then (netOf spots l).can a b else 0) rows2:=e2.congr (fun a b ha hb=>by
  unfold made
  by_cases ha0:a=0
  ·subst ha0
   rw [if_pos rfl]
   show _=if 0 < 2 + l.length + 0 then (netOf spots l).can 0 b else 0
   rw [if_pos (show 0 < 2 + l.length + 0 by omega)]
   unfold Net.can
   rw [if_pos rfl]; rfl
  ·rw [if_neg ha0]
   by_cases h6:a < 2 + l.length
   ·rw [if_pos h6,if_pos (by omega)]
   ·rw [if_neg h6,if_neg (by omega),if_neg (by omega)])
 obtain ⟨rows3,e3,e4⟩:=forL_ix (body:=fun k x s=>booking_newWeb_L4 (2 + spots.length + l.length) l k x s) (fun k rows=>Mk spots l (2 + spots.length + l.length) (fun a b=>if a < 2 + l.length + k then (netOf spots l).can a b else 0) rows) (xs:=spots) (by omega) (fun k s rows hk hm=>by
  have hk':k < spots.length:=(List.getElem?_eq_some_iff.1 hk).1
  obtain ⟨r,r1,r2,r3⟩:=hm.sq.get (a:=2 + l.length + k) (by omega)
  have h1t:(0 + (1:Int).toNat)=1:=rfl
  have hin1:inR 1 r=some ():=by
   show inR ((1:Nat):Int) r=some ()
   exact inR_at (i:=1) (by omega)
  unfold booking_newWeb_L4
  simp only [hm.sq.ne (by omega),Option.bind_some,lenE_at hm.sq.len,spot_eq rows (show l.length≤1000000 by omega) (show k≤1000000 by omega),inN_at (show 2 + l.length + k < 2 + spots.length + l.length by omega),toN,r1,hin1,h1t,r3 1 (by omega)]
  refine⟨_,rfl,hm.wr (by omega) (by omega) _ r1 (fun a b ha hb => ?_)⟩
  have hsink:(netOf spots l).can (2 + l.length + k) 1=s.Room:=by
   have:=Net.can_sink (N:=netOf spots l) (k:=k)
   rw [room_at hk]at this; exact this
  by_cases ha:a=2 + l.length + k
  ·subst ha
   rw [if_pos (by omega)]
   by_cases hb1:b=1
   ·subst hb1; rw [if_pos ⟨rfl,rfl⟩,hsink]
   ·rw [if_neg (fun e:2 + l.length + k=2 + l.length + k∧b=1=>hb1 e.2),if_neg (by omega)]
    exact Net.can_s (N:=netOf spots l) (k:=k) hb1
  ·rw [if_neg (fun e:a=2 + l.length + k∧b=1=>ha e.1)]
   by_cases hlt:a < 2 + l.length + k
   ·rw [if_pos hlt,if_pos (by omega)]
   ·rw [if_neg hlt,if_neg (by omega)]) h5
 rw [e3,Option.bind_some]
 simp only [thenC,lenE_at e4.sq.len,Option.bind_some]
 refine⟨_,rfl,e4.sq,fun a b ha hb => ?_⟩
 rw [e4.is_ a b ha hb,if_pos (by omega)]
end
end Go.Proofs.Ytipjpkpmkijdoab.Law

open Go Go.Eng Go.Flow
namespace Go.Proofs.Ytipjpkpmkijdoab.Law
set_option linter.unusedVariables false
set_option linter.unusedSimpArgs false
set_option linter.unusedSectionVars false
theorem Flows_congr {n s t:Nat} {c0 d0 c d:Nat→Nat→Int} {v:Int} (hs:s < n) (h0:∀ a b,a < n→b < n→c0 a b=d0 a b) (h1:∀ a b,a < n→b < n→c a b=d a b) (h:Flows n s t c0 c v):Flows n s t d0 d v where
 pos:=fun a b ha hb=>by rw [← h1 a b ha hb]; exact h.pos a b ha hb
 anti:=fun a b ha hb=>by rw [← h0 a b ha hb,← h0 b a hb ha,← h1 a b ha hb,← h1 b a hb ha]; exact h.anti a b ha hb
 cons:=fun x hx h2 h3=>by rw [← h.cons x hx h2 h3]; exact S_congr (fun b hb=>by rw [h0 x b hx hb,h1 x b hx hb])
 val:=by rw [← h.val]; exact S_congr (fun b hb=>by rw [h0 s b hs hb,h1 s b hs hb])
theorem S_bound {f:Nat→Int} {M:Int}:∀ {n:Nat},(∀ i,i < n→f i≤M)→S n f≤M * n
 | 0,_=>by show (0:Int)≤M * ((0:Nat):Int); simp
 | n + 1,h=>by
  show S n f + f n≤_
  have h1:=S_bound (f:=f) (M:=M) (n:=n) (fun i hi=>h i (by omega))
  have h2:=h n (by omega)
  have e:M * ((n + 1:Nat):Int)=M * n + M:=by rw [Int.natCast_add,Int.mul_add]; simp
  omega
section
variable {spots:List Spot} {l:List Campaign}
structure Office (spots:List Spot) (l:List Campaign):Prop where
 tg:∀ s∈spots,tagsF s.Tags=0
 sr:∀ s∈spots,SpotR s
 cr:∀ c∈l,CampR c
 sn:spots.length≤30
 ln:l.length≤100
variable (h:Office spots l)
include h
theorem net_goal (i:Nat):0≤(netOf spots l).goal i∧(netOf spots l).goal i≤10000000:=by
 unfold netOf; simp only
 split
 ·rename_i c hc
  have:=h.cr c (List.mem_of_getElem? hc)
  exact⟨this.1,this.2.1⟩
 ·omega
theorem net_most (i:Nat):0≤(netOf spots l).most i∧(netOf spots l).most i≤10000000:=by
 unfold netOf; simp only
 split
 ·rename_i c hc
  have:=h.cr c (List.mem_of_getElem? hc)
  exact⟨this.2.2.1,this.2.2.2.1⟩
 ·omega
theorem net_room (k:Nat):0≤(netOf spots l).room k∧(netOf spots l).room k≤10000000:=by
 unfold netOf; simp only
 split
 ·rename_i s hs
  have:=h.sr s (List.mem_of_getElem? hs)
  exact⟨this.1,this.2.1⟩
 ·omega
theorem net_can (a b:Nat):0≤(netOf spots l).can a b∧(netOf spots l).can a b≤10000000:=by
 unfold Net.can
 have hg:=net_goal h
 have hm:=net_most h
 have hr:=net_room h
 split
 ·split
  ·exact hg _
  ·omega
 ·split
  ·omega
  ·split
   ·split
    ·exact hm _
    ·omega
   ·split
    ·exact hr _
    ·omega
theorem net_right:(netOf spots l).Right:=⟨fun i _=>(net_goal h i).1,fun i _=>(net_most h i).1,fun k _=>(net_room h k).1⟩
theorem flow0_ok:∃ rows,booking_newWeb spots l=some ⟨rows,(l.length:Int)⟩∧Sq (netOf spots l).size rows∧neR rows=some () ∧ ∃ v rows',booking_web_flow ⟨rows,(l.length:Int)⟩ 0 1 1800000000=some (v,⟨rows',(l.length:Int)⟩)∧sameL rows' rows=some ()∧Sq (netOf spots l).size rows' ∧
  Flows (netOf spots l).size 0 1 (netOf spots l).can (at2 rows') v∧0≤v∧LeastCut (netOf spots l) v:=by
 have hsz:=size_eq (spots:=spots) (l:=l)
 have hsn:=h.sn
 have hln:=h.ln
 obtain ⟨rows,e1,q1,a1⟩:=newWeb_ok h.tg (fun c hc=>(h.cr c hc).2.2.2.2) (show spots.length≤1000 by omega) (show l.length≤1000 by omega)
 obtain ⟨v,rows',e2,q2,f2,v0,v1,v2⟩:=flow_ok (n:=(netOf spots l).size) (s:=0) (t:=1) (w:=⟨rows,(l.length:Int)⟩) (most:=1800000000) q1 (by omega) (by omega) (by omega) (by omega) (fun a b ha hb=>by show 0≤at2 rows a b; rw [a1 a b ha hb]; exact (net_can h a b).1) (fun a b ha hb=>by
  show at2 rows a b + at2 rows b a≤_
  rw [a1 a b ha hb,a1 b a hb ha]
  have:=net_can h a b
  have:=net_can h b a
  omega) (by decide) (by decide)
 have f3:Flows (netOf spots l).size 0 1 (netOf spots l).can (at2 rows') v:=Flows_congr (by omega) a1 (fun _ _ _ _=>rfl) f2
 have hb:=((netOf spots l).best f3).1 (fun _=>true)
 have hlt:v < 1800000000:=by
  have hc:(netOf spots l).cutV (fun _=>true)≤10000000 * 30 + 0:=by
   unfold Net.cutV
   have h1:S (netOf spots l).m (fun k=>bif (fun _=>true) k then (netOf spots l).room k else 0)≤10000000 * ((netOf spots l).m:Int):=S_bound (fun k _=>(net_room h k).2)
   have h2:S (netOf spots l).q (fun i=>min ((netOf spots l).goal i) ((netOf spots l).ways (fun _=>true) i))≤0 * ((netOf spots l).q:Int):=S_bound (fun i _=>by
    have:(netOf spots l).ways (fun _=>true) i=0:=by
     unfold Net.ways
     exact Net.S_all0 (fun k _=>rfl)
    omega)
   have h3:((netOf spots l).m:Int)=spots.length:=rfl
   omega
  omega
 obtain ⟨R,r1,r2,r3⟩:=v2 hlt
 refine⟨rows,e1,q1,q1.ne (by omega),v,rows',e2,sameL_at (by rw [q1.len,q2.len]),q2,f3,v0,flow_least f3 r1 r2 r3⟩
theorem most_ok:∃ v,booking_most spots l=some v∧ref_greatest spots l=some v∧0≤v∧LeastCut (netOf spots l) v:=by
 obtain ⟨rows,e1,q1,n1,v,rows',e2,s2,q2,f2,v0,hv⟩:=flow0_ok h
 obtain ⟨r,g1,g2,g3⟩:=greatest_least spots h.sr h.sn l h.cr (by have:=h.ln; omega)
 have:r=v:=g3.uniq hv
 subst this
 refine⟨r,?_,g1,g2,g3⟩
 unfold booking_most
 simp only [e1,Option.bind_some,n1,lenE_at rfl,e2,s2]
end
end Go.Proofs.Ytipjpkpmkijdoab.Law

