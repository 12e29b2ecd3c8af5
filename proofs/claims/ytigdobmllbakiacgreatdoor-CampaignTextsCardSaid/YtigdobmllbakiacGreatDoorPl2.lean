/-
  THE PLAIN LAW (part 2).
-/
import Derived.Test.YtigdobmllbakiacGreatDoorPl1
import Derived.Test.YtigdobmllbakiacGreatDoorDefs
open Go Go.Eng
namespace Go.Proofs.YtigdobmllbakiacGreatDoor.Law
set_option linter.unusedVariables false
set_option linter.unusedSimpArgs false
def nums (l:List UInt8):List Int:=l.map λb=>(b.toNat:Int)
theorem Cb (l:List UInt8):Go.strOfNums (nums l)=SB l:=by
 unfold Go.strOfNums nums
 rw [List.map_map]
 have:(l.map ((λn:Int=>UInt8.ofNat n.toNat) ∘ λb:UInt8=>(b.toNat:Int)))=l:=by
  have:((λn:Int=>UInt8.ofNat n.toNat) ∘ λb:UInt8=>(b.toNat:Int))=id:=by
   funext b;simp
  rw [this,List.map_id]
 rw [this]
theorem sV (a z:List UInt8) (h:a.length+z.length<=1000000000):BL (nums a) (SB z)=some (nums (a++z)):=by
 unfold BL
 have e:aL (SB z)=nums z:=rfl
 rw [if_pos (by rw [bT];unfold nums;rw [List.length_map];exact h),e]
 unfold nums
 rw [List.map_append]
theorem AV (a:List UInt8) (h:a.length<=1000000000):sw (nums a)=some (SB a):=by
 unfold sw
 rw [if_pos ⟨by unfold nums;rw [List.length_map];exact h,by
  unfold nums
  rw [List.all_map,List.all_eq_true]
  intro b _
  have:=b.toNat_lt
  show (decide (0<=(b.toNat:Int))&&decide ((b.toNat:Int)<=255))=true
  rw [decide_eq_true (by omega),decide_eq_true (by omega)];rfl⟩,Cb]
theorem DV (ls:List (List UInt8)) (hl:ls.length<=100000) (h:∀w∈ls,w.length<=9000):kZ (ls.map SB)=some (SB (kM ls)):=by
 unfold kZ kM
 cases ls with
 | nil=>rfl
 | cons x r =>
  rw [if_neg (by simp),show ((((x::r).map SB).length:Int)==0)=false by rw [beq_eq_false_iff_ne];simp;omega,cond_false]
  have:=qK (x::r) [44] 9000 h (by omega) (by decide)
  rw [show (⟨#[44]⟩:ByteArray)=SB [44] from rfl,this];rfl
def kI (l:List UInt8):List UInt8:=if l=[]then [45]else l
def cWords (c:Campaign):List (List UInt8):=[c.Key.data.toList,kI c.Class.data.toList]++([c.Time.From,c.Time.To,c.Goal,c.Most,c.Cents].map Lib.itoa)++[kM (c.Tags.map λt=>t.data.toList)]
def kK (c:Campaign):List UInt8:=Lib.join (cWords c) [32]
theorem Fv (s:ByteArray):sEq s (⟨#[]⟩:ByteArray)=decide (s.data.toList=[]):=by
 rw [Bool.eq_iff_iff,fJ,decide_eq_true_eq]
 exact⟨λh=>by rw [h],λh=>sb_ext h⟩
theorem zy (s:ByteArray):(bif (sEq s (⟨#[]⟩:ByteArray))then some (⟨#[45]⟩:ByteArray)else some s)=some (SB (kI s.data.toList)):=by
 rw [Fv]
 unfold kI
 by_cases h:s.data.toList=[]
 ·rw [decide_eq_true h,if_pos h];rfl
 ·rw [decide_eq_false h,if_neg h];rfl
structure WriteC (c:Campaign):Prop where
 nums:∀n ∈ [c.Time.From,c.Time.To,c.Goal,c.Most,c.Cents],Med n
 tags:∀t∈c.Tags,t.size<=5000
 tagl:c.Tags.length<=10000
 words:∀w∈cWords c,w.length<=5000
theorem qc {c:Campaign} (h:WriteC c):cZ c=some (SB (kK c)):=by
 have etags:c.Tags=(c.Tags.map λt=>t.data.toList).map SB:=by
  rw [List.map_map]
  exact (List.map_id _).symm.trans (List.map_congr_left (λx _=>rfl))
 have l2:=DV (c.Tags.map λt=>t.data.toList) (by rw [List.length_map];have:=h.tagl;omega) (λw hm=>by
  obtain ⟨t,h1,rfl⟩:=List.mem_map.1 hm
  have:=h.tags t h1
  rw [Go.Lib.size_eq]at this
  omega)
 rw [<- etags]at l2
 have e3:=Ce [c.Time.From,c.Time.To,c.Goal,c.Most,c.Cents] h.nums (by simp)
 have hnl:=pE [32] 21 ([c.Time.From,c.Time.To,c.Goal,c.Most,c.Cents].map Lib.itoa) (λx hx=>by
  obtain ⟨n,hn,rfl⟩:=List.mem_map.1 hx
  exact gX (h.nums n hn))
 simp only [List.length_map,List.length_cons,List.length_nil]at hnl
 have e5:=qK [c.Key.data.toList,kI c.Class.data.toList,Lib.join ([c.Time.From,c.Time.To,c.Goal,c.Most,c.Cents].map Lib.itoa) [32],kM (c.Tags.map λt=>t.data.toList)] [32] 5000 (λx hx=>by
  simp only [List.mem_cons,List.not_mem_nil,or_false]at hx
  rcases hx with rfl|rfl|rfl|rfl
  ·exact h.words _ (by simp [cWords])
  ·exact h.words _ (by simp [cWords])
  ·omega
  ·exact h.words _ (by simp [cWords])) (by simp) (by decide)
 have hline:Lib.join [c.Key.data.toList,kI c.Class.data.toList,Lib.join ([c.Time.From,c.Time.To,c.Goal,c.Most,c.Cents].map Lib.itoa) [32],kM (c.Tags.map λt=>t.data.toList)] [32]=kK c:=by
  unfold kK cWords
  simp only [List.map_cons,List.map_nil,List.cons_append,List.nil_append,Lib.join_cons,jH,sN,List.append_assoc,List.append_nil]
 rw [hline]at e5
 unfold cZ
 rw [zy,ob_,e3,ob_,l2,ob_]
 exact (congrArg (λo=>o.bind λr=>some r) e5).trans rfl
theorem DC {c:Campaign} (h:WriteC c):cO c c=some true:=by
 unfold cO
 rw [qc h,ob_,ob_,(fJ _ _).2 rfl]
def jd (l:List Campaign):List UInt8:=(l.map kK).flatMap λx=>x++[10]
theorem lJ (e:Campaign) (es:List Campaign):jd (e::es)=kK e++[10]++jd es:=by unfold jd;rw [List.map_cons,List.flatMap_cons]
theorem xK:∀(es:List Campaign) (k:Nat) (acc:List UInt8),(∀e∈es,cZ e=some (SB (kK e)))->acc.length+(jd es).length<=1000000->forR (λk x s=>dE k x s) es k (SB acc)=some (.go (SB (acc++jd es)))
 | [],k,acc,h,hl=>by
  rw [show jd []=[] from rfl,List.append_nil];rfl
 | e::es,k,acc,h,hl=>by
  rw [lJ,List.length_append,List.length_append]at hl
  simp only [List.length_cons,List.length_nil]at hl
  have hstep:dE k e (SB acc)=some (.go (SB (acc++(kK e++[10])))):=by
   unfold dE
   rw [h e (by simp),ob_,show (⟨#[10]⟩:ByteArray)=SB [10] from rfl,nk (by rw [bT,bT];simp only [List.length_cons,List.length_nil];omega),ob_,BG,
    nk (by rw [bT,bT,List.length_append];simp only [List.length_cons,List.length_nil];omega),ob_,BG]
  rw [forR,hstep,ob_]
  simp only []
  rw [xK es (k+1) _ (λy hy=>h y (List.mem_cons_of_mem _ hy)) (by simp only [List.length_append,List.length_cons,List.length_nil];omega),lJ]
  simp
theorem qI (es:List Campaign) (h:∀e∈es,cZ e=some (SB (kK e))) (hl:es.length<=1000) (ht:(jd es).length<=1000000):dz es=some (SB (jd es)):=by
 have:=xK es 0 [] h (by simp only [List.length_nil];omega)
 rw [show SB []=(⟨#[]⟩:ByteArray) from rfl,List.nil_append]at this
 unfold dz
 rw [fI (by omega),this];rfl
theorem zB (a b:List UInt8) (h:a.length+b.length<=1000000000):l9 (SB a) (SB b)=some (SB (a++b)):=by
 rw [nk (by rw [bT,bT];omega),BG]
theorem xJ:∀(l:List Int) (k:Nat) (a:List UInt8),(∀n∈l,Med n)->a.length+l.length*30<=900000000->forR (λk x s=>fq k x s) l k (nums a)=some (.go (nums (a++l.flatMap λn=>32::Lib.itoa n)))
 | [],k,a,_,_=>by simp [forR]
 | n::l,k,a,h,ho=>by
  simp only [List.length_cons]at ho
  have hl:=gX (h n (by simp))
  have hstep:fq k n (nums a)=some (.go (nums (a++32::Lib.itoa n))):=by
   unfold fq
   rw [zb (h n (by simp)),ob_,show (⟨#[32]⟩:ByteArray)=SB [32] from rfl,zB _ _ (by simp only [List.length_cons,List.length_nil];omega),ob_,
    sV _ _ (by simp only [List.length_append,List.length_cons,List.length_nil];omega)];rfl
  rw [forR,hstep,ob_]
  simp only []
  rw [xJ l (k+1) _ (λm hm=>h m (List.mem_cons_of_mem _ hm)) (by simp only [List.length_append,List.length_cons];omega)]
  simp
theorem join_nil:∀(ls:List (List UInt8)),(∀w∈ls,w ≠ [])->Lib.join ls [44]=[]->ls=[]
 | [],_,_=>rfl
 | [w],h,e=>by rw [Lib.join_one]at e;exact absurd e (h w (by simp))
 | w::v::r,h,e=>by
  have e2:Lib.join (w::v::r) [44]=w++44::Lib.join (v::r) [44]:=by
   rw [Lib.join_cons,jH,Lib.join_cons];simp
  rw [e2]at e
  simp at e
theorem DY {ls:List (List UInt8)} (h:∀w∈ls,w ≠ []):kI (Lib.join ls [44])=kM ls:=by
 unfold kI kM
 by_cases h0:ls=[]
 ·subst h0;rw [if_pos rfl,if_pos (by rfl)]
 ·rw [if_neg h0,if_neg (λe=>h0 (join_nil ls h e))]
theorem step_eq (k:Nat) {c:Campaign} (h:WriteC c) (hne:∀t∈c.Tags,t.data.toList ≠ []) (a:List UInt8) (ha:a.length<=800000000):fw k c (nums a)=some (.go (nums (a++(kK c++[10])))):=by
 have etags:c.Tags=(c.Tags.map λt=>t.data.toList).map SB:=by
  rw [List.map_map]
  exact (List.map_id _).symm.trans (List.map_congr_left (λx _=>rfl))
 have hj:=qK (c.Tags.map λt=>t.data.toList) [44] 5000 (λw hm=>by
  obtain ⟨t,h1,rfl⟩:=List.mem_map.1 hm
  have:=h.tags t h1
  rw [Go.Lib.size_eq]at this
  exact this) (by rw [List.length_map];have:=h.tagl;omega) (by decide)
 rw [<- etags]at hj
 have k1:c.Key.data.toList.length<=5000:=h.words _ (by simp [cWords])
 have k2:(kI c.Class.data.toList).length<=5000:=h.words _ (by simp [cWords])
 have k3:(kM (c.Tags.map λt=>t.data.toList)).length<=5000:=h.words _ (by simp [cWords])
 have hdl:kI (Lib.join (c.Tags.map λt=>t.data.toList) [44])=kM (c.Tags.map λt=>t.data.toList):=DY (λw hm=>by
  obtain ⟨t,h1,rfl⟩:=List.mem_map.1 hm
  exact hne t h1)
 have d1:ib c.Class=some (SB (kI c.Class.data.toList)):=zy c.Class
 have d2:ib (SB (Lib.join (c.Tags.map λt=>t.data.toList) [44]))=some (SB (kM (c.Tags.map λt=>t.data.toList))):=by rw [<- hdl];exact zy _
 generalize hK:c.Key.data.toList=K at k1
 generalize hD:kI c.Class.data.toList=D at k2 d1
 generalize hT:kM (c.Tags.map λt=>t.data.toList)=T at k3 d2
 have hkey:c.Key=SB K:=by rw [<- hK]
 have l5:=pE [] 22 ([c.Time.From,c.Time.To,c.Goal,c.Most,c.Cents].map λn=>32::Lib.itoa n) (λx hx=>by
  obtain ⟨n,hn,rfl⟩:=List.mem_map.1 hx
  have:=gX (h.nums n hn)
  simp only [List.length_cons];omega)
 have b1:=gX (h.nums c.Time.From (by simp))
 have b2:=gX (h.nums c.Time.To (by simp))
 have b3:=gX (h.nums c.Goal (by simp))
 have b4:=gX (h.nums c.Most (by simp))
 have b5:=gX (h.nums c.Cents (by simp))
 have hline:K++[32]++D++([c.Time.From,c.Time.To,c.Goal,c.Most,c.Cents].flatMap λn=>32::Lib.itoa n)++([32]++T++[10])=kK c++[10]:=by
  unfold kK cWords
  rw [hK,hD,hT]
  simp only [List.map_cons,List.map_nil,List.cons_append,List.nil_append,Lib.join_cons,jH,sN,List.append_assoc,List.append_nil,List.flatMap_cons,List.flatMap_nil]
 unfold fw
 rw [hkey,show (⟨#[32]⟩:ByteArray)=SB [32] from rfl,zB _ _ (by simp only [List.length_cons,List.length_nil];omega),ob_,d1,ob_,zB _ _ (by simp only [List.length_append,List.length_cons,List.length_nil];omega),ob_,
  sV _ _ (by simp only [List.length_append,List.length_cons,List.length_nil];omega),ob_,fI (by simp),xJ _ 0 _ h.nums (by simp only [List.length_append,List.length_cons,List.length_nil];omega),ob_,jq,
  show (⟨#[44]⟩:ByteArray)=SB [44] from rfl,hj,ob_,d2,ob_,zB _ _ (by simp only [List.length_cons,List.length_nil];omega),ob_,show (⟨#[10]⟩:ByteArray)=SB [10] from rfl,zB _ _ (by simp only [List.length_append,List.length_cons,List.length_nil];omega),ob_,
  sV _ _ (by simp only [List.length_append,List.length_cons,List.length_nil,List.flatMap_cons,List.flatMap_nil];omega),ob_]
 rw [<- hline]
 simp only [List.append_assoc]
theorem Bc:∀(es:List Campaign) (k:Nat) (a:List UInt8),(∀e∈es,WriteC e/\∀t∈e.Tags,t.data.toList ≠ [])->a.length+(jd es).length<=700000000->forR (λk x s=>fw k x s) es k (nums a)=some (.go (nums (a++jd es)))
 | [],k,a,_,_=>by simp [jd,forR]
 | e::es,k,a,h,hl=>by
  rw [lJ,List.length_append,List.length_append]at hl
  obtain ⟨h1,h2⟩:=h e (by simp)
  rw [forR,step_eq k h1 h2 a (by omega),ob_]
  simp only []
  rw [Bc es (k+1) _ (λy hy=>h y (List.mem_cons_of_mem _ hy)) (by simp only [List.length_append,List.length_cons,List.length_nil]at hl ⊢;omega),lJ]
  simp
theorem text_of {es:List Campaign} (h:∀e∈es,WriteC e/\∀t∈e.Tags,t.data.toList ≠ []) (hl:es.length<=1000) (hc:aN es=some 0) (hs:(jd es).length<=700000000):fC es=some (SB (jd es),0):=by
 have hg:=Bc es 0 [] h (by simp only [List.length_nil];omega)
 rw [show nums []=[] from rfl,List.nil_append]at hg
 unfold fC
 rw [hc,ob_,bne_self_eq_false,cond_false,fI (by omega),hg,ob_,jq,AV _ (by omega)];rfl
theorem zz (l:List UInt8) (a b:Nat) (h1:a<=b) (h2:b<=l.length):jv (SB l) (a:Int) (b:Int)=some (SB ((l.take b).drop a)):=by
 unfold jv
 rw [if_pos (by rw [bT];omega),Int.toNat_natCast,Int.toNat_natCast]
 congr 1
 apply ByteArray.ext
 apply Array.ext'
 rw [ByteArray.data_extract,Array.toList_extract]
 show l.extract a b=(l.take b).drop a
 rw [List.drop_take]
theorem yN {α:Type} {key:α->ByteArray} {stp:ByteArray->α->Int}:∀(l:List α) (last:ByteArray),chk key stp last l=0->∀x∈l,∃q,stp q x=0
 | [],_,_=>λx hx=>by cases hx
 | y::l,last,h=>λx hx=>by
  unfold chk at h
  cases hs:stp last y==0 with
  | false=>rw [hs,cond_false]at h;rw [h]at hs;cases hs
  | true =>
   rw [hs,cond_true]at h
   rcases List.mem_cons.1 hx with rfl|hx
   ·exact⟨last,by simpa using hs⟩
   ·exact yN l _ h x hx
theorem y7 {s:ByteArray} (h:jC s=true):s.size<=40/\s.size≠0:=by
 unfold jC at h
 simp only [Bool.and_eq_true,decide_eq_true_eq]at h
 exact⟨h.2.1,h.1⟩
theorem fit_of {c:Campaign} {q:ByteArray} (h:ny q c=0):(WriteC c/\∀t∈c.Tags,t.data.toList ≠ [])/\(kK c).length<=17608:=by
 unfold ny at h
 cases hk:(!jC c.Key||(decide (c.Class.size≠0) && !jC c.Class))with
 | true=>rw [hk]at h;cases h
 | false =>
 rw [hk,cond_false]at h
 cases hs:sLe c.Key q with
 | true=>rw [hs]at h;cases h
 | false =>
 rw [hs,cond_false]at h
 cases hb:(Bo c.Time||(out c.Goal 1000000||(out c.Most 1000000||out c.Cents 1000000000)))with
 | true=>rw [hb]at h;cases h
 | false =>
 rw [hb,cond_false]at h
 unfold nL at h
 cases htl:decide (c.Tags.length>20)with
 | true=>rw [htl]at h;cases h
 | false =>
 rw [htl,cond_false]at h
 simp only [Bool.or_eq_false_iff,Bool.and_eq_false_iff,decide_eq_false_iff_not,Bool.not_eq_false']at hk hb htl
 obtain ⟨hk1,hk2⟩:=hk
 obtain ⟨hb1,hb2,hb3,hb4⟩:=hb
 unfold Bo at hb1
 unfold out at hb2 hb3 hb4
 simp only [Bool.or_eq_false_iff,decide_eq_false_iff_not]at hb1 hb2 hb3 hb4
 have c1:=(y7 hk1).1
 have c2:c.Class.size<=40:=by
  rcases hk2 with h2|h2
  ·omega
  ·exact (y7 h2).1
 have ht:∀t∈c.Tags,t.size<=40/\t.data.toList ≠ []:=λt hm=>by
  obtain ⟨q,hq⟩:=yN _ _ h t hm
  unfold sj at hq
  cases hkb:jC t with
  | false=>rw [hkb]at hq;cases hq
  | true =>
   obtain ⟨k1,k2⟩:=y7 hkb
   exact⟨k1,λe=>k2 (by rw [Lib.size_eq,e];rfl)⟩
 have hnum:∀n ∈ [c.Time.From,c.Time.To,c.Goal,c.Most,c.Cents],Med n:=λn hn=>by
  simp only [List.mem_cons,List.not_mem_nil,or_false]at hn
  unfold Med
  rcases hn with rfl|rfl|rfl|rfl|rfl <;> omega
 have hw:∀w∈cWords c,w.length<=2200:=λw hw=>by
  unfold cWords at hw
  rcases List.mem_append.1 hw with hw|hw
  ·rcases List.mem_append.1 hw with hw|hw
   ·simp only [List.mem_cons,List.not_mem_nil,or_false]at hw
    rcases hw with rfl|rfl
    ·rw [<- Lib.size_eq];omega
    ·unfold kI
     split
     ·decide
     ·rw [<- Lib.size_eq];omega
   ·obtain ⟨n,hn,rfl⟩:=List.mem_map.1 hw
    have:=gX (hnum n hn)
    omega
  ·simp only [List.mem_cons,List.not_mem_nil,or_false]at hw
   subst hw
   unfold kM
   split
   ·decide
   ·have:=pE [44] 40 (c.Tags.map λt=>t.data.toList) (λx hx=>by
     obtain ⟨t,h1,rfl⟩:=List.mem_map.1 hx
     rw [<- Lib.size_eq];exact (ht t h1).1)
    rw [List.length_map]at this
    simp only [List.length_cons,List.length_nil]at *
    omega
 refine⟨⟨⟨hnum,λt hm=>by have:=(ht t hm).1;omega,by omega,λw hm=>by have:=hw w hm;omega⟩,λt hm=>(ht t hm).2⟩,?_⟩
 have:=pE [32] 2200 (cWords c) hw
 rw [show (cWords c).length=8 by simp [cWords]]at this
 exact this
theorem sG:∀(es:List Campaign) (m:Nat),(∀e∈es,(kK e).length<=m)->(jd es).length<=es.length*(m+1)
 | [],_,_=>by simp [jd]
 | e::es,m,h=>by
  have h1:=h e (by simp)
  have h2:=sG es m (λx hx=>h x (List.mem_cons_of_mem _ hx))
  rw [lJ,List.length_append,List.length_append]
  simp only [List.length_cons,List.length_nil,Nat.succ_mul]
  omega
theorem Fy {es:List Campaign} (h:jI es=0) (hl:es.length<=4) (hc:aN es=some 0):fC es=some (SB (jd es),0)/\dz es=some (SB (jd es)):=by
 unfold jI at h
 cases hd:decide (es.length>30)with
 | true=>rw [hd]at h;cases h
 | false =>
 rw [hd,cond_false]at h
 have hf:∀e∈es,(WriteC e/\∀t∈e.Tags,t.data.toList ≠ [])/\(kK e).length<=17608:=λe he=>by
  obtain ⟨q,hq⟩:=yN _ _ h e he
  exact fit_of hq
 have hlen:=sG es 17608 (λe he=>(hf e he).2)
 have:es.length*(17608+1)<=4*17609:=Nat.mul_le_mul_right _ hl
 exact⟨text_of (λe he=>(hf e he).1) (by omega) hc (by omega),qI es (λe he=>qc (hf e he).1.1) (by omega) (by omega)⟩
theorem Aq (s:ByteArray):o6 s=kV s:=rfl
theorem list8 {α:Type} {l:List α} (h:l.length=8):∃a b c d e f g i,l=[a,b,c,d,e,f,g,i]:=by
 match l,h with
 | [a,b,c,d,e,f,g,i],_=>exact⟨a,b,c,d,e,f,g,i,rfl⟩
theorem list5 {α:Type} {l:List α} (h:l.length=5):∃a b c d e,l=[a,b,c,d,e]:=by
 match l,h with
 | [a,b,c,d,e],_=>exact⟨a,b,c,d,e,rfl⟩
theorem xz:∀(xs:List (List UInt8)) (k:Nat) (out out2:List Int) (all:Bool),(∀w∈xs,w.length<=100000)->out.length+xs.length<=1000000->out2.length+xs.length<=1000000 ->
   ∃(ms:List Int) (ok:Bool),forR (λk x s=>bn k x s) (xs.map SB) k out=some (bif ok then .go (out++ms)else .ret ((⟨(⟨#[]⟩:ByteArray),(⟨#[]⟩:ByteArray),(⟨0,0⟩:Window),([]:List ByteArray),0,0,0⟩:Campaign),false)) /\
    forR (λk x s=>eO 15 k x s) (xs.map SB) k (out2,all)=some (.go (out2++ms,all&&ok))/\ms.length=xs.length/\∀n∈ms,Med n:=by
  intro xs
  induction xs with
  | nil=>exact λk out out2 all _ _ _=>⟨[],true,by simp [forR],by simp [forR],rfl,λn hn=>by cases hn⟩
  | cons x xs ih =>
   intro k out out2 all hw ho ho2
   simp only [List.length_cons]at ho ho2
   obtain ⟨n,n',o,a1,a2,a3,_,a5⟩:=num_two x (hw x (by simp)) 15 (by decide)
   have hr:eO 15 k (SB x) (out2,all)=some (.go (out2++[n'],all&&o)):=by
    unfold eO
    rw [a2,ob_]
    simp only []
    rw [jO _ _ (by simp only [List.length_cons,List.length_nil];omega),ob_]
    cases all <;> rfl
   obtain ⟨ms,ok,b1,b2,b3,b4⟩:=ih (k+1) (out++[n']) (out2++[n']) (all&&o) (λw hm=>hw w (by simp [hm])) (by simp only [List.length_append,List.length_cons,List.length_nil];omega) (by simp only [List.length_append,List.length_cons,List.length_nil];omega)
   refine⟨n'::ms,o&&ok,?_,?_,by simp [b3],λm hm => ?_⟩
   ·cases o with
    | false =>
     have hstep:bn k (SB x) out=some (.ret ((⟨(⟨#[]⟩:ByteArray),(⟨#[]⟩:ByteArray),(⟨0,0⟩:Window),([]:List ByteArray),0,0,0⟩:Campaign),false)):=by unfold bn;rw [a1];rfl
     rw [List.map_cons,forR,hstep];rfl
    | true =>
     have hstep:bn k (SB x) out=some (.go (out++[n'])):=by
      unfold bn
      rw [a1,ob_]
      simp only [Bool.not_true,cond_false]
      rw [jO _ _ (by simp only [List.length_cons,List.length_nil];omega),a3 rfl];rfl
     rw [List.map_cons,forR,hstep,ob_]
     simp only []
     rw [b1,Bool.true_and];simp
   ·rw [List.map_cons,forR,hr,ob_]
    simp only []
    rw [b2];simp [Bool.and_assoc]
   ·rcases List.mem_cons.1 hm with rfl|hm
    ·exact a5
    ·exact b4 m hm
theorem uP (x y:List UInt8):sNe (SB x) (SB y) = !decide (x=y):=by
 show (!sEq (SB x) (SB y))=_
 rw [show sEq (SB x) (SB y)=decide (x=y) by
  rw [Bool.eq_iff_iff,fJ,decide_eq_true_eq]
  exact⟨λh=>uY h,λh=>by rw [h]⟩]
theorem zR (x y:List UInt8):sEq (SB x) (SB y)=decide (x=y):=by
 rw [Bool.eq_iff_iff,fJ,decide_eq_true_eq]
 exact⟨λh=>uY h,λh=>by rw [h]⟩
theorem E9 (x:List UInt8) (hx:x.length<=5000):∃(ts:List (List UInt8)) (b:Bool),jk (SB x)=some (ts.map SB,!b) /\
  (bif (sNe (SB x) (⟨#[45]⟩:ByteArray))then (strings_Split (SB x) (⟨#[44]⟩:ByteArray)).bind λr_64=>some r_64 else some ([]:List ByteArray))=some (ts.map SB) /\
  aQ (ts.map SB) (⟨#[]⟩:ByteArray)=some b/\kM ts=x/\ts.length<=x.length+1/\∀w∈ts,w.length<=x.length:=by
 have hd:(⟨#[45]⟩:ByteArray)=SB [45]:=rfl
 unfold jk
 rw [hd,uP,zR]
 by_cases h:x=[45]
 ·subst h
  rw [decide_eq_true rfl]
  exact⟨[],false,rfl,rfl,rfl,rfl,by simp,λw hw=>by cases hw⟩
 ·rw [decide_eq_false h]
  obtain ⟨h1,h2⟩:=oh 44 x
  obtain ⟨b,hb⟩:=p9 (⟨#[]⟩:ByteArray) ((spl 44 x).map SB) (by rw [List.length_map];omega)
  have hsp:=vz 44 (s:=SB x) (by rw [bT];omega)
  rw [show (List.map (λl=>(⟨l.toArray⟩:ByteArray)) (spl 44 (SB x).data.toList))=(spl 44 x).map SB from rfl]at hsp
  refine⟨spl 44 x,b,?_,?_,hb,?_,h1,h2⟩
  ·rw [cond_false,hsp,ob_,hb,ob_]
  ·rw [Bool.not_false,cond_true,hsp,ob_]
  ·unfold kM
   rw [if_neg (vM 44 x),Al]
def PC (c:Campaign):Prop:=rA c/\cO c c=some true
theorem EO (x:List UInt8) (hx:x.length<=900):∃(c:Campaign) (ok:Bool),bZ (SB x)=some (c,ok)/\(ok=true->PC c)/\∀out:List Campaign,out.length<=1000000->∃out',dS (SB x) out=some (ok,out')/\(ok=true->out'=out++[c]):=by
 obtain ⟨b,hb⟩:=CW x (by omega)
 have hw:=(oh 32 x).2
 unfold bZ dS
 simp only [Aq,hb,ob_]
 generalize hws:spl 32 x=ws at hw
 by_cases hlen:ws.length=8
 ·obtain ⟨w0,w1,w2,w3,w4,w5,w6,w7,rfl⟩:=list8 hlen
  have hl8:((((List.map SB [w0,w1,w2,w3,w4,w5,w6,w7]).length:Nat):Int) != 8)=false:=rfl
  have hsz:∀w ∈ [w0,w1,w2,w3,w4,w5,w6,w7],w.length<=x.length:=hw
  simp only [hl8]
  obtain ⟨v,hv⟩:∃v,(bif (!b)then some true else some false)=some v:=by cases b <;> exact⟨_,rfl⟩
  simp only [hv,ob_]
  cases v with
  | true=>exact⟨_,false,rfl,(λh=>by cases h),λout ho=>⟨out,rfl,(λh=>by cases h)⟩⟩
  | false =>
  have i0:idx (List.map SB [w0,w1,w2,w3,w4,w5,w6,w7]) 0=some (SB w0):=rfl
  have i1:idx (List.map SB [w0,w1,w2,w3,w4,w5,w6,w7]) 1=some (SB w1):=rfl
  have i7:idx (List.map SB [w0,w1,w2,w3,w4,w5,w6,w7]) 7=some (SB w7):=rfl
  have hsub:pK (List.map SB [w0,w1,w2,w3,w4,w5,w6,w7]) 2 7=some ([w2,w3,w4,w5,w6].map SB):=rfl
  have hne:neL (List.map SB [w0,w1,w2,w3,w4,w5,w6,w7])=some ():=rfl
  have hsr:Bn (List.map SB [w0,w1,w2,w3,w4,w5,w6,w7]) 2 7=some ():=rfl
  have hcut:cutL (List.map SB [w0,w1,w2,w3,w4,w5,w6,w7]) ((2:Int).toNat) ((7:Int).toNat-(2:Int).toNat)=[w2,w3,w4,w5,w6].map SB:=rfl
  have r7:inR 7 (List.map SB [w0,w1,w2,w3,w4,w5,w6,w7])=some ():=rfl
  have r1:inR 1 (List.map SB [w0,w1,w2,w3,w4,w5,w6,w7])=some ():=rfl
  have g7:(List.map SB [w0,w1,w2,w3,w4,w5,w6,w7])[(0+(7:Int).toNat)]? = some (SB w7):=rfl
  have g1:(List.map SB [w0,w1,w2,w3,w4,w5,w6,w7])[(0+(1:Int).toNat)]? = some (SB w1):=rfl
  obtain ⟨ms,ok,n1,n2,n3,n4⟩:=xz [w2,w3,w4,w5,w6] 0 [] [] true (λw hm=>by
   have:=hsz w (by
    simp only [List.mem_cons,List.not_mem_nil,or_false]at hm
    rcases hm with rfl|rfl|rfl|rfl|rfl <;> simp)
   omega) (by simp) (by simp)
  obtain ⟨ts,tb,t1,t2,t3,t4,t5,t6⟩:=E9 w7 (by have:=hsz w7 (by simp);omega)
  obtain ⟨m2,m3,m4,m5,m6,rfl⟩:=list5 (l:=ms) (by simpa using n3)
  have hni:iJ ([w2,w3,w4,w5,w6].map SB) 15=some ([m2,m3,m4,m5,m6],ok):=by
   unfold iJ
   rw [fI (by simp),n2]
   cases ok <;> rfl
  have hfl:forL ([w2,w3,w4,w5,w6].map SB) ([]:List Int) (λk x s=>bn k x s)=some (bif ok then .go [m2,m3,m4,m5,m6]else .ret ((⟨(⟨#[]⟩:ByteArray),(⟨#[]⟩:ByteArray),(⟨0,0⟩:Window),([]:List ByteArray),0,0,0⟩:Campaign),false)):=by
   rw [fI (by simp),n1,List.nil_append]
  obtain ⟨cl,c1,c2,c3⟩:∃cl:List UInt8,(bif (sNe (SB w1) (⟨#[45]⟩:ByteArray))then some (SB w1)else some (⟨#[]⟩:ByteArray))=some (SB cl) /\
    (bif (sEq (SB w1) (⟨#[45]⟩:ByteArray))then some ((List.map SB [w0,w1,w2,w3,w4,w5,w6,w7]).set (0+(1:Int).toNat) (⟨#[]⟩:ByteArray))else some (List.map SB [w0,w1,w2,w3,w4,w5,w6,w7]))=some (List.map SB [w0,cl,w2,w3,w4,w5,w6,w7])/\cl.length<=x.length:=by
   rw [show (⟨#[45]⟩:ByteArray)=SB [45] from rfl,uP,zR]
   by_cases h:w1=[45]
   ·rw [decide_eq_true h]
    exact⟨[],rfl,rfl,by simp⟩
   ·rw [decide_eq_false h]
    exact⟨w1,rfl,rfl,hsz w1 (by simp)⟩
  have q0:inR 0 (List.map SB [w0,cl,w2,w3,w4,w5,w6,w7])=some ():=rfl
  have q1:inR 1 (List.map SB [w0,cl,w2,w3,w4,w5,w6,w7])=some ():=rfl
  have p0:(List.map SB [w0,cl,w2,w3,w4,w5,w6,w7])[(0+(0:Int).toNat)]? = some (SB w0):=rfl
  have p1:(List.map SB [w0,cl,w2,w3,w4,w5,w6,w7])[(0+(1:Int).toNat)]? = some (SB cl):=rfl
  have k0:idx [m2,m3,m4,m5,m6] 0=some m2:=rfl
  have k1:idx [m2,m3,m4,m5,m6] 1=some m3:=rfl
  have k2:idx [m2,m3,m4,m5,m6] 2=some m4:=rfl
  have k3:idx [m2,m3,m4,m5,m6] 3=some m5:=rfl
  have k4:idx [m2,m3,m4,m5,m6] 4=some m6:=rfl
  have app:∀(out:List Campaign) (y:Campaign),out.length<=1000000->qE out [y]=some (out++[y]):=λout y ho=>jO _ _ (by simp only [List.length_cons,List.length_nil];omega)
  simp only [cond_false,hsub,hfl,hne,hsr,hcut,hni,r7,g7,t1,r1,g1,c2,q0,p0,q1,p1,k0,k1,k2,k3,k4,ob_]
  cases ok with
  | false =>
   exact⟨_,false,rfl,(λh=>by cases h),λout ho=>⟨_,by rw [app _ _ ho];rfl,(λh=>by cases h)⟩⟩
  | true =>
  have e0:inR 0 [m2,m3,m4,m5,m6]=some ():=rfl
  have e1:inR 1 [m2,m3,m4,m5,m6]=some ():=rfl
  have e2:inR 2 [m2,m3,m4,m5,m6]=some ():=rfl
  have e3:inR 3 [m2,m3,m4,m5,m6]=some ():=rfl
  have e4:inR 4 [m2,m3,m4,m5,m6]=some ():=rfl
  have f0 : [m2,m3,m4,m5,m6][(0+(0:Int).toNat)]? = some m2:=rfl
  have f1 : [m2,m3,m4,m5,m6][(0+(1:Int).toNat)]? = some m3:=rfl
  have f2 : [m2,m3,m4,m5,m6][(0+(2:Int).toNat)]? = some m4:=rfl
  have f3 : [m2,m3,m4,m5,m6][(0+(3:Int).toNat)]? = some m5:=rfl
  have f4 : [m2,m3,m4,m5,m6][(0+(4:Int).toNat)]? = some m6:=rfl
  simp only [cond_true,jq,i0,e0,e1,e2,e3,e4,f0,f1,f2,f3,f4,i1,c1,i7,t2,t3,ob_]
  refine⟨⟨SB w0,SB cl,⟨m2,m3⟩,ts.map SB,m4,m5,m6⟩,!tb,rfl,λ_ => ?_,λout ho=>⟨_,by rw [app _ _ ho];rfl,λ_=>rfl⟩⟩
  have z0:=hsz w0 (by simp)
  have z7:=hsz w7 (by simp)
  have htl:(ts.map SB).length=ts.length:=List.length_map ..
  refine⟨⟨by show (SB w0).size<=_;rw [bT];omega,by show (SB cl).size<=_;rw [bT];omega,by show (ts.map SB).length<=_;omega,λt ht => ?_⟩,DC ⟨n4,λt ht => ?_,by show (ts.map SB).length<=_;omega,λw hm => ?_⟩⟩
  ·obtain ⟨y,hy,rfl⟩:=List.mem_map.1 ht
   show (SB y).size<=_
   rw [bT]
   have:=t6 y hy;omega
  ·obtain ⟨y,hy,rfl⟩:=List.mem_map.1 ht
   rw [bT]
   have:=t6 y hy;omega
  ·unfold cWords at hm
   rcases List.mem_append.1 hm with hm|hm
   ·rcases List.mem_append.1 hm with hm|hm
    ·simp only [List.mem_cons,List.not_mem_nil,or_false]at hm
     rcases hm with h|h
     ·rw [h];show w0.length<=_;omega
     ·rw [h]
      show (kI cl).length<=_
      unfold kI
      split
      ·decide
      ·omega
    ·obtain ⟨n,hn,rfl⟩:=List.mem_map.1 hm
     have:=gX (n4 n hn)
     omega
   ·simp only [List.mem_cons,List.not_mem_nil,or_false]at hm
    subst hm
    rw [show ((ts.map SB).map λt:ByteArray=>t.data.toList)=ts by rw [List.map_map];exact List.map_id' ts,t4]
    omega
 ·have hl:(((ws.map SB).length:Int) != 8)=true:=by rw [List.length_map,bne_iff_ne];omega
  simp only [hl]
  cases b <;> exact⟨_,false,rfl,(λh=>by cases h),λout ho=>⟨out,rfl,(λh=>by cases h)⟩⟩
theorem Fj {c:UInt8}:∀{l:List UInt8},c∉l->Lib.indexByte l c = -1
 | [],_=>rfl
 | b::l,h=>by
  have hb:(b==c)=false:=by rw [beq_eq_false_iff_ne];exact λe=>h (by simp [e])
  have ih:=Fj (c:=c) (l:=l) (λe=>h (List.mem_cons_of_mem _ e))
  rw [Lib.indexByte,hb,ih];rfl
theorem Cy {c:UInt8}:∀{x:List UInt8} (y:List UInt8),c∉x->Lib.indexByte (x++c::y) c=(x.length:Int)
 | [],y,_=>by
  show Lib.indexByte (c::y) c=0
  rw [Lib.indexByte,beq_self_eq_true];rfl
 | b::x,y,h=>by
  have hb:(b==c)=false:=by rw [beq_eq_false_iff_ne];exact λe=>h (by simp [e])
  have ih:=Cy (c:=c) (x:=x) y (λe=>h (List.mem_cons_of_mem _ e))
  show Lib.indexByte (b::(x++c::y)) c=_
  rw [Lib.indexByte,hb,ih]
  have:(((x.length:Nat):Int) == -1)=false:=by rw [beq_eq_false_iff_ne];omega
  simp only [this,Bool.false_eq_true,if_false,List.length_cons]
  omega
theorem EI (l:List UInt8):cz (SB l) (⟨#[10]⟩:ByteArray)=some (Lib.indexByte l 10):=by
 unfold cz
 have h0:(((⟨#[10]⟩:ByteArray).size:Int)==0)=false:=rfl
 have h1:(((⟨#[10]⟩:ByteArray).size:Int)==1)=true:=rfl
 have h2:rD (⟨#[10]⟩:ByteArray) 0=some 10:=rfl
 rw [h0,cond_false,ob_,h1,h2]
 cases hs:sEq (⟨#[10]⟩:ByteArray) (SB l)with
 | true =>
  have : [10]=l:=uY (l:=[10]) ((fJ _ _).1 hs)
  subst this
  rfl
 | false=>rfl
theorem cut_no {l:List UInt8} (h:(10:UInt8)∉l):strings_Cut (SB l) (⟨#[10]⟩:ByteArray)=some (SB l,(⟨#[]⟩:ByteArray),false):=by
 unfold strings_Cut dB
 rw [EI,Fj h];rfl
theorem cut_yes {x:List UInt8} (y:List UInt8) (h:(10:UInt8)∉x) (hl:x.length+y.length<=1000000):strings_Cut (SB (x++10::y)) (⟨#[10]⟩:ByteArray)=some (SB x,SB y,true):=by
 have hlen:(x++10::y).length=x.length+1+y.length:=by simp;omega
 have e1:=zz (x++10::y) 0 x.length (by omega) (by rw [hlen];omega)
 have e2:=zz (x++10::y) (x.length+1) (x++10::y).length (by rw [hlen];omega) (Nat.le_refl _)
 rw [List.take_length]at e2
 have e3:((x++10::y).take x.length).drop 0=x:=by simp
 have e4:(x++10::y).drop (x.length+1)=y:=by
  rw [List.drop_append,List.drop_of_length_le (by omega),show x.length+1-x.length=1 by omega];rfl
 rw [e3]at e1
 rw [e4]at e2
 unfold strings_Cut dB
 rw [EI,Cy y h,ob_,decide_eq_true (by omega),cond_true]
 rw [show ((0:Nat):Int)=0 from rfl]at e1
 have hs1:((⟨#[10]⟩:ByteArray).size:Int)=1:=rfl
 have hw:w64 (((x.length:Nat):Int)+((⟨#[10]⟩:ByteArray).size:Int))=((x.length+1:Nat):Int):=by rw [hs1,gP (by omega)];rfl
 rw [e1,ob_,hw]
 rw [show ((SB (x++10::y)).size:Int)=(((x++10::y).length:Nat):Int) by rw [bT],e2]
 rfl
theorem EM (l:List UInt8):(10:UInt8)∉l\/∃x y,l=x++10::y/\(10:UInt8)∉x:=by
 by_cases h:(10:UInt8)∈l
 ·right
  induction l with
  | nil=>cases h
  | cons b l ih =>
   by_cases hb:b=10
   ·exact⟨[],l,by rw [hb];rfl,by simp⟩
   ·have:(10:UInt8)∈l:=by
     rcases List.mem_cons.1 h with h|h
     ·exact absurd h.symm hb
     ·exact h
    obtain ⟨x,y,e,hx⟩:=ih this
    refine⟨b::x,y,by rw [e];rfl,λhm => ?_⟩
    rcases List.mem_cons.1 hm with hm|hm
    ·exact hb hm.symm
    ·exact hx hm
 ·exact .inl h
noncomputable def Ef (x:List UInt8):Option Campaign:=match bZ (SB x)with
 | some (lg,true)=>some lg
 | _=>none
theorem lQ (x:List UInt8) (hx:x.length<=900):∃lg ok,bZ (SB x)=some (lg,ok)/\Ef x=(bif ok then some lg else none)/\(ok=true->PC lg) /\
  ∀out:List Campaign,out.length<=1000000->∃out',dS (SB x) out=some (ok,out')/\(ok=true->out'=out++[lg]):=by
 obtain ⟨lg,ok,h1,h2,h3⟩:=EO x hx
 refine⟨lg,ok,h1,?_,h2,h3⟩
 unfold Ef
 rw [h1]
 cases ok <;> rfl
noncomputable def lns:List (List UInt8)->Nat->List Campaign->Sum Nat (List Campaign)
 | [],_,out => .inr out
 | [x],k,out=>if x=[]then .inr out else .inl k
 | x::y::r,k,out=>match Ef x with
  | none => .inl k
  | some lg=>lns (y::r) (k+1) (out++[lg])
theorem zY:∀(qs:List (List UInt8)) (k:Nat) (out o:List Campaign),(∀q∈qs,q.length<=900)->(∀x∈out,PC x)->lns qs k out = .inr o->(∀x∈o,PC x)/\o.length<=out.length+qs.length
 | [],_,out,o,_,hg,h=>by
  simp only [lns,Sum.inr.injEq]at h
  subst h
  exact⟨hg,by simp⟩
 | [x],k,out,o,_,hg,h=>by
  unfold lns at h
  split at h
  ·simp only [Sum.inr.injEq]at h
   subst h
   exact⟨hg,by simp⟩
  ·cases h
 | x::y::r,k,out,o,hq,hg,h=>by
  obtain ⟨lg,ok,a1,a2,a3,_⟩:=lQ x (hq x (by simp))
  unfold lns at h
  rw [a2]at h
  cases ok with
  | false=>cases h
  | true =>
   simp only [cond_true]at h
   obtain ⟨b1,b2⟩:=zY (y::r) (k+1) (out++[lg]) o (λq hm=>hq q (by simp [hm])) (λz hz=>by
    rcases List.mem_append.1 hz with hz|hz
    ·exact hg z hz
    ·rw [List.mem_singleton.1 hz];exact a3 rfl) h
   refine⟨b1,?_⟩
   simp only [List.length_append,List.length_cons,List.length_nil]at b2 ⊢
   omega
theorem yn:∀(n:Nat) (l:List UInt8) (k:Nat) (out:List Campaign),l.length<=n->l.length<=900->k+l.length<=100000->out.length+l.length<=100000 ->
  ∃m,match lns (spl 10 l) k out with
   | .inl i=>∃o,iterN bQ m (out,SB l,(k:Int))=some (.ret ((i:Int),false,o))
   | .inr o=>∃t j,iterN bQ m (out,SB l,(k:Int))=some (.go (o,t,j))
 | n,l,k,out,hn,hl,hk,ho=>by
  cases hle:l with
  | nil =>
   refine⟨1,?_⟩
   simp only [spl,lns,if_true]
   refine⟨SB [],(k:Int),?_⟩
   simp only [iterN,bQ]
   rw [show sNe (SB []) (⟨#[]⟩:ByteArray)=false by show (!sEq (SB []) (⟨#[]⟩:ByteArray))=false;rw [zx];rfl]
   rfl
  | cons b0 l0 =>
  have hne:l ≠ []:=by rw [hle];simp
  rw [<- hle]
  have hsn:sNe (SB l) (⟨#[]⟩:ByteArray)=true:=by show (!sEq (SB l) (⟨#[]⟩:ByteArray))=true;rw [zx,hle];rfl
  rcases EM l with h|⟨x,y,e,hx⟩
  ·refine⟨1,?_⟩
   rw [Ez h]
   simp only [lns,if_neg hne]
   refine⟨out,?_⟩
   simp only [iterN,bQ]
   rw [hsn,cond_true,cut_no h];rfl
  ·have hlen:l.length=x.length+1+y.length:=by rw [e];simp;omega
   obtain ⟨lg,ok,a1,a2,a3,a4⟩:=lQ x (by omega)
   obtain ⟨out',b1,b2⟩:=a4 out (by omega)
   have hspl:spl 10 l=x::spl 10 y:=by rw [e];exact CE y hx
   obtain ⟨y0,r,hy⟩:∃y0 r,spl 10 y=y0::r:=by
    cases h:spl 10 y with
    | nil=>exact absurd h (vM 10 y)
    | cons y0 r=>exact⟨y0,r,rfl⟩
   have hstep:bQ (out,SB l,(k:Int))=some (bif ok then .go (out',SB y,((k+1:Nat):Int))else .ret ((k:Int),false,out')):=by
    unfold bQ
    simp only []
    rw [hsn,cond_true,e,cut_yes y hx (by omega),ob_]
    simp only [Bool.not_true,cond_false,b1,ob_]
    cases ok with
    | false=>rfl
    | true =>
     simp only [Bool.not_true,cond_false,cond_true]
     rw [gP (by omega)];rfl
   rw [hspl,hy]
   unfold lns
   rw [a2]
   cases ok with
   | false =>
    refine⟨1,?_⟩
    simp only [cond_false]
    refine⟨out',?_⟩
    simp only [iterN,hstep];rfl
   | true =>
    simp only [cond_true]
    match n,hn with
    | 0,hn=>omega
    | n+1,hn =>
    obtain ⟨m,hm⟩:=yn n y (k+1) (out++[lg]) (by omega) (by omega) (by omega) (by simp only [List.length_append,List.length_cons,List.length_nil];omega)
    rw [hy]at hm
    refine⟨m+1,?_⟩
    have hit:iterN bQ (m+1) (out,SB l,(k:Int))=iterN bQ m (out++[lg],SB y,((k+1:Nat):Int)):=by
     rw [iterN,hstep,b2 rfl];rfl
    rw [hit]
    exact hm
theorem yh (r:(List ByteArray)×Bool) (hr:r.2=true):∀(qs:List (List UInt8)) (k:Nat) (out:List Campaign),qs ≠ []->qs.getLast? = some []->(∀q∈qs,q.length<=900)->out.length+qs.length<=100000 ->
  forR (λk x s=>bR r k x s) (qs.dropLast.map SB) k out=some (match lns qs k out with | .inl i => .ret ([],(i:Int),9) | .inr o => .go o)
 | [],_,_,h,_,_,_=>absurd rfl h
 | [x],k,out,_,hx,_,_=>by
  simp only [List.getLast?_singleton,so_]at hx
  subst hx
  simp only [lns,if_true];rfl
 | x::y::t,k,out,_,hx,hq,ho=>by
  obtain ⟨lg,ok,a1,a2,a3,_⟩:=lQ x (hq x (by simp))
  have ho2:out.length+(t.length+1+1)<=100000:=by simpa using ho
  have hstep:bR r k (SB x) out=some (bif ok then .go (out++[lg])else .ret ([],(k:Int),9)):=by
   unfold bR
   rw [a1,ob_,hr]
   cases ok with
   | false=>rfl
   | true =>
    simp only [Bool.not_true,cond_false,ob_,cond_true]
    rw [jO _ _ (by simp only [List.length_cons,List.length_nil];omega)];rfl
  rw [List.dropLast_cons_cons,List.map_cons,forR,hstep,ob_]
  unfold lns
  rw [a2]
  cases ok with
  | false=>rfl
  | true =>
   simp only [cond_true]
   exact yh r hr (y::t) (k+1) (out++[lg]) (by simp) (by rw [<- hx];simp) (λq hm=>hq q (by simp [hm])) (by simp only [List.length_append,List.length_cons,List.length_nil];omega)
theorem vD (r:(List ByteArray)×Bool) (hr:r.2=false) (hrl:r.1.length<=100000):∀(qs:List (List UInt8)) (k:Nat) (out:List Campaign),qs ≠ []->qs.getLast? ≠ some []->k+qs.length=r.1.length->(∀q∈qs,q.length<=900)->out.length+qs.length<=100000 ->
  forR (λk x s=>bR r k x s) (qs.map SB) k out=some (match lns qs k out with | .inl i => .ret ([],(i:Int),9) | .inr o => .go o)
 | [],_,_,h,_,_,_,_=>absurd rfl h
 | [x],k,out,_,hx,hk,hq,_=>by
  simp only [List.getLast?_singleton,ne_eq,so_]at hx
  simp only [List.length_cons,List.length_nil]at hk
  obtain ⟨lg,ok,a1,a2,a3,_⟩:=lQ x (hq x (by simp))
  have hstep:bR r k (SB x) out=some (.ret ([],(k:Int),9)):=by
   unfold bR
   rw [a1,ob_,hr,gP (by omega),show ((k:Int)==((r.1.length:Int)-1))=true by rw [beq_iff_eq];omega]
   cases ok <;> rfl
  rw [List.map_cons,forR,hstep]
  simp only [lns,if_neg hx];rfl
 | x::y::t,k,out,_,hx,hk,hq,ho=>by
  obtain ⟨lg,ok,a1,a2,a3,_⟩:=lQ x (hq x (by simp))
  have ho2:out.length+(t.length+1+1)<=100000:=by simpa using ho
  simp only [List.length_cons]at hk
  have hstep:bR r k (SB x) out=some (bif ok then .go (out++[lg])else .ret ([],(k:Int),9)):=by
   unfold bR
   rw [a1,ob_,hr,gP (by omega),show ((k:Int)==((r.1.length:Int)-1))=false by rw [beq_eq_false_iff_ne];omega]
   cases ok with
   | false=>rfl
   | true =>
    simp only [Bool.not_true,Bool.not_false,cond_false,ob_,cond_true]
    rw [jO _ _ (by simp only [List.length_cons,List.length_nil];omega)];rfl
  rw [List.map_cons,forR,hstep,ob_]
  unfold lns
  rw [a2]
  cases ok with
  | false=>rfl
  | true =>
   simp only [cond_true]
   exact vD r hr hrl (y::t) (k+1) (out++[lg]) (by simp) (by simpa using hx) (by simp only [List.length_cons];omega) (λq hm=>hq q (by simp [hm])) (by simp only [List.length_append,List.length_cons,List.length_nil];omega)
structure TinyC (c:Campaign):Prop where
 key:c.Key.size<=4
 cls:c.Class.size<=4
 nums:∀n ∈ [c.Time.From,c.Time.To,c.Goal,c.Most,c.Cents],0<=n/\n<10000
 tagl:c.Tags.length<=10
 tags:∀t∈c.Tags,t.size<=4
theorem vY {l:List Int} {x lo hi:Int} (h:x∈l) (hb:(l.all λy=>decide (lo<=y)&&decide (y<=hi))=true):lo<=x/\x<=hi:=by
 have:=List.all_eq_true.1 hb x h
 simpa using this
theorem DT {n:Int} (h0:0<=n) (h1:n<10000):(Lib.itoa n).length<=4:=by
 have hi:Lib.itoa n=Lib.decDigits n.toNat:=by unfold Lib.itoa;rw [if_neg (by omega)]
 rw [hi];exact Fu 3 _ (by omega)
theorem FD {L:Nat->ByteArray->(List ByteArray×List Int×Int)->Option (Ctl (List ByteArray×List Int×Int) Unit)} {n:Int} (hn:1<=n) (hn2:n<=1000)
  (hL:∀k x s,L k x s=(bU (⟨s.2.1,s.2.2⟩:Stream) n).bind λr=>(bif r.1 then (qE s.1 ([x]:List ByteArray)).bind λa=>some a else some s.1).bind λv=>some (.go (v,r.2.L,r.2.f_at)))
  {xs:List ByteArray} (hx:∀x∈xs,x.size<=4) (hl:xs.length<=10) (s:Stream) {b:Int} (hs:Ok s b) (hb:b<=900000) :
  ∃t s',forL xs (([]:List ByteArray),s.L,s.f_at) (λk x s=>L k x s)=some (.go (t,s'.L,s'.f_at))/\Ok s' (b+10)/\t.length<=10/\∀x∈t,x.size<=4:=by
 obtain ⟨s',h1,h2,h3,h4⟩:=oC (body:=λk x s=>L k x s) (λk s=>Ok ⟨s.2.1,s.2.2⟩ (b+k)/\s.1.length<=k/\∀x∈s.1,x.size<=4) (xs:=xs) (s:=(([]:List ByteArray),s.L,s.f_at)) (by omega) (λk x s hxm hk ⟨i1,i2,i3⟩=>by
   obtain ⟨c,s1,k1,k2⟩:=oW _ n i1 (by omega) hn hn2
   simp only [hL,k1,ob_]
   cases c with
   | true =>
    simp only [cond_true,jO s.1 [x] (by simp;omega),ob_]
    refine⟨_,rfl,k2.mono (by omega),by simp;omega,λy hy => ?_⟩
    rcases List.mem_append.1 hy with hy|hy
    ·exact i3 y hy
    ·rw [List.mem_singleton.1 hy];exact hx x hxm
   | false =>
    simp only [cond_false,ob_]
    exact⟨_,rfl,k2.mono (by omega),by show s.1.length<=_;omega,i3⟩) ⟨by simpa using hs,by simp,by simp⟩
 exact⟨s'.1,⟨s'.2.1,s'.2.2⟩,h1,h2.mono (by omega),by omega,h4⟩
theorem Ab (s:Stream) (most:Int) (hm:0<=most/\most<=4) {b:Int} (hs:Ok s b) (hb:b<=800000):∃xs s',aW s most=some (xs,s')/\Ok s' (b+100)/\xs.length<=4/\∀x∈xs,rA x/\TinyC x:=by
 unfold aW
 obtain ⟨ks,hk1,hk2,hk3⟩:∃ks,pK ([(⟨#[99,97]⟩:ByteArray),(⟨#[99,98]⟩:ByteArray),(⟨#[99,99]⟩:ByteArray),(⟨#[99,100]⟩:ByteArray)]:List ByteArray) 0 most=some ks/\ks.length<=4/\∀x∈ks,jl x/\x.size<=4:=by
  refine⟨_,by unfold pK;rw [if_pos ⟨by omega,by omega,by omega,by simp;omega⟩],by simp;omega,λx hx => ?_⟩
  have hx:=List.mem_of_mem_take (List.mem_of_mem_drop hx)
  simp only [List.mem_cons,List.not_mem_nil,or_false]at hx
  rcases hx with rfl|rfl|rfl|rfl <;> exact⟨gz rfl,by decide⟩
 simp only [hk1,ob_]
 obtain ⟨s',h1,h2,h3,h4⟩:=oC (body:=λk x s=>aV k x s) (λk s=>Ok ⟨s.2.1,s.2.2⟩ (b+20*k)/\s.1.length<=k/\∀x∈s.1,rA x/\TinyC x)
  (xs:=ks) (s:=(([]:List Campaign),s.L,s.f_at)) (by omega) (λk x t hxm hk ⟨i1,i2,i3⟩=>by
   have hk5:k<4:=by omega
   obtain ⟨c,s1,k1,k2⟩:=oW _ 5 i1 (by omega) (by decide) (by decide)
   simp only [aV,k1,ob_]
   cases c with
   | true=>exact⟨_,rfl,k2.mono (by omega),by show t.1.length<=_;omega,i3⟩
   | false =>
    obtain ⟨cl,s2,k3,kc,k4⟩:=uM s1 [(⟨#[]⟩:ByteArray),(⟨#[]⟩:ByteArray),(⟨#[99,97,114,115]⟩:ByteArray),(⟨#[102,111,111,100]⟩:ByteArray)] k2 (by omega) (by simp) (by simp)
    obtain ⟨p1,s3,m1,q1,n1⟩:=iP s2 [0,0,10,20] k4 (by omega) (by simp) (by simp)
    obtain ⟨p2,s4,m2,q2,n2⟩:=iP s3 [30,50,60,100] n1 (by omega) (by simp) (by simp)
    obtain ⟨p3,s5,m3,q3,n3⟩:=iP s4 [0,1,2,3,4,6] n2 (by omega) (by simp) (by simp)
    obtain ⟨p4,s6,m4,q4,n4⟩:=iP s5 [0,1,2,3,9] n3 (by omega) (by simp) (by simp)
    obtain ⟨p5,s7,m5,q5,n5⟩:=iP s6 [0,500,1000,1500] n4 (by omega) (by simp) (by simp)
    obtain ⟨tg,s8,k7,k8,k9,k10⟩:=FD (L:=bv) (n:=4) (by decide) (by decide) (λ_ _ _=>rfl) (xs:=[(⟨#[99,105,116,121]⟩:ByteArray),(⟨#[109,97,108,108]⟩:ByteArray)])
     (by intro x hx;simp only [List.mem_cons,List.not_mem_nil,or_false]at hx;rcases hx with rfl | rfl <;> decide) (by simp) s7 n5 (by omega)
    simp only [cond_false,k3,m1,m2,m3,m4,m5,k7,ob_,jq,jO t.1 _ (show t.1.length+[_].length<=_ by simp;omega)]
    refine⟨_,rfl,k8.mono (by omega),by simp;omega,λy hy => ?_⟩
    rcases List.mem_append.1 hy with hy|hy
    ·exact i3 y hy
    ·rw [List.mem_singleton.1 hy]
     have b1:=vY (lo:=0) (hi:=20) q1 rfl
     have b2:=vY (lo:=30) (hi:=100) q2 rfl
     have b3:=vY (lo:=0) (hi:=6) q3 rfl
     have b4:=vY (lo:=0) (hi:=9) q4 rfl
     have b5:=vY (lo:=0) (hi:=1500) q5 rfl
     have hcl:cl.size<=4:=by
      simp only [List.mem_cons,List.not_mem_nil,or_false]at kc
      rcases kc with rfl|rfl|rfl|rfl <;> decide
     refine⟨⟨(hk3 x hxm).1,by show cl.size<=_;omega,by show tg.length<=2000;omega,λt ht=>by show t.size<=_;have:=k10 t ht;omega⟩,⟨(hk3 x hxm).2,hcl,λn hn => ?_,k9,k10⟩⟩
     simp only [List.mem_cons,List.not_mem_nil,or_false]at hn
     rcases hn with rfl|rfl|rfl|rfl|rfl <;> omega) ⟨by simpa using hs,by simp,by simp⟩
 rw [h1]
 exact⟨s'.1,⟨s'.2.1,s'.2.2⟩,rfl,h2.mono (by omega),by omega,h4⟩
theorem AY {c:Campaign} (h:TinyC c):WriteC c/\(kK c).length<=100:=by
 have hm:∀n ∈ [c.Time.From,c.Time.To,c.Goal,c.Most,c.Cents],Med n:=λn hn=>by have:=h.nums n hn;unfold Med;omega
 have k1:=h.key
 have k2:=h.cls
 rw [Lib.size_eq]at k1 k2
 have kd:(kI c.Class.data.toList).length<=4:=by
  unfold kI
  split
  ·decide
  ·exact k2
 have kt:(kM (c.Tags.map λt=>t.data.toList)).length<=50:=by
  unfold kM
  split
  ·decide
  ·have:=pE [44] 4 (c.Tags.map λt=>t.data.toList) (λx hx=>by
    obtain ⟨t,h1,rfl⟩:=List.mem_map.1 hx
    rw [<- Lib.size_eq];exact h.tags t h1)
   rw [List.length_map]at this
   have:=h.tagl
   simp only [List.length_cons,List.length_nil]at *
   omega
 have b:∀n ∈ [c.Time.From,c.Time.To,c.Goal,c.Most,c.Cents],(Lib.itoa n).length<=4:=λn hn=>DT (h.nums n hn).1 (h.nums n hn).2
 have b1:=b c.Time.From (by simp)
 have b2:=b c.Time.To (by simp)
 have b3:=b c.Goal (by simp)
 have b4:=b c.Most (by simp)
 have b5:=b c.Cents (by simp)
 refine⟨⟨hm,λt ht=>by have:=h.tags t ht;omega,by have:=h.tagl;omega,λw hw => ?_⟩,?_⟩
 ·unfold cWords at hw
  rcases List.mem_append.1 hw with hw|hw
  ·rcases List.mem_append.1 hw with hw|hw
   ·simp only [List.mem_cons,List.not_mem_nil,or_false]at hw
    rcases hw with rfl|rfl <;> omega
   ·obtain ⟨n,hn,rfl⟩:=List.mem_map.1 hw
    have:=b n hn
    omega
  ·simp only [List.mem_cons,List.not_mem_nil,or_false]at hw
   subst hw;omega
 ·unfold kK cWords
  simp only [List.map_cons,List.map_nil,List.cons_append,List.nil_append,Lib.join_cons,jH,sN,List.length_append,List.length_cons,List.length_nil]
  omega
theorem zi (t:ByteArray) (a b:Nat) (h1:a<=b) (h2:b<=t.size):∃y,jv t (a:Int) (b:Int)=some y/\y.size=b-a:=by
 have hl:t.data.toList.length=t.size:=(Go.Lib.size_eq t).symm
 have:=zz t.data.toList a b h1 (by omega)
 refine⟨_,this,?_⟩
 rw [bT,List.length_drop,List.length_take];omega
def chE:ByteArray:=⟨#[32,10,48,45,57,44,99,109]⟩
theorem enc_all:∀i:Fin 8,(Utf8.encode (IntKind.i32.wrap ((di chE i.val).toNat:Int))).size<=4:=by decide +kernel
theorem qM (x y:ByteArray):(x++y).size=x.size+y.size:=ByteArray.size_append
theorem DN (s:Stream) (t:ByteArray) {b:Int} (hs:Ok s b) (hb:b<=900000) (ht:t.size<=100000):∃r,ek s t chE=some r/\r.1.size<=t.size+8/\Ok r.2 (b+3):=by
 unfold ek
 have hw:sEq chE (⟨#[]⟩:ByteArray)=false:=by
  cases h:sEq chE (⟨#[]⟩:ByteArray)with
  | false=>rfl
  | true =>
   have:=congrArg ByteArray.size ((fJ _ _).1 h)
   exact absurd this (by decide)
 rw [hw]
 cases h0:sEq t (⟨#[]⟩:ByteArray)with
 | true=>exact⟨_,rfl,by show chE.size<=_;rw [show chE.size=8 from rfl];omega,hs.mono (by omega)⟩
 | false =>
 have hpos:0<t.size:=by
  rcases Nat.eq_zero_or_pos t.size with h|h
  ·have:t=(⟨#[]⟩:ByteArray):=by
    have hl:t.data.toList=[]:=List.eq_nil_of_length_eq_zero (by rw [<- Go.Lib.size_eq];exact h)
    exact ((show t=SB t.data.toList from rfl)).trans (by rw [hl])
   rw [this,(fJ _ _).2 rfl]at h0;cases h0
  ·exact h
 simp only [cond_false,ob_]
 obtain ⟨i,s1,a1,a2,a3,a4⟩:=jL s (t.size:Int) hs (by omega) (by omega) (by omega)
 obtain ⟨j,s2,b1,b2,b3,b4⟩:=jL s1 (chE.size:Int) a4 (by omega) (by decide) (by decide)
 obtain ⟨q,s3,c1,c2,c3,c4⟩:=jL s2 3 b4 (by omega) (by decide) (by decide)
 obtain ⟨i,rfl⟩:∃n:Nat,i=(n:Int):=⟨i.toNat,by omega⟩
 obtain ⟨j,rfl⟩:∃n:Nat,j=(n:Int):=⟨j.toNat,by omega⟩
 have hj:j<8:=by rw [show chE.size=8 from rfl]at b3;omega
 have hx:=oH chE j (by rw [show chE.size=8 from rfl];exact hj)
 have he:=enc_all ⟨j,hj⟩
 obtain ⟨y0,d1,d2⟩:=zi t 0 i (by omega) (by omega)
 obtain ⟨y1,e1,e2⟩:=zi t (i+1) t.size (by omega) (Nat.le_refl _)
 obtain ⟨y2,f1,f2⟩:=zi t i t.size (by omega) (Nat.le_refl _)
 rw [show ((0:Nat):Int)=0 from rfl]at d1
 have hwi:w64 ((i:Int)+1)=((i+1:Nat):Int):=by rw [gP (by omega)];rfl
 simp only [a1,b1,hx,c1,d1,ob_,hwi,e1,f1]
 generalize Utf8.encode (IntKind.i32.wrap ((di chE j).toNat:Int))=z at he
 have g1:l9 y0 z=some (y0++z):=nk (by omega)
 have z1:(y0++z).size=y0.size+z.size:=qM _ _
 have g2:l9 (y0++z) y1=some (y0++z++y1):=nk (by omega)
 have g3:l9 (y0++z) y2=some (y0++z++y2):=nk (by omega)
 have g4:l9 y0 y1=some (y0++y1):=nk (by omega)
 have z2:(y0++z++y1).size=(y0++z).size+y1.size:=qM _ _
 have z3:(y0++z++y2).size=(y0++z).size+y2.size:=qM _ _
 have z4:(y0++y1).size=y0.size+y1.size:=qM _ _
 have hok:Ok s3 (b+3):=c4.mono (by omega)
 cases hq0:q==0 with
 | true =>
  simp only [cond_true,g1,g2,ob_]
  exact⟨_,rfl,by show (y0++z++y1).size<=_;omega,hok⟩
 | false =>
  simp only [cond_false]
  cases hq1:q==1 with
  | true =>
   simp only [cond_true,g1,g3,ob_]
   exact⟨_,rfl,by show (y0++z++y2).size<=_;omega,hok⟩
  | false =>
   simp only [cond_false,g4,ob_]
   exact⟨_,rfl,by show (y0++y1).size<=_;omega,hok⟩
theorem zC (s:Stream) {b:Int} (hs:Ok s b) (hb:b<=600000):∃r,dM s=some r/\r.1.size<=900:=by
 obtain ⟨es,s1,a1,a2,a3,a4⟩:=Ab s 3 (by decide) hs (by omega)
 have hl:=sG es 100 (λe he=>(AY (a4 e he).2).2)
 have hln:=qI es (λe he=>qc (AY (a4 e he).2).1) (by omega) (by omega)
 obtain ⟨n,s2,c1,c2,c3⟩:=iP s1 [0,0,1,2] a2 (by omega) (by decide) (by decide)
 have hn:0<=n/\n<=2:=by
  simp only [List.mem_cons,List.not_mem_nil,or_false]at c2
  rcases c2 with h|h|h|h <;> omega
 obtain ⟨u,d1,d2,d3⟩:=oC (body:=λk x s=>dn k x s) (λk (s:ByteArray×List Int×Int)=>Ok ⟨s.2.1,s.2.2⟩ (b+301+3*k)/\s.1.size<=576+8*k) (xs:=List.range n.toNat) (s:=(SB (jd es),s2.L,s2.f_at)) (by rw [List.length_range];omega) (λk x t _ hk ⟨i1,i2⟩=>by
  have hk2:k<2:=by rw [List.length_range]at hk;omega
  obtain ⟨v,e1,e2,e3⟩:=DN ⟨t.2.1,t.2.2⟩ t.1 i1 (by omega) (by omega)
  unfold dn
  have e1':ek ⟨t.2.1,t.2.2⟩ t.1 (⟨#[32,10,48,45,57,44,99,109]⟩:ByteArray)=some v:=e1
  rw [e1',ob_]
  refine⟨_,rfl,?_,?_⟩
  ·show Ok ⟨v.2.L,v.2.f_at⟩ _
   exact e3.mono (by omega)
  ·show v.1.size<=_
   omega) ⟨c3.mono (by simp;omega),by show (SB (jd es)).size<=_;rw [bT];omega⟩
 rw [List.length_range]at d2 d3
 unfold dM
 simp only [a1,hln,c1,ob_]
 rw [d1,ob_,jq]
 exact⟨_,rfl,by show u.1.size<=_;omega⟩
def loopF {σ ρ:Type} (s:σ) (body:σ->Option (Ctl σ ρ)):Option (Ctl σ ρ):=iterN body 300 s
def Le {α:Type} (a b:Option α):Prop:=∀r,a=some r->b=some r
theorem Le.refl {α:Type} (a:Option α):Le a a:=λ_ h=>h
theorem Le.bind {α β:Type} {a b:Option α} {f g:α->Option β} (h:Le a b) (k:∀x,Le (f x) (g x)):Le (a.bind f) (b.bind g):=λr e=>by
 obtain ⟨x,h1,h2⟩:=Option.bind_eq_some_iff.1 e
 rw [h x h1];exact k x r h2
theorem Le.cond {α:Type} {a b c d:Option α} {t:Bool} (h:Le a c) (k:Le b d):Le (bif t then a else b) (bif t then c else d):=by
 cases t
 ·exact k
 ·exact h
theorem Le.thenC {σ ρ τ:Type} {o:Ctl σ ρ} {f f':σ->Option τ} {g g':ρ->Option τ} (h:∀x,Le (f x) (f' x)) (k:∀x,Le (g x) (g' x)):Le (Go.Eng.thenC o f g) (Go.Eng.thenC o f' g'):=by
 cases o
 ·exact h _
 ·exact Le.refl _
 ·exact k _
theorem Le.forR {α σ ρ:Type} {b b':Nat->α->σ->Option (Ctl σ ρ)} (h:∀k x s,Le (b k x s) (b' k x s)):∀(xs:List α) (k:Nat) (s:σ),Le (Go.Eng.forR b xs k s) (Go.Eng.forR b' xs k s)
 | [],k,s=>Le.refl _
 | x::xs,k,s=>Le.bind (h k x s) (λc=>by
   cases c with
   | go s'=>exact Le.forR h xs _ _
   | brk s'=>exact Le.refl _
   | ret r=>exact Le.refl _)
theorem Le.forL {α σ ρ:Type} {xs:List α} {s:σ} {b b':Nat->α->σ->Option (Ctl σ ρ)} (h:∀k x s,Le (b k x s) (b' k x s)):Le (Go.Eng.forL xs s b) (Go.Eng.forL xs s b'):=by
 unfold Go.Eng.forL
 split
 ·exact Le.forR h xs 0 s
 ·exact Le.refl _
theorem Le.iterN {σ ρ:Type} {b b':σ->Option (Ctl σ ρ)} (h:∀s,Le (b s) (b' s)):∀(n:Nat) (s:σ),Le (Go.Eng.iterN b n s) (Go.Eng.iterN b' n s)
 | 0,s=>Le.refl _
 | n+1,s=>Le.bind (h s) (λc=>by
   cases c with
   | go s'=>exact Le.iterN h n s'
   | brk s'=>exact Le.refl _
   | ret r=>exact Le.refl _)
theorem Le.loop {σ ρ:Type} {s:σ} {b b':σ->Option (Ctl σ ρ)} (h:∀s,Le (b s) (b' s)):Le (loopF s b) (pX s b'):=λr e=>kW (Le.iterN h _ _ r e)
set_option maxRecDepth 100000
def lh (s_1:ByteArray):Option (Bool) :=
 (loopF 0 (λs=>fB s_1 s)).bind λo_10=>thenC o_10 (λs_7=>(bif (sNe s_1 (⟨#[]⟩:ByteArray))then some (decide ((s_1.size:Int)<=40))else some false).bind λv_30=>some v_30) (λr=>some r)
theorem ry (s_1:ByteArray):Le (lh s_1) (iA s_1):=by
 unfold lh iA
 repeat' (with_reducible first | exact Le.refl _ | refine Le.loop (λ_ => ?_) | refine Le.forL (λ_ _ _ => ?_) | refine Le.thenC (λ_ => ?_) (λ_ => ?_) | refine Le.cond ?_ ?_ | refine Le.bind ?_ (λ_ => ?_))
def iC (l_1:(List ByteArray)) (k_2:Nat) (x_4:ByteArray) (s_7:Unit):Option (Ctl (Unit) (Int)) :=
 (lh x_4).bind λr_12=>bif (!r_12)then some (.ret 5)else (bif (decide ((k_2:Int)>0))then (idx l_1 (w64 ((k_2:Int)-1))).bind λy_18=>some (sLe x_4 y_18)else some false).bind λv_15=>bif v_15 then some (.ret 7)else some (.go ())
theorem nN (l_1:(List ByteArray)) (k_2:Nat) (x_4:ByteArray) (s_7:Unit):Le (iC l_1 k_2 x_4 s_7) (dW l_1 k_2 x_4 s_7):=by
 unfold iC dW
 repeat' (with_reducible first | exact Le.refl _ | exact ry _ | refine Le.loop (λ_ => ?_) | refine Le.forL (λ_ _ _ => ?_) | refine Le.thenC (λ_ => ?_) (λ_ => ?_) | refine Le.cond ?_ ?_ | refine Le.bind ?_ (λ_ => ?_))
def jB (l_1:(List ByteArray)):Option (Int) :=
 (forL l_1 () (λk x s=>iC l_1 k x s)).bind λo_10=>thenC o_10 (λs_7=>some 0) (λr=>some r)
theorem qA (l_1:(List ByteArray)):Le (jB l_1) (fA l_1):=by
 unfold jB fA
 repeat' (with_reducible first | exact Le.refl _ | exact nN _ _ _ _ | refine Le.loop (λ_ => ?_) | refine Le.forL (λ_ _ _ => ?_) | refine Le.thenC (λ_ => ?_) (λ_ => ?_) | refine Le.cond ?_ ?_ | refine Le.bind ?_ (λ_ => ?_))
def iV (l_1:(List ByteArray)):Option (Int) :=
 bif (decide ((l_1.length:Int)>20))then some 2 else (jB l_1).bind λr_3=>some r_3
theorem oF (l_1:(List ByteArray)):Le (iV l_1) (dP l_1):=by
 unfold iV dP
 repeat' (with_reducible first | exact Le.refl _ | exact qA _ | refine Le.loop (λ_ => ?_) | refine Le.forL (λ_ _ _ => ?_) | refine Le.thenC (λ_ => ?_) (λ_ => ?_) | refine Le.cond ?_ ?_ | refine Le.bind ?_ (λ_ => ?_))
def eP (l_1:(List Campaign)) (k_3:Nat) (x_5:Campaign) (s_8:Unit):Option (Ctl (Unit) (Int)) :=
 ((lh x_5.Key).bind λr_16=>bif (!r_16)then some true else bif (sNe x_5.Class (⟨#[]⟩:ByteArray))then (lh x_5.Class).bind λr_20=>some (!r_20)else some false).bind λv_14=>bif v_14 then some (.ret 5)else (bif (decide ((k_3:Int)>0))then (idx l_1 (w64 ((k_3:Int)-1))).bind λy_26=>some (sLe x_5.Key y_26.Key)else some false).bind λv_23=>bif v_23 then some (.ret 7)else ((fQ x_5.Time).bind λr_31=>bif (!r_31)then some true else (eG x_5.Goal 0 1000000).bind λr_34=>bif r_34 then some true else (eG x_5.Most 0 1000000).bind λr_37=>bif r_37 then some true else (eG x_5.Cents 0 1000000000).bind λr_40=>some r_40).bind λv_29=>bif v_29 then some (.ret 1)else (iV x_5.Tags).bind λr_43=>bif (r_43 != 0)then some (.ret r_43)else some (.go ())
theorem kz (l_1:(List Campaign)) (k_3:Nat) (x_5:Campaign) (s_8:Unit):Le (eP l_1 k_3 x_5 s_8) (bO l_1 k_3 x_5 s_8):=by
 unfold eP bO
 repeat' (with_reducible first | exact Le.refl _ | exact ry _ | exact oF _ | refine Le.loop (λ_ => ?_) | refine Le.forL (λ_ _ _ => ?_) | refine Le.thenC (λ_ => ?_) (λ_ => ?_) | refine Le.cond ?_ ?_ | refine Le.bind ?_ (λ_ => ?_))
def fP (l_1:(List Campaign)):Option (Int) :=
 bif (decide ((l_1.length:Int)>30))then some 2 else (forL l_1 () (λk x s=>eP l_1 k x s)).bind λo_11=>thenC o_11 (λs_8=>some 0) (λr=>some r)
theorem lU (l_1:(List Campaign)):Le (fP l_1) (aN l_1):=by
 unfold fP aN
 repeat' (with_reducible first | exact Le.refl _ | exact kz _ _ _ _ | refine Le.loop (λ_ => ?_) | refine Le.forL (λ_ _ _ => ?_) | refine Le.thenC (λ_ => ?_) (λ_ => ?_) | refine Le.cond ?_ ?_ | refine Le.bind ?_ (λ_ => ?_))
def ng (c_1:Campaign) (atv_2:Int):Option (Int×Int) :=
 (fP ([c_1]:List Campaign)).bind λr_4=>bif (r_4 != 0)then some (0,r_4)else (kR atv_2).bind λr_7=>bif (!r_7)then some (0,1)else (lV c_1 atv_2).bind λr_10=>some (r_10,0)
theorem wY (c_1:Campaign) (atv_2:Int):Le (ng c_1 atv_2) (ko c_1 atv_2):=by
 unfold ng ko
 repeat' (with_reducible first | exact Le.refl _ | exact lU _ | refine Le.loop (λ_ => ?_) | refine Le.forL (λ_ _ _ => ?_) | refine Le.thenC (λ_ => ?_) (λ_ => ?_) | refine Le.cond ?_ ?_ | refine Le.bind ?_ (λ_ => ?_))
def oG  : Option (Bool) :=
 (ng (⟨(⟨#[97]⟩:ByteArray),(⟨#[]⟩:ByteArray),(⟨0,100⟩:Window),([]:List ByteArray),10,0,0⟩:Campaign) 50).bind λr_1=>(bif (r_1.2==0)then some (r_1.1==5)else some false).bind λv_3=>some v_3
theorem xA  : Le (oG) (jA):=by
 unfold oG jA
 repeat' (with_reducible first | exact Le.refl _ | exact wY _ _ | refine Le.loop (λ_ => ?_) | refine Le.forL (λ_ _ _ => ?_) | refine Le.thenC (λ_ => ?_) (λ_ => ?_) | refine Le.cond ?_ ?_ | refine Le.bind ?_ (λ_ => ?_))
theorem El:oG=some true:=by kernel_rfl
theorem Dl:jA=some true:=xA _ El
theorem Dn (l:List UInt8) (hl:l.length<=900):∃r:List Campaign×Int×Int,ig (SB l)=some r/\dQ (SB l)=some r/\(∀e∈r.1,cO e e=some true)/\r.1.length<=1000:=by
 have hsz:decide (((SB l).size:Int)>200000)=false:=by rw [bT];exact decide_eq_false (by omega)
 obtain ⟨sz1,sz2⟩:=oh 10 l
 have hne:=vM 10 l
 have hq:∀q∈spl 10 l,q.length<=900:=λq h=>Nat.le_trans (sz2 q h) hl
 obtain ⟨m,hm⟩:=yn l.length l 0 [] (Nat.le_refl _) hl (by omega) (by simp only [List.length_nil];omega)
 have hsp:=vz 10 (s:=SB l) (by rw [bT];omega)
 rw [show (List.map (λl=>(⟨l.toArray⟩:ByteArray)) (spl 10 (SB l).data.toList))=(spl 10 l).map SB from rfl]at hsp
 have hpl:((spl 10 l).map SB).length=(spl 10 l).length:=List.length_map ..
 have hpos:0<(spl 10 l).length:=List.length_pos_iff.2 hne
 have hw:w64 ((((spl 10 l).map SB).length:Int)-1)=(((spl 10 l).length-1:Nat):Int):=by rw [hpl,gP (by omega)];omega
 obtain ⟨z,hz⟩:∃z,(spl 10 l).getLast? = some z:=⟨_,List.getLast?_eq_some_getLast hne⟩
 have hix:idx ((spl 10 l).map SB) (((spl 10 l).length-1:Nat):Int)=some (SB z):=by
  rw [y5,List.getElem?_map,<- List.getLast?_eq_getElem?,hz];rfl
 have hread:ig (SB l)=(match lns (spl 10 l) 0 []with
   | .inl i=>some ([],(i:Int),9)
   | .inr o=>(aN o).bind λr_29=>bif (r_29 != 0)then some ([],0,r_29)else some (o,0,0)):=by
  unfold ig o5
  rw [hsz,cond_false,hsp,ob_,hw,hix,ob_,zx]
  cases z with
  | nil =>
   have hdl:pK ((spl 10 l).map SB) 0 (((spl 10 l).length-1:Nat):Int)=some ((spl 10 l).dropLast.map SB):=by
    unfold pK
    rw [if_pos (by rw [hpl];omega),Int.toNat_natCast]
    congr 1
    rw [show Int.toNat 0=0 from rfl,List.drop_zero,<- List.map_take,<- List.dropLast_eq_take]
   simp only [List.isEmpty_nil,cond_true]
   rw [hdl]
   simp only [ob_]
   rw [fI (by rw [List.length_map,List.length_dropLast];omega),yh _ rfl (spl 10 l) 0 [] hne hz hq (by simp only [List.length_nil];omega)]
   cases lns (spl 10 l) 0 [] <;> rfl
  | cons z0 zs =>
   simp only [List.isEmpty_cons,cond_false,ob_]
   rw [fI (by rw [hpl];omega),vD _ rfl (by rw [hpl];omega) (spl 10 l) 0 [] hne (by rw [hz];simp) (by rw [hpl];omega) hq (by simp only [List.length_nil];omega)]
   cases lns (spl 10 l) 0 [] <;> rfl
 rw [hread]
 have e0:((0:Nat):Int)=0:=rfl
 rw [e0]at hm
 cases hr:lns (spl 10 l) 0 []with
 | inl i =>
  rw [hr]at hm
  obtain ⟨o,ho⟩:=hm
  refine⟨_,rfl,?_,(λe he=>by cases he),by simp⟩
  unfold dQ jo
  rw [hsz,cond_false,kW ho];rfl
 | inr o =>
  rw [hr]at hm
  obtain ⟨t,j,ho⟩:=hm
  obtain ⟨g1,g2⟩:=zY (spl 10 l) 0 [] o hq (λx hx=>by cases hx) hr
  simp only [List.length_nil]at g2
  have hg:∀e∈o,rA e:=λe he=>(g1 e he).1
  have hK:=EZ _ hg (by omega)
  have hR:=Ff _ hg (by omega)
  have href:dQ (SB l)=(dD o).bind λr_9=>bif (r_9 != 0)then some ([],0,r_9)else some (o,0,0):=by
   unfold dQ jo
   rw [hsz,cond_false,kW ho];rfl
  rw [href]
  simp only []
  rw [hK,hR]
  cases hb:(jI o != 0)with
  | true =>
   refine⟨([],0,jI o),?_,?_,(λe he=>by cases he),by simp⟩
   ·simp only [ob_,hb,cond_true]
   ·simp only [ob_,hb,cond_true]
  | false =>
   refine⟨(o,0,0),?_,?_,λe he=>(g1 e he).2,by show o.length<=_;omega⟩
   ·simp only [ob_,hb,cond_false]
   ·simp only [ob_,hb,cond_false]
theorem EF (l:List Campaign) (h:∀e∈l,cO e e=some true) (hl:l.length<=1000):aB l l=some true:=by
 unfold aB
 have key:∀(xs:List Campaign) (k:Nat),(∀i x,xs[i]? = some x->l[k+i]? = some x)->(∀e∈xs,cO e e=some true)->forR (λk x s=>ax l k x s) xs k ()=some (.go ()):=by
  intro xs
  induction xs with
  | nil=>exact λk _ _=>rfl
  | cons x xs ih =>
   intro k h hs
   have hk:=h 0 x rfl
   rw [Nat.add_zero]at hk
   have hstep:ax l k x ()=some (.go ()):=by
    unfold ax
    rw [y5,hk,ob_,hs x (by simp)];rfl
   rw [forR,hstep,ob_]
   exact ih (k+1) (λi y hy=>by have:=h (i+1) y hy;rw [show k+1+i=k+(i+1) by omega];exact this) (λe he=>hs e (List.mem_cons_of_mem _ he))
 rw [bne_self_eq_false,cond_false,fI (by omega),key l 0 (λi x hx=>by rw [Nat.zero_add];exact hx) h,ob_];rfl
theorem campaignTexts (l:List Int):gK l=some true:=by
 have h0:Ok (⟨l,0⟩:Stream) 0:=⟨Int.le_refl _,Int.le_refl _⟩
 obtain ⟨es,s1,a1,a2,a3,a4⟩:=zn ⟨l,0⟩ 4 (by decide) h0 (by decide)
 obtain ⟨t,b1,b2⟩:=zC s1 a2 (by decide)
 have hK:=EZ es a4 (by omega)
 have hR:=Ff es a4 (by omega)
 have htl:t.1.data.toList.length<=900:=by rw [<- Lib.size_eq];exact b2
 obtain ⟨r,c1,c2,c3,c4⟩:=Dn t.1.data.toList htl
 rw [show SB t.1.data.toList=t.1 from rfl]at c1 c2
 have heq:=EF r.1 c3 (by omega)
 have hsame:∀s:ByteArray,sEq s s=true:=λs=>(fJ _ _).2 rfl
 have htext:∃s:ByteArray,fC es=some (s,jI es)/\(bif (jI es==0)then (dz es).bind λr_16=>some r_16 else some (⟨#[]⟩:ByteArray))=some s:=by
  by_cases h:jI es=0
  ·have hc:aN es=some 0:=by rw [hK,h]
   obtain ⟨d1,d2⟩:=Fy h a3 hc
   refine⟨SB (jd es),by rw [h];exact d1,?_⟩
   rw [h,beq_self_eq_true,cond_true,d2];rfl
  ·refine⟨⟨#[]⟩,?_,?_⟩
   ·unfold fC
    rw [hK,ob_,show (jI es != 0)=true by simpa using h];rfl
   ·rw [show (jI es==0)=false by simpa using h];rfl
 obtain ⟨s,d1,d2⟩:=htext
 unfold gK
 simp only [a1,b1,d1,hR,ob_,d2,c1,c2,beq_self_eq_true,cond_true,hsame,heq,Dl]
end Go.Proofs.YtigdobmllbakiacGreatDoor.Law

