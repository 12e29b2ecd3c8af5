import Derived.Test.YtdenjndllgahgaaGreatDoorLgMark
import Derived.Lib.ItoaLen
/-
  PLAIN LEMMAS: lines of logs; checks of logs: the program's and the document's are the same.
-/
open Go Go.Eng
namespace Go.Proofs.YtdenjndllgahgaaGreatDoor.Law
set_option linter.unusedVariables false
set_option linter.unusedSimpArgs false
def Med (n:Int):Prop := -1000000000000000<=n/\n<=1000000000000000
theorem tN {n:Int} (h:Med n):strconv_Itoa n=some (BB (Go.Lib.itoa n)):=by
 unfold strconv_Itoa Bp
 unfold Med at h
 rw [if_pos ⟨by omega,by omega⟩]
theorem gZ {n:Int} (h:Med n):(Go.Lib.itoa n).length<=21:=by
 unfold Med at h
 exact Go.Lib.itoa_length_le n (by omega) (by omega)
theorem kw (l m:List UInt8) (h:l.length+m.length<=1000000000000):kQ (BB l) (BB m)=some (BB (l++m)):=by
 rw [xY (by rw [jK,jK];exact h),Au]
theorem join_le (sep:List UInt8) (m:Nat):∀(ls:List (List UInt8)),(∀x∈ls,x.length<=m)->(Go.Lib.join ls sep).length<=ls.length*(m+sep.length)
 | [],h=>by simp [Go.Lib.join_nil]
 | x::r,h=>by
  have h1:∀(r:List (List UInt8)),(∀x∈r,x.length<=m)->(Go.Lib.joinTail sep r).length<=r.length*(m+sep.length):=by
   intro r
   induction r with
   | nil=>intro _;simp [Go.Lib.joinTail]
   | cons y r ih =>
    intro hy
    have e:(Go.Lib.joinTail sep (y::r))=sep++y++Go.Lib.joinTail sep r:=by simp [Go.Lib.joinTail]
    rw [e,List.length_append,List.length_append,List.length_cons,Nat.add_mul]
    have:=ih (λx hx=>hy x (List.mem_cons_of_mem _ hx))
    have:=hy y (by simp)
    omega
  rw [Go.Lib.join_cons,List.length_append,List.length_cons,Nat.add_mul]
  have:=h1 r (λx hx=>h x (List.mem_cons_of_mem _ hx))
  have:=h x (by simp)
  omega
theorem Dr (ls:List (List UInt8)) (sep:List UInt8) (m:Nat) (h:∀x∈ls,x.length<=m) (hl:ls.length<=1000000) (hm:m+sep.length<=10000):strings_Join (ls.map BB) (BB sep)=some (BB (Go.Lib.join ls sep)):=by
 have h1:=join_le sep m ls h
 have h2:ls.length*(m+sep.length)<=1000000*10000:=Nat.mul_le_mul hl hm
 have e:(ls.map BB).map (λx=>x.data.toList)=ls:=by rw [List.map_map];exact List.map_id' ls
 unfold strings_Join BJ
 rw [e]
 have e2:(BB sep).data.toList=sep:=rfl
 rw [e2,if_pos ⟨by simp;omega,by omega⟩]
theorem si:∀(l:List Int) (k:Nat) (out:List ByteArray),(∀n∈l,Med n)->l.length+out.length<=1000000->dF (λk x s=>fu k x s) l k out=some (.go (out++l.map λn=>BB (Go.Lib.itoa n)))
 | [],k,out,h,hl=>by simp [dF]
 | n::l,k,out,h,hl=>by
  simp only [List.length_cons]at hl
  have ih:=si l (k+1) (out++[BB (Go.Lib.itoa n)]) (λx hx=>h x (List.mem_cons_of_mem _ hx)) (by simp;omega)
  have hstep:fu k n out=some (.go (out++[BB (Go.Lib.itoa n)])):=by
   unfold fu
   rw [tN (h n (by simp))]
   simp only [ob_]
   rw [mZ _ _ (by simp;omega)]
   rfl
  simp only [dF,hstep,ob_]
  rw [ih]
  simp
theorem Bl (l:List Int) (h:∀n∈l,Med n) (hl:l.length<=1000000):jT l=some (BB (Go.Lib.join (l.map Go.Lib.itoa) [32])):=by
 unfold jT
 rw [fo (by omega),si l 0 [] h (by simpa using hl)]
 simp only [ob_,gL,List.nil_append]
 have e:(l.map λn=>BB (Go.Lib.itoa n))=(l.map Go.Lib.itoa).map BB:=by rw [List.map_map];rfl
 have hj:=Dr (l.map Go.Lib.itoa) [32] 21 (λx hx=>by
  obtain ⟨n,hn,rfl⟩:=List.mem_map.1 hx
  exact gZ (h n hn)) (by simpa using hl) (by decide)
 rw [e]
 have e2:(⟨#[32]⟩:ByteArray)=BB [32]:=rfl
 rw [e2,hj]
 rfl
def dJ (x:Log_):Prop:=bN x.Player/\bN x.Item/\bN x.Sum/\Med x.No/\Med x.Clock/\Med x.Long
def r9 (x:Log_):List UInt8:=x.Player.data.toList++[32]++x.Item.data.toList++[32]++Go.Lib.itoa x.No++[32]++Go.Lib.itoa x.Clock++[32]++Go.Lib.itoa x.Long
theorem iL {s:ByteArray} (h:bN s):s.data.toList.length<=1000:=by rw [<- Go.Lib.size_eq];exact h
theorem wZ {x:Log_} (h:dJ x):(r9 x).length<=2100:=by
 obtain ⟨h1,h2,_,h4,h5,h6⟩:=h
 have:=iL h1;have:=iL h2;have:=gZ h4;have:=gZ h5;have:=gZ h6
 simp only [r9,List.length_append,List.length_cons,List.length_nil]
 omega
theorem line_eq {x:Log_} (h:dJ x):lC x=some (BB (r9 x)):=by
 obtain ⟨h1,h2,_,h4,h5,h6⟩:=h
 have l1:=iL h1;have l2:=iL h2;have l4:=gZ h4;have l5:=gZ h5;have l6:=gZ h6
 unfold lC
 rw [tN h4,tN h5,tN h6]
 rw [show x.Player=BB x.Player.data.toList from rfl,show x.Item=BB x.Item.data.toList from rfl,show (⟨#[32]⟩:ByteArray)=BB [32] from rfl]
 simp only [ob_]
 rw [kw _ _ (by simp only [List.length_append,List.length_cons,List.length_nil];omega)];simp only [ob_]
 rw [kw _ _ (by simp only [List.length_append,List.length_cons,List.length_nil];omega)];simp only [ob_]
 rw [kw _ _ (by simp only [List.length_append,List.length_cons,List.length_nil];omega)];simp only [ob_]
 rw [kw _ _ (by simp only [List.length_append,List.length_cons,List.length_nil];omega)];simp only [ob_]
 rw [kw _ _ (by simp only [List.length_append,List.length_cons,List.length_nil];omega)];simp only [ob_]
 rw [kw _ _ (by simp only [List.length_append,List.length_cons,List.length_nil];omega)];simp only [ob_]
 rw [kw _ _ (by simp only [List.length_append,List.length_cons,List.length_nil];omega)];simp only [ob_]
 rw [kw _ _ (by simp only [List.length_append,List.length_cons,List.length_nil];omega)];simp only [ob_]
 rfl
theorem Aa {x:Log_} (h:dJ x):jP x=some (BB (r9 x)):=by
 obtain ⟨h1,h2,_,h4,h5,h6⟩:=h
 have l1:=iL h1;have l2:=iL h2;have l4:=gZ h4;have l5:=gZ h5;have l6:=gZ h6
 have hn:=Bl [x.No,x.Clock,x.Long] (λn hn=>by
  simp only [List.mem_cons,List.not_mem_nil,or_false]at hn
  rcases hn with rfl|rfl|rfl
  ·exact h4
  ·exact h5
  ·exact h6) (by simp)
 have hj:Go.Lib.join ([x.No,x.Clock,x.Long].map Go.Lib.itoa) [32]=Go.Lib.itoa x.No++[32]++Go.Lib.itoa x.Clock++[32]++Go.Lib.itoa x.Long:=by
  simp [Go.Lib.join_cons,Go.Lib.joinTail]
 rw [hj]at hn
 unfold jP
 rw [hn]
 have lj:(Go.Lib.itoa x.No++[32]++Go.Lib.itoa x.Clock++[32]++Go.Lib.itoa x.Long).length<=100:=by simp only [List.length_append,List.length_cons,List.length_nil];omega
 rw [show x.Player=BB x.Player.data.toList from rfl,show x.Item=BB x.Item.data.toList from rfl,show (⟨#[32]⟩:ByteArray)=BB [32] from rfl]
 rw [kw _ _ (by simp only [List.length_append,List.length_cons,List.length_nil];omega)];simp only [ob_]
 rw [kw _ _ (by simp only [List.length_append,List.length_cons,List.length_nil];omega)];simp only [ob_]
 rw [kw _ _ (by simp only [List.length_append,List.length_cons,List.length_nil];omega)];simp only [ob_]
 rw [kw _ _ (by simp only [List.length_append,List.length_cons,List.length_nil];omega)];simp only [ob_]
 unfold r9
 simp
def mk (l:List UInt8):ByteArray:=BB (qG 16 (fnv l).toNat)
theorem mk_size (l:List UInt8):(mk l).size=16:=by unfold mk;rw [jK,y5]
theorem mE (l:List UInt8):bN (mk l):=by unfold bN;rw [mk_size];decide
theorem markP (l:List UInt8) (h:l.length<=1000000000):jq (BB l)=some (mk l):=mark_eq (BB l) (by rw [jK];exact h)
theorem D9 (l:List UInt8) (h:l.length<=1000000000):jS (BB l)=some (mk l):=Aw (BB l) (by rw [jK];exact h)
def fe (x:Log_):Int:=bif !nG x.Player then 5 else bif !nG x.Item then 5 else bif (nX x.No 1 1000000||(nX x.Clock 0 345686399999||nX x.Long 1 86400000))then 1 else 0
theorem oD {x:Log_} (h:dJ x):ed x=some (fe x):=by
 obtain ⟨h1,h2,_,_,_,_⟩:=h
 unfold bN at h1 h2
 unfold ed fe
 rw [qy x.Player (by omega),qy x.Item (by omega)]
 simp only [ob_,uq]
 cases nG x.Player <;> cases nG x.Item <;> cases nX x.No 1 1000000 <;> cases nX x.Clock 0 345686399999 <;> cases nX x.Long 1 86400000 <;> rfl
theorem qg {x:Log_} (h:dJ x):gu x=some (fe x):=by
 obtain ⟨h1,h2,_,_,_,_⟩:=h
 unfold bN at h1 h2
 unfold gu fe
 rw [wO x.Player (by omega),wO x.Item (by omega)]
 simp only [ob_,in_eq,yf,jM]
 cases nG x.Player <;> cases nG x.Item <;> cases nX x.No 1 1000000 <;> cases nX x.Clock 0 345686399999 <;> cases nX x.Long 1 86400000 <;> rfl
def CJ (b:UInt8):Bool:=pq.data.toList.contains b
theorem Df:∀n:Fin 256,kv pq (UInt8.ofNat n.val)=CJ (UInt8.ofNat n.val):=by decide +kernel
theorem yL (b:UInt8):kv pq b=CJ b:=by
 have:=Df ⟨b.toNat,b.toNat_lt⟩
 simpa using this
def oC (s:ByteArray):Bool:=(s.size==16)&&s.data.toList.all CJ
theorem CZ (s:ByteArray) (p:UInt8->Bool):((List.range s.size).all λi=>p (bQ s i))=s.data.toList.all p:=by
 rw [Bool.eq_iff_iff,List.all_eq_true,List.all_eq_true]
 constructor
 ·intro h b hb
  obtain ⟨i,hi,rfl⟩:=List.getElem_of_mem hb
  have:=h i (List.mem_range.2 (by rw [Go.Lib.size_eq];exact hi))
  simpa [bQ,List.getD,List.getElem?_eq_getElem hi]using this
 ·intro h i hi
  have hi':i<s.data.toList.length:=by rw [<- Go.Lib.size_eq];exact List.mem_range.1 hi
  have:=h _ (List.getElem_mem hi')
  simpa [bQ,List.getD,List.getElem?_eq_getElem hi']using this
theorem Dx (s:ByteArray):((s.size:Int)==16)=(s.size==16):=by
 rw [Bool.eq_iff_iff];simp only [beq_iff_eq];omega
theorem qm {s:ByteArray} (h:bN s):jB s=some (oC s):=by
 unfold bN at h
 unfold jB oC
 rw [Dx]
 have ho:=xI s pq (by omega)
 have e:(λi=>kv pq (bQ s i))=(λi=>CJ (bQ s i)):=by funext i;exact yL _
 rw [e,CZ]at ho
 have ho':jR s (⟨#[48,49,50,51,52,53,54,55,56,57,97,98,99,100,101,102]⟩:ByteArray)=some (s.data.toList.all CJ):=ho
 rw [ho']
 cases (s.size==16) <;> rfl
theorem oJ {p:UInt8->Bool}:∀(l:List UInt8),l.dropWhile p=[]↔l.all p=true
 | []=>by simp
 | x::l=>by
  rw [List.dropWhile_cons]
  cases h:p x with
  | true=>simp [h,oJ l]
  | false=>simp [h]
theorem En (l cs:List UInt8):Go.Lib.trimS l cs=[]↔l.all (cs.contains ·)=true:=by
 unfold Go.Lib.trimS Go.Lib.trimLeftS Go.Lib.trimRightS
 rw [oJ,List.all_reverse]
 constructor
 ·intro h
  have h2:(l.reverse.dropWhile (cs.contains ·))=[]:=by
   cases hd:l.reverse.dropWhile (cs.contains ·)with
   | nil=>rfl
   | cons x r =>
    rw [hd]at h
    have h3:∀(m:List UInt8),m.dropWhile (cs.contains ·)=x::r->cs.contains x=false:=by
     intro m
     induction m with
     | nil=>intro e;simp at e
     | cons y m ih =>
      intro e
      rw [List.dropWhile_cons]at e
      cases hy:cs.contains y with
      | true=>rw [hy]at e;exact ih e
      | false=>rw [hy]at e;simp only [Bool.false_eq_true,if_false,List.cons.injEq]at e;rw [<- e.1];exact hy
    have:=h3 _ hd
    simp only [List.all_cons,this,Bool.false_and,Bool.false_eq_true]at h
  rw [oJ,List.all_reverse]at h2
  exact h2
 ·intro h
  have:l.reverse.dropWhile (cs.contains ·)=[]:=by rw [oJ,List.all_reverse];exact h
  rw [this];rfl
theorem xe {s:ByteArray} (h:bN s):gQ s=some (oC s):=by
 unfold bN at h
 unfold gQ oC
 rw [Dx]
 have ht:kH s (⟨#[48,49,50,51,52,53,54,55,56,57,97,98,99,100,101,102]⟩:ByteArray)=some (BB (Go.Lib.trimS s.data.toList pq.data.toList)):=by
  unfold kH yl
  rw [if_pos ⟨by omega,by decide,by decide⟩]
  rfl
 rw [ht]
 have e:sEq (BB (Go.Lib.trimS s.data.toList pq.data.toList)) (⟨#[]⟩:ByteArray)=s.data.toList.all CJ:=by
  rw [Bool.eq_iff_iff,Bv]
  have:=En s.data.toList pq.data.toList
  constructor
  ·intro h
   apply this.1
   have:=congrArg (λx:ByteArray=>x.data.toList) h
   simpa using this
  ·intro h
   rw [this.2 h]
 simp only [ob_,e]
 cases (s.size==16) <;> rfl
def cmpL (a b:Log_):Int:=or0 (qc a.Player b.Player) (CB a.No b.No)
theorem uR (a b:Log_):eU a b=some (cmpL a b):=by
 simp only [eU,pO,wW,Ew,ob_];rfl
theorem sign_eq {a b:Int} (ha:Med a) (hb:Med b):nW (w64 (a-b))=some (CB a b):=by
 unfold Med at ha hb
 rw [dI (by omega)]
 unfold nW CB
 by_cases h1:a<b
 ·have e1:decide (a-b<0)=true:=decide_eq_true (by omega)
  simp only [e1,cond_true,if_pos h1]
 ·have e1:decide (a-b<0)=false:=decide_eq_false (by omega)
  by_cases h2:a>b
  ·have e2:decide (a-b>0)=true:=decide_eq_true (by omega)
   simp only [e1,e2,cond_true,cond_false,if_neg h1,if_pos h2]
  ·have e2:decide (a-b>0)=false:=decide_eq_false (by omega)
   simp only [e1,e2,cond_false,if_neg h1,if_neg h2]
theorem CP (a:ByteArray):qc a a=0:=by
 rcases ru a a with⟨h,_⟩|⟨_,h⟩|⟨h,_⟩
 ·exact absurd h (uN a)
 ·exact h
 ·exact absurd h (uN a)
theorem cmpB_0 {a b:ByteArray} (h:qc a b=0):a=b:=by
 rcases ru a b with⟨_,h'⟩|⟨h',_⟩|⟨_,h'⟩
 ·rw [h]at h';cases h'
 ·exact h'
 ·rw [h]at h';cases h'
theorem zG {a b:Log_} (ha:dJ a) (hb:dJ b):iZ a b=some (cmpL a b):=by
 unfold iZ cmpL or0
 rw [oI]
 by_cases h:a.Player=b.Player
 ·have e:(!decide (a.Player=b.Player))=false:=by simp [h]
  rw [e,h,CP]
  simp only [cond_false,sign_eq ha.2.2.2.1 hb.2.2.2.1,ob_]
  rfl
 ·have e:(!decide (a.Player=b.Player))=true:=by simp [h]
  have e2:(qc a.Player b.Player==0)=false:=by
   cases hc:(qc a.Player b.Player==0)with
   | false=>rfl
   | true=>exact absurd (cmpB_0 (eq_of_beq hc)) h
  rw [e,e2]
  simp only [cond_true,pO,ob_,cond_false]
def DD (p:Option Log_) (x:Log_):Int:=bif fe x != 0 then fe x else bif !oC x.Sum then 3 else match p with
 | none=>0
 | some o=>bif decide (cmpL o x>=0)then 7 else 0
def xm (l:List Log_):Int:=bif decide (l.length>2000)then 2 else yD DD none l
theorem logsK (l:List Log_) (hs:∀x∈l,dJ x) (hl:l.length<=1000000):fK l=some (xm l):=by
 unfold fK xm
 have e:decide ((l.length:Int)>2000)=decide (l.length>2000):=decide_eq_decide.2 (by omega)
 rw [e]
 cases decide (l.length>2000)with
 | true=>rfl
 | false =>
  simp only [cond_false]
  rw [fo (by omega),oQ (stp:=DD) l l 0 rfl (λk x hx => ?_)]
  ·simp only [ob_,rH];rfl
  ·have hg:=hs x (List.mem_of_getElem? hx)
   simp only [fF,oD hg,xe hg.2.2.1,ob_,DD]
   cases hf:(fe x != 0)with
   | true =>
    have:(fe x==0)=false:=by simpa using hf
    simp only [cond_true,sQ,this,cond_false]
   | false =>
   simp only [cond_false]
   cases oC x.Sum with
   | false=>rfl
   | true =>
   simp only [Bool.not_true,cond_false]
   by_cases hk0:0<k
   ·obtain ⟨y,h1,h2⟩:=qB hx hk0 (by omega)
    have hd:decide ((k:Int)>0)=true:=by simp;omega
    simp only [hd,cond_true,h1,ob_,sF,if_neg (show ¬k=0 by omega),h2,uR]
    cases decide (cmpL y x>=0) <;> rfl
   ·have hk0:k=0:=by omega
    subst hk0
    rfl
theorem logsR (l:List Log_) (hs:∀x∈l,dJ x) (hl:l.length<=1000000):ic l=some (xm l):=by
 unfold ic xm
 have e:decide ((l.length:Int)>2000)=decide (l.length>2000):=decide_eq_decide.2 (by omega)
 rw [e]
 cases decide (l.length>2000)with
 | true=>rfl
 | false =>
  simp only [cond_false]
  rw [fo (by omega),oQ (stp:=DD) l l 0 rfl (λk x hx => ?_)]
  ·simp only [ob_,rH];rfl
  ·have hg:=hs x (List.mem_of_getElem? hx)
   simp only [gP,qg hg,qm hg.2.2.1,ob_,DD]
   cases hf:(fe x != 0)with
   | true =>
    have:(fe x==0)=false:=by simpa using hf
    simp only [cond_true,sQ,this,cond_false]
   | false =>
   simp only [cond_false]
   cases oC x.Sum with
   | false=>rfl
   | true =>
   simp only [Bool.not_true,cond_false]
   by_cases hk0:0<k
   ·obtain ⟨y,h1,h2⟩:=qB hx hk0 (by omega)
    have hd:decide ((k:Int)>0)=true:=by simp;omega
    have hy:=hs y (List.mem_of_getElem? h2)
    simp only [hd,cond_true,h1,ob_,sF,if_neg (show ¬k=0 by omega),h2,zG hy hg]
    cases decide (cmpL y x>=0) <;> rfl
   ·have hk0:k=0:=by omega
    subst hk0
    rfl
end Go.Proofs.YtdenjndllgahgaaGreatDoor.Law

