import Derived.Test.YtdenjndllgahgaaGreatDoorLgMark
import Derived.Lib.ItoaLen
/-
  PLAIN LEMMAS: lines of logs; checks of logs: the program's and the document's are the same.
-/
open Go Go.Eng
namespace Go.Proofs.YtdenjndllgahgaaGreatDoor.Law
set_option linter.unusedVariables false
set_option linter.unusedSimpArgs false
def Med (n:Int):Prop := -1000000000000000<=n/\n<=1000000000000000
theorem itoa_eq {n:Int} (h:Med n):strconv_Itoa n=some (BB (Go.Lib.itoa n)):=by
 unfold strconv_Itoa DI
 unfold Med at h
 rw [if_pos ⟨by omega,by omega⟩]
theorem mD {n:Int} (h:Med n):(Go.Lib.itoa n).length<=21:=by
 unfold Med at h
 exact Go.Lib.itoa_length_le n (by omega) (by omega)
theorem yO (l m:List UInt8) (h:l.length+m.length<=1000000000000):vg (BB l) (BB m)=some (BB (l++m)):=by
 rw [DU (by rw [qg,qg];exact h),FR]
theorem join_le (sep:List UInt8) (m:Nat):∀(ls:List (List UInt8)),(∀x∈ls,x.length<=m)->(Go.Lib.join ls sep).length<=ls.length*(m+sep.length)
 | [],h=>by simp [Go.Lib.join_nil]
 | x::r,h=>by
  have h1:∀(r:List (List UInt8)),(∀x∈r,x.length<=m)->(Go.Lib.joinTail sep r).length<=r.length*(m+sep.length):=by
   intro r
   induction r with
   | nil=>intro _;simp [Go.Lib.joinTail]
   | cons y r ih =>
    intro hy
    have e:(Go.Lib.joinTail sep (y::r))=sep++y++Go.Lib.joinTail sep r:=by simp [Go.Lib.joinTail]
    rw [e,List.length_append,List.length_append,List.length_cons,Nat.add_mul]
    have:=ih (λx hx=>hy x (List.mem_cons_of_mem _ hx))
    have:=hy y (by simp)
    omega
  rw [Go.Lib.join_cons,List.length_append,List.length_cons,Nat.add_mul]
  have:=h1 r (λx hx=>h x (List.mem_cons_of_mem _ hx))
  have:=h x (by simp)
  omega
theorem Gq (ls:List (List UInt8)) (sep:List UInt8) (m:Nat) (h:∀x∈ls,x.length<=m) (hl:ls.length<=1000000) (hm:m+sep.length<=10000):strings_Join (ls.map BB) (BB sep)=some (BB (Go.Lib.join ls sep)):=by
 have h1:=join_le sep m ls h
 have h2:ls.length*(m+sep.length)<=1000000*10000:=Nat.mul_le_mul hl hm
 have e:(ls.map BB).map (λx=>x.data.toList)=ls:=by rw [List.map_map];exact List.map_id' ls
 unfold strings_Join Dx
 rw [e]
 have e2:(BB sep).data.toList=sep:=rfl
 rw [e2,if_pos ⟨by simp;omega,by omega⟩]
theorem uQ:∀(l:List Int) (k:Nat) (out:List ByteArray),(∀n∈l,Med n)->l.length+out.length<=1000000->dY (λk x s=>iy k x s) l k out=some (.go (out++l.map λn=>BB (Go.Lib.itoa n)))
 | [],k,out,h,hl=>by simp [dY]
 | n::l,k,out,h,hl=>by
  simp only [List.length_cons]at hl
  have ih:=uQ l (k+1) (out++[BB (Go.Lib.itoa n)]) (λx hx=>h x (List.mem_cons_of_mem _ hx)) (by simp;omega)
  have hstep:iy k n out=some (.go (out++[BB (Go.Lib.itoa n)])):=by
   unfold iy
   rw [itoa_eq (h n (by simp))]
   simp only [ob_]
   rw [iM _ _ (by simp;omega)]
   rfl
  simp only [dY,hstep,ob_]
  rw [ih]
  simp
theorem C9 (l:List Int) (h:∀n∈l,Med n) (hl:l.length<=1000000):lw l=some (BB (Go.Lib.join (l.map Go.Lib.itoa) [32])):=by
 unfold lw
 rw [fK (by omega),uQ l 0 [] h (by simpa using hl)]
 simp only [ob_,fo,List.nil_append]
 have e:(l.map λn=>BB (Go.Lib.itoa n))=(l.map Go.Lib.itoa).map BB:=by rw [List.map_map];rfl
 have hj:=Gq (l.map Go.Lib.itoa) [32] 21 (λx hx=>by
  obtain ⟨n,hn,rfl⟩:=List.mem_map.1 hx
  exact mD (h n hn)) (by simpa using hl) (by decide)
 rw [e]
 have e2:(⟨#[32]⟩:ByteArray)=BB [32]:=rfl
 rw [e2,hj]
 rfl
def jg (x:Log_):Prop:=eO x.Player/\eO x.Item/\eO x.Sum/\Med x.No/\Med x.Clock/\Med x.Long
def yP (x:Log_):List UInt8:=x.Player.data.toList++[32]++x.Item.data.toList++[32]++Go.Lib.itoa x.No++[32]++Go.Lib.itoa x.Clock++[32]++Go.Lib.itoa x.Long
theorem ny {s:ByteArray} (h:eO s):s.data.toList.length<=1000:=by rw [<- Go.Lib.size_eq];exact h
theorem EX {x:Log_} (h:jg x):(yP x).length<=2100:=by
 obtain ⟨h1,h2,_,h4,h5,h6⟩:=h
 have:=ny h1;have:=ny h2;have:=mD h4;have:=mD h5;have:=mD h6
 simp only [yP,List.length_append,List.length_cons,List.length_nil]
 omega
theorem Dc {x:Log_} (h:jg x):lg x=some (BB (yP x)):=by
 obtain ⟨h1,h2,_,h4,h5,h6⟩:=h
 have l1:=ny h1;have l2:=ny h2;have l4:=mD h4;have l5:=mD h5;have l6:=mD h6
 have hn:=C9 [x.No,x.Clock,x.Long] (λn hn=>by
  simp only [List.mem_cons,List.not_mem_nil,or_false]at hn
  rcases hn with rfl|rfl|rfl
  ·exact h4
  ·exact h5
  ·exact h6) (by simp)
 have hj:Go.Lib.join ([x.No,x.Clock,x.Long].map Go.Lib.itoa) [32]=Go.Lib.itoa x.No++[32]++Go.Lib.itoa x.Clock++[32]++Go.Lib.itoa x.Long:=by
  simp [Go.Lib.join_cons,Go.Lib.joinTail]
 rw [hj]at hn
 unfold lg
 rw [hn]
 have lj:(Go.Lib.itoa x.No++[32]++Go.Lib.itoa x.Clock++[32]++Go.Lib.itoa x.Long).length<=100:=by simp only [List.length_append,List.length_cons,List.length_nil];omega
 rw [show x.Player=BB x.Player.data.toList from rfl,show x.Item=BB x.Item.data.toList from rfl,show (⟨#[32]⟩:ByteArray)=BB [32] from rfl]
 rw [yO _ _ (by simp only [List.length_append,List.length_cons,List.length_nil];omega)];simp only [ob_]
 rw [yO _ _ (by simp only [List.length_append,List.length_cons,List.length_nil];omega)];simp only [ob_]
 rw [yO _ _ (by simp only [List.length_append,List.length_cons,List.length_nil];omega)];simp only [ob_]
 rw [yO _ _ (by simp only [List.length_append,List.length_cons,List.length_nil];omega)];simp only [ob_]
 unfold yP
 simp
def mk (l:List UInt8):ByteArray:=BB (CR 16 (fnv l).toNat)
theorem mk_size (l:List UInt8):(mk l).size=16:=by unfold mk;rw [qg,BX]
theorem rY (l:List UInt8):eO (mk l):=by unfold eO;rw [mk_size];decide
theorem markR (l:List UInt8) (h:l.length<=1000000000):mq (BB l)=some (mk l):=Da (BB l) (by rw [qg];exact h)
def mV (x:Log_):Int:=bif !ng x.Player then 5 else bif !ng x.Item then 5 else bif (nI x.No 1 1000000||(nI x.Clock 0 345686399999||nI x.Long 1 86400000))then 1 else 0
theorem BG {x:Log_} (h:jg x):jh x=some (mV x):=by
 obtain ⟨h1,h2,_,_,_,_⟩:=h
 unfold eO at h1 h2
 unfold jh mV
 rw [sD x.Player (by omega),sD x.Item (by omega)]
 simp only [ob_,vT]
 cases ng x.Player <;> cases ng x.Item <;> cases nI x.No 1 1000000 <;> cases nI x.Clock 0 345686399999 <;> cases nI x.Long 1 86400000 <;> rfl
theorem Cv {x:Log_} (h:jg x):lu x=some (mV x):=by
 obtain ⟨h1,h2,_,_,_,_⟩:=h
 unfold eO at h1 h2
 unfold lu mV
 rw [ug x.Player (by omega),ug x.Item (by omega)]
 simp only [ob_,in_eq,lU,momB]
 cases ng x.Player <;> cases ng x.Item <;> cases nI x.No 1 1000000 <;> cases nI x.Clock 0 345686399999 <;> cases nI x.Long 1 86400000 <;> rfl
def EE (b:UInt8):Bool:=qK.data.toList.contains b
theorem E9:∀n:Fin 256,lL qK (UInt8.ofNat n.val)=EE (UInt8.ofNat n.val):=by decide +kernel
theorem BH (b:UInt8):lL qK b=EE b:=by
 have:=E9 ⟨b.toNat,b.toNat_lt⟩
 simpa using this
def uJ (s:ByteArray):Bool:=(s.size==16)&&s.data.toList.all EE
theorem Er (s:ByteArray) (p:UInt8->Bool):((List.range s.size).all λi=>p (dX s i))=s.data.toList.all p:=by
 rw [Bool.eq_iff_iff,List.all_eq_true,List.all_eq_true]
 constructor
 ·intro h b hb
  obtain ⟨i,hi,rfl⟩:=List.getElem_of_mem hb
  have:=h i (List.mem_range.2 (by rw [Go.Lib.size_eq];exact hi))
  simpa [dX,List.getD,List.getElem?_eq_getElem hi]using this
 ·intro h i hi
  have hi':i<s.data.toList.length:=by rw [<- Go.Lib.size_eq];exact List.mem_range.1 hi
  have:=h _ (List.getElem_mem hi')
  simpa [dX,List.getD,List.getElem?_eq_getElem hi']using this
theorem Gj (s:ByteArray):((s.size:Int)==16)=(s.size==16):=by
 rw [Bool.eq_iff_iff];simp only [beq_iff_eq];omega
theorem zB {s:ByteArray} (h:eO s):ma s=some (uJ s):=by
 unfold eO at h
 unfold ma uJ
 rw [Gj]
 have ho:=Ac s qK (by omega)
 have e:(λi=>lL qK (dX s i))=(λi=>EE (dX s i)):=by funext i;exact BH _
 rw [e,Er]at ho
 have ho':lc s (⟨#[48,49,50,51,52,53,54,55,56,57,97,98,99,100,101,102]⟩:ByteArray)=some (s.data.toList.all EE):=ho
 rw [ho']
 cases (s.size==16) <;> rfl
theorem qp {p:UInt8->Bool}:∀(l:List UInt8),l.dropWhile p=[]↔l.all p=true
 | []=>by simp
 | x::l=>by
  rw [List.dropWhile_cons]
  cases h:p x with
  | true=>simp [h,qp l]
  | false=>simp [h]
theorem Ga (l cs:List UInt8):Go.Lib.trimS l cs=[]↔l.all (cs.contains ·)=true:=by
 unfold Go.Lib.trimS Go.Lib.trimLeftS Go.Lib.trimRightS
 rw [qp,List.all_reverse]
 constructor
 ·intro h
  have h2:(l.reverse.dropWhile (cs.contains ·))=[]:=by
   cases hd:l.reverse.dropWhile (cs.contains ·)with
   | nil=>rfl
   | cons x r =>
    rw [hd]at h
    have h3:∀(m:List UInt8),m.dropWhile (cs.contains ·)=x::r->cs.contains x=false:=by
     intro m
     induction m with
     | nil=>intro e;simp at e
     | cons y m ih =>
      intro e
      rw [List.dropWhile_cons]at e
      cases hy:cs.contains y with
      | true=>rw [hy]at e;exact ih e
      | false=>rw [hy]at e;simp only [Bool.false_eq_true,if_false,List.cons.injEq]at e;rw [<- e.1];exact hy
    have:=h3 _ hd
    simp only [List.all_cons,this,Bool.false_and,Bool.false_eq_true]at h
  rw [qp,List.all_reverse]at h2
  exact h2
 ·intro h
  have:l.reverse.dropWhile (cs.contains ·)=[]:=by rw [qp,List.all_reverse];exact h
  rw [this];rfl
theorem En {s:ByteArray} (h:eO s):kC s=some (uJ s):=by
 unfold eO at h
 unfold kC uJ
 rw [Gj]
 have ht:lS s (⟨#[48,49,50,51,52,53,54,55,56,57,97,98,99,100,101,102]⟩:ByteArray)=some (BB (Go.Lib.trimS s.data.toList qK.data.toList)):=by
  unfold lS zk
  rw [if_pos ⟨by omega,by decide,by decide⟩]
  rfl
 rw [ht]
 have e:sEq (BB (Go.Lib.trimS s.data.toList qK.data.toList)) (⟨#[]⟩:ByteArray)=s.data.toList.all EE:=by
  rw [Bool.eq_iff_iff,zg]
  have:=Ga s.data.toList qK.data.toList
  constructor
  ·intro h
   apply this.1
   have:=congrArg (λx:ByteArray=>x.data.toList) h
   simpa using this
  ·intro h
   rw [this.2 h]
 simp only [ob_,e]
 cases (s.size==16) <;> rfl
def cmpL (a b:Log_):Int:=or0 (mK a.Player b.Player) (zW a.No b.No)
theorem wB (a b:Log_):gN a b=some (cmpL a b):=by
 simp only [gN,oM,uu,GJ,ob_];rfl
theorem Ea {a b:Int} (ha:Med a) (hb:Med b):nV (w64 (a-b))=some (zW a b):=by
 unfold Med at ha hb
 rw [dx (by omega)]
 unfold nV zW
 by_cases h1:a<b
 ·have e1:decide (a-b<0)=true:=decide_eq_true (by omega)
  simp only [e1,cond_true,if_pos h1]
 ·have e1:decide (a-b<0)=false:=decide_eq_false (by omega)
  by_cases h2:a>b
  ·have e2:decide (a-b>0)=true:=decide_eq_true (by omega)
   simp only [e1,e2,cond_true,cond_false,if_neg h1,if_pos h2]
  ·have e2:decide (a-b>0)=false:=decide_eq_false (by omega)
   simp only [e1,e2,cond_false,if_neg h1,if_neg h2]
theorem zf (a:ByteArray):mK a a=0:=by
 rcases nY a a with⟨h,_⟩|⟨_,h⟩|⟨h,_⟩
 ·exact absurd h (jS a)
 ·exact h
 ·exact absurd h (jS a)
theorem cmpB_0 {a b:ByteArray} (h:mK a b=0):a=b:=by
 rcases nY a b with⟨_,h'⟩|⟨h',_⟩|⟨_,h'⟩
 ·rw [h]at h';cases h'
 ·exact h'
 ·rw [h]at h';cases h'
theorem Bz {a b:Log_} (ha:jg a) (hb:jg b):kG a b=some (cmpL a b):=by
 unfold kG cmpL or0
 rw [vK]
 by_cases h:a.Player=b.Player
 ·have e:(!decide (a.Player=b.Player))=false:=by simp [h]
  rw [e,h,zf]
  simp only [cond_false,Ea ha.2.2.2.1 hb.2.2.2.1,ob_]
  rfl
 ·have e:(!decide (a.Player=b.Player))=true:=by simp [h]
  have e2:(mK a.Player b.Player==0)=false:=by
   cases hc:(mK a.Player b.Player==0)with
   | false=>rfl
   | true=>exact absurd (cmpB_0 (eq_of_beq hc)) h
  rw [e,e2]
  simp only [cond_true,oM,ob_,cond_false]
def BN (p:Option Log_) (x:Log_):Int:=bif mV x != 0 then mV x else bif !uJ x.Sum then 3 else match p with
 | none=>0
 | some o=>bif decide (cmpL o x>=0)then 7 else 0
def mX (l:List Log_):Int:=bif decide (l.length>2000)then 2 else x9 BN none l
theorem logsK (l:List Log_) (hs:∀x∈l,jg x) (hl:l.length<=1000000):gz l=some (mX l):=by
 unfold gz mX
 have e:decide ((l.length:Int)>2000)=decide (l.length>2000):=decide_eq_decide.2 (by omega)
 rw [e]
 cases decide (l.length>2000)with
 | true=>rfl
 | false =>
  simp only [cond_false]
  rw [fK (by omega),nL (stp:=BN) l l 0 rfl (λk x hx => ?_)]
  ·simp only [ob_,ql];rfl
  ·have hg:=hs x (List.mem_of_getElem? hx)
   simp only [iH,BG hg,En hg.2.2.1,ob_,BN]
   cases hf:(mV x != 0)with
   | true =>
    have:(mV x==0)=false:=by simpa using hf
    simp only [cond_true,o7,this,cond_false]
   | false =>
   simp only [cond_false]
   cases uJ x.Sum with
   | false=>rfl
   | true =>
   simp only [Bool.not_true,cond_false]
   by_cases hk0:0<k
   ·obtain ⟨y,h1,h2⟩:=sO hx hk0 (by omega)
    have hd:decide ((k:Int)>0)=true:=by simp;omega
    simp only [hd,cond_true,h1,ob_,rZ,if_neg (show ¬k=0 by omega),h2,wB]
    cases decide (cmpL y x>=0) <;> rfl
   ·have hk0:k=0:=by omega
    subst hk0
    rfl
theorem logsR (l:List Log_) (hs:∀x∈l,jg x) (hl:l.length<=1000000):jI l=some (mX l):=by
 unfold jI mX
 have e:decide ((l.length:Int)>2000)=decide (l.length>2000):=decide_eq_decide.2 (by omega)
 rw [e]
 cases decide (l.length>2000)with
 | true=>rfl
 | false =>
  simp only [cond_false]
  rw [fK (by omega),nL (stp:=BN) l l 0 rfl (λk x hx => ?_)]
  ·simp only [ob_,ql];rfl
  ·have hg:=hs x (List.mem_of_getElem? hx)
   simp only [jq,Cv hg,zB hg.2.2.1,ob_,BN]
   cases hf:(mV x != 0)with
   | true =>
    have:(mV x==0)=false:=by simpa using hf
    simp only [cond_true,o7,this,cond_false]
   | false =>
   simp only [cond_false]
   cases uJ x.Sum with
   | false=>rfl
   | true =>
   simp only [Bool.not_true,cond_false]
   by_cases hk0:0<k
   ·obtain ⟨y,h1,h2⟩:=sO hx hk0 (by omega)
    have hd:decide ((k:Int)>0)=true:=by simp;omega
    have hy:=hs y (List.mem_of_getElem? h2)
    simp only [hd,cond_true,h1,ob_,rZ,if_neg (show ¬k=0 by omega),h2,Bz hy hg]
    cases decide (cmpL y x>=0) <;> rfl
   ·have hk0:k=0:=by omega
    subst hk0
    rfl
end Go.Proofs.YtdenjndllgahgaaGreatDoor.Law

