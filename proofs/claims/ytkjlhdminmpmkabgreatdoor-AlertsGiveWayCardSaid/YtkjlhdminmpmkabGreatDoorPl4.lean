/-
  THE PLAIN LAW (part 4).
-/
import Derived.Test.YtkjlhdminmpmkabGreatDoorPl3
import Derived.Lib.ItoaLen
open Go Go.Eng
namespace Go.Proofs.YtkjlhdminmpmkabGreatDoor.Law
set_option linter.unusedVariables false
set_option linter.unusedSimpArgs false
abbrev SB (l:List UInt8):ByteArray:=⟨l.toArray⟩
theorem sb_of (s:ByteArray):SB s.data.toList=s:=rfl
theorem sb_inj {l m:List UInt8} (h:SB l=SB m):l=m:=by
 have:=congrArg (λs:ByteArray=>s.data.toList) h
 simpa using this
theorem IY {a b:ByteArray} (h:a.data.toList=b.data.toList):a=b:=by rw [<- sb_of a,<- sb_of b,h]
def Med (n:Int):Prop := -1000000000000000<=n/\n<=1000000000000000
theorem itoa_eq {n:Int} (h:Med n):strconv_Itoa n=some (SB (Go.Lib.itoa n)):=by
 unfold strconv_Itoa Nf
 unfold Med at h
 rw [if_pos ⟨by omega,by omega⟩]
theorem Kb {n:Int} (h:Med n):(Go.Lib.itoa n).length<=21:=by
 unfold Med at h
 exact Go.Lib.itoa_length_le n (by omega) (by omega)
theorem EJ (sep y:List UInt8) (r:List (List UInt8)):Go.Lib.joinTail sep (y::r)=sep++y++Go.Lib.joinTail sep r:=by simp [Go.Lib.joinTail]
theorem Ky (sep:List UInt8) (m:Nat):∀(r:List (List UInt8)),(∀x∈r,x.length<=m)->(Go.Lib.joinTail sep r).length<=r.length*(m+sep.length)
 | [],_=>by simp [Go.Lib.joinTail]
 | y::r,hy=>by
  rw [EJ,List.length_append,List.length_append,List.length_cons,Nat.add_mul]
  have:=Ky sep m r (λx hx=>hy x (List.mem_cons_of_mem _ hx))
  have:=hy y (by simp)
  omega
theorem MV (sep:List UInt8) (m:Nat):∀(ls:List (List UInt8)),(∀x∈ls,x.length<=m)->(Go.Lib.join ls sep).length<=ls.length*(m+sep.length)
 | [],h=>by simp [Go.Lib.join_nil]
 | x::r,h=>by
  rw [Go.Lib.join_cons,List.length_append,List.length_cons,Nat.add_mul]
  have:=Ky sep m r (λx hx=>h x (List.mem_cons_of_mem _ hx))
  have:=h x (by simp)
  omega
theorem OQ (ls:List (List UInt8)) (sep:List UInt8) (m:Nat) (h:∀x∈ls,x.length<=m) (hl:ls.length<=1000000) (hm:m+sep.length<=10000):strings_Join (ls.map SB) (SB sep)=some (SB (Go.Lib.join ls sep)):=by
 have h1:=MV sep m ls h
 have h2:ls.length*(m+sep.length)<=1000000*10000:=Nat.mul_le_mul hl hm
 have e:(ls.map SB).map (λx=>x.data.toList)=ls:=by rw [List.map_map];exact List.map_id' ls
 unfold strings_Join Mw
 rw [e]
 have e2:(SB sep).data.toList=sep:=rfl
 rw [e2,if_pos ⟨by simp;omega,by omega⟩]
theorem De:∀(l:List Int) (k:Nat) (out:List ByteArray),(∀n∈l,Med n)->l.length+out.length<=1000000->forR (λk x s=>kZ k x s) l k out=some (.go (out++l.map λn=>SB (Go.Lib.itoa n)))
 | [],k,out,h,hl=>by simp [forR]
 | n::l,k,out,h,hl=>by
  simp only [List.length_cons]at hl
  have ih:=De l (k+1) (out++[SB (Go.Lib.itoa n)]) (λx hx=>h x (List.mem_cons_of_mem _ hx)) (by simp;omega)
  have hstep:kZ k n out=some (.go (out++[SB (Go.Lib.itoa n)])):=by
   unfold kZ
   rw [itoa_eq (h n (by simp))]
   simp only [ob_]
   rw [kr _ _ (by simp;omega)]
   rfl
  simp only [forR,hstep,ob_]
  rw [ih]
  simp
theorem E5 (l:List Int) (h:∀n∈l,Med n) (hl:l.length<=1000000):mD l=some (SB (Go.Lib.join (l.map Go.Lib.itoa) [32])):=by
 unfold mD
 rw [iX (by omega),De l 0 [] h (by simpa using hl)]
 simp only [ob_,lU,List.nil_append]
 have e:(l.map λn=>SB (Go.Lib.itoa n))=(l.map Go.Lib.itoa).map SB:=by rw [List.map_map];rfl
 rw [e,OQ _ [32] 21 (λx hx=>by
  obtain ⟨n,hn,rfl⟩:=List.mem_map.1 hx
  exact Kb (h n hn)) (by simpa using hl) (by decide)]
 rfl
def HZ (b:UInt8):Bool:=decide (48<=b.toNat)&&decide (b.toNat<=57)
def numOf (l:List UInt8):Nat:=l.foldl (λa b=>a*10+(b.toNat-48)) 0
theorem DW {n:Nat} (h:n<10):(UInt8.ofNat (48+n)).toNat=48+n:=by
 rw [UInt8.toNat_ofNat',Nat.mod_eq_of_lt (by omega)]
theorem ED {u:Nat} (h:u<10):Go.Lib.decDigits u=[UInt8.ofNat (48+u)]:=by rw [Go.Lib.decDigits,dif_pos h]
theorem Jk {u:Nat} (h:¬u<10):Go.Lib.decDigits u=Go.Lib.decDigits (u / 10)++[UInt8.ofNat (48+u % 10)]:=by rw [Go.Lib.decDigits,dif_neg h]
theorem AL (u:Nat):(Go.Lib.decDigits u).all HZ=true:=by
 induction u using Nat.strongRecOn with
 | ind u ih =>
  by_cases h:u<10
  ·rw [ED h]
   have:=DW h
   simp only [List.all_cons,List.all_nil,Bool.and_true,HZ,this,Bool.and_eq_true,decide_eq_true_eq]
   omega
  ·rw [Jk h,List.all_append,ih (u / 10) (by omega)]
   have:=DW (show u % 10<10 by omega)
   simp only [List.all_cons,List.all_nil,Bool.and_true,Bool.true_and,HZ,this,Bool.and_eq_true,decide_eq_true_eq]
   omega
theorem Gq (u:Nat):numOf (Go.Lib.decDigits u)=u:=by
 induction u using Nat.strongRecOn with
 | ind u ih =>
  by_cases h:u<10
  ·rw [ED h]
   have:=DW h
   simp only [numOf,List.foldl_cons,List.foldl_nil,this]
   omega
  ·rw [Jk h]
   have:=DW (show u % 10<10 by omega)
   have h2:=ih (u / 10) (by omega)
   unfold numOf at h2 ⊢
   rw [List.foldl_append,h2]
   simp only [List.foldl_cons,List.foldl_nil,this]
   omega
theorem KG {u v:Nat} (h:Go.Lib.decDigits u=Go.Lib.decDigits v):u=v:=by rw [<- Gq u,<- Gq v,h]
theorem Jt {n:Int} (h:0<=n):Go.Lib.itoa n=Go.Lib.decDigits n.toNat:=by unfold Go.Lib.itoa;rw [if_neg (by omega)]
theorem Oa {n m:Int} (hn:0<=n) (hm:0<=m) (h:Go.Lib.itoa n=Go.Lib.itoa m):n=m:=by
 rw [Jt hn,Jt hm]at h
 have:=KG h
 omega
theorem Ik {c:UInt8} (hc:HZ c=false) {l:List UInt8} (h:l.all HZ=true):c∉l:=λhm=>by
 have:=List.all_eq_true.1 h c hm
 rw [hc]at this;cases this
theorem itoa_no {n:Int} (hn:0<=n) {c:UInt8} (hc:HZ c=false):c∉Go.Lib.itoa n:=by rw [Jt hn];exact Ik hc (AL _)
theorem uE {c:UInt8}:∀{a b x y:List UInt8},c∉a->c∉b->a++c::x=b++c::y->a=b/\x=y
 | [],[],x,y,_,_,h=>⟨rfl,by simpa using h⟩
 | [],b::bs,x,y,_,hb,h=>by
  simp only [List.nil_append,List.cons_append,List.cons.injEq]at h
  exact absurd (List.mem_cons.2 (.inl h.1)) hb
 | a::r,[],x,y,ha,_,h=>by
  simp only [List.nil_append,List.cons_append,List.cons.injEq]at h
  exact absurd (List.mem_cons.2 (.inl h.1.symm)) ha
 | a::r,b::bs,x,y,ha,hb,h=>by
  simp only [List.cons_append,List.cons.injEq]at h
  obtain ⟨h1,h2⟩:=uE (λhm=>ha (List.mem_cons_of_mem _ hm)) (λhm=>hb (List.mem_cons_of_mem _ hm)) h.2
  exact⟨by rw [h.1,h1],h2⟩
theorem key_all {s:ByteArray} (h:keyB s=true):∀b∈s.data.toList,okB 1 b=true:=λb hb=>by
 simp only [keyB,Bool.and_eq_true,List.all_eq_true]at h
 obtain ⟨i,hi,rfl⟩:=List.getElem_of_mem hb
 have hs:i<s.size:=by rw [Go.Lib.size_eq];exact hi
 have:=h.2.2 i (by simpa using hs)
 have e:rD s i=s.data.toList[i]:=by
  simp only [rD,List.getD_eq_getElem?_getD,List.getElem?_eq_getElem hi,Option.getD_some]
 rw [e]at this
 simp only [okB,Bool.or_eq_true,Bool.and_eq_true]at this ⊢
 rcases this with k|k
 ·exact .inl k
 ·exact .inr ⟨by decide,k.2⟩
theorem Cr {s:ByteArray} (h:keyB s=true) {c:UInt8} (hc:okB 1 c=false):c∉s.data.toList:=λhm=>by
 have:=key_all h c hm
 rw [hc]at this;cases this
theorem sb_app (l m:List UInt8):SB l++SB m=SB (l++m):=by
 apply AY;rw [toL,toL];simp
theorem Nb (l:List UInt8):(SB l).size=l.length:=by show l.toArray.size=_;simp
theorem vX (l m:List UInt8) (h:l.length+m.length<=1000000000000):nR (SB l) (SB m)=some (SB (l++m)):=by
 rw [<- sb_app]
 unfold nR
 rw [if_neg]
 have:IntKind.i64.max=9223372036854775807:=by decide
 rw [this,Nb,Nb];omega
theorem itoa_neg {n:Int} (h:n<0):Go.Lib.itoa n=45::Go.Lib.decDigits n.natAbs:=by unfold Go.Lib.itoa;rw [if_pos h]
theorem JU {n m:Int} (h:Go.Lib.itoa n=Go.Lib.itoa m):n=m:=by
 have h45:HZ 45=false:=by decide
 by_cases hn:0<=n <;> by_cases hm:0<=m
 ·exact Oa hn hm h
 ·rw [Jt hn,itoa_neg (show m<0 by omega)]at h
  exact absurd (by rw [h];simp) (Ik h45 (AL n.toNat))
 ·rw [Jt hm,itoa_neg (show n<0 by omega)]at h
  exact absurd (by rw [<- h];simp) (Ik h45 (AL m.toNat))
 ·rw [itoa_neg (show n<0 by omega),itoa_neg (show m<0 by omega),List.cons.injEq]at h
  have:=KG h.2
  omega
theorem AQ (n:Int) {c:UInt8} (hc:HZ c=false) (h45:c≠45):c∉Go.Lib.itoa n:=by
 by_cases hn:0<=n
 ·exact itoa_no hn hc
 ·rw [itoa_neg (show n<0 by omega)]
  intro hm
  rcases List.mem_cons.1 hm with h|h
  ·exact h45 h
  ·exact Ik hc (AL _) h
theorem join2' (x y:List UInt8) (r:List (List UInt8)) (sep:List UInt8):Go.Lib.join (x::y::r) sep=x++(sep++Go.Lib.join (y::r) sep):=by
 rw [Go.Lib.join_cons,EJ,Go.Lib.join_cons,List.append_assoc]
theorem Mr (n m:Int) (r:List Int):Go.Lib.join ((n::m::r).map Go.Lib.itoa) [32]=Go.Lib.itoa n++32::Go.Lib.join ((m::r).map Go.Lib.itoa) [32]:=by
 simp only [List.map_cons,join2'];rfl
theorem Cb:∀{l m:List Int},l.length=m.length->Go.Lib.join (l.map Go.Lib.itoa) [32]=Go.Lib.join (m.map Go.Lib.itoa) [32]->l=m
 | [],[],_,_=>rfl
 | [n],[m],_,h=>by
  simp only [List.map_cons,List.map_nil,Go.Lib.join_one]at h
  rw [JU h]
 | n::n2::l,m::m2::r,hl,h=>by
  rw [Mr,Mr]at h
  obtain ⟨h1,h2⟩:=uE (AQ n (by decide) (by decide)) (AQ m (by decide) (by decide)) h
  rw [JU h1,Cb (l:=n2::l) (m:=m2::r) (by simpa using hl) h2]
 | [],_::_,hl,_=>by simp at hl
 | _::_,[],hl,_=>by simp at hl
 | [_],_::_::_,hl,_=>by simp at hl
 | _::_::_,[_],hl,_=>by simp at hl
theorem Av {c:UInt8} (hc:HZ c=false) (h45:c≠45) (h32:c≠32):∀l:List Int,c∉Go.Lib.join (l.map Go.Lib.itoa) [32]
 | []=>by simp [Go.Lib.join_nil]
 | [n]=>by
  simp only [List.map_cons,List.map_nil,Go.Lib.join_one]
  exact AQ n hc h45
 | n::m::r=>by
  rw [Mr]
  intro h
  rcases List.mem_append.1 h with h|h
  ·exact AQ n hc h45 h
  ·rcases List.mem_cons.1 h with h|h
   ·exact h32 h
   ·exact Av hc h45 h32 (m::r) h
theorem D5 (l:List Int) (h:∀n∈l,Med n):(Go.Lib.join (l.map Go.Lib.itoa) [32]).length<=l.length*22:=by
 have:=MV [32] 21 (l.map Go.Lib.itoa) (λx hx=>by
  obtain ⟨n,hn,rfl⟩:=List.mem_map.1 hx
  exact Kb (h n hn))
 simpa using this
set_option maxRecDepth 100000
def poL:List ByteArray:=[⟨#[112,97]⟩,⟨#[112,98]⟩,⟨#[112,99]⟩]
theorem P7:poL.Pairwise lt:=by
 unfold poL
 simp only [List.pairwise_cons,List.mem_cons,List.not_mem_nil,or_false,forall_eq_or_imp,forall_eq]
 exact⟨⟨iG (by kernel_rfl),iG (by kernel_rfl)⟩,iG (by kernel_rfl),λa h=>(by cases h),List.Pairwise.nil⟩
structure RPosts (l:List Post):Prop where
 right:∀p∈l,RightPo p
 sub:(l.map (·.Player)).Sublist poL
theorem RPosts.rise {l:List Post} (h:RPosts l):(l.map (·.Player)).Pairwise lt:=P7.sublist h.sub
theorem RPosts.len {l:List Post} (h:RPosts l):l.length<=3:=by
 have h1:=h.sub.length_le
 rw [List.length_map]at h1
 exact h1
def ShA (s:ByteArray):Prop:=s.size<=1000
theorem DI {s:ByteArray} (h:Nat.ble s.size 1000=true):ShA s:=Nat.le_of_ble_eq_true h
def txtL:List ByteArray:=[⟨#[]⟩,overS,floodS,mallS,⟨#[32,120]⟩,⟨#[97,32,32,98]⟩,⟨#[10]⟩,⟨#[255]⟩]
structure GA (x:Alert):Prop where
 id:ShA x.Id
 sender:ShA x.Sender
 refs:∀r∈x.Refs,ShA r
 rlen:x.Refs.length<=5
 alen:x.Areas.length<=2
 at_ : -1100000000000<=x.At/\x.At<=1100000000000
 until_ : -1100000000000<=x.Until/\x.Until<=1100000000000
 text:x.Text∈txtL
theorem RightA.ga {x:Alert} (h:RightA x):GA x:=by
 have h1:=h.at_
 have h2:=h.until_
 refine⟨(MX _ h.id).2 |> DI,?_,λr hr => ?_,h.refsLen,h.alen,by omega,by omega,?_⟩
 ·rcases h.sender with e|e <;> rw [e] <;> exact DI rfl
 ·rcases h.refs with hs|hs
  ·exact DI (KN r (hs.subset hr)).2
  ·rw [hs]at hr;rw [List.mem_singleton.1 hr];exact DI rfl
 ·unfold txtL
  rcases h.text with e|e|⟨_,e|e⟩ <;> rw [e] <;> simp
theorem uw {α:Type} {xs:List α} {i:Nat} {a:α} (h:i<xs.length):(xs.set i a)[i]? = some a:=by simp [h]
structure GP (p:Post):Prop where
 player:ShA p.Player
def chA {α:Type} (stp:Option α->α->Int):Option α->List α->Int
 | _,[]=>0
 | p,x::l=>bif stp p x==0 then chA stp (some x) l else stp p x
def ut {α:Type} (l:List α) (k:Nat):Option α:=if k=0 then none else l[k-1]?
theorem Ji {α:Type} {stp:Option α->α->Int} {body:Nat->α->Unit->Option (Ctl Unit Int)} (l:List α):∀(xs:List α) (k:Nat),l.drop k=xs->(∀k x,l[k]? = some x->body k x ()=some (Co (stp (ut l k) x)))->forR body xs k ()=some (Co (chA stp (ut l k) xs))
 | [],k,_,_=>rfl
 | x::xs,k,hd,h=>by
  have hx:=AO hd
  have hp:ut l (k+1)=some x:=by unfold ut;rw [if_neg (by omega)];exact hx
  rw [forR,h k x hx,ob_,chA]
  cases hs:stp (ut l k) x==0 with
  | true =>
   have e:Co (stp (ut l k) x) = .go ():=by unfold Co;rw [hs];rfl
   rw [e,cond_true,<- hp]
   exact Ji l xs (k+1) (aR hd) h
  | false =>
   have e:Co (stp (ut l k) x) = .ret (stp (ut l k) x):=by unfold Co;rw [hs];rfl
   rw [e,cond_false,e]
theorem Nj {α:Type} {stp:Option α->α->Int} {body:Nat->α->Unit->Option (Ctl Unit Int)} {l:List α} (hl:l.length<=1000000) (h:∀k x,l[k]? = some x->body k x ()=some (Co (stp (ut l k) x))):forL l () body=some (Co (chA stp none l)):=by
 rw [iX (by omega)]
 exact Ji l l 0 rfl h
theorem PP {α:Type} {stp:Option α->α->Int}:∀{l:List α} {p:Option α},chA stp p l=0->∀(i:Nat) (x:α),l[i]? = some x->∃q,stp q x=0/\(i=0->q=p)/\(0<i->q=l[i-1]?)
 | [],p,_,i,x,hx=>by simp at hx
 | y::l,p,h,i,x,hx=>by
  rw [chA]at h
  cases hs:stp p y==0 with
  | false=>rw [hs,cond_false]at h;rw [h]at hs;exact absurd hs (by decide)
  | true =>
   rw [hs,cond_true]at h
   cases i with
   | zero =>
    rw [List.getElem?_cons_zero,so_]at hx
    exact⟨p,by rw [<- hx];exact eq_of_beq hs,λ_=>rfl,λh=>absurd h (Nat.lt_irrefl _)⟩
   | succ i =>
    rw [List.getElem?_cons_succ]at hx
    obtain ⟨q,q1,q2,q3⟩:=PP h i x hx
    refine⟨q,q1,λh=>absurd h (by omega),λ_ => ?_⟩
    cases i with
    | zero=>rw [q2 rfl];rfl
    | succ i=>rw [q3 (by omega)];simp
theorem FM (e:Int):(e=0/\Co e = .go ())\/(e≠0/\Co e = .ret e):=by
 unfold Co
 by_cases h:e=0
 ·subst h;exact .inl ⟨rfl,rfl⟩
 ·have:(e==0)=false:=by simpa using h
  rw [this];exact .inr ⟨h,rfl⟩
def rM (s:ByteArray):Bool:=decide (s=⟨#[]⟩)||(decide (s=overS)||(decide (s=floodS)||decide (s=mallS)))
theorem Ot:∀s∈txtL,lw s=some (rM s)/\True:=by
 intro s hs
 unfold txtL at hs
 simp only [List.mem_cons,List.not_mem_nil,or_false]at hs
 rcases hs with rfl|rfl|rfl|rfl|rfl|rfl|rfl|rfl
 ·exact⟨dJ _ _ (show dW ⟨#[]⟩=some (rM ⟨#[]⟩) by kernel_rfl),trivial⟩
 ·exact⟨dJ _ _ (show dW overS=some (rM overS) by kernel_rfl),trivial⟩
 ·exact⟨dJ _ _ (show dW floodS=some (rM floodS) by kernel_rfl),trivial⟩
 ·exact⟨dJ _ _ (show dW mallS=some (rM mallS) by kernel_rfl),trivial⟩
 ·exact⟨dJ _ _ (show dW ⟨#[32,120]⟩=some (rM ⟨#[32,120]⟩) by kernel_rfl),trivial⟩
 ·exact⟨dJ _ _ (show dW ⟨#[97,32,32,98]⟩=some (rM ⟨#[97,32,32,98]⟩) by kernel_rfl),trivial⟩
 ·exact⟨dJ _ _ (show dW ⟨#[10]⟩=some (rM ⟨#[10]⟩) by kernel_rfl),trivial⟩
 ·exact⟨dJ _ _ (show dW ⟨#[255]⟩=some (rM ⟨#[255]⟩) by kernel_rfl),trivial⟩
theorem Kq:∀s∈txtL,s.size<=16:=by
 intro s hs
 unfold txtL at hs
 simp only [List.mem_cons,List.not_mem_nil,or_false]at hs
 rcases hs with rfl|rfl|rfl|rfl|rfl|rfl|rfl|rfl <;> decide
def OV {α:Type} (f:α->Bool):Option α->Bool
 | some y=>f y
 | none=>false
def zQ (id:ByteArray) (p:Option ByteArray) (r:ByteArray):Int:=bif !keyB r then 5 else bif OV (λq=>sLe r q) p then 7 else bif sEq r id then 14 else 0
def xe (_:Option Rect) (r:Rect):Int:=bif I6 r then 1 else 0
theorem NV {α β:Type} {l:List α} {k:Nat} {x:α} (h:l[k]? = some x) (hl:l.length<=1000000) (g:α->Option Bool) (f:α->Bool) (hg:∀y,g y=some (f y)):(bif (decide ((k:Int)>0))then (idx l (w64 ((k:Int)-1))).bind g else some false)=some (OV f (ut l k)):=by
 rcases Nat.eq_zero_or_pos k with h0|h0
 ·subst h0
  rw [decide_eq_false (by omega)];rfl
 ·obtain ⟨y,q1,q2⟩:=EE h h0 (by omega)
  rw [decide_eq_true (by omega),cond_true,q1,ob_,hg]
  unfold ut
  rw [if_neg (by omega),q2];rfl
theorem La (x:Alert) (h:GA x):∀k r,x.Refs[k]? = some r->dQ x k r ()=some (Co (zQ x.Id (ut x.Refs k) r)):=λk r hr=>by
 have hl:=h.rlen
 have hs:=h.refs r (List.mem_of_getElem? hr)
 unfold ShA at hs
 unfold dQ
 rw [ve r (by omega),NV (β:=Unit) hr (by omega) (λy_20=>some (sLe r y_20)) (λy=>sLe r y) (λ_=>rfl),ob_,ob_]
 unfold zQ
 cases keyB r with
 | false=>rfl
 | true =>
  cases OV (λq=>sLe r q) (ut x.Refs k)with
  | true=>rfl
  | false=>cases sEq r x.Id <;> rfl
theorem Lj (x:Alert):∀k r,x.Areas[k]? = some r->dU k r ()=some (Co (xe (ut x.Areas k) r)):=λk r hr=>by
 unfold dU xe
 rw [A7]
 cases I6 r <;> rfl
def rfV (x:Alert):Int:=chA (zQ x.Id) none x.Refs
def arV (x:Alert):Int:=chA xe none x.Areas
def fmV (x:Alert):Bool := !((x.Kind==1)==((x.Refs.length:Int)==0))
def agV (x:Alert):Bool := !zS x.At||(o6 x.Until (x.At+1) (x.At+2592000000)||o6 x.Weight 1 9)
def txV (x:Alert):Bool := !rM x.Text||(sEq x.Text ⟨#[]⟩ && !(x.Kind==3))
def cnV (x:Alert):Bool := !((x.Kind==3)==((x.Areas.length:Int)==0))
def alF (x:Alert):Int:=bif !keyB x.Id || !keyB x.Sender then 5 else bif o6 x.Kind 1 3 then 4 else bif rfV x==0 then (bif fmV x then 3 else bif agV x then 1 else bif arV x==0 then (bif cnV x then 3 else bif txV x then 3 else 0)else arV x)else rfV x
theorem alF_K {x:Alert} (h:GA x):fO x=some (alF x):=by
 have h1:=h.id
 have h2:=h.sender
 have h3:=h.at_
 have h4:=h.rlen
 have h5:=h.alen
 have h6:=Kq _ h.text
 unfold ShA at h1 h2
 have hrf:gN x=some (bif rfV x==0 then (bif fmV x then 3 else 0)else rfV x):=by
  unfold gN
  rw [decide_eq_false (by omega),cond_false,Nj (stp:=zQ x.Id) (body:=λk r s=>dQ x k r s) (by omega) (La x h)]
  unfold rfV fmV
  rcases FM (chA (zQ x.Id) none x.Refs)with⟨e1,e2⟩|⟨e1,e2⟩
  ·rw [e2,e1]
   simp only [ob_,thenC]
   cases (!((x.Kind==1)==((x.Refs.length:Int)==0))) <;> rfl
  ·have:(chA (zQ x.Id) none x.Refs==0)=false:=by simpa using e1
   rw [e2,this];rfl
 unfold fO alF
 rw [ve _ (by omega),ve _ (by omega),hrf,tC,yL,jl (n:=x.At+1) (by omega),jl (n:=x.At+2592000000) (by omega),tC,tC,(Ot _ h.text).1,decide_eq_false (show ¬(x.Areas.length:Int)>20 by omega),decide_eq_false (show ¬(x.Text.size:Int)>500 by omega)]
 rw [Nj (stp:=xe) (body:=λk r s=>dU k r s) (by omega) (Lj x)]
 have ek:(bif !keyB x.Id then some true else some (!keyB x.Sender))=some (!keyB x.Id || !keyB x.Sender):=by cases keyB x.Id <;> rfl
 have ea:((some (zS x.At)).bind λr_19=>bif (!r_19)then some true else (some (o6 x.Until (x.At+1) (x.At+2592000000))).bind λr_22=>bif r_22 then some true else (some (o6 x.Weight 1 9)).bind λr_25=>some r_25)=some (agV x):=by
  unfold agV
  cases zS x.At <;> cases o6 x.Until (x.At+1) (x.At+2592000000) <;> rfl
 have et:((some (rM x.Text)).bind λr_47=>bif (!r_47)then some true else bif (sEq x.Text (⟨#[]⟩:ByteArray))then some (!(x.Kind==3))else some false)=some (txV x):=by
  unfold txV
  cases rM x.Text <;> cases sEq x.Text ⟨#[]⟩ <;> rfl
 have ec:(!((x.Kind==3)==((x.Areas.length:Int)==0)))=cnV x:=rfl
 rw [ea,et,ec]
 simp only [ob_]
 rw [ek]
 simp only [ob_]
 cases (!keyB x.Id || !keyB x.Sender)with
 | true=>rfl
 | false =>
 cases o6 x.Kind 1 3 with
 | true=>rfl
 | false =>
 simp only [cond_false]
 cases hr:rfV x==0 with
 | false =>
  have:(rfV x != 0)=true:=by simp [bne,hr]
  simp only [cond_false,this,cond_true]
 | true =>
  simp only [cond_true]
  cases fmV x with
  | true=>rfl
  | false =>
   cases agV x with
   | true=>rfl
   | false =>
    simp only [cond_false,bne_self_eq_false]
    unfold arV
    rcases FM (chA xe none x.Areas)with⟨e1,e2⟩|⟨e1,e2⟩
    ·rw [e2,e1]
     simp only [thenC]
     cases cnV x with
     | true=>rfl
     | false=>cases txV x <;> rfl
    ·have:(chA xe none x.Areas==0)=false:=by simpa using e1
     rw [e2,this];rfl
theorem idx_map {α β:Type} {l:List α} {f:α->β} {k:Nat} {x:α} (hx:l[k]? = some x):idx (l.map f) (k:Int)=some (f x):=by
 rw [wG,List.getElem?_map,hx];rfl
theorem take_len {α:Type} (l:List α) (k:Nat):(l.take k).length<=l.length:=by rw [List.length_take];exact Nat.min_le_right _ _
theorem momF_eq (t:Int):jS t=some (bif zS t then 0 else 1):=by
 unfold jS
 rw [yL]
 cases zS t <;> rfl
theorem L9 {l:List Alert} (h:CA l) (hc:bW l=some 0) {t:Int} (ht:zS t=true):nS l t=some ((l.filter (onB l t)).map (·.Id),0):=by
 have hl:=h.len
 unfold nS
 rw [hc,ob_,bne_self_eq_false,cond_false,momF_eq,ht]
 simp only [cond_true,ob_,bne_self_eq_false,cond_false]
 rw [ends_eq h,ob_]
 obtain ⟨u,u1,u2⟩:=pq (body:=λk x s=>lc (l.map (Bv l)) t k x s) (λk s=>s=((l.take k).filter (onB l t)).map (·.Id)) (xs:=l) (s:=([]:List ByteArray)) (by omega) (λk x s hx hs=>by
  have et:l.take (k+1)=l.take k++[x]:=by rw [List.take_add_one,hx];rfl
  have h1:=take_len l k
  have h2:=List.length_filter_le (onB l t) (l.take k)
  have hf:(l.take (k+1)).filter (onB l t)=(l.take k).filter (onB l t)++(bif onB l t x then [x]else []):=by
   rw [et,List.filter_append]
   congr 1
  unfold lc
  rw [idx_map hx,ob_,isOn_eq,ob_,hf,List.map_append,<- hs]
  cases onB l t x with
  | false=>exact⟨_,rfl,by simp⟩
  | true =>
   rw [cond_true,kr _ _ (by rw [hs];simp only [List.length_map,List.length_cons,List.length_nil];omega)]
   exact⟨_,rfl,rfl⟩) rfl
 rw [u1,u2,List.take_length];rfl
theorem alF_0 {x:Alert} (h:GA x) (h0:alF x=0):(0<=x.At/\x.At<=345686399999)/\(x.At+1<=x.Until/\x.Until<=x.At+2592000000)/\∀r∈x.Areas,Fine r:=by
 unfold alF at h0
 cases e1:(!keyB x.Id || !keyB x.Sender)with
 | true=>rw [e1]at h0;cases h0
 | false =>
 rw [e1,cond_false]at h0
 cases e2:o6 x.Kind 1 3 with
 | true=>rw [e2]at h0;cases h0
 | false =>
 rw [e2,cond_false]at h0
 cases e3:rfV x==0 with
 | false=>rw [e3,cond_false]at h0;rw [h0]at e3;exact absurd e3 (by decide)
 | true =>
 rw [e3,cond_true]at h0
 cases e4:fmV x with
 | true=>rw [e4]at h0;cases h0
 | false =>
 rw [e4,cond_false]at h0
 cases e5:agV x with
 | true=>rw [e5]at h0;cases h0
 | false =>
 rw [e5,cond_false]at h0
 cases e6:arV x==0 with
 | false=>rw [e6,cond_false]at h0;rw [h0]at e6;exact absurd e6 (by decide)
 | true =>
 unfold agV at e5
 simp only [Bool.or_eq_false_iff]at e5
 obtain ⟨a1,a2,a3⟩:=e5
 have hm:zS x.At=true:=by cases hq:zS x.At with | true=>rfl | false=>rw [hq]at a1;cases a1
 unfold zS at hm
 have hm2:o6 x.At 0 345686399999=false:=by cases hq:o6 x.At 0 345686399999 with | false=>rfl | true=>rw [hq]at hm;cases hm
 have b1:=Cs hm2
 have b2:=Cs a2
 refine⟨b1,b2,λr hr => ?_⟩
 obtain ⟨i,hi⟩:=List.getElem?_of_mem hr
 obtain ⟨q,q1,_⟩:=PP (eq_of_beq e6) i r hi
 unfold xe at q1
 refine NB ?_
 cases hb:I6 r with
 | false=>rfl
 | true=>rw [hb]at q1;cases q1
def RA (x:Alert):Prop:=GA x/\alF x=0
structure RF (x:Alert):Prop where
 id:keyB x.Id=true
 sender:keyB x.Sender=true
 kind:1<=x.Kind/\x.Kind<=3
 refs:∀r∈x.Refs,keyB r=true
 weight:1<=x.Weight/\x.Weight<=9
theorem ra_f {x:Alert} (h0:alF x=0):RF x:=by
 unfold alF at h0
 cases e1:(!keyB x.Id || !keyB x.Sender)with
 | true=>rw [e1]at h0;cases h0
 | false =>
 rw [e1,cond_false]at h0
 cases e2:o6 x.Kind 1 3 with
 | true=>rw [e2]at h0;cases h0
 | false =>
 rw [e2,cond_false]at h0
 cases e3:rfV x==0 with
 | false=>rw [e3,cond_false]at h0;rw [h0]at e3;exact absurd e3 (by decide)
 | true =>
 rw [e3,cond_true]at h0
 cases e4:fmV x with
 | true=>rw [e4]at h0;cases h0
 | false =>
 rw [e4,cond_false]at h0
 cases e5:agV x with
 | true=>rw [e5]at h0;cases h0
 | false =>
 simp only [Bool.or_eq_false_iff,Bool.not_eq_false']at e1
 unfold agV at e5
 simp only [Bool.or_eq_false_iff]at e5
 have hb:∀{n lo hi:Int},o6 n lo hi=false->lo<=n/\n<=hi:=λh=>by
  simp only [o6,Bool.or_eq_false_iff,decide_eq_false_iff_not]at h;omega
 refine⟨e1.1,e1.2,hb e2,λr hr => ?_,hb e5.2.2⟩
 obtain ⟨i,hi,rfl⟩:=List.getElem_of_mem hr
 obtain ⟨q,q1,_⟩:=PP (eq_of_beq e3) i _ (List.getElem?_eq_getElem hi)
 unfold zQ at q1
 cases hk:keyB x.Refs[i]with
 | true=>rfl
 | false=>rw [hk]at q1;cases q1
theorem FR (l2:List ByteArray):∀(xs:List ByteArray) (k:Nat),xs.length=(l2.drop k).length->∃o,forR (λk x s=>bN l2 k x s) xs k ()=some o/\thenC o (λ_=>some true) (λr=>some r)=some (decide (xs=l2.drop k))
 | [],k,h=>⟨_,rfl,by
  have:l2.drop k=[]:=List.eq_nil_of_length_eq_zero h.symm
  rw [this];rfl⟩
 | x::xs,k,h=>by
  have hk:k<l2.length:=by
   rw [List.length_drop]at h
   simp only [List.length_cons]at h
   omega
  have hd:l2.drop k=l2[k]::l2.drop (k+1):=List.drop_eq_getElem_cons hk
  rw [hd]at h ⊢
  obtain ⟨o,h1,h2⟩:=FR l2 xs (k+1) (by simp only [List.length_cons]at h;omega)
  have hstep:bN l2 k x ()=some (bif sNe x l2[k]then .ret false else .go ()):=by
   unfold bN
   rw [wG,List.getElem?_eq_getElem hk]
   simp only [ob_]
   cases (sNe x l2[k]) <;> rfl
  by_cases he:x=l2[k]
  ·have e1:(sNe x l2[k])=false:=by rw [xm];simp [he]
   refine⟨o,by simp only [forR,hstep,e1,cond_false,ob_];exact h1,?_⟩
   rw [h2]
   simp only [he,List.cons.injEq,true_and]
  ·have e1:(sNe x l2[k])=true:=by rw [xm];simp [he]
   refine⟨.ret false,by simp only [forR,hstep,e1,cond_true,ob_],?_⟩
   rw [decide_eq_false (λhh=>he (List.cons.inj hh).1)];rfl
theorem Oi (l m:List ByteArray) (hl:l.length<=1000000000):cK l m=some (decide (l=m)):=by
 unfold cK
 by_cases hn:l.length=m.length
 ·have e1:((l.length:Int) != (m.length:Int))=false:=by simp [hn]
  rw [e1,cond_false]
  obtain ⟨o,h1,h2⟩:=FR m l 0 (by simpa using hn)
  rw [iX (by omega),h1]
  simpa using h2
 ·have e1:((l.length:Int) != (m.length:Int))=true:=by simp;omega
  have e2:l≠m:=λh=>hn (by rw [h])
  rw [e1,cond_true]
  simp [e2]
deriving instance DecidableEq for Rect
theorem rect_eq (x y:Rect):((x.X==y.X)&&((x.Y==y.Y)&&((x.W==y.W)&&((x.H==y.H)&&true))))=decide (x=y):=by
 obtain ⟨a,b,c,d⟩:=x
 obtain ⟨a',b',c',d'⟩:=y
 rw [Bool.eq_iff_iff]
 simp only [Bool.and_eq_true,beq_iff_eq,decide_eq_true_eq,Rect.mk.injEq,and_true]
theorem FZ (l2:List Rect):∀(xs:List Rect) (k:Nat),xs.length=(l2.drop k).length->∃o,forR (λk x s=>bZ l2 k x s) xs k ()=some o/\thenC o (λ_=>some true) (λr=>some r)=some (decide (xs=l2.drop k))
 | [],k,h=>⟨_,rfl,by
  have:l2.drop k=[]:=List.eq_nil_of_length_eq_zero h.symm
  rw [this];rfl⟩
 | x::xs,k,h=>by
  have hk:k<l2.length:=by
   rw [List.length_drop]at h
   simp only [List.length_cons]at h
   omega
  have hd:l2.drop k=l2[k]::l2.drop (k+1):=List.drop_eq_getElem_cons hk
  rw [hd]at h ⊢
  obtain ⟨o,h1,h2⟩:=FZ l2 xs (k+1) (by simp only [List.length_cons]at h;omega)
  have hstep:bZ l2 k x ()=some (bif !decide (x=l2[k])then .ret false else .go ()):=by
   unfold bZ
   rw [wG,List.getElem?_eq_getElem hk]
   simp only [ob_,rect_eq]
   cases decide (x=l2[k]) <;> rfl
  by_cases he:x=l2[k]
  ·refine⟨o,by simp only [forR,hstep,decide_eq_true he,Bool.not_true,cond_false,ob_];exact h1,?_⟩
   rw [h2]
   simp only [he,List.cons.injEq,true_and]
  ·refine⟨.ret false,by simp only [forR,hstep,decide_eq_false he,Bool.not_false,cond_true,ob_],?_⟩
   rw [decide_eq_false (λhh=>he (List.cons.inj hh).1)];rfl
theorem Ns (l m:List Rect) (hl:l.length<=1000000000):dX l m=some (decide (l=m)):=by
 unfold dX
 by_cases hn:l.length=m.length
 ·have e1:((l.length:Int) != (m.length:Int))=false:=by simp [hn]
  rw [e1,cond_false]
  obtain ⟨o,h1,h2⟩:=FZ m l 0 (by simpa using hn)
  rw [iX (by omega),h1]
  simpa using h2
 ·have e1:((l.length:Int) != (m.length:Int))=true:=by simp;omega
  have e2:l≠m:=λh=>hn (by rw [h])
  rw [e1,cond_true]
  simp [e2]
theorem CY (c:Bool) {X:Option Bool} {p:Bool} (h:X=some p):(bif c then X else some false)=some (c&&p):=by cases c <;> simp [h]
deriving instance DecidableEq for Alert
theorem Oh {a b:Alert} (h:GA a):sP a b=some (decide (a=b)):=by
 unfold sP
 rw [Oi _ _ (by have:=h.rlen;omega),Ns _ _ (by have:=h.alen;omega)]
 simp only [ob_]
 rw [CY _ (CY _ (CY _ (CY _ (CY _ (CY _ (CY _ (CY _ rfl)))))))]
 obtain ⟨a1,a2,a3,a4,a5,a6,a7,a8,a9⟩:=a
 obtain ⟨b1,b2,b3,b4,b5,b6,b7,b8,b9⟩:=b
 simp only [ob_,wO]
 congr 1
 rw [Bool.eq_iff_iff]
 simp only [Bool.and_eq_true,decide_eq_true_eq,beq_iff_eq,Alert.mk.injEq]
def CU (k:Int):List UInt8:=if k=1 then [110,101,119]else if k=2 then [117,112,100,97,116,101]else [99,97,110,99,101,108]
def uI:List ByteArray->List UInt8
 | []=>[]
 | r::l=>[114,101,102,32]++r.data.toList++[10]++uI l
def vN (r:Rect):List Int:=[r.X,r.Y,r.W,r.H]
def mZ:List Rect->List UInt8
 | []=>[]
 | r::l=>[97,114,101,97,32]++Go.Lib.join ((vN r).map Go.Lib.itoa) [32]++[10]++mZ l
def AB (t:ByteArray):List UInt8:=if t=⟨#[]⟩then []else [116,101,120,116,32]++t.data.toList++[10]
def xJ (x:Alert):List UInt8:=[97,108,101,114,116,32]++x.Id.data.toList++[32]++x.Sender.data.toList++[32]++CU x.Kind++[32]++Go.Lib.join (([x.At,x.Until,x.Weight]:List Int).map Go.Lib.itoa) [32]++[10]
def Gv (x:Alert):List UInt8:=xJ x++uI x.Refs++mZ x.Areas++AB x.Text
theorem J2:∀{l m:List ByteArray} {X Y:List UInt8},(∀r∈l,keyB r=true)->(∀r∈m,keyB r=true)->X.head? ≠ some 114->Y.head? ≠ some 114->uI l++X=uI m++Y->l=m/\X=Y
 | [],[],X,Y,_,_,_,_,h=>⟨rfl,by simpa [uI]using h⟩
 | [],r::m,X,Y,_,_,hX,_,h=>by
  simp only [uI,List.nil_append,List.cons_append]at h
  rw [h]at hX;simp at hX
 | r::l,[],X,Y,_,_,_,hY,h=>by
  simp only [uI,List.nil_append,List.cons_append]at h
  rw [<- h]at hY;simp at hY
 | r::l,q::m,X,Y,hl,hm,hX,hY,h=>by
  simp only [uI,List.append_assoc,List.cons_append,List.nil_append,List.cons.injEq,true_and]at h
  obtain ⟨h1,h2⟩:=uE (Cr (hl r (by simp)) (by decide)) (Cr (hm q (by simp)) (by decide)) h
  obtain ⟨h3,h4⟩:=J2 (λa ha=>hl a (List.mem_cons_of_mem _ ha)) (λa ha=>hm a (List.mem_cons_of_mem _ ha)) hX hY h2
  exact⟨by rw [IY h1,h3],h4⟩
theorem Qo {r q:Rect} (h:vN r=vN q):r=q:=by
 obtain ⟨a,b,c,d⟩:=r
 obtain ⟨a',b',c',d'⟩:=q
 simp only [vN,List.cons.injEq,and_true]at h
 obtain ⟨h1,h2,h3,h4⟩:=h
 subst h1 h2 h3 h4;rfl
theorem GR:∀{l m:List Rect} {X Y:List UInt8},X.head? ≠ some 97->Y.head? ≠ some 97->mZ l++X=mZ m++Y->l=m/\X=Y
 | [],[],X,Y,_,_,h=>⟨rfl,by simpa [mZ]using h⟩
 | [],r::m,X,Y,hX,_,h=>by
  simp only [mZ,List.nil_append,List.cons_append]at h
  rw [h]at hX;simp at hX
 | r::l,[],X,Y,_,hY,h=>by
  simp only [mZ,List.nil_append,List.cons_append]at h
  rw [<- h]at hY;simp at hY
 | r::l,q::m,X,Y,hX,hY,h=>by
  simp only [mZ,List.append_assoc,List.cons_append,List.nil_append,List.cons.injEq,true_and]at h
  obtain ⟨h1,h2⟩:=uE (Av (by decide) (by decide) (by decide) _) (Av (by decide) (by decide) (by decide) _) h
  obtain ⟨h3,h4⟩:=GR hX hY h2
  exact⟨by rw [Qo (Cb (l:=vN r) (m:=vN q) rfl h1),h3],h4⟩
theorem Pg {t u:ByteArray} (h:AB t=AB u):t=u:=by
 unfold AB at h
 by_cases ht:t=⟨#[]⟩ <;> by_cases hu:u=⟨#[]⟩
 ·exact ht.trans hu.symm
 ·rw [if_pos ht,if_neg hu]at h;simp at h
 ·rw [if_neg ht,if_pos hu]at h;simp at h
 ·rw [if_neg ht,if_neg hu]at h
  have h2:=List.append_cancel_right h
  have h3:=List.append_cancel_left h2
  exact IY h3
theorem Cy (t:ByteArray):(AB t).head? ≠ some 97/\(AB t).head? ≠ some 114:=by
 unfold AB
 split
 ·simp
 ·simp
theorem FV (l:List Rect) (t:ByteArray):(mZ l++AB t).head? ≠ some 114:=by
 cases l with
 | nil=>simpa [mZ]using (Cy t).2
 | cons r l=>simp [mZ]
theorem M9 {k:Int} {c:UInt8} (hc:c=32\/c=10):c∉CU k:=by
 unfold CU
 split
 ·rcases hc with rfl|rfl <;> decide
 ·split
  ·rcases hc with rfl|rfl <;> decide
  ·rcases hc with rfl|rfl <;> decide
theorem word_inj {k m:Int} (hk:1<=k/\k<=3) (hm:1<=m/\m<=3) (h:CU k=CU m):k=m:=by
 have e1:k=1\/k=2\/k=3:=by omega
 have e2:m=1\/m=2\/m=3:=by omega
 rcases e1 with rfl|rfl|rfl <;> rcases e2 with rfl|rfl|rfl <;> first|rfl|exact absurd h (by decide)
theorem Oe {a b:Alert} (ha:RF a) (hb:RF b) (h:Gv a=Gv b):a=b:=by
 unfold Gv xJ at h
 simp only [List.append_assoc,List.cons_append,List.nil_append,List.cons.injEq,true_and]at h
 obtain ⟨h1,h2⟩:=uE (Cr ha.id (by decide)) (Cr hb.id (by decide)) h
 obtain ⟨h3,h4⟩:=uE (Cr ha.sender (by decide)) (Cr hb.sender (by decide)) h2
 obtain ⟨h5,h6⟩:=uE (M9 (.inl rfl)) (M9 (.inl rfl)) h4
 obtain ⟨h7,h8⟩:=uE (Av (by decide) (by decide) (by decide) _) (Av (by decide) (by decide) (by decide) _) h6
 obtain ⟨h9,h10⟩:=J2 ha.refs hb.refs (FV _ _) (FV _ _) h8
 obtain ⟨h11,h12⟩:=GR (Cy _).1 (Cy _).1 h10
 have e1:=IY h1
 have e2:=IY h3
 have e3:=word_inj ha.kind hb.kind h5
 have e4:=Cb (l:=[a.At,a.Until,a.Weight]) (m:=[b.At,b.Until,b.Weight]) rfl h7
 have e5:=Pg h12
 obtain ⟨a1,a2,a3,a4,a5,a6,a7,a8,a9⟩:=a
 obtain ⟨b1,b2,b3,b4,b5,b6,b7,b8,b9⟩:=b
 simp only [List.cons.injEq,and_true]at e1 e2 e3 e4 e5 h9 h11
 obtain ⟨f1,f2,f3⟩:=e4
 subst e1 e2 e3 f1 f2 f3 e5 h9 h11
 rfl
theorem MO {s:ByteArray} (h:ShA s):s.data.toList.length<=1000:=by rw [<- Go.Lib.size_eq];exact h
theorem GD:∀(l:List ByteArray),(∀r∈l,ShA r)->(uI l).length<=l.length*1005
 | [],_=>by simp [uI]
 | r::l,h=>by
  have:=MO (h r (by simp))
  have:=GD l (λa ha=>h a (List.mem_cons_of_mem _ ha))
  simp only [uI,List.length_append,List.length_cons,List.length_nil,Nat.add_mul]
  omega
theorem GJ:∀(l:List ByteArray) (k:Nat) (out:List UInt8),(∀r∈l,ShA r)->out.length+l.length*2000<=1000000->forR (λk x s=>iW k x s) l k (SB out)=some (.go (SB (out++uI l)))
 | [],k,out,_,_=>by simp [forR,uI]
 | r::l,k,out,h,hl=>by
  have hr:=MO (h r (by simp))
  simp only [List.length_cons,Nat.add_mul]at hl
  have e0:r=SB r.data.toList:=rfl
  have hs:iW k r (SB out)=some (.go (SB (out++([114,101,102,32]++r.data.toList++[10])))):=by
   unfold iW
   have c1:nR (⟨#[114,101,102,32]⟩:ByteArray) r=some (SB ([114,101,102,32]++r.data.toList)):=vX [114,101,102,32] r.data.toList (by simp only [List.length_append,List.length_cons,List.length_nil];omega)
   have c2:nR (SB ([114,101,102,32]++r.data.toList)) (⟨#[10]⟩:ByteArray)=some (SB ([114,101,102,32]++r.data.toList++[10])):=vX _ [10] (by simp only [List.length_append,List.length_cons,List.length_nil];omega)
   have c3:=vX out ([114,101,102,32]++r.data.toList++[10]) (by simp only [List.length_append,List.length_cons,List.length_nil];omega)
   simp only [c1,c2,c3,ob_]
  simp only [forR,hs,ob_]
  rw [GJ l (k+1) _ (λa ha=>h a (List.mem_cons_of_mem _ ha)) (by simp only [List.length_append,List.length_cons,List.length_nil];omega)]
  simp [uI]
theorem medR {r:Rect} (h:Fine r):∀n∈vN r,Med n:=λn hn=>by
 obtain ⟨h1,h2,h3,h4,h5⟩:=h
 simp only [vN,List.mem_cons,List.not_mem_nil,or_false]at hn
 unfold Med
 rcases hn with rfl|rfl|rfl|rfl <;> omega
theorem D7:∀(l:List Rect),(∀r∈l,Fine r)->(mZ l).length<=l.length*100
 | [],_=>by simp [mZ]
 | r::l,h=>by
  have:=D5 (vN r) (medR (h r (by simp)))
  have hn:(vN r).length=4:=rfl
  have:=D7 l (λa ha=>h a (List.mem_cons_of_mem _ ha))
  simp only [mZ,List.length_append,List.length_cons,List.length_nil,Nat.add_mul]
  omega
theorem ER:∀(l:List Rect) (k:Nat) (out:List UInt8),(∀r∈l,Fine r)->out.length+l.length*2000<=1000000->forR (λk x s=>iY k x s) l k (SB out)=some (.go (SB (out++mZ l)))
 | [],k,out,_,_=>by simp [forR,mZ]
 | r::l,k,out,h,hl=>by
  have hm:=medR (h r (by simp))
  have hr:=D5 (vN r) hm
  have hn:(vN r).length=4:=rfl
  simp only [List.length_cons,Nat.add_mul]at hl
  have hnum:mD [r.X,r.Y,r.W,r.H]=some (SB (Go.Lib.join ((vN r).map Go.Lib.itoa) [32])):=E5 (vN r) hm (by omega)
  have hs:iY k r (SB out)=some (.go (SB (out++([97,114,101,97,32]++Go.Lib.join ((vN r).map Go.Lib.itoa) [32]++[10])))):=by
   unfold iY
   have c1:nR (⟨#[97,114,101,97,32]⟩:ByteArray) (SB (Go.Lib.join ((vN r).map Go.Lib.itoa) [32]))=some (SB ([97,114,101,97,32]++Go.Lib.join ((vN r).map Go.Lib.itoa) [32])):=vX [97,114,101,97,32] _ (by simp only [List.length_cons,List.length_nil];omega)
   have c2:nR (SB ([97,114,101,97,32]++Go.Lib.join ((vN r).map Go.Lib.itoa) [32])) (⟨#[10]⟩:ByteArray)=some (SB ([97,114,101,97,32]++Go.Lib.join ((vN r).map Go.Lib.itoa) [32]++[10])):=vX _ [10] (by simp only [List.length_append,List.length_cons,List.length_nil];omega)
   have c3:=vX out ([97,114,101,97,32]++Go.Lib.join ((vN r).map Go.Lib.itoa) [32]++[10]) (by simp only [List.length_append,List.length_cons,List.length_nil];omega)
   simp only [hnum,c1,c2,c3,ob_]
  simp only [forR,hs,ob_]
  rw [ER l (k+1) _ (λa ha=>h a (List.mem_cons_of_mem _ ha)) (by simp only [List.length_append,List.length_cons,List.length_nil];omega)]
  simp [mZ]
theorem Kl {x:Alert} (h:RA x):kN [x]=some (SB (Gv x)):=by
 obtain ⟨hg,h0⟩:=h
 have hf:=ra_f h0
 obtain ⟨f1,f2,f3⟩:=alF_0 hg h0
 have l1:=MO hg.id
 have l2:=MO hg.sender
 have l3:=Kq x.Text hg.text
 have hk:x.Kind=1\/x.Kind=2\/x.Kind=3:=by have:=hf.kind;omega
 have hm:∀n∈([x.At,x.Until,x.Weight]:List Int),Med n:=λn hn=>by
  have:=hf.weight
  simp only [List.mem_cons,List.not_mem_nil,or_false]at hn
  unfold Med
  rcases hn with rfl|rfl|rfl <;> omega
 have hnum:=E5 [x.At,x.Until,x.Weight] hm (by simp)
 have hnl:=D5 [x.At,x.Until,x.Weight] hm
 simp only [List.length_cons,List.length_nil]at hnl
 have hw:idx ([(⟨#[]⟩:ByteArray),(⟨#[110,101,119]⟩:ByteArray),(⟨#[117,112,100,97,116,101]⟩:ByteArray),(⟨#[99,97,110,99,101,108]⟩:ByteArray)]:List ByteArray) x.Kind=some (SB (CU x.Kind)):=by
  rcases hk with e|e|e <;> rw [e] <;> rfl
 have hwl:(CU x.Kind).length<=6:=by
  rcases hk with e|e|e <;> rw [e] <;> decide
 have hR:=GD x.Refs hg.refs
 have hA:=D7 x.Areas f3
 have b1:=hg.rlen
 have b2:=hg.alen
 have e1:x.Id=SB x.Id.data.toList:=rfl
 have c1:nR (⟨#[97,108,101,114,116,32]⟩:ByteArray) x.Id=some (SB ([97,108,101,114,116,32]++x.Id.data.toList)):=vX [97,108,101,114,116,32] x.Id.data.toList (by simp only [List.length_cons,List.length_nil];omega)
 have c2:∀l:List UInt8,l.length<=100000->nR (SB l) (⟨#[32]⟩:ByteArray)=some (SB (l++[32])):=λl hl=>vX l [32] (by simp only [List.length_cons,List.length_nil];omega)
 have c3:∀l:List UInt8,l.length<=100000->nR (SB l) x.Sender=some (SB (l++x.Sender.data.toList)):=λl hl=>vX l x.Sender.data.toList (by omega)
 have c4:∀l:List UInt8,l.length<=100000->nR (SB l) (⟨#[10]⟩:ByteArray)=some (SB (l++[10])):=λl hl=>vX l [10] (by simp only [List.length_cons,List.length_nil];omega)
 have c5:∀l m:List UInt8,l.length<=100000->m.length<=100000->nR (SB l) (SB m)=some (SB (l++m)):=λl m hl hm=>vX l m (by omega)
 have c6:nR (⟨#[]⟩:ByteArray) (SB (xJ x))=some (SB (xJ x)):=by
  have hh:(xJ x).length<=100000:=by unfold xJ;simp only [List.length_append,List.length_cons,List.length_nil];omega
  have:=vX [] (xJ x) (by simp only [List.length_nil];omega)
  simpa using this
 have hh:(xJ x).length<=3000:=by unfold xJ;simp only [List.length_append,List.length_cons,List.length_nil];omega
 have hstep:ku 0 x (⟨#[]⟩:ByteArray)=some (.go (SB (Gv x))):=by
  unfold ku pu
  rw [c1,ob_,c2 _ (by simp only [List.length_append,List.length_cons,List.length_nil];omega),ob_,c3 _ (by simp only [List.length_append,List.length_cons,List.length_nil];omega),ob_,c2 _ (by simp only [List.length_append,List.length_cons,List.length_nil];omega),ob_,ob_,hw,ob_,
   c5 _ _ (by simp only [List.length_append,List.length_cons,List.length_nil];omega) (by omega),ob_,c2 _ (by simp only [List.length_append,List.length_cons,List.length_nil];omega),ob_,hnum,ob_,c5 _ _ (by simp only [List.length_append,List.length_cons,List.length_nil];omega) (by omega),ob_,
   c4 _ (by simp only [List.length_append,List.length_cons,List.length_nil];omega),ob_]
  have c6':=c6
  unfold xJ at c6'
  rw [c6',ob_]
  have hfold:([97,108,101,114,116,32]++x.Id.data.toList++[32]++x.Sender.data.toList++[32]++CU x.Kind++[32]++Go.Lib.join (([x.At,x.Until,x.Weight]:List Int).map Go.Lib.itoa) [32]++[10])=xJ x:=rfl
  rw [hfold,iX (by omega),GJ x.Refs 0 (xJ x) hg.refs (by omega),ob_,lU,iX (by omega),ER x.Areas 0 _ f3 (by simp only [List.length_append];omega),ob_,lU]
  unfold Gv AB
  by_cases ht:x.Text=⟨#[]⟩
  ·have e:sNe x.Text (⟨#[]⟩:ByteArray)=false:=by rw [xm];simp [ht]
   rw [e,cond_false,if_pos ht,List.append_nil];rfl
  ·have e:sNe x.Text (⟨#[]⟩:ByteArray)=true:=by rw [xm];simp [ht]
   have lt':x.Text.data.toList.length<=16:=by rw [<- Go.Lib.size_eq];exact l3
   have d1:nR (⟨#[116,101,120,116,32]⟩:ByteArray) x.Text=some (SB ([116,101,120,116,32]++x.Text.data.toList)):=vX [116,101,120,116,32] x.Text.data.toList (by simp only [List.length_cons,List.length_nil];omega)
   rw [e,cond_true,if_neg ht,d1,ob_,c4 _ (by simp only [List.length_append,List.length_cons,List.length_nil];omega),ob_,c5 _ _ (by simp only [List.length_append];omega) (by simp only [List.length_append,List.length_cons,List.length_nil];omega),ob_]
   rfl
 unfold kN
 rw [iX (by simp)]
 simp only [forR,hstep,ob_,lU]
theorem sameRA {a b:Alert} (ha:RA a) (hb:RA b):nU a b=some (decide (a=b)):=by
 unfold nU
 rw [Kl ha,Kl hb,ob_,ob_,wO]
 congr 1
 rw [Bool.eq_iff_iff,decide_eq_true_eq,decide_eq_true_eq]
 constructor
 ·exact λh=>Oe (ra_f ha.2) (ra_f hb.2) (sb_inj h)
 ·rintro rfl;rfl
def NM (x:Int):List Int->List Int
 | []=>[x]
 | y::l=>bif decide (x<=y)then x::y::l else y::NM x l
def Ey:List Int->List Int
 | []=>[]
 | x::l=>NM x (Ey l)
theorem Cu (x:Int):∀l,(NM x l).Perm (x::l)
 | [] => .refl _
 | y::l=>by
  unfold NM
  cases decide (x<=y)with
  | true=>exact .refl _
  | false=>exact ((Cu x l).cons y).trans (List.Perm.swap x y l)
theorem CR:∀l,(Ey l).Perm l
 | [] => .refl _
 | x::l=>(Cu x _).trans ((CR l).cons x)
theorem CO (x:Int):∀l:List Int,l.Pairwise (· <= ·)->(NM x l).Pairwise (· <= ·)
 | [],_=>List.pairwise_singleton _ _
 | y::l,h=>by
  obtain ⟨h1,h2⟩:=List.pairwise_cons.1 h
  unfold NM
  by_cases hx:x<=y
  ·rw [decide_eq_true hx,cond_true]
   exact List.pairwise_cons.2 ⟨λz hz=>by
    rcases List.mem_cons.1 hz with rfl|hz
    ·exact hx
    ·exact Int.le_trans hx (h1 z hz),h⟩
  ·rw [decide_eq_false hx,cond_false]
   exact List.pairwise_cons.2 ⟨λz hz=>by
    rcases List.mem_cons.1 ((Cu x l).mem_iff.1 hz)with rfl|hz
    ·omega
    ·exact h1 z hz,CO x l h2⟩
theorem zF:∀l,(Ey l).Pairwise (· <= ·)
 | [] => .nil
 | x::l=>CO x _ (zF l)
theorem NA (l:List Int):l.mergeSort (λx y=>decide (x<=y))=Ey l:=by
 refine List.Perm.eq_of_pairwise (le:=(· <= ·)) (λa b _ _ h1 h2=>Int.le_antisymm h1 h2) ?_ (zF l) ((List.mergeSort_perm l _).trans (CR l).symm)
 have:=List.pairwise_mergeSort (le:=λ(x y:Int)=>decide (x<=y)) (λa b c=>by simp;omega) (λa b=>by simp;omega) l
 exact this.imp (by simp)
def PV (l:List Int):Option (List Int):=bif Nat.ble l.length 1000 then some (Ey l)else none
theorem Pb (l:List Int):Le (PV l) (jk l):=λr h=>by
 unfold PV at h
 cases hb:Nat.ble l.length 1000 with
 | false=>rw [hb]at h;cases h
 | true =>
  rw [hb,cond_true]at h
  have:=Nat.le_of_ble_eq_true hb
  unfold jk ML
  rw [if_pos (by omega),NA];exact h
end Go.Proofs.YtkjlhdminmpmkabGreatDoor.Law

