/-
  THE PLAIN LAW (part 3).
-/
import Derived.Test.YtacmlgpnplklaaaGreatDoorPl2
import Derived.Test.YtacmlgpnplklaaaGreatDoorDefs
open Go Go.Eng
namespace Go.Proofs.YtacmlgpnplklaaaGreatDoor.Law
set_option linter.unusedVariables false
set_option linter.unusedSimpArgs false
theorem DD (s:ByteArray):rG s=lH s:=rfl
theorem Db (ws:List (List UInt8)) (h:∀w∈ws,w.length<=100000) (hl:ws.length<=100000):∃(ns ms:List Int) (ok:Bool),lY (ws.map SB)=some (ns,ok)/\iW (ws.map SB) 9=some (ms,ok)/\ms.length=ws.length/\(ok=true->ns=ms):=by
 have key:∀(xs:List (List UInt8)) (k:Nat) (out out2:List Int) (all:Bool),(∀w∈xs,w.length<=100000)->out.length+xs.length<=1000000->out2.length+xs.length<=1000000 ->
   ∃(ms:List Int) (ok:Bool),forR (λk x s=>fq k x s) (xs.map SB) k out=some (bif ok then .go (out++ms)else .ret ([],false))/\forR (λk x s=>fM 9 k x s) (xs.map SB) k (out2,all)=some (.go (out2++ms,all&&ok))/\ms.length=xs.length:=by
  intro xs
  induction xs with
  | nil=>exact λk out out2 all _ _ _=>⟨[],true,by simp [forR],by simp [forR],rfl⟩
  | cons x xs ih =>
   intro k out out2 all hw ho ho2
   simp only [List.length_cons]at ho ho2
   obtain ⟨n,n',o,a1,a2,a3,_,_⟩:=num_two x (hw x (by simp)) 9 (by decide)
   have hs:pq (SB x)=some (n,o):=by unfold pq;rw [a1];rfl
   have hr:fM 9 k (SB x) (out2,all)=some (.go (out2++[n'],all&&o)):=by
    unfold fM
    rw [a2,ob_]
    simp only []
    rw [mZ _ _ (by simp only [List.length_cons,List.length_nil];omega),ob_]
    cases all <;> rfl
   obtain ⟨ms,ok,b1,b2,b3⟩:=ih (k+1) (out++[n']) (out2++[n']) (all&&o) (λw hm=>hw w (by simp [hm])) (by simp only [List.length_append,List.length_cons,List.length_nil];omega) (by simp only [List.length_append,List.length_cons,List.length_nil];omega)
   refine⟨n'::ms,o&&ok,?_,?_,by simp [b3]⟩
   ·cases o with
    | false =>
     have hstep:fq k (SB x) out=some (.ret ([],false)):=by unfold fq;rw [hs];rfl
     rw [List.map_cons,forR,hstep];rfl
    | true =>
     have hstep:fq k (SB x) out=some (.go (out++[n'])):=by
      unfold fq
      rw [hs,ob_]
      simp only [Bool.not_true,cond_false]
      rw [mZ _ _ (by simp only [List.length_cons,List.length_nil];omega),a3 rfl];rfl
     rw [List.map_cons,forR,hstep,ob_]
     simp only []
     rw [b1,Bool.true_and];simp
   ·rw [List.map_cons,forR,hr,ob_]
    simp only []
    rw [b2];simp [Bool.and_assoc]
 obtain ⟨ms,ok,b1,b2,b3⟩:=key ws 0 [] [] true h (by simp only [List.length_nil];omega) (by simp only [List.length_nil];omega)
 refine⟨bif ok then ms else [],ms,ok,?_,?_,b3,λh=>by rw [h];rfl⟩
 ·unfold lY
  rw [iR (by rw [List.length_map];omega),b1]
  cases ok <;> rfl
 ·unfold iW
  rw [iR (by rw [List.length_map];omega),b2]
  cases ok <;> rfl
theorem Cg (c:UInt8):∀l:List UInt8,((spl c l).map λq=>q.length+1).sum=l.length+1
 | []=>rfl
 | b::l=>by
  have ih:=Cg c l
  unfold spl
  split
  ·rw [List.map_cons,List.sum_cons,ih];simp only [List.length_cons,List.length_nil];omega
  ·cases hs:spl c l with
   | nil=>exact absurd hs (tT c l)
   | cons x r =>
    rw [hs,List.map_cons,List.sum_cons]at ih
    simp only [List.map_cons,List.sum_cons,List.length_cons]at ih ⊢
    omega
theorem xJ (x y:List UInt8):sNe (SB x) (SB y) = !decide (x=y):=by
 show (!sEq (SB x) (SB y))=_
 rw [show sEq (SB x) (SB y)=decide (x=y) by
  rw [Bool.eq_iff_iff,jb,decide_eq_true_eq]
  exact⟨λh=>BN h,λh=>by rw [h]⟩]
def kJ (b:Bool) (ws:List (List UInt8)) (wd:List UInt8) (k:Nat):Bool:=b&&(decide (ws.length=k+2)&&decide (ws[0]? = some wd))
theorem DN (x wd:List UInt8) (k:Nat) (hk:k<=10) (hx:x.length<=900):∃(b:Bool) (ns ms:List Int) (ok:Bool),lH (SB x)=some ((spl 32 x).map SB,b) /\
  eD (SB x) (SB wd) (k:Int)=some (bif kJ b (spl 32 x) wd k then (SB ((spl 32 x).getD 1 []),ns,ok)else ((⟨#[]⟩:ByteArray),[],false)) /\
  (kJ b (spl 32 x) wd k=true->iW (((spl 32 x).drop 2).map SB) 9=some (ms,ok)/\ms.length=k/\(ok=true->ns=ms)):=by
 obtain ⟨b,hb⟩:=Gw x (by omega)
 have hw:=(oO 32 x).2
 have hw1:=(oO 32 x).1
 have hne:=tT 32 x
 generalize hws:spl 32 x=ws at *
 obtain ⟨ns,ms,ok,n1,n2,n3,n4⟩:=Db (ws.drop 2) (λw hm=>by have:=hw w (List.mem_of_mem_drop hm);omega) (by rw [List.length_drop];omega)
 refine⟨b,ns,ms,ok,hb,?_,λhl => ?_⟩
 ·unfold eD
  rw [hb,ob_,eT (by omega)]
  simp only []
  have hlen:(((ws.map SB).length:Int) != (k:Int)+2) = !decide (ws.length=k+2):=by
   rw [List.length_map,Bool.eq_iff_iff]
   simp;omega
  rw [hlen]
  cases hbv:b with
  | false =>
   have:kJ false ws wd k=false:=rfl
   rw [this];rfl
  | true =>
   simp only [Bool.not_true,cond_false]
   by_cases hL:ws.length=k+2
   ·rw [decide_eq_true hL]
    simp only [Bool.not_true,cond_false]
    obtain ⟨w0,w1,rest,rfl⟩:∃w0 w1 rest,ws=w0::w1::rest:=by
     match ws,hL with
     | w0::w1::rest,_=>exact⟨w0,w1,rest,rfl⟩
    have i0:idx ((w0::w1::rest).map SB) 0=some (SB w0):=rfl
    have i1:idx ((w0::w1::rest).map SB) 1=some (SB w1):=rfl
    rw [i0,ob_,xJ,ob_]
    by_cases h0:w0=wd
    ·rw [decide_eq_true h0]
     have hi:kJ true (w0::w1::rest) wd k=true:=by
      unfold kJ
      rw [decide_eq_true hL,h0];simp
     have hsub:r9 ((w0::w1::rest).map SB) 2 (((w0::w1::rest).map SB).length:Int)=some (((w0::w1::rest).drop 2).map SB):=by
      unfold r9
      rw [if_pos (by simp;omega)]
      congr 1
      rw [Int.toNat_natCast,List.take_length]
      show List.drop 2 _=_
      rw [<- List.map_drop]
     rw [hi,hsub]
     simp only [Bool.not_true,cond_false,cond_true,ob_,n1,i1]
     rfl
    ·rw [decide_eq_false h0]
     have hi:kJ true (w0::w1::rest) wd k=false:=by
      unfold kJ
      rw [decide_eq_false (p:=(w0::w1::rest)[0]? = some wd) (by simpa using h0)];simp
     rw [hi];rfl
   ·rw [decide_eq_false hL]
    have hi:kJ true ws wd k=false:=by
     unfold kJ
     rw [decide_eq_false hL];simp
    rw [hi];rfl
 ·unfold kJ at hl
  simp only [Bool.and_eq_true,decide_eq_true_eq]at hl
  exact⟨n2,by rw [n3,List.length_drop,hl.2.1];omega,n4⟩
theorem list2 {α:Type} {l:List α} (h:l.length=2):∃a b,l=[a,b]:=by
 match l,h with
 | [a,b],_=>exact⟨a,b,rfl⟩
theorem Hq {α:Type} {l:List α} (h:l.length=5):∃a b c d e,l=[a,b,c,d,e]:=by
 match l,h with
 | [a,b,c,d,e],_=>exact⟨a,b,c,d,e,rfl⟩
theorem docTest (b:Bool) (ws:List (List UInt8)) (wd:List UInt8) (k:Nat) (hne:ws ≠ []) :
  (bif (!b)then some true else (idx (ws.map SB) 0).bind λy_12=>bif (sNe y_12 (SB wd))then some true else some (((ws.map SB).length:Int) != ((k+2:Nat):Int)))=some (!kJ b ws wd k):=by
 cases b with
 | false=>rfl
 | true =>
  obtain ⟨w0,rest,rfl⟩:∃w0 rest,ws=w0::rest:=by
   cases ws with
   | nil=>exact absurd rfl hne
   | cons w0 rest=>exact⟨w0,rest,rfl⟩
  have i0:idx ((w0::rest).map SB) 0=some (SB w0):=rfl
  simp only [Bool.not_true,cond_false]
  rw [i0,ob_,xJ]
  unfold kJ
  have hlen:((((w0::rest).map SB).length:Int) != ((k+2:Nat):Int)) = !decide ((w0::rest).length=k+2):=by
   rw [List.length_map,Bool.eq_iff_iff]
   simp;omega
  rw [hlen]
  have h0:decide ((w0::rest)[0]? = some wd)=decide (w0=wd):=by simp
  rw [h0]
  cases decide (w0=wd) <;> cases decide ((w0::rest).length=k+2) <;> rfl
def lineTo (f:Bool) (key:List UInt8) (ms:List Int) (l:Layout):Layout :=
 bif f then⟨SB key,ms.getD 0 0,ms.getD 1 0,l.Zones⟩else⟨l.Key,l.W,l.H,l.Zones++[⟨SB key,⟨ms.getD 0 0,ms.getD 1 0,ms.getD 2 0,ms.getD 3 0⟩,ms.getD 4 0⟩]⟩
def kOf (f:Bool):Nat:=bif f then 2 else 5
def wOf (f:Bool):List UInt8:=bif f then xB else xh
theorem Jf (x:List UInt8) (hx:x.length<=900) (f:Bool):∃(key:List UInt8) (ns ms:List Int) (k':ByteArray) (ok:Bool),eD (SB x) (SB (wOf f)) ((kOf f:Nat):Int)=some (k',ns,ok) /\
  (ok=true->k'=SB key/\ns=ms/\ms.length=kOf f/\key.length<=x.length/\(f=false->10<=x.length)) /\
  ∀l:Layout,l.Zones.length<=1000000->∃f' l',fK (SB x) f l=some (ok,f',l')/\(ok=true->f'=false/\l'=lineTo f key ms l):=by
 obtain ⟨b,ns,ms,ok,hb,h1,h2⟩:=DN x (wOf f) (kOf f) (by cases f <;> decide) hx
 have hw:=(oO 32 x).2
 have hsum:=Cg 32 x
 have hne:=tT 32 x
 unfold fK
 simp only [DD,hb,ob_]
 generalize hws:spl 32 x=ws at *
 have hwant:(bif f then some ((⟨#[108,97,121,111,117,116]⟩:ByteArray),(4:Int))else some ((⟨#[122,111,110,101]⟩:ByteArray),7))=some (SB (wOf f),((kOf f+2:Nat):Int)):=by cases f <;> rfl
 have hd:=docTest b ws (wOf f) (kOf f) hne
 simp only [hwant,ob_,hd]
 cases hi:kJ b ws (wOf f) (kOf f)with
 | false =>
  rw [hi]at h1
  exact⟨[],[],[],_,false,h1,(λh=>by cases h),λl hl=>⟨_,_,rfl,(λh=>by cases h)⟩⟩
 | true =>
  rw [hi]at h1
  obtain ⟨m1,m2,m3⟩:=h2 hi
  unfold kJ at hi
  simp only [Bool.and_eq_true,decide_eq_true_eq]at hi
  obtain ⟨_,hl2,hw0⟩:=hi
  obtain ⟨w0,w1,rest,rfl⟩:∃w0 w1 rest,ws=w0::w1::rest:=by
   have hk:2<=ws.length:=by omega
   match ws,hk with
   | w0::w1::rest,_=>exact⟨w0,w1,rest,rfl⟩
  have hw0':w0=wOf f:=by simpa using hw0
  have i1:idx ((w0::w1::rest).map SB) 1=some (SB w1):=rfl
  have hsub:r9 ((w0::w1::rest).map SB) 2 (((w0::w1::rest).map SB).length:Int)=some (((w0::w1::rest).drop 2).map SB):=by
   unfold r9
   rw [if_pos (by simp;omega)]
   congr 1
   rw [Int.toNat_natCast,List.take_length]
   show List.drop 2 _=_
   rw [<- List.map_drop]
  refine⟨w1,ns,ms,_,ok,h1,λho=>⟨rfl,m3 ho,m2,hw w1 (by simp),λhf => ?_⟩,λl hl => ?_⟩
  ·subst hf
   have hr:rest.length=5:=by simpa [kOf]using hl2
   have hw0l:w0.length=4:=by rw [hw0'];rfl
   obtain ⟨a,c,d,e,g,rfl⟩:=Hq hr
   simp only [List.map_cons,List.map_nil,List.sum_cons,List.sum_nil]at hsum
   omega
  ·simp only [Bool.not_true,cond_false,hsub,ob_,m1,i1]
   cases f with
   | true =>
    obtain ⟨a,c,rfl⟩:=list2 m2
    have j0:idx [a,c] 0=some a:=rfl
    have j1:idx [a,c] 1=some c:=rfl
    simp only [cond_true,j0,j1,ob_]
    exact⟨_,_,rfl,λ_=>⟨rfl,rfl⟩⟩
   | false =>
    obtain ⟨a,c,d,e,g,rfl⟩:=Hq m2
    have j0:idx [a,c,d,e,g] 0=some a:=rfl
    have j1:idx [a,c,d,e,g] 1=some c:=rfl
    have j2:idx [a,c,d,e,g] 2=some d:=rfl
    have j3:idx [a,c,d,e,g] 3=some e:=rfl
    have j4:idx [a,c,d,e,g] 4=some g:=rfl
    simp only [cond_false,j0,j1,j2,j3,j4,ob_]
    rw [mZ _ _ (by simp only [List.length_cons,List.length_nil];omega)]
    exact⟨_,_,rfl,λ_=>⟨rfl,rfl⟩⟩
theorem HZ {c:UInt8}:∀{l:List UInt8},c∉l->Lib.indexByte l c = -1
 | [],_=>rfl
 | b::l,h=>by
  have hb:(b==c)=false:=by rw [beq_eq_false_iff_ne];exact λe=>h (by simp [e])
  have ih:=HZ (c:=c) (l:=l) (λe=>h (List.mem_cons_of_mem _ e))
  rw [Lib.indexByte,hb,ih];rfl
theorem FR {c:UInt8}:∀{x:List UInt8} (y:List UInt8),c∉x->Lib.indexByte (x++c::y) c=(x.length:Int)
 | [],y,_=>by
  show Lib.indexByte (c::y) c=0
  rw [Lib.indexByte,beq_self_eq_true];rfl
 | b::x,y,h=>by
  have hb:(b==c)=false:=by rw [beq_eq_false_iff_ne];exact λe=>h (by simp [e])
  have ih:=FR (c:=c) (x:=x) y (λe=>h (List.mem_cons_of_mem _ e))
  show Lib.indexByte (b::(x++c::y)) c=_
  rw [Lib.indexByte,hb,ih]
  have:(((x.length:Nat):Int) == -1)=false:=by rw [beq_eq_false_iff_ne];omega
  simp only [this,Bool.false_eq_true,if_false,List.length_cons]
  omega
theorem Jl (l:List UInt8):dE (SB l) (⟨#[10]⟩:ByteArray)=some (Lib.indexByte l 10):=by
 unfold dE
 have h0:(((⟨#[10]⟩:ByteArray).size:Int)==0)=false:=rfl
 have h1:(((⟨#[10]⟩:ByteArray).size:Int)==1)=true:=rfl
 have h2:sQ (⟨#[10]⟩:ByteArray) 0=some 10:=rfl
 rw [h0,cond_false,ob_,h1,h2]
 cases hs:sEq (⟨#[10]⟩:ByteArray) (SB l)with
 | true =>
  have : [10]=l:=BN (l:=[10]) ((jb _ _).1 hs)
  subst this
  rfl
 | false=>rfl
theorem cut_no {l:List UInt8} (h:(10:UInt8)∉l):strings_Cut (SB l) (⟨#[10]⟩:ByteArray)=some (SB l,(⟨#[]⟩:ByteArray),false):=by
 unfold strings_Cut dS
 rw [Jl,HZ h];rfl
theorem cut_yes {x:List UInt8} (y:List UInt8) (h:(10:UInt8)∉x) (hl:x.length+y.length<=1000000):strings_Cut (SB (x++10::y)) (⟨#[10]⟩:ByteArray)=some (SB x,SB y,true):=by
 have hlen:(x++10::y).length=x.length+1+y.length:=by simp;omega
 have e1:=Cq (x++10::y) 0 x.length (by omega) (by rw [hlen];omega)
 have e2:=Cq (x++10::y) (x.length+1) (x++10::y).length (by rw [hlen];omega) (Nat.le_refl _)
 rw [List.take_length]at e2
 have e3:((x++10::y).take x.length).drop 0=x:=by simp
 have e4:(x++10::y).drop (x.length+1)=y:=by
  rw [List.drop_append,List.drop_of_length_le (by omega),show x.length+1-x.length=1 by omega];rfl
 rw [e3]at e1
 rw [e4]at e2
 unfold strings_Cut dS
 rw [Jl,FR y h,ob_,decide_eq_true (by omega),cond_true]
 rw [show ((0:Nat):Int)=0 from rfl]at e1
 have hs1:((⟨#[10]⟩:ByteArray).size:Int)=1:=rfl
 have hw:w64 (((x.length:Nat):Int)+((⟨#[10]⟩:ByteArray).size:Int))=((x.length+1:Nat):Int):=by rw [hs1,eT (by omega)];rfl
 rw [e1,ob_,hw]
 rw [show ((SB (x++10::y)).size:Int)=(((x++10::y).length:Nat):Int) by rw [fD],e2]
 rfl
theorem IV (l:List UInt8):(10:UInt8)∉l\/∃x y,l=x++10::y/\(10:UInt8)∉x:=by
 by_cases h:(10:UInt8)∈l
 ·right
  induction l with
  | nil=>cases h
  | cons b l ih =>
   by_cases hb:b=10
   ·exact⟨[],l,by rw [hb];rfl,by simp⟩
   ·have:(10:UInt8)∈l:=by
     rcases List.mem_cons.1 h with h|h
     ·exact absurd h.symm hb
     ·exact h
    obtain ⟨x,y,e,hx⟩:=ih this
    refine⟨b::x,y,by rw [e];rfl,λhm => ?_⟩
    rcases List.mem_cons.1 hm with hm|hm
    ·exact hb hm.symm
    ·exact hx hm
 ·exact .inl h
abbrev L0:Layout:=⟨(⟨#[]⟩:ByteArray),0,0,[]⟩
def oh (f:Bool) (key:ByteArray) (ms:List Int) (l:Layout):Layout :=
 bif f then⟨key,ms.getD 0 0,ms.getD 1 0,l.Zones⟩else⟨l.Key,l.W,l.H,l.Zones++[⟨key,⟨ms.getD 0 0,ms.getD 1 0,ms.getD 2 0,ms.getD 3 0⟩,ms.getD 4 0⟩]⟩
theorem AV (f:Bool) (key:ByteArray) (ms:List Int) (l:Layout):(oh f key ms l).Zones.length<=l.Zones.length+1:=by cases f <;> simp [oh]
noncomputable def wu (k:Nat) (x:List UInt8) (l:Layout):Option Layout:=match eD (SB x) (SB (wOf (decide (k=0)))) ((kOf (decide (k=0)):Nat):Int)with
 | some (key,ns,true)=>some (oh (decide (k=0)) key ns l)
 | _=>none
theorem tY (k:Nat) (x:List UInt8) (hx:x.length<=900):∃(key:ByteArray) (ns:List Int) (ok:Bool),eD (SB x) (SB (wOf (decide (k=0)))) ((kOf (decide (k=0)):Nat):Int)=some (key,ns,ok) /\
  (∀l,wu k x l=bif ok then some (oh (decide (k=0)) key ns l)else none)/\(ok=true->ns.length=kOf (decide (k=0))/\key.size<=x.length/\(k≠0->10<=x.length)) /\
  ∀l:Layout,l.Zones.length<=1000000->∃f' l',fK (SB x) (decide (k=0)) l=some (ok,f',l')/\(ok=true->f'=false/\l'=oh (decide (k=0)) key ns l):=by
 obtain ⟨key,ns,ms,k',ok,h1,h2,h3⟩:=Jf x hx (decide (k=0))
 refine⟨k',ns,ok,h1,λl => ?_,λho => ?_,λl hl => ?_⟩
 ·unfold wu
  rw [h1]
  cases ok <;> rfl
 ·obtain ⟨a1,a2,a3,a4,a5⟩:=h2 ho
  refine⟨by rw [a2];exact a3,by rw [a1,fD];exact a4,λhk=>a5 (decide_eq_false hk)⟩
 ·obtain ⟨f',l',b1,b2⟩:=h3 l hl
  refine⟨f',l',b1,λho => ?_⟩
  obtain ⟨a1,a2,a3,a4,a5⟩:=h2 ho
  obtain ⟨c1,c2⟩:=b2 ho
  refine⟨c1,?_⟩
  rw [c2,a1,a2];rfl
noncomputable def lns:List (List UInt8)->Nat->Layout->Sum Nat Layout
 | [],_,l => .inr l
 | [x],k,l=>if x=[]then .inr l else .inl k
 | x::y::r,k,l=>match wu k x l with
  | none => .inl k
  | some l'=>lns (y::r) (k+1) l'
def LBnd (l:Layout):Prop:=l.Key.size<=900/\∀z∈l.Zones,z.Key.size<=900
theorem CY:∀(qs:List (List UInt8)) (k:Nat) (l o:Layout),(∀q∈qs,q.length<=900)->LBnd l->lns qs k l = .inr o->LBnd o/\11*o.Zones.length<=11*l.Zones.length+(qs.map λq=>q.length+1).sum
 | [],_,l,o,_,hg,h=>by
  simp only [lns,Sum.inr.injEq]at h
  subst h
  exact⟨hg,by simp⟩
 | [x],k,l,o,_,hg,h=>by
  unfold lns at h
  split at h
  ·simp only [Sum.inr.injEq]at h
   subst h
   exact⟨hg,by omega⟩
  ·cases h
 | x::y::r,k,l,o,hq,hg,h=>by
  obtain ⟨key,ns,ok,a1,a2,a3,_⟩:=tY k x (hq x (by simp))
  unfold lns at h
  rw [a2]at h
  cases ok with
  | false=>cases h
  | true =>
   simp only [cond_true]at h
   obtain ⟨c1,c2,c3⟩:=a3 rfl
   have hx:=hq x (by simp)
   obtain ⟨b1,b2⟩:=CY (y::r) (k+1) (oh (decide (k=0)) key ns l) o (λq hm=>hq q (by simp [hm])) (by
    unfold oh LBnd
    cases hk:decide (k=0)with
    | true=>exact⟨by show key.size<=900;omega,hg.2⟩
    | false =>
     refine⟨hg.1,λz hz => ?_⟩
     rcases List.mem_append.1 hz with hz|hz
     ·exact hg.2 z hz
     ·rw [List.mem_singleton.1 hz];show key.size<=900;omega) h
   refine⟨b1,?_⟩
   rw [List.map_cons,List.sum_cons]
   have hz:11*(oh (decide (k=0)) key ns l).Zones.length<=11*l.Zones.length+(x.length+1):=by
    unfold oh
    cases hk:decide (k=0)with
    | true=>simp
    | false =>
     have:=c3 (of_decide_eq_false hk)
     simp only [cond_false,List.length_append,List.length_cons,List.length_nil];omega
   omega
theorem zU:∀(n:Nat) (t:List UInt8) (k:Nat) (l:Layout),t.length<=n->t.length<=900->k+t.length<=100000->l.Zones.length+t.length<=100000 ->
  ∃m,match lns (spl 10 t) k l with
   | .inl i=>∃f o,iterN dn m (l.Zones,SB t,(k:Int),decide (k=0),l.Key,l.W,l.H)=some (.ret ((i:Int),false,f,o))
   | .inr o=>∃u j,iterN dn m (l.Zones,SB t,(k:Int),decide (k=0),l.Key,l.W,l.H)=some (.go (o.Zones,u,j,decide (k=0/\t=[]),o.Key,o.W,o.H))
 | n,t,k,l,hn,hl,hk,ho=>by
  cases hle:t with
  | nil =>
   refine⟨1,?_⟩
   simp only [spl,lns,if_true]
   refine⟨SB [],(k:Int),?_⟩
   simp only [iterN,dn]
   rw [show sNe (SB []) (⟨#[]⟩:ByteArray)=false by show (!sEq (SB []) (⟨#[]⟩:ByteArray))=false;rw [zb];rfl]
   simp only [and_true]
   rfl
  | cons b0 l0 =>
  have hne:t ≠ []:=by rw [hle];simp
  rw [<- hle]
  have hsn:sNe (SB t) (⟨#[]⟩:ByteArray)=true:=by show (!sEq (SB t) (⟨#[]⟩:ByteArray))=true;rw [zb,hle];rfl
  rcases IV t with h|⟨x,y,e,hx⟩
  ·refine⟨1,?_⟩
   rw [IL h]
   simp only [lns,if_neg hne]
   refine⟨decide (k=0),l,?_⟩
   simp only [iterN,dn]
   rw [hsn,cond_true,cut_no h];rfl
  ·have hlen:t.length=x.length+1+y.length:=by rw [e];simp;omega
   obtain ⟨key,ns,ok,a1,a2,a3,a4⟩:=tY k x (by omega)
   obtain ⟨f',l',b1,b2⟩:=a4 l (by omega)
   have hspl:spl 10 t=x::spl 10 y:=by rw [e];exact FL y hx
   obtain ⟨y0,r,hy⟩:∃y0 r,spl 10 y=y0::r:=by
    cases h:spl 10 y with
    | nil=>exact absurd h (tT 10 y)
    | cons y0 r=>exact⟨y0,r,rfl⟩
   have hstep:dn (l.Zones,SB t,(k:Int),decide (k=0),l.Key,l.W,l.H)=some (bif ok then .go (l'.Zones,SB y,((k+1:Nat):Int),f',l'.Key,l'.W,l'.H)else .ret ((k:Int),false,f',l')):=by
    unfold dn
    simp only []
    rw [hsn,cond_true,e,cut_yes y hx (by omega),ob_]
    simp only [Bool.not_true,cond_false,b1,ob_]
    cases ok with
    | false=>rfl
    | true =>
     simp only [Bool.not_true,cond_false,cond_true]
     rw [eT (by omega)];rfl
   rw [hspl,hy]
   unfold lns
   rw [a2]
   cases ok with
   | false =>
    refine⟨1,?_⟩
    simp only [cond_false]
    refine⟨f',l',?_⟩
    simp only [iterN,hstep];rfl
   | true =>
    simp only [cond_true]
    obtain ⟨rfl,rfl⟩:=b2 rfl
    match n,hn with
    | 0,hn=>omega
    | n+1,hn =>
    have hzl:=AV (decide (k=0)) key ns l
    obtain ⟨m,hm⟩:=zU n y (k+1) (oh (decide (k=0)) key ns l) (by omega) (by omega) (by omega) (by omega)
    rw [hy]at hm
    refine⟨m+1,?_⟩
    have hit:iterN dn (m+1) (l.Zones,SB t,(k:Int),decide (k=0),l.Key,l.W,l.H)=iterN dn m ((oh (decide (k=0)) key ns l).Zones,SB y,((k+1:Nat):Int),decide (k+1=0),(oh (decide (k=0)) key ns l).Key,(oh (decide (k=0)) key ns l).W,(oh (decide (k=0)) key ns l).H):=by
     rw [iterN,hstep]
     rw [show decide (k+1=0)=false from decide_eq_false (by omega)];rfl
    rw [hit]
    have e1:decide (k+1=0/\y=[])=false:=decide_eq_false (λh=>by omega)
    have e2:decide (k=0/\t=[])=false:=decide_eq_false (λh=>hne h.2)
    rw [e1]at hm
    rw [e2]
    exact hm
theorem want_eq (k:Nat):(bif ((k:Int)==0)then some ((⟨#[108,97,121,111,117,116]⟩:ByteArray),(2:Int))else some ((⟨#[122,111,110,101]⟩:ByteArray),5))=some (SB (wOf (decide (k=0))),((kOf (decide (k=0)):Nat):Int)):=by
 by_cases h:k=0
 ·subst h;rfl
 ·rw [decide_eq_false h,show ((k:Int)==0)=false by rw [beq_eq_false_iff_ne];omega];rfl
theorem vQ (r:(List ByteArray)×Bool) (k:Nat) (x:List UInt8) (hx:x.length<=900) (l:Layout) (hl:l.Zones.length<=1000000) (v:Bool) (hv:(bif (!r.2)then some ((k:Int)==(w64 ((r.1.length:Int)-1)))else some false)=some v) :
  d9 r k (SB x) (l.Zones,l.Key,l.W,l.H)=some (match wu k x l with | none => .ret (L0,(k:Int),9) | some o=>bif v then .ret (L0,(k:Int),9)else .go (o.Zones,o.Key,o.W,o.H)):=by
 obtain ⟨key,ns,ok,a1,a2,a3,_⟩:=tY k x hx
 unfold d9
 rw [want_eq,ob_]
 simp only []
 rw [a1,ob_,a2]
 cases ok with
 | false=>rfl
 | true =>
  simp only [Bool.not_true,cond_false,cond_true,hv,ob_]
  cases v with
  | true=>rfl
  | false =>
   simp only [cond_false]
   obtain ⟨c1,_,_⟩:=a3 rfl
   by_cases h:k=0
   ·subst h
    obtain ⟨a,c,rfl⟩:=list2 c1
    rfl
   ·rw [decide_eq_false h]at c1 ⊢
    rw [show ((k:Int)==0)=false by rw [beq_eq_false_iff_ne];omega]
    obtain ⟨a,c,d,e,g,rfl⟩:=Hq c1
    have j0:idx [a,c,d,e,g] 0=some a:=rfl
    have j1:idx [a,c,d,e,g] 1=some c:=rfl
    have j2:idx [a,c,d,e,g] 2=some d:=rfl
    have j3:idx [a,c,d,e,g] 3=some e:=rfl
    have j4:idx [a,c,d,e,g] 4=some g:=rfl
    simp only [cond_false,j0,j1,j2,j3,j4,ob_]
    rw [mZ _ _ (by simp only [List.length_cons,List.length_nil];omega)]
    rfl
theorem CE (k:Nat) (x:List UInt8) (hx:x.length<=900) (l o:Layout) (h:wu k x l=some o):o.Zones.length<=l.Zones.length+1:=by
 obtain ⟨key,ns,ok,a1,a2,a3,_⟩:=tY k x hx
 rw [a2]at h
 cases ok with
 | false=>cases h
 | true =>
  simp only [cond_true,so_]at h
  subst h;exact AV _ _ _ _
theorem zV (r:(List ByteArray)×Bool) (hr:r.2=true):∀(qs:List (List UInt8)) (k:Nat) (l:Layout),qs ≠ []->qs.getLast? = some []->(∀q∈qs,q.length<=900)->l.Zones.length+qs.length<=100000 ->
  forR (λk x s=>d9 r k x s) (qs.dropLast.map SB) k (l.Zones,l.Key,l.W,l.H)=some (match lns qs k l with | .inl i => .ret (L0,(i:Int),9) | .inr o => .go (o.Zones,o.Key,o.W,o.H))
 | [],_,_,h,_,_,_=>absurd rfl h
 | [x],k,l,_,hx,_,_=>by
  simp only [List.getLast?_singleton,so_]at hx
  subst hx
  simp only [lns,if_true];rfl
 | x::y::t,k,l,_,hx,hq,ho=>by
  have ho2:l.Zones.length+(t.length+1+1)<=100000:=by simpa using ho
  have hst:=vQ r k x (hq x (by simp)) l (by omega) false (by rw [hr];rfl)
  rw [List.dropLast_cons_cons,List.map_cons,forR,hst,ob_]
  unfold lns
  cases hs:wu k x l with
  | none=>rfl
  | some o =>
   have hol:=CE k x (hq x (by simp)) l o hs
   simp only [cond_false]
   exact zV r hr (y::t) (k+1) o (by simp) (by rw [<- hx];simp) (λq hm=>hq q (by simp [hm])) (by simp only [List.length_cons];omega)
theorem xR (r:(List ByteArray)×Bool) (hr:r.2=false) (hrl:r.1.length<=100000):∀(qs:List (List UInt8)) (k:Nat) (l:Layout),qs ≠ []->qs.getLast? ≠ some []->k+qs.length=r.1.length->(∀q∈qs,q.length<=900)->l.Zones.length+qs.length<=100000 ->
  forR (λk x s=>d9 r k x s) (qs.map SB) k (l.Zones,l.Key,l.W,l.H)=some (match lns qs k l with | .inl i => .ret (L0,(i:Int),9) | .inr o => .go (o.Zones,o.Key,o.W,o.H))
 | [],_,_,h,_,_,_,_=>absurd rfl h
 | [x],k,l,_,hx,hk,hq,ho=>by
  simp only [List.getLast?_singleton,ne_eq,so_]at hx
  simp only [List.length_cons,List.length_nil]at hk ho
  have hst:=vQ r k x (hq x (by simp)) l (by omega) true (by rw [hr,eT (by omega),show ((k:Int)==((r.1.length:Int)-1))=true by rw [beq_iff_eq];omega];rfl)
  rw [List.map_cons,forR,hst]
  simp only [lns,if_neg hx]
  cases wu k x l <;> rfl
 | x::y::t,k,l,_,hx,hk,hq,ho=>by
  have ho2:l.Zones.length+(t.length+1+1)<=100000:=by simpa using ho
  simp only [List.length_cons]at hk
  have hst:=vQ r k x (hq x (by simp)) l (by omega) false (by rw [hr,eT (by omega),show ((k:Int)==((r.1.length:Int)-1))=false by rw [beq_eq_false_iff_ne];omega];rfl)
  rw [List.map_cons,forR,hst,ob_]
  unfold lns
  cases hs:wu k x l with
  | none=>rfl
  | some o =>
   have hol:=CE k x (hq x (by simp)) l o hs
   simp only [cond_false]
   exact xR r hr hrl (y::t) (k+1) o (by simp) (by simpa using hx) (by simp only [List.length_cons];omega) (λq hm=>hq q (by simp [hm])) (by simp only [List.length_cons];omega)
theorem E9 (zs:List Zone) (hl:zs.length<=1000):cB zs zs=some true:=by
 unfold cB
 have key:∀(xs:List Zone) (k:Nat),(∀i x,xs[i]? = some x->zs[k+i]? = some x)->forR (λk x s=>bf zs k x s) xs k ()=some (.go ()):=by
  intro xs
  induction xs with
  | nil=>exact λk _=>rfl
  | cons x xs ih =>
   intro k h
   have hk:=h 0 x rfl
   rw [Nat.add_zero]at hk
   have hstep:bf zs k x ()=some (.go ()):=by
    unfold bf
    rw [Bl,hk,ob_]
    simp
   rw [forR,hstep,ob_]
   exact ih (k+1) (λi y hy=>by have:=h (i+1) y hy;rw [show k+1+i=k+(i+1) by omega];exact this)
 rw [bne_self_eq_false,cond_false,iR (by omega),key zs 0 (λi x hx=>by rw [Nat.zero_add];exact hx),ob_];rfl
theorem zW (l:Layout) (hl:l.Zones.length<=1000):fV l l=some true:=by
 unfold fV
 rw [(jb _ _).2 rfl,E9 l.Zones hl]
 simp
theorem Gz (t:List UInt8) (hl:t.length<=300):∃r:Layout×Int×Int,jl (SB t)=some r/\fe (SB t)=some r/\fV r.1 r.1=some true:=by
 have hsz:decide (((SB t).size:Int)>200000)=false:=by rw [fD];exact decide_eq_false (by omega)
 obtain ⟨sz1,sz2⟩:=oO 10 t
 have hne:=tT 10 t
 have hq:∀q∈spl 10 t,q.length<=900:=λq h=>Nat.le_trans (sz2 q h) (by omega)
 have h00:fV L0 L0=some true:=zW L0 (by simp)
 obtain ⟨m,hm⟩:=zU t.length t 0 L0 (Nat.le_refl _) (by omega) (by omega) (by show 0+t.length<=_;omega)
 have hsp:=DR 10 (s:=SB t) (by rw [fD];omega)
 rw [show (List.map (λl=>(⟨l.toArray⟩:ByteArray)) (spl 10 (SB t).data.toList))=(spl 10 t).map SB from rfl]at hsp
 have hpl:((spl 10 t).map SB).length=(spl 10 t).length:=List.length_map ..
 have hpos:0<(spl 10 t).length:=List.length_pos_iff.2 hne
 have hw:w64 ((((spl 10 t).map SB).length:Int)-1)=(((spl 10 t).length-1:Nat):Int):=by rw [hpl,eT (by omega)];omega
 obtain ⟨z,hz⟩:∃z,(spl 10 t).getLast? = some z:=⟨_,List.getLast?_eq_some_getLast hne⟩
 have hix:idx ((spl 10 t).map SB) (((spl 10 t).length-1:Nat):Int)=some (SB z):=by
  rw [Bl,List.getElem?_map,<- List.getLast?_eq_getElem?,hz];rfl
 have e0:((0:Nat):Int)=0:=rfl
 rw [e0]at hm
 by_cases ht:t=[]
 ·-- nothing at all
  subst ht
  refine⟨(L0,0,9),?_,?_,h00⟩
  ·unfold jl oP
   rw [hsz,cond_false,hsp,ob_,hw,hix]
   simp only [spl,List.getLast?_singleton,so_]at hz
   subst hz
   rw [ob_,zb,show r9 ((spl 10 []).map SB) 0 (((spl 10 []).length-1:Nat):Int)=some [] from rfl]
   simp only [List.isEmpty_nil,cond_true,ob_]
   rfl
  ·have hlns:lns (spl 10 []) 0 L0 = .inr L0:=by simp [spl,lns]
   rw [hlns]at hm
   obtain ⟨u,j,ho⟩:=hm
   unfold fe jF
   rw [hsz,cond_false]
   rw [show decide (0=0)=true from rfl]at ho
   rw [lJ ho];rfl
 have hread:jl (SB t)=(match lns (spl 10 t) 0 L0 with
   | .inl i=>some (L0,(i:Int),9)
   | .inr o=>(dI o).bind λr_52=>bif (r_52 != 0)then some (L0,0,r_52)else some (o,0,0)):=by
  unfold jl oP
  rw [hsz,cond_false,hsp,ob_,hw,hix,ob_,zb]
  cases z with
  | nil =>
   have hdl:r9 ((spl 10 t).map SB) 0 (((spl 10 t).length-1:Nat):Int)=some ((spl 10 t).dropLast.map SB):=by
    unfold r9
    rw [if_pos (by rw [hpl];omega),Int.toNat_natCast]
    congr 1
    rw [show Int.toNat 0=0 from rfl,List.drop_zero,<- List.map_take,<- List.dropLast_eq_take]
   have h2:2<=(spl 10 t).length:=by
    rcases Nat.lt_or_ge (spl 10 t).length 2 with h|h
    ·exfalso
     obtain ⟨a,ha⟩:∃a,spl 10 t=[a]:=by
      match hs:spl 10 t,hpos,h with
      | [a],_,_=>exact⟨a,rfl⟩
     rw [ha]at hz
     simp only [List.getLast?_singleton,so_]at hz
     subst hz
     have:=DW 10 t
     rw [ha,Lib.join_one]at this
     exact ht this.symm
    ·exact h
   simp only [List.isEmpty_nil,cond_true]
   rw [hdl]
   simp only [ob_]
   rw [show ((((spl 10 t).dropLast.map SB).length:Int)==0)=false by rw [beq_eq_false_iff_ne,List.length_map,List.length_dropLast];omega,cond_false]
   have hle:=zV ((spl 10 t).dropLast.map SB,true) rfl (spl 10 t) 0 L0 hne hz hq (by show 0+_<=_;omega)
   rw [iR (by rw [List.length_map,List.length_dropLast];omega)]
   have hle2:forR (λk x s=>d9 ((spl 10 t).dropLast.map SB,true) k x s) ((spl 10 t).dropLast.map SB) 0 (([]:List Zone),(⟨#[]⟩:ByteArray),0,0)=_:=hle
   rw [hle2]
   cases lns (spl 10 t) 0 L0 <;> rfl
  | cons z0 zs =>
   simp only [List.isEmpty_cons,cond_false,ob_]
   rw [show ((((spl 10 t).map SB).length:Int)==0)=false by rw [beq_eq_false_iff_ne,hpl];omega,cond_false]
   have hle:=xR ((spl 10 t).map SB,false) rfl (by rw [hpl];omega) (spl 10 t) 0 L0 hne (by rw [hz];simp) (by rw [hpl];omega) hq (by show 0+_<=_;omega)
   rw [iR (by rw [hpl];omega)]
   have hle2:forR (λk x s=>d9 ((spl 10 t).map SB,false) k x s) ((spl 10 t).map SB) 0 (([]:List Zone),(⟨#[]⟩:ByteArray),0,0)=_:=hle
   rw [hle2]
   cases lns (spl 10 t) 0 L0 <;> rfl
 rw [hread]
 cases hr:lns (spl 10 t) 0 L0 with
 | inl i =>
  rw [hr]at hm
  obtain ⟨f,o,ho⟩:=hm
  refine⟨_,rfl,?_,h00⟩
  unfold fe jF
  rw [show decide (0=0)=true from rfl]at ho
  rw [hsz,cond_false,lJ ho];rfl
 | inr o =>
  rw [hr]at hm
  obtain ⟨u,j,ho⟩:=hm
  obtain ⟨⟨g1,g2⟩,g3⟩:=CY (spl 10 t) 0 L0 o hq ⟨by show (0:Nat)<=_;omega,λz hz=>by cases hz⟩ hr
  rw [Cg]at g3
  have g4:o.Zones.length<=30:=by
   have:11*o.Zones.length<=11*0+(t.length+1):=g3
   omega
  obtain ⟨e,e1,e2,_⟩:=Bb o (by omega) (λz hz=>by have:=g2 z hz;omega) g4
  have href:fe (SB t)=(fE o).bind λr_14=>bif (r_14 != 0)then some (L0,0,r_14)else some (o,0,0):=by
   unfold fe jF
   rw [show decide (0=0)=true from rfl,show decide (0=0/\t=[])=false from decide_eq_false (λh=>ht h.2)]at ho
   rw [hsz,cond_false,lJ ho];rfl
  rw [href]
  simp only []
  rw [e1,e2]
  cases hb:(e != 0)with
  | true =>
   refine⟨(L0,0,e),?_,?_,h00⟩
   ·simp only [ob_,hb,cond_true]
   ·simp only [ob_,hb,cond_true]
  | false =>
   refine⟨(o,0,0),?_,?_,zW o (by omega)⟩
   ·simp only [ob_,hb,cond_false]
   ·simp only [ob_,hb,cond_false]
theorem Bu (s:Stream) {b:Int} (hs:Ok s b) (hb:b<=900000):∃r s',fG s=some (r,s')/\Ok s' (b+4):=by
 unfold fG
 obtain ⟨x,s1,a1,a2,a3,a4⟩:=ig s (-2) 8 hs (by omega) (by omega) (by omega) (by omega)
 obtain ⟨y,s2,b1,b2,b3,b4⟩:=ig s1 (-2) 8 a4 (by omega) (by omega) (by omega) (by omega)
 obtain ⟨w,s3,c1,c2,c3,c4⟩:=ig s2 1 5 b4 (by omega) (by omega) (by omega) (by omega)
 obtain ⟨h,s4,d1,d2,d3,d4⟩:=ig s3 1 5 c4 (by omega) (by omega) (by omega) (by omega)
 simp only [a1,b1,c1,d1,ob_]
 exact⟨_,_,rfl,d4.mono (by omega)⟩
theorem rect_ok (s:Stream) {b:Int} (hs:Ok s b) (hb:b<=800000):∃r s',jg s=some (r,s')/\Ok s' (b+10):=by
 unfold jg
 obtain ⟨r,s1,a1,a2⟩:=Bu s hs (by omega)
 obtain ⟨c,s2,b1,b2⟩:=uh s1 20 a2 (by omega) (by decide) (by decide)
 simp only [a1,b1,ob_]
 cases c with
 | false=>exact⟨_,_,rfl,b2.mono (by omega)⟩
 | true =>
  obtain ⟨k,s3,c1,c2,c3,c4⟩:=mU s2 3 b2 (by omega) (by decide) (by decide)
  simp only [cond_true,c1,ob_]
  cases h0:k==0 with
  | true =>
   obtain ⟨v,s4,d1,d2⟩:=yw s3 (-100000) 99999 c4 (by omega) (by decide) (by decide) (by decide)
   simp only [cond_true,d1,ob_]
   exact⟨_,_,rfl,d2.mono (by omega)⟩
  | false =>
   cases h1:k==1 with
   | true =>
    obtain ⟨v,s4,d1,d2⟩:=yw s3 1 200000 c4 (by omega) (by decide) (by decide) (by decide)
    obtain ⟨u,s5,e1,e2⟩:=yw s4 1 5 d2 (by omega) (by decide) (by decide) (by decide)
    simp only [cond_true,cond_false,d1,e1,ob_]
    exact⟨_,_,rfl,e2.mono (by omega)⟩
   | false =>
    obtain ⟨v,s4,d1,_,d2⟩:=lQ s3 [(-100000),99999] c4 (by omega) (by simp) (by simp)
    obtain ⟨u,s5,e1,_,e2⟩:=lQ s4 [1,2,200000] d2 (by omega) (by simp) (by simp)
    simp only [cond_false,d1,e1,ob_]
    exact⟨_,_,rfl,e2.mono (by omega)⟩
theorem Gl (l:List Zone) (h:l.length<=1000000):cz l=some l:=by
 unfold cz
 rw [mZ _ _ (by simp;omega)];rfl
def LOk (l:Layout):Prop:=l.Key.size<=1000/\(∀z∈l.Zones,z.Key.size<=1000)
theorem x8 (s:Stream) {b:Int} (hs:Ok s b) (hb:b<=700000):∃w s',bQ s=some (w,s')/\LOk w/\w.Zones.length<=4/\Ok s' (b+50):=by
 unfold bQ
 obtain ⟨W,s1,a1,a0,a2⟩:=lQ s [5,8,10,16] hs (by omega) (by simp) (by simp)
 obtain ⟨H,s2,b1,b0,b2⟩:=lQ s1 [4,6,9] a2 (by omega) (by simp) (by simp)
 have hW:1<=W/\W<=100:=by simp only [List.mem_cons,List.not_mem_nil,or_false]at a0;omega
 have hH:1<=H/\H<=100:=by simp only [List.mem_cons,List.not_mem_nil,or_false]at b0;omega
 simp only [a1,b1,ob_]
 have hkeys:∀k∈([(⟨#[122,97]⟩:ByteArray),(⟨#[122,98]⟩:ByteArray),(⟨#[122,99]⟩:ByteArray),(⟨#[122,100]⟩:ByteArray)]:List ByteArray),k.size<=1000:=by
  intro k hk
  simp only [List.mem_cons,List.not_mem_nil,or_false]at hk
  rcases hk with rfl|rfl|rfl|rfl <;> exact Nat.le_of_ble_eq_true rfl
 generalize hks:([(⟨#[122,97]⟩:ByteArray),(⟨#[122,98]⟩:ByteArray),(⟨#[122,99]⟩:ByteArray),(⟨#[122,100]⟩:ByteArray)]:List ByteArray)=ks at *
 have hkl:ks.length=4:=by rw [<- hks];rfl
 obtain ⟨t,t1,t2,t3,t4⟩:=y9 (body:=λk x s=>bM (W,s1) (H,s2) k x s) (s:=(([]:List Zone),s2.L,s2.f_at)) (λj t=>t.1.length<=j/\(∀s∈t.1,s.Key.size<=1000)/\Ok ⟨t.2.1,t.2.2⟩ (b+2+10*j)) (xs:=ks) (by rw [hkl];omega) (λj x t hx hj ⟨i1,i2,i3⟩=>by
  rw [hkl]at hj
  unfold bM
  simp only
  obtain ⟨g,q0,g1,g2⟩:=uh _ 5 i3 (by omega) (by decide) (by decide)
  simp only [g1,ob_]
  cases g with
  | true=>exact⟨_,rfl,by simp;omega,i2,g2.mono (by omega)⟩
  | false =>
   rw [cond_false,eT (n:=W-1) (by omega),eT (n:=H-1) (by omega)]
   obtain ⟨X,q1,c1,c2,c3,c4⟩:=ig q0 0 (W-1) g2 (by omega) (by omega) (by omega) (by omega)
   obtain ⟨Y,q2,d1,d2,d3,d4⟩:=ig q1 0 (H-1) c4 (by omega) (by omega) (by omega) (by omega)
   obtain ⟨O,q3,o1,o2,o3⟩:=lQ q2 [0,0,1,2] d4 (by omega) (by simp) (by simp)
   obtain ⟨U,q4,e1,e2,e3,e4⟩:=ig q3 1 (W-X) o3 (by omega) (by omega) (by omega) (by omega)
   obtain ⟨V,q5,f1,f2,f3,f4⟩:=ig q4 1 (H-Y) e4 (by omega) (by omega) (by omega) (by omega)
   simp only [c1,d1,o1,ob_]
   rw [eT (n:=W-X) (by omega),eT (n:=H-Y) (by omega)]
   simp only [e1,f1,ob_]
   rw [mZ _ _ (by simp;omega)]
   refine⟨_,rfl,by simp;omega,λs hs => ?_,f4.mono (by omega)⟩
   rcases List.mem_append.1 hs with hs|hs
   ·exact i2 s hs
   ·rw [List.mem_singleton]at hs;subst hs;exact hkeys x hx) ⟨Nat.zero_le _,λs hs=>(by cases hs),b2.mono (by omega)⟩
 rw [hkl]at t2 t4
 rw [t1]
 exact⟨_,_,rfl,⟨Nat.le_of_ble_eq_true rfl,t3⟩,t2,t4.mono (by omega)⟩
theorem EI (s:Stream) {b:Int} (hs:Ok s b) (hb:b<=600000):∃w s',ik s=some (w,s')/\LOk w/\w.Zones.length<=5/\Ok s' (b+100):=by
 unfold ik
 obtain ⟨w,s1,a1,⟨a2,a3⟩,a4,a5⟩:=x8 s hs (by omega)
 obtain ⟨c,s2,b1,b2⟩:=uh s1 10 a5 (by omega) (by decide) (by decide)
 simp only [a1,b1,ob_]
 cases c with
 | false=>exact⟨_,_,rfl,⟨a2,a3⟩,by show w.Zones.length<=5;omega,b2.mono (by omega)⟩
 | true =>
  obtain ⟨k,s3,c1,c2,c3,c4⟩:=mU s2 3 b2 (by omega) (by decide) (by decide)
  simp only [cond_true,c1,ob_]
  cases k==0 with
  | true =>
   obtain ⟨v,s4,d1,d0,d2⟩:=Fz s3 [(⟨#[]⟩:ByteArray),(⟨#[65]⟩:ByteArray)] c4 (by omega) (by simp) (by simp)
   simp only [cond_true,d1,ob_]
   refine⟨_,_,rfl,⟨?_,a3⟩,by show w.Zones.length<=5;omega,d2.mono (by omega)⟩
   simp only [List.mem_cons,List.not_mem_nil,or_false]at d0
   show v.size<=1000
   rcases d0 with rfl|rfl <;> exact Nat.le_of_ble_eq_true rfl
  | false =>
   cases k==1 with
   | true =>
    obtain ⟨v,s4,d1,d2⟩:=yw s3 1 10 c4 (by omega) (by decide) (by decide) (by decide)
    simp only [cond_true,cond_false,d1,ob_]
    exact⟨_,_,rfl,⟨a2,a3⟩,by show w.Zones.length<=5;omega,d2.mono (by omega)⟩
   | false =>
    obtain ⟨v,s4,d1,d0,d2⟩:=Fz s3 [(⟨#[]⟩:ByteArray),(⟨#[122,97]⟩:ByteArray),(⟨#[122,122]⟩:ByteArray)] c4 (by omega) (by simp) (by simp)
    obtain ⟨r,s5,e1,e2⟩:=rect_ok s4 d2 (by omega)
    obtain ⟨u,s6,f1,f2⟩:=yw s5 0 1000 e2 (by omega) (by decide) (by decide) (by decide)
    simp only [cond_false,d1,e1,f1,ob_,Gl _ (show w.Zones.length<=1000000 by omega)]
    rw [mZ _ _ (by simp;omega)]
    simp only [ob_]
    refine⟨_,_,rfl,⟨a2,λz hz => ?_⟩,by simp;omega,f2.mono (by omega)⟩
    rcases List.mem_append.1 hz with hz|hz
    ·exact a3 z hz
    ·rw [List.mem_singleton]at hz;subst hz
     simp only [List.mem_cons,List.not_mem_nil,or_false]at d0
     show v.size<=1000
     rcases d0 with rfl|rfl|rfl <;> exact Nat.le_of_ble_eq_true rfl
def I7 (z:Zone):Prop:=z.Key.size<=4/\∀n ∈ [z.On.X,z.On.Y,z.On.W,z.On.H,z.Order],0<=n/\n<10000
def TinyL (l:Layout):Prop:=l.Key.size<=4/\(∀n ∈ [l.W,l.H],0<=n/\n<10000)/\∀z∈l.Zones,I7 z
theorem Ar {n:Int} (h0:0<=n) (h1:n<10000):(Lib.itoa n).length<=4:=by
 have hi:Lib.itoa n=Lib.decDigits n.toNat:=by unfold Lib.itoa;rw [if_neg (by omega)]
 rw [hi];exact II 3 _ (by omega)
theorem CV (s:Stream) {b:Int} (hs:Ok s b) (hb:b<=700000):∃w s',bQ s=some (w,s')/\TinyL w/\w.Zones.length<=4/\Ok s' (b+50):=by
 unfold bQ
 obtain ⟨W,s1,a1,a0,a2⟩:=lQ s [5,8,10,16] hs (by omega) (by simp) (by simp)
 obtain ⟨H,s2,b1,b0,b2⟩:=lQ s1 [4,6,9] a2 (by omega) (by simp) (by simp)
 have hW:1<=W/\W<=100:=by simp only [List.mem_cons,List.not_mem_nil,or_false]at a0;omega
 have hH:1<=H/\H<=100:=by simp only [List.mem_cons,List.not_mem_nil,or_false]at b0;omega
 simp only [a1,b1,ob_]
 have hkeys:∀k∈([(⟨#[122,97]⟩:ByteArray),(⟨#[122,98]⟩:ByteArray),(⟨#[122,99]⟩:ByteArray),(⟨#[122,100]⟩:ByteArray)]:List ByteArray),k.size<=4:=by
  intro k hk
  simp only [List.mem_cons,List.not_mem_nil,or_false]at hk
  rcases hk with rfl|rfl|rfl|rfl <;> exact Nat.le_of_ble_eq_true rfl
 generalize hks:([(⟨#[122,97]⟩:ByteArray),(⟨#[122,98]⟩:ByteArray),(⟨#[122,99]⟩:ByteArray),(⟨#[122,100]⟩:ByteArray)]:List ByteArray)=ks at *
 have hkl:ks.length=4:=by rw [<- hks];rfl
 obtain ⟨t,t1,t2,t3,t4⟩:=y9 (body:=λk x s=>bM (W,s1) (H,s2) k x s) (s:=(([]:List Zone),s2.L,s2.f_at)) (λj t=>t.1.length<=j/\(∀s∈t.1,I7 s)/\Ok ⟨t.2.1,t.2.2⟩ (b+2+10*j)) (xs:=ks) (by rw [hkl];omega) (λj x t hx hj ⟨i1,i2,i3⟩=>by
  rw [hkl]at hj
  unfold bM
  simp only
  obtain ⟨g,q0,g1,g2⟩:=uh _ 5 i3 (by omega) (by decide) (by decide)
  simp only [g1,ob_]
  cases g with
  | true=>exact⟨_,rfl,by simp;omega,i2,g2.mono (by omega)⟩
  | false =>
   rw [cond_false,eT (n:=W-1) (by omega),eT (n:=H-1) (by omega)]
   obtain ⟨X,q1,c1,c2,c3,c4⟩:=ig q0 0 (W-1) g2 (by omega) (by omega) (by omega) (by omega)
   obtain ⟨Y,q2,d1,d2,d3,d4⟩:=ig q1 0 (H-1) c4 (by omega) (by omega) (by omega) (by omega)
   obtain ⟨O,q3,o1,o2,o3⟩:=lQ q2 [0,0,1,2] d4 (by omega) (by simp) (by simp)
   obtain ⟨U,q4,e1,e2,e3,e4⟩:=ig q3 1 (W-X) o3 (by omega) (by omega) (by omega) (by omega)
   obtain ⟨V,q5,f1,f2,f3,f4⟩:=ig q4 1 (H-Y) e4 (by omega) (by omega) (by omega) (by omega)
   simp only [c1,d1,o1,ob_]
   rw [eT (n:=W-X) (by omega),eT (n:=H-Y) (by omega)]
   simp only [e1,f1,ob_]
   rw [mZ _ _ (by simp;omega)]
   refine⟨_,rfl,by simp;omega,λs hs => ?_,f4.mono (by omega)⟩
   rcases List.mem_append.1 hs with hs|hs
   ·exact i2 s hs
   ·rw [List.mem_singleton]at hs;subst hs
    have hO:0<=O/\O<=2:=by simp only [List.mem_cons,List.not_mem_nil,or_false]at o2;omega
    refine⟨hkeys x hx,λn hn => ?_⟩
    simp only [List.mem_cons,List.not_mem_nil,or_false]at hn
    rcases hn with rfl|rfl|rfl|rfl|rfl <;> omega) ⟨Nat.zero_le _,λs hs=>(by cases hs),b2.mono (by omega)⟩
 rw [hkl]at t2 t4
 rw [t1]
 exact⟨_,_,rfl,⟨Nat.le_of_ble_eq_true rfl,λn hn=>by simp only [List.mem_cons,List.not_mem_nil,or_false]at hn;rcases hn with rfl | rfl <;> omega,t3⟩,t2,t4.mono (by omega)⟩
theorem Bd {z:Zone} (h:I7 z):qJ z/\(uB z).length<=40:=by
 have k:=h.1
 have hj:=pQ [32] 4 ([z.On.X,z.On.Y,z.On.W,z.On.H,z.Order].map Lib.itoa) (λx hx=>by
  obtain ⟨n,hn,rfl⟩:=List.mem_map.1 hx
  exact Ar (h.2 n hn).1 (h.2 n hn).2)
 refine⟨⟨by omega,λn hn=>by have:=h.2 n hn;unfold Med;omega⟩,?_⟩
 rw [Lib.size_eq]at k
 rw [uR]
 simp only [List.length_append,List.length_map,List.length_cons,List.length_nil,xh]at *
 omega
theorem Gu {l:Layout} (h:TinyL l) (hl:l.Zones.length<=4):yY l/\(∀z∈l.Zones,qJ z)/\(zu l).length<=200:=by
 have k:=h.1
 have hj:=pQ [32] 4 ([l.W,l.H].map Lib.itoa) (λx hx=>by
  obtain ⟨n,hn,rfl⟩:=List.mem_map.1 hx
  exact Ar (h.2.1 n hn).1 (h.2.1 n hn).2)
 have hz:=pK l.Zones 40 (λz hm=>(Bd (h.2.2 z hm)).2)
 refine⟨⟨by omega,λn hn=>by have:=h.2.1 n hn;unfold Med;omega⟩,λz hm=>(Bd (h.2.2 z hm)).1,?_⟩
 rw [Lib.size_eq]at k
 unfold zu
 rw [uG]
 simp only [List.length_append,List.length_map,List.length_cons,List.length_nil,xB]at *
 omega
theorem Cc (t:ByteArray) (a b:Nat) (h1:a<=b) (h2:b<=t.size):∃y,lc t (a:Int) (b:Int)=some y/\y.size=b-a:=by
 have hl:t.data.toList.length=t.size:=(Go.Lib.size_eq t).symm
 have:=Cq t.data.toList a b h1 (by omega)
 refine⟨_,this,?_⟩
 rw [fD,List.length_drop,List.length_take];omega
def chE:ByteArray:=⟨#[32,10,48,45,57,122,108]⟩
theorem enc_all:∀i:Fin 7,(Utf8.encode (IntKind.i32.wrap ((dL chE i.val).toNat:Int))).size<=4:=by decide +kernel
theorem uy (x y:ByteArray):(x++y).size=x.size+y.size:=ByteArray.size_append
theorem Gs (s:Stream) (t:ByteArray) {b:Int} (hs:Ok s b) (hb:b<=900000) (ht:t.size<=100000):∃r,fC s t chE=some r/\r.1.size<=t.size+7/\Ok r.2 (b+3):=by
 unfold fC
 have hw:sEq chE (⟨#[]⟩:ByteArray)=false:=by
  cases h:sEq chE (⟨#[]⟩:ByteArray)with
  | false=>rfl
  | true =>
   have:=congrArg ByteArray.size ((jb _ _).1 h)
   exact absurd this (by decide)
 rw [hw]
 cases h0:sEq t (⟨#[]⟩:ByteArray)with
 | true=>exact⟨_,rfl,by show chE.size<=_;rw [show chE.size=7 from rfl];omega,hs.mono (by omega)⟩
 | false =>
 have hpos:0<t.size:=by
  rcases Nat.eq_zero_or_pos t.size with h|h
  ·have:t=(⟨#[]⟩:ByteArray):=by
    have hl:t.data.toList=[]:=List.eq_nil_of_length_eq_zero (by rw [<- Go.Lib.size_eq];exact h)
    exact ((show t=SB t.data.toList from rfl)).trans (by rw [hl])
   rw [this,(jb _ _).2 rfl]at h0;cases h0
  ·exact h
 simp only [cond_false,ob_]
 obtain ⟨i,s1,a1,a2,a3,a4⟩:=mU s (t.size:Int) hs (by omega) (by omega) (by omega)
 obtain ⟨j,s2,b1,b2,b3,b4⟩:=mU s1 (chE.size:Int) a4 (by omega) (by decide) (by decide)
 obtain ⟨q,s3,c1,c2,c3,c4⟩:=mU s2 3 b4 (by omega) (by decide) (by decide)
 obtain ⟨i,rfl⟩:∃n:Nat,i=(n:Int):=⟨i.toNat,by omega⟩
 obtain ⟨j,rfl⟩:∃n:Nat,j=(n:Int):=⟨j.toNat,by omega⟩
 have hj:j<7:=by rw [show chE.size=7 from rfl]at b3;omega
 have hx:=q8 chE j (by rw [show chE.size=7 from rfl];exact hj)
 have he:=enc_all ⟨j,hj⟩
 obtain ⟨y0,d1,d2⟩:=Cc t 0 i (by omega) (by omega)
 obtain ⟨y1,e1,e2⟩:=Cc t (i+1) t.size (by omega) (Nat.le_refl _)
 obtain ⟨y2,f1,f2⟩:=Cc t i t.size (by omega) (Nat.le_refl _)
 rw [show ((0:Nat):Int)=0 from rfl]at d1
 have hwi:w64 ((i:Int)+1)=((i+1:Nat):Int):=by rw [eT (by omega)];rfl
 simp only [a1,b1,hx,c1,d1,ob_,hwi,e1,f1]
 generalize Utf8.encode (IntKind.i32.wrap ((dL chE j).toNat:Int))=z at he
 have g1:kS y0 z=some (y0++z):=uX (by omega)
 have z1:(y0++z).size=y0.size+z.size:=uy _ _
 have g2:kS (y0++z) y1=some (y0++z++y1):=uX (by omega)
 have g3:kS (y0++z) y2=some (y0++z++y2):=uX (by omega)
 have g4:kS y0 y1=some (y0++y1):=uX (by omega)
 have z2:(y0++z++y1).size=(y0++z).size+y1.size:=uy _ _
 have z3:(y0++z++y2).size=(y0++z).size+y2.size:=uy _ _
 have z4:(y0++y1).size=y0.size+y1.size:=uy _ _
 have hok:Ok s3 (b+3):=c4.mono (by omega)
 cases hq0:q==0 with
 | true =>
  simp only [cond_true,g1,g2,ob_]
  exact⟨_,rfl,by show (y0++z++y1).size<=_;omega,hok⟩
 | false =>
  simp only [cond_false]
  cases hq1:q==1 with
  | true =>
   simp only [cond_true,g1,g3,ob_]
   exact⟨_,rfl,by show (y0++z++y2).size<=_;omega,hok⟩
  | false =>
   simp only [cond_false,g4,ob_]
   exact⟨_,rfl,by show (y0++y1).size<=_;omega,hok⟩
theorem zO (s:Stream) {b:Int} (hs:Ok s b) (hb:b<=600000):∃r,fo s=some r/\r.1.size<=300:=by
 obtain ⟨l,s1,a1,a2,a3,a4⟩:=CV s hs (by omega)
 obtain ⟨w1,w2,w3⟩:=Gu a2 a3
 have hln:=wJ w1 w2 (by omega)
 obtain ⟨n,s2,c1,c2,c3⟩:=lQ s1 [0,0,1,2] a4 (by omega) (by decide) (by decide)
 have hn:0<=n/\n<=2:=by
  simp only [List.mem_cons,List.not_mem_nil,or_false]at c2
  rcases c2 with h|h|h|h <;> omega
 obtain ⟨u,d1,d2,d3⟩:=y9 (body:=λk x s=>dY k x s) (λk (s:ByteArray×List Int×Int)=>Ok ⟨s.2.1,s.2.2⟩ (b+301+3*k)/\s.1.size<=200+7*k) (xs:=List.range n.toNat) (s:=(SB (zu l),s2.L,s2.f_at)) (by rw [List.length_range];omega) (λk x t _ hk ⟨i1,i2⟩=>by
  have hk2:k<2:=by rw [List.length_range]at hk;omega
  obtain ⟨v,e1,e2,e3⟩:=Gs ⟨t.2.1,t.2.2⟩ t.1 i1 (by omega) (by omega)
  unfold dY
  have e1':fC ⟨t.2.1,t.2.2⟩ t.1 (⟨#[32,10,48,45,57,122,108]⟩:ByteArray)=some v:=e1
  rw [e1',ob_]
  refine⟨_,rfl,?_,?_⟩
  ·show Ok ⟨v.2.L,v.2.f_at⟩ _
   exact e3.mono (by omega)
  ·show v.1.size<=_
   omega) ⟨c3.mono (by simp;omega),by show (SB (zu l)).size<=_;rw [fD];omega⟩
 rw [List.length_range]at d2 d3
 unfold fo
 simp only [a1,hln,c1,ob_]
 rw [d1,ob_,qZ]
 exact⟨_,rfl,by show u.1.size<=_;omega⟩
def wN {σ ρ:Type} (s:σ) (body:σ->Option (Ctl σ ρ)):Option (Ctl σ ρ):=iterN body 300 s
def Le {α:Type} (a b:Option α):Prop:=∀r,a=some r->b=some r
theorem Le.refl {α:Type} (a:Option α):Le a a:=λ_ h=>h
theorem Le.bind {α β:Type} {a b:Option α} {f g:α->Option β} (h:Le a b) (k:∀x,Le (f x) (g x)):Le (a.bind f) (b.bind g):=λr e=>by
 obtain ⟨x,h1,h2⟩:=Option.bind_eq_some_iff.1 e
 rw [h x h1];exact k x r h2
theorem Le.cond {α:Type} {a b c d:Option α} {t:Bool} (h:Le a c) (k:Le b d):Le (bif t then a else b) (bif t then c else d):=by
 cases t
 ·exact k
 ·exact h
theorem Le.thenC {σ ρ τ:Type} {o:Ctl σ ρ} {f f':σ->Option τ} {g g':ρ->Option τ} (h:∀x,Le (f x) (f' x)) (k:∀x,Le (g x) (g' x)):Le (Go.Eng.thenC o f g) (Go.Eng.thenC o f' g'):=by
 cases o
 ·exact h _
 ·exact Le.refl _
 ·exact k _
theorem Le.forR {α σ ρ:Type} {b b':Nat->α->σ->Option (Ctl σ ρ)} (h:∀k x s,Le (b k x s) (b' k x s)):∀(xs:List α) (k:Nat) (s:σ),Le (Go.Eng.forR b xs k s) (Go.Eng.forR b' xs k s)
 | [],k,s=>Le.refl _
 | x::xs,k,s=>Le.bind (h k x s) (λc=>by
   cases c with
   | go s'=>exact Le.forR h xs _ _
   | brk s'=>exact Le.refl _
   | ret r=>exact Le.refl _)
theorem Le.forL {α σ ρ:Type} {xs:List α} {s:σ} {b b':Nat->α->σ->Option (Ctl σ ρ)} (h:∀k x s,Le (b k x s) (b' k x s)):Le (Go.Eng.forL xs s b) (Go.Eng.forL xs s b'):=by
 unfold Go.Eng.forL
 split
 ·exact Le.forR h xs 0 s
 ·exact Le.refl _
theorem Le.iterN {σ ρ:Type} {b b':σ->Option (Ctl σ ρ)} (h:∀s,Le (b s) (b' s)):∀(n:Nat) (s:σ),Le (Go.Eng.iterN b n s) (Go.Eng.iterN b' n s)
 | 0,s=>Le.refl _
 | n+1,s=>Le.bind (h s) (λc=>by
   cases c with
   | go s'=>exact Le.iterN h n s'
   | brk s'=>exact Le.refl _
   | ret r=>exact Le.refl _)
theorem Le.loop {σ ρ:Type} {s:σ} {b b':σ->Option (Ctl σ ρ)} (h:∀s,Le (b s) (b' s)):Le (wN s b) (lV s b'):=λr e=>lJ (Le.iterN h _ _ r e)
def GH (x:Int):List Int->List Int
 | []=>[x]
 | y::l=>bif decide (x<=y)then x::y::l else y::GH x l
def xS:List Int->List Int
 | []=>[]
 | x::l=>GH x (xS l)
theorem vv (x:Int):∀l,(GH x l).Perm (x::l)
 | [] => .refl _
 | y::l=>by
  unfold GH
  cases decide (x<=y)with
  | true=>exact .refl _
  | false=>exact ((vv x l).cons y).trans (List.Perm.swap x y l)
theorem wT:∀l,(xS l).Perm l
 | [] => .refl _
 | x::l=>(vv x _).trans ((wT l).cons x)
theorem xe (x:Int):∀l:List Int,l.Pairwise (· <= ·)->(GH x l).Pairwise (· <= ·)
 | [],_=>List.pairwise_singleton _ _
 | y::l,h=>by
  obtain ⟨h1,h2⟩:=List.pairwise_cons.1 h
  unfold GH
  by_cases hx:x<=y
  ·rw [decide_eq_true hx,cond_true]
   exact List.pairwise_cons.2 ⟨λz hz=>by
    rcases List.mem_cons.1 hz with rfl|hz
    ·exact hx
    ·exact Int.le_trans hx (h1 z hz),h⟩
  ·rw [decide_eq_false hx,cond_false]
   exact List.pairwise_cons.2 ⟨λz hz=>by
    rcases List.mem_cons.1 ((vv x l).mem_iff.1 hz)with rfl|hz
    ·omega
    ·exact h1 z hz,xe x l h2⟩
theorem su:∀l,(xS l).Pairwise (· <= ·)
 | [] => .nil
 | x::l=>xe x _ (su l)
theorem GR (l:List Int):l.mergeSort (λx y=>decide (x<=y))=xS l:=by
 refine List.Perm.eq_of_pairwise (le:=(· <= ·)) (λa b _ _ h1 h2=>Int.le_antisymm h1 h2) ?_ (su l) ((List.mergeSort_perm l _).trans (wT l).symm)
 have:=List.pairwise_mergeSort (le:=λ(x y:Int)=>decide (x<=y)) (λa b c=>by simp;omega) (λa b=>by simp;omega) l
 exact this.imp (by simp)
def H5 (l:List Int):Option (List Int):=bif Nat.ble l.length 1000 then some (xS l)else none
theorem HY (l:List Int):Le (H5 l) (fI l):=λr h=>by
 unfold H5 at h
 cases hb:Nat.ble l.length 1000 with
 | false=>rw [hb]at h;cases h
 | true =>
  rw [hb,cond_true]at h
  have:=Nat.le_of_ble_eq_true hb
  unfold fI FW
  rw [if_pos (by omega),GR];exact h
set_option maxRecDepth 100000
def fw (s_1:(List Int)) (s_8:Int):Option (Ctl (Int) ((List Int))) :=
 bif (decide (s_8<(s_1.length:Int)))then (inR s_8 s_1).bind λ_=>(s_1[(0+(s_8).toNat)]?).bind λe_15=>(inR (w64 (s_8-1)) s_1).bind λ_=>(s_1[(0+((w64 (s_8-1))).toNat)]?).bind λe_18=>bif (e_15==e_18)then (neL s_1).bind λ_=>(xu s_1 s_8 (s_1.length:Int)).bind λ_=>(wN (s_1,s_8,1) (λs=>dU s_1 s_8 s)).bind λo_31=>thenC o_31 (λs_28=>(xu s_28.1 s_28.2.1 (s_28.1.length:Int)).bind λ_=>(xu (s_28.1.take ((s_28.2.1).toNat)++List.replicate (((s_28.1.length:Int)).toNat-(s_28.2.1).toNat) 0++s_28.1.drop (((s_28.2.1).toNat)+(((s_28.1.length:Int)).toNat-(s_28.2.1).toNat))) 0 s_28.2.1).bind λ_=>some (.ret (cutL (s_28.1.take ((s_28.2.1).toNat)++List.replicate (((s_28.1.length:Int)).toNat-(s_28.2.1).toNat) 0++s_28.1.drop (((s_28.2.1).toNat)+(((s_28.1.length:Int)).toNat-(s_28.2.1).toNat))) 0 ((s_28.2.1).toNat)))) (λ_=>none)else some (.go (w64 (s_8+1)))else some (.brk s_8)
theorem lg (s_1:(List Int)) (s_8:Int):Le (fw s_1 s_8) (dx s_1 s_8):=by
 unfold fw dx
 repeat' (with_reducible first | exact Le.refl _ | refine Le.loop (λ_ => ?_) | refine Le.forL (λ_ _ _ => ?_) | refine Le.thenC (λ_ => ?_) (λ_ => ?_) | refine Le.cond ?_ ?_ | refine Le.bind ?_ (λ_ => ?_))
def fU (s_1:(List Int)):Option ((List Int)) :=
 bif (decide ((s_1.length:Int)<2))then some s_1 else (wN 1 (λs=>fw s_1 s)).bind λo_11=>thenC o_11 (λs_8=>some s_1) (λr=>some r)
theorem mJ (s_1:(List Int)):Le (fU s_1) (dN s_1):=by
 unfold fU dN
 repeat' (with_reducible first | exact Le.refl _ | exact lg _ _ | refine Le.loop (λ_ => ?_) | refine Le.forL (λ_ _ _ => ?_) | refine Le.thenC (λ_ => ?_) (λ_ => ?_) | refine Le.cond ?_ ?_ | refine Le.bind ?_ (λ_ => ?_))
def bP (b_3:Int) (a_2:Int) (s_10:(List Run)×Int):Option (Ctl ((List Run)×Int) (Unit)) :=
 bif (decide (s_10.2<b_3))then (wN (s_10.1,s_10.2) (λs=>bu a_2 s)).bind λo_24=>thenC o_24 (λs_21=>some (.go (s_21.1,(w64 (s_10.2+1))))) (λ_=>none)else some (.brk (s_10.1,s_10.2))
theorem gH (b_3:Int) (a_2:Int) (s_10:(List Run)×Int):Le (bP b_3 a_2 s_10) (aV b_3 a_2 s_10):=by
 unfold bP aV
 repeat' (with_reducible first | exact Le.refl _ | refine Le.loop (λ_ => ?_) | refine Le.forL (λ_ _ _ => ?_) | refine Le.thenC (λ_ => ?_) (λ_ => ?_) | refine Le.cond ?_ ?_ | refine Le.bind ?_ (λ_ => ?_))
def di (data_1:(List Run)) (a_2:Int) (b_3:Int):Option ((List Run)) :=
 (wN (data_1,(w64 (a_2+1))) (λs=>bP b_3 a_2 s)).bind λo_13=>thenC o_13 (λs_10=>some s_10.1) (λ_=>none)
theorem iC (data_1:(List Run)) (a_2:Int) (b_3:Int):Le (di data_1 a_2 b_3) (aW data_1 a_2 b_3):=by
 unfold di aW
 repeat' (with_reducible first | exact Le.refl _ | exact gH _ _ _ | refine Le.loop (λ_ => ?_) | refine Le.forL (λ_ _ _ => ?_) | refine Le.thenC (λ_ => ?_) (λ_ => ?_) | refine Le.cond ?_ ?_ | refine Le.bind ?_ (λ_ => ?_))
def dB (b_3:Int) (a_2:Int) (data_1:(List Run)) (limit_4:Int) (s_11:Unit):Option (Ctl (Unit) ((List Run))) :=
 bif (decide ((w64 (b_3-a_2))<=12))then (di data_1 a_2 b_3).bind λr_17=>(sj r_17 data_1).bind λ_=>some (.ret r_17)else bif (limit_4==0)then none else none
theorem iU (b_3:Int) (a_2:Int) (data_1:(List Run)) (limit_4:Int) (s_11:Unit):Le (dB b_3 a_2 data_1 limit_4 s_11) (bg b_3 a_2 data_1 limit_4 s_11):=by
 unfold dB bg
 repeat' (with_reducible first | exact Le.refl _ | exact iC _ _ _ | refine Le.loop (λ_ => ?_) | refine Le.forL (λ_ _ _ => ?_) | refine Le.thenC (λ_ => ?_) (λ_ => ?_) | refine Le.cond ?_ ?_ | refine Le.bind ?_ (λ_ => ?_))
def dP (data_1:(List Run)) (a_2:Int) (b_3:Int) (limit_4:Int):Option ((List Run)) :=
 (wN () (λs=>dB b_3 a_2 data_1 limit_4 s)).bind λo_14=>thenC o_14 (λs_11=>some data_1) (λr=>some r)
theorem jf (data_1:(List Run)) (a_2:Int) (b_3:Int) (limit_4:Int):Le (dP data_1 a_2 b_3 limit_4) (bA data_1 a_2 b_3 limit_4):=by
 unfold dP bA
 repeat' (with_reducible first | exact Le.refl _ | exact iU _ _ _ _ _ | refine Le.loop (λ_ => ?_) | refine Le.forL (λ_ _ _ => ?_) | refine Le.thenC (λ_ => ?_) (λ_ => ?_) | refine Le.cond ?_ ?_ | refine Le.bind ?_ (λ_ => ?_))
def dw (x_1:(List Run)):Option ((List Run)) :=
 (lL (IntKind.u64.wrap (x_1.length:Int))).bind λr_3=>(dP x_1 0 (x_1.length:Int) r_3).bind λr_5=>(sj r_5 x_1).bind λ_=>some r_5
theorem iL (x_1:(List Run)):Le (dw x_1) (aX x_1):=by
 unfold dw aX
 repeat' (with_reducible first | exact Le.refl _ | exact jf _ _ _ _ | refine Le.loop (λ_ => ?_) | refine Le.forL (λ_ _ _ => ?_) | refine Le.thenC (λ_ => ?_) (λ_ => ?_) | refine Le.cond ?_ ?_ | refine Le.bind ?_ (λ_ => ?_))
def mV (l_1:(List Rect)) (y_2:Int):Option ((List Run)) :=
 (forL l_1 ([]:List Run) (λk x s=>kK y_2 k x s)).bind λo_14=>thenC o_14 (λs_8=>(dw s_8).bind λr_27=>(sj r_27 s_8).bind λ_=>(forL r_27 ([]:List Run) (λk x s=>kL k x s)).bind λo_41=>thenC o_41 (λs_35=>some s_35) (λ_=>none)) (λ_=>none)
theorem yl (l_1:(List Rect)) (y_2:Int):Le (mV l_1 y_2) (ko l_1 y_2):=by
 unfold mV ko
 repeat' (with_reducible first | exact Le.refl _ | exact iL _ | refine Le.loop (λ_ => ?_) | refine Le.forL (λ_ _ _ => ?_) | refine Le.thenC (λ_ => ?_) (λ_ => ?_) | refine Le.cond ?_ ?_ | refine Le.bind ?_ (λ_ => ?_))
def mD (m_2:(List Run)) (k_3:Nat) (x_5:Run) (s_8:(List Run)×Int):Option (Ctl ((List Run)×Int) (Unit)) :=
 (wN s_8.2 (λs=>kR m_2 x_5 s)).bind λo_25=>thenC o_25 (λs_22=>(wN (s_8.1,s_22,x_5.f_from) (λs=>kN m_2 x_5 s)).bind λo_43=>thenC o_43 (λs_38=>(bif (decide (s_38.2.2<x_5.f_to))then (kY s_38.1 ([(⟨s_38.2.2,x_5.f_to⟩:Run)]:List Run)).bind λa_68=>some a_68 else some s_38.1).bind λv_64=>some (.go (v_64,s_22))) (λ_=>none)) (λ_=>none)
theorem uY (m_2:(List Run)) (k_3:Nat) (x_5:Run) (s_8:(List Run)×Int):Le (mD m_2 k_3 x_5 s_8) (jr m_2 k_3 x_5 s_8):=by
 unfold mD jr
 repeat' (with_reducible first | exact Le.refl _ | refine Le.loop (λ_ => ?_) | refine Le.forL (λ_ _ _ => ?_) | refine Le.thenC (λ_ => ?_) (λ_ => ?_) | refine Le.cond ?_ ?_ | refine Le.bind ?_ (λ_ => ?_))
def qj (l_1:(List Run)) (m_2:(List Run)):Option ((List Run)) :=
 (forL l_1 (([]:List Run),0) (λk x s=>mD m_2 k x s)).bind λo_14=>thenC o_14 (λs_8=>some s_8.1) (λ_=>none)
theorem zk (l_1:(List Run)) (m_2:(List Run)):Le (qj l_1 m_2) (lX l_1 m_2):=by
 unfold qj lX
 repeat' (with_reducible first | exact Le.refl _ | exact uY _ _ _ _ | refine Le.loop (λ_ => ?_) | refine Le.forL (λ_ _ _ => ?_) | refine Le.thenC (λ_ => ?_) (λ_ => ?_) | refine Le.cond ?_ ?_ | refine Le.bind ?_ (λ_ => ?_))
def kP (r_25:(List Int)) (l_1:(List Rect)) (m_2:(List Rect)) (k_27:Nat) (x_29:Int) (s_32:(List Rect)×(List Run)×Int):Option (Ctl ((List Rect)×(List Run)×Int) (Unit)) :=
 (bif (decide ((w64 ((k_27:Int)+1))<(r_25.length:Int)))then (mV l_1 x_29).bind λr_45=>(mV m_2 x_29).bind λr_47=>(qj r_45 r_47).bind λr_49=>some r_49 else some ([]:List Run)).bind λv_42=>(dh s_32.2.1 v_42).bind λr_51=>bif r_51 then some (.go (s_32.1,s_32.2.1,s_32.2.2))else (forL s_32.2.1 s_32.1 (λk x s=>jE s_32 x_29 k x s)).bind λo_64=>thenC o_64 (λs_59=>some (.go (s_59,v_42,x_29))) (λ_=>none)
theorem rZ (r_25:(List Int)) (l_1:(List Rect)) (m_2:(List Rect)) (k_27:Nat) (x_29:Int) (s_32:(List Rect)×(List Run)×Int):Le (kP r_25 l_1 m_2 k_27 x_29 s_32) (gY r_25 l_1 m_2 k_27 x_29 s_32):=by
 unfold kP gY
 repeat' (with_reducible first | exact Le.refl _ | exact yl _ _ | exact zk _ _ | refine Le.loop (λ_ => ?_) | refine Le.forL (λ_ _ _ => ?_) | refine Le.thenC (λ_ => ?_) (λ_ => ?_) | refine Le.cond ?_ ?_ | refine Le.bind ?_ (λ_ => ?_))
def nD (l_1:(List Rect)) (m_2:(List Rect)):Option ((List Rect)) :=
 (dD ([l_1,m_2]:List (List Rect))).bind λr_3=>(forL r_3 ([]:List Int) (λk x s=>jy k x s)).bind λo_16=>thenC o_16 (λs_10=>(H5 s_10).bind λr_22=>(sj r_22 s_10).bind λ_=>(fU r_22).bind λr_25=>(forL r_25 (([]:List Rect),([]:List Run),0) (λk x s=>kP r_25 l_1 m_2 k x s)).bind λo_38=>thenC o_38 (λs_32=>some s_32.1) (λ_=>none)) (λ_=>none)
theorem vR (l_1:(List Rect)) (m_2:(List Rect)):Le (nD l_1 m_2) (jM l_1 m_2):=by
 unfold nD jM
 repeat' (with_reducible first | exact Le.refl _ | exact mJ _ | exact rZ _ _ _ _ _ _ | exact HY _ | refine Le.loop (λ_ => ?_) | refine Le.forL (λ_ _ _ => ?_) | refine Le.thenC (λ_ => ?_) (λ_ => ?_) | refine Le.cond ?_ ?_ | refine Le.bind ?_ (λ_ => ?_))
def pJ (l_1:(List Rect)):Option (Int×Int) :=
 (jc l_1).bind λr_2=>bif (r_2 != 0)then some (0,r_2)else (nD l_1 ([]:List Rect)).bind λr_5=>(oC r_5).bind λr_7=>some (r_7,0)
theorem yz (l_1:(List Rect)):Le (pJ l_1) (l8 l_1):=by
 unfold pJ l8
 repeat' (with_reducible first | exact Le.refl _ | exact vR _ _ | refine Le.loop (λ_ => ?_) | refine Le.forL (λ_ _ _ => ?_) | refine Le.thenC (λ_ => ?_) (λ_ => ?_) | refine Le.cond ?_ ?_ | refine Le.bind ?_ (λ_ => ?_))
def yO  : Option (Bool) :=
 (pJ ([(⟨0,0,2,2⟩:Rect),(⟨1,1,2,2⟩:Rect)]:List Rect)).bind λr_1=>(bif (r_1.2==0)then some (r_1.1==7)else some false).bind λv_3=>some v_3
theorem EC  : Le (yO) (rT):=by
 unfold yO rT
 repeat' (with_reducible first | exact Le.refl _ | exact yz _ | refine Le.loop (λ_ => ?_) | refine Le.forL (λ_ _ _ => ?_) | refine Le.thenC (λ_ => ?_) (λ_ => ?_) | refine Le.cond ?_ ?_ | refine Le.bind ?_ (λ_ => ?_))
theorem lit_F:yO=some true:=by kernel_rfl
theorem lit_ok:rT=some true:=EC _ lit_F
theorem layoutTexts (l:List Int):jS l=some true:=by
 have h0:Ok (⟨l,0⟩:Stream) 0:=⟨Int.le_refl _,Int.le_refl _⟩
 obtain ⟨y,s1,a1,⟨a2,a3⟩,a4,a5⟩:=EI ⟨l,0⟩ h0 (by decide)
 obtain ⟨t,b1,b2⟩:=zO s1 a5 (by decide)
 obtain ⟨e,e1,e2,e3⟩:=Bb y a2 a3 (by omega)
 have htl:t.1.data.toList.length<=300:=by rw [<- Lib.size_eq];exact b2
 obtain ⟨r,c1,c2,c3⟩:=Gz t.1.data.toList htl
 rw [show SB t.1.data.toList=t.1 from rfl]at c1 c2
 have hsame:∀s:ByteArray,sEq s s=true:=λs=>(jb _ _).2 rfl
 have htext:∃s:ByteArray,je y=some (s,e)/\(bif (e==0)then (fF y).bind λr_17=>some r_17 else some (⟨#[]⟩:ByteArray))=some s:=by
  by_cases h:e=0
  ·subst h
   obtain ⟨g1,g2,g3⟩:=e3 rfl
   obtain ⟨w1,w2⟩:=Dy a2 a3 g1 g2 g3
   refine⟨SB (zu y),text_eq w1 w2 (by omega) e1,?_⟩
   rw [beq_self_eq_true,cond_true,wJ w1 w2 (by omega)];rfl
  ·refine⟨⟨#[]⟩,?_,?_⟩
   ·unfold je
    rw [e1,ob_,show (e != 0)=true by simpa using h];rfl
   ·rw [show (e==0)=false by simpa using h];rfl
 obtain ⟨s,d1,d2⟩:=htext
 unfold jS
 simp only [a1,b1,d1,e2,ob_,d2,c1,c2,beq_self_eq_true,cond_true,hsame,c3,lit_ok]
end Go.Proofs.YtacmlgpnplklaaaGreatDoor.Law

