/-
  THE PLAIN LAW (part 5).
-/
import Derived.Test.YtmkljmjhcegapaaGreatDoorPl4
import Derived.Test.YtmkljmjhcegapaaGreatDoorDefs
open Go Go.Eng
namespace Go.Proofs.YtmkljmjhcegapaaGreatDoor.Law
set_option linter.unusedVariables false
set_option linter.unusedSimpArgs false
def dd:List Int->List Int
 | []=>[]
 | [x]=>[x]
 | x::y::l=>bif x==y then dd (y::l)else x::dd (y::l)
theorem NF (x:Int):∀(l:List Int) (b:Int),l.getLast? = some b->dd (l++[x])=bif b==x then dd l else dd l++[x]
 | [],b,h=>by cases h
 | [a],b,h=>by
  simp only [List.getLast?_singleton,so_]at h
  subst h
  simp only [List.cons_append,List.nil_append,dd]
  cases hx:a==x with
  | true=>rw [eq_of_beq hx]
  | false=>rfl
 | a::c::l,b,h=>by
  have ih:=NF x (c::l) b (by rw [<- h];simp [List.getLast?_cons_cons])
  simp only [List.cons_append]at ih ⊢
  rw [dd,ih,dd]
  cases a==c <;> cases b==x <;> rfl
theorem Nq (s:List Int) (p:Nat) (a b:Int) (hp:1<=p) (ha:s[p]? = some a) (hb:s[p-1]? = some b):dd (s.take (p+1))=bif b==a then dd (s.take p)else dd (s.take p)++[a]:=by
 have hlt:=(List.getElem?_eq_some_iff.1 ha).1
 have e:s.take (p+1)=s.take p++[a]:=by rw [List.take_add_one,ha];rfl
 rw [e]
 refine NF a _ b ?_
 rw [List.getLast?_eq_getElem?,List.length_take,List.getElem?_take,if_pos (by omega),<- hb]
 congr 1;omega
theorem Iy (x:Int):∀l:List Int,x∈dd l↔x∈l
 | []=>Iff.rfl
 | [a]=>Iff.rfl
 | a::b::l=>by
  rw [dd]
  cases h:a==b with
  | true =>
   rw [cond_true,Iy x (b::l),eq_of_beq h];simp
  | false=>rw [cond_false,List.mem_cons,Iy x (b::l),List.mem_cons (a:=x) (b:=a)]
theorem IL:∀l:List Int,l.Pairwise (· <= ·)->(dd l).Pairwise (· < ·)
 | [],_ => .nil
 | [a],_=>List.pairwise_singleton _ _
 | a::b::l,h=>by
  rw [dd]
  obtain ⟨h1,h2⟩:=List.pairwise_cons.1 h
  cases hx:a==b with
  | true=>exact IL (b::l) h2
  | false =>
   refine List.pairwise_cons.2 ⟨λc hc => ?_,IL (b::l) h2⟩
   have hc:=(Iy c (b::l)).1 hc
   have hab:a<b:=by
    have:=h1 b (by simp)
    have hne:a≠b:=by simpa using hx
    omega
   rcases List.mem_cons.1 hc with rfl|hc
   ·exact hab
   ·have:=(List.pairwise_cons.1 h2).1 c hc;omega
theorem RO:∀l:List Int,(dd l).length<=l.length
 | []=>Nat.le_refl _
 | [a]=>Nat.le_refl _
 | a::b::l=>by
  have:=RO (b::l)
  rw [dd]
  cases a==b with
  | true=>rw [cond_true];simp only [List.length_cons]at *;omega
  | false=>rw [cond_false];simp only [List.length_cons]at *;omega
theorem QB {i:Int} {n:Nat} (h0:0<=i) (h1:i<n):inN i n=some ():=by unfold inN;rw [if_pos ⟨h0,by omega⟩]
theorem uu {α:Type} {xs:List α} {i:Nat} (h:i<xs.length):inR (i:Int) xs=some ():=by
 unfold inR;rw [if_pos ⟨by omega,by simpa using h⟩]
theorem comp_L1 (s data:List Int) (k0 i2 k:Nat) (a b:Int) (hn:s.length<=1000000000) (hd:data.length=s.length) (h1:1<=i2) (hp:k0+i2<s.length) (hk:k<s.length) (ha:data[k0+i2]? = some a) (hb:data[k0+i2-1]? = some b) :
  cB s (k0:Int) (data,(k:Int),(i2:Int))=some (.go (bif b==a then (data,(k:Int),((i2+1:Nat):Int))else (data.set k a,((k+1:Nat):Int),((i2+1:Nat):Int)))):=by
 unfold cB
 have e0:((s.length:Int).toNat-(k0:Int).toNat)=s.length-k0:=by omega
 have hc:decide ((i2:Int)<((s.length-k0:Nat):Int))=true:=by simp;omega
 have hw:w64 ((i2:Int)-1)=((i2-1:Nat):Int):=by rw [aZ (by omega)];omega
 have hw2:w64 ((i2:Int)+1)=((i2+1:Nat):Int):=by rw [aZ (by omega)];omega
 have hw3:w64 ((k:Int)+1)=((k+1:Nat):Int):=by rw [aZ (by omega)];omega
 have i1:inN (i2:Int) (s.length-k0)=some ():=QB (by omega) (by omega)
 have i3:inN ((i2-1:Nat):Int) (s.length-k0)=some ():=QB (by omega) (by omega)
 have i4:inR (k:Int) data=some ():=uu (by omega)
 have g1:(k0:Int).toNat+(i2:Int).toNat=k0+i2:=by omega
 have g2:(k0:Int).toNat+((i2-1:Nat):Int).toNat=k0+i2-1:=by omega
 have g3:0+(k:Int).toNat=k:=by omega
 have hkd:data[k]? = some data[k]:=List.getElem?_eq_getElem (by omega)
 simp only [e0,hc,cond_true,hw,hw2,hw3,i1,i3,i4,g1,g2,g3,ob_,ha,hb,hkd]
 have hne:(a != b) = !(b==a):=by rw [bne_comm];rfl
 rw [hne]
 cases b==a <;> rfl
theorem z8 (s:List Int) (k0:Nat) (hn:s.length<=1000000000):∀(m i2 k:Nat) (data:List Int),k0+i2+m=s.length->1<=i2->data.length=s.length->k<=k0+i2-1->data.take k=dd (s.take (k0+i2))->data.drop (k0+i2-1)=s.drop (k0+i2-1) ->
  ∃(data':List Int) (k':Nat),iterN (λt=>cB s (k0:Int) t) (m+1) (data,(k:Int),(i2:Int))=some (.go (data',(k':Int),((s.length-k0:Nat):Int)))/\data'.length=s.length/\k'<=s.length/\data'.take k'=dd s
 | 0,i2,k,data,hm,h1,hd,hk,ht,hr=>by
  refine⟨data,k,?_,hd,by omega,?_⟩
  ·have e0:((s.length:Int).toNat-(k0:Int).toNat)=s.length-k0:=by omega
   have hc:decide ((i2:Int)<((s.length-k0:Nat):Int))=false:=by simp;omega
   simp only [iterN,cB,e0,hc,cond_false,ob_]
   rw [show s.length-k0=i2 by omega]
  ·rw [ht,show k0+i2=s.length by omega,List.take_length]
 | m+1,i2,k,data,hm,h1,hd,hk,ht,hr=>by
  have hp:k0+i2<s.length:=by omega
  have hga:data[k0+i2]? = some s[k0+i2]:=by
   have:=congrArg (λl=>l[1]?) hr
   simp only [List.getElem?_drop]at this
   rw [show k0+i2-1+1=k0+i2 by omega]at this
   rw [this,List.getElem?_eq_getElem hp]
  have hgb:data[k0+i2-1]? = some (s[k0+i2-1]'(by omega)):=by
   have:=congrArg (λl=>l[0]?) hr
   simp only [List.getElem?_drop,Nat.add_zero]at this
   rw [this,List.getElem?_eq_getElem (by omega)]
  have hdt:=Nq s (k0+i2) s[k0+i2] (s[k0+i2-1]'(by omega)) (by omega) (List.getElem?_eq_getElem hp) (List.getElem?_eq_getElem (by omega))
  rw [iterN,comp_L1 s data k0 i2 k _ _ hn hd h1 hp (by omega) hga hgb,ob_]
  cases hx:s[k0+i2-1]'(by omega)==s[k0+i2]with
  | true =>
   rw [hx,cond_true]at hdt
   simp only [cond_true]
   refine z8 s k0 hn m (i2+1) k data (by omega) (by omega) hd (by omega) (by rw [ht,<- hdt];rfl) ?_
   have:=congrArg (List.drop 1) hr
   simp only [List.drop_drop]at this
   rw [show k0+i2-1+1=k0+(i2+1)-1 by omega]at this
   exact this
  | false =>
   rw [hx,cond_false]at hdt
   simp only [cond_false]
   have hkl:k<data.length:=by omega
   refine z8 s k0 hn m (i2+1) (k+1) (data.set k s[k0+i2]) (by omega) (by omega) (by simpa using hd) (by omega) ?_ ?_
   ·rw [List.take_add_one,List.getElem?_set_self hkl,List.take_set_of_le (Nat.le_refl _),ht]
    show _=dd (s.take (k0+i2+1))
    rw [hdt];rfl
   ·rw [List.drop_set_of_lt (by omega)]
    have:=congrArg (List.drop 1) hr
    simp only [List.drop_drop]at this
    rw [show k0+i2-1+1=k0+(i2+1)-1 by omega]at this
    exact this
theorem FC (s:List Int) (hn:s.length<=1000000000):∀(m i:Nat),i+m=s.length->1<=i->dd (s.take i)=s.take i ->
  (iterN (λt=>bg s t) (m+1) (i:Int)=some (.go (s.length:Int))/\dd s=s)\/iterN (λt=>bg s t) (m+1) (i:Int)=some (.ret (dd s))
 | 0,i,hm,h1,hd=>by
  refine .inl ⟨?_,?_⟩
  ·have hc:decide ((i:Int)<(s.length:Int))=false:=by simp;omega
   simp only [iterN,bg,hc,cond_false,ob_]
   rw [show i=s.length by omega]
  ·rw [show i=s.length by omega,List.take_length]at hd;exact hd
 | m+1,i,hm,h1,hd=>by
  have hi:i<s.length:=by omega
  have hc:decide ((i:Int)<(s.length:Int))=true:=by simp;omega
  have hw:w64 ((i:Int)-1)=((i-1:Nat):Int):=by rw [aZ (by omega)];omega
  have hw2:w64 ((i:Int)+1)=((i+1:Nat):Int):=by rw [aZ (by omega)];omega
  have e1:0+(i:Int).toNat=i:=by omega
  have e2:0+((i-1:Nat):Int).toNat=i-1:=by omega
  have hga:s[i]? = some s[i]:=List.getElem?_eq_getElem hi
  have hgb:s[i-1]? = some (s[i-1]'(by omega)):=List.getElem?_eq_getElem (by omega)
  have hdt:=Nq s i s[i] (s[i-1]'(by omega)) h1 hga hgb
  have i1:inR (i:Int) s=some ():=uu hi
  have i2:inR ((i-1:Nat):Int) s=some ():=uu (by omega)
  rw [iterN]
  have hswap:(s[i]==s[i-1]'(by omega))=(s[i-1]'(by omega)==s[i]):=by rw [BEq.comm]
  cases hx:s[i-1]'(by omega)==s[i]with
  | false =>
   have:bg s (i:Int)=some (.go ((i+1:Nat):Int)):=by
    unfold bg
    simp only [hc,cond_true,hw,hw2,e1,e2,i1,i2,hga,hgb,ob_,hswap,hx,cond_false]
   rw [this,ob_]
   rw [hx,cond_false,hd]at hdt
   refine FC s hn m (i+1) (by omega) (by omega) ?_
   rw [hdt,List.take_add_one,hga];rfl
  | true =>
   right
   rw [hx,cond_true,hd]at hdt
   obtain ⟨data',k',q1,q2,q3,q4⟩:=z8 s i hn (s.length-(i+1)) 1 i s (by omega) (by omega) rfl (by omega) hdt.symm rfl
   have hlo:=eu q1
   have hne:neL s=some ():=by
    cases s with
    | nil=>simp at hi
    | cons a l=>rfl
   have hsr:oh s (i:Int) (s.length:Int)=some ():=by unfold oh;rw [if_pos ⟨by omega,by omega,by omega,by omega⟩]
   have hsr2:oh data' (k':Int) (data'.length:Int)=some ():=by unfold oh;rw [if_pos ⟨by omega,by omega,by omega,by omega⟩]
   have hlen:(data'.take k'++List.replicate (data'.length-k') (0:Int)++data'.drop (k'+(data'.length-k'))).length=data'.length:=by simp;omega
   have hsr3:oh (data'.take k'++List.replicate (data'.length-k') (0:Int)++data'.drop (k'+(data'.length-k'))) 0 (k':Int)=some ():=by unfold oh;rw [if_pos ⟨by omega,by omega,by omega,by rw [hlen];omega⟩]
   have n1:((data'.length:Int)).toNat=data'.length:=by omega
   have n2:(k':Int).toNat=k':=by omega
   have:bg s (i:Int)=some (.ret (dd s)):=by
    unfold bg
    have one:((1:Nat):Int)=1:=rfl
    rw [one]at hlo
    simp only [hc,cond_true,hw,e1,e2,i1,i2,hga,hgb,ob_,hswap,hx,hne,hsr,hlo,thenC,hsr2,n1,n2,hsr3]
    congr 2
    show List.take k' (List.drop 0 _)=dd s
    rw [List.drop_zero,List.append_assoc,List.take_append_of_le_length (by rw [List.length_take];omega),List.take_take,Nat.min_self,q4]
   rw [this];rfl
theorem Mt (s:List Int) (hn:s.length<=1000000000):cZ s=some (dd s):=by
 unfold cZ
 by_cases h:(s.length:Int)<2
 ·rw [decide_eq_true h,cond_true]
  match s,h with
  | [],_=>rfl
  | [a],_=>rfl
  | a::b::l,h=>simp at h;omega
 ·rw [decide_eq_false h,cond_false]
  have h1:dd (s.take 1)=s.take 1:=by
   match s with
   | []=>rfl
   | a::l=>rfl
  rcases FC s hn (s.length-1) 1 (by omega) (Nat.le_refl _) h1 with⟨h2,h3⟩|h2
  ·have:=eu h2
   show (fq 1 _).bind _=_
   rw [show ((1:Nat):Int)=1 from rfl]at this
   rw [this,h3];rfl
  ·have:=eu h2
   show (fq 1 _).bind _=_
   rw [show ((1:Nat):Int)=1 from rfl]at this
   rw [this];rfl
theorem qB (e:List Int) (hn:e.length<=1000000000):∃s c,bJ e=some s/\s.length=e.length/\cZ s=some c/\c.Pairwise (· < ·)/\(∀x,x∈c↔x∈e)/\c.length<=e.length:=by
 have hs:bJ e=some (e.mergeSort λx y=>decide (x<=y)):=by
  unfold bJ Fb;rw [if_pos (by omega)]
 have hl:(e.mergeSort λx y=>decide (x<=y)).length=e.length:=List.length_mergeSort e
 refine⟨_,_,hs,hl,Mt _ (by rw [hl];exact hn),IL _ ?_,λx => ?_,by rw [<- hl];exact RO _⟩
 ·have:=List.pairwise_mergeSort (le:=λ(x y:Int)=>decide (x<=y)) (λa b c=>by simp;omega) (λa b=>by simp;omega) e
  exact this.imp (by simp)
 ·rw [Iy];exact List.mem_mergeSort
def putC (id:ByteArray) (a b:Int) (out:List Slot_):Option (List Slot_) :=
 (bif (decide ((w64 ((out.length:Int)-1))>=0))then (inR (w64 ((out.length:Int)-1)) out).bind λ_=>(out[(0+((w64 ((out.length:Int)-1))).toNat)]?).bind λe_81=>some (sEq e_81.Entry id)else some false).bind λv_77 =>
 (bif v_77 then (inR (w64 ((out.length:Int)-1)) out).bind λ_=>(out[(0+((w64 ((out.length:Int)-1))).toNat)]?).bind λe_90=>some (out.set (0+((w64 ((out.length:Int)-1))).toNat) (⟨(⟨e_90.Time.From,b⟩:Window),e_90.Entry⟩:Slot_))
 else (jv out ([(⟨(⟨a,b⟩:Window),id⟩:Slot_)]:List Slot_)).bind λa_96=>some a_96)
theorem putC_eq (id:ByteArray) (a b:Int) (out:List Slot_) (hl:out.length<=1000000):putC id a b out=some (xD id a b out):=by
 unfold putC
 cases ho:out.length with
 | zero =>
  have e:=List.eq_nil_of_length_eq_zero ho
  subst e
  rw [decide_eq_false (by decide)];rfl
 | succ n =>
  have hw:w64 ((out.length:Int)-1)=(n:Int):=by rw [aZ (by omega)];omega
  rw [<- ho,hw,decide_eq_true (by omega),cond_true,Gt (by omega) (by omega)]
  have hn:n<out.length:=by omega
  have e1:out[(0+((n:Int)).toNat)]? = some out[n]:=by rw [show 0+((n:Int)).toNat=n by omega];exact List.getElem?_eq_getElem hn
  rw [e1]
  simp only [ob_,yO]
  by_cases he:out[n].Entry=id
  ·rw [decide_eq_true he,cond_true,KI id a b out n _ ho (List.getElem?_eq_getElem hn) he,show 0+((n:Int)).toNat=n by omega]
  ·rw [decide_eq_false he,cond_false,qj _ _ (by simp;omega),La id a b out (λm x h1 h2=>by
    obtain rfl:m=n:=by omega
    rw [List.getElem?_eq_getElem hn,so_]at h2
    rw [<- h2];exact he)];rfl
structure EB (m:List Entry) (z:Int) (w:Window) (E:List Int):Prop where
 from_:w.From∈E
 to_:w.To∈E
 in_:∀x∈E,w.From<=x/\x<=w.To
 has:∀e∈m,∀x∈wants e z w,x.From∈E/\x.To∈E
theorem Qn {e:Entry} (h:Right e) {z:Int} {w x:Window} (hx:x∈wants e z w):w.From<=x.From/\x.From<=w.To/\w.From<=x.To/\x.To<=w.To:=by
 obtain ⟨d,_,_,hp,rfl⟩:=(yX h).1 hx
 obtain ⟨_,_,hp⟩:=FY.1 hp
 unfold cutW tW
 simp only [Je,I9]
 omega
noncomputable def delG {α:Type} (z:α) (f:α->Option Bool) (xs:List α):Option (List α) :=
 (ixF f xs).bind λr=>bif (r==(-1))then some xs else (fq (xs,r,(w64 (r+1))) (λs=>xc f s)).bind λo=>thenC o (λs_12=>(oh s_12.1 s_12.2.1 (s_12.1.length:Int)).bind λ_=>(oh (s_12.1.take ((s_12.2.1).toNat)++List.replicate (((s_12.1.length:Int)).toNat-(s_12.2.1).toNat) z++s_12.1.drop (((s_12.2.1).toNat)+(((s_12.1.length:Int)).toNat-(s_12.2.1).toNat))) 0 s_12.2.1).bind λ_=>some ((s_12.1.take ((s_12.2.1).toNat)++List.replicate (((s_12.1.length:Int)).toNat-(s_12.2.1).toNat) z++s_12.1.drop (((s_12.2.1).toNat)+(((s_12.1.length:Int)).toNat-(s_12.2.1).toNat))).take ((s_12.2.1).toNat))) (λ_=>none)
theorem delG_eq {α:Type} {z:α} {f:α->Option Bool} {q:α->Bool} {xs:List α} (hf:∀x∈xs,f x=some (q x)) (hl:xs.length<=1000000000):delG z f xs=some (xs.filter (λx => !q x)):=by
 unfold delG
 rcases ixF_eq hf hl with⟨h1,h2⟩|⟨k,hk,h1,h2,h3⟩
 ·rw [h1,ob_,filter_all (λx hx=>by rw [h2 x hx];rfl)];rfl
 ·have hne:((k:Int)==(-1))=false:=by simp
  have w1:w64 ((k:Int)+1)=((k+1:Nat):Int):=by rw [aZ (by omega)];omega
  obtain ⟨l',i',g1,g2,g3,g4⟩:=FT hf hl (xs.length-(k+1)) xs k (k+1) (by omega) (by omega) rfl (by
   rw [List.take_succ_eq_append_getElem hk,List.filter_append,filter_all (λx hx=>by rw [h3 x hx];rfl)];simp [h2]) rfl
  have g1':=eu g1
  rw [h1,ob_,hne,cond_false,w1,g1',ob_,gN]
  have hs1:oh l' (i':Int) (l'.length:Int)=some ():=by
   unfold oh;rw [if_pos ⟨by omega,by omega,by omega,by omega⟩]
  simp only [hs1,ob_,Int.toNat_natCast]
  generalize hL:(l'.take i'++List.replicate (l'.length-i') z++l'.drop (i'+(l'.length-i')))=L
  have hLt:L.take i'=l'.take i':=by
   rw [<- hL,List.append_assoc,List.take_append_of_le_length (by rw [List.length_take];omega),List.take_take,Nat.min_self]
  have hLl:i'<=L.length:=by
   rw [<- hL];simp only [List.length_append,List.length_take,List.length_replicate];omega
  have hs2:oh L 0 (i':Int)=some ():=by
   unfold oh;rw [if_pos ⟨by omega,by omega,by omega,by omega⟩]
  rw [hs2,ob_,hLt,g4]
theorem yP {l:List Entry} {p:Player} {w:Window} {s:Span}:s∈lX l p w↔∃e∈l,Aq e p=true/\∃x∈tiL e p.Zone w,s=⟨some e,x⟩:=by
 unfold lX yH
 rw [List.mem_flatMap]
 constructor
 ·rintro ⟨e,he,hs⟩
  cases hf:Aq e p with
  | false=>rw [hf]at hs;cases hs
  | true =>
   rw [hf,cond_true,List.mem_map]at hs
   obtain ⟨x,hx,rfl⟩:=hs
   exact⟨e,he,hf,x,hx,rfl⟩
 ·rintro ⟨e,he,hf,x,hx,rfl⟩
  refine⟨e,he,?_⟩
  rw [hf,cond_true]
  exact List.mem_map.2 ⟨x,hx,rfl⟩
theorem Iw {l:List Entry} {p:Player} (h:CE l p) (w:Window):(lX l p w).length<=16004:=by
 have h1:=Er (l:=l) (f:=yH p w) (n:=4001) (λx hx=>Ho h w hx)
 have h2:=h.len
 have h3:l.length*4001<=4*4001:=Nat.mul_le_mul_right _ h2
 unfold lX
 omega
theorem Ou {l:List Entry} {p:Player} (h:CE l p) {w:Window} {t:Int} {s:Span} (hs:s∈lX l p w) (h1:s.f_time.From<=t) (h2:t<s.f_time.To):∃x∈kY l p t,s=kg x:=by
 obtain ⟨e,he,hf,x,hx,rfl⟩:=yP.1 hs
 obtain ⟨d,d1,d2,d3,rfl⟩:=(D8 (h.right e he)).1 hx
 obtain ⟨p1,p2,p3⟩:=FY.1 d3
 have hh:AB e p.Zone t d=true:=mU.2 ⟨p1,d1,d2,p2,h1,h2⟩
 exact⟨(e,tF e p.Zone d),BS.2 ⟨he,hf,(vT (h.right e he)).2 ⟨d,hh,rfl⟩⟩,rfl⟩
theorem Ih {l:List Entry} {p:Player} (h:CE l p) {w:Window} {t:Int} (hw:w.From<=t/\t<w.To) {x:Entry×Int} (hx:x∈kY l p t):kg x∈lX l p w/\(kg x).f_time.From<=t/\t<(kg x).f_time.To:=by
 obtain ⟨h1,h2,h3⟩:=BS.1 hx
 obtain ⟨d,hd,hb⟩:=(vT (h.right _ h1)).1 h3
 obtain ⟨g1,g2,g3,g4,g5,g6⟩:=mU.1 hd
 refine⟨yP.2 ⟨x.1,h1,h2,tW x.1 p.Zone d,(D8 (h.right _ h1)).2 ⟨d,g2,g3,FY.2 ⟨g1,g4,by omega⟩,rfl⟩,?_⟩,?_,?_⟩
 ·unfold kg
  rw [hb];rfl
 ·show x.2<=t
  omega
 ·show t<x.2+qX x.1*60000
  omega
structure ES (m:List Span) (w:Window) (E:List Int):Prop where
 from_:w.From∈E
 to_:w.To∈E
 in_:∀x∈E,w.From<=x/\x<=w.To
 has:∀s∈m,(cutW w s.f_time).From∈E/\(cutW w s.f_time).To∈E
theorem cut_in {l:List Entry} {p:Player} (h:CE l p) {w:Window} {s:Span} (hs:s∈lX l p w):w.From<=(cutW w s.f_time).From/\(cutW w s.f_time).From<=w.To/\w.From<=(cutW w s.f_time).To/\(cutW w s.f_time).To<=w.To:=by
 obtain ⟨e,he,hf,x,hx,rfl⟩:=yP.1 hs
 obtain ⟨d,d1,d2,d3,rfl⟩:=(D8 (h.right e he)).1 hx
 exact Qn (h.right e he) ((yX (h.right e he)).2 ⟨d,d1,d2,d3,rfl⟩)
theorem Qu {l:List Entry} {p:Player} (h:CE l p) {w:Window} (hok:ND w) (hw:w.From<=w.To):∃C,mH l p w=some C/\C.Pairwise (· < ·)/\ES (lX l p w) w C/\C.length<=40000:=by
 have hl:=Iw h w
 unfold mH
 rw [spans_eq h hok,ob_]
 obtain ⟨E,e1,e2,e3⟩:=wT (body:=λk x s=>kH w k x s) (λk s=>ES ((lX l p w).take k) w s/\s.length=2+2*k) (xs:=lX l p w) (s:=([w.From,w.To]:List Int)) (by omega) (λk x s hx ⟨i1,i2⟩=>by
  have hk:k<(lX l p w).length:=(List.getElem?_eq_some_iff.1 hx).1
  have et:(lX l p w).take (k+1)=(lX l p w).take k++[x]:=by rw [List.take_add_one,hx];rfl
  obtain ⟨b1,b2,b3,b4⟩:=cut_in h (List.mem_of_getElem? hx)
  unfold kH
  show ∃s',((some (cutW w x.f_time)).bind λr_22=>_)=_/\_
  rw [ob_,qj _ _ (by simp only [List.length_cons,List.length_nil];omega)]
  refine⟨_,rfl,⟨List.mem_append_left _ i1.from_,List.mem_append_left _ i1.to_,λy hy => ?_,λy hy => ?_⟩,?_⟩
  ·rcases List.mem_append.1 hy with hy|hy
   ·exact i1.in_ y hy
   ·simp only [List.mem_cons,List.not_mem_nil,or_false]at hy
    rcases hy with rfl|rfl <;> omega
  ·rw [et]at hy
   rcases List.mem_append.1 hy with hy|hy
   ·exact⟨List.mem_append_left _ (i1.has y hy).1,List.mem_append_left _ (i1.has y hy).2⟩
   ·rw [List.mem_singleton.1 hy]
    exact⟨List.mem_append_right _ (by simp),List.mem_append_right _ (by simp)⟩
  ·rw [List.length_append];simp only [List.length_cons,List.length_nil];omega) ⟨⟨by simp,by simp,λx hx=>by
   simp only [List.mem_cons,List.not_mem_nil,or_false]at hx
   rcases hx with rfl|rfl <;> omega,λe he=>(by cases he)⟩,by simp⟩
 rw [List.take_length]at e2
 rw [e1]
 simp only [ob_,thenC]
 have hne:neL E=some ():=by
  unfold neL
  have:=List.ne_nil_of_mem e2.from_
  first | rw [if_pos this] | (cases E with | nil=>exact absurd rfl this | cons a E=>rfl)
 obtain ⟨s,C,c1,c2,c3,c4,c5,c6⟩:=qB E (by omega)
 have c2':jS s E=some ():=by unfold jS;rw [if_pos c2]
 rw [hne,ob_,c1,ob_,c2',ob_,c3,ob_]
 refine⟨C,rfl,c4,⟨(c5 _).2 e2.from_,(c5 _).2 e2.to_,λx hx=>e2.in_ x ((c5 x).1 hx),λe he => ?_⟩,by omega⟩
 obtain ⟨a,b⟩:=e2.has e he
 exact⟨(c5 _).2 a,(c5 _).2 b⟩
theorem Ee {xs:List Span} (hc:∀a∈xs,∀b∈xs,eZ a b=some (cE (qG a) (qG b))) (hne:xs ≠ []) (hl:xs.length<=1000000):∃m,bC xs=some m/\m∈xs/\∀s∈xs,tV (qG s) (qG m)=false:=by
 have hpos:0<xs.length:=List.length_pos_iff.2 hne
 have h0:xs[(0+(0:Int).toNat)]? = some xs[0]:=List.getElem?_eq_getElem hpos
 unfold bC
 rw [decide_eq_false (by omega),cond_false,ob_,Gt (by omega) (by omega),ob_,h0,ob_]
 obtain ⟨s,s1,s2⟩:=BR (body:=λs=>bu xs s) (λk s=>s.1=((k+1:Nat):Int)/\∃m,s.2=(m.f_e,m.f_time.From,m.f_time.To)/\m∈xs/\∀(j:Nat) (y:Span),j<=k->xs[j]? = some y->tV (qG y) (qG m)=false) (xs.length-1) (λk s hk ⟨i1,m,i2,i3,i4⟩=>by
  obtain ⟨i,t⟩:=s
  simp only at i1 i2
  subst i1 i2
  have hkl:k+1<xs.length:=by omega
  have hx:xs[(0+(((k+1:Nat):Int)).toNat)]? = some xs[k+1]:=by rw [show 0+(((k+1:Nat):Int)).toNat=k+1 by omega];exact List.getElem?_eq_getElem hkl
  have hm:=List.getElem_mem hkl
  have hcm:eZ xs[k+1] (⟨m.f_e,(⟨m.f_time.From,m.f_time.To⟩:Window)⟩:Span)=some (cE (qG xs[k+1]) (qG m)):=hc _ hm _ i3
  have w1:w64 (((k+1:Nat):Int)+1)=((k+1+1:Nat):Int):=by rw [aZ (by omega)];omega
  unfold bu
  simp only []
  rw [decide_eq_true (by omega),cond_true,Gt (by omega) (by omega),ob_,hx,ob_,hcm,ob_,w1]
  by_cases hlt:cE (qG xs[k+1]) (qG m)<0
  ·rw [decide_eq_true hlt,cond_true]
   simp only [ob_]
   refine⟨_,rfl,rfl,xs[k+1],rfl,hm,λj y hj hy => ?_⟩
   cases hb:tV (qG y) (qG xs[k+1])with
   | false=>rfl
   | true =>
    by_cases hjk:j=k+1
    ·subst hjk
     rw [List.getElem?_eq_getElem hkl,so_]at hy
     rw [<- hy,yc]at hb;cases hb
    ·have h1:=i4 j y (by omega) hy
     rw [wV _ _ _ hb (uJ.1 hlt)]at h1;cases h1
  ·rw [decide_eq_false hlt,cond_false]
   simp only [ob_]
   refine⟨_,rfl,rfl,m,rfl,i3,λj y hj hy => ?_⟩
   by_cases hjk:j=k+1
   ·subst hjk
    rw [List.getElem?_eq_getElem hkl,so_]at hy
    rw [<- hy]
    cases hb:tV (qG xs[k+1]) (qG m)with
    | false=>rfl
    | true=>exact absurd (uJ.2 hb) hlt
   ·exact i4 j y (by omega) hy) (λs ⟨i1,m,i2,i3,i4⟩=>by
  obtain ⟨i,t⟩:=s
  simp only at i1 i2
  subst i1 i2
  unfold bu
  simp only []
  rw [decide_eq_false (by omega),cond_false]) (s:=(1,xs[0].f_e,xs[0].f_time.From,xs[0].f_time.To)) ⟨rfl,xs[0],rfl,List.getElem_mem hpos,λj y hj hy=>by
   obtain rfl:j=0:=by omega
   rw [List.getElem?_eq_getElem hpos,so_]at hy
   rw [<- hy,yc]⟩
 obtain ⟨i1,m,i2,i3,i4⟩:=s2
 obtain ⟨i,t⟩:=s
 simp only at i1 i2
 subst i2
 rw [s1]
 refine⟨m,rfl,i3,λy hy => ?_⟩
 obtain ⟨j,hj⟩:=List.getElem?_of_mem hy
 have hjl:j<xs.length:=(List.getElem?_eq_some_iff.1 hj).1
 exact i4 j y (by omega) hj
theorem QK {l:List Entry} {p:Player} (h:CE l p) {w:Window} {t:Int} (hw:w.From<=t/\t<w.To) {xs:List Span} (hx:∀s,s∈xs↔s∈lX l p w/\s.f_time.From<=t/\t<s.f_time.To) (hl:xs.length<=1000000) :
  (bif (decide ((xs.length:Int)>0))then (neL xs).bind λ_=>(bC xs).bind λr_73=>(r_73.f_e).bind λy_75=>some y_75.Key else some (⟨#[]⟩:ByteArray))=some (jk l p t):=by
 cases hxs:xs with
 | nil =>
  have hn:kY l p t=[]:=List.eq_nil_iff_forall_not_mem.2 (λx hc=>by
   have:=(hx _).2 (Ih h hw hc)
   rw [hxs]at this;cases this)
  rw [LJ hn];rfl
 | cons a r =>
  have hsp:∀s∈xs,∃x∈kY l p t,s=kg x:=λs hs=>by
   obtain ⟨h1,h2,h3⟩:=(hx s).1 hs
   exact Ou h h1 h2 h3
  obtain ⟨m,m1,m2,m3⟩:=Ee (xs:=xs) (λa ha b hb=>by
   obtain ⟨x,_,rfl⟩:=hsp a ha
   obtain ⟨y,_,rfl⟩:=hsp b hb
   exact CU x y) (by rw [hxs];simp) hl
  obtain ⟨x,x1,rfl⟩:=hsp m m2
  rw [<- hxs,decide_eq_true (by rw [hxs];simp only [List.length_cons];omega),cond_true]
  have hne:neL xs=some ():=by rw [hxs];rfl
  rw [hne,ob_,m1,ob_]
  show (some x.1).bind _=_
  rw [ob_,LU h.keys p t x1 (λy hy=>m3 _ ((hx _).2 (Ih h hw hy)))]
theorem Qj {all:List Span} {E:List Int} {i:Nat} {a:Int} (ha:E[i]? = some a) (hl:all.length<=1000000) (st:(List Slot_)×(List Span)×Int×Int) (hst:st.2.2.2=(i:Int)) {op:List Span} {nx:Nat} (hnx:nx<=all.length) (hop:op.length<=nx) :
  ∃n',nx<=n'/\n'<=all.length/\fq (op,(nx:Int)) (λs=>gy all E st s)=some (.go (op++(all.drop nx).take (n'-nx),(n':Int)))/\(∀s∈(all.drop nx).take (n'-nx),s.f_time.From<=a)/\(∀s,all[n']? = some s->a<s.f_time.From):=by
 have htw:∃N,N<=(all.drop nx).length/\(∀s∈(all.drop nx).take N,s.f_time.From<=a)/\(∀s,(all.drop nx)[N]? = some s->a<s.f_time.From):=by
  generalize all.drop nx=ys
  induction ys with
  | nil=>exact⟨0,Nat.le_refl _,λs hs=>(by cases hs),λs hs=>(by cases hs)⟩
  | cons y ys ih =>
   by_cases hy:y.f_time.From<=a
   ·obtain ⟨N,n1,n2,n3⟩:=ih
    refine⟨N+1,by simpa using n1,λs hs => ?_,λs hs=>n3 s (by simpa using hs)⟩
    rw [List.take_succ_cons]at hs
    rcases List.mem_cons.1 hs with rfl|hs
    ·exact hy
    ·exact n2 s hs
   ·exact⟨0,Nat.zero_le _,λs hs=>(by cases hs),λs hs=>by
     rw [List.getElem?_cons_zero,so_]at hs;rw [<- hs];omega⟩
 obtain ⟨N,n1,n2,n3⟩:=htw
 rw [List.length_drop]at n1
 refine⟨nx+N,by omega,by omega,?_,by rw [show nx+N-nx=N by omega];exact n2,λs hs=>n3 s (by rw [List.getElem?_drop];exact hs)⟩
 rw [show nx+N-nx=N by omega]
 obtain ⟨s,s1,s2,s3⟩:=BR (body:=λs=>gy all E st s) (λk s=>s.1=op++(all.drop nx).take k/\s.2=((nx+k:Nat):Int)) N (λk s hk ⟨i1,i2⟩=>by
  obtain ⟨o,n⟩:=s
  simp only at i1 i2
  subst i1 i2
  have hkl:nx+k<all.length:=by omega
  have hx:all[(0+(((nx+k:Nat):Int)).toNat)]? = some all[nx+k]:=by rw [show 0+(((nx+k:Nat):Int)).toNat=nx+k by omega];exact List.getElem?_eq_getElem hkl
  have hd:(all.drop nx)[k]? = some all[nx+k]:=by rw [List.getElem?_drop];exact List.getElem?_eq_getElem hkl
  have hfr:all[nx+k].f_time.From<=a:=n2 _ (List.mem_of_getElem? (i:=k) (by rw [List.getElem?_take,if_pos hk];exact hd))
  have et:(all.drop nx).take (k+1)=(all.drop nx).take k++[all[nx+k]]:=by rw [List.take_add_one,hd];rfl
  have hlen:((all.drop nx).take k).length<=all.length:=by rw [List.length_take,List.length_drop];omega
  have w1:w64 (((nx+k:Nat):Int)+1)=((nx+(k+1):Nat):Int):=by rw [aZ (by omega)];omega
  unfold gy
  simp only []
  rw [decide_eq_true (by omega),cond_true,Gt (by omega) (by omega),ob_,hx,ob_,hst,iH,ha,ob_,ob_,decide_eq_true hfr,cond_true,ob_,ob_,qj _ _ (by rw [List.length_append];simp only [List.length_cons,List.length_nil];omega),ob_,w1]
  exact⟨_,rfl,by simp only [];rw [et,List.append_assoc],rfl⟩) (λs ⟨i1,i2⟩=>by
  obtain ⟨o,n⟩:=s
  simp only at i1 i2
  subst i1 i2
  unfold gy
  simp only []
  by_cases hend:nx+N<all.length
  ·have hx:all[(0+(((nx+N:Nat):Int)).toNat)]? = some all[nx+N]:=by rw [show 0+(((nx+N:Nat):Int)).toNat=nx+N by omega];exact List.getElem?_eq_getElem hend
   have hfr:=n3 all[nx+N] (by rw [List.getElem?_drop];exact List.getElem?_eq_getElem hend)
   rw [decide_eq_true (by omega),cond_true,Gt (by omega) (by omega),ob_,hx,ob_,hst,iH,ha,ob_,ob_,decide_eq_false (by omega),cond_false]
  ·rw [decide_eq_false (by omega),cond_false,ob_,cond_false]) (s:=(op,(nx:Int))) ⟨by simp,by simp⟩
 obtain ⟨o,n⟩:=s
 simp only at s2 s3
 rw [s1,s2,s3]
theorem delNil (E:List Int) (i:Int):bM E i=some ():=by
 have:bS ([]:List Span) (λx0=>fO x0 E i)=some (-1):=by
  unfold bS
  rw [jG (by simp)];rfl
 unfold bM
 rw [this];rfl
theorem delS {E:List Int} {i:Nat} {a:Int} (ha:E[i]? = some a) {xs:List Span} (hl:xs.length<=1000000):bL xs E (i:Int)=some (xs.filter (λs => !decide (s.f_time.To<=a))):=by
 have e:bL xs E (i:Int)=delG (⟨none,(⟨0,0⟩:Window)⟩:Span) (λe=>fO e E (i:Int)) xs:=rfl
 rw [e]
 refine delG_eq (λx _ => ?_) (by omega)
 unfold fO
 rw [iH,ha];rfl
theorem Mg {l:List Entry} {p:Player} (h:CE l p) {w:Window} (hok:ND w) (hw:w.From<=w.To):∃t,jO l p w=some t/\iy (jk l p) w.To w.From t/\t.length<=40000:=by
 have hsl:=Iw h w
 obtain ⟨C,c1,c2,c3,c4⟩:=Qu h hok hw
 obtain ⟨d1,d2⟩:=PD c2 c3.from_ c3.to_ c3.in_
 obtain ⟨all,a1,a2,a3⟩:=Fu (F:=λa b=>jf a b) (λa b=>IU a.f_time.From b.f_time.From) (xs:=lX l p w) (by omega) (λa _ b _=>by
  unfold jf;rw [Ij];rfl) (λa _=>by rw [u6];omega) (λa _ b _ d _ h1 h2=>by rw [u6]at *;omega) (λa _ b _ d _ h1 h2=>by rw [u6]at *;omega)
 have a3':all.Pairwise (λa b=>a.f_time.From<=b.f_time.From):=a3.imp (λ{a b} q=>by rw [u6]at q;omega)
 have hal:all.length<=16004:=by rw [a2.length_eq];exact hsl
 have hsort:iJ (lX l p w)=some all:=a1
 have hsame:jS all (lX l p w)=some ():=by unfold jS;rw [if_pos a2.length_eq]
 unfold jO
 rw [spans_eq h hok,ob_,hsort,ob_,hsame,ob_,c1,ob_]
 have hlen:0<C.length:=(List.getElem?_eq_some_iff.1 d1).1
 have hedge:∀(i:Nat) (a b:Int),C[i]? = some a->C[i+1]? = some b->∀t,a<=t->t<b->jk l p t=jk l p a:=λi a b ha hb' t t1 t2=>QW h.right c2 c3.in_ (λe he hf x hx=>by
  obtain ⟨d,q1,q2,q3,rfl⟩:=(yX (h.right e he)).1 hx
  exact c3.has ⟨some e,tW e p.Zone d⟩ (yP.2 ⟨e,he,hf,tW e p.Zone d,(D8 (h.right e he)).2 ⟨d,q1,q2,q3,rfl⟩,rfl⟩)) ha hb' t1 t2
 obtain ⟨s,s1,s2⟩:=BR (body:=λs=>gq C all s) (λk s=>s.2.2.2=(k:Int)/\s.1.length<=k/\∃(a:Int) (nx:Nat),C[k]? = some a/\iy (jk l p) a w.From s.1/\s.2.2.1=(nx:Int)/\nx<=all.length/\s.2.1.length<=nx/\(∀x∈s.2.1,x∈all.take nx)/\(∀x∈all.take nx,x.f_time.From<=a/\(x∈s.2.1\/x.f_time.To<=a))) (C.length-1) (λk s hk ⟨i1,i2,a,nx,i3,i4,i5,i6,i7,i8,i9⟩=>by
  have hst:=i1
  obtain ⟨out,op,n,i⟩:=s
  simp only at i1 i2 i4 i5 i7 i8 i9
  subst i1 i5
  have hb:C[k+1]? = some C[k+1]:=List.getElem?_eq_getElem (by omega)
  have hab:=OL c2 i3 hb
  have ain:=c3.in_ a (List.mem_of_getElem? i3)
  have bin:=c3.in_ C[k+1] (List.getElem_mem _)
  obtain ⟨n',m1,m2,m3,m4,m5⟩:=Qj i3 (by omega) (out,op,(nx:Int),(k:Int)) rfl i6 i7
  have etk:all.take n'=all.take nx++(all.drop nx).take (n'-nx):=by
   have:=List.take_append_drop nx (all.take n')
   rw [List.take_take,Nat.min_eq_left m1,List.drop_take]at this
   exact this.symm
  have hmem:∀x,x∈(op++(all.drop nx).take (n'-nx)).filter (λs => !decide (s.f_time.To<=a))↔x∈lX l p w/\x.f_time.From<=a/\a<x.f_time.To:=λx=>by
   rw [List.mem_filter,List.mem_append,<- a2.mem_iff]
   constructor
   ·rintro ⟨h1,h2⟩
    have hto:a<x.f_time.To:=by simpa using h2
    rcases h1 with h1|h1
    ·have:=i8 x h1
     exact⟨List.mem_of_mem_take this,(i9 x this).1,hto⟩
    ·exact⟨List.mem_of_mem_drop (List.mem_of_mem_take h1),m4 x h1,hto⟩
   ·rintro ⟨h1,h2,h3⟩
    refine⟨?_,by simpa using h3⟩
    have hin:x∈all.take n':=by
     obtain ⟨j,hj⟩:=List.getElem?_of_mem h1
     have hjl:=(List.getElem?_eq_some_iff.1 hj).1
     by_cases hjn:j<n'
     ·exact List.mem_of_getElem? (i:=j) (by rw [List.getElem?_take,if_pos hjn];exact hj)
     ·exfalso
      have hn:n'<all.length:=by omega
      have h5:=m5 all[n'] (List.getElem?_eq_getElem hn)
      by_cases e:j=n'
      ·subst e
       rw [List.getElem?_eq_getElem hn,so_]at hj
       rw [hj]at h5;omega
      ·have:=List.pairwise_iff_getElem.1 a3' n' j hn hjl (by omega)
       rw [List.getElem?_eq_getElem hjl,so_]at hj
       rw [hj]at this;omega
    rw [etk]at hin
    rcases List.mem_append.1 hin with hin|hin
    ·rcases (i9 x hin).2 with q|q
     ·exact .inl q
     ·omega
    ·exact .inr hin
  have hol:(op++(all.drop nx).take (n'-nx)).length<=n':=by rw [List.length_append,List.length_take,List.length_drop];omega
  have hfl:=List.length_filter_le (λs:Span => !decide (s.f_time.To<=a)) (op++(all.drop nx).take (n'-nx))
  have hleL:leL ((op++(all.drop nx).take (n'-nx)).filter (λs => !decide (s.f_time.To<=a))) (op++(all.drop nx).take (n'-nx))=some ():=by unfold leL;rw [if_pos hfl]
  have hkey:=QK h (t:=a) ⟨ain.1,by omega⟩ hmem (by omega)
  have w1:w64 ((k:Int)+1)=((k+1:Nat):Int):=by rw [aZ (by omega)];omega
  have hput:=putC_eq (jk l p a) a C[k+1] out (by omega)
  have hgo:gq C all (out,op,(nx:Int),(k:Int))=(putC (jk l p a) a C[k+1] out).bind λv=>some (.go (v,(op++(all.drop nx).take (n'-nx)).filter (λs => !decide (s.f_time.To<=a)),(n':Int),((k+1:Nat):Int))):=by
   unfold gq
   simp only []
   rw [w1,decide_eq_true (by omega),cond_true,m3,ob_]
   simp only [thenC]
   rw [delS i3 (by omega),ob_,hleL,ob_,delNil,ob_,hkey,ob_,iH,iH,hb,i3]
   simp only [ob_]
   unfold putC
   generalize (bif decide (w64 ((out.length:Int)-1)>=0)then _ else _:Option Bool)=c
   cases c with
   | none=>rfl
   | some c =>
    cases c with
    | false =>
     simp only [ob_,cond_false]
    | true =>
     simp only [ob_,cond_true]
  rw [hgo,hput]
  refine⟨_,rfl,rfl,?_,_,n',hb,?_,rfl,m2,?_,λx hx => ?_,λx hx => ?_⟩
  ·simp only []
   have:=Km (jk l p a) a C[k+1] out
   omega
  ·exact iy.add hab (λt t1 t2=>hedge k a _ i3 hb t t1 t2) out w.From i4
  ·simp only [];omega
  ·obtain ⟨h1,h2⟩:=List.mem_filter.1 hx
   rw [etk]
   rcases List.mem_append.1 h1 with h1|h1
   ·exact List.mem_append_left _ (i8 x h1)
   ·exact List.mem_append_right _ h1
  ·rw [etk]at hx
   have h1:x.f_time.From<=a/\(x∈op++(all.drop nx).take (n'-nx)\/x.f_time.To<=a):=by
    rcases List.mem_append.1 hx with hx|hx
    ·refine⟨(i9 x hx).1,?_⟩
     rcases (i9 x hx).2 with q|q
     ·exact .inl (List.mem_append_left _ q)
     ·exact .inr q
    ·exact⟨m4 x hx,.inl (List.mem_append_right _ hx)⟩
   refine⟨by omega,?_⟩
   by_cases hto:x.f_time.To<=a
   ·exact .inr (by omega)
   ·rcases h1.2 with q|q
    ·exact .inl (List.mem_filter.2 ⟨q,by simpa using hto⟩)
    ·exact absurd q hto) (λs ⟨i1,i2,a,nx,i3,i4,i5,i6,i7,i8,i9⟩=>by
  obtain ⟨out,op,n,i⟩:=s
  simp only at i1
  subst i1
  unfold gq
  simp only []
  rw [aZ (by omega),decide_eq_false (by omega),cond_false]) (s:=(([]:List Slot_),([]:List Span),0,0)) ⟨rfl,Nat.le_refl _,w.From,0,d1,by unfold iy;rfl,rfl,Nat.zero_le _,Nat.le_refl _,λx hx=>(by cases hx),λx hx=>(by cases hx)⟩
 obtain ⟨i1,i2,a,nx,i3,i4,_⟩:=s2
 rw [d2,so_]at i3
 rw [s1]
 exact⟨s.1,rfl,by rw [i3];exact i4,by omega⟩
open Go Go.Eng
def paT:ByteArray:=⟨#[112,97]⟩
def emT:ByteArray:=⟨#[]⟩
def uL (x:Slot_):Play:=⟨paT,x.Entry,x.Time.From,x.Time.To-x.Time.From⟩
def onT (x:Slot_):Bool:=sNe x.Entry emT
theorem Ra (a b:Int):nP a b=min a b:=by unfold nP;split <;> omega
theorem Qs (a b:Int):fZ a b=max a b:=by unfold fZ;split <;> omega
theorem Rx {x:Slot_} (h:x.Entry≠emT):onT x=true:=by
 cases h':onT x with
 | true=>rfl
 | false =>
  have:sEq x.Entry emT=true:=by
   have e:onT x = !sEq x.Entry emT:=rfl
   rw [e]at h'
   cases hs:sEq x.Entry emT with
   | true=>rfl
   | false=>rw [hs]at h';cases h'
  exact absurd ((ql _ _).1 this) h
theorem PV {x:Slot_} (h:x.Entry=emT):onT x=false:=by
 have e:onT x = !sEq x.Entry emT:=rfl
 rw [e,(ql _ _).2 h];rfl
theorem Au {f:Int->ByteArray} {T F0:Int} (hT:T<=1000000000000):∀(t:List Slot_) (F E:Int) (D:List Window) (k:Nat),iy f T F t->0<=E->E<=F->(E<F->∀y,t.head? = some y->y.Entry≠emT)->D.length+t.length<=100000 ->
  ∃D' a,forR (λk x s=>ma paT ⟨F0,T⟩ k x s) ((t.filter onT).map uL) k (D,E)=some (.go (D',a))/\D'.length<=D.length+t.length /\
   (if a<T then D'++[⟨a,T⟩]else D')=D++(if E<F then [⟨E,F⟩]else [])++(t.filter (λx => !onT x)).map (·.Time)
 | [],F,E,D,k,h,h0,hE,hn,hl=>by
  unfold iy at h
  subst h
  exact⟨D,E,rfl,by omega,by split <;> simp⟩
 | x::r,F,E,D,k,h,h0,hE,hn,hl=>by
  unfold iy at h
  obtain ⟨h1,h2,h3,h4,h5,h6⟩:=h
  simp only [List.length_cons]at hl
  by_cases hx:x.Entry=emT
  ·have hEF:E=F:=by
    rcases Int.lt_or_eq_of_le hE with h|h
    ·exact absurd hx (hn h x rfl)
    ·exact h
   obtain ⟨D',a,e1,e2,e3⟩:=Au hT r x.Time.To E D k h6 h0 (by omega) (λ_ y hy=>by rw [<- hx];exact h5 y hy) (by omega)
   refine⟨D',a,by rw [List.filter_cons_of_neg (by rw [PV hx];simp)];exact e1,by simp only [List.length_cons];omega,?_⟩
   rw [e3,if_pos (by omega),if_neg (by omega),List.filter_cons_of_pos (by rw [PV hx];rfl),List.map_cons]
   have:x.Time=⟨E,x.Time.To⟩:=by rw [hEF,<- h1]
   rw [List.append_nil,this]
   simp
  ·have hb:ma paT ⟨F0,T⟩ k (uL x) (D,E)=some (.go (D++(if E<F then [⟨E,F⟩]else []),x.Time.To)):=by
    have hp:sNe (uL x).Player paT=false:=by
     have:sNe (uL x).Player paT = !sEq paT paT:=rfl
     rw [this,(ql _ _).2 rfl];rfl
    have hle:=h6.le
    unfold ma
    simp only [hp,cond_false]
    rw [decide_eq_false (by show ¬E>=T;omega),ob_,cond_false]
    have hAt:(uL x).At=F:=h1
    have hLo:(uL x).Long=x.Time.To-F:=by show x.Time.To-x.Time.From=_;rw [h1]
    simp only [Ra,Qs,hAt,hLo]
    rw [show min F T=F by omega,aZ (n:=F+(x.Time.To-F)) (by omega),show max E (F+(x.Time.To-F))=x.Time.To by omega]
    by_cases hEF:E<F
    ·rw [decide_eq_true (by omega),cond_true,qj _ _ (by simp only [List.length_cons,List.length_nil];omega),ob_,ob_,if_pos hEF]
    ·rw [decide_eq_false (by omega),cond_false,ob_,if_neg hEF,List.append_nil]
   obtain ⟨D',a,e1,e2,e3⟩:=Au hT r x.Time.To x.Time.To (D++(if E<F then [⟨E,F⟩]else [])) (k+1) h6 (by omega) (Int.le_refl _) (λh=>absurd h (Int.lt_irrefl _)) (by rw [List.length_append];split <;> simp <;> omega)
   refine⟨D',a,?_,?_,?_⟩
   ·rw [List.filter_cons_of_pos (by exact Rx hx),List.map_cons]
    simp only [forR,hb,ob_]
    exact e1
   ·rw [List.length_append]at e2
    simp only [List.length_cons]
    have:(if E<F then [(⟨E,F⟩:Window)]else []).length<=1:=by split <;> simp
    omega
   ·rw [e3,if_neg (Int.lt_irrefl _),List.append_nil,List.filter_cons_of_neg (by rw [Rx hx];simp)]
open Go Go.Eng
theorem Gn:∀(t:List Slot_) (k:Nat) (D:List Window),D.length+t.length<=100000 ->
  forR (λk x s=>iq k x s) t k D=some (.go (D++(t.filter (λx => !onT x)).map (·.Time)))
 | [],k,D,hl=>by simp [forR]
 | x::r,k,D,hl=>by
  simp only [List.length_cons]at hl
  have hq:sEq x.Entry (⟨#[]⟩:ByteArray) = !onT x:=by
   have e:onT x = !sEq x.Entry emT:=rfl
   rw [e,Bool.not_not];rfl
  simp only [forR]
  cases h:onT x with
  | true =>
   have hb:iq k x D=some (.go D):=by
    unfold iq
    rw [hq,h];rfl
   rw [hb,ob_]
   simp only []
   rw [Gn r (k+1) D (by omega),List.filter_cons_of_neg (by rw [h];simp)]
  | false =>
   have hb:iq k x D=some (.go (D++[x.Time])):=by
    unfold iq
    rw [hq,h]
    show (Option.bind ((jv D [x.Time]).bind λa=>some a) _)=_
    rw [qj _ _ (by simp only [List.length_cons,List.length_nil];omega)];rfl
   rw [hb,ob_]
   simp only []
   rw [Gn r (k+1) (D++[x.Time]) (by simp only [List.length_append,List.length_cons,List.length_nil];omega),List.filter_cons_of_pos (by rw [h];rfl),List.map_cons,List.append_assoc]
   rfl
def xK (off:Int) (n:Nat) (x:Slot_):Log_:=⟨paT,x.Entry,(n:Int)+1,x.Time.From+off,x.Time.To-x.Time.From,emT⟩
def lgs (off:Int):Nat->List Slot_->List Log_
 | _,[]=>[]
 | n,x::r=>xK off n x::lgs off (n+1) r
theorem D5 (off:Int):∀(t:List Slot_) (n:Nat),(lgs off n t).length=t.length
 | [],_=>rfl
 | x::r,n=>by simp only [lgs,List.length_cons,D5 off r]
theorem E5 (r0:Int×Stream) (ho:0<=r0.1/\r0.1<=1000000):∀(t:List Slot_) (k:Nat) (D:List Log_),(∀x∈t,0<=x.Time.From/\x.Time.From<x.Time.To/\x.Time.To<=1000000000000)->D.length+t.length<=100000 ->
  forR (λk x s=>bZ r0 k x s) t k D=some (.go (D++lgs r0.1 D.length (t.filter onT)))
 | [],k,D,hb,hl=>by simp [forR,lgs]
 | x::r,k,D,hb,hl=>by
  simp only [List.length_cons]at hl
  have hx:=hb x (by simp)
  have hq:sNe x.Entry (⟨#[]⟩:ByteArray)=onT x:=rfl
  simp only [forR]
  cases h:onT x with
  | false =>
   have hb':bZ r0 k x D=some (.go D):=by
    unfold bZ
    rw [hq,h];rfl
   rw [hb',ob_]
   simp only []
   rw [E5 r0 ho r (k+1) D (λy hy=>hb y (by simp [hy])) (by omega),List.filter_cons_of_neg (by rw [h];simp)]
  | true =>
   have hb':bZ r0 k x D=some (.go (D++[xK r0.1 D.length x])):=by
    unfold bZ
    rw [hq,h,aZ (n:=(D.length:Int)+1) (by omega),aZ (n:=x.Time.From+r0.1) (by omega),aZ (n:=x.Time.To-x.Time.From) (by omega)]
    rw [cond_true,qj _ _ (by simp only [List.length_cons,List.length_nil];omega)];rfl
   rw [hb',ob_]
   simp only []
   rw [E5 r0 ho r (k+1) (D++[xK r0.1 D.length x]) (λy hy=>hb y (by simp [hy])) (by simp only [List.length_append,List.length_cons,List.length_nil];omega),List.filter_cons_of_pos h,List.append_assoc]
   simp only [lgs,List.length_append,List.length_cons,List.length_nil,Nat.zero_add,List.singleton_append]
open Go Go.Eng
def chn:ByteArray->List Log_->List Log_
 | _,[]=>[]
 | last,x::xs=>⟨x.Player,x.Item,x.No,x.Clock,x.Long,tQ last x⟩::chn (tQ last x) xs
theorem Iz:∀(xs:List Log_) (last:ByteArray),(chn last xs).length=xs.length
 | [],_=>rfl
 | x::xs,last=>by simp only [chn,List.length_cons,Iz xs]
theorem Kg (l:List Log_) (hl:l.length<=1000) (hg:∀x∈l,Aw x) (hf:∀x∈l,rJ x=0) {pl:ByteArray} (hp:∀x∈l,x.Player=pl) (hn:∀(k:Nat) (x:Log_),l[k]? = some x->x.No=(k:Int)+1) :
  ∀(xs:List Log_) (k:Nat) (out:List Log_) (last:ByteArray),l.drop k=xs->k<=l.length->out.length=k->ShortK last ->
  ∃s:List Log_×ByteArray,forR (λk x s=>kZ l k x s) xs k (out++xs,last)=some (.go s)/\s.1=out++chn last xs
 | [],k,out,last,hd,hkl,ho,hs=>⟨_,rfl,by simp [chn]⟩
 | x::xs,k,out,last,hd,hkl,ho,hs=>by
  have hx:l[k]? = some x:=nZ hd
  have hlt:=(List.getElem?_eq_some_iff.1 hx).1
  have hgx:=hg x (List.mem_of_getElem? hx)
  have hi:inR (k:Int) (out++x::xs)=some ():=inR_okK (by omega) (by simp;omega)
  have hgk:(out++x::xs)[0+(k:Int).toNat]? = some x:=by
   rw [show 0+(k:Int).toNat=out.length by omega];simp
  have hsetk:∀a:Log_,(out++x::xs).set (0+(k:Int).toNat) a=(out++[a])++xs:=λa=>by
   rw [show 0+(k:Int).toNat=out.length by omega];simp
  have h1:(bif (decide ((k:Int)>0))then (idx l 0).bind λy_28=>some (sNe x.Player y_28.Player)else some false)=some false:=by
   by_cases hk0:k=0
   ·rw [decide_eq_false (by omega)];rfl
   ·have h0:idx l 0=some (l[0]'(by omega)):=by
     have:=iH l 0
     rw [show ((0:Nat):Int)=0 from rfl]at this
     rw [this];exact List.getElem?_eq_getElem _
    rw [decide_eq_true (by omega),cond_true,h0,ob_]
    have e:x.Player=(l[0]'(by omega)).Player:=by rw [hp x (List.mem_of_getElem? hx),hp _ (List.getElem_mem _)]
    have e2:sNe x.Player (l[0]'(by omega)).Player = !sEq x.Player (l[0]'(by omega)).Player:=rfl
    rw [e2,(ql _ _).2 e];rfl
  have h2:(bif (decide ((k:Int)>0))then (idx l (w64 ((k:Int)-1))).bind λy_34=>some (x.No != (w64 (y_34.No+1)))else some false)=some false:=by
   by_cases hk0:k=0
   ·rw [decide_eq_false (by omega)];rfl
   ·obtain ⟨j,rfl⟩:∃j,k=j+1:=⟨k-1,by omega⟩
    have hj:l[j]? = some (l[j]'(by omega)):=List.getElem?_eq_getElem _
    rw [decide_eq_true (by omega),cond_true,aZ (by omega),show (((j+1:Nat):Int)-1)=(j:Int) by omega,iH,hj,ob_,hn _ _ hj,hn _ _ hx,aZ (by omega)]
    simp
  have hA:kZ l k x (out++x::xs,last)=some (.go ((out++[⟨x.Player,x.Item,x.No,x.Clock,x.Long,tQ last x⟩])++xs,tQ last x)):=by
   unfold kZ
   simp only [Dt hgx,sumP last hs hgx,hi,hgk,hsetk,ob_,h1,h2,hf x (List.mem_of_getElem? hx),bne_self_eq_false,cond_false]
  obtain ⟨s,e1,e2⟩:=Kg l hl hg hf hp hn xs (k+1) (out++[⟨x.Player,x.Item,x.No,x.Clock,x.Long,tQ last x⟩]) (tQ last x) (aW hd) (by omega) (by simp;omega) (EY _ _)
  exact⟨s,by simp only [forR,hA,ob_];exact e1,by rw [e2,chn,List.append_assoc];rfl⟩
theorem QE (l:List Log_) (hl:l.length<=1000) (hg:∀x∈l,Aw x) (hf:∀x∈l,rJ x=0) {pl:ByteArray} (hp:∀x∈l,x.Player=pl) (hn:∀(k:Nat) (x:Log_),l[k]? = some x->x.No=(k:Int)+1) (hc:eX l=some l) (h0:ShortK (⟨#[]⟩:ByteArray)) :
  oJ (⟨#[]⟩:ByteArray) l=some (chn (⟨#[]⟩:ByteArray) l,0):=by
 obtain ⟨s,e1,e2⟩:=Kg l hl hg hf hp hn l 0 [] (⟨#[]⟩:ByteArray) rfl (by omega) rfl h0
 unfold oJ
 have hlf:Oa (⟨#[]⟩:ByteArray)=0:=by
  have e2:sNe (⟨#[]⟩:ByteArray) (⟨#[]⟩:ByteArray) = !sEq (⟨#[]⟩:ByteArray) (⟨#[]⟩:ByteArray):=rfl
  unfold Oa
  rw [e2,(ql _ _).2 rfl];rfl
 rw [lastP h0,ob_,hlf,bne_self_eq_false,cond_false,decide_eq_false (by omega),cond_false,hc,ob_,jG (by omega)]
 rw [List.nil_append]at e1
 rw [e1,ob_,gN,e2,List.nil_append]
open Go Go.Eng
theorem Nh {α:Type} (c:α->α->Int):∀(Q R:List α),(∀v∈Q,∀u∈R,¬c v u<0)->Q.Pairwise (λa b=>¬c b a<0)->sO c R Q=Q.reverse++R
 | [],R,_,_=>rfl
 | v::Q,R,h,hp=>by
  obtain ⟨p1,p2⟩:=List.pairwise_cons.1 hp
  have hi:gU c v R=v::R:=by
   cases R with
   | nil=>rfl
   | cons u R =>
    show (bif decide (c v u<0)then u::gU c v R else v::u::R)=_
    rw [decide_eq_false (h v (by simp) u (by simp))];rfl
  show sO c (gU c v R) Q=_
  rw [hi,Nh c Q (v::R) (λw hw u hu=>by
   rcases List.mem_cons.1 hu with rfl|hu
   ·exact p1 w hw
   ·exact h w (List.mem_cons_of_mem _ hw) u hu) p2]
  simp
theorem srtS_id {α:Type} (c:α->α->Int) (l:List α) (hp:l.Pairwise (λa b=>¬c b a<0)):mg c l=l:=by
 unfold mg
 rw [Nh c l [] (λ_ _ _ h=>by cases h) hp];simp
def bts (off:Int):List Beat:=[⟨paT,86400000,86400000+off⟩,⟨paT,172800000,172800000+off⟩]
theorem oQ {n:Int} (h:0<=n/\n<=345686399999):momB n=true:=by unfold momB;rw [vO h];rfl
theorem QV (a c:Int):ofB paT ⟨paT,a,c⟩=true:=decide_eq_true rfl
theorem Jv (off:Int):MB (bts off) paT=[⟨86400000+off,86400000⟩,⟨172800000+off,172800000⟩]:=by
 unfold MB bts
 rw [List.filter_cons_of_pos (QV _ _),List.filter_cons_of_pos (QV _ _)];rfl
theorem Rn {off:Int} (ho:0<=off/\off<=1000000):BOk (bts off):=⟨λx hx=>by
  unfold bts at hx
  simp only [List.mem_cons,List.not_mem_nil,or_false]at hx
  rcases hx with rfl|rfl
  ·exact⟨oQ (by simp only [];omega),oQ (by simp only [];omega)⟩
  ·exact⟨oQ (by simp only [];omega),oQ (by simp only [];omega)⟩,by simp [bts]⟩
theorem Kl:ShortK paT:=zQ rfl
theorem FB:keyB paT=true:=by kernel_rfl
theorem Ps {off:Int} (ho:0<=off/\off<=1000000):fT (bts off)=some 0:=by
 rw [beatsK _ (λx hx=>by
  unfold bts at hx
  simp only [List.mem_cons,List.not_mem_nil,or_false]at hx
  rcases hx with rfl|rfl <;> exact Kl) (by simp [bts])]
 unfold Ms bts
 simp only [vN,bStp,FB,oQ (show 0<=(86400000:Int)/\(86400000:Int)<=345686399999 by omega),oQ (show 0<=(172800000:Int)/\(172800000:Int)<=345686399999 by omega),oQ (show 0<=86400000+off/\86400000+off<=345686399999 by omega),oQ (show 0<=172800000+off/\172800000+off<=345686399999 by omega)]
 rw [if_pos (show xe ⟨paT,86400000,86400000+off⟩ ⟨paT,172800000,172800000+off⟩ from .inr ⟨rfl,(by show (86400000:Int)<172800000;omega)⟩),if_neg (show ¬(True/\172800000+off<=86400000+off) by omega)]
 rfl
theorem atF_ts {off a:Int} (ho:0<=off/\off<=1000000) {x:Log_} (hp:x.Player=paT) (hc:x.Clock=a+off) (ha:86400000<=a/\a<172800000):atF (bts off) x=some a:=by
 have hk:Cut (MB (bts off) paT) x.Clock 1:=by
  rw [Jv]
  refine⟨by simp,λi h hi => ?_,λh => ?_⟩
  ·obtain rfl:i=0:=by omega
   show 86400000+off<=x.Clock
   omega
  ·show x.Clock<172800000+off
   omega
 have hb:BndM (MB (bts off) paT):=PI (Rn ho).mom false
 have h1:=Hf hk hb (by unfold inM;omega) (by rw [Jv];simp)
 have hm:Jm [⟨86400000+off,86400000⟩,⟨172800000+off,172800000⟩] x.Clock 1=(a,0):=by
  have hf:Kr (⟨86400000+off,86400000⟩:Beat_) ⟨172800000+off,172800000⟩=false:=by
   unfold Kr
   simp only []
   rw [aZ (by omega),aZ (by omega),decide_eq_false (by omega),decide_eq_false (by omega)];rfl
  have hbt:between (⟨86400000+off,86400000⟩:Beat_) ⟨172800000+off,172800000⟩ x.Clock=a:=by
   unfold between
   simp only []
   rw [aZ (n:=x.Clock-(86400000+off)) (by omega),aZ (n:=(172800000:Int)-86400000) (by omega),aZ (n:=172800000+off-(86400000+off)) (by omega),
    aZ (n:=(x.Clock-(86400000+off))*(172800000-86400000)) (by omega),show 172800000+off-(86400000+off)=(86400000:Int) by omega,show ((172800000:Int)-86400000)=86400000 by omega,Int.mul_tdiv_cancel _ (by omega),aZ (n:=x.Clock-(86400000+off)) (by omega),aZ (by omega)]
   omega
  show (if (2:Nat)=0 then ((0:Int),(8:Int))else if (1:Nat)=0 then _ else if (1:Nat)=2 then _ else bif Kr (⟨86400000+off,86400000⟩:Beat_) ⟨172800000+off,172800000⟩then (0,2)else pG (between (⟨86400000+off,86400000⟩:Beat_) ⟨172800000+off,172800000⟩ x.Clock))=(a,0)
  rw [if_neg (by decide),if_neg (by decide),if_neg (by decide),hf,cond_false,hbt]
  unfold pG
  rw [oQ (by omega)];rfl
 rw [Jv,hm]at h1
 unfold atF plF
 rw [hp,Jv,h1];rfl
structure GoodT (x:Slot_):Prop where
 key:keyB x.Entry=true
 short:ShortK x.Entry
 from_:86400000<=x.Time.From
 lt:x.Time.From<x.Time.To
 to_:x.Time.To<=172800000
theorem NV {y:Log_} {x:Slot_} {off:Int} (ho:0<=off/\off<=1000000) (hx:GoodT x) (h1:y.Player=paT) (h2:y.Item=x.Entry) (h3:1<=y.No/\y.No<=1000000) (h4:y.Clock=x.Time.From+off) (h5:y.Long=x.Time.To-x.Time.From):rJ y=0:=by
 obtain ⟨k1,k2,k3,k4,k5⟩:=hx
 unfold rJ
 rw [h1,h2,FB,k1,vO h3,vO (show 0<=y.Clock/\y.Clock<=345686399999 by omega),vO (show 1<=y.Long/\y.Long<=86400000 by omega)];rfl
theorem Ol {y:Log_} {x:Slot_} {off:Int} (ho:0<=off/\off<=1000000) (hx:GoodT x) (h1:y.Player=paT) (h2:y.Item=x.Entry) (h3:1<=y.No/\y.No<=1000000) (h4:y.Clock=x.Time.From+off) (h5:y.Long=x.Time.To-x.Time.From) (h6:ShortK y.Sum):Aw y:=by
 obtain ⟨k1,k2,k3,k4,k5⟩:=hx
 refine⟨by rw [h1];exact Kl,by rw [h2];exact k2,h6,?_,?_,?_⟩ <;> unfold Med <;> omega
theorem Mh (off:Int):∀(ts:List Slot_) (n i:Nat) (y:Log_),(lgs off n ts)[i]? = some y->∃x,ts[i]? = some x/\y=xK off (n+i) x
 | [],n,i,y,h=>by simp [lgs]at h
 | x::r,n,0,y,h=>by
  simp only [lgs,List.getElem?_cons_zero,so_]at h
  exact⟨x,rfl,h.symm⟩
 | x::r,n,i+1,y,h=>by
  simp only [lgs,List.getElem?_cons_succ]at h
  obtain ⟨z,z1,z2⟩:=Mh off r (n+1) i y h
  exact⟨z,by simpa using z1,by rw [z2,show n+1+i=n+(i+1) by omega]⟩
theorem ME (off:Int):∀(ts:List Slot_) (n i:Nat) (last:ByteArray) (x:Slot_),ts[i]? = some x->∃s,ShortK s/\yE s=true/\(chn last (lgs off n ts))[i]? = some ⟨paT,x.Entry,((n+i:Nat):Int)+1,x.Time.From+off,x.Time.To-x.Time.From,s⟩
 | [],n,i,last,x,h=>by simp at h
 | z::r,n,0,last,x,h=>by
  simp only [List.getElem?_cons_zero,so_]at h
  subst h
  exact⟨tQ last (xK off n z),EY _ _,NA _,rfl⟩
 | z::r,n,i+1,last,x,h=>by
  simp only [List.getElem?_cons_succ]at h
  obtain ⟨s,s1,s2,s3⟩:=ME off r (n+1) i (tQ last (xK off n z)) x h
  refine⟨s,s1,s2,?_⟩
  simp only [lgs,chn,List.getElem?_cons_succ]
  rw [s3,show n+1+i=n+(i+1) by omega]
theorem PG {off:Int} (ho:0<=off/\off<=1000000):∀(ts:List Slot_) (n:Nat) (last:ByteArray) (p:Option Log_),(∀o,p=some o->o.Player=paT/\o.No=(n:Int))->(∀x∈ts,GoodT x)->n+ts.length<=100000->vN GI p (chn last (lgs off n ts))=0
 | [],n,last,p,hp,hx,hl=>rfl
 | x::r,n,last,p,hp,hx,hl=>by
  simp only [List.length_cons]at hl
  have hf:rJ (⟨paT,x.Entry,(n:Int)+1,x.Time.From+off,x.Time.To-x.Time.From,tQ last (xK off n x)⟩:Log_)=0:=NV ho (hx x (by simp)) rfl rfl (by simp only [];omega) rfl rfl
  have hs:GI p (⟨paT,x.Entry,(n:Int)+1,x.Time.From+off,x.Time.To-x.Time.From,tQ last (xK off n x)⟩:Log_)=0:=by
   unfold GI
   have hm:yE (tQ last (xK off n x))=true:=NA _
   rw [hf,bne_self_eq_false,cond_false]
   simp only []
   rw [hm]
   cases p with
   | none=>rfl
   | some o =>
    obtain ⟨o1,o2⟩:=hp o rfl
    have hc:cmpL o (⟨paT,x.Entry,(n:Int)+1,x.Time.From+off,x.Time.To-x.Time.From,tQ last (xK off n x)⟩:Log_) = -1:=by
     unfold cmpL
     simp only []
     rw [o1,yN,o2]
     unfold xZ
     rw [if_pos (by omega)];rfl
    simp only []
    rw [hc];rfl
  show vN GI p ((⟨paT,x.Entry,(n:Int)+1,x.Time.From+off,x.Time.To-x.Time.From,tQ last (xK off n x)⟩:Log_)::chn (tQ last (xK off n x)) (lgs off (n+1) r))=0
  rw [vN,hs]
  exact PG ho r (n+1) _ _ (λo h=>by
   rw [so_]at h
   rw [<- h]
   exact⟨rfl,by simp only [];omega⟩) (λy hy=>hx y (List.mem_cons_of_mem _ hy)) (by omega)
theorem Rz {off:Int} (ho:0<=off/\off<=1000000) {ts:List Slot_} (hx:∀x∈ts,GoodT x) (hl:ts.length<=19):LOk (chn emT (lgs off 0 ts))/\kr (chn emT (lgs off 0 ts))=some 0:=by
 have hlen:(chn emT (lgs off 0 ts)).length=ts.length:=by rw [Iz,D5]
 have h0:Ic (chn emT (lgs off 0 ts))=0:=by
  unfold Ic
  rw [decide_eq_false (by omega),cond_false]
  exact PG ho ts 0 emT none (λo h=>by cases h) hx (by omega)
 obtain ⟨h1,h2⟩:=logsF_0 h0
 refine⟨⟨h1,h2,by omega⟩,?_⟩
 rw [logsK _ (λy hy => ?_) (by omega),h0]
 obtain ⟨i,hi⟩:=List.getElem?_of_mem hy
 have hil:=(List.getElem?_eq_some_iff.1 hi).1
 obtain ⟨s,s1,s2,s3⟩:=ME off ts 0 i emT (ts[i]'(by omega)) (List.getElem?_eq_getElem _)
 rw [hi,so_]at s3
 rw [s3]
 exact Ol ho (hx _ (List.getElem_mem _)) rfl rfl (by simp only [];omega) rfl rfl s1
theorem OZ {off:Int} (ho:0<=off/\off<=1000000) {ts:List Slot_} (hx:∀x∈ts,GoodT x) (hl:ts.length<=19):oJ (⟨#[]⟩:ByteArray) (lgs off 0 ts)=some (chn emT (lgs off 0 ts),0):=by
 have hlen:=D5 off ts 0
 have hy:∀y∈lgs off 0 ts,Aw y/\rJ y=0/\y.Player=paT:=λy hy=>by
  obtain ⟨i,hi⟩:=List.getElem?_of_mem hy
  have hil:=(List.getElem?_eq_some_iff.1 hi).1
  obtain ⟨x,x1,x2⟩:=Mh off ts 0 i y hi
  have hg:=hx x (List.mem_of_getElem? x1)
  rw [x2]
  exact⟨Ol ho hg rfl rfl (by show 1<=((0+i:Nat):Int)+1/\((0+i:Nat):Int)+1<=1000000;omega) rfl rfl (zQ rfl),NV ho hg rfl rfl (by show 1<=((0+i:Nat):Int)+1/\((0+i:Nat):Int)+1<=1000000;omega) rfl rfl,rfl⟩
 exact QE _ (by omega) (λy h=>(hy y h).1) (λy h=>(hy y h).2.1) (λy h=>(hy y h).2.2) (λk y h=>by
  obtain ⟨x,x1,x2⟩:=Mh off ts 0 k y h
  rw [x2]
  show ((0+k:Nat):Int)+1=_
  omega) (by
   unfold eX
   rw [oP [] _ (by simp;omega)];simp) (zQ rfl)
def dtT:Nat->List Slot_->List Dated
 | _,[]=>[]
 | k,x::r=>⟨x.Time.From,(k:Int)⟩::dtT (k+1) r
theorem PZ {off:Int} (ho:0<=off/\off<=1000000):∀(ts:List Slot_) (n k:Nat) (last:ByteArray),(∀x∈ts,GoodT x)->dts (bts off) k (chn last (lgs off n ts))=dtT k ts/\lfs (bts off) k (chn last (lgs off n ts))=[]
 | [],n,k,last,h=>⟨rfl,rfl⟩
 | x::r,n,k,last,h=>by
  obtain ⟨h1,h2,h3,h4,h5⟩:=h x (by simp)
  have ha:=atF_ts ho (a:=x.Time.From) (x:=(⟨paT,x.Entry,(n:Int)+1,x.Time.From+off,x.Time.To-x.Time.From,tQ last (xK off n x)⟩:Log_)) rfl rfl (by omega)
  obtain ⟨i1,i2⟩:=PZ ho r (n+1) (k+1) (tQ last (xK off n x)) (λy hy=>h y (List.mem_cons_of_mem _ hy))
  show dts (bts off) k ((⟨paT,x.Entry,(n:Int)+1,x.Time.From+off,x.Time.To-x.Time.From,tQ last (xK off n x)⟩:Log_)::chn (tQ last (xK off n x)) (lgs off (n+1) r))=_/\lfs (bts off) k ((⟨paT,x.Entry,(n:Int)+1,x.Time.From+off,x.Time.To-x.Time.From,tQ last (xK off n x)⟩:Log_)::chn (tQ last (xK off n x)) (lgs off (n+1) r))=_
  rw [dts,lfs,ha,i1,i2];exact⟨rfl,rfl⟩
def Asc:Int->List Slot_->Prop
 | _,[]=>True
 | E,x::r=>E<=x.Time.From/\x.Time.From<x.Time.To/\x.Time.To<=172800000/\Asc x.Time.To r
theorem asc_le {E E':Int} (h:E'<=E):∀{t:List Slot_},Asc E t->Asc E' t
 | [],_=>trivial
 | x::r,k=>by
  obtain ⟨k1,k2,k3,k4⟩:=k
  exact⟨by omega,k2,k3,k4⟩
theorem Hz {f:Int->ByteArray} {T:Int} (hT:T<=172800000):∀(t:List Slot_) (F:Int),iy f T F t->Asc F (t.filter onT)
 | [],F,h=>trivial
 | x::r,F,h=>by
  unfold iy at h
  obtain ⟨h1,h2,h3,h4,h5,h6⟩:=h
  have ih:=Hz hT r x.Time.To h6
  cases hx:onT x with
  | false=>rw [List.filter_cons_of_neg (by rw [hx];simp)];exact asc_le (by omega) ih
  | true=>rw [List.filter_cons_of_pos hx];exact⟨by omega,by omega,by omega,ih⟩
theorem Qf:∀(xs:List Slot_) (k:Nat) (E:Int),Asc E xs->(dtT k xs).Pairwise (λa b=>a.f_at<=b.f_at)/\∀d∈dtT k xs,E<=d.f_at
 | [],k,E,_=>⟨List.Pairwise.nil,λd h=>by cases h⟩
 | x::xs,k,E,h=>by
  obtain ⟨h1,h2,h3,h4⟩:=h
  obtain ⟨i1,i2⟩:=Qf xs (k+1) x.Time.To h4
  refine⟨List.pairwise_cons.2 ⟨λd hd => ?_,i1⟩,λd hd => ?_⟩
  ·have:=i2 d hd
   show x.Time.From<=d.f_at
   omega
  ·rcases List.mem_cons.1 hd with rfl|hd
   ·exact h1
   ·have:=i2 d hd
    omega
theorem Nk:∀(xs:List Slot_) (k:Nat) (d:Dated),d∈dtT k xs->∃(i:Nat) (x:Slot_),xs[i]? = some x/\d.f_i=((k+i:Nat):Int)
 | [],k,d,h=>by cases h
 | x::xs,k,d,h=>by
  rcases List.mem_cons.1 h with rfl|h
  ·exact⟨0,x,rfl,rfl⟩
  ·obtain ⟨i,y,y1,y2⟩:=Nk xs (k+1) d h
   exact⟨i+1,y,by simpa using y1,by rw [y2,show k+1+i=k+(i+1) by omega]⟩
def Tells (L:List Log_) (ts:List Slot_):Prop:=∀(i:Nat) (x:Slot_),ts[i]? = some x->∃y:Log_,L[i]? = some y/\y.Player=paT/\y.Item=x.Entry/\y.Long=x.Time.To-x.Time.From
theorem Rb {L:List Log_} {ts:List Slot_} (hg:Tells L ts):∀(xs:List Slot_) (k:Nat) (E:Int) (pl:List Play),ts.drop k=xs->Asc E xs->0<=E->(∀q,pl.getLast? = some q->q.At+q.Long<=E)->oo L pl (dtT k xs)=(pl++xs.map uL,[])
 | [],k,E,pl,hd,ha,h0,hl=>by simp [dtT,oo]
 | x::xs,k,E,pl,hd,ha,h0,hl=>by
  obtain ⟨a1,a2,a3,a4⟩:=ha
  obtain ⟨y,y1,y2,y3,y4⟩:=hg k x (nZ hd)
  have hy:yL L (⟨x.Time.From,(k:Int)⟩:Dated)=y:=PY y1 rfl
  have hbeg:qC L pl (⟨x.Time.From,(k:Int)⟩:Dated)=(x.Time.From,x.Time.To-x.Time.From):=by
   unfold qC
   rw [hy,y4]
   cases hq:pl.getLast? with
   | none=>rfl
   | some q =>
    have:=hl q hq
    simp only []
    rw [decide_eq_false (p:=q.At+q.Long>x.Time.From) (by omega),Bool.and_false,cond_false]
  have hs:stp L pl (⟨x.Time.From,(k:Int)⟩:Dated)=some (uL x):=by
   unfold stp
   rw [hbeg,hy,y2,y3]
   simp only []
   rw [decide_eq_false (by omega),oQ (by omega)];rfl
  show oo L pl ((⟨x.Time.From,(k:Int)⟩:Dated)::dtT (k+1) xs)=_
  rw [oo,hs]
  simp only []
  rw [Rb hg xs (k+1) x.Time.To (pl++[uL x]) (aW hd) a4 (by omega) (λq hq=>by
   rw [KS,so_]at hq
   rw [<- hq]
   show x.Time.From+(x.Time.To-x.Time.From)<=_
   omega)]
  simp
theorem QS {off:Int} (ho:0<=off/\off<=1000000) {ts:List Slot_} (hx:∀x∈ts,GoodT x) (ha:Asc 86400000 ts) (hl:ts.length<=19):qw (chn emT (lgs off 0 ts)) (bts off)=some (ts.map uL,[],0):=by
 obtain ⟨hL,hk⟩:=Rz ho hx hl
 generalize hLd:chn emT (lgs off 0 ts)=L at hL hk
 have hlen:L.length=ts.length:=by rw [<- hLd,Iz,D5]
 have hg:Tells L ts:=λi x hi=>by
  obtain ⟨s,s1,s2,s3⟩:=ME off ts 0 i emT x hi
  rw [hLd]at s3
  exact⟨_,s3,rfl,rfl,rfl⟩
 obtain ⟨d1,d2⟩:=PZ ho ts 0 0 emT hx
 rw [hLd]at d1 d2
 obtain ⟨p1,p2⟩:=Qf ts 0 86400000 ha
 have hpl:∀d∈dtT 0 ts,(yL L d).Player=paT:=λd hd=>by
  obtain ⟨i,x,x1,x2⟩:=Nk ts 0 d hd
  obtain ⟨y,y1,y2,_⟩:=hg i x x1
  rw [PY y1 (by rw [x2,Nat.zero_add]),y2]
 have hsort:mg (c2 L) (dtT 0 ts)=dtT 0 ts:=srtS_id _ _ (by
  refine (List.Pairwise.and_mem.1 p1).imp (λ{a b} h => ?_)
  obtain ⟨h1,h2,h3⟩:=h
  unfold c2 JD
  rw [hpl a h1,hpl b h2,yN]
  show ¬xZ b.f_at a.f_at<0
  unfold xZ
  rw [if_neg (by omega)]
  split <;> omega)
 have hfn:fnd (bts off) L L=(ts.map uL,[]):=by
  unfold fnd
  rw [d1,hsort,Rb hg ts 0 86400000 [] rfl ha (by omega) (λq hq=>by cases hq)];rfl
 obtain ⟨n,F',h1,h2⟩:=Eu (Rn ho) hL L.length [] L [] (Nat.le_refl _) rfl (λa ha=>by cases ha) (List.Perm.refl _)
 have h1:iterN (λs=>jo L (bts off) s) n (([]:List Play),([]:List Int),0)=_:=h1
 rw [hfn]at h1 h2
 rw [d2]at h2
 have hF:F'=[]:=List.eq_nil_of_length_eq_zero (by have:=h2.length_eq;simpa using this)
 subst hF
 obtain ⟨s,s1,_,s3⟩:=Oo (List.Perm.refl ([]:List Int)) (by simp)
 have hs:s=[]:=List.eq_nil_of_length_eq_zero (by simpa using s3)
 subst hs
 unfold qw
 rw [hk,Ps ho]
 show (fq _ _).bind _=_
 rw [eu h1,ob_,gN]
 simp only []
 rw [s1,ob_];rfl
open Go Go.Eng
theorem Hy {F F':Int} (h:F<=F'):∀P:List Int,(P.filter (λq=>decide (F'<q))).length<=(P.filter (λq=>decide (F<q))).length
 | []=>Nat.le_refl _
 | q::P=>by
  have ih:=Hy h P
  by_cases h1:F'<q
  ·rw [List.filter_cons_of_pos (by simpa using h1),List.filter_cons_of_pos (by simp;omega)];simp only [List.length_cons];omega
  ·rw [List.filter_cons_of_neg (by simpa using h1)]
   by_cases h2:F<q
   ·rw [List.filter_cons_of_pos (by simpa using h2)];simp only [List.length_cons];omega
   ·rw [List.filter_cons_of_neg (by simpa using h2)];exact ih
theorem Hw {F F':Int} (h:F<F'):∀P:List Int,F'∈P->(P.filter (λq=>decide (F'<q))).length+1<=(P.filter (λq=>decide (F<q))).length
 | q::P,hm=>by
  by_cases hq:q=F'
  ·subst hq
   have:=Hy (F:=F) (F':=q) (by omega) P
   rw [List.filter_cons_of_neg (by simp),List.filter_cons_of_pos (by simpa using h)];simp only [List.length_cons];omega
  ·have ih:=Hw h P (by rcases List.mem_cons.1 hm with h | h;exact absurd h.symm hq;exact h)
   by_cases h1:F'<q
   ·rw [List.filter_cons_of_pos (by simpa using h1),List.filter_cons_of_pos (by simp;omega)];simp only [List.length_cons];omega
   ·rw [List.filter_cons_of_neg (by simpa using h1)]
    by_cases h2:F<q
    ·rw [List.filter_cons_of_pos (by simpa using h2)];simp only [List.length_cons];omega
    ·rw [List.filter_cons_of_neg (by simpa using h2)];exact ih
theorem Iq {f:Int->ByteArray} {T:Int} (P:List Int):∀(t:List Slot_) (F:Int),iy f T F t->(∀q,F<q->q<T->f (q-1)≠f q->q∈P)->t.length<=1+(P.filter (λq=>decide (F<q))).length
 | [],F,h,hP=>by simp
 | [x],F,h,hP=>by simp
 | x::y::r,F,h,hP=>by
  unfold iy at h
  obtain ⟨h1,h2,h3,h4,h5,h6⟩:=h
  have h6':=h6
  unfold iy at h6'
  obtain ⟨k1,k2,k3,k4,-,-⟩:=h6'
  have hne:f (x.Time.To-1)≠f x.Time.To:=by
   rw [h4 (x.Time.To-1) (by omega) (by omega),k4 x.Time.To (by omega) (by omega)]
   exact λe=>h5 y rfl e.symm
  have hm:=hP x.Time.To (by omega) (by omega) hne
  have ih:=Iq P (y::r) x.Time.To h6 (λq q1 q2 q3=>hP q (by omega) q2 q3)
  have:=Hw h2 P hm
  simp only [List.length_cons]at ih ⊢
  omega
open Go Go.Eng
def ptsE (z F:Int) (e:Entry):List Int:=[tF e z ((F-tF e z 0) / 86400000+1),tF e z ((F-(tF e z 0+qX e*60000)) / 86400000+1)+qX e*60000]
def OJ (z F:Int) (l:List Entry):List Int:=l.flatMap (ptsE z F)
theorem J9 (z F:Int):∀l:List Entry,(OJ z F l).length=2*l.length
 | []=>rfl
 | e::l=>by
  have ih:=J9 z F l
  unfold OJ at ih ⊢
  rw [List.flatMap_cons,List.length_append,ih]
  unfold ptsE
  simp only [List.length_cons,List.length_nil];omega
theorem pts_has {l:List Entry} {p:Player} (h:CE l p) {F q:Int} (h1:F<q) (h2:q<F+86400000) (h3:jk l p (q-1)≠jk l p q):q∈OJ p.Zone F l:=by
 refine Classical.byContradiction λhq=>h3 ?_
 refine (NG h.right (p:=p) (a:=q-1) (t:=q) (by omega) (λe he hf d g1 g2 g3 g4 => ?_)).symm
 have n1:tF e p.Zone d≠q:=λhd=>hq (by
  refine List.mem_flatMap.2 ⟨e,he,?_⟩
  have hdd:d=(F-tF e p.Zone 0) / 86400000+1:=by
   unfold tF at hd ⊢
   omega
  unfold ptsE
  rw [<- hdd,hd]
  exact List.mem_cons_self)
 have n2:tF e p.Zone d+qX e*60000≠q:=λhd=>hq (by
  refine List.mem_flatMap.2 ⟨e,he,?_⟩
  have hdd:d=(F-(tF e p.Zone 0+qX e*60000)) / 86400000+1:=by
   unfold tF at hd ⊢
   omega
  unfold ptsE
  rw [<- hdd,hd]
  exact List.mem_cons_of_mem _ List.mem_cons_self)
 omega
theorem OM {l:List Entry} {p:Player} (h:CE l p) {F T:Int} (hT:T=F+86400000) {t:List Slot_} (ht:iy (jk l p) T F t):t.length<=9:=by
 have h1:=Iq (OJ p.Zone F l) t F ht (λq h1 h2 h3=>pts_has h h1 (by omega) h3)
 have h2:((OJ p.Zone F l).filter (λq=>decide (F<q))).length<=(OJ p.Zone F l).length:=List.length_filter_le _ _
 have h3:=J9 p.Zone F l
 have h4:=h.len
 omega
open Go Go.Eng Go.Proofs
theorem on_eqT {l:List Entry} {p:Player} (h:CE l p) {t:Int} (ht:0<=t/\t<345686400000):qA l p t=some ((xB l p t).map kg):=by
 have hl:=MX h t
 unfold qA
 rw [aZ (n:=t+1) (by omega),spans_eq h (w:=⟨t,t+1⟩) ⟨by simp only [];omega,by simp only [];omega,by simp only [];omega⟩,ob_,H8 p t h.right]
 obtain ⟨r,r1,r2,r3⟩:=Fu (F:=λa b=>eZ a b) (λa b=>cE (qG a) (qG b)) (xs:=(kY l p t).map kg) (by rw [List.length_map];omega) (λa ha b hb=>by
   obtain ⟨x,_,rfl⟩:=List.mem_map.1 ha
   obtain ⟨y,_,rfl⟩:=List.mem_map.1 hb
   exact CU x y)
  (λa _ q=>by have:=uJ.1 q;rw [yc]at this;cases this)
  (λa _ b _ d _ q1 q2=>uJ.2 (wV _ _ _ (uJ.1 q1) (uJ.1 q2)))
  (λa _ b _ c _ q1 q2 q3=>Rh (λe=>q1 (uJ.2 e)) (λe=>q2 (uJ.2 e)) (uJ.1 q3))
 have r1:iW ((kY l p t).map kg)=some r:=r1
 have e3:jS r ((kY l p t).map kg)=some ():=by unfold jS;rw [if_pos r2.length_eq]
 have hk:∀x:Entry×Int,qG (kg x)=x:=λx=>rfl
 have hm:(r.map qG).Perm (kY l p t):=by
  have:=r2.map qG
  rw [List.map_map]at this
  have e:(kY l p t).map (qG ∘ kg)=kY l p t:=List.map_id _
  rwa [e]at this
 have hs:r.map qG=xB l p t:=srtG_is yc wV (Hu h.keys p t) hm (by
  rw [List.pairwise_map]
  refine r3.imp (λ{a b} q => ?_)
  cases hb:tV (qG b) (qG a)with
  | false=>rfl
  | true=>exact absurd (uJ.2 hb) q)
 have hr:r=(xB l p t).map kg:=by
  rw [<- hs,List.map_map]
  have:∀s∈r,(kg ∘ qG) s=s:=λs hs'=>by
   obtain ⟨x,_,rfl⟩:=List.mem_map.1 (r2.mem_iff.1 hs')
   rfl
  rw [List.map_congr_left this,List.map_id']
 rw [r1,ob_,e3,ob_,hr]
theorem On_eqT {l:List Entry} {p:Player} (h:CE l p) {t:Int} (ht:0<=t/\t<345686400000) (hm:eG l p t=some 0):oH l p t=some (jk l p t,!(xB l p t).isEmpty,0):=by
 unfold oH
 rw [hm,ob_,bne_self_eq_false,cond_false,on_eqT h ht,ob_]
 unfold jk
 cases xB l p t with
 | nil=>rfl
 | cons x r =>
  have:((((x::r).map kg).length:Int)==0)=false:=by rw [beq_eq_false_iff_ne];simp only [List.map_cons,List.length_cons];omega
  rw [this,cond_false];rfl
open Go Go.Eng
theorem on_ts {xs:List Entry} {p:Player} (hc:CE xs p) {t:Int} (ht:0<=t/\t<345686400000) (hm:eG xs p t=some 0) (hk:jk xs p t≠emT) :
  oH xs p t=some (jk xs p t,true,0):=by
 rw [On_eqT hc ht hm]
 unfold jk at hk ⊢
 cases h:xB xs p t with
 | nil=>rw [h]at hk;exact absurd rfl hk
 | cons c l=>rfl
def xk (last:ByteArray) (x:Entry):Int:=bif uX x==0 then (bif sLe x.Key last then 7 else 0)else uX x
def C9 (l:List Entry):Int:=chk (λe:Entry=>e.Key) xk Cj l
theorem entsK {l:List Entry} (h:∀e∈l,Gb e) (hl:l.length<=100):dL l=some (C9 l):=by
 unfold dL C9
 rw [decide_eq_false (by omega),cond_false,jG (by omega),EI (key:=λe:Entry=>e.Key) (stp:=xk) l l 0 rfl (λk x hx => ?_)]
 ·simp only [ob_,CJ];rfl
 ·unfold fe xk
  rw [entK x (h x (List.mem_of_getElem? hx)),ob_]
  cases he:uX x==0 with
  | false =>
   have:(uX x != 0)=true:=by simp [bne,he]
   rw [this,cond_true,cond_false]
   unfold En;rw [he];rfl
  | true =>
   have:(uX x != 0)=false:=by simp [bne,he]
   have hk:=JR (eq_of_beq he)
   rw [this,cond_false,cond_true]
   have h2:=Ik (key:=λe:Entry=>e.Key) hx (by omega) hk
   rw [h2,ob_]
   cases sLe x.Key (zA (λe:Entry=>e.Key) l k) <;> rfl
theorem Cm:∀(l:List Entry) (last:ByteArray),chk (λe:Entry=>e.Key) xk last l=0->(∀e∈l,uX e=0/\lt last e.Key)/\l.Pairwise (λa b=>lt a.Key b.Key)
 | [],last,_=>⟨λe he=>(by cases he),.nil⟩
 | x::xs,last,h=>by
  unfold chk at h
  cases h0:xk last x==0 with
  | false=>rw [h0,cond_false]at h;rw [h]at h0;cases h0
  | true =>
   rw [h0,cond_true]at h
   obtain ⟨i1,i2⟩:=Cm xs x.Key h
   have h0:=eq_of_beq h0
   unfold xk at h0
   cases he:uX x==0 with
   | false=>rw [he,cond_false]at h0;rw [h0]at he;cases he
   | true =>
    rw [he,cond_true]at h0
    have hlt:lt last x.Key:=by
     cases hs:sLe x.Key last with
     | true=>rw [hs]at h0;cases h0
     | false =>
      rcases Fs last x.Key with q|q|q
      ·exact q
      ·have:=(yM x.Key last).2 (by rw [q];exact kJ _)
       rw [hs]at this;cases this
      ·have:=(yM x.Key last).2 (λk=>kJ _ (lt_trans q k))
       rw [hs]at this;cases this
    refine⟨λe hm => ?_,List.pairwise_cons.2 ⟨λe hm=>(i1 e hm).2,i2⟩⟩
    rcases List.mem_cons.1 hm with rfl|hm
    ·exact⟨eq_of_beq he,hlt⟩
    ·exact⟨(i1 e hm).1,lt_trans hlt (i1 e hm).2⟩
theorem ce_of {l:List Entry} {p:Player} (hg:∀e∈l,Gb e) (hl:l.length<=4) (h:C9 l=0) (hp:vG p=0):CE l p:=by
 obtain ⟨h1,h2⟩:=Cm l Cj h
 have hz:kE p.Zone (-1440) 1440=false/\tagsF p.Tags=0:=by
  unfold vG at hp
  cases hk:(!keyB p.Key || !keyB p.Screen)with
  | true=>rw [hk]at hp;cases hp
  | false =>
   rw [hk,cond_false]at hp
   cases ho:kE p.Zone (-1440) 1440 with
   | true=>rw [ho]at hp;cases hp
   | false=>rw [ho]at hp;exact⟨rfl,hp⟩
 refine⟨λe he=>entF_0 (h1 e he).1,λe he=>by have:=(hg e he).2.2.2.1;omega,hl,?_,λe he hk => ?_,BG hz.1,hz.2⟩
 ·unfold List.Nodup
  rw [List.pairwise_map]
  exact h2.imp (λ{a b} q=>λ(e:a.Key=b.Key)=>kJ b.Key (by rw [e]at q;exact q))
 ·exact JR (h1 e he).1 (by rw [hk];rfl)
def moF (t:Int):Int:=bif kE t 0 345686399999 then 1 else 0
theorem moK (t:Int):cO t=some (!kE t 0 345686399999):=by
 have e:(!kE t 0 345686399999)=(decide (t>=0)&&decide (t<345686400000)):=by
  unfold kE
  rw [Bool.eq_iff_iff]
  simp only [Bool.not_eq_true',Bool.or_eq_false_iff,decide_eq_false_iff_not,Bool.and_eq_true,decide_eq_true_eq]
  omega
 unfold cO
 rw [e]
 cases decide (t>=0) <;> cases decide (t<345686400000) <;> rfl
def faV (l:List Entry) (p:Player) (t:Int):Int:=or0 (C9 l) (or0 (vG p) (moF t))
theorem momentK {l:List Entry} {p:Player} (h:∀e∈l,Gb e) (hl:l.length<=100) (hp:NZ p) (t:Int):eG l p t=some (faV l p t):=by
 unfold eG faV or0 moF
 rw [entsK h hl,ob_,playK p hp,ob_,moK,ob_]
 cases h1:C9 l==0 with
 | false =>
  have:(C9 l != 0)=true:=by simp [bne,h1]
  rw [this];rfl
 | true =>
  have:(C9 l != 0)=false:=by simp [bne,h1]
  rw [this]
  cases h2:vG p==0 with
  | false =>
   have:(vG p != 0)=true:=by simp [bne,h2]
   rw [this];rfl
  | true =>
   have:(vG p != 0)=false:=by simp [bne,h2]
   rw [this]
   cases kE t 0 345686399999 <;> rfl
theorem RN {α:Type} {L:Nat->α->(List α×List Int×Int)->Option (Ctl (List α×List Int×Int) Unit)} {n:Int} (hn:1<=n) (hn2:n<=1000)
  (hL:∀k x s,L k x s=(iL (⟨s.2.1,s.2.2⟩:Stream) n).bind λr=>(bif r.1 then (jv s.1 ([x]:List α)).bind λa=>some a else some s.1).bind λv=>some (.go (v,r.2.L,r.2.f_at)))
  {xs:List α} (hl:xs.length<=10) (s:Stream) {b:Int} (hs:Ok s b) (hb:b<=900000) :
  ∃t s',forL xs (([]:List α),s.L,s.f_at) (λk x s=>L k x s)=some (.go (t,s'.L,s'.f_at))/\Ok s' (b+10)/\t.Sublist xs:=by
 obtain ⟨t,t1,t2,t3⟩:=wT (body:=λk x s=>L k x s) (xs:=xs) (s:=(([]:List α),s.L,s.f_at)) (λk t=>t.1.Sublist (xs.take k)/\Ok ⟨t.2.1,t.2.2⟩ (b+k)) (by omega) (λk x t hx ⟨i1,i2⟩=>by
  have hk:k<xs.length:=(List.getElem?_eq_some_iff.1 hx).1
  have et:xs.take (k+1)=xs.take k++[x]:=by rw [List.take_add_one,hx];rfl
  have hlen:t.1.length<=10:=Nat.le_trans i1.length_le (by rw [List.length_take];omega)
  obtain ⟨f,s1,c1,c2⟩:=I8 _ n i2 (by omega) hn hn2
  simp only [hL,c1,ob_]
  cases f with
  | true =>
   simp only [cond_true,qj t.1 [x] (by simp;omega),ob_]
   exact⟨_,rfl,by rw [et];exact i1.append (List.Sublist.refl _),c2.mono (by omega)⟩
  | false =>
   simp only [cond_false,ob_]
   exact⟨_,rfl,by rw [et];exact i1.trans (List.sublist_append_left _ _),c2.mono (by omega)⟩) ⟨List.Sublist.refl _,hs.mono (by simp)⟩
 exact⟨t.1,⟨t.2.1,t.2.2⟩,t1,t3.mono (by omega),by simpa using t2⟩
def keL:List ByteArray:=[(⟨#[101,97]⟩:ByteArray),(⟨#[101,98]⟩:ByteArray),(⟨#[101,99]⟩:ByteArray),(⟨#[101,100]⟩:ByteArray)]
def itL:List ByteArray:=[(⟨#[105,97]⟩:ByteArray),(⟨#[105,98]⟩:ByteArray),(⟨#[105,99]⟩:ByteArray)]
def tgL:List ByteArray:=[(⟨#[99,105,116,121]⟩:ByteArray),(⟨#[109,97,108,108]⟩:ByteArray)]
theorem NR:∀k∈keL,keyB k=true/\Nat.ble k.size 1000=true:=by
 intro k hk
 simp only [keL,List.mem_cons,List.not_mem_nil,or_false]at hk
 rcases hk with rfl|rfl|rfl|rfl <;> exact⟨by kernel_rfl,rfl⟩
theorem itL_key:∀k∈itL,keyB k=true/\Nat.ble k.size 1000=true:=by
 intro k hk
 simp only [itL,List.mem_cons,List.not_mem_nil,or_false]at hk
 rcases hk with rfl|rfl|rfl <;> exact⟨by kernel_rfl,rfl⟩
theorem Qv:keL.Pairwise lt:=by
 have h:∀a b:ByteArray,sLt a b=true->lt a b:=λa b=>(uw a b).1
 unfold keL
 refine .cons (λx hx => ?_) (.cons (λx hx => ?_) (.cons (λx hx => ?_) (.cons (λx hx=>(by cases hx)) .nil)))
 all_goals
  simp only [List.mem_cons,List.not_mem_nil,or_false]at hx
 ·rcases hx with rfl|rfl|rfl <;> exact h _ _ (by kernel_rfl)
 ·rcases hx with rfl|rfl <;> exact h _ _ (by kernel_rfl)
 ·rcases hx with rfl;exact h _ _ (by kernel_rfl)
theorem ex_0 {t:List Int} (h:t.Sublist [1,2,8]):exF t=0:=by
 cases h with
 | cons _ h=>cases h with
  | cons _ h=>cases h with
   | cons _ h=>cases h;rfl
   | cons_cons _ h=>cases h;rfl
  | cons_cons _ h=>cases h with
   | cons _ h=>cases h;rfl
   | cons_cons _ h=>cases h;rfl
 | cons_cons _ h=>cases h with
  | cons _ h=>cases h with
   | cons _ h=>cases h;rfl
   | cons_cons _ h=>cases h;rfl
  | cons_cons _ h=>cases h with
   | cons _ h=>cases h;rfl
   | cons_cons _ h=>cases h;rfl
theorem tg_0 {t:List ByteArray} (h:t.Sublist tgL):tagsF t=0:=by
 cases h with
 | cons _ h=>cases h with
  | cons _ h=>cases h;kernel_rfl
  | cons_cons _ h=>cases h;kernel_rfl
 | cons_cons _ h=>cases h with
  | cons _ h=>cases h;kernel_rfl
  | cons_cons _ h=>cases h;kernel_rfl
theorem J4 {t:List ByteArray} (h:t.Sublist tgL):t.length<=2/\∀x∈t,vP x:=by
 refine⟨h.length_le,λx hx => ?_⟩
 have:=h.subset hx
 simp only [tgL,List.mem_cons,List.not_mem_nil,or_false]at this
 rcases this with rfl|rfl <;> exact rV rfl
theorem HY:∀(l:List Entry) (last:ByteArray),(∀e∈l,uX e=0/\lt last e.Key)->l.Pairwise (λa b=>lt a.Key b.Key)->chk (λe:Entry=>e.Key) xk last l=0
 | [],_,_,_=>rfl
 | x::xs,last,h,hp=>by
  obtain ⟨h1,h2⟩:=h x List.mem_cons_self
  have hs:sLe x.Key last=false:=by
   cases hs:sLe x.Key last with
   | false=>rfl
   | true=>exact absurd h2 ((yM _ _).1 hs)
  have h0:xk last x=0:=by
   unfold xk
   rw [h1,hs];rfl
  unfold chk
  rw [h0]
  obtain ⟨p1,p2⟩:=List.pairwise_cons.1 hp
  exact HY xs x.Key (λe he=>⟨(h e (List.mem_cons_of_mem _ he)).1,p1 e he⟩) p2
theorem nil_lt {k:ByteArray} (h:keyB k=true):lt Cj k:=by
 rcases Fs Cj k with q|q|q
 ·exact q
 ·exact absurd (by rw [<- q];rfl) (Eb h)
 ·have:=(yM k Cj).2 (λq2=>kJ _ (lt_trans q q2))
  have e:sLe k Cj=decide (k.size=0):=NL k
  rw [e]at this
  exact absurd (of_decide_eq_true this) (Eb h)
theorem yI {l:List Int} {x lo hi:Int} (h:x∈l) (hb:(l.all λy=>decide (lo<=y)&&decide (y<=hi))=true):lo<=x/\x<=hi:=by
 have:=List.all_eq_true.1 hb x h
 simpa using this
theorem yo {n lo hi:Int} (h:lo<=n/\n<=hi):kE n lo hi=false:=DZ h
theorem rightE (s:Stream) {b:Int} (hs:Ok s b) (hb:b<=800000):∃xs s',iM s=some (xs,s')/\Ok s' (b+200)/\xs.length<=4/\(∀x∈xs,Gb x)/\C9 xs=0:=by
 unfold iM
 obtain ⟨s',h1,h2,h3,h4⟩:=wT (body:=λk x s=>eH k x s) (λk s=>Ok ⟨s.2.1,s.2.2⟩ (b+40*k)/\(s.1.map (·.Key)).Sublist (keL.take k)/\∀x∈s.1,Gb x/\uX x=0)
  (xs:=keL) (s:=(([]:List Entry),s.L,s.f_at)) (by decide) (λk x t hx ⟨i1,i2,i3⟩=>by
   have hk5:k<4:=(List.getElem?_eq_some_iff.1 hx).1
   have hxm:=NR x (List.mem_of_getElem? hx)
   have et:keL.take (k+1)=keL.take k++[x]:=by rw [List.take_add_one,hx];rfl
   have hlen:t.1.length<=4:=by
    have:=i2.length_le
    rw [List.length_map,List.length_take]at this
    have h4:keL.length=4:=rfl
    omega
   obtain ⟨c,s1,k1,k2⟩:=I8 _ 4 i1 (by omega) (by decide) (by decide)
   simp only [eH,k1,ob_]
   cases c with
   | true=>exact⟨_,rfl,k2.mono (by omega),by rw [et];exact i2.trans (List.sublist_append_left _ _),i3⟩
   | false =>
    obtain ⟨it,s2,a1,ai,a2⟩:=some_ok s1 [(⟨#[105,97]⟩:ByteArray),(⟨#[105,98]⟩:ByteArray),(⟨#[105,99]⟩:ByteArray)] k2 (by omega) (by simp) (by simp)
    obtain ⟨v,s3,a3,v1,v2,a4⟩:=KW s2 0 2 a2 (by omega) (by decide) (by decide) (by decide)
    obtain ⟨p1,s4,m1,q1,n1⟩:=uf s3 [0,0,1,3] a4 (by omega) (by simp) (by simp)
    obtain ⟨p2,s5,m2,q2,n2⟩:=uf s4 [1,1,2,3,7] n1 (by omega) (by simp) (by simp)
    obtain ⟨p3,s6,m3,q3,n3⟩:=uf s5 [127,127,31,96,1,2] n2 (by omega) (by simp) (by simp)
    obtain ⟨p4,s7,m4,q4,n4⟩:=uf s6 [0,0,60,600,1380] n3 (by omega) (by simp) (by simp)
    obtain ⟨p5,s8,m5,q5,n5⟩:=uf s7 [0,60,120,600,720,1439] n4 (by omega) (by simp) (by simp)
    obtain ⟨p6,s9,m6,q6,n6⟩:=uf s8 [0,0,1,5] n5 (by omega) (by simp) (by simp)
    obtain ⟨g,s10,m7,n7⟩:=I8 s9 8 n6 (by omega) (by decide) (by decide)
    obtain ⟨p7,s11,m8,q8,n8⟩:=uf s10 [0,1,5,10,30] n7 (by omega) (by simp) (by simp)
    obtain ⟨ex,s12,m9,n9,l9⟩:=RN (L:=iX) (n:=4) (by decide) (by decide) (λ_ _ _=>rfl) (xs:=[1,2,8]) (by simp) s11 n8 (by omega)
    obtain ⟨tg,s13,m10,n10,l10⟩:=RN (L:=iY) (n:=4) (by decide) (by decide) (λ_ _ _=>rfl) (xs:=[(⟨#[99,105,116,121]⟩:ByteArray),(⟨#[109,97,108,108]⟩:ByteArray)]) (by simp) s12 n9 (by omega)
    simp only [cond_false,a1,a3,m1,m2,m3,m4,m5,m6,m7,m8,m9,m10,ob_,gN,qj t.1 _ (show t.1.length+[_].length<=_ by simp;omega)]
    have b1:=yI (lo:=0) (hi:=3) q1 rfl
    have b2:=yI (lo:=1) (hi:=7) q2 rfl
    have b3:=yI (lo:=1) (hi:=127) q3 rfl
    have b4:=yI (lo:=0) (hi:=1380) q4 rfl
    have b5:=yI (lo:=0) (hi:=1439) q5 rfl
    have b6:=yI (lo:=0) (hi:=5) q6 rfl
    have b8:=yI (lo:=0) (hi:=30) q8 rfl
    clear q1 q2 q3 q4 q5 q6 q8
    have hit:=itL_key it ai
    obtain ⟨t1,t2⟩:=J4 l10
    have hel:ex.length<=3:=l9.length_le
    have hw:w64 (p1+p7)=p1+p7:=aZ (by omega)
    refine⟨_,rfl,n10.mono (by omega),by rw [List.map_append,et];exact i2.append (List.Sublist.refl _),λy hy => ?_⟩
    rcases List.mem_append.1 hy with hy|hy
    ·exact i3 y hy
    ·rw [List.mem_singleton.1 hy]
     refine⟨⟨rV hxm.2,rV hit.2,by show ex.length<=50;omega,by show tg.length<=20;omega,t2⟩,?_⟩
     unfold uX
     simp only [hxm.1,hit.1,hw,ex_0 l9,tg_0 l10]
     rw [yo (n:=v) (by omega),yo (n:=p1) (by omega),decide_eq_false (by omega),yo (n:=p2) (by omega),yo (n:=p3) (by omega),yo (n:=p4) (by omega),yo (n:=p5) (by omega),yo (n:=p6) (by omega)];rfl) ⟨by simpa using hs,List.Sublist.refl _,by simp⟩
 have h1':forL ([(⟨#[101,97]⟩:ByteArray),(⟨#[101,98]⟩:ByteArray),(⟨#[101,99]⟩:ByteArray),(⟨#[101,100]⟩:ByteArray)]:List ByteArray) (([]:List Entry),s.L,s.f_at) (λk x s=>eH k x s)=some (.go s'):=h1
 rw [h1']
 have h3':(s'.1.map (·.Key)).Sublist keL:=by rw [List.take_length]at h3;exact h3
 refine⟨s'.1,⟨s'.2.1,s'.2.2⟩,rfl,h2.mono (by show b+40*((4:Nat):Int)<=b+200;omega),by have:=h3'.length_le;rw [List.length_map]at this;exact this,λx hx=>(h4 x hx).1,?_⟩
 have hr:=Qv.sublist h3'
 rw [List.pairwise_map]at hr
 exact HY s'.1 Cj (λe he=>⟨(h4 e he).2,nil_lt (NR _ (h3'.subset (List.mem_map.2 ⟨e,he,rfl⟩))).1⟩) hr
theorem rightP (s:Stream) {b:Int} (hs:Ok s b) (hb:b<=800000):∃p s',ja s=some (p,s')/\Ok s' (b+2)/\NZ p/\vG p=0:=by
 obtain ⟨z,s1,h1,hz,h2⟩:=uf s [0,0,60,(-90),1440] hs (by omega) (by simp) (by simp)
 obtain ⟨j,s2,h3,h4,h5,h6⟩:=A8 s1 3 h2 (by omega) (by decide) (by decide)
 obtain ⟨tg,n1,n2⟩:=Js (l:=[([]:List ByteArray),([(⟨#[99,105,116,121]⟩:ByteArray)]:List ByteArray),([(⟨#[99,105,116,121]⟩:ByteArray),(⟨#[109,97,108,108]⟩:ByteArray)]:List ByteArray)]) h4 (by simpa using h5)
 simp only [ja,h1,h3,n1,ob_]
 have bz:=yI (lo := -1440) (hi:=1440) hz rfl
 clear hz
 simp only [List.mem_cons,List.not_mem_nil,or_false]at n2
 have hsub:tg.Sublist tgL:=by
  rcases n2 with rfl|rfl|rfl
  ·exact List.nil_sublist _
  ·exact .cons_cons _ (.cons _ .slnil)
  ·exact List.Sublist.refl _
 obtain ⟨t1,t2⟩:=J4 hsub
 refine⟨_,_,rfl,h6.mono (by omega),⟨rV rfl,rV rfl,by show tg.length<=20;omega,t2⟩,?_⟩
 unfold vG
 simp only [tg_0 hsub]
 rw [show keyB (⟨#[112]⟩:ByteArray)=true by kernel_rfl,show keyB (⟨#[115,97]⟩:ByteArray)=true by kernel_rfl,yo (n:=z) (by omega)];rfl
def xu {σ ρ:Type} (s:σ) (body:σ->Option (Ctl σ ρ)):Option (Ctl σ ρ):=iterN body 300 s
def Le {α:Type} (a b:Option α):Prop:=∀r,a=some r->b=some r
theorem Le.refl {α:Type} (a:Option α):Le a a:=λ_ h=>h
theorem Le.bind {α β:Type} {a b:Option α} {f g:α->Option β} (h:Le a b) (k:∀x,Le (f x) (g x)):Le (a.bind f) (b.bind g):=λr e=>by
 obtain ⟨x,h1,h2⟩:=Option.bind_eq_some_iff.1 e
 rw [h x h1];exact k x r h2
theorem Le.cond {α:Type} {a b c d:Option α} {t:Bool} (h:Le a c) (k:Le b d):Le (bif t then a else b) (bif t then c else d):=by
 cases t
 ·exact k
 ·exact h
theorem Le.thenC {σ ρ τ:Type} {o:Ctl σ ρ} {f f':σ->Option τ} {g g':ρ->Option τ} (h:∀x,Le (f x) (f' x)) (k:∀x,Le (g x) (g' x)):Le (Go.Eng.thenC o f g) (Go.Eng.thenC o f' g'):=by
 cases o
 ·exact h _
 ·exact Le.refl _
 ·exact k _
theorem Le.forR {α σ ρ:Type} {b b':Nat->α->σ->Option (Ctl σ ρ)} (h:∀k x s,Le (b k x s) (b' k x s)):∀(xs:List α) (k:Nat) (s:σ),Le (Go.Eng.forR b xs k s) (Go.Eng.forR b' xs k s)
 | [],k,s=>Le.refl _
 | x::xs,k,s=>Le.bind (h k x s) (λc=>by
   cases c with
   | go s'=>exact Le.forR h xs _ _
   | brk s'=>exact Le.refl _
   | ret r=>exact Le.refl _)
theorem Le.forL {α σ ρ:Type} {xs:List α} {s:σ} {b b':Nat->α->σ->Option (Ctl σ ρ)} (h:∀k x s,Le (b k x s) (b' k x s)):Le (Go.Eng.forL xs s b) (Go.Eng.forL xs s b'):=by
 unfold Go.Eng.forL
 split
 ·exact Le.forR h xs 0 s
 ·exact Le.refl _
theorem Le.iterN {σ ρ:Type} {b b':σ->Option (Ctl σ ρ)} (h:∀s,Le (b s) (b' s)):∀(n:Nat) (s:σ),Le (Go.Eng.iterN b n s) (Go.Eng.iterN b' n s)
 | 0,s=>Le.refl _
 | n+1,s=>Le.bind (h s) (λc=>by
   cases c with
   | go s'=>exact Le.iterN h n s'
   | brk s'=>exact Le.refl _
   | ret r=>exact Le.refl _)
theorem Le.loop {σ ρ:Type} {s:σ} {b b':σ->Option (Ctl σ ρ)} (h:∀s,Le (b s) (b' s)):Le (xu s b) (fq s b'):=λr e=>eu (Le.iterN h _ _ r e)
end Go.Proofs.YtmkljmjhcegapaaGreatDoor.Law

