/-
  THE PLAIN LAW (part 3).
-/
import Derived.Test.YtdpginbnipklcaaGreatDoorPl2
namespace Go.Eng
set_option linter.unusedVariables false
set_option linter.unusedSimpArgs false
section
variable {α:Type} {cmp:α->α->Option Int} {c:α->α->Int} {p:α->Prop}
end
section
variable {α:Type} (eqv:α->α->Bool) (z:α)
def Jm (s_1:(List α)) (s_8:Int) (s_28:(List α)×Int×Int):Option (Ctl ((List α)×Int×Int) (Unit)) :=
 bif (decide (s_28.2.2<(((((s_1.length:Int)).toNat-(s_8).toNat):Nat):Int)))then (inN s_28.2.2 (((s_1.length:Int)).toNat-(s_8).toNat)).bind λ_=>(s_28.1[(((s_8).toNat)+(s_28.2.2).toNat)]?).bind λe_35=>(inN (w64 (s_28.2.2-1)) (((s_1.length:Int)).toNat-(s_8).toNat)).bind λ_=>(s_28.1[(((s_8).toNat)+((w64 (s_28.2.2-1))).toNat)]?).bind λe_38=>(bif (!(eqv e_35 e_38))then (inN s_28.2.2 (((s_1.length:Int)).toNat-(s_8).toNat)).bind λ_=>(s_28.1[(((s_8).toNat)+(s_28.2.2).toNat)]?).bind λe_44=>(inR s_28.2.1 s_28.1).bind λ_=>(s_28.1[(0+(s_28.2.1).toNat)]?).bind λe_47=>some ((s_28.1.set (0+(s_28.2.1).toNat) e_44),(w64 (s_28.2.1+1)))else some (s_28.1,s_28.2.1)).bind λv_40=>some (.go (v_40.1,v_40.2,(w64 (s_28.2.2+1))))else some (.brk (s_28.1,s_28.2.1,s_28.2.2))
noncomputable def Dw (s_1:(List α)) (s_8:Int):Option (Ctl (Int) ((List α))) :=
 bif (decide (s_8<(s_1.length:Int)))then (inR s_8 s_1).bind λ_=>(s_1[(0+(s_8).toNat)]?).bind λe_15=>(inR (w64 (s_8-1)) s_1).bind λ_=>(s_1[(0+((w64 (s_8-1))).toNat)]?).bind λe_18=>bif (eqv e_15 e_18)then (neL s_1).bind λ_=>(oV s_1 s_8 (s_1.length:Int)).bind λ_=>(bn (s_1,s_8,1) (λs=>Jm eqv s_1 s_8 s)).bind λo_31=>aY o_31 (λs_28=>(oV s_28.1 s_28.2.1 (s_28.1.length:Int)).bind λ_=>(oV (s_28.1.take ((s_28.2.1).toNat)++List.replicate (((s_28.1.length:Int)).toNat-(s_28.2.1).toNat) z++s_28.1.drop (((s_28.2.1).toNat)+(((s_28.1.length:Int)).toNat-(s_28.2.1).toNat))) 0 s_28.2.1).bind λ_=>some (.ret (yo (s_28.1.take ((s_28.2.1).toNat)++List.replicate (((s_28.1.length:Int)).toNat-(s_28.2.1).toNat) z++s_28.1.drop (((s_28.2.1).toNat)+(((s_28.1.length:Int)).toNat-(s_28.2.1).toNat))) 0 ((s_28.2.1).toNat)))) (λ_=>none)else some (.go (w64 (s_8+1)))else some (.brk s_8)
noncomputable def IV (s_1:(List α)):Option ((List α)) :=
 bif (decide ((s_1.length:Int)<2))then some s_1 else (bn 1 (λs=>Dw eqv z s_1 s)).bind λo_11=>aY o_11 (λs_8=>some s_1) (λr=>some r)
def ddG:List α->List α
 | []=>[]
 | [x]=>[x]
 | x::y::l=>bif eqv y x then ddG (y::l)else x::ddG (y::l)
variable {eqv} (he:∀a b,eqv a b=true↔a=b)
include he
theorem Ep (x:α):∀(l:List α) (b:α),l.getLast? = some b->ddG eqv (l++[x])=bif eqv x b then ddG eqv l else ddG eqv l++[x]
 | [],b,h=>by cases h
 | [a],b,h=>by
  simp only [List.getLast?_singleton,so_]at h
  subst h
  simp only [List.cons_append,List.nil_append,ddG]
  cases hx:eqv x a with
  | true=>rw [(he _ _).1 hx]
  | false=>rfl
 | a::c::l,b,h=>by
  have ih:=Ep x (c::l) b (by rw [<- h];simp [List.getLast?_cons_cons])
  simp only [List.cons_append]at ih ⊢
  rw [ddG,ih,ddG]
  cases eqv c a <;> cases eqv x b <;> rfl
theorem Em (s:List α) (p:Nat) (a b:α) (hp:1<=p) (ha:s[p]? = some a) (hb:s[p-1]? = some b):ddG eqv (s.take (p+1))=bif eqv a b then ddG eqv (s.take p)else ddG eqv (s.take p)++[a]:=by
 have hlt:=(List.getElem?_eq_some_iff.1 ha).1
 have e:s.take (p+1)=s.take p++[a]:=by rw [List.take_add_one,ha];rfl
 rw [e]
 refine Ep he a _ b ?_
 rw [List.getLast?_eq_getElem?,List.length_take,List.getElem?_take,if_pos (by omega),<- hb]
 congr 1;omega
theorem Cu (x:α):∀l:List α,x∈ddG eqv l↔x∈l
 | []=>Iff.rfl
 | [a]=>Iff.rfl
 | a::b::l=>by
  rw [ddG]
  cases h:eqv b a with
  | true =>
   rw [cond_true,Cu x (b::l),(he _ _).1 h];simp
  | false=>rw [cond_false,List.mem_cons,Cu x (b::l),List.mem_cons (a:=x) (b:=a)]
omit he in
theorem Gq:∀l:List α,(ddG eqv l).length<=l.length
 | []=>Nat.le_refl _
 | [a]=>Nat.le_refl _
 | a::b::l=>by
  have:=Gq (b::l)
  rw [ddG]
  cases eqv b a with
  | true=>rw [cond_true];simp only [List.length_cons]at *;omega
  | false=>rw [cond_false];simp only [List.length_cons]at *;omega
omit he in
theorem FX {i:Int} {n:Nat} (h0:0<=i) (h1:i<n):inN i n=some ():=by unfold inN;rw [if_pos ⟨h0,by omega⟩]
omit he in
theorem cp_L1 (s data:List α) (k0 i2 k:Nat) (a b:α) (hn:s.length<=1000000000) (hd:data.length=s.length) (h1:1<=i2) (hp:k0+i2<s.length) (hk:k<s.length) (ha:data[k0+i2]? = some a) (hb:data[k0+i2-1]? = some b) :
  Jm eqv s (k0:Int) (data,(k:Int),(i2:Int))=some (.go (bif eqv a b then (data,(k:Int),((i2+1:Nat):Int))else (data.set k a,((k+1:Nat):Int),((i2+1:Nat):Int)))):=by
 unfold Jm
 have e0:((s.length:Int).toNat-(k0:Int).toNat)=s.length-k0:=by omega
 have hc:decide ((i2:Int)<((s.length-k0:Nat):Int))=true:=decide_eq_true (by omega)
 have hw:w64 ((i2:Int)-1)=((i2-1:Nat):Int):=by rw [vk _ (by omega)];omega
 have hw2:w64 ((i2:Int)+1)=((i2+1:Nat):Int):=by rw [vk _ (by omega)];omega
 have hw3:w64 ((k:Int)+1)=((k+1:Nat):Int):=by rw [vk _ (by omega)];omega
 have i1:inN (i2:Int) (s.length-k0)=some ():=FX (by omega) (by omega)
 have i3:inN ((i2-1:Nat):Int) (s.length-k0)=some ():=FX (by omega) (by omega)
 have i4:inR (k:Int) data=some ():=Fx (by omega)
 have g1:(k0:Int).toNat+(i2:Int).toNat=k0+i2:=by omega
 have g2:(k0:Int).toNat+((i2-1:Nat):Int).toNat=k0+i2-1:=by omega
 have g3:0+(k:Int).toNat=k:=by omega
 have hkd:data[k]? = some data[k]:=List.getElem?_eq_getElem (by omega)
 simp only [e0,hc,cond_true,hw,hw2,hw3,i1,i3,i4,g1,g2,g3,ob_,ha,hb,hkd]
 cases eqv a b <;> rfl
theorem zI (s:List α) (k0:Nat) (hn:s.length<=1000000000):∀(m i2 k:Nat) (data:List α),k0+i2+m=s.length->1<=i2->data.length=s.length->k<=k0+i2-1->data.take k=ddG eqv (s.take (k0+i2))->data.drop (k0+i2-1)=s.drop (k0+i2-1) ->
  ∃(data':List α) (k':Nat),iZ (λt=>Jm eqv s (k0:Int) t) (m+1) (data,(k:Int),(i2:Int))=some (.go (data',(k':Int),((s.length-k0:Nat):Int)))/\data'.length=s.length/\k'<=s.length/\data'.take k'=ddG eqv s
 | 0,i2,k,data,hm,h1,hd,hk,ht,hr=>by
  refine⟨data,k,?_,hd,by omega,?_⟩
  ·have e0:((s.length:Int).toNat-(k0:Int).toNat)=s.length-k0:=by omega
   have hc:decide ((i2:Int)<((s.length-k0:Nat):Int))=false:=decide_eq_false (by omega)
   simp only [iZ,Jm,e0,hc,cond_false,ob_]
   rw [show s.length-k0=i2 by omega]
  ·rw [ht,show k0+i2=s.length by omega,List.take_length]
 | m+1,i2,k,data,hm,h1,hd,hk,ht,hr=>by
  have hp:k0+i2<s.length:=by omega
  have hga:data[k0+i2]? = some s[k0+i2]:=by
   have:=congrArg (λl=>l[1]?) hr
   simp only [List.getElem?_drop]at this
   rw [show k0+i2-1+1=k0+i2 by omega]at this
   rw [this,List.getElem?_eq_getElem hp]
  have hgb:data[k0+i2-1]? = some (s[k0+i2-1]'(by omega)):=by
   have:=congrArg (λl=>l[0]?) hr
   simp only [List.getElem?_drop,Nat.add_zero]at this
   rw [this,List.getElem?_eq_getElem (by omega)]
  have hdt:=Em he s (k0+i2) s[k0+i2] (s[k0+i2-1]'(by omega)) (by omega) (List.getElem?_eq_getElem hp) (List.getElem?_eq_getElem (by omega))
  rw [iZ,cp_L1 s data k0 i2 k _ _ hn hd h1 hp (by omega) hga hgb,ob_]
  cases hx:eqv s[k0+i2] (s[k0+i2-1]'(by omega))with
  | true =>
   rw [hx,cond_true]at hdt
   simp only [cond_true]
   refine zI s k0 hn m (i2+1) k data (by omega) (by omega) hd (by omega) (by rw [ht,<- hdt];rfl) ?_
   have:=congrArg (List.drop 1) hr
   simp only [List.drop_drop]at this
   rw [show k0+i2-1+1=k0+(i2+1)-1 by omega]at this
   exact this
  | false =>
   rw [hx,cond_false]at hdt
   simp only [cond_false]
   have hkl:k<data.length:=by omega
   refine zI s k0 hn m (i2+1) (k+1) (data.set k s[k0+i2]) (by omega) (by omega) (by simpa using hd) (by omega) ?_ ?_
   ·rw [List.take_add_one,List.getElem?_set_self hkl,List.take_set_of_le (Nat.le_refl _),ht]
    show _=ddG eqv (s.take (k0+i2+1))
    rw [hdt];rfl
   ·rw [List.drop_set_of_lt (by omega)]
    have:=congrArg (List.drop 1) hr
    simp only [List.drop_drop]at this
    rw [show k0+i2-1+1=k0+(i2+1)-1 by omega]at this
    exact this
theorem DF (s:List α) (hn:s.length<=1000000000):∀(m i:Nat),i+m=s.length->1<=i->ddG eqv (s.take i)=s.take i ->
  (iZ (λt=>Dw eqv z s t) (m+1) (i:Int)=some (.go (s.length:Int))/\ddG eqv s=s)\/iZ (λt=>Dw eqv z s t) (m+1) (i:Int)=some (.ret (ddG eqv s))
 | 0,i,hm,h1,hd=>by
  refine .inl ⟨?_,?_⟩
  ·have hc:decide ((i:Int)<(s.length:Int))=false:=decide_eq_false (by omega)
   simp only [iZ,Dw,hc,cond_false,ob_]
   rw [show i=s.length by omega]
  ·rw [show i=s.length by omega,List.take_length]at hd;exact hd
 | m+1,i,hm,h1,hd=>by
  have hi:i<s.length:=by omega
  have hc:decide ((i:Int)<(s.length:Int))=true:=decide_eq_true (by omega)
  have hw:w64 ((i:Int)-1)=((i-1:Nat):Int):=by rw [vk _ (by omega)];omega
  have hw2:w64 ((i:Int)+1)=((i+1:Nat):Int):=by rw [vk _ (by omega)];omega
  have e1:0+(i:Int).toNat=i:=by omega
  have e2:0+((i-1:Nat):Int).toNat=i-1:=by omega
  have hga:s[i]? = some s[i]:=List.getElem?_eq_getElem hi
  have hgb:s[i-1]? = some (s[i-1]'(by omega)):=List.getElem?_eq_getElem (by omega)
  have hdt:=Em he s i s[i] (s[i-1]'(by omega)) h1 hga hgb
  have i1:inR (i:Int) s=some ():=Fx hi
  have i2:inR ((i-1:Nat):Int) s=some ():=Fx (by omega)
  rw [iZ]
  cases hx:eqv s[i] (s[i-1]'(by omega))with
  | false =>
   have:Dw eqv z s (i:Int)=some (.go ((i+1:Nat):Int)):=by
    unfold Dw
    simp only [hc,cond_true,hw,hw2,e1,e2,i1,i2,hga,hgb,ob_,hx,cond_false]
   rw [this,ob_]
   rw [hx,cond_false,hd]at hdt
   refine DF s hn m (i+1) (by omega) (by omega) ?_
   rw [hdt,List.take_add_one,hga];rfl
  | true =>
   right
   rw [hx,cond_true,hd]at hdt
   obtain ⟨data',k',q1,q2,q3,q4⟩:=zI he s i hn (s.length-(i+1)) 1 i s (by omega) (by omega) rfl (by omega) hdt.symm rfl
   have hlo:=j6 q1
   have hne:neL s=some ():=by
    cases s with
    | nil=>simp at hi
    | cons a l=>rfl
   have hsr:oV s (i:Int) (s.length:Int)=some ():=by unfold oV;rw [if_pos ⟨by omega,by omega,by omega,by omega⟩]
   have hsr2:oV data' (k':Int) (data'.length:Int)=some ():=by unfold oV;rw [if_pos ⟨by omega,by omega,by omega,by omega⟩]
   have hlen:(data'.take k'++List.replicate (data'.length-k') z++data'.drop (k'+(data'.length-k'))).length=data'.length:=by simp;omega
   have hsr3:oV (data'.take k'++List.replicate (data'.length-k') z++data'.drop (k'+(data'.length-k'))) 0 (k':Int)=some ():=by unfold oV;rw [if_pos ⟨by omega,by omega,by omega,by rw [hlen];omega⟩]
   have n1:((data'.length:Int)).toNat=data'.length:=by omega
   have n2:(k':Int).toNat=k':=by omega
   have:Dw eqv z s (i:Int)=some (.ret (ddG eqv s)):=by
    unfold Dw
    have one:((1:Nat):Int)=1:=rfl
    rw [one]at hlo
    simp only [hc,cond_true,hw,e1,e2,i1,i2,hga,hgb,ob_,hx,hne,hsr,hlo,aY,hsr2,n1,n2,hsr3]
    congr 2
    show List.take k' (List.drop 0 _)=ddG eqv s
    rw [List.drop_zero,List.append_assoc,List.take_append_of_le_length (by rw [List.length_take];omega),List.take_take,Nat.min_self,q4]
   rw [this];rfl
theorem Iu (s:List α) (hn:s.length<=1000000000):IV eqv z s=some (ddG eqv s):=by
 unfold IV
 by_cases h:(s.length:Int)<2
 ·rw [decide_eq_true h,cond_true]
  match s,h with
  | [],_=>rfl
  | [a],_=>rfl
  | a::b::l,h=>simp at h;omega
 ·rw [decide_eq_false h,cond_false]
  have h1:ddG eqv (s.take 1)=s.take 1:=by
   match s with
   | []=>rfl
   | a::l=>rfl
  rcases DF z he s hn (s.length-1) 1 (by omega) (Nat.le_refl _) h1 with⟨h2,h3⟩|h2
  ·have:=j6 h2
   show (bn 1 _).bind _=_
   rw [show ((1:Nat):Int)=1 from rfl]at this
   rw [this,h3];rfl
  ·have:=j6 h2
   show (bn 1 _).bind _=_
   rw [show ((1:Nat):Int)=1 from rfl]at this
   rw [this];rfl
end
end Go.Eng

open Go Go.Eng
namespace Go.Proofs.YtdpginbnipklcaaGreatDoor.Law
set_option linter.unusedVariables false
set_option linter.unusedSimpArgs false
section
variable {α:Type} {c:α->α->Int} {eqv:α->α->Bool}
end
def wy (a b:Log_):Bool:=(a.Player.toList==b.Player.toList)&&((a.Item.toList==b.Item.toList)&&((a.No==b.No)&&((a.Clock==b.Clock)&&((a.Long==b.Long)&&((a.Sum.toList==b.Sum.toList)&&true)))))
theorem Di (a b:Log_):wy a b=true↔a=b:=by
 obtain ⟨a1,a2,a3,a4,a5,a6⟩:=a
 obtain ⟨b1,b2,b3,b4,b5,b6⟩:=b
 unfold wy
 simp only [Bool.and_eq_true,beq_iff_eq,Bool.and_true,Log_.mk.injEq]
 have k:∀x y:ByteArray,x.toList=y.toList↔x=y:=λx y=>⟨λh=>vH h,λh=>by rw [h]⟩
 rw [k,k,k]
theorem zi (a b:List Log_) (ha:a.length<=1000) (hb:b.length<=1000):cK [a,b]=some (a++b):=by
 unfold cK
 have e1:l9 [a,b] 0 (λk x s=>bI k x s)=some (.go (((a.length+b.length:Nat)):Int)):=by
  rw [iX (by simp)]
  have q1:∀k,bI k a 0=some (.go (a.length:Int)):=λk=>by
   unfold bI
   rw [bG (by omega),decide_eq_false (by omega),cond_false,ob_,Int.zero_add]
  have q2:∀k,bI k b (a.length:Int)=some (.go ((a.length+b.length:Nat):Int)):=λk=>by
   unfold bI
   rw [bG (by omega),decide_eq_false (by omega),cond_false,ob_]
   congr 2
  simp only [jU,q1,q2,ob_]
 have e3:l9 [a,b] ([]:List Log_) (λk x s=>bJ k x s)=some (.go (a++b)):=by
  rw [iX (by simp)]
  have q1:∀k,bJ k a []=some (.go a):=λk=>by
   unfold bJ
   rw [oW _ _ (by simp;omega)];rfl
  have q2:∀k,bJ k b a=some (.go (a++b)):=λk=>by
   unfold bJ
   rw [oW _ _ (by omega)];rfl
  simp only [jU,q1,q2,ob_]
 have w0:w64 (0-0)=0:=rfl
 have e2:∃g,dN (((a.length+b.length:Nat)):Int)=some g/\(a++b=[]->g=false):=by
  unfold dN
  rw [w0,bG (n:=((a.length+b.length:Nat):Int)-0) (by omega),decide_eq_false (by omega),cond_false]
  by_cases hz:a.length+b.length=0
  ·rw [decide_eq_false (by omega),cond_false]
   exact⟨_,rfl,λ_=>rfl⟩
  ·rw [decide_eq_true (by omega),cond_true]
   have hzn:zN (((a.length+b.length:Nat):Int)-0) 72=some ():=by unfold zN;rw [if_pos (by omega)]
   rw [hzn]
   refine⟨_,rfl,λe => ?_⟩
   have:=congrArg List.length e
   rw [List.length_append]at this
   exact absurd this hz
 obtain ⟨g,g1,g2⟩:=e2
 rw [e1,ob_,jd,g1,ob_,e3,ob_,jd]
 have hk:kE g (a++b)=some ():=by
  cases hab:a++b with
  | nil=>rw [g2 hab];rfl
  | cons x l=>cases g <;> rfl
 rw [hk];rfl
end Go.Proofs.YtdpginbnipklcaaGreatDoor.Law

open Go Go.Eng
namespace Go.Proofs.YtdpginbnipklcaaGreatDoor.Law
set_option linter.unusedVariables false
set_option linter.unusedSimpArgs false
theorem ms {α:Type} {E:Option α} {f:α->Option Bool} {P:α->Prop} (h:∃a,E=some a/\P a) (k:∀a,P a->f a=some true):E.bind f=some true:=by
  obtain ⟨a,h1,h2⟩:=h
  rw [h1];exact k a h2
end Go.Proofs.YtdpginbnipklcaaGreatDoor.Law

open Go Go.Eng
namespace Go.Proofs.YtdpginbnipklcaaGreatDoor.Law
set_option linter.unusedVariables false
set_option linter.unusedSimpArgs false
theorem iter2 {σ ρ:Type} {b1 b2:σ->Option (Ctl σ ρ)} (I Q:σ->Prop) (μ:σ->Nat)
  (h:∀s,I s->(∃s',b1 s=some (.go s')/\b2 s=some (.go s')/\I s'/\μ s'<μ s)\/(∃s',b1 s=some (.brk s')/\b2 s=some (.brk s')/\Q s')) :
  ∀(n:Nat) (s:σ),μ s<=n->I s->∃s' m,iZ b1 m s=some (.go s')/\iZ b2 m s=some (.go s')/\Q s'
 | n,s,hn,hs=>by
  rcases h s hs with⟨s',h1,h2,h3,h4⟩|⟨s',h1,h2,h3⟩
  ·match n,hn with
   | 0,hn=>omega
   | n+1,hn =>
    obtain ⟨s2,m,k1,k2,k3⟩:=iter2 I Q μ h n s' (by omega) h3
    refine⟨s2,m+1,?_,?_,k3⟩
    ·rw [iZ,h1];exact k1
    ·rw [iZ,h2];exact k2
  ·refine⟨s',1,?_,?_,h3⟩
   ·rw [iZ,h1];rfl
   ·rw [iZ,h2];rfl
theorem xC {σ ρ:Type} {b1 b2:σ->Option (Ctl σ ρ)} (I Q:σ->Prop) (μ:σ->Nat)
  (h:∀s,I s->(∃s',b1 s=some (.go s')/\b2 s=some (.go s')/\I s'/\μ s'<μ s)\/(∃s',b1 s=some (.brk s')/\b2 s=some (.brk s')/\Q s')) {s:σ} (hs:I s) :
  ∃s',bn s b1=some (.go s')/\bn s b2=some (.go s')/\Q s':=by
 obtain ⟨s',m,h1,h2,h3⟩:=iter2 I Q μ h (μ s) s (Nat.le_refl _) hs
 exact⟨s',j6 h1,j6 h2,h3⟩
theorem Jq {α σ ρ ρ':Type} {b1:Nat->α->σ->Option (Ctl σ ρ)} {b2:Nat->α->σ->Option (Ctl σ ρ')} (μ:σ->Nat) (l:List α) (h:∀k x s,l[k]? = some x->μ s<=k->∃s',b1 k x s=some (.go s')/\b2 k x s=some (.go s')/\μ s'<=k+1) :
  ∀(xs:List α) (k:Nat) (s:σ),l.drop k=xs->μ s<=k->∃s',jU b1 xs k s=some (.go s')/\jU b2 xs k s=some (.go s')/\μ s'<=k+xs.length
 | [],k,s,hd,hm=>⟨s,rfl,rfl,by simpa using hm⟩
 | x::xs,k,s,hd,hm=>by
  have hx:l[k]? = some x:=by
   have:=congrArg (λt=>t[0]?) hd
   simpa using this
  obtain ⟨s',h1,h2,h3⟩:=h k x s hx hm
  obtain ⟨s2,k1,k2,k3⟩:=Jq μ l h xs (k+1) s' (by rw [<- List.drop_drop,hd];rfl) h3
  refine⟨s2,?_,?_,by simp only [List.length_cons];omega⟩
  ·rw [jU,h1];exact k1
  ·rw [jU,h2];exact k2
theorem swap_perm {α:Type} {xs:List α} {i j:Nat} (hi:i<xs.length) (hj:j<xs.length):((xs.set i xs[j]).set j xs[i]).Perm xs:=List.set_set_perm hi hj
theorem half2 (i j:Nat) (h:i<=1000000/\j<=1000000):ko .u64 (IntKind.u64.wrap (w64 ((i:Int)+(j:Int)))) 1=some (((i+j) / 2:Nat):Int):=by
 have e1:w64 ((i:Int)+j)=((i+j:Nat):Int):=by rw [bG (by omega)];omega
 have e2:IntKind.u64.wrap ((i+j:Nat):Int)=((i+j:Nat):Int):=IntWalk.u64_in _ (by omega)
 rw [e1,e2]
 unfold ko
 rw [if_neg (by omega)]
 congr 1
 show Int.fdiv _ (2 ^ 1)=_
 rw [Int.fdiv_eq_ediv_of_nonneg _ (by decide)]
 omega
end Go.Proofs.YtdpginbnipklcaaGreatDoor.Law

open Go Go.Eng
namespace Go.Proofs.YtdpginbnipklcaaGreatDoor.Law
set_option linter.unusedVariables false
set_option linter.unusedSimpArgs false
def H5 {α:Type} (n_4:Int) (b_3:Int) (a_2:Int) (s_11:(List α)×Int):Option (Ctl ((List α)×Int) (Unit)) :=
 bif (decide (s_11.2<n_4))then (inR (w64 (b_3+s_11.2)) s_11.1).bind λ_=>(s_11.1[(0+((w64 (b_3+s_11.2))).toNat)]?).bind λe_18=>(inR (w64 (a_2+s_11.2)) s_11.1).bind λ_=>(s_11.1[(0+((w64 (a_2+s_11.2))).toNat)]?).bind λe_21=>(inR (w64 (a_2+s_11.2)) s_11.1).bind λ_=>(s_11.1[(0+((w64 (a_2+s_11.2))).toNat)]?).bind λe_24=>(inR (w64 (b_3+s_11.2)) (s_11.1.set (0+((w64 (a_2+s_11.2))).toNat) e_18)).bind λ_=>((s_11.1.set (0+((w64 (a_2+s_11.2))).toNat) e_18)[(0+((w64 (b_3+s_11.2))).toNat)]?).bind λe_27=>some (.go (((s_11.1.set (0+((w64 (a_2+s_11.2))).toNat) e_18).set (0+((w64 (b_3+s_11.2))).toNat) e_21),(w64 (s_11.2+1))))else some (.brk (s_11.1,s_11.2))
noncomputable def AV {α:Type} (data_1:(List α)) (a_2:Int) (b_3:Int) (n_4:Int):Option ((List α)) :=
 (bn (data_1,0) (λs=>H5 n_4 b_3 a_2 s)).bind λo_14=>aY o_14 (λs_11=>some s_11.1) (λ_=>none)
noncomputable def xR {α:Type} (m_3:Int) (s_11:(List α)×Int×Int):Option (Ctl ((List α)×Int×Int) (Unit)) :=
 bif (s_11.2.1 != s_11.2.2)then bif (decide (s_11.2.1>s_11.2.2))then (AV s_11.1 (w64 (m_3-s_11.2.1)) m_3 s_11.2.2).bind λr_18=>(dn r_18 s_11.1).bind λ_=>some (.go (r_18,(w64 (s_11.2.1-s_11.2.2)),s_11.2.2))else (AV s_11.1 (w64 (m_3-s_11.2.1)) (w64 ((w64 (m_3+s_11.2.2))-s_11.2.1)) s_11.2.1).bind λr_21=>(dn r_21 s_11.1).bind λ_=>some (.go (r_21,s_11.2.1,(w64 (s_11.2.2-s_11.2.1))))else some (.brk (s_11.1,s_11.2.1,s_11.2.2))
noncomputable def xB {α:Type} (data_1:(List α)) (a_2:Int) (m_3:Int) (b_4:Int):Option ((List α)) :=
 (bn (data_1,(w64 (m_3-a_2)),(w64 (b_4-m_3))) (λs=>xR m_3 s)).bind λo_14=>aY o_14 (λs_11=>(AV s_11.1 (w64 (m_3-s_11.2.1)) m_3 s_11.2.1).bind λr_24=>(dn r_24 s_11.1).bind λ_=>some r_24) (λ_=>none)
def zJ {α:Type} (cmp:α->α->Option Int) (data_1:(List α)) (a_2:Int) (s_12:Int×Int):Option (Ctl (Int×Int) (Unit)) :=
 bif (decide (s_12.1<s_12.2))then (ko .u64 (IntKind.u64.wrap (w64 (s_12.1+s_12.2))) 1).bind λq_18=>(inR (w64 q_18) data_1).bind λ_=>(data_1[(0+((w64 q_18)).toNat)]?).bind λe_21=>(inR a_2 data_1).bind λ_=>(data_1[(0+(a_2).toNat)]?).bind λe_24=>(cmp e_21 e_24).bind λr_26=>bif (decide (r_26<0))then some (.go ((w64 ((w64 q_18)+1)),s_12.2))else some (.go (s_12.1,(w64 q_18)))else some (.brk (s_12.1,s_12.2))
def EC {α:Type} (s_12:Int×Int) (s_34:(List α)×Int):Option (Ctl ((List α)×Int) (Unit)) :=
 bif (decide (s_34.2<(w64 (s_12.1-1))))then (inR (w64 (s_34.2+1)) s_34.1).bind λ_=>(s_34.1[(0+((w64 (s_34.2+1))).toNat)]?).bind λe_41=>(inR s_34.2 s_34.1).bind λ_=>(s_34.1[(0+(s_34.2).toNat)]?).bind λe_44=>(inR s_34.2 s_34.1).bind λ_=>(s_34.1[(0+(s_34.2).toNat)]?).bind λe_47=>(inR (w64 (s_34.2+1)) (s_34.1.set (0+(s_34.2).toNat) e_41)).bind λ_=>((s_34.1.set (0+(s_34.2).toNat) e_41)[(0+((w64 (s_34.2+1))).toNat)]?).bind λe_50=>some (.go (((s_34.1.set (0+(s_34.2).toNat) e_41).set (0+((w64 (s_34.2+1))).toNat) e_44),(w64 (s_34.2+1))))else some (.brk (s_34.1,s_34.2))
def Ak {α:Type} (cmp:α->α->Option Int) (m_3:Int) (data_1:(List α)) (s_60:Int×Int):Option (Ctl (Int×Int) (Unit)) :=
 bif (decide (s_60.1<s_60.2))then (ko .u64 (IntKind.u64.wrap (w64 (s_60.1+s_60.2))) 1).bind λq_66=>(inR m_3 data_1).bind λ_=>(data_1[(0+(m_3).toNat)]?).bind λe_69=>(inR (w64 q_66) data_1).bind λ_=>(data_1[(0+((w64 q_66)).toNat)]?).bind λe_72=>(cmp e_69 e_72).bind λr_74=>bif (!(decide (r_74<0)))then some (.go ((w64 ((w64 q_66)+1)),s_60.2))else some (.go (s_60.1,(w64 q_66)))else some (.brk (s_60.1,s_60.2))
def Dr {α:Type} (s_60:Int×Int) (s_82:(List α)×Int):Option (Ctl ((List α)×Int) (Unit)) :=
 bif (decide (s_82.2>s_60.1))then (inR (w64 (s_82.2-1)) s_82.1).bind λ_=>(s_82.1[(0+((w64 (s_82.2-1))).toNat)]?).bind λe_89=>(inR s_82.2 s_82.1).bind λ_=>(s_82.1[(0+(s_82.2).toNat)]?).bind λe_92=>(inR s_82.2 s_82.1).bind λ_=>(s_82.1[(0+(s_82.2).toNat)]?).bind λe_95=>(inR (w64 (s_82.2-1)) (s_82.1.set (0+(s_82.2).toNat) e_89)).bind λ_=>((s_82.1.set (0+(s_82.2).toNat) e_89)[(0+((w64 (s_82.2-1))).toNat)]?).bind λe_98=>some (.go (((s_82.1.set (0+(s_82.2).toNat) e_89).set (0+((w64 (s_82.2-1))).toNat) e_92),(w64 (s_82.2-1))))else some (.brk (s_82.1,s_82.2))
def zH {α:Type} (cmp:α->α->Option Int) (q_102:Int) (m_3:Int) (data_1:(List α)) (s_112:Int×Int):Option (Ctl (Int×Int) (Unit)) :=
 bif (decide (s_112.1<s_112.2))then (ko .u64 (IntKind.u64.wrap (w64 (s_112.1+s_112.2))) 1).bind λq_118=>(inR (w64 ((w64 ((w64 ((w64 q_102)+m_3))-1))-(w64 q_118))) data_1).bind λ_=>(data_1[(0+((w64 ((w64 ((w64 ((w64 q_102)+m_3))-1))-(w64 q_118)))).toNat)]?).bind λe_121=>(inR (w64 q_118) data_1).bind λ_=>(data_1[(0+((w64 q_118)).toNat)]?).bind λe_124=>(cmp e_121 e_124).bind λr_126=>bif (!(decide (r_126<0)))then some (.go ((w64 ((w64 q_118)+1)),s_112.2))else some (.go (s_112.1,(w64 q_118)))else some (.brk (s_112.1,s_112.2))
noncomputable def Dm {α:Type} (cmp:α->α->Option Int) (data_1:(List α)) (a_2:Int) (m_3:Int) (b_4:Int):Option ((List α)) :=
 bif ((w64 (m_3-a_2))==1)then (bn (m_3,b_4) (λs=>zJ cmp data_1 a_2 s)).bind λo_15=>aY o_15 (λs_12=>(bn (data_1,a_2) (λs=>EC s_12 s)).bind λo_37=>aY o_37 (λs_34=>some s_34.1) (λ_=>none)) (λ_=>none)else bif ((w64 (b_4-m_3))==1)then (bn (a_2,m_3) (λs=>Ak cmp m_3 data_1 s)).bind λo_63=>aY o_63 (λs_60=>(bn (data_1,m_3) (λs=>Dr s_60 s)).bind λo_85=>aY o_85 (λs_82=>some s_82.1) (λ_=>none)) (λ_=>none)else (ko .u64 (IntKind.u64.wrap (w64 (a_2+b_4))) 1).bind λq_102=>(bif (decide (m_3>(w64 q_102)))then some ((w64 ((w64 ((w64 q_102)+m_3))-b_4)),(w64 q_102))else some (a_2,m_3)).bind λv_104=>(bn (v_104.1,v_104.2) (λs=>zH cmp q_102 m_3 data_1 s)).bind λo_115=>aY o_115 (λs_112=>(bif (decide (s_112.1<m_3))then some (decide (m_3<(w64 ((w64 ((w64 q_102)+m_3))-s_112.1))))else some false).bind λv_129=>(bif v_129 then (xB data_1 s_112.1 m_3 (w64 ((w64 ((w64 q_102)+m_3))-s_112.1))).bind λr_135=>(dn r_135 data_1).bind λ_=>some r_135 else some data_1).bind λv_132=>(bif (decide (a_2<s_112.1))then some (decide (s_112.1<(w64 q_102)))else some false).bind λv_138=>(bif v_138 then none else some ()).bind λv_141=>(bif (decide ((w64 q_102)<(w64 ((w64 ((w64 q_102)+m_3))-s_112.1))))then some (decide ((w64 ((w64 ((w64 q_102)+m_3))-s_112.1))<b_4))else some false).bind λv_144=>bif v_144 then none else some v_132) (λ_=>none)
noncomputable def Ca {α:Type} (cmp:α->α->Option Int) (rec:List α->Int->Int->Int->Option (List α)) (data_1:(List α)) (a_2:Int) (m_3:Int) (b_4:Int):Option ((List α)) :=
 bif ((w64 (m_3-a_2))==1)then (bn (m_3,b_4) (λs=>zJ cmp data_1 a_2 s)).bind λo_15=>aY o_15 (λs_12=>(bn (data_1,a_2) (λs=>EC s_12 s)).bind λo_37=>aY o_37 (λs_34=>some s_34.1) (λ_=>none)) (λ_=>none)else bif ((w64 (b_4-m_3))==1)then (bn (a_2,m_3) (λs=>Ak cmp m_3 data_1 s)).bind λo_63=>aY o_63 (λs_60=>(bn (data_1,m_3) (λs=>Dr s_60 s)).bind λo_85=>aY o_85 (λs_82=>some s_82.1) (λ_=>none)) (λ_=>none)else (ko .u64 (IntKind.u64.wrap (w64 (a_2+b_4))) 1).bind λq_102=>(bif (decide (m_3>(w64 q_102)))then some ((w64 ((w64 ((w64 q_102)+m_3))-b_4)),(w64 q_102))else some (a_2,m_3)).bind λv_104=>(bn (v_104.1,v_104.2) (λs=>zH cmp q_102 m_3 data_1 s)).bind λo_115=>aY o_115 (λs_112=>(bif (decide (s_112.1<m_3))then some (decide (m_3<(w64 ((w64 ((w64 q_102)+m_3))-s_112.1))))else some false).bind λv_129=>(bif v_129 then (xB data_1 s_112.1 m_3 (w64 ((w64 ((w64 q_102)+m_3))-s_112.1))).bind λr_135=>(dn r_135 data_1).bind λ_=>some r_135 else some data_1).bind λv_132=>(bif (decide (a_2<s_112.1))then some (decide (s_112.1<(w64 q_102)))else some false).bind λv_138=>(bif v_138 then (rec v_132 a_2 s_112.1 (w64 q_102)).bind λr_144=>(dn r_144 v_132).bind λ_=>some r_144 else some v_132).bind λv_141=>(bif (decide ((w64 q_102)<(w64 ((w64 ((w64 q_102)+m_3))-s_112.1))))then some (decide ((w64 ((w64 ((w64 q_102)+m_3))-s_112.1))<b_4))else some false).bind λv_147=>bif v_147 then (rec v_141 (w64 q_102) (w64 ((w64 ((w64 q_102)+m_3))-s_112.1)) b_4).bind λr_151=>(dn r_151 v_141).bind λ_=>some r_151 else some v_141) (λ_=>none)
noncomputable def tX {α:Type} (cmp:α->α->Option Int) (n_2:Int) (s_9:(List α)×Int×Int):Option (Ctl ((List α)×Int×Int) (Unit)) :=
 bif (decide (s_9.2.2<=n_2))then (xy cmp s_9.1 s_9.2.1 s_9.2.2).bind λr_15=>(dn r_15 s_9.1).bind λ_=>some (.go (r_15,s_9.2.2,(w64 (s_9.2.2+20))))else some (.brk (s_9.1,s_9.2.1,s_9.2.2))
noncomputable def IR {α:Type} (rec:List α->Int->Int->Int->Option (List α)) (n_2:Int) (s_26:(List α)×Int) (s_37:(List α)×Int×Int):Option (Ctl ((List α)×Int×Int) (Unit)) :=
 bif (decide (s_37.2.2<=n_2))then (rec s_37.1 s_37.2.1 (w64 (s_37.2.1+s_26.2)) s_37.2.2).bind λr_43=>(dn r_43 s_37.1).bind λ_=>some (.go (r_43,s_37.2.2,(w64 (s_37.2.2+(w64 (2*s_26.2))))))else some (.brk (s_37.1,s_37.2.1,s_37.2.2))
noncomputable def tJ {α:Type} (rec:List α->Int->Int->Int->Option (List α)) (n_2:Int) (s_26:(List α)×Int):Option (Ctl ((List α)×Int) (Unit)) :=
 bif (decide (s_26.2<n_2))then (bn (s_26.1,0,(w64 (2*s_26.2))) (λs=>IR rec n_2 s_26 s)).bind λo_40=>aY o_40 (λs_37=>(bif (decide ((w64 (s_37.2.1+s_26.2))<n_2))then (rec s_37.1 s_37.2.1 (w64 (s_37.2.1+s_26.2)) n_2).bind λr_49=>(dn r_49 s_37.1).bind λ_=>some r_49 else some s_37.1).bind λv_46=>some (.go (v_46,(w64 (s_26.2*2))))) (λ_=>none)else some (.brk (s_26.1,s_26.2))
noncomputable def wL {α:Type} (cmp:α->α->Option Int) (rec:List α->Int->Int->Int->Option (List α)) (data_1:(List α)) (n_2:Int):Option ((List α)) :=
 (bn (data_1,0,20) (λs=>tX cmp n_2 s)).bind λo_12=>aY o_12 (λs_9=>(xy cmp s_9.1 s_9.2.1 n_2).bind λr_18=>(dn r_18 s_9.1).bind λ_=>(bn (r_18,20) (λs=>tJ rec n_2 s)).bind λo_29=>aY o_29 (λs_26=>some s_26.1) (λ_=>none)) (λ_=>none)
theorem Gs {σ ρ:Type} {b1:σ->Option (Ctl σ ρ)} (I Q:σ->Prop) (μ:σ->Nat)
  (h:∀s,I s->(∃s',b1 s=some (.go s')/\I s'/\μ s'<μ s)\/(∃s',b1 s=some (.brk s')/\Q s')) {s:σ} (hs:I s) :
  ∃s',bn s b1=some (.go s')/\Q s':=by
 obtain ⟨s',h1,_,h3⟩:=xC (b1:=b1) (b2:=b1) I Q μ (λs hi=>by
  rcases h s hi with⟨s',k1,k2,k3⟩|⟨s',k1,k2⟩
  ·exact .inl ⟨s',k1,k1,k2,k3⟩
  ·exact .inr ⟨s',k1,k1,k2⟩) hs
 exact⟨s',h1,h3⟩
theorem iU {α:Type} {xs:List α} {i:Int} (h:0<=i/\i<xs.length):inR i xs=some ():=by
 unfold inR;rw [if_pos ⟨h.1,by omega⟩]
theorem rH {α:Type} {xs:List α} {i:Int} (h:0<=i/\i<xs.length):∃x,xs[0+i.toNat]? = some x/\x∈xs :=
 have hl:0+i.toNat<xs.length:=by omega
 ⟨xs[0+i.toNat],List.getElem?_eq_getElem hl,List.getElem_mem hl⟩
theorem jX {α β:Type} {xs:List α} {ys:List β} (h:xs.length=ys.length):dn xs ys=some ():=by unfold dn;rw [if_pos h]
theorem Gr (i j:Int) (h:0<=i/\0<=j/\i<=1000000/\j<=1000000):ko .u64 (IntKind.u64.wrap (w64 (i+j))) 1=some ((i+j) / 2):=by
 have h1:=half2 i.toNat j.toNat (by omega)
 have e1:((i.toNat:Nat):Int)=i:=by omega
 have e2:((j.toNat:Nat):Int)=j:=by omega
 rw [e1,e2]at h1
 rw [h1];congr 1;omega
theorem vE {α:Type} (xs:List α) (u v:Int) (hu:0<=u/\u<xs.length) (hv:0<=v/\v<xs.length) :
  ∃ys:List α,ys.Perm xs/\∀{β:Type} (k:List α->Option β),((inR v xs).bind λ_=>(xs[0+v.toNat]?).bind λe1=>(inR u xs).bind λ_=>(xs[0+u.toNat]?).bind λe2=>(inR u xs).bind λ_=>(xs[0+u.toNat]?).bind λ_=>(inR v (xs.set (0+u.toNat) e1)).bind λ_=>((xs.set (0+u.toNat) e1)[0+v.toNat]?).bind λ_=>k ((xs.set (0+u.toNat) e1).set (0+v.toNat) e2))=k ys:=by
 have lu:0+u.toNat<xs.length:=by omega
 have lv:0+v.toNat<xs.length:=by omega
 refine⟨(xs.set (0+u.toNat) xs[0+v.toNat]).set (0+v.toNat) xs[0+u.toNat],swap_perm lu lv,λk => ?_⟩
 have hs:inR v (xs.set (0+u.toNat) xs[0+v.toNat])=some ():=iU (by rw [List.length_set];exact hv)
 obtain ⟨y,hy,-⟩:=rH (xs:=xs.set (0+u.toNat) xs[0+v.toNat]) (i:=v) (by rw [List.length_set];exact hv)
 simp only [iU hu,iU hv,List.getElem?_eq_getElem lu,List.getElem?_eq_getElem lv,ob_,hs,hy]
theorem zK {α:Type} (xs:List α) (a b n:Int) (h:0<=a/\0<=b/\0<=n/\a+n<=xs.length/\b+n<=xs.length/\xs.length<=1000000):∃r,AV xs a b n=some r/\r.Perm xs:=by
 obtain ⟨s,h1,h2⟩:=Gs (b1:=λs=>H5 n b a s) (λs:List α×Int=>s.1.Perm xs/\0<=s.2/\s.2<=n) (λs=>s.1.Perm xs) (λs=>(n-s.2).toNat) (λs hs=>by
  obtain ⟨p1,p2,p3⟩:=hs
  have hl:=p1.length_eq
  by_cases hc:s.2<n
  ·have e1:w64 (b+s.2)=b+s.2:=bG (by omega)
   have e2:w64 (a+s.2)=a+s.2:=bG (by omega)
   have e3:w64 (s.2+1)=s.2+1:=bG (by omega)
   obtain ⟨ys,q1,q2⟩:=vE s.1 (w64 (a+s.2)) (w64 (b+s.2)) (by rw [e2];omega) (by rw [e1];omega)
   refine .inl ⟨(ys,w64 (s.2+1)),?_,⟨q1.trans p1,?_,?_⟩,?_⟩
   ·show H5 n b a s=_
    unfold H5;rw [decide_eq_true hc];exact q2 (β:=Ctl (List α×Int) Unit) (λys=>some (.go (ys,w64 (s.2+1))))
   ·show 0<=w64 (s.2+1)
    rw [e3];omega
   ·show w64 (s.2+1)<=n
    rw [e3];omega
   ·show (n-w64 (s.2+1)).toNat<_
    rw [e3];omega
  ·refine .inr ⟨s,?_,p1⟩
   show H5 n b a s=_
   unfold H5;rw [decide_eq_false hc];rfl) (s:=(xs,0)) ⟨.refl _,by show (0:Int)<=0;omega,by show (0:Int)<=n;omega⟩
 exact⟨s.1,by unfold AV;rw [h1];rfl,h2⟩
theorem He {α:Type} (xs:List α) (a m b:Int) (h:0<=a/\a<m/\m<b/\b<=xs.length/\xs.length<=1000000):∃r,xB xs a m b=some r/\r.Perm xs:=by
 have e1:w64 (m-a)=m-a:=bG (by omega)
 have e2:w64 (b-m)=b-m:=bG (by omega)
 obtain ⟨s,h1,h2,h3,h4,h5⟩:=Gs (b1:=λs=>xR m s) (λs:List α×Int×Int=>s.1.Perm xs/\1<=s.2.1/\1<=s.2.2/\s.2.1<=m/\m+s.2.2<=xs.length) (λs=>s.1.Perm xs/\1<=s.2.1/\s.2.1<=m/\m+s.2.1<=xs.length) (λs=>(s.2.1+s.2.2).toNat) (λs hs=>by
  obtain ⟨p1,p2,p3,p4,p5⟩:=hs
  have hl:=p1.length_eq
  have f1:w64 (m-s.2.1)=m-s.2.1:=bG (by omega)
  have f2:w64 (m+s.2.2)=m+s.2.2:=bG (by omega)
  have f3:w64 (m+s.2.2-s.2.1)=m+s.2.2-s.2.1:=bG (by omega)
  have f4:w64 (s.2.1-s.2.2)=s.2.1-s.2.2:=bG (by omega)
  have f5:w64 (s.2.2-s.2.1)=s.2.2-s.2.1:=bG (by omega)
  by_cases hc:s.2.1=s.2.2
  ·refine .inr ⟨s,?_,p1,p2,p4,by omega⟩
   show xR m s=_
   unfold xR
   rw [show (s.2.1 != s.2.2)=false by simp [hc]];rfl
  ·by_cases hd:s.2.1>s.2.2
   ·obtain ⟨r,k1,k2⟩:=zK s.1 (m-s.2.1) m s.2.2 (by omega)
    refine .inl ⟨(r,s.2.1-s.2.2,s.2.2),?_,⟨k2.trans p1,by show 1<=s.2.1-s.2.2;omega,p3,by show s.2.1-s.2.2<=m;omega,p5⟩,by show (s.2.1-s.2.2+s.2.2).toNat<_;omega⟩
    show xR m s=_
    unfold xR
    rw [show (s.2.1 != s.2.2)=true by simp [hc],decide_eq_true hd,f1,k1,f4]
    simp only [cond_true,ob_,jX k2.length_eq]
   ·obtain ⟨r,k1,k2⟩:=zK s.1 (m-s.2.1) (m+s.2.2-s.2.1) s.2.1 (by omega)
    refine .inl ⟨(r,s.2.1,s.2.2-s.2.1),?_,⟨k2.trans p1,p2,by show 1<=s.2.2-s.2.1;omega,p4,by show m+(s.2.2-s.2.1)<=_;omega⟩,by show (s.2.1+(s.2.2-s.2.1)).toNat<_;omega⟩
    show xR m s=_
    unfold xR
    rw [show (s.2.1 != s.2.2)=true by simp [hc],decide_eq_false hd,f2,f3,f1,k1,f5]
    simp only [cond_true,cond_false,ob_,jX k2.length_eq]) (s:=(xs,w64 (m-a),w64 (b-m))) ⟨.refl _,by show 1<=w64 (m-a);omega,by show 1<=w64 (b-m);omega,by show w64 (m-a)<=m;omega,by show m+w64 (b-m)<=_;omega⟩
 have hl:=h2.length_eq
 obtain ⟨r,k1,k2⟩:=zK s.1 (m-s.2.1) m s.2.1 (by omega)
 refine⟨r,?_,k2.trans h2⟩
 unfold xB
 rw [h1]
 show ((AV s.1 (w64 (m-s.2.1)) m s.2.1).bind _)=_
 rw [bG (n:=m-s.2.1) (by omega),k1]
 simp only [ob_,jX k2.length_eq]
section
variable {α:Type} {c1 c2:α->α->Option Int} {p:α->Prop}
theorem uS {xs ys:List α} (h:ys.Perm xs) (hp:∀x∈xs,p x):∀x∈ys,p x:=λx hx=>hp x (h.mem_iff.1 hx)
theorem smL1_2 (hc:∀x y,p x->p y->∃z,c1 x y=some z/\c2 x y=some z) {xs:List α} (hp:∀x∈xs,p x) (a m b:Int) (h:0<=a/\a<xs.length/\0<=m/\m<=b/\b<=xs.length/\xs.length<=1000000) :
  ∃s,bn (m,b) (λs=>zJ c1 xs a s)=some (.go s)/\bn (m,b) (λs=>zJ c2 xs a s)=some (.go s)/\m<=s.1/\s.1<=b:=by
 refine xC (λs:Int×Int=>m<=s.1/\s.1<=s.2/\s.2<=b) (λs=>m<=s.1/\s.1<=b) (λs=>(s.2-s.1).toNat) (λs hs => ?_) ⟨by show m<=m;omega,by show m<=b;omega,by show b<=b;omega⟩
 obtain ⟨p1,p2,p3⟩:=hs
 by_cases hd:s.1<s.2
 ·left
  have hh:=Gr s.1 s.2 (by omega)
  have hb:s.1<=(s.1+s.2) / 2/\(s.1+s.2) / 2<s.2:=by omega
  have ew:w64 ((s.1+s.2) / 2)=(s.1+s.2) / 2:=bG (by omega)
  have ew1:w64 ((s.1+s.2) / 2+1)=(s.1+s.2) / 2+1:=bG (by omega)
  obtain ⟨x,hx,hx'⟩:=rH (xs:=xs) (i:=(s.1+s.2) / 2) (by omega)
  obtain ⟨y,hy,hy'⟩:=rH (xs:=xs) (i:=a) (by omega)
  obtain ⟨z,hz1,hz2⟩:=hc x y (hp x hx') (hp y hy')
  by_cases hz:z<0
  ·refine⟨((s.1+s.2) / 2+1,s.2),?_,?_,⟨by show m<=(s.1+s.2) / 2+1;omega,by show (s.1+s.2) / 2+1<=s.2;omega,p3⟩,by show (s.2-((s.1+s.2) / 2+1)).toNat<_;omega⟩
   ·simp only [zJ,decide_eq_true hd,cond_true,hh,ob_,ew,ew1,iU (xs:=xs) (i:=(s.1+s.2) / 2) (by omega),hx,iU (xs:=xs) (i:=a) (by omega),hy,hz1,decide_eq_true hz]
   ·simp only [zJ,decide_eq_true hd,cond_true,hh,ob_,ew,ew1,iU (xs:=xs) (i:=(s.1+s.2) / 2) (by omega),hx,iU (xs:=xs) (i:=a) (by omega),hy,hz2,decide_eq_true hz]
  ·refine⟨(s.1,(s.1+s.2) / 2),?_,?_,⟨p1,by show s.1<=(s.1+s.2) / 2;omega,by show (s.1+s.2) / 2<=b;omega⟩,by show ((s.1+s.2) / 2-s.1).toNat<_;omega⟩
   ·simp only [zJ,decide_eq_true hd,cond_true,cond_false,hh,ob_,ew,ew1,iU (xs:=xs) (i:=(s.1+s.2) / 2) (by omega),hx,iU (xs:=xs) (i:=a) (by omega),hy,hz1,decide_eq_false hz]
   ·simp only [zJ,decide_eq_true hd,cond_true,cond_false,hh,ob_,ew,ew1,iU (xs:=xs) (i:=(s.1+s.2) / 2) (by omega),hx,iU (xs:=xs) (i:=a) (by omega),hy,hz2,decide_eq_false hz]
 ·right
  refine⟨s,?_,?_,by omega,by omega⟩
  ·simp only [zJ,decide_eq_false hd,cond_false]
  ·simp only [zJ,decide_eq_false hd,cond_false]
theorem smL3_2 (hc:∀x y,p x->p y->∃z,c1 x y=some z/\c2 x y=some z) {xs:List α} (hp:∀x∈xs,p x) (a m b:Int) (h:0<=a/\a<xs.length/\0<=m/\m<=b/\b<=xs.length/\xs.length<=1000000) :
  ∃s,bn (m,b) (λs=>Ak c1 a xs s)=some (.go s)/\bn (m,b) (λs=>Ak c2 a xs s)=some (.go s)/\m<=s.1/\s.1<=b:=by
 refine xC (λs:Int×Int=>m<=s.1/\s.1<=s.2/\s.2<=b) (λs=>m<=s.1/\s.1<=b) (λs=>(s.2-s.1).toNat) (λs hs => ?_) ⟨by show m<=m;omega,by show m<=b;omega,by show b<=b;omega⟩
 obtain ⟨p1,p2,p3⟩:=hs
 by_cases hd:s.1<s.2
 ·left
  have hh:=Gr s.1 s.2 (by omega)
  have hb:s.1<=(s.1+s.2) / 2/\(s.1+s.2) / 2<s.2:=by omega
  have ew:w64 ((s.1+s.2) / 2)=(s.1+s.2) / 2:=bG (by omega)
  have ew1:w64 ((s.1+s.2) / 2+1)=(s.1+s.2) / 2+1:=bG (by omega)
  obtain ⟨x,hx,hx'⟩:=rH (xs:=xs) (i:=(s.1+s.2) / 2) (by omega)
  obtain ⟨y,hy,hy'⟩:=rH (xs:=xs) (i:=a) (by omega)
  obtain ⟨z,hz1,hz2⟩:=hc y x (hp y hy') (hp x hx')
  by_cases hz:z<0
  ·refine⟨(s.1,(s.1+s.2) / 2),?_,?_,⟨p1,by show s.1<=(s.1+s.2) / 2;omega,by show (s.1+s.2) / 2<=b;omega⟩,by show ((s.1+s.2) / 2-s.1).toNat<_;omega⟩
   ·simp only [Ak,decide_eq_true hd,cond_true,cond_false,hh,ob_,ew,ew1,iU (xs:=xs) (i:=(s.1+s.2) / 2) (by omega),hx,iU (xs:=xs) (i:=a) (by omega),hy,hz1,decide_eq_true hz,Bool.not_true]
   ·simp only [Ak,decide_eq_true hd,cond_true,cond_false,hh,ob_,ew,ew1,iU (xs:=xs) (i:=(s.1+s.2) / 2) (by omega),hx,iU (xs:=xs) (i:=a) (by omega),hy,hz2,decide_eq_true hz,Bool.not_true]
  ·refine⟨((s.1+s.2) / 2+1,s.2),?_,?_,⟨by show m<=(s.1+s.2) / 2+1;omega,by show (s.1+s.2) / 2+1<=s.2;omega,p3⟩,by show (s.2-((s.1+s.2) / 2+1)).toNat<_;omega⟩
   ·simp only [Ak,decide_eq_true hd,cond_true,hh,ob_,ew,ew1,iU (xs:=xs) (i:=(s.1+s.2) / 2) (by omega),hx,iU (xs:=xs) (i:=a) (by omega),hy,hz1,decide_eq_false hz,Bool.not_false]
   ·simp only [Ak,decide_eq_true hd,cond_true,hh,ob_,ew,ew1,iU (xs:=xs) (i:=(s.1+s.2) / 2) (by omega),hx,iU (xs:=xs) (i:=a) (by omega),hy,hz2,decide_eq_false hz,Bool.not_false]
 ·right
  refine⟨s,?_,?_,by omega,by omega⟩
  ·simp only [Ak,decide_eq_false hd,cond_false]
  ·simp only [Ak,decide_eq_false hd,cond_false]
theorem smL5_2 (hc:∀x y,p x->p y->∃z,c1 x y=some z/\c2 x y=some z) {xs:List α} (hp:∀x∈xs,p x) (q mm m b:Int) (h:0<=m/\m<=b/\b<=xs.length/\xs.length<=1000000/\0<=q/\q<=xs.length/\0<=mm/\mm<=xs.length/\q+mm-m<=xs.length/\0<=q+mm-b) :
  ∃s,bn (m,b) (λs=>zH c1 q mm xs s)=some (.go s)/\bn (m,b) (λs=>zH c2 q mm xs s)=some (.go s)/\m<=s.1/\s.1<=b:=by
 have w1:w64 q=q:=bG (by omega)
 have w2:w64 (q+mm)=q+mm:=bG (by omega)
 have w3:w64 (q+mm-1)=q+mm-1:=bG (by omega)
 refine xC (λs:Int×Int=>m<=s.1/\s.1<=s.2/\s.2<=b) (λs=>m<=s.1/\s.1<=b) (λs=>(s.2-s.1).toNat) (λs hs => ?_) ⟨by show m<=m;omega,by show m<=b;omega,by show b<=b;omega⟩
 obtain ⟨p1,p2,p3⟩:=hs
 by_cases hd:s.1<s.2
 ·left
  have hh:=Gr s.1 s.2 (by omega)
  have hb:s.1<=(s.1+s.2) / 2/\(s.1+s.2) / 2<s.2:=by omega
  have ew:w64 ((s.1+s.2) / 2)=(s.1+s.2) / 2:=bG (by omega)
  have ew1:w64 ((s.1+s.2) / 2+1)=(s.1+s.2) / 2+1:=bG (by omega)
  have ew2:w64 (q+mm-1-(s.1+s.2) / 2)=q+mm-1-(s.1+s.2) / 2:=bG (by omega)
  obtain ⟨x,hx,hx'⟩:=rH (xs:=xs) (i:=(s.1+s.2) / 2) (by omega)
  obtain ⟨y,hy,hy'⟩:=rH (xs:=xs) (i:=q+mm-1-(s.1+s.2) / 2) (by omega)
  obtain ⟨z,hz1,hz2⟩:=hc y x (hp y hy') (hp x hx')
  by_cases hz:z<0
  ·refine⟨(s.1,(s.1+s.2) / 2),?_,?_,⟨p1,by show s.1<=(s.1+s.2) / 2;omega,by show (s.1+s.2) / 2<=b;omega⟩,by show ((s.1+s.2) / 2-s.1).toNat<_;omega⟩
   ·simp only [zH,decide_eq_true hd,cond_true,cond_false,hh,ob_,w1,w2,w3,ew2,ew,ew1,iU (xs:=xs) (i:=(s.1+s.2) / 2) (by omega),hx,iU (xs:=xs) (i:=q+mm-1-(s.1+s.2) / 2) (by omega),hy,hz1,decide_eq_true hz,Bool.not_true]
   ·simp only [zH,decide_eq_true hd,cond_true,cond_false,hh,ob_,w1,w2,w3,ew2,ew,ew1,iU (xs:=xs) (i:=(s.1+s.2) / 2) (by omega),hx,iU (xs:=xs) (i:=q+mm-1-(s.1+s.2) / 2) (by omega),hy,hz2,decide_eq_true hz,Bool.not_true]
  ·refine⟨((s.1+s.2) / 2+1,s.2),?_,?_,⟨by show m<=(s.1+s.2) / 2+1;omega,by show (s.1+s.2) / 2+1<=s.2;omega,p3⟩,by show (s.2-((s.1+s.2) / 2+1)).toNat<_;omega⟩
   ·simp only [zH,decide_eq_true hd,cond_true,hh,ob_,w1,w2,w3,ew2,ew,ew1,iU (xs:=xs) (i:=(s.1+s.2) / 2) (by omega),hx,iU (xs:=xs) (i:=q+mm-1-(s.1+s.2) / 2) (by omega),hy,hz1,decide_eq_false hz,Bool.not_false]
   ·simp only [zH,decide_eq_true hd,cond_true,hh,ob_,w1,w2,w3,ew2,ew,ew1,iU (xs:=xs) (i:=(s.1+s.2) / 2) (by omega),hx,iU (xs:=xs) (i:=q+mm-1-(s.1+s.2) / 2) (by omega),hy,hz2,decide_eq_false hz,Bool.not_false]
 ·right
  refine⟨s,?_,?_,by omega,by omega⟩
  ·simp only [zH,decide_eq_false hd,cond_false]
  ·simp only [zH,decide_eq_false hd,cond_false]
theorem smL2_ok (xs:List α) (a:Int) (t:Int×Int) (h:0<=a/\0<=t.1/\t.1<=xs.length/\xs.length<=1000000):∃s,bn (xs,a) (λs=>EC t s)=some (.go s)/\s.1.Perm xs:=by
 have e0:w64 (t.1-1)=t.1-1:=bG (by omega)
 refine Gs (λs:List α×Int=>s.1.Perm xs/\0<=s.2) (λs=>s.1.Perm xs) (λs=>(t.1-s.2).toNat) (λs hs => ?_) ⟨.refl _,h.1⟩
 obtain ⟨p1,p2⟩:=hs
 have hl:=p1.length_eq
 by_cases hd:s.2<w64 (t.1-1)
 ·have e1:w64 (s.2+1)=s.2+1:=bG (by omega)
  obtain ⟨ys,q1,q2⟩:=vE s.1 s.2 (w64 (s.2+1)) (by omega) (by omega)
  refine .inl ⟨(ys,w64 (s.2+1)),?_,⟨q1.trans p1,by show 0<=w64 (s.2+1);omega⟩,by show (t.1-w64 (s.2+1)).toNat<_;omega⟩
  show EC t s=_
  unfold EC;rw [decide_eq_true hd];exact q2 (β:=Ctl (List α×Int) Unit) (λys=>some (.go (ys,w64 (s.2+1))))
 ·refine .inr ⟨s,?_,p1⟩
  show EC t s=_
  unfold EC;rw [decide_eq_false hd];rfl
theorem smL4_ok (xs:List α) (m:Int) (t:Int×Int) (h:m<xs.length/\0<=t.1/\xs.length<=1000000):∃s,bn (xs,m) (λs=>Dr t s)=some (.go s)/\s.1.Perm xs:=by
 refine Gs (λs:List α×Int=>s.1.Perm xs/\s.2<xs.length) (λs=>s.1.Perm xs) (λs=>s.2.toNat) (λs hs => ?_) ⟨.refl _,h.1⟩
 obtain ⟨p1,p2⟩:=hs
 have hl:=p1.length_eq
 by_cases hd:s.2>t.1
 ·have e1:w64 (s.2-1)=s.2-1:=bG (by omega)
  obtain ⟨ys,q1,q2⟩:=vE s.1 s.2 (w64 (s.2-1)) (by omega) (by omega)
  refine .inl ⟨(ys,w64 (s.2-1)),?_,⟨q1.trans p1,by show w64 (s.2-1)<_;omega⟩,by show (w64 (s.2-1)).toNat<_;omega⟩
  show Dr t s=_
  unfold Dr;rw [decide_eq_true hd];exact q2 (β:=Ctl (List α×Int) Unit) (λys=>some (.go (ys,w64 (s.2-1))))
 ·refine .inr ⟨s,?_,p1⟩
  show Dr t s=_
  unfold Dr;rw [decide_eq_false hd];rfl
def zu (p:α->Prop) (r1 r2:List α->Int->Int->Int->Option (List α)) (N:Int):Prop:=∀xs a m b,(∀x∈xs,p x)->0<=a/\a<m/\m<b/\b<=xs.length/\xs.length<=1000000/\b-a<=N->∃r,r1 xs a m b=some r/\r2 xs a m b=some r/\r.Perm xs
noncomputable def Ah (cmp:α->α->Option Int) (xs:List α) (a m b:Int):Option (List α) :=
 (bn (m,b) (λs=>zJ cmp xs a s)).bind λo_15=>aY o_15 (λs_12=>(bn (xs,a) (λs=>EC s_12 s)).bind λo_37=>aY o_37 (λs_34=>some s_34.1) (λ_=>none)) (λ_=>none)
noncomputable def zQ (cmp:α->α->Option Int) (xs:List α) (a m b:Int):Option (List α) :=
 (bn (a,m) (λs=>Ak cmp m xs s)).bind λo_63=>aY o_63 (λs_60=>(bn (xs,m) (λs=>Dr s_60 s)).bind λo_85=>aY o_85 (λs_82=>some s_82.1) (λ_=>none)) (λ_=>none)
theorem AY (hc:∀x y,p x->p y->∃z,c1 x y=some z/\c2 x y=some z):zu p (Ah c1) (Ah c2) 1000000:=by
 intro xs a m b hp h
 obtain ⟨s,h1,h2,h3,h4⟩:=smL1_2 hc hp a m b (by omega)
 obtain ⟨t,h5,h6⟩:=smL2_ok xs a s (by omega)
 refine⟨t.1,?_,?_,h6⟩
 ·unfold Ah;rw [h1];simp only [ob_,aY,h5]
 ·unfold Ah;rw [h2];simp only [ob_,aY,h5]
theorem BD (hc:∀x y,p x->p y->∃z,c1 x y=some z/\c2 x y=some z):zu p (zQ c1) (zQ c2) 1000000:=by
 intro xs a m b hp h
 obtain ⟨s,h1,h2,h3,h4⟩:=smL3_2 hc hp m a m (by omega)
 obtain ⟨t,h5,h6⟩:=smL4_ok xs m s (by omega)
 refine⟨t.1,?_,?_,h6⟩
 ·unfold zQ;rw [h1];simp only [ob_,aY,h5]
 ·unfold zQ;rw [h2];simp only [ob_,aY,h5]
theorem symB_ok (hc:∀x y,p x->p y->∃z,c1 x y=some z/\c2 x y=some z):zu p (Dm c1) (Dm c2) 3:=by
 intro xs a m b hp h
 have e1:w64 (m-a)=m-a:=bG (by omega)
 have e2:w64 (b-m)=b-m:=bG (by omega)
 by_cases ha:m-a=1
 ·obtain ⟨r,k1,k2,k3⟩:=AY hc xs a m b hp (by omega)
  have hd:(w64 (m-a)==1)=true:=by rw [e1,ha];rfl
  refine⟨r,?_,?_,k3⟩
  ·unfold Dm;rw [hd];exact k1
  ·unfold Dm;rw [hd];exact k2
 ·have hb:b-m=1:=by omega
  obtain ⟨r,k1,k2,k3⟩:=BD hc xs a m b hp (by omega)
  have hd:(w64 (m-a)==1)=false:=by rw [e1];simp [ha]
  have hd2:(w64 (b-m)==1)=true:=by rw [e2,hb];rfl
  refine⟨r,?_,?_,k3⟩
  ·unfold Dm;rw [hd,hd2];exact k1
  ·unfold Dm;rw [hd,hd2];exact k2
noncomputable def IX (rec:List α->Int->Int->Int->Option (List α)) (xs:List α) (q a m b st:Int):Option (List α) :=
 (bif (decide (st<m))then some (decide (m<(w64 ((w64 ((w64 q)+m))-st))))else some false).bind λv_129=>(bif v_129 then (xB xs st m (w64 ((w64 ((w64 q)+m))-st))).bind λr_135=>(dn r_135 xs).bind λ_=>some r_135 else some xs).bind λv_132=>(bif (decide (a<st))then some (decide (st<(w64 q)))else some false).bind λv_138=>(bif v_138 then (rec v_132 a st (w64 q)).bind λr_144=>(dn r_144 v_132).bind λ_=>some r_144 else some v_132).bind λv_141=>(bif (decide ((w64 q)<(w64 ((w64 ((w64 q)+m))-st))))then some (decide ((w64 ((w64 ((w64 q)+m))-st))<b))else some false).bind λv_147=>bif v_147 then (rec v_141 (w64 q) (w64 ((w64 ((w64 q)+m))-st)) b).bind λr_151=>(dn r_151 v_141).bind λ_=>some r_151 else some v_141
noncomputable def symU (cmp:α->α->Option Int) (rec:List α->Int->Int->Int->Option (List α)) (xs:List α) (q a m b:Int):Option (List α) :=
 (bif (decide (m>(w64 q)))then some ((w64 ((w64 ((w64 q)+m))-b)),(w64 q))else some (a,m)).bind λv_104=>(bn (v_104.1,v_104.2) (λs=>zH cmp q m xs s)).bind λo_115=>aY o_115 (λs_112=>IX rec xs q a m b s_112.1) (λ_=>none)
theorem Gp (cmp:α->α->Option Int) (rec:List α->Int->Int->Int->Option (List α)) (xs:List α) (a m b:Int):Ca cmp rec xs a m b=bif ((w64 (m-a))==1)then Ah cmp xs a m b else bif ((w64 (b-m))==1)then zQ cmp xs a m b else (ko .u64 (IntKind.u64.wrap (w64 (a+b))) 1).bind λq=>symU cmp rec xs q a m b:=rfl
theorem o9 {β:Type} (c d:Bool) (k:Bool->Option β):((bif c then some d else some false).bind k)=k (c&&d):=by cases c <;> rfl
theorem symT_ok {r1 r2:List α->Int->Int->Int->Option (List α)} {N:Int} (hr:zu p r1 r2 N) (xs:List α) (hp:∀x∈xs,p x) (q a m b st:Int) (h:0<=a/\a<=st/\st<=m/\st<=q/\q+m-st<=b/\m<b/\b<=xs.length/\xs.length<=1000000/\q-a<=N/\b-q<=N) :
  ∃r,IX r1 xs q a m b st=some r/\IX r2 xs q a m b st=some r/\r.Perm xs:=by
 have w1:w64 q=q:=bG (by omega)
 have w2:w64 (q+m)=q+m:=bG (by omega)
 have w3:w64 (q+m-st)=q+m-st:=bG (by omega)
 obtain ⟨y1,a1,a2⟩:∃y,(bif (decide (st<m)&&decide (m<q+m-st))then (xB xs st m (q+m-st)).bind λr_135=>(dn r_135 xs).bind λ_=>some r_135 else some xs)=some y/\y.Perm xs:=by
  cases hd:(decide (st<m)&&decide (m<q+m-st))with
  | false=>exact⟨xs,rfl,.refl _⟩
  | true =>
   simp only [Bool.and_eq_true,decide_eq_true_eq]at hd
   obtain ⟨r,k1,k2⟩:=He xs st m (q+m-st) (by omega)
   exact⟨r,by simp only [cond_true,k1,ob_,jX k2.length_eq],k2⟩
 have hp1:=uS a2 hp
 have hl1:=a2.length_eq
 obtain ⟨y2,b1,b2,b3⟩:∃y,(bif (decide (a<st)&&decide (st<q))then (r1 y1 a st q).bind λr_144=>(dn r_144 y1).bind λ_=>some r_144 else some y1)=some y/\(bif (decide (a<st)&&decide (st<q))then (r2 y1 a st q).bind λr_144=>(dn r_144 y1).bind λ_=>some r_144 else some y1)=some y/\y.Perm y1:=by
  cases hd:(decide (a<st)&&decide (st<q))with
  | false=>exact⟨y1,rfl,rfl,.refl _⟩
  | true =>
   simp only [Bool.and_eq_true,decide_eq_true_eq]at hd
   obtain ⟨r,k1,k2,k3⟩:=hr y1 a st q hp1 (by omega)
   exact⟨r,by simp only [cond_true,k1,ob_,jX k3.length_eq],by simp only [cond_true,k2,ob_,jX k3.length_eq],k3⟩
 have hp2:=uS b3 hp1
 have hl2:=b3.length_eq
 obtain ⟨y3,d1,d2,d3⟩:∃y,(bif (decide (q<q+m-st)&&decide (q+m-st<b))then (r1 y2 q (q+m-st) b).bind λr_144=>(dn r_144 y2).bind λ_=>some r_144 else some y2)=some y/\(bif (decide (q<q+m-st)&&decide (q+m-st<b))then (r2 y2 q (q+m-st) b).bind λr_144=>(dn r_144 y2).bind λ_=>some r_144 else some y2)=some y/\y.Perm y2:=by
  cases hd:(decide (q<q+m-st)&&decide (q+m-st<b))with
  | false=>exact⟨y2,rfl,rfl,.refl _⟩
  | true =>
   simp only [Bool.and_eq_true,decide_eq_true_eq]at hd
   obtain ⟨r,k1,k2,k3⟩:=hr y2 q (q+m-st) b hp2 (by omega)
   exact⟨r,by simp only [cond_true,k1,ob_,jX k3.length_eq],by simp only [cond_true,k2,ob_,jX k3.length_eq],k3⟩
 refine⟨y3,?_,?_,d3.trans (b3.trans a2)⟩
 ·unfold IX;rw [w1,w2,w3,o9,a1,ob_,o9,b1,ob_,o9];exact d1
 ·unfold IX;rw [w1,w2,w3,o9,a1,ob_,o9,b2,ob_,o9];exact d2
theorem CX (hc:∀x y,p x->p y->∃z,c1 x y=some z/\c2 x y=some z) {r1 r2:List α->Int->Int->Int->Option (List α)} {N:Int} (hr:zu p r1 r2 N):zu p (Ca c1 r1) (Ca c2 r2) (2*N):=by
 intro xs a m b hp h
 have e1:w64 (m-a)=m-a:=bG (by omega)
 have e2:w64 (b-m)=b-m:=bG (by omega)
 rw [Gp,Gp]
 by_cases ha:m-a=1
 ·have hd:(w64 (m-a)==1)=true:=by rw [e1,ha];rfl
  rw [hd];exact AY hc xs a m b hp (by omega)
 have hd:(w64 (m-a)==1)=false:=by rw [e1];simp [ha]
 rw [hd]
 by_cases hb:b-m=1
 ·have hd2:(w64 (b-m)==1)=true:=by rw [e2,hb];rfl
  rw [hd2];exact BD hc xs a m b hp (by omega)
 have hd2:(w64 (b-m)==1)=false:=by rw [e2];simp [hb]
 rw [hd2,Gr a b (by omega)]
 simp only [cond_false,ob_]
 generalize hq:(a+b) / 2=q
 have w1:w64 q=q:=bG (by omega)
 have w2:w64 (q+m)=q+m:=bG (by omega)
 have w3:w64 (q+m-b)=q+m-b:=bG (by omega)
 obtain ⟨v,f1,f2,f3,f4,f5,f6⟩:∃v:Int×Int,(bif (decide (m>(w64 q)))then some ((w64 ((w64 ((w64 q)+m))-b)),(w64 q))else some (a,m))=some v/\a<=v.1/\v.1<=v.2/\v.2<=m/\v.2<=q/\q+m-v.1<=b:=by
  rw [w1,w2,w3]
  by_cases hm:m>q
  ·exact⟨(q+m-b,q),by rw [decide_eq_true hm];rfl,by show a<=q+m-b;omega,by show q+m-b<=q;omega,by show q<=m;omega,by show q<=q;omega,by show q+m-(q+m-b)<=b;omega⟩
  ·exact⟨(a,m),by rw [decide_eq_false hm];rfl,by show a<=a;omega,by show a<=m;omega,by show m<=m;omega,by show m<=q;omega,by show q+m-a<=b;omega⟩
 obtain ⟨s,g1,g2,g3,g4⟩:=smL5_2 hc hp q m v.1 v.2 (by omega)
 obtain ⟨r,k1,k2,k3⟩:=symT_ok hr xs hp q a m b s.1 (by omega)
 refine⟨r,?_,?_,k3⟩
 ·unfold symU;rw [f1];simp only [ob_,g1,aY,k1]
 ·unfold symU;rw [f1];simp only [ob_,g2,aY,k2]
theorem insL1_2 (hc:∀x y,p x->p y->∃z,c1 x y=some z/\c2 x y=some z) (xs:List α) (hp:∀x∈xs,p x) (a i:Int) (h:0<=a/\a<=i/\i<xs.length/\xs.length<=1000000) :
  ∃s,bn (xs,i) (λs=>p9 c1 a s)=some (.go s)/\bn (xs,i) (λs=>p9 c2 a s)=some (.go s)/\s.1.Perm xs:=by
 refine xC (λs:List α×Int=>s.1.Perm xs/\a<=s.2/\s.2<xs.length) (λs=>s.1.Perm xs) (λs=>s.2.toNat) (λs hs => ?_) ⟨.refl _,h.2.1,h.2.2.1⟩
 obtain ⟨p1,p2,p3⟩:=hs
 have hl:=p1.length_eq
 have hp1:=uS p1 hp
 by_cases hd:s.2>a
 ·have e1:w64 (s.2-1)=s.2-1:=bG (by omega)
  obtain ⟨x,hx,hx'⟩:=rH (xs:=s.1) (i:=s.2) (by omega)
  obtain ⟨y,hy,hy'⟩:=rH (xs:=s.1) (i:=w64 (s.2-1)) (by omega)
  obtain ⟨z,hz1,hz2⟩:=hc x y (hp1 x hx') (hp1 y hy')
  have i1:inR s.2 s.1=some ():=iU (by omega)
  have i2:inR (w64 (s.2-1)) s.1=some ():=iU (by omega)
  have hb:∀c:α->α->Option Int,c x y=some z->(bif (decide (s.2>a))then (inR s.2 s.1).bind λ_=>(s.1[(0+(s.2).toNat)]?).bind λe_30=>(inR (w64 (s.2-1)) s.1).bind λ_=>(s.1[(0+((w64 (s.2-1))).toNat)]?).bind λe_33=>(c e_30 e_33).bind λr_35=>some (decide (r_35<0))else some false)=some (decide (z<0)):=by
   intro c hcz
   simp only [decide_eq_true hd,cond_true,i1,i2,hx,hy,ob_,hcz]
  by_cases hz:z<0
  ·obtain ⟨ys,q1,q2⟩:=vE s.1 s.2 (w64 (s.2-1)) (by omega) (by omega)
   refine .inl ⟨(ys,w64 (s.2-1)),?_,?_,⟨q1.trans p1,by show a<=w64 (s.2-1);omega,by show w64 (s.2-1)<_;omega⟩,by show (w64 (s.2-1)).toNat<_;omega⟩
   ·show p9 c1 a s=_
    unfold p9;rw [hb c1 hz1,ob_,decide_eq_true hz];exact q2 (β:=Ctl (List α×Int) Unit) (λys=>some (.go (ys,w64 (s.2-1))))
   ·show p9 c2 a s=_
    unfold p9;rw [hb c2 hz2,ob_,decide_eq_true hz];exact q2 (β:=Ctl (List α×Int) Unit) (λys=>some (.go (ys,w64 (s.2-1))))
  ·refine .inr ⟨s,?_,?_,p1⟩
   ·show p9 c1 a s=_
    unfold p9;rw [hb c1 hz1,ob_,decide_eq_false hz];rfl
   ·show p9 c2 a s=_
    unfold p9;rw [hb c2 hz2,ob_,decide_eq_false hz];rfl
 ·refine .inr ⟨s,?_,?_,p1⟩
  ·show p9 c1 a s=_
   unfold p9;rw [decide_eq_false hd];rfl
  ·show p9 c2 a s=_
   unfold p9;rw [decide_eq_false hd];rfl
theorem Dc (hc:∀x y,p x->p y->∃z,c1 x y=some z/\c2 x y=some z) (xs:List α) (hp:∀x∈xs,p x) (a b:Int) (h:0<=a/\a<=1000000/\b<=xs.length/\xs.length<=1000000) :
  ∃r,xy c1 xs a b=some r/\xy c2 xs a b=some r/\r.Perm xs:=by
 have e1:w64 (a+1)=a+1:=bG (by omega)
 obtain ⟨s,h1,h2,h3⟩:=xC (b1:=λs=>sI c1 b a s) (b2:=λs=>sI c2 b a s) (λs:List α×Int=>s.1.Perm xs/\a+1<=s.2) (λs=>s.1.Perm xs) (λs=>(b-s.2).toNat) (λs hs=>by
  obtain ⟨p1,p2⟩:=hs
  have hl:=p1.length_eq
  by_cases hd:s.2<b
  ·have e2:w64 (s.2+1)=s.2+1:=bG (by omega)
   obtain ⟨t,k1,k2,k3⟩:=insL1_2 hc s.1 (uS p1 hp) a s.2 (by omega)
   refine .inl ⟨(t.1,w64 (s.2+1)),?_,?_,⟨k3.trans p1,by show a+1<=w64 (s.2+1);omega⟩,by show (b-w64 (s.2+1)).toNat<_;omega⟩
   ·show sI c1 b a s=_
    unfold sI;rw [decide_eq_true hd];simp only [cond_true,k1,ob_,aY]
   ·show sI c2 b a s=_
    unfold sI;rw [decide_eq_true hd];simp only [cond_true,k2,ob_,aY]
  ·refine .inr ⟨s,?_,?_,p1⟩
   ·show sI c1 b a s=_
    unfold sI;rw [decide_eq_false hd];rfl
   ·show sI c2 b a s=_
    unfold sI;rw [decide_eq_false hd];rfl) (s:=(xs,w64 (a+1))) ⟨.refl _,by show a+1<=w64 (a+1);omega⟩
 refine⟨s.1,?_,?_,h3⟩
 ·unfold xy;rw [h1];rfl
 ·unfold xy;rw [h2];rfl
theorem stb_2 (hc:∀x y,p x->p y->∃z,c1 x y=some z/\c2 x y=some z) {r1 r2:List α->Int->Int->Int->Option (List α)} (hr:zu p r1 r2 24) (xs:List α) (hp:∀x∈xs,p x) (hn:xs.length<=24) :
  ∃r,wL c1 r1 xs (xs.length:Int)=some r/\wL c2 r2 xs (xs.length:Int)=some r/\r.Perm xs:=by
 have w40:w64 (20+20)=40:=rfl
 have w60:w64 (40+20)=60:=rfl
 obtain ⟨s,h1,h2,h3,h4⟩:=xC (b1:=λs=>tX c1 (xs.length:Int) s) (b2:=λs=>tX c2 (xs.length:Int) s) (λs:List α×Int×Int=>s.1.Perm xs/\((s.2.1=0/\s.2.2=20)\/(s.2.1=20/\s.2.2=40))) (λs=>s.1.Perm xs/\0<=s.2.1/\s.2.1<=1000000) (λs=>(100-s.2.1).toNat) (λs hs=>by
  obtain ⟨p1,p2⟩:=hs
  have hl:=p1.length_eq
  by_cases hd:s.2.2<=(xs.length:Int)
  ·obtain ⟨t,k1,k2,k3⟩:=Dc hc s.1 (uS p1 hp) s.2.1 s.2.2 (by omega)
   have hs0:s.2.1=0/\s.2.2=20:=by omega
   have e:w64 (s.2.2+20)=40:=by rw [hs0.2];rfl
   refine .inl ⟨(t,s.2.2,w64 (s.2.2+20)),?_,?_,⟨k3.trans p1,.inr ⟨hs0.2,e⟩⟩,by show (100-s.2.2).toNat<_;omega⟩
   ·show tX c1 _ s=_
    unfold tX;rw [decide_eq_true hd];simp only [cond_true,k1,ob_,jX k3.length_eq]
   ·show tX c2 _ s=_
    unfold tX;rw [decide_eq_true hd];simp only [cond_true,k2,ob_,jX k3.length_eq]
  ·refine .inr ⟨s,?_,?_,p1,by omega,by omega⟩
   ·show tX c1 _ s=_
    unfold tX;rw [decide_eq_false hd];rfl
   ·show tX c2 _ s=_
    unfold tX;rw [decide_eq_false hd];rfl) (s:=(xs,0,20)) ⟨.refl _,.inl ⟨rfl,rfl⟩⟩
 obtain ⟨t,k1,k2,k3⟩:=Dc hc s.1 (uS h3 hp) s.2.1 (xs.length:Int) (by have:=h3.length_eq;omega)
 have pt:t.Perm xs:=k3.trans h3
 obtain ⟨u,g1,g2,g3⟩:=xC (b1:=λs=>tJ r1 (xs.length:Int) s) (b2:=λs=>tJ r2 (xs.length:Int) s) (λs:List α×Int=>s.1.Perm xs/\(s.2=20\/s.2=40)) (λs=>s.1.Perm xs) (λs=>(100-s.2).toNat) (λs hs=>by
  obtain ⟨p1,p2⟩:=hs
  have hl:=p1.length_eq
  by_cases hd:s.2<(xs.length:Int)
  ·have hs0:s.2=20:=by omega
   obtain ⟨y,m1,m2,m3⟩:=hr s.1 0 20 (xs.length:Int) (uS p1 hp) (by omega)
   have q1:∀r:List α->Int->Int->Int->Option (List α),bn (s.1,0,w64 (2*s.2)) (λt=>IR r (xs.length:Int) s t)=some (.go (s.1,0,w64 (2*s.2))):=by
    intro r
    refine j6 (n:=1) ?_
    have:¬w64 (2*s.2)<=(xs.length:Int):=by
     rw [hs0];have:w64 (2*20)=40:=rfl
     omega
    simp only [iZ,IR,decide_eq_false this,cond_false,ob_]
   have e0:w64 (0+s.2)=20:=by rw [hs0];rfl
   have e4:w64 (s.2*2)=40:=by rw [hs0];rfl
   have hd':(20:Int)<(xs.length:Int):=by omega
   refine .inl ⟨(y,40),?_,?_,⟨m3.trans p1,.inr rfl⟩,by show (100-(40:Int)).toNat<_;omega⟩
   ·show tJ r1 _ s=_
    unfold tJ;rw [decide_eq_true hd];simp only [cond_true,q1,ob_,aY,e0,decide_eq_true hd',m1,jX m3.length_eq,e4]
   ·show tJ r2 _ s=_
    unfold tJ;rw [decide_eq_true hd];simp only [cond_true,q1,ob_,aY,e0,decide_eq_true hd',m2,jX m3.length_eq,e4]
  ·refine .inr ⟨s,?_,?_,p1⟩
   ·show tJ r1 _ s=_
    unfold tJ;rw [decide_eq_false hd];rfl
   ·show tJ r2 _ s=_
    unfold tJ;rw [decide_eq_false hd];rfl) (s:=(t,20)) ⟨pt,.inl rfl⟩
 refine⟨u.1,?_,?_,g3⟩
 ·unfold wL;rw [h1];simp only [ob_,aY,k1,jX k3.length_eq,g1]
 ·unfold wL;rw [h2];simp only [ob_,aY,k2,jX k3.length_eq,g2]
theorem stb24 (hc:∀x y,p x->p y->∃z,c1 x y=some z/\c2 x y=some z) (xs:List α) (hp:∀x∈xs,p x) (hn:xs.length<=24) :
  ∃r,wL c1 (Ca c1 (Ca c1 (Ca c1 (Dm c1)))) xs (xs.length:Int)=some r/\wL c2 (Ca c2 (Ca c2 (Ca c2 (Dm c2)))) xs (xs.length:Int)=some r/\r.Perm xs :=
 stb_2 hc (CX hc (CX hc (CX hc (symB_ok hc)))) xs hp hn
end
end Go.Proofs.YtdpginbnipklcaaGreatDoor.Law

