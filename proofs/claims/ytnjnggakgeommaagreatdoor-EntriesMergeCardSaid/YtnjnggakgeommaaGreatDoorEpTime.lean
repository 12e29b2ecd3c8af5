import Derived.Test.YtnjnggakgeommaaGreatDoorEpBs
/-
  PLAIN LEMMAS: the times of an entry.
-/
open Go Go.Eng
namespace Go.Proofs.YtnjnggakgeommaaGreatDoor.Law
set_option linter.unusedVariables false
set_option linter.unusedSimpArgs false
def collect (p:Int->Bool) (f:Int->Window):Nat->Int->List Window
 | 0,_=>[]
 | n+1,d=>(bif p d then [f d]else [])++collect p f n (d+1)
theorem vw (p:Int->Bool) (f:Int->Window):∀(n:Nat) (d:Int),(collect p f n d).length<=n
 | 0,_=>Nat.le_refl 0
 | n+1,d=>by
  have:=vw p f n (d+1)
  simp only [collect,List.length_append]
  cases p d <;> simp <;> omega
theorem j4 {p:Int->Bool} {f:Int->Window}:∀(n:Nat) (d:Int),(∀x,d<=x->x<d+n->p x=false)->collect p f n d=[]
 | 0,_,_=>rfl
 | n+1,d,h=>by
  simp only [collect,h d (by omega) (by omega),cond_false,List.nil_append]
  exact j4 n (d+1) (λx h1 h2=>h x (by omega) (by omega))
theorem qQ {p p':Int->Bool} {f f':Int->Window}:∀(n:Nat) (d:Int),(∀x,d<=x->x<d+n->p x=p' x/\f x=f' x)->collect p f n d=collect p' f' n d
 | 0,_,_=>rfl
 | n+1,d,h=>by
  obtain ⟨h1,h2⟩:=h d (by omega) (by omega)
  simp only [collect,h1,h2]
  rw [qQ n (d+1) (λx h1 h2=>h x (by omega) (by omega))]
theorem mW (p:Int->Bool) (f:Int->Window):∀(n m:Nat) (d:Int),collect p f (n+m) d=collect p f n d++collect p f m (d+n)
 | 0,m,d=>by simp [collect]
 | n+1,m,d=>by
  rw [show n+1+m=(n+m)+1 by omega]
  simp only [collect,List.append_assoc]
  rw [mW p f n m (d+1),show d+1+(n:Int)=d+((n+1:Nat):Int) by omega]
theorem uX (p:Int->Bool) (f:Int->Window) (g:Window->Window):∀(n:Nat) (d:Int),(collect p f n d).map g=collect p (λx=>g (f x)) n d
 | 0,_=>rfl
 | n+1,d=>by
  simp only [collect,List.map_append,uX p f g n (d+1)]
  cases p d <;> rfl
theorem Bi (p:Int->Bool) (f:Int->Window) (a b lo hi:Int) (h1:a<=lo) (h2:hi<=b) (h:∀x,a<=x->x<=b->p x=true->lo<=x/\x<=hi) :
  collect p f (b+1-a).toNat a=collect p f (hi+1-lo).toNat lo:=by
 by_cases hh:lo<=hi
 ·have e:(b+1-a).toNat=(lo-a).toNat+((hi+1-lo).toNat+(b-hi).toNat):=by omega
  rw [e,mW,mW,show a+((lo-a).toNat:Int)=lo by omega,j4 (lo-a).toNat a (λx x1 x2 => ?_),j4 (b-hi).toNat _ (λx x1 x2 => ?_),List.nil_append,List.append_nil]
  ·cases hp:p x with
   | false=>rfl
   | true=>have:=h x (by omega) (by omega) hp;omega
  ·cases hp:p x with
   | false=>rfl
   | true=>have:=h x (by omega) (by omega) hp;omega
 ·rw [show (hi+1-lo).toNat=0 by omega,j4 (b+1-a).toNat a (λx x1 x2 => ?_)]
  ·rfl
  ·cases hp:p x with
   | false=>rfl
   | true=>have:=h x (by omega) (by omega) hp;omega
theorem yF {ρ:Type} {body:List Window×Int->Option (Ctl (List Window×Int) ρ)} {p:Int->Bool} {f:Int->Window} (lo hi:Int)
  (hb:∀(acc:List Window) d,lo<=d->d<=hi->acc.length<=1000000->body (acc,d)=some (.go (acc++(bif p d then [f d]else []),d+1))) (he:∀acc d,hi<d->body (acc,d)=some (.brk (acc,d))) :
  ∀(n:Nat) (acc:List Window) (d:Int),lo<=d->(hi+1-d).toNat=n->acc.length+n<=1000000->∃d',fM body (n+1) (acc,d)=some (.go (acc++collect p f n d,d'))
 | 0,acc,d,hlo,hn,hl=>by
  rw [fM,he acc d (by omega),ob_]
  exact⟨d,by simp [collect]⟩
 | n+1,acc,d,hlo,hn,hl=>by
  rw [fM,hb acc d hlo (by omega) (by omega),ob_]
  have hle:(bif p d then [f d]else []).length<=1:=by cases p d <;> simp
  obtain ⟨d',h⟩:=yF lo hi hb he n (acc++(bif p d then [f d]else [])) (d+1) (by omega) (by omega) (by rw [List.length_append];omega)
  refine⟨d',?_⟩
  simp only [h,collect,List.append_assoc]
theorem ED {ρ:Type} {body:List Window×Int->Option (Ctl (List Window×Int) ρ)} {p:Int->Bool} {f:Int->Window} (lo hi:Int) (hl:hi-lo<=100000)
  (hb:∀(acc:List Window) d,lo<=d->d<=hi->acc.length<=1000000->body (acc,d)=some (.go (acc++(bif p d then [f d]else []),d+1))) (he:∀acc d,hi<d->body (acc,d)=some (.brk (acc,d))) :
  ∃d',kg ([],lo) body=some (.go (collect p f (hi+1-lo).toNat lo,d')):=by
 obtain ⟨d',h⟩:=yF lo hi hb he (hi+1-lo).toNat [] lo (Int.le_refl _) rfl (by simp;omega)
 exact⟨d',by have:=iY h;simpa using this⟩
def bitB (a r:Int):Bool:=match ul .i64 a r with
 | some y=>wP .i64 y 1==1
 | none=>false
def FT (a r:Nat):Bool:=match Eg .i64 1 (r:Int),ul .i64 (a:Int) (r:Int)with
 | some x,some y=>(wP .i64 (a:Int) x==0) == !(wP .i64 y 1==1)
 | _,_=>false
theorem Gg:∀a:Fin 128,∀r:Fin 7,FT a.val r.val=true:=by decide +kernel
theorem bits (a r:Int) (ha:0<=a/\a<=127) (hr:0<=r/\r<7):∃x y,Eg .i64 1 r=some x/\ul .i64 a r=some y/\(wP .i64 a x==0) = !(wP .i64 y 1==1)/\bitB a r=(wP .i64 y 1==1):=by
 have h:=Gg ⟨a.toNat,by omega⟩ ⟨r.toNat,by omega⟩
 simp only [FT,show ((a.toNat:Nat):Int)=a by omega,show ((r.toNat:Nat):Int)=r by omega]at h
 unfold bitB
 cases h1:Eg .i64 1 r with
 | none=>rw [h1]at h;cases h
 | some x =>
  cases h2:ul .i64 a r with
  | none=>rw [h1,h2]at h;cases h
  | some y =>
   rw [h1,h2]at h
   exact⟨x,y,rfl,rfl,eq_of_beq h,rfl⟩
def F8 (e:Entry) (d:Int):Bool:=((d-e.First).tmod e.Every==0)&&(bitB e.Days (d.tmod 7) && !I.memB d e.Except)
structure Right (e:Entry):Prop where
 first:0<=e.First/\e.First<=e.Last
 last:e.Last<=4000
 every:1<=e.Every
 days:1<=e.Days/\e.Days<=127
 ex:exF e.Except=0
 from_:0<=e.From/\e.From<=1439
 to_:0<=e.To/\e.To<=1439
theorem kH {n lo hi:Int} (h:eQ n lo hi=false):lo<=n/\n<=hi:=by
 simp only [eQ,Bool.or_eq_false_iff,decide_eq_false_iff_not]at h;omega
theorem outB_in {n lo hi:Int} (h:lo<=n/\n<=hi):eQ n lo hi=false:=by
 simp only [eQ,Bool.or_eq_false_iff,decide_eq_false_iff_not];omega
theorem entF_0 {e:Entry} (h:jI e=0):Right e:=by
 unfold jI at h
 cases hk:(!jk e.Key || !jk e.Item)with
 | true=>rw [hk]at h;cases h
 | false =>
 rw [hk,cond_false]at h
 cases hb:(eQ e.Version 0 1000000||(eQ e.First 0 e.Last||(decide (e.Last>4000)||(eQ e.Every 1 400||eQ e.Days 1 127))))with
 | true=>rw [hb]at h;cases h
 | false =>
 rw [hb,cond_false]at h
 simp only [Bool.or_eq_false_iff,decide_eq_false_iff_not]at hb
 cases hx:exF e.Except==0 with
 | false=>rw [hx,cond_false]at h;rw [h]at hx;cases hx
 | true =>
 rw [hx,cond_true]at h
 cases hc:(eQ e.From 0 1439||(eQ e.To 0 1439||eQ e.Prio 0 9))with
 | true=>rw [hc]at h;cases h
 | false =>
 simp only [Bool.or_eq_false_iff]at hc
 exact⟨kH hb.2.1,by omega,(kH hb.2.2.2.1).1,kH hb.2.2.2.2,eq_of_beq hx,kH hc.1,kH hc.2.1⟩
theorem dayK (e:Entry) (h:Right e) (d:Int) (h1:e.First<=d) (h2:d<=e.Last):ja e d=some (F8 e d):=by
 have hl:=h.last
 have hf:=h.first
 have hd:=h.days
 obtain ⟨x,y,b1,b2,b3,b4⟩:=bits e.Days (d.tmod 7) (by omega) ⟨Int.tmod_nonneg _ (by omega),Int.tmod_lt_of_pos _ (by decide)⟩
 obtain ⟨hx1,hx2⟩:=I.exF_0 h.ex
 obtain ⟨i,hi⟩:=I.bs_eq e.Except d hx2 (by omega)
 have he0:e.Every≠0:=by have:=h.every;omega
 unfold ja F8
 simp only [mJ,outB_in ⟨h1,h2⟩,ob_,cond_false,bN (show -9223372036854775808<=d-e.First/\d-e.First<=9223372036854775807 by omega),AB,if_neg he0,b1,b3,b4,hi]
 cases hq:(d-e.First).tmod e.Every==0 with
 | false =>
  have:((d-e.First).tmod e.Every != 0)=true:=by simp [bne,hq]
  simp only [this,cond_true,ob_,Bool.false_and]
 | true =>
  have:((d-e.First).tmod e.Every != 0)=false:=by simp [bne,hq]
  simp only [this,cond_false,ob_,Bool.true_and]
  cases (wP .i64 y 1==1) <;> simp
end Go.Proofs.YtnjnggakgeommaaGreatDoor.Law

