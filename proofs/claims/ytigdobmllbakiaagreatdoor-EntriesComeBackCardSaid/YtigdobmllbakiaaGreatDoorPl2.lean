/-
  THE PLAIN LAW (part 2).
-/
import Derived.Test.YtigdobmllbakiaaGreatDoorPl1
import Derived.Test.YtigdobmllbakiaaGreatDoorEng5
open Go Go.Eng
namespace Go.Proofs.YtigdobmllbakiaaGreatDoor.Law
set_option linter.unusedVariables false
set_option linter.unusedSimpArgs false
structure Ends (l:List ByteArray) (t:ByteArray) (i j:Nat):Prop where
 le:i<=j
 len:j<=l.length
 lo:∀k (h:k<l.length),k<i->lt l[k] t
 hi:∀k (h:k<l.length),j<=k->¬lt l[k] t
namespace I
def lt (a b:Int):Prop:=a<b
theorem Fh (a:Int):¬lt a a:=Int.lt_irrefl a
theorem lt_trans {a b c:Int} (h:lt a b) (k:lt b c):lt a c:=Int.lt_trans h k
def sLt (a b:Int):Bool:=decide (a<b)
theorem Fz (a b:Int):sLt a b=true↔lt a b:=by simp [sLt,lt]
structure Ends (l:List Int) (t:Int) (i j:Nat):Prop where
 le:i<=j
 len:j<=l.length
 lo:∀k (h:k<l.length),k<i->lt l[k] t
 hi:∀k (h:k<l.length),j<=k->¬lt l[k] t
end I
end Go.Proofs.YtigdobmllbakiaaGreatDoor.Law

open Go Go.Eng
namespace Go.Proofs.YtigdobmllbakiaaGreatDoor.Law
set_option linter.unusedVariables false
set_option linter.unusedSimpArgs false
def bitB (a r:Int):Bool:=match DJ .i64 a r with
 | some y=>Cf .i64 y 1==1
 | none=>false
def Mr (a r:Nat):Bool:=match IZ .i64 1 (r:Int),DJ .i64 (a:Int) (r:Int)with
 | some x,some y=>(Cf .i64 (a:Int) x==0) == !(Cf .i64 y 1==1)
 | _,_=>false
theorem NI:∀a:Fin 128,∀r:Fin 7,Mr a.val r.val=true:=by decide +kernel
theorem bits (a r:Int) (ha:0<=a/\a<=127) (hr:0<=r/\r<7):∃x y,IZ .i64 1 r=some x/\DJ .i64 a r=some y/\(Cf .i64 a x==0) = !(Cf .i64 y 1==1)/\bitB a r=(Cf .i64 y 1==1):=by
 have h:=NI ⟨a.toNat,by omega⟩ ⟨r.toNat,by omega⟩
 simp only [Mr,show ((a.toNat:Nat):Int)=a by omega,show ((r.toNat:Nat):Int)=r by omega]at h
 unfold bitB
 cases h1:IZ .i64 1 r with
 | none=>rw [h1]at h;cases h
 | some x =>
  cases h2:DJ .i64 a r with
  | none=>rw [h1,h2]at h;cases h
  | some y =>
   rw [h1,h2]at h
   exact⟨x,y,rfl,rfl,eq_of_beq h,rfl⟩
structure Right (e:Entry):Prop where
 first:0<=e.First/\e.First<=e.Last
 last:e.Last<=4000
 every:1<=e.Every
 days:1<=e.Days/\e.Days<=127
 ex:exF e.Except=0
 from_:0<=e.From/\e.From<=1439
 to_:0<=e.To/\e.To<=1439
theorem outB_in {n lo hi:Int} (h:lo<=n/\n<=hi):qp n lo hi=false:=by
 simp only [qp,Bool.or_eq_false_iff,decide_eq_false_iff_not];omega
end Go.Proofs.YtigdobmllbakiaaGreatDoor.Law

namespace Go.Eng
set_option linter.unusedVariables false
set_option linter.unusedSimpArgs false
section
variable {α:Type} {cmp:α->α->Option Int} {le:α->α->Prop} {p:α->Prop}
end
end Go.Eng

open Go Go.Eng Go.Proofs
namespace Go.Proofs.YtigdobmllbakiaaGreatDoor.Law
set_option linter.unusedVariables false
set_option linter.unusedSimpArgs false
def zJ (last:ByteArray) (x:Entry):Int:=bif Bd x==0 then (bif sLe x.Key last then 7 else 0)else Bd x
def GJ (l:List Entry):Int:=chk (λe:Entry=>e.Key) zJ DZ l
theorem entsK {l:List Entry} (h:∀e∈l,G8 e) (hl:l.length<=100):bA l=some (GJ l):=by
 unfold bA GJ
 rw [decide_eq_false (by omega),cond_false,gz (by omega),BX (key:=λe:Entry=>e.Key) (stp:=zJ) l l 0 rfl (λk x hx => ?_)]
 ·simp only [ob_,zY];rfl
 ·unfold dM zJ
  rw [entK x (h x (List.mem_of_getElem? hx)),ob_]
  cases he:Bd x==0 with
  | false =>
   have:(Bd x != 0)=true:=by simp [bne,he]
   rw [this,cond_true,cond_false]
   unfold CE;rw [he];rfl
  | true =>
   have:(Bd x != 0)=false:=by simp [bne,he]
   have hk:=Ms (eq_of_beq he)
   rw [this,cond_false,cond_true]
   have h2:=Ec (key:=λe:Entry=>e.Key) hx (by omega) hk
   rw [h2,ob_]
   cases sLe x.Key (xx (λe:Entry=>e.Key) l k) <;> rfl
end Go.Proofs.YtigdobmllbakiaaGreatDoor.Law

open Go Go.Eng
namespace Go.Proofs.YtigdobmllbakiaaGreatDoor.Law
set_option linter.unusedVariables false
set_option linter.unusedSimpArgs false
def nums (l:List UInt8):List Int:=l.map λb=>(b.toNat:Int)
theorem Ja (l:List UInt8):Go.strOfNums (nums l)=SB l:=by
 unfold Go.strOfNums nums
 rw [List.map_map]
 have:(l.map ((λn:Int=>UInt8.ofNat n.toNat) ∘ λb:UInt8=>(b.toNat:Int)))=l:=by
  have:((λn:Int=>UInt8.ofNat n.toNat) ∘ λb:UInt8=>(b.toNat:Int))=id:=by
   funext b;simp
  rw [this,List.map_id]
 rw [this]
theorem KS (a z:List UInt8) (h:a.length+z.length<=1000000000):Mc (nums a) (SB z)=some (nums (a++z)):=by
 unfold Mc
 have e:bu (SB z)=nums z:=rfl
 rw [if_pos (by rw [dJ];unfold nums;rw [List.length_map];exact h),e]
 unfold nums
 rw [List.map_append]
theorem Ib (a:List UInt8) (h:a.length<=1000000000):zF (nums a)=some (SB a):=by
 unfold zF
 rw [if_pos ⟨by unfold nums;rw [List.length_map];exact h,by
  unfold nums
  rw [List.all_map,List.all_eq_true]
  intro b _
  have:=b.toNat_lt
  show (decide (0<=(b.toNat:Int))&&decide ((b.toNat:Int)<=255))=true
  rw [decide_eq_true (by omega),decide_eq_true (by omega)];rfl⟩,Ja]
def mr (ps:List (Entry×List UInt8)):List UInt8:=ps.flatMap (λp=>p.2++[10])
theorem vg (p:Entry×List UInt8) (ps:List (Entry×List UInt8)):mr (p::ps)=p.2++[10]++mr ps:=by unfold mr;rw [List.flatMap_cons]
theorem GH:∀(ps:List (Entry×List UInt8)) (k:Nat) (acc:List UInt8),(∀p∈ps,cK p.1=some (SB (p.2++[10])))->acc.length+(mr ps).length<=900000000 ->
  forR (λk x s=>iw k x s) (ps.map (·.1)) k (nums acc)=some (.go (nums (acc++mr ps)))
 | [],k,acc,_,_=>by simp [mr,forR]
 | p::ps,k,acc,h,hl=>by
  rw [vg,List.length_append,List.length_append]at hl
  have hstep:iw k p.1 (nums acc)=some (.go (nums (acc++(p.2++[10])))):=by
   unfold iw
   rw [h p (by simp),ob_,KS _ _ (by rw [List.length_append];omega)];rfl
  rw [List.map_cons,forR,hstep,ob_]
  simp only []
  rw [GH ps (k+1) _ (λq hq=>h q (List.mem_cons_of_mem _ hq)) (by rw [List.length_append,List.length_append];omega),vg]
  simp
theorem JZ (ps:List (Entry×List UInt8)) (h:∀p∈ps,cK p.1=some (SB (p.2++[10]))) (hl:ps.length<=1000) (hc:bA (ps.map (·.1))=some 0) (hs:(mr ps).length<=200000) :
  fF (ps.map (·.1))=some (SB (mr ps),0):=by
 have hg:=GH ps 0 [] h (by simp only [List.length_nil];omega)
 rw [show nums []=[] from rfl,List.nil_append]at hg
 unfold fF
 rw [hc,ob_,bne_self_eq_false,cond_false,gz (by rw [List.length_map];omega),hg,ob_,iH,decide_eq_false (by unfold nums;rw [List.length_map];omega),cond_false,Ib _ (by omega)];rfl
theorem Hg:∀(ls:List (List UInt8)),Lib.join (ls++[[]]) [10]=ls.flatMap (λx=>x++[10])
 | []=>rfl
 | x::r=>by
  rw [List.flatMap_cons,<- Hg r,List.cons_append,Lib.join_cons]
  cases hr:r++[[]]with
  | nil=>simp at hr
  | cons y t=>rw [nK,Lib.join_cons];simp
theorem Dm (r:(List ByteArray)×Bool):∀(xs:List (List UInt8)) (k:Nat) (out:List Entry),(∀x∈xs,x.length<=900)->out.length+xs.length<=100000 ->
  (∃ps:List (Entry×List UInt8),forR (λk x s=>dK r k x s) (xs.map SB) k out=some (.go (out++ps.map (·.1)))/\ps.map (·.2)=xs/\(∀p∈ps,ReadE p.2.length p.1/\cK p.1=some (SB (p.2++[10]))) /\
   (r.2=false->xs ≠ []->(k:Int)+xs.length≠w64 ((r.1.length:Int)-1)+1)) \/
  ∃i,forR (λk x s=>dK r k x s) (xs.map SB) k out=some (.ret ([],i,9))
 | [],k,out,_,_ => .inl ⟨[],by simp [forR],rfl,(λp hp=>by cases hp),λ_ h=>absurd rfl h⟩
 | x::xs,k,out,hx,ho=>by
  simp only [List.length_cons]at ho
  obtain ⟨e,ok,a1,a2⟩:=LB x (by have:=hx x (by simp);omega)
  obtain ⟨v,hv,hv2⟩:∃v,(bif (!ok)then some true else bif (!r.2)then some ((k:Int)==(w64 ((r.1.length:Int)-1)))else some false)=some v/\(v=false->ok=true/\(r.2=false->(k:Int)≠w64 ((r.1.length:Int)-1))):=by
   cases ok with
   | false=>exact⟨true,rfl,(λh=>by cases h)⟩
   | true =>
    cases hr:r.2 with
    | true=>exact⟨false,rfl,λ_=>⟨rfl,(λh=>by cases h)⟩⟩
    | false=>exact⟨_,rfl,λh=>⟨rfl,λ_=>by simpa using h⟩⟩
  have hstep:dK r k (SB x) out=some (bif v then .ret ([],(k:Int),9)else .go (out++[e])):=by
   unfold dK
   rw [a1,ob_]
   simp only []
   rw [hv,ob_]
   cases v with
   | true=>rfl
   | false =>
    simp only [cond_false]
    rw [pY _ _ (by simp only [List.length_cons,List.length_nil];omega)];rfl
  cases v with
  | true =>
   right
   refine⟨(k:Int),?_⟩
   rw [List.map_cons,forR,hstep];rfl
  | false =>
   obtain ⟨h1,h2⟩:=hv2 rfl
   obtain ⟨b1,b2,b3⟩:=a2 h1
   rcases Dm r xs (k+1) (out++[e]) (λq hq=>hx q (List.mem_cons_of_mem _ hq)) (by simp only [List.length_append,List.length_cons,List.length_nil];omega)with⟨ps,c1,c2,c3,c4⟩|⟨i,c1⟩
   ·left
    refine⟨(e,x)::ps,?_,by rw [List.map_cons,c2],λp hp => ?_,λhr _ => ?_⟩
    ·rw [List.map_cons,forR,hstep]
     simp only [cond_false,ob_]
     rw [c1];simp
    ·rcases List.mem_cons.1 hp with rfl|hp
     ·exact⟨b1,b3⟩
     ·exact c3 p hp
    ·cases hxs:xs with
     | nil =>
      have:=h2 hr
      simp only [List.length_cons,List.length_nil]
      omega
     | cons y t =>
      have:=c4 hr (by rw [hxs];simp)
      rw [hxs]at this
      simp only [List.length_cons]at this ⊢
      omega
   ·right
    refine⟨i,?_⟩
    rw [List.map_cons,forR,hstep]
    simp only [cond_false,ob_]
    exact c1
end Go.Proofs.YtigdobmllbakiaaGreatDoor.Law

open Go Go.Eng
namespace Go.Proofs.YtigdobmllbakiaaGreatDoor.Law
set_option linter.unusedVariables false
set_option linter.unusedSimpArgs false
theorem J4 {α σ ρ:Type} {body:Nat->α->σ->Option (Ctl σ ρ)} (I:Nat->σ->Prop) (xs:List α):∀(l:List α) (k:Nat) (s:σ),xs.drop k=l->k<=xs.length->(∀k x s,xs[k]? = some x->I k s->∃s',body k x s=some (.go s')/\I (k+1) s')->I k s->∃s',forR body l k s=some (.go s')/\I xs.length s'
 | [],k,s,hd,hk,h,hi=>by
  have:=List.drop_eq_nil_iff.1 hd
  obtain rfl:k=xs.length:=by omega
  exact⟨s,rfl,hi⟩
 | x::l,k,s,hd,hk,h,hi=>by
  obtain ⟨s1,h1,h2⟩:=h k x s (Dc hd) hi
  obtain ⟨s2,h3,h4⟩:=J4 I xs l (k+1) s1 (aV hd) (by have:=Bq hd;omega) h h2
  exact⟨s2,by rw [forR,h1,ob_];exact h3,h4⟩
theorem Kr {α σ ρ:Type} {body:Nat->α->σ->Option (Ctl σ ρ)} (I:Nat->σ->Prop) {xs:List α} {s:σ} (hl:xs.length<=1000000000000) (h:∀k x s,xs[k]? = some x->I k s->∃s',body k x s=some (.go s')/\I (k+1) s') (h0:I 0 s):∃s',forL xs s body=some (.go s')/\I xs.length s':=by
 rw [gz hl]
 exact J4 I xs xs 0 s rfl (Nat.zero_le _) h h0
end Go.Proofs.YtigdobmllbakiaaGreatDoor.Law

open Go Go.Eng Go.Proofs
namespace Go.Proofs.YtigdobmllbakiaaGreatDoor.Law
set_option linter.unusedVariables false
set_option linter.unusedSimpArgs false
theorem NF {α:Type} {L:Nat->α->(List α×List Int×Int)->Option (Ctl (List α×List Int×Int) Unit)} {n:Int} (hn:1<=n) (hn2:n<=1000)
  (hL:∀k x s,L k x s=(eZ (⟨s.2.1,s.2.2⟩:Stream) n).bind λr=>(bif r.1 then (lN s.1 ([x]:List α)).bind λa=>some a else some s.1).bind λv=>some (.go (v,r.2.L,r.2.f_at)))
  {xs:List α} (hl:xs.length<=10) (s:Stream) {b:Int} (hs:Ok s b) (hb:b<=900000) :
  ∃t s',forL xs (([]:List α),s.L,s.f_at) (λk x s=>L k x s)=some (.go (t,s'.L,s'.f_at))/\Ok s' (b+10)/\t.Sublist xs:=by
 obtain ⟨t,t1,t2,t3⟩:=Kr (body:=λk x s=>L k x s) (xs:=xs) (s:=(([]:List α),s.L,s.f_at)) (λk t=>t.1.Sublist (xs.take k)/\Ok ⟨t.2.1,t.2.2⟩ (b+k)) (by omega) (λk x t hx ⟨i1,i2⟩=>by
  have hk:k<xs.length:=(List.getElem?_eq_some_iff.1 hx).1
  have et:xs.take (k+1)=xs.take k++[x]:=by rw [List.take_add_one,hx];rfl
  have hlen:t.1.length<=10:=Nat.le_trans i1.length_le (by rw [List.length_take];omega)
  obtain ⟨f,s1,c1,c2⟩:=Bl _ n i2 (by omega) hn hn2
  simp only [hL,c1,ob_]
  cases f with
  | true =>
   simp only [cond_true,pY t.1 [x] (by simp;omega),ob_]
   exact⟨_,rfl,by rw [et];exact i1.append (List.Sublist.refl _),c2.mono (by omega)⟩
  | false =>
   simp only [cond_false,ob_]
   exact⟨_,rfl,by rw [et];exact i1.trans (List.sublist_append_left _ _),c2.mono (by omega)⟩) ⟨List.Sublist.refl _,hs.mono (by simp)⟩
 exact⟨t.1,⟨t.2.1,t.2.2⟩,t1,t3.mono (by omega),by simpa using t2⟩
def keL:List ByteArray:=[(⟨#[101,97]⟩:ByteArray),(⟨#[101,98]⟩:ByteArray),(⟨#[101,99]⟩:ByteArray),(⟨#[101,100]⟩:ByteArray)]
def itL:List ByteArray:=[(⟨#[105,97]⟩:ByteArray),(⟨#[105,98]⟩:ByteArray),(⟨#[105,99]⟩:ByteArray)]
def tgL:List ByteArray:=[(⟨#[99,105,116,121]⟩:ByteArray),(⟨#[109,97,108,108]⟩:ByteArray)]
theorem Ke:∀k∈keL,yU k=true/\Nat.ble k.size 1000=true:=by
 intro k hk
 simp only [keL,List.mem_cons,List.not_mem_nil,or_false]at hk
 rcases hk with rfl|rfl|rfl|rfl <;> exact⟨by kernel_rfl,rfl⟩
theorem itL_key:∀k∈itL,yU k=true/\Nat.ble k.size 1000=true:=by
 intro k hk
 simp only [itL,List.mem_cons,List.not_mem_nil,or_false]at hk
 rcases hk with rfl|rfl|rfl <;> exact⟨by kernel_rfl,rfl⟩
theorem NS:keL.Pairwise lt:=by
 have h:∀a b:ByteArray,sLt a b=true->lt a b:=λa b=>(Fz a b).1
 unfold keL
 refine .cons (λx hx => ?_) (.cons (λx hx => ?_) (.cons (λx hx => ?_) (.cons (λx hx=>(by cases hx)) .nil)))
 all_goals
  simp only [List.mem_cons,List.not_mem_nil,or_false]at hx
 ·rcases hx with rfl|rfl|rfl <;> exact h _ _ (by kernel_rfl)
 ·rcases hx with rfl|rfl <;> exact h _ _ (by kernel_rfl)
 ·rcases hx with rfl;exact h _ _ (by kernel_rfl)
theorem ex_0 {t:List Int} (h:t.Sublist [1,2,8]):exF t=0:=by
 cases h with
 | cons _ h=>cases h with
  | cons _ h=>cases h with
   | cons _ h=>cases h;rfl
   | cons_cons _ h=>cases h;rfl
  | cons_cons _ h=>cases h with
   | cons _ h=>cases h;rfl
   | cons_cons _ h=>cases h;rfl
 | cons_cons _ h=>cases h with
  | cons _ h=>cases h with
   | cons _ h=>cases h;rfl
   | cons_cons _ h=>cases h;rfl
  | cons_cons _ h=>cases h with
   | cons _ h=>cases h;rfl
   | cons_cons _ h=>cases h;rfl
theorem tg_0 {t:List ByteArray} (h:t.Sublist tgL):JY t=0:=by
 cases h with
 | cons _ h=>cases h with
  | cons _ h=>cases h;kernel_rfl
  | cons_cons _ h=>cases h;kernel_rfl
 | cons_cons _ h=>cases h with
  | cons _ h=>cases h;kernel_rfl
  | cons_cons _ h=>cases h;kernel_rfl
theorem Me {t:List ByteArray} (h:t.Sublist tgL):t.length<=2/\∀x∈t,yK x:=by
 refine⟨h.length_le,λx hx => ?_⟩
 have:=h.subset hx
 simp only [tgL,List.mem_cons,List.not_mem_nil,or_false]at this
 rcases this with rfl|rfl <;> exact zM rfl
theorem Es:∀(l:List Entry) (last:ByteArray),(∀e∈l,Bd e=0/\lt last e.Key)->l.Pairwise (λa b=>lt a.Key b.Key)->chk (λe:Entry=>e.Key) zJ last l=0
 | [],_,_,_=>rfl
 | x::xs,last,h,hp=>by
  obtain ⟨h1,h2⟩:=h x List.mem_cons_self
  have hs:sLe x.Key last=false:=by
   cases hs:sLe x.Key last with
   | false=>rfl
   | true=>exact absurd h2 ((EM _ _).1 hs)
  have h0:zJ last x=0:=by
   unfold zJ
   rw [h1,hs];rfl
  unfold chk
  rw [h0]
  obtain ⟨p1,p2⟩:=List.pairwise_cons.1 hp
  exact Es xs x.Key (λe he=>⟨(h e (List.mem_cons_of_mem _ he)).1,p1 e he⟩) p2
theorem nil_lt {k:ByteArray} (h:yU k=true):lt DZ k:=by
 rcases Mw DZ k with q|q|q
 ·exact q
 ·exact absurd (by rw [<- q];rfl) (Bn h)
 ·have:=(EM k DZ).2 (λq2=>Fh _ (lt_trans q q2))
  have e:sLe k DZ=decide (k.size=0):=KI k
  rw [e]at this
  exact absurd (of_decide_eq_true this) (Bn h)
theorem xL {l:List Int} {x lo hi:Int} (h:x∈l) (hb:(l.all λy=>decide (lo<=y)&&decide (y<=hi))=true):lo<=x/\x<=hi:=by
 have:=List.all_eq_true.1 hb x h
 simpa using this
theorem xG {n lo hi:Int} (h:lo<=n/\n<=hi):qp n lo hi=false:=outB_in h
structure TinyE (e:Entry):Prop where
 key:e.Key∈keL
 item:e.Item∈itL
 nums:∀n ∈ [e.Version,e.First,e.Last,e.Every,e.Days,e.From,e.To,e.Prio],0<=n/\n<10000
 days:e.Except.Sublist [1,2,8]
 tags:e.Tags.Sublist tgL
theorem M8 (s:Stream) {b:Int} (hs:Ok s b) (hb:b<=800000):∃xs s',eG s=some (xs,s')/\Ok s' (b+200)/\xs.length<=4/\(∀x∈xs,G8 x/\TinyE x)/\GJ xs=0:=by
 unfold eG
 obtain ⟨s',h1,h2,h3,h4⟩:=Kr (body:=λk x s=>dB k x s) (λk s=>Ok ⟨s.2.1,s.2.2⟩ (b+40*k)/\(s.1.map (·.Key)).Sublist (keL.take k)/\∀x∈s.1,(G8 x/\TinyE x)/\Bd x=0)
  (xs:=keL) (s:=(([]:List Entry),s.L,s.f_at)) (by decide) (λk x t hx ⟨i1,i2,i3⟩=>by
   have hk5:k<4:=(List.getElem?_eq_some_iff.1 hx).1
   have hxm:=Ke x (List.mem_of_getElem? hx)
   have et:keL.take (k+1)=keL.take k++[x]:=by rw [List.take_add_one,hx];rfl
   have hlen:t.1.length<=4:=by
    have:=i2.length_le
    rw [List.length_map,List.length_take]at this
    have h4:keL.length=4:=rfl
    omega
   obtain ⟨c,s1,k1,k2⟩:=Bl _ 4 i1 (by omega) (by decide) (by decide)
   simp only [dB,k1,ob_]
   cases c with
   | true=>exact⟨_,rfl,k2.mono (by omega),by rw [et];exact i2.trans (List.sublist_append_left _ _),i3⟩
   | false =>
    obtain ⟨it,s2,a1,ai,a2⟩:=FL s1 [(⟨#[105,97]⟩:ByteArray),(⟨#[105,98]⟩:ByteArray),(⟨#[105,99]⟩:ByteArray)] k2 (by omega) (by simp) (by simp)
    obtain ⟨v,s3,a3,v1,v2,a4⟩:=Nw s2 0 2 a2 (by omega) (by decide) (by decide) (by decide)
    obtain ⟨p1,s4,m1,q1,n1⟩:=ry s3 [0,0,1,3] a4 (by omega) (by simp) (by simp)
    obtain ⟨p2,s5,m2,q2,n2⟩:=ry s4 [1,1,2,3,7] n1 (by omega) (by simp) (by simp)
    obtain ⟨p3,s6,m3,q3,n3⟩:=ry s5 [127,127,31,96,1,2] n2 (by omega) (by simp) (by simp)
    obtain ⟨p4,s7,m4,q4,n4⟩:=ry s6 [0,0,60,600,1380] n3 (by omega) (by simp) (by simp)
    obtain ⟨p5,s8,m5,q5,n5⟩:=ry s7 [0,60,120,600,720,1439] n4 (by omega) (by simp) (by simp)
    obtain ⟨p6,s9,m6,q6,n6⟩:=ry s8 [0,0,1,5] n5 (by omega) (by simp) (by simp)
    obtain ⟨g,s10,m7,n7⟩:=Bl s9 8 n6 (by omega) (by decide) (by decide)
    obtain ⟨p7,s11,m8,q8,n8⟩:=ry s10 [0,1,5,10,30] n7 (by omega) (by simp) (by simp)
    obtain ⟨ex,s12,m9,n9,l9⟩:=NF (L:=fU) (n:=4) (by decide) (by decide) (λ_ _ _=>rfl) (xs:=[1,2,8]) (by simp) s11 n8 (by omega)
    obtain ⟨tg,s13,m10,n10,l10⟩:=NF (L:=fT) (n:=4) (by decide) (by decide) (λ_ _ _=>rfl) (xs:=[(⟨#[99,105,116,121]⟩:ByteArray),(⟨#[109,97,108,108]⟩:ByteArray)]) (by simp) s12 n9 (by omega)
    simp only [cond_false,a1,a3,m1,m2,m3,m4,m5,m6,m7,m8,m9,m10,ob_,iH,pY t.1 _ (show t.1.length+[_].length<=_ by simp;omega)]
    have b1:=xL (lo:=0) (hi:=3) q1 rfl
    have b2:=xL (lo:=1) (hi:=7) q2 rfl
    have b3:=xL (lo:=1) (hi:=127) q3 rfl
    have b4:=xL (lo:=0) (hi:=1380) q4 rfl
    have b5:=xL (lo:=0) (hi:=1439) q5 rfl
    have b6:=xL (lo:=0) (hi:=5) q6 rfl
    have b8:=xL (lo:=0) (hi:=30) q8 rfl
    clear q1 q2 q3 q4 q5 q6 q8
    have hit:=itL_key it ai
    obtain ⟨t1,t2⟩:=Me l10
    have hel:ex.length<=3:=l9.length_le
    have hw:w64 (p1+p7)=p1+p7:=lF (by omega)
    refine⟨_,rfl,n10.mono (by omega),by rw [List.map_append,et];exact i2.append (List.Sublist.refl _),λy hy => ?_⟩
    rcases List.mem_append.1 hy with hy|hy
    ·exact i3 y hy
    ·rw [List.mem_singleton.1 hy]
     refine⟨⟨⟨zM hxm.2,zM hit.2,by show ex.length<=2000;omega,by show tg.length<=2000;omega,t2⟩,⟨List.mem_of_getElem? hx,ai,λn hn => ?_,l9,l10⟩⟩,?_⟩
     ·simp only [List.mem_cons,List.not_mem_nil,or_false,hw]at hn
      rcases hn with rfl|rfl|rfl|rfl|rfl|rfl|rfl|rfl <;> omega
     unfold Bd
     simp only [hxm.1,hit.1,hw,ex_0 l9,tg_0 l10]
     rw [xG (n:=v) (by omega),xG (n:=p1) (by omega),decide_eq_false (by omega),xG (n:=p2) (by omega),xG (n:=p3) (by omega),xG (n:=p4) (by omega),xG (n:=p5) (by omega),xG (n:=p6) (by omega)];rfl) ⟨by simpa using hs,List.Sublist.refl _,by simp⟩
 have h1':forL ([(⟨#[101,97]⟩:ByteArray),(⟨#[101,98]⟩:ByteArray),(⟨#[101,99]⟩:ByteArray),(⟨#[101,100]⟩:ByteArray)]:List ByteArray) (([]:List Entry),s.L,s.f_at) (λk x s=>dB k x s)=some (.go s'):=h1
 rw [h1']
 have h3':(s'.1.map (·.Key)).Sublist keL:=by rw [List.take_length]at h3;exact h3
 refine⟨s'.1,⟨s'.2.1,s'.2.2⟩,rfl,h2.mono (by show b+40*((4:Nat):Int)<=b+200;omega),by have:=h3'.length_le;rw [List.length_map]at this;exact this,λx hx=>(h4 x hx).1,?_⟩
 have hr:=NS.sublist h3'
 rw [List.pairwise_map]at hr
 exact Es s'.1 DZ (λe he=>⟨(h4 e he).2,nil_lt (Ke _ (h3'.subset (List.mem_map.2 ⟨e,he,rfl⟩))).1⟩) hr
end Go.Proofs.YtigdobmllbakiaaGreatDoor.Law

open Go Go.Eng
namespace Go.Proofs.YtigdobmllbakiaaGreatDoor.Law
set_option linter.unusedVariables false
set_option linter.unusedSimpArgs false
theorem G7 {n:Int} {m:Int} (h0:0<=n) (h1:n<1000000000) (hm:9<=m):kK (⟨(Lib.itoa n).toArray⟩:ByteArray) m=some (n,true):=by
 have hi:Lib.itoa n=Lib.decDigits n.toNat:=by unfold Lib.itoa;rw [if_neg (by omega)]
 rw [hi]
 obtain ⟨u,hu⟩:∃u,n.toNat=u:=⟨_,rfl⟩
 have hun:n=(u:Int):=by omega
 rw [hu]
 have hlen:=I4 8 u (by omega)
 generalize hs:(⟨(Lib.decDigits u).toArray⟩:ByteArray)=s
 have hsl:s.data.toList=Lib.decDigits u:=by rw [<- hs]
 have hsz:s.size=(Lib.decDigits u).length:=by rw [<- hs];show (Lib.decDigits u).toArray.size=_;simp
 have hpos:0<s.size:=by rw [hsz];exact List.length_pos_iff.2 (Gn u)
 cases hd:Lib.decDigits u with
 | nil=>exact absurd hd (Gn u)
 | cons b l =>
 have hdig:∀(i:Nat) (c:UInt8),s.data.toList[i]? = some c->pE c=true:=λi c hc=>EN u c (by rw [<- hsl];exact List.mem_of_getElem? hc)
 have hix:∀(i:Nat) (h:i<s.size),∃c,wR s (i:Int)=some c/\pE c=true:=λi h=>by
  have hl:i<s.data.toList.length:=by rw [hsl,<- hsz];exact h
  exact⟨lC s i,sO s i h,hdig i _ (sV h)⟩
 have hba:lC s 0=b:=by
  have h1:=sV hpos
  have h2:s.data.toList[0]? = some b:=by rw [hsl,hd];rfl
  rw [h1,so_]at h2
  exact h2
 have hb0:wR s 0=some b:=by
  have h00:=sO s 0 hpos
  rw [show ((0:Nat):Int)=0 from rfl]at h00
  rw [h00,hba]
 have hbd:=EN u b (by rw [hd];exact List.mem_cons_self)
 unfold pE at hbd
 simp only [Bool.and_eq_true,decide_eq_true_eq]at hbd
 have htrim:strings_TrimPrefix s (⟨#[45]⟩:ByteArray)=some s:=GV hpos (by omega) hba (by intro e;rw [e]at hbd;exact absurd hbd.1 (by decide))
 unfold kK
 rw [htrim,ob_]
 have hne:sEq s (⟨#[]⟩:ByteArray)=false:=by
  cases h:sEq s (⟨#[]⟩:ByteArray)with
  | false=>rfl
  | true =>
   have:=(dU _ _).1 h
   rw [this]at hpos
   exact absurd hpos (by decide)
 rw [hne,cond_false,decide_eq_false (by omega),cond_false,hb0,ob_]
 have hz:(bif ((b.toNat:Int)==48)then some (sNe s (⟨#[48]⟩:ByteArray))else some false)=some false:=by
  by_cases h48:u=0
  ·subst h48
   have e:s=(⟨#[48]⟩:ByteArray):=by rw [<- hs,ddS (by decide)];rfl
   have e2:sNe s (⟨#[48]⟩:ByteArray)=false:=by
    have:sNe s (⟨#[48]⟩:ByteArray) = !sEq s (⟨#[48]⟩:ByteArray):=rfl
    rw [this,(dU _ _).2 e];rfl
   rw [e2]
   cases ((b.toNat:Int)==48) <;> rfl
  ·have:=E9 u h48 b l hd
   rw [show ((b.toNat:Int)==48)=false by rw [beq_eq_false_iff_ne];omega];rfl
 rw [hz,ob_,cond_false]
 have hit:∀(d j:Nat),j+d=s.size->iterN (λt=>dL s t) (d+1) (j:Int)=some (.go (s.size:Int)):=by
  intro d
  induction d with
  | zero =>
   intro j hj
   have hj':j=s.size:=by omega
   subst hj'
   simp only [iterN,dL]
   rw [decide_eq_false (by omega)];rfl
  | succ d ih =>
   intro j hj
   obtain ⟨c,c1,c2⟩:=hix j (by omega)
   unfold pE at c2
   simp only [Bool.and_eq_true,decide_eq_true_eq]at c2
   have hstep:dL s (j:Int)=some (.go ((j+1:Nat):Int)):=by
    unfold dL
    rw [decide_eq_true (by omega),cond_true,c1,ob_,decide_eq_false (by omega),cond_false,ob_,decide_eq_false (by omega),ob_,cond_false,lF (by omega)]
    rfl
   rw [iterN,hstep,ob_]
   exact ih (j+1) (by omega)
 have h0:=tV (hit s.size 0 (by omega))
 rw [show ((0:Nat):Int)=0 from rfl]at h0
 rw [h0,ob_,iH]
 have ha:strconv_Atoi s=some n:=by
  show Dz s=some n
  unfold Dz
  rw [if_pos (by omega),hsl,atoi_dd,hun]
 rw [ha,ob_]
theorem MC {n:Int} (h0:0<=n) (h1:n<1000000000):nU (SB (Lib.itoa n))=some (n,true):=by
 have e:kK (SB (Lib.itoa n)) 9=some (n,true):=G7 h0 h1 (by decide)
 unfold nU
 rw [e];rfl
theorem Dp {c:UInt8}:∀(ws:List (List UInt8)),ws ≠ []->(∀w∈ws,c∉w)->spl c (Lib.join ws [c])=ws
 | [],h,_=>absurd rfl h
 | [w],_,h=>by rw [Lib.join_one];exact MM (h w (by simp))
 | w::v::r,_,h=>by
  have e:Lib.join (w::v::r) [c]=w++c::Lib.join (v::r) [c]:=by
   rw [Lib.join_cons,nK,Lib.join_cons];simp
  rw [e,Fx _ (h w (by simp)),Dp (v::r) (by simp) (λx hx=>h x (List.mem_cons_of_mem _ hx))]
theorem El:∀(xs:List (List UInt8)),(∀x∈xs,(10:UInt8)∉x)->spl 10 (xs.flatMap λx=>x++[10])=xs++[[]]
 | [],_=>rfl
 | x::r,h=>by
  rw [List.flatMap_cons,List.append_assoc,List.cons_append,List.nil_append,Fx _ (h x (by simp)),El r (λy hy=>h y (List.mem_cons_of_mem _ hy))];rfl
theorem K9 {l:List UInt8} (h:l ≠ []):sEq (⟨#[]⟩:ByteArray) (SB l)=false:=by
 cases hq:sEq (⟨#[]⟩:ByteArray) (SB l)with
 | false=>rfl
 | true =>
  have:=congrArg (λs:ByteArray=>s.data.toList) ((dU _ _).1 hq)
  exact absurd this.symm h
theorem Af:∀(ws:List (List UInt8)) (k:Nat),(∀w∈ws,w ≠ [])->forR (λk x s=>bJ (⟨#[]⟩:ByteArray) k x s) (ws.map SB) k ()=some (.go ())
 | [],k,h=>rfl
 | w::ws,k,h=>by
  have hstep:bJ (⟨#[]⟩:ByteArray) k (SB w) ()=some (.go ()):=by
   unfold bJ
   rw [K9 (h w (by simp))];rfl
  rw [List.map_cons,forR,hstep,ob_]
  exact Af ws (k+1) (λy hy=>h y (List.mem_cons_of_mem _ hy))
theorem Ku {ws:List (List UInt8)} (h:∀w∈ws,w ≠ []) (hl:ws.length<=1000000):bK (ws.map SB) (⟨#[]⟩:ByteArray)=some false:=by
 unfold bK dY
 rw [gz (by rw [List.length_map];omega),Af ws 0 h,ob_,iH,ob_];rfl
theorem NG {z:List UInt8} {ws:List (List UInt8)} (hz:z.length<=100000000) (hs:spl 32 z=ws) (hw:∀w∈ws,w ≠ []) (hl:ws.length<=1000000):nL (SB z)=some (ws.map SB,true):=by
 unfold nL
 rw [qy 32 (by rw [dJ];omega),ob_]
 have e:((spl 32 (SB z).data.toList).map λl=>(⟨l.toArray⟩:ByteArray))=ws.map SB:=by
  show ((spl 32 z).map λl=>(⟨l.toArray⟩:ByteArray))=_
  rw [hs]
  first | done | rfl
 rw [e,Ku hw hl];rfl
theorem Ak (ls:List (List UInt8)) (h:∀w∈ls,(44:UInt8)∉w/\w ≠ []/\w.length<=1000) (hd:ls ≠ [[45]]) (hl:ls.length<=1000):cB (SB (gK ls))=some (ls.map SB,true):=by
 unfold cB gK
 by_cases h0:ls=[]
 ·subst h0
  rw [if_pos rfl,show sEq (SB [45]) (⟨#[45]⟩:ByteArray)=true from (dU _ _).2 rfl,cond_true];rfl
 ·have hj:=Dp ls h0 (λw hw=>(h w hw).1)
  have hjl:=zb [44] 1000 ls (λw hw=>(h w hw).2.2)
  rw [if_neg h0]
  have hs:sEq (SB (Lib.join ls [44])) (⟨#[45]⟩:ByteArray)=false:=by
   cases hq:sEq (SB (Lib.join ls [44])) (⟨#[45]⟩:ByteArray)with
   | false=>rfl
   | true =>
    have e:=u7 (m:=[45]) ((dU _ _).1 hq)
    rw [e]at hj
    exact absurd hj.symm hd
  have hlen:(Lib.join ls [44]).length<=1001000:=Nat.le_trans hjl (Nat.le_trans (Nat.mul_le_mul_right _ hl) (by decide))
  rw [hs,cond_false,qy 44 (by rw [dJ];omega),ob_]
  have e:((spl 44 (SB (Lib.join ls [44])).data.toList).map λl=>(⟨l.toArray⟩:ByteArray))=ls.map SB:=by
   show ((spl 44 (Lib.join ls [44])).map λl=>(⟨l.toArray⟩:ByteArray))=_
   rw [hj]
   first | done | rfl
  rw [e,Ku (λw hw=>(h w hw).2.1) (by omega)];rfl
theorem zf:∀(ns:List Int) (k:Nat) (out:List Int),(∀n∈ns,0<=n/\n<10000)->out.length+ns.length<=1000000->forR (λk x s=>dG k x s) ((ns.map Lib.itoa).map SB) k out=some (.go (out++ns))
 | [],k,out,_,_=>by simp [forR]
 | n::ns,k,out,h,ho=>by
  simp only [List.length_cons]at ho
  have hn:=h n (by simp)
  have hstep:dG k (SB (Lib.itoa n)) out=some (.go (out++[n])):=by
   unfold dG
   rw [MC hn.1 (by omega),ob_]
   simp only [Bool.not_true,cond_false]
   rw [pY _ _ (by simp only [List.length_cons,List.length_nil];omega)];rfl
  rw [List.map_cons,List.map_cons,forR,hstep,ob_]
  simp only []
  rw [zf ns (k+1) _ (λm hm=>h m (List.mem_cons_of_mem _ hm)) (by simp only [List.length_append,List.length_cons,List.length_nil];omega)]
  simp
theorem GA (ns:List Int) (h:∀n∈ns,0<=n/\n<10000) (hl:ns.length<=1000):jH ((ns.map Lib.itoa).map SB)=some (ns,true):=by
 unfold jH
 rw [gz (by simp;omega),zf ns 0 [] h (by simp only [List.length_nil];omega)];rfl
def okW (w:List UInt8):Bool := !w.isEmpty && !w.contains 32 && !w.contains 10&&decide (w.length<=10)
theorem qY {w:List UInt8} (h:okW w=true):w ≠ []/\(32:UInt8)∉w/\(10:UInt8)∉w/\w.length<=10:=by
 unfold okW at h
 simp only [Bool.and_eq_true,Bool.not_eq_true',decide_eq_true_eq]at h
 obtain ⟨⟨⟨a,b⟩,c⟩,d⟩:=h
 refine⟨λe=>(by rw [e]at a;cases a),λhm => ?_,λhm => ?_,d⟩
 ·rw [List.contains_iff_mem.2 hm]at b;cases b
 ·rw [List.contains_iff_mem.2 hm]at c;cases c
theorem Ii {n:Int} (h0:0<=n):∀b∈Lib.itoa n,pE b=true:=by
 have hi:Lib.itoa n=Lib.decDigits n.toNat:=by unfold Lib.itoa;rw [if_neg (by omega)]
 rw [hi];exact EN _
theorem Ce {n:Int} (h0:0<=n) {c:UInt8} (hc:pE c=false):c∉Lib.itoa n:=λhm=>by
 rw [Ii h0 c hm]at hc;cases hc
theorem Gz {n:Int} (h0:0<=n):Lib.itoa n ≠ []:=by
 have hi:Lib.itoa n=Lib.decDigits n.toNat:=by unfold Lib.itoa;rw [if_neg (by omega)]
 rw [hi];exact Gn _
theorem Ee {n:Int} (h0:0<=n) (h1:n<10000):(Lib.itoa n).length<=4:=by
 have hi:Lib.itoa n=Lib.decDigits n.toNat:=by unfold Lib.itoa;rw [if_neg (by omega)]
 rw [hi];exact I4 3 _ (by omega)
theorem Mg {n:Int} (h0:0<=n) (h1:n<10000):okW (Lib.itoa n)=true:=by
 have a:=Gz h0
 have b:=Ce h0 (c:=32) (by decide)
 have c:=Ce h0 (c:=10) (by decide)
 have d:=Ee h0 h1
 unfold okW
 simp only [Bool.and_eq_true,Bool.not_eq_true',decide_eq_true_eq]
 refine⟨⟨⟨?_,?_⟩,?_⟩,by omega⟩
 ·cases h:Lib.itoa n with
  | nil=>exact absurd h a
  | cons _ _=>rfl
 ·cases h:(Lib.itoa n).contains 32 with
  | false=>rfl
  | true=>exact absurd (List.contains_iff_mem.1 h) b
 ·cases h:(Lib.itoa n).contains 10 with
  | false=>rfl
  | true=>exact absurd (List.contains_iff_mem.1 h) c
theorem sub3 {α:Type} {t:List α} {a b c:α} (h:t.Sublist [a,b,c]):t=[]\/t=[a]\/t=[b]\/t=[c]\/t=[a,b]\/t=[a,c]\/t=[b,c]\/t=[a,b,c]:=by
 cases h with
 | cons _ h=>cases h with
  | cons _ h=>cases h with
   | cons _ h=>cases h;simp
   | cons_cons _ h=>cases h;simp
  | cons_cons _ h=>cases h with
   | cons _ h=>cases h;simp
   | cons_cons _ h=>cases h;simp
 | cons_cons _ h=>cases h with
  | cons _ h=>cases h with
   | cons _ h=>cases h;simp
   | cons_cons _ h=>cases h;simp
  | cons_cons _ h=>cases h with
   | cons _ h=>cases h;simp
   | cons_cons _ h=>cases h;simp
theorem sub2 {α:Type} {t:List α} {a b:α} (h:t.Sublist [a,b]):t=[]\/t=[a]\/t=[b]\/t=[a,b]:=by
 cases h with
 | cons _ h=>cases h with
  | cons _ h=>cases h;simp
  | cons_cons _ h=>cases h;simp
 | cons_cons _ h=>cases h with
  | cons _ h=>cases h;simp
  | cons_cons _ h=>cases h;simp
theorem Lj {t:List Int} (h:t.Sublist [1,2,8]):okW (gK (t.map Lib.itoa))=true:=by
 have e1:Lib.itoa 1=[49]:=by unfold Lib.itoa;rw [if_neg (by decide)];exact ddS (u:=1) (by decide)
 have e2:Lib.itoa 2=[50]:=by unfold Lib.itoa;rw [if_neg (by decide)];exact ddS (u:=2) (by decide)
 have e8:Lib.itoa 8=[56]:=by unfold Lib.itoa;rw [if_neg (by decide)];exact ddS (u:=8) (by decide)
 rcases sub3 h with rfl|rfl|rfl|rfl|rfl|rfl|rfl|rfl <;> simp only [List.map_cons,List.map_nil,e1,e2,e8] <;> decide
theorem KR {t:List ByteArray} (h:t.Sublist tgL):okW (gK (t.map λx=>x.data.toList))=true:=by
 unfold tgL at h
 rcases sub2 h with rfl|rfl|rfl|rfl <;> decide
theorem LZ (g:Bool):okW (bif g then [103,111,110,101]else [111,110])=true:=by cases g <;> decide
theorem Gt {k:ByteArray} (h:k∈keL):okW k.data.toList=true:=by
 simp only [keL,List.mem_cons,List.not_mem_nil,or_false]at h
 rcases h with rfl|rfl|rfl|rfl <;> decide
theorem Eo {k:ByteArray} (h:k∈itL):okW k.data.toList=true:=by
 simp only [itL,List.mem_cons,List.not_mem_nil,or_false]at h
 rcases h with rfl|rfl|rfl <;> decide
theorem nG {e:Entry} (h:TinyE e):∀w∈bW e,okW w=true:=λw hw=>by
 unfold bW at hw
 rcases List.mem_append.1 hw with hw|hw
 ·rcases List.mem_append.1 hw with hw|hw
  ·simp only [List.mem_cons,List.not_mem_nil,or_false]at hw
   rcases hw with rfl|rfl
   ·exact Gt h.key
   ·exact Eo h.item
  ·obtain ⟨n,hn,rfl⟩:=List.mem_map.1 hw
   have:=h.nums n hn
   exact Mg this.1 this.2
 ·simp only [List.mem_cons,List.not_mem_nil,or_false]at hw
  rcases hw with rfl|rfl|rfl
  ·exact LZ _
  ·exact Lj h.days
  ·exact KR h.tags
def jG (e:Entry):List UInt8:=Lib.join (bW e) [32]
theorem BA (e:Entry):(bW e).length=13:=by simp [bW]
theorem ents_ne (e:Entry):bW e ≠ []:=λh=>by have:=BA e;rw [h]at this;cases this
theorem Em {e:Entry} (h:TinyE e):(jG e).length<=143:=by
 have:=zb [32] 10 (bW e) (λw hw=>(qY (nG h w hw)).2.2.2)
 rw [BA]at this
 exact this
theorem KL {c d:UInt8} (hcd:c≠d):∀(ws:List (List UInt8)),(∀w∈ws,c∉w)->c∉Lib.join ws [d]
 | [],_=>by simp [Lib.join]
 | [w],h=>by rw [Lib.join_one];exact h w (by simp)
 | w::v::r,h=>by
  have e:Lib.join (w::v::r) [d]=w++d::Lib.join (v::r) [d]:=by
   rw [Lib.join_cons,nK,Lib.join_cons];simp
  rw [e]
  intro hm
  rcases List.mem_append.1 hm with hm|hm
  ·exact h w (by simp) hm
  ·rcases List.mem_cons.1 hm with hm|hm
   ·exact hcd hm
   ·exact KL hcd (v::r) (λx hx=>h x (List.mem_cons_of_mem _ hx)) hm
theorem Mq {e:Entry} (h:TinyE e):(10:UInt8)∉jG e:=KL (by decide) _ (λw hw=>(qY (nG h w hw)).2.2.1)
theorem BO {e:Entry} (h:TinyE e):∀n ∈ [e.Version,e.First,e.Last,e.Every,e.Days,e.From,e.To,e.Prio],Med n:=λn hn=>by
 have:=h.nums n hn
 unfold Med;omega
theorem uU {t:List Int} (h:t.Sublist [1,2,8]):∀n∈t,0<=n/\n<10000:=λn hn=>by
 have:=h.subset hn
 simp only [List.mem_cons,List.not_mem_nil,or_false]at this
 omega
theorem Ls {e:Entry} (h:TinyE e):cK e=some (SB (jG e++[10])) :=
 yB e (BO h) (λn hn=>by have:=uU h.days n hn;unfold Med;omega) (by have:=h.days.length_le;simp only [List.length_cons,List.length_nil]at this;omega)
  (λt ht=>by
   have:=h.tags.subset ht
   simp only [tgL,List.mem_cons,List.not_mem_nil,or_false]at this
   rcases this with rfl|rfl <;> decide) (by have:=h.tags.length_le;simp only [tgL,List.length_cons,List.length_nil]at this;omega)
  (λw hw=>by have:=(qY (nG h w hw)).2.2.2;omega)
theorem IB {e:Entry} (h:TinyE e):fu (SB (jG e))=some (e,true):=by
 have hw:=NG (z:=jG e) (by have:=Em h;omega) (Dp (bW e) (ents_ne e) (λw hw=>(qY (nG h w hw)).2.1)) (λw hw=>(qY (nG h w hw)).1) (by rw [BA];omega)
 obtain ⟨k,i,n2,n3,n4,n5,n6,ex,n7,n8,n9,tg,g⟩:=e
 have hn:=GA [n2,n3,n4,n5,n6,n7,n8,n9] h.nums (by simp)
 have hd:=GA ex (uU h.days) (by have:=h.days.length_le;simp only [List.length_cons,List.length_nil]at this;omega)
 have hu:=Ak (ex.map Lib.itoa) (λw hw=>by
  obtain ⟨n,hm,rfl⟩:=List.mem_map.1 hw
  have:=uU h.days n hm
  exact⟨Ce this.1 (by decide),Gz this.1,by have:=Ee this.1 this.2;omega⟩) (λhe=>by
   have hm : [45]∈ex.map Lib.itoa:=by rw [he];simp
   obtain ⟨n,hm,e45⟩:=List.mem_map.1 hm
   have:=Ii (uU h.days n hm).1 45 (by rw [e45];simp)
   exact absurd this (by decide)) (by rw [List.length_map];have:=h.days.length_le;simp only [List.length_cons,List.length_nil]at this;omega)
 have ht:=Ak (tg.map λx=>x.data.toList) (λw hw=>by
  obtain ⟨x,hm,rfl⟩:=List.mem_map.1 hw
  have:=h.tags.subset hm
  simp only [tgL,List.mem_cons,List.not_mem_nil,or_false]at this
  rcases this with rfl|rfl <;> decide) (λhe=>by
   have hm : [45]∈tg.map (λx:ByteArray=>x.data.toList):=by rw [he];simp
   obtain ⟨x,hm,e45⟩:=List.mem_map.1 hm
   have:=h.tags.subset hm
   simp only [tgL,List.mem_cons,List.not_mem_nil,or_false]at this
   rcases this with rfl|rfl <;> exact absurd e45 (by decide)) (by rw [List.length_map];have:=h.tags.length_le;simp only [tgL,List.length_cons,List.length_nil]at this;omega)
 have etg:(tg.map λx:ByteArray=>x.data.toList).map SB=tg:=by
  rw [List.map_map]
  exact (List.map_congr_left (λx _=>rfl)).trans (List.map_id _)
 rw [etg]at ht
 unfold fu
 rw [hw,ob_]
 generalize hW:(bW (⟨k,i,n2,n3,n4,n5,n6,ex,n7,n8,n9,tg,g⟩:Entry)).map SB=W
 have hW2:W=[k,i,SB (Lib.itoa n2),SB (Lib.itoa n3),SB (Lib.itoa n4),SB (Lib.itoa n5),SB (Lib.itoa n6),SB (Lib.itoa n7),SB (Lib.itoa n8),SB (Lib.itoa n9),SB (bif g then [103,111,110,101]else [111,110]),SB (gK (ex.map Lib.itoa)),SB (gK (tg.map λt=>t.data.toList))]:=by
  rw [<- hW];rfl
 subst hW2
 have i0:idx [k,i,SB (Lib.itoa n2),SB (Lib.itoa n3),SB (Lib.itoa n4),SB (Lib.itoa n5),SB (Lib.itoa n6),SB (Lib.itoa n7),SB (Lib.itoa n8),SB (Lib.itoa n9),SB (bif g then [103,111,110,101]else [111,110]),SB (gK (ex.map Lib.itoa)),SB (gK (tg.map λt=>t.data.toList))] 0=some k:=rfl
 have i1:idx [k,i,SB (Lib.itoa n2),SB (Lib.itoa n3),SB (Lib.itoa n4),SB (Lib.itoa n5),SB (Lib.itoa n6),SB (Lib.itoa n7),SB (Lib.itoa n8),SB (Lib.itoa n9),SB (bif g then [103,111,110,101]else [111,110]),SB (gK (ex.map Lib.itoa)),SB (gK (tg.map λt=>t.data.toList))] 1=some i:=rfl
 have i10:idx [k,i,SB (Lib.itoa n2),SB (Lib.itoa n3),SB (Lib.itoa n4),SB (Lib.itoa n5),SB (Lib.itoa n6),SB (Lib.itoa n7),SB (Lib.itoa n8),SB (Lib.itoa n9),SB (bif g then [103,111,110,101]else [111,110]),SB (gK (ex.map Lib.itoa)),SB (gK (tg.map λt=>t.data.toList))] 10=some (SB (bif g then [103,111,110,101]else [111,110])):=rfl
 have i11:idx [k,i,SB (Lib.itoa n2),SB (Lib.itoa n3),SB (Lib.itoa n4),SB (Lib.itoa n5),SB (Lib.itoa n6),SB (Lib.itoa n7),SB (Lib.itoa n8),SB (Lib.itoa n9),SB (bif g then [103,111,110,101]else [111,110]),SB (gK (ex.map Lib.itoa)),SB (gK (tg.map λt=>t.data.toList))] 11=some (SB (gK (ex.map Lib.itoa))):=rfl
 have i12:idx [k,i,SB (Lib.itoa n2),SB (Lib.itoa n3),SB (Lib.itoa n4),SB (Lib.itoa n5),SB (Lib.itoa n6),SB (Lib.itoa n7),SB (Lib.itoa n8),SB (Lib.itoa n9),SB (bif g then [103,111,110,101]else [111,110]),SB (gK (ex.map Lib.itoa)),SB (gK (tg.map λt=>t.data.toList))] 12=some (SB (gK (tg.map λt=>t.data.toList))):=rfl
 have hsub:yG [k,i,SB (Lib.itoa n2),SB (Lib.itoa n3),SB (Lib.itoa n4),SB (Lib.itoa n5),SB (Lib.itoa n6),SB (Lib.itoa n7),SB (Lib.itoa n8),SB (Lib.itoa n9),SB (bif g then [103,111,110,101]else [111,110]),SB (gK (ex.map Lib.itoa)),SB (gK (tg.map λt=>t.data.toList))] 2 10=some (([n2,n3,n4,n5,n6,n7,n8,n9].map Lib.itoa).map SB):=rfl
 have hl13:∀(a b c d e f g' h' i' j' k' l' m':ByteArray),((([a,b,c,d,e,f,g',h',i',j',k',l',m'].length:Nat):Int) != 13)=false:=λ_ _ _ _ _ _ _ _ _ _ _ _ _=>rfl
 have hv:(bif sNe (SB (bif g then [103,111,110,101]else [111,110])) (⟨#[111,110]⟩:ByteArray)then some (sNe (SB (bif g then [103,111,110,101]else [111,110])) (⟨#[103,111,110,101]⟩:ByteArray))else some false)=some false:=by
  have hno:∀a:ByteArray,sNe a a=false:=λa=>by
   have:sNe a a = !sEq a a:=rfl
   rw [this,(dU _ _).2 rfl];rfl
  cases g with
  | true =>
   rw [show sNe (SB (bif true then [103,111,110,101]else [111,110])) (⟨#[103,111,110,101]⟩:ByteArray)=false from hno _]
   cases sNe (SB (bif true then [103,111,110,101]else [111,110])) (⟨#[111,110]⟩:ByteArray) <;> rfl
  | false=>rw [show sNe (SB (bif false then [103,111,110,101]else [111,110])) (⟨#[111,110]⟩:ByteArray)=false from hno _];rfl
 have hgo:sEq (SB (bif g then [103,111,110,101]else [111,110])) (⟨#[103,111,110,101]⟩:ByteArray)=g:=by
  cases g with
  | true=>exact (dU _ _).2 rfl
  | false =>
   cases hq:sEq (SB (bif false then [103,111,110,101]else [111,110])) (⟨#[103,111,110,101]⟩:ByteArray)with
   | false=>rfl
   | true=>exact absurd (u7 (l:=[111,110]) (m:=[103,111,110,101]) ((dU _ _).1 hq)) (by decide)
 have j0:idx [n2,n3,n4,n5,n6,n7,n8,n9] 0=some n2:=rfl
 have j1:idx [n2,n3,n4,n5,n6,n7,n8,n9] 1=some n3:=rfl
 have j2:idx [n2,n3,n4,n5,n6,n7,n8,n9] 2=some n4:=rfl
 have j3:idx [n2,n3,n4,n5,n6,n7,n8,n9] 3=some n5:=rfl
 have j4:idx [n2,n3,n4,n5,n6,n7,n8,n9] 4=some n6:=rfl
 have j5:idx [n2,n3,n4,n5,n6,n7,n8,n9] 5=some n7:=rfl
 have j6:idx [n2,n3,n4,n5,n6,n7,n8,n9] 6=some n8:=rfl
 have j7:idx [n2,n3,n4,n5,n6,n7,n8,n9] 7=some n9:=rfl
 simp only [hl13,i10,cond_false,Bool.not_true,hv,ob_,hsub,hn,i11,hu,hd,i12,ht,i0,i1,j0,j1,j2,j3,j4,j5,j6,j7,hgo]
 first | done | rfl
theorem u6 {r:(List ByteArray)×Bool} (hr:r.2=true):∀(es:List Entry) (k:Nat) (out:List Entry),(∀e∈es,TinyE e)->out.length+es.length<=100000 ->
  forR (λk x s=>dK r k x s) ((es.map jG).map SB) k out=some (.go (out++es))
 | [],k,out,_,_=>by simp [forR]
 | e::es,k,out,h,ho=>by
  simp only [List.length_cons]at ho
  have hstep:dK r k (SB (jG e)) out=some (.go (out++[e])):=by
   unfold dK
   rw [IB (h e (by simp)),ob_]
   simp only [Bool.not_true,cond_false,hr,ob_]
   rw [pY _ _ (by simp only [List.length_cons,List.length_nil];omega)];rfl
  rw [List.map_cons,List.map_cons,forR,hstep,ob_]
  simp only []
  rw [u6 hr es (k+1) _ (λx hx=>h x (List.mem_cons_of_mem _ hx)) (by simp only [List.length_append,List.length_cons,List.length_nil];omega)]
  simp
def lM (es:List Entry):List UInt8:=(es.map jG).flatMap λx=>x++[10]
theorem wJ:∀(es:List Entry),(∀e∈es,TinyE e)->(lM es).length<=es.length*144
 | [],_=>Nat.le_refl _
 | e::es,h=>by
  have h1:=Em (h e (by simp))
  have h2:=wJ es (λx hx=>h x (List.mem_cons_of_mem _ hx))
  unfold lM at h2 ⊢
  rw [List.map_cons,List.flatMap_cons,List.length_append,List.length_append,List.length_cons]
  simp only [List.length_cons,List.length_nil]
  omega
theorem Jz {es:List Entry} (h:∀e∈es,TinyE e) (hl:es.length<=4) (hc:bA es=some 0):ig (SB (lM es))=some (es,0,0):=by
 have hlen:=wJ es h
 have hsz:decide (((SB (lM es)).size:Int)>200000)=false:=by rw [dJ];exact decide_eq_false (by omega)
 have hsp:=qy 10 (s:=SB (lM es)) (by rw [dJ];omega)
 have e:((spl 10 (SB (lM es)).data.toList).map λl=>(⟨l.toArray⟩:ByteArray))=(es.map jG++[[]]).map SB:=by
  show ((spl 10 (lM es)).map λl=>(⟨l.toArray⟩:ByteArray))=_
  unfold lM
  rw [El (es.map jG) (λx hx=>by obtain ⟨y,hy,rfl⟩:=List.mem_map.1 hx;exact Mq (h y hy))]
  first | done | rfl
 rw [e]at hsp
 have hlp:((es.map jG++[[]]).map SB).length=es.length+1:=by simp
 have hw:w64 ((((es.map jG++[[]]).map SB).length:Int)-1)=(es.length:Int):=by rw [hlp,lF (by omega)];omega
 have hix:idx ((es.map jG++[[]]).map SB) (es.length:Int)=some (SB []):=by
  rw [wu,List.getElem?_map,List.getElem?_append_right (by simp)];simp
 have hsub:yG ((es.map jG++[[]]).map SB) 0 (es.length:Int)=some ((es.map jG).map SB):=by
  unfold yG
  rw [if_pos (by rw [hlp];omega),Int.toNat_natCast]
  congr 1
  rw [show Int.toNat 0=0 from rfl,List.drop_zero,<- List.map_take,List.take_append_of_le_length (by simp),List.take_of_length_le (by simp)]
 unfold ig rW
 rw [hsz,cond_false,hsp,ob_,hw,hix,ob_,Jg]
 simp only [List.isEmpty_nil,cond_true]
 rw [hsub]
 simp only [ob_]
 rw [gz (by simp;omega),u6 rfl es 0 [] h (by simp only [List.length_nil];omega),ob_,iH,List.nil_append,hc];rfl
theorem I1 {es:List Entry} (h:∀e∈es,TinyE e) (hl:es.length<=4) (hc:bA es=some 0):fF es=some (SB (lM es),0):=by
 have hlen:=wJ es h
 have e1:(es.map λe=>(e,jG e)).map (·.1)=es:=by rw [List.map_map];exact List.map_id' es
 have e2:mr (es.map λe=>(e,jG e))=lM es:=by unfold mr lM;rw [List.flatMap_map,List.flatMap_map]
 have:=JZ (es.map λe=>(e,jG e)) (λp hp=>by
  obtain ⟨e,he,rfl⟩:=List.mem_map.1 hp
  exact Ls (h e he)) (by rw [List.length_map];omega) (by rw [e1];exact hc) (by rw [e2];omega)
 rw [e1,e2]at this
 exact this
end Go.Proofs.YtigdobmllbakiaaGreatDoor.Law

open Go Go.Eng
namespace Go.Proofs.YtigdobmllbakiaaGreatDoor.Law
set_option linter.unusedVariables false
set_option linter.unusedSimpArgs false
theorem Lc (l:List ByteArray):qh l=gU l:=rfl
theorem CZ (e:Entry) (hm:∀n ∈ [e.Version,e.First,e.Last,e.Every,e.Days,e.From,e.To,e.Prio],Med n) (hx:∀n∈e.Except,Med n) (hxl:e.Except.length<=10000) (ht:∀t∈e.Tags,t.size<=5000) (htl:e.Tags.length<=10000)
  (hw:∀w∈bW e,w.length<=5000):fG e=some (SB (jG e)):=by
 have r2:=yl (body:=λk x s=>kY k x s) (λ_ _ _=>rfl) e.Except 0 [] hx (by simp only [List.length_nil];omega)
 rw [List.nil_append]at r2
 have l1:=wB (e.Except.map Lib.itoa) (by rw [List.length_map];omega) (λw hm=>by
  obtain ⟨n,hn,rfl⟩:=List.mem_map.1 hm
  have:=vF (hx n hn)
  omega)
 have etags:e.Tags=(e.Tags.map λt=>t.data.toList).map SB:=by
  rw [List.map_map]
  exact (List.map_id _).symm.trans (List.map_congr_left (λx _=>rfl))
 have l2:=wB (e.Tags.map λt=>t.data.toList) (by rw [List.length_map];omega) (λw hm=>by
  obtain ⟨t,h1,rfl⟩:=List.mem_map.1 hm
  have:=ht t h1
  rw [Go.Lib.size_eq]at this
  omega)
 rw [<- etags]at l2
 have hgone:(bif e.Gone then some (⟨#[103,111,110,101]⟩:ByteArray)else some (⟨#[111,110]⟩:ByteArray))=some (SB (bif e.Gone then [103,111,110,101]else [111,110])):=by cases e.Gone <;> rfl
 have e3:=Ji [e.Version,e.First,e.Last,e.Every,e.Days,e.From,e.To,e.Prio] hm (by simp)
 have hnl:=zb [32] 21 ([e.Version,e.First,e.Last,e.Every,e.Days,e.From,e.To,e.Prio].map Lib.itoa) (λx hx=>by
  obtain ⟨n,hn,rfl⟩:=List.mem_map.1 hx
  exact vF (hm n hn))
 simp only [List.length_map,List.length_cons,List.length_nil]at hnl
 have e5:=zh [e.Key.data.toList,e.Item.data.toList,Lib.join ([e.Version,e.First,e.Last,e.Every,e.Days,e.From,e.To,e.Prio].map Lib.itoa) [32],(bif e.Gone then [103,111,110,101]else [111,110]),gK (e.Except.map Lib.itoa),gK (e.Tags.map λt=>t.data.toList)] [32] 5000 (λx hx=>by
  simp only [List.mem_cons,List.not_mem_nil,or_false]at hx
  rcases hx with rfl|rfl|rfl|rfl|rfl|rfl
  ·exact hw _ (by simp [bW])
  ·exact hw _ (by simp [bW])
  ·omega
  ·exact hw _ (by simp [bW])
  ·exact hw _ (by simp [bW])
  ·exact hw _ (by simp [bW])) (by simp) (by decide)
 have hline:Lib.join [e.Key.data.toList,e.Item.data.toList,Lib.join ([e.Version,e.First,e.Last,e.Every,e.Days,e.From,e.To,e.Prio].map Lib.itoa) [32],(bif e.Gone then [103,111,110,101]else [111,110]),gK (e.Except.map Lib.itoa),gK (e.Tags.map λt=>t.data.toList)] [32]=jG e:=by
  unfold jG bW
  simp only [List.map_cons,List.map_nil,List.cons_append,List.nil_append,Lib.join_cons,nK,Lx,List.append_assoc,List.append_nil]
 rw [hline]at e5
 unfold fG
 simp only [Lc]
 rw [gz (by omega),r2,ob_,iH,hgone,ob_,e3,ob_,l1,ob_,l2,ob_]
 exact (congrArg (λo=>o.bind λr=>some r) e5).trans rfl
theorem FQ {e:Entry} (h:TinyE e):fG e=some (SB (jG e)) :=
 CZ e (BO h) (λn hn=>by have:=uU h.days n hn;unfold Med;omega) (by have:=h.days.length_le;simp only [List.length_cons,List.length_nil]at this;omega)
  (λt ht=>by
   have:=h.tags.subset ht
   simp only [tgL,List.mem_cons,List.not_mem_nil,or_false]at this
   rcases this with rfl|rfl <;> decide) (by have:=h.tags.length_le;simp only [tgL,List.length_cons,List.length_nil]at this;omega)
  (λw hw=>by have:=(qY (nG h w hw)).2.2.2;omega)
theorem Ct (e:Entry) (es:List Entry):lM (e::es)=jG e++[10]++lM es:=by unfold lM;rw [List.map_cons,List.flatMap_cons]
theorem uX:∀(es:List Entry) (k:Nat) (acc:List UInt8),(∀e∈es,fG e=some (SB (jG e)))->acc.length+(lM es).length<=1000000->forR (λk x s=>gP k x s) es k (SB acc)=some (.go (SB (acc++lM es)))
 | [],k,acc,h,hl=>by
  rw [show lM []=[] from rfl,List.append_nil];rfl
 | e::es,k,acc,h,hl=>by
  rw [Ct,List.length_append,List.length_append]at hl
  simp only [List.length_cons,List.length_nil]at hl
  have hstep:gP k e (SB acc)=some (.go (SB (acc++(jG e++[10])))):=by
   unfold gP
   rw [h e (by simp),ob_,show (⟨#[10]⟩:ByteArray)=SB [10] from rfl,ug (by rw [dJ,dJ];simp only [List.length_cons,List.length_nil];omega),ob_,Iz,
    ug (by rw [dJ,dJ,List.length_append];simp only [List.length_cons,List.length_nil];omega),ob_,Iz]
  rw [forR,hstep,ob_]
  simp only []
  rw [uX es (k+1) _ (λy hy=>h y (List.mem_cons_of_mem _ hy)) (by simp only [List.length_append,List.length_cons,List.length_nil];omega),Ct]
  simp
theorem DX (es:List Entry) (h:∀e∈es,fG e=some (SB (jG e))) (hl:es.length<=1000) (ht:(lM es).length<=1000000):kw es=some (SB (lM es)):=by
 have:=uX es 0 [] h (by simp only [List.length_nil];omega)
 rw [show SB []=(⟨#[]⟩:ByteArray) from rfl,List.nil_append]at this
 unfold kw
 rw [gz (by omega),this];rfl
theorem subS_SB (l:List UInt8) (a b:Nat) (h1:a<=b) (h2:b<=l.length):qw (SB l) (a:Int) (b:Int)=some (SB ((l.take b).drop a)):=by
 unfold qw
 rw [if_pos (by rw [dJ];omega),Int.toNat_natCast,Int.toNat_natCast]
 congr 1
 apply ByteArray.ext
 apply Array.ext'
 rw [ByteArray.data_extract,Array.toList_extract]
 show l.extract a b=(l.take b).drop a
 rw [List.drop_take]
theorem Fg (t:ByteArray) (a b:Nat) (h1:a<=b) (h2:b<=t.size):∃y,qw t (a:Int) (b:Int)=some y/\y.size=b-a:=by
 have hl:t.data.toList.length=t.size:=(Go.Lib.size_eq t).symm
 have:=subS_SB t.data.toList a b h1 (by omega)
 refine⟨_,this,?_⟩
 rw [dJ,List.length_drop,List.length_take];omega
def chE:ByteArray:=⟨#[32,10,48,45,57,44,101,105]⟩
theorem enc_all:∀i:Fin 8,(Utf8.encode (IntKind.i32.wrap ((lC chE i.val).toNat:Int))).size<=4:=by decide +kernel
theorem y5 (x y:ByteArray):(x++y).size=x.size+y.size:=ByteArray.size_append
theorem LC (s:Stream) (t:ByteArray) {b:Int} (hs:Ok s b) (hb:b<=900000) (ht:t.size<=100000):∃r,gL s t chE=some r/\r.1.size<=t.size+8/\Ok r.2 (b+3):=by
 unfold gL
 have hw:sEq chE (⟨#[]⟩:ByteArray)=false:=by
  cases h:sEq chE (⟨#[]⟩:ByteArray)with
  | false=>rfl
  | true =>
   have:=congrArg ByteArray.size ((dU _ _).1 h)
   exact absurd this (by decide)
 rw [hw]
 cases h0:sEq t (⟨#[]⟩:ByteArray)with
 | true=>exact⟨_,rfl,by show chE.size<=_;rw [show chE.size=8 from rfl];omega,hs.mono (by omega)⟩
 | false =>
 have hpos:0<t.size:=by
  rcases Nat.eq_zero_or_pos t.size with h|h
  ·have:t=(⟨#[]⟩:ByteArray):=by
    have hl:t.data.toList=[]:=List.eq_nil_of_length_eq_zero (by rw [<- Go.Lib.size_eq];exact h)
    exact ((show t=SB t.data.toList from rfl)).trans (by rw [hl])
   rw [this,(dU _ _).2 rfl]at h0;cases h0
  ·exact h
 simp only [cond_false,ob_]
 obtain ⟨i,s1,a1,a2,a3,a4⟩:=tC s (t.size:Int) hs (by omega) (by omega) (by omega)
 obtain ⟨j,s2,b1,b2,b3,b4⟩:=tC s1 (chE.size:Int) a4 (by omega) (by decide) (by decide)
 obtain ⟨q,s3,c1,c2,c3,c4⟩:=tC s2 3 b4 (by omega) (by decide) (by decide)
 obtain ⟨i,rfl⟩:∃n:Nat,i=(n:Int):=⟨i.toNat,by omega⟩
 obtain ⟨j,rfl⟩:∃n:Nat,j=(n:Int):=⟨j.toNat,by omega⟩
 have hj:j<8:=by rw [show chE.size=8 from rfl]at b3;omega
 have hx:=sO chE j (by rw [show chE.size=8 from rfl];exact hj)
 have he:=enc_all ⟨j,hj⟩
 obtain ⟨y0,d1,d2⟩:=Fg t 0 i (by omega) (by omega)
 obtain ⟨y1,e1,e2⟩:=Fg t (i+1) t.size (by omega) (Nat.le_refl _)
 obtain ⟨y2,f1,f2⟩:=Fg t i t.size (by omega) (Nat.le_refl _)
 rw [show ((0:Nat):Int)=0 from rfl]at d1
 have hwi:w64 ((i:Int)+1)=((i+1:Nat):Int):=by rw [lF (by omega)];rfl
 simp only [a1,b1,hx,c1,d1,ob_,hwi,e1,f1]
 generalize Utf8.encode (IntKind.i32.wrap ((lC chE j).toNat:Int))=z at he
 have g1:vH y0 z=some (y0++z):=ug (by omega)
 have z1:(y0++z).size=y0.size+z.size:=y5 _ _
 have g2:vH (y0++z) y1=some (y0++z++y1):=ug (by omega)
 have g3:vH (y0++z) y2=some (y0++z++y2):=ug (by omega)
 have g4:vH y0 y1=some (y0++y1):=ug (by omega)
 have z2:(y0++z++y1).size=(y0++z).size+y1.size:=y5 _ _
 have z3:(y0++z++y2).size=(y0++z).size+y2.size:=y5 _ _
 have z4:(y0++y1).size=y0.size+y1.size:=y5 _ _
 have hok:Ok s3 (b+3):=c4.mono (by omega)
 cases hq0:q==0 with
 | true =>
  simp only [cond_true,g1,g2,ob_]
  exact⟨_,rfl,by show (y0++z++y1).size<=_;omega,hok⟩
 | false =>
  simp only [cond_false]
  cases hq1:q==1 with
  | true =>
   simp only [cond_true,g1,g3,ob_]
   exact⟨_,rfl,by show (y0++z++y2).size<=_;omega,hok⟩
  | false =>
   simp only [cond_false,g4,ob_]
   exact⟨_,rfl,by show (y0++y1).size<=_;omega,hok⟩
theorem FP (s old new:List UInt8):(Lib.replace s old new 1).length<=s.length+new.length:=by
 have hk:∀k,k<=1->(Lib.replaceK old new k s).length<=s.length+new.length:=by
  intro k hk
  match k,hk with
  | 0,_=>simp [Lib.replaceK]
  | 1,_ =>
   simp only [Lib.replaceK]
   split
   ·omega
   ·simp only [List.length_append,List.length_drop,List.length_take];omega
 unfold Lib.replace
 split
 ·omega
 ·refine hk _ ?_
  unfold Lib.replaceNum
  split
  ·rename_i h;omega
  ·exact (by decide)
theorem DK (s old new:ByteArray) (ho:1<=old.size) (hs:s.size<=100000) (hn:new.size<=100):∃r,strings_Replace s old new 1=some r/\r.size<=s.size+new.size:=by
 have hc:Lib.countB s old<=s.size+1:=by have:=Lib.count_le s.data.toList old.data.toList;rw [<- Lib.size_eq]at this;exact this
 have hm:Lib.countB s old*new.size<=100001*100:=Nat.mul_le_mul (by omega) hn
 refine⟨SB (Lib.replace s.data.toList old.data.toList new.data.toList 1),?_,?_⟩
 ·show vP s old new 1=some _
  unfold vP
  rw [if_pos ⟨by omega,ho,by omega⟩]
 ·rw [dJ,Lib.size_eq s,Lib.size_eq new]
  exact FP _ _ _
theorem ET (s:Stream) {b:Int} (hs:Ok s b) (hb:b<=600000):∃r,ib s=some r/\r.1.size<=900:=by
 obtain ⟨es,s1,a1,a2,a3,a4,_⟩:=M8 s hs (by omega)
 have hl:=wJ es (λe he=>(a4 e he).2)
 have hln:=DX es (λe he=>FQ (a4 e he).2) (by omega) (by omega)
 obtain ⟨n,s2,c1,c2,c3⟩:=ry s1 [0,0,1,2] a2 (by omega) (by decide) (by decide)
 have hn:0<=n/\n<=2:=by
  simp only [List.mem_cons,List.not_mem_nil,or_false]at c2
  rcases c2 with h|h|h|h <;> omega
 obtain ⟨u,d1,d2,d3⟩:=MO (body:=λk x s=>fI k x s) (λk (s:ByteArray×List Int×Int)=>Ok ⟨s.2.1,s.2.2⟩ (b+301+3*k)/\s.1.size<=576+8*k) (xs:=List.range n.toNat) (s:=(SB (lM es),s2.L,s2.f_at)) (by rw [List.length_range];omega) (λk x t _ hk ⟨i1,i2⟩=>by
  have hk2:k<2:=by rw [List.length_range]at hk;omega
  obtain ⟨v,e1,e2,e3⟩:=LC ⟨t.2.1,t.2.2⟩ t.1 i1 (by omega) (by omega)
  unfold fI
  have e1':gL ⟨t.2.1,t.2.2⟩ t.1 (⟨#[32,10,48,45,57,44,101,105]⟩:ByteArray)=some v:=e1
  rw [e1',ob_]
  refine⟨_,rfl,?_,?_⟩
  ·show Ok ⟨v.2.L,v.2.f_at⟩ _
   exact e3.mono (by omega)
  ·show v.1.size<=_
   omega) ⟨c3.mono (by simp;omega),by show (SB (lM es)).size<=_;rw [dJ];omega⟩
 rw [List.length_range]at d2 d3
 obtain ⟨f,s3,f1,f2⟩:=Bl ⟨u.2.1,u.2.2⟩ 20 d2 (by omega) (by decide) (by decide)
 unfold ib
 simp only [a1,hln,c1,ob_]
 rw [d1,ob_,iH]
 simp only [f1,ob_]
 cases f with
 | false=>exact⟨_,rfl,by show u.1.size<=_;omega⟩
 | true =>
  obtain ⟨o,s4,g1,g2,g3⟩:=FL s3 [(⟨#[32,111,110,32]⟩:ByteArray),(⟨#[32,45,32]⟩:ByteArray),(⟨#[32,49,50,55,32]⟩:ByteArray),(⟨#[44]⟩:ByteArray)] f2 (by omega) (by simp) (by simp)
  obtain ⟨w,s5,g4,g5,g6⟩:=FL s4 [(⟨#[32,111,102,102,32]⟩:ByteArray),(⟨#[32,45,45,32]⟩:ByteArray),(⟨#[32]⟩:ByteArray),(⟨#[44,44]⟩:ByteArray)] g3 (by omega) (by simp) (by simp)
  have ho:1<=o.size:=by
   simp only [List.mem_cons,List.not_mem_nil,or_false]at g2
   rcases g2 with rfl|rfl|rfl|rfl <;> decide
  have hw:w.size<=5:=by
   simp only [List.mem_cons,List.not_mem_nil,or_false]at g5
   rcases g5 with rfl|rfl|rfl|rfl <;> decide
  obtain ⟨r,r1,r2⟩:=DK u.1 o w ho (by omega) (by omega)
  simp only [cond_true,g1,g4,r1,ob_]
  exact⟨_,rfl,by show r.size<=_;omega⟩
end Go.Proofs.YtigdobmllbakiaaGreatDoor.Law

