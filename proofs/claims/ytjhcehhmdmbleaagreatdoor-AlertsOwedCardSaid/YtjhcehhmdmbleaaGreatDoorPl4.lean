/-
  THE PLAIN LAW (part 4).
-/
import Derived.Test.YtjhcehhmdmbleaaGreatDoorPl3
import Derived.Test.YtjhcehhmdmbleaaGreatDoorEng5
open Go Go.Eng
namespace Go.Proofs.YtjhcehhmdmbleaaGreatDoor.Law
set_option linter.unusedVariables false
set_option linter.unusedSimpArgs false
theorem yM {x:Alert} (h:∀r∈x.Areas,Fine r) (hl:x.Areas.length<=1000) (p:Post):jo x p=some (hasB x.Areas p.X p.Y):=by
 unfold jo
 rw [MQ (λx0=>lu x0 p) (Kk p.X p.Y) (λr hr=>by
  have hs:=h r hr
  unfold Fine at hs
  unfold lu Kk
  rw [cO (n:=r.X+r.W) (by omega),cO (n:=r.Y+r.H) (by omega)]
  cases decide (r.X<=p.X) <;> cases decide (p.X<r.X+r.W) <;> cases decide (r.Y<=p.Y) <;> rfl) (by omega)]
 rfl
theorem ER {α β:Type} {l:List α} {f:α->β} {k:Nat} {x:α} (hx:l[k]? = some x):idx (l.map f) (k:Int)=some (f x):=by
 rw [pW,List.getElem?_map,hx];rfl
theorem take_len {α:Type} (l:List α) (k:Nat):(l.take k).length<=l.length:=by rw [List.length_take];exact Nat.min_le_right _ _
theorem momF_eq (t:Int):je t=some (bif og t then 0 else 1):=by
 unfold je
 rw [sU]
 cases og t <;> rfl
set_option maxRecDepth 100000
def rD (p:Option Alert) (x:Alert):Int:=bif alF x==0 then (bif sj (λy => !decide (befA y x)) p then 7 else 0)else alF x
def alV (l:List Alert):Int:=bif chA rD none l==0 then (bif yA [] (l.map (·.Id))then 6 else 0)else chA rD none l
theorem D9 {a b:Alert} (ha:GA a) (hb:GA b):∃n,jA a b=some n/\(n<0↔befA a b):=by
 have h1:=ha.at_
 have h2:=hb.at_
 unfold jA befA
 by_cases h:a.At=b.At
 ·have:(a.At != b.At)=false:=by simpa using h
  rw [this,cond_false,nG]
  refine⟨_,rfl,?_⟩
  rw [tX]
  exact⟨λq => .inr ⟨h,q⟩,λq=>by
   rcases q with q|q
   ·omega
   ·exact q.2⟩
 ·have:(a.At != b.At)=true:=by simpa using h
  rw [this,cond_true,cO (n:=a.At-b.At) (by omega)]
  unfold uh
  by_cases hn:a.At-b.At<0
  ·rw [decide_eq_true hn]
   exact⟨-1,rfl,⟨λ_ => .inl (by omega),λ_=>by decide⟩⟩
  ·rw [decide_eq_false hn,decide_eq_true (show a.At-b.At>0 by omega)]
   exact⟨1,rfl,⟨λq=>absurd q (by decide),λq=>by
    rcases q with q|q
    ·omega
    ·exact absurd q.1 h⟩⟩
theorem ge_of {n:Int} {P:Prop} [Decidable P] (h:n<0↔P):decide (n>=0) = !decide P:=by
 by_cases hp:P
 ·rw [decide_eq_true hp,decide_eq_false (by have:=h.2 hp;omega)];rfl
 ·rw [decide_eq_false hp,decide_eq_true (by
   rcases Int.lt_or_le n 0 with q|q
   ·exact absurd (h.1 q) hp
   ·exact q)];rfl
theorem su {α:Type} {l:List α} {k:Nat} {x:α} (h:l[k]? = some x) (hl:l.length<=1000000) (g:α->Option Bool) (f:α->Bool) (hg:∀y∈l,g y=some (f y)):(bif (decide ((k:Int)>0))then (idx l (w64 ((k:Int)-1))).bind g else some false)=some (sj f (jR l k)):=by
 rcases Nat.eq_zero_or_pos k with h0|h0
 ·subst h0
  rw [decide_eq_false (by omega)];rfl
 ·obtain ⟨y,q1,q2⟩:=FV h h0 (by omega)
  rw [decide_eq_true (by omega),cond_true,q1,ob_,hg y (List.mem_of_getElem? q2)]
  unfold jR
  rw [if_neg (by omega),q2];rfl
theorem Lx {l:List Alert} (h:GAs l):∀k x,l[k]? = some x->eQ l k x ()=some (qW (rD (jR l k) x)):=λk x hx=>by
 have hl:=h.2
 unfold eQ rD
 rw [alF_K (h.1 x (List.mem_of_getElem? hx)),su hx (by omega) (λy_20=>(jl y_20 x).bind λr_22=>some (decide (r_22>=0))) (λy => !decide (befA y x)) (λy _=>by
  obtain ⟨n,n1,n2⟩:=Av y x
  rw [n1,ob_,ge_of n2])]
 simp only [ob_]
 by_cases h0:alF x=0
 ·rw [h0]
  cases sj (λy => !decide (befA y x)) (jR l k) <;> rfl
 ·have e1:(alF x==0)=false:=by simpa using h0
  have e2:(alF x != 0)=true:=by simp [bne,e1]
  rw [e1,e2]
  unfold qW
  rw [cond_false,e1];rfl
theorem Nc {l:List Alert} (h:GAs l):∀k x,l[k]? = some x->iK l k x ()=some (qW (rD (jR l k) x)):=λk x hx=>by
 have hl:=h.2
 have hgx:=h.1 x (List.mem_of_getElem? hx)
 unfold iK rD
 rw [alF_R hgx,su hx (by omega) (λy_20=>(jA y_20 x).bind λr_22=>some (decide (r_22>=0))) (λy => !decide (befA y x)) (λy hy=>by
  obtain ⟨n,n1,n2⟩:=D9 (h.1 y hy) hgx
  rw [n1,ob_,ge_of n2])]
 simp only [ob_]
 by_cases h0:alF x=0
 ·rw [h0]
  cases sj (λy => !decide (befA y x)) (jR l k) <;> rfl
 ·have e1:(alF x==0)=false:=by simpa using h0
  have e2:(alF x != 0)=true:=by simp [bne,e1]
  rw [e1,e2]
  unfold qW
  rw [cond_false,e1];rfl
theorem alV_K {l:List Alert} (h:GAs l):gX l=some (alV l):=by
 have hl:=h.2
 unfold gX alV
 rw [decide_eq_false (by omega),cond_false,qU (stp:=rD) (body:=λk x s=>eQ l k x s) (by omega) (Lx h)]
 rcases o9 (chA rD none l)with⟨e1,e2⟩|⟨e1,e2⟩
 ·rw [e2,e1]
  simp only [ob_,thenC]
  rw [fD (by omega)]
  rcases Jz l 0 [] [] zw.nil with⟨d,s',f⟩|⟨d,f⟩
  ·rw [f,d];rfl
  ·rw [f,d];rfl
 ·have:(chA rD none l==0)=false:=by simpa using e1
  rw [e2,this];rfl
theorem alV_R {l:List Alert} (h:GAs l):lh l=some (alV l):=by
 have hl:=h.2
 unfold lh alV
 rw [decide_eq_false (by omega),cond_false,qU (stp:=rD) (body:=λk x s=>iK l k x s) (by omega) (Nc h)]
 rcases o9 (chA rD none l)with⟨e1,e2⟩|⟨e1,e2⟩
 ·rw [e2,e1]
  simp only [ob_,thenC]
  rw [fD (by omega)]
  obtain ⟨s',f,g,_⟩:=Jq l 0 [] [] zw.nil
  rw [f]
  simp only [ob_,thenC]
  cases hd:yA [] (l.map (·.Id))with
  | true =>
   rw [hd,if_pos rfl]at g
   simp only [List.length_nil,Nat.zero_add]at g
   rw [decide_eq_true (by omega)];rfl
  | false =>
   rw [hd,if_neg (by decide)]at g
   simp only [List.length_nil,Nat.zero_add]at g
   rw [decide_eq_false (by omega)];rfl
 ·have:(chA rD none l==0)=false:=by simpa using e1
  rw [e2,this];rfl
theorem JU {x:Alert} (h:GA x) (h0:alF x=0):(0<=x.At/\x.At<=345686399999)/\(x.At+1<=x.Until/\x.Until<=x.At+2592000000)/\∀r∈x.Areas,Fine r:=by
 unfold alF at h0
 cases e1:(!jU x.Id || !jU x.Sender)with
 | true=>rw [e1]at h0;cases h0
 | false =>
 rw [e1,cond_false]at h0
 cases e2:jK x.Kind 1 3 with
 | true=>rw [e2]at h0;cases h0
 | false =>
 rw [e2,cond_false]at h0
 cases e3:rfV x==0 with
 | false=>rw [e3,cond_false]at h0;rw [h0]at e3;exact absurd e3 (by decide)
 | true =>
 rw [e3,cond_true]at h0
 cases e4:fmV x with
 | true=>rw [e4]at h0;cases h0
 | false =>
 rw [e4,cond_false]at h0
 cases e5:agV x with
 | true=>rw [e5]at h0;cases h0
 | false =>
 rw [e5,cond_false]at h0
 cases e6:arV x==0 with
 | false=>rw [e6,cond_false]at h0;rw [h0]at e6;exact absurd e6 (by decide)
 | true =>
 unfold agV at e5
 simp only [Bool.or_eq_false_iff]at e5
 obtain ⟨a1,a2,a3⟩:=e5
 have hm:og x.At=true:=by cases hq:og x.At with | true=>rfl | false=>rw [hq]at a1;cases a1
 unfold og at hm
 have hm2:jK x.At 0 345686399999=false:=by cases hq:jK x.At 0 345686399999 with | false=>rfl | true=>rw [hq]at hm;cases hm
 have b1:=wN hm2
 have b2:=wN a2
 refine⟨b1,b2,λr hr => ?_⟩
 obtain ⟨i,hi⟩:=List.getElem?_of_mem hr
 obtain ⟨q,q1,_⟩:=JO (eq_of_beq e6) i r hi
 unfold nA at q1
 refine J7 ?_
 cases hb:Dt r with
 | false=>rfl
 | true=>rw [hb]at q1;cases q1
theorem alStp_0 {p:Option Alert} {x:Alert} (h:rD p x=0):alF x=0:=by
 unfold rD at h
 cases e:alF x==0 with
 | true=>exact eq_of_beq e
 | false=>rw [e,cond_false]at h;exact h
theorem Mt {l:List Alert} (h:GAs l) (h0:alV l=0):CA l:=by
 have hl:=h.2
 unfold alV at h0
 cases e:chA rD none l==0 with
 | false=>rw [e,cond_false]at h0;rw [h0]at e;exact absurd e (by decide)
 | true =>
 rw [e,cond_true]at h0
 have hd:yA [] (l.map (·.Id))=false:=by
  cases hq:yA [] (l.map (·.Id))with
  | false=>rfl
  | true=>rw [hq]at h0;cases h0
 have one:∀x∈l,alF x=0:=λx hx=>by
  obtain ⟨i,hi⟩:=List.getElem?_of_mem hx
  obtain ⟨q,q1,_⟩:=JO (eq_of_beq e) i x hi
  exact alStp_0 q1
 refine⟨(Eb _ _ hd).1,by omega,λx hx => ?_,λx hx => ?_,λx hx=>(JU (h.1 x hx) (one x hx)).2.2,λx hx => ?_,λx hx => ?_⟩
 ·have:=(h.1 x hx).rlen;omega
 ·have:=(h.1 x hx).alen;omega
 ·have:=(JU (h.1 x hx) (one x hx)).1;omega
 ·have:=(JU (h.1 x hx) (one x hx)).1
  have:=(JU (h.1 x hx) (one x hx)).2.1
  omega
def wU (p:Option Post) (x:Post):Int:=bif !jU x.Player then 5 else bif jK x.X (-100000) 100000||jK x.Y (-100000) 100000 then 1 else bif sj (λy=>sLe x.Player y.Player) p then 7 else 0
def poV (l:List Post):Int:=chA wU none l
theorem MJ {l:List Post} (h:GPs l):∀k x,l[k]? = some x->fw l k x ()=some (qW (wU (jR l k) x)):=λk x hx=>by
 have hl:=h.2
 have hs:=(h.1 x (List.mem_of_getElem? hx)).player
 unfold ShA at hs
 unfold fw wU
 rw [sD _ (by omega),nP,nP,su hx (by omega) (λy=>some (sLe x.Player y.Player)) (λy=>sLe x.Player y.Player) (λy _=>rfl)]
 simp only [ob_]
 cases jU x.Player with
 | false=>rfl
 | true =>
  cases jK x.X (-100000) 100000 <;> cases jK x.Y (-100000) 100000 <;> cases sj (λy=>sLe x.Player y.Player) (jR l k) <;> rfl
theorem poV_K {l:List Post} (h:GPs l):iM l=some (poV l):=by
 have hl:=h.2
 unfold iM poV
 rw [decide_eq_false (by omega),cond_false,qU (stp:=wU) (body:=λk x s=>fw l k x s) (by omega) (MJ h),ob_]
 exact zC _
theorem JI:∀(xs:List Post) (k:Nat) (p:Option Post) (last:ByteArray),(∀x∈xs,GP x)->(last=match p with | some y=>y.Player | none=>⟨#[]⟩)->(chA wU p xs=0/\∃s',forR (λk x s=>ib k x s) xs k last=some (.go s'))\/(chA wU p xs≠0/\forR (λk x s=>ib k x s) xs k last=some (.ret (chA wU p xs)))
 | [],k,p,last,_,_ => .inl ⟨rfl,last,rfl⟩
 | x::xs,k,p,last,hg,hlast=>by
  have hs:=(hg x (by simp)).player
  unfold ShA at hs
  have e:ib k x last=some (bif wU p x==0 then .go x.Player else .ret (wU p x)):=by
   unfold ib wU
   rw [q9 _ (by omega),yL,yL]
   simp only [ob_]
   cases hk:jU x.Player with
   | false=>rfl
   | true =>
    have hp:sLe x.Player last=sj (λy=>sLe x.Player y.Player) p:=by
     rw [hlast]
     cases p with
     | some y=>rfl
     | none =>
      show sLe x.Player ⟨#[]⟩=false
      rw [sLe_nil]
      exact decide_eq_false (keyB_ne hk)
    rw [hp]
    cases jK x.X (-100000) 100000 <;> cases jK x.Y (-100000) 100000 <;> cases sj (λy=>sLe x.Player y.Player) p <;> rfl
  rw [forR,e,ob_,chA]
  cases h0:wU p x==0 with
  | true =>
   rw [cond_true,cond_true]
   exact JI xs (k+1) (some x) x.Player (λy hy=>hg y (by simp [hy])) rfl
  | false =>
   rw [cond_false,cond_false]
   exact .inr ⟨by simpa using h0,rfl⟩
theorem poV_R {l:List Post} (h:GPs l):l9 l=some (poV l):=by
 have hl:=h.2
 unfold l9 poV
 rw [decide_eq_false (by omega),cond_false,fD (by omega)]
 rcases JI l 0 none ⟨#[]⟩ h.1 rfl with⟨h1,s',h2⟩|⟨h1,h2⟩
 ·rw [h2,h1];rfl
 ·rw [h2];rfl
structure GR (x:Receipt):Prop where
 player:ShA x.Player
 alert:ShA x.Alert
 at_ : -1100000000000<=x.At/\x.At<=1100000000000
def GRs (l:List Receipt):Prop:=(∀x∈l,GR x)/\l.length<=18
theorem Lv (p a:ByteArray) (hp:ShA p) (ha:ShA a) (sn:Bool) (k:Nat) (l:List Receipt) (hl:l.length<=100) (hg:∀x∈l,GR x) (s:Stream) {b:Int} (hs:Ok s b) (hb:b<=200000) :
  ∃l' s',iA p a k sn (l,s.L,s.f_at)=some (.go (l',Stream.L s',Stream.f_at s'))/\(∀x∈l',GR x)/\l'.length<=l.length+1/\Ok s' (b+2):=by
 have e0:(⟨s.L,s.f_at⟩:Stream)=s:=rfl
 obtain ⟨f,s1,c1,c2⟩:=pY s 3 hs (by omega) (by decide) (by decide)
 unfold iA
 simp only []
 rw [e0,c1,ob_]
 simp only []
 cases f with
 | false=>exact⟨l,s1,rfl,hg,by omega,c2.mono (by omega)⟩
 | true =>
  obtain ⟨w,s2,d1,d2,d3,d4⟩:=iY s1 0 50 c2 (by omega) (by decide) (by decide) (by decide)
  rw [cond_true,d1,ob_]
  simp only []
  rw [kW _ _ (by simp only [List.length_cons,List.length_nil];omega)]
  refine⟨_,s2,rfl,λx hx => ?_,by simp,d4.mono (by omega)⟩
  rcases List.mem_append.1 hx with hx|hx
  ·exact hg x hx
  ·rw [List.mem_singleton.1 hx]
   exact⟨hp,ha,by simp only [];omega⟩
theorem I5 (p a:ByteArray) (hp:ShA p) (ha:ShA a) (k:Nat) (l:List Receipt) (hl:l.length<=90) (hg:∀x∈l,GR x) (s:Stream) {b:Int} (hs:Ok s b) (hb:b<=190000) :
  ∃l' s',iC p k a (l,s.L,s.f_at)=some (.go (l',Stream.L s',Stream.f_at s'))/\(∀x∈l',GR x)/\l'.length<=l.length+2/\Ok s' (b+4):=by
 obtain ⟨l1,s1,a1,a2,a3,a4⟩:=Lv p a hp ha false 0 l (by omega) hg s hs (by omega)
 obtain ⟨l2,s2,b1,b2,b3,b4⟩:=Lv p a hp ha true (0+1) l1 (by omega) a2 s1 a4 (by omega)
 refine⟨l2,s2,?_,b2,by omega,b4.mono (by omega)⟩
 unfold iC
 rw [fD (by simp)]
 simp only [forR,a1,b1,ob_,thenC]
theorem CK (p:ByteArray) (hp:ShA p) (k:Nat) (l:List Receipt) (hl:l.length<=50) (hg:∀x∈l,GR x) (s:Stream) {b:Int} (hs:Ok s b) (hb:b<=180000) :
  ∃l' s',iB k p (l,s.L,s.f_at)=some (.go (l',Stream.L s',Stream.f_at s'))/\(∀x∈l',GR x)/\l'.length<=l.length+6/\Ok s' (b+12):=by
 obtain ⟨l1,s1,a1,a2,a3,a4⟩:=I5 p ⟨#[97,97]⟩ hp (iy rfl) 0 l (by omega) hg s hs (by omega)
 obtain ⟨l2,s2,b1,b2,b3,b4⟩:=I5 p ⟨#[97,98]⟩ hp (iy rfl) (0+1) l1 (by omega) a2 s1 a4 (by omega)
 obtain ⟨l3,s3,c1,c2,c3,c4⟩:=I5 p ⟨#[97,99]⟩ hp (iy rfl) (0+1+1) l2 (by omega) b2 s2 b4 (by omega)
 refine⟨l3,s3,?_,c2,by omega,c4.mono (by omega)⟩
 unfold iB
 rw [fD (by simp)]
 simp only [forR,a1,b1,c1,ob_,thenC]
theorem zb (s:Stream) {b:Int} (hs:Ok s b) (hb:b<=100000):∃l s',iJ s=some (l,s')/\GRs l/\Ok s' (b+50):=by
 obtain ⟨l1,s1,a1,a2,a3,a4⟩:=CK ⟨#[112,97]⟩ (iy rfl) 0 [] (by simp) (λx hx=>by cases hx) s hs (by omega)
 obtain ⟨l2,s2,b1,b2,b3,b4⟩:=CK ⟨#[112,98]⟩ (iy rfl) (0+1) l1 (by simp at a3;omega) a2 s1 a4 (by omega)
 obtain ⟨l3,s3,c1,c2,c3,c4⟩:=CK ⟨#[112,99]⟩ (iy rfl) (0+1+1) l2 (by simp at a3;omega) b2 s2 b4 (by omega)
 have hl:l3.length<=18:=by simp at a3;omega
 unfold iJ
 rw [fD (by simp)]
 simp only [forR,a1,b1,c1,ob_,thenC]
 have e0:(⟨s3.L,s3.f_at⟩:Stream)=s3:=rfl
 by_cases h0:(l3.length:Int)>0
 ·obtain ⟨f,s4,d1,d2⟩:=pY s3 15 c4 (by omega) (by decide) (by decide)
  rw [decide_eq_true h0,cond_true,e0,d1]
  simp only [ob_]
  cases f with
  | false=>exact⟨l3,s4,rfl,⟨c2,hl⟩,d2.mono (by omega)⟩
  | true =>
   rw [cond_true]
   obtain ⟨i,s5,g1,g2,g3,g4⟩:=pQ s4 (l3.length:Int) d2 (by omega) (by omega) (by omega)
   have e1:(⟨s4.L,s4.f_at⟩:Stream)=s4:=rfl
   rw [e1,g1]
   simp only [ob_]
   rw [x8 (by omega) (by omega)]
   simp only [ob_]
   have hi:0+i.toNat<l3.length:=by omega
   have hx:l3[0+i.toNat]? = some l3[0+i.toNat]:=List.getElem?_eq_getElem hi
   have hgx:=c2 _ (List.getElem_mem hi)
   generalize l3[0+i.toNat]=x at hx hgx
   obtain ⟨u,s6,j1,j2,j3⟩:=p8 s5 [x.Player,(⟨#[]⟩:ByteArray),(⟨#[122,122]⟩:ByteArray)] g4 (by omega) (by simp) (by simp)
   obtain ⟨v,s7,k1,k2,k3⟩:=p8 s6 [x.Alert,(⟨#[65]⟩:ByteArray)] j3 (by omega) (by simp) (by simp)
   obtain ⟨w,s8,m1,m2,m3⟩:=zB s7 0 50 k3 (by omega) (by decide) (by decide) (by decide)
   rw [hx]
   simp only [ob_]
   rw [j1]
   simp only [ob_]
   rw [k1]
   simp only [ob_]
   rw [m1]
   simp only [ob_]
   rw [lS hi]
   simp only [ob_]
   rw [lS (by rw [List.length_set];exact hi)]
   simp only [ob_]
   refine⟨_,_,rfl,?_,m3.mono (by omega)⟩
   rw [List.set_set,List.set_set]
   refine⟨Bt c2 ⟨?_,?_,m2⟩,by rw [List.length_set];exact hl⟩
   ·simp only [List.mem_cons,List.not_mem_nil,or_false]at j2
    rcases j2 with rfl|rfl|rfl
    ·exact hgx.player
    ·exact iy rfl
    ·exact iy rfl
   ·simp only [List.mem_cons,List.not_mem_nil,or_false]at k2
    rcases k2 with rfl|rfl
    ·exact hgx.alert
    ·exact iy rfl
 ·rw [decide_eq_false h0,cond_false,ob_]
  exact⟨l3,s3,rfl,⟨c2,hl⟩,c4.mono (by omega)⟩
def flV (b:Bool):Int:=bif b then 1 else 0
theorem flag_eq (b:Bool):gM b=some (flV b):=by cases b <;> rfl
def cmR (a b:Receipt):Int:=or0 (ko a.Player b.Player) (or0 (ko a.Alert b.Alert) (FK (flV a.Seen) (flV b.Seen)))
theorem yP (a b:Receipt):dY a b=some (cmR a b):=by
 unfold cmR
 simp only [dY,nG,flag_eq,zP,or3_eq,ob_]
def Kz (r:Receipt):List ByteArray:=[r.Player,r.Alert,bif r.Seen then⟨#[49]⟩else⟨#[48]⟩]
theorem xg (r:Receipt):fe r=some (Kz r):=by
 unfold fe Kz
 cases r.Seen <;> rfl
theorem Ep (x y:ByteArray):jD x y=some (ko x y):=by
 have hn:∀z,cmp_isNaN_string z=some false:=λz=>by
  unfold cmp_isNaN_string
  rw [xc,decide_eq_true rfl];rfl
 unfold jD
 rw [hn,hn]
 simp only [ob_,cond_false]
 rcases z8 x y with⟨h,e⟩|⟨h,e⟩|⟨h,e⟩
 ·rw [e,(uR _ _).2 h];rfl
 ·subst h
  have:sLt x x=false:=by rw [<- Bool.not_eq_true,uR];exact fE _
  have h2:sGt x x=false:=by rw [<- Bool.not_eq_true,JR];exact fE _
  rw [e,this,h2];rfl
 ·have:sLt x y=false:=by rw [<- Bool.not_eq_true,uR];exact λk=>fE _ (lt_trans h k)
  rw [e,this,(JR _ _).2 h];rfl
theorem cmpS3 (a b c d e f:ByteArray):bn [a,b,c] [d,e,f]=some (or0 (ko a d) (or0 (ko b e) (ko c f))):=by
 unfold bn
 rw [fD (by simp)]
 have f1:∀(k:Nat) (x y:ByteArray),([d,e,f]:List ByteArray)[k]? = some y->k<3->bT [d,e,f] k x ()=some (bif ko x y != 0 then .ret (ko x y)else .go ()):=by
  intro k x y h hk
  unfold bT
  rw [decide_eq_false (by simp only [List.length_cons,List.length_nil];omega),cond_false,pW,h]
  simp only [ob_]
  rw [Ep,ob_]
  cases ko x y != 0 <;> rfl
 have g1:=f1 0 a d rfl (by decide)
 have g2:=f1 (0+1) b e rfl (by decide)
 have g3:=f1 (0+1+1) c f rfl (by decide)
 simp only [forR,g1,g2,g3,ob_]
 unfold or0
 by_cases h1:ko a d=0
 ·rw [h1]
  by_cases h2:ko b e=0
  ·rw [h2]
   by_cases h3:ko c f=0
   ·rw [h3];rfl
   ·have e1:(ko c f != 0)=true:=by simpa using h3
    rw [e1];rfl
  ·have e1:(ko b e != 0)=true:=by simpa using h2
   have e2:(ko b e==0)=false:=by simpa using h2
   rw [e1,e2];rfl
 ·have e1:(ko a d != 0)=true:=by simpa using h1
  have e2:(ko a d==0)=false:=by simpa using h1
  rw [e1,e2];rfl
theorem flS (a b:Bool):ko (bif a then⟨#[49]⟩else⟨#[48]⟩) (bif b then⟨#[49]⟩else⟨#[48]⟩)=FK (flV a) (flV b):=by
 cases a <;> cases b <;> rfl
theorem Gw (a b:Receipt):bn (Kz a) (Kz b)=some (cmR a b):=by
 unfold Kz cmR
 rw [cmpS3,flS]
def AQ (p:Option Receipt) (x:Receipt):Int:=bif !jU x.Player || !jU x.Alert then 5 else bif !og x.At then 1 else bif sj (λy=>decide (cmR y x>=0)) p then 7 else 0
def rcV (l:List Receipt):Int:=chA AQ none l
theorem LG {l:List Receipt} (h:GRs l):∀k x,l[k]? = some x->fO l k x ()=some (qW (AQ (jR l k) x)):=λk x hx=>by
 have hl:=h.2
 have hg:=h.1 x (List.mem_of_getElem? hx)
 have h1:=hg.player
 have h2:=hg.alert
 unfold ShA at h1 h2
 unfold fO AQ
 rw [sD _ (by omega),sD _ (by omega),sU,su hx (by omega) (λy_28=>(dY y_28 x).bind λr_30=>some (decide (r_30>=0))) (λy=>decide (cmR y x>=0)) (λy _=>by rw [yP];rfl)]
 simp only [ob_]
 cases jU x.Player <;> cases jU x.Alert <;> cases og x.At <;> cases sj (λy=>decide (cmR y x>=0)) (jR l k) <;> rfl
theorem LU {l:List Receipt} (h:GRs l):∀k x,l[k]? = some x->gN l k x ()=some (qW (AQ (jR l k) x)):=λk x hx=>by
 have hl:=h.2
 have hg:=h.1 x (List.mem_of_getElem? hx)
 have h1:=hg.player
 have h2:=hg.alert
 unfold ShA at h1 h2
 have hm:jF x.At=some (og x.At):=by unfold jF og;rw [yL];rfl
 unfold gN AQ
 rw [q9 _ (by omega),q9 _ (by omega),hm,su hx (by omega) (λy_28=>(fe y_28).bind λr_30=>(fe x).bind λr_32=>(bn r_30 r_32).bind λr_34=>some (decide (r_34>=0))) (λy=>decide (cmR y x>=0)) (λy _=>by
  rw [xg,ob_,xg,ob_,Gw];rfl)]
 simp only [ob_]
 cases jU x.Player <;> cases jU x.Alert <;> cases og x.At <;> cases sj (λy=>decide (cmR y x>=0)) (jR l k) <;> rfl
theorem MN {l:List Receipt} (h:GRs l):fZ l=some (rcV l):=by
 have hl:=h.2
 unfold fZ rcV
 rw [decide_eq_false (by omega),cond_false,qU (stp:=AQ) (body:=λk x s=>fO l k x s) (by omega) (LG h),ob_]
 exact zC _
theorem rcV_R {l:List Receipt} (h:GRs l):jd l=some (rcV l):=by
 have hl:=h.2
 unfold jd rcV
 rw [decide_eq_false (by omega),cond_false,qU (stp:=AQ) (body:=λk x s=>gN l k x s) (by omega) (LU h),ob_]
 exact zC _
theorem rcV_0 {l:List Receipt} (h0:rcV l=0):∀x∈l,0<=x.At/\x.At<=345686399999:=λx hx=>by
 obtain ⟨i,hi⟩:=List.getElem?_of_mem hx
 obtain ⟨q,q1,_⟩:=JO h0 i x hi
 unfold AQ at q1
 cases e1:(!jU x.Player || !jU x.Alert)with
 | true=>rw [e1]at q1;cases q1
 | false =>
  rw [e1,cond_false]at q1
  cases e2:og x.At with
  | false=>rw [e2]at q1;cases q1
  | true =>
   unfold og at e2
   have hm2:jK x.At 0 345686399999=false:=by cases hq:jK x.At 0 345686399999 with | false=>rfl | true=>rw [hq]at e2;cases e2
   exact wN hm2
theorem CV {α:Type} {F1 F2:α->α->Option Int} (c1 c2:α->α->Int) {xs:List α} (h1:∀a∈xs,∀b∈xs,F1 a b=some (c1 a b)) (h2:∀a∈xs,∀b∈xs,F2 a b=some (c2 a b)) (hs:∀a b,c1 a b<0↔c2 a b<0):Go.Eng.rY F1 xs=Go.Eng.rY F2 xs:=by
 cases xs with
 | nil=>rfl
 | cons x l =>
  have hm:∀i:Fin (l.length+1),(x::l).get i∈x::l:=λi=>List.get_mem (x::l) i
  have e1:∀i j,lT F1 x l i j=c1 ((x::l).get i) ((x::l).get j):=λi j=>by unfold lT;rw [h1 _ (hm i) _ (hm j)];rfl
  have e2:∀i j,lT F2 x l i j=c2 ((x::l).get i) ((x::l).get j):=λi j=>by unfold lT;rw [h2 _ (hm i) _ (hm j)];rfl
  have el:ltOf (lT F1 x l)=ltOf (lT F2 x l):=by
   funext i j
   unfold ltOf
   rw [e1,e2,decide_eq_decide]
   exact hs _ _
  have s1:∀i j:Fin (l.length+1),(F1 ((x::l).get i) ((x::l).get j)).isSome=true:=λi j=>by rw [h1 _ (hm i) _ (hm j)];rfl
  have s2:∀i j:Fin (l.length+1),(F2 ((x::l).get i) ((x::l).get j)).isSome=true:=λi j=>by rw [h2 _ (hm i) _ (hm j)];rfl
  by_cases hc:l.length+1<4611686018427387904/\Go.Sort.SWO (ltOf (lT F2 x l))
  ·have a1:Go.Eng.rY F1 (x::l)=some ((ut (ltOf (lT F1 x l))).map (x::l).get):=if_pos ⟨hc.1,s1,by rw [el];exact hc.2⟩
   have a2:Go.Eng.rY F2 (x::l)=some ((ut (ltOf (lT F2 x l))).map (x::l).get):=if_pos ⟨hc.1,s2,hc.2⟩
   rw [a1,a2,el]
  ·have a1:Go.Eng.rY F1 (x::l)=none:=if_neg (λk=>hc ⟨k.1,by rw [<- el];exact k.2.2⟩)
   have a2:Go.Eng.rY F2 (x::l)=none:=if_neg (λk=>hc ⟨k.1,k.2.2⟩)
   rw [a1,a2]
def cmK (a b:Receipt):Int:=or0 (cmR a b) (FK a.At b.At)
theorem LJ (a b:Receipt):jm a b=some (cmK a b):=by
 unfold jm cmK
 rw [yP,ob_,zP,ob_,Fj];rfl
theorem E9 {a b:Receipt}:cmR a b<0↔lt a.Player b.Player\/a.Player=b.Player/\(lt a.Alert b.Alert\/a.Alert=b.Alert/\flV a.Seen<flV b.Seen):=by
 unfold cmR
 rw [yH,yH,tX,rq,tX,rq,BK]
theorem CR {a b:Receipt}:cmR a b=0↔a.Player=b.Player/\a.Alert=b.Alert/\flV a.Seen=flV b.Seen:=by
 unfold cmR
 rw [sG,sG,rq,rq,Ak]
theorem Bj {a b:Receipt}:cmK a b<0↔cmR a b<0\/cmR a b=0/\a.At<b.At:=by
 unfold cmK
 rw [yH,BK]
def cmS (a b:Receipt):Int:=bif cmR a b != 0 then cmR a b else (bif decide (a.At-b.At<0)then -1 else bif decide (a.At-b.At>0)then 1 else 0)
theorem cmS_neg {a b:Receipt}:cmS a b<0↔cmK a b<0:=by
 rw [Bj]
 unfold cmS
 by_cases h:cmR a b=0
 ·have:(cmR a b != 0)=false:=by rw [h];rfl
  rw [this,cond_false]
  by_cases h1:a.At-b.At<0
  ·rw [decide_eq_true h1,cond_true]
   exact⟨λ_ => .inr ⟨h,by omega⟩,λ_=>by decide⟩
  ·rw [decide_eq_false h1,cond_false]
   constructor
   ·intro q
    by_cases h2:a.At-b.At>0
    ·rw [decide_eq_true h2]at q;exact absurd q (by decide)
    ·rw [decide_eq_false h2]at q;exact absurd q (by decide)
   ·rintro (q|⟨_,q⟩)
    ·omega
    ·omega
 ·have:(cmR a b != 0)=true:=by simpa using h
  rw [this,cond_true]
  exact⟨.inl,λq=>q.resolve_right (λk=>h k.1)⟩
theorem kn2_eq {a b:Receipt} (ha:GR a) (hb:GR b):iQ a b=some (cmS a b):=by
 have h1:=ha.at_
 have h2:=hb.at_
 unfold iQ cmS
 rw [xg,ob_,xg,ob_,Gw,ob_,cO (n:=a.At-b.At) (by omega)]
 cases cmR a b != 0 with
 | true=>rfl
 | false =>
  simp only [cond_false]
  unfold uh
  cases decide (a.At-b.At<0) <;> cases decide (a.At-b.At>0) <;> rfl
theorem eqS3 (a b c d e f:ByteArray):cz [a,b,c] [d,e,f]=some (!sNe a d&&(!sNe b e && !sNe c f)):=by
 unfold cz
 have:(((3:Nat):Int) != ((3:Nat):Int))=false:=rfl
 show (bif (((3:Nat):Int) != ((3:Nat):Int))then _ else _)=_
 rw [this,cond_false,fD (by simp)]
 have f1:∀(k:Nat) (x y:ByteArray),([d,e,f]:List ByteArray)[k]? = some y->bQ [d,e,f] k x ()=some (bif sNe x y then .ret false else .go ()):=by
  intro k x y h
  unfold bQ
  rw [pW,h]
  simp only [ob_]
  cases sNe x y <;> rfl
 have g1:=f1 0 a d rfl
 have g2:=f1 (0+1) b e rfl
 have g3:=f1 (0+1+1) c f rfl
 simp only [forR,g1,g2,g3,ob_]
 cases sNe a d <;> cases sNe b e <;> cases sNe c f <;> rfl
theorem same_eq (a b:Receipt):iV a b=iO a b:=by
 unfold iV iO
 rw [yP,xg,ob_,ob_,xg,ob_]
 unfold Kz
 rw [eqS3,ob_,xc,xc,xc]
 congr 1
 have hf:((bif a.Seen then (⟨#[49]⟩:ByteArray)else⟨#[48]⟩)=(bif b.Seen then (⟨#[49]⟩:ByteArray)else⟨#[48]⟩))↔flV a.Seen=flV b.Seen:=by
  rw [<- rq,flS,Ak]
 rw [Bool.eq_iff_iff]
 simp only [Bool.not_not,Bool.and_eq_true,decide_eq_true_eq,beq_iff_eq]
 rw [hf,CR]
theorem JJ (a b:Receipt):iV a b=some (decide (cmR a b=0)):=by
 unfold iV
 rw [yP];rfl
theorem comp_eq:bL=aX:=by
 funext s
 have h:iO=iV:=by funext a b;exact (same_eq a b).symm
 have h1:bC=aM:=by
  funext a b c
  unfold bC aM
  rw [h]
 have h2:bD=aK:=by
  funext a b
  unfold bD aK
  rw [h,h1]
 unfold bL aX
 rw [h2]
theorem sortK (s:List Receipt) (hl:s.length<=1000):∃r,eY s=some r/\r.Perm s:=by
 unfold eY
 obtain ⟨r,r1,r2,_⟩:=Cm (F:=λa b=>jm a b) cmK (xs:=s) (by omega) (λa _ b _=>LJ a b)
  (λa _ h=>by
   rw [Bj,E9]at h
   rcases h with (h|⟨_,h|⟨_,h⟩⟩) | ⟨_,h⟩
   ·exact fE _ h
   ·exact fE _ h
   ·omega
   ·omega)
  (λa _ b _ c _ h k=>by
   rw [Bj,E9,CR]at *
   rcases h with (h|⟨h1,h|⟨h2,h⟩⟩) | ⟨⟨h1,h2,h3⟩,h⟩ <;> rcases k with (k|⟨k1,k|⟨k2,k⟩⟩) | ⟨⟨k1,k2,k3⟩,k⟩
   ·exact .inl (.inl (lt_trans h k))
   ·exact .inl (.inl (k1 ▸ h))
   ·exact .inl (.inl (k1 ▸ h))
   ·exact .inl (.inl (k1 ▸ h))
   ·exact .inl (.inl (h1 ▸ k))
   ·exact .inl (.inr ⟨h1.trans k1,.inl (lt_trans h k)⟩)
   ·exact .inl (.inr ⟨h1.trans k1,.inl (k2 ▸ h)⟩)
   ·exact .inl (.inr ⟨h1.trans k1,.inl (k2 ▸ h)⟩)
   ·exact .inl (.inl (h1 ▸ k))
   ·exact .inl (.inr ⟨h1.trans k1,.inl (h2 ▸ k)⟩)
   ·exact .inl (.inr ⟨h1.trans k1,.inr ⟨h2.trans k2,by omega⟩⟩)
   ·exact .inl (.inr ⟨h1.trans k1,.inr ⟨h2.trans k2,by omega⟩⟩)
   ·exact .inl (.inl (h1 ▸ k))
   ·exact .inl (.inr ⟨h1.trans k1,.inl (h2 ▸ k)⟩)
   ·exact .inl (.inr ⟨h1.trans k1,.inr ⟨h2.trans k2,by omega⟩⟩)
   ·exact .inr ⟨⟨h1.trans k1,h2.trans k2,h3.trans k3⟩,by omega⟩)
  (λa _ b _ c _ h k q=>by
   rw [Bj,E9,CR]at *
   have tr:∀x y:Receipt,(¬((lt x.Player y.Player\/x.Player=y.Player/\(lt x.Alert y.Alert\/x.Alert=y.Alert/\flV x.Seen<flV y.Seen))\/(x.Player=y.Player/\x.Alert=y.Alert/\flV x.Seen=flV y.Seen)/\x.At<y.At))->lt y.Player x.Player\/x.Player=y.Player/\(lt y.Alert x.Alert\/x.Alert=y.Alert/\(flV y.Seen<flV x.Seen\/flV x.Seen=flV y.Seen/\y.At<=x.At)):=by
    intro x y hn
    rcases uV x.Player y.Player with e|e|e
    ·exact absurd (.inl (.inl e)) hn
    ·rcases uV x.Alert y.Alert with f|f|f
     ·exact absurd (.inl (.inr ⟨e,.inl f⟩)) hn
     ·refine .inr ⟨e,.inr ⟨f,?_⟩⟩
      rcases Int.lt_trichotomy (flV x.Seen) (flV y.Seen)with g|g|g
      ·exact absurd (.inl (.inr ⟨e,.inr ⟨f,g⟩⟩)) hn
      ·refine .inr ⟨g,?_⟩
       by_cases hh:x.At<y.At
       ·exact absurd (.inr ⟨⟨e,f,g⟩,hh⟩) hn
       ·omega
      ·exact .inl g
     ·exact .inr ⟨e,.inl f⟩
    ·exact .inl e
   have h':=tr a b h
   have k':=tr b c k
   have key:a.Player=c.Player->(lt b.Alert a.Alert\/a.Alert=b.Alert/\(flV b.Seen<flV a.Seen\/flV a.Seen=flV b.Seen/\b.At<=a.At))/\(lt c.Alert b.Alert\/b.Alert=c.Alert/\(flV c.Seen<flV b.Seen\/flV b.Seen=flV c.Seen/\c.At<=b.At)):=by
    intro q1
    rcases h' with h'|⟨h',h2⟩
    ·rcases k' with k'|⟨k',_⟩
     ·exact absurd (lt_trans k' h') (by rw [q1];exact fE _)
     ·rw [q1,<- k']at h';exact absurd h' (fE _)
    ·rcases k' with k'|⟨_,k2⟩
     ·rw [<- h',q1]at k';exact absurd k' (fE _)
     ·exact⟨h2,k2⟩
   rcases q with (q|⟨q1,q|⟨q2,q⟩⟩) | ⟨⟨q1,q2,q3⟩,q⟩
   ·rcases h' with h'|⟨h',_⟩ <;> rcases k' with k'|⟨k',_⟩
    ·exact fE _ (lt_trans q (lt_trans k' h'))
    ·rw [k']at h';exact fE _ (lt_trans q h')
    ·rw [h']at q;exact fE _ (lt_trans q k')
    ·rw [h',k']at q;exact fE _ q
   ·obtain ⟨h2,k2⟩:=key q1
    rcases h2 with h2|⟨h2,_⟩ <;> rcases k2 with k2|⟨k2,_⟩
    ·exact fE _ (lt_trans q (lt_trans k2 h2))
    ·rw [k2]at h2;exact fE _ (lt_trans q h2)
    ·rw [h2]at q;exact fE _ (lt_trans q k2)
    ·rw [h2,k2]at q;exact fE _ q
   ·obtain ⟨h2,k2⟩:=key q1
    rcases h2 with h2|⟨h2,h3⟩
    ·rcases k2 with k2|⟨k2,_⟩
     ·exact fE _ (lt_trans (q2 ▸ k2) h2)
     ·rw [q2,<- k2]at h2;exact fE _ h2
    ·rcases k2 with k2|⟨k2,k3⟩
     ·rw [<- h2,q2]at k2;exact fE _ k2
     ·omega
   ·obtain ⟨h2,k2⟩:=key q1
    rcases h2 with h2|⟨h2,h3⟩
    ·rcases k2 with k2|⟨k2,_⟩
     ·exact fE _ (lt_trans (q2 ▸ k2) h2)
     ·rw [q2,<- k2]at h2;exact fE _ h2
    ·rcases k2 with k2|⟨k2,k3⟩
     ·rw [<- h2,q2]at k2;exact fE _ k2
     ·omega)
 exact⟨r,r1,r2⟩
theorem K9 {i:Int} {n:Nat} (h0:0<=i) (h1:i<(n:Int)):inN i n=some ():=by
 unfold inN
 rw [if_pos ⟨h0,by omega⟩]
theorem CZ (s:List Receipt) (k0:Nat) (hn:s.length<=100000):∀(m i2 k:Nat) (data:List Receipt),k0+i2+m=s.length->1<=i2->data.length=s.length->k<=k0+i2-1 ->
  ∃(data':List Receipt) (k':Nat) (i':Int),iterN (λt=>aM s (k0:Int) t) (m+1) (data,(k:Int),(i2:Int))=some (.go (data',(k':Int),i'))/\data'.length=s.length/\k'<=s.length
 | 0,i2,k,data,hm,h1,hd,hk=>by
  refine⟨data,k,(i2:Int),?_,hd,by omega⟩
  have hc:decide ((i2:Int)<((((s.length:Int)).toNat-((k0:Int)).toNat:Nat):Int))=false:=by simp;omega
  simp only [iterN,aM,hc,cond_false,ob_]
 | m+1,i2,k,data,hm,h1,hd,hk=>by
  have hp:k0+i2<data.length:=by omega
  have hc:decide ((i2:Int)<((((s.length:Int)).toNat-((k0:Int)).toNat:Nat):Int))=true:=by simp;omega
  have hw:w64 ((i2:Int)-1)=((i2-1:Nat):Int):=by rw [cO (by omega)];omega
  have hw2:w64 ((i2:Int)+1)=((i2+1:Nat):Int):=by rw [cO (by omega)];omega
  have hw3:w64 ((k:Int)+1)=((k+1:Nat):Int):=by rw [cO (by omega)];omega
  have e1:((k0:Int)).toNat+((i2:Int)).toNat=k0+i2:=by omega
  have e2:((k0:Int)).toNat+(((i2-1:Nat):Int)).toNat=k0+i2-1:=by omega
  have n1:inN (i2:Int) (((s.length:Int)).toNat-((k0:Int)).toNat)=some ():=K9 (by omega) (by omega)
  have n2:inN ((i2-1:Nat):Int) (((s.length:Int)).toNat-((k0:Int)).toNat)=some ():=K9 (by omega) (by omega)
  have g1:data[k0+i2]? = some data[k0+i2]:=List.getElem?_eq_getElem hp
  have g2:data[k0+i2-1]? = some (data[k0+i2-1]'(by omega)):=List.getElem?_eq_getElem (by omega)
  have g3:data[0+((k:Int)).toNat]? = some (data[0+((k:Int)).toNat]'(by omega)):=List.getElem?_eq_getElem (by omega)
  have n3:inR (k:Int) data=some ():=x8 (by omega) (by omega)
  rw [iterN]
  cases hx:decide (cmR data[k0+i2] (data[k0+i2-1]'(by omega))=0)with
  | true =>
   have:aM s (k0:Int) (data,(k:Int),(i2:Int))=some (.go (data,(k:Int),((i2+1:Nat):Int))):=by
    unfold aM
    simp only [hc,cond_true,n1,ob_,e1,g1,hw,n2,e2,g2,JJ,hx,Bool.not_true,cond_false,hw2]
   rw [this,ob_]
   exact CZ s k0 hn m (i2+1) k data (by omega) (by omega) hd (by omega)
  | false =>
   have:aM s (k0:Int) (data,(k:Int),(i2:Int))=some (.go (data.set (0+((k:Int)).toNat) data[k0+i2],((k+1:Nat):Int),((i2+1:Nat):Int))):=by
    unfold aM
    simp only [hc,cond_true,n1,ob_,e1,g1,hw,n2,e2,g2,JJ,hx,Bool.not_false,n3,g3,hw2,hw3]
   rw [this,ob_]
   exact CZ s k0 hn m (i2+1) (k+1) _ (by omega) (by omega) (by rw [List.length_set];exact hd) (by omega)
theorem HZ (s:List Receipt) (hn:s.length<=100000):∀(m i:Nat),i+m=s.length->1<=i ->
  (∃j,iterN (λt=>aK s t) (m+1) (i:Int)=some (.go j))\/∃r,iterN (λt=>aK s t) (m+1) (i:Int)=some (.ret r)/\r.length<=s.length
 | 0,i,hm,h1=>by
  refine .inl ⟨(i:Int),?_⟩
  have hc:decide ((i:Int)<(s.length:Int))=false:=by simp;omega
  simp only [iterN,aK,hc,cond_false,ob_]
 | m+1,i,hm,h1=>by
  have hi:i<s.length:=by omega
  have hc:decide ((i:Int)<(s.length:Int))=true:=by simp;omega
  have hw:w64 ((i:Int)-1)=((i-1:Nat):Int):=by rw [cO (by omega)];omega
  have hw2:w64 ((i:Int)+1)=((i+1:Nat):Int):=by rw [cO (by omega)];omega
  have e1:0+(i:Int).toNat=i:=by omega
  have e2:0+((i-1:Nat):Int).toNat=i-1:=by omega
  have hga:s[i]? = some s[i]:=List.getElem?_eq_getElem hi
  have hgb:s[i-1]? = some (s[i-1]'(by omega)):=List.getElem?_eq_getElem (by omega)
  have i1:inR (i:Int) s=some ():=x8 (by omega) (by omega)
  have i2:inR ((i-1:Nat):Int) s=some ():=x8 (by omega) (by omega)
  rw [iterN]
  cases hx:decide (cmR s[i] (s[i-1]'(by omega))=0)with
  | false =>
   have:aK s (i:Int)=some (.go ((i+1:Nat):Int)):=by
    unfold aK
    simp only [hc,cond_true,hw,hw2,e1,e2,i1,i2,hga,hgb,ob_,JJ,hx,cond_false]
   rw [this,ob_]
   exact HZ s hn m (i+1) (by omega) (by omega)
  | true =>
   right
   obtain ⟨data',k',i',q1,q2,q3⟩:=CZ s i hn (s.length-(i+1)) 1 i s (by omega) (by omega) rfl (by omega)
   have hlo:=kY q1
   have one:((1:Nat):Int)=1:=rfl
   rw [one]at hlo
   have hne:neL s=some ():=by
    cases s with
    | nil=>simp at hi
    | cons a l=>rfl
   have hsr:vT s (i:Int) (s.length:Int)=some ():=by unfold vT;rw [if_pos ⟨by omega,by omega,by omega,by omega⟩]
   have hsr2:vT data' (k':Int) (data'.length:Int)=some ():=by unfold vT;rw [if_pos ⟨by omega,by omega,by omega,by omega⟩]
   have n1:((data'.length:Int)).toNat=data'.length:=by omega
   have n2:(k':Int).toNat=k':=by omega
   have hlen:∀z:Receipt,(data'.take k'++List.replicate (data'.length-k') z++data'.drop (k'+(data'.length-k'))).length=data'.length:=λz=>by simp;omega
   have hsr3:∀z:Receipt,vT (data'.take k'++List.replicate (data'.length-k') z++data'.drop (k'+(data'.length-k'))) 0 (k':Int)=some ():=λz=>by unfold vT;rw [if_pos ⟨by omega,by omega,by omega,by rw [hlen];omega⟩]
   refine⟨Ka (data'.take k'++List.replicate (data'.length-k') (⟨(⟨#[]⟩:ByteArray),(⟨#[]⟩:ByteArray),0,false⟩:Receipt)++data'.drop (k'+(data'.length-k'))) 0 k',?_,?_⟩
   ·have:aK s (i:Int)=some (.ret (Ka (data'.take k'++List.replicate (data'.length-k') (⟨(⟨#[]⟩:ByteArray),(⟨#[]⟩:ByteArray),0,false⟩:Receipt)++data'.drop (k'+(data'.length-k'))) 0 k')):=by
     unfold aK
     simp only [hc,cond_true,hw,e1,e2,i1,i2,hga,hgb,ob_,JJ,hx,hne,hsr,hlo,thenC,hsr2,n1,n2,hsr3]
    rw [this];rfl
   ·show (List.take (k'-0) (List.drop 0 _)).length<=_
    rw [List.length_take,List.length_drop,hlen]
    omega
theorem cf_ok (s:List Receipt) (hn:s.length<=100000):∃r,aX s=some r/\r.length<=s.length:=by
 unfold aX
 by_cases h:(s.length:Int)<2
 ·rw [decide_eq_true h,cond_true]
  exact⟨s,rfl,Nat.le_refl _⟩
 ·rw [decide_eq_false h,cond_false]
  rcases HZ s hn (s.length-1) 1 (by omega) (Nat.le_refl _)with⟨j,h2⟩|⟨r,h2,h3⟩
  ·have:=kY h2
   rw [show ((1:Nat):Int)=1 from rfl]at this
   rw [this]
   exact⟨s,rfl,Nat.le_refl _⟩
  ·have:=kY h2
   rw [show ((1:Nat):Int)=1 from rfl]at this
   rw [this]
   exact⟨r,rfl,h3⟩
theorem EB (a b:List Receipt) (ha:a.length<=1000) (hb:b.length<=1000):bK [a,b]=some (a++b):=by
 have f1:bu 0 a 0=some (.go (a.length:Int)):=by
  unfold bu
  rw [cO (by omega),decide_eq_false (by omega)]
  show some (Ctl.go (0+(a.length:Int)))=_
  rw [Int.zero_add]
 have f2:bu (0+1) b (a.length:Int)=some (.go ((a.length:Int)+(b.length:Int))):=by
  unfold bu
  rw [cO (by omega),decide_eq_false (by omega)];rfl
 have g1:bv 0 a []=some (.go a):=by
  unfold bv
  rw [kW _ _ (by simp;omega)];rfl
 have g2:bv (0+1) b a=some (.go (a++b)):=by
  unfold bv
  rw [kW _ _ (by omega)];rfl
 have hgr:∃q,cZ ((a.length:Int)+(b.length:Int))=some q/\kE q (a++b)=some ():=by
  unfold cZ
  have e0:w64 (0-0)=0:=rfl
  rw [e0,decide_eq_false (by omega),cond_false,cO (by omega)]
  by_cases h:(a.length:Int)+(b.length:Int)-0>0
  ·rw [decide_eq_true h,cond_true]
   have hz:zN ((a.length:Int)+(b.length:Int)-0) 48=some ():=by
    unfold zN
    first | rw [if_pos (by omega)] | rfl
   rw [hz]
   refine⟨true,rfl,?_⟩
   cases hab:a++b with
   | nil =>
    have:=congrArg List.length hab
    simp at this
    rw [this.1,this.2]at h
    simp at h
   | cons x l=>rfl
  ·rw [decide_eq_false h,cond_false]
   exact⟨false,rfl,rfl⟩
 obtain ⟨q,q1,q2⟩:=hgr
 unfold bK
 rw [fD (by simp)]
 simp only [forR,f1,f2,ob_,thenC]
 rw [q1]
 simp only [ob_]
 rw [fD (by simp)]
 simp only [forR,g1,g2,ob_,thenC,q2]
theorem MU {a b:List Receipt} (ha:GRs a) (hb:GRs b):∃r,r.length<=100/\kC a b=some (r,0)/\nU a b=some (bif rcV a != 0 then ([],rcV a)else bif rcV b != 0 then ([],rcV b)else (r,0)):=by
 have h1:=ha.2
 have h2:=hb.2
 obtain ⟨s,s1,s2⟩:=sortK (a++b) (by rw [List.length_append];omega)
 have hsl:=s2.length_eq
 rw [List.length_append]at hsl
 obtain ⟨r,r1,r2⟩:=cf_ok s (by omega)
 have hg:∀x∈a++b,GR x:=λx hx=>by
  rcases List.mem_append.1 hx with hx|hx
  ·exact ha.1 x hx
  ·exact hb.1 x hx
 have t1:fH (a++b)=some s:=by
  rw [<- s1]
  unfold fH eY
  exact CV (F1:=λa b=>iQ a b) (F2:=λa b=>jm a b) cmS cmK (λx hx y hy=>kn2_eq (hg x hx) (hg y hy)) (λx _ y _=>LJ x y) (λx y=>cmS_neg)
 have e3:mP s (a++b)=some ():=by unfold mP;rw [if_pos s2.length_eq]
 refine⟨r,by omega,?_,?_⟩
 ·unfold kC
  rw [EB a b (by omega) (by omega),ob_,t1,ob_,e3,ob_,comp_eq,r1,ob_,decide_eq_false (by omega)];rfl
 ·have hk:∀(k:Nat) (l:List Receipt),([a,b]:List (List Receipt))[k]? = some l->GRs l->l8 a b k k ()=some (bif rcV l != 0 then .ret ([],rcV l)else .go ()):=λk l hl hgl=>by
   unfold l8
   rw [pW,hl]
   simp only [ob_]
   rw [MN hgl]
   simp only [ob_]
   cases rcV l != 0 <;> rfl
  have k0:=hk 0 a rfl ha
  have k1:=hk (0+1) b rfl hb
  unfold nU
  have hr:List.range (2:Int).toNat=[0,0+1]:=rfl
  rw [hr,fD (by simp)]
  simp only [forR,k0,ob_]
  cases hv:rcV a != 0 with
  | true=>rfl
  | false =>
   simp only [cond_false,k1,ob_]
   cases hw:rcV b != 0 with
   | true=>rfl
   | false =>
    simp only [cond_false,thenC,ob_]
    rw [EB a b (by omega) (by omega),ob_,s1,ob_,e3,ob_,r1,ob_,decide_eq_false (by omega)];rfl
def befRc (a b:Receipt):Prop:=lt a.Player b.Player\/a.Player=b.Player/\lt a.Alert b.Alert
structure RRc (l:List Receipt):Prop where
 rise:l.Pairwise befRc
 key:∀x∈l,kit_IsKey x.Player=some true/\kit_IsKey x.Alert=some true
 mom:∀x∈l,0<=x.At/\x.At<=1000
 len:l.length<=15
def eqP (a b:Pair):Bool:=eqS a.f_player b.f_player&&(eqS a.f_alert b.f_alert&&true)
theorem uN (a b:Pair):eqP a b=true↔a=b:=by
 obtain ⟨a1,a2⟩:=a
 obtain ⟨b1,b2⟩:=b
 unfold eqP
 rw [Bool.and_true,Bool.and_eq_true,zl,zl]
 constructor
 ·rintro ⟨h,k⟩
  simp only at h k
  rw [h,k]
 ·intro h
  cases h
  exact⟨rfl,rfl⟩
structure Just (l:List Alert) (ps:List Post) (inv t:Int) (m:List (Pair×Int)) (d:Debt):Prop where
 of:∃a∈l,∃p∈ps,d.Alert=a.Id/\d.Player=p.Player/\d.Due=a.At+inv/\hasB a.Areas p.X p.Y=true/\(mGet eqP m ⟨p.Player,a.Id⟩=some 0->a.At+inv<0)
 due:d.Due<t
 late:d.Got<0\/d.Due<d.Got
def Gt (a b:Debt):Int:=or0 (ko a.Player b.Player) (ko a.Alert b.Alert)
theorem CG {a b:Debt}:Gt a b<0↔lt a.Player b.Player\/a.Player=b.Player/\lt a.Alert b.Alert:=by
 unfold Gt
 rw [yH,tX,rq,tX]
theorem sortD (s:List Debt) (hl:s.length<=1000):∃r,dh s=some r/\r.Perm s:=by
 unfold dh
 obtain ⟨r,r1,r2,_⟩:=Cm (F:=λa b=>jk a b) Gt (xs:=s) (by omega) (λa _ b _=>by
   unfold jk Gt
   rw [nG,nG]
   simp only [ob_]
   rw [Fj];rfl)
  (λa _ h=>by
   rcases CG.1 h with q|⟨_,q⟩
   ·exact fE _ q
   ·exact fE _ q)
  (λa _ b _ c _ h k=>by
   rw [CG]at *
   rcases h with h|⟨h,h2⟩ <;> rcases k with k|⟨k,k2⟩
   ·exact .inl (lt_trans h k)
   ·rw [<- k];exact .inl h
   ·rw [h];exact .inl k
   ·exact .inr ⟨h.trans k,lt_trans h2 k2⟩)
  (λa _ b _ c _ h k q=>by
   rw [CG]at *
   simp only [not_or,not_and]at h k
   obtain ⟨h1,h2⟩:=h
   obtain ⟨k1,k2⟩:=k
   rcases uV a.Player b.Player with e1|e1|e1
   ·exact h1 e1
   ·rcases uV b.Player c.Player with e2|e2|e2
    ·exact k1 e2
    ·have e3:=h2 e1
     have e4:=k2 e2
     rcases q with q|⟨_,q⟩
     ·rw [e1,e2]at q;exact fE _ q
     ·rcases uV a.Alert b.Alert with f1|f1|f1
      ·exact e3 f1
      ·rw [f1]at q;exact e4 q
      ·exact e4 (lt_trans f1 q)
    ·rw [e1]at q
     rcases q with q|⟨q,_⟩
     ·exact fE _ (lt_trans q e2)
     ·rw [q]at e2;exact fE _ e2
   ·rcases q with q|⟨q,_⟩
    ·exact k1 (lt_trans e1 q)
    ·rw [q]at e1;exact k1 e1)
 exact⟨r,r1,r2⟩
def aL:List ByteArray:=[⟨#[97,97]⟩,⟨#[97,98]⟩,⟨#[97,99]⟩,⟨#[97,100]⟩,⟨#[97,101]⟩]
theorem aL_take:aL=idL.take 5:=rfl
theorem aL_rise:aL.Pairwise lt:=by rw [aL_take];exact Gi.sublist (List.take_sublist _ _)
structure RcJ (ps:List Post) (k j:Nat) (x:Post) (s:List Receipt):Prop where
 rise:s.Pairwise befRc
 of:∀r∈s,(∃p∈ps.take k,r.Player=p.Player/\r.Alert∈aL)\/r.Player=x.Player/\r.Alert∈aL.take j
 at_:∀r∈s,0<=r.At/\r.At<=60
 len:s.length<=5*k+j
theorem RcJ.add {ps:List Post} (hp:RPosts ps) {k j:Nat} {x:Post} (hx:ps[k]? = some x) {s:List Receipt} (h:RcJ ps k j x s) {y:ByteArray} (hy:aL[j]? = some y) {v:Int} (hv:0<=v/\v<=60):RcJ ps k (j+1) x (s++[⟨x.Player,y,v,false⟩]):=by
 have et:aL.take (j+1)=aL.take j++[y]:=by rw [List.take_add_one,hy];rfl
 refine⟨List.pairwise_append.2 ⟨h.rise,List.pairwise_singleton _ _,λr hr q hq => ?_⟩,λr hr => ?_,λr hr => ?_,by have:=h.len;simp;omega⟩
 ·rw [List.mem_singleton.1 hq]
  rcases h.of r hr with⟨p,p1,p2,_⟩|⟨p1,p2⟩
  ·left
   rw [p2]
   obtain ⟨i,hi⟩:=List.getElem?_of_mem p1
   have hik:i<k:=by
    obtain ⟨h1,_⟩:=List.getElem?_eq_some_iff.1 hi
    rw [List.length_take]at h1;omega
   rw [List.getElem?_take_of_lt hik]at hi
   obtain ⟨h1,e1⟩:=List.getElem?_eq_some_iff.1 hi
   obtain ⟨h2,e2⟩:=List.getElem?_eq_some_iff.1 hx
   have:=List.pairwise_iff_getElem.1 hp.rise i k (by simpa using h1) (by simpa using h2) hik
   rw [List.getElem_map,List.getElem_map,e1,e2]at this
   exact this
  ·right
   refine⟨p1,?_⟩
   obtain ⟨i,hi⟩:=List.getElem?_of_mem p2
   have hij:i<j:=by
    obtain ⟨h1,_⟩:=List.getElem?_eq_some_iff.1 hi
    rw [List.length_take]at h1;omega
   rw [List.getElem?_take_of_lt hij]at hi
   obtain ⟨h1,e1⟩:=List.getElem?_eq_some_iff.1 hi
   obtain ⟨h2,e2⟩:=List.getElem?_eq_some_iff.1 hy
   have:=List.pairwise_iff_getElem.1 aL_rise i j h1 h2 hij
   rw [e1,e2]at this
   exact this
 ·rcases List.mem_append.1 hr with hr|hr
  ·rcases h.of r hr with q|⟨q1,q2⟩
   ·exact .inl q
   ·exact .inr ⟨q1,by rw [et];exact List.mem_append_left _ q2⟩
  ·rw [List.mem_singleton.1 hr]
   exact .inr ⟨rfl,by rw [et];exact List.mem_append_right _ (List.mem_singleton.2 rfl)⟩
 ·rcases List.mem_append.1 hr with hr|hr
  ·exact h.at_ r hr
  ·rw [List.mem_singleton.1 hr];exact hv
theorem RcJ.mono {ps:List Post} {k j:Nat} {x:Post} {y:ByteArray} (hy:aL[j]? = some y) {s:List Receipt} (h:RcJ ps k j x s):RcJ ps k (j+1) x s:=by
 have et:aL.take (j+1)=aL.take j++[y]:=by rw [List.take_add_one,hy];rfl
 refine⟨h.rise,λr hr => ?_,h.at_,by have:=h.len;omega⟩
 rcases h.of r hr with q|⟨q1,q2⟩
 ·exact .inl q
 ·exact .inr ⟨q1,by rw [et];exact List.mem_append_left _ q2⟩
theorem RcJ.next {ps:List Post} {k:Nat} {x z:Post} (hx:ps[k]? = some x) {s:List Receipt} (h:RcJ ps k 5 x s):RcJ ps (k+1) 0 z s:=by
 have et:ps.take (k+1)=ps.take k++[x]:=by rw [List.take_add_one,hx];rfl
 refine⟨h.rise,λr hr => ?_,h.at_,by have:=h.len;omega⟩
 left
 rw [et]
 rcases h.of r hr with⟨p,q1,q2⟩|⟨q1,q2⟩
 ·exact⟨p,List.mem_append_left _ q1,q2⟩
 ·exact⟨x,List.mem_append_right _ (List.mem_singleton.2 rfl),q1,List.mem_of_mem_take q2⟩
theorem RPosts.key {ps:List Post} (hp:RPosts ps) {p:Post} (h:p∈ps):kit_IsKey p.Player=some true:=(hp.right p h).key
theorem contS (l:List ByteArray) (v:ByteArray) (hl:l.length<=1000000):eT l v=some (decide (v∈l)):=by
 unfold eT gU
 rw [fD (by omega)]
 rcases uD (f:=λx=>some (sEq v x)) (p:=λx=>sEq v x) (B:=λk x s=>gp v k x s) (λk x=>rfl) l 0 (λx _=>rfl)with⟨h1,h2⟩|⟨j,x,h1,h2,_,h4,_⟩
 ·rw [h2]
  have:v∉l:=λhm=>by
   have:l.any (λx=>sEq v x)=true:=List.any_eq_true.2 ⟨v,hm,(yQ v v).2 rfl⟩
   rw [h1]at this;cases this
  rw [decide_eq_false this];rfl
 ·rw [h4]
  have:v∈l:=by rw [(yQ _ _).1 h2];exact List.mem_of_getElem? h1
  rw [decide_eq_true this]
  simp only [ob_,thenC]
  rw [decide_eq_true (by omega)]
theorem KF {a o:Alert} (ha:GA a) (ho:GA o) (r:ByteArray):mF o r a=some (qP a o r):=by
 obtain ⟨n,n1,n2⟩:=D9 ho ha
 unfold mF qP
 rw [oI,oI,n1]
 have:decide (n<0)=decide (befA o a):=by rw [decide_eq_decide];exact n2
 cases decide (o.Id=r) <;> cases decide (o.Sender=a.Sender) <;> simp [this]
theorem MZ {l:List Alert} (h:GAs l) {a:Alert} (ha:GA a) (r:ByteArray):tV l a r=some (l.any λo=>qP a o r):=by
 have hl:=h.2
 unfold tV bI aP
 rw [fD (by omega)]
 rcases uD (f:=λx0=>mF x0 r a) (p:=λo=>qP a o r) (B:=λk x s=>bJ (λx0=>mF x0 r a) k x s) (λk x=>rfl) l 0 (λx hx=>KF ha (h.1 x hx) r)with⟨h1,h2⟩|⟨j,x,h1,h2,_,h4,h5⟩
 ·rw [h2,h1];rfl
 ·rw [h4,h5]
  simp only [ob_,thenC]
  rw [decide_eq_true (by omega)]
theorem MV {l:List Alert} (hid:(l.map (·.Id)).Nodup) {z:Alert} (hz:z∈l) (a:Alert):(l.any λo=>qP a o z.Id)=qP a z z.Id:=by
 rw [Bool.eq_iff_iff,List.any_eq_true]
 constructor
 ·rintro ⟨o,ho,h⟩
  obtain ⟨i,hi⟩:=List.getElem?_of_mem ho
  obtain ⟨j,hj⟩:=List.getElem?_of_mem hz
  have:=Cs hid hi hj (yX.1 h).1
  subst this
  rw [hi]at hj
  rw [<- Option.some.inj hj]
  have e:=Option.some.inj hj
  rw [<- e]at h
  exact h
 ·exact λh=>⟨z,hz,h⟩
theorem CB {l:List Alert} (h:GAs l) (hid:(l.map (·.Id)).Nodup) {z:Alert} (hz:z∈l):pF l z=some (mR l z):=by
 have hl:=h.2
 unfold pF
 obtain ⟨t,t1,t2⟩:=jg (body:=λk x s=>oG z l k x s) (λk s=>s=mR (l.take k) z) (xs:=l) (s:=z.Until) (by omega) (λk x s hx hs=>by
  have et:l.take (k+1)=l.take k++[x]:=by rw [List.take_add_one,hx];rfl
  have hgx:=h.1 x (List.mem_of_getElem? hx)
  have hrl:=hgx.rlen
  unfold oG
  rw [contS _ _ (by omega),MZ h hgx,MV hid hz,hs,et,D8]
  have ec:LM x z=(decide (z.Id∈x.Refs)&&qP x z z.Id):=by
   unfold LM qP
   rw [decide_eq_true (rfl:z.Id=z.Id),Bool.true_and]
  rw [ec]
  simp only [ob_]
  cases decide (z.Id∈x.Refs)with
  | false=>exact⟨_,rfl,rfl⟩
  | true =>
   cases qP x z z.Id with
   | false=>exact⟨_,rfl,rfl⟩
   | true=>exact⟨_,rfl,by rw [<- ML];rfl⟩) rfl
 rw [t1,t2,List.take_length];rfl
theorem KI {l:List Alert} (h:GAs l) (hid:(l.map (·.Id)).Nodup) {z:Alert} (hz:z∈l) (t:Int):sH l z t=some (onB l t z):=by
 unfold sH onB
 rw [CB h hid hz]
 have e:(z.Kind != 3)=decide (z.Kind≠3):=by rw [Bool.eq_iff_iff];simp
 rw [e]
 cases decide (z.Kind≠3) <;> cases decide (z.At<=t) <;> rfl
theorem refHas {r:Rect} (h:Fine r) (x y:Int):zq r x y=some (Kk x y r):=by
 unfold Fine at h
 unfold zq Kk kT
 rw [cO (n:=r.X+r.W) (by omega),cO (n:=r.Y+r.H) (by omega),cO (n:=r.X+r.W-1) (by omega),cO (n:=r.Y+r.H-1) (by omega)]
 have e1:decide (x<=r.X+r.W-1)=decide (x<r.X+r.W):=by rw [decide_eq_decide];omega
 have e2:decide (y<=r.Y+r.H-1)=decide (y<r.Y+r.H):=by rw [decide_eq_decide];omega
 rw [e1,e2]
 cases decide (r.X<=x) <;> cases decide (x<r.X+r.W) <;> cases decide (r.Y<=y) <;> rfl
theorem yV {x:Alert} (h:∀r∈x.Areas,Fine r) (hl:x.Areas.length<=1000) (p:Post):lF x p=some (hasB x.Areas p.X p.Y):=by
 unfold lF zm
 rw [MQ (λx0=>sF x0 p.X p.Y) (Kk p.X p.Y) (λr hr=>by
  unfold sF
  rw [refHas (h r hr)];rfl) (by omega)]
 rfl
end Go.Proofs.YtjhcehhmdmbleaaGreatDoor.Law

