/-
  THE PLAIN LAW (part 5).
-/
import Derived.Test.YtpmokglbipebcaaGreatDoorPl4
open Go Go.Eng
namespace Go.Proofs.YtpmokglbipebcaaGreatDoor.Law
set_option linter.unusedVariables false
set_option linter.unusedSimpArgs false
def oQ (k:ByteArray):List Alert->Option Nat
 | []=>none
 | x::xs=>if k=x.Id then some 0 else (oQ k xs).map (· + 1)
theorem Bn {k:ByteArray}:∀{l:List Alert} {i:Nat},oQ k l=some i->∃h:i<l.length,l[i].Id=k
 | [],_,h=>by cases h
 | x::xs,i,h=>by
  unfold oQ at h
  split at h
  ·rename_i e
   simp only [so_]at h
   subst h
   exact⟨by simp,e.symm⟩
  ·obtain ⟨j,hj,rfl⟩:=Option.map_eq_some_iff.1 h
   obtain ⟨h1,h2⟩:=Bn hj
   exact⟨by simpa using h1,by simpa using h2⟩
theorem Aq {k:ByteArray}:∀{l:List Alert},oQ k l=none->∀x∈l,x.Id≠k
 | [],_,_,hx=>by cases hx
 | y::ys,h,x,hx=>by
  unfold oQ at h
  split at h
  ·cases h
  ·rename_i e
   rcases List.mem_cons.1 hx with rfl|hx
   ·exact λhh=>e hh.symm
   ·exact Aq (Option.map_eq_none_iff.1 h) x hx
theorem F7 {k:ByteArray}:∀{l:List Alert},(∀x∈l,x.Id≠k)->oQ k l=none
 | [],_=>rfl
 | y::ys,h=>by
  unfold oQ
  rw [if_neg (λe=>h y (by simp) e.symm),F7 (λx hx=>h x (List.mem_cons_of_mem _ hx))]
  rfl
def xD (out:List Alert) (x:Alert):Option (List Alert):=match oQ x.Id out with
 | none=>some (out++[x])
 | some i=>if out[i]? = some x then some out else none
def lY:List Alert->List Alert->Option (List Alert)
 | out,[]=>some out
 | out,x::xs=>(xD out x).bind λo=>lY o xs
def tL (a:Alert):ByteArray×Alert:=(a.Id,a)
theorem mGetA (k:ByteArray):∀out:List Alert,jo eqS (out.map tL) k=(oQ k out).bind λi=>out[i]?
 | []=>rfl
 | x::xs=>by
  rw [List.map_cons,nU,oQ,show (tL x).1=x.Id from rfl,show (tL x).2=x from rfl]
  by_cases h:k=x.Id
  ·rw [if_pos ((sJ _ _).2 h),if_pos h];rfl
  ·rw [if_neg (λq=>h ((sJ _ _).1 q)),if_neg h,mGetA k xs]
   cases oQ k xs <;> simp
theorem mSetA (x:Alert):∀out:List Alert,oQ x.Id out=none->pg eqS (out.map tL) x.Id x=(out++[x]).map tL
 | [],_=>rfl
 | y::ys,h=>by
  unfold oQ at h
  split at h
  ·cases h
  ·rename_i e
   rw [List.map_cons,wJ,show (tL y).1=y.Id from rfl,if_neg (λq=>e ((sJ _ _).1 q)),mSetA x ys (Option.map_eq_none_iff.1 h)]
   rfl
def Bo (o:Option (List Alert)) {σ:Type} (f:List Alert->σ):Ctl σ (List Alert×Int):=match o with
 | none => .ret ([],13)
 | some l => .go (f l)
theorem Hf {a:Alert} (h:GA a):mW a=some a:=by
 unfold mW fo dU
 rw [jJ _ _ (by have:=h.rlen;simp;omega),jJ _ _ (by have:=h.alen;simp;omega)]
 simp
theorem progA {out:List Alert} {x:Alert} (hx:RA x) (ho:∀o∈out,RA o) (hl:out.length<=1000) (k:Nat):ib k x (out.map tL,out)=some (Bo (xD out x) λl=>(l.map tL,l)):=by
 unfold ib xD
 simp only [mGetA]
 cases hk:oQ x.Id out with
 | none =>
  have hs:=mSetA x out hk
  simp only [Option.bind_none,Option.isSome_none,Bool.not_false,cond_true,Hf hx.1,ob_,jJ out [x] (by simp;omega),hs]
  rfl
 | some i =>
  obtain ⟨hi,hk2⟩:=Bn hk
  simp only [ob_,List.getElem?_eq_getElem hi,Option.isSome_some,Bool.not_true,cond_false,Option.getD_some,Gr (ho _ (List.getElem_mem hi)).1]
  by_cases he:out[i]=x
  ·simp only [decide_eq_true he,Bool.not_true,cond_false,he,if_true];rfl
  ·have:¬(some out[i]=some x):=λh=>he (Option.some.inj h)
   simp only [decide_eq_false he,Bool.not_false,cond_true,if_neg this];rfl
theorem Ai (s:List Alert) (x:Alert):∀(l:List Alert) (xs:List Nat) (k:Nat),s.drop k=l->(xs=List.range' k l.length)->∃o,forR (λk y u=>aU s x k y u) xs k ()=some o /\
  thenC o (λ_=>some (-1:Int)) (λr=>some r)=some (match oQ x.Id l with | none => -1 | some i=>((k+i:Nat):Int))
 | [],xs,k,h,hx=>by subst hx;exact⟨_,rfl,rfl⟩
 | y::ys,xs,k,h,hx=>by
  have hg:=zb h
  have hk:k<s.length:=(List.getElem?_eq_some_iff.1 hg).1
  subst hx
  have hstep:aU s x k k ()=some (bif sEq y.Id x.Id then .ret (k:Int)else .go ()):=by
   unfold aU lQ
   rw [BD (by omega) (by omega)]
   have e:0+((k:Int)).toNat=k:=by omega
   simp only [ob_,e,hg]
   cases sEq y.Id x.Id <;> rfl
  rw [List.length_cons,List.range'_succ]
  simp only [forR,hstep,ob_,oQ]
  by_cases he:x.Id=y.Id
  ·have e1:sEq y.Id x.Id=true:=(FN _ _).2 he.symm
   rw [e1,cond_true,if_pos he]
   exact⟨_,rfl,rfl⟩
  ·have e1:sEq y.Id x.Id=false:=by rw [xU];exact decide_eq_false λq=>he q.symm
   rw [e1,cond_false,if_neg he]
   obtain ⟨o,h1,h2⟩:=Ai s x ys _ (k+1) (aY h) rfl
   refine⟨o,h1,h2.trans ?_⟩
   cases oQ x.Id ys with
   | none=>rfl
   | some i =>
    show some (((k+1+i:Nat)):Int)=some ((k+(i+1):Nat):Int)
    rw [show k+1+i=k+(i+1) by omega]
theorem Gq (s:List Alert) (x:Alert) (hl:s.length<=1000000):bf s x=some (match oQ x.Id s with | none => -1 | some i=>(i:Int)):=by
 unfold bf
 obtain ⟨o,h1,h2⟩:=Ai s x s (List.range ((s.length:Int)).toNat) 0 rfl (by rw [Int.toNat_natCast,List.range_eq_range'])
 rw [fZ (by simp;omega),h1,ob_,h2]
 cases oQ x.Id s <;> simp
theorem docA {out:List Alert} {x:Alert} (hx:RA x) (ho:∀o∈out,RA o) (hl:out.length<=1000) (k:Nat):gJ k x out=some (Bo (xD out x) id):=by
 unfold gJ xD
 rw [Gq out x (by omega)]
 simp only [ob_]
 cases hk:oQ x.Id out with
 | none =>
  have:decide ((-1:Int)<0)=true:=by decide
  simp only [this,cond_true,jJ out [x] (by simp;omega),ob_]
  rfl
 | some i =>
  obtain ⟨hi,hk2⟩:=Bn hk
  have e0:decide ((i:Int)<0)=false:=by simp
  have e1:0+((i:Int)).toNat=i:=by omega
  simp only [e0,cond_false,BD (show (0:Int)<=(i:Int) by omega) (show (i:Int)<out.length by omega),ob_,e1,List.getElem?_eq_getElem hi,Ii (ho _ (List.getElem_mem hi)) hx]
  by_cases he:out[i]=x
  ·simp only [decide_eq_true he,Bool.not_true,cond_false,he,if_true];rfl
  ·have:¬(some out[i]=some x):=λh=>he (Option.some.inj h)
   simp only [decide_eq_false he,Bool.not_false,cond_true,if_neg this];rfl
def KA (l:List Alert):Prop:=(l.map (·.Id)).Nodup
theorem F6 {out:List Alert} {x:Alert} (hx:RA x) (ho:∀o∈out,RA o) (hn:KA out) {r:List Alert} (h:xD out x=some r):(∀o∈r,RA o)/\r.length<=out.length+1/\KA r:=by
 unfold xD at h
 cases hk:oQ x.Id out with
 | none =>
  rw [hk]at h
  simp only [so_]at h
  subst h
  refine⟨λo ho' => ?_,by simp,?_⟩
  ·rcases List.mem_append.1 ho' with h1|h1
   ·exact ho o h1
   ·simp only [List.mem_singleton]at h1;rw [h1];exact hx
  ·unfold KA
   rw [List.map_append,List.nodup_append]
   refine⟨hn,by simp,λa ha b hb => ?_⟩
   simp only [List.map_cons,List.map_nil,List.mem_singleton]at hb
   obtain ⟨y,hy,rfl⟩:=List.mem_map.1 ha
   rw [hb]
   exact Aq hk y hy
 | some i =>
  rw [hk]at h
  simp only at h
  split at h
  ·simp only [so_]at h
   subst h
   exact⟨ho,by omega,hn⟩
  ·cases h
theorem Ct:∀(xs:List Alert) (out:List Alert),(∀x∈xs,RA x)->(∀o∈out,RA o)->KA out->∀{r:List Alert},lY out xs=some r->(∀o∈r,RA o)/\r.length<=out.length+xs.length/\KA r
 | [],out,_,ho,hn,r,h=>by
  simp only [lY,so_]at h
  subst h
  exact⟨ho,by simp,hn⟩
 | x::xs,out,hx,ho,hn,r,h=>by
  simp only [lY,Option.bind_eq_some_iff]at h
  obtain ⟨o1,h1,h2⟩:=h
  obtain ⟨k1,k2,k3⟩:=F6 (hx x (by simp)) ho hn h1
  obtain ⟨m1,m2,m3⟩:=Ct xs o1 (λy hy=>hx y (List.mem_cons_of_mem _ hy)) k1 k3 h2
  exact⟨m1,by simp only [List.length_cons];omega,m3⟩
theorem wU {σ:Type} {B:Nat->Alert->σ->Option (Ctl σ (List Alert×Int))} (f:List Alert->σ) (hB:∀k x out,RA x->(∀o∈out,RA o)->out.length<=1000->B k x (f out)=some (Bo (xD out x) f)):∀(xs:List Alert) (k:Nat) (out:List Alert),(∀x∈xs,RA x)->(∀o∈out,RA o)->KA out->out.length+xs.length<=1000 ->
  forR B xs k (f out)=some (Bo (lY out xs) f)
 | [],k,out,_,_,_,_=>rfl
 | x::xs,k,out,hx,ho,hn,hl=>by
  simp only [List.length_cons]at hl
  simp only [forR,hB k x out (hx x (by simp)) ho (by omega),ob_,lY]
  cases ha:xD out x with
  | none=>rfl
  | some o1 =>
   obtain ⟨k1,k2,k3⟩:=F6 (hx x (by simp)) ho hn ha
   simp only [Bo,ob_]
   exact wU f hB xs (k+1) o1 (λy hy=>hx y (List.mem_cons_of_mem _ hy)) k1 k3 (by omega)
theorem yI:∀(xs out:List Alert),KA (out++xs)->lY out xs=some (out++xs)
 | [],out,_=>by simp [lY]
 | x::xs,out,h=>by
  have h1:oQ x.Id out=none:=F7 λy hy=>by
   unfold KA at h
   rw [List.map_append,List.nodup_append]at h
   exact h.2.2 _ (List.mem_map.2 ⟨y,hy,rfl⟩) _ (by simp)
  have h2:xD out x=some (out++[x]):=by unfold xD;rw [h1]
  simp only [lY,h2,ob_]
  rw [yI xs (out++[x]) (by simpa using h)]
  simp
theorem AP:∀(xs ys out:List Alert),lY out (xs++ys)=(lY out xs).bind λo=>lY o ys
 | [],ys,out=>rfl
 | x::xs,ys,out=>by
  simp only [List.cons_append,lY]
  cases xD out x with
  | none=>rfl
  | some o=>simp only [ob_];exact AP xs ys o
theorem E9 (a b:List Alert) (ha:a.length<=1000) (hb:b.length<=1000):bK [a,b]=some (a++b):=by
 unfold bK
 have e1:forL [a,b] 0 (λk x s=>aO k x s)=some (.go (((a.length+b.length:Nat)):Int)):=by
  rw [fZ (by simp)]
  have q1:∀k,aO k a 0=some (.go (a.length:Int)):=λk=>by
   unfold aO
   rw [show (0:Int)+(a.length:Int)=(a.length:Int) by omega,fF (by omega),decide_eq_false (by omega)];rfl
  have q2:∀k,aO k b (a.length:Int)=some (.go ((a.length+b.length:Nat):Int)):=λk=>by
   unfold aO
   rw [fF (by omega),decide_eq_false (by omega)]
   simp
  simp only [forR,q1,q2,ob_]
 have e2:∃g,bJ (((a.length+b.length:Nat)):Int)=some g:=by
  unfold bJ
  have q:w64 ((((a.length+b.length:Nat)):Int)-w64 (0-0))=((a.length+b.length:Nat):Int):=by
   rw [fF (n:=0-0) (by decide),fF (by omega)];omega
  rw [decide_eq_false (by omega),cond_false,q]
  by_cases h:(((a.length+b.length:Nat)):Int)>0
  ·rw [decide_eq_true h,cond_true]
   unfold zN
   rw [if_pos ⟨h,by omega,by omega⟩];exact⟨_,rfl⟩
  ·rw [decide_eq_false h];exact⟨_,rfl⟩
 obtain ⟨g,e2⟩:=e2
 have e3:forL [a,b] ([]:List Alert) (λk x s=>aN k x s)=some (.go (a++b)):=by
  rw [fZ (by simp)]
  have q1:∀k,aN k a []=some (.go a):=λk=>by
   unfold aN
   rw [jJ _ _ (by simp;omega)];rfl
  have q2:∀k,aN k b a=some (.go (a++b)):=λk=>by
   unfold aN
   rw [jJ _ _ (by omega)];rfl
  simp only [forR,q1,q2,ob_]
 simp only [e1,e2,e3,ob_,lS]
theorem Gb {α:Type} {cmp:α->α->Option Int} {S:List α->Option (List α)} (hS:∀x,S x=(fK (IntKind.u64.wrap (x.length:Int))).bind λr_3=>(Ci cmp x 0 (x.length:Int) r_3).bind λr_5=>(jH r_5 x).bind λ_=>some r_5)
  {xs:List α} (hl:xs.length<=12) {R:α->α->Prop} (hF:∀a∈xs,∀b∈xs,∃n,cmp a b=some n/\(n<0↔R a b)) (has:∀a b,R a b->¬R b a) (hn:∀a b d,¬R a b->¬R b d->¬R a d) :
  ∃r,S xs=some r/\r.Perm xs/\r.Pairwise (λa b=>¬R b a):=by
 obtain ⟨k,hk⟩:=Jp xs.length hl
 obtain ⟨s,h1,h2,h3⟩:=Iu (cmp:=cmp) (le:=λa b=>¬R b a) (p:=(· ∈ xs)) (λa b ha hb=>by
  obtain ⟨n,n1,n2⟩:=hF a ha b hb
  exact⟨n,n1,λh=>has a b (n2.1 h),λh=>λq=>h (n2.2 q)⟩) (λa b d h k=>hn d b a k h) xs hl (λx hx=>hx) k
 refine⟨s,?_,h2,h3⟩
 have hsm:jH s xs=some ():=by unfold jH;rw [if_pos h2.length_eq]
 rw [hS,hk,ob_,h1,ob_,hsm];rfl
theorem Ei {out:List Alert} (ho:∀o∈out,RA o) (hn:KA out) (hl:out.length<=12):∃r,bz out=some r/\bA out=some r/\r.Perm out:=by
 have has:∀a b:Alert,befA a b->¬befA b a:=λa b h k=>Cx _ (yE h k)
 obtain ⟨r,r1,r2,r3⟩:=Gb (cmp:=fO) (S:=bz) (λ_=>rfl) (xs:=out) hl (R:=befA) (λa _ b _=>xq a b) has (λa b d h k=>ry h k)
 obtain ⟨s,s1,s2,s3⟩:=Gb (cmp:=fT) (S:=bA) (λ_=>rfl) (xs:=out) hl (R:=befA) (λa ha b hb=>Aw (ho a ha).1 (ho b hb).1) has (λa b d h k=>ry h k)
 have hne:out.Pairwise (λa b=>a.Id≠b.Id):=List.pairwise_map.1 hn
 have up:∀{q:List Alert},q.Perm out->q.Pairwise (λa b=>¬befA b a)->q.Pairwise befA:=λhp hs=>by
  refine List.Pairwise.imp₂ (λa b h k => ?_) hs ((hp.pairwise_iff (λh k=>h k.symm)).2 hne)
  rcases Dp a b k with e|e
  ·exact e
  ·exact absurd e h
 have e:=GU (R:=befA) has (r2.trans s2.symm) (up r2 r3) (up s2 s3)
 subst e
 exact⟨r,r1,s1,r2⟩
theorem ra_of {l:List Alert} (h:GAs l) (h0:alV l=0):∀x∈l,RA x:=λx hx=>by
 refine⟨h.1 x hx,?_⟩
 unfold alV at h0
 cases hc:chA nJ none l==0 with
 | false=>rw [hc,cond_false]at h0;rw [h0]at hc;exact absurd hc (by decide)
 | true =>
  obtain ⟨i,hi,rfl⟩:=List.getElem_of_mem hx
  obtain ⟨q,q1,_⟩:=CZ (eq_of_beq hc) i _ (List.getElem?_eq_getElem hi)
  exact Gl q1
theorem Gi {a b:List Alert} (ha:GAs a) (hb:GAs b) :
  forL (List.range (2:Int).toNat) () (λk x s=>fQ a b k x s)=some (bif alV a==0 then (bif alV b==0 then .go ()else .ret ([],alV b))else .ret ([],alV a)):=by
 have q1:∀x,fQ a b 0 x ()=some (bif alV a != 0 then .ret ([],alV a)else .go ()):=λx=>by
  unfold fQ
  have:idx ([a,b]:List (List Alert)) ((0:Nat):Int)=some a:=rfl
  rw [this,ob_,I7 ha,ob_]
  cases alV a != 0 <;> rfl
 have q2:∀x,fQ a b (0+1) x ()=some (bif alV b != 0 then .ret ([],alV b)else .go ()):=λx=>by
  unfold fQ
  have:idx ([a,b]:List (List Alert)) ((0+1:Nat):Int)=some b:=rfl
  rw [this,ob_,I7 hb,ob_]
  cases alV b != 0 <;> rfl
 have er:List.range (2:Int).toNat=[0,1]:=rfl
 rw [er,fZ (by simp)]
 simp only [forR,q1,ob_,bne]
 cases alV a==0 with
 | false=>rfl
 | true =>
  simp only [Bool.not_true,cond_false,cond_true,q2,ob_,bne]
  cases alV b==0 <;> rfl
theorem Ep {a b:List Alert} (ha:GAs a) (hb:GAs b) (h:or0 (alV a) (alV b)≠0):jU a b=some ([],or0 (alV a) (alV b)):=by
 unfold jU
 rw [Gi ha hb,ob_]
 unfold or0 at h ⊢
 cases h1:alV a==0 with
 | false=>rfl
 | true =>
  rw [h1,cond_true]at h
  simp only [cond_true]
  cases h2:alV b==0 with
  | false=>rfl
  | true=>exact absurd (eq_of_beq h2) h
theorem G9 {a b:List Alert} (ha:GAs a) (hb:GAs b) (h1:alV a=0) (h2:alV b=0) :
  ∃r,jU a b=some r/\lJ a b=some r/\(∀x∈r.1,RA x)/\r.1.length<=12:=by
 have la:=ha.2
 have lb:=hb.2
 have ra:=ra_of ha h1
 have rb:=ra_of hb h2
 have ka:KA a:=(alV_ca ha h1).ids
 have hstart:lY [] (a++b)=lY a b:=by
  rw [AP,yI a [] (by simpa using ka)];rfl
 have hm:∀e∈a++b,RA e:=λe he=>(List.mem_append.1 he).elim (ra e) (rb e)
 have hP:=wU (B:=λk x s=>ib k x s) (λl=>(l.map tL,l)) (λk x out hx ho hl=>progA hx ho hl k) (a++b) 0 [] hm (by simp) (by simp [KA]) (by simp;omega)
 rw [hstart]at hP
 have hD:=wU (B:=λk x s=>gJ k x s) id (λk x out hx ho hl=>docA hx ho hl k) b 0 a rb ra ka (by omega)
 have hP':forL (a++b) (([]:List (ByteArray×Alert)),([]:List Alert)) (λk x s=>ib k x s)=some (Bo (lY a b) λl=>(l.map tL,l)):=by
  rw [fZ (by simp;omega)];exact hP
 have hD':forL b a (λk x s=>gJ k x s)=some (Bo (lY a b) id):=by
  rw [fZ (by omega)];exact hD
 have hc:aP a=some a:=by
  unfold aP
  rw [jJ _ _ (by simp;omega)];rfl
 unfold jU lJ
 rw [Gi ha hb,h1,h2,hc]
 simp only [beq_self_eq_true,cond_true,ob_,lS,E9 a b (by omega) (by omega),hP',hD']
 cases hab:lY a b with
 | none=>exact⟨_,rfl,rfl,by simp,by simp⟩
 | some out =>
  obtain ⟨o1,o2,o3⟩:=Ct b a rb ra ka hab
  obtain ⟨r,s1,s2,s3⟩:=Ei o1 o3 (by omega)
  have hsm:jH r out=some ():=by unfold jH;rw [if_pos s3.length_eq]
  have hl:=s3.length_eq
  have e1:decide (((out.length:Nat):Int)>300)=false:=decide_eq_false (by omega)
  have e2:decide (((r.length:Nat):Int)>300)=false:=decide_eq_false (by omega)
  refine⟨(r,0),?_,?_,λx hx=>o1 x (s3.mem_iff.1 hx),by show r.length<=12;omega⟩
  ·simp only [Bo,lS,e1,cond_false,s1,ob_,hsm]
  ·simp only [Bo,lS,id,s2,ob_,hsm,e2,cond_false]
theorem uK {r:List Alert} (h:∀x∈r,RA x) (hl:r.length<=1000):aM r r=some true:=by
 unfold aM
 have e1:((r.length:Int) != (r.length:Int))=false:=by simp
 obtain ⟨s,s1,_⟩:=Cf (body:=λk x s=>aL r k x s) (ρ:=Bool) (λ_ _=>True) (xs:=r) (s:=()) (by omega) (λk x s hx _=>by
  refine⟨(),?_,trivial⟩
  unfold aL
  have hx':=List.mem_of_getElem? hx
  rw [xW,hx,ob_,Ii (h x hx') (h x hx')]
  simp) trivial
 rw [e1,cond_false,s1];rfl
theorem errs2A (a b:Int):rE [a,b]=some (or0 a b):=by
 unfold rE or0
 rw [fZ (by simp)]
 have hb:∀k x,mM k x ()=some (bif x==0 then .go ()else .ret x):=λk x=>by
  unfold mM
  cases h:x==0 <;> simp [bne,h]
 simp only [forR,hb,ob_]
 cases ha:a==0 with
 | false=>simp only [cond_false,ob_,thenC]
 | true =>
  simp only [cond_true,ob_]
  cases hb':b==0 with
  | false=>simp only [cond_false,ob_,thenC]
  | true=>simp only [cond_true,ob_,thenC];rw [eq_of_beq hb']
theorem alertsMerge (l:List Int):kT l=some true:=by
 obtain ⟨a,s1,h1,ha,h2⟩:=u7 6 (by decide) ⟨l,0⟩ (b:=0) ⟨Int.le_refl _,Int.le_refl _⟩ (by decide)
 obtain ⟨b,s2,h3,hb,h4⟩:=u7 4 (by decide) s1 h2 (by omega)
 have la:=ha.2
 simp only [kT,h1,h3,ob_]
 obtain ⟨u,u1,u2,u3⟩:∃u:Bool×List Int×Int,(bif (decide ((a.length:Int)>0))then (cz s2 2).bind λr_12=>some (r_12.1,r_12.2.L,r_12.2.f_at)else some (false,s2.L,s2.f_at))=some u/\Ok ⟨u.2.1,u.2.2⟩ 2000/\(u.1=true->0<a.length):=by
  by_cases h0:(a.length:Int)>0
  ·obtain ⟨f,s3,q1,q2⟩:=o6 s2 2 h4 (by omega) (by decide) (by decide)
   exact⟨(f,s3.L,s3.f_at),by rw [decide_eq_true h0,cond_true,q1];rfl,q2.mono (by omega),λ_=>by omega⟩
  ·exact⟨(false,s2.L,s2.f_at),by rw [decide_eq_false h0,cond_false],h4.mono (by omega),λh=>by cases h⟩
 rw [u1]
 simp only [ob_]
 obtain ⟨v,v1,v2⟩:∃v:List Alert×List Int×Int,GAs v.1/\(bif u.1 then (bQ (⟨u.2.1,u.2.2⟩:Stream) (a.length:Int)).bind λr_20=>(uY a r_20.1 a.length).bind λy_23=>(aP y_23).bind λr_25=>(cz r_20.2 4).bind λr_29=>bif r_29.1 then (bg r_29.2 1 9).bind λr_33=>(inR 0 r_25).bind λ_=>(r_25[(0+(0:Int).toNat)]?).bind λe_37=>some ((r_25.set (0+(0:Int).toNat) (⟨e_37.Id,e_37.Sender,e_37.Kind,e_37.Refs,e_37.At,e_37.Until,r_33.1,e_37.Areas,e_37.Text⟩:Alert)),r_33.2.L,r_33.2.f_at)else some (r_25,r_29.2.L,r_29.2.f_at)else some (b,u.2.1,u.2.2))=some v:=by
  cases hu:u.1 with
  | false=>exact⟨_,hb,rfl⟩
  | true =>
   have hpos:=u3 hu
   obtain ⟨i,s3,q1,q2,q3,q4⟩:=nO ⟨u.2.1,u.2.2⟩ a.length u2 (by omega) (by omega) (by omega)
   obtain ⟨f,s4,q5,q6⟩:=o6 s3 4 q4 (by omega) (by decide) (by decide)
   have hsub:uY a i (a.length:Int)=some (a.drop i.toNat):=by
    unfold uY
    rw [if_pos ⟨q2,by omega,by omega,by omega⟩]
    simp
   have hdl:(a.drop i.toNat).length=a.length-i.toNat:=List.length_drop
   have hcl:aP (a.drop i.toNat)=some (a.drop i.toNat):=by
    unfold aP
    rw [jJ _ _ (by simp;omega)];rfl
   have hg:∀x∈a.drop i.toNat,GA x:=λx hx=>ha.1 x (List.mem_of_mem_drop hx)
   simp only [cond_true,q1,ob_,hsub,hcl,q5]
   cases f with
   | false=>exact⟨_,⟨hg,by show (a.drop i.toNat).length<=6;omega⟩,rfl⟩
   | true =>
    obtain ⟨w,s5,q7,_,_,q8⟩:=gW s4 1 9 q6 (by omega) (by decide) (by decide) (by decide)
    have h0:0+(0:Int).toNat<(a.drop i.toNat).length:=by simp;omega
    have g0:=hg _ (List.getElem_mem h0)
    simp only [cond_true,q7,ob_,BD (xs:=a.drop i.toNat) (show (0:Int)<=0 by omega) (by omega),List.getElem?_eq_getElem h0]
    refine⟨_,⟨?_,?_⟩,rfl⟩
    ·exact BO hg ⟨g0.id,g0.sender,g0.refs,g0.rlen,g0.alen,g0.at_,g0.until_,g0.text⟩
    ·simp only [List.length_set];omega
 rw [v2]
 have hne:(alV a != alV a)=false:=by simp
 simp only [ob_,alV_R ha,I7 ha,hne,cond_false,alV_R v1,errs2A]
 by_cases h0:or0 (alV a) (alV v.1)=0
 ·obtain ⟨z1,z2⟩:=H8.1 h0
  obtain ⟨r,m1,m2,m3,m4⟩:=G9 ha v1 z1 z2
  have:(or0 (alV a) (alV v.1)==0)=true:=by simp [h0]
  simp only [m1,m2,this,cond_true,ob_,beq_self_eq_true,uK m3 (by omega),Ba]
 ·have:(or0 (alV a) (alV v.1)==0)=false:=by simpa using h0
  have he:=uK (r:=[]) (by simp) (by simp)
  simp only [Ep ha v1 h0,this,cond_false,ob_,beq_self_eq_true,cond_true,he,Ba]
end Go.Proofs.YtpmokglbipebcaaGreatDoor.Law

