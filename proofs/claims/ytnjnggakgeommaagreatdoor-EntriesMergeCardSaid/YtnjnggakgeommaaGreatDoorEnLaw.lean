import Derived.Test.YtnjnggakgeommaaGreatDoorEnMerge
import Derived.Test.YtnjnggakgeommaaGreatDoorEpLaw
import Derived.Test.YtnjnggakgeommaaGreatDoorKpAt
/-
  THE PLAIN LAW: CheckEntries, CheckPlayer and Merge are as specified for all entries and players.
-/
open Go Go.Eng Go.Proofs
namespace Go.Proofs.YtnjnggakgeommaaGreatDoor.Law
set_option linter.unusedVariables false
set_option linter.unusedSimpArgs false
def KN (l:List Entry):Prop:=(l.map (·.Key)).Nodup
theorem Dy {out:List Entry} {x:Entry} (hx:RE x) (ho:∀o∈out,RE o) (hn:KN out) {r:List Entry} (h:vQ out x=some r):(∀o∈r,RE o)/\r.length<=out.length+1/\KN r:=by
 unfold vQ at h
 cases hk:gy x.Key out with
 | none =>
  rw [hk]at h
  simp only [so_]at h
  subst h
  refine⟨λo ho' => ?_,by simp,?_⟩
  ·rcases List.mem_append.1 ho' with h1|h1
   ·exact ho o h1
   ·simp only [List.mem_singleton]at h1;rw [h1];exact hx
  ·unfold KN
   rw [List.map_append,List.nodup_append]
   refine⟨hn,by simp,λa ha b hb => ?_⟩
   simp only [List.map_cons,List.map_nil,List.mem_singleton]at hb
   obtain ⟨y,hy,rfl⟩:=List.mem_map.1 ha
   rw [hb]
   exact vz hk y hy
 | some i =>
  rw [hk]at h
  obtain ⟨hi,hk2⟩:=qL hk
  simp only [List.getElem?_eq_getElem hi]at h
  split at h
  ·cases h
  ·split at h
   ·simp only [so_]at h
    subst h
    refine⟨λo ho' => ?_,by simp,?_⟩
    ·rcases List.mem_or_eq_of_mem_set ho' with h1|h1
     ·exact ho o h1
     ·rw [h1];exact hx
    ·unfold KN
     have:(out.set i x).map (·.Key)=out.map (·.Key):=by
      rw [List.map_set]
      refine List.ext_getElem (by simp) (λj h1 h2 => ?_)
      rw [List.getElem_set]
      split
      ·rename_i e;subst e;simp [hk2]
      ·rfl
     rw [this];exact hn
   ·simp only [so_]at h
    subst h
    exact⟨ho,by omega,hn⟩
theorem yS:∀(xs:List Entry) (out:List Entry),(∀x∈xs,RE x)->(∀o∈out,RE o)->KN out->∀{r:List Entry},iT out xs=some r->(∀o∈r,RE o)/\r.length<=out.length+xs.length/\KN r
 | [],out,_,ho,hn,r,h=>by
  simp only [iT,so_]at h
  subst h
  exact⟨ho,by simp,hn⟩
 | x::xs,out,hx,ho,hn,r,h=>by
  simp only [iT,Option.bind_eq_some_iff]at h
  obtain ⟨o1,h1,h2⟩:=h
  obtain ⟨k1,k2,k3⟩:=Dy (hx x (by simp)) ho hn h1
  obtain ⟨m1,m2,m3⟩:=yS xs o1 (λy hy=>hx y (List.mem_cons_of_mem _ hy)) k1 k3 h2
  exact⟨m1,by simp only [List.length_cons];omega,m3⟩
theorem rQ {σ:Type} {B:Nat->Entry->σ->Option (Ctl σ (List Entry×Int))} (f:List Entry->σ) (hB:∀k x out,RE x->(∀o∈out,RE o)->out.length<=1000->B k x (f out)=some (x8 (vQ out x) f)):∀(xs:List Entry) (k:Nat) (out:List Entry),(∀x∈xs,RE x)->(∀o∈out,RE o)->KN out->out.length+xs.length<=1000 ->
  dR B xs k (f out)=some (x8 (iT out xs) f)
 | [],k,out,_,_,_,_=>rfl
 | x::xs,k,out,hx,ho,hn,hl=>by
  simp only [List.length_cons]at hl
  simp only [dR,hB k x out (hx x (by simp)) ho (by omega),ob_,iT]
  cases ha:vQ out x with
  | none=>rfl
  | some o1 =>
   obtain ⟨k1,k2,k3⟩:=Dy (hx x (by simp)) ho hn ha
   simp only [x8,ob_]
   exact rQ f hB xs (k+1) o1 (λy hy=>hx y (List.mem_cons_of_mem _ hy)) k1 k3 (by omega)
theorem vk:∀(xs out:List Entry),KN (out++xs)->iT out xs=some (out++xs)
 | [],out,_=>by simp [iT]
 | x::xs,out,h=>by
  have h1:gy x.Key out=none:=y7 λy hy=>by
   unfold KN at h
   rw [List.map_append,List.nodup_append]at h
   exact h.2.2 _ (List.mem_map.2 ⟨y,hy,rfl⟩) _ (by simp)
  have h2:vQ out x=some (out++[x]):=by unfold vQ;rw [h1]
  simp only [iT,h2,ob_]
  rw [vk xs (out++[x]) (by simpa using h)]
  simp
theorem xU:∀(xs ys out:List Entry),iT out (xs++ys)=(iT out xs).bind λo=>iT o ys
 | [],ys,out=>rfl
 | x::xs,ys,out=>by
  simp only [List.cons_append,iT]
  cases vQ out x with
  | none=>rfl
  | some o=>simp only [ob_];exact xU xs ys o
theorem Ei (a b:List Entry) (ha:a.length<=1000) (hb:b.length<=1000):bG [a,b]=some (a++b):=by
 unfold bG
 have e1:gN [a,b] 0 (λk x s=>aO k x s)=some (.go (((a.length+b.length:Nat)):Int)):=by
  rw [fq (by simp)]
  have q1:∀k,aO k a 0=some (.go (a.length:Int)):=λk=>by
   unfold aO
   rw [show (0:Int)+(a.length:Int)=(a.length:Int) by omega,bN (by omega),decide_eq_false (by omega)];rfl
  have q2:∀k,aO k b (a.length:Int)=some (.go ((a.length+b.length:Nat):Int)):=λk=>by
   unfold aO
   rw [bN (by omega),decide_eq_false (by omega)]
   simp
  simp only [dR,q1,q2,ob_]
 have e2:∃g,bH (((a.length+b.length:Nat)):Int)=some g:=by
  unfold bH
  have q:w64 ((((a.length+b.length:Nat)):Int)-w64 (0-0))=((a.length+b.length:Nat):Int):=by
   rw [bN (n:=0-0) (by decide),bN (by omega)];omega
  rw [decide_eq_false (by omega),cond_false,q]
  by_cases h:(((a.length+b.length:Nat)):Int)>0
  ·rw [decide_eq_true h,cond_true]
   have:zN (((a.length+b.length:Nat)):Int) 152=some ():=by unfold zN;rw [if_pos ⟨h,by omega,by omega⟩]
   rw [this];exact⟨_,rfl⟩
  ·rw [decide_eq_false h];exact⟨_,rfl⟩
 obtain ⟨g,e2⟩:=e2
 have e3:gN [a,b] ([]:List Entry) (λk x s=>aP k x s)=some (.go (a++b)):=by
  rw [fq (by simp)]
  have q1:∀k,aP k a []=some (.go a):=λk=>by
   unfold aP
   rw [jC _ _ (by simp;omega)];rfl
  have q2:∀k,aP k b a=some (.go (a++b)):=λk=>by
   unfold aP
   rw [jC _ _ (by omega)];rfl
  simp only [dR,q1,q2,ob_]
 simp only [e1,e2,e3,ob_,fZ]
theorem FL (e:Entry) (h:jD e):jb e=some e:=by
 unfold jb bK ed
 rw [jC _ _ (by have:=h.2.2.1;simp;omega),jC _ _ (by have:=h.2.2.2.1;simp;omega)]
 simp
theorem AY {out:List Entry} (ho:∀o∈out,RE o) (hn:KN out) (hl:out.length<=12):∃r ks,yP (out.map jE)=some ks/\gN ks ([]:List Entry) (λk x s=>eD (out.map jE) k x s)=some (.go r)/\bu out=some r/\r.Perm out:=by
 have hpw:(out.map jE).Pairwise (λa b=>a.1≠b.1):=List.pairwise_map.2 (List.pairwise_map.1 hn)
 obtain ⟨ks,k1,k2,k3⟩:=EQ (es:=out.map jE) (by simp;omega) (λe he=>by
  obtain ⟨o,ho',rfl⟩:=List.mem_map.1 he
  have:=(ho o ho').1.1
  unfold jF at this
  show o.Key.size<=_
  omega) hpw
 rw [List.map_map]at k2
 obtain ⟨r,r1,r2,r3⟩:=sort12 (cmp:=jT) (S:=bu) (λa b=>xq a.Key b.Key) (λ_=>rfl) (xs:=out) hl (λa _ b _=>rfl)
  (λa b h k=>by
   rw [wV]at h k
   exact absurd (lt_trans h k) (lw _))
  (λa b d h k q=>by
   rw [wV]at h k q
   rcases Ae a.Key b.Key with e|e|e
   ·exact h e
   ·rw [e]at q;exact k q
   ·exact k (lt_trans e q))
 refine⟨r,ks,k1,?_,r1,r2⟩
 let g:ByteArray->Entry:=λk=>(bL eqS (out.map jE) k).getD (⟨(⟨#[]⟩:ByteArray),(⟨#[]⟩:ByteArray),0,0,0,0,0,([]:List Int),0,0,0,([]:List ByteArray),false⟩:Entry)
 have hg:∀o∈out,g o.Key=o:=λo ho'=>by
  have:=get_mem hpw (List.mem_map.2 ⟨o,ho',rfl⟩:jE o∈out.map jE)
  have e:bL eqS (out.map jE) o.Key=some o:=this
  simp only [g,e,Option.getD_some]
 have hmem:∀k∈ks,∃o∈out,o.Key=k:=λk hk=>by
  obtain ⟨o,h1,h2⟩:=List.mem_map.1 (k2.mem_iff.1 hk)
  exact⟨o,h1,h2⟩
 have hgood:∀k∈ks,jD (g k):=λk hk=>by
  obtain ⟨o,h1,rfl⟩:=hmem k hk
  rw [hg o h1];exact (ho o h1).1
 have hlen:ks.length=out.length:=by rw [k2.length_eq];simp
 have hrun:=yY (L:=λk x s=>eD (out.map jE) k x s) (g:=g) ks 0 [] (by simp;omega) (λk x o hx hol=>by
  show eD (out.map jE) k x o=_
  unfold eD
  rw [FL _ (hgood x hx)]
  rfl)
 rw [fq (by omega),hrun,List.nil_append]
 have hp:(ks.map g).Perm out:=by
  refine (k2.map g).trans (List.Perm.of_eq ?_)
  rw [List.map_map]
  exact (List.map_congr_left λo ho'=>hg o ho').trans (List.map_id _)
 have hkey:∀k∈ks,(g k).Key=k:=λk hk=>by
  obtain ⟨o,h1,rfl⟩:=hmem k hk
  rw [hg o h1]
 have hs1:(ks.map g).Pairwise (λa b=>lt a.Key b.Key):=List.pairwise_map.2 (k3.imp_of_mem λha hb h=>by rw [hkey _ ha,hkey _ hb];exact h)
 have hnr:r.Pairwise (λa b=>a.Key≠b.Key):=(r2.pairwise_iff (λh k=>h k.symm)).2 (List.pairwise_map.1 hn)
 have hs2:r.Pairwise (λa b=>lt a.Key b.Key):=List.Pairwise.imp₂ (λa b h k=>by
  rw [wV]at h
  rcases Ae a.Key b.Key with e|e|e
  ·exact e
  ·exact absurd e k
  ·exact absurd e h) r3 hnr
 rw [Ep (R:=λa b=>lt a.Key b.Key) (λa b h k=>lw _ (lt_trans h k)) (hp.trans r2.symm) hs1 hs2]
theorem kn_of {l:List Entry} (h:fE l=0):KN l:=by
 have:=(uU l BL h).2
 exact List.pairwise_map.2 (this.imp λ{a b} h k=>by rw [k]at h;exact lw _ h)
theorem re_of {l:List Entry} (hg:∀e∈l,jD e) (h:fE l=0):∀e∈l,RE e:=λe he=>⟨hg e he,((uU l BL h).1 e he).1⟩
theorem checks {a b:List Entry} (ha:∀e∈a,jD e) (hb:∀e∈b,jD e) (la:a.length<=100) (lb:b.length<=100) :
  gN (List.range (2:Int).toNat) () (λk x s=>dL a b k x s)=some (bif fE a==0 then (bif fE b==0 then .go ()else .ret ([],fE b))else .ret ([],fE a)):=by
 have q1:∀x,dL a b 0 x ()=some (bif fE a != 0 then .ret ([],fE a)else .go ()):=λx=>by
  unfold dL
  have:idx ([a,b]:List (List Entry)) ((0:Nat):Int)=some a:=rfl
  rw [this,ob_,Fy ha la,ob_]
  cases fE a != 0 <;> rfl
 have q2:∀x,dL a b (0+1) x ()=some (bif fE b != 0 then .ret ([],fE b)else .go ()):=λx=>by
  unfold dL
  have:idx ([a,b]:List (List Entry)) ((0+1:Nat):Int)=some b:=rfl
  rw [this,ob_,Fy hb lb,ob_]
  cases fE b != 0 <;> rfl
 have er:List.range (2:Int).toNat=[0,1]:=rfl
 rw [er,fq (by simp)]
 simp only [dR,q1,ob_,bne]
 cases fE a==0 with
 | false=>rfl
 | true =>
  simp only [Bool.not_true,cond_false,cond_true,q2,ob_,bne]
  cases fE b==0 <;> rfl
theorem En {a b:List Entry} (ha:∀e∈a,jD e) (hb:∀e∈b,jD e) (la:a.length<=100) (lb:b.length<=100) (h:or0 (fE a) (fE b)≠0):gp a b=some ([],or0 (fE a) (fE b)):=by
 unfold gp
 rw [checks ha hb la lb,ob_]
 unfold or0 at h ⊢
 cases h1:fE a==0 with
 | false=>rfl
 | true =>
  rw [h1,cond_true]at h
  simp only [cond_true]
  cases h2:fE b==0 with
  | false=>rfl
  | true=>exact absurd (eq_of_beq h2) h
theorem FR {a b:List Entry} (ha:∀e∈a,jD e) (hb:∀e∈b,jD e) (la:a.length<=6) (lb:b.length<=6) (h1:fE a=0) (h2:fE b=0) :
  ∃r,gp a b=some r/\jO a b=some r/\(∀x∈r.1,RE x)/\r.1.length<=12:=by
 have ra:=re_of ha h1
 have rb:=re_of hb h2
 have ka:=kn_of h1
 have hstart:iT [] (a++b)=iT a b:=by
  rw [xU,vk a [] (by simpa using ka)];rfl
 have hm:∀e∈a++b,RE e:=λe he=>(List.mem_append.1 he).elim (ra e) (rb e)
 have hP:=rQ (B:=λk x s=>eu k x s) (List.map jE) (λk x out hx ho _=>EW hx ho k) (a++b) 0 [] hm (by simp) (by simp [KN]) (by simp;omega)
 rw [hstart]at hP
 have hD:=rQ (B:=λk x s=>eZ k x s) id (λk x out hx ho hl=>docStep hx ho hl k) b 0 a rb ra ka (by omega)
 have hP':gN (a++b) ([]:List (ByteArray×Entry)) (λk x s=>eu k x s)=some (x8 (iT a b) (List.map jE)):=by
  rw [fq (by simp;omega)];exact hP
 have hD':gN b a (λk x s=>eZ k x s)=some (x8 (iT a b) id):=by
  rw [fq (by omega)];exact hD
 have hc:aQ a=some a:=by
  unfold aQ
  rw [jC _ _ (by simp;omega)];rfl
 unfold gp jO
 rw [checks ha hb (by omega) (by omega),h1,h2,hc]
 simp only [beq_self_eq_true,cond_true,ob_,fZ,Ei a b (by omega) (by omega),hP',hD']
 cases hab:iT a b with
 | none=>exact⟨_,rfl,rfl,by simp,by simp⟩
 | some out =>
  obtain ⟨o1,o2,o3⟩:=yS b a rb ra ka hab
  obtain ⟨r,ks,s1,s2,s3,s4⟩:=AY o1 o3 (by omega)
  have hsm:nV r out=some ():=by unfold nV;rw [if_pos s4.length_eq]
  have hl:=s4.length_eq
  have e1:decide ((((out.map jE).length:Nat):Int)>200)=false:=decide_eq_false (by simp;omega)
  have e2:decide (((r.length:Nat):Int)>200)=false:=decide_eq_false (by omega)
  refine⟨(r,0),?_,?_,λx hx=>o1 x (s4.mem_iff.1 hx),by show r.length<=12;omega⟩
  ·simp only [x8,fZ,e1,cond_false,l8,s1,ob_,s2]
  ·simp only [x8,fZ,id,s3,ob_,hsm,e2,cond_false]
theorem uW {r:List Entry} (h:∀x∈r,RE x) (hl:r.length<=1000):aM r r=some true:=by
 unfold aM
 have e1:((r.length:Int) != (r.length:Int))=false:=by simp
 obtain ⟨s,s1,_⟩:=Du (body:=λk x s=>aL r k x s) (ρ:=Bool) (λ_ _=>True) (xs:=r) (s:=()) (by omega) (λk x s hx _=>by
  refine⟨(),?_,trivial⟩
  unfold aL
  have hx':=List.mem_of_getElem? hx
  rw [mM,hx,ob_,sameR (h x hx') (h x hx')]
  simp) trivial
 rw [e1,cond_false,s1];rfl
theorem entriesMerge (l:List Int):jB l=some true:=by
 obtain ⟨a,s1,h1,h2,h3,h4⟩:=xH ⟨l,0⟩ (b:=0) ⟨Int.le_refl _,Int.le_refl _⟩ (by decide)
 obtain ⟨b,s2,h5,h6,h7,h8⟩:=xH s1 h2 (by omega)
 obtain ⟨p,s3,h9,h10,h11⟩:=Ex s2 h6 (by omega)
 obtain ⟨c,s4,h12,h13⟩:=mU s3 2 h10 (by omega) (by decide) (by decide)
 obtain ⟨v,v1,v2,v3⟩:∃v:List Entry×List Int×Int,(bif c then (aQ a).bind λr_21=>(gN (List.range ((r_21.length:Int)).toNat) (r_21,s4.L,s4.f_at) (λk x s=>eG k x s)).bind λo_33=>dz o_33 (λs_30=>some (s_30.1,s_30.2.1,s_30.2.2)) (λ_=>none)else some (b,s4.L,s4.f_at))=some v/\v.1.length<=4/\∀e∈v.1,jD e:=by
  cases c with
  | false=>exact⟨_,rfl,h7,h8⟩
  | true =>
   have hc:aQ a=some a:=by
    unfold aQ
    rw [jC _ _ (by simp;omega)];rfl
   obtain ⟨t,t1,t2⟩:=Du (body:=λk x s=>eG k x s) (ρ:=Unit) (λk t=>t.1.length=a.length/\(∀e∈t.1,jD e)/\Ok ⟨t.2.1,t.2.2⟩ (1000+2*k)) (xs:=List.range ((a.length:Int)).toNat) (s:=(a,s4.L,s4.f_at)) (by simp;omega) (λk x t hx ht=>by
    obtain ⟨i1,i2,i3⟩:=ht
    have hk:k<a.length:=by
     have:=(List.getElem?_eq_some_iff.1 hx).1
     simpa using this
    have hk2:0+((k:Int)).toNat<t.1.length:=by omega
    obtain ⟨v,s5,q1,q2,q3,q4⟩:=xO ⟨t.2.1,t.2.2⟩ 0 2 i3 (by omega) (by decide) (by decide) (by decide)
    obtain ⟨d,s6,q5,q6⟩:=mU s5 3 q4 (by omega) (by decide) (by decide)
    have g0:=i2 _ (List.getElem_mem hk2)
    have hin:∀(j:Nat) (y:Entry),inR (k:Int) (t.1.set j y)=some ():=λj y=>uO (by omega) (by rw [List.length_set];omega)
    unfold eG
    simp only [q1,ob_,uO (show (0:Int)<=(k:Int) by omega) (show (k:Int)<t.1.length by omega),get_at hk2,q5,List.length_set,nk hk2,List.set_set,hin]
    exact⟨_,rfl,by simpa using i1,o8 i2 g0,q6.mono (by omega)⟩) ⟨rfl,h4,h13.mono (by omega)⟩
   refine⟨(t.1,t.2.1,t.2.2),?_,by show t.1.length<=4;omega,t2.2.1⟩
   simp only [cond_true,hc,ob_,t1,fZ]
 have hR:=entsR h4 (by omega)
 have hR2:=entsR v3 (by omega)
 have hK:=Fy h4 (by omega)
 have hf:(fE a != fE a)=false:=by simp
 have hp:(yR p != yR p)=false:=by simp
 simp only [jB,h1,h5,h9,h12,ob_]
 rw [v1]
 simp only [ob_,hR,hR2,hK,hf,hp,cond_false,playK p h11,playR p h11,errs2]
 by_cases h0:or0 (fE a) (fE v.1)=0
 ·obtain ⟨z1,z2⟩:=or0_0 h0
  obtain ⟨r,m1,m2,m3,m4⟩:=FR h4 v3 (by omega) (by omega) z1 z2
  have:(or0 (fE a) (fE v.1)==0)=true:=by simp [h0]
  simp only [m1,m2,this,cond_true,ob_,beq_self_eq_true,uW m3 (by omega),AQ]
 ·have:(or0 (fE a) (fE v.1)==0)=false:=by simpa using h0
  have he:=uW (r:=[]) (by simp) (by simp)
  simp only [En h4 v3 (by omega) (by omega) h0,this,cond_false,ob_,beq_self_eq_true,cond_true,he,AQ]
end Go.Proofs.YtnjnggakgeommaaGreatDoor.Law

