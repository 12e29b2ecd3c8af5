/-
  THE PLAIN LAW (part 3).
-/
import Derived.Test.YthcdokkcamcnmaaGreatDoorPl2
open Go Go.Eng
namespace Go.Proofs.YthcdokkcamcnmaaGreatDoor.Law
set_option linter.unusedVariables false
set_option linter.unusedSimpArgs false
noncomputable def delG {α:Type} (z:α) (f:α->Option Bool) (xs:List α):Option (List α) :=
 (ixF f xs).bind λr=>bif (r==(-1))then some xs else (iI (xs,r,(w64 (r+1))) (λs=>uY f s)).bind λo=>bv o (λs_12=>(qI s_12.1 s_12.2.1 (s_12.1.length:Int)).bind λ_=>(qI (s_12.1.take ((s_12.2.1).toNat)++List.replicate (((s_12.1.length:Int)).toNat-(s_12.2.1).toNat) z++s_12.1.drop (((s_12.2.1).toNat)+(((s_12.1.length:Int)).toNat-(s_12.2.1).toNat))) 0 s_12.2.1).bind λ_=>some ((s_12.1.take ((s_12.2.1).toNat)++List.replicate (((s_12.1.length:Int)).toNat-(s_12.2.1).toNat) z++s_12.1.drop (((s_12.2.1).toNat)+(((s_12.1.length:Int)).toNat-(s_12.2.1).toNat))).take ((s_12.2.1).toNat))) (λ_=>none)
theorem delG_eq {α:Type} {z:α} {f:α->Option Bool} {q:α->Bool} {xs:List α} (hf:∀x∈xs,f x=some (q x)) (hl:xs.length<=1000000000):delG z f xs=some (xs.filter (λx => !q x)):=by
 unfold delG
 rcases ixF_eq hf hl with⟨h1,h2⟩|⟨k,hk,h1,h2,h3⟩
 ·rw [h1,ob_,filter_all (λx hx=>by rw [h2 x hx];rfl)];rfl
 ·have hne:((k:Int)==(-1))=false:=by simp
  have w1:w64 ((k:Int)+1)=((k+1:Nat):Int):=by rw [aP (by omega)];omega
  obtain ⟨l',i',g1,g2,g3,g4⟩:=CB hf hl (xs.length-(k+1)) xs k (k+1) (by omega) (by omega) rfl (by
   rw [List.take_succ_eq_append_getElem hk,List.filter_append,filter_all (λx hx=>by rw [h3 x hx];rfl)];simp [h2]) rfl
  have g1':=iU g1
  rw [h1,ob_,hne,cond_false,w1,g1',ob_,lT]
  have hs1:qI l' (i':Int) (l'.length:Int)=some ():=by
   unfold qI;rw [if_pos ⟨by omega,by omega,by omega,by omega⟩]
  simp only [hs1,ob_,Int.toNat_natCast]
  generalize hL:(l'.take i'++List.replicate (l'.length-i') z++l'.drop (i'+(l'.length-i')))=L
  have hLt:L.take i'=l'.take i':=by
   rw [<- hL,List.append_assoc,List.take_append_of_le_length (by rw [List.length_take];omega),List.take_take,Nat.min_self]
  have hLl:i'<=L.length:=by
   rw [<- hL];simp only [List.length_append,List.length_take,List.length_replicate];omega
  have hs2:qI L 0 (i':Int)=some ():=by
   unfold qI;rw [if_pos ⟨by omega,by omega,by omega,by omega⟩]
  rw [hs2,ob_,hLt,g4]
theorem xc {l:List Entry} {p:Player} {w:Window} {s:Span}:s∈lg l p w↔∃e∈l,pX e p=true/\∃x∈tiL e p.Zone w,s=⟨some e,x⟩:=by
 unfold lg mY
 rw [List.mem_flatMap]
 constructor
 ·rintro ⟨e,he,hs⟩
  cases hf:pX e p with
  | false=>rw [hf]at hs;cases hs
  | true =>
   rw [hf,cond_true,List.mem_map]at hs
   obtain ⟨x,hx,rfl⟩:=hs
   exact⟨e,he,hf,x,hx,rfl⟩
 ·rintro ⟨e,he,hf,x,hx,rfl⟩
  refine⟨e,he,?_⟩
  rw [hf,cond_true]
  exact List.mem_map.2 ⟨x,hx,rfl⟩
theorem Al {l:List Entry} {p:Player} (h:CE l p) (w:Window):(lg l p w).length<=16004:=by
 have h1:=CX (l:=l) (f:=mY p w) (n:=4001) (λx hx=>EF h w hx)
 have h2:=h.len
 have h3:l.length*4001<=4*4001:=Nat.mul_le_mul_right _ h2
 unfold lg
 omega
theorem LJ {l:List Entry} {p:Player} (h:CE l p) {w:Window} {t:Int} {s:Span} (hs:s∈lg l p w) (h1:s.f_time.From<=t) (h2:t<s.f_time.To):∃x∈lL l p t,s=qP x:=by
 obtain ⟨e,he,hf,x,hx,rfl⟩:=xc.1 hs
 obtain ⟨d,d1,d2,d3,rfl⟩:=(Ci (h.right e he)).1 hx
 obtain ⟨p1,p2,p3⟩:=Gb.1 d3
 have hh:vN e p.Zone t d=true:=oJ.2 ⟨p1,d1,d2,p2,h1,h2⟩
 exact⟨(e,tF e p.Zone d),xA.2 ⟨he,hf,(zB (h.right e he)).2 ⟨d,hh,rfl⟩⟩,rfl⟩
theorem EN {l:List Entry} {p:Player} (h:CE l p) {w:Window} {t:Int} (hw:w.From<=t/\t<w.To) {x:Entry×Int} (hx:x∈lL l p t):qP x∈lg l p w/\(qP x).f_time.From<=t/\t<(qP x).f_time.To:=by
 obtain ⟨h1,h2,h3⟩:=xA.1 hx
 obtain ⟨d,hd,hb⟩:=(zB (h.right _ h1)).1 h3
 obtain ⟨g1,g2,g3,g4,g5,g6⟩:=oJ.1 hd
 refine⟨xc.2 ⟨x.1,h1,h2,tW x.1 p.Zone d,(Ci (h.right _ h1)).2 ⟨d,g2,g3,Gb.2 ⟨g1,g4,by omega⟩,rfl⟩,?_⟩,?_,?_⟩
 ·unfold qP
  rw [hb];rfl
 ·show x.2<=t
  omega
 ·show t<x.2+o7 x.1*60000
  omega
structure ES (m:List Span) (w:Window) (E:List Int):Prop where
 from_:w.From∈E
 to_:w.To∈E
 in_:∀x∈E,w.From<=x/\x<=w.To
 has:∀s∈m,(cutW w s.f_time).From∈E/\(cutW w s.f_time).To∈E
theorem cut_in {l:List Entry} {p:Player} (h:CE l p) {w:Window} {s:Span} (hs:s∈lg l p w):w.From<=(cutW w s.f_time).From/\(cutW w s.f_time).From<=w.To/\w.From<=(cutW w s.f_time).To/\(cutW w s.f_time).To<=w.To:=by
 obtain ⟨e,he,hf,x,hx,rfl⟩:=xc.1 hs
 obtain ⟨d,d1,d2,d3,rfl⟩:=(Ci (h.right e he)).1 hx
 exact Ha (h.right e he) ((xG (h.right e he)).2 ⟨d,d1,d2,d3,rfl⟩)
theorem Og {l:List Entry} {p:Player} (h:CE l p) {w:Window} (hok:zl w) (hw:w.From<=w.To):∃C,lU l p w=some C/\C.Pairwise (· < ·)/\ES (lg l p w) w C/\C.length<=40000:=by
 have hl:=Al h w
 unfold lU
 rw [spans_eq h hok,ob_]
 obtain ⟨E,e1,e2,e3⟩:=og (body:=λk x s=>jM w k x s) (λk s=>ES ((lg l p w).take k) w s/\s.length=2+2*k) (xs:=lg l p w) (s:=([w.From,w.To]:List Int)) (by omega) (λk x s hx ⟨i1,i2⟩=>by
  have hk:k<(lg l p w).length:=(List.getElem?_eq_some_iff.1 hx).1
  have et:(lg l p w).take (k+1)=(lg l p w).take k++[x]:=by rw [List.take_add_one,hx];rfl
  obtain ⟨b1,b2,b3,b4⟩:=cut_in h (List.mem_of_getElem? hx)
  unfold jM
  show ∃s',((some (cutW w x.f_time)).bind λr_22=>_)=_/\_
  rw [ob_,jS _ _ (by simp only [List.length_cons,List.length_nil];omega)]
  refine⟨_,rfl,⟨List.mem_append_left _ i1.from_,List.mem_append_left _ i1.to_,λy hy => ?_,λy hy => ?_⟩,?_⟩
  ·rcases List.mem_append.1 hy with hy|hy
   ·exact i1.in_ y hy
   ·simp only [List.mem_cons,List.not_mem_nil,or_false]at hy
    rcases hy with rfl|rfl <;> omega
  ·rw [et]at hy
   rcases List.mem_append.1 hy with hy|hy
   ·exact⟨List.mem_append_left _ (i1.has y hy).1,List.mem_append_left _ (i1.has y hy).2⟩
   ·rw [List.mem_singleton.1 hy]
    exact⟨List.mem_append_right _ (by simp),List.mem_append_right _ (by simp)⟩
  ·rw [List.length_append];simp only [List.length_cons,List.length_nil];omega) ⟨⟨by simp,by simp,λx hx=>by
   simp only [List.mem_cons,List.not_mem_nil,or_false]at hx
   rcases hx with rfl|rfl <;> omega,λe he=>(by cases he)⟩,by simp⟩
 rw [List.take_length]at e2
 rw [e1]
 simp only [ob_,bv]
 have hne:neL E=some ():=by
  unfold neL
  have:=List.ne_nil_of_mem e2.from_
  first | rw [if_pos this] | (cases E with | nil=>exact absurd rfl this | cons a E=>rfl)
 obtain ⟨s,C,c1,c2,c3,c4,c5,c6⟩:=oU E (by omega)
 have c2':jZ s E=some ():=by unfold jZ;rw [if_pos c2]
 rw [hne,ob_,c1,ob_,c2',ob_,c3,ob_]
 refine⟨C,rfl,c4,⟨(c5 _).2 e2.from_,(c5 _).2 e2.to_,λx hx=>e2.in_ x ((c5 x).1 hx),λe he => ?_⟩,by omega⟩
 obtain ⟨a,b⟩:=e2.has e he
 exact⟨(c5 _).2 a,(c5 _).2 b⟩
theorem Cc {xs:List Span} (hc:∀a∈xs,∀b∈xs,iV a b=some (cE (xO a) (xO b))) (hne:xs ≠ []) (hl:xs.length<=1000000):∃m,bn xs=some m/\m∈xs/\∀s∈xs,rD (xO s) (xO m)=false:=by
 have hpos:0<xs.length:=List.length_pos_iff.2 hne
 have h0:xs[(0+(0:Int).toNat)]? = some xs[0]:=List.getElem?_eq_getElem hpos
 unfold bn
 rw [decide_eq_false (by omega),cond_false,ob_,yh (by omega) (by omega),ob_,h0,ob_]
 obtain ⟨s,s1,s2⟩:=xD (body:=λs=>aZ xs s) (λk s=>s.1=((k+1:Nat):Int)/\∃m,s.2=(m.f_e,m.f_time.From,m.f_time.To)/\m∈xs/\∀(j:Nat) (y:Span),j<=k->xs[j]? = some y->rD (xO y) (xO m)=false) (xs.length-1) (λk s hk ⟨i1,m,i2,i3,i4⟩=>by
  obtain ⟨i,t⟩:=s
  simp only at i1 i2
  subst i1 i2
  have hkl:k+1<xs.length:=by omega
  have hx:xs[(0+(((k+1:Nat):Int)).toNat)]? = some xs[k+1]:=by rw [show 0+(((k+1:Nat):Int)).toNat=k+1 by omega];exact List.getElem?_eq_getElem hkl
  have hm:=List.getElem_mem hkl
  have hcm:iV xs[k+1] (⟨m.f_e,(⟨m.f_time.From,m.f_time.To⟩:Window)⟩:Span)=some (cE (xO xs[k+1]) (xO m)):=hc _ hm _ i3
  have w1:w64 (((k+1:Nat):Int)+1)=((k+1+1:Nat):Int):=by rw [aP (by omega)];omega
  unfold aZ
  simp only []
  rw [decide_eq_true (by omega),cond_true,yh (by omega) (by omega),ob_,hx,ob_,hcm,ob_,w1]
  by_cases hlt:cE (xO xs[k+1]) (xO m)<0
  ·rw [decide_eq_true hlt,cond_true]
   simp only [ob_]
   refine⟨_,rfl,rfl,xs[k+1],rfl,hm,λj y hj hy => ?_⟩
   cases hb:rD (xO y) (xO xs[k+1])with
   | false=>rfl
   | true =>
    by_cases hjk:j=k+1
    ·subst hjk
     rw [List.getElem?_eq_getElem hkl,so_]at hy
     rw [<- hy,wQ]at hb;cases hb
    ·have h1:=i4 j y (by omega) hy
     rw [uK _ _ _ hb (Kb.1 hlt)]at h1;cases h1
  ·rw [decide_eq_false hlt,cond_false]
   simp only [ob_]
   refine⟨_,rfl,rfl,m,rfl,i3,λj y hj hy => ?_⟩
   by_cases hjk:j=k+1
   ·subst hjk
    rw [List.getElem?_eq_getElem hkl,so_]at hy
    rw [<- hy]
    cases hb:rD (xO xs[k+1]) (xO m)with
    | false=>rfl
    | true=>exact absurd (Kb.2 hb) hlt
   ·exact i4 j y (by omega) hy) (λs ⟨i1,m,i2,i3,i4⟩=>by
  obtain ⟨i,t⟩:=s
  simp only at i1 i2
  subst i1 i2
  unfold aZ
  simp only []
  rw [decide_eq_false (by omega),cond_false]) (s:=(1,xs[0].f_e,xs[0].f_time.From,xs[0].f_time.To)) ⟨rfl,xs[0],rfl,List.getElem_mem hpos,λj y hj hy=>by
   obtain rfl:j=0:=by omega
   rw [List.getElem?_eq_getElem hpos,so_]at hy
   rw [<- hy,wQ]⟩
 obtain ⟨i1,m,i2,i3,i4⟩:=s2
 obtain ⟨i,t⟩:=s
 simp only at i1 i2
 subst i2
 rw [s1]
 refine⟨m,rfl,i3,λy hy => ?_⟩
 obtain ⟨j,hj⟩:=List.getElem?_of_mem hy
 have hjl:j<xs.length:=(List.getElem?_eq_some_iff.1 hj).1
 exact i4 j y (by omega) hj
theorem NS {l:List Entry} {p:Player} (h:CE l p) {w:Window} {t:Int} (hw:w.From<=t/\t<w.To) {xs:List Span} (hx:∀s,s∈xs↔s∈lg l p w/\s.f_time.From<=t/\t<s.f_time.To) (hl:xs.length<=1000000) :
  (bif (decide ((xs.length:Int)>0))then (neL xs).bind λ_=>(bn xs).bind λr_73=>(r_73.f_e).bind λy_75=>some y_75.Key else some (⟨#[]⟩:ByteArray))=some (mh l p t):=by
 cases hxs:xs with
 | nil =>
  have hn:lL l p t=[]:=List.eq_nil_iff_forall_not_mem.2 (λx hc=>by
   have:=(hx _).2 (EN h hw hc)
   rw [hxs]at this;cases this)
  rw [JG hn];rfl
 | cons a r =>
  have hsp:∀s∈xs,∃x∈lL l p t,s=qP x:=λs hs=>by
   obtain ⟨h1,h2,h3⟩:=(hx s).1 hs
   exact LJ h h1 h2 h3
  obtain ⟨m,m1,m2,m3⟩:=Cc (xs:=xs) (λa ha b hb=>by
   obtain ⟨x,_,rfl⟩:=hsp a ha
   obtain ⟨y,_,rfl⟩:=hsp b hb
   exact Ht x y) (by rw [hxs];simp) hl
  obtain ⟨x,x1,rfl⟩:=hsp m m2
  rw [<- hxs,decide_eq_true (by rw [hxs];simp only [List.length_cons];omega),cond_true]
  have hne:neL xs=some ():=by rw [hxs];rfl
  rw [hne,ob_,m1,ob_]
  show (some x.1).bind _=_
  rw [ob_,JZ h.keys p t x1 (λy hy=>m3 _ ((hx _).2 (EN h hw hy)))]
theorem MX {all:List Span} {E:List Int} {i:Nat} {a:Int} (ha:E[i]? = some a) (hl:all.length<=1000000) (st:(List Slot_)×(List Span)×Int×Int) (hst:st.2.2.2=(i:Int)) {op:List Span} {nx:Nat} (hnx:nx<=all.length) (hop:op.length<=nx) :
  ∃n',nx<=n'/\n'<=all.length/\iI (op,(nx:Int)) (λs=>gy all E st s)=some (.go (op++(all.drop nx).take (n'-nx),(n':Int)))/\(∀s∈(all.drop nx).take (n'-nx),s.f_time.From<=a)/\(∀s,all[n']? = some s->a<s.f_time.From):=by
 have htw:∃N,N<=(all.drop nx).length/\(∀s∈(all.drop nx).take N,s.f_time.From<=a)/\(∀s,(all.drop nx)[N]? = some s->a<s.f_time.From):=by
  generalize all.drop nx=ys
  induction ys with
  | nil=>exact⟨0,Nat.le_refl _,λs hs=>(by cases hs),λs hs=>(by cases hs)⟩
  | cons y ys ih =>
   by_cases hy:y.f_time.From<=a
   ·obtain ⟨N,n1,n2,n3⟩:=ih
    refine⟨N+1,by simpa using n1,λs hs => ?_,λs hs=>n3 s (by simpa using hs)⟩
    rw [List.take_succ_cons]at hs
    rcases List.mem_cons.1 hs with rfl|hs
    ·exact hy
    ·exact n2 s hs
   ·exact⟨0,Nat.zero_le _,λs hs=>(by cases hs),λs hs=>by
     rw [List.getElem?_cons_zero,so_]at hs;rw [<- hs];omega⟩
 obtain ⟨N,n1,n2,n3⟩:=htw
 rw [List.length_drop]at n1
 refine⟨nx+N,by omega,by omega,?_,by rw [show nx+N-nx=N by omega];exact n2,λs hs=>n3 s (by rw [List.getElem?_drop];exact hs)⟩
 rw [show nx+N-nx=N by omega]
 obtain ⟨s,s1,s2,s3⟩:=xD (body:=λs=>gy all E st s) (λk s=>s.1=op++(all.drop nx).take k/\s.2=((nx+k:Nat):Int)) N (λk s hk ⟨i1,i2⟩=>by
  obtain ⟨o,n⟩:=s
  simp only at i1 i2
  subst i1 i2
  have hkl:nx+k<all.length:=by omega
  have hx:all[(0+(((nx+k:Nat):Int)).toNat)]? = some all[nx+k]:=by rw [show 0+(((nx+k:Nat):Int)).toNat=nx+k by omega];exact List.getElem?_eq_getElem hkl
  have hd:(all.drop nx)[k]? = some all[nx+k]:=by rw [List.getElem?_drop];exact List.getElem?_eq_getElem hkl
  have hfr:all[nx+k].f_time.From<=a:=n2 _ (List.mem_of_getElem? (i:=k) (by rw [List.getElem?_take,if_pos hk];exact hd))
  have et:(all.drop nx).take (k+1)=(all.drop nx).take k++[all[nx+k]]:=by rw [List.take_add_one,hd];rfl
  have hlen:((all.drop nx).take k).length<=all.length:=by rw [List.length_take,List.length_drop];omega
  have w1:w64 (((nx+k:Nat):Int)+1)=((nx+(k+1):Nat):Int):=by rw [aP (by omega)];omega
  unfold gy
  simp only []
  rw [decide_eq_true (by omega),cond_true,yh (by omega) (by omega),ob_,hx,ob_,hst,jP,ha,ob_,ob_,decide_eq_true hfr,cond_true,ob_,ob_,jS _ _ (by rw [List.length_append];simp only [List.length_cons,List.length_nil];omega),ob_,w1]
  exact⟨_,rfl,by simp only [];rw [et,List.append_assoc],rfl⟩) (λs ⟨i1,i2⟩=>by
  obtain ⟨o,n⟩:=s
  simp only at i1 i2
  subst i1 i2
  unfold gy
  simp only []
  by_cases hend:nx+N<all.length
  ·have hx:all[(0+(((nx+N:Nat):Int)).toNat)]? = some all[nx+N]:=by rw [show 0+(((nx+N:Nat):Int)).toNat=nx+N by omega];exact List.getElem?_eq_getElem hend
   have hfr:=n3 all[nx+N] (by rw [List.getElem?_drop];exact List.getElem?_eq_getElem hend)
   rw [decide_eq_true (by omega),cond_true,yh (by omega) (by omega),ob_,hx,ob_,hst,jP,ha,ob_,ob_,decide_eq_false (by omega),cond_false]
  ·rw [decide_eq_false (by omega),cond_false,ob_,cond_false]) (s:=(op,(nx:Int))) ⟨by simp,by simp⟩
 obtain ⟨o,n⟩:=s
 simp only at s2 s3
 rw [s1,s2,s3]
theorem delNil (E:List Int) (i:Int):bG E i=some ():=by
 have:bJ ([]:List Span) (λx0=>fM x0 E i)=some (-1):=by
  unfold bJ
  rw [fe (by simp)];rfl
 unfold bG
 rw [this];rfl
theorem delS {E:List Int} {i:Nat} {a:Int} (ha:E[i]? = some a) {xs:List Span} (hl:xs.length<=1000000):bD xs E (i:Int)=some (xs.filter (λs => !decide (s.f_time.To<=a))):=by
 have e:bD xs E (i:Int)=delG (⟨none,(⟨0,0⟩:Window)⟩:Span) (λe=>fM e E (i:Int)) xs:=rfl
 rw [e]
 refine delG_eq (λx _ => ?_) (by omega)
 unfold fM
 rw [jP,ha];rfl
theorem J3 {l:List Entry} {p:Player} (h:CE l p) {w:Window} (hok:zl w) (hw:w.From<=w.To):∃t,fq l p w=some t/\fP (mh l p) w.To w.From t/\t.length<=40000:=by
 have hsl:=Al h w
 obtain ⟨C,c1,c2,c3,c4⟩:=Og h hok hw
 obtain ⟨d1,d2⟩:=Fz c2 c3.from_ c3.to_ c3.in_
 obtain ⟨all,a1,a2,a3⟩:=J2 (F:=λa b=>iQ a b) (λa b=>mR a.f_time.From b.f_time.From) (xs:=lg l p w) (by omega) (λa _ b _=>by
  unfold iQ;rw [xE];rfl) (λa _=>by rw [ul];omega) (λa _ b _ d _ h1 h2=>by rw [ul]at *;omega) (λa _ b _ d _ h1 h2=>by rw [ul]at *;omega)
 have a3':all.Pairwise (λa b=>a.f_time.From<=b.f_time.From):=a3.imp (λ{a b} q=>by rw [ul]at q;omega)
 have hal:all.length<=16004:=by rw [a2.length_eq];exact hsl
 have hsort:gZ (lg l p w)=some all:=a1
 have hsame:jZ all (lg l p w)=some ():=by unfold jZ;rw [if_pos a2.length_eq]
 unfold fq
 rw [spans_eq h hok,ob_,hsort,ob_,hsame,ob_,c1,ob_]
 have hlen:0<C.length:=(List.getElem?_eq_some_iff.1 d1).1
 have hedge:∀(i:Nat) (a b:Int),C[i]? = some a->C[i+1]? = some b->∀t,a<=t->t<b->mh l p t=mh l p a:=λi a b ha hb' t t1 t2=>IE h.right c2 c3.in_ (λe he hf x hx=>by
  obtain ⟨d,q1,q2,q3,rfl⟩:=(xG (h.right e he)).1 hx
  exact c3.has ⟨some e,tW e p.Zone d⟩ (xc.2 ⟨e,he,hf,tW e p.Zone d,(Ci (h.right e he)).2 ⟨d,q1,q2,q3,rfl⟩,rfl⟩)) ha hb' t1 t2
 obtain ⟨s,s1,s2⟩:=xD (body:=λs=>gz C all s) (λk s=>s.2.2.2=(k:Int)/\s.1.length<=k/\∃(a:Int) (nx:Nat),C[k]? = some a/\fP (mh l p) a w.From s.1/\s.2.2.1=(nx:Int)/\nx<=all.length/\s.2.1.length<=nx/\(∀x∈s.2.1,x∈all.take nx)/\(∀x∈all.take nx,x.f_time.From<=a/\(x∈s.2.1\/x.f_time.To<=a))) (C.length-1) (λk s hk ⟨i1,i2,a,nx,i3,i4,i5,i6,i7,i8,i9⟩=>by
  have hst:=i1
  obtain ⟨out,op,n,i⟩:=s
  simp only at i1 i2 i4 i5 i7 i8 i9
  subst i1 i5
  have hb:C[k+1]? = some C[k+1]:=List.getElem?_eq_getElem (by omega)
  have hab:=EZ c2 i3 hb
  have ain:=c3.in_ a (List.mem_of_getElem? i3)
  have bin:=c3.in_ C[k+1] (List.getElem_mem _)
  obtain ⟨n',m1,m2,m3,m4,m5⟩:=MX i3 (by omega) (out,op,(nx:Int),(k:Int)) rfl i6 i7
  have etk:all.take n'=all.take nx++(all.drop nx).take (n'-nx):=by
   have:=List.take_append_drop nx (all.take n')
   rw [List.take_take,Nat.min_eq_left m1,List.drop_take]at this
   exact this.symm
  have hmem:∀x,x∈(op++(all.drop nx).take (n'-nx)).filter (λs => !decide (s.f_time.To<=a))↔x∈lg l p w/\x.f_time.From<=a/\a<x.f_time.To:=λx=>by
   rw [List.mem_filter,List.mem_append,<- a2.mem_iff]
   constructor
   ·rintro ⟨h1,h2⟩
    have hto:a<x.f_time.To:=by simpa using h2
    rcases h1 with h1|h1
    ·have:=i8 x h1
     exact⟨List.mem_of_mem_take this,(i9 x this).1,hto⟩
    ·exact⟨List.mem_of_mem_drop (List.mem_of_mem_take h1),m4 x h1,hto⟩
   ·rintro ⟨h1,h2,h3⟩
    refine⟨?_,by simpa using h3⟩
    have hin:x∈all.take n':=by
     obtain ⟨j,hj⟩:=List.getElem?_of_mem h1
     have hjl:=(List.getElem?_eq_some_iff.1 hj).1
     by_cases hjn:j<n'
     ·exact List.mem_of_getElem? (i:=j) (by rw [List.getElem?_take,if_pos hjn];exact hj)
     ·exfalso
      have hn:n'<all.length:=by omega
      have h5:=m5 all[n'] (List.getElem?_eq_getElem hn)
      by_cases e:j=n'
      ·subst e
       rw [List.getElem?_eq_getElem hn,so_]at hj
       rw [hj]at h5;omega
      ·have:=List.pairwise_iff_getElem.1 a3' n' j hn hjl (by omega)
       rw [List.getElem?_eq_getElem hjl,so_]at hj
       rw [hj]at this;omega
    rw [etk]at hin
    rcases List.mem_append.1 hin with hin|hin
    ·rcases (i9 x hin).2 with q|q
     ·exact .inl q
     ·omega
    ·exact .inr hin
  have hol:(op++(all.drop nx).take (n'-nx)).length<=n':=by rw [List.length_append,List.length_take,List.length_drop];omega
  have hfl:=List.length_filter_le (λs:Span => !decide (s.f_time.To<=a)) (op++(all.drop nx).take (n'-nx))
  have hleL:leL ((op++(all.drop nx).take (n'-nx)).filter (λs => !decide (s.f_time.To<=a))) (op++(all.drop nx).take (n'-nx))=some ():=by unfold leL;rw [if_pos hfl]
  have hkey:=NS h (t:=a) ⟨ain.1,by omega⟩ hmem (by omega)
  have w1:w64 ((k:Int)+1)=((k+1:Nat):Int):=by rw [aP (by omega)];omega
  have hput:=KF (mh l p a) a C[k+1] out (by omega)
  have hgo:gz C all (out,op,(nx:Int),(k:Int))=(LZ (mh l p a) a C[k+1] out).bind λv=>some (.go (v,(op++(all.drop nx).take (n'-nx)).filter (λs => !decide (s.f_time.To<=a)),(n':Int),((k+1:Nat):Int))):=by
   unfold gz
   simp only []
   rw [w1,decide_eq_true (by omega),cond_true,m3,ob_]
   simp only [bv]
   rw [delS i3 (by omega),ob_,hleL,ob_,delNil,ob_,hkey,ob_,jP,jP,hb,i3]
   simp only [ob_]
   unfold LZ
   generalize (bif decide (w64 ((out.length:Int)-1)>=0)then _ else _:Option Bool)=c
   cases c with
   | none=>rfl
   | some c =>
    cases c with
    | false =>
     simp only [ob_,cond_false]
    | true =>
     simp only [ob_,cond_true]
  rw [hgo,hput]
  refine⟨_,rfl,rfl,?_,_,n',hb,?_,rfl,m2,?_,λx hx => ?_,λx hx => ?_⟩
  ·simp only []
   have:=Du (mh l p a) a C[k+1] out
   omega
  ·exact fP.add hab (λt t1 t2=>hedge k a _ i3 hb t t1 t2) out w.From i4
  ·simp only [];omega
  ·obtain ⟨h1,h2⟩:=List.mem_filter.1 hx
   rw [etk]
   rcases List.mem_append.1 h1 with h1|h1
   ·exact List.mem_append_left _ (i8 x h1)
   ·exact List.mem_append_right _ h1
  ·rw [etk]at hx
   have h1:x.f_time.From<=a/\(x∈op++(all.drop nx).take (n'-nx)\/x.f_time.To<=a):=by
    rcases List.mem_append.1 hx with hx|hx
    ·refine⟨(i9 x hx).1,?_⟩
     rcases (i9 x hx).2 with q|q
     ·exact .inl (List.mem_append_left _ q)
     ·exact .inr q
    ·exact⟨m4 x hx,.inl (List.mem_append_right _ hx)⟩
   refine⟨by omega,?_⟩
   by_cases hto:x.f_time.To<=a
   ·exact .inr (by omega)
   ·rcases h1.2 with q|q
    ·exact .inl (List.mem_filter.2 ⟨q,by simpa using hto⟩)
    ·exact absurd q hto) (λs ⟨i1,i2,a,nx,i3,i4,i5,i6,i7,i8,i9⟩=>by
  obtain ⟨out,op,n,i⟩:=s
  simp only at i1
  subst i1
  unfold gz
  simp only []
  rw [aP (by omega),decide_eq_false (by omega),cond_false]) (s:=(([]:List Slot_),([]:List Span),0,0)) ⟨rfl,Nat.le_refl _,w.From,0,d1,by unfold fP;rfl,rfl,Nat.zero_le _,Nat.le_refl _,λx hx=>(by cases hx),λx hx=>(by cases hx)⟩
 obtain ⟨i1,i2,a,nx,i3,i4,_⟩:=s2
 rw [d2,so_]at i3
 rw [s1]
 exact⟨s.1,rfl,by rw [i3];exact i4,by omega⟩
end Go.Proofs.YthcdokkcamcnmaaGreatDoor.Law

open Go Go.Eng
namespace Go.Proofs.YthcdokkcamcnmaaGreatDoor.Law
set_option linter.unusedVariables false
set_option linter.unusedSimpArgs false
def wI (last:ByteArray) (x:Entry):Int:=bif nY x==0 then (bif sLe x.Key last then 7 else 0)else nY x
def uo (l:List Entry):Int:=chk (λe:Entry=>e.Key) wI Ij l
theorem entsK {l:List Entry} (h:∀e∈l,sH e) (hl:l.length<=100):dW l=some (uo l):=by
 unfold dW uo
 rw [decide_eq_false (by omega),cond_false,fe (by omega),zi (key:=λe:Entry=>e.Key) (stp:=wI) l l 0 rfl (λk x hx => ?_)]
 ·simp only [ob_,wX];rfl
 ·unfold gL wI
  rw [entK x (h x (List.mem_of_getElem? hx)),ob_]
  cases he:nY x==0 with
  | false =>
   have:(nY x != 0)=true:=by simp [bne,he]
   rw [this,cond_true,cond_false]
   unfold Ah;rw [he];rfl
  | true =>
   have:(nY x != 0)=false:=by simp [bne,he]
   have hk:=Hr (eq_of_beq he)
   rw [this,cond_false,cond_true]
   have h2:=AA (key:=λe:Entry=>e.Key) hx (by omega) hk
   rw [h2,ob_]
   cases sLe x.Key (wo (λe:Entry=>e.Key) l k) <;> rfl
theorem entsR {l:List Entry} (h:∀e∈l,sH e) (hl:l.length<=100):ko l=some (uo l):=by
 unfold ko uo
 rw [decide_eq_false (by omega),cond_false,fe (by omega)]
 obtain ⟨o,o1,o2⟩:=I7 (key:=λe:Entry=>e.Key) (stp:=wI) (body:=λk x s=>iH k x s) l 0 Ij (λk x last hx=>by
  unfold iH wI
  rw [entR x (h x hx),ob_]
  cases he:nY x==0 with
  | false =>
   have:(nY x != 0)=true:=by simp [bne,he]
   rw [this,cond_true,cond_false,he];rfl
  | true =>
   have:(nY x != 0)=false:=by simp [bne,he]
   rw [this,cond_false,cond_true]
   cases sLe x.Key last <;> rfl)
 have o1':eP (λk x s=>iH k x s) l 0 (⟨#[]⟩:ByteArray)=some o:=o1
 rw [o1',ob_,o2]
theorem EM:∀(l:List Entry) (last:ByteArray),chk (λe:Entry=>e.Key) wI last l=0->(∀e∈l,nY e=0/\lt last e.Key)/\l.Pairwise (λa b=>lt a.Key b.Key)
 | [],last,_=>⟨λe he=>(by cases he),.nil⟩
 | x::xs,last,h=>by
  unfold chk at h
  cases h0:wI last x==0 with
  | false=>rw [h0,cond_false]at h;rw [h]at h0;cases h0
  | true =>
   rw [h0,cond_true]at h
   obtain ⟨i1,i2⟩:=EM xs x.Key h
   have h0:=eq_of_beq h0
   unfold wI at h0
   cases he:nY x==0 with
   | false=>rw [he,cond_false]at h0;rw [h0]at he;cases he
   | true =>
    rw [he,cond_true]at h0
    have hlt:lt last x.Key:=by
     cases hs:sLe x.Key last with
     | true=>rw [hs]at h0;cases h0
     | false =>
      rcases DW last x.Key with q|q|q
      ·exact q
      ·have:=(Cn x.Key last).2 (by rw [q];exact ow _)
       rw [hs]at this;cases this
      ·have:=(Cn x.Key last).2 (λk=>ow _ (lt_trans q k))
       rw [hs]at this;cases this
    refine⟨λe hm => ?_,List.pairwise_cons.2 ⟨λe hm=>(i1 e hm).2,i2⟩⟩
    rcases List.mem_cons.1 hm with rfl|hm
    ·exact⟨eq_of_beq he,hlt⟩
    ·exact⟨(i1 e hm).1,lt_trans hlt (i1 e hm).2⟩
theorem ce_of {l:List Entry} {p:Player} (hg:∀e∈l,sH e) (hl:l.length<=4) (h:uo l=0) (hp:rV p=0):CE l p:=by
 obtain ⟨h1,h2⟩:=EM l Ij h
 have hz:jd p.Zone (-1440) 1440=false/\tagsF p.Tags=0:=by
  unfold rV at hp
  cases hk:(!nS p.Key || !nS p.Screen)with
  | true=>rw [hk]at hp;cases hp
  | false =>
   rw [hk,cond_false]at hp
   cases ho:jd p.Zone (-1440) 1440 with
   | true=>rw [ho]at hp;cases hp
   | false=>rw [ho]at hp;exact⟨rfl,hp⟩
 refine⟨λe he=>Nk (h1 e he).1,λe he=>by have:=(hg e he).2.2.2.1;omega,hl,?_,λe he hk => ?_,vT hz.1,hz.2⟩
 ·unfold List.Nodup
  rw [List.pairwise_map]
  exact h2.imp (λ{a b} q=>λ(e:a.Key=b.Key)=>ow b.Key (by rw [e]at q;exact q))
 ·exact Hr (h1 e he).1 (by rw [hk];rfl)
end Go.Proofs.YthcdokkcamcnmaaGreatDoor.Law

open Go Go.Eng Go.Proofs
namespace Go.Proofs.YthcdokkcamcnmaaGreatDoor.Law
set_option linter.unusedVariables false
set_option linter.unusedSimpArgs false
section
variable {K T:Type} {eq:K->K->Bool}
theorem Jm (k:K):iY eq ([]:List (K×T)) k=none:=rfl
theorem o5 (e:K×T) (es:List (K×T)) (k:K):iY eq (e::es) k=if eq k e.1=true then some e.2 else iY eq es k:=by
 unfold iY
 rw [Az]
 by_cases h:eq k e.1=true
 ·rw [if_pos h,if_pos h];rfl
 ·rw [if_neg h,if_neg h]
  cases Az eq k es with
  | none=>rfl
  | some j=>rfl
theorem Nb (k:K) (v:T):oI eq ([]:List (K×T)) k v=[(k,v)]:=rfl
theorem FN (e:K×T) (es:List (K×T)) (k:K) (v:T):oI eq (e::es) k v=if eq k e.1=true then (k,v)::es else e::oI eq es k v:=by
 unfold oI
 rw [Az]
 by_cases h:eq k e.1=true
 ·rw [if_pos h,if_pos h];rfl
 ·rw [if_neg h,if_neg h]
  cases Az eq k es with
  | none=>rfl
  | some j=>rfl
end
theorem leB_tr (a b c:List UInt8) (h:leB a b=true) (k:leB b c=true):leB a c=true:=by
 simp only [leB,decide_eq_true_eq]at *;exact List.le_trans h k
theorem leB_to (a b:List UInt8):(leB a b||leB b a)=true:=by
 simp only [leB,Bool.or_eq_true,decide_eq_true_eq];exact List.le_total a b
theorem NP {β:Type} {es:List (ByteArray×β)} (hl:es.length<=1000000) (hs:∀e∈es,e.1.size<=1000000) (hn:es.Pairwise (λa b=>a.1≠b.1)) :
  ∃ks,IY es=some ks/\ks.Perm (es.map (·.1))/\ks.Pairwise lt:=by
 have h1:es.length<=1000000000/\es.all (λe=>decide (e.1.size<=1000000000))=true:=⟨by omega,List.all_eq_true.2 λe he=>decide_eq_true (by have:=hs e he;omega)⟩
 have hp:=List.mergeSort_perm (es.map λe=>e.1.data.toList) leB
 have hso:=List.pairwise_mergeSort (le:=leB) leB_tr leB_to (es.map λe=>e.1.data.toList)
 have hnd:(es.map λe=>e.1.data.toList).Pairwise (· ≠ ·):=List.pairwise_map.2 (hn.imp λ{a b} h k=>h (y7 (by rw [toL,toL];exact k)))
 have hnd2:((es.map λe=>e.1.data.toList).mergeSort leB).Pairwise (· ≠ ·):=(hp.pairwise_iff (λh k=>h k.symm)).2 hnd
 refine⟨_,by unfold IY;rw [if_pos h1],?_,?_⟩
 ·refine (hp.map λl=>(⟨l.toArray⟩:ByteArray)).trans (List.Perm.of_eq ?_)
  rw [List.map_map];rfl
 ·refine List.pairwise_map.2 (List.Pairwise.imp₂ (λa b h k => ?_) hso hnd2)
  unfold lt
  rw [toL,toL]
  simp only [leB,decide_eq_true_eq]at h
  rcases List.le_iff_lt_or_eq.1 h with q|q
  ·exact q
  ·exact absurd q k
theorem eqS_eq {a b:ByteArray} (h:(a==b)=true):a=b:=by
 have h':(a.data==b.data)=true:=h
 have:=eq_of_beq h'
 cases a;cases b;simp at this;rw [this]
theorem oH (a b:ByteArray):eqS a b=true↔a=b:=⟨eqS_eq,λh=>by
 rw [h]
 show (b.data==b.data)=true
 simp⟩
theorem FL {α:Type} {L:Nat->ByteArray->List α->Option (Ctl (List α) Unit)} {g:ByteArray->α}:∀(ks:List ByteArray) (k:Nat) (out:List α),out.length+ks.length<=1000000->(∀k x out,x∈ks->out.length<=1000000->L k x out=(kW out [g x]).bind λa=>some (.go a)) ->
  eP (λk x s=>L k x s) ks k out=some (.go (out++ks.map g))
 | [],k,out,_,_=>by simp [eP]
 | x::ks,k,out,hl,h=>by
  simp only [List.length_cons]at hl
  have hs:L k x out=(some (.go (out++[g x])):Option (Ctl (List α) Unit)):=by
   rw [h k x out (by simp) (by omega),kW,if_pos (by simp;omega)];rfl
  simp only [eP,hs,ob_]
  rw [FL ks (k+1) _ (by simp;omega) (λk y o hy ho=>h k y o (List.mem_cons_of_mem _ hy) ho)]
  simp
theorem get_mem {β:Type} {es:List (ByteArray×β)} (hn:es.Pairwise (λa b=>a.1≠b.1)) {e:ByteArray×β} (he:e∈es):iY eqS es e.1=some e.2:=by
 induction es with
 | nil=>cases he
 | cons x es ih =>
  obtain ⟨p1,p2⟩:=List.pairwise_cons.1 hn
  rw [o5]
  rcases List.mem_cons.1 he with rfl|he
  ·have:eqS e.1 e.1=true:=(oH _ _).2 rfl
   rw [if_pos this]
  ·have:¬eqS e.1 x.1=true:=λh=>p1 e he ((oH _ _).1 h).symm
   rw [if_neg this]
   exact ih p2 he
theorem xB {β:Type} (v:β) (k k':ByteArray):∀es:List (ByteArray×β),iY eqS (oI eqS es k' v) k=if k=k' then some v else iY eqS es k
 | []=>by
  rw [Nb,o5,Jm]
  by_cases h:k=k'
  ·rw [if_pos h,if_pos ((oH _ _).2 h)]
  ·rw [if_neg h,if_neg (λq=>h ((oH _ _).1 q))]
 | e::es=>by
  rw [FN]
  by_cases h':eqS k' e.1=true
  ·have he:=(oH _ _).1 h'
   rw [if_pos h',o5,o5]
   by_cases h:k=k'
   ·rw [if_pos h,if_pos ((oH _ _).2 h)]
   ·have h2:¬eqS k e.1=true:=λq=>h (((oH _ _).1 q).trans he.symm)
    rw [if_neg h,if_neg (λq=>h ((oH _ _).1 q)),if_neg h2]
  ·rw [if_neg h',o5,o5,xB v k k' es]
   by_cases h2:eqS k e.1=true
   ·have:k≠k':=λq=>h' (by rw [<- q];exact h2)
    rw [if_pos h2,if_neg this]
    rw [if_pos h2]
   ·rw [if_neg h2]
    rw [if_neg h2]
theorem Fs {β:Type} (v:β) (k:ByteArray):∀es:List (ByteArray×β),es.Pairwise (λa b=>a.1≠b.1)->(oI eqS es k v).Pairwise (λa b=>a.1≠b.1)/\∀e∈oI eqS es k v,e=(k,v)\/e∈es
 | [],_=>⟨List.pairwise_singleton _ _,λe he => .inl (List.mem_singleton.1 he)⟩
 | x::es,h=>by
  obtain ⟨p1,p2⟩:=List.pairwise_cons.1 h
  rw [FN]
  by_cases h':eqS k x.1=true
  ·have he:=(oH _ _).1 h'
   rw [if_pos h']
   refine⟨List.pairwise_cons.2 ⟨λy hy=>by show k≠y.1;rw [he];exact p1 y hy,p2⟩,λe he => ?_⟩
   rcases List.mem_cons.1 he with rfl|he
   ·exact .inl rfl
   ·exact .inr (List.mem_cons_of_mem _ he)
  ·rw [if_neg h']
   obtain ⟨q1,q2⟩:=Fs v k es p2
   refine⟨List.pairwise_cons.2 ⟨λy hy => ?_,q1⟩,λe he => ?_⟩
   ·rcases q2 y hy with rfl|hy
    ·exact λq=>h' ((oH _ _).2 q.symm)
    ·exact p1 y hy
   ·rcases List.mem_cons.1 he with rfl|he
    ·exact .inr (List.mem_cons_self)
    ·exact (q2 e he).imp id (λq=>List.mem_cons_of_mem _ q)
theorem EG {α:Type} [DecidableEq α]:∀{xs ys:List α},xs.Pairwise (· ≠ ·)->(∀x∈xs,x∈ys)->xs.length<=ys.length
 | [],_,_,_=>Nat.zero_le _
 | x::xs,ys,h,hs=>by
  obtain ⟨p1,p2⟩:=List.pairwise_cons.1 h
  have hx:=hs x (by simp)
  have:=EG (xs:=xs) (ys:=ys.erase x) p2 (λy hy=>(List.mem_erase_of_ne (λe=>p1 y hy e.symm)).2 (hs y (List.mem_cons_of_mem _ hy)))
  rw [List.length_erase_of_mem hx]at this
  have h0:0<ys.length:=List.length_pos_of_mem hx
  simp only [List.length_cons];omega
end Go.Proofs.YthcdokkcamcnmaaGreatDoor.Law

open Go Go.Eng
namespace Go.Proofs.YthcdokkcamcnmaaGreatDoor.Law
set_option linter.unusedVariables false
set_option linter.unusedSimpArgs false
theorem zY (p:Int->Bool) (f g:Int->Window):∀(n:Nat) (d:Int),(collect p f n d).length=(collect p g n d).length
 | 0,_=>rfl
 | n+1,d=>by
  simp only [collect,List.length_append,zY p f g n (d+1)]
  cases p d <;> rfl
theorem Lt (e:Entry) (z:Int) (w:Window):(tiL e z w).length=(wants e z w).length:=zY _ _ _ _ _
theorem findS {α:Type} {f:α->Option Bool} {q:α->Bool}:∀(xs:List α) (k:Nat),(∀x∈xs,f x=some (q x)) ->
  ∃c,eP (λk x (s:Unit)=>(f x).bind λr=>bif r then some ((.ret (k:Int)):Ctl Unit Int)else some (.go ())) xs k ()=some c/\((xs.any q=true/\∃j:Nat,c = .ret (j:Int))\/(xs.any q=false/\c = .go ()))
 | [],k,h=>⟨_,rfl,.inr ⟨rfl,rfl⟩⟩
 | x::xs,k,h=>by
  have hx:=h x (by simp)
  rw [List.any_cons]
  simp only [eP,hx,ob_]
  cases hq:q x with
  | true=>exact⟨_,rfl,.inl ⟨by simp,k,rfl⟩⟩
  | false =>
   obtain ⟨c,c1,c2⟩:=findS (f:=f) xs (k+1) (λy hy=>h y (List.mem_cons_of_mem _ hy))
   exact⟨c,c1,by simpa using c2⟩
theorem containsS {s:List Slot_} {f:Slot_->Option Bool} {q:Slot_->Bool} (h:∀x∈s,f x=some (q x)) (hl:s.length<=1000000):bT s f=some (s.any q):=by
 unfold bT eO
 rw [fe (by omega)]
 obtain ⟨c,c1,c2⟩:=findS (f:=f) s 0 h
 have:eP (λk x s=>dS f k x s) s 0 ()=some c:=c1
 rw [this]
 rcases c2 with⟨e,j,rfl⟩|⟨e,rfl⟩
 ·rw [e]
  simp only [ob_,bv]
  rw [decide_eq_true (by omega)]
 ·rw [e];rfl
def Aj (t:List Slot_) (p:Player) (w:Window) (e:Entry):Bool:=pX e p&&(decide (0<(wants e p.Zone w).length) && !(t.any λx=>decide (x.Entry=e.Key)))
def uQ (l:List Entry) (t:List Slot_) (p:Player) (w:Window):List ByteArray:=(l.filter (Aj t p w)).map (·.Key)
theorem Mm {l:List Entry} {p:Player} (h:CE l p) (hp:p.Tags.length<=1000) {w:Window} {t:List Slot_} (ht:ic l p w=some t) (hl:t.length<=40000):qf l p w=some (uQ l t p w):=by
 unfold qf
 rw [ht,ob_]
 have h4:=h.len
 obtain ⟨s,s1,s2⟩:=og (body:=λk x s=>lX t p w k x s) (λk s=>s=uQ (l.take k) t p w) (xs:=l) (s:=([]:List ByteArray)) (by omega) (λk x s hx hs=>by
  subst hs
  have hm:=List.mem_of_getElem? hx
  have et:l.take (k+1)=l.take k++[x]:=by rw [List.take_add_one,hx];rfl
  have hkl:(uQ (l.take k) t p w).length<=4:=by
   unfold uQ
   rw [List.length_map]
   refine Nat.le_trans (List.length_filter_le _ _) ?_
   rw [List.length_take];omega
  unfold lX
  rw [containsS (q:=λy=>decide (y.Entry=x.Key)) (λy _=>by unfold pF;rw [zq]) (by omega),ob_,fitR x p (h.tags x hm) hp,ob_,Nq x (h.right x hm) _ _ h.zone]
  have hb:(bif pX x p then ((some (wants x p.Zone w)).bind λr_30=>bif (decide ((r_30.length:Int)>0))then some (!(t.any λy=>decide (y.Entry=x.Key)))else some false)else some false)=some (Aj t p w x):=by
   unfold Aj
   cases pX x p with
   | false=>rfl
   | true =>
    rw [cond_true,ob_,Bool.true_and]
    by_cases h0:0<(wants x p.Zone w).length
    ·rw [decide_eq_true (by omega),decide_eq_true h0,cond_true,Bool.true_and]
    ·rw [decide_eq_false (by omega),decide_eq_false h0,cond_false,Bool.false_and]
  rw [hb,ob_]
  cases hn:Aj t p w x with
  | true =>
   rw [cond_true,jS _ _ (by simp;omega)]
   refine⟨_,rfl,?_⟩
   unfold uQ
   rw [et,List.filter_append,List.map_append,List.filter_cons,hn];rfl
  | false =>
   refine⟨_,rfl,?_⟩
   unfold uQ
   rw [et,List.filter_append,List.map_append,List.filter_cons,hn];simp) rfl
 rw [List.take_length]at s2
 rw [s1,s2];rfl
def vU (on:List (ByteArray×Bool)) (k:ByteArray):Bool:=(iY eqS on k).getD false
theorem CR (on:List (ByteArray×Bool)) (k k':ByteArray):vU (oI eqS on k' true) k=(decide (k=k')||vU on k):=by
 unfold vU
 rw [xB]
 by_cases h:k=k' <;> simp [h]
theorem Nc:∀(t:List Slot_) (k:Nat) (on:List (ByteArray×Bool)),∃on',eP (λk x s=>lK k x s) t k on=some (.go on')/\∀key,vU on' key=(vU on key||t.any λx=>decide (x.Entry=key))
 | [],k,on=>⟨on,rfl,λkey=>by simp⟩
 | x::t,k,on=>by
  obtain ⟨on',h1,h2⟩:=Nc t (k+1) (oI eqS on x.Entry true)
  refine⟨on',by rw [eP];exact h1,λkey => ?_⟩
  rw [h2,CR,List.any_cons]
  have:decide (key=x.Entry)=decide (x.Entry=key):=by rw [decide_eq_decide];exact eq_comm
  rw [this]
  cases decide (x.Entry=key) <;> cases vU on key <;> simp
theorem BA (e:Entry) (rest:List Span):∀(xs:List Span) (k:Nat) (on:List (ByteArray×Bool)) (out:List ByteArray),(∀s∈xs,s.f_e=some e)->out.length<=1000 ->
  ∃on',eP (λk x s=>bO k x s) (xs++rest) k (on,out)=eP (λk x s=>bO k x s) rest (k+xs.length) (on',if xs ≠ []/\vU on e.Key=false then out++[e.Key]else out)/\∀key,key≠e.Key->vU on' key=vU on key
 | [],k,on,out,_,_=>⟨on,by simp,λ_ _=>rfl⟩
 | x::xs,k,on,out,h,hl=>by
  have hx:=h x (by simp)
  rw [List.cons_append,eP]
  cases hb:vU on e.Key with
  | true =>
   have:bO k x (on,out)=some (.go (on,out)):=by
    unfold bO
    rw [hx,ob_]
    have:(iY eqS on e.Key).getD false=true:=hb
    simp only [this];rfl
   rw [this]
   obtain ⟨on',q1,q2⟩:=BA e rest xs (k+1) on out (λs hs=>h s (List.mem_cons_of_mem _ hs)) hl
   refine⟨on',?_,q2⟩
   rw [ob_]
   show eP _ (xs++rest) (k+1) (on,out)=_
   rw [q1,hb,List.length_cons,show k+1+xs.length=k+(xs.length+1) by omega]
   simp
  | false =>
   have:bO k x (on,out)=some (.go (oI eqS on e.Key true,out++[e.Key])):=by
    unfold bO
    rw [hx,ob_]
    have:(iY eqS on e.Key).getD false=false:=hb
    simp only [this,Bool.not_false,cond_true,ob_]
    rw [jS _ _ (by simp;omega)];rfl
   rw [this]
   have h2:∀(xs:List Span) (k:Nat) (on:List (ByteArray×Bool)) (out:List ByteArray),(∀s∈xs,s.f_e=some e)->vU on e.Key=true->eP (λk x s=>bO k x s) (xs++rest) k (on,out)=eP (λk x s=>bO k x s) rest (k+xs.length) (on,out):=by
    intro xs
    induction xs with
    | nil=>intro k on out _ _;simp
    | cons y ys ih =>
     intro k on out hys hon
     have hy:=hys y (by simp)
     have:bO k y (on,out)=some (.go (on,out)):=by
      unfold bO
      rw [hy,ob_]
      have:(iY eqS on e.Key).getD false=true:=hon
      simp only [this];rfl
     rw [List.cons_append,eP,this,ob_]
     show eP _ (ys++rest) (k+1) (on,out)=_
     rw [ih (k+1) on out (λs hs=>hys s (List.mem_cons_of_mem _ hs)) hon,List.length_cons,show k+1+ys.length=k+(ys.length+1) by omega]
   refine⟨oI eqS on e.Key true,?_,λkey hk=>by rw [CR,decide_eq_false hk,Bool.false_or]⟩
   rw [ob_]
   show eP _ (xs++rest) (k+1) (oI eqS on e.Key true,out++[e.Key])=_
   rw [h2 xs (k+1) _ _ (λs hs=>h s (List.mem_cons_of_mem _ hs)) (by rw [CR,decide_eq_true rfl,Bool.true_or]),List.length_cons,show k+1+xs.length=k+(xs.length+1) by omega]
   simp
def Em (on:List (ByteArray×Bool)) (p:Player) (w:Window) (e:Entry):Bool:=decide (mY p w e ≠ []) && !vU on e.Key
theorem EP (p:Player) (w:Window):∀(l:List Entry) (k:Nat) (on:List (ByteArray×Bool)) (out:List ByteArray),(l.map (·.Key)).Nodup->out.length+l.length<=1000->∃on',eP (λk x s=>bO k x s) (l.flatMap (mY p w)) k (on,out)=some (.go (on',out++(l.filter (Em on p w)).map (·.Key)))
 | [],k,on,out,_,_=>⟨on,by simp [eP]⟩
 | e::l,k,on,out,hn,hl=>by
  simp only [List.map_cons,List.nodup_cons]at hn
  simp only [List.length_cons]at hl
  have hall:∀s∈mY p w e,s.f_e=some e:=λs hs=>by
   unfold mY at hs
   cases hf:pX e p with
   | true =>
    rw [hf,cond_true]at hs
    obtain ⟨t,_,rfl⟩:=List.mem_map.1 hs;rfl
   | false=>rw [hf,cond_false]at hs;cases hs
  obtain ⟨on1,q1,q2⟩:=BA e (l.flatMap (mY p w)) (mY p w e) k on out hall (by omega)
  obtain ⟨on2,r1⟩:=EP p w l (k+(mY p w e).length) on1 (if mY p w e ≠ []/\vU on e.Key=false then out++[e.Key]else out) hn.2 (by split <;> first|omega | (simp only [List.length_append,List.length_cons,List.length_nil];omega))
  refine⟨on2,?_⟩
  rw [List.flatMap_cons,q1,r1]
  have hsame:l.filter (Em on1 p w)=l.filter (Em on p w):=List.filter_congr (λx hx=>by
   unfold Em
   rw [q2 x.Key (λhk=>hn.1 (by rw [<- hk];exact List.mem_map_of_mem hx))])
  rw [hsame]
  congr 3
  by_cases hc:mY p w e ≠ []/\vU on e.Key=false
  ·have hb:Em on p w e=true:=by unfold Em;rw [decide_eq_true hc.1,hc.2];rfl
   rw [if_pos hc,List.filter_cons,hb];simp
  ·have hb:Em on p w e=false:=by
    unfold Em
    by_cases h1:mY p w e ≠ []
    ·have:vU on e.Key=true:=by
      cases h2:vU on e.Key with
      | true=>rfl
      | false=>exact absurd ⟨h1,h2⟩ hc
     rw [this];simp
    ·rw [decide_eq_false h1];rfl
   rw [if_neg hc,List.filter_cons,hb];simp
theorem Kg {l:List Entry} {p:Player} (h:CE l p) {w:Window} (hok:zl w) {t:List Slot_} (hf:dR l p w=some 0) (ht:fq l p w=some t) (hl:t.length<=40000):jE l p w=some (uQ l t p w,0):=by
 unfold jE
 rw [hf,ob_]
 simp only [bne_self_eq_false,cond_false]
 have hsl:(lg l p w).length<=16004:=Al h w
 have h4:=h.len
 obtain ⟨on,o1,o2⟩:=Nc t 0 []
 obtain ⟨on2,n1⟩:=EP p w l 0 on [] h.keys (by simp only [List.length_nil];omega)
 rw [ht,ob_,fe (by omega),o1,ob_]
 simp only [bv]
 rw [spans_eq h hok,ob_,fe (by omega)]
 unfold lg
 rw [n1,ob_]
 simp only [List.nil_append]
 have e:l.filter (Em on p w)=l.filter (Aj t p w):=List.filter_congr λx _=>by
  unfold Em Aj
  rw [o2]
  have hn:vU ([]:List (ByteArray×Bool)) x.Key=false:=rfl
  rw [hn,Bool.false_or]
  have hd:decide (mY p w x ≠ [])=(pX x p&&decide (0<(wants x p.Zone w).length)):=by
   unfold mY
   cases pX x p with
   | false=>rfl
   | true =>
    rw [cond_true,Bool.true_and,decide_eq_decide,<- Lt x p.Zone w,ne_eq,List.map_eq_nil_iff]
    exact List.length_pos_iff.symm
  rw [hd,Bool.and_assoc]
 rw [e];rfl
end Go.Proofs.YthcdokkcamcnmaaGreatDoor.Law

open Go Go.Eng
namespace Go.Proofs.YthcdokkcamcnmaaGreatDoor.Law
set_option linter.unusedVariables false
set_option linter.unusedSimpArgs false
theorem KO {β:Type} {k:ByteArray} {v:β}:∀{es:List (ByteArray×β)},iY eqS es k=some v->(k,v)∈es
 | [],h=>by rw [Jm]at h;cases h
 | e::es,h=>by
  rw [o5]at h
  by_cases q:eqS k e.1=true
  ·rw [if_pos q]at h
   have hk:=(oH _ _).1 q
   cases h
   rw [hk];exact List.mem_cons_self
  ·rw [if_neg q]at h
   exact List.mem_cons_of_mem _ (KO h)
def itM (l:List Entry) (m:List (ByteArray×ByteArray)):List (ByteArray×ByteArray):=l.foldl (λm e=>oI eqS m e.Key e.Item) m
theorem E5:∀(l:List Entry) (k:Nat) (m:List (ByteArray×ByteArray)),eP (λk x s=>lJ k x s) l k m=some (.go (itM l m))
 | [],k,m=>rfl
 | e::l,k,m=>by
  rw [eP]
  show eP _ l (k+1) (oI eqS m e.Key e.Item)=_
  rw [E5 l];rfl
theorem K5:∀(l:List Entry) (m:List (ByteArray×ByteArray)) (k:ByteArray),(∀e∈l,e.Key≠k)->iY eqS (itM l m) k=iY eqS m k
 | [],m,k,_=>rfl
 | e::l,m,k,h=>by
  show iY eqS (itM l (oI eqS m e.Key e.Item)) k=_
  rw [K5 l _ k (λx hx=>h x (List.mem_cons_of_mem _ hx)),xB,if_neg (λq=>h e (by simp) q.symm)]
theorem KH:∀(l:List Entry) (m:List (ByteArray×ByteArray)),(l.map (·.Key)).Nodup->∀e∈l,iY eqS (itM l m) e.Key=some e.Item
 | x::l,m,hn,e,he=>by
  simp only [List.map_cons,List.nodup_cons]at hn
  show iY eqS (itM l (oI eqS m x.Key x.Item)) e.Key=_
  rcases List.mem_cons.1 he with rfl|he
  ·rw [K5 l _ _ (λy hy q=>hn.1 (by rw [<- q];exact List.mem_map_of_mem hy)),xB,if_pos rfl]
  ·exact KH l _ hn.2 e he
theorem MV {l:List Entry} (hl:l.length<=1000):l6 l=some (itM l []):=by
 unfold l6
 rw [fe (by omega),E5];rfl
def isK (x:Slot_) (e:Entry):Bool:=decide (e.Key=x.Entry)
def Ay (l:List Entry) (m:List (ByteArray×Int)) (x:Slot_):List (ByteArray×Int):=match l.find? (isK x)with
 | some e=>oI eqS m e.Item (((iY eqS m e.Item).getD 0)+(x.Time.To-x.Time.From))
 | none=>m
structure LM (l:List Entry) (k:Nat) (m:List (ByteArray×Int)):Prop where
 pw:m.Pairwise (λa b=>a.1≠b.1)
 mem:∀e∈m,(∃a∈l,e.1=a.Item)/\0<=e.2/\e.2<=(k:Int)*1000000000000
theorem LM.get {l:List Entry} {k:Nat} {m:List (ByteArray×Int)} (h:LM l k m) (i:ByteArray):0<=(iY eqS m i).getD 0/\(iY eqS m i).getD 0<=(k:Int)*1000000000000:=by
 cases q:iY eqS m i with
 | none=>exact⟨Int.le_refl _,by show (0:Int)<=_;omega⟩
 | some v=>exact (h.mem _ (KO q)).2
theorem LM.mono {l:List Entry} {k:Nat} {m:List (ByteArray×Int)} (h:LM l k m):LM l (k+1) m:=⟨h.pw,λe he=>⟨(h.mem e he).1,(h.mem e he).2.1,by have:=(h.mem e he).2.2;omega⟩⟩
theorem LM.add {l:List Entry} {k:Nat} {m:List (ByteArray×Int)} (h:LM l k m) {x:Slot_} (hx:0<=x.Time.To-x.Time.From/\x.Time.To-x.Time.From<=1000000000000):LM l (k+1) (Ay l m x):=by
 unfold Ay
 cases q:l.find? (isK x)with
 | none=>exact h.mono
 | some a =>
  obtain ⟨p1,p2⟩:=Fs (((iY eqS m a.Item).getD 0)+(x.Time.To-x.Time.From)) a.Item m h.pw
  have hg:=h.get a.Item
  refine⟨p1,λe he => ?_⟩
  rcases p2 e he with rfl|he
  ·refine⟨⟨a,List.mem_of_find?_eq_some q,rfl⟩,?_,?_⟩ <;> simp only [] <;> omega
  ·exact h.mono.mem e he
def TL (l:List Entry) (x:Slot_):Prop:=(0<=x.Time.From/\x.Time.From<x.Time.To/\x.Time.To<=1000000000000)/\(x.Entry=⟨#[]⟩\/∃e∈l,e.Key=x.Entry)
theorem NM {l:List Entry} (hn:(l.map (·.Key)).Nodup) {x:Slot_} {e:Entry} (he:e∈l) (hk:e.Key=x.Entry):l.find? (isK x)=some e:=by
 induction l with
 | nil=>cases he
 | cons y l ih =>
  simp only [List.map_cons,List.nodup_cons]at hn
  rw [List.find?_cons]
  rcases List.mem_cons.1 he with rfl|he
  ·have:isK x e=true:=decide_eq_true hk
   rw [this]
  ·have:isK x y=false:=decide_eq_false λq=>hn.1 (by rw [q,<- hk];exact List.mem_map_of_mem he)
   rw [this];exact ih hn.2 he
theorem Lx {l:List Entry} (hne:∀e∈l,e.Key≠⟨#[]⟩) {x:Slot_} (hx:x.Entry=⟨#[]⟩):l.find? (isK x)=none:=by
 rw [List.find?_eq_none]
 intro e he
 have:isK x e=false:=decide_eq_false λq=>hne e he (by rw [q,hx])
 rw [this];exact Bool.false_ne_true
theorem Oh {l:List Entry} {p:Player} (h:CE l p) {n:Nat} (hn:n<=40000) {m:List (ByteArray×Int)} (hm:LM l n m) {x:Slot_} (hx:TL l x) (k:Nat):jv (itM l []) k x m=some (.go (Ay l m x)):=by
 unfold jv Ay
 rcases hx.2 with h0|⟨e,he,hk⟩
 ·have hne:sNe (⟨#[]⟩:ByteArray) (⟨#[]⟩:ByteArray)=false:=by
   show (!sEq (⟨#[]⟩:ByteArray) (⟨#[]⟩:ByteArray))=false
   rw [(rW _ _).2 rfl];rfl
  rw [Lx h.ne h0,h0,hne];rfl
 ·have hne:sNe x.Entry (⟨#[]⟩:ByteArray)=true:=by
   have e1:sNe x.Entry (⟨#[]⟩:ByteArray) = !sEq x.Entry (⟨#[]⟩:ByteArray):=rfl
   rw [e1,Bool.not_eq_true',<- Bool.not_eq_true]
   exact λq=>h.ne e he (by rw [hk];exact (rW _ _).1 q)
  have hg:=hm.get e.Item
  have hx1:=hx.1
  rw [NM h.keys he hk,hne,cond_true,<- hk,KH l [] h.keys e he]
  simp only [Option.getD_some,ob_]
  rw [aP (n:=x.Time.To-x.Time.From) (by omega),aP (by omega)]
theorem Fy {l:List Entry} {p:Player} (h:CE l p):∀(t:List Slot_) (k n:Nat) (m:List (ByteArray×Int)),n+t.length<=40000->LM l n m->(∀x∈t,TL l x) ->
  eP (λk x s=>jv (itM l []) k x s) t k m=some (.go (t.foldl (Ay l) m))/\LM l (n+t.length) (t.foldl (Ay l) m)
 | [],k,n,m,_,hm,_=>⟨rfl,hm⟩
 | x::t,k,n,m,hn,hm,hx=>by
  simp only [List.length_cons]at hn
  have hx0:=hx x (by simp)
  rw [eP,Oh h (by omega) hm hx0,ob_]
  have:=Fy h t (k+1) (n+1) (Ay l m x) (by omega) (hm.add (by have:=hx0.1;omega)) (λy hy=>hx y (List.mem_cons_of_mem _ hy))
  rw [List.length_cons,show n+(t.length+1)=n+1+t.length by omega]
  exact this
theorem Jk (x:Slot_):∀(l:List Entry) (k:Nat) (m:List (ByteArray×Int)),(∀e∈l,e.Key≠x.Entry)->eP (λk y s=>gJ x k y s) l k m=some (.go m)
 | [],k,m,_=>rfl
 | e::l,k,m,h=>by
  have h0:sEq e.Key x.Entry=false:=by rw [<- Bool.not_eq_true];exact λq=>h e (by simp) ((rW _ _).1 q)
  have:gJ x k e m=some (.go m):=by
   unfold gJ
   rw [h0];rfl
  rw [eP,this,ob_]
  exact Jk x l (k+1) m (λy hy=>h y (List.mem_cons_of_mem _ hy))
theorem KT {x:Slot_} {n:Nat} (hn:n<=40000) (hx1:0<=x.Time.From/\x.Time.From<x.Time.To/\x.Time.To<=1000000000000):∀(l l0:List Entry) (k:Nat) (m:List (ByteArray×Int)),(l.map (·.Key)).Nodup->LM l0 n m->eP (λk y s=>gJ x k y s) l k m=some (.go (Ay l m x))
 | [],_,k,m,_,_=>rfl
 | e::l,l0,k,m,hd,hm=>by
  simp only [List.map_cons,List.nodup_cons]at hd
  by_cases hk:e.Key=x.Entry
  ·have h0:sEq e.Key x.Entry=true:=(rW _ _).2 hk
   have hg:=hm.get e.Item
   have:gJ x k e m=some (.go (oI eqS m e.Item (((iY eqS m e.Item).getD 0)+(x.Time.To-x.Time.From)))):=by
    unfold gJ
    rw [h0,cond_true,aP (n:=x.Time.To-x.Time.From) (by omega),aP (by omega)];rfl
   rw [eP,this,ob_]
   show eP _ l (k+1) (oI eqS m e.Item (((iY eqS m e.Item).getD 0)+(x.Time.To-x.Time.From)))=_
   rw [Jk x l (k+1) _ (λy hy q=>hd.1 (by rw [hk,<- q];exact List.mem_map_of_mem hy))]
   unfold Ay
   rw [List.find?_cons]
   have:isK x e=true:=decide_eq_true hk
   rw [this]
  ·have h0:sEq e.Key x.Entry=false:=by rw [<- Bool.not_eq_true];exact λq=>hk ((rW _ _).1 q)
   have:gJ x k e m=some (.go m):=by
    unfold gJ
    rw [h0];rfl
   rw [eP,this,ob_]
   show eP _ l (k+1) m=_
   rw [KT hn hx1 l l0 (k+1) m hd.2 hm]
   unfold Ay
   rw [List.find?_cons]
   have:isK x e=false:=decide_eq_false hk
   rw [this]
theorem Jh {l:List Entry} {p:Player} (h:CE l p):∀(t:List Slot_) (k n:Nat) (m:List (ByteArray×Int)),n+t.length<=40000->LM l n m->(∀x∈t,TL l x) ->
  eP (λk x s=>lC l k x s) t k m=some (.go (t.foldl (Ay l) m))
 | [],k,n,m,_,hm,_=>rfl
 | x::t,k,n,m,hn,hm,hx=>by
  simp only [List.length_cons]at hn
  have hx0:=hx x (by simp)
  have h4:=h.len
  have:lC l k x m=some (.go (Ay l m x)):=by
   unfold lC
   rw [fe (by omega),KT (n:=n) (by omega) hx0.1 l l 0 m h.keys hm];rfl
  rw [eP,this,ob_]
  exact Jh h t (k+1) (n+1) (Ay l m x) (by omega) (hm.add (by have:=hx0.1;omega)) (λy hy=>hx y (List.mem_cons_of_mem _ hy))
def Ms (n:Int):ByteArray:=⟨(Lib.itoa n).toArray⟩
theorem KM {n:Int} (h:0<=n/\n<=100000000000000000):strconv_Itoa n=some (Ms n):=by
 unfold strconv_Itoa KU
 rw [if_pos (by omega)];rfl
def prG (m:List (ByteArray×Int)) (k:ByteArray):Pair:=⟨k,Ms ((iY eqS m k).getD 0)⟩
def prE (e:ByteArray×Int):Pair:=⟨e.1,Ms e.2⟩
theorem Ii {P:ByteArray×Int->Prop} (hP:∀e,P e->0<=e.2/\e.2<=100000000000000000):∀(l:List (ByteArray×Int)) (out:List Pair),out.length+l.length<=2000->(∀e∈l,P e)->yO (λx s=>jX x s) l out=some (.go (out++l.map prE))
 | [],out,_,_=>by simp [yO]
 | e::l,out,hl,h=>by
  simp only [List.length_cons]at hl
  have:jX e out=some (.go (out++[prE e])):=by
   unfold jX
   rw [KM (hP e (h e (by simp))),ob_,jS _ _ (by simp only [List.length_cons,List.length_nil];omega)];rfl
  rw [yO,this,ob_]
  show yO _ l (out++[prE e])=_
  rw [Ii hP l _ (by simp only [List.length_append,List.length_cons,List.length_nil];omega) (λy hy=>h y (List.mem_cons_of_mem _ hy))]
  simp
theorem Md {l:List Entry} (hG:∀e∈l,sH e) (h4:l.length<=4) {n:Nat} (hn:n<=40000) {m:List (ByteArray×Int)} (hm:LM l n m) :
  ∃r,(∃ks,rQ m=some ks/\je ks ([]:List Pair) (λk x s=>jw m k x s)=some (.go r)) /\
   E9 m (λl_57=>(yO (λx s=>jX x s) l_57 ([]:List Pair)).bind λo_47=>bv o_47 (λs_40=>(cz s_40).bind λr_54=>(jZ r_54 s_40).bind λ_=>some r_54) (λ_=>none))=some r/\r.length<=4:=by
 have hlen:m.length<=4:=by
  have h1:(m.map (·.1)).Pairwise (· ≠ ·):=List.pairwise_map.2 hm.pw
  have h2:=EG (xs:=m.map (·.1)) (ys:=l.map (·.Item)) h1 (λx hx=>by
   obtain ⟨e,he,rfl⟩:=List.mem_map.1 hx
   obtain ⟨a,ha,hk⟩:=(hm.mem e he).1
   rw [hk];exact List.mem_map_of_mem ha)
  rw [List.length_map,List.length_map]at h2
  omega
 obtain ⟨ks,k1,k2,k3⟩:=NP (es:=m) (by omega) (λe he=>by
  obtain ⟨a,ha,hk⟩:=(hm.mem e he).1
  have:=(hG a ha).2.1
  unfold nZ at this
  rw [hk];omega) hm.pw
 have hkl:ks.length<=4:=by have:=k2.length_eq;rw [List.length_map]at this;omega
 have hB:∀e∈m,0<=e.2/\e.2<=100000000000000000:=λe he=>by have:=(hm.mem e he).2;omega
 have hB2:∀k,0<=(iY eqS m k).getD 0/\(iY eqS m k).getD 0<=100000000000000000:=λk=>by have:=hm.get k;omega
 have hp:(ks.map (prG m)).Perm (m.map prE):=by
  refine (k2.map (prG m)).trans (List.Perm.of_eq ?_)
  rw [List.map_map]
  refine List.map_congr_left λe he => ?_
  show prG m e.1=prE e
  unfold prG prE
  rw [get_mem hm.pw he];rfl
 have hs:(ks.map (prG m)).Pairwise (λa b=>lt a.Name b.Name):=List.pairwise_map.2 k3
 refine⟨ks.map (prG m),⟨ks,k1,?_⟩,?_,by rw [List.length_map];exact hkl⟩
 ·rw [fe (by omega),FL (L:=λk x s=>jw m k x s) (g:=prG m) ks 0 [] (by simp only [List.length_nil];omega) (λk x out _ ho=>by
   unfold jw
   rw [KM (hB2 x)];rfl)]
  rfl
 ·refine Nh λl' hl' => ?_
  have hll:l'.length<=4:=by rw [hl'.length_eq];exact hlen
  rw [Ii (P:=(· ∈ m)) hB l' [] (by simp only [List.length_nil];omega) (λe he=>hl'.mem_iff.1 he),ob_]
  simp only [bv,List.nil_append]
  obtain ⟨r,r1,r2,r3⟩:=MK (cmp:=oN) (S:=cz) (λa b:Pair=>zg a.Name b.Name) (λ_=>rfl) (xs:=l'.map prE) (by rw [List.length_map];omega) (λa _ b _=>by
    unfold oN
    rw [yP];rfl)
   (λa b q1 q2=>ow _ (lt_trans (qV.1 q1) (qV.1 q2)))
   (λa b c q1 q2 q3=>N8 (λe=>q1 (qV.2 e)) (λe=>q2 (qV.2 e)) (qV.1 q3))
  have hsm:jZ r (l'.map prE)=some ():=by unfold jZ;rw [if_pos r2.length_eq]
  have hpr:r.Perm (ks.map (prG m)):=(r2.trans (hl'.map prE)).trans hp.symm
  have hne:(r.map (·.Name)).Nodup:=by
   have:((ks.map (prG m)).map (·.Name)).Nodup:=by
    unfold List.Nodup
    rw [List.pairwise_map]
    exact hs.imp λ{a b} q=>λ(e:a.Name=b.Name)=>ow b.Name (by rw [e]at q;exact q)
   exact ((hpr.map (·.Name)).nodup_iff).2 this
  have hrs:r.Pairwise (λa b=>lt a.Name b.Name):=by
   unfold List.Nodup at hne
   rw [List.pairwise_map]at hne
   refine List.Pairwise.imp₂ (λa b q1 q2 => ?_) r3 hne
   rcases DW a.Name b.Name with e|e|e
   ·exact e
   ·exact absurd e q2
   ·exact absurd (qV.2 e) q1
  have hr:r=ks.map (prG m):=Fj (λa b h k=>ow _ (lt_trans h k)) hpr hrs hs
  rw [r1,ob_,hsm,ob_,hr]
theorem LH {l:List Entry} {p:Player} (h:CE l p) (hG:∀e∈l,sH e) {w:Window} {t:List Slot_} (hf:dR l p w=some 0) (ht:fq l p w=some t) (hr:ic l p w=some t) (hl:t.length<=40000) (hx:∀x∈t,TL l x) :
  ∃r,jV l p w=some (r,0)/\ry l p w=some r/\r.length<=4:=by
 have h4:=h.len
 have h0:LM l 0 []:=⟨List.Pairwise.nil,λe he=>by cases he⟩
 obtain ⟨c1,c2⟩:=Fy h t 0 0 [] (by omega) h0 hx
 have d1:=Jh h t 0 0 [] (by omega) h0 hx
 obtain ⟨r,⟨ks,k1,k2⟩,r2,r3⟩:=Md hG h4 (n:=0+t.length) (by omega) c2
 refine⟨r,?_,?_,r3⟩
 ·unfold jV
  rw [hf,ob_]
  simp only [bne_self_eq_false,cond_false]
  rw [MV (by omega),ob_,ht,ob_,fe (by omega),c1,ob_]
  simp only [bv]
  rw [k1,ob_,k2,ob_]
 ·unfold ry
  rw [hr,ob_,fe (by omega),d1,ob_]
  simp only [bv]
  exact r2
end Go.Proofs.YthcdokkcamcnmaaGreatDoor.Law

namespace Go.Proofs.YthcdokkcamcnmaaGreatDoor.Law
open Go Go.Eng
set_option linter.unusedVariables false
set_option linter.unusedSimpArgs false
def emT:ByteArray:=⟨#[]⟩
def onT (x:Slot_):Bool:=sNe x.Entry emT
end Go.Proofs.YthcdokkcamcnmaaGreatDoor.Law

namespace Go.Proofs.YthcdokkcamcnmaaGreatDoor.Law
open Go Go.Eng
set_option linter.unusedVariables false
set_option linter.unusedSimpArgs false
theorem D9:∀(t:List Slot_) (k:Nat) (D:List Window),D.length+t.length<=100000 ->
  eP (λk x s=>fV k x s) t k D=some (.go (D++(t.filter (λx => !onT x)).map (·.Time)))
 | [],k,D,hl=>by simp [eP]
 | x::r,k,D,hl=>by
  simp only [List.length_cons]at hl
  have hq:sEq x.Entry (⟨#[]⟩:ByteArray) = !onT x:=by
   have e:onT x = !sEq x.Entry emT:=rfl
   rw [e,Bool.not_not];rfl
  simp only [eP]
  cases h:onT x with
  | true =>
   have hb:fV k x D=some (.go D):=by
    unfold fV
    rw [hq,h];rfl
   rw [hb,ob_]
   simp only []
   rw [D9 r (k+1) D (by omega),List.filter_cons_of_neg (by rw [h];simp)]
  | false =>
   have hb:fV k x D=some (.go (D++[x.Time])):=by
    unfold fV
    rw [hq,h]
    show (Option.bind ((kW D [x.Time]).bind λa=>some a) _)=_
    rw [jS _ _ (by simp only [List.length_cons,List.length_nil];omega)];rfl
   rw [hb,ob_]
   simp only []
   rw [D9 r (k+1) (D++[x.Time]) (by simp only [List.length_append,List.length_cons,List.length_nil];omega),List.filter_cons_of_pos (by rw [h];rfl),List.map_cons,List.append_assoc]
   rfl
end Go.Proofs.YthcdokkcamcnmaaGreatDoor.Law

open Go Go.Eng
namespace Go.Proofs.YthcdokkcamcnmaaGreatDoor.Law
set_option linter.unusedVariables false
set_option linter.unusedSimpArgs false
theorem errsSr (a b c:Int):wF [a,b,c]=some (or0 a (or0 b c)):=by
 unfold wF or0
 rw [fe (by simp)]
 have hb:∀k x,pV k x ()=some (bif x==0 then .go ()else .ret x):=λk x=>by
  unfold pV
  cases h:x==0 <;> simp [bne,h]
 simp only [eP,hb,ob_]
 cases ha:a==0 with
 | false=>simp only [cond_false,ob_,bv]
 | true =>
  simp only [cond_true,ob_]
  cases hb':b==0 with
  | false=>simp only [cond_false,ob_,bv]
  | true =>
   simp only [cond_true,ob_]
   cases hc:c==0 with
   | false=>simp only [cond_false,ob_,bv]
   | true=>simp only [cond_true,ob_,bv];rw [eq_of_beq hc]
theorem sameP (l:List Pair) (hl:l.length<=1000000):d9 l l=some true:=by
 unfold d9
 have e1:((l.length:Int) != (l.length:Int))=false:=by simp
 obtain ⟨s,s1,_⟩:=og (body:=λk x s=>dE l k x s) (ρ:=Bool) (λ_ _=>True) (xs:=l) (s:=()) (by omega) (λk x s hx _=>by
  refine⟨(),?_,trivial⟩
  unfold dE
  rw [jP,hx,ob_]
  simp) trivial
 rw [e1,cond_false,s1];rfl
theorem sameSl (l:List Slot_) (hl:l.length<=1000000):dY l l=some true:=by
 unfold dY
 have e1:((l.length:Int) != (l.length:Int))=false:=by simp
 obtain ⟨s,s1,_⟩:=og (body:=λk x s=>dF l k x s) (ρ:=Bool) (λ_ _=>True) (xs:=l) (s:=()) (by omega) (λk x s hx _=>by
  refine⟨(),?_,trivial⟩
  unfold dF
  rw [jP,hx,ob_]
  simp) trivial
 rw [e1,cond_false,s1];rfl
theorem sameW (l:List Window) (hl:l.length<=1000000):dx l l=some true:=by
 unfold dx
 have e1:((l.length:Int) != (l.length:Int))=false:=by simp
 obtain ⟨s,s1,_⟩:=og (body:=λk x s=>bS l k x s) (ρ:=Bool) (λ_ _=>True) (xs:=l) (s:=()) (by omega) (λk x s hx _=>by
  refine⟨(),?_,trivial⟩
  unfold bS
  rw [jP,hx,ob_]
  simp) trivial
 rw [e1,cond_false,s1];rfl
theorem sameS (l:List ByteArray) (hl:l.length<=1000000):fI l l=some true:=by
 unfold fI
 have e1:((l.length:Int) != (l.length:Int))=false:=by simp
 obtain ⟨s,s1,_⟩:=og (body:=λk x s=>eF l k x s) (ρ:=Bool) (λ_ _=>True) (xs:=l) (s:=()) (by omega) (λk x s hx _=>by
  refine⟨(),?_,trivial⟩
  have hne:sNe x x=false:=by
   show (!sEq x x)=false
   rw [(rW _ _).2 rfl];rfl
  unfold eF
  rw [jP,hx,ob_,hne];rfl) trivial
 rw [e1,cond_false,s1];rfl
theorem o0f {a b:Int} (h:(a != 0)=true):or0 a b=a:=by
 unfold or0
 have:(a==0)=false:=by simpa [bne]using h
 rw [this,cond_false]
theorem o0t {a b:Int} (h:(a != 0)=false):or0 a b=b:=by
 unfold or0
 have:(a==0)=true:=by simpa [bne]using h
 rw [this,cond_true]
theorem Gw {l:List Entry} (hg:∀e∈l,sH e) (hl:l.length<=100) {p:Player} (hp:HY p) (w:Window):dR l p w=some (or0 (uo l) (or0 (rV p) (qC w))):=by
 unfold dR
 rw [entsK hg hl,ob_]
 cases h1:uo l != 0 with
 | true=>rw [cond_true,o0f h1]
 | false =>
  rw [cond_false,o0t h1,playK p hp,ob_]
  cases h2:rV p != 0 with
  | true=>rw [cond_true,o0f h2]
  | false=>rw [cond_false,o0t h2,winK];rfl
theorem Mx:∀(t:List Slot_) (k:Nat) (D:List Window),eP (λk x s=>pM k x s) t k D=eP (λk x s=>fV k x s) t k D:=λt k D=>rfl
theorem tile_tl {l:List Entry} {p:Player} {w:Window} (hok:zl w) {t:List Slot_} (ht:fP (mh l p) w.To w.From t):∀x∈t,TL l x:=λx hx=>by
 obtain ⟨x1,x2,x3,x4⟩:=ht.at.1 x hx
 unfold zl at hok
 refine⟨by omega,?_⟩
 have hk:=x4 x.Time.From (Int.le_refl _) x2
 rw [<- hk]
 unfold mh
 cases hc:xW l p x.Time.From with
 | nil=>exact .inl rfl
 | cons y r =>
  have hy:y∈lL l p x.Time.From:=(uB rD (lL l p x.Time.From)).mem_iff.1 (by
   have:y∈xW l p x.Time.From:=by rw [hc];exact List.mem_cons_self
   exact this)
  exact .inr ⟨y.1,(xA.1 hy).1,rfl⟩
theorem schedulesThrough (l:List Int):jL l=some true:=by
 obtain ⟨xs,s1,a1,a2,a3,a4⟩:=Ke ⟨l,0⟩ (b:=0) ⟨Int.le_refl _,Int.le_refl _⟩ (by decide)
 obtain ⟨p,s2,b1,b2,b3⟩:=LX s1 a2 (by omega)
 obtain ⟨w,s3,c1,c2⟩:=days_ok s2 b2 (by omega)
 have hs:=Gw a4 (by omega) b3 w
 unfold jL
 simp only [a1,b1,c1,ob_]
 simp only [entsR a4 (by omega:xs.length<=100),playR p b3,winR,errsSr,ob_]
 by_cases h0:or0 (uo xs) (or0 (rV p) (qC w))=0
 ·obtain ⟨z1,z2⟩:=or0_0 h0
  obtain ⟨z3,z4⟩:=or0_0 z2
  have hok:=Oa z4
  have hc:=ce_of a4 a3 z1 z3
  rw [h0]at hs ⊢
  have hw:w.From<=w.To:=hok.2.1
  obtain ⟨t,t1,t2,t3⟩:=J3 hc hok hw
  obtain ⟨t',u1,u2,u3⟩:=GY hc hw (by have:=hok.1;have:=hok.2.2;omega)
  obtain rfl:t'=t:=u2.uniq t2
  obtain ⟨r,r1,r2,r3⟩:=LH hc a4 hs t1 u1 t3 (tile_tl hok t2)
  have f1:=D9 t' 0 [] (by simp only [List.length_nil];omega)
  have hfr:jW xs p w=some ((t'.filter (λx => !onT x)).map (·.Time),0):=by
   unfold jW
   rw [hs,ob_]
   simp only [bne_self_eq_false,cond_false]
   rw [t1,ob_,fe (by omega),f1,ob_]
   simp only [bv,List.nil_append]
  have hfd:rP xs p w=some ((t'.filter (λx => !onT x)).map (·.Time)):=by
   unfold rP
   rw [u1,ob_,fe (by omega),Mx,f1,ob_]
   simp only [bv,List.nil_append]
  have hth:iP xs p w=some (t',0):=by
   unfold iP
   rw [hs,ob_]
   simp only [bne_self_eq_false,cond_false]
   rw [t1,ob_]
  have hfl:((t'.filter (λx => !onT x)).map (·.Time)).length<=40000:=by
   rw [List.length_map]
   exact Nat.le_trans (List.length_filter_le _ _) t3
  have hnl:(uQ xs t' p w).length<=4:=by
   unfold uQ
   rw [List.length_map]
   exact Nat.le_trans (List.length_filter_le _ _) a3
  simp only [hth,Kg hc hok hs t1 t3,hfr,r1,ob_,bne_self_eq_false,cond_false]
  rw [u1,ob_,sameSl t' (by omega),ob_,cond_true,Mm hc (by have:=b3.2.2.1;omega) u1 t3,ob_,sameS _ (by omega),ob_,cond_true,hfd,ob_,sameW _ (by omega),ob_,cond_true,r2,ob_,sameP r (by omega),ob_,cond_true,H7]
  rfl
 ·have hb:(or0 (uo xs) (or0 (rV p) (qC w)) != 0)=true:=by simpa [bne]using h0
  have h1:iP xs p w=some ([],or0 (uo xs) (or0 (rV p) (qC w))):=by
   unfold iP
   rw [hs,ob_,hb,cond_true]
  have h2:jE xs p w=some ([],or0 (uo xs) (or0 (rV p) (qC w))):=by
   unfold jE
   rw [hs,ob_,hb,cond_true]
  have h3:jW xs p w=some ([],or0 (uo xs) (or0 (rV p) (qC w))):=by
   unfold jW
   rw [hs,ob_,hb,cond_true]
  have h4:jV xs p w=some ([],or0 (uo xs) (or0 (rV p) (qC w))):=by
   unfold jV
   rw [hs,ob_,hb,cond_true]
  simp only [h1,h2,h3,h4,ob_,bne_self_eq_false,cond_false,hb,cond_true]
  rw [H7];rfl
end Go.Proofs.YthcdokkcamcnmaaGreatDoor.Law

