/-
  THE PLAIN LAW (part 3).
-/
import Derived.Test.YtadpbmfnnlkdlabGreatDoorPl2
import Derived.Test.YtadpbmfnnlkdlabGreatDoorDefs
open Go Go.Eng
namespace Go.Proofs.YtadpbmfnnlkdlabGreatDoor.Law
set_option linter.unusedVariables false
set_option linter.unusedSimpArgs false
noncomputable def delG {α:Type} (z:α) (f:α->Option Bool) (xs:List α):Option (List α) :=
 (ixF f xs).bind λr=>bif (r==(-1))then some xs else (iV (xs,r,(w64 (r+1))) (λs=>xK f s)).bind λo=>thenC o (λs_12=>(rP s_12.1 s_12.2.1 (s_12.1.length:Int)).bind λ_=>(rP (s_12.1.take ((s_12.2.1).toNat)++List.replicate (((s_12.1.length:Int)).toNat-(s_12.2.1).toNat) z++s_12.1.drop (((s_12.2.1).toNat)+(((s_12.1.length:Int)).toNat-(s_12.2.1).toNat))) 0 s_12.2.1).bind λ_=>some ((s_12.1.take ((s_12.2.1).toNat)++List.replicate (((s_12.1.length:Int)).toNat-(s_12.2.1).toNat) z++s_12.1.drop (((s_12.2.1).toNat)+(((s_12.1.length:Int)).toNat-(s_12.2.1).toNat))).take ((s_12.2.1).toNat))) (λ_=>none)
theorem delG_eq {α:Type} {z:α} {f:α->Option Bool} {q:α->Bool} {xs:List α} (hf:∀x∈xs,f x=some (q x)) (hl:xs.length<=1000000000):delG z f xs=some (xs.filter (λx => !q x)):=by
 unfold delG
 rcases ixF_eq hf hl with⟨h1,h2⟩|⟨k,hk,h1,h2,h3⟩
 ·rw [h1,ob_,filter_all (λx hx=>by rw [h2 x hx];rfl)];rfl
 ·have hne:((k:Int)==(-1))=false:=by simp
  have w1:w64 ((k:Int)+1)=((k+1:Nat):Int):=by rw [bW (by omega)];omega
  obtain ⟨l',i',g1,g2,g3,g4⟩:=Hm hf hl (xs.length-(k+1)) xs k (k+1) (by omega) (by omega) rfl (by
   rw [List.take_succ_eq_append_getElem hk,List.filter_append,filter_all (λx hx=>by rw [h3 x hx];rfl)];simp [h2]) rfl
  have g1':=kC g1
  rw [h1,ob_,hne,cond_false,w1,g1',ob_,uH]
  have hs1:rP l' (i':Int) (l'.length:Int)=some ():=by
   unfold rP;rw [if_pos ⟨by omega,by omega,by omega,by omega⟩]
  simp only [hs1,ob_,Int.toNat_natCast]
  generalize hL:(l'.take i'++List.replicate (l'.length-i') z++l'.drop (i'+(l'.length-i')))=L
  have hLt:L.take i'=l'.take i':=by
   rw [<- hL,List.append_assoc,List.take_append_of_le_length (by rw [List.length_take];omega),List.take_take,Nat.min_self]
  have hLl:i'<=L.length:=by
   rw [<- hL];simp only [List.length_append,List.length_take,List.length_replicate];omega
  have hs2:rP L 0 (i':Int)=some ():=by
   unfold rP;rw [if_pos ⟨by omega,by omega,by omega,by omega⟩]
  rw [hs2,ob_,hLt,g4]
theorem Ab {l:List Entry} {p:Player} {w:Window} {s:Span}:s∈lU l p w↔∃e∈l,Bh e p=true/\∃x∈tiL e p.Zone w,s=⟨some e,x⟩:=by
 unfold lU yY
 rw [List.mem_flatMap]
 constructor
 ·rintro ⟨e,he,hs⟩
  cases hf:Bh e p with
  | false=>rw [hf]at hs;cases hs
  | true =>
   rw [hf,cond_true,List.mem_map]at hs
   obtain ⟨x,hx,rfl⟩:=hs
   exact⟨e,he,hf,x,hx,rfl⟩
 ·rintro ⟨e,he,hf,x,hx,rfl⟩
  refine⟨e,he,?_⟩
  rw [hf,cond_true]
  exact List.mem_map.2 ⟨x,hx,rfl⟩
theorem I8 {l:List Entry} {p:Player} (h:CE l p) (w:Window):(lU l p w).length<=16004:=by
 have h1:=FE (l:=l) (f:=yY p w) (n:=4001) (λx hx=>IB h w hx)
 have h2:=h.len
 have h3:l.length*4001<=4*4001:=Nat.mul_le_mul_right _ h2
 unfold lU
 omega
theorem Ov {l:List Entry} {p:Player} (h:CE l p) {w:Window} {t:Int} {s:Span} (hs:s∈lU l p w) (h1:s.f_time.From<=t) (h2:t<s.f_time.To):∃x∈lV l p t,s=jQ x:=by
 obtain ⟨e,he,hf,x,hx,rfl⟩:=Ab.1 hs
 obtain ⟨d,d1,d2,d3,rfl⟩:=(EZ (h.right e he)).1 hx
 obtain ⟨p1,p2,p3⟩:=Ga.1 d3
 have hh:Cn e p.Zone t d=true:=nA.2 ⟨p1,d1,d2,p2,h1,h2⟩
 exact⟨(e,tF e p.Zone d),Iw.2 ⟨he,hf,(xD (h.right e he)).2 ⟨d,hh,rfl⟩⟩,rfl⟩
theorem I4 {l:List Entry} {p:Player} (h:CE l p) {w:Window} {t:Int} (hw:w.From<=t/\t<w.To) {x:Entry×Int} (hx:x∈lV l p t):jQ x∈lU l p w/\(jQ x).f_time.From<=t/\t<(jQ x).f_time.To:=by
 obtain ⟨h1,h2,h3⟩:=Iw.1 hx
 obtain ⟨d,hd,hb⟩:=(xD (h.right _ h1)).1 h3
 obtain ⟨g1,g2,g3,g4,g5,g6⟩:=nA.1 hd
 refine⟨Ab.2 ⟨x.1,h1,h2,tW x.1 p.Zone d,(EZ (h.right _ h1)).2 ⟨d,g2,g3,Ga.2 ⟨g1,g4,by omega⟩,rfl⟩,?_⟩,?_,?_⟩
 ·unfold jQ
  rw [hb];rfl
 ·show x.2<=t
  omega
 ·show t<x.2+vT x.1*60000
  omega
structure ES (m:List Span) (w:Window) (E:List Int):Prop where
 from_:w.From∈E
 to_:w.To∈E
 in_:∀x∈E,w.From<=x/\x<=w.To
 has:∀s∈m,(cutW w s.f_time).From∈E/\(cutW w s.f_time).To∈E
theorem cut_in {l:List Entry} {p:Player} (h:CE l p) {w:Window} {s:Span} (hs:s∈lU l p w):w.From<=(cutW w s.f_time).From/\(cutW w s.f_time).From<=w.To/\w.From<=(cutW w s.f_time).To/\(cutW w s.f_time).To<=w.To:=by
 obtain ⟨e,he,hf,x,hx,rfl⟩:=Ab.1 hs
 obtain ⟨d,d1,d2,d3,rfl⟩:=(EZ (h.right e he)).1 hx
 exact Ps (h.right e he) ((zP (h.right e he)).2 ⟨d,d1,d2,d3,rfl⟩)
theorem Qo {l:List Entry} {p:Player} (h:CE l p) {w:Window} (hok:Na w) (hw:w.From<=w.To):∃C,nz l p w=some C/\C.Pairwise (· < ·)/\ES (lU l p w) w C/\C.length<=40000:=by
 have hl:=I8 h w
 unfold nz
 rw [spans_eq h hok,ob_]
 obtain ⟨E,e1,e2,e3⟩:=qd (body:=λk x s=>jZ w k x s) (λk s=>ES ((lU l p w).take k) w s/\s.length=2+2*k) (xs:=lU l p w) (s:=([w.From,w.To]:List Int)) (by omega) (λk x s hx ⟨i1,i2⟩=>by
  have hk:k<(lU l p w).length:=(List.getElem?_eq_some_iff.1 hx).1
  have et:(lU l p w).take (k+1)=(lU l p w).take k++[x]:=by rw [List.take_add_one,hx];rfl
  obtain ⟨b1,b2,b3,b4⟩:=cut_in h (List.mem_of_getElem? hx)
  unfold jZ
  show ∃s',((some (cutW w x.f_time)).bind λr_22=>_)=_/\_
  rw [ob_,mh _ _ (by simp only [List.length_cons,List.length_nil];omega)]
  refine⟨_,rfl,⟨List.mem_append_left _ i1.from_,List.mem_append_left _ i1.to_,λy hy => ?_,λy hy => ?_⟩,?_⟩
  ·rcases List.mem_append.1 hy with hy|hy
   ·exact i1.in_ y hy
   ·simp only [List.mem_cons,List.not_mem_nil,or_false]at hy
    rcases hy with rfl|rfl <;> omega
  ·rw [et]at hy
   rcases List.mem_append.1 hy with hy|hy
   ·exact⟨List.mem_append_left _ (i1.has y hy).1,List.mem_append_left _ (i1.has y hy).2⟩
   ·rw [List.mem_singleton.1 hy]
    exact⟨List.mem_append_right _ (by simp),List.mem_append_right _ (by simp)⟩
  ·rw [List.length_append];simp only [List.length_cons,List.length_nil];omega) ⟨⟨by simp,by simp,λx hx=>by
   simp only [List.mem_cons,List.not_mem_nil,or_false]at hx
   rcases hx with rfl|rfl <;> omega,λe he=>(by cases he)⟩,by simp⟩
 rw [List.take_length]at e2
 rw [e1]
 simp only [ob_,thenC]
 have hne:neL E=some ():=by
  unfold neL
  have:=List.ne_nil_of_mem e2.from_
  first | rw [if_pos this] | (cases E with | nil=>exact absurd rfl this | cons a E=>rfl)
 obtain ⟨s,C,c1,c2,c3,c4,c5,c6⟩:=rR E (by omega)
 have c2':mo s E=some ():=by unfold mo;rw [if_pos c2]
 rw [hne,ob_,c1,ob_,c2',ob_,c3,ob_]
 refine⟨C,rfl,c4,⟨(c5 _).2 e2.from_,(c5 _).2 e2.to_,λx hx=>e2.in_ x ((c5 x).1 hx),λe he => ?_⟩,by omega⟩
 obtain ⟨a,b⟩:=e2.has e he
 exact⟨(c5 _).2 a,(c5 _).2 b⟩
theorem E8 {xs:List Span} (hc:∀a∈xs,∀b∈xs,eX a b=some (cE (rQ a) (rQ b))) (hne:xs ≠ []) (hl:xs.length<=1000000):∃m,bG xs=some m/\m∈xs/\∀s∈xs,wh (rQ s) (rQ m)=false:=by
 have hpos:0<xs.length:=List.length_pos_iff.2 hne
 have h0:xs[(0+(0:Int).toNat)]? = some xs[0]:=List.getElem?_eq_getElem hpos
 unfold bG
 rw [decide_eq_false (by omega),cond_false,ob_,zl (by omega) (by omega),ob_,h0,ob_]
 obtain ⟨s,s1,s2⟩:=DT (body:=λs=>bA xs s) (λk s=>s.1=((k+1:Nat):Int)/\∃m,s.2=(m.f_e,m.f_time.From,m.f_time.To)/\m∈xs/\∀(j:Nat) (y:Span),j<=k->xs[j]? = some y->wh (rQ y) (rQ m)=false) (xs.length-1) (λk s hk ⟨i1,m,i2,i3,i4⟩=>by
  obtain ⟨i,t⟩:=s
  simp only at i1 i2
  subst i1 i2
  have hkl:k+1<xs.length:=by omega
  have hx:xs[(0+(((k+1:Nat):Int)).toNat)]? = some xs[k+1]:=by rw [show 0+(((k+1:Nat):Int)).toNat=k+1 by omega];exact List.getElem?_eq_getElem hkl
  have hm:=List.getElem_mem hkl
  have hcm:eX xs[k+1] (⟨m.f_e,(⟨m.f_time.From,m.f_time.To⟩:Window)⟩:Span)=some (cE (rQ xs[k+1]) (rQ m)):=hc _ hm _ i3
  have w1:w64 (((k+1:Nat):Int)+1)=((k+1+1:Nat):Int):=by rw [bW (by omega)];omega
  unfold bA
  simp only []
  rw [decide_eq_true (by omega),cond_true,zl (by omega) (by omega),ob_,hx,ob_,hcm,ob_,w1]
  by_cases hlt:cE (rQ xs[k+1]) (rQ m)<0
  ·rw [decide_eq_true hlt,cond_true]
   simp only [ob_]
   refine⟨_,rfl,rfl,xs[k+1],rfl,hm,λj y hj hy => ?_⟩
   cases hb:wh (rQ y) (rQ xs[k+1])with
   | false=>rfl
   | true =>
    by_cases hjk:j=k+1
    ·subst hjk
     rw [List.getElem?_eq_getElem hkl,so_]at hy
     rw [<- hy,yU]at hb;cases hb
    ·have h1:=i4 j y (by omega) hy
     rw [xI _ _ _ hb (vZ.1 hlt)]at h1;cases h1
  ·rw [decide_eq_false hlt,cond_false]
   simp only [ob_]
   refine⟨_,rfl,rfl,m,rfl,i3,λj y hj hy => ?_⟩
   by_cases hjk:j=k+1
   ·subst hjk
    rw [List.getElem?_eq_getElem hkl,so_]at hy
    rw [<- hy]
    cases hb:wh (rQ xs[k+1]) (rQ m)with
    | false=>rfl
    | true=>exact absurd (vZ.2 hb) hlt
   ·exact i4 j y (by omega) hy) (λs ⟨i1,m,i2,i3,i4⟩=>by
  obtain ⟨i,t⟩:=s
  simp only at i1 i2
  subst i1 i2
  unfold bA
  simp only []
  rw [decide_eq_false (by omega),cond_false]) (s:=(1,xs[0].f_e,xs[0].f_time.From,xs[0].f_time.To)) ⟨rfl,xs[0],rfl,List.getElem_mem hpos,λj y hj hy=>by
   obtain rfl:j=0:=by omega
   rw [List.getElem?_eq_getElem hpos,so_]at hy
   rw [<- hy,yU]⟩
 obtain ⟨i1,m,i2,i3,i4⟩:=s2
 obtain ⟨i,t⟩:=s
 simp only at i1 i2
 subst i2
 rw [s1]
 refine⟨m,rfl,i3,λy hy => ?_⟩
 obtain ⟨j,hj⟩:=List.getElem?_of_mem hy
 have hjl:j<xs.length:=(List.getElem?_eq_some_iff.1 hj).1
 exact i4 j y (by omega) hj
theorem PE {l:List Entry} {p:Player} (h:CE l p) {w:Window} {t:Int} (hw:w.From<=t/\t<w.To) {xs:List Span} (hx:∀s,s∈xs↔s∈lU l p w/\s.f_time.From<=t/\t<s.f_time.To) (hl:xs.length<=1000000) :
  (bif (decide ((xs.length:Int)>0))then (neL xs).bind λ_=>(bG xs).bind λr_73=>(r_73.f_e).bind λy_75=>some y_75.Key else some (⟨#[]⟩:ByteArray))=some (rO l p t):=by
 cases hxs:xs with
 | nil =>
  have hn:lV l p t=[]:=List.eq_nil_iff_forall_not_mem.2 (λx hc=>by
   have:=(hx _).2 (I4 h hw hc)
   rw [hxs]at this;cases this)
  rw [MZ hn];rfl
 | cons a r =>
  have hsp:∀s∈xs,∃x∈lV l p t,s=jQ x:=λs hs=>by
   obtain ⟨h1,h2,h3⟩:=(hx s).1 hs
   exact Ov h h1 h2 h3
  obtain ⟨m,m1,m2,m3⟩:=E8 (xs:=xs) (λa ha b hb=>by
   obtain ⟨x,_,rfl⟩:=hsp a ha
   obtain ⟨y,_,rfl⟩:=hsp b hb
   exact El x y) (by rw [hxs];simp) hl
  obtain ⟨x,x1,rfl⟩:=hsp m m2
  rw [<- hxs,decide_eq_true (by rw [hxs];simp only [List.length_cons];omega),cond_true]
  have hne:neL xs=some ():=by rw [hxs];rfl
  rw [hne,ob_,m1,ob_]
  show (some x.1).bind _=_
  rw [ob_,Mf h.keys p t x1 (λy hy=>m3 _ ((hx _).2 (I4 h hw hy)))]
theorem Pj {all:List Span} {E:List Int} {i:Nat} {a:Int} (ha:E[i]? = some a) (hl:all.length<=1000000) (st:(List Slot_)×(List Span)×Int×Int) (hst:st.2.2.2=(i:Int)) {op:List Span} {nx:Nat} (hnx:nx<=all.length) (hop:op.length<=nx) :
  ∃n',nx<=n'/\n'<=all.length/\iV (op,(nx:Int)) (λs=>fU all E st s)=some (.go (op++(all.drop nx).take (n'-nx),(n':Int)))/\(∀s∈(all.drop nx).take (n'-nx),s.f_time.From<=a)/\(∀s,all[n']? = some s->a<s.f_time.From):=by
 have htw:∃N,N<=(all.drop nx).length/\(∀s∈(all.drop nx).take N,s.f_time.From<=a)/\(∀s,(all.drop nx)[N]? = some s->a<s.f_time.From):=by
  generalize all.drop nx=ys
  induction ys with
  | nil=>exact⟨0,Nat.le_refl _,λs hs=>(by cases hs),λs hs=>(by cases hs)⟩
  | cons y ys ih =>
   by_cases hy:y.f_time.From<=a
   ·obtain ⟨N,n1,n2,n3⟩:=ih
    refine⟨N+1,by simpa using n1,λs hs => ?_,λs hs=>n3 s (by simpa using hs)⟩
    rw [List.take_succ_cons]at hs
    rcases List.mem_cons.1 hs with rfl|hs
    ·exact hy
    ·exact n2 s hs
   ·exact⟨0,Nat.zero_le _,λs hs=>(by cases hs),λs hs=>by
     rw [List.getElem?_cons_zero,so_]at hs;rw [<- hs];omega⟩
 obtain ⟨N,n1,n2,n3⟩:=htw
 rw [List.length_drop]at n1
 refine⟨nx+N,by omega,by omega,?_,by rw [show nx+N-nx=N by omega];exact n2,λs hs=>n3 s (by rw [List.getElem?_drop];exact hs)⟩
 rw [show nx+N-nx=N by omega]
 obtain ⟨s,s1,s2,s3⟩:=DT (body:=λs=>fU all E st s) (λk s=>s.1=op++(all.drop nx).take k/\s.2=((nx+k:Nat):Int)) N (λk s hk ⟨i1,i2⟩=>by
  obtain ⟨o,n⟩:=s
  simp only at i1 i2
  subst i1 i2
  have hkl:nx+k<all.length:=by omega
  have hx:all[(0+(((nx+k:Nat):Int)).toNat)]? = some all[nx+k]:=by rw [show 0+(((nx+k:Nat):Int)).toNat=nx+k by omega];exact List.getElem?_eq_getElem hkl
  have hd:(all.drop nx)[k]? = some all[nx+k]:=by rw [List.getElem?_drop];exact List.getElem?_eq_getElem hkl
  have hfr:all[nx+k].f_time.From<=a:=n2 _ (List.mem_of_getElem? (i:=k) (by rw [List.getElem?_take,if_pos hk];exact hd))
  have et:(all.drop nx).take (k+1)=(all.drop nx).take k++[all[nx+k]]:=by rw [List.take_add_one,hd];rfl
  have hlen:((all.drop nx).take k).length<=all.length:=by rw [List.length_take,List.length_drop];omega
  have w1:w64 (((nx+k:Nat):Int)+1)=((nx+(k+1):Nat):Int):=by rw [bW (by omega)];omega
  unfold fU
  simp only []
  rw [decide_eq_true (by omega),cond_true,zl (by omega) (by omega),ob_,hx,ob_,hst,mG,ha,ob_,ob_,decide_eq_true hfr,cond_true,ob_,ob_,mh _ _ (by rw [List.length_append];simp only [List.length_cons,List.length_nil];omega),ob_,w1]
  exact⟨_,rfl,by simp only [];rw [et,List.append_assoc],rfl⟩) (λs ⟨i1,i2⟩=>by
  obtain ⟨o,n⟩:=s
  simp only at i1 i2
  subst i1 i2
  unfold fU
  simp only []
  by_cases hend:nx+N<all.length
  ·have hx:all[(0+(((nx+N:Nat):Int)).toNat)]? = some all[nx+N]:=by rw [show 0+(((nx+N:Nat):Int)).toNat=nx+N by omega];exact List.getElem?_eq_getElem hend
   have hfr:=n3 all[nx+N] (by rw [List.getElem?_drop];exact List.getElem?_eq_getElem hend)
   rw [decide_eq_true (by omega),cond_true,zl (by omega) (by omega),ob_,hx,ob_,hst,mG,ha,ob_,ob_,decide_eq_false (by omega),cond_false]
  ·rw [decide_eq_false (by omega),cond_false,ob_,cond_false]) (s:=(op,(nx:Int))) ⟨by simp,by simp⟩
 obtain ⟨o,n⟩:=s
 simp only at s2 s3
 rw [s1,s2,s3]
theorem delNil (E:List Int) (i:Int):bP E i=some ():=by
 have:bU ([]:List Span) (λx0=>fE x0 E i)=some (-1):=by
  unfold bU
  rw [qi (by simp)];rfl
 unfold bP
 rw [this];rfl
theorem delS {E:List Int} {i:Nat} {a:Int} (ha:E[i]? = some a) {xs:List Span} (hl:xs.length<=1000000):bO xs E (i:Int)=some (xs.filter (λs => !decide (s.f_time.To<=a))):=by
 have e:bO xs E (i:Int)=delG (⟨none,(⟨0,0⟩:Window)⟩:Span) (λe=>fE e E (i:Int)) xs:=rfl
 rw [e]
 refine delG_eq (λx _ => ?_) (by omega)
 unfold fE
 rw [mG,ha];rfl
theorem MO {l:List Entry} {p:Player} (h:CE l p) {w:Window} (hok:Na w) (hw:w.From<=w.To):∃t,kS l p w=some t/\lQ (rO l p) w.To w.From t/\t.length<=40000:=by
 have hsl:=I8 h w
 obtain ⟨C,c1,c2,c3,c4⟩:=Qo h hok hw
 obtain ⟨d1,d2⟩:=Om c2 c3.from_ c3.to_ c3.in_
 obtain ⟨all,a1,a2,a3⟩:=Gp (F:=λa b=>iR a b) (λa b=>JO a.f_time.From b.f_time.From) (xs:=lU l p w) (by omega) (λa _ b _=>by
  unfold iR;rw [IA];rfl) (λa _=>by rw [xq];omega) (λa _ b _ d _ h1 h2=>by rw [xq]at *;omega) (λa _ b _ d _ h1 h2=>by rw [xq]at *;omega)
 have a3':all.Pairwise (λa b=>a.f_time.From<=b.f_time.From):=a3.imp (λ{a b} q=>by rw [xq]at q;omega)
 have hal:all.length<=16004:=by rw [a2.length_eq];exact hsl
 have hsort:gZ (lU l p w)=some all:=a1
 have hsame:mo all (lU l p w)=some ():=by unfold mo;rw [if_pos a2.length_eq]
 unfold kS
 rw [spans_eq h hok,ob_,hsort,ob_,hsame,ob_,c1,ob_]
 have hlen:0<C.length:=(List.getElem?_eq_some_iff.1 d1).1
 have hedge:∀(i:Nat) (a b:Int),C[i]? = some a->C[i+1]? = some b->∀t,a<=t->t<b->rO l p t=rO l p a:=λi a b ha hb' t t1 t2=>QX h.right c2 c3.in_ (λe he hf x hx=>by
  obtain ⟨d,q1,q2,q3,rfl⟩:=(zP (h.right e he)).1 hx
  exact c3.has ⟨some e,tW e p.Zone d⟩ (Ab.2 ⟨e,he,hf,tW e p.Zone d,(EZ (h.right e he)).2 ⟨d,q1,q2,q3,rfl⟩,rfl⟩)) ha hb' t1 t2
 obtain ⟨s,s1,s2⟩:=DT (body:=λs=>fV C all s) (λk s=>s.2.2.2=(k:Int)/\s.1.length<=k/\∃(a:Int) (nx:Nat),C[k]? = some a/\lQ (rO l p) a w.From s.1/\s.2.2.1=(nx:Int)/\nx<=all.length/\s.2.1.length<=nx/\(∀x∈s.2.1,x∈all.take nx)/\(∀x∈all.take nx,x.f_time.From<=a/\(x∈s.2.1\/x.f_time.To<=a))) (C.length-1) (λk s hk ⟨i1,i2,a,nx,i3,i4,i5,i6,i7,i8,i9⟩=>by
  have hst:=i1
  obtain ⟨out,op,n,i⟩:=s
  simp only at i1 i2 i4 i5 i7 i8 i9
  subst i1 i5
  have hb:C[k+1]? = some C[k+1]:=List.getElem?_eq_getElem (by omega)
  have hab:=OJ c2 i3 hb
  have ain:=c3.in_ a (List.mem_of_getElem? i3)
  have bin:=c3.in_ C[k+1] (List.getElem_mem _)
  obtain ⟨n',m1,m2,m3,m4,m5⟩:=Pj i3 (by omega) (out,op,(nx:Int),(k:Int)) rfl i6 i7
  have etk:all.take n'=all.take nx++(all.drop nx).take (n'-nx):=by
   have:=List.take_append_drop nx (all.take n')
   rw [List.take_take,Nat.min_eq_left m1,List.drop_take]at this
   exact this.symm
  have hmem:∀x,x∈(op++(all.drop nx).take (n'-nx)).filter (λs => !decide (s.f_time.To<=a))↔x∈lU l p w/\x.f_time.From<=a/\a<x.f_time.To:=λx=>by
   rw [List.mem_filter,List.mem_append,<- a2.mem_iff]
   constructor
   ·rintro ⟨h1,h2⟩
    have hto:a<x.f_time.To:=by simpa using h2
    rcases h1 with h1|h1
    ·have:=i8 x h1
     exact⟨List.mem_of_mem_take this,(i9 x this).1,hto⟩
    ·exact⟨List.mem_of_mem_drop (List.mem_of_mem_take h1),m4 x h1,hto⟩
   ·rintro ⟨h1,h2,h3⟩
    refine⟨?_,by simpa using h3⟩
    have hin:x∈all.take n':=by
     obtain ⟨j,hj⟩:=List.getElem?_of_mem h1
     have hjl:=(List.getElem?_eq_some_iff.1 hj).1
     by_cases hjn:j<n'
     ·exact List.mem_of_getElem? (i:=j) (by rw [List.getElem?_take,if_pos hjn];exact hj)
     ·exfalso
      have hn:n'<all.length:=by omega
      have h5:=m5 all[n'] (List.getElem?_eq_getElem hn)
      by_cases e:j=n'
      ·subst e
       rw [List.getElem?_eq_getElem hn,so_]at hj
       rw [hj]at h5;omega
      ·have:=List.pairwise_iff_getElem.1 a3' n' j hn hjl (by omega)
       rw [List.getElem?_eq_getElem hjl,so_]at hj
       rw [hj]at this;omega
    rw [etk]at hin
    rcases List.mem_append.1 hin with hin|hin
    ·rcases (i9 x hin).2 with q|q
     ·exact .inl q
     ·omega
    ·exact .inr hin
  have hol:(op++(all.drop nx).take (n'-nx)).length<=n':=by rw [List.length_append,List.length_take,List.length_drop];omega
  have hfl:=List.length_filter_le (λs:Span => !decide (s.f_time.To<=a)) (op++(all.drop nx).take (n'-nx))
  have hleL:leL ((op++(all.drop nx).take (n'-nx)).filter (λs => !decide (s.f_time.To<=a))) (op++(all.drop nx).take (n'-nx))=some ():=by unfold leL;rw [if_pos hfl]
  have hkey:=PE h (t:=a) ⟨ain.1,by omega⟩ hmem (by omega)
  have w1:w64 ((k:Int)+1)=((k+1:Nat):Int):=by rw [bW (by omega)];omega
  have hput:=putC_eq (rO l p a) a C[k+1] out (by omega)
  have hgo:fV C all (out,op,(nx:Int),(k:Int))=(putC (rO l p a) a C[k+1] out).bind λv=>some (.go (v,(op++(all.drop nx).take (n'-nx)).filter (λs => !decide (s.f_time.To<=a)),(n':Int),((k+1:Nat):Int))):=by
   unfold fV
   simp only []
   rw [w1,decide_eq_true (by omega),cond_true,m3,ob_]
   simp only [thenC]
   rw [delS i3 (by omega),ob_,hleL,ob_,delNil,ob_,hkey,ob_,mG,mG,hb,i3]
   simp only [ob_]
   unfold putC
   generalize (bif decide (w64 ((out.length:Int)-1)>=0)then _ else _:Option Bool)=c
   cases c with
   | none=>rfl
   | some c =>
    cases c with
    | false =>
     simp only [ob_,cond_false]
    | true =>
     simp only [ob_,cond_true]
  rw [hgo,hput]
  refine⟨_,rfl,rfl,?_,_,n',hb,?_,rfl,m2,?_,λx hx => ?_,λx hx => ?_⟩
  ·simp only []
   have:=Lp (rO l p a) a C[k+1] out
   omega
  ·exact lQ.add hab (λt t1 t2=>hedge k a _ i3 hb t t1 t2) out w.From i4
  ·simp only [];omega
  ·obtain ⟨h1,h2⟩:=List.mem_filter.1 hx
   rw [etk]
   rcases List.mem_append.1 h1 with h1|h1
   ·exact List.mem_append_left _ (i8 x h1)
   ·exact List.mem_append_right _ h1
  ·rw [etk]at hx
   have h1:x.f_time.From<=a/\(x∈op++(all.drop nx).take (n'-nx)\/x.f_time.To<=a):=by
    rcases List.mem_append.1 hx with hx|hx
    ·refine⟨(i9 x hx).1,?_⟩
     rcases (i9 x hx).2 with q|q
     ·exact .inl (List.mem_append_left _ q)
     ·exact .inr q
    ·exact⟨m4 x hx,.inl (List.mem_append_right _ hx)⟩
   refine⟨by omega,?_⟩
   by_cases hto:x.f_time.To<=a
   ·exact .inr (by omega)
   ·rcases h1.2 with q|q
    ·exact .inl (List.mem_filter.2 ⟨q,by simpa using hto⟩)
    ·exact absurd q hto) (λs ⟨i1,i2,a,nx,i3,i4,i5,i6,i7,i8,i9⟩=>by
  obtain ⟨out,op,n,i⟩:=s
  simp only at i1
  subst i1
  unfold fV
  simp only []
  rw [bW (by omega),decide_eq_false (by omega),cond_false]) (s:=(([]:List Slot_),([]:List Span),0,0)) ⟨rfl,Nat.le_refl _,w.From,0,d1,by unfold lQ;rfl,rfl,Nat.zero_le _,Nat.le_refl _,λx hx=>(by cases hx),λx hx=>(by cases hx)⟩
 obtain ⟨i1,i2,a,nx,i3,i4,_⟩:=s2
 rw [d2,so_]at i3
 rw [s1]
 exact⟨s.1,rfl,by rw [i3];exact i4,by omega⟩
end Go.Proofs.YtadpbmfnnlkdlabGreatDoor.Law

open Go Go.Eng
namespace Go.Proofs.YtadpbmfnnlkdlabGreatDoor.Law
set_option linter.unusedVariables false
set_option linter.unusedSimpArgs false
def yg (last:ByteArray) (x:Entry):Int:=bif wR x==0 then (bif sLe x.Key last then 7 else 0)else wR x
def CJ (l:List Entry):Int:=chk (λe:Entry=>e.Key) yg BX l
theorem Nn {l:List Entry} (h:∀e∈l,CF e) (hl:l.length<=100):di l=some (CJ l):=by
 unfold di CJ
 rw [decide_eq_false (by omega),cond_false,qi (by omega),GQ (key:=λe:Entry=>e.Key) (stp:=yg) l l 0 rfl (λk x hx => ?_)]
 ·simp only [ob_,Dl];rfl
 ·unfold eY yg
  rw [entK x (h x (List.mem_of_getElem? hx)),ob_]
  cases he:wR x==0 with
  | false =>
   have:(wR x != 0)=true:=by simp [bne,he]
   rw [this,cond_true,cond_false]
   unfold G8;rw [he];rfl
  | true =>
   have:(wR x != 0)=false:=by simp [bne,he]
   have hk:=Ky (eq_of_beq he)
   rw [this,cond_false,cond_true]
   have h2:=Iz (key:=λe:Entry=>e.Key) hx (by omega) hk
   rw [h2,ob_]
   cases sLe x.Key (AC (λe:Entry=>e.Key) l k) <;> rfl
theorem zX:∀(l:List Entry) (last:ByteArray),chk (λe:Entry=>e.Key) yg last l=0->(∀e∈l,wR e=0/\lt last e.Key)/\l.Pairwise (λa b=>lt a.Key b.Key)
 | [],last,_=>⟨λe he=>(by cases he),.nil⟩
 | x::xs,last,h=>by
  unfold chk at h
  cases h0:yg last x==0 with
  | false=>rw [h0,cond_false]at h;rw [h]at h0;cases h0
  | true =>
   rw [h0,cond_true]at h
   obtain ⟨i1,i2⟩:=zX xs x.Key h
   have h0:=eq_of_beq h0
   unfold yg at h0
   cases he:wR x==0 with
   | false=>rw [he,cond_false]at h0;rw [h0]at he;cases he
   | true =>
    rw [he,cond_true]at h0
    have hlt:lt last x.Key:=by
     cases hs:sLe x.Key last with
     | true=>rw [hs]at h0;cases h0
     | false =>
      rcases F6 last x.Key with q|q|q
      ·exact q
      ·have:=(Ad x.Key last).2 (by rw [q];exact su _)
       rw [hs]at this;cases this
      ·have:=(Ad x.Key last).2 (λk=>su _ (lt_trans q k))
       rw [hs]at this;cases this
    refine⟨λe hm => ?_,List.pairwise_cons.2 ⟨λe hm=>(i1 e hm).2,i2⟩⟩
    rcases List.mem_cons.1 hm with rfl|hm
    ·exact⟨eq_of_beq he,hlt⟩
    ·exact⟨(i1 e hm).1,lt_trans hlt (i1 e hm).2⟩
theorem ce_of {l:List Entry} {p:Player} (hg:∀e∈l,CF e) (hl:l.length<=4) (h:CJ l=0) (hp:Az p=0):CE l p:=by
 obtain ⟨h1,h2⟩:=zX l BX h
 have hz:jm p.Zone (-1440) 1440=false/\tagsF p.Tags=0:=by
  unfold Az at hp
  cases hk:(!qK p.Key || !qK p.Screen)with
  | true=>rw [hk]at hp;cases hp
  | false =>
   rw [hk,cond_false]at hp
   cases ho:jm p.Zone (-1440) 1440 with
   | true=>rw [ho]at hp;cases hp
   | false=>rw [ho]at hp;exact⟨rfl,hp⟩
 refine⟨λe he=>entF_0 (h1 e he).1,λe he=>by have:=(hg e he).2.2.2.1;omega,hl,?_,λe he hk => ?_,qU hz.1,hz.2⟩
 ·unfold List.Nodup
  rw [List.pairwise_map]
  exact h2.imp (λ{a b} q=>λ(e:a.Key=b.Key)=>su b.Key (by rw [e]at q;exact q))
 ·exact Ky (h1 e he).1 (by rw [hk];rfl)
def moF (t:Int):Int:=bif jm t 0 345686399999 then 1 else 0
theorem moK (t:Int):dE t=some (!jm t 0 345686399999):=by
 have e:(!jm t 0 345686399999)=(decide (t>=0)&&decide (t<345686400000)):=by
  unfold jm
  rw [Bool.eq_iff_iff]
  simp only [Bool.not_eq_true',Bool.or_eq_false_iff,decide_eq_false_iff_not,Bool.and_eq_true,decide_eq_true_eq]
  omega
 unfold dE
 rw [e]
 cases decide (t>=0) <;> cases decide (t<345686400000) <;> rfl
def faV (l:List Entry) (p:Player) (t:Int):Int:=or0 (CJ l) (or0 (Az p) (moF t))
theorem momentK {l:List Entry} {p:Player} (h:∀e∈l,CF e) (hl:l.length<=100) (hp:Qb p) (t:Int):fA l p t=some (faV l p t):=by
 unfold fA faV or0 moF
 rw [Nn h hl,ob_,playK p hp,ob_,moK,ob_]
 cases h1:CJ l==0 with
 | false =>
  have:(CJ l != 0)=true:=by simp [bne,h1]
  rw [this];rfl
 | true =>
  have:(CJ l != 0)=false:=by simp [bne,h1]
  rw [this]
  cases h2:Az p==0 with
  | false =>
   have:(Az p != 0)=true:=by simp [bne,h2]
   rw [this];rfl
  | true =>
   have:(Az p != 0)=false:=by simp [bne,h2]
   rw [this]
   cases jm t 0 345686399999 <;> rfl
end Go.Proofs.YtadpbmfnnlkdlabGreatDoor.Law

open Go Go.Eng
namespace Go.Proofs.YtadpbmfnnlkdlabGreatDoor.Law
set_option linter.unusedVariables false
set_option linter.unusedSimpArgs false
theorem Po {α:Type} {L:Nat->α->(List α×List Int×Int)->Option (Ctl (List α×List Int×Int) Unit)} {n:Int} (hn:1<=n) (hn2:n<=1000)
  (hL:∀k x s,L k x s=(iq (⟨s.2.1,s.2.2⟩:Stream) n).bind λr=>(bif r.1 then (lm s.1 ([x]:List α)).bind λa=>some a else some s.1).bind λv=>some (.go (v,r.2.L,r.2.f_at)))
  {xs:List α} (hl:xs.length<=10) (s:Stream) {b:Int} (hs:Ok s b) (hb:b<=900000) :
  ∃t s',forL xs (([]:List α),s.L,s.f_at) (λk x s=>L k x s)=some (.go (t,s'.L,s'.f_at))/\Ok s' (b+10)/\t.Sublist xs:=by
 obtain ⟨t,t1,t2,t3⟩:=qd (body:=λk x s=>L k x s) (xs:=xs) (s:=(([]:List α),s.L,s.f_at)) (λk t=>t.1.Sublist (xs.take k)/\Ok ⟨t.2.1,t.2.2⟩ (b+k)) (by omega) (λk x t hx ⟨i1,i2⟩=>by
  have hk:k<xs.length:=(List.getElem?_eq_some_iff.1 hx).1
  have et:xs.take (k+1)=xs.take k++[x]:=by rw [List.take_add_one,hx];rfl
  have hlen:t.1.length<=10:=Nat.le_trans i1.length_le (by rw [List.length_take];omega)
  obtain ⟨f,s1,c1,c2⟩:=J9 _ n i2 (by omega) hn hn2
  simp only [hL,c1,ob_]
  cases f with
  | true =>
   simp only [cond_true,mh t.1 [x] (by simp;omega),ob_]
   exact⟨_,rfl,by rw [et];exact i1.append (List.Sublist.refl _),c2.mono (by omega)⟩
  | false =>
   simp only [cond_false,ob_]
   exact⟨_,rfl,by rw [et];exact i1.trans (List.sublist_append_left _ _),c2.mono (by omega)⟩) ⟨List.Sublist.refl _,hs.mono (by simp)⟩
 exact⟨t.1,⟨t.2.1,t.2.2⟩,t1,t3.mono (by omega),by simpa using t2⟩
def keL:List ByteArray:=[(⟨#[101,97]⟩:ByteArray),(⟨#[101,98]⟩:ByteArray),(⟨#[101,99]⟩:ByteArray),(⟨#[101,100]⟩:ByteArray)]
def itL:List ByteArray:=[(⟨#[105,97]⟩:ByteArray),(⟨#[105,98]⟩:ByteArray),(⟨#[105,99]⟩:ByteArray)]
def tgL:List ByteArray:=[(⟨#[99,105,116,121]⟩:ByteArray),(⟨#[109,97,108,108]⟩:ByteArray)]
theorem NQ:∀k∈keL,qK k=true/\Nat.ble k.size 1000=true:=by
 intro k hk
 simp only [keL,List.mem_cons,List.not_mem_nil,or_false]at hk
 rcases hk with rfl|rfl|rfl|rfl <;> exact⟨by kernel_rfl,rfl⟩
theorem itL_key:∀k∈itL,qK k=true/\Nat.ble k.size 1000=true:=by
 intro k hk
 simp only [itL,List.mem_cons,List.not_mem_nil,or_false]at hk
 rcases hk with rfl|rfl|rfl <;> exact⟨by kernel_rfl,rfl⟩
theorem Pe:keL.Pairwise lt:=by
 have h:∀a b:ByteArray,sLt a b=true->lt a b:=λa b=>(vP a b).1
 unfold keL
 refine .cons (λx hx => ?_) (.cons (λx hx => ?_) (.cons (λx hx => ?_) (.cons (λx hx=>(by cases hx)) .nil)))
 all_goals
  simp only [List.mem_cons,List.not_mem_nil,or_false]at hx
 ·rcases hx with rfl|rfl|rfl <;> exact h _ _ (by kernel_rfl)
 ·rcases hx with rfl|rfl <;> exact h _ _ (by kernel_rfl)
 ·rcases hx with rfl;exact h _ _ (by kernel_rfl)
theorem ex_0 {t:List Int} (h:t.Sublist [1,2,8]):exF t=0:=by
 cases h with
 | cons _ h=>cases h with
  | cons _ h=>cases h with
   | cons _ h=>cases h;rfl
   | cons_cons _ h=>cases h;rfl
  | cons_cons _ h=>cases h with
   | cons _ h=>cases h;rfl
   | cons_cons _ h=>cases h;rfl
 | cons_cons _ h=>cases h with
  | cons _ h=>cases h with
   | cons _ h=>cases h;rfl
   | cons_cons _ h=>cases h;rfl
  | cons_cons _ h=>cases h with
   | cons _ h=>cases h;rfl
   | cons_cons _ h=>cases h;rfl
theorem tg_0 {t:List ByteArray} (h:t.Sublist tgL):tagsF t=0:=by
 cases h with
 | cons _ h=>cases h with
  | cons _ h=>cases h;kernel_rfl
  | cons_cons _ h=>cases h;kernel_rfl
 | cons_cons _ h=>cases h with
  | cons _ h=>cases h;kernel_rfl
  | cons_cons _ h=>cases h;kernel_rfl
theorem Ls {t:List ByteArray} (h:t.Sublist tgL):t.length<=2/\∀x∈t,wZ x:=by
 refine⟨h.length_le,λx hx => ?_⟩
 have:=h.subset hx
 simp only [tgL,List.mem_cons,List.not_mem_nil,or_false]at this
 rcases this with rfl|rfl <;> exact xk rfl
theorem IR:∀(l:List Entry) (last:ByteArray),(∀e∈l,wR e=0/\lt last e.Key)->l.Pairwise (λa b=>lt a.Key b.Key)->chk (λe:Entry=>e.Key) yg last l=0
 | [],_,_,_=>rfl
 | x::xs,last,h,hp=>by
  obtain ⟨h1,h2⟩:=h x List.mem_cons_self
  have hs:sLe x.Key last=false:=by
   cases hs:sLe x.Key last with
   | false=>rfl
   | true=>exact absurd h2 ((Ad _ _).1 hs)
  have h0:yg last x=0:=by
   unfold yg
   rw [h1,hs];rfl
  unfold chk
  rw [h0]
  obtain ⟨p1,p2⟩:=List.pairwise_cons.1 hp
  exact IR xs x.Key (λe he=>⟨(h e (List.mem_cons_of_mem _ he)).1,p1 e he⟩) p2
theorem nil_lt {k:ByteArray} (h:qK k=true):lt BX k:=by
 rcases F6 BX k with q|q|q
 ·exact q
 ·exact absurd (by rw [<- q];rfl) (EP h)
 ·have:=(Ad k BX).2 (λq2=>su _ (lt_trans q q2))
  have e:sLe k BX=decide (k.size=0):=Nu k
  rw [e]at this
  exact absurd (of_decide_eq_true this) (EP h)
theorem zw {l:List Int} {x lo hi:Int} (h:x∈l) (hb:(l.all λy=>decide (lo<=y)&&decide (y<=hi))=true):lo<=x/\x<=hi:=by
 have:=List.all_eq_true.1 hb x h
 simpa using this
theorem zA {n lo hi:Int} (h:lo<=n/\n<=hi):jm n lo hi=false:=Fb h
theorem rightE (s:Stream) {b:Int} (hs:Ok s b) (hb:b<=800000):∃xs s',fM s=some (xs,s')/\Ok s' (b+200)/\xs.length<=4/\(∀x∈xs,CF x)/\CJ xs=0:=by
 unfold fM
 obtain ⟨s',h1,h2,h3,h4⟩:=qd (body:=λk x s=>eG k x s) (λk s=>Ok ⟨s.2.1,s.2.2⟩ (b+40*k)/\(s.1.map (·.Key)).Sublist (keL.take k)/\∀x∈s.1,CF x/\wR x=0)
  (xs:=keL) (s:=(([]:List Entry),s.L,s.f_at)) (by decide) (λk x t hx ⟨i1,i2,i3⟩=>by
   have hk5:k<4:=(List.getElem?_eq_some_iff.1 hx).1
   have hxm:=NQ x (List.mem_of_getElem? hx)
   have et:keL.take (k+1)=keL.take k++[x]:=by rw [List.take_add_one,hx];rfl
   have hlen:t.1.length<=4:=by
    have:=i2.length_le
    rw [List.length_map,List.length_take]at this
    have h4:keL.length=4:=rfl
    omega
   obtain ⟨c,s1,k1,k2⟩:=J9 _ 4 i1 (by omega) (by decide) (by decide)
   simp only [eG,k1,ob_]
   cases c with
   | true=>exact⟨_,rfl,k2.mono (by omega),by rw [et];exact i2.trans (List.sublist_append_left _ _),i3⟩
   | false =>
    obtain ⟨it,s2,a1,ai,a2⟩:=some_ok s1 [(⟨#[105,97]⟩:ByteArray),(⟨#[105,98]⟩:ByteArray),(⟨#[105,99]⟩:ByteArray)] k2 (by omega) (by simp) (by simp)
    obtain ⟨v,s3,a3,v1,v2,a4⟩:=Fu s2 0 2 a2 (by omega) (by decide) (by decide) (by decide)
    obtain ⟨p1,s4,m1,q1,n1⟩:=vF s3 [0,0,1,3] a4 (by omega) (by simp) (by simp)
    obtain ⟨p2,s5,m2,q2,n2⟩:=vF s4 [1,1,2,3,7] n1 (by omega) (by simp) (by simp)
    obtain ⟨p3,s6,m3,q3,n3⟩:=vF s5 [127,127,31,96,1,2] n2 (by omega) (by simp) (by simp)
    obtain ⟨p4,s7,m4,q4,n4⟩:=vF s6 [0,0,60,600,1380] n3 (by omega) (by simp) (by simp)
    obtain ⟨p5,s8,m5,q5,n5⟩:=vF s7 [0,60,120,600,720,1439] n4 (by omega) (by simp) (by simp)
    obtain ⟨p6,s9,m6,q6,n6⟩:=vF s8 [0,0,1,5] n5 (by omega) (by simp) (by simp)
    obtain ⟨g,s10,m7,n7⟩:=J9 s9 8 n6 (by omega) (by decide) (by decide)
    obtain ⟨p7,s11,m8,q8,n8⟩:=vF s10 [0,1,5,10,30] n7 (by omega) (by simp) (by simp)
    obtain ⟨ex,s12,m9,n9,l9⟩:=Po (L:=iH) (n:=4) (by decide) (by decide) (λ_ _ _=>rfl) (xs:=[1,2,8]) (by simp) s11 n8 (by omega)
    obtain ⟨tg,s13,m10,n10,l10⟩:=Po (L:=iI) (n:=4) (by decide) (by decide) (λ_ _ _=>rfl) (xs:=[(⟨#[99,105,116,121]⟩:ByteArray),(⟨#[109,97,108,108]⟩:ByteArray)]) (by simp) s12 n9 (by omega)
    simp only [cond_false,a1,a3,m1,m2,m3,m4,m5,m6,m7,m8,m9,m10,ob_,uH,mh t.1 _ (show t.1.length+[_].length<=_ by simp;omega)]
    have b1:=zw (lo:=0) (hi:=3) q1 rfl
    have b2:=zw (lo:=1) (hi:=7) q2 rfl
    have b3:=zw (lo:=1) (hi:=127) q3 rfl
    have b4:=zw (lo:=0) (hi:=1380) q4 rfl
    have b5:=zw (lo:=0) (hi:=1439) q5 rfl
    have b6:=zw (lo:=0) (hi:=5) q6 rfl
    have b8:=zw (lo:=0) (hi:=30) q8 rfl
    clear q1 q2 q3 q4 q5 q6 q8
    have hit:=itL_key it ai
    obtain ⟨t1,t2⟩:=Ls l10
    have hel:ex.length<=3:=l9.length_le
    have hw:w64 (p1+p7)=p1+p7:=bW (by omega)
    refine⟨_,rfl,n10.mono (by omega),by rw [List.map_append,et];exact i2.append (List.Sublist.refl _),λy hy => ?_⟩
    rcases List.mem_append.1 hy with hy|hy
    ·exact i3 y hy
    ·rw [List.mem_singleton.1 hy]
     refine⟨⟨xk hxm.2,xk hit.2,by show ex.length<=50;omega,by show tg.length<=20;omega,t2⟩,?_⟩
     unfold wR
     simp only [hxm.1,hit.1,hw,ex_0 l9,tg_0 l10]
     rw [zA (n:=v) (by omega),zA (n:=p1) (by omega),decide_eq_false (by omega),zA (n:=p2) (by omega),zA (n:=p3) (by omega),zA (n:=p4) (by omega),zA (n:=p5) (by omega),zA (n:=p6) (by omega)];rfl) ⟨by simpa using hs,List.Sublist.refl _,by simp⟩
 have h1':forL ([(⟨#[101,97]⟩:ByteArray),(⟨#[101,98]⟩:ByteArray),(⟨#[101,99]⟩:ByteArray),(⟨#[101,100]⟩:ByteArray)]:List ByteArray) (([]:List Entry),s.L,s.f_at) (λk x s=>eG k x s)=some (.go s'):=h1
 rw [h1']
 have h3':(s'.1.map (·.Key)).Sublist keL:=by rw [List.take_length]at h3;exact h3
 refine⟨s'.1,⟨s'.2.1,s'.2.2⟩,rfl,h2.mono (by show b+40*((4:Nat):Int)<=b+200;omega),by have:=h3'.length_le;rw [List.length_map]at this;exact this,λx hx=>(h4 x hx).1,?_⟩
 have hr:=Pe.sublist h3'
 rw [List.pairwise_map]at hr
 exact IR s'.1 BX (λe he=>⟨(h4 e he).2,nil_lt (NQ _ (h3'.subset (List.mem_map.2 ⟨e,he,rfl⟩))).1⟩) hr
theorem rightP (s:Stream) {b:Int} (hs:Ok s b) (hb:b<=800000):∃p s',gu s=some (p,s')/\Ok s' (b+2)/\Qb p/\Az p=0:=by
 obtain ⟨z,s1,h1,hz,h2⟩:=vF s [0,0,60,(-90),1440] hs (by omega) (by simp) (by simp)
 obtain ⟨j,s2,h3,h4,h5,h6⟩:=xZ s1 3 h2 (by omega) (by decide) (by decide)
 obtain ⟨tg,n1,n2⟩:=JD (l:=[([]:List ByteArray),([(⟨#[99,105,116,121]⟩:ByteArray)]:List ByteArray),([(⟨#[99,105,116,121]⟩:ByteArray),(⟨#[109,97,108,108]⟩:ByteArray)]:List ByteArray)]) h4 (by simpa using h5)
 simp only [gu,h1,h3,n1,ob_]
 have bz:=zw (lo := -1440) (hi:=1440) hz rfl
 clear hz
 simp only [List.mem_cons,List.not_mem_nil,or_false]at n2
 have hsub:tg.Sublist tgL:=by
  rcases n2 with rfl|rfl|rfl
  ·exact List.nil_sublist _
  ·exact .cons_cons _ (.cons _ .slnil)
  ·exact List.Sublist.refl _
 obtain ⟨t1,t2⟩:=Ls hsub
 refine⟨_,_,rfl,h6.mono (by omega),⟨xk rfl,xk rfl,by show tg.length<=20;omega,t2⟩,?_⟩
 unfold Az
 simp only [tg_0 hsub]
 rw [show qK (⟨#[112]⟩:ByteArray)=true by kernel_rfl,show qK (⟨#[115,97]⟩:ByteArray)=true by kernel_rfl,zA (n:=z) (by omega)];rfl
end Go.Proofs.YtadpbmfnnlkdlabGreatDoor.Law

open Go Go.Eng Go.Proofs
namespace Go.Proofs.YtadpbmfnnlkdlabGreatDoor.Law
set_option linter.unusedVariables false
set_option linter.unusedSimpArgs false
theorem on_eqT {l:List Entry} {p:Player} (h:CE l p) {t:Int} (ht:0<=t/\t<345686400000):rV l p t=some ((rZ l p t).map jQ):=by
 have hl:=F9 h t
 unfold rV
 rw [bW (n:=t+1) (by omega),spans_eq h (w:=⟨t,t+1⟩) ⟨by simp only [];omega,by simp only [];omega,by simp only [];omega⟩,ob_,I7 p t h.right]
 obtain ⟨r,r1,r2,r3⟩:=Gp (F:=λa b=>eX a b) (λa b=>cE (rQ a) (rQ b)) (xs:=(lV l p t).map jQ) (by rw [List.length_map];omega) (λa ha b hb=>by
   obtain ⟨x,_,rfl⟩:=List.mem_map.1 ha
   obtain ⟨y,_,rfl⟩:=List.mem_map.1 hb
   exact El x y)
  (λa _ q=>by have:=vZ.1 q;rw [yU]at this;cases this)
  (λa _ b _ d _ q1 q2=>vZ.2 (xI _ _ _ (vZ.1 q1) (vZ.1 q2)))
  (λa _ b _ c _ q1 q2 q3=>Ph (λe=>q1 (vZ.2 e)) (λe=>q2 (vZ.2 e)) (vZ.1 q3))
 have r1:iE ((lV l p t).map jQ)=some r:=r1
 have e3:mo r ((lV l p t).map jQ)=some ():=by unfold mo;rw [if_pos r2.length_eq]
 have hk:∀x:Entry×Int,rQ (jQ x)=x:=λx=>rfl
 have hm:(r.map rQ).Perm (lV l p t):=by
  have:=r2.map rQ
  rw [List.map_map]at this
  have e:(lV l p t).map (rQ ∘ jQ)=lV l p t:=List.map_id _
  rwa [e]at this
 have hs:r.map rQ=rZ l p t:=srtG_is yU xI (Ig h.keys p t) hm (by
  rw [List.pairwise_map]
  refine r3.imp (λ{a b} q => ?_)
  cases hb:wh (rQ b) (rQ a)with
  | false=>rfl
  | true=>exact absurd (vZ.2 hb) q)
 have hr:r=(rZ l p t).map jQ:=by
  rw [<- hs,List.map_map]
  have:∀s∈r,(jQ ∘ rQ) s=s:=λs hs'=>by
   obtain ⟨x,_,rfl⟩:=List.mem_map.1 (r2.mem_iff.1 hs')
   rfl
  rw [List.map_congr_left this,List.map_id']
 rw [r1,ob_,e3,ob_,hr]
end Go.Proofs.YtadpbmfnnlkdlabGreatDoor.Law

open Go Go.Eng Go.Proofs
namespace Go.Proofs.YtadpbmfnnlkdlabGreatDoor.Law
set_option linter.unusedVariables false
set_option linter.unusedSimpArgs false
section
variable {K T:Type} {eq:K->K->Bool}
theorem OQ (e:K×T) (es:List (K×T)) (k:K):dK eq (e::es) k=if eq k e.1=true then some e.2 else dK eq es k:=by
 unfold dK
 rw [DW]
 by_cases h:eq k e.1=true
 ·rw [if_pos h,if_pos h];rfl
 ·rw [if_neg h,if_neg h]
  cases DW eq k es with
  | none=>rfl
  | some j=>rfl
theorem QQ (k:K) (v:T):Dt eq ([]:List (K×T)) k v=[(k,v)]:=rfl
theorem I1 (e:K×T) (es:List (K×T)) (k:K) (v:T):Dt eq (e::es) k v=if eq k e.1=true then (k,v)::es else e::Dt eq es k v:=by
 unfold Dt
 rw [DW]
 by_cases h:eq k e.1=true
 ·rw [if_pos h,if_pos h];rfl
 ·rw [if_neg h,if_neg h]
  cases DW eq k es with
  | none=>rfl
  | some j=>rfl
end
theorem leB_tr (a b c:List UInt8) (h:leB a b=true) (k:leB b c=true):leB a c=true:=by
 simp only [leB,decide_eq_true_eq]at *;exact List.le_trans h k
theorem leB_to (a b:List UInt8):(leB a b||leB b a)=true:=by
 simp only [leB,Bool.or_eq_true,decide_eq_true_eq];exact List.le_total a b
theorem Qc {β:Type} {es:List (ByteArray×β)} (hl:es.length<=1000000) (hs:∀e∈es,e.1.size<=1000000) (hn:es.Pairwise (λa b=>a.1≠b.1)) :
  ∃ks,IK es=some ks/\ks.Perm (es.map (·.1))/\ks.Pairwise lt:=by
 have h1:es.length<=1000000000/\es.all (λe=>decide (e.1.size<=1000000000))=true:=⟨by omega,List.all_eq_true.2 λe he=>decide_eq_true (by have:=hs e he;omega)⟩
 have hp:=List.mergeSort_perm (es.map λe=>e.1.data.toList) leB
 have hso:=List.pairwise_mergeSort (le:=leB) leB_tr leB_to (es.map λe=>e.1.data.toList)
 have hnd:(es.map λe=>e.1.data.toList).Pairwise (· ≠ ·):=List.pairwise_map.2 (hn.imp λ{a b} h k=>h (BP (by rw [toL,toL];exact k)))
 have hnd2:((es.map λe=>e.1.data.toList).mergeSort leB).Pairwise (· ≠ ·):=(hp.pairwise_iff (λh k=>h k.symm)).2 hnd
 refine⟨_,by unfold IK;rw [if_pos h1],?_,?_⟩
 ·refine (hp.map λl=>(⟨l.toArray⟩:ByteArray)).trans (List.Perm.of_eq ?_)
  rw [List.map_map];rfl
 ·refine List.pairwise_map.2 (List.Pairwise.imp₂ (λa b h k => ?_) hso hnd2)
  unfold lt
  rw [toL,toL]
  simp only [leB,decide_eq_true_eq]at h
  rcases List.le_iff_lt_or_eq.1 h with q|q
  ·exact q
  ·exact absurd q k
theorem eqS_eq {a b:ByteArray} (h:(a==b)=true):a=b:=by
 have h':(a.data==b.data)=true:=h
 have:=eq_of_beq h'
 cases a;cases b;simp at this;rw [this]
theorem JX (a b:ByteArray):eqS a b=true↔a=b:=⟨eqS_eq,λh=>by
 rw [h]
 show (b.data==b.data)=true
 simp⟩
theorem IE {β:Type} (v:β) (k:ByteArray):∀es:List (ByteArray×β),es.Pairwise (λa b=>a.1≠b.1)->(Dt eqS es k v).Pairwise (λa b=>a.1≠b.1)/\∀e∈Dt eqS es k v,e=(k,v)\/e∈es
 | [],_=>⟨List.pairwise_singleton _ _,λe he => .inl (List.mem_singleton.1 he)⟩
 | x::es,h=>by
  obtain ⟨p1,p2⟩:=List.pairwise_cons.1 h
  rw [I1]
  by_cases h':eqS k x.1=true
  ·have he:=(JX _ _).1 h'
   rw [if_pos h']
   refine⟨List.pairwise_cons.2 ⟨λy hy=>by show k≠y.1;rw [he];exact p1 y hy,p2⟩,λe he => ?_⟩
   rcases List.mem_cons.1 he with rfl|he
   ·exact .inl rfl
   ·exact .inr (List.mem_cons_of_mem _ he)
  ·rw [if_neg h']
   obtain ⟨q1,q2⟩:=IE v k es p2
   refine⟨List.pairwise_cons.2 ⟨λy hy => ?_,q1⟩,λe he => ?_⟩
   ·rcases q2 y hy with rfl|hy
    ·exact λq=>h' ((JX _ _).2 q.symm)
    ·exact p1 y hy
   ·rcases List.mem_cons.1 he with rfl|he
    ·exact .inr (List.mem_cons_self)
    ·exact (q2 e he).imp id (λq=>List.mem_cons_of_mem _ q)
end Go.Proofs.YtadpbmfnnlkdlabGreatDoor.Law

open Go Go.Eng
namespace Go.Proofs.YtadpbmfnnlkdlabGreatDoor.Law
set_option linter.unusedVariables false
set_option linter.unusedSimpArgs false
def rM {σ ρ:Type} (s:σ) (body:σ->Option (Ctl σ ρ)):Option (Ctl σ ρ):=iterN body 300 s
def Le {α:Type} (a b:Option α):Prop:=∀r,a=some r->b=some r
theorem Le.refl {α:Type} (a:Option α):Le a a:=λ_ h=>h
theorem Le.bind {α β:Type} {a b:Option α} {f g:α->Option β} (h:Le a b) (k:∀x,Le (f x) (g x)):Le (a.bind f) (b.bind g):=λr e=>by
 obtain ⟨x,h1,h2⟩:=Option.bind_eq_some_iff.1 e
 rw [h x h1];exact k x r h2
theorem Le.cond {α:Type} {a b c d:Option α} {t:Bool} (h:Le a c) (k:Le b d):Le (bif t then a else b) (bif t then c else d):=by
 cases t
 ·exact k
 ·exact h
theorem Le.thenC {σ ρ τ:Type} {o:Ctl σ ρ} {f f':σ->Option τ} {g g':ρ->Option τ} (h:∀x,Le (f x) (f' x)) (k:∀x,Le (g x) (g' x)):Le (Go.Eng.thenC o f g) (Go.Eng.thenC o f' g'):=by
 cases o
 ·exact h _
 ·exact Le.refl _
 ·exact k _
theorem Le.forR {α σ ρ:Type} {b b':Nat->α->σ->Option (Ctl σ ρ)} (h:∀k x s,Le (b k x s) (b' k x s)):∀(xs:List α) (k:Nat) (s:σ),Le (Go.Eng.forR b xs k s) (Go.Eng.forR b' xs k s)
 | [],k,s=>Le.refl _
 | x::xs,k,s=>Le.bind (h k x s) (λc=>by
   cases c with
   | go s'=>exact Le.forR h xs _ _
   | brk s'=>exact Le.refl _
   | ret r=>exact Le.refl _)
theorem Le.forL {α σ ρ:Type} {xs:List α} {s:σ} {b b':Nat->α->σ->Option (Ctl σ ρ)} (h:∀k x s,Le (b k x s) (b' k x s)):Le (Go.Eng.forL xs s b) (Go.Eng.forL xs s b'):=by
 unfold Go.Eng.forL
 split
 ·exact Le.forR h xs 0 s
 ·exact Le.refl _
theorem Le.iterN {σ ρ:Type} {b b':σ->Option (Ctl σ ρ)} (h:∀s,Le (b s) (b' s)):∀(n:Nat) (s:σ),Le (Go.Eng.iterN b n s) (Go.Eng.iterN b' n s)
 | 0,s=>Le.refl _
 | n+1,s=>Le.bind (h s) (λc=>by
   cases c with
   | go s'=>exact Le.iterN h n s'
   | brk s'=>exact Le.refl _
   | ret r=>exact Le.refl _)
theorem Le.loop {σ ρ:Type} {s:σ} {b b':σ->Option (Ctl σ ρ)} (h:∀s,Le (b s) (b' s)):Le (rM s b) (iV s b'):=λr e=>kC (Le.iterN h _ _ r e)
end Go.Proofs.YtadpbmfnnlkdlabGreatDoor.Law

open Go Go.Eng
namespace Go.Proofs.YtadpbmfnnlkdlabGreatDoor.Law
set_option linter.unusedVariables false
set_option linter.unusedSimpArgs false
def NW (x:Int):List Int->List Int
 | []=>[x]
 | y::l=>bif decide (x<=y)then x::y::l else y::NW x l
def GI:List Int->List Int
 | []=>[]
 | x::l=>NW x (GI l)
theorem De (x:Int):∀l,(NW x l).Perm (x::l)
 | [] => .refl _
 | y::l=>by
  unfold NW
  cases decide (x<=y)with
  | true=>exact .refl _
  | false=>exact ((De x l).cons y).trans (List.Perm.swap x y l)
theorem Em:∀l,(GI l).Perm l
 | [] => .refl _
 | x::l=>(De x _).trans ((Em l).cons x)
theorem D6 (x:Int):∀l:List Int,l.Pairwise (· <= ·)->(NW x l).Pairwise (· <= ·)
 | [],_=>List.pairwise_singleton _ _
 | y::l,h=>by
  obtain ⟨h1,h2⟩:=List.pairwise_cons.1 h
  unfold NW
  by_cases hx:x<=y
  ·rw [decide_eq_true hx,cond_true]
   exact List.pairwise_cons.2 ⟨λz hz=>by
    rcases List.mem_cons.1 hz with rfl|hz
    ·exact hx
    ·exact Int.le_trans hx (h1 z hz),h⟩
  ·rw [decide_eq_false hx,cond_false]
   exact List.pairwise_cons.2 ⟨λz hz=>by
    rcases List.mem_cons.1 ((De x l).mem_iff.1 hz)with rfl|hz
    ·omega
    ·exact h1 z hz,D6 x l h2⟩
theorem Aw:∀l,(GI l).Pairwise (· <= ·)
 | [] => .nil
 | x::l=>D6 x _ (Aw l)
theorem OV (l:List Int):l.mergeSort (λx y=>decide (x<=y))=GI l:=by
 refine List.Perm.eq_of_pairwise (le:=(· <= ·)) (λa b _ _ h1 h2=>Int.le_antisymm h1 h2) ?_ (Aw l) ((List.mergeSort_perm l _).trans (Em l).symm)
 have:=List.pairwise_mergeSort (le:=λ(x y:Int)=>decide (x<=y)) (λa b c=>by simp;omega) (λa b=>by simp;omega) l
 exact this.imp (by simp)
def zC (l:List Int):Option (List Int):=bif Nat.ble l.length 1000 then some (GI l)else none
theorem PI (l:List Int):Le (zC l) (dU l):=λr h=>by
 unfold zC at h
 cases hb:Nat.ble l.length 1000 with
 | false=>rw [hb]at h;cases h
 | true =>
  rw [hb,cond_true]at h
  have:=Nat.le_of_ble_eq_true hb
  unfold dU LA
  rw [if_pos (by omega),OV];exact h
end Go.Proofs.YtadpbmfnnlkdlabGreatDoor.Law

