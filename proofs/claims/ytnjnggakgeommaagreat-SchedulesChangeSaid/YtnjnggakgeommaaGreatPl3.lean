/-
  THE PLAIN LAW (part 3).
-/
import Derived.Test.YtnjnggakgeommaaGreatPl2
open Go Go.Eng
namespace Go.Proofs.YtnjnggakgeommaaGreat.Law
set_option linter.unusedVariables false
set_option linter.unusedSimpArgs false
noncomputable def delG {α:Type} (z:α) (f:α->Option Bool) (xs:List α):Option (List α) :=
 (ixF f xs).bind λr=>bif (r==(-1))then some xs else (gY (xs,r,(w64 (r+1))) (λs=>uO f s)).bind λo=>bD o (λs_12=>(qU s_12.1 s_12.2.1 (s_12.1.length:Int)).bind λ_=>(qU (s_12.1.take ((s_12.2.1).toNat)++List.replicate (((s_12.1.length:Int)).toNat-(s_12.2.1).toNat) z++s_12.1.drop (((s_12.2.1).toNat)+(((s_12.1.length:Int)).toNat-(s_12.2.1).toNat))) 0 s_12.2.1).bind λ_=>some ((s_12.1.take ((s_12.2.1).toNat)++List.replicate (((s_12.1.length:Int)).toNat-(s_12.2.1).toNat) z++s_12.1.drop (((s_12.2.1).toNat)+(((s_12.1.length:Int)).toNat-(s_12.2.1).toNat))).take ((s_12.2.1).toNat))) (λ_=>none)
theorem delG_eq {α:Type} {z:α} {f:α->Option Bool} {q:α->Bool} {xs:List α} (hf:∀x∈xs,f x=some (q x)) (hl:xs.length<=1000000000):delG z f xs=some (xs.filter (λx => !q x)):=by
 unfold delG
 rcases ixF_eq hf hl with⟨h1,h2⟩|⟨k,hk,h1,h2,h3⟩
 ·rw [h1,ob_,filter_all (λx hx=>by rw [h2 x hx];rfl)];rfl
 ·have hne:((k:Int)==(-1))=false:=by simp
  have w1:w64 ((k:Int)+1)=((k+1:Nat):Int):=by rw [aM (by omega)];omega
  obtain ⟨l',i',g1,g2,g3,g4⟩:=Bt hf hl (xs.length-(k+1)) xs k (k+1) (by omega) (by omega) rfl (by
   rw [List.take_succ_eq_append_getElem hk,List.filter_append,filter_all (λx hx=>by rw [h3 x hx];rfl)];simp [h2]) rfl
  have g1':=gU g1
  rw [h1,ob_,hne,cond_false,w1,g1',ob_,gQ]
  have hs1:qU l' (i':Int) (l'.length:Int)=some ():=by
   unfold qU;rw [if_pos ⟨by omega,by omega,by omega,by omega⟩]
  simp only [hs1,ob_,Int.toNat_natCast]
  generalize hL:(l'.take i'++List.replicate (l'.length-i') z++l'.drop (i'+(l'.length-i')))=L
  have hLt:L.take i'=l'.take i':=by
   rw [<- hL,List.append_assoc,List.take_append_of_le_length (by rw [List.length_take];omega),List.take_take,Nat.min_self]
  have hLl:i'<=L.length:=by
   rw [<- hL];simp only [List.length_append,List.length_take,List.length_replicate];omega
  have hs2:qU L 0 (i':Int)=some ():=by
   unfold qU;rw [if_pos ⟨by omega,by omega,by omega,by omega⟩]
  rw [hs2,ob_,hLt,g4]
theorem wy {l:List Entry} {p:Player} {w:Window} {s:Span}:s∈lM l p w↔∃e∈l,sS e p=true/\∃x∈tiL e p.Zone w,s=⟨some e,x⟩:=by
 unfold lM yu
 rw [List.mem_flatMap]
 constructor
 ·rintro ⟨e,he,hs⟩
  cases hf:sS e p with
  | false=>rw [hf]at hs;cases hs
  | true =>
   rw [hf,cond_true,List.mem_map]at hs
   obtain ⟨x,hx,rfl⟩:=hs
   exact⟨e,he,hf,x,hx,rfl⟩
 ·rintro ⟨e,he,hf,x,hx,rfl⟩
  refine⟨e,he,?_⟩
  rw [hf,cond_true]
  exact List.mem_map.2 ⟨x,hx,rfl⟩
theorem Eb {l:List Entry} {p:Player} (h:CE l p) (w:Window):(lM l p w).length<=16004:=by
 have h1:=Df (l:=l) (f:=yu p w) (n:=4001) (λx hx=>DN h w hx)
 have h2:=h.len
 have h3:l.length*4001<=4*4001:=Nat.mul_le_mul_right _ h2
 unfold lM
 omega
theorem KP {l:List Entry} {p:Player} (h:CE l p) {w:Window} {t:Int} {s:Span} (hs:s∈lM l p w) (h1:s.f_time.From<=t) (h2:t<s.f_time.To):∃x∈lv l p t,s=qx x:=by
 obtain ⟨e,he,hf,x,hx,rfl⟩:=wy.1 hs
 obtain ⟨d,d1,d2,d3,rfl⟩:=(ze (h.right e he)).1 hx
 obtain ⟨p1,p2,p3⟩:=FW.1 d3
 have hh:u6 e p.Zone t d=true:=nY.2 ⟨p1,d1,d2,p2,h1,h2⟩
 exact⟨(e,tF e p.Zone d),wu.2 ⟨he,hf,(zl (h.right e he)).2 ⟨d,hh,rfl⟩⟩,rfl⟩
theorem D9 {l:List Entry} {p:Player} (h:CE l p) {w:Window} {t:Int} (hw:w.From<=t/\t<w.To) {x:Entry×Int} (hx:x∈lv l p t):qx x∈lM l p w/\(qx x).f_time.From<=t/\t<(qx x).f_time.To:=by
 obtain ⟨h1,h2,h3⟩:=wu.1 hx
 obtain ⟨d,hd,hb⟩:=(zl (h.right _ h1)).1 h3
 obtain ⟨g1,g2,g3,g4,g5,g6⟩:=nY.1 hd
 refine⟨wy.2 ⟨x.1,h1,h2,tW x.1 p.Zone d,(ze (h.right _ h1)).2 ⟨d,g2,g3,FW.2 ⟨g1,g4,by omega⟩,rfl⟩,?_⟩,?_,?_⟩
 ·unfold qx
  rw [hb];rfl
 ·show x.2<=t
  omega
 ·show t<x.2+nR x.1*60000
  omega
structure ES (m:List Span) (w:Window) (E:List Int):Prop where
 from_:w.From∈E
 to_:w.To∈E
 in_:∀x∈E,w.From<=x/\x<=w.To
 has:∀s∈m,(cutW w s.f_time).From∈E/\(cutW w s.f_time).To∈E
theorem cut_in {l:List Entry} {p:Player} (h:CE l p) {w:Window} {s:Span} (hs:s∈lM l p w):w.From<=(cutW w s.f_time).From/\(cutW w s.f_time).From<=w.To/\w.From<=(cutW w s.f_time).To/\(cutW w s.f_time).To<=w.To:=by
 obtain ⟨e,he,hf,x,hx,rfl⟩:=wy.1 hs
 obtain ⟨d,d1,d2,d3,rfl⟩:=(ze (h.right e he)).1 hx
 exact Hw (h.right e he) ((wE (h.right e he)).2 ⟨d,d1,d2,d3,rfl⟩)
theorem LZ {l:List Entry} {p:Player} (h:CE l p) {w:Window} (hok:rF w) (hw:w.From<=w.To):∃C,lG l p w=some C/\C.Pairwise (· < ·)/\ES (lM l p w) w C/\C.length<=40000:=by
 have hl:=Eb h w
 unfold lG
 rw [spans_eq h hok,ob_]
 obtain ⟨E,e1,e2,e3⟩:=rE (body:=λk x s=>jM w k x s) (λk s=>ES ((lM l p w).take k) w s/\s.length=2+2*k) (xs:=lM l p w) (s:=([w.From,w.To]:List Int)) (by omega) (λk x s hx ⟨i1,i2⟩=>by
  have hk:k<(lM l p w).length:=(List.getElem?_eq_some_iff.1 hx).1
  have et:(lM l p w).take (k+1)=(lM l p w).take k++[x]:=by rw [List.take_add_one,hx];rfl
  obtain ⟨b1,b2,b3,b4⟩:=cut_in h (List.mem_of_getElem? hx)
  unfold jM
  show ∃s',((some (cutW w x.f_time)).bind λr_22=>_)=_/\_
  rw [ob_,iL _ _ (by simp only [List.length_cons,List.length_nil];omega)]
  refine⟨_,rfl,⟨List.mem_append_left _ i1.from_,List.mem_append_left _ i1.to_,λy hy => ?_,λy hy => ?_⟩,?_⟩
  ·rcases List.mem_append.1 hy with hy|hy
   ·exact i1.in_ y hy
   ·simp only [List.mem_cons,List.not_mem_nil,or_false]at hy
    rcases hy with rfl|rfl <;> omega
  ·rw [et]at hy
   rcases List.mem_append.1 hy with hy|hy
   ·exact⟨List.mem_append_left _ (i1.has y hy).1,List.mem_append_left _ (i1.has y hy).2⟩
   ·rw [List.mem_singleton.1 hy]
    exact⟨List.mem_append_right _ (by simp),List.mem_append_right _ (by simp)⟩
  ·rw [List.length_append];simp only [List.length_cons,List.length_nil];omega) ⟨⟨by simp,by simp,λx hx=>by
   simp only [List.mem_cons,List.not_mem_nil,or_false]at hx
   rcases hx with rfl|rfl <;> omega,λe he=>(by cases he)⟩,by simp⟩
 rw [List.take_length]at e2
 rw [e1]
 simp only [ob_,bD]
 have hne:neL E=some ():=by
  unfold neL
  have:=List.ne_nil_of_mem e2.from_
  first | rw [if_pos this] | (cases E with | nil=>exact absurd rfl this | cons a E=>rfl)
 obtain ⟨s,C,c1,c2,c3,c4,c5,c6⟩:=om E (by omega)
 have c2':kX s E=some ():=by unfold kX;rw [if_pos c2]
 rw [hne,ob_,c1,ob_,c2',ob_,c3,ob_]
 refine⟨C,rfl,c4,⟨(c5 _).2 e2.from_,(c5 _).2 e2.to_,λx hx=>e2.in_ x ((c5 x).1 hx),λe he => ?_⟩,by omega⟩
 obtain ⟨a,b⟩:=e2.has e he
 exact⟨(c5 _).2 a,(c5 _).2 b⟩
theorem Bi {xs:List Span} (hc:∀a∈xs,∀b∈xs,iI a b=some (cE (wV a) (wV b))) (hne:xs ≠ []) (hl:xs.length<=1000000):∃m,aZ xs=some m/\m∈xs/\∀s∈xs,qZ (wV s) (wV m)=false:=by
 have hpos:0<xs.length:=List.length_pos_iff.2 hne
 have h0:xs[(0+(0:Int).toNat)]? = some xs[0]:=List.getElem?_eq_getElem hpos
 unfold aZ
 rw [decide_eq_false (by omega),cond_false,ob_,uE (by omega) (by omega),ob_,h0,ob_]
 obtain ⟨s,s1,s2⟩:=sM (body:=λs=>aV xs s) (λk s=>s.1=((k+1:Nat):Int)/\∃m,s.2=(m.f_e,m.f_time.From,m.f_time.To)/\m∈xs/\∀(j:Nat) (y:Span),j<=k->xs[j]? = some y->qZ (wV y) (wV m)=false) (xs.length-1) (λk s hk ⟨i1,m,i2,i3,i4⟩=>by
  obtain ⟨i,t⟩:=s
  simp only at i1 i2
  subst i1 i2
  have hkl:k+1<xs.length:=by omega
  have hx:xs[(0+(((k+1:Nat):Int)).toNat)]? = some xs[k+1]:=by rw [show 0+(((k+1:Nat):Int)).toNat=k+1 by omega];exact List.getElem?_eq_getElem hkl
  have hm:=List.getElem_mem hkl
  have hcm:iI xs[k+1] (⟨m.f_e,(⟨m.f_time.From,m.f_time.To⟩:Window)⟩:Span)=some (cE (wV xs[k+1]) (wV m)):=hc _ hm _ i3
  have w1:w64 (((k+1:Nat):Int)+1)=((k+1+1:Nat):Int):=by rw [aM (by omega)];omega
  unfold aV
  simp only []
  rw [decide_eq_true (by omega),cond_true,uE (by omega) (by omega),ob_,hx,ob_,hcm,ob_,w1]
  by_cases hlt:cE (wV xs[k+1]) (wV m)<0
  ·rw [decide_eq_true hlt,cond_true]
   simp only [ob_]
   refine⟨_,rfl,rfl,xs[k+1],rfl,hm,λj y hj hy => ?_⟩
   cases hb:qZ (wV y) (wV xs[k+1])with
   | false=>rfl
   | true =>
    by_cases hjk:j=k+1
    ·subst hjk
     rw [List.getElem?_eq_getElem hkl,so_]at hy
     rw [<- hy,vC]at hb;cases hb
    ·have h1:=i4 j y (by omega) hy
     rw [uS _ _ _ hb (Js.1 hlt)]at h1;cases h1
  ·rw [decide_eq_false hlt,cond_false]
   simp only [ob_]
   refine⟨_,rfl,rfl,m,rfl,i3,λj y hj hy => ?_⟩
   by_cases hjk:j=k+1
   ·subst hjk
    rw [List.getElem?_eq_getElem hkl,so_]at hy
    rw [<- hy]
    cases hb:qZ (wV xs[k+1]) (wV m)with
    | false=>rfl
    | true=>exact absurd (Js.2 hb) hlt
   ·exact i4 j y (by omega) hy) (λs ⟨i1,m,i2,i3,i4⟩=>by
  obtain ⟨i,t⟩:=s
  simp only at i1 i2
  subst i1 i2
  unfold aV
  simp only []
  rw [decide_eq_false (by omega),cond_false]) (s:=(1,xs[0].f_e,xs[0].f_time.From,xs[0].f_time.To)) ⟨rfl,xs[0],rfl,List.getElem_mem hpos,λj y hj hy=>by
   obtain rfl:j=0:=by omega
   rw [List.getElem?_eq_getElem hpos,so_]at hy
   rw [<- hy,vC]⟩
 obtain ⟨i1,m,i2,i3,i4⟩:=s2
 obtain ⟨i,t⟩:=s
 simp only at i1 i2
 subst i2
 rw [s1]
 refine⟨m,rfl,i3,λy hy => ?_⟩
 obtain ⟨j,hj⟩:=List.getElem?_of_mem hy
 have hjl:j<xs.length:=(List.getElem?_eq_some_iff.1 hj).1
 exact i4 j y (by omega) hj
theorem M5 {l:List Entry} {p:Player} (h:CE l p) {w:Window} {t:Int} (hw:w.From<=t/\t<w.To) {xs:List Span} (hx:∀s,s∈xs↔s∈lM l p w/\s.f_time.From<=t/\t<s.f_time.To) (hl:xs.length<=1000000) :
  (bif (decide ((xs.length:Int)>0))then (neL xs).bind λ_=>(aZ xs).bind λr_73=>(r_73.f_e).bind λy_75=>some y_75.Key else some (⟨#[]⟩:ByteArray))=some (ig l p t):=by
 cases hxs:xs with
 | nil =>
  have hn:lv l p t=[]:=List.eq_nil_iff_forall_not_mem.2 (λx hc=>by
   have:=(hx _).2 (D9 h hw hc)
   rw [hxs]at this;cases this)
  rw [Jk hn];rfl
 | cons a r =>
  have hsp:∀s∈xs,∃x∈lv l p t,s=qx x:=λs hs=>by
   obtain ⟨h1,h2,h3⟩:=(hx s).1 hs
   exact KP h h1 h2 h3
  obtain ⟨m,m1,m2,m3⟩:=Bi (xs:=xs) (λa ha b hb=>by
   obtain ⟨x,_,rfl⟩:=hsp a ha
   obtain ⟨y,_,rfl⟩:=hsp b hb
   exact GK x y) (by rw [hxs];simp) hl
  obtain ⟨x,x1,rfl⟩:=hsp m m2
  rw [<- hxs,decide_eq_true (by rw [hxs];simp only [List.length_cons];omega),cond_true]
  have hne:neL xs=some ():=by rw [hxs];rfl
  rw [hne,ob_,m1,ob_]
  show (some x.1).bind _=_
  rw [ob_,Jo h.keys p t x1 (λy hy=>m3 _ ((hx _).2 (D9 h hw hy)))]
theorem Lg {all:List Span} {E:List Int} {i:Nat} {a:Int} (ha:E[i]? = some a) (hl:all.length<=1000000) (st:(List Slot_)×(List Span)×Int×Int) (hst:st.2.2.2=(i:Int)) {op:List Span} {nx:Nat} (hnx:nx<=all.length) (hop:op.length<=nx) :
  ∃n',nx<=n'/\n'<=all.length/\gY (op,(nx:Int)) (λs=>fV all E st s)=some (.go (op++(all.drop nx).take (n'-nx),(n':Int)))/\(∀s∈(all.drop nx).take (n'-nx),s.f_time.From<=a)/\(∀s,all[n']? = some s->a<s.f_time.From):=by
 have htw:∃N,N<=(all.drop nx).length/\(∀s∈(all.drop nx).take N,s.f_time.From<=a)/\(∀s,(all.drop nx)[N]? = some s->a<s.f_time.From):=by
  generalize all.drop nx=ys
  induction ys with
  | nil=>exact⟨0,Nat.le_refl _,λs hs=>(by cases hs),λs hs=>(by cases hs)⟩
  | cons y ys ih =>
   by_cases hy:y.f_time.From<=a
   ·obtain ⟨N,n1,n2,n3⟩:=ih
    refine⟨N+1,by simpa using n1,λs hs => ?_,λs hs=>n3 s (by simpa using hs)⟩
    rw [List.take_succ_cons]at hs
    rcases List.mem_cons.1 hs with rfl|hs
    ·exact hy
    ·exact n2 s hs
   ·exact⟨0,Nat.zero_le _,λs hs=>(by cases hs),λs hs=>by
     rw [List.getElem?_cons_zero,so_]at hs;rw [<- hs];omega⟩
 obtain ⟨N,n1,n2,n3⟩:=htw
 rw [List.length_drop]at n1
 refine⟨nx+N,by omega,by omega,?_,by rw [show nx+N-nx=N by omega];exact n2,λs hs=>n3 s (by rw [List.getElem?_drop];exact hs)⟩
 rw [show nx+N-nx=N by omega]
 obtain ⟨s,s1,s2,s3⟩:=sM (body:=λs=>fV all E st s) (λk s=>s.1=op++(all.drop nx).take k/\s.2=((nx+k:Nat):Int)) N (λk s hk ⟨i1,i2⟩=>by
  obtain ⟨o,n⟩:=s
  simp only at i1 i2
  subst i1 i2
  have hkl:nx+k<all.length:=by omega
  have hx:all[(0+(((nx+k:Nat):Int)).toNat)]? = some all[nx+k]:=by rw [show 0+(((nx+k:Nat):Int)).toNat=nx+k by omega];exact List.getElem?_eq_getElem hkl
  have hd:(all.drop nx)[k]? = some all[nx+k]:=by rw [List.getElem?_drop];exact List.getElem?_eq_getElem hkl
  have hfr:all[nx+k].f_time.From<=a:=n2 _ (List.mem_of_getElem? (i:=k) (by rw [List.getElem?_take,if_pos hk];exact hd))
  have et:(all.drop nx).take (k+1)=(all.drop nx).take k++[all[nx+k]]:=by rw [List.take_add_one,hd];rfl
  have hlen:((all.drop nx).take k).length<=all.length:=by rw [List.length_take,List.length_drop];omega
  have w1:w64 (((nx+k:Nat):Int)+1)=((nx+(k+1):Nat):Int):=by rw [aM (by omega)];omega
  unfold fV
  simp only []
  rw [decide_eq_true (by omega),cond_true,uE (by omega) (by omega),ob_,hx,ob_,hst,jK,ha,ob_,ob_,decide_eq_true hfr,cond_true,ob_,ob_,iL _ _ (by rw [List.length_append];simp only [List.length_cons,List.length_nil];omega),ob_,w1]
  exact⟨_,rfl,by simp only [];rw [et,List.append_assoc],rfl⟩) (λs ⟨i1,i2⟩=>by
  obtain ⟨o,n⟩:=s
  simp only at i1 i2
  subst i1 i2
  unfold fV
  simp only []
  by_cases hend:nx+N<all.length
  ·have hx:all[(0+(((nx+N:Nat):Int)).toNat)]? = some all[nx+N]:=by rw [show 0+(((nx+N:Nat):Int)).toNat=nx+N by omega];exact List.getElem?_eq_getElem hend
   have hfr:=n3 all[nx+N] (by rw [List.getElem?_drop];exact List.getElem?_eq_getElem hend)
   rw [decide_eq_true (by omega),cond_true,uE (by omega) (by omega),ob_,hx,ob_,hst,jK,ha,ob_,ob_,decide_eq_false (by omega),cond_false]
  ·rw [decide_eq_false (by omega),cond_false,ob_,cond_false]) (s:=(op,(nx:Int))) ⟨by simp,by simp⟩
 obtain ⟨o,n⟩:=s
 simp only at s2 s3
 rw [s1,s2,s3]
theorem delNil (E:List Int) (i:Int):bB E i=some ():=by
 have:bJ ([]:List Span) (λx0=>fH x0 E i)=some (-1):=by
  unfold bJ
  rw [eX (by simp)];rfl
 unfold bB
 rw [this];rfl
theorem delS {E:List Int} {i:Nat} {a:Int} (ha:E[i]? = some a) {xs:List Span} (hl:xs.length<=1000000):bC xs E (i:Int)=some (xs.filter (λs => !decide (s.f_time.To<=a))):=by
 have e:bC xs E (i:Int)=delG (⟨none,(⟨0,0⟩:Window)⟩:Span) (λe=>fH e E (i:Int)) xs:=rfl
 rw [e]
 refine delG_eq (λx _ => ?_) (by omega)
 unfold fH
 rw [jK,ha];rfl
theorem Cv {l:List Entry} {p:Player} (h:CE l p) {w:Window} (hok:rF w) (hw:w.From<=w.To):∃t,jy l p w=some t/\dC (ig l p) w.To w.From t/\t.length<=40000:=by
 have hsl:=Eb h w
 obtain ⟨C,c1,c2,c3,c4⟩:=LZ h hok hw
 obtain ⟨d1,d2⟩:=DX c2 c3.from_ c3.to_ c3.in_
 obtain ⟨all,a1,a2,a3⟩:=I4 (F:=λa b=>iG a b) (λa b=>ma a.f_time.From b.f_time.From) (xs:=lM l p w) (by omega) (λa _ b _=>by
  unfold iG;rw [wI];rfl) (λa _=>by rw [sI];omega) (λa _ b _ d _ h1 h2=>by rw [sI]at *;omega) (λa _ b _ d _ h1 h2=>by rw [sI]at *;omega)
 have a3':all.Pairwise (λa b=>a.f_time.From<=b.f_time.From):=a3.imp (λ{a b} q=>by rw [sI]at q;omega)
 have hal:all.length<=16004:=by rw [a2.length_eq];exact hsl
 have hsort:gL (lM l p w)=some all:=a1
 have hsame:kX all (lM l p w)=some ():=by unfold kX;rw [if_pos a2.length_eq]
 unfold jy
 rw [spans_eq h hok,ob_,hsort,ob_,hsame,ob_,c1,ob_]
 have hlen:0<C.length:=(List.getElem?_eq_some_iff.1 d1).1
 have hedge:∀(i:Nat) (a b:Int),C[i]? = some a->C[i+1]? = some b->∀t,a<=t->t<b->ig l p t=ig l p a:=λi a b ha hb' t t1 t2=>BH h.right c2 c3.in_ (λe he hf x hx=>by
  obtain ⟨d,q1,q2,q3,rfl⟩:=(wE (h.right e he)).1 hx
  exact c3.has ⟨some e,tW e p.Zone d⟩ (wy.2 ⟨e,he,hf,tW e p.Zone d,(ze (h.right e he)).2 ⟨d,q1,q2,q3,rfl⟩,rfl⟩)) ha hb' t1 t2
 obtain ⟨s,s1,s2⟩:=sM (body:=λs=>fU C all s) (λk s=>s.2.2.2=(k:Int)/\s.1.length<=k/\∃(a:Int) (nx:Nat),C[k]? = some a/\dC (ig l p) a w.From s.1/\s.2.2.1=(nx:Int)/\nx<=all.length/\s.2.1.length<=nx/\(∀x∈s.2.1,x∈all.take nx)/\(∀x∈all.take nx,x.f_time.From<=a/\(x∈s.2.1\/x.f_time.To<=a))) (C.length-1) (λk s hk ⟨i1,i2,a,nx,i3,i4,i5,i6,i7,i8,i9⟩=>by
  have hst:=i1
  obtain ⟨out,op,n,i⟩:=s
  simp only at i1 i2 i4 i5 i7 i8 i9
  subst i1 i5
  have hb:C[k+1]? = some C[k+1]:=List.getElem?_eq_getElem (by omega)
  have hab:=D6 c2 i3 hb
  have ain:=c3.in_ a (List.mem_of_getElem? i3)
  have bin:=c3.in_ C[k+1] (List.getElem_mem _)
  obtain ⟨n',m1,m2,m3,m4,m5⟩:=Lg i3 (by omega) (out,op,(nx:Int),(k:Int)) rfl i6 i7
  have etk:all.take n'=all.take nx++(all.drop nx).take (n'-nx):=by
   have:=List.take_append_drop nx (all.take n')
   rw [List.take_take,Nat.min_eq_left m1,List.drop_take]at this
   exact this.symm
  have hmem:∀x,x∈(op++(all.drop nx).take (n'-nx)).filter (λs => !decide (s.f_time.To<=a))↔x∈lM l p w/\x.f_time.From<=a/\a<x.f_time.To:=λx=>by
   rw [List.mem_filter,List.mem_append,<- a2.mem_iff]
   constructor
   ·rintro ⟨h1,h2⟩
    have hto:a<x.f_time.To:=by simpa using h2
    rcases h1 with h1|h1
    ·have:=i8 x h1
     exact⟨List.mem_of_mem_take this,(i9 x this).1,hto⟩
    ·exact⟨List.mem_of_mem_drop (List.mem_of_mem_take h1),m4 x h1,hto⟩
   ·rintro ⟨h1,h2,h3⟩
    refine⟨?_,by simpa using h3⟩
    have hin:x∈all.take n':=by
     obtain ⟨j,hj⟩:=List.getElem?_of_mem h1
     have hjl:=(List.getElem?_eq_some_iff.1 hj).1
     by_cases hjn:j<n'
     ·exact List.mem_of_getElem? (i:=j) (by rw [List.getElem?_take,if_pos hjn];exact hj)
     ·exfalso
      have hn:n'<all.length:=by omega
      have h5:=m5 all[n'] (List.getElem?_eq_getElem hn)
      by_cases e:j=n'
      ·subst e
       rw [List.getElem?_eq_getElem hn,so_]at hj
       rw [hj]at h5;omega
      ·have:=List.pairwise_iff_getElem.1 a3' n' j hn hjl (by omega)
       rw [List.getElem?_eq_getElem hjl,so_]at hj
       rw [hj]at this;omega
    rw [etk]at hin
    rcases List.mem_append.1 hin with hin|hin
    ·rcases (i9 x hin).2 with q|q
     ·exact .inl q
     ·omega
    ·exact .inr hin
  have hol:(op++(all.drop nx).take (n'-nx)).length<=n':=by rw [List.length_append,List.length_take,List.length_drop];omega
  have hfl:=List.length_filter_le (λs:Span => !decide (s.f_time.To<=a)) (op++(all.drop nx).take (n'-nx))
  have hleL:leL ((op++(all.drop nx).take (n'-nx)).filter (λs => !decide (s.f_time.To<=a))) (op++(all.drop nx).take (n'-nx))=some ():=by unfold leL;rw [if_pos hfl]
  have hkey:=M5 h (t:=a) ⟨ain.1,by omega⟩ hmem (by omega)
  have w1:w64 ((k:Int)+1)=((k+1:Nat):Int):=by rw [aM (by omega)];omega
  have hput:=putC_eq (ig l p a) a C[k+1] out (by omega)
  have hgo:fU C all (out,op,(nx:Int),(k:Int))=(putC (ig l p a) a C[k+1] out).bind λv=>some (.go (v,(op++(all.drop nx).take (n'-nx)).filter (λs => !decide (s.f_time.To<=a)),(n':Int),((k+1:Nat):Int))):=by
   unfold fU
   simp only []
   rw [w1,decide_eq_true (by omega),cond_true,m3,ob_]
   simp only [bD]
   rw [delS i3 (by omega),ob_,hleL,ob_,delNil,ob_,hkey,ob_,jK,jK,hb,i3]
   simp only [ob_]
   unfold putC
   generalize (bif decide (w64 ((out.length:Int)-1)>=0)then _ else _:Option Bool)=c
   cases c with
   | none=>rfl
   | some c =>
    cases c with
    | false =>
     simp only [ob_,cond_false]
    | true =>
     simp only [ob_,cond_true]
  rw [hgo,hput]
  refine⟨_,rfl,rfl,?_,_,n',hb,?_,rfl,m2,?_,λx hx => ?_,λx hx => ?_⟩
  ·simp only []
   have:=yL (ig l p a) a C[k+1] out
   omega
  ·exact dC.add hab (λt t1 t2=>hedge k a _ i3 hb t t1 t2) out w.From i4
  ·simp only [];omega
  ·obtain ⟨h1,h2⟩:=List.mem_filter.1 hx
   rw [etk]
   rcases List.mem_append.1 h1 with h1|h1
   ·exact List.mem_append_left _ (i8 x h1)
   ·exact List.mem_append_right _ h1
  ·rw [etk]at hx
   have h1:x.f_time.From<=a/\(x∈op++(all.drop nx).take (n'-nx)\/x.f_time.To<=a):=by
    rcases List.mem_append.1 hx with hx|hx
    ·refine⟨(i9 x hx).1,?_⟩
     rcases (i9 x hx).2 with q|q
     ·exact .inl (List.mem_append_left _ q)
     ·exact .inr q
    ·exact⟨m4 x hx,.inl (List.mem_append_right _ hx)⟩
   refine⟨by omega,?_⟩
   by_cases hto:x.f_time.To<=a
   ·exact .inr (by omega)
   ·rcases h1.2 with q|q
    ·exact .inl (List.mem_filter.2 ⟨q,by simpa using hto⟩)
    ·exact absurd q hto) (λs ⟨i1,i2,a,nx,i3,i4,i5,i6,i7,i8,i9⟩=>by
  obtain ⟨out,op,n,i⟩:=s
  simp only at i1
  subst i1
  unfold fU
  simp only []
  rw [aM (by omega),decide_eq_false (by omega),cond_false]) (s:=(([]:List Slot_),([]:List Span),0,0)) ⟨rfl,Nat.le_refl _,w.From,0,d1,by unfold dC;rfl,rfl,Nat.zero_le _,Nat.le_refl _,λx hx=>(by cases hx),λx hx=>(by cases hx)⟩
 obtain ⟨i1,i2,a,nx,i3,i4,_⟩:=s2
 rw [d2,so_]at i3
 rw [s1]
 exact⟨s.1,rfl,by rw [i3];exact i4,by omega⟩
theorem CV (a b:ByteArray):eqS a b=true↔a=b:=⟨λh=>by
 have h':(a.data==b.data)=true:=h
 have:=eq_of_beq h'
 cases a;cases b;simp at this;rw [this],λh=>by
 rw [h]
 show (b.data==b.data)=true
 simp⟩
theorem CG {T:Type} (e:ByteArray×T) (es:List (ByteArray×T)) (k:ByteArray):uU eqS (e::es) k=if k=e.1 then some e.2 else uU eqS es k:=by
 unfold uU
 rw [Ab]
 by_cases h:k=e.1
 ·rw [if_pos ((CV _ _).2 h),if_pos h];rfl
 ·rw [if_neg (λq=>h ((CV _ _).1 q)),if_neg h]
  cases Ab eqS k es with
  | none=>rfl
  | some j=>rfl
theorem ED {T:Type} (k:ByteArray) (v:T):∀es:List (ByteArray×T),(∀e∈es,e.1≠k)->Jm eqS es k v=es++[(k,v)]
 | [],_=>rfl
 | e::es,h=>by
  have ih:=ED k v es (λx hx=>h x (List.mem_cons_of_mem _ hx))
  unfold Jm at ih ⊢
  rw [Ab,if_neg (λq=>h e (by simp) ((CV _ _).1 q).symm)]
  cases hm:Ab eqS k es with
  | none=>rfl
  | some j =>
   rw [hm]at ih
   simp only [Option.map_some]at ih ⊢
   rw [List.set_cons_succ,ih];rfl
def oz (l:List Entry):List (ByteArray×ByteArray):=l.map λe=>(e.Key,e.Item)
def y8 (l:List Entry) (k:ByteArray):ByteArray:=(uU eqS (oz l) k).getD ⟨#[]⟩
theorem DR:∀(xs out:List Entry) (k:Nat),((out++xs).map (·.Key)).Nodup->dG (λk x s=>jf k x s) xs k (oz out)=some (.go (oz (out++xs)))
 | [],out,k,_=>by simp [dG]
 | x::xs,out,k,h=>by
  have hs:jf k x (oz out)=some (.go (oz (out++[x]))):=by
   unfold jf
   rw [ED _ _ _ (λe he=>by
    obtain ⟨y,hy,rfl⟩:=List.mem_map.1 he
    rw [List.map_append,List.nodup_append]at h
    exact h.2.2 _ (List.mem_map.2 ⟨y,hy,rfl⟩) _ (by simp))]
   unfold oz
   rw [List.map_append];rfl
  simp only [dG,hs,ob_]
  rw [DR xs (out++[x]) (k+1) (by simpa using h)]
  simp
theorem Gf {l:List Entry} (hn:(l.map (·.Key)).Nodup) (hl:l.length<=1000):kr l=some (oz l):=by
 unfold kr
 have:=DR l [] 0 (by simpa using hn)
 rw [eX (by omega)]
 have e:([]:List (ByteArray×ByteArray))=oz []:=rfl
 rw [e,this];rfl
theorem G7:∀{l:List Entry},(l.map (·.Key)).Nodup->∀{e:Entry},e∈l->y8 l e.Key=e.Item
 | [],_,e,he=>by cases he
 | x::xs,hn,e,he=>by
  rw [List.map_cons,List.nodup_cons]at hn
  have e1:oz (x::xs)=(x.Key,x.Item)::oz xs:=rfl
  unfold y8
  rw [e1,CG]
  by_cases h:e.Key=x.Key
  ·rcases List.mem_cons.1 he with rfl|he'
   ·rw [if_pos rfl];rfl
   ·exact absurd (List.mem_map.2 ⟨e,he',h⟩) hn.1
  ·rw [if_neg h]
   rcases List.mem_cons.1 he with rfl|he'
   ·exact absurd rfl h
   ·exact G7 hn.2 he'
theorem EC:∀{l:List Entry} {k:ByteArray},(∀e∈l,e.Key≠k)->y8 l k=⟨#[]⟩
 | [],_,_=>rfl
 | x::xs,k,h=>by
  have e1:oz (x::xs)=(x.Key,x.Item)::oz xs:=rfl
  unfold y8
  rw [e1,CG,if_neg (λq=>h x (by simp) q.symm)]
  exact EC (λe he=>h e (List.mem_cons_of_mem _ he))
theorem Er {l:List Entry} {p:Player} (h:CE l p) {t:Int} (ht:0<=t/\t<=1000000000000):∃e,sZ l p t=some e/\e.Key=ig l p t/\e.Item=y8 l (ig l p t):=by
 unfold sZ
 rw [LB h ht,ob_]
 unfold ig
 cases hc:yl l p t with
 | nil=>exact⟨_,rfl,rfl,(EC h.ne).symm⟩
 | cons x r =>
  rw [decide_eq_true (by simp only [List.map_cons,List.length_cons];omega),cond_true]
  have hx:x∈lv l p t:=(sD qZ (lv l p t)).mem_iff.1 (by
   have:x∈yl l p t:=by rw [hc];simp
   exact this)
  exact⟨x.1,rfl,rfl,(G7 h.keys (wu.1 hx).1).symm⟩
def chD (a b:List Entry) (p:Player) (t:Int):Bool := !(sEq (ig a p t) (ig b p t)&&sEq (y8 a (ig a p t)) (y8 b (ig b p t)))
def chF (a b:List Entry) (p:Player) (t:Int):ByteArray:=bif chD a b p t then AZ else Kc
theorem chD_eq {a b:List Entry} {p:Player} {t u:Int} (h1:ig a p t=ig a p u) (h2:ig b p t=ig b p u):chD a b p t=chD a b p u:=by unfold chD;rw [h1,h2]
theorem Nb {a b:List Entry} {p:Player} {t u:Int} (h1:ig a p t=ig a p u) (h2:ig b p t=ig b p u):chF a b p t=chF a b p u:=by unfold chF;rw [chD_eq h1 h2]
def Lb (c d:Int) (out:List Window):Option (List Window) :=
 (bif (decide ((w64 ((out.length:Int)-1))>=0))then (inR (w64 ((out.length:Int)-1)) out).bind λ_=>(out[(0+((w64 ((out.length:Int)-1))).toNat)]?).bind λe=>some (e.To==c)else some false).bind λv =>
  bif v then (inR (w64 ((out.length:Int)-1)) out).bind λ_=>(out[(0+((w64 ((out.length:Int)-1))).toNat)]?).bind λe=>some (out.set (0+((w64 ((out.length:Int)-1))).toNat) (⟨e.From,d⟩:Window))else (ll out ([⟨c,d⟩]:List Window)).bind λa=>some a
theorem putW_eq {f:Int->ByteArray} {c F:Int} (d:Int) {tl:List Slot_} (hT:dC f c F tl) (hl:tl.length<=900000):Lb c d (RW tl)=some (RW (og AZ c d tl)):=by
 have hl2:=Lc tl
 unfold Lb
 rcases RW_put d hT with⟨i,e,h1,h2,h3⟩|⟨h1,h3⟩|⟨i,e,h1,h2,h3⟩
 ·rw [h3]
  rw [h1]at hl2 ⊢
  obtain ⟨w1,w2,w3,w4,w5,w6⟩:=Lu (i:=i) (e:=e) (by omega)
  simp only [w1,w2,w3,w4,w5,w6,cond_true,ob_,h2,beq_self_eq_true]
 ·rw [h1,h3,w_none,cond_false,ob_,cond_false,iL _ _ (by simp)];rfl
 ·rw [h3]
  rw [h1]at hl2 ⊢
  obtain ⟨w1,w2,w3,w4,w5,w6⟩:=Lu (i:=i) (e:=e) (by omega)
  have h2':(e.To==c)=false:=by simpa using h2
  simp only [w1,w2,w3,w4,w5,cond_true,ob_,h2',cond_false,iL (i++[e]) [⟨c,d⟩] (by simp at hl2 ⊢;omega)]
theorem F7 {a b:List Entry} {p:Player} {c F:Int} (d:Int) {tl:List Slot_} (hT:dC (chF a b p) c F tl) (hl:tl.length<=900000) :
  (bif chD a b p c then Lb c d (RW tl)else some (RW tl))=some (RW (og (chF a b p c) c d tl)):=by
 unfold chF
 cases chD a b p c with
 | true=>simp only [cond_true];exact putW_eq d hT hl
 | false=>simp only [cond_false];rw [RW_zero]
theorem FD {a b:List Entry} {p:Player} (ha:CE a p) (hb:CE b p) {w:Window} {x y:List Slot_} (x2:dC (ig a p) w.To w.From x) (x3:x.length<=40000) (y2:dC (ig b p) w.To w.From y) (y3:y.length<=40000) :
  ∃o,gY (([]:List Window),0,0) (λs=>fZ x y (oz a) (oz b) s)=some o/\∃(tl:List Slot_) (i k:Int),o = .go (RW tl,i,k)/\dC (chF a b p) w.To w.From tl/\tl.length<=80000:=by
 refine Bw (I:=λs=>∃(i k:Nat) (c:Int) (tl:List Slot_),s=(RW tl,(i:Int),(k:Int))/\dC (chF a b p) c w.From tl/\tl.length<=i+k/\i<=x.length/\k<=y.length /\
   ((∃X Y,x[i]? = some X/\y[k]? = some Y/\X.Time.From<=c/\c<X.Time.To/\Y.Time.From<=c/\c<Y.Time.To)\/(c=w.To/\i=x.length/\k=y.length))/\(∀X Y,x[i]? = some X->y[k]? = some Y->X.Time.From=c\/Y.Time.From=c))
  (m:=λs=>(x.length+y.length)-(s.2.1+s.2.2).toNat) (P:=λo=>∃(tl:List Slot_) (i k:Int),o = .go (RW tl,i,k)/\dC (chF a b p) w.To w.From tl/\tl.length<=80000) ?_ ?_
 ·rintro s ⟨i,k,c,tl,rfl,hT,hlen,hi,hk,hpos,hat⟩
  rcases hpos with⟨X,Y,hX,hY,b1,b2,b3,b4⟩|⟨rfl,rfl,rfl⟩
  ·left
   have hil:i<x.length:=(List.getElem?_eq_some_iff.1 hX).1
   have hkl:k<y.length:=(List.getElem?_eq_some_iff.1 hY).1
   obtain ⟨X1,X2,X3,X4⟩:=jI x2 i X hX
   obtain ⟨Y1,Y2,Y3,Y4⟩:=jI y2 k Y hY
   have hc:=hat X Y hX hY
   let d:=min X.Time.To Y.Time.To
   have hd:d=min X.Time.To Y.Time.To:=rfl
   have hcd:c<d:=by omega
   have kx:∀t,c<=t->t<d->ig a p t=X.Entry:=λt t1 t2=>X1.2.2.2 t (by omega) (by omega)
   have ky:∀t,c<=t->t<d->ig b p t=Y.Entry:=λt t1 t2=>Y1.2.2.2 t (by omega) (by omega)
   have hT2:dC (chF a b p) d w.From (og (chF a b p c) c d tl):=dC.add hcd (λt t1 t2=>Nb ((kx t t1 t2).trans (kx c (by omega) hcd).symm) ((ky t t1 t2).trans (ky c (by omega) hcd).symm)) tl _ hT
   have hl2:=yL (chF a b p c) c d tl
   have hput:=F7 (a:=a) (b:=b) (p:=p) d hT (by omega)
   have hcut:gW X.Time Y.Time=some ⟨c,d⟩:=by
    unfold gW
    rw [tZ,uJ,hd]
    congr 2
    omega
   have hD:(bif sNe X.Entry Y.Entry then some true else some (sNe ((uU eqS (oz a) X.Entry).getD (⟨#[]⟩:ByteArray)) ((uU eqS (oz b) Y.Entry).getD (⟨#[]⟩:ByteArray))))=some (chD a b p c):=by
    unfold chD
    rw [kx c (by omega) hcd,ky c (by omega) hcd]
    show (bif !sEq X.Entry Y.Entry then some true else some (!sEq (y8 a X.Entry) (y8 b Y.Entry)))=_
    cases sEq X.Entry Y.Entry <;> simp
   have e1:decide ((i:Int)<(x.length:Int))=true:=decide_eq_true (by omega)
   have e2:decide ((k:Int)<(y.length:Int))=true:=decide_eq_true (by omega)
   have w1:w64 ((i:Int)+1)=((i+1:Nat):Int):=by rw [aM (by omega)];omega
   have w2:w64 ((k:Int)+1)=((k+1:Nat):Int):=by rw [aM (by omega)];omega
   have hbody:fZ x y (oz a) (oz b) (RW tl,(i:Int),(k:Int))=some (.go (RW (og (chF a b p c) c d tl),((if X.Time.To=d then i+1 else i:Nat):Int),((if Y.Time.To=d then k+1 else k:Nat):Int))):=by
    unfold fZ
    simp only [e1,e2,cond_true,ob_,jK,hX,hY,hcut,hD]
    have hp2:=hput
    unfold Lb at hp2
    rw [hp2]
    simp only [ob_]
    by_cases q1:X.Time.To=d <;> by_cases q2:Y.Time.To=d
    ·have r1:(X.Time.To==d)=true:=by simpa using q1
     have r2:(Y.Time.To==d)=true:=by simpa using q2
     simp only [r1,r2,cond_true,ob_,w1,w2,if_pos q1,if_pos q2]
    ·have r1:(X.Time.To==d)=true:=by simpa using q1
     have r2:(Y.Time.To==d)=false:=by simpa using q2
     simp only [r1,r2,cond_true,cond_false,ob_,w1,if_pos q1,if_neg q2]
    ·have r1:(X.Time.To==d)=false:=by simpa using q1
     have r2:(Y.Time.To==d)=true:=by simpa using q2
     simp only [r1,r2,cond_true,cond_false,ob_,w2,if_neg q1,if_pos q2]
    ·omega
   refine⟨_,hbody,⟨_,_,d,_,rfl,hT2,?_,?_,?_,?_,?_⟩,?_⟩
   ·split <;> split <;> omega
   ·split <;> omega
   ·split <;> omega
   ·-- where the slots are now
    have nx:∀q:X.Time.To=d,d<w.To->∃X',x[i+1]? = some X'/\X'.Time.From=d/\d<X'.Time.To:=λq hlt=>by
     have hne:i+1≠x.length:=λh=>by have:=X4 h;omega
     have hlt2:i+1<x.length:=by omega
     have hg:x[i+1]? = some x[i+1]:=List.getElem?_eq_getElem hlt2
     obtain ⟨Z1,Z2,Z3,Z4⟩:=jI x2 (i+1) _ hg
     have:=(Z3 i X rfl hX).1
     exact⟨_,hg,by omega,by omega⟩
    have ny:∀q:Y.Time.To=d,d<w.To->∃Y',y[k+1]? = some Y'/\Y'.Time.From=d/\d<Y'.Time.To:=λq hlt=>by
     have hne:k+1≠y.length:=λh=>by have:=Y4 h;omega
     have hlt2:k+1<y.length:=by omega
     have hg:y[k+1]? = some y[k+1]:=List.getElem?_eq_getElem hlt2
     obtain ⟨Z1,Z2,Z3,Z4⟩:=jI y2 (k+1) _ hg
     have:=(Z3 k Y rfl hY).1
     exact⟨_,hg,by omega,by omega⟩
    by_cases hlt:d<w.To
    ·left
     by_cases q1:X.Time.To=d <;> by_cases q2:Y.Time.To=d
     ·obtain ⟨X',a1,a2,a3⟩:=nx q1 hlt
      obtain ⟨Y',a4,a5,a6⟩:=ny q2 hlt
      clear nx ny
      rw [if_pos q1,if_pos q2]
      exact⟨X',Y',a1,a4,by omega,a3,by omega,a6⟩
     ·obtain ⟨X',a1,a2,a3⟩:=nx q1 hlt
      clear nx ny
      rw [if_pos q1,if_neg q2]
      exact⟨X',Y,a1,hY,by omega,a3,by omega,by omega⟩
     ·obtain ⟨Y',a4,a5,a6⟩:=ny q2 hlt
      clear nx ny
      rw [if_neg q1,if_pos q2]
      exact⟨X,Y',hX,a4,by omega,by omega,by omega,a6⟩
     ·clear nx ny;omega
    ·right
     clear nx ny
     have q1:X.Time.To=d:=by omega
     have q2:Y.Time.To=d:=by omega
     rw [if_pos q1,if_pos q2]
     refine⟨by omega,?_,?_⟩
     ·rcases Nat.lt_or_ge (i+1) x.length with h|h
      ·have hg:x[i+1]? = some x[i+1]:=List.getElem?_eq_getElem h
       obtain ⟨Z1,Z2,Z3,Z4⟩:=jI x2 (i+1) _ hg
       have:=(Z3 i X rfl hX).1
       omega
      ·omega
     ·rcases Nat.lt_or_ge (k+1) y.length with h|h
      ·have hg:y[k+1]? = some y[k+1]:=List.getElem?_eq_getElem h
       obtain ⟨Z1,Z2,Z3,Z4⟩:=jI y2 (k+1) _ hg
       have:=(Z3 k Y rfl hY).1
       omega
      ·omega
   ·intro X' Y' g1 g2
    by_cases q1:X.Time.To=d
    ·rw [if_pos q1]at g1
     obtain ⟨Z1,Z2,Z3,Z4⟩:=jI x2 (i+1) X' g1
     exact .inl ((Z3 i X rfl hX).1.trans q1)
    ·have q2:Y.Time.To=d:=by omega
     rw [if_pos q2]at g2
     obtain ⟨Z1,Z2,Z3,Z4⟩:=jI y2 (k+1) Y' g2
     exact .inr ((Z3 k Y rfl hY).1.trans q2)
   ·show (x.length+y.length)-(((if X.Time.To=d then i+1 else i:Nat):Int)+((if Y.Time.To=d then k+1 else k:Nat):Int)).toNat<(x.length+y.length)-((i:Int)+(k:Int)).toNat
    by_cases q1:X.Time.To=d <;> by_cases q2:Y.Time.To=d
    ·rw [if_pos q1,if_pos q2];omega
    ·rw [if_pos q1,if_neg q2];omega
    ·rw [if_neg q1,if_pos q2];omega
    ·omega
  ·right;left
   refine⟨(RW tl,((x.length:Nat):Int),((y.length:Nat):Int)),?_,tl,((x.length:Nat):Int),((y.length:Nat):Int),rfl,hT,by omega⟩
   unfold fZ
   have e1:decide (((x.length:Nat):Int)<(x.length:Int))=false:=by simp
   simp only [e1,cond_false,ob_]
 ·have h0:∀{l:List Slot_} {g:Int->ByteArray} {X:Slot_},dC g w.To w.From l->l[0]? = some X->X.Time.From=w.From:=λhT hX=>(jI hT 0 _ hX).2.1 rfl
  refine⟨0,0,w.From,[],rfl,by unfold dC;rfl,by simp,by omega,by omega,?_,λX Y h1 _ => .inl (h0 x2 h1)⟩
  by_cases hlt:w.From<w.To
  ·left
   have hx:0<x.length:=by
    cases x with
    | nil=>unfold dC at x2;omega
    | cons z r=>simp
   have hy:0<y.length:=by
    cases y with
    | nil=>unfold dC at y2;omega
    | cons z r=>simp
   have gx:x[0]? = some x[0]:=List.getElem?_eq_getElem hx
   have gy:y[0]? = some y[0]:=List.getElem?_eq_getElem hy
   obtain ⟨Z1,_⟩:=jI x2 0 _ gx
   obtain ⟨Z2,_⟩:=jI y2 0 _ gy
   have zx:=h0 x2 gx
   have zy:=h0 y2 gy
   exact⟨_,_,gx,gy,by omega,by omega,by omega,by omega⟩
  ·right
   have hle:=x2.le
   refine⟨by omega,?_,?_⟩
   ·cases x with
    | nil=>rfl
    | cons z r=>unfold dC at x2;omega
   ·cases y with
    | nil=>rfl
    | cons z r=>unfold dC at y2;omega
theorem Iu {a b:List Entry} {p:Player} (ha:CE a p) (hb:CE b p) {w:Window} (hok:rF w) (h1:bG a=some 0) (h2:gq b p w=some 0) :
  ∃tl,fQ a b p w=some (RW tl,0)/\dC (chF a b p) w.To w.From tl/\tl.length<=80000:=by
 obtain ⟨x,x1,x2,x3⟩:=Cv ha hok hok.2.1
 obtain ⟨y,y1,y2,y3⟩:=Cv hb hok hok.2.1
 obtain ⟨o,o1,tl,i,k,rfl,o2,o3⟩:=FD ha hb x2 x3 y2 y3
 refine⟨tl,?_,o2,o3⟩
 unfold fQ
 have l1:=ha.len
 have l2:=hb.len
 simp only [h1,h2,ob_,bne_self_eq_false,cond_false,x1,y1,Gf ha.keys (by omega),Gf hb.keys (by omega),o1,gQ]
theorem Iz (a b:List Int) (ha:a.length<=100000) (hb:b.length<=100000) (hne:a ≠ []):gJ [a,b]=some (a++b):=by
 have hpos:0<a.length:=List.length_pos_iff.2 hne
 unfold gJ
 have e1:iY [a,b] 0 (λk x s=>di k x s)=some (.go (((a.length+b.length:Nat)):Int)):=by
  rw [eX (by simp)]
  have q1:∀k,di k a 0=some (.go (a.length:Int)):=λk=>by
   unfold di
   rw [show (0:Int)+(a.length:Int)=(a.length:Int) by omega,aM (by omega),decide_eq_false (by omega)];rfl
  have q2:∀k,di k b (a.length:Int)=some (.go ((a.length+b.length:Nat):Int)):=λk=>by
   unfold di
   rw [aM (by omega),decide_eq_false (by omega)]
   simp
  simp only [dG,q1,q2,ob_]
 have e2:iC (((a.length+b.length:Nat)):Int)=some true:=by
  unfold iC
  have q:w64 ((((a.length+b.length:Nat)):Int)-w64 (0-0))=((a.length+b.length:Nat):Int):=by
   rw [aM (n:=0-0) (by decide),aM (by omega)];omega
  have:zN (((a.length+b.length:Nat)):Int) 8=some ():=by unfold zN;rw [if_pos ⟨by omega,by omega,by omega⟩]
  rw [decide_eq_false (by omega),cond_false,q,decide_eq_true (by omega),cond_true,this];rfl
 have e3:iY [a,b] ([]:List Int) (λk x s=>dh k x s)=some (.go (a++b)):=by
  rw [eX (by simp)]
  have q1:∀k,dh k a []=some (.go a):=λk=>by
   unfold dh
   rw [iL _ _ (by simp;omega)];rfl
  have q2:∀k,dh k b a=some (.go (a++b)):=λk=>by
   unfold dh
   rw [iL _ _ (by omega)];rfl
  simp only [dG,q1,q2,ob_]
 have e4:kE true (a++b)=some ():=by
  cases a with
  | nil=>exact absurd rfl hne
  | cons z r=>rfl
 simp only [e1,e2,e3,e4,ob_,gQ]
theorem Fw {a b:List Entry} {p:Player} (ha:CE a p) (hb:CE b p) {w:Window} (hok:rF w) :
  ∃tl,jP a b p w=some (RW tl)/\dC (chF a b p) w.To w.From tl:=by
 have hok':=hok
 obtain ⟨k1,k2,k3⟩:=hok'
 obtain ⟨A,a1,a2,a3,a4⟩:=Ec ha (w:=w) k2
 obtain ⟨B,b1,b2,b3,b4⟩:=Ec hb (w:=w) k2
 obtain ⟨s,C,c1,c2,c3,c4,c5,c6⟩:=om (A++B) (by simp;omega)
 have hsm:kX s (A++B)=some ():=by unfold kX;rw [if_pos c2]
 have hin:∀x∈C,w.From<=x/\x<=w.To:=λx hx=>(List.mem_append.1 ((c5 x).1 hx)).elim (a3.in_ x) (b3.in_ x)
 have hF:w.From∈C:=(c5 _).2 (List.mem_append.2 (.inl a3.from_))
 have hTo:w.To∈C:=(c5 _).2 (List.mem_append.2 (.inl a3.to_))
 obtain ⟨d1,d2⟩:=DX c4 hF hTo hin
 have hcl:C.length<=80000:=by simp only [List.length_append]at c6;omega
 have hlen:0<C.length:=(List.getElem?_eq_some_iff.1 d1).1
 unfold jP
 rw [a1,ob_,b1,ob_,Iz A B (by omega) (by omega) (List.ne_nil_of_mem a3.from_),ob_,c1,ob_,hsm,ob_,c3,ob_]
 obtain ⟨st,s1,s2⟩:=sM (body:=λs=>jm C a p b s) (λk s=>∃tl c,s=(RW tl,((k+1:Nat):Int))/\C[k]? = some c/\tl.length<=k/\dC (chF a b p) c w.From tl) (C.length-1) (λk s hk ⟨tl,c,h1,h2,h3,h4⟩=>by
  subst h1
  have hg:C[k+1]? = some C[k+1]:=List.getElem?_eq_getElem (by omega)
  have hcd:c<C[k+1]:=D6 c4 h2 hg
  have hci:=hin c (List.mem_of_getElem? h2)
  obtain ⟨e,e1,e2,e3⟩:=Er ha (t:=c) (by omega)
  obtain ⟨g,g1,g2,g3⟩:=Er hb (t:=c) (by omega)
  have hT2:dC (chF a b p) C[k+1] w.From (og (chF a b p c) c C[k+1] tl):=dC.add hcd (λt t1 t2=>Nb
   (BH ha.right c4 hin (λe he _ x hx=>⟨(c5 _).2 (List.mem_append.2 (.inl (a3.has e he x hx).1)),(c5 _).2 (List.mem_append.2 (.inl (a3.has e he x hx).2))⟩) h2 hg t1 t2)
   (BH hb.right c4 hin (λe he _ x hx=>⟨(c5 _).2 (List.mem_append.2 (.inr (b3.has e he x hx).1)),(c5 _).2 (List.mem_append.2 (.inr (b3.has e he x hx).2))⟩) h2 hg t1 t2)) tl _ h4
  have hl2:=yL (chF a b p c) c C[k+1] tl
  have hput:=F7 (a:=a) (b:=b) (p:=p) C[k+1] h4 (by omega)
  refine⟨(RW (og (chF a b p c) c C[k+1] tl),((k+1+1:Nat):Int)),?_,_,_,rfl,hg,by omega,hT2⟩
  have w1:w64 (((k+1:Nat):Int)-1)=(k:Int):=by rw [aM (by omega)];omega
  have w2:w64 (((k+1:Nat):Int)+1)=((k+1+1:Nat):Int):=by rw [aM (by omega)];omega
  have e0:decide (((k+1:Nat):Int)<(C.length:Int))=true:=decide_eq_true (by omega)
  have hD:(bif sEq e.Key g.Key then some (sEq e.Item g.Item)else some false)=some (!chD a b p c):=by
   unfold chD
   rw [e2,g2,e3,g3]
   cases sEq (ig a p c) (ig b p c) <;> simp
  unfold jm
  simp only [e0,cond_true,w1,w2,jK,h2,hg,ob_,e1,g1,hD]
  cases hd:chD a b p c with
  | false =>
   rw [hd,cond_false]at hput
   simp only [Bool.not_false,cond_true]
   rw [Option.some.inj hput]
  | true =>
   rw [hd,cond_true]at hput
   simp only [Bool.not_true,cond_false]
   refine Eq.trans ?_ (congrArg (λo=>o.bind λv=>some (Ctl.go (v,((k+1+1:Nat):Int)))) hput)
   unfold Lb
   generalize (bif decide (w64 (((RW tl).length:Int)-1)>=0)then _ else _:Option Bool)=q
   cases q with
   | none=>rfl
   | some q =>
    cases q with
    | false =>
     simp only [ob_,cond_false]
     cases ll (RW tl) [_] <;> rfl
    | true =>
     simp only [ob_,cond_true]
     cases inR (w64 (((RW tl).length:Int)-1)) (RW tl)with
     | none=>rfl
     | some u =>
      simp only [ob_]
      cases (RW tl)[(0+((w64 (((RW tl).length:Int)-1))).toNat)]? <;> rfl) (λs ⟨tl,c,h1,h2,h3,h4⟩=>by
  subst h1
  unfold jm
  have e0:decide (((C.length-1+1:Nat):Int)<(C.length:Int))=false:=decide_eq_false (by omega)
  simp only [e0,cond_false]) (s:=(([]:List Window),1)) ⟨[],w.From,rfl,d1,by simp,by unfold dC;rfl⟩
 obtain ⟨tl,c,h1,h2,h3,h4⟩:=s2
 rw [d2,so_]at h2
 subst h1 h2
 exact⟨tl,by simp only [s1,ob_,gQ],h4⟩
theorem Fq {a b:List Entry} {p:Player} (ha:CE a p) (hb:CE b p) {w:Window} (hok:rF w) (h1:bG a=some 0) (h2:gq b p w=some 0) :
  ∃r,fQ a b p w=some (r,0)/\jP a b p w=some r/\r.length<=100000:=by
 obtain ⟨tl,t1,t2,t3⟩:=Iu ha hb hok h1 h2
 obtain ⟨ul,u1,u2⟩:=Fw ha hb hok
 have:=t2.uniq u2
 subst this
 have:=Lc tl
 exact⟨_,t1,u1,by omega⟩
theorem CP {p:Int->Bool} {f:Int->Window} {R:Window->Window->Prop} (h:∀d d',d<d'->R (f d) (f d')):∀(n:Nat) (d:Int),(collect p f n d).Pairwise R
 | 0,_ => .nil
 | n+1,d=>by
  unfold collect
  rw [List.pairwise_append]
  refine⟨?_,CP h n (d+1),λx hx y hy => ?_⟩
  ·cases p d
   ·exact .nil
   ·exact List.pairwise_singleton _ _
  ·obtain ⟨e,e1,e2,e3,rfl⟩:=(rJ n (d+1)).1 hy
   cases hp:p d with
   | false=>rw [hp]at hx;cases hx
   | true =>
    rw [hp,cond_true,List.mem_singleton]at hx
    subst hx
    exact h d e (by omega)
def Ris (l:List Window):Prop:=l.Pairwise (λx y=>x.To<=y.From)/\∀x∈l,x.From<x.To
theorem Ka {e:Entry} (h:Right e) (z:Int) (w:Window):Ris (tiL e z w):=by
 have hm:=zK e h
 refine⟨CP (λd d' hd => ?_) _ _,λx hx => ?_⟩
 ·have:=EY e z hd
  show tF e z d+nR e*60000<=tF e z d'
  omega
 ·obtain ⟨d,_,_,_,rfl⟩:=(ze h).1 hx
  show tF e z d<tF e z d+nR e*60000
  omega
def vH (w x y:Window):Bool:=decide (max (max x.From y.From) w.From<min (min x.To y.To) w.To)
def anyM (w:Window) (A B:List Window):Bool:=A.any λx=>B.any λy=>vH w x y
theorem Ml (w:Window) (A:List Window):anyM w A []=false:=by unfold anyM;simp
theorem K9 {w x y:Window} {A B:List Window} (hB:Ris (y::B)) (hm:vH w x y=false) (hlt:x.To<y.To):anyM w (x::A) (y::B)=anyM w A (y::B):=by
 have:((y::B).any λz=>vH w x z)=false:=by
  rw [List.any_eq_false]
  intro z hz
  rcases List.mem_cons.1 hz with rfl|hz
  ·simp [hm]
  ·have:=(List.pairwise_cons.1 hB.1).1 z hz
   unfold vH
   rw [decide_eq_false (by omega)]
   exact Bool.false_ne_true
 unfold anyM
 rw [List.any_cons,this,Bool.false_or]
theorem IB {w x y:Window} {A B:List Window} (hA:Ris (x::A)) (hm:vH w x y=false) (hlt:¬x.To<y.To):anyM w (x::A) (y::B)=anyM w (x::A) B:=by
 unfold anyM
 rw [Bool.eq_iff_iff,List.any_eq_true,List.any_eq_true]
 constructor
 ·rintro ⟨u,hu,h⟩
  refine⟨u,hu,?_⟩
  rw [List.any_cons,Bool.or_eq_true]at h
  rcases h with h|h
  ·rcases List.mem_cons.1 hu with rfl|hu
   ·rw [hm]at h;cases h
   ·have:=(List.pairwise_cons.1 hA.1).1 u hu
    unfold vH at h
    have:=of_decide_eq_true h
    omega
  ·exact h
 ·rintro ⟨u,hu,h⟩
  exact⟨u,hu,by rw [List.any_cons,h,Bool.or_true]⟩
theorem Gs {l:List Window} (h:Ris l) (n:Nat):Ris (l.drop n):=⟨h.1.sublist (List.drop_sublist n l),λx hx=>h.2 x (List.mem_of_mem_drop hx)⟩
theorem Im {A B:List Window} (hA:Ris A) (hB:Ris B) (w:Window) (la:A.length<=100000) (lb:B.length<=100000):kv A B w=some (anyM w A B):=by
 unfold kv
 obtain ⟨o,o1,o2⟩:=Bw (body:=λs=>fe A B w s) (I:=λs=>∃i k:Nat,s=((i:Int),(k:Int))/\i<=A.length/\k<=B.length/\anyM w (A.drop i) (B.drop k)=anyM w A B)
  (m:=λs=>(A.length+B.length)-(s.1+s.2).toNat) (P:=λo=>bD o (λ_=>some false) (λr=>some r)=some (anyM w A B)) (λs ⟨i,k,hs,hi,hk,hv⟩=>by
   subst hs
   by_cases h1:i<A.length
   ·by_cases h2:k<B.length
    ·have gA:A[i]? = some A[i]:=List.getElem?_eq_getElem h1
     have gB:B[k]? = some B[k]:=List.getElem?_eq_getElem h2
     have dA:A.drop i=A[i]::A.drop (i+1):=List.drop_eq_getElem_cons h1
     have dB:B.drop k=B[k]::B.drop (k+1):=List.drop_eq_getElem_cons h2
     have e1:decide ((i:Int)<(A.length:Int))=true:=decide_eq_true (by omega)
     have e2:decide ((k:Int)<(B.length:Int))=true:=decide_eq_true (by omega)
     have w1:w64 ((i:Int)+1)=((i+1:Nat):Int):=by rw [aM (by omega)];omega
     have w2:w64 ((k:Int)+1)=((k+1:Nat):Int):=by rw [aM (by omega)];omega
     have hm:decide ((jw (jw A[i].From B[k].From) w.From)<(jB (jB A[i].To B[k].To) w.To))=vH w A[i] B[k]:=by
      simp only [tZ,uJ];rfl
     have hbody:fe A B w ((i:Int),(k:Int))=(bif vH w A[i] B[k]then some (.ret true)else bif decide (A[i].To<B[k].To)then some (.go (((i+1:Nat):Int),(k:Int)))else some (.go ((i:Int),((k+1:Nat):Int)))):=by
      unfold fe gW
      simp only [e1,e2,cond_true,ob_,jK,gA,gB,hm,w1,w2]
     rw [dA,dB]at hv
     rw [hbody]
     cases hmm:vH w A[i] B[k]with
     | true =>
      refine .inr (.inr ⟨true,by rw [cond_true],?_⟩)
      have:anyM w (A[i]::A.drop (i+1)) (B[k]::B.drop (k+1))=true:=by
       unfold anyM
       rw [List.any_cons,List.any_cons,hmm];rfl
      rw [<- hv,this];rfl
     | false =>
      left
      have rA:=Gs hA i
      have rB:=Gs hB k
      rw [dA]at rA
      rw [dB]at rB
      rw [cond_false]
      by_cases hlt:A[i].To<B[k].To
      ·rw [decide_eq_true hlt,cond_true]
       refine⟨_,rfl,⟨i+1,k,rfl,by omega,by omega,?_⟩,?_⟩
       ·rw [dB,<- hv,K9 rB hmm hlt]
       ·simp only [];omega
      ·rw [decide_eq_false hlt,cond_false]
       refine⟨_,rfl,⟨i,k+1,rfl,by omega,by omega,?_⟩,?_⟩
       ·rw [dA,<- hv,IB rA hmm hlt]
       ·simp only [];omega
    ·refine .inr (.inl ⟨((i:Int),(k:Int)),?_,?_⟩)
     ·unfold fe
      have e1:decide ((i:Int)<(A.length:Int))=true:=decide_eq_true (by omega)
      have e2:decide ((k:Int)<(B.length:Int))=false:=decide_eq_false (by omega)
      simp only [e1,e2,cond_true,cond_false,ob_]
     ·rw [List.drop_of_length_le (by omega:B.length<=k),Ml]at hv
      rw [<- hv];rfl
   ·refine .inr (.inl ⟨((i:Int),(k:Int)),?_,?_⟩)
    ·unfold fe
     have e1:decide ((i:Int)<(A.length:Int))=false:=decide_eq_false (by omega)
     simp only [e1,cond_false,ob_]
    ·rw [List.drop_of_length_le (by omega:A.length<=i)]at hv
     rw [<- hv];rfl) (s:=(0,0)) ⟨0,0,rfl,by omega,by omega,rfl⟩
 rw [o1,ob_,o2]
def oH (w:Window) (a b:Entry):Bool:=(a.Prio==b.Prio)&&anyM w (tiL a 0 w) (tiL b 0 w)
def lC (w:Window) (a:Entry) (r:List Entry):List Pair:=(r.filter (oH w a)).map λb=>⟨a.Key,b.Key⟩
def pJ (w:Window):List Entry->List Pair
 | []=>[]
 | a::r=>lC w a r++pJ w r
theorem zU (w:Window) (a:Entry) (r:List Entry):(lC w a r).length<=r.length:=by unfold lC;rw [List.length_map];exact List.length_filter_le _ _
theorem Iw (w:Window) (a b:Entry) (r:List Entry):lC w a (r++[b])=lC w a r++(bif oH w a b then [⟨a.Key,b.Key⟩]else []):=by
 unfold lC
 rw [List.filter_append,List.map_append]
 congr 1
 cases h:oH w a b with
 | true=>rw [List.filter_cons_of_pos h];rfl
 | false=>rw [List.filter_cons_of_neg (by simp [h])];rfl
theorem Ed (w:Window):∀l:List Entry,(pJ w l).length<=l.length*l.length
 | []=>by simp [pJ]
 | a::r=>by
  have h1:=zU w a r
  have h2:=Ed w r
  simp only [pJ,List.length_append,List.length_cons]
  have:(r.length+1)*(r.length+1)=r.length*r.length+2*r.length+1:=by
   rw [Nat.add_mul,Nat.mul_add];omega
  omega
theorem GZ {l:List Entry} {w:Window} (hr:∀e∈l,Right e) (hl:l.length<=4) {k:Nat} {a:Entry} (ha:l[k]? = some a) (out:List Pair) (ho:out.length<=1000) :
  jc l (l.map λe=>tiL e 0 w) w k a out=some (.go (out++lC w a (l.drop (k+1)))):=by
 have hk:k<l.length:=(List.getElem?_eq_some_iff.1 ha).1
 have ham:=List.mem_of_getElem? ha
 unfold jc
 have w1:w64 ((k:Int)+1)=((k+1+0:Nat):Int):=by rw [aM (by omega)];omega
 obtain ⟨s,s1,s2⟩:=sM (body:=λs=>jh l a (l.map λe=>tiL e 0 w) k w s) (λj s=>s=(out++lC w a ((l.drop (k+1)).take j),((k+1+j:Nat):Int))) ((l.drop (k+1)).length) (λj s hj hs=>by
  subst hs
  have hj2:k+1+j<l.length:=by rw [List.length_drop]at hj;omega
  have gb:l[k+1+j]? = some l[k+1+j]:=List.getElem?_eq_getElem hj2
  have hbm:=List.getElem_mem hj2
  have gt:(l.drop (k+1)).take (j+1)=(l.drop (k+1)).take j++[l[k+1+j]]:=by
   rw [List.take_add_one,List.getElem?_drop,gb];rfl
  have ga':(l.map λe=>tiL e 0 w)[k]? = some (tiL a 0 w):=by rw [List.getElem?_map,ha];rfl
  have gb':(l.map λe=>tiL e 0 w)[k+1+j]? = some (tiL l[k+1+j] 0 w):=by rw [List.getElem?_map,gb];rfl
  have hov:=Im (Ka (hr a ham) 0 w) (Ka (hr _ hbm) 0 w) w (Nat.le_trans (Bj (hr a ham) 0 w) (by omega)) (Nat.le_trans (Bj (hr _ hbm) 0 w) (by omega))
  have e1:decide (((k+1+j:Nat):Int)<(l.length:Int))=true:=decide_eq_true (by omega)
  have w2:w64 (((k+1+j:Nat):Int)+1)=((k+1+(j+1):Nat):Int):=by rw [aM (by omega)];omega
  have hp:=zU w a ((l.drop (k+1)).take j)
  have hp2:((l.drop (k+1)).take j).length<=4:=by rw [List.length_take,List.length_drop];omega
  have hc:(bif (a.Prio==l[k+1+j].Prio)then some (anyM w (tiL a 0 w) (tiL l[k+1+j] 0 w))else some false)=some (oH w a l[k+1+j]):=by
   unfold oH
   cases a.Prio==l[k+1+j].Prio <;> rfl
  refine⟨_,?_,by rw [gt,Iw,<- List.append_assoc]⟩
  unfold jh
  simp only [e1,cond_true,jK,gb,ga',gb',hov,ob_,hc,w2]
  cases oH w a l[k+1+j]with
  | true=>simp only [cond_true,iL (out++lC w a ((l.drop (k+1)).take j)) [_] (by simp;omega),ob_]
  | false=>simp only [cond_false,ob_,List.append_nil]) (λs hs=>by
  subst hs
  unfold jh
  have e1:decide (((k+1+(l.drop (k+1)).length:Nat):Int)<(l.length:Int))=false:=decide_eq_false (by rw [List.length_drop];omega)
  simp only [e1,cond_false]) (s:=(out,((k+1+0:Nat):Int))) (by simp [lC])
 rw [w1,s1,s2]
 simp only [ob_,gQ,List.take_length]
theorem vQ {l:List Entry} {w:Window} {B:Nat->Entry->List Pair->Option (Ctl (List Pair) Unit)} (hB:∀k a out,l[k]? = some a->out.length<=1000->B k a out=some (.go (out++lC w a (l.drop (k+1))))):∀(r:List Entry) (k:Nat) (out:List Pair),l.drop k=r->out.length+r.length*r.length<=1000->dG B r k out=some (.go (out++pJ w r))
 | [],k,out,_,_=>by simp [dG,pJ]
 | a::r,k,out,hd,ho=>by
  have hg:=vU hd
  have hn:=aP hd
  have e:(r.length+1)*(r.length+1)=r.length*r.length+2*r.length+1:=by
   rw [Nat.add_mul,Nat.mul_add];omega
  simp only [List.length_cons]at ho
  rw [e]at ho
  have hp:=zU w a r
  simp only [dG,hB k a out hg (by omega),ob_,hn]
  rw [vQ hB r (k+1) _ hn (by simp;omega)]
  simp [pJ]
theorem Ls {l:List Entry} {w:Window} (hr:∀e∈l,Right e) (hl:l.length<=4) (hok:rF w) (h1:bG l=some 0) (h2:eO w=some 0):iP l w=some (pJ w l,0):=by
 have hsq:l.length*l.length<=4*4:=Nat.mul_le_mul hl hl
 unfold iP
 have hcap:Mx (l.length:Int) 24=some ():=by unfold Mx;rw [if_pos ⟨by omega,by omega,by omega⟩]
 have hall:iY l ([]:List (List Window)) (λk x s=>je w k x s)=some (.go (l.map λe=>tiL e 0 w)):=by
  obtain ⟨s,s1,s2⟩:=rE (body:=λk x s=>je w k x s) (ρ:=Unit) (λk s=>s=(l.take k).map λe=>tiL e 0 w) (xs:=l) (s:=([]:List (List Window))) (by omega) (λk x s hx hs=>by
   have hk:k<l.length:=(List.getElem?_eq_some_iff.1 hx).1
   subst hs
   refine⟨_,?_,rfl⟩
   unfold je
   rw [ET x (hr x (List.mem_of_getElem? hx)) 0 w (by omega) hok,ob_,iL _ _ (by simp;omega),List.take_add_one,hx]
   simp) (by simp)
  rw [s1,s2,List.take_length]
 have hout:iY l ([]:List Pair) (λk x s=>jc l (l.map λe=>tiL e 0 w) w k x s)=some (.go (pJ w l)):=by
  rw [eX (by omega),vQ (l:=l) (w:=w) (λk a out ha ho=>GZ hr hl ha out ho) l 0 [] rfl (by simp;omega)]
  rfl
 simp only [h1,h2,ob_,bne_self_eq_false,cond_false,hcap,hall,hout,gQ]
theorem Eo {e:Entry} (h:Right e) {w:Window} (hok:rF w):wants e 0 w=(tiL e 0 w).map (cutW w):=by
 obtain ⟨l,h1,_,h3⟩:=LK e h 0 w (by omega) hok
 rw [ET e h 0 w (by omega) hok,so_]at h1
 rw [h1,h3]
theorem Eh {x:Window}:∀(ys:List Window) (k:Nat) (s:Bool),dG (λk y s=>jU x k y s) ys k s=some (.go (s||ys.any λy=>decide (max x.From y.From<min x.To y.To)))
 | [],k,s=>by simp [dG]
 | y::ys,k,s=>by
  have hs:jU x k y s=some (.go (s||decide (max x.From y.From<min x.To y.To))):=by
   unfold jU
   rw [tZ,uJ]
   cases s <;> rfl
  simp only [dG,hs,ob_]
  rw [Eh ys (k+1) _,List.any_cons,Bool.or_assoc]
theorem Ey {b:Entry} {w:Window} {ys:List Window} (hy:kz b 0 w=some ys) (hl:ys.length<=100000):∀(xs:List Window) (k:Nat) (s:Bool),dG (λk x s=>jV b w k x s) xs k s=some (.go (s||xs.any λx=>ys.any λy=>decide (max x.From y.From<min x.To y.To)))
 | [],k,s=>by simp [dG]
 | x::xs,k,s=>by
  have hs:jV b w k x s=some (.go (s||ys.any λy=>decide (max x.From y.From<min x.To y.To))):=by
   unfold jV
   rw [hy,ob_,eX (by omega),Eh]
   rfl
  simp only [dG,hs,ob_]
  rw [Ey hy hl xs (k+1) _,List.any_cons,Bool.or_assoc]
theorem KS {a b:Entry} (ha:Right a) (hb:Right b) {w:Window} (hok:rF w):((wants a 0 w).any λx=>(wants b 0 w).any λy=>decide (max x.From y.From<min x.To y.To))=anyM w (tiL a 0 w) (tiL b 0 w):=by
 rw [Eo ha hok,Eo hb hok]
 unfold anyM
 rw [List.any_map]
 congr 1
 funext x
 show (((tiL b 0 w).map (cutW w)).any λy=>decide (max (cutW w x).From y.From<min (cutW w x).To y.To))=_
 rw [List.any_map]
 congr 1
 funext y
 show decide (max (cutW w x).From (cutW w y).From<min (cutW w x).To (cutW w y).To)=vH w x y
 unfold vH cutW
 simp only [tZ,uJ]
 rw [Bool.eq_iff_iff,decide_eq_true_eq,decide_eq_true_eq]
 omega
theorem Es {l:List Entry} {w:Window} (hr:∀e∈l,Right e) (hok:rF w) {a:Entry} (ha:Right a):∀(r:List Entry) (k:Nat) (out:List Pair),(∀e∈r,e∈l)->out.length+r.length<=1000000->dG (λk x s=>jW a w k x s) r k out=some (.go (out++lC w a r))
 | [],k,out,_,_=>by simp [dG,lC]
 | b::r,k,out,hm,ho=>by
  simp only [List.length_cons]at ho
  have hb:=hr b (hm b (by simp))
  have la:=xR ha 0 w
  have lb:=xR hb 0 w
  have hs:jW a w k b out=some (.go (out++(bif oH w a b then [⟨a.Key,b.Key⟩]else []))):=by
   unfold jW
   rw [IV a ha 0 w (by omega),ob_,eX (by omega),Ey (IV b hb 0 w (by omega)) (by omega),ob_,gQ,Bool.false_or,KS ha hb hok]
   have hc:(bif anyM w (tiL a 0 w) (tiL b 0 w)then some (a.Prio==b.Prio)else some false)=some (oH w a b):=by
    unfold oH
    cases anyM w (tiL a 0 w) (tiL b 0 w) <;> simp
   rw [hc,ob_]
   cases oH w a b with
   | true=>simp only [cond_true,iL out [_] (by simp;omega),ob_]
   | false=>simp only [cond_false,ob_,List.append_nil]
  simp only [dG,hs,ob_]
  have hlen:(bif oH w a b then [(⟨a.Key,b.Key⟩:Pair)]else []).length<=1:=by cases oH w a b <;> simp
  rw [Es hr hok ha r (k+1) _ (λe he=>hm e (List.mem_cons_of_mem _ he)) (by rw [List.length_append];omega),List.append_assoc]
  congr 3
  unfold lC
  cases h:oH w a b with
  | true=>rw [List.filter_cons_of_pos h];rfl
  | false=>rw [List.filter_cons_of_neg (by simp [h])];rfl
theorem K5 {l:List Entry} {w:Window} (hr:∀e∈l,Right e) (hl:l.length<=4) (hok:rF w):nu l w=some (pJ w l):=by
 have hsq:l.length*l.length<=4*4:=Nat.mul_le_mul hl hl
 unfold nu
 have hout:iY l ([]:List Pair) (λk x s=>j3 l w k x s)=some (.go (pJ w l)):=by
  rw [eX (by omega),vQ (l:=l) (w:=w) (λk a out ha ho=>by
   have hk:k<l.length:=(List.getElem?_eq_some_iff.1 ha).1
   have w1:w64 ((k:Int)+1)=((k+1:Nat):Int):=by rw [aM (by omega)];omega
   have hsub:H8 l ((k+1:Nat):Int) (l.length:Int)=some (l.drop (k+1)):=by
    unfold H8
    rw [if_pos ⟨by omega,by omega,by omega,by omega⟩]
    simp
   show j3 l w k a out=_
   unfold j3
   rw [w1,hsub,ob_,eX (by rw [List.length_drop];omega),Es hr hok (hr a (List.mem_of_getElem? ha)) _ _ _ (λe he=>List.mem_of_mem_drop he) (by rw [List.length_drop];omega)]
   rfl) l 0 [] rfl (by simp;omega)]
  rfl
 simp only [hout,ob_,gQ]
def vP (last:ByteArray) (x:Entry):Int:=bif nI x==0 then (bif sLe x.Key last then 7 else 0)else nI x
def jL (l:List Entry):Int:=chk (λe:Entry=>e.Key) vP FO l
theorem Hf {l:List Entry} (h:∀e∈l,pq e) (hl:l.length<=100):bG l=some (jL l):=by
 unfold bG jL
 rw [decide_eq_false (by omega),cond_false,eX (by omega),yF (key:=λe:Entry=>e.Key) (stp:=vP) l l 0 rfl (λk x hx => ?_)]
 ·simp only [ob_,wM];rfl
 ·unfold gp vP
  rw [entK x (h x (List.mem_of_getElem? hx)),ob_]
  cases he:nI x==0 with
  | false =>
   have:(nI x != 0)=true:=by simp [bne,he]
   rw [this,cond_true,cond_false]
   unfold zV;rw [he];rfl
  | true =>
   have:(nI x != 0)=false:=by simp [bne,he]
   have hk:=Gx (eq_of_beq he)
   rw [this,cond_false,cond_true]
   have h2:=zz (key:=λe:Entry=>e.Key) hx (by omega) hk
   rw [h2,ob_]
   cases sLe x.Key (vO (λe:Entry=>e.Key) l k) <;> rfl
theorem entsR {l:List Entry} (h:∀e∈l,pq e) (hl:l.length<=100):iJ l=some (jL l):=by
 unfold iJ jL
 rw [decide_eq_false (by omega),cond_false,eX (by omega)]
 obtain ⟨o,o1,o2⟩:=Gb (key:=λe:Entry=>e.Key) (stp:=vP) (body:=λk x s=>ic k x s) l 0 FO (λk x last hx=>by
  unfold ic vP
  rw [entR x (h x hx),ob_]
  cases he:nI x==0 with
  | false =>
   have:(nI x != 0)=true:=by simp [bne,he]
   rw [this,cond_true,cond_false,he];rfl
  | true =>
   have:(nI x != 0)=false:=by simp [bne,he]
   rw [this,cond_false,cond_true]
   cases sLe x.Key last <;> rfl)
 have o1':dG (λk x s=>ic k x s) l 0 (⟨#[]⟩:ByteArray)=some o:=o1
 rw [o1',ob_,o2]
theorem zY:∀(l:List Entry) (last:ByteArray),chk (λe:Entry=>e.Key) vP last l=0->(∀e∈l,nI e=0/\lt last e.Key)/\l.Pairwise (λa b=>lt a.Key b.Key)
 | [],last,_=>⟨λe he=>(by cases he),.nil⟩
 | x::xs,last,h=>by
  unfold chk at h
  cases h0:vP last x==0 with
  | false=>rw [h0,cond_false]at h;rw [h]at h0;cases h0
  | true =>
   rw [h0,cond_true]at h
   obtain ⟨i1,i2⟩:=zY xs x.Key h
   have h0:=eq_of_beq h0
   unfold vP at h0
   cases he:nI x==0 with
   | false=>rw [he,cond_false]at h0;rw [h0]at he;cases he
   | true =>
    rw [he,cond_true]at h0
    have hlt:lt last x.Key:=by
     cases hs:sLe x.Key last with
     | true=>rw [hs]at h0;cases h0
     | false =>
      rcases EH last x.Key with q|q|q
      ·exact q
      ·have:=(Bo x.Key last).2 (by rw [q];exact qW _)
       rw [hs]at this;cases this
      ·have:=(Bo x.Key last).2 (λk=>qW _ (lt_trans q k))
       rw [hs]at this;cases this
    refine⟨λe hm => ?_,List.pairwise_cons.2 ⟨λe hm=>(i1 e hm).2,i2⟩⟩
    rcases List.mem_cons.1 hm with rfl|hm
    ·exact⟨eq_of_beq he,hlt⟩
    ·exact⟨(i1 e hm).1,lt_trans hlt (i1 e hm).2⟩
theorem ce_of {l:List Entry} {p:Player} (hg:∀e∈l,pq e) (hl:l.length<=4) (h:jL l=0) (hp:qC p=0):CE l p:=by
 obtain ⟨h1,h2⟩:=zY l FO h
 have hz:iW p.Zone (-1440) 1440=false/\tagsF p.Tags=0:=by
  unfold qC at hp
  cases hk:(!nH p.Key || !nH p.Screen)with
  | true=>rw [hk]at hp;cases hp
  | false =>
   rw [hk,cond_false]at hp
   cases ho:iW p.Zone (-1440) 1440 with
   | true=>rw [ho]at hp;cases hp
   | false=>rw [ho]at hp;exact⟨rfl,hp⟩
 refine⟨λe he=>Ik (h1 e he).1,λe he=>by have:=(hg e he).2.2.2.1;omega,hl,?_,λe he hk => ?_,vw hz.1,hz.2⟩
 ·unfold List.Nodup
  rw [List.pairwise_map]
  exact h2.imp (λ{a b} q=>λ(e:a.Key=b.Key)=>qW b.Key (by rw [e]at q;exact q))
 ·exact Gx (h1 e he).1 (by rw [hk];rfl)
theorem errs4 (a b c d:Int):oZ [a,b,c,d]=some (or0 a (or0 b (or0 c d))):=by
 unfold oZ or0
 rw [eX (by simp)]
 have hb:∀k x,nD k x ()=some (bif x==0 then .go ()else .ret x):=λk x=>by
  unfold nD
  cases h:x==0 <;> simp [bne,h]
 simp only [dG,hb,ob_]
 cases ha:a==0 with
 | false=>simp only [cond_false,ob_,bD]
 | true =>
  simp only [cond_true,ob_]
  cases hb':b==0 with
  | false=>simp only [cond_false,ob_,bD]
  | true =>
   simp only [cond_true,ob_]
   cases hc:c==0 with
   | false=>simp only [cond_false,ob_,bD]
   | true =>
    simp only [cond_true,ob_]
    cases hd:d==0 with
    | false=>simp only [cond_false,ob_,bD]
    | true=>simp only [cond_true,ob_,bD];rw [eq_of_beq hd]
theorem Gl (l:List Pair) (hl:l.length<=1000000):d9 l l=some true:=by
 unfold d9
 have e1:((l.length:Int) != (l.length:Int))=false:=by simp
 obtain ⟨s,s1,_⟩:=rE (body:=λk x s=>dI l k x s) (ρ:=Bool) (λ_ _=>True) (xs:=l) (s:=()) (by omega) (λk x s hx _=>by
  refine⟨(),?_,trivial⟩
  unfold dI
  rw [jK,hx,ob_]
  simp) trivial
 rw [e1,cond_false,s1];rfl
theorem wJ {a b:Int} (h:(a != 0)=true):or0 a b=a:=by
 unfold or0
 have:(a==0)=false:=by simpa [bne]using h
 rw [this,cond_false]
theorem yP {a b:Int} (h:(a != 0)=false):or0 a b=b:=by
 unfold or0
 have:(a==0)=true:=by simpa [bne]using h
 rw [this,cond_true]
theorem JO {l:List Entry} (hg:∀e∈l,pq e) (hl:l.length<=100) {p:Player} (hp:EF p) (w:Window):gq l p w=some (or0 (jL l) (or0 (qC p) (mM w))):=by
 unfold gq
 rw [Hf hg hl,ob_]
 cases h1:jL l != 0 with
 | true=>rw [cond_true,wJ h1]
 | false =>
  rw [cond_false,yP h1,playK p hp,ob_]
  cases h2:qC p != 0 with
  | true=>rw [cond_true,wJ h2]
  | false=>rw [cond_false,yP h2,winK];rfl
theorem Hm {a b:List Entry} (ha:∀e∈a,pq e) (hb:∀e∈b,pq e) (la:a.length<=100) (lb:b.length<=100) {p:Player} (hp:EF p) (w:Window) (h:or0 (jL a) (or0 (jL b) (or0 (qC p) (mM w)))≠0) :
  fQ a b p w=some ([],or0 (jL a) (or0 (jL b) (or0 (qC p) (mM w)))):=by
 unfold fQ
 rw [Hf ha la,ob_]
 cases h1:jL a != 0 with
 | true=>rw [cond_true,wJ h1]
 | false =>
  rw [yP h1]at h ⊢
  have h2:(or0 (jL b) (or0 (qC p) (mM w)) != 0)=true:=by simpa [bne]using h
  rw [cond_false,JO hb lb hp,ob_,h2,cond_true]
theorem KD {a:List Entry} (ha:∀e∈a,pq e) (la:a.length<=100) (w:Window) (h:or0 (jL a) (mM w)≠0):iP a w=some ([],or0 (jL a) (mM w)):=by
 unfold iP
 rw [Hf ha la,ob_]
 cases h1:jL a != 0 with
 | true=>rw [cond_true,wJ h1]
 | false =>
  rw [yP h1]at h ⊢
  have h2:(mM w != 0)=true:=by simpa [bne]using h
  rw [cond_false,winK,ob_,h2,cond_true]
theorem M8 {l:List Entry} (h:jL l=0):∀e∈l,Right e:=λe he=>Ik ((zY l FO h).1 e he).1
theorem schedulesChange (l:List Int):jT l=some true:=by
 obtain ⟨a,s1,h1,h2,h3,h4⟩:=BI ⟨l,0⟩ (b:=0) ⟨Int.le_refl _,Int.le_refl _⟩ (by decide)
 obtain ⟨b,s2,h5,h6,h7,h8⟩:=BI s1 h2 (by omega)
 obtain ⟨p,s3,h9,h10,h11⟩:=Km s2 h6 (by omega)
 obtain ⟨w,s4,h12,h13⟩:=days_ok s3 h10 (by omega)
 obtain ⟨c,s5,h14,h15⟩:=qa s4 2 h13 (by omega) (by decide) (by decide)
 simp only [jT,h1,h5,h9,h12,h14,ob_]
 have hc:bZ a=some a:=by
  unfold bZ
  rw [iL _ _ (by simp;omega)];rfl
 have hv:∃v:List Entry×List Int×Int,v.1.length<=4/\(∀e∈v.1,pq e)/\(bif c then (bZ a).bind λr_25=>bif (decide ((r_25.length:Int)>0))then (bW s5 (r_25.length:Int)).bind λr_30=>(ik r_30.2 0 5).bind λr_33=>(inR r_30.1 r_25).bind λ_=>(r_25[(0+(r_30.1).toNat)]?).bind λe_37=>(bW r_33.2 ((r_25.set (0+(r_30.1).toNat) (⟨e_37.Key,e_37.Item,e_37.Version,e_37.First,e_37.Last,e_37.Every,e_37.Days,e_37.Except,e_37.From,e_37.To,r_33.1,e_37.Tags,e_37.Gone⟩:Entry)).length:Int)).bind λr_39=>(fD r_39.2 ([(⟨#[105,97]⟩:ByteArray),(⟨#[105,98]⟩:ByteArray)]:List ByteArray)).bind λr_42=>(inR r_39.1 (r_25.set (0+(r_30.1).toNat) (⟨e_37.Key,e_37.Item,e_37.Version,e_37.First,e_37.Last,e_37.Every,e_37.Days,e_37.Except,e_37.From,e_37.To,r_33.1,e_37.Tags,e_37.Gone⟩:Entry))).bind λ_=>((r_25.set (0+(r_30.1).toNat) (⟨e_37.Key,e_37.Item,e_37.Version,e_37.First,e_37.Last,e_37.Every,e_37.Days,e_37.Except,e_37.From,e_37.To,r_33.1,e_37.Tags,e_37.Gone⟩:Entry))[(0+(r_39.1).toNat)]?).bind λe_46=>some (((r_25.set (0+(r_30.1).toNat) (⟨e_37.Key,e_37.Item,e_37.Version,e_37.First,e_37.Last,e_37.Every,e_37.Days,e_37.Except,e_37.From,e_37.To,r_33.1,e_37.Tags,e_37.Gone⟩:Entry)).set (0+(r_39.1).toNat) (⟨e_46.Key,r_42.1,e_46.Version,e_46.First,e_46.Last,e_46.Every,e_46.Days,e_46.Except,e_46.From,e_46.To,e_46.Prio,e_46.Tags,e_46.Gone⟩:Entry)),r_42.2.L,r_42.2.f_at)else some (r_25,s5.L,s5.f_at)else some (b,s5.L,s5.f_at))=some v:=by
  cases c with
  | false=>exact⟨_,h7,h8,rfl⟩
  | true =>
   rw [cond_true,hc,ob_]
   by_cases hp:0<a.length
   ·obtain ⟨i,t1,q1,q2,q3,q4⟩:=nO s5 a.length h15 (by omega) (by omega) (by omega)
    obtain ⟨v,t2,q5,_,_,q6⟩:=CR t1 0 5 q4 (by omega) (by decide) (by decide) (by decide)
    have hi:0+i.toNat<a.length:=by omega
    have g0:=h4 _ (List.getElem_mem hi)
    have hset:∀y:Entry,((a.set (0+i.toNat) y).length:Int)=(a.length:Int):=λy=>by rw [List.length_set]
    obtain ⟨j,t3,r1,r2,r3,r4⟩:=nO t2 a.length q6 (by omega) (by omega) (by omega)
    obtain ⟨it,t4,r5,r6,r7⟩:=wB t3 [(⟨#[105,97]⟩:ByteArray),(⟨#[105,98]⟩:ByteArray)] r4 (by omega) (by simp) (by simp)
    have hit:nN it:=by
     simp only [List.mem_cons,List.not_mem_nil,or_false]at r6
     rcases r6 with rfl|rfl <;> exact eZ rfl
    have hin:∀y:Entry,inR j (a.set (0+i.toNat) y)=some ():=λy=>uE r2 (by rw [List.length_set];exact r3)
    have g1:∀e∈a.set (0+i.toNat) (⟨a[0+i.toNat].Key,a[0+i.toNat].Item,a[0+i.toNat].Version,a[0+i.toNat].First,a[0+i.toNat].Last,a[0+i.toNat].Every,a[0+i.toNat].Days,a[0+i.toNat].Except,a[0+i.toNat].From,a[0+i.toNat].To,v,a[0+i.toNat].Tags,a[0+i.toNat].Gone⟩:Entry),pq e:=rz h4 g0
    have hj:0+j.toNat<(a.set (0+i.toNat) (⟨a[0+i.toNat].Key,a[0+i.toNat].Item,a[0+i.toNat].Version,a[0+i.toNat].First,a[0+i.toNat].Last,a[0+i.toNat].Every,a[0+i.toNat].Days,a[0+i.toNat].Except,a[0+i.toNat].From,a[0+i.toNat].To,v,a[0+i.toNat].Tags,a[0+i.toNat].Gone⟩:Entry)).length:=by rw [List.length_set];omega
    have g2:=g1 _ (List.getElem_mem hj)
    rw [decide_eq_true (by omega),cond_true,q1,ob_]
    simp only [q5,ob_,uE q2 q3,get_at hi,hset,r1,r5,hin,get_at hj]
    refine⟨_,?_,?_,rfl⟩
    ·simp only [List.length_set];omega
    ·exact rz g1 ⟨g2.1,hit,g2.2.2⟩
   ·rw [decide_eq_false (by omega),cond_false]
    exact⟨_,h3,h4,rfl⟩
 obtain ⟨v,v1,v2,v3⟩:=hv
 rw [v3]
 simp only [ob_,entsR h4 (by omega:a.length<=100),entsR v2 (by omega:v.1.length<=100),playR p h11,winR,errs4,errs2]
 have hx:∃r:List Window,r.length<=100000/\fQ a v.1 p w=some (r,or0 (jL a) (or0 (jL v.1) (or0 (qC p) (mM w))))/\(bif (or0 (jL a) (or0 (jL v.1) (or0 (qC p) (mM w)))==0)then (jP a v.1 p w).bind λr_73=>some r_73 else some ([]:List Window))=some r:=by
  by_cases h0:or0 (jL a) (or0 (jL v.1) (or0 (qC p) (mM w)))=0
  ·obtain ⟨z1,z2⟩:=J9 h0
   obtain ⟨z3,z4⟩:=J9 z2
   obtain ⟨z5,z6⟩:=J9 z4
   have hs:=JO v2 (by omega) h11 w
   rw [z2]at hs
   have hk:=Hf h4 (by omega)
   rw [z1]at hk
   obtain ⟨r,r1,r2,r3⟩:=Fq (ce_of h4 h3 z1 z5) (ce_of v2 v1 z3 z5) (FL z6) hk hs
   exact⟨r,r3,by rw [h0];exact r1,by rw [h0,r2];rfl⟩
  ·have:(or0 (jL a) (or0 (jL v.1) (or0 (qC p) (mM w)))==0)=false:=by simpa using h0
   exact⟨[],by simp,Hm h4 v2 (by omega) (by omega) h11 w h0,by rw [this];rfl⟩
 have hy:∃r:List Pair,r.length<=1000/\iP a w=some (r,or0 (jL a) (mM w))/\(bif (or0 (jL a) (mM w)==0)then (nu a w).bind λr_80=>some r_80 else some ([]:List Pair))=some r:=by
  by_cases h0:or0 (jL a) (mM w)=0
  ·obtain ⟨z1,z2⟩:=J9 h0
   have hk:=Hf h4 (by omega)
   rw [z1]at hk
   have hw:=winK w
   rw [z2]at hw
   have hr:=M8 z1
   have:=Ed w a
   have hsq:a.length*a.length<=4*4:=Nat.mul_le_mul h3 h3
   exact⟨pJ w a,by omega,by rw [h0];exact Ls hr h3 (FL z2) hk hw,by rw [h0,K5 hr h3 (FL z2)];rfl⟩
  ·have:(or0 (jL a) (mM w)==0)=false:=by simpa using h0
   exact⟨[],by simp,KD h4 (by omega) w h0,by rw [this];rfl⟩
 obtain ⟨r,r0,r1,r2⟩:=hx
 obtain ⟨q,q0,q1,q2⟩:=hy
 simp only [r1,r2,q1,q2,ob_,beq_self_eq_true,cond_true,Ju r (by omega),Gl q (by omega),MM]
end Go.Proofs.YtnjnggakgeommaaGreat.Law

