/-
  THE PLAIN LAW (part 3).
-/
import Derived.Test.YtjhcehhmdmbleaaGreatDoorPl2
import Derived.Test.YtjhcehhmdmbleaaGreatDoorDefs
open Go Go.Eng
namespace Go.Proofs.YtjhcehhmdmbleaaGreatDoor.Law
set_option linter.unusedVariables false
set_option linter.unusedSimpArgs false
noncomputable def delG {α:Type} (z:α) (f:α→Option Bool) (xs:List α):Option (List α) :=
 (ixF f xs).bind fun r=>bif (r == (-1))then some xs else (fD (xs,r,(w64 (r + 1))) (fun s=>uZ f s)).bind fun o=>thenC o (fun s_12=>(pG s_12.1 s_12.2.1 (s_12.1.length:Int)).bind fun _=>(pG (s_12.1.take ((s_12.2.1).toNat)++List.replicate (((s_12.1.length:Int)).toNat - (s_12.2.1).toNat) z++s_12.1.drop (((s_12.2.1).toNat) + (((s_12.1.length:Int)).toNat - (s_12.2.1).toNat))) 0 s_12.2.1).bind fun _=>some ((s_12.1.take ((s_12.2.1).toNat)++List.replicate (((s_12.1.length:Int)).toNat - (s_12.2.1).toNat) z++s_12.1.drop (((s_12.2.1).toNat) + (((s_12.1.length:Int)).toNat - (s_12.2.1).toNat))).take ((s_12.2.1).toNat))) (fun _=>none)
theorem delG_eq {α:Type} {z:α} {f:α→Option Bool} {q:α→Bool} {xs:List α} (hf:∀ x∈xs,f x=some (q x)) (hl:xs.length≤1000000000):delG z f xs=some (xs.filter (fun x => !q x)):=by
 unfold delG
 rcases ixF_eq hf hl with⟨h1,h2⟩ | ⟨k,hk,h1,h2,h3⟩
 ·rw [h1,Option.bind_some,filter_all (fun x hx=>by rw [h2 x hx]; rfl)]; rfl
 ·have hne:((k:Int) == (-1))=false:=by simp
  have w1:w64 ((k:Int) + 1)=((k + 1:Nat):Int):=by rw [bE (by omega)]; omega
  obtain ⟨l',i',g1,g2,g3,g4⟩:=DV hf hl (xs.length - (k + 1)) xs k (k + 1) (by omega) (by omega) rfl (by
   rw [List.take_succ_eq_append_getElem hk,List.filter_append,filter_all (fun x hx=>by rw [h3 x hx]; rfl)]; simp [h2]) rfl
  have g1':=gD g1
  rw [h1,Option.bind_some,hne,cond_false,w1,g1',Option.bind_some,qZ]
  have hs1:pG l' (i':Int) (l'.length:Int)=some ():=by
   unfold pG; rw [if_pos ⟨by omega,by omega,by omega,by omega⟩]
  simp only [hs1,Option.bind_some,Int.toNat_natCast]
  generalize hL:(l'.take i'++List.replicate (l'.length - i') z++l'.drop (i' + (l'.length - i')))=L
  have hLt:L.take i'=l'.take i':=by
   rw [← hL,List.append_assoc,List.take_append_of_le_length (by rw [List.length_take]; omega),List.take_take,Nat.min_self]
  have hLl:i'≤L.length:=by
   rw [← hL]; simp only [List.length_append,List.length_take,List.length_replicate]; omega
  have hs2:pG L 0 (i':Int)=some ():=by
   unfold pG; rw [if_pos ⟨by omega,by omega,by omega,by omega⟩]
  rw [hs2,Option.bind_some,hLt,g4]
theorem xJ {l:List Entry} {p:Player} {w:Window} {s:Span}:s∈kz l p w ↔ ∃ e∈l,yA e p=true ∧ ∃ x∈tiL e p.Zone w,s=⟨some e,x⟩:=by
 unfold kz vY
 rw [List.mem_flatMap]
 constructor
 ·rintro ⟨e,he,hs⟩
  cases hf:yA e p with
  | false=>rw [hf]at hs; cases hs
  | true =>
   rw [hf,cond_true,List.mem_map]at hs
   obtain ⟨x,hx,rfl⟩:=hs
   exact⟨e,he,hf,x,hx,rfl⟩
 ·rintro ⟨e,he,hf,x,hx,rfl⟩
  refine⟨e,he,?_⟩
  rw [hf,cond_true]
  exact List.mem_map.2 ⟨x,hx,rfl⟩
theorem Fb {l:List Entry} {p:Player} (h:CE l p) (w:Window):(kz l p w).length≤16004:=by
 have h1:=Dc (l:=l) (f:=vY p w) (n:=4001) (fun x hx=>Et h w hx)
 have h2:=h.len
 have h3:l.length * 4001≤4 * 4001:=Nat.mul_le_mul_right _ h2
 unfold kz
 omega
theorem KJ {l:List Entry} {p:Player} (h:CE l p) {w:Window} {t:Int} {s:Span} (hs:s∈kz l p w) (h1:s.f_time.From≤t) (h2:t < s.f_time.To):∃ x∈kS l p t,s=jG x:=by
 obtain ⟨e,he,hf,x,hx,rfl⟩:=xJ.1 hs
 obtain ⟨d,d1,d2,d3,rfl⟩:=(BU (h.right e he)).1 hx
 obtain ⟨p1,p2,p3⟩:=CZ.1 d3
 have hh:zh e p.Zone t d=true:=lg.2 ⟨p1,d1,d2,p2,h1,h2⟩
 exact⟨(e,tF e p.Zone d),Ff.2 ⟨he,hf,(tZ (h.right e he)).2 ⟨d,hh,rfl⟩⟩,rfl⟩
theorem Eo {l:List Entry} {p:Player} (h:CE l p) {w:Window} {t:Int} (hw:w.From≤t∧t < w.To) {x:Entry×Int} (hx:x∈kS l p t):jG x∈kz l p w∧(jG x).f_time.From≤t∧t < (jG x).f_time.To:=by
 obtain ⟨h1,h2,h3⟩:=Ff.1 hx
 obtain ⟨d,hd,hb⟩:=(tZ (h.right _ h1)).1 h3
 obtain ⟨g1,g2,g3,g4,g5,g6⟩:=lg.1 hd
 refine⟨xJ.2 ⟨x.1,h1,h2,tW x.1 p.Zone d,(BU (h.right _ h1)).2 ⟨d,g2,g3,CZ.2 ⟨g1,g4,by omega⟩,rfl⟩,?_⟩,?_,?_⟩
 ·unfold jG
  rw [hb]; rfl
 ·show x.2≤t
  omega
 ·show t < x.2 + sj x.1 * 60000
  omega
structure ES (m:List Span) (w:Window) (E:List Int):Prop where
 from_:w.From∈E
 to_:w.To∈E
 in_:∀ x∈E,w.From≤x∧x≤w.To
 has:∀ s∈m,(cutW w s.f_time).From∈E∧(cutW w s.f_time).To∈E
theorem cut_in {l:List Entry} {p:Player} (h:CE l p) {w:Window} {s:Span} (hs:s∈kz l p w):w.From≤(cutW w s.f_time).From∧(cutW w s.f_time).From≤w.To∧w.From≤(cutW w s.f_time).To∧(cutW w s.f_time).To≤w.To:=by
 obtain ⟨e,he,hf,x,hx,rfl⟩:=xJ.1 hs
 obtain ⟨d,d1,d2,d3,rfl⟩:=(BU (h.right e he)).1 hx
 exact LB (h.right e he) ((xE (h.right e he)).2 ⟨d,d1,d2,d3,rfl⟩)
theorem Ll {l:List Entry} {p:Player} (h:CE l p) {w:Window} (hok:Ke w) (hw:w.From≤w.To):∃ C,lQ l p w=some C∧C.Pairwise (· < ·)∧ES (kz l p w) w C∧C.length≤40000:=by
 have hl:=Fb h w
 unfold lQ
 rw [spans_eq h hok,Option.bind_some]
 obtain ⟨E,e1,e2,e3⟩:=uM (body:=fun k x s=>jw w k x s) (fun k s=>ES ((kz l p w).take k) w s∧s.length=2 + 2 * k) (xs:=kz l p w) (s:=([w.From,w.To]:List Int)) (by omega) (fun k x s hx ⟨i1,i2⟩=>by
  have hk:k < (kz l p w).length:=(List.getElem?_eq_some_iff.1 hx).1
  have et:(kz l p w).take (k + 1)=(kz l p w).take k ++ [x]:=by rw [List.take_add_one,hx]; rfl
  obtain ⟨b1,b2,b3,b4⟩:=cut_in h (List.mem_of_getElem? hx)
  unfold jw
  show ∃ s',((some (cutW w x.f_time)).bind fun r_22=>_)=_∧_
  rw [Option.bind_some,uL _ _ (by simp only [List.length_cons,List.length_nil]; omega)]
  refine⟨_,rfl,⟨List.mem_append_left _ i1.from_,List.mem_append_left _ i1.to_,fun y hy => ?_,fun y hy => ?_⟩,?_⟩
  ·rcases List.mem_append.1 hy with hy | hy
   ·exact i1.in_ y hy
   ·simp only [List.mem_cons,List.not_mem_nil,or_false]at hy
    rcases hy with rfl | rfl <;> omega
  ·rw [et]at hy
   rcases List.mem_append.1 hy with hy | hy
   ·exact⟨List.mem_append_left _ (i1.has y hy).1,List.mem_append_left _ (i1.has y hy).2⟩
   ·rw [List.mem_singleton.1 hy]
    exact⟨List.mem_append_right _ (by simp),List.mem_append_right _ (by simp)⟩
  ·rw [List.length_append]; simp only [List.length_cons,List.length_nil]; omega) ⟨⟨by simp,by simp,fun x hx=>by
   simp only [List.mem_cons,List.not_mem_nil,or_false]at hx
   rcases hx with rfl | rfl <;> omega,fun e he=>(by cases he)⟩,by simp⟩
 rw [List.take_length]at e2
 rw [e1]
 simp only [Option.bind_some,thenC]
 have hne:neL E=some ():=by
  unfold neL
  have:=List.ne_nil_of_mem e2.from_
  first | rw [if_pos this] | (cases E with | nil=>exact absurd rfl this | cons a E=>rfl)
 obtain ⟨s,C,c1,c2,c3,c4,c5,c6⟩:=o7 E (by omega)
 have c2':jN s E=some ():=by unfold jN; rw [if_pos c2]
 rw [hne,Option.bind_some,c1,Option.bind_some,c2',Option.bind_some,c3,Option.bind_some]
 refine⟨C,rfl,c4,⟨(c5 _).2 e2.from_,(c5 _).2 e2.to_,fun x hx=>e2.in_ x ((c5 x).1 hx),fun e he => ?_⟩,by omega⟩
 obtain ⟨a,b⟩:=e2.has e he
 exact⟨(c5 _).2 a,(c5 _).2 b⟩
theorem Ch {xs:List Span} (hc:∀ a∈xs,∀ b∈xs,eX a b=some (cE (pg a) (pg b))) (hne:xs ≠ []) (hl:xs.length≤1000000):∃ m,aZ xs=some m∧m∈xs ∧ ∀ s∈xs,sO (pg s) (pg m)=false:=by
 have hpos:0 < xs.length:=List.length_pos_iff.2 hne
 have h0:xs[(0 + (0:Int).toNat)]? = some xs[0]:=List.getElem?_eq_getElem hpos
 unfold aZ
 rw [decide_eq_false (by omega),cond_false,Option.bind_some,CJ (by omega) (by omega),Option.bind_some,h0,Option.bind_some]
 obtain ⟨s,s1,s2⟩:=Aq (body:=fun s=>aX xs s) (fun k s=>s.1=((k + 1:Nat):Int) ∧ ∃ m,s.2=(m.f_e,m.f_time.From,m.f_time.To)∧m∈xs ∧ ∀ (j:Nat) (y:Span),j≤k→xs[j]? = some y→sO (pg y) (pg m)=false) (xs.length - 1) (fun k s hk ⟨i1,m,i2,i3,i4⟩=>by
  obtain ⟨i,t⟩:=s
  simp only at i1 i2
  subst i1 i2
  have hkl:k + 1 < xs.length:=by omega
  have hx:xs[(0 + (((k + 1:Nat):Int)).toNat)]? = some xs[k + 1]:=by rw [show 0 + (((k + 1:Nat):Int)).toNat=k + 1 by omega]; exact List.getElem?_eq_getElem hkl
  have hm:=List.getElem_mem hkl
  have hcm:eX xs[k + 1] (⟨m.f_e,(⟨m.f_time.From,m.f_time.To⟩:Window)⟩:Span)=some (cE (pg xs[k + 1]) (pg m)):=hc _ hm _ i3
  have w1:w64 (((k + 1:Nat):Int) + 1)=((k + 1 + 1:Nat):Int):=by rw [bE (by omega)]; omega
  unfold aX
  simp only []
  rw [decide_eq_true (by omega),cond_true,CJ (by omega) (by omega),Option.bind_some,hx,Option.bind_some,hcm,Option.bind_some,w1]
  by_cases hlt:cE (pg xs[k + 1]) (pg m) < 0
  ·rw [decide_eq_true hlt,cond_true]
   simp only [Option.bind_some]
   refine⟨_,rfl,rfl,xs[k + 1],rfl,hm,fun j y hj hy => ?_⟩
   cases hb:sO (pg y) (pg xs[k + 1])with
   | false=>rfl
   | true =>
    by_cases hjk:j=k + 1
    ·subst hjk
     rw [List.getElem?_eq_getElem hkl,Option.some.injEq]at hy
     rw [← hy,wM]at hb; cases hb
    ·have h1:=i4 j y (by omega) hy
     rw [uu _ _ _ hb (wu.1 hlt)]at h1; cases h1
  ·rw [decide_eq_false hlt,cond_false]
   simp only [Option.bind_some]
   refine⟨_,rfl,rfl,m,rfl,i3,fun j y hj hy => ?_⟩
   by_cases hjk:j=k + 1
   ·subst hjk
    rw [List.getElem?_eq_getElem hkl,Option.some.injEq]at hy
    rw [← hy]
    cases hb:sO (pg xs[k + 1]) (pg m)with
    | false=>rfl
    | true=>exact absurd (wu.2 hb) hlt
   ·exact i4 j y (by omega) hy) (fun s ⟨i1,m,i2,i3,i4⟩=>by
  obtain ⟨i,t⟩:=s
  simp only at i1 i2
  subst i1 i2
  unfold aX
  simp only []
  rw [decide_eq_false (by omega),cond_false]) (s:=(1,xs[0].f_e,xs[0].f_time.From,xs[0].f_time.To)) ⟨rfl,xs[0],rfl,List.getElem_mem hpos,fun j y hj hy=>by
   obtain rfl:j=0:=by omega
   rw [List.getElem?_eq_getElem hpos,Option.some.injEq]at hy
   rw [← hy,wM]⟩
 obtain ⟨i1,m,i2,i3,i4⟩:=s2
 obtain ⟨i,t⟩:=s
 simp only at i1 i2
 subst i2
 rw [s1]
 refine⟨m,rfl,i3,fun y hy => ?_⟩
 obtain ⟨j,hj⟩:=List.getElem?_of_mem hy
 have hjl:j < xs.length:=(List.getElem?_eq_some_iff.1 hj).1
 exact i4 j y (by omega) hj
theorem LW {l:List Entry} {p:Player} (h:CE l p) {w:Window} {t:Int} (hw:w.From≤t∧t < w.To) {xs:List Span} (hx:∀ s,s∈xs↔s∈kz l p w∧s.f_time.From≤t∧t < s.f_time.To) (hl:xs.length≤1000000) :
  (bif (decide ((xs.length:Int) > 0))then (neL xs).bind fun _=>(aZ xs).bind fun r_73=>(r_73.f_e).bind fun y_75=>some y_75.Key else some (⟨#[]⟩:ByteArray))=some (kG l p t):=by
 cases hxs:xs with
 | nil =>
  have hn:kS l p t = []:=List.eq_nil_iff_forall_not_mem.2 (fun x hc=>by
   have:=(hx _).2 (Eo h hw hc)
   rw [hxs]at this; cases this)
  rw [IQ hn]; rfl
 | cons a r =>
  have hsp:∀ s∈xs,∃ x∈kS l p t,s=jG x:=fun s hs=>by
   obtain ⟨h1,h2,h3⟩:=(hx s).1 hs
   exact KJ h h1 h2 h3
  obtain ⟨m,m1,m2,m3⟩:=Ch (xs:=xs) (fun a ha b hb=>by
   obtain ⟨x,_,rfl⟩:=hsp a ha
   obtain ⟨y,_,rfl⟩:=hsp b hb
   exact Ba x y) (by rw [hxs]; simp) hl
  obtain ⟨x,x1,rfl⟩:=hsp m m2
  rw [← hxs,decide_eq_true (by rw [hxs]; simp only [List.length_cons]; omega),cond_true]
  have hne:neL xs=some ():=by rw [hxs]; rfl
  rw [hne,Option.bind_some,m1,Option.bind_some]
  show (some x.1).bind _=_
  rw [Option.bind_some,IE h.keys p t x1 (fun y hy=>m3 _ ((hx _).2 (Eo h hw hy)))]
theorem LZ {all:List Span} {E:List Int} {i:Nat} {a:Int} (ha:E[i]? = some a) (hl:all.length≤1000000) (st:(List Slot_)×(List Span)×Int×Int) (hst:st.2.2.2=(i:Int)) {op:List Span} {nx:Nat} (hnx:nx≤all.length) (hop:op.length≤nx) :
  ∃ n',nx≤n'∧n'≤all.length∧fD (op,(nx:Int)) (fun s=>fB all E st s)=some (.go (op++(all.drop nx).take (n' - nx),(n':Int)))∧(∀ s∈(all.drop nx).take (n' - nx),s.f_time.From≤a)∧(∀ s,all[n']? = some s→a < s.f_time.From):=by
 have htw:∃ N,N≤(all.drop nx).length∧(∀ s∈(all.drop nx).take N,s.f_time.From≤a)∧(∀ s,(all.drop nx)[N]? = some s→a < s.f_time.From):=by
  generalize all.drop nx=ys
  induction ys with
  | nil=>exact⟨0,Nat.le_refl _,fun s hs=>(by cases hs),fun s hs=>(by cases hs)⟩
  | cons y ys ih =>
   by_cases hy:y.f_time.From≤a
   ·obtain ⟨N,n1,n2,n3⟩:=ih
    refine⟨N + 1,by simpa using n1,fun s hs => ?_,fun s hs=>n3 s (by simpa using hs)⟩
    rw [List.take_succ_cons]at hs
    rcases List.mem_cons.1 hs with rfl | hs
    ·exact hy
    ·exact n2 s hs
   ·exact⟨0,Nat.zero_le _,fun s hs=>(by cases hs),fun s hs=>by
     rw [List.getElem?_cons_zero,Option.some.injEq]at hs; rw [← hs]; omega⟩
 obtain ⟨N,n1,n2,n3⟩:=htw
 rw [List.length_drop]at n1
 refine⟨nx + N,by omega,by omega,?_,by rw [show nx + N - nx=N by omega]; exact n2,fun s hs=>n3 s (by rw [List.getElem?_drop]; exact hs)⟩
 rw [show nx + N - nx=N by omega]
 obtain ⟨s,s1,s2,s3⟩:=Aq (body:=fun s=>fB all E st s) (fun k s=>s.1=op++(all.drop nx).take k∧s.2=((nx + k:Nat):Int)) N (fun k s hk ⟨i1,i2⟩=>by
  obtain ⟨o,n⟩:=s
  simp only at i1 i2
  subst i1 i2
  have hkl:nx + k < all.length:=by omega
  have hx:all[(0 + (((nx + k:Nat):Int)).toNat)]? = some all[nx + k]:=by rw [show 0 + (((nx + k:Nat):Int)).toNat=nx + k by omega]; exact List.getElem?_eq_getElem hkl
  have hd:(all.drop nx)[k]? = some all[nx + k]:=by rw [List.getElem?_drop]; exact List.getElem?_eq_getElem hkl
  have hfr:all[nx + k].f_time.From≤a:=n2 _ (List.mem_of_getElem? (i:=k) (by rw [List.getElem?_take,if_pos hk]; exact hd))
  have et:(all.drop nx).take (k + 1)=(all.drop nx).take k ++ [all[nx + k]]:=by rw [List.take_add_one,hd]; rfl
  have hlen:((all.drop nx).take k).length≤all.length:=by rw [List.length_take,List.length_drop]; omega
  have w1:w64 (((nx + k:Nat):Int) + 1)=((nx + (k + 1):Nat):Int):=by rw [bE (by omega)]; omega
  unfold fB
  simp only []
  rw [decide_eq_true (by omega),cond_true,CJ (by omega) (by omega),Option.bind_some,hx,Option.bind_some,hst,nZ,ha,Option.bind_some,Option.bind_some,decide_eq_true hfr,cond_true,Option.bind_some,Option.bind_some,uL _ _ (by rw [List.length_append]; simp only [List.length_cons,List.length_nil]; omega),Option.bind_some,w1]
  exact⟨_,rfl,by simp only []; rw [et,List.append_assoc],rfl⟩) (fun s ⟨i1,i2⟩=>by
  obtain ⟨o,n⟩:=s
  simp only at i1 i2
  subst i1 i2
  unfold fB
  simp only []
  by_cases hend:nx + N < all.length
  ·have hx:all[(0 + (((nx + N:Nat):Int)).toNat)]? = some all[nx + N]:=by rw [show 0 + (((nx + N:Nat):Int)).toNat=nx + N by omega]; exact List.getElem?_eq_getElem hend
   have hfr:=n3 all[nx + N] (by rw [List.getElem?_drop]; exact List.getElem?_eq_getElem hend)
   rw [decide_eq_true (by omega),cond_true,CJ (by omega) (by omega),Option.bind_some,hx,Option.bind_some,hst,nZ,ha,Option.bind_some,Option.bind_some,decide_eq_false (by omega),cond_false]
  ·rw [decide_eq_false (by omega),cond_false,Option.bind_some,cond_false]) (s:=(op,(nx:Int))) ⟨by simp,by simp⟩
 obtain ⟨o,n⟩:=s
 simp only at s2 s3
 rw [s1,s2,s3]
theorem delNil (E:List Int) (i:Int):bA E i=some ():=by
 have:bK ([]:List Span) (fun x0=>eT x0 E i)=some (-1):=by
  unfold bK
  rw [rM (by simp)]; rfl
 unfold bA
 rw [this]; rfl
theorem delS {E:List Int} {i:Nat} {a:Int} (ha:E[i]? = some a) {xs:List Span} (hl:xs.length≤1000000):bB xs E (i:Int)=some (xs.filter (fun s => !decide (s.f_time.To≤a))):=by
 have e:bB xs E (i:Int)=delG (⟨none,(⟨0,0⟩:Window)⟩:Span) (fun e=>eT e E (i:Int)) xs:=rfl
 rw [e]
 refine delG_eq (fun x _ => ?_) (by omega)
 unfold eT
 rw [nZ,ha]; rfl
theorem I4 {l:List Entry} {p:Player} (h:CE l p) {w:Window} (hok:Ke w) (hw:w.From≤w.To):∃ t,jS l p w=some t∧iO (kG l p) w.To w.From t∧t.length≤40000:=by
 have hsl:=Fb h w
 obtain ⟨C,c1,c2,c3,c4⟩:=Ll h hok hw
 obtain ⟨d1,d2⟩:=KN c2 c3.from_ c3.to_ c3.in_
 obtain ⟨all,a1,a2,a3⟩:=I6 (F:=fun a b=>ib a b) (fun a b=>FY a.f_time.From b.f_time.From) (xs:=kz l p w) (by omega) (fun a _ b _=>by
  unfold ib; rw [Ep]; rfl) (fun a _=>by rw [tC]; omega) (fun a _ b _ d _ h1 h2=>by rw [tC]at *; omega) (fun a _ b _ d _ h1 h2=>by rw [tC]at *; omega)
 have a3':all.Pairwise (fun a b=>a.f_time.From≤b.f_time.From):=a3.imp (fun {a b} q=>by rw [tC]at q; omega)
 have hal:all.length≤16004:=by rw [a2.length_eq]; exact hsl
 have hsort:fZ (kz l p w)=some all:=a1
 have hsame:jN all (kz l p w)=some ():=by unfold jN; rw [if_pos a2.length_eq]
 unfold jS
 rw [spans_eq h hok,Option.bind_some,hsort,Option.bind_some,hsame,Option.bind_some,c1,Option.bind_some]
 have hlen:0 < C.length:=(List.getElem?_eq_some_iff.1 d1).1
 have hedge:∀ (i:Nat) (a b:Int),C[i]? = some a→C[i + 1]? = some b → ∀ t,a≤t→t < b→kG l p t=kG l p a:=fun i a b ha hb' t t1 t2=>MP h.right c2 c3.in_ (fun e he hf x hx=>by
  obtain ⟨d,q1,q2,q3,rfl⟩:=(xE (h.right e he)).1 hx
  exact c3.has ⟨some e,tW e p.Zone d⟩ (xJ.2 ⟨e,he,hf,tW e p.Zone d,(BU (h.right e he)).2 ⟨d,q1,q2,q3,rfl⟩,rfl⟩)) ha hb' t1 t2
 obtain ⟨s,s1,s2⟩:=Aq (body:=fun s=>fC C all s) (fun k s=>s.2.2.2=(k:Int)∧s.1.length≤k ∧ ∃ (a:Int) (nx:Nat),C[k]? = some a∧iO (kG l p) a w.From s.1∧s.2.2.1=(nx:Int)∧nx≤all.length∧s.2.1.length≤nx∧(∀ x∈s.2.1,x∈all.take nx)∧(∀ x∈all.take nx,x.f_time.From≤a∧(x∈s.2.1∨x.f_time.To≤a))) (C.length - 1) (fun k s hk ⟨i1,i2,a,nx,i3,i4,i5,i6,i7,i8,i9⟩=>by
  have hst:=i1
  obtain ⟨out,op,n,i⟩:=s
  simp only at i1 i2 i4 i5 i7 i8 i9
  subst i1 i5
  have hb:C[k + 1]? = some C[k + 1]:=List.getElem?_eq_getElem (by omega)
  have hab:=KS c2 i3 hb
  have ain:=c3.in_ a (List.mem_of_getElem? i3)
  have bin:=c3.in_ C[k + 1] (List.getElem_mem _)
  obtain ⟨n',m1,m2,m3,m4,m5⟩:=LZ i3 (by omega) (out,op,(nx:Int),(k:Int)) rfl i6 i7
  have etk:all.take n'=all.take nx++(all.drop nx).take (n' - nx):=by
   have:=List.take_append_drop nx (all.take n')
   rw [List.take_take,Nat.min_eq_left m1,List.drop_take]at this
   exact this.symm
  have hmem:∀ x,x∈(op++(all.drop nx).take (n' - nx)).filter (fun s => !decide (s.f_time.To≤a))↔x∈kz l p w∧x.f_time.From≤a∧a < x.f_time.To:=fun x=>by
   rw [List.mem_filter,List.mem_append,← a2.mem_iff]
   constructor
   ·rintro ⟨h1,h2⟩
    have hto:a < x.f_time.To:=by simpa using h2
    rcases h1 with h1 | h1
    ·have:=i8 x h1
     exact⟨List.mem_of_mem_take this,(i9 x this).1,hto⟩
    ·exact⟨List.mem_of_mem_drop (List.mem_of_mem_take h1),m4 x h1,hto⟩
   ·rintro ⟨h1,h2,h3⟩
    refine⟨?_,by simpa using h3⟩
    have hin:x∈all.take n':=by
     obtain ⟨j,hj⟩:=List.getElem?_of_mem h1
     have hjl:=(List.getElem?_eq_some_iff.1 hj).1
     by_cases hjn:j < n'
     ·exact List.mem_of_getElem? (i:=j) (by rw [List.getElem?_take,if_pos hjn]; exact hj)
     ·exfalso
      have hn:n' < all.length:=by omega
      have h5:=m5 all[n'] (List.getElem?_eq_getElem hn)
      by_cases e:j=n'
      ·subst e
       rw [List.getElem?_eq_getElem hn,Option.some.injEq]at hj
       rw [hj]at h5; omega
      ·have:=List.pairwise_iff_getElem.1 a3' n' j hn hjl (by omega)
       rw [List.getElem?_eq_getElem hjl,Option.some.injEq]at hj
       rw [hj]at this; omega
    rw [etk]at hin
    rcases List.mem_append.1 hin with hin | hin
    ·rcases (i9 x hin).2 with q | q
     ·exact .inl q
     ·omega
    ·exact .inr hin
  have hol:(op++(all.drop nx).take (n' - nx)).length≤n':=by rw [List.length_append,List.length_take,List.length_drop]; omega
  have hfl:=List.length_filter_le (fun s:Span => !decide (s.f_time.To≤a)) (op++(all.drop nx).take (n' - nx))
  have hleL:leL ((op++(all.drop nx).take (n' - nx)).filter (fun s => !decide (s.f_time.To≤a))) (op++(all.drop nx).take (n' - nx))=some ():=by unfold leL; rw [if_pos hfl]
  have hkey:=LW h (t:=a) ⟨ain.1,by omega⟩ hmem (by omega)
  have w1:w64 ((k:Int) + 1)=((k + 1:Nat):Int):=by rw [bE (by omega)]; omega
  have hput:=putC_eq (kG l p a) a C[k + 1] out (by omega)
  have hgo:fC C all (out,op,(nx:Int),(k:Int))=(putC (kG l p a) a C[k + 1] out).bind fun v=>some (.go (v,(op++(all.drop nx).take (n' - nx)).filter (fun s => !decide (s.f_time.To≤a)),(n':Int),((k + 1:Nat):Int))):=by
   unfold fC
   simp only []
   rw [w1,decide_eq_true (by omega),cond_true,m3,Option.bind_some]
   simp only [thenC]
   rw [delS i3 (by omega),Option.bind_some,hleL,Option.bind_some,delNil,Option.bind_some,hkey,Option.bind_some,nZ,nZ,hb,i3]
   simp only [Option.bind_some]
   unfold putC
   generalize (bif decide (w64 ((out.length:Int) - 1)≥0)then _ else _:Option Bool)=c
   cases c with
   | none=>rfl
   | some c =>
    cases c with
    | false =>
     simp only [Option.bind_some,cond_false]
    | true =>
     simp only [Option.bind_some,cond_true]
  rw [hgo,hput]
  refine⟨_,rfl,rfl,?_,_,n',hb,?_,rfl,m2,?_,fun x hx => ?_,fun x hx => ?_⟩
  ·simp only []
   have:=G7 (kG l p a) a C[k + 1] out
   omega
  ·exact iO.add hab (fun t t1 t2=>hedge k a _ i3 hb t t1 t2) out w.From i4
  ·simp only []; omega
  ·obtain ⟨h1,h2⟩:=List.mem_filter.1 hx
   rw [etk]
   rcases List.mem_append.1 h1 with h1 | h1
   ·exact List.mem_append_left _ (i8 x h1)
   ·exact List.mem_append_right _ h1
  ·rw [etk]at hx
   have h1:x.f_time.From≤a∧(x∈op++(all.drop nx).take (n' - nx)∨x.f_time.To≤a):=by
    rcases List.mem_append.1 hx with hx | hx
    ·refine⟨(i9 x hx).1,?_⟩
     rcases (i9 x hx).2 with q | q
     ·exact .inl (List.mem_append_left _ q)
     ·exact .inr q
    ·exact⟨m4 x hx,.inl (List.mem_append_right _ hx)⟩
   refine⟨by omega,?_⟩
   by_cases hto:x.f_time.To≤a
   ·exact .inr (by omega)
   ·rcases h1.2 with q | q
    ·exact .inl (List.mem_filter.2 ⟨q,by simpa using hto⟩)
    ·exact absurd q hto) (fun s ⟨i1,i2,a,nx,i3,i4,i5,i6,i7,i8,i9⟩=>by
  obtain ⟨out,op,n,i⟩:=s
  simp only at i1
  subst i1
  unfold fC
  simp only []
  rw [bE (by omega),decide_eq_false (by omega),cond_false]) (s:=(([]:List Slot_),([]:List Span),0,0)) ⟨rfl,Nat.le_refl _,w.From,0,d1,by unfold iO; rfl,rfl,Nat.zero_le _,Nat.le_refl _,fun x hx=>(by cases hx),fun x hx=>(by cases hx)⟩
 obtain ⟨i1,i2,a,nx,i3,i4,_⟩:=s2
 rw [d2,Option.some.injEq]at i3
 rw [s1]
 exact⟨s.1,rfl,by rw [i3]; exact i4,by omega⟩
end Go.Proofs.YtjhcehhmdmbleaaGreatDoor.Law

open Go Go.Eng
namespace Go.Proofs.YtjhcehhmdmbleaaGreatDoor.Law
set_option linter.unusedVariables false
set_option linter.unusedSimpArgs false
def vg (last:ByteArray) (x:Entry):Int:=bif xW x == 0 then (bif sLe x.Key last then 7 else 0)else xW x
def A9 (l:List Entry):Int:=chk (fun e:Entry=>e.Key) vg BD l
theorem entsK {l:List Entry} (h:∀ e∈l,EF e) (hl:l.length≤100):dJ l=some (A9 l):=by
 unfold dJ A9
 rw [decide_eq_false (by omega),cond_false,rM (by omega),DJ (key:=fun e:Entry=>e.Key) (stp:=vg) l l 0 rfl (fun k x hx => ?_)]
 ·simp only [Option.bind_some,A7]; rfl
 ·unfold d9 vg
  rw [entK x (h x (List.mem_of_getElem? hx)),Option.bind_some]
  cases he:xW x == 0 with
  | false =>
   have:(xW x != 0)=true:=by simp [bne,he]
   rw [this,cond_true,cond_false]
   unfold DT; rw [he]; rfl
  | true =>
   have:(xW x != 0)=false:=by simp [bne,he]
   have hk:=Ik (eq_of_beq he)
   rw [this,cond_false,cond_true]
   have h2:=Fa (key:=fun e:Entry=>e.Key) hx (by omega) hk
   rw [h2,Option.bind_some]
   cases sLe x.Key (yn (fun e:Entry=>e.Key) l k) <;> rfl
theorem EO:∀ (l:List Entry) (last:ByteArray),chk (fun e:Entry=>e.Key) vg last l=0→(∀ e∈l,xW e=0∧lt last e.Key)∧l.Pairwise (fun a b=>lt a.Key b.Key)
 | [],last,_=>⟨fun e he=>(by cases he),.nil⟩
 | x::xs,last,h=>by
  unfold chk at h
  cases h0:vg last x == 0 with
  | false=>rw [h0,cond_false]at h; rw [h]at h0; cases h0
  | true =>
   rw [h0,cond_true]at h
   obtain ⟨i1,i2⟩:=EO xs x.Key h
   have h0:=eq_of_beq h0
   unfold vg at h0
   cases he:xW x == 0 with
   | false=>rw [he,cond_false]at h0; rw [h0]at he; cases he
   | true =>
    rw [he,cond_true]at h0
    have hlt:lt last x.Key:=by
     cases hs:sLe x.Key last with
     | true=>rw [hs]at h0; cases h0
     | false =>
      rcases Dh last x.Key with q | q | q
      ·exact q
      ·have:=(xc x.Key last).2 (by rw [q]; exact qc _)
       rw [hs]at this; cases this
      ·have:=(xc x.Key last).2 (fun k=>qc _ (lt_trans q k))
       rw [hs]at this; cases this
    refine⟨fun e hm => ?_,List.pairwise_cons.2 ⟨fun e hm=>(i1 e hm).2,i2⟩⟩
    rcases List.mem_cons.1 hm with rfl | hm
    ·exact⟨eq_of_beq he,hlt⟩
    ·exact⟨(i1 e hm).1,lt_trans hlt (i1 e hm).2⟩
theorem ce_of {l:List Entry} {p:Player} (hg:∀ e∈l,EF e) (hl:l.length≤4) (h:A9 l=0) (hp:yf p=0):CE l p:=by
 obtain ⟨h1,h2⟩:=EO l BD h
 have hz:jH p.Zone (-1440) 1440=false∧tagsF p.Tags=0:=by
  unfold yf at hp
  cases hk:(!qa p.Key || !qa p.Screen)with
  | true=>rw [hk]at hp; cases hp
  | false =>
   rw [hk,cond_false]at hp
   cases ho:jH p.Zone (-1440) 1440 with
   | true=>rw [ho]at hp; cases hp
   | false=>rw [ho]at hp; exact⟨rfl,hp⟩
 refine⟨fun e he=>entF_0 (h1 e he).1,fun e he=>by have:=(hg e he).2.2.2.1; omega,hl,?_,fun e he hk => ?_,AX hz.1,hz.2⟩
 ·unfold List.Nodup
  rw [List.pairwise_map]
  exact h2.imp (fun {a b} q=>fun (e:a.Key=b.Key)=>qc b.Key (by rw [e]at q; exact q))
 ·exact Ik (h1 e he).1 (by rw [hk]; rfl)
def moF (t:Int):Int:=bif jH t 0 345686399999 then 1 else 0
theorem moK (t:Int):di t=some (!jH t 0 345686399999):=by
 have e:(!jH t 0 345686399999)=(decide (t≥0) && decide (t < 345686400000)):=by
  unfold jH
  rw [Bool.eq_iff_iff]
  simp only [Bool.not_eq_true',Bool.or_eq_false_iff,decide_eq_false_iff_not,Bool.and_eq_true,decide_eq_true_eq]
  omega
 unfold di
 rw [e]
 cases decide (t≥0) <;> cases decide (t < 345686400000) <;> rfl
def faV (l:List Entry) (p:Player) (t:Int):Int:=or0 (A9 l) (or0 (yf p) (moF t))
theorem momentK {l:List Entry} {p:Player} (h:∀ e∈l,EF e) (hl:l.length≤100) (hp:MQ p) (t:Int):dD l p t=some (faV l p t):=by
 unfold dD faV or0 moF
 rw [entsK h hl,Option.bind_some,playK p hp,Option.bind_some,moK,Option.bind_some]
 cases h1:A9 l == 0 with
 | false =>
  have:(A9 l != 0)=true:=by simp [bne,h1]
  rw [this]; rfl
 | true =>
  have:(A9 l != 0)=false:=by simp [bne,h1]
  rw [this]
  cases h2:yf p == 0 with
  | false =>
   have:(yf p != 0)=true:=by simp [bne,h2]
   rw [this]; rfl
  | true =>
   have:(yf p != 0)=false:=by simp [bne,h2]
   rw [this]
   cases jH t 0 345686399999 <;> rfl
theorem IL {f:Int→ByteArray} {T F:Int} {x:Slot_} {r:List Slot_} (h:iO f T F (x::r)):(r = [] ∧ ∀ t,F≤t→t < T→f t=f F) ∨ ∃ y r',r=y::r'∧F < y.Time.From∧y.Time.From < T∧f y.Time.From≠f F ∧ ∀ t,F≤t→t < y.Time.From→f t=f F:=by
 unfold iO at h
 obtain ⟨h1,h2,h3,h4,h5,h6⟩:=h
 have hx:=h4 F (Int.le_refl _) h2
 cases r with
 | nil =>
  unfold iO at h6
  exact .inl ⟨rfl,fun t t1 t2=>by rw [hx]; exact h4 t t1 (by omega)⟩
 | cons y r' =>
  have h7:=h6
  unfold iO at h6
  have hy:=h6.2.2.2.1 y.Time.From (by omega) (by omega)
  refine .inr ⟨y,r',rfl,by omega,by omega,?_,fun t t1 t2=>by rw [hx]; exact h4 t t1 (by omega)⟩
  rw [hy,hx]; exact h5 y rfl
theorem Lj {f:Int→ByteArray} {T F:Int} (hF:F < T) {a:List Slot_} (h:iO f T F a):∃ x r,a=x::r:=by
 cases a with
 | nil=>unfold iO at h; omega
 | cons x r=>exact⟨x,r,rfl⟩
def MN (t:List Slot_):Int:=match t with
 | _::y::_=>y.Time.From
 | _ => -1
theorem next_go {l:List Entry} {p:Player} (h:CE l p) {t:Int} (ht:0≤t∧t < 345686400000) (hm:dD l p t=some 0):∃ a,iO (kG l p) (min (t + 34560000001) 345686400000) t a∧mK l p t=some (MN a,0):=by
 unfold mK
 rw [hm,Option.bind_some,bne_self_eq_false,cond_false,bE (n:=t + 34560000000) (by omega),bE (n:=t + 34560000000 + 1) (by omega),Cc]
 have e:t + 34560000000 + 1=t + 34560000001:=by omega
 rw [e]
 obtain ⟨a,a1,a2,a3⟩:=I4 h (w:=⟨t,min (t + 34560000001) 345686400000⟩) ⟨ht.1,by simp only []; omega,by simp only []; omega⟩ (by simp only []; omega)
 refine⟨a,a2,?_⟩
 rw [a1,Option.bind_some]
 cases a with
 | nil=>rfl
 | cons x r=>cases r with
  | nil=>rfl
  | cons y r =>
   rw [decide_eq_false (by simp only [List.length_cons]; omega),cond_false]; rfl
end Go.Proofs.YtjhcehhmdmbleaaGreatDoor.Law

open Go Go.Eng
namespace Go.Proofs.YtjhcehhmdmbleaaGreatDoor.Law
set_option linter.unusedVariables false
set_option linter.unusedSimpArgs false
theorem LF {α:Type} {L:Nat→α→(List α×List Int×Int)→Option (Ctl (List α×List Int×Int) Unit)} {n:Int} (hn:1≤n) (hn2:n≤1000)
  (hL:∀ k x s,L k x s=(gy (⟨s.2.1,s.2.2⟩:Stream) n).bind fun r=>(bif r.1 then (oo s.1 ([x]:List α)).bind fun a=>some a else some s.1).bind fun v=>some (.go (v,r.2.L,r.2.f_at)))
  {xs:List α} (hl:xs.length≤10) (s:Stream) {b:Int} (hs:Ok s b) (hb:b≤900000) :
  ∃ t s',forL xs (([]:List α),s.L,s.f_at) (fun k x s=>L k x s)=some (.go (t,s'.L,s'.f_at))∧Ok s' (b + 10)∧t.Sublist xs:=by
 obtain ⟨t,t1,t2,t3⟩:=uM (body:=fun k x s=>L k x s) (xs:=xs) (s:=(([]:List α),s.L,s.f_at)) (fun k t=>t.1.Sublist (xs.take k)∧Ok ⟨t.2.1,t.2.2⟩ (b + k)) (by omega) (fun k x t hx ⟨i1,i2⟩=>by
  have hk:k < xs.length:=(List.getElem?_eq_some_iff.1 hx).1
  have et:xs.take (k + 1)=xs.take k ++ [x]:=by rw [List.take_add_one,hx]; rfl
  have hlen:t.1.length≤10:=Nat.le_trans i1.length_le (by rw [List.length_take]; omega)
  obtain ⟨f,s1,c1,c2⟩:=Fq _ n i2 (by omega) hn hn2
  simp only [hL,c1,Option.bind_some]
  cases f with
  | true =>
   simp only [cond_true,uL t.1 [x] (by simp; omega),Option.bind_some]
   exact⟨_,rfl,by rw [et]; exact i1.append (List.Sublist.refl _),c2.mono (by omega)⟩
  | false =>
   simp only [cond_false,Option.bind_some]
   exact⟨_,rfl,by rw [et]; exact i1.trans (List.sublist_append_left _ _),c2.mono (by omega)⟩) ⟨List.Sublist.refl _,hs.mono (by simp)⟩
 exact⟨t.1,⟨t.2.1,t.2.2⟩,t1,t3.mono (by omega),by simpa using t2⟩
def keL:List ByteArray := [(⟨#[101,97]⟩:ByteArray),(⟨#[101,98]⟩:ByteArray),(⟨#[101,99]⟩:ByteArray),(⟨#[101,100]⟩:ByteArray)]
def itL:List ByteArray := [(⟨#[105,97]⟩:ByteArray),(⟨#[105,98]⟩:ByteArray),(⟨#[105,99]⟩:ByteArray)]
def tgL:List ByteArray := [(⟨#[99,105,116,121]⟩:ByteArray),(⟨#[109,97,108,108]⟩:ByteArray)]
theorem JA:∀ k∈keL,qa k=true∧Nat.ble k.size 1000=true:=by
 intro k hk
 simp only [keL,List.mem_cons,List.not_mem_nil,or_false]at hk
 rcases hk with rfl | rfl | rfl | rfl <;> exact⟨by kernel_rfl,rfl⟩
theorem itL_key:∀ k∈itL,qa k=true∧Nat.ble k.size 1000=true:=by
 intro k hk
 simp only [itL,List.mem_cons,List.not_mem_nil,or_false]at hk
 rcases hk with rfl | rfl | rfl <;> exact⟨by kernel_rfl,rfl⟩
theorem Lr:keL.Pairwise lt:=by
 have h:∀ a b:ByteArray,sLt a b=true→lt a b:=fun a b=>(rP a b).1
 unfold keL
 refine .cons (fun x hx => ?_) (.cons (fun x hx => ?_) (.cons (fun x hx => ?_) (.cons (fun x hx=>(by cases hx)) .nil)))
 all_goals
  simp only [List.mem_cons,List.not_mem_nil,or_false]at hx
 ·rcases hx with rfl | rfl | rfl <;> exact h _ _ (by kernel_rfl)
 ·rcases hx with rfl | rfl <;> exact h _ _ (by kernel_rfl)
 ·rcases hx with rfl; exact h _ _ (by kernel_rfl)
theorem ex_0 {t:List Int} (h:t.Sublist [1,2,8]):exF t=0:=by
 cases h with
 | cons _ h=>cases h with
  | cons _ h=>cases h with
   | cons _ h=>cases h; rfl
   | cons_cons _ h=>cases h; rfl
  | cons_cons _ h=>cases h with
   | cons _ h=>cases h; rfl
   | cons_cons _ h=>cases h; rfl
 | cons_cons _ h=>cases h with
  | cons _ h=>cases h with
   | cons _ h=>cases h; rfl
   | cons_cons _ h=>cases h; rfl
  | cons_cons _ h=>cases h with
   | cons _ h=>cases h; rfl
   | cons_cons _ h=>cases h; rfl
theorem tg_0 {t:List ByteArray} (h:t.Sublist tgL):tagsF t=0:=by
 cases h with
 | cons _ h=>cases h with
  | cons _ h=>cases h; kernel_rfl
  | cons_cons _ h=>cases h; kernel_rfl
 | cons_cons _ h=>cases h with
  | cons _ h=>cases h; kernel_rfl
  | cons_cons _ h=>cases h; kernel_rfl
theorem Im {t:List ByteArray} (h:t.Sublist tgL):t.length≤2 ∧ ∀ x∈t,uf x:=by
 refine⟨h.length_le,fun x hx => ?_⟩
 have:=h.subset hx
 simp only [tgL,List.mem_cons,List.not_mem_nil,or_false]at this
 rcases this with rfl | rfl <;> exact uj rfl
theorem EM:∀ (l:List Entry) (last:ByteArray),(∀ e∈l,xW e=0∧lt last e.Key)→l.Pairwise (fun a b=>lt a.Key b.Key)→chk (fun e:Entry=>e.Key) vg last l=0
 | [],_,_,_=>rfl
 | x::xs,last,h,hp=>by
  obtain ⟨h1,h2⟩:=h x List.mem_cons_self
  have hs:sLe x.Key last=false:=by
   cases hs:sLe x.Key last with
   | false=>rfl
   | true=>exact absurd h2 ((xc _ _).1 hs)
  have h0:vg last x=0:=by
   unfold vg
   rw [h1,hs]; rfl
  unfold chk
  rw [h0]
  obtain ⟨p1,p2⟩:=List.pairwise_cons.1 hp
  exact EM xs x.Key (fun e he=>⟨(h e (List.mem_cons_of_mem _ he)).1,p1 e he⟩) p2
theorem nil_lt {k:ByteArray} (h:qa k=true):lt BD k:=by
 rcases Dh BD k with q | q | q
 ·exact q
 ·exact absurd (by rw [← q]; rfl) (BZ h)
 ·have:=(xc k BD).2 (fun q2=>qc _ (lt_trans q q2))
  have e:sLe k BD=decide (k.size=0):=Jy k
  rw [e]at this
  exact absurd (of_decide_eq_true this) (BZ h)
theorem uO {l:List Int} {x lo hi:Int} (h:x∈l) (hb:(l.all fun y=>decide (lo≤y) && decide (y≤hi))=true):lo≤x∧x≤hi:=by
 have:=List.all_eq_true.1 hb x h
 simpa using this
theorem wD {n lo hi:Int} (h:lo≤n∧n≤hi):jH n lo hi=false:=FZ h
theorem rightE (s:Stream) {b:Int} (hs:Ok s b) (hb:b≤800000):∃ xs s',gz s=some (xs,s')∧Ok s' (b + 200)∧xs.length≤4∧(∀ x∈xs,EF x)∧A9 xs=0:=by
 unfold gz
 obtain ⟨s',h1,h2,h3,h4⟩:=uM (body:=fun k x s=>dR k x s) (fun k s=>Ok ⟨s.2.1,s.2.2⟩ (b + 40 * k)∧(s.1.map (·.Key)).Sublist (keL.take k) ∧ ∀ x∈s.1,EF x∧xW x=0)
  (xs:=keL) (s:=(([]:List Entry),s.L,s.f_at)) (by decide) (fun k x t hx ⟨i1,i2,i3⟩=>by
   have hk5:k < 4:=(List.getElem?_eq_some_iff.1 hx).1
   have hxm:=JA x (List.mem_of_getElem? hx)
   have et:keL.take (k + 1)=keL.take k ++ [x]:=by rw [List.take_add_one,hx]; rfl
   have hlen:t.1.length≤4:=by
    have:=i2.length_le
    rw [List.length_map,List.length_take]at this
    have h4:keL.length=4:=rfl
    omega
   obtain ⟨c,s1,k1,k2⟩:=Fq _ 4 i1 (by omega) (by decide) (by decide)
   simp only [dR,k1,Option.bind_some]
   cases c with
   | true=>exact⟨_,rfl,k2.mono (by omega),by rw [et]; exact i2.trans (List.sublist_append_left _ _),i3⟩
   | false =>
    obtain ⟨it,s2,a1,ai,a2⟩:=some_ok s1 [(⟨#[105,97]⟩:ByteArray),(⟨#[105,98]⟩:ByteArray),(⟨#[105,99]⟩:ByteArray)] k2 (by omega) (by simp) (by simp)
    obtain ⟨v,s3,a3,v1,v2,a4⟩:=zI s2 0 2 a2 (by omega) (by decide) (by decide) (by decide)
    obtain ⟨p1,s4,m1,q1,n1⟩:=qA s3 [0,0,1,3] a4 (by omega) (by simp) (by simp)
    obtain ⟨p2,s5,m2,q2,n2⟩:=qA s4 [1,1,2,3,7] n1 (by omega) (by simp) (by simp)
    obtain ⟨p3,s6,m3,q3,n3⟩:=qA s5 [127,127,31,96,1,2] n2 (by omega) (by simp) (by simp)
    obtain ⟨p4,s7,m4,q4,n4⟩:=qA s6 [0,0,60,600,1380] n3 (by omega) (by simp) (by simp)
    obtain ⟨p5,s8,m5,q5,n5⟩:=qA s7 [0,60,120,600,720,1439] n4 (by omega) (by simp) (by simp)
    obtain ⟨p6,s9,m6,q6,n6⟩:=qA s8 [0,0,1,5] n5 (by omega) (by simp) (by simp)
    obtain ⟨g,s10,m7,n7⟩:=Fq s9 8 n6 (by omega) (by decide) (by decide)
    obtain ⟨p7,s11,m8,q8,n8⟩:=qA s10 [0,1,5,10,30] n7 (by omega) (by simp) (by simp)
    obtain ⟨ex,s12,m9,n9,l9⟩:=LF (L:=gQ) (n:=4) (by decide) (by decide) (fun _ _ _=>rfl) (xs := [1,2,8]) (by simp) s11 n8 (by omega)
    obtain ⟨tg,s13,m10,n10,l10⟩:=LF (L:=gU) (n:=4) (by decide) (by decide) (fun _ _ _=>rfl) (xs := [(⟨#[99,105,116,121]⟩:ByteArray),(⟨#[109,97,108,108]⟩:ByteArray)]) (by simp) s12 n9 (by omega)
    simp only [cond_false,a1,a3,m1,m2,m3,m4,m5,m6,m7,m8,m9,m10,Option.bind_some,qZ,uL t.1 _ (show t.1.length + [_].length≤_ by simp; omega)]
    have b1:=uO (lo:=0) (hi:=3) q1 rfl
    have b2:=uO (lo:=1) (hi:=7) q2 rfl
    have b3:=uO (lo:=1) (hi:=127) q3 rfl
    have b4:=uO (lo:=0) (hi:=1380) q4 rfl
    have b5:=uO (lo:=0) (hi:=1439) q5 rfl
    have b6:=uO (lo:=0) (hi:=5) q6 rfl
    have b8:=uO (lo:=0) (hi:=30) q8 rfl
    clear q1 q2 q3 q4 q5 q6 q8
    have hit:=itL_key it ai
    obtain ⟨t1,t2⟩:=Im l10
    have hel:ex.length≤3:=l9.length_le
    have hw:w64 (p1 + p7)=p1 + p7:=bE (by omega)
    refine⟨_,rfl,n10.mono (by omega),by rw [List.map_append,et]; exact i2.append (List.Sublist.refl _),fun y hy => ?_⟩
    rcases List.mem_append.1 hy with hy | hy
    ·exact i3 y hy
    ·rw [List.mem_singleton.1 hy]
     refine⟨⟨uj hxm.2,uj hit.2,by show ex.length≤50; omega,by show tg.length≤20; omega,t2⟩,?_⟩
     unfold xW
     simp only [hxm.1,hit.1,hw,ex_0 l9,tg_0 l10]
     rw [wD (n:=v) (by omega),wD (n:=p1) (by omega),decide_eq_false (by omega),wD (n:=p2) (by omega),wD (n:=p3) (by omega),wD (n:=p4) (by omega),wD (n:=p5) (by omega),wD (n:=p6) (by omega)]; rfl) ⟨by simpa using hs,List.Sublist.refl _,by simp⟩
 have h1':forL ([(⟨#[101,97]⟩:ByteArray),(⟨#[101,98]⟩:ByteArray),(⟨#[101,99]⟩:ByteArray),(⟨#[101,100]⟩:ByteArray)]:List ByteArray) (([]:List Entry),s.L,s.f_at) (fun k x s=>dR k x s)=some (.go s'):=h1
 rw [h1']
 have h3':(s'.1.map (·.Key)).Sublist keL:=by rw [List.take_length]at h3; exact h3
 refine⟨s'.1,⟨s'.2.1,s'.2.2⟩,rfl,h2.mono (by show b + 40 * ((4:Nat):Int)≤b + 200; omega),by have:=h3'.length_le; rw [List.length_map]at this; exact this,fun x hx=>(h4 x hx).1,?_⟩
 have hr:=Lr.sublist h3'
 rw [List.pairwise_map]at hr
 exact EM s'.1 BD (fun e he=>⟨(h4 e he).2,nil_lt (JA _ (h3'.subset (List.mem_map.2 ⟨e,he,rfl⟩))).1⟩) hr
theorem rightP (s:Stream) {b:Int} (hs:Ok s b) (hb:b≤800000):∃ p s',gW s=some (p,s')∧Ok s' (b + 2)∧MQ p∧yf p=0:=by
 obtain ⟨z,s1,h1,hz,h2⟩:=qA s [0,0,60,(-90),1440] hs (by omega) (by simp) (by simp)
 obtain ⟨j,s2,h3,h4,h5,h6⟩:=zK s1 3 h2 (by omega) (by decide) (by decide)
 obtain ⟨tg,n1,n2⟩:=Gb (l := [([]:List ByteArray),([(⟨#[99,105,116,121]⟩:ByteArray)]:List ByteArray),([(⟨#[99,105,116,121]⟩:ByteArray),(⟨#[109,97,108,108]⟩:ByteArray)]:List ByteArray)]) h4 (by simpa using h5)
 simp only [gW,h1,h3,n1,Option.bind_some]
 have bz:=uO (lo := -1440) (hi:=1440) hz rfl
 clear hz
 simp only [List.mem_cons,List.not_mem_nil,or_false]at n2
 have hsub:tg.Sublist tgL:=by
  rcases n2 with rfl | rfl | rfl
  ·exact List.nil_sublist _
  ·exact .cons_cons _ (.cons _ .slnil)
  ·exact List.Sublist.refl _
 obtain ⟨t1,t2⟩:=Im hsub
 refine⟨_,_,rfl,h6.mono (by omega),⟨uj rfl,uj rfl,by show tg.length≤20; omega,t2⟩,?_⟩
 unfold yf
 simp only [tg_0 hsub]
 rw [show qa (⟨#[112]⟩:ByteArray)=true by kernel_rfl,show qa (⟨#[115,97]⟩:ByteArray)=true by kernel_rfl,wD (n:=z) (by omega)]; rfl
end Go.Proofs.YtjhcehhmdmbleaaGreatDoor.Law

open Go Go.Eng
namespace Go.Proofs.YtjhcehhmdmbleaaGreatDoor.Law
set_option linter.unusedVariables false
set_option linter.unusedSimpArgs false
def pu {σ ρ:Type} (s:σ) (body:σ→Option (Ctl σ ρ)):Option (Ctl σ ρ):=iterN body 300 s
def Le {α:Type} (a b:Option α):Prop := ∀ r,a=some r→b=some r
theorem Le.refl {α:Type} (a:Option α):Le a a:=fun _ h=>h
theorem Le.bind {α β:Type} {a b:Option α} {f g:α→Option β} (h:Le a b) (k:∀ x,Le (f x) (g x)):Le (a.bind f) (b.bind g):=fun r e=>by
 obtain ⟨x,h1,h2⟩:=Option.bind_eq_some_iff.1 e
 rw [h x h1]; exact k x r h2
theorem Le.cond {α:Type} {a b c d:Option α} {t:Bool} (h:Le a c) (k:Le b d):Le (bif t then a else b) (bif t then c else d):=by
 cases t
 ·exact k
 ·exact h
theorem Le.thenC {σ ρ τ:Type} {o:Ctl σ ρ} {f f':σ→Option τ} {g g':ρ→Option τ} (h:∀ x,Le (f x) (f' x)) (k:∀ x,Le (g x) (g' x)):Le (Go.Eng.thenC o f g) (Go.Eng.thenC o f' g'):=by
 cases o
 ·exact h _
 ·exact Le.refl _
 ·exact k _
theorem Le.forR {α σ ρ:Type} {b b':Nat→α→σ→Option (Ctl σ ρ)} (h:∀ k x s,Le (b k x s) (b' k x s)):∀ (xs:List α) (k:Nat) (s:σ),Le (Go.Eng.forR b xs k s) (Go.Eng.forR b' xs k s)
 | [],k,s=>Le.refl _
 | x::xs,k,s=>Le.bind (h k x s) (fun c=>by
   cases c with
   | go s'=>exact Le.forR h xs _ _
   | brk s'=>exact Le.refl _
   | ret r=>exact Le.refl _)
theorem Le.forL {α σ ρ:Type} {xs:List α} {s:σ} {b b':Nat→α→σ→Option (Ctl σ ρ)} (h:∀ k x s,Le (b k x s) (b' k x s)):Le (Go.Eng.forL xs s b) (Go.Eng.forL xs s b'):=by
 unfold Go.Eng.forL
 split
 ·exact Le.forR h xs 0 s
 ·exact Le.refl _
theorem Le.iterN {σ ρ:Type} {b b':σ→Option (Ctl σ ρ)} (h:∀ s,Le (b s) (b' s)):∀ (n:Nat) (s:σ),Le (Go.Eng.iterN b n s) (Go.Eng.iterN b' n s)
 | 0,s=>Le.refl _
 | n + 1,s=>Le.bind (h s) (fun c=>by
   cases c with
   | go s'=>exact Le.iterN h n s'
   | brk s'=>exact Le.refl _
   | ret r=>exact Le.refl _)
theorem Le.loop {σ ρ:Type} {s:σ} {b b':σ→Option (Ctl σ ρ)} (h:∀ s,Le (b s) (b' s)):Le (pu s b) (fD s b'):=fun r e=>gD (Le.iterN h _ _ r e)
end Go.Proofs.YtjhcehhmdmbleaaGreatDoor.Law

open Go Go.Eng
namespace Go.Proofs.YtjhcehhmdmbleaaGreatDoor.Law
set_option linter.unusedVariables false
set_option linter.unusedSimpArgs false
def Kj (x:Int):List Int→List Int
 | [] => [x]
 | y::l=>bif decide (x≤y)then x::y::l else y::Kj x l
def CQ:List Int→List Int
 | [] => []
 | x::l=>Kj x (CQ l)
theorem Al (x:Int):∀ l,(Kj x l).Perm (x::l)
 | [] => .refl _
 | y::l=>by
  unfold Kj
  cases decide (x≤y)with
  | true=>exact .refl _
  | false=>exact ((Al x l).cons y).trans (List.Perm.swap x y l)
theorem Bd:∀ l,(CQ l).Perm l
 | [] => .refl _
 | x::l=>(Al x _).trans ((Bd l).cons x)
theorem Br (x:Int):∀ l:List Int,l.Pairwise (· ≤ ·)→(Kj x l).Pairwise (· ≤ ·)
 | [],_=>List.pairwise_singleton _ _
 | y::l,h=>by
  obtain ⟨h1,h2⟩:=List.pairwise_cons.1 h
  unfold Kj
  by_cases hx:x≤y
  ·rw [decide_eq_true hx,cond_true]
   exact List.pairwise_cons.2 ⟨fun z hz=>by
    rcases List.mem_cons.1 hz with rfl | hz
    ·exact hx
    ·exact Int.le_trans hx (h1 z hz),h⟩
  ·rw [decide_eq_false hx,cond_false]
   exact List.pairwise_cons.2 ⟨fun z hz=>by
    rcases List.mem_cons.1 ((Al x l).mem_iff.1 hz)with rfl | hz
    ·omega
    ·exact h1 z hz,Br x l h2⟩
theorem ym:∀ l,(CQ l).Pairwise (· ≤ ·)
 | [] => .nil
 | x::l=>Br x _ (ym l)
theorem Kk (l:List Int):l.mergeSort (fun x y=>decide (x≤y))=CQ l:=by
 refine List.Perm.eq_of_pairwise (le:=(· ≤ ·)) (fun a b _ _ h1 h2=>Int.le_antisymm h1 h2) ?_ (ym l) ((List.mergeSort_perm l _).trans (Bd l).symm)
 have:=List.pairwise_mergeSort (le:=fun (x y:Int)=>decide (x≤y)) (fun a b c=>by simp; omega) (fun a b=>by simp; omega) l
 exact this.imp (by simp)
def yw (l:List Int):Option (List Int):=bif Nat.ble l.length 1000 then some (CQ l)else none
theorem LV (l:List Int):Le (yw l) (dC l):=fun r h=>by
 unfold yw at h
 cases hb:Nat.ble l.length 1000 with
 | false=>rw [hb]at h; cases h
 | true =>
  rw [hb,cond_true]at h
  have:=Nat.le_of_ble_eq_true hb
  unfold dC He
  rw [if_pos (by omega),Kk]; exact h
end Go.Proofs.YtjhcehhmdmbleaaGreatDoor.Law

open Go Go.Eng
namespace Go.Proofs.YtjhcehhmdmbleaaGreatDoor.Law
set_option linter.unusedVariables false
set_option linter.unusedSimpArgs false
set_option maxRecDepth 100000
def gY (s_1:ByteArray):Option (Bool) :=
 (pu 0 (fun s=>jr s_1 s)).bind fun o_10=>thenC o_10 (fun s_7=>(bif (sNe s_1 (⟨#[]⟩:ByteArray))then some (decide ((s_1.size:Int)≤40))else some false).bind fun v_30=>some v_30) (fun r=>some r)
theorem jC (s_1:ByteArray):Le (gY s_1) (fq s_1):=by
 unfold gY fq
 repeat' (with_reducible first | exact Le.refl _ | refine Le.loop (fun _ => ?_) | refine Le.forL (fun _ _ _ => ?_) | refine Le.thenC (fun _ => ?_) (fun _ => ?_) | refine Le.cond ?_ ?_ | refine Le.bind ?_ (fun _ => ?_))
def mq (l_1:(List ByteArray)) (k_2:Nat) (x_4:ByteArray) (s_7:Unit):Option (Ctl (Unit) (Int)) :=
 (gY x_4).bind fun r_12=>bif (!r_12)then some (.ret 5)else (bif (decide ((k_2:Int) > 0))then (idx l_1 (w64 ((k_2:Int) - 1))).bind fun y_18=>some (sLe x_4 y_18)else some false).bind fun v_15=>bif v_15 then some (.ret 7)else some (.go ())
theorem vP (l_1:(List ByteArray)) (k_2:Nat) (x_4:ByteArray) (s_7:Unit):Le (mq l_1 k_2 x_4 s_7) (gZ l_1 k_2 x_4 s_7):=by
 unfold mq gZ
 repeat' (with_reducible first | exact Le.refl _ | exact jC _ | refine Le.loop (fun _ => ?_) | refine Le.forL (fun _ _ _ => ?_) | refine Le.thenC (fun _ => ?_) (fun _ => ?_) | refine Le.cond ?_ ?_ | refine Le.bind ?_ (fun _ => ?_))
def lW (l_1:(List ByteArray)):Option (Int) :=
 (forL l_1 () (fun k x s=>mq l_1 k x s)).bind fun o_10=>thenC o_10 (fun s_7=>some 0) (fun r=>some r)
theorem qX (l_1:(List ByteArray)):Le (lW l_1) (iG l_1):=by
 unfold lW iG
 repeat' (with_reducible first | exact Le.refl _ | exact vP _ _ _ _ | refine Le.loop (fun _ => ?_) | refine Le.forL (fun _ _ _ => ?_) | refine Le.thenC (fun _ => ?_) (fun _ => ?_) | refine Le.cond ?_ ?_ | refine Le.bind ?_ (fun _ => ?_))
def mg (l_1:(List ByteArray)):Option (Int) :=
 bif (decide ((l_1.length:Int) > 20))then some 2 else (lW l_1).bind fun r_3=>some r_3
theorem vN (l_1:(List ByteArray)):Le (mg l_1) (eQ l_1):=by
 unfold mg eQ
 repeat' (with_reducible first | exact Le.refl _ | exact qX _ | refine Le.loop (fun _ => ?_) | refine Le.forL (fun _ _ _ => ?_) | refine Le.thenC (fun _ => ?_) (fun _ => ?_) | refine Le.cond ?_ ?_ | refine Le.bind ?_ (fun _ => ?_))
def lN (e_1:Entry):Option (Int) :=
 ((gY e_1.Key).bind fun r_5=>bif (!r_5)then some true else (gY e_1.Item).bind fun r_8=>some (!r_8)).bind fun v_3=>bif v_3 then some 5 else ((aN e_1.Version 0 1000000).bind fun r_13=>bif r_13 then some true else (aN e_1.First 0 e_1.Last).bind fun r_16=>bif r_16 then some true else bif (decide (e_1.Last > 4000))then some true else (aN e_1.Every 1 400).bind fun r_20=>bif r_20 then some true else (aN e_1.Days 1 127).bind fun r_23=>some r_23).bind fun v_11=>bif v_11 then some 1 else (fP e_1.Except).bind fun r_26=>bif (r_26 != 0)then some r_26 else ((aN e_1.From 0 1439).bind fun r_31=>bif r_31 then some true else (aN e_1.To 0 1439).bind fun r_34=>bif r_34 then some true else (aN e_1.Prio 0 9).bind fun r_37=>some r_37).bind fun v_29=>bif v_29 then some 1 else (mg e_1.Tags).bind fun r_40=>some r_40
theorem vv (e_1:Entry):Le (lN e_1) (fw e_1):=by
 unfold lN fw
 repeat' (with_reducible first | exact Le.refl _ | exact jC _ | exact vN _ | refine Le.loop (fun _ => ?_) | refine Le.forL (fun _ _ _ => ?_) | refine Le.thenC (fun _ => ?_) (fun _ => ?_) | refine Le.cond ?_ ?_ | refine Le.bind ?_ (fun _ => ?_))
def jh (l_1:(List Entry)) (k_3:Nat) (x_5:Entry) (s_8:Unit):Option (Ctl (Unit) (Int)) :=
 (lN x_5).bind fun r_14=>bif (r_14 != 0)then some (.ret r_14)else (bif (decide ((k_3:Int) > 0))then (idx l_1 (w64 ((k_3:Int) - 1))).bind fun y_20=>some (sLe x_5.Key y_20.Key)else some false).bind fun v_17=>bif v_17 then some (.ret 7)else some (.go ())
theorem qG (l_1:(List Entry)) (k_3:Nat) (x_5:Entry) (s_8:Unit):Le (jh l_1 k_3 x_5 s_8) (d9 l_1 k_3 x_5 s_8):=by
 unfold jh d9
 repeat' (with_reducible first | exact Le.refl _ | exact vv _ | refine Le.loop (fun _ => ?_) | refine Le.forL (fun _ _ _ => ?_) | refine Le.thenC (fun _ => ?_) (fun _ => ?_) | refine Le.cond ?_ ?_ | refine Le.bind ?_ (fun _ => ?_))
def j5 (l_1:(List Entry)):Option (Int) :=
 bif (decide ((l_1.length:Int) > 200))then some 2 else (forL l_1 () (fun k x s=>jh l_1 k x s)).bind fun o_11=>thenC o_11 (fun s_8=>some 0) (fun r=>some r)
theorem sI (l_1:(List Entry)):Le (j5 l_1) (dJ l_1):=by
 unfold j5 dJ
 repeat' (with_reducible first | exact Le.refl _ | exact qG _ _ _ _ | refine Le.loop (fun _ => ?_) | refine Le.forL (fun _ _ _ => ?_) | refine Le.thenC (fun _ => ?_) (fun _ => ?_) | refine Le.cond ?_ ?_ | refine Le.bind ?_ (fun _ => ?_))
def iC (x_1:(List Int)) (target_2:Int):Option (Int×Bool) :=
 (pu (0,(x_1.length:Int)) (fun s=>aY x_1 target_2 s)).bind fun o_11=>thenC o_11 (fun s_8=>(bif (decide (s_8.1 < (x_1.length:Int)))then (idx x_1 s_8.1).bind fun y_24=>bif (y_24 == target_2)then some true else (idx x_1 s_8.1).bind fun y_27=>(fQ y_27).bind fun r_29=>bif r_29 then (fQ target_2).bind fun r_32=>some r_32 else some false else some false).bind fun v_21=>some (s_8.1,v_21)) (fun _=>none)
theorem oK (x_1:(List Int)) (target_2:Int):Le (iC x_1 target_2) (cZ x_1 target_2):=by
 unfold iC cZ
 repeat' (with_reducible first | exact Le.refl _ | refine Le.loop (fun _ => ?_) | refine Le.forL (fun _ _ _ => ?_) | refine Le.thenC (fun _ => ?_) (fun _ => ?_) | refine Le.cond ?_ ?_ | refine Le.bind ?_ (fun _ => ?_))
def qi (e_1:Entry) (d_2:Int):Option (Bool) :=
 ((aN d_2 e_1.First e_1.Last).bind fun r_6=>bif r_6 then some true else (F6 .i64 (w64 (d_2 - e_1.First)) e_1.Every).bind fun q_9=>bif (q_9 != 0)then some true else (zU .i64 1 (d_2.tmod 7)).bind fun q_12=>some ((pq .i64 e_1.Days q_12) == 0)).bind fun v_4=>bif v_4 then some false else (iC e_1.Except d_2).bind fun r_15=>some (!r_15.2)
theorem zf (e_1:Entry) (d_2:Int):Le (qi e_1 d_2) (ja e_1 d_2):=by
 unfold qi ja
 repeat' (with_reducible first | exact Le.refl _ | exact oK _ _ | refine Le.loop (fun _ => ?_) | refine Le.forL (fun _ _ _ => ?_) | refine Le.thenC (fun _ => ?_) (fun _ => ?_) | refine Le.cond ?_ ?_ | refine Le.bind ?_ (fun _ => ?_))
def ng (wv_3:Window) (zone_2:Int) (e_1:Entry) (s_15:(List Window)×Int):Option (Ctl ((List Window)×Int) (Unit)) :=
 bif (decide (s_15.2≤(p9 (w64 ((w64 ((w64 (wv_3.To + (w64 (zone_2 * 60000)))).tdiv 86400000)) + 1)) e_1.Last)))then (qi e_1 s_15.2).bind fun r_24=>bif (!r_24)then some (.go (s_15.1,(w64 (s_15.2 + 1))))else (jk e_1 zone_2 s_15.2).bind fun r_27=>(bif (decide (r_27.From < wv_3.To))then some (decide (r_27.To > wv_3.From))else some false).bind fun v_30=>(bif v_30 then (oo s_15.1 ([r_27]:List Window)).bind fun a_37=>some a_37 else some s_15.1).bind fun v_33=>some (.go (v_33,(w64 (s_15.2 + 1))))else some (.brk (s_15.1,s_15.2))
theorem wX (wv_3:Window) (zone_2:Int) (e_1:Entry) (s_15:(List Window)×Int):Le (ng wv_3 zone_2 e_1 s_15) (dM wv_3 zone_2 e_1 s_15):=by
 unfold ng dM
 repeat' (with_reducible first | exact Le.refl _ | exact zf _ _ | refine Le.loop (fun _ => ?_) | refine Le.forL (fun _ _ _ => ?_) | refine Le.thenC (fun _ => ?_) (fun _ => ?_) | refine Le.cond ?_ ?_ | refine Le.bind ?_ (fun _ => ?_))
def pU (e_1:Entry) (zone_2:Int) (wv_3:Window):Option ((List Window)) :=
 (bif e_1.Gone then some true else some (decide (wv_3.From≥wv_3.To))).bind fun v_6=>bif v_6 then some ([]:(List Window))else (pu (([]:List Window),(ma (w64 ((w64 ((w64 (wv_3.From + (w64 (zone_2 * 60000)))).tdiv 86400000)) - 2)) e_1.First)) (fun s=>ng wv_3 zone_2 e_1 s)).bind fun o_21=>thenC o_21 (fun s_15=>some s_15.1) (fun _=>none)
theorem zT (e_1:Entry) (zone_2:Int) (wv_3:Window):Le (pU e_1 zone_2 wv_3) (fG e_1 zone_2 wv_3):=by
 unfold pU fG
 repeat' (with_reducible first | exact Le.refl _ | exact wX _ _ _ _ | refine Le.loop (fun _ => ?_) | refine Le.forL (fun _ _ _ => ?_) | refine Le.thenC (fun _ => ?_) (fun _ => ?_) | refine Le.cond ?_ ?_ | refine Le.bind ?_ (fun _ => ?_))
def iw (s_1:(List Int)) (s_8:Int):Option (Ctl (Int) ((List Int))) :=
 bif (decide (s_8 < (s_1.length:Int)))then (inR s_8 s_1).bind fun _=>(s_1[(0 + (s_8).toNat)]?).bind fun e_15=>(inR (w64 (s_8 - 1)) s_1).bind fun _=>(s_1[(0 + ((w64 (s_8 - 1))).toNat)]?).bind fun e_18=>bif (e_15 == e_18)then (neL s_1).bind fun _=>(pG s_1 s_8 (s_1.length:Int)).bind fun _=>(pu (s_1,s_8,1) (fun s=>bQ s_1 s_8 s)).bind fun o_31=>thenC o_31 (fun s_28=>(pG s_28.1 s_28.2.1 (s_28.1.length:Int)).bind fun _=>(pG (s_28.1.take ((s_28.2.1).toNat)++List.replicate (((s_28.1.length:Int)).toNat - (s_28.2.1).toNat) 0++s_28.1.drop (((s_28.2.1).toNat) + (((s_28.1.length:Int)).toNat - (s_28.2.1).toNat))) 0 s_28.2.1).bind fun _=>some (.ret (cutL (s_28.1.take ((s_28.2.1).toNat)++List.replicate (((s_28.1.length:Int)).toNat - (s_28.2.1).toNat) 0++s_28.1.drop (((s_28.2.1).toNat) + (((s_28.1.length:Int)).toNat - (s_28.2.1).toNat))) 0 ((s_28.2.1).toNat)))) (fun _=>none)else some (.go (w64 (s_8 + 1)))else some (.brk s_8)
theorem oq (s_1:(List Int)) (s_8:Int):Le (iw s_1 s_8) (aU s_1 s_8):=by
 unfold iw aU
 repeat' (with_reducible first | exact Le.refl _ | refine Le.loop (fun _ => ?_) | refine Le.forL (fun _ _ _ => ?_) | refine Le.thenC (fun _ => ?_) (fun _ => ?_) | refine Le.cond ?_ ?_ | refine Le.bind ?_ (fun _ => ?_))
def iY (s_1:(List Int)):Option ((List Int)) :=
 bif (decide ((s_1.length:Int) < 2))then some s_1 else (pu 1 (fun s=>iw s_1 s)).bind fun o_11=>thenC o_11 (fun s_8=>some s_1) (fun r=>some r)
theorem p8 (s_1:(List Int)):Le (iY s_1) (bS s_1):=by
 unfold iY bS
 repeat' (with_reducible first | exact Le.refl _ | exact oq _ _ | refine Le.loop (fun _ => ?_) | refine Le.forL (fun _ _ _ => ?_) | refine Le.thenC (fun _ => ?_) (fun _ => ?_) | refine Le.cond ?_ ?_ | refine Le.bind ?_ (fun _ => ?_))
def dI (b_3:Int) (a_2:Int) (s_10:(List Run)×Int):Option (Ctl ((List Run)×Int) (Unit)) :=
 bif (decide (s_10.2 < b_3))then (pu (s_10.1,s_10.2) (fun s=>cK a_2 s)).bind fun o_24=>thenC o_24 (fun s_21=>some (.go (s_21.1,(w64 (s_10.2 + 1))))) (fun _=>none)else some (.brk (s_10.1,s_10.2))
theorem jm (b_3:Int) (a_2:Int) (s_10:(List Run)×Int):Le (dI b_3 a_2 s_10) (bJ b_3 a_2 s_10):=by
 unfold dI bJ
 repeat' (with_reducible first | exact Le.refl _ | refine Le.loop (fun _ => ?_) | refine Le.forL (fun _ _ _ => ?_) | refine Le.thenC (fun _ => ?_) (fun _ => ?_) | refine Le.cond ?_ ?_ | refine Le.bind ?_ (fun _ => ?_))
def dS (data_1:(List Run)) (a_2:Int) (b_3:Int):Option ((List Run)) :=
 (pu (data_1,(w64 (a_2 + 1))) (fun s=>dI b_3 a_2 s)).bind fun o_13=>thenC o_13 (fun s_10=>some s_10.1) (fun _=>none)
theorem jM (data_1:(List Run)) (a_2:Int) (b_3:Int):Le (dS data_1 a_2 b_3) (bP data_1 a_2 b_3):=by
 unfold dS bP
 repeat' (with_reducible first | exact Le.refl _ | exact jm _ _ _ | refine Le.loop (fun _ => ?_) | refine Le.forL (fun _ _ _ => ?_) | refine Le.thenC (fun _ => ?_) (fun _ => ?_) | refine Le.cond ?_ ?_ | refine Le.bind ?_ (fun _ => ?_))
def eG (b_3:Int) (a_2:Int) (data_1:(List Run)) (limit_4:Int) (s_11:Unit):Option (Ctl (Unit) ((List Run))) :=
 bif (decide ((w64 (b_3 - a_2))≤12))then (dS data_1 a_2 b_3).bind fun r_17=>(jN r_17 data_1).bind fun _=>some (.ret r_17)else bif (limit_4 == 0)then none else none
theorem kC (b_3:Int) (a_2:Int) (data_1:(List Run)) (limit_4:Int) (s_11:Unit):Le (eG b_3 a_2 data_1 limit_4 s_11) (cB b_3 a_2 data_1 limit_4 s_11):=by
 unfold eG cB
 repeat' (with_reducible first | exact Le.refl _ | exact jM _ _ _ | refine Le.loop (fun _ => ?_) | refine Le.forL (fun _ _ _ => ?_) | refine Le.thenC (fun _ => ?_) (fun _ => ?_) | refine Le.cond ?_ ?_ | refine Le.bind ?_ (fun _ => ?_))
def fA (data_1:(List Run)) (a_2:Int) (b_3:Int) (limit_4:Int):Option ((List Run)) :=
 (pu () (fun s=>eG b_3 a_2 data_1 limit_4 s)).bind fun o_14=>thenC o_14 (fun s_11=>some data_1) (fun r=>some r)
theorem lw (data_1:(List Run)) (a_2:Int) (b_3:Int) (limit_4:Int):Le (fA data_1 a_2 b_3 limit_4) (dm data_1 a_2 b_3 limit_4):=by
 unfold fA dm
 repeat' (with_reducible first | exact Le.refl _ | exact kC _ _ _ _ _ | refine Le.loop (fun _ => ?_) | refine Le.forL (fun _ _ _ => ?_) | refine Le.thenC (fun _ => ?_) (fun _ => ?_) | refine Le.cond ?_ ?_ | refine Le.bind ?_ (fun _ => ?_))
def dZ (x_1:(List Run)):Option ((List Run)) :=
 (iM (IntKind.u64.wrap (x_1.length:Int))).bind fun r_3=>(fA x_1 0 (x_1.length:Int) r_3).bind fun r_5=>(jN r_5 x_1).bind fun _=>some r_5
theorem j4 (x_1:(List Run)):Le (dZ x_1) (bU x_1):=by
 unfold dZ bU
 repeat' (with_reducible first | exact Le.refl _ | exact lw _ _ _ _ | refine Le.loop (fun _ => ?_) | refine Le.forL (fun _ _ _ => ?_) | refine Le.thenC (fun _ => ?_) (fun _ => ?_) | refine Le.cond ?_ ?_ | refine Le.bind ?_ (fun _ => ?_))
def qJ (l_1:(List Rect)) (y_2:Int):Option ((List Run)) :=
 (forL l_1 ([]:List Run) (fun k x s=>om y_2 k x s)).bind fun o_14=>thenC o_14 (fun s_8=>(dZ s_8).bind fun r_27=>(jN r_27 s_8).bind fun _=>(forL r_27 ([]:List Run) (fun k x s=>og k x s)).bind fun o_41=>thenC o_41 (fun s_35=>some s_35) (fun _=>none)) (fun _=>none)
theorem Dz (l_1:(List Rect)) (y_2:Int):Le (qJ l_1 y_2) (nC l_1 y_2):=by
 unfold qJ nC
 repeat' (with_reducible first | exact Le.refl _ | exact j4 _ | refine Le.loop (fun _ => ?_) | refine Le.forL (fun _ _ _ => ?_) | refine Le.thenC (fun _ => ?_) (fun _ => ?_) | refine Le.cond ?_ ?_ | refine Le.bind ?_ (fun _ => ?_))
def qg (m_2:(List Run)) (k_3:Nat) (x_5:Run) (s_8:(List Run)×Int):Option (Ctl ((List Run)×Int) (Unit)) :=
 (pu s_8.2 (fun s=>nO m_2 x_5 s)).bind fun o_25=>thenC o_25 (fun s_22=>(pu (s_8.1,s_22,x_5.f_from) (fun s=>nV m_2 x_5 s)).bind fun o_43=>thenC o_43 (fun s_38=>(bif (decide (s_38.2.2 < x_5.f_to))then (oo s_38.1 ([(⟨s_38.2.2,x_5.f_to⟩:Run)]:List Run)).bind fun a_68=>some a_68 else some s_38.1).bind fun v_64=>some (.go (v_64,s_22))) (fun _=>none)) (fun _=>none)
theorem zz (m_2:(List Run)) (k_3:Nat) (x_5:Run) (s_8:(List Run)×Int):Le (qg m_2 k_3 x_5 s_8) (lC m_2 k_3 x_5 s_8):=by
 unfold qg lC
 repeat' (with_reducible first | exact Le.refl _ | refine Le.loop (fun _ => ?_) | refine Le.forL (fun _ _ _ => ?_) | refine Le.thenC (fun _ => ?_) (fun _ => ?_) | refine Le.cond ?_ ?_ | refine Le.bind ?_ (fun _ => ?_))
def uD (l_1:(List Run)) (m_2:(List Run)):Option ((List Run)) :=
 (forL l_1 (([]:List Run),0) (fun k x s=>qg m_2 k x s)).bind fun o_14=>thenC o_14 (fun s_8=>some s_8.1) (fun _=>none)
theorem Df (l_1:(List Run)) (m_2:(List Run)):Le (uD l_1 m_2) (pE l_1 m_2):=by
 unfold uD pE
 repeat' (with_reducible first | exact Le.refl _ | exact zz _ _ _ _ | refine Le.loop (fun _ => ?_) | refine Le.forL (fun _ _ _ => ?_) | refine Le.thenC (fun _ => ?_) (fun _ => ?_) | refine Le.cond ?_ ?_ | refine Le.bind ?_ (fun _ => ?_))
def nP (r_25:(List Int)) (l_1:(List Rect)) (m_2:(List Rect)) (k_27:Nat) (x_29:Int) (s_32:(List Rect)×(List Run)×Int):Option (Ctl ((List Rect)×(List Run)×Int) (Unit)) :=
 (bif (decide ((w64 ((k_27:Int) + 1)) < (r_25.length:Int)))then (qJ l_1 x_29).bind fun r_45=>(qJ m_2 x_29).bind fun r_47=>(uD r_45 r_47).bind fun r_49=>some r_49 else some ([]:List Run)).bind fun v_42=>(dW s_32.2.1 v_42).bind fun r_51=>bif r_51 then some (.go (s_32.1,s_32.2.1,s_32.2.2))else (forL s_32.2.1 s_32.1 (fun k x s=>lU s_32 x_29 k x s)).bind fun o_64=>thenC o_64 (fun s_59=>some (.go (s_59,v_42,x_29))) (fun _=>none)
theorem xV (r_25:(List Int)) (l_1:(List Rect)) (m_2:(List Rect)) (k_27:Nat) (x_29:Int) (s_32:(List Rect)×(List Run)×Int):Le (nP r_25 l_1 m_2 k_27 x_29 s_32) (jX r_25 l_1 m_2 k_27 x_29 s_32):=by
 unfold nP jX
 repeat' (with_reducible first | exact Le.refl _ | exact Dz _ _ | exact Df _ _ | refine Le.loop (fun _ => ?_) | refine Le.forL (fun _ _ _ => ?_) | refine Le.thenC (fun _ => ?_) (fun _ => ?_) | refine Le.cond ?_ ?_ | refine Le.bind ?_ (fun _ => ?_))
def qR (l_1:(List Rect)) (m_2:(List Rect)):Option ((List Rect)) :=
 (eO ([l_1,m_2]:List (List Rect))).bind fun r_3=>(forL r_3 ([]:List Int) (fun k x s=>lT k x s)).bind fun o_16=>thenC o_16 (fun s_10=>(yw s_10).bind fun r_22=>(jN r_22 s_10).bind fun _=>(iY r_22).bind fun r_25=>(forL r_25 (([]:List Rect),([]:List Run),0) (fun k x s=>nP r_25 l_1 m_2 k x s)).bind fun o_38=>thenC o_38 (fun s_32=>some s_32.1) (fun _=>none)) (fun _=>none)
theorem Ar (l_1:(List Rect)) (m_2:(List Rect)):Le (qR l_1 m_2) (mM l_1 m_2):=by
 unfold qR mM
 repeat' (with_reducible first | exact Le.refl _ | exact p8 _ | exact xV _ _ _ _ _ _ | exact LV _ | refine Le.loop (fun _ => ?_) | refine Le.forL (fun _ _ _ => ?_) | refine Le.thenC (fun _ => ?_) (fun _ => ?_) | refine Le.cond ?_ ?_ | refine Le.bind ?_ (fun _ => ?_))
def uY (l_1:(List Rect)):Option (Int×Int) :=
 (kT l_1).bind fun r_2=>bif (r_2 != 0)then some (0,r_2)else (qR l_1 ([]:List Rect)).bind fun r_5=>(rO r_5).bind fun r_7=>some (r_7,0)
theorem Dq (l_1:(List Rect)):Le (uY l_1) (pJ l_1):=by
 unfold uY pJ
 repeat' (with_reducible first | exact Le.refl _ | exact Ar _ _ | refine Le.loop (fun _ => ?_) | refine Le.forL (fun _ _ _ => ?_) | refine Le.thenC (fun _ => ?_) (fun _ => ?_) | refine Le.cond ?_ ?_ | refine Le.bind ?_ (fun _ => ?_))
def qf (e_1:Entry) (zone_2:Int) (wv_3:Window):Option ((List Window)×Int) :=
 (j5 ([e_1]:List Entry)).bind fun r_6=>bif (r_6 != 0)then some (([]:(List Window)),r_6)else (aN zone_2 (-1440) 1440).bind fun r_9=>bif r_9 then some (([]:(List Window)),1)else (jo wv_3).bind fun r_12=>bif (r_12 != 0)then some (([]:(List Window)),r_12)else (pU e_1 zone_2 wv_3).bind fun r_15=>(forL (List.range ((r_15.length:Int)).toNat) r_15 (fun k x s=>kR wv_3 k x s)).bind fun o_27=>thenC o_27 (fun s_24=>some (s_24,0)) (fun _=>none)
theorem zi (e_1:Entry) (zone_2:Int) (wv_3:Window):Le (qf e_1 zone_2 wv_3) (lq e_1 zone_2 wv_3):=by
 unfold qf lq
 repeat' (with_reducible first | exact Le.refl _ | exact sI _ | exact zT _ _ _ | refine Le.loop (fun _ => ?_) | refine Le.forL (fun _ _ _ => ?_) | refine Le.thenC (fun _ => ?_) (fun _ => ?_) | refine Le.cond ?_ ?_ | refine Le.bind ?_ (fun _ => ?_))
def mV (l_1:(List ByteArray)):Option (Int) :=
 bif (decide ((l_1.length:Int) > 20))then some 2 else (lW l_1).bind fun r_3=>some r_3
theorem wF (l_1:(List ByteArray)):Le (mV l_1) (jl l_1):=by
 unfold mV jl
 repeat' (with_reducible first | exact Le.refl _ | exact qX _ | refine Le.loop (fun _ => ?_) | refine Le.forL (fun _ _ _ => ?_) | refine Le.thenC (fun _ => ?_) (fun _ => ?_) | refine Le.cond ?_ ?_ | refine Le.bind ?_ (fun _ => ?_))
def jd (l_1:(List Campaign)) (k_3:Nat) (x_5:Campaign) (s_8:Unit):Option (Ctl (Unit) (Int)) :=
 ((gY x_5.Key).bind fun r_16=>bif (!r_16)then some true else bif (sNe x_5.Class (⟨#[]⟩:ByteArray))then (gY x_5.Class).bind fun r_20=>some (!r_20)else some false).bind fun v_14=>bif v_14 then some (.ret 5)else (bif (decide ((k_3:Int) > 0))then (idx l_1 (w64 ((k_3:Int) - 1))).bind fun y_26=>some (sLe x_5.Key y_26.Key)else some false).bind fun v_23=>bif v_23 then some (.ret 7)else ((ol x_5.Time).bind fun r_31=>bif (!r_31)then some true else (aN x_5.Goal 0 1000000).bind fun r_34=>bif r_34 then some true else (aN x_5.Most 0 1000000).bind fun r_37=>bif r_37 then some true else (aN x_5.Cents 0 1000000000).bind fun r_40=>some r_40).bind fun v_29=>bif v_29 then some (.ret 1)else (mV x_5.Tags).bind fun r_43=>bif (r_43 != 0)then some (.ret r_43)else some (.go ())
theorem pY (l_1:(List Campaign)) (k_3:Nat) (x_5:Campaign) (s_8:Unit):Le (jd l_1 k_3 x_5 s_8) (fu l_1 k_3 x_5 s_8):=by
 unfold jd fu
 repeat' (with_reducible first | exact Le.refl _ | exact jC _ | exact wF _ | refine Le.loop (fun _ => ?_) | refine Le.forL (fun _ _ _ => ?_) | refine Le.thenC (fun _ => ?_) (fun _ => ?_) | refine Le.cond ?_ ?_ | refine Le.bind ?_ (fun _ => ?_))
def jY (l_1:(List Campaign)):Option (Int) :=
 bif (decide ((l_1.length:Int) > 30))then some 2 else (forL l_1 () (fun k x s=>jd l_1 k x s)).bind fun o_11=>thenC o_11 (fun s_8=>some 0) (fun r=>some r)
theorem rH (l_1:(List Campaign)):Le (jY l_1) (gJ l_1):=by
 unfold jY gJ
 repeat' (with_reducible first | exact Le.refl _ | exact pY _ _ _ _ | refine Le.loop (fun _ => ?_) | refine Le.forL (fun _ _ _ => ?_) | refine Le.thenC (fun _ => ?_) (fun _ => ?_) | refine Le.cond ?_ ?_ | refine Le.bind ?_ (fun _ => ?_))
def vE (c_1:Campaign) (atv_2:Int):Option (Int×Int) :=
 (jY ([c_1]:List Campaign)).bind fun r_4=>bif (r_4 != 0)then some (0,r_4)else (di atv_2).bind fun r_7=>bif (!r_7)then some (0,1)else (rU c_1 atv_2).bind fun r_10=>some (r_10,0)
theorem DR (c_1:Campaign) (atv_2:Int):Le (vE c_1 atv_2) (pF c_1 atv_2):=by
 unfold vE pF
 repeat' (with_reducible first | exact Le.refl _ | exact rH _ | refine Le.loop (fun _ => ?_) | refine Le.forL (fun _ _ _ => ?_) | refine Le.thenC (fun _ => ?_) (fun _ => ?_) | refine Le.cond ?_ ?_ | refine Le.bind ?_ (fun _ => ?_))
def lK (l_1:(List Beat)) (k_3:Nat) (x_5:Beat) (s_8:Unit):Option (Ctl (Unit) (Int)) :=
 (gY x_5.Player).bind fun r_14=>bif (!r_14)then some (.ret 5)else ((di x_5.At).bind fun r_19=>bif (!r_19)then some true else (aN x_5.Clock 0 345686399999).bind fun r_22=>some r_22).bind fun v_17=>bif v_17 then some (.ret 1)else (bif (decide ((k_3:Int) > 0))then (idx l_1 (w64 ((k_3:Int) - 1))).bind fun y_28=>(kg y_28 x_5).bind fun r_30=>some (decide (r_30≥0))else some false).bind fun v_25=>bif v_25 then some (.ret 7)else (bif (decide ((k_3:Int) > 0))then (idx l_1 (w64 ((k_3:Int) - 1))).bind fun y_36=>bif (sEq x_5.Player y_36.Player)then (idx l_1 (w64 ((k_3:Int) - 1))).bind fun y_39=>some (decide (x_5.Clock≤y_39.Clock))else some false else some false).bind fun v_33=>bif v_33 then some (.ret 16)else some (.go ())
theorem uW (l_1:(List Beat)) (k_3:Nat) (x_5:Beat) (s_8:Unit):Le (lK l_1 k_3 x_5 s_8) (iJ l_1 k_3 x_5 s_8):=by
 unfold lK iJ
 repeat' (with_reducible first | exact Le.refl _ | exact jC _ | refine Le.loop (fun _ => ?_) | refine Le.forL (fun _ _ _ => ?_) | refine Le.thenC (fun _ => ?_) (fun _ => ?_) | refine Le.cond ?_ ?_ | refine Le.bind ?_ (fun _ => ?_))
def nU (l_1:(List Beat)):Option (Int) :=
 bif (decide ((l_1.length:Int) > 500))then some 2 else (forL l_1 () (fun k x s=>lK l_1 k x s)).bind fun o_11=>thenC o_11 (fun s_8=>some 0) (fun r=>some r)
theorem xP (l_1:(List Beat)):Le (nU l_1) (jU l_1):=by
 unfold nU jU
 repeat' (with_reducible first | exact Le.refl _ | exact uW _ _ _ _ | refine Le.loop (fun _ => ?_) | refine Le.forL (fun _ _ _ => ?_) | refine Le.thenC (fun _ => ?_) (fun _ => ?_) | refine Le.cond ?_ ?_ | refine Le.bind ?_ (fun _ => ?_))
def r9 (l_1:(List Beat_)) (n_2:Int):Option (Int×Int) :=
 bif ((l_1.length:Int) == 0)then some (0,8)else (pu 0 (fun s=>mR l_1 n_2 s)).bind fun o_12=>thenC o_12 (fun s_9=>bif (s_9 == 0)then (idx l_1 0).bind fun y_21=>(idx l_1 0).bind fun y_23=>(di (w64 (y_21.f_to - (w64 (y_23.f_from - n_2))))).bind fun r_25=>bif (!r_25)then some (0,11)else some ((w64 (y_21.f_to - (w64 (y_23.f_from - n_2)))),0)else bif (s_9 == (l_1.length:Int))then (idx l_1 (w64 (s_9 - 1))).bind fun y_29=>(idx l_1 (w64 (s_9 - 1))).bind fun y_31=>(di (w64 ((w64 (y_29.f_to + n_2)) - y_31.f_from))).bind fun r_33=>bif (!r_33)then some (0,11)else some ((w64 ((w64 (y_29.f_to + n_2)) - y_31.f_from)),0)else (idx l_1 (w64 (s_9 - 1))).bind fun y_36=>(idx l_1 s_9).bind fun y_38=>(bif (decide ((w64 (y_38.f_from - y_36.f_from)) > 2592000000))then some true else some (decide ((w64 (y_38.f_to - y_36.f_to)) > 2592000000))).bind fun v_42=>bif v_42 then some (0,2)else (Jf .i64 (w64 ((w64 (n_2 - y_36.f_from)) * (w64 (y_38.f_to - y_36.f_to)))) (w64 (y_38.f_from - y_36.f_from))).bind fun q_46=>(di (w64 (y_36.f_to + q_46))).bind fun r_48=>bif (!r_48)then some (0,11)else some ((w64 (y_36.f_to + q_46)),0)) (fun _=>none)
theorem BL (l_1:(List Beat_)) (n_2:Int):Le (r9 l_1 n_2) (oh l_1 n_2):=by
 unfold r9 oh
 repeat' (with_reducible first | exact Le.refl _ | refine Le.loop (fun _ => ?_) | refine Le.forL (fun _ _ _ => ?_) | refine Le.thenC (fun _ => ?_) (fun _ => ?_) | refine Le.cond ?_ ?_ | refine Le.bind ?_ (fun _ => ?_))
def uR (l_1:(List Beat)) (player_2:ByteArray) (n_3:Int) (back_4:Bool):Option (Int×Int) :=
 (nU l_1).bind fun r_5=>bif (r_5 != 0)then some (0,r_5)else (gY player_2).bind fun r_8=>bif (!r_8)then some (0,5)else (di n_3).bind fun r_11=>bif (!r_11)then some (0,1)else (oZ l_1 player_2 back_4).bind fun r_14=>(r9 r_14 n_3).bind fun r_16=>some (r_16.1,r_16.2)
theorem Dm (l_1:(List Beat)) (player_2:ByteArray) (n_3:Int) (back_4:Bool):Le (uR l_1 player_2 n_3 back_4) (pI l_1 player_2 n_3 back_4):=by
 unfold uR pI
 repeat' (with_reducible first | exact Le.refl _ | exact jC _ | exact xP _ | exact BL _ _ | refine Le.loop (fun _ => ?_) | refine Le.forL (fun _ _ _ => ?_) | refine Le.thenC (fun _ => ?_) (fun _ => ?_) | refine Le.cond ?_ ?_ | refine Le.bind ?_ (fun _ => ?_))
def uP (l_1:(List Beat)) (player_2:ByteArray) (clock_3:Int):Option (Int×Int) :=
 (uR l_1 player_2 clock_3 false).bind fun r_4=>some (r_4.1,r_4.2)
theorem Cj (l_1:(List Beat)) (player_2:ByteArray) (clock_3:Int):Le (uP l_1 player_2 clock_3) (o8 l_1 player_2 clock_3):=by
 unfold uP o8
 repeat' (with_reducible first | exact Le.refl _ | exact Dm _ _ _ _ | refine Le.loop (fun _ => ?_) | refine Le.forL (fun _ _ _ => ?_) | refine Le.thenC (fun _ => ?_) (fun _ => ?_) | refine Le.cond ?_ ?_ | refine Le.bind ?_ (fun _ => ?_))
def mf (a_1:Alert) (k_4:Nat) (x_6:ByteArray) (s_9:Unit):Option (Ctl (Unit) (Int)) :=
 (gY x_6).bind fun r_14=>bif (!r_14)then some (.ret 5)else (bif (decide ((k_4:Int) > 0))then (idx a_1.Refs (w64 ((k_4:Int) - 1))).bind fun y_20=>some (sLe x_6 y_20)else some false).bind fun v_17=>bif v_17 then some (.ret 7)else bif (sEq x_6 a_1.Id)then some (.ret 14)else some (.go ())
theorem vO (a_1:Alert) (k_4:Nat) (x_6:ByteArray) (s_9:Unit):Le (mf a_1 k_4 x_6 s_9) (iW a_1 k_4 x_6 s_9):=by
 unfold mf iW
 repeat' (with_reducible first | exact Le.refl _ | exact jC _ | refine Le.loop (fun _ => ?_) | refine Le.forL (fun _ _ _ => ?_) | refine Le.thenC (fun _ => ?_) (fun _ => ?_) | refine Le.cond ?_ ?_ | refine Le.bind ?_ (fun _ => ?_))
def oI (a_1:Alert):Option (Int) :=
 bif (decide ((a_1.Refs.length:Int) > 20))then some 2 else (forL a_1.Refs () (fun k x s=>mf a_1 k x s)).bind fun o_12=>thenC o_12 (fun s_9=>bif (!((a_1.Kind == 1) == ((a_1.Refs.length:Int) == 0)))then some 3 else some 0) (fun r=>some r)
theorem y7 (a_1:Alert):Le (oI a_1) (kv a_1):=by
 unfold oI kv
 repeat' (with_reducible first | exact Le.refl _ | exact vO _ _ _ _ | refine Le.loop (fun _ => ?_) | refine Le.forL (fun _ _ _ => ?_) | refine Le.thenC (fun _ => ?_) (fun _ => ?_) | refine Le.cond ?_ ?_ | refine Le.bind ?_ (fun _ => ?_))
def iE (s_7:ByteArray):Option (Ctl (ByteArray) (Unit)) :=
 bif (decide ((s_7.size:Int) > 0))then (pM s_7 0).bind fun b_13=>bif (decide ((b_13.toNat:Int) < 128))then (uq s_7 1 s_7.size).bind fun y_16=>(bif (decide ((y_16.size:Int) > 8))then (bu y_16).bind fun r_21=>some ((pq .u64 r_21 9259542123273814144) == 0)else some false).bind fun v_18=>(bif v_18 then (uq y_16 8 y_16.size).bind fun y_26=>(bif (decide ((y_26.size:Int) > 16))then (bu y_26).bind fun r_31=>(uq y_26 8 y_26.size).bind fun y_33=>(bu y_33).bind fun r_35=>some ((pq .u64 (orI .u64 r_31 r_35) 9259542123273814144) == 0)else some false).bind fun v_28=>bif v_28 then (uq y_26 16 y_26.size).bind fun y_38=>(pu y_38 (fun s=>fU s)).bind fun o_48=>thenC o_48 (fun s_45=>some s_45) (fun _=>none)else some y_26 else some y_16).bind fun v_23=>some (.go v_23)else none else some (.brk s_7)
theorem oC (s_7:ByteArray):Le (iE s_7) (eF s_7):=by
 unfold iE eF
 repeat' (with_reducible first | exact Le.refl _ | refine Le.loop (fun _ => ?_) | refine Le.forL (fun _ _ _ => ?_) | refine Le.thenC (fun _ => ?_) (fun _ => ?_) | refine Le.cond ?_ ?_ | refine Le.bind ?_ (fun _ => ?_))
def ji (s_1:ByteArray):Option (Bool) :=
 (pu s_1 (fun s=>iE s)).bind fun o_10=>thenC o_10 (fun s_7=>some true) (fun _=>none)
theorem qI (s_1:ByteArray):Le (ji s_1) (fI s_1):=by
 unfold ji fI
 repeat' (with_reducible first | exact Le.refl _ | exact oC _ | refine Le.loop (fun _ => ?_) | refine Le.forL (fun _ _ _ => ?_) | refine Le.thenC (fun _ => ?_) (fun _ => ?_) | refine Le.cond ?_ ?_ | refine Le.bind ?_ (fun _ => ?_))
def kr (s_1:ByteArray) (c_2:Int):Option (ByteArray) :=
 (pu s_1 (fun s=>ig c_2 s)).bind fun o_11=>thenC o_11 (fun s_8=>some s_8) (fun _=>none)
theorem sJ (s_1:ByteArray) (c_2:Int):Le (kr s_1 c_2) (strings_trimRightByte s_1 c_2):=by
 unfold kr strings_trimRightByte
 repeat' (with_reducible first | exact Le.refl _ | refine Le.loop (fun _ => ?_) | refine Le.forL (fun _ _ _ => ?_) | refine Le.thenC (fun _ => ?_) (fun _ => ?_) | refine Le.cond ?_ ?_ | refine Le.bind ?_ (fun _ => ?_))
def kN (s_1:ByteArray) (c_2:Int):Option (ByteArray) :=
 (pu s_1 (fun s=>iB c_2 s)).bind fun o_11=>thenC o_11 (fun s_8=>some s_8) (fun _=>none)
theorem tu (s_1:ByteArray) (c_2:Int):Le (kN s_1 c_2) (strings_trimLeftByte s_1 c_2):=by
 unfold kN strings_trimLeftByte
 repeat' (with_reducible first | exact Le.refl _ | refine Le.loop (fun _ => ?_) | refine Le.forL (fun _ _ _ => ?_) | refine Le.thenC (fun _ => ?_) (fun _ => ?_) | refine Le.cond ?_ ?_ | refine Le.bind ?_ (fun _ => ?_))
def sM (s_1:ByteArray) (cutset_2:ByteArray):Option (ByteArray) :=
 (bif (sEq s_1 (⟨#[]⟩:ByteArray))then some true else some (sEq cutset_2 (⟨#[]⟩:ByteArray))).bind fun v_3=>bif v_3 then some s_1 else (bif ((cutset_2.size:Int) == 1)then (pM cutset_2 0).bind fun b_10=>some (decide ((b_10.toNat:Int) < 128))else some false).bind fun v_7=>bif v_7 then (pM cutset_2 0).bind fun b_13=>(kr s_1 (b_13.toNat:Int)).bind fun r_15=>(pM cutset_2 0).bind fun b_17=>(kN r_15 (b_17.toNat:Int)).bind fun r_19=>some r_19 else none
theorem BH (s_1:ByteArray) (cutset_2:ByteArray):Le (sM s_1 cutset_2) (nX s_1 cutset_2):=by
 unfold sM nX
 repeat' (with_reducible first | exact Le.refl _ | exact sJ _ _ | exact tu _ _ | refine Le.loop (fun _ => ?_) | refine Le.forL (fun _ _ _ => ?_) | refine Le.thenC (fun _ => ?_) (fun _ => ?_) | refine Le.cond ?_ ?_ | refine Le.bind ?_ (fun _ => ?_))
def vC (s_1:ByteArray):Option (Bool) :=
 (pu 0 (fun s=>nQ s_1 s)).bind fun o_10=>thenC o_10 (fun s_7=>((ji s_1).bind fun r_23=>bif r_23 then (sM s_1 (⟨#[32]⟩:ByteArray)).bind fun r_26=>bif (sEq r_26 s_1)then (strings_Contains s_1 (⟨#[32,32]⟩:ByteArray)).bind fun r_29=>some (!r_29)else some false else some false).bind fun v_21=>some v_21) (fun r=>some r)
theorem C9 (s_1:ByteArray):Le (vC s_1) (o9 s_1):=by
 unfold vC o9
 repeat' (with_reducible first | exact Le.refl _ | exact qI _ | exact BH _ _ | refine Le.loop (fun _ => ?_) | refine Le.forL (fun _ _ _ => ?_) | refine Le.thenC (fun _ => ?_) (fun _ => ?_) | refine Le.cond ?_ ?_ | refine Le.bind ?_ (fun _ => ?_))
def nL (a_1:Alert):Option (Int) :=
 ((gY a_1.Id).bind fun r_5=>bif (!r_5)then some true else (gY a_1.Sender).bind fun r_8=>some (!r_8)).bind fun v_3=>bif v_3 then some 5 else (aN a_1.Kind 1 3).bind fun r_11=>bif r_11 then some 4 else (oI a_1).bind fun r_14=>bif (r_14 != 0)then some r_14 else ((di a_1.At).bind fun r_19=>bif (!r_19)then some true else (aN a_1.Until (w64 (a_1.At + 1)) (w64 (a_1.At + 2592000000))).bind fun r_22=>bif r_22 then some true else (aN a_1.Weight 1 9).bind fun r_25=>some r_25).bind fun v_17=>bif v_17 then some 1 else bif (decide ((a_1.Areas.length:Int) > 20))then some 2 else (forL a_1.Areas () (fun k x s=>jJ k x s)).bind fun o_37=>thenC o_37 (fun s_34=>bif (!((a_1.Kind == 3) == ((a_1.Areas.length:Int) == 0)))then some 3 else bif (decide ((a_1.Text.size:Int) > 500))then some 2 else ((vC a_1.Text).bind fun r_47=>bif (!r_47)then some true else bif (sEq a_1.Text (⟨#[]⟩:ByteArray))then some (!(a_1.Kind == 3))else some false).bind fun v_45=>bif v_45 then some 3 else some 0) (fun r=>some r)
theorem xX (a_1:Alert):Le (nL a_1) (jP a_1):=by
 unfold nL jP
 repeat' (with_reducible first | exact Le.refl _ | exact jC _ | exact y7 _ | exact C9 _ | refine Le.loop (fun _ => ?_) | refine Le.forL (fun _ _ _ => ?_) | refine Le.thenC (fun _ => ?_) (fun _ => ?_) | refine Le.cond ?_ ?_ | refine Le.bind ?_ (fun _ => ?_))
def kQ (l_1:(List Alert)) (k_3:Nat) (x_5:Alert) (s_8:Unit):Option (Ctl (Unit) (Int)) :=
 (nL x_5).bind fun r_14=>bif (r_14 != 0)then some (.ret r_14)else (bif (decide ((k_3:Int) > 0))then (idx l_1 (w64 ((k_3:Int) - 1))).bind fun y_20=>(oP y_20 x_5).bind fun r_22=>some (decide (r_22≥0))else some false).bind fun v_17=>bif v_17 then some (.ret 7)else some (.go ())
theorem tq (l_1:(List Alert)) (k_3:Nat) (x_5:Alert) (s_8:Unit):Le (kQ l_1 k_3 x_5 s_8) (iq l_1 k_3 x_5 s_8):=by
 unfold kQ iq
 repeat' (with_reducible first | exact Le.refl _ | exact xX _ | refine Le.loop (fun _ => ?_) | refine Le.forL (fun _ _ _ => ?_) | refine Le.thenC (fun _ => ?_) (fun _ => ?_) | refine Le.cond ?_ ?_ | refine Le.bind ?_ (fun _ => ?_))
def nk (l_1:(List Alert)):Option (Int) :=
 bif (decide ((l_1.length:Int) > 300))then some 2 else (forL l_1 () (fun k x s=>kQ l_1 k x s)).bind fun o_11=>thenC o_11 (fun s_8=>(forL l_1 ([]:List (ByteArray×Bool)) (fun k x s=>jD k x s)).bind fun o_34=>thenC o_34 (fun s_31=>some 0) (fun r=>some r)) (fun r=>some r)
theorem wR (l_1:(List Alert)):Le (nk l_1) (jv l_1):=by
 unfold nk jv
 repeat' (with_reducible first | exact Le.refl _ | exact tq _ _ _ _ | refine Le.loop (fun _ => ?_) | refine Le.forL (fun _ _ _ => ?_) | refine Le.thenC (fun _ => ?_) (fun _ => ?_) | refine Le.cond ?_ ?_ | refine Le.bind ?_ (fun _ => ?_))
def ll (l_1:(List Post)) (k_3:Nat) (x_5:Post) (s_8:Unit):Option (Ctl (Unit) (Int)) :=
 (gY x_5.Player).bind fun r_14=>bif (!r_14)then some (.ret 5)else ((aN x_5.X (-100000) 100000).bind fun r_19=>bif r_19 then some true else (aN x_5.Y (-100000) 100000).bind fun r_22=>some r_22).bind fun v_17=>bif v_17 then some (.ret 1)else (bif (decide ((k_3:Int) > 0))then (idx l_1 (w64 ((k_3:Int) - 1))).bind fun y_28=>some (sLe x_5.Player y_28.Player)else some false).bind fun v_25=>bif v_25 then some (.ret 7)else some (.go ())
theorem uE (l_1:(List Post)) (k_3:Nat) (x_5:Post) (s_8:Unit):Le (ll l_1 k_3 x_5 s_8) (iI l_1 k_3 x_5 s_8):=by
 unfold ll iI
 repeat' (with_reducible first | exact Le.refl _ | exact jC _ | refine Le.loop (fun _ => ?_) | refine Le.forL (fun _ _ _ => ?_) | refine Le.thenC (fun _ => ?_) (fun _ => ?_) | refine Le.cond ?_ ?_ | refine Le.bind ?_ (fun _ => ?_))
def nI (l_1:(List Post)):Option (Int) :=
 bif (decide ((l_1.length:Int) > 500))then some 2 else (forL l_1 () (fun k x s=>ll l_1 k x s)).bind fun o_11=>thenC o_11 (fun s_8=>some 0) (fun r=>some r)
theorem xM (l_1:(List Post)):Le (nI l_1) (jV l_1):=by
 unfold nI jV
 repeat' (with_reducible first | exact Le.refl _ | exact uE _ _ _ _ | refine Le.loop (fun _ => ?_) | refine Le.forL (fun _ _ _ => ?_) | refine Le.thenC (fun _ => ?_) (fun _ => ?_) | refine Le.cond ?_ ?_ | refine Le.bind ?_ (fun _ => ?_))
def oL (l_1:(List Alert)) (posts_2:(List Post)):Option (Int) :=
 (nk l_1).bind fun r_3=>bif (r_3 != 0)then some r_3 else (nI posts_2).bind fun r_6=>some r_6
theorem yM (l_1:(List Alert)) (posts_2:(List Post)):Le (oL l_1 posts_2) (kH l_1 posts_2):=by
 unfold oL kH
 repeat' (with_reducible first | exact Le.refl _ | exact wR _ | exact xM _ | refine Le.loop (fun _ => ?_) | refine Le.forL (fun _ _ _ => ?_) | refine Le.thenC (fun _ => ?_) (fun _ => ?_) | refine Le.cond ?_ ?_ | refine Le.bind ?_ (fun _ => ?_))
def qL (a_1:Alert) (p_2:Post):Option (Bool×Int) :=
 (oL ([a_1]:List Alert) ([p_2]:List Post)).bind fun r_5=>bif (r_5 != 0)then some (false,r_5)else (oV a_1 p_2).bind fun r_8=>some (r_8,0)
theorem Ab (a_1:Alert) (p_2:Post):Le (qL a_1 p_2) (mO a_1 p_2):=by
 unfold qL mO
 repeat' (with_reducible first | exact Le.refl _ | exact yM _ _ | refine Le.loop (fun _ => ?_) | refine Le.forL (fun _ _ _ => ?_) | refine Le.thenC (fun _ => ?_) (fun _ => ?_) | refine Le.cond ?_ ?_ | refine Le.bind ?_ (fun _ => ?_))
def wG  : Option (Bool) :=
 (uY ([(⟨0,0,2,2⟩:Rect),(⟨1,1,2,2⟩:Rect)]:List Rect)).bind fun r_1=>(qf (⟨(⟨#[97]⟩:ByteArray),(⟨#[98]⟩:ByteArray),0,0,0,1,127,([]:List Int),1,2,0,([]:List ByteArray),false⟩:Entry) 0 (⟨0,86400000⟩:Window)).bind fun r_3=>(vE (⟨(⟨#[97]⟩:ByteArray),(⟨#[]⟩:ByteArray),(⟨0,100⟩:Window),([]:List ByteArray),10,0,0⟩:Campaign) 50).bind fun r_5=>(uP ([(⟨(⟨#[112]⟩:ByteArray),0,100⟩:Beat),(⟨(⟨#[112]⟩:ByteArray),1000,1300⟩:Beat)]:List Beat) (⟨#[112]⟩:ByteArray) 700).bind fun r_7=>(qL (⟨(⟨#[97]⟩:ByteArray),(⟨#[115]⟩:ByteArray),1,([]:List ByteArray),0,5,1,([(⟨0,0,2,2⟩:Rect)]:List Rect),(⟨#[120]⟩:ByteArray)⟩:Alert) (⟨(⟨#[112]⟩:ByteArray),1,1⟩:Post)).bind fun r_10=>((xB ([r_1.2,r_3.2,r_5.2,r_7.2,r_10.2]:List Int)).bind fun r_14=>bif (r_14 == 0)then bif (r_1.1 == 7)then bif ((r_3.1.length:Int) == 1)then bif (r_5.1 == 5)then bif (r_7.1 == 500)then some r_10.1 else some false else some false else some false else some false else some false).bind fun v_12=>some v_12
theorem En  : Le (wG) (mY):=by
 unfold wG mY
 repeat' (with_reducible first | exact Le.refl _ | exact Dq _ | exact zi _ _ _ | exact DR _ _ | exact Cj _ _ _ | exact Ab _ _ | refine Le.loop (fun _ => ?_) | refine Le.forL (fun _ _ _ => ?_) | refine Le.thenC (fun _ => ?_) (fun _ => ?_) | refine Le.cond ?_ ?_ | refine Le.bind ?_ (fun _ => ?_))
end Go.Proofs.YtjhcehhmdmbleaaGreatDoor.Law

open Go Go.Eng
namespace Go.Proofs.YtjhcehhmdmbleaaGreatDoor.Law
set_option linter.unusedVariables false
set_option maxRecDepth 100000
theorem ready_F:wG=some true:=by kernel_rfl
theorem H8:mY=some true:=En _ ready_F
end Go.Proofs.YtjhcehhmdmbleaaGreatDoor.Law

