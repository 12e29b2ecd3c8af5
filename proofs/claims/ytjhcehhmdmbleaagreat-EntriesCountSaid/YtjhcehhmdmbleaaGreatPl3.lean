/-
  THE PLAIN LAW (part 3).
-/
import Derived.Test.YtjhcehhmdmbleaaGreatPl2
open Go Go.Eng
namespace Go.Proofs.YtjhcehhmdmbleaaGreat.Law
set_option linter.unusedVariables false
set_option linter.unusedSimpArgs false
noncomputable def delG {α:Type} (z:α) (f:α→Option Bool) (xs:List α):Option (List α) :=
 (ixF f xs).bind fun r=>bif (r == (-1))then some xs else (loopO (xs,r,(w64 (r + 1))) (fun s=>delBody f s)).bind fun o=>thenC o (fun s_12=>(subR s_12.1 s_12.2.1 (s_12.1.length:Int)).bind fun _=>(subR (s_12.1.take ((s_12.2.1).toNat)++List.replicate (((s_12.1.length:Int)).toNat - (s_12.2.1).toNat) z++s_12.1.drop (((s_12.2.1).toNat) + (((s_12.1.length:Int)).toNat - (s_12.2.1).toNat))) 0 s_12.2.1).bind fun _=>some ((s_12.1.take ((s_12.2.1).toNat)++List.replicate (((s_12.1.length:Int)).toNat - (s_12.2.1).toNat) z++s_12.1.drop (((s_12.2.1).toNat) + (((s_12.1.length:Int)).toNat - (s_12.2.1).toNat))).take ((s_12.2.1).toNat))) (fun _=>none)
theorem delG_eq {α:Type} {z:α} {f:α→Option Bool} {q:α→Bool} {xs:List α} (hf:∀ x∈xs,f x=some (q x)) (hl:xs.length≤1000000000):delG z f xs=some (xs.filter (fun x => !q x)):=by
 unfold delG
 rcases ixF_eq hf hl with⟨h1,h2⟩ | ⟨k,hk,h1,h2,h3⟩
 ·rw [h1,Option.bind_some,filter_all (fun x hx=>by rw [h2 x hx]; rfl)]; rfl
 ·have hne:((k:Int) == (-1))=false:=by simp
  have w1:w64 ((k:Int) + 1)=((k + 1:Nat):Int):=by rw [w64_id (by omega)]; omega
  obtain ⟨l',i',g1,g2,g3,g4⟩:=del_iter hf hl (xs.length - (k + 1)) xs k (k + 1) (by omega) (by omega) rfl (by
   rw [List.take_succ_eq_append_getElem hk,List.filter_append,filter_all (fun x hx=>by rw [h3 x hx]; rfl)]; simp [h2]) rfl
  have g1':=iter_loopO g1
  rw [h1,Option.bind_some,hne,cond_false,w1,g1',Option.bind_some,thenC_go]
  have hs1:subR l' (i':Int) (l'.length:Int)=some ():=by
   unfold subR; rw [if_pos ⟨by omega,by omega,by omega,by omega⟩]
  simp only [hs1,Option.bind_some,Int.toNat_natCast]
  generalize hL:(l'.take i'++List.replicate (l'.length - i') z++l'.drop (i' + (l'.length - i')))=L
  have hLt:L.take i'=l'.take i':=by
   rw [← hL,List.append_assoc,List.take_append_of_le_length (by rw [List.length_take]; omega),List.take_take,Nat.min_self]
  have hLl:i'≤L.length:=by
   rw [← hL]; simp only [List.length_append,List.length_take,List.length_replicate]; omega
  have hs2:subR L 0 (i':Int)=some ():=by
   unfold subR; rw [if_pos ⟨by omega,by omega,by omega,by omega⟩]
  rw [hs2,Option.bind_some,hLt,g4]
theorem spanL_mem {l:List Entry} {p:Player} {w:Window} {s:Span}:s∈spanL l p w ↔ ∃ e∈l,fitB e p=true ∧ ∃ x∈tiL e p.Zone w,s=⟨some e,x⟩:=by
 unfold spanL spanF
 rw [List.mem_flatMap]
 constructor
 ·rintro ⟨e,he,hs⟩
  cases hf:fitB e p with
  | false=>rw [hf]at hs; cases hs
  | true =>
   rw [hf,cond_true,List.mem_map]at hs
   obtain ⟨x,hx,rfl⟩:=hs
   exact⟨e,he,hf,x,hx,rfl⟩
 ·rintro ⟨e,he,hf,x,hx,rfl⟩
  refine⟨e,he,?_⟩
  rw [hf,cond_true]
  exact List.mem_map.2 ⟨x,hx,rfl⟩
theorem spanL_len {l:List Entry} {p:Player} (h:CE l p) (w:Window):(spanL l p w).length≤16004:=by
 have h1:=flat_len (l:=l) (f:=spanF p w) (n:=4001) (fun x hx=>spanF_len h w hx)
 have h2:=h.len
 have h3:l.length * 4001≤4 * 4001:=Nat.mul_le_mul_right _ h2
 unfold spanL
 omega
theorem span_cand {l:List Entry} {p:Player} (h:CE l p) {w:Window} {t:Int} {s:Span} (hs:s∈spanL l p w) (h1:s.f_time.From≤t) (h2:t < s.f_time.To):∃ x∈candL l p t,s=spanOf x:=by
 obtain ⟨e,he,hf,x,hx,rfl⟩:=spanL_mem.1 hs
 obtain ⟨d,d1,d2,d3,rfl⟩:=(tiL_mem (h.right e he)).1 hx
 obtain ⟨p1,p2,p3⟩:=pR_iff.1 d3
 have hh:hitB e p.Zone t d=true:=hitB_iff.2 ⟨p1,d1,d2,p2,h1,h2⟩
 exact⟨(e,tF e p.Zone d),candL_mem.2 ⟨he,hf,(begO_iff (h.right e he)).2 ⟨d,hh,rfl⟩⟩,rfl⟩
theorem cand_span {l:List Entry} {p:Player} (h:CE l p) {w:Window} {t:Int} (hw:w.From≤t∧t < w.To) {x:Entry×Int} (hx:x∈candL l p t):spanOf x∈spanL l p w∧(spanOf x).f_time.From≤t∧t < (spanOf x).f_time.To:=by
 obtain ⟨h1,h2,h3⟩:=candL_mem.1 hx
 obtain ⟨d,hd,hb⟩:=(begO_iff (h.right _ h1)).1 h3
 obtain ⟨g1,g2,g3,g4,g5,g6⟩:=hitB_iff.1 hd
 refine⟨spanL_mem.2 ⟨x.1,h1,h2,tW x.1 p.Zone d,(tiL_mem (h.right _ h1)).2 ⟨d,g2,g3,pR_iff.2 ⟨g1,g4,by omega⟩,rfl⟩,?_⟩,?_,?_⟩
 ·unfold spanOf
  rw [hb]; rfl
 ·show x.2≤t
  omega
 ·show t < x.2 + mins x.1 * 60000
  omega
structure ES (m:List Span) (w:Window) (E:List Int):Prop where
 from_:w.From∈E
 to_:w.To∈E
 in_:∀ x∈E,w.From≤x∧x≤w.To
 has:∀ s∈m,(cutW w s.f_time).From∈E∧(cutW w s.f_time).To∈E
theorem cut_in {l:List Entry} {p:Player} (h:CE l p) {w:Window} {s:Span} (hs:s∈spanL l p w):w.From≤(cutW w s.f_time).From∧(cutW w s.f_time).From≤w.To∧w.From≤(cutW w s.f_time).To∧(cutW w s.f_time).To≤w.To:=by
 obtain ⟨e,he,hf,x,hx,rfl⟩:=spanL_mem.1 hs
 obtain ⟨d,d1,d2,d3,rfl⟩:=(tiL_mem (h.right e he)).1 hx
 exact wants_in (h.right e he) ((wants_mem (h.right e he)).2 ⟨d,d1,d2,d3,rfl⟩)
theorem edges_ok {l:List Entry} {p:Player} (h:CE l p) {w:Window} (hok:WinOK w) (hw:w.From≤w.To):∃ C,schedule_Edges l p w=some C∧C.Pairwise (· < ·)∧ES (spanL l p w) w C∧C.length≤40000:=by
 have hl:=spanL_len h w
 unfold schedule_Edges
 rw [spans_eq h hok,Option.bind_some]
 obtain ⟨E,e1,e2,e3⟩:=forL_at (body:=fun k x s=>schedule_Edges_L1 w k x s) (fun k s=>ES ((spanL l p w).take k) w s∧s.length=2 + 2 * k) (xs:=spanL l p w) (s:=([w.From,w.To]:List Int)) (by omega) (fun k x s hx ⟨i1,i2⟩=>by
  have hk:k < (spanL l p w).length:=(List.getElem?_eq_some_iff.1 hx).1
  have et:(spanL l p w).take (k + 1)=(spanL l p w).take k ++ [x]:=by rw [List.take_add_one,hx]; rfl
  obtain ⟨b1,b2,b3,b4⟩:=cut_in h (List.mem_of_getElem? hx)
  unfold schedule_Edges_L1
  show ∃ s',((some (cutW w x.f_time)).bind fun r_22=>_)=_∧_
  rw [Option.bind_some,appL_ok _ _ (by simp only [List.length_cons,List.length_nil]; omega)]
  refine⟨_,rfl,⟨List.mem_append_left _ i1.from_,List.mem_append_left _ i1.to_,fun y hy => ?_,fun y hy => ?_⟩,?_⟩
  ·rcases List.mem_append.1 hy with hy | hy
   ·exact i1.in_ y hy
   ·simp only [List.mem_cons,List.not_mem_nil,or_false]at hy
    rcases hy with rfl | rfl <;> omega
  ·rw [et]at hy
   rcases List.mem_append.1 hy with hy | hy
   ·exact⟨List.mem_append_left _ (i1.has y hy).1,List.mem_append_left _ (i1.has y hy).2⟩
   ·rw [List.mem_singleton.1 hy]
    exact⟨List.mem_append_right _ (by simp),List.mem_append_right _ (by simp)⟩
  ·rw [List.length_append]; simp only [List.length_cons,List.length_nil]; omega) ⟨⟨by simp,by simp,fun x hx=>by
   simp only [List.mem_cons,List.not_mem_nil,or_false]at hx
   rcases hx with rfl | rfl <;> omega,fun e he=>(by cases he)⟩,by simp⟩
 rw [List.take_length]at e2
 rw [e1]
 simp only [Option.bind_some,thenC]
 have hne:neL E=some ():=by
  unfold neL
  have:=List.ne_nil_of_mem e2.from_
  first | rw [if_pos this] | (cases E with | nil=>exact absurd rfl this | cons a E=>rfl)
 obtain ⟨s,C,c1,c2,c3,c4,c5,c6⟩:=sortC E (by omega)
 have c2':sameL s E=some ():=by unfold sameL; rw [if_pos c2]
 rw [hne,Option.bind_some,c1,Option.bind_some,c2',Option.bind_some,c3,Option.bind_some]
 refine⟨C,rfl,c4,⟨(c5 _).2 e2.from_,(c5 _).2 e2.to_,fun x hx=>e2.in_ x ((c5 x).1 hx),fun e he => ?_⟩,by omega⟩
 obtain ⟨a,b⟩:=e2.has e he
 exact⟨(c5 _).2 a,(c5 _).2 b⟩
theorem minF_ok {xs:List Span} (hc:∀ a∈xs,∀ b∈xs,schedule_compare a b=some (cE (keyS a) (keyS b))) (hne:xs ≠ []) (hl:xs.length≤1000000):∃ m,slices_MinFunc_schedule_span_schedule_span_v1 xs=some m∧m∈xs ∧ ∀ s∈xs,befE (keyS s) (keyS m)=false:=by
 have hpos:0 < xs.length:=List.length_pos_iff.2 hne
 have h0:xs[(0 + (0:Int).toNat)]? = some xs[0]:=List.getElem?_eq_getElem hpos
 unfold slices_MinFunc_schedule_span_schedule_span_v1
 rw [decide_eq_false (by omega),cond_false,Option.bind_some,inR_ok (by omega) (by omega),Option.bind_some,h0,Option.bind_some]
 obtain ⟨s,s1,s2⟩:=loopO_inv (body:=fun s=>slices_MinFunc_schedule_span_schedule_span_v1_L1 xs s) (fun k s=>s.1=((k + 1:Nat):Int) ∧ ∃ m,s.2=(m.f_e,m.f_time.From,m.f_time.To)∧m∈xs ∧ ∀ (j:Nat) (y:Span),j≤k→xs[j]? = some y→befE (keyS y) (keyS m)=false) (xs.length - 1) (fun k s hk ⟨i1,m,i2,i3,i4⟩=>by
  obtain ⟨i,t⟩:=s
  simp only at i1 i2
  subst i1 i2
  have hkl:k + 1 < xs.length:=by omega
  have hx:xs[(0 + (((k + 1:Nat):Int)).toNat)]? = some xs[k + 1]:=by rw [show 0 + (((k + 1:Nat):Int)).toNat=k + 1 by omega]; exact List.getElem?_eq_getElem hkl
  have hm:=List.getElem_mem hkl
  have hcm:schedule_compare xs[k + 1] (⟨m.f_e,(⟨m.f_time.From,m.f_time.To⟩:Window)⟩:Span)=some (cE (keyS xs[k + 1]) (keyS m)):=hc _ hm _ i3
  have w1:w64 (((k + 1:Nat):Int) + 1)=((k + 1 + 1:Nat):Int):=by rw [w64_id (by omega)]; omega
  unfold slices_MinFunc_schedule_span_schedule_span_v1_L1
  simp only []
  rw [decide_eq_true (by omega),cond_true,inR_ok (by omega) (by omega),Option.bind_some,hx,Option.bind_some,hcm,Option.bind_some,w1]
  by_cases hlt:cE (keyS xs[k + 1]) (keyS m) < 0
  ·rw [decide_eq_true hlt,cond_true]
   simp only [Option.bind_some]
   refine⟨_,rfl,rfl,xs[k + 1],rfl,hm,fun j y hj hy => ?_⟩
   cases hb:befE (keyS y) (keyS xs[k + 1])with
   | false=>rfl
   | true =>
    by_cases hjk:j=k + 1
    ·subst hjk
     rw [List.getElem?_eq_getElem hkl,Option.some.injEq]at hy
     rw [← hy,befE_irr]at hb; cases hb
    ·have h1:=i4 j y (by omega) hy
     rw [befE_trans _ _ _ hb (cE_neg.1 hlt)]at h1; cases h1
  ·rw [decide_eq_false hlt,cond_false]
   simp only [Option.bind_some]
   refine⟨_,rfl,rfl,m,rfl,i3,fun j y hj hy => ?_⟩
   by_cases hjk:j=k + 1
   ·subst hjk
    rw [List.getElem?_eq_getElem hkl,Option.some.injEq]at hy
    rw [← hy]
    cases hb:befE (keyS xs[k + 1]) (keyS m)with
    | false=>rfl
    | true=>exact absurd (cE_neg.2 hb) hlt
   ·exact i4 j y (by omega) hy) (fun s ⟨i1,m,i2,i3,i4⟩=>by
  obtain ⟨i,t⟩:=s
  simp only at i1 i2
  subst i1 i2
  unfold slices_MinFunc_schedule_span_schedule_span_v1_L1
  simp only []
  rw [decide_eq_false (by omega),cond_false]) (s:=(1,xs[0].f_e,xs[0].f_time.From,xs[0].f_time.To)) ⟨rfl,xs[0],rfl,List.getElem_mem hpos,fun j y hj hy=>by
   obtain rfl:j=0:=by omega
   rw [List.getElem?_eq_getElem hpos,Option.some.injEq]at hy
   rw [← hy,befE_irr]⟩
 obtain ⟨i1,m,i2,i3,i4⟩:=s2
 obtain ⟨i,t⟩:=s
 simp only at i1 i2
 subst i2
 rw [s1]
 refine⟨m,rfl,i3,fun y hy => ?_⟩
 obtain ⟨j,hj⟩:=List.getElem?_of_mem hy
 have hjl:j < xs.length:=(List.getElem?_eq_some_iff.1 hj).1
 exact i4 j y (by omega) hj
theorem key_open {l:List Entry} {p:Player} (h:CE l p) {w:Window} {t:Int} (hw:w.From≤t∧t < w.To) {xs:List Span} (hx:∀ s,s∈xs↔s∈spanL l p w∧s.f_time.From≤t∧t < s.f_time.To) (hl:xs.length≤1000000) :
  (bif (decide ((xs.length:Int) > 0))then (neL xs).bind fun _=>(slices_MinFunc_schedule_span_schedule_span_v1 xs).bind fun r_73=>(r_73.f_e).bind fun y_75=>some y_75.Key else some (⟨#[]⟩:ByteArray))=some (keyAt l p t):=by
 cases hxs:xs with
 | nil =>
  have hn:candL l p t = []:=List.eq_nil_iff_forall_not_mem.2 (fun x hc=>by
   have:=(hx _).2 (cand_span h hw hc)
   rw [hxs]at this; cases this)
  rw [key_of_nil hn]; rfl
 | cons a r =>
  have hsp:∀ s∈xs,∃ x∈candL l p t,s=spanOf x:=fun s hs=>by
   obtain ⟨h1,h2,h3⟩:=(hx s).1 hs
   exact span_cand h h1 h2 h3
  obtain ⟨m,m1,m2,m3⟩:=minF_ok (xs:=xs) (fun a ha b hb=>by
   obtain ⟨x,_,rfl⟩:=hsp a ha
   obtain ⟨y,_,rfl⟩:=hsp b hb
   exact compareS_eq x y) (by rw [hxs]; simp) hl
  obtain ⟨x,x1,rfl⟩:=hsp m m2
  rw [← hxs,decide_eq_true (by rw [hxs]; simp only [List.length_cons]; omega),cond_true]
  have hne:neL xs=some ():=by rw [hxs]; rfl
  rw [hne,Option.bind_some,m1,Option.bind_some]
  show (some x.1).bind _=_
  rw [Option.bind_some,key_of_min h.keys p t x1 (fun y hy=>m3 _ ((hx _).2 (cand_span h hw hy)))]
theorem inner_ok {all:List Span} {E:List Int} {i:Nat} {a:Int} (ha:E[i]? = some a) (hl:all.length≤1000000) (st:(List Slot_)×(List Span)×Int×Int) (hst:st.2.2.2=(i:Int)) {op:List Span} {nx:Nat} (hnx:nx≤all.length) (hop:op.length≤nx) :
  ∃ n',nx≤n'∧n'≤all.length∧loopO (op,(nx:Int)) (fun s=>schedule_through_L1 all E st s)=some (.go (op++(all.drop nx).take (n' - nx),(n':Int)))∧(∀ s∈(all.drop nx).take (n' - nx),s.f_time.From≤a)∧(∀ s,all[n']? = some s→a < s.f_time.From):=by
 have htw:∃ N,N≤(all.drop nx).length∧(∀ s∈(all.drop nx).take N,s.f_time.From≤a)∧(∀ s,(all.drop nx)[N]? = some s→a < s.f_time.From):=by
  generalize all.drop nx=ys
  induction ys with
  | nil=>exact⟨0,Nat.le_refl _,fun s hs=>(by cases hs),fun s hs=>(by cases hs)⟩
  | cons y ys ih =>
   by_cases hy:y.f_time.From≤a
   ·obtain ⟨N,n1,n2,n3⟩:=ih
    refine⟨N + 1,by simpa using n1,fun s hs => ?_,fun s hs=>n3 s (by simpa using hs)⟩
    rw [List.take_succ_cons]at hs
    rcases List.mem_cons.1 hs with rfl | hs
    ·exact hy
    ·exact n2 s hs
   ·exact⟨0,Nat.zero_le _,fun s hs=>(by cases hs),fun s hs=>by
     rw [List.getElem?_cons_zero,Option.some.injEq]at hs; rw [← hs]; omega⟩
 obtain ⟨N,n1,n2,n3⟩:=htw
 rw [List.length_drop]at n1
 refine⟨nx + N,by omega,by omega,?_,by rw [show nx + N - nx=N by omega]; exact n2,fun s hs=>n3 s (by rw [List.getElem?_drop]; exact hs)⟩
 rw [show nx + N - nx=N by omega]
 obtain ⟨s,s1,s2,s3⟩:=loopO_inv (body:=fun s=>schedule_through_L1 all E st s) (fun k s=>s.1=op++(all.drop nx).take k∧s.2=((nx + k:Nat):Int)) N (fun k s hk ⟨i1,i2⟩=>by
  obtain ⟨o,n⟩:=s
  simp only at i1 i2
  subst i1 i2
  have hkl:nx + k < all.length:=by omega
  have hx:all[(0 + (((nx + k:Nat):Int)).toNat)]? = some all[nx + k]:=by rw [show 0 + (((nx + k:Nat):Int)).toNat=nx + k by omega]; exact List.getElem?_eq_getElem hkl
  have hd:(all.drop nx)[k]? = some all[nx + k]:=by rw [List.getElem?_drop]; exact List.getElem?_eq_getElem hkl
  have hfr:all[nx + k].f_time.From≤a:=n2 _ (List.mem_of_getElem? (i:=k) (by rw [List.getElem?_take,if_pos hk]; exact hd))
  have et:(all.drop nx).take (k + 1)=(all.drop nx).take k ++ [all[nx + k]]:=by rw [List.take_add_one,hd]; rfl
  have hlen:((all.drop nx).take k).length≤all.length:=by rw [List.length_take,List.length_drop]; omega
  have w1:w64 (((nx + k:Nat):Int) + 1)=((nx + (k + 1):Nat):Int):=by rw [w64_id (by omega)]; omega
  unfold schedule_through_L1
  simp only []
  rw [decide_eq_true (by omega),cond_true,inR_ok (by omega) (by omega),Option.bind_some,hx,Option.bind_some,hst,idx_nat,ha,Option.bind_some,Option.bind_some,decide_eq_true hfr,cond_true,Option.bind_some,Option.bind_some,appL_ok _ _ (by rw [List.length_append]; simp only [List.length_cons,List.length_nil]; omega),Option.bind_some,w1]
  exact⟨_,rfl,by simp only []; rw [et,List.append_assoc],rfl⟩) (fun s ⟨i1,i2⟩=>by
  obtain ⟨o,n⟩:=s
  simp only at i1 i2
  subst i1 i2
  unfold schedule_through_L1
  simp only []
  by_cases hend:nx + N < all.length
  ·have hx:all[(0 + (((nx + N:Nat):Int)).toNat)]? = some all[nx + N]:=by rw [show 0 + (((nx + N:Nat):Int)).toNat=nx + N by omega]; exact List.getElem?_eq_getElem hend
   have hfr:=n3 all[nx + N] (by rw [List.getElem?_drop]; exact List.getElem?_eq_getElem hend)
   rw [decide_eq_true (by omega),cond_true,inR_ok (by omega) (by omega),Option.bind_some,hx,Option.bind_some,hst,idx_nat,ha,Option.bind_some,Option.bind_some,decide_eq_false (by omega),cond_false]
  ·rw [decide_eq_false (by omega),cond_false,Option.bind_some,cond_false]) (s:=(op,(nx:Int))) ⟨by simp,by simp⟩
 obtain ⟨o,n⟩:=s
 simp only at s2 s3
 rw [s1,s2,s3]
theorem delNil (E:List Int) (i:Int):slices_DeleteFunc_schedule_span_schedule_span_v2 E i=some ():=by
 have:slices_IndexFunc_schedule_span_schedule_span ([]:List Span) (fun x0=>schedule_through_2 x0 E i)=some (-1):=by
  unfold slices_IndexFunc_schedule_span_schedule_span
  rw [forL_eq (by simp)]; rfl
 unfold slices_DeleteFunc_schedule_span_schedule_span_v2
 rw [this]; rfl
theorem delS {E:List Int} {i:Nat} {a:Int} (ha:E[i]? = some a) {xs:List Span} (hl:xs.length≤1000000):slices_DeleteFunc_schedule_span_schedule_span_v1 xs E (i:Int)=some (xs.filter (fun s => !decide (s.f_time.To≤a))):=by
 have e:slices_DeleteFunc_schedule_span_schedule_span_v1 xs E (i:Int)=delG (⟨none,(⟨0,0⟩:Window)⟩:Span) (fun e=>schedule_through_2 e E (i:Int)) xs:=rfl
 rw [e]
 refine delG_eq (fun x _ => ?_) (by omega)
 unfold schedule_through_2
 rw [idx_nat,ha]; rfl
theorem through_go {l:List Entry} {p:Player} (h:CE l p) {w:Window} (hok:WinOK w) (hw:w.From≤w.To):∃ t,schedule_through l p w=some t∧Tiles (keyAt l p) w.To w.From t∧t.length≤40000:=by
 have hsl:=spanL_len h w
 obtain ⟨C,c1,c2,c3,c4⟩:=edges_ok h hok hw
 obtain ⟨d1,d2⟩:=tile_ends c2 c3.from_ c3.to_ c3.in_
 obtain ⟨all,a1,a2,a3⟩:=sortF_some (F:=fun a b=>schedule_through_1 a b) (fun a b=>cmpI a.f_time.From b.f_time.From) (xs:=spanL l p w) (by omega) (fun a _ b _=>by
  unfold schedule_through_1; rw [cmpInt_eq]; rfl) (fun a _=>by rw [cmpI_neg]; omega) (fun a _ b _ d _ h1 h2=>by rw [cmpI_neg]at *; omega) (fun a _ b _ d _ h1 h2=>by rw [cmpI_neg]at *; omega)
 have a3':all.Pairwise (fun a b=>a.f_time.From≤b.f_time.From):=a3.imp (fun {a b} q=>by rw [cmpI_neg]at q; omega)
 have hal:all.length≤16004:=by rw [a2.length_eq]; exact hsl
 have hsort:slices_sort_by_schedule_through_1 (spanL l p w)=some all:=a1
 have hsame:sameL all (spanL l p w)=some ():=by unfold sameL; rw [if_pos a2.length_eq]
 unfold schedule_through
 rw [spans_eq h hok,Option.bind_some,hsort,Option.bind_some,hsame,Option.bind_some,c1,Option.bind_some]
 have hlen:0 < C.length:=(List.getElem?_eq_some_iff.1 d1).1
 have hedge:∀ (i:Nat) (a b:Int),C[i]? = some a→C[i + 1]? = some b → ∀ t,a≤t→t < b→keyAt l p t=keyAt l p a:=fun i a b ha hb' t t1 t2=>key_edge h.right c2 c3.in_ (fun e he hf x hx=>by
  obtain ⟨d,q1,q2,q3,rfl⟩:=(wants_mem (h.right e he)).1 hx
  exact c3.has ⟨some e,tW e p.Zone d⟩ (spanL_mem.2 ⟨e,he,hf,tW e p.Zone d,(tiL_mem (h.right e he)).2 ⟨d,q1,q2,q3,rfl⟩,rfl⟩)) ha hb' t1 t2
 obtain ⟨s,s1,s2⟩:=loopO_inv (body:=fun s=>schedule_through_L2 C all s) (fun k s=>s.2.2.2=(k:Int)∧s.1.length≤k ∧ ∃ (a:Int) (nx:Nat),C[k]? = some a∧Tiles (keyAt l p) a w.From s.1∧s.2.2.1=(nx:Int)∧nx≤all.length∧s.2.1.length≤nx∧(∀ x∈s.2.1,x∈all.take nx)∧(∀ x∈all.take nx,x.f_time.From≤a∧(x∈s.2.1∨x.f_time.To≤a))) (C.length - 1) (fun k s hk ⟨i1,i2,a,nx,i3,i4,i5,i6,i7,i8,i9⟩=>by
  have hst:=i1
  obtain ⟨out,op,n,i⟩:=s
  simp only at i1 i2 i4 i5 i7 i8 i9
  subst i1 i5
  have hb:C[k + 1]? = some C[k + 1]:=List.getElem?_eq_getElem (by omega)
  have hab:=tile_next c2 i3 hb
  have ain:=c3.in_ a (List.mem_of_getElem? i3)
  have bin:=c3.in_ C[k + 1] (List.getElem_mem _)
  obtain ⟨n',m1,m2,m3,m4,m5⟩:=inner_ok i3 (by omega) (out,op,(nx:Int),(k:Int)) rfl i6 i7
  have etk:all.take n'=all.take nx++(all.drop nx).take (n' - nx):=by
   have:=List.take_append_drop nx (all.take n')
   rw [List.take_take,Nat.min_eq_left m1,List.drop_take]at this
   exact this.symm
  have hmem:∀ x,x∈(op++(all.drop nx).take (n' - nx)).filter (fun s => !decide (s.f_time.To≤a))↔x∈spanL l p w∧x.f_time.From≤a∧a < x.f_time.To:=fun x=>by
   rw [List.mem_filter,List.mem_append,← a2.mem_iff]
   constructor
   ·rintro ⟨h1,h2⟩
    have hto:a < x.f_time.To:=by simpa using h2
    rcases h1 with h1 | h1
    ·have:=i8 x h1
     exact⟨List.mem_of_mem_take this,(i9 x this).1,hto⟩
    ·exact⟨List.mem_of_mem_drop (List.mem_of_mem_take h1),m4 x h1,hto⟩
   ·rintro ⟨h1,h2,h3⟩
    refine⟨?_,by simpa using h3⟩
    have hin:x∈all.take n':=by
     obtain ⟨j,hj⟩:=List.getElem?_of_mem h1
     have hjl:=(List.getElem?_eq_some_iff.1 hj).1
     by_cases hjn:j < n'
     ·exact List.mem_of_getElem? (i:=j) (by rw [List.getElem?_take,if_pos hjn]; exact hj)
     ·exfalso
      have hn:n' < all.length:=by omega
      have h5:=m5 all[n'] (List.getElem?_eq_getElem hn)
      by_cases e:j=n'
      ·subst e
       rw [List.getElem?_eq_getElem hn,Option.some.injEq]at hj
       rw [hj]at h5; omega
      ·have:=List.pairwise_iff_getElem.1 a3' n' j hn hjl (by omega)
       rw [List.getElem?_eq_getElem hjl,Option.some.injEq]at hj
       rw [hj]at this; omega
    rw [etk]at hin
    rcases List.mem_append.1 hin with hin | hin
    ·rcases (i9 x hin).2 with q | q
     ·exact .inl q
     ·omega
    ·exact .inr hin
  have hol:(op++(all.drop nx).take (n' - nx)).length≤n':=by rw [List.length_append,List.length_take,List.length_drop]; omega
  have hfl:=List.length_filter_le (fun s:Span => !decide (s.f_time.To≤a)) (op++(all.drop nx).take (n' - nx))
  have hleL:leL ((op++(all.drop nx).take (n' - nx)).filter (fun s => !decide (s.f_time.To≤a))) (op++(all.drop nx).take (n' - nx))=some ():=by unfold leL; rw [if_pos hfl]
  have hkey:=key_open h (t:=a) ⟨ain.1,by omega⟩ hmem (by omega)
  have w1:w64 ((k:Int) + 1)=((k + 1:Nat):Int):=by rw [w64_id (by omega)]; omega
  have hput:=putC_eq (keyAt l p a) a C[k + 1] out (by omega)
  have hgo:schedule_through_L2 C all (out,op,(nx:Int),(k:Int))=(putC (keyAt l p a) a C[k + 1] out).bind fun v=>some (.go (v,(op++(all.drop nx).take (n' - nx)).filter (fun s => !decide (s.f_time.To≤a)),(n':Int),((k + 1:Nat):Int))):=by
   unfold schedule_through_L2
   simp only []
   rw [w1,decide_eq_true (by omega),cond_true,m3,Option.bind_some]
   simp only [thenC]
   rw [delS i3 (by omega),Option.bind_some,hleL,Option.bind_some,delNil,Option.bind_some,hkey,Option.bind_some,idx_nat,idx_nat,hb,i3]
   simp only [Option.bind_some]
   unfold putC
   generalize (bif decide (w64 ((out.length:Int) - 1)≥0)then _ else _:Option Bool)=c
   cases c with
   | none=>rfl
   | some c =>
    cases c with
    | false =>
     simp only [Option.bind_some,cond_false]
    | true =>
     simp only [Option.bind_some,cond_true]
  rw [hgo,hput]
  refine⟨_,rfl,rfl,?_,_,n',hb,?_,rfl,m2,?_,fun x hx => ?_,fun x hx => ?_⟩
  ·simp only []
   have:=addS_len (keyAt l p a) a C[k + 1] out
   omega
  ·exact Tiles.add hab (fun t t1 t2=>hedge k a _ i3 hb t t1 t2) out w.From i4
  ·simp only []; omega
  ·obtain ⟨h1,h2⟩:=List.mem_filter.1 hx
   rw [etk]
   rcases List.mem_append.1 h1 with h1 | h1
   ·exact List.mem_append_left _ (i8 x h1)
   ·exact List.mem_append_right _ h1
  ·rw [etk]at hx
   have h1:x.f_time.From≤a∧(x∈op++(all.drop nx).take (n' - nx)∨x.f_time.To≤a):=by
    rcases List.mem_append.1 hx with hx | hx
    ·refine⟨(i9 x hx).1,?_⟩
     rcases (i9 x hx).2 with q | q
     ·exact .inl (List.mem_append_left _ q)
     ·exact .inr q
    ·exact⟨m4 x hx,.inl (List.mem_append_right _ hx)⟩
   refine⟨by omega,?_⟩
   by_cases hto:x.f_time.To≤a
   ·exact .inr (by omega)
   ·rcases h1.2 with q | q
    ·exact .inl (List.mem_filter.2 ⟨q,by simpa using hto⟩)
    ·exact absurd q hto) (fun s ⟨i1,i2,a,nx,i3,i4,i5,i6,i7,i8,i9⟩=>by
  obtain ⟨out,op,n,i⟩:=s
  simp only at i1
  subst i1
  unfold schedule_through_L2
  simp only []
  rw [w64_id (by omega),decide_eq_false (by omega),cond_false]) (s:=(([]:List Slot_),([]:List Span),0,0)) ⟨rfl,Nat.le_refl _,w.From,0,d1,by unfold Tiles; rfl,rfl,Nat.zero_le _,Nat.le_refl _,fun x hx=>(by cases hx),fun x hx=>(by cases hx)⟩
 obtain ⟨i1,i2,a,nx,i3,i4,_⟩:=s2
 rw [d2,Option.some.injEq]at i3
 rw [s1]
 exact⟨s.1,rfl,by rw [i3]; exact i4,by omega⟩
end Go.Proofs.YtjhcehhmdmbleaaGreat.Law

open Go Go.Eng
namespace Go.Proofs.YtjhcehhmdmbleaaGreat.Law
set_option linter.unusedVariables false
set_option linter.unusedSimpArgs false
def entStp (last:ByteArray) (x:Entry):Int:=bif entF x == 0 then (bif sLe x.Key last then 7 else 0)else entF x
def entsV (l:List Entry):Int:=chk (fun e:Entry=>e.Key) entStp nilS l
theorem entsK {l:List Entry} (h:∀ e∈l,GoodE e) (hl:l.length≤100):schedule_CheckEntries l=some (entsV l):=by
 unfold schedule_CheckEntries entsV
 rw [decide_eq_false (by omega),cond_false,forL_eq (by omega),chk_prev (key:=fun e:Entry=>e.Key) (stp:=entStp) l l 0 rfl (fun k x hx => ?_)]
 ·simp only [Option.bind_some,outC_then]; rfl
 ·unfold schedule_CheckEntries_L1 entStp
  rw [entK x (h x (List.mem_of_getElem? hx)),Option.bind_some]
  cases he:entF x == 0 with
  | false =>
   have:(entF x != 0)=true:=by simp [bne,he]
   rw [this,cond_true,cond_false]
   unfold outC; rw [he]; rfl
  | true =>
   have:(entF x != 0)=false:=by simp [bne,he]
   have hk:=entF_key (eq_of_beq he)
   rw [this,cond_false,cond_true]
   have h2:=prev_test (key:=fun e:Entry=>e.Key) hx (by omega) hk
   rw [h2,Option.bind_some]
   cases sLe x.Key (prevK (fun e:Entry=>e.Key) l k) <;> rfl
theorem entsR {l:List Entry} (h:∀ e∈l,GoodE e) (hl:l.length≤100):ref_EntriesFault l=some (entsV l):=by
 unfold ref_EntriesFault entsV
 rw [decide_eq_false (by omega),cond_false,forL_eq (by omega)]
 obtain ⟨o,o1,o2⟩:=chk_last (key:=fun e:Entry=>e.Key) (stp:=entStp) (body:=fun k x s=>ref_EntriesFault_L1 k x s) l 0 nilS (fun k x last hx=>by
  unfold ref_EntriesFault_L1 entStp
  rw [entR x (h x hx),Option.bind_some]
  cases he:entF x == 0 with
  | false =>
   have:(entF x != 0)=true:=by simp [bne,he]
   rw [this,cond_true,cond_false,he]; rfl
  | true =>
   have:(entF x != 0)=false:=by simp [bne,he]
   rw [this,cond_false,cond_true]
   cases sLe x.Key last <;> rfl)
 have o1':forR (fun k x s=>ref_EntriesFault_L1 k x s) l 0 (⟨#[]⟩:ByteArray)=some o:=o1
 rw [o1',Option.bind_some,o2]
theorem ents_rise:∀ (l:List Entry) (last:ByteArray),chk (fun e:Entry=>e.Key) entStp last l=0→(∀ e∈l,entF e=0∧lt last e.Key)∧l.Pairwise (fun a b=>lt a.Key b.Key)
 | [],last,_=>⟨fun e he=>(by cases he),.nil⟩
 | x::xs,last,h=>by
  unfold chk at h
  cases h0:entStp last x == 0 with
  | false=>rw [h0,cond_false]at h; rw [h]at h0; cases h0
  | true =>
   rw [h0,cond_true]at h
   obtain ⟨i1,i2⟩:=ents_rise xs x.Key h
   have h0:=eq_of_beq h0
   unfold entStp at h0
   cases he:entF x == 0 with
   | false=>rw [he,cond_false]at h0; rw [h0]at he; cases he
   | true =>
    rw [he,cond_true]at h0
    have hlt:lt last x.Key:=by
     cases hs:sLe x.Key last with
     | true=>rw [hs]at h0; cases h0
     | false =>
      rcases lt_tri last x.Key with q | q | q
      ·exact q
      ·have:=(sLe_iff x.Key last).2 (by rw [q]; exact lt_irr _)
       rw [hs]at this; cases this
      ·have:=(sLe_iff x.Key last).2 (fun k=>lt_irr _ (lt_trans q k))
       rw [hs]at this; cases this
    refine⟨fun e hm => ?_,List.pairwise_cons.2 ⟨fun e hm=>(i1 e hm).2,i2⟩⟩
    rcases List.mem_cons.1 hm with rfl | hm
    ·exact⟨eq_of_beq he,hlt⟩
    ·exact⟨(i1 e hm).1,lt_trans hlt (i1 e hm).2⟩
theorem ce_of {l:List Entry} {p:Player} (hg:∀ e∈l,GoodE e) (hl:l.length≤4) (h:entsV l=0) (hp:playF p=0):CE l p:=by
 obtain ⟨h1,h2⟩:=ents_rise l nilS h
 have hz:outB p.Zone (-1440) 1440=false∧tagsF p.Tags=0:=by
  unfold playF at hp
  cases hk:(!keyB p.Key || !keyB p.Screen)with
  | true=>rw [hk]at hp; cases hp
  | false =>
   rw [hk,cond_false]at hp
   cases ho:outB p.Zone (-1440) 1440 with
   | true=>rw [ho]at hp; cases hp
   | false=>rw [ho]at hp; exact⟨rfl,hp⟩
 refine⟨fun e he=>entF_0 (h1 e he).1,fun e he=>by have:=(hg e he).2.2.2.1; omega,hl,?_,fun e he hk => ?_,outB_f hz.1,hz.2⟩
 ·unfold List.Nodup
  rw [List.pairwise_map]
  exact h2.imp (fun {a b} q=>fun (e:a.Key=b.Key)=>lt_irr b.Key (by rw [e]at q; exact q))
 ·exact entF_key (h1 e he).1 (by rw [hk]; rfl)
def moF (t:Int):Int:=bif outB t 0 345686399999 then 1 else 0
theorem moF_0 {t:Int} (h:moF t=0):0≤t∧t < 345686400000:=by
 unfold moF at h
 cases ho:outB t 0 345686399999 with
 | true=>rw [ho]at h; cases h
 | false=>have:=outB_f ho; omega
theorem moK (t:Int):kit_IsMoment t=some (!outB t 0 345686399999):=by
 have e:(!outB t 0 345686399999)=(decide (t≥0) && decide (t < 345686400000)):=by
  unfold outB
  rw [Bool.eq_iff_iff]
  simp only [Bool.not_eq_true',Bool.or_eq_false_iff,decide_eq_false_iff_not,Bool.and_eq_true,decide_eq_true_eq]
  omega
 unfold kit_IsMoment
 rw [e]
 cases decide (t≥0) <;> cases decide (t < 345686400000) <;> rfl
def faV (l:List Entry) (p:Player) (t:Int):Int:=or0 (entsV l) (or0 (playF p) (moF t))
theorem momentK {l:List Entry} {p:Player} (h:∀ e∈l,GoodE e) (hl:l.length≤100) (hp:GoodP p) (t:Int):schedule_momentFault l p t=some (faV l p t):=by
 unfold schedule_momentFault faV or0 moF
 rw [entsK h hl,Option.bind_some,playK p hp,Option.bind_some,moK,Option.bind_some]
 cases h1:entsV l == 0 with
 | false =>
  have:(entsV l != 0)=true:=by simp [bne,h1]
  rw [this]; rfl
 | true =>
  have:(entsV l != 0)=false:=by simp [bne,h1]
  rw [this]
  cases h2:playF p == 0 with
  | false =>
   have:(playF p != 0)=true:=by simp [bne,h2]
   rw [this]; rfl
  | true =>
   have:(playF p != 0)=false:=by simp [bne,h2]
   rw [this]
   cases outB t 0 345686399999 <;> rfl
theorem tiles_next {f:Int→ByteArray} {T F:Int} {x:Slot_} {r:List Slot_} (h:Tiles f T F (x::r)):(r = [] ∧ ∀ t,F≤t→t < T→f t=f F) ∨ ∃ y r',r=y::r'∧F < y.Time.From∧y.Time.From < T∧f y.Time.From≠f F ∧ ∀ t,F≤t→t < y.Time.From→f t=f F:=by
 unfold Tiles at h
 obtain ⟨h1,h2,h3,h4,h5,h6⟩:=h
 have hx:=h4 F (Int.le_refl _) h2
 cases r with
 | nil =>
  unfold Tiles at h6
  exact .inl ⟨rfl,fun t t1 t2=>by rw [hx]; exact h4 t t1 (by omega)⟩
 | cons y r' =>
  have h7:=h6
  unfold Tiles at h6
  have hy:=h6.2.2.2.1 y.Time.From (by omega) (by omega)
  refine .inr ⟨y,r',rfl,by omega,by omega,?_,fun t t1 t2=>by rw [hx]; exact h4 t t1 (by omega)⟩
  rw [hy,hx]; exact h5 y rfl
theorem tiles_ne {f:Int→ByteArray} {T F:Int} (hF:F < T) {a:List Slot_} (h:Tiles f T F a):∃ x r,a=x::r:=by
 cases a with
 | nil=>unfold Tiles at h; omega
 | cons x r=>exact⟨x,r,rfl⟩
theorem next_same {f:Int→ByteArray} {T T' F:Int} (hF:F < T) (hT:T≤T') {a b:List Slot_} (ha:Tiles f T F a) (hb:Tiles f T' F b) :
  (∃ x y r x' y' r',a=x::y::r∧b=x'::y'::r'∧y.Time.From=y'.Time.From∧y.Time.From < T)∨((∃ x,a = [x])∧((∃ x,b = [x]) ∨ ∃ x' y' r',b=x'::y'::r'∧T≤y'.Time.From∧T < T')):=by
 obtain ⟨x,r,rfl⟩:=tiles_ne hF ha
 obtain ⟨x',r',rfl⟩:=tiles_ne (by omega) hb
 rcases tiles_next ha with⟨rfl,a1⟩ | ⟨y,s,rfl,a1,a2,a3,a4⟩
 ·refine .inr ⟨⟨x,rfl⟩,?_⟩
  rcases tiles_next hb with⟨rfl,b1⟩ | ⟨y',s',rfl,b1,b2,b3,b4⟩
  ·exact .inl ⟨x',rfl⟩
  ·refine .inr ⟨x',y',s',rfl,?_,?_⟩
   ·by_cases q:y'.Time.From < T
    ·exact absurd (a1 _ (by omega) q) b3
    ·omega
   ·by_cases q:y'.Time.From < T
    ·exact absurd (a1 _ (by omega) q) b3
    ·omega
 ·rcases tiles_next hb with⟨rfl,b1⟩ | ⟨y',s',rfl,b1,b2,b3,b4⟩
  ·exact absurd (b1 _ (by omega) (by omega)) a3
  ·refine .inl ⟨x,y,s,x',y',s',rfl,rfl,?_,a2⟩
   rcases Int.lt_trichotomy y.Time.From y'.Time.From with q | q | q
   ·exact absurd (b4 _ (by omega) q) a3
   ·exact q
   ·exact absurd (a4 _ (by omega) q) b3
def nextV (t:List Slot_):Int:=match t with
 | _::y::_=>y.Time.From
 | _ => -1
theorem next_go {l:List Entry} {p:Player} (h:CE l p) {t:Int} (ht:0≤t∧t < 345686400000) (hm:schedule_momentFault l p t=some 0):∃ a,Tiles (keyAt l p) (min (t + 34560000001) 345686400000) t a∧schedule_Next l p t=some (nextV a,0):=by
 unfold schedule_Next
 rw [hm,Option.bind_some,bne_self_eq_false,cond_false,w64_id (n:=t + 34560000000) (by omega),w64_id (n:=t + 34560000000 + 1) (by omega),minI_eq]
 have e:t + 34560000000 + 1=t + 34560000001:=by omega
 rw [e]
 obtain ⟨a,a1,a2,a3⟩:=through_go h (w:=⟨t,min (t + 34560000001) 345686400000⟩) ⟨ht.1,by simp only []; omega,by simp only []; omega⟩ (by simp only []; omega)
 refine⟨a,a2,?_⟩
 rw [a1,Option.bind_some]
 cases a with
 | nil=>rfl
 | cons x r=>cases r with
  | nil=>rfl
  | cons y r =>
   rw [decide_eq_false (by simp only [List.length_cons]; omega),cond_false]; rfl
theorem next_doc {l:List Entry} {p:Player} (h:CE l p) {t:Int} (ht:0≤t∧t < 345686400000) {a:List Slot_} (ha:Tiles (keyAt l p) (min (t + 34560000001) 345686400000) t a):ref_NextOf l p t=some (nextV a):=by
 unfold ref_NextOf
 rw [w64_id (n:=t + 34560000000) (by omega),w64_id (n:=t + 34560000000 + 1) (by omega)]
 have e:t + 34560000000 + 1=t + 34560000001:=by omega
 rw [e]
 obtain ⟨b,b1,b2,b3⟩:=throughOf_ok h (w:=⟨t,t + 34560000001⟩) (by simp only []; omega) ⟨ht.1,by simp only []; omega⟩
 rw [b1,Option.bind_some]
 rcases next_same (T:=min (t + 34560000001) 345686400000) (T':=t + 34560000001) (F:=t) (by omega) (by omega) ha b2 with⟨x,y,r,x',y',r',rfl,rfl,h1,h2⟩ | ⟨⟨x,rfl⟩,⟨x',rfl⟩ | ⟨x',y',r',rfl,h1,h2⟩⟩
 ·have e1:idx (x'::y'::r') 1=some y':=rfl
  rw [decide_eq_false (by simp only [List.length_cons]; omega),cond_false,e1,Option.bind_some,Option.bind_some,decide_eq_false (by omega),cond_false,Option.bind_some,← h1]; rfl
 ·rfl
 ·have e1:idx (x'::y'::r') 1=some y':=rfl
  rw [decide_eq_false (by simp only [List.length_cons]; omega),cond_false,e1,Option.bind_some,Option.bind_some,decide_eq_true (by omega),cond_true]; rfl
end Go.Proofs.YtjhcehhmdmbleaaGreat.Law

open Go Go.Eng
namespace Go.Proofs.YtjhcehhmdmbleaaGreat.Law
set_option linter.unusedVariables false
set_option linter.unusedSimpArgs false
theorem moment_ok (s:Stream) {b:Int} (hs:Ok s b) (hb:b≤800000):∃ t s',mk_Stream_Moment s=some (t,s')∧Ok s' (b + 10):=by
 unfold mk_Stream_Moment
 obtain ⟨x,s1,e1,m1,o1⟩:=pick_ok s [0,0,1,2,3,5,8] hs (by omega) (by simp) (by simp)
 obtain ⟨y,s2,e2,m2,o2⟩:=pick_ok s1 [0,60,120,600,720,1380,1439] o1 (by omega) (by simp) (by simp)
 obtain ⟨z,s3,e3,m3,o3⟩:=pick_ok s2 [0,0,1,30000,(-1)] o2 (by omega) (by simp) (by simp)
 rw [e1,Option.bind_some]
 simp only [e2,e3,Option.bind_some]
 exact⟨_,_,rfl,Ok.mono o3 (by omega)⟩
theorem keysOf_eq (l:List Entry) (hl:l.length≤1000):ref_keysOf l=some (l.map (·.Key)):=by
 unfold ref_keysOf
 obtain ⟨u,u1,u2⟩:=forL_at (body:=fun k x s=>ref_keysOf_L1 k x s) (fun k s=>s=(l.take k).map (·.Key)) (xs:=l) (s:=([]:List ByteArray)) (by omega) (fun k x s hx hs=>by
  have et:l.take (k + 1)=l.take k ++ [x]:=by rw [List.take_add_one,hx]; rfl
  have hkl:(l.take k).length≤1000:=by rw [List.length_take]; omega
  unfold ref_keysOf_L1
  rw [hs,appL_ok _ _ (by simp only [List.length_map,List.length_cons,List.length_nil]; omega)]
  exact⟨_,rfl,by rw [et,List.map_append]; rfl⟩) rfl
 rw [u1,u2,List.take_length]; rfl
theorem eqStrS (l:List ByteArray) (hl:l.length≤1000000):slices_Equal_string_string l l=some true:=by
 have key:∀ (xs:List ByteArray) (k:Nat),l.drop k=xs→forR (fun k x s=>slices_Equal_string_string_L1 l k x s) xs k ()=some (.go ()):=by
  intro xs
  induction xs with
  | nil=>exact fun _ _=>rfl
  | cons x xs ih =>
   intro k h
   have hg:idx l (k:Int)=some x:=by rw [idx_nat]; exact drop_get h
   rw [forR]
   have:slices_Equal_string_string_L1 l k x ()=some (.go ()):=by
    unfold slices_Equal_string_string_L1
    rw [hg]; simp [sNe,sEq]
   rw [this,Option.bind_some]
   exact ih (k + 1) (drop_next h)
 unfold slices_Equal_string_string
 have:((l.length:Int) != (l.length:Int))=false:=by simp
 rw [this,cond_false,forL_eq (by omega),key l 0 rfl]; rfl
theorem law_mo (t:Int):law_momentFault t=some (moF t):=by
 unfold law_momentFault ref_Moment moF
 rw [in_eq,Option.bind_some,Option.bind_some,when_eq]
 cases outB t 0 345686399999 <;> rfl
theorem key_ne {l:List Entry} {p:Player} (h:CE l p) (t:Int):sNe (keyAt l p t) (⟨#[]⟩:ByteArray) = !(candS l p t).isEmpty:=by
 unfold keyAt
 cases hc:candS l p t with
 | nil =>
  show sNe (⟨#[]⟩:ByteArray) (⟨#[]⟩:ByteArray)=false
  have:sEq (⟨#[]⟩:ByteArray) (⟨#[]⟩:ByteArray)=true:=(sEq_iff _ _).2 rfl
  unfold sNe sEq at *
  rw [this]; rfl
 | cons x r =>
  have hx:x∈candL l p t:=(srtG_perm befE (candL l p t)).mem_iff.1 (by
   have:x∈candS l p t:=by rw [hc]; exact List.mem_cons_self
   exact this)
  have hk:=h.ne x.1 (candL_mem.1 hx).1
  show sNe x.1.Key (⟨#[]⟩:ByteArray)=true
  unfold sNe
  rw [Bool.not_eq_true']
  have:¬ sEq x.1.Key (⟨#[]⟩:ByteArray)=true:=fun e=>hk ((sEq_iff _ _).1 e)
  simpa [sEq]using this
theorem count_law (l:List Entry) (p:Player) (t:Int) (hg:∀ e∈l,GoodE e) (hl:l.length≤4) (hp:GoodP p) :
  ((schedule_On l p t).bind fun r_22=>(schedule_Why l p t).bind fun r_24=>(schedule_Next l p t).bind fun r_26=>(ref_EntriesFault l).bind fun r_28=>(ref_PlayerFault p).bind fun r_30=>(law_momentFault t).bind fun r_32=>(law_errs ([r_28,r_30,r_32]:List Int)).bind fun r_34=>bif (r_34 != 0)then (bif (r_22.2.2 == r_34)then bif (r_24.2 == r_34)then bif (r_26.2 == r_34)then bif (sEq r_22.1 (⟨#[]⟩:ByteArray))then bif (!r_22.2.1)then bif ((r_24.1.length:Int) == 0)then bif (r_26.1 == 0)then (law_timed).bind fun r_46=>some r_46 else some false else some false else some false else some false else some false else some false else some false).bind fun v_37=>some v_37 else (ref_OnOf l p t).bind fun r_48=>(bif (r_22.2.2 == 0)then bif (r_24.2 == 0)then bif (r_26.2 == 0)then bif (sEq r_22.1 r_48.1)then bif (r_22.2.1 == r_48.2)then (ref_WhyKeys l p t).bind fun r_57=>(slices_Equal_string_string r_24.1 r_57).bind fun r_59=>bif r_59 then (ref_NextOf l p t).bind fun r_62=>bif (r_26.1 == r_62)then (law_timed).bind fun r_65=>some r_65 else some false else some false else some false else some false else some false else some false else some false).bind fun v_50=>some v_50)=some true:=by
 have hm:=momentK hg (by omega) hp t
 rw [entsR hg (by omega),playR p hp,law_mo]
 cases hf:faV l p t == 0 with
 | false =>
  have hb:(faV l p t != 0)=true:=by simp [bne,hf]
  have e1:schedule_On l p t=some ((⟨#[]⟩:ByteArray),false,faV l p t):=by unfold schedule_On; rw [hm,Option.bind_some,hb,cond_true]
  have e2:schedule_Why l p t=some (([]:List ByteArray),faV l p t):=by unfold schedule_Why; rw [hm,Option.bind_some,hb,cond_true]
  have e3:schedule_Next l p t=some (0,faV l p t):=by unfold schedule_Next; rw [hm,Option.bind_some,hb,cond_true]
  rw [e1,e2,e3]
  simp only [Option.bind_some,errs3]
  have e4:or0 (entsV l) (or0 (playF p) (moF t))=faV l p t:=rfl
  rw [e4,hb,cond_true]
  simp only [beq_self_eq_true,cond_true,timed_ok,Option.bind_some]
  rfl
 | true =>
  have h0:=eq_of_beq hf
  have hb:(faV l p t != 0)=false:=by simp [bne,hf]
  rw [h0]at hm
  unfold faV at h0
  obtain ⟨h1,h2⟩:=or0_0 h0
  obtain ⟨h2,h3⟩:=or0_0 h2
  have ht:=moF_0 h3
  have hc:=ce_of hg hl h1 h2
  rw [On_eq hc ht hm,Why_eq hc ht hm]
  obtain ⟨a,a1,a2⟩:=next_go hc ht hm
  rw [a2]
  simp only [Option.bind_some,errs3]
  have e4:or0 (entsV l) (or0 (playF p) (moF t))=0:=h0
  rw [e4,bne_self_eq_false,cond_false]
  obtain ⟨e,o1,o2⟩:=onOf_eq hc (t:=t) (by omega)
  have e5:ref_OnOf l p t=some (keyAt l p t,!(candS l p t).isEmpty):=by
   unfold ref_OnOf
   rw [o1,Option.bind_some,o2,key_ne hc]
  have hcl:=candS_len hc t
  have e6:ref_WhyKeys l p t=some ((candS l p t).map (fun x=>x.1.Key)):=by
   unfold ref_WhyKeys
   rw [whyOf_eq hc (by omega),Option.bind_some,keysOf_eq _ (by rw [List.length_map]; omega),Option.bind_some,List.map_map]; rfl
  rw [e5,e6,next_doc hc ht a1]
  simp only [Option.bind_some,beq_self_eq_true,cond_true]
  rw [eqStrS _ (by rw [List.length_map]; omega)]
  simp only [Option.bind_some,cond_true,timed_ok]
theorem entriesCount (l:List Int):law_EntriesCount l=some true:=by
 obtain ⟨xs,s1,h1,h2,h3,h4⟩:=entries_ok ⟨l,0⟩ (b:=0) ⟨Int.le_refl _,Int.le_refl _⟩ (by decide)
 obtain ⟨p,s2,h5,h6,h7⟩:=player_ok s1 h2 (by omega)
 obtain ⟨t,s3,h8,h9⟩:=moment_ok s2 h6 (by omega)
 obtain ⟨f,s4,h10,h11⟩:=flip_ok s3 25 h9 (by omega) (by decide) (by decide)
 unfold law_EntriesCount
 simp only [h1,h5,h8,h10,Option.bind_some]
 cases f with
 | false =>
  simp only [cond_false,Option.bind_some]
  exact count_law xs p t h4 h3 h7
 | true =>
  obtain ⟨u,s5,h12,_,h13⟩:=pick_ok s4 [345686399999,345686400000,345254400000] h11 (by omega) (by simp) (by simp)
  simp only [cond_true,h12,Option.bind_some]
  exact count_law xs p u h4 h3 h7
end Go.Proofs.YtjhcehhmdmbleaaGreat.Law

