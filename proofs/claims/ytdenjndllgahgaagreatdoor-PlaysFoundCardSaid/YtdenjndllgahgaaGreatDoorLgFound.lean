import Derived.Test.YtdenjndllgahgaaGreatDoorLgPlays
/-
  PLAIN LAW: plays that were found are those of the document (the loop over players; the law).
-/
open Go Go.Eng
namespace Go.Proofs.YtdenjndllgahgaaGreatDoor.Law
set_option linter.unusedVariables false
set_option linter.unusedSimpArgs false
def LeP (a b:Log_):Prop:=lt a.Player b.Player\/a.Player=b.Player
theorem EB {a b c:Log_} (h:LeP a b) (k:LeP b c):LeP a c:=by
 rcases h with h|h
 ·rcases k with k|k
  ·exact .inl (lt_trans h k)
  ·exact .inl (k ▸ h)
 ·unfold LeP;rw [h];exact k
structure RightL (x:Log_):Prop where
 clock:inM x.Clock
 l0:1<=x.Long
 ll:x.Long<=86400000
theorem formF_0 {x:Log_} (h:mV x=0):RightL x:=by
 unfold mV at h
 cases h1:ng x.Player with
 | false=>rw [h1]at h;cases h
 | true =>
 cases h2:ng x.Item with
 | false=>rw [h1,h2]at h;cases h
 | true =>
 rw [h1,h2]at h
 simp only [Bool.not_true,cond_false]at h
 cases h3:(nI x.No 1 1000000||(nI x.Clock 0 345686399999||nI x.Long 1 86400000))with
 | true=>rw [h3]at h;cases h
 | false =>
  rw [Bool.or_eq_false_iff,Bool.or_eq_false_iff]at h3
  have hl:=Cz h3.2.2
  exact⟨Cz h3.2.1,hl.1,hl.2⟩
theorem lStp_0 {p:Option Log_} {x:Log_} (h:BN p x=0):RightL x/\∀o,p=some o->LeP o x:=by
 unfold BN at h
 cases hf:(mV x != 0)with
 | true=>rw [hf,cond_true]at h;rw [h]at hf;cases hf
 | false =>
 have hf0:mV x=0:=by simpa using hf
 rw [hf,cond_false]at h
 refine⟨formF_0 hf0,λo ho => ?_⟩
 subst ho
 cases hm:uJ x.Sum with
 | false=>rw [hm]at h;cases h
 | true =>
 rw [hm]at h
 simp only [Bool.not_true,cond_false]at h
 cases hc:decide (cmpL o x>=0)with
 | true=>rw [hc]at h;cases h
 | false =>
 have hc:=of_decide_eq_false hc
 rcases nY o.Player x.Player with⟨h1,_⟩|⟨h1,_⟩|⟨h1,h2⟩
 ·exact .inl h1
 ·exact .inr h1
 ·exfalso
  apply hc
  unfold cmpL or0
  rw [h2]
  show (1:Int)>=0
  omega
theorem uR:∀{l:List Log_} {p:Option Log_},x9 BN p l=0->(∀o,p=some o->∀y∈l,LeP o y)/\l.Pairwise LeP/\∀x∈l,RightL x
 | [],_,_=>⟨λ_ _ y hy=>(by cases hy),List.Pairwise.nil,λx hx=>(by cases hx)⟩
 | x::xs,p,h=>by
  obtain ⟨h1,h2⟩:=FE h
  obtain ⟨i1,i2,i3⟩:=uR h2
  obtain ⟨j1,j2⟩:=lStp_0 h1
  refine⟨λo ho y hy => ?_,List.pairwise_cons.2 ⟨λy hy=>i1 x rfl y hy,i2⟩,λy hy => ?_⟩
  ·rcases List.mem_cons.1 hy with rfl|hy
   ·exact j2 o ho
   ·exact EB (j2 o ho) (i1 x rfl y hy)
  ·rcases List.mem_cons.1 hy with rfl|hy
   ·exact j1
   ·exact i3 y hy
theorem logsF_0 {l:List Log_} (h:mX l=0):l.Pairwise LeP/\∀x∈l,RightL x:=by
 unfold mX at h
 cases hl:decide (l.length>2000)with
 | true=>rw [hl]at h;cases h
 | false=>rw [hl,cond_false]at h;exact (uR h).2
theorem grp (p:ByteArray):∀xs:List Log_,(∀y∈xs,lt p y.Player\/p=y.Player)->xs.Pairwise LeP->∃g post,xs=g++post/\(∀y∈g,y.Player=p)/\∀b∈post,lt p b.Player
 | [],_,_=>⟨[],[],rfl,λy hy=>(by cases hy),λy hy=>(by cases hy)⟩
 | y::ys,h,hp=>by
  obtain ⟨p1,p2⟩:=List.pairwise_cons.1 hp
  by_cases hy:y.Player=p
  ·obtain ⟨g,post,e,g1,g2⟩:=grp p ys (λz hz=>h z (List.mem_cons_of_mem _ hz)) p2
   refine⟨y::g,post,by rw [e];rfl,λz hz => ?_,g2⟩
   rcases List.mem_cons.1 hz with rfl|hz
   ·exact hy
   ·exact g1 z hz
  ·have hlt:lt p y.Player:=by
    rcases h y (by simp)with h|h
    ·exact h
    ·exact absurd h.symm hy
   refine⟨[],y::ys,rfl,λz hz=>(by cases hz),λb hb => ?_⟩
   rcases List.mem_cons.1 hb with rfl|hb
   ·exact hlt
   ·rcases p1 b hb with k|k
    ·exact lt_trans hlt k
    ·exact k ▸ hlt
theorem yV {L post:List Log_} {p:ByteArray} {st:List Play×List Int×Int} {x0:Log_} (h0:idx L st.2.2=some x0) (hp0:x0.Player=p) (hL:L.length<=1000) (hpost:∀b∈post,lt p b.Player):∀(xs:List Log_) (j:Nat),L.drop j=xs++post->j<=L.length->(∀x∈xs,x.Player=p) ->
  bL (λs=>fA L st s) (xs.length+1) (j:Int)=some (.go ((j+xs.length:Nat):Int))
 | [],j,hd,hj,hx=>by
  have hst:fA L st (j:Int)=some (.brk (j:Int)):=by
   unfold fA
   cases post with
   | nil =>
    have hlen:L.length<=j:=List.drop_eq_nil_iff.1 (by simpa using hd)
    have hc:decide ((j:Int)<(L.length:Int))=false:=decide_eq_false (by omega)
    simp only [hc,cond_false,ob_]
   | cons b post =>
    have hg:L[j]? = some b:=nH (by rw [hd];rfl)
    have hlt:=(List.getElem?_eq_some_iff.1 hg).1
    have hc:decide ((j:Int)<(L.length:Int))=true:=decide_eq_true (by omega)
    have hne:¬b.Player=p:=λe=>by have:=hpost b (by simp);rw [e]at this;exact jS p this
    simp only [hc,cond_true,jL,hg,h0,ob_,qy,hp0,decide_eq_false hne,cond_false]
  simp only [List.length_nil,bL,hst,ob_,Nat.add_zero]
 | x::xs,j,hd,hj,hx=>by
  have hg:L[j]? = some x:=nH (by rw [hd];rfl)
  have hlt:=(List.getElem?_eq_some_iff.1 hg).1
  have hc:decide ((j:Int)<(L.length:Int))=true:=decide_eq_true (by omega)
  have hw:w64 ((j:Int)+1)=((j+1:Nat):Int):=by rw [dx (by omega)];omega
  have hst:fA L st (j:Int)=some (.go ((j+1:Nat):Int)):=by
   unfold fA
   simp only [hc,cond_true,jL,hg,h0,ob_,qy,hp0,hx x (by simp),decide_true,hw]
  rw [List.length_cons,bL,hst,ob_]
  simp only
  rw [yV h0 hp0 hL hpost xs (j+1) (aU (show L.drop j=x::(xs++post) from hd)) (by omega) (λy hy=>hx y (List.mem_cons_of_mem _ hy)),show j+1+xs.length=j+(xs.length+1) by omega]
structure LOk (L:List Log_):Prop where
 sorted:L.Pairwise LeP
 right:∀x∈L,RightL x
 few:L.length<=19
theorem yL_at {L:List Log_} {d:Dated} {i:Nat} {x:Log_} (h:L[i]? = some x) (e:d.f_i=(i:Int)):yL L d=x:=by
 unfold yL;rw [e,List.getD_eq_getElem?_getD,Int.toNat_natCast,h];rfl
theorem Cm {B:List Beat} (hB:BOk B) {L:List Log_} (hL:LOk L) {pre g post:List Log_} (e:L=pre++(g++post)) {d:Dated} (hd:d∈dts B pre.length g):VD L d/\yL L d∈g:=by
 obtain ⟨i,x,h1,h2,h3⟩:=DY B g pre.length d hd
 have hil:=(List.getElem?_eq_some_iff.1 h1).1
 have hx:L[pre.length+i]? = some x:=by
  rw [e,List.getElem?_append_right (by omega),show pre.length+i-pre.length=i by omega,List.getElem?_append_left hil,h1]
 have hy:=yL_at hx h2
 have hm:x∈L:=List.mem_of_getElem? hx
 have hlt:=(List.getElem?_eq_some_iff.1 hx).1
 have hr:=hL.right x hm
 obtain ⟨a1,a2⟩:=atF_in hB hr.clock h3
 refine⟨⟨by omega,by omega,a1,a2,by rw [hy];exact hr.l0,by rw [hy];exact hr.ll⟩,?_⟩
 rw [hy];exact List.mem_of_getElem? h1
noncomputable def fnd (B:List Beat) (L pre:List Log_):List Play×List Int:=jP L [] (iO (c2 L) (dts B 0 pre))
theorem wK {B:List Beat} (hB:BOk B) {L:List Log_} (hL:LOk L):∀(m:Nat) (pre rest:List Log_) (F:List Int),rest.length<=m->L=pre++rest->(∀a∈pre,∀b∈rest,lt a.Player b.Player)->F.Perm (lfs B 0 pre++(fnd B L pre).2) ->
  ∃n F',bL (λs=>fC L B s) n ((fnd B L pre).1,F,(pre.length:Int))=some (.go ((fnd B L L).1,F',(L.length:Int)))/\F'.Perm (lfs B 0 L++(fnd B L L).2)
 | m,pre,[],F,hm,e,hlt,hF=>by
  rw [List.append_nil]at e
  subst e
  refine⟨1,F,?_,hF⟩
  have hc:decide ((L.length:Int)<(L.length:Int))=false:=decide_eq_false (by omega)
  simp only [bL,fC,hc,cond_false,ob_]
 | 0,pre,x::xs,F,hm,e,hlt,hF=>by simp at hm
 | m+1,pre,x::xs,F,hm,e,hlt,hF=>by
  have hsort:(x::xs).Pairwise LeP:=by have:=hL.sorted;rw [e]at this;exact (List.pairwise_append.1 this).2.1
  obtain ⟨g,post,e2,g1,g2⟩:=grp x.Player xs (λy hy=>(List.pairwise_cons.1 hsort).1 y hy) (List.pairwise_cons.1 hsort).2
  subst e2
  have few:=hL.few
  have hlen:L.length=pre.length+((x::g).length+post.length):=by rw [e];simp;omega
  have e3:L=pre++((x::g)++post):=e
  have hgp:∀y∈x::g,y.Player=x.Player:=λy hy=>by
   rcases List.mem_cons.1 hy with rfl|hy
   ·rfl
   ·exact g1 y hy
  have hdrop:L.drop pre.length=(x::g)++post:=by rw [e3];simp
  have hx0:L[pre.length]? = some x:=nH (by rw [hdrop];rfl)
  have hidx:idx L (pre.length:Int)=some x:=by rw [jL,hx0]
  have hright:∀y∈x::g,y.Player=x.Player/\inM y.Clock:=λy hy=>⟨hgp y hy,(hL.right y (by rw [e3];simp only [List.mem_append];exact .inr (.inl hy))).clock⟩
  have hV1:∀d∈dts B pre.length (x::g),VD L d/\(yL L d).Player=x.Player:=λd hd=>by
   obtain ⟨v,w⟩:=Cm hB hL e3 hd
   exact⟨v,hgp _ w⟩
  have hV0:∀d∈dts B 0 pre,VD L d/\yL L d∈pre:=λd hd=>Cm hB hL (pre:=[]) (g:=pre) (post:=x::(g++post)) (by rw [e];rfl) hd
  have hgl:(x::g).length=g.length+1:=rfl
  have hdl:=zX B (x::g) pre.length
  have hdl0:=zX B pre 0
  have hsc:=fZ (yV (L:=L) (post:=post) (st:=((fnd B L pre).1,F,(pre.length:Int))) hidx rfl (by omega) g2 (x::g) pre.length hdrop (by omega) hgp)
  have hpl:=fZ (uO hB (L:=L) (post:=post) (p:=x.Player) (to:=pre.length+(x::g).length) (by omega) (x::g) pre.length [] [] hdrop rfl hright (by simp;omega))
  simp only [List.nil_append]at hpl
  have hplaced:jm L (pre.length:Int) ((pre.length+(x::g).length:Nat):Int) B=some ((iO cD (dts B pre.length (x::g))).map gP,lfs B pre.length (x::g)):=by
   unfold jm
   rw [hidx,ob_,xS B x.Player false hB.few,ob_]
   show (gp _ (λs=>dR _ L (MB B x.Player) s)).bind _=_
   rw [hpl,ob_,fo]
   simp only
   rw [stableP _ (by rw [List.length_map];omega),ob_]
   have hsl:iE (iO cP ((dts B pre.length (x::g)).map gP)) ((dts B pre.length (x::g)).map gP)=some ():=by unfold iE;rw [if_pos (mG _ _)]
   rw [hsl,ob_,Fq gP (c:=cD) (λa b=>rfl)]
  have hcong:iO cD (dts B pre.length (x::g))=iO (c2 L) (dts B pre.length (x::g)):=Cs _ (λa ha b hb=>by
   unfold cD c2
   rw [(hV1 a ha).2,(hV1 b hb).2,zf];rfl)
  have hsp:iO (c2 L) (dts B 0 (pre++(x::g)))=iO (c2 L) (dts B 0 pre)++iO (c2 L) (dts B pre.length (x::g)):=by
   rw [Du,Nat.zero_add]
   refine FU _ _ _ (λv hv a ha => ?_)
   have hl:lt (yL L a).Player (yL L v).Player:=by
    rw [(hV1 v hv).2]
    exact hlt _ (hV0 a ha).2 x (by simp)
   have hc:mK (yL L v).Player (yL L a).Player=1:=by
    rcases nY (yL L v).Player (yL L a).Player with⟨h1,_⟩|⟨h1,_⟩|⟨_,h2⟩
    ·exact absurd (lt_trans hl h1) (jS _)
    ·rw [h1]at hl;exact absurd hl (jS _)
    ·exact h2
   unfold c2 or0
   rw [hc]
   show ¬(1:Int)<0
   omega
  have hfnd:fnd B L (pre++(x::g))=((jP L (fnd B L pre).1 (iO (c2 L) (dts B pre.length (x::g)))).1,(fnd B L pre).2++(jP L (fnd B L pre).1 (iO (c2 L) (dts B pre.length (x::g)))).2):=by
   unfold fnd
   rw [hsp,xA]
  obtain ⟨hg1,hg2⟩:=tT (L:=L) (iO (c2 L) (dts B 0 pre)) [] (λd hd=>(hV0 d ((r9 _ _ _).1 hd)).1) (λq hq=>by cases hq)
  have hend:yh (fnd B L pre).1 x.Player=0:=by
   unfold yh
   cases hq:(fnd B L pre).1.getLast? with
   | none=>rfl
   | some q =>
    simp only
    have hne:¬q.Player=x.Player:=λeq=>by
     rcases hg2 q (List.mem_of_getLast? hq)with h|⟨d,hd,h⟩
     ·cases h
     ·have:=hlt _ (hV0 d ((r9 _ _ _).1 hd)).2 x (by simp)
      rw [<- h,eq]at this
      exact jS _ this
    rw [decide_eq_false hne];rfl
  have hrl:=rH (L:=L) (iO (c2 L) (dts B 0 pre)) []
  have hslen:=mG (c2 L) (dts B 0 pre)
  have hslen2:=mG (c2 L) (dts B pre.length (x::g))
  have hFl:=hF.length_eq
  simp only [List.length_append,List.length_nil]at hFl hrl
  have hFl':(fnd B L pre).1.length+(fnd B L pre).2.length=0+(iO (c2 L) (dts B 0 pre)).length:=hrl
  have hrun:=uC (L:=L) (p:=x.Player) (iO (c2 L) (dts B pre.length (x::g))) 0 (F++lfs B pre.length (x::g)) (fnd B L pre).1 (λd hd=>hV1 d ((r9 _ _ _).1 hd)) hg1 (by simp only [List.length_append];omega)
  rw [hend]at hrun
  have happ:jr F (lfs B pre.length (x::g))=some (F++lfs B pre.length (x::g)):=iM _ _ (by omega)
  have hc:decide ((pre.length:Int)<(L.length:Int))=true:=decide_eq_true (by rw [hlen];simp;omega)
  have hstep:fC L B ((fnd B L pre).1,F,(pre.length:Int))=some (.go ((fnd B L (pre++(x::g))).1,F++lfs B pre.length (x::g)++(jP L (fnd B L pre).1 (iO (c2 L) (dts B pre.length (x::g)))).2,(((pre++(x::g)).length:Nat):Int))):=by
   unfold fC
   simp only [hc,cond_true]
   rw [hsc,ob_,fo,hplaced,ob_,happ,ob_,hcong]
   simp only
   rw [fK (by rw [List.length_map];omega),hrun,ob_,fo,hfnd,List.length_append]
  obtain ⟨n,F',h1,h2⟩:=wK hB hL m (pre++(x::g)) post (F++lfs B pre.length (x::g)++(jP L (fnd B L pre).1 (iO (c2 L) (dts B pre.length (x::g)))).2) (by simp at hm;omega) (by rw [e3];simp) (λa ha b hb=>by
   rcases List.mem_append.1 ha with ha|ha
   ·exact hlt a ha b (by simp [hb])
   ·rw [hgp a ha];exact g2 b hb) (by
   rw [hfnd,Dl,Nat.zero_add]
   simp only
   have h1:(F++lfs B pre.length (x::g)).Perm (lfs B 0 pre++lfs B pre.length (x::g)++(fnd B L pre).2):=by
    refine (hF.append_right _).trans ?_
    rw [List.append_assoc,List.append_assoc]
    exact List.Perm.append_left _ List.perm_append_comm
   refine (h1.append_right _).trans ?_
   rw [List.append_assoc (lfs B 0 pre++lfs B pre.length (x::g))])
  exact⟨n+1,F',by rw [bL,hstep];exact h1,h2⟩
theorem found_eq {B:List Beat} (hB:BOk B) {L:List Log_} (hL:LOk L) (hk:gz L=some 0) (hb:eu B=some 0) :
  ∃pl F,gL L B=some (pl,F,0)/\j6 L B=some (pl,F)/\pl.length+F.length<=100:=by
 have few:=hL.few
 obtain ⟨n,F',h1,h2⟩:=wK hB hL L.length [] L [] (Nat.le_refl _) rfl (λa ha=>by cases ha) (List.Perm.refl _)
 have h1:bL (λs=>fC L B s) n (([]:List Play),([]:List Int),0)=_:=h1
 have hdl:=zX B L 0
 have hrl:=rH (L:=L) (iO (c2 L) (dts B 0 L)) []
 have hsl:=mG (c2 L) (dts B 0 L)
 have hF:=h2.length_eq
 simp only [List.length_append,List.length_nil]at hF hrl
 have hrl':(fnd B L L).1.length+(fnd B L L).2.length=0+(iO (c2 L) (dts B 0 L)).length:=hrl
 obtain ⟨s,s1,s2,s3⟩:=Ex h2 (by omega)
 have hV:∀d∈dts B 0 L,VD L d:=λd hd=>(Cm hB hL (pre:=[]) (g:=L) (post:=[]) (by simp) hd).1
 refine⟨(fnd B L L).1,s,?_,?_,by omega⟩
 ·unfold gL
  rw [hk,hb]
  show (gp _ _).bind _=_
  rw [fZ h1,ob_,fo]
  simp only
  rw [s1,ob_]
  unfold iE;rw [if_pos s3];rfl
 ·unfold j6
  rw [fK (by omega),xK hB L 0 [] [] (λx hx=>(hL.right x hx).clock) (by simp;omega),ob_,fo]
  simp only [List.nil_append]
  rw [stableD L _ (by omega) hV,ob_]
  have hs0:iE (iO (c2 L) (dts B 0 L)) (dts B 0 L)=some ():=by unfold iE;rw [if_pos hsl]
  rw [hs0,ob_,fK (by omega),qZ _ 0 (lfs B 0 L) [] (λd hd=>hV d ((r9 _ _ _).1 hd)) (λq hq=>by cases hq) (by simp;omega),ob_,fo]
  simp only
  show (bD (lfs B 0 L++(fnd B L L).2)).bind _=_
  rw [s2,ob_]
  have hs3:iE s (lfs B 0 L++(fnd B L L).2)=some ():=by unfold iE;rw [if_pos (by simp only [List.length_append];omega)]
  show (iE s (lfs B 0 L++(fnd B L L).2)).bind _=_
  rw [hs3];rfl
theorem xQ (l2:List Play):∀(xs:List Play) (k:Nat),l2.drop k=xs->dY (λk x s=>aZ l2 k x s) xs k ()=some (.go ())
 | [],k,h=>rfl
 | x::xs,k,h=>by
  have hstep:aZ l2 k x ()=some (.go ()):=by
   unfold aZ
   rw [eU h]
   simp
  simp only [dY,hstep,ob_]
  exact xQ l2 xs (k+1) (aU h)
theorem Bb (l:List Play) (hl:l.length<=1000000000):bT l l=some true:=by
 unfold bT
 have e:((l.length:Int) != (l.length:Int))=false:=by simp
 rw [e,cond_false,fK (by omega),xQ l l 0 rfl]
 rfl
theorem vQ (l2:List Int):∀(xs:List Int) (k:Nat),l2.drop k=xs->dY (λk x s=>dA l2 k x s) xs k ()=some (.go ())
 | [],k,h=>rfl
 | x::xs,k,h=>by
  have hstep:dA l2 k x ()=some (.go ()):=by
   unfold dA
   rw [eU h]
   simp
  simp only [dY,hstep,ob_]
  exact vQ l2 xs (k+1) (aU h)
theorem BV (l:List Int) (hl:l.length<=1000000000):fB l l=some true:=by
 unfold fB
 have e:((l.length:Int) != (l.length:Int))=false:=by simp
 rw [e,cond_false,fK (by omega),vQ l l 0 rfl]
 rfl
theorem mf {α:Type} {E:Option α} {f:α->Option Bool} {P:α->Prop} (h:∃a,E=some a/\P a) (k:∀a,P a->f a=some true):E.bind f=some true:=by
 obtain ⟨a,h1,h2⟩:=h
 rw [h1];exact k a h2
theorem playsFound (l:List Int):kJ l=some true:=by
 unfold kJ
 refine mf (logs_ok ⟨l,0⟩ 6 (by decide) (b:=0) ⟨Int.le_refl _,Int.le_refl _⟩ (by decide)) (λx hx => ?_)
 obtain ⟨o1,hl,hg⟩:=hx
 have hl':x.1.length<=12:=hl
 obtain ⟨bs,s2,hb1,hb2,hb3,hb4⟩:=GI x.2 o1 (by omega)
 rw [hb1,ob_]
 simp only
 obtain ⟨v,hv,hvp⟩:∃v:Bool×List Int×Int,(bif decide ((x.1.length:Int)>0)then (bS s2 20).bind λr_13=>some (r_13.1,r_13.2.L,r_13.2.f_at)else some (false,s2.L,s2.f_at))=some v/\(v.1=true->0<x.1.length):=by
  cases hd:decide ((x.1.length:Int)>0)with
  | true =>
   obtain ⟨a,h1,h2⟩:=vU s2 20 hb2 (by omega) (by decide) (by decide)
   exact⟨_,by rw [cond_true,h1,ob_],λ_=>by have:=of_decide_eq_true hd;omega⟩
  | false=>exact⟨_,rfl,λh=>by cases h⟩
 rw [hv,ob_]
 obtain ⟨L,hLe,hLl,hLg⟩:∃L:List Log_,(bif v.1 then (inR (w64 ((x.1.length:Int)-1)) x.1).bind λ_=>(x.1[(0+((w64 ((x.1.length:Int)-1))).toNat)]?).bind λe_20=>some (x.1.set (0+((w64 ((x.1.length:Int)-1))).toNat) (⟨e_20.Player,e_20.Item,e_20.No,345686399999,e_20.Long,e_20.Sum⟩:Log_))else some x.1)=some L/\L.length<=12/\∀y∈L,jg y:=by
  cases hv1:v.1 with
  | true =>
   have hpos:=hvp hv1
   have hw:w64 ((x.1.length:Int)-1)=((x.1.length-1:Nat):Int):=by rw [dx (by omega)];omega
   have hi:inR ((x.1.length-1:Nat):Int) x.1=some ():=Ad (by omega) (by omega)
   have hn:0+((x.1.length-1:Nat):Int).toNat=x.1.length-1:=by omega
   obtain ⟨a,ha,hga⟩:=pz (xs:=x.1) (k:=x.1.length-1) (by omega) hg
   rw [cond_true,hw,hi,ob_,hn,ha,ob_]
   exact⟨_,rfl,by rw [List.length_set];exact hl',F5 hg ⟨hga.1,hga.2.1,hga.2.2.1,hga.2.2.2.1,(show Med 345686399999 by unfold Med;omega),hga.2.2.2.2.2⟩⟩
  | false=>exact⟨x.1,rfl,hl',hg⟩
 rw [hLe,ob_]
 have hk:=logsK L hLg (by omega)
 have hr:=logsR L hLg (by omega)
 have hbk:=FH bs hb4 (by omega)
 have hbr:=beatsR bs hb4 (by omega)
 by_cases h1:mX L=0
 ·by_cases h2:fG bs=0
  ·obtain ⟨s1,s2⟩:=logsF_0 h1
   obtain ⟨_,t2⟩:=Ca h2
   rw [h1]at hk hr
   rw [h2]at hbk hbr
   obtain ⟨pl,F,p1,p2,p3⟩:=found_eq ⟨t2,by omega⟩ ⟨s1,s2,by omega⟩ hk hbk
   rw [p1,ob_,hr,ob_,hbr,ob_,Gz,ob_]
   show ((j6 L bs).bind _)=_
   rw [p2,ob_]
   simp only [Bb pl (by omega),BV F (by omega),tX,ob_]
   rfl
  ·have e:(fG bs != 0)=true:=by simp [h2]
   rw [h1]at hk hr
   have hp:gL L bs=some ([],[],fG bs):=by
    unfold gL
    rw [hk,ob_]
    show (eu bs).bind _=_
    rw [hbk,ob_,e];rfl
   rw [hp,ob_,hr,ob_,hbr,ob_,Gz,ob_]
   have e0:or0 0 (fG bs)=fG bs:=rfl
   have e2:(fG bs==fG bs)=true:=by simp
   simp only [e0,e,e2,cond_true,tX,ob_]
   rfl
 ·have e:(mX L != 0)=true:=by simp [h1]
  have hp:gL L bs=some ([],[],mX L):=by
   unfold gL
   rw [hk,ob_,e];rfl
  rw [hp,ob_,hr,ob_,hbr,ob_,Gz,ob_]
  have e0:or0 (mX L) (fG bs)=mX L:=by
   unfold or0
   have:(mX L==0)=false:=by simp [h1]
   rw [this];rfl
  have e2:(mX L==mX L)=true:=by simp
  simp only [e0,e,e2,cond_true,tX,ob_]
  rfl
end Go.Proofs.YtdenjndllgahgaaGreatDoor.Law

