/-
  THE PLAIN LAW (part 7).
-/
import Derived.Test.YtkjlhdminmpmkaaGreatDoorPl6
open Go Go.Eng
namespace Go.Proofs.YtkjlhdminmpmkaaGreatDoor.Law
set_option linter.unusedVariables false
set_option linter.unusedSimpArgs false
def LeP (a b:Log_):Prop:=lt a.Player b.Player\/a.Player=b.Player
theorem Pd {a b c:Log_} (h:LeP a b) (k:LeP b c):LeP a c:=by
 rcases h with h|h
 ·rcases k with k|k
  ·exact .inl (lt_trans h k)
  ·exact .inl (k ▸ h)
 ·unfold LeP;rw [h];exact k
structure RightL (x:Log_):Prop where
 clock:inM x.Clock
 l0:1<=x.Long
 ll:x.Long<=86400000
theorem formF_0 {x:Log_} (h:rf x=0):RightL x:=by
 unfold rf at h
 cases h1:keyB x.Player with
 | false=>rw [h1]at h;cases h
 | true =>
 cases h2:keyB x.Item with
 | false=>rw [h1,h2]at h;cases h
 | true =>
 rw [h1,h2]at h
 simp only [Bool.not_true,cond_false]at h
 cases h3:(qh x.No 1 1000000||(qh x.Clock 0 345686399999||qh x.Long 1 86400000))with
 | true=>rw [h3]at h;cases h
 | false =>
  rw [Bool.or_eq_false_iff,Bool.or_eq_false_iff]at h3
  have hl:=IB h3.2.2
  exact⟨IB h3.2.1,hl.1,hl.2⟩
theorem lStp_0 {p:Option Log_} {x:Log_} (h:Gb p x=0):RightL x/\∀o,p=some o->LeP o x:=by
 unfold Gb at h
 cases hf:(rf x != 0)with
 | true=>rw [hf,cond_true]at h;rw [h]at hf;cases hf
 | false =>
 have hf0:rf x=0:=by simpa using hf
 rw [hf,cond_false]at h
 refine⟨formF_0 hf0,λo ho => ?_⟩
 subst ho
 cases hm:xg x.Sum with
 | false=>rw [hm]at h;cases h
 | true =>
 rw [hm]at h
 simp only [Bool.not_true,cond_false]at h
 cases hc:decide (cmpL o x>=0)with
 | true=>rw [hc]at h;cases h
 | false =>
 have hc:=of_decide_eq_false hc
 rcases vQ o.Player x.Player with⟨h1,_⟩|⟨h1,_⟩|⟨h1,h2⟩
 ·exact .inl h1
 ·exact .inr h1
 ·exfalso
  apply hc
  unfold cmpL KU
  rw [h2]
  show (1:Int)>=0
  omega
theorem CV:∀{l:List Log_} {p:Option Log_},wK Gb p l=0->(∀o,p=some o->∀y∈l,LeP o y)/\l.Pairwise LeP/\∀x∈l,RightL x
 | [],_,_=>⟨λ_ _ y hy=>(by cases hy),List.Pairwise.nil,λx hx=>(by cases hx)⟩
 | x::xs,p,h=>by
  obtain ⟨h1,h2⟩:=chkG_0 h
  obtain ⟨i1,i2,i3⟩:=CV h2
  obtain ⟨j1,j2⟩:=lStp_0 h1
  refine⟨λo ho y hy => ?_,List.pairwise_cons.2 ⟨λy hy=>i1 x rfl y hy,i2⟩,λy hy => ?_⟩
  ·rcases List.mem_cons.1 hy with rfl|hy
   ·exact j2 o ho
   ·exact Pd (j2 o ho) (i1 x rfl y hy)
  ·rcases List.mem_cons.1 hy with rfl|hy
   ·exact j1
   ·exact i3 y hy
theorem logsF_0 {l:List Log_} (h:GK l=0):l.Pairwise LeP/\∀x∈l,RightL x:=by
 unfold GK at h
 cases hl:decide (l.length>2000)with
 | true=>rw [hl]at h;cases h
 | false=>rw [hl,cond_false]at h;exact (CV h).2
theorem grp (p:ByteArray):∀xs:List Log_,(∀y∈xs,lt p y.Player\/p=y.Player)->xs.Pairwise LeP->∃g post,xs=g++post/\(∀y∈g,y.Player=p)/\∀b∈post,lt p b.Player
 | [],_,_=>⟨[],[],rfl,λy hy=>(by cases hy),λy hy=>(by cases hy)⟩
 | y::ys,h,hp=>by
  obtain ⟨p1,p2⟩:=List.pairwise_cons.1 hp
  by_cases hy:y.Player=p
  ·obtain ⟨g,post,e,g1,g2⟩:=grp p ys (λz hz=>h z (List.mem_cons_of_mem _ hz)) p2
   refine⟨y::g,post,by rw [e];rfl,λz hz => ?_,g2⟩
   rcases List.mem_cons.1 hz with rfl|hz
   ·exact hy
   ·exact g1 z hz
  ·have hlt:lt p y.Player:=by
    rcases h y (by simp)with h|h
    ·exact h
    ·exact absurd h.symm hy
   refine⟨[],y::ys,rfl,λz hz=>(by cases hz),λb hb => ?_⟩
   rcases List.mem_cons.1 hb with rfl|hb
   ·exact hlt
   ·rcases p1 b hb with k|k
    ·exact lt_trans hlt k
    ·exact k ▸ hlt
theorem Hl {L post:List Log_} {p:ByteArray} {st:List Play×List Int×Int} {x0:Log_} (h0:idx L st.2.2=some x0) (hp0:x0.Player=p) (hL:L.length<=1000) (hpost:∀b∈post,lt p b.Player):∀(xs:List Log_) (j:Nat),L.drop j=xs++post->j<=L.length->(∀x∈xs,x.Player=p) ->
  iterN (λs=>iO L st s) (xs.length+1) (j:Int)=some (.go ((j+xs.length:Nat):Int))
 | [],j,hd,hj,hx=>by
  have hst:iO L st (j:Int)=some (.brk (j:Int)):=by
   unfold iO
   cases post with
   | nil =>
    have hlen:L.length<=j:=List.drop_eq_nil_iff.1 (by simpa using hd)
    have hc:decide ((j:Int)<(L.length:Int))=false:=decide_eq_false (by omega)
    simp only [hc,cond_false,ob_]
   | cons b post =>
    have hg:L[j]? = some b:=lq (by rw [hd];rfl)
    have hlt:=(List.getElem?_eq_some_iff.1 hg).1
    have hc:decide ((j:Int)<(L.length:Int))=true:=decide_eq_true (by omega)
    have hne:¬b.Player=p:=λe=>by have:=hpost b (by simp);rw [e]at this;exact oW p this
    simp only [hc,cond_true,jV,hg,h0,ob_,xZ,hp0,decide_eq_false hne,cond_false]
  simp only [List.length_nil,iterN,hst,ob_,Nat.add_zero]
 | x::xs,j,hd,hj,hx=>by
  have hg:L[j]? = some x:=lq (by rw [hd];rfl)
  have hlt:=(List.getElem?_eq_some_iff.1 hg).1
  have hc:decide ((j:Int)<(L.length:Int))=true:=decide_eq_true (by omega)
  have hw:w64 ((j:Int)+1)=((j+1:Nat):Int):=by rw [dw (by omega)];omega
  have hst:iO L st (j:Int)=some (.go ((j+1:Nat):Int)):=by
   unfold iO
   simp only [hc,cond_true,jV,hg,h0,ob_,xZ,hp0,hx x (by simp),decide_true,hw]
  rw [List.length_cons,iterN,hst,ob_]
  simp only
  rw [Hl h0 hp0 hL hpost xs (j+1) (aV (show L.drop j=x::(xs++post) from hd)) (by omega) (λy hy=>hx y (List.mem_cons_of_mem _ hy)),show j+1+xs.length=j+(xs.length+1) by omega]
structure LOk (L:List Log_):Prop where
 sorted:L.Pairwise LeP
 right:∀x∈L,RightL x
 few:L.length<=19
theorem Q4 {L:List Log_} {d:Dated} {i:Nat} {x:Log_} (h:L[i]? = some x) (e:d.f_i=(i:Int)):yL L d=x:=by
 unfold yL;rw [e,List.getD_eq_getElem?_getD,Int.toNat_natCast,h];rfl
theorem RS {B:List Beat} (hB:BOk B) {L:List Log_} (hL:LOk L) {pre g post:List Log_} (e:L=pre++(g++post)) {d:Dated} (hd:d∈dts B pre.length g):VD L d/\yL L d∈g:=by
 obtain ⟨i,x,h1,h2,h3⟩:=Nr B g pre.length d hd
 have hil:=(List.getElem?_eq_some_iff.1 h1).1
 have hx:L[pre.length+i]? = some x:=by
  rw [e,List.getElem?_append_right (by omega),show pre.length+i-pre.length=i by omega,List.getElem?_append_left hil,h1]
 have hy:=Q4 hx h2
 have hm:x∈L:=List.mem_of_getElem? hx
 have hlt:=(List.getElem?_eq_some_iff.1 hx).1
 have hr:=hL.right x hm
 obtain ⟨a1,a2⟩:=atF_in hB hr.clock h3
 refine⟨⟨by omega,by omega,a1,a2,by rw [hy];exact hr.l0,by rw [hy];exact hr.ll⟩,?_⟩
 rw [hy];exact List.mem_of_getElem? h1
noncomputable def fnd (B:List Beat) (L pre:List Log_):List Play×List Int:=nW L [] (lM (c2 L) (dts B 0 pre))
theorem D9 {B:List Beat} (hB:BOk B) {L:List Log_} (hL:LOk L):∀(m:Nat) (pre rest:List Log_) (F:List Int),rest.length<=m->L=pre++rest->(∀a∈pre,∀b∈rest,lt a.Player b.Player)->F.Perm (lfs B 0 pre++(fnd B L pre).2) ->
  ∃n F',iterN (λs=>iM L B s) n ((fnd B L pre).1,F,(pre.length:Int))=some (.go ((fnd B L L).1,F',(L.length:Int)))/\F'.Perm (lfs B 0 L++(fnd B L L).2)
 | m,pre,[],F,hm,e,hlt,hF=>by
  rw [List.append_nil]at e
  subst e
  refine⟨1,F,?_,hF⟩
  have hc:decide ((L.length:Int)<(L.length:Int))=false:=decide_eq_false (by omega)
  simp only [iterN,iM,hc,cond_false,ob_]
 | 0,pre,x::xs,F,hm,e,hlt,hF=>by simp at hm
 | m+1,pre,x::xs,F,hm,e,hlt,hF=>by
  have hsort:(x::xs).Pairwise LeP:=by have:=hL.sorted;rw [e]at this;exact (List.pairwise_append.1 this).2.1
  obtain ⟨g,post,e2,g1,g2⟩:=grp x.Player xs (λy hy=>(List.pairwise_cons.1 hsort).1 y hy) (List.pairwise_cons.1 hsort).2
  subst e2
  have few:=hL.few
  have hlen:L.length=pre.length+((x::g).length+post.length):=by rw [e];simp;omega
  have e3:L=pre++((x::g)++post):=e
  have hgp:∀y∈x::g,y.Player=x.Player:=λy hy=>by
   rcases List.mem_cons.1 hy with rfl|hy
   ·rfl
   ·exact g1 y hy
  have hdrop:L.drop pre.length=(x::g)++post:=by rw [e3];simp
  have hx0:L[pre.length]? = some x:=lq (by rw [hdrop];rfl)
  have hidx:idx L (pre.length:Int)=some x:=by rw [jV,hx0]
  have hright:∀y∈x::g,y.Player=x.Player/\inM y.Clock:=λy hy=>⟨hgp y hy,(hL.right y (by rw [e3];simp only [List.mem_append];exact .inr (.inl hy))).clock⟩
  have hV1:∀d∈dts B pre.length (x::g),VD L d/\(yL L d).Player=x.Player:=λd hd=>by
   obtain ⟨v,w⟩:=RS hB hL e3 hd
   exact⟨v,hgp _ w⟩
  have hV0:∀d∈dts B 0 pre,VD L d/\yL L d∈pre:=λd hd=>RS hB hL (pre:=[]) (g:=pre) (post:=x::(g++post)) (by rw [e];rfl) hd
  have hgl:(x::g).length=g.length+1:=rfl
  have hdl:=Mf B (x::g) pre.length
  have hdl0:=Mf B pre 0
  have hsc:=fC (Hl (L:=L) (post:=post) (st:=((fnd B L pre).1,F,(pre.length:Int))) hidx rfl (by omega) g2 (x::g) pre.length hdrop (by omega) hgp)
  have hpl:=fC (Cx hB (L:=L) (post:=post) (p:=x.Player) (to:=pre.length+(x::g).length) (by omega) (x::g) pre.length [] [] hdrop rfl hright (by simp;omega))
  simp only [List.nil_append]at hpl
  have hplaced:mh L (pre.length:Int) ((pre.length+(x::g).length:Nat):Int) B=some ((lM cD (dts B pre.length (x::g))).map gP,lfs B pre.length (x::g)):=by
   unfold mh
   rw [hidx,ob_,Mc B x.Player false hB.few,ob_]
   show (fZ _ (λs=>fH _ L (MB B x.Player) s)).bind _=_
   rw [hpl,ob_,eu]
   simp only
   rw [stableP _ (by rw [List.length_map];omega),ob_]
   have hsl:j5 (lM cP ((dts B pre.length (x::g)).map gP)) ((dts B pre.length (x::g)).map gP)=some ():=by unfold j5;rw [if_pos (xe _ _)]
   rw [hsl,ob_,Q9 gP (c:=cD) (λa b=>rfl)]
  have hcong:lM cD (dts B pre.length (x::g))=lM (c2 L) (dts B pre.length (x::g)):=Mo _ (λa ha b hb=>by
   unfold cD c2
   rw [(hV1 a ha).2,(hV1 b hb).2,BR];rfl)
  have hsp:lM (c2 L) (dts B 0 (pre++(x::g)))=lM (c2 L) (dts B 0 pre)++lM (c2 L) (dts B pre.length (x::g)):=by
   rw [NG,Nat.zero_add]
   refine Qx _ _ _ (λv hv a ha => ?_)
   have hl:lt (yL L a).Player (yL L v).Player:=by
    rw [(hV1 v hv).2]
    exact hlt _ (hV0 a ha).2 x (by simp)
   have hc:Aa (yL L v).Player (yL L a).Player=1:=by
    rcases vQ (yL L v).Player (yL L a).Player with⟨h1,_⟩|⟨h1,_⟩|⟨_,h2⟩
    ·exact absurd (lt_trans hl h1) (oW _)
    ·rw [h1]at hl;exact absurd hl (oW _)
    ·exact h2
   unfold c2 KU
   rw [hc]
   show ¬(1:Int)<0
   omega
  have hfnd:fnd B L (pre++(x::g))=((nW L (fnd B L pre).1 (lM (c2 L) (dts B pre.length (x::g)))).1,(fnd B L pre).2++(nW L (fnd B L pre).1 (lM (c2 L) (dts B pre.length (x::g)))).2):=by
   unfold fnd
   rw [hsp,DY]
  obtain ⟨hg1,hg2⟩:=Cm (L:=L) (lM (c2 L) (dts B 0 pre)) [] (λd hd=>(hV0 d ((EP _ _ _).1 hd)).1) (λq hq=>by cases hq)
  have hend:FW (fnd B L pre).1 x.Player=0:=by
   unfold FW
   cases hq:(fnd B L pre).1.getLast? with
   | none=>rfl
   | some q =>
    simp only
    have hne:¬q.Player=x.Player:=λeq=>by
     rcases hg2 q (List.mem_of_getLast? hq)with h|⟨d,hd,h⟩
     ·cases h
     ·have:=hlt _ (hV0 d ((EP _ _ _).1 hd)).2 x (by simp)
      rw [<- h,eq]at this
      exact oW _ this
    rw [decide_eq_false hne];rfl
  have hrl:=DX (L:=L) (lM (c2 L) (dts B 0 pre)) []
  have hslen:=xe (c2 L) (dts B 0 pre)
  have hslen2:=xe (c2 L) (dts B pre.length (x::g))
  have hFl:=hF.length_eq
  simp only [List.length_append,List.length_nil]at hFl hrl
  have hFl':(fnd B L pre).1.length+(fnd B L pre).2.length=0+(lM (c2 L) (dts B 0 pre)).length:=hrl
  have hrun:=Be (L:=L) (p:=x.Player) (lM (c2 L) (dts B pre.length (x::g))) 0 (F++lfs B pre.length (x::g)) (fnd B L pre).1 (λd hd=>hV1 d ((EP _ _ _).1 hd)) hg1 (by simp only [List.length_append];omega)
  rw [hend]at hrun
  have happ:iJ F (lfs B pre.length (x::g))=some (F++lfs B pre.length (x::g)):=ql _ _ (by omega)
  have hc:decide ((pre.length:Int)<(L.length:Int))=true:=decide_eq_true (by rw [hlen];simp;omega)
  have hstep:iM L B ((fnd B L pre).1,F,(pre.length:Int))=some (.go ((fnd B L (pre++(x::g))).1,F++lfs B pre.length (x::g)++(nW L (fnd B L pre).1 (lM (c2 L) (dts B pre.length (x::g)))).2,(((pre++(x::g)).length:Nat):Int))):=by
   unfold iM
   simp only [hc,cond_true]
   rw [hsc,ob_,eu,hplaced,ob_,happ,ob_,hcong]
   simp only
   rw [jE (by rw [List.length_map];omega),hrun,ob_,eu,hfnd,List.length_append]
  obtain ⟨n,F',h1,h2⟩:=D9 hB hL m (pre++(x::g)) post (F++lfs B pre.length (x::g)++(nW L (fnd B L pre).1 (lM (c2 L) (dts B pre.length (x::g)))).2) (by simp at hm;omega) (by rw [e3];simp) (λa ha b hb=>by
   rcases List.mem_append.1 ha with ha|ha
   ·exact hlt a ha b (by simp [hb])
   ·rw [hgp a ha];exact g2 b hb) (by
   rw [hfnd,N8,Nat.zero_add]
   simp only
   have h1:(F++lfs B pre.length (x::g)).Perm (lfs B 0 pre++lfs B pre.length (x::g)++(fnd B L pre).2):=by
    refine (hF.append_right _).trans ?_
    rw [List.append_assoc,List.append_assoc]
    exact List.Perm.append_left _ List.perm_append_comm
   refine (h1.append_right _).trans ?_
   rw [List.append_assoc (lfs B 0 pre++lfs B pre.length (x::g))])
  exact⟨n+1,F',by rw [iterN,hstep];exact h1,h2⟩
end Go.Proofs.YtkjlhdminmpmkaaGreatDoor.Law

open Go Go.Eng
namespace Go.Proofs.YtkjlhdminmpmkaaGreatDoor.Law
set_option linter.unusedVariables false
set_option linter.unusedSimpArgs false
def Nl (s:ByteArray):Int:=bif sNe s (⟨#[]⟩:ByteArray)then (bif !xg s then 3 else 0)else 0
theorem lastP {s:ByteArray} (h:ShortK s):lF s=some (Nl s):=by
 unfold lF Nl
 cases sNe s (⟨#[]⟩:ByteArray)with
 | true=>simp only [cond_true,G8 h,ob_];cases xg s <;> rfl
 | false=>rfl
def sZ (last:ByteArray) (x:Log_):ByteArray:=mk (last.data.toList++[32]++NJ x)
theorem sumP (last:ByteArray) {x:Log_} (hl:ShortK last) (h:Ai x):uL last x=some (sZ last x):=by
 have l1:=Pf h;have l2:=u7 hl
 unfold uL
 rw [line_eq h,show last=BB last.data.toList from rfl,show (⟨#[32]⟩:ByteArray)=BB [32] from rfl]
 simp only [ob_]
 rw [zf _ _ (by simp only [List.length_append,List.length_cons,List.length_nil];omega)];simp only [ob_]
 rw [zf _ _ (by simp only [List.length_append,List.length_cons,List.length_nil];omega)];simp only [ob_]
 rw [markP _ (by simp only [List.length_append,List.length_cons,List.length_nil];omega)]
 rfl
theorem D5 (last:ByteArray) (x:Log_):ShortK (sZ last x):=P9 _
end Go.Proofs.YtkjlhdminmpmkaaGreatDoor.Law

namespace Go.Proofs.YtkjlhdminmpmkaaGreatDoor.Law
open Go Go.Eng
set_option linter.unusedVariables false
set_option linter.unusedSimpArgs false
def chn:ByteArray->List Log_->List Log_
 | _,[]=>[]
 | last,x::xs=>⟨x.Player,x.Item,x.No,x.Clock,x.Long,sZ last x⟩::chn (sZ last x) xs
theorem Ip:∀(xs:List Log_) (last:ByteArray),(chn last xs).length=xs.length
 | [],_=>rfl
 | x::xs,last=>by simp only [chn,List.length_cons,Ip xs]
theorem J3 (l:List Log_) (hl:l.length<=1000) (hg:∀x∈l,Ai x) (hf:∀x∈l,rf x=0) {pl:ByteArray} (hp:∀x∈l,x.Player=pl) (hn:∀(k:Nat) (x:Log_),l[k]? = some x->x.No=(k:Int)+1) :
  ∀(xs:List Log_) (k:Nat) (out:List Log_) (last:ByteArray),l.drop k=xs->k<=l.length->out.length=k->ShortK last ->
  ∃s:List Log_×ByteArray,forR (λk x s=>kN l k x s) xs k (out++xs,last)=some (.go s)/\s.1=out++chn last xs
 | [],k,out,last,hd,hkl,ho,hs=>⟨_,rfl,by simp [chn]⟩
 | x::xs,k,out,last,hd,hkl,ho,hs=>by
  have hx:l[k]? = some x:=lq hd
  have hlt:=(List.getElem?_eq_some_iff.1 hx).1
  have hgx:=hg x (List.mem_of_getElem? hx)
  have hi:inR (k:Int) (out++x::xs)=some ():=inR_okK (by omega) (by simp;omega)
  have hgk:(out++x::xs)[0+(k:Int).toNat]? = some x:=by
   rw [show 0+(k:Int).toNat=out.length by omega];simp
  have hsetk:∀a:Log_,(out++x::xs).set (0+(k:Int).toNat) a=(out++[a])++xs:=λa=>by
   rw [show 0+(k:Int).toNat=out.length by omega];simp
  have h1:(bif (decide ((k:Int)>0))then (idx l 0).bind λy_28=>some (sNe x.Player y_28.Player)else some false)=some false:=by
   by_cases hk0:k=0
   ·rw [decide_eq_false (by omega)];rfl
   ·have h0:idx l 0=some (l[0]'(by omega)):=by
     have:=jV l 0
     rw [show ((0:Nat):Int)=0 from rfl]at this
     rw [this];exact List.getElem?_eq_getElem _
    rw [decide_eq_true (by omega),cond_true,h0,ob_]
    have e:x.Player=(l[0]'(by omega)).Player:=by rw [hp x (List.mem_of_getElem? hx),hp _ (List.getElem_mem _)]
    have e2:sNe x.Player (l[0]'(by omega)).Player = !sEq x.Player (l[0]'(by omega)).Player:=rfl
    rw [e2,(yw _ _).2 e];rfl
  have h2:(bif (decide ((k:Int)>0))then (idx l (w64 ((k:Int)-1))).bind λy_34=>some (x.No != (w64 (y_34.No+1)))else some false)=some false:=by
   by_cases hk0:k=0
   ·rw [decide_eq_false (by omega)];rfl
   ·obtain ⟨j,rfl⟩:∃j,k=j+1:=⟨k-1,by omega⟩
    have hj:l[j]? = some (l[j]'(by omega)):=List.getElem?_eq_getElem _
    rw [decide_eq_true (by omega),cond_true,dw (by omega),show (((j+1:Nat):Int)-1)=(j:Int) by omega,jV,hj,ob_,hn _ _ hj,hn _ _ hx,dw (by omega)]
    simp
  have hA:kN l k x (out++x::xs,last)=some (.go ((out++[⟨x.Player,x.Item,x.No,x.Clock,x.Long,sZ last x⟩])++xs,sZ last x)):=by
   unfold kN
   simp only [CL hgx,sumP last hs hgx,hi,hgk,hsetk,ob_,h1,h2,hf x (List.mem_of_getElem? hx),bne_self_eq_false,cond_false]
  obtain ⟨s,e1,e2⟩:=J3 l hl hg hf hp hn xs (k+1) (out++[⟨x.Player,x.Item,x.No,x.Clock,x.Long,sZ last x⟩]) (sZ last x) (aV hd) (by omega) (by simp;omega) (D5 _ _)
  exact⟨s,by simp only [forR,hA,ob_];exact e1,by rw [e2,chn,List.append_assoc];rfl⟩
theorem Rz (l:List Log_) (hl:l.length<=1000) (hg:∀x∈l,Ai x) (hf:∀x∈l,rf x=0) {pl:ByteArray} (hp:∀x∈l,x.Player=pl) (hn:∀(k:Nat) (x:Log_),l[k]? = some x->x.No=(k:Int)+1) (hc:dU l=some l) (h0:ShortK (⟨#[]⟩:ByteArray)) :
  mo (⟨#[]⟩:ByteArray) l=some (chn (⟨#[]⟩:ByteArray) l,0):=by
 obtain ⟨s,e1,e2⟩:=J3 l hl hg hf hp hn l 0 [] (⟨#[]⟩:ByteArray) rfl (by omega) rfl h0
 unfold mo
 have hlf:Nl (⟨#[]⟩:ByteArray)=0:=by
  have e2:sNe (⟨#[]⟩:ByteArray) (⟨#[]⟩:ByteArray) = !sEq (⟨#[]⟩:ByteArray) (⟨#[]⟩:ByteArray):=rfl
  unfold Nl
  rw [e2,(yw _ _).2 rfl];rfl
 rw [lastP h0,ob_,hlf,bne_self_eq_false,cond_false,decide_eq_false (by omega),cond_false,hc,ob_,jE (by omega)]
 rw [List.nil_append]at e1
 rw [e1,ob_,eu,e2,List.nil_append]
end Go.Proofs.YtkjlhdminmpmkaaGreatDoor.Law

namespace Go.Proofs.YtkjlhdminmpmkaaGreatDoor.Law
open Go Go.Eng
set_option linter.unusedVariables false
set_option linter.unusedSimpArgs false
theorem Nz {α:Type} (c:α->α->Int):∀(Q R:List α),(∀v∈Q,∀u∈R,¬c v u<0)->Q.Pairwise (λa b=>¬c b a<0)->sI c R Q=Q.reverse++R
 | [],R,_,_=>rfl
 | v::Q,R,h,hp=>by
  obtain ⟨p1,p2⟩:=List.pairwise_cons.1 hp
  have hi:gm c v R=v::R:=by
   cases R with
   | nil=>rfl
   | cons u R =>
    show (bif decide (c v u<0)then u::gm c v R else v::u::R)=_
    rw [decide_eq_false (h v (by simp) u (by simp))];rfl
  show sI c (gm c v R) Q=_
  rw [hi,Nz c Q (v::R) (λw hw u hu=>by
   rcases List.mem_cons.1 hu with rfl|hu
   ·exact p1 w hw
   ·exact h w (List.mem_cons_of_mem _ hw) u hu) p2]
  simp
theorem srtS_id {α:Type} (c:α->α->Int) (l:List α) (hp:l.Pairwise (λa b=>¬c b a<0)):lM c l=l:=by
 unfold lM
 rw [Nz c l [] (λ_ _ _ h=>by cases h) hp];simp
structure SlotT where
 Time:Window
 Entry:ByteArray
def paT:ByteArray:=⟨#[112,97]⟩
def emT:ByteArray:=⟨#[]⟩
def wZ (x:SlotT):Play:=⟨paT,x.Entry,x.Time.From,x.Time.To-x.Time.From⟩
def xy (off:Int) (n:Nat) (x:SlotT):Log_:=⟨paT,x.Entry,(n:Int)+1,x.Time.From+off,x.Time.To-x.Time.From,emT⟩
def lgs (off:Int):Nat->List SlotT->List Log_
 | _,[]=>[]
 | n,x::r=>xy off n x::lgs off (n+1) r
theorem DI (off:Int):∀(t:List SlotT) (n:Nat),(lgs off n t).length=t.length
 | [],n=>rfl
 | x::r,n=>by rw [lgs,List.length_cons,DI off r,List.length_cons]
def bts (off:Int):List Beat:=[]
theorem momB_of {n:Int} (h:0<=n/\n<=345686399999):momB n=true:=by unfold momB;rw [AQ h];rfl
theorem Rf {off:Int} (ho:off=0):BOk (bts off):=⟨λx hx=>(by cases hx),by simp [bts]⟩
theorem Qa:ShortK paT:=zh rfl
theorem QZ:keyB paT=true:=by kernel_rfl
theorem O6 {off:Int} (ho:off=0):fq (bts off)=some 0:=by
 rw [beatsK _ (λx hx=>(by cases hx)) (by simp [bts])]
 rfl
theorem atF_ts {off a:Int} (ho:off=0) {x:Log_} (hp:x.Player=paT) (hc:x.Clock=a+off) (ha:0<=a/\a<172800000):atF (bts off) x=some a:=by
 have hm:MB (bts off) x.Player=[]:=rfl
 have h8:(plF (bts off) x).2=8:=by
  rcases (MW (Rf ho) x (by unfold inM;omega))with⟨h1,_⟩
  rw [hm]at h1
  have h2:gZ [] x.Clock=some (0,8):=by
   obtain ⟨k,hk⟩:=QF ([]:List Beat_) x.Clock
   have h3:=Gg hk (λy hy=>(by cases hy)) (by unfold inM;omega) (by simp)
   rw [h3];rfl
  rw [h2,so_]at h1
  rw [<- h1]
 unfold atF
 rw [h8]
 show some x.Clock=some a
 rw [hc,ho];simp
structure GoodT (x:SlotT):Prop where
 key:keyB x.Entry=true
 short:ShortK x.Entry
 from_:0<=x.Time.From
 lt:x.Time.From<x.Time.To
 to_:x.Time.To<=86400000
theorem NP {y:Log_} {x:SlotT} {off:Int} (ho:off=0) (hx:GoodT x) (h1:y.Player=paT) (h2:y.Item=x.Entry) (h3:1<=y.No/\y.No<=1000000) (h4:y.Clock=x.Time.From+off) (h5:y.Long=x.Time.To-x.Time.From):rf y=0:=by
 obtain ⟨k1,k2,k3,k4,k5⟩:=hx
 unfold rf
 rw [h1,h2,QZ,k1,AQ h3,AQ (show 0<=y.Clock/\y.Clock<=345686399999 by omega),AQ (show 1<=y.Long/\y.Long<=86400000 by omega)];rfl
theorem Nj {y:Log_} {x:SlotT} {off:Int} (ho:off=0) (hx:GoodT x) (h1:y.Player=paT) (h2:y.Item=x.Entry) (h3:1<=y.No/\y.No<=1000000) (h4:y.Clock=x.Time.From+off) (h5:y.Long=x.Time.To-x.Time.From) (h6:ShortK y.Sum):Ai y:=by
 obtain ⟨k1,k2,k3,k4,k5⟩:=hx
 refine⟨by rw [h1];exact Qa,by rw [h2];exact k2,h6,?_,?_,?_⟩ <;> unfold Med <;> omega
theorem Mt (off:Int):∀(ts:List SlotT) (n i:Nat) (y:Log_),(lgs off n ts)[i]? = some y->∃x,ts[i]? = some x/\y=xy off (n+i) x
 | [],n,i,y,h=>by simp [lgs]at h
 | x::r,n,0,y,h=>by
  simp only [lgs,List.getElem?_cons_zero,so_]at h
  exact⟨x,rfl,h.symm⟩
 | x::r,n,i+1,y,h=>by
  simp only [lgs,List.getElem?_cons_succ]at h
  obtain ⟨z,z1,z2⟩:=Mt off r (n+1) i y h
  exact⟨z,by simpa using z1,by rw [z2,show n+1+i=n+(i+1) by omega]⟩
theorem MH (off:Int):∀(ts:List SlotT) (n i:Nat) (last:ByteArray) (x:SlotT),ts[i]? = some x->∃s,ShortK s/\xg s=true/\(chn last (lgs off n ts))[i]? = some ⟨paT,x.Entry,((n+i:Nat):Int)+1,x.Time.From+off,x.Time.To-x.Time.From,s⟩
 | [],n,i,last,x,h=>by simp at h
 | z::r,n,0,last,x,h=>by
  simp only [List.getElem?_cons_zero,so_]at h
  subst h
  exact⟨sZ last (xy off n z),D5 _ _,NW _,rfl⟩
 | z::r,n,i+1,last,x,h=>by
  simp only [List.getElem?_cons_succ]at h
  obtain ⟨s,s1,s2,s3⟩:=MH off r (n+1) i (sZ last (xy off n z)) x h
  refine⟨s,s1,s2,?_⟩
  simp only [lgs,chn,List.getElem?_cons_succ]
  rw [s3,show n+1+i=n+(i+1) by omega]
theorem RV {off:Int} (ho:off=0):∀(ts:List SlotT) (n:Nat) (last:ByteArray) (p:Option Log_),(∀o,p=some o->o.Player=paT/\o.No=(n:Int))->(∀x∈ts,GoodT x)->n+ts.length<=100000->wK Gb p (chn last (lgs off n ts))=0
 | [],n,last,p,hp,hx,hl=>rfl
 | x::r,n,last,p,hp,hx,hl=>by
  simp only [List.length_cons]at hl
  have hf:rf (⟨paT,x.Entry,(n:Int)+1,x.Time.From+off,x.Time.To-x.Time.From,sZ last (xy off n x)⟩:Log_)=0:=NP ho (hx x (by simp)) rfl rfl (by simp only [];omega) rfl rfl
  have hs:Gb p (⟨paT,x.Entry,(n:Int)+1,x.Time.From+off,x.Time.To-x.Time.From,sZ last (xy off n x)⟩:Log_)=0:=by
   unfold Gb
   have hm:xg (sZ last (xy off n x))=true:=NW _
   rw [hf,bne_self_eq_false,cond_false]
   simp only []
   rw [hm]
   cases p with
   | none=>rfl
   | some o =>
    obtain ⟨o1,o2⟩:=hp o rfl
    have hc:cmpL o (⟨paT,x.Entry,(n:Int)+1,x.Time.From+off,x.Time.To-x.Time.From,sZ last (xy off n x)⟩:Log_) = -1:=by
     unfold cmpL
     simp only []
     rw [o1,BR,o2]
     unfold yT
     rw [if_pos (by omega)];rfl
    simp only []
    rw [hc];rfl
  show wK Gb p ((⟨paT,x.Entry,(n:Int)+1,x.Time.From+off,x.Time.To-x.Time.From,sZ last (xy off n x)⟩:Log_)::chn (sZ last (xy off n x)) (lgs off (n+1) r))=0
  rw [wK,hs]
  exact RV ho r (n+1) _ _ (λo h=>by
   rw [so_]at h
   rw [<- h]
   exact⟨rfl,by simp only [];omega⟩) (λy hy=>hx y (List.mem_cons_of_mem _ hy)) (by omega)
theorem PM {off:Int} (ho:off=0) {ts:List SlotT} (hx:∀x∈ts,GoodT x) (hl:ts.length<=19):LOk (chn emT (lgs off 0 ts))/\jL (chn emT (lgs off 0 ts))=some 0:=by
 have hlen:(chn emT (lgs off 0 ts)).length=ts.length:=by rw [Ip,DI]
 have h0:GK (chn emT (lgs off 0 ts))=0:=by
  unfold GK
  rw [decide_eq_false (by omega),cond_false]
  exact RV ho ts 0 emT none (λo h=>by cases h) hx (by omega)
 obtain ⟨h1,h2⟩:=logsF_0 h0
 refine⟨⟨h1,h2,by omega⟩,?_⟩
 rw [logsK _ (λy hy => ?_) (by omega),h0]
 obtain ⟨i,hi⟩:=List.getElem?_of_mem hy
 have hil:=(List.getElem?_eq_some_iff.1 hi).1
 obtain ⟨s,s1,s2,s3⟩:=MH off ts 0 i emT (ts[i]'(by omega)) (List.getElem?_eq_getElem _)
 rw [hi,so_]at s3
 rw [s3]
 exact Nj ho (hx _ (List.getElem_mem _)) rfl rfl (by simp only [];omega) rfl rfl s1
theorem OP {off:Int} (ho:off=0) {ts:List SlotT} (hx:∀x∈ts,GoodT x) (hl:ts.length<=19):mo (⟨#[]⟩:ByteArray) (lgs off 0 ts)=some (chn emT (lgs off 0 ts),0):=by
 have hlen:=DI off ts 0
 have hy:∀y∈lgs off 0 ts,Ai y/\rf y=0/\y.Player=paT:=λy hy=>by
  obtain ⟨i,hi⟩:=List.getElem?_of_mem hy
  have hil:=(List.getElem?_eq_some_iff.1 hi).1
  obtain ⟨x,x1,x2⟩:=Mt off ts 0 i y hi
  have hg:=hx x (List.mem_of_getElem? x1)
  rw [x2]
  exact⟨Nj ho hg rfl rfl (by show 1<=((0+i:Nat):Int)+1/\((0+i:Nat):Int)+1<=1000000;omega) rfl rfl (zh rfl),NP ho hg rfl rfl (by show 1<=((0+i:Nat):Int)+1/\((0+i:Nat):Int)+1<=1000000;omega) rfl rfl,rfl⟩
 exact Rz _ (by omega) (λy h=>(hy y h).1) (λy h=>(hy y h).2.1) (λy h=>(hy y h).2.2) (λk y h=>by
  obtain ⟨x,x1,x2⟩:=Mt off ts 0 k y h
  rw [x2]
  show ((0+k:Nat):Int)+1=_
  omega) (by
   unfold dU
   rw [ql [] _ (by simp;omega)];simp) (zh rfl)
def dtT:Nat->List SlotT->List Dated
 | _,[]=>[]
 | k,x::r=>⟨x.Time.From,(k:Int)⟩::dtT (k+1) r
theorem Ry {off:Int} (ho:off=0):∀(ts:List SlotT) (n k:Nat) (last:ByteArray),(∀x∈ts,GoodT x)->dts (bts off) k (chn last (lgs off n ts))=dtT k ts/\lfs (bts off) k (chn last (lgs off n ts))=[]
 | [],n,k,last,h=>⟨rfl,rfl⟩
 | x::r,n,k,last,h=>by
  obtain ⟨h1,h2,h3,h4,h5⟩:=h x (by simp)
  have ha:=atF_ts ho (a:=x.Time.From) (x:=(⟨paT,x.Entry,(n:Int)+1,x.Time.From+off,x.Time.To-x.Time.From,sZ last (xy off n x)⟩:Log_)) rfl rfl (by omega)
  obtain ⟨i1,i2⟩:=Ry ho r (n+1) (k+1) (sZ last (xy off n x)) (λy hy=>h y (List.mem_cons_of_mem _ hy))
  show dts (bts off) k ((⟨paT,x.Entry,(n:Int)+1,x.Time.From+off,x.Time.To-x.Time.From,sZ last (xy off n x)⟩:Log_)::chn (sZ last (xy off n x)) (lgs off (n+1) r))=_/\lfs (bts off) k ((⟨paT,x.Entry,(n:Int)+1,x.Time.From+off,x.Time.To-x.Time.From,sZ last (xy off n x)⟩:Log_)::chn (sZ last (xy off n x)) (lgs off (n+1) r))=_
  rw [dts,lfs,ha,i1,i2];exact⟨rfl,rfl⟩
def Asc:Int->List SlotT->Prop
 | _,[]=>True
 | E,x::r=>E<=x.Time.From/\x.Time.From<x.Time.To/\x.Time.To<=172800000/\Asc x.Time.To r
theorem PL:∀(xs:List SlotT) (k:Nat) (E:Int),Asc E xs->(dtT k xs).Pairwise (λa b=>a.f_at<=b.f_at)/\∀d∈dtT k xs,E<=d.f_at
 | [],k,E,_=>⟨List.Pairwise.nil,λd h=>by cases h⟩
 | x::xs,k,E,h=>by
  obtain ⟨h1,h2,h3,h4⟩:=h
  obtain ⟨i1,i2⟩:=PL xs (k+1) x.Time.To h4
  refine⟨List.pairwise_cons.2 ⟨λd hd => ?_,i1⟩,λd hd => ?_⟩
  ·have:=i2 d hd
   show x.Time.From<=d.f_at
   omega
  ·rcases List.mem_cons.1 hd with rfl|hd
   ·exact h1
   ·have:=i2 d hd
    omega
theorem NL:∀(xs:List SlotT) (k:Nat) (d:Dated),d∈dtT k xs->∃(i:Nat) (x:SlotT),xs[i]? = some x/\d.f_i=((k+i:Nat):Int)
 | [],k,d,h=>by cases h
 | x::xs,k,d,h=>by
  rcases List.mem_cons.1 h with rfl|h
  ·exact⟨0,x,rfl,rfl⟩
  ·obtain ⟨i,y,y1,y2⟩:=NL xs (k+1) d h
   exact⟨i+1,y,by simpa using y1,by rw [y2,show k+1+i=k+(i+1) by omega]⟩
def Tells (L:List Log_) (ts:List SlotT):Prop:=∀(i:Nat) (x:SlotT),ts[i]? = some x->∃y:Log_,L[i]? = some y/\y.Player=paT/\y.Item=x.Entry/\y.Long=x.Time.To-x.Time.From
theorem RP {L:List Log_} {ts:List SlotT} (hg:Tells L ts):∀(xs:List SlotT) (k:Nat) (E:Int) (pl:List Play),ts.drop k=xs->Asc E xs->0<=E->(∀q,pl.getLast? = some q->q.At+q.Long<=E)->nW L pl (dtT k xs)=(pl++xs.map wZ,[])
 | [],k,E,pl,hd,ha,h0,hl=>by simp [dtT,nW]
 | x::xs,k,E,pl,hd,ha,h0,hl=>by
  obtain ⟨a1,a2,a3,a4⟩:=ha
  obtain ⟨y,y1,y2,y3,y4⟩:=hg k x (lq hd)
  have hy:yL L (⟨x.Time.From,(k:Int)⟩:Dated)=y:=Q4 y1 rfl
  have hbeg:qC L pl (⟨x.Time.From,(k:Int)⟩:Dated)=(x.Time.From,x.Time.To-x.Time.From):=by
   unfold qC
   rw [hy,y4]
   cases hq:pl.getLast? with
   | none=>rfl
   | some q =>
    have:=hl q hq
    simp only []
    rw [decide_eq_false (p:=q.At+q.Long>x.Time.From) (by omega),Bool.and_false,cond_false]
  have hs:stp L pl (⟨x.Time.From,(k:Int)⟩:Dated)=some (wZ x):=by
   unfold stp
   rw [hbeg,hy,y2,y3]
   simp only []
   rw [decide_eq_false (by omega),momB_of (by omega)];rfl
  show nW L pl ((⟨x.Time.From,(k:Int)⟩:Dated)::dtT (k+1) xs)=_
  rw [nW,hs]
  simp only []
  rw [RP hg xs (k+1) x.Time.To (pl++[wZ x]) (aV hd) a4 (by omega) (λq hq=>by
   rw [K5,so_]at hq
   rw [<- hq]
   show x.Time.From+(x.Time.To-x.Time.From)<=_
   omega)]
  simp
theorem Qt {off:Int} (ho:off=0) {ts:List SlotT} (hx:∀x∈ts,GoodT x) (ha:Asc 0 ts) (hl:ts.length<=19):om (chn emT (lgs off 0 ts)) (bts off)=some (ts.map wZ,[],0):=by
 obtain ⟨hL,hk⟩:=PM ho hx hl
 generalize hLd:chn emT (lgs off 0 ts)=L at hL hk
 have hlen:L.length=ts.length:=by rw [<- hLd,Ip,DI]
 have hg:Tells L ts:=λi x hi=>by
  obtain ⟨s,s1,s2,s3⟩:=MH off ts 0 i emT x hi
  rw [hLd]at s3
  exact⟨_,s3,rfl,rfl,rfl⟩
 obtain ⟨d1,d2⟩:=Ry ho ts 0 0 emT hx
 rw [hLd]at d1 d2
 obtain ⟨p1,p2⟩:=PL ts 0 0 ha
 have hpl:∀d∈dtT 0 ts,(yL L d).Player=paT:=λd hd=>by
  obtain ⟨i,x,x1,x2⟩:=NL ts 0 d hd
  obtain ⟨y,y1,y2,_⟩:=hg i x x1
  rw [Q4 y1 (by rw [x2,Nat.zero_add]),y2]
 have hsort:lM (c2 L) (dtT 0 ts)=dtT 0 ts:=srtS_id _ _ (by
  refine (List.Pairwise.and_mem.1 p1).imp (λ{a b} h => ?_)
  obtain ⟨h1,h2,h3⟩:=h
  unfold c2 KU
  rw [hpl a h1,hpl b h2,BR]
  show ¬yT b.f_at a.f_at<0
  unfold yT
  rw [if_neg (by omega)]
  split <;> omega)
 have hfn:fnd (bts off) L L=(ts.map wZ,[]):=by
  unfold fnd
  rw [d1,hsort,RP hg ts 0 0 [] rfl ha (by omega) (λq hq=>by cases hq)];rfl
 obtain ⟨n,F',h1,h2⟩:=D9 (Rf ho) hL L.length [] L [] (Nat.le_refl _) rfl (λa ha=>by cases ha) (List.Perm.refl _)
 have h1:iterN (λs=>iM L (bts off) s) n (([]:List Play),([]:List Int),0)=_:=h1
 rw [hfn]at h1 h2
 rw [d2]at h2
 have hF:F'=[]:=List.eq_nil_of_length_eq_zero (by have:=h2.length_eq;simpa using this)
 subst hF
 obtain ⟨s,s1,_,s3⟩:=Pg (List.Perm.refl ([]:List Int)) (by simp)
 have hs:s=[]:=List.eq_nil_of_length_eq_zero (by simpa using s3)
 subst hs
 unfold om
 rw [hk,O6 ho]
 show (fZ _ _).bind _=_
 rw [fC h1,ob_,eu]
 simp only []
 rw [s1,ob_];rfl
end Go.Proofs.YtkjlhdminmpmkaaGreatDoor.Law

open Go Go.Eng
namespace Go.Proofs.YtkjlhdminmpmkaaGreatDoor.Law
set_option linter.unusedVariables false
set_option linter.unusedSimpArgs false
def L8 (n:Int):Bool:=out n 345686399999
theorem AR (n:Int):bR n=some (!L8 n):=by
 unfold bR L8 out
 have e1:decide (n>=0) = !decide (n<0):=by rw [Bool.eq_iff_iff];simp
 have e2:decide (n<345686400000) = !decide (n>345686399999):=by rw [Bool.eq_iff_iff];simp;omega
 rw [e1,e2]
 cases decide (n<0) <;> cases decide (n>345686399999) <;> rfl
def Qi (n:Int):Bool:=decide (n<1)||decide (n>86400000)
theorem outL_eq (n:Int):aX n 1 86400000=some (Qi n):=by
 unfold aX Qi
 cases decide (n<1) <;> cases decide (n>86400000) <;> rfl
def Rn (p:Play):Prop:=nN p.Player/\nN p.Item
def Fh (p:Play):Int:=bif !keyB p.Player || !keyB p.Item then 5 else bif L8 p.At||Qi p.Long then 1 else 0
def zO:List Play->Int
 | []=>0
 | p::l=>or0 (Fh p) (zO l)
theorem Cy {body:Nat->Play->Unit->Option (Ctl Unit Int)}:∀(l:List Play) (k:Nat),(∀k p,p∈l->body k p ()=some (BP (Fh p)))->forR body l k ()=some (BP (zO l))
 | [],k,_=>rfl
 | p::l,k,h=>by
  rw [forR,h k p (by simp),ob_,zO]
  unfold BP or0
  cases hp:Fh p==0 with
  | true=>exact Cy l (k+1) (λk p hp=>h k p (by simp [hp]))
  | false =>
   simp only [cond_false]
   rw [hp];rfl
theorem playK (k:Nat) (p:Play) (h:Rn p):iQ k p ()=some (BP (Fh p)):=by
 obtain ⟨h1,h2⟩:=h
 unfold nN at h1 h2
 unfold iQ Fh
 rw [oM _ (by omega),oM _ (by omega),AR,outL_eq]
 cases keyB p.Player <;> cases keyB p.Item <;> cases L8 p.At <;> cases Qi p.Long <;> rfl
def bad (b:Bool):Int:=bif b then 1 else 0
def Dt (l:List Campaign) (p:List Play) (at_:Int):Int:=or0 (sF l) (or0 (zO p) (bad (L8 at_)))
theorem Jk (l:List Campaign) (p:List Play) (at_:Int) (hl:∀x∈l,Gy x) (hp:∀x∈p,Rn x) (h1:l.length<=1000) (h2:p.length<=1000):jO l p at_=some (Dt l p at_):=by
 unfold jO Dt
 rw [Qy l hl (by omega),ob_]
 have hd:decide ((p.length:Int)>3000)=false:=by simp;omega
 rw [hd,cond_false,jE (by omega),Cy p 0 (λk q hq=>playK k q (hp q hq)),AR]
 unfold or0 bne
 cases h:sF l==0 with
 | false=>rfl
 | true =>
  simp only [Bool.not_true,cond_false,cond_true,ob_]
  unfold BP
  cases hq:zO p==0 with
  | true=>cases L8 at_ <;> rfl
  | false=>rfl
def FH (c:Campaign):Prop:=0<=c.Time.From/\c.Time.From<c.Time.To/\c.Time.To<=345686400000/\(0<=c.Goal/\c.Goal<=1000000)/\0<=c.Cents/\c.Cents<=1000000000
theorem Ep {c:Campaign} {last:ByteArray} (h:ik last c=0):FH c:=by
 unfold ik at h
 cases h1:(!keyB c.Key||(decide (c.Class.size≠0) && !keyB c.Class))with
 | true=>rw [h1]at h;cases h
 | false =>
  cases h2:sLe c.Key last with
  | true=>rw [h1,h2]at h;cases h
  | false =>
   cases h3:(Cb c.Time||(out c.Goal 1000000||(out c.Most 1000000||out c.Cents 1000000000)))with
   | true=>rw [h1,h2,h3]at h;cases h
   | false =>
    simp only [Cb,out,Bool.or_eq_false_iff,decide_eq_false_iff_not]at h3
    unfold FH
    omega
def Rq (c:Campaign) (at_:Int):Int:=if at_<c.Time.From then 0 else if at_>=c.Time.To then c.Goal else (c.Goal*(at_-c.Time.From)).tdiv (c.Time.To-c.Time.From)
theorem due_eqK (c:Campaign) (at_:Int) (hc:FH c) (ha : -1000<=at_/\at_<=1000):mK c at_=some (Rq c at_):=by
 obtain ⟨h1,h2,h3,h4,h5⟩:=hc
 have hq:∀a b:Int,0<b -> -9223372036854775808<=a.tdiv b->a.tdiv b<=9223372036854775807->FK .i64 a b=some (a.tdiv b):=λa b hb k1 k2=>by
  unfold FK
  rw [if_neg (by omega)]
  exact congrArg some (dw (n:=a.tdiv b) ⟨k1,k2⟩)
 unfold mK Rq
 by_cases k1:at_<c.Time.From
 ·rw [decide_eq_true k1,if_pos k1];rfl
 ·rw [decide_eq_false k1,if_neg k1,cond_false]
  by_cases k2:at_>=c.Time.To
  ·rw [decide_eq_true k2,if_pos k2];rfl
  ·rw [decide_eq_false k2,if_neg k2,cond_false]
   have hm:c.Goal*(at_-c.Time.From)<=1000000*1000:=Int.le_trans (Int.mul_le_mul_of_nonneg_right h4.2 (by omega)) (Int.mul_le_mul_of_nonneg_left (by omega) (by omega))
   have hm0:0<=c.Goal*(at_-c.Time.From):=Int.mul_nonneg h4.1 (by omega)
   have e:(c.Goal*(at_-c.Time.From)).tdiv (c.Time.To-c.Time.From)=c.Goal*(at_-c.Time.From) / (c.Time.To-c.Time.From):=Int.tdiv_eq_ediv_of_nonneg hm0
   have k3:0<=c.Goal*(at_-c.Time.From) / (c.Time.To-c.Time.From):=Int.ediv_nonneg hm0 (by omega)
   have k4:=Int.ediv_le_self (c.Time.To-c.Time.From) hm0
   rw [dw (n:=at_-c.Time.From) (by omega),dw (n:=c.Goal*(at_-c.Time.From)) (by omega),dw (n:=c.Time.To-c.Time.From) (by omega),hq _ _ (by omega) (by rw [e];omega) (by rw [e];omega)]
   rfl
def Bv (c:Campaign) (at_:Int) (p:Play):Bool:=sEq p.Item c.Key&&(decide (c.Time.From<=p.At)&&(decide (p.At<c.Time.To)&&decide (p.At<at_)))
def yZ (c:Campaign) (at_:Int):List Play->Int
 | []=>0
 | p::l=>(bif Bv c at_ p then 1 else 0)+yZ c at_ l
theorem zM (c:Campaign) (at_:Int) {body:Nat->Play->Int->Option (Ctl Int Unit)}:∀(l:List Play) (k:Nat) (s:Int),(∀k p s,body k p s=some (.go (bif Bv c at_ p then w64 (s+1)else s)))->0<=s->s+l.length<=1000000->forR body l k s=some (.go (s+yZ c at_ l))
 | [],k,s,_,_,_=>by simp [forR,yZ]
 | p::l,k,s,h,h0,hl=>by
  simp only [List.length_cons]at hl
  rw [forR,h,ob_,yZ]
  cases Bv c at_ p with
  | true =>
   simp only [cond_true]
   rw [dw (n:=s+1) (by omega),zM c at_ l (k+1) (s+1) h (by omega) (by omega),Int.add_assoc]
  | false =>
   simp only [cond_false]
   rw [zM c at_ l (k+1) s h h0 (by omega),Int.zero_add]
theorem doneK (c:Campaign) (at_:Int) (p:List Play) (hl:p.length<=1000):forL p (0:Int) (λk x s=>kz c at_ k x s)=some (.go (yZ c at_ p)):=by
 rw [jE (by omega),zM c at_ p 0 0 (λk q s=>by
  unfold kz Bv
  cases sEq q.Item c.Key <;> cases decide (c.Time.From<=q.At) <;> cases decide (q.At<c.Time.To) <;> cases decide (q.At<at_) <;> rfl) (Int.le_refl _) (by omega),Int.zero_add]
def KT (at_:Int) (p:List Play) (c:Campaign):Pace:=⟨c.Key,Rq c at_,yZ c at_ p⟩
theorem GL {α β:Type} (f:α->β) {body:Nat->α->List β->Option (Ctl (List β) Unit)}:∀(l:List α) (k:Nat) (s:List β),(∀k r s,r∈l->s.length<=1000000->body k r s=some (.go (s++[f r])))->s.length+l.length<=1000000->forR body l k s=some (.go (s++l.map f))
 | [],k,s,_,_=>by simp [forR]
 | r::l,k,s,h,hl=>by
  simp only [List.length_cons]at hl
  rw [forR,h k r s (by simp) (by omega),ob_]
  simp only
  rw [GL f l (k+1) _ (λk q s hq=>h k q s (by simp [hq])) (by simp;omega)]
  simp
theorem pacesK (l:List Campaign) (p:List Play) (at_:Int) (hl:l.length<=1000) (hp:p.length<=1000) (hc:∀c∈l,FH c) (ha : -1000<=at_/\at_<=1000):nL l p at_=some (l.map (KT at_ p)):=by
 unfold nL
 rw [jE (by omega),GL (KT at_ p) l 0 [] (λk c s hcm hs=>by
  unfold ng
  rw [due_eqK c at_ (hc c hcm) ha,ob_,doneK c at_ p hp]
  simp only [ob_,thenC]
  rw [tN _ _ (by simp;omega)];rfl) (by simp;omega)];rfl
end Go.Proofs.YtkjlhdminmpmkaaGreatDoor.Law

open Go Go.Eng Go.Flow
namespace Go.Proofs.YtkjlhdminmpmkaaGreatDoor.Law
set_option linter.unusedVariables false
set_option linter.unusedSimpArgs false
set_option linter.unusedSectionVars false
def xI (g:Log_):SlotT:=⟨⟨g.Clock,g.Clock+1⟩,g.Item⟩
def Made (l:List Campaign) (k:Nat) (g:Log_):Prop:=∃t,g=lg1 k g.Item t/\0<=t/\t<60/\ER l g.Item t
theorem Qz (l:List Campaign):∀(D:List Log_) (n:Nat),(∀(k:Nat) (g:Log_),D[k]? = some g->Made l (n+k) g)->lgs 0 n (D.map xI)=D
 | [],n,_=>rfl
 | g::D,n,h=>by
  obtain ⟨t,h1,_⟩:=h 0 g rfl
  rw [List.map_cons,lgs,Qz l D (n+1) (λk g' hg=>by
   have:=h (k+1) g' (by simpa using hg)
   rwa [show n+(k+1)=n+1+k by omega]at this)]
  congr 1
  generalize g.Item=q at h1
  subst h1
  unfold xy xI lg1
  simp only [Int.add_zero,Nat.add_zero]
  rw [show 1000*t+1-1000*t=(1:Int) by omega]
  rfl
theorem RQ (l:List Campaign):∀(D:List Log_) (n:Nat) (E:Int),(∀(k:Nat) (g:Log_),D[k]? = some g->Made l (n+k) g)->D.Pairwise (λa b=>a.Clock<b.Clock)->(∀g∈D,E<=g.Clock)->Asc E (D.map xI)
 | [],n,E,_,_,_=>trivial
 | g::D,n,E,h,hp,hE=>by
  obtain ⟨p1,p2⟩:=List.pairwise_cons.1 hp
  obtain ⟨t,h1,h2,h3,_⟩:=h 0 g rfl
  have hc:g.Clock=1000*t:=by rw [h1];rfl
  refine⟨hE g (by simp),?_,?_,?_⟩
  ·show g.Clock<g.Clock+1;omega
  ·show g.Clock+1<=172800000;omega
  ·refine RQ l D (n+1) _ (λk g' hg => ?_) p2 (λg' hg => ?_)
   ·have:=h (k+1) g' (by simpa using hg)
    rwa [show n+(k+1)=n+1+k by omega]at this
   ·have:=p1 g' hg
    show g.Clock+1<=g'.Clock
    omega
def cv (q:Play):Play:=⟨q.Player,q.Item,w64 (q.At.tdiv 1000),q.Long⟩
theorem Od {l:List Campaign} {k:Nat} {g:Log_} (h:Made l k g):∃t,cv (wZ (xI g))=(⟨paT,g.Item,t,1⟩:Play)/\0<=t/\t<60/\ER l g.Item t:=by
 obtain ⟨t,h1,h2,h3,h4⟩:=h
 refine⟨t,?_,h2,h3,h4⟩
 have hc:g.Clock=1000*t:=by rw [h1];rfl
 unfold cv wZ xI
 simp only [hc]
 rw [show 1000*t+1-1000*t=(1:Int) by omega,Int.mul_tdiv_cancel_left t (by decide),dw (by omega)]
theorem OL (p:List Play) (hl:p.length<=1000):forL (List.range ((p.length:Int)).toNat) p (λk x s=>dH k x s)=some (.go (p.map cv)):=by
 have hn:((p.length:Int)).toNat=p.length:=by simp
 rw [hn]
 obtain ⟨s,r1,r2,r3⟩:=xh (body:=λk x s=>dH k x s) (λj s=>s.length=p.length/\∀i,s[i]? = if i<j then (p[i]?).map cv else p[i]?) (n:=p.length) (s:=p) (by omega) (λj s hj ⟨i1,i2⟩=>by
  have hjs:j<s.length:=by omega
  have hg:s[j]? = some p[j]:=by rw [i2,if_neg (Nat.lt_irrefl _),List.getElem?_eq_getElem hj]
  unfold dH
  simp only [Go.Flow.inR_at hjs,toN,hg,ob_]
  refine⟨_,rfl,by rw [List.length_set];exact i1,λi => ?_⟩
  rw [List.getElem?_set]
  by_cases hij:j=i
  ·subst hij
   rw [if_pos rfl,if_pos hjs,if_pos (ls_ _),List.getElem?_eq_getElem hj];rfl
  ·rw [if_neg hij,i2]
   by_cases h1:i<j
   ·rw [if_pos h1,if_pos (by omega)]
   ·rw [if_neg h1,if_neg (by omega)]) ⟨rfl,λi=>by rw [if_neg (Nat.not_lt_zero _)]⟩
 have:s=p.map cv:=List.ext_getElem? (λi=>by
  rw [r3,List.getElem?_map]
  by_cases hi:i<p.length
  ·rw [if_pos hi]
  ·rw [if_neg hi,List.getElem?_eq_none (by omega)];rfl)
 rw [r1,this]
section
variable {l:List Campaign}
theorem N9 (hc:sw Campaign.Key l) {c:Campaign} (hcl:c∈l):∀(D:List Log_) (n:Nat),(∀(k:Nat) (g:Log_),D[k]? = some g->Made l (n+k) g)->yZ c 200 (((D.map xI).map wZ).map cv)=cnt c.Key D
 | [],n,_=>rfl
 | g::D,n,h=>by
  obtain ⟨t,h1,h2,h3,h4⟩:=Od (h 0 g rfl)
  rw [List.map_cons,List.map_cons,List.map_cons,yZ,cnt,N9 hc hcl D (n+1) (λk g' hg=>by
   have:=h (k+1) g' (by simpa using hg)
   rwa [show n+(k+1)=n+1+k by omega]at this),h1]
  congr 1
  have e:Bv c 200 (⟨paT,g.Item,t,1⟩:Play)=decide (g.Item=c.Key):=by
   unfold Bv
   by_cases hk:g.Item=c.Key
   ·obtain ⟨c',c1,c2,c3,c4⟩:=h4
    obtain ⟨i,hi⟩:=List.getElem?_of_mem c1
    obtain ⟨j,hj⟩:=List.getElem?_of_mem hcl
    have hij:i=j:=pW hc (List.getElem?_eq_some_iff.1 hi).1 (List.getElem?_eq_some_iff.1 hj).1 (by
     rw [(List.getElem?_eq_some_iff.1 hi).2,(List.getElem?_eq_some_iff.1 hj).2,c2,hk])
    subst hij
    rw [hi]at hj
    have hcc:c'=c:=Option.some.inj hj
    subst hcc
    rw [decide_eq_true hk,(yw _ _).2 hk,decide_eq_true c3,decide_eq_true c4,decide_eq_true (show t<200 by omega)];rfl
   ·have hs:sEq g.Item c.Key=false:=by rw [xZ];exact decide_eq_false hk
    rw [decide_eq_false hk,hs];rfl
  rw [e]
theorem Ej (hk:∀c∈l,keyB c.Key=true/\nN c.Key):∀(D:List Log_) (n:Nat),(∀(k:Nat) (g:Log_),D[k]? = some g->Made l (n+k) g)->zO (((D.map xI).map wZ).map cv)=0/\∀x∈((D.map xI).map wZ).map cv,Rn x
 | [],n,_=>⟨rfl,λx hx=>by cases hx⟩
 | g::D,n,h=>by
  obtain ⟨t,h1,h2,h3,c,c1,c2,_⟩:=Od (h 0 g rfl)
  obtain ⟨i1,i2⟩:=Ej hk D (n+1) (λk g' hg=>by
   have:=h (k+1) g' (by simpa using hg)
   rwa [show n+(k+1)=n+1+k by omega]at this)
  obtain ⟨k1,k2⟩:=hk c c1
  rw [c2]at k1 k2
  rw [List.map_cons,List.map_cons,List.map_cons,h1,zO,i1]
  refine⟨?_,λx hx => ?_⟩
  ·have e:Fh (⟨paT,g.Item,t,1⟩:Play)=0:=by
    unfold Fh L8 Qi out
    simp only []
    rw [QZ,k1,decide_eq_false (show ¬t<0 by omega),decide_eq_false (show ¬t>345686399999 by omega)]
    rfl
   rw [e];rfl
  ·rcases List.mem_cons.1 hx with hx|hx
   ·rw [hx];exact⟨pK rfl,k2⟩
   ·exact i2 x hx
end
section
variable {spots:List Spot} {l:List Campaign}
theorem dealD (h:Office spots l) (hb:gW spots l=some 0):∃v,v<=(netOf spots l).goals/\((v=(netOf spots l).goals/\∃x,(netOf spots l).Deal x/\kY spots l=some (shA spots l x l.length,0))\/(v<(netOf spots l).goals/\kY spots l=some ([],12))):=by
 have hsz:=size_eq (spots:=spots) (l:=l)
 have hsn:=h.sn
 have hln:=h.ln
 obtain ⟨rows,e1,q1,n1,v1,rows',e2,s2,q2,f2,v0,hv⟩:=Sg h
 have g2:=goals_K h.cr (by omega) spots
 have hle:=(Ki (uO h) hv).1
 have hstart:kY spots l=bif decide (v1<(netOf spots l).goals)then some (([]:(List Share)),12)else (forL l (rows',([]:List Share),(l.length:Int)) (λk x s=>jM spots ⟨rows,(l.length:Int)⟩ k x s)).bind λo_31=>thenC o_31 (λs_25=>some (s_25.2.1,0)) (λ_=>none):=by
  unfold kY
  simp only [hb,ob_,e1,n1,tu rfl,e2,s2,g2]
  rfl
 refine⟨v1,hle,?_⟩
 by_cases hlt:v1<(netOf spots l).goals
 ·right
  rw [hstart,decide_eq_true hlt]
  exact⟨hlt,rfl⟩
 ·left
  have hveq:v1=(netOf spots l).goals:=by omega
  rw [hstart,decide_eq_false hlt]
  obtain ⟨d1,d2⟩:=Net.flow_deal f2 hveq
  have hres:=Net.flow_res f2 hveq
  have hst:DealSt spots l 0 0 [] (rows',([]:List Share),(l.length:Int)):=by
   refine⟨rfl,q2,_,d1,λa b ha hb' => ?_,λj m hj hm hp => ?_,?_⟩
   ·rw [hres a b ha hb']
    refine yh (λj m _ _ => ?_) a b ha hb'
    cases hp:Net.prior 0 0 j m with
    | false=>rfl
    | true=>rw [kG]at hp;omega
   ·rw [kG]at hp;omega
   ·show ([]:List Share)=[]++_
    split <;> rfl
  obtain ⟨s',r1,r2⟩:=o7 (body:=λk x s=>jM spots ⟨rows,(l.length:Int)⟩ k x s) (λi s=>DealSt spots l i 0 [] s) (xs:=l) (s:=(rows',([]:List Share),(l.length:Int))) (by omega) (λi c s hc hs=>by
   unfold jM
   obtain ⟨s1,p1,p2⟩:=o7 (body:=λk x s=>jN c ⟨rows,(l.length:Int)⟩ i k x s) (λk s=>DealSt spots l i k [] s) (xs:=spots) (s:=(s.1,s.2.1,s.2.2)) (by omega) (λk sp s hk hs=>deal_L1 h (w:=⟨rows,(l.length:Int)⟩) (by show rows.length=_;exact q1.len) hc hk hs) hs
   rw [p1,ob_,eu]
   refine⟨_,rfl,?_⟩
   obtain ⟨c1,c2,x,c3,c4,c5,c6⟩:=p2
   refine⟨c1,c2,x,c3,λa b ha hb' => ?_,λj m hj hm hp => ?_,?_⟩
   ·show at2 s1.1 a b=_
    rw [c4 a b ha hb']
    exact yh (λj m _ hm=>GX hm) a b ha hb'
   ·exact c5 j m hj hm (by rw [GX (show m<spots.length from hm)];exact hp)
   ·show s1.2.1=_
    rw [c6,hc,shA,hc]
    simp only
    split <;> simp [shC]) hst
  rw [r1]
  obtain ⟨_,_,x,x1,x2,x3,x4⟩:=r2
  refine⟨hveq,x,x1,?_⟩
  simp only [cond_false,ob_,eu]
  rw [x4,List.getElem?_eq_none (Nat.le_refl _)]
  simp
end
theorem topDealtIsPlayed (l:List Int):iL l=some true:=by
 obtain ⟨x,s1,a1,a2,a3,a4,a5,a6,a7⟩:=JM ⟨l,0⟩ (b:=0) ⟨Int.le_refl _,Int.le_refl _⟩ (by decide)
 obtain ⟨x',s1',a1',a8⟩:=KP ⟨l,0⟩ (b:=0) ⟨Int.le_refl _,Int.le_refl _⟩ (by decide)
 rw [a1,so_,Prod.mk.injEq]at a1'
 obtain ⟨rfl,rfl⟩:=a1'
 obtain ⟨c,s2,b1,b2,b3,b4,b5,b6,b7⟩:=KN 3 (.inl rfl) s1 a2 (by decide)
 have b1':dZ s1 3=some (c,s2):=b1
 have hs:=LX (by omega) a5 a6
 have hc:=LH (by omega) b5 (M5.sublist b6)
 have hof:=Jr a4 b4 (by omega) (by omega) hs hc
 have hb:=both_eq x c a4 b4 (by omega) (by omega)
 rw [hs,hc]at hb
 have hb:gW x c=some 0:=hb
 obtain ⟨hsr,_⟩:=LW hs
 obtain ⟨hcr,_⟩:=Mm hc
 obtain ⟨v,m2,m3⟩:=dealD hof hb
 unfold iL
 rcases m3 with⟨e,y,d1,d2⟩|⟨_,d2⟩
 ·rcases Pp Bc hsr hcr a3 (by omega) a8 a7 (λz hz=>by have:=b7 z hz;omega) d1 with⟨D,r1,r2,r3,r4⟩|r1
  ·have hmade:∀(k:Nat) (g:Log_),D[k]? = some g->Made c (0+k) g:=λk g hg=>by
    rw [Nat.zero_add];exact r2.no k g hg
   have hgl:=Ky hof.cr (by omega) x
   have hgo:(netOf x c).goals<=18:=by
    have h1:=Dq (f:=(netOf x c).goal) (M:=6) (n:=c.length) (λi hi=>by
     rw [(wh (List.getElem?_eq_getElem hi)).1]
     have:=b7 _ (List.getElem_mem hi);omega)
    have h2:(netOf x c).goals=S c.length (netOf x c).goal:=rfl
    omega
   have hDl:D.length<=18:=by omega
   have hkey:∀z∈c,keyB z.Key=true/\nN z.Key:=λz hz=>by
    have hm:z.Key∈ze:=b6.subset (List.mem_map_of_mem hz)
    have:=HV _ hm
    exact⟨this.1,this.2.1⟩
   have hgood:∀z∈D.map xI,GoodT z:=λz hz=>by
    obtain ⟨g,hg,rfl⟩:=List.mem_map.1 hz
    obtain ⟨k,hk⟩:=List.getElem?_of_mem hg
    obtain ⟨t,h1,h2,h3,z',z1,z2,_⟩:=hmade k g hk
    obtain ⟨k1,k2⟩:=hkey z' z1
    have hcl:g.Clock=1000*t:=by rw [h1];rfl
    rw [z2]at k1 k2
    exact⟨k1,k2,by show 0<=g.Clock;omega,by show g.Clock<g.Clock+1;omega,by show g.Clock+1<=86400000;omega⟩
   have hasc:Asc 0 (D.map xI):=RQ c D 0 0 hmade r2.up (λg hg=>by
    obtain ⟨k,hk⟩:=List.getElem?_of_mem hg
    obtain ⟨t,h1,h2,_⟩:=hmade k g hk
    rw [h1];show 0<=1000*t;omega)
   have hlgs:=Qz c D 0 hmade
   have hch:=OP (off:=0) rfl hgood (by simp;omega)
   have hpl:=Qt (off:=0) rfl hgood hasc (by simp;omega)
   rw [hlgs]at hch hpl
   have hpl:om (chn emT D) ([]:List Beat)=some ((D.map xI).map wZ,[],0):=hpl
   have hpn:((D.map xI).map wZ).length=D.length:=by rw [List.length_map,List.length_map]
   have hcv:=OL ((D.map xI).map wZ) (by omega)
   rw [hpn]at hcv
   obtain ⟨f1,f2⟩:=Ej hkey D 0 hmade
   have hpp:(((D.map xI).map wZ).map cv).length=D.length:=by rw [List.length_map,hpn]
   have hdone:∀z∈c,yZ z 200 (((D.map xI).map wZ).map cv)=cnt z.Key D:=λz hz=>N9 hcr hz D 0 hmade
   generalize ((D.map xI).map wZ).map cv=P at hcv f1 f2 hpp hdone
   have hpf:=Jk c P 200 b4 f2 (by omega) (by omega)
   have hf0:Dt c P 200=0:=by unfold Dt;rw [hc,f1];rfl
   rw [hf0]at hpf
   have hpaces:nH c P 200=some (c.map (KT 200 P),0):=by
    unfold nH
    rw [hpf,ob_,bne_self_eq_false,cond_false,pacesK c P 200 (by omega) (by omega) (λz hz=>Ep (b5 z hz)) (by omega)];rfl
   obtain ⟨u,w1,_⟩:=o7 (body:=λk y s=>ek (c,s2) k y s) (ρ:=Bool) (λ_ _=>True) (xs:=c.map (KT 200 P)) (s:=()) (by simp;omega) (λk y s hk _=>by
    cases s
    rw [List.getElem?_map]at hk
    cases hck:c[k]? with
    | none=>rw [hck]at hk;cases hk
    | some z =>
     rw [hck]at hk
     have hy:KT 200 P z=y:=by simpa using hk
     have hz:=List.mem_of_getElem? hck
     have hrc:=Ep (b5 z hz)
     have hb7:=b7 z hz
     unfold FH at hrc
     have hdn:y.Done=z.Goal:=by rw [<- hy];show yZ z 200 P=_;rw [hdone z hz,r4 k z hck]
     have hdu:y.Due=z.Goal:=by
      rw [<- hy];show Rq z 200=_
      unfold Rq
      rw [if_neg (by omega),if_pos (by omega)]
     refine⟨(),?_,trivial⟩
     unfold ek
     simp only [jV,hck,ob_,hdn,hdu,bne_self_eq_false,cond_false]) trivial
   have hlen:(((D.map xI).map wZ).length:Int)=(D.length:Int):=by rw [hpn]
   have hch':mo (⟨#[]⟩:ByteArray) D=some (chn emT D,0):=hch
   simp only [a1,b1',d2,ob_,bne_self_eq_false,cond_false,r1,eu,hch',hpl,List.length_nil,hlen,hcv,hpaces,List.length_map,w1,Bc]
   rw [show (((0:Nat):Int) != 0)=false from rfl]
   simp only [cond_false,ob_,hcv,eu,hpaces,bne_self_eq_false,List.length_map,w1,Bc]
  ·simp only [a1,b1',d2,ob_,bne_self_eq_false,cond_false,r1]
   rfl
 ·simp only [a1,b1',d2,ob_]
  rw [show ((12:Int) != 0)=true from rfl,show ((12:Int)==12)=true from rfl]
  simp only [cond_true,Bc,ob_]
end Go.Proofs.YtkjlhdminmpmkaaGreatDoor.Law

