/-
  THE PLAIN LAW (part 2).
-/
import Derived.Test.YtnkgapmhkhcanabGreatDoorPl1
import Derived.Test.YtnkgapmhkhcanabGreatDoorEng5
open Go Go.Eng
namespace Go.Proofs.YtnkgapmhkhcanabGreatDoor.Law
set_option linter.unusedVariables false
set_option linter.unusedSimpArgs false
def Kl (o b:Beat):Prop:=lt o.Player b.Player\/o.Player=b.Player/\o.At<b.At
instance (o b:Beat):Decidable (Kl o b):=by unfold Kl lt;infer_instance
end Go.Proofs.YtnkgapmhkhcanabGreatDoor.Law

namespace Go.Eng
set_option linter.unusedVariables false
set_option linter.unusedSimpArgs false
end Go.Eng

open Go Go.Eng
namespace Go.Proofs.YtnkgapmhkhcanabGreatDoor.Law
set_option linter.unusedVariables false
set_option linter.unusedSimpArgs false
structure Cut (m:List Beat_) (n:Int) (k:Nat):Prop where
 le:k<=m.length
 lo:∀i (h:i<m.length),i<k->m[i].f_from<=n
 hi:∀(h:k<m.length),n<m[k].f_from
def yZ (x:Int):Int×Int:=bif momB x then (x,0)else (0,11)
def z2:Beat_:=⟨0,0⟩
def gB (b:Beat):Beat_:=⟨b.Clock,b.At⟩
def Kg (s:ByteArray):Int:=bif sNe s (⟨#[]⟩:ByteArray)then (bif !markB s then 3 else 0)else 0
theorem lastP {s:ByteArray} (h:og s):jV s=some (Kg s):=by
 unfold jV Kg
 cases sNe s (⟨#[]⟩:ByteArray)with
 | true=>simp only [cond_true,Eo h,ob_];cases markB s <;> rfl
 | false=>rfl
def tX (last:ByteArray) (x:Log_):ByteArray:=mk (last.data.toList++[32]++Cz x)
theorem sumP (last:ByteArray) {x:Log_} (hl:og last) (h:GoodL x):oq last x=some (tX last x):=by
 have l1:=AA h;have l2:=oo hl
 unfold oq
 rw [KM h,show last=BB last.data.toList from rfl,show (⟨#[32]⟩:ByteArray)=BB [32] from rfl]
 simp only [ob_]
 rw [uu _ _ (by simp only [List.length_append,List.length_cons,List.length_nil];omega)];simp only [ob_]
 rw [uu _ _ (by simp only [List.length_append,List.length_cons,List.length_nil];omega)];simp only [ob_]
 rw [markP _ (by simp only [List.length_append,List.length_cons,List.length_nil];omega)]
 rfl
theorem Dc (last:ByteArray) (x:Log_):og (tX last x):=M3 _
theorem DZ (l2:List Log_):∀(xs:List Log_) (k:Nat),l2.drop k=xs->forR (λk x s=>bX l2 k x s) xs k ()=some (.go ())
 | [],k,h=>rfl
 | x::xs,k,h=>by
  have hstep:bX l2 k x ()=some (.go ()):=by
   unfold bX
   rw [bK h]
   simp
  simp only [forR,hstep,ob_]
  exact DZ l2 xs (k+1) (aR h)
theorem Gw (l:List Log_) (hl:l.length<=1000000000):bU l l=some true:=by
 unfold bU
 have e:((l.length:Int) != (l.length:Int))=false:=by simp
 rw [e,cond_false,jm (by omega),DZ l l 0 rfl]
 rfl
open Go Go.Eng
def chn:ByteArray->List Log_->List Log_
 | _,[]=>[]
 | last,x::xs=>⟨x.Player,x.Item,x.No,x.Clock,x.Long,tX last x⟩::chn (tX last x) xs
theorem BQ:∀(xs:List Log_) (last:ByteArray),(chn last xs).length=xs.length
 | [],_=>rfl
 | x::xs,last=>by simp only [chn,List.length_cons,BQ xs]
theorem Hd (l:List Log_) (hl:l.length<=1000) (hg:∀x∈l,GoodL x) (hf:∀x∈l,formF x=0) {pl:ByteArray} (hp:∀x∈l,x.Player=pl) (hn:∀(k:Nat) (x:Log_),l[k]? = some x->x.No=(k:Int)+1) :
  ∀(xs:List Log_) (k:Nat) (out:List Log_) (last:ByteArray),l.drop k=xs->k<=l.length->out.length=k->og last ->
  ∃s:List Log_×ByteArray,forR (λk x s=>jw l k x s) xs k (out++xs,last)=some (.go s)/\s.1=out++chn last xs
 | [],k,out,last,hd,hkl,ho,hs=>⟨_,rfl,by simp [chn]⟩
 | x::xs,k,out,last,hd,hkl,ho,hs=>by
  have hx:l[k]? = some x:=xg hd
  have hlt:=(List.getElem?_eq_some_iff.1 hx).1
  have hgx:=hg x (List.mem_of_getElem? hx)
  have hi:inR (k:Int) (out++x::xs)=some ():=NP (by omega) (by simp;omega)
  have hgk:(out++x::xs)[0+(k:Int).toNat]? = some x:=by
   rw [show 0+(k:Int).toNat=out.length by omega];simp
  have hsetk:∀a:Log_,(out++x::xs).set (0+(k:Int).toNat) a=(out++[a])++xs:=λa=>by
   rw [show 0+(k:Int).toNat=out.length by omega];simp
  have h1:(bif (decide ((k:Int)>0))then (idx l 0).bind λy_28=>some (sNe x.Player y_28.Player)else some false)=some false:=by
   by_cases hk0:k=0
   ·rw [decide_eq_false (by omega)];rfl
   ·have h0:idx l 0=some (l[0]'(by omega)):=by
     have:=sK l 0
     rw [show ((0:Nat):Int)=0 from rfl]at this
     rw [this];exact List.getElem?_eq_getElem _
    rw [decide_eq_true (by omega),cond_true,h0,ob_]
    have e:x.Player=(l[0]'(by omega)).Player:=by rw [hp x (List.mem_of_getElem? hx),hp _ (List.getElem_mem _)]
    have e2:sNe x.Player (l[0]'(by omega)).Player = !sEq x.Player (l[0]'(by omega)).Player:=rfl
    rw [e2,(lG _ _).2 e];rfl
  have h2:(bif (decide ((k:Int)>0))then (idx l (w64 ((k:Int)-1))).bind λy_34=>some (x.No != (w64 (y_34.No+1)))else some false)=some false:=by
   by_cases hk0:k=0
   ·rw [decide_eq_false (by omega)];rfl
   ·obtain ⟨j,rfl⟩:∃j,k=j+1:=⟨k-1,by omega⟩
    have hj:l[j]? = some (l[j]'(by omega)):=List.getElem?_eq_getElem _
    rw [decide_eq_true (by omega),cond_true,fQ (by omega),show (((j+1:Nat):Int)-1)=(j:Int) by omega,sK,hj,ob_,hn _ _ hj,hn _ _ hx,fQ (by omega)]
    simp
  have hA:jw l k x (out++x::xs,last)=some (.go ((out++[⟨x.Player,x.Item,x.No,x.Clock,x.Long,tX last x⟩])++xs,tX last x)):=by
   unfold jw
   simp only [Ba hgx,sumP last hs hgx,hi,hgk,hsetk,ob_,h1,h2,hf x (List.mem_of_getElem? hx),bne_self_eq_false,cond_false]
  obtain ⟨s,e1,e2⟩:=Hd l hl hg hf hp hn xs (k+1) (out++[⟨x.Player,x.Item,x.No,x.Clock,x.Long,tX last x⟩]) (tX last x) (aR hd) (by omega) (by simp;omega) (Dc _ _)
  exact⟨s,by simp only [forR,hA,ob_];exact e1,by rw [e2,chn,List.append_assoc];rfl⟩
theorem OH (l:List Log_) (hl:l.length<=1000) (hg:∀x∈l,GoodL x) (hf:∀x∈l,formF x=0) {pl:ByteArray} (hp:∀x∈l,x.Player=pl) (hn:∀(k:Nat) (x:Log_),l[k]? = some x->x.No=(k:Int)+1) (hc:bJ l=some l) (h0:og (⟨#[]⟩:ByteArray)) :
  pF (⟨#[]⟩:ByteArray) l=some (chn (⟨#[]⟩:ByteArray) l,0):=by
 obtain ⟨s,e1,e2⟩:=Hd l hl hg hf hp hn l 0 [] (⟨#[]⟩:ByteArray) rfl (by omega) rfl h0
 unfold pF
 have hlf:Kg (⟨#[]⟩:ByteArray)=0:=by
  have e2:sNe (⟨#[]⟩:ByteArray) (⟨#[]⟩:ByteArray) = !sEq (⟨#[]⟩:ByteArray) (⟨#[]⟩:ByteArray):=rfl
  unfold Kg
  rw [e2,(lG _ _).2 rfl];rfl
 rw [lastP h0,ob_,hlf,bne_self_eq_false,cond_false,decide_eq_false (by omega),cond_false,hc,ob_,jm (by omega)]
 rw [List.nil_append]at e1
 rw [e1,ob_,gM,e2,List.nil_append]
structure SeqL (pl:ByteArray) (n:Nat) (l:List Log_):Prop where
 good:∀x∈l,GoodL x
 form:∀x∈l,formF x=0
 mark:∀x∈l,markB x.Sum=true
 player:∀x∈l,x.Player=pl
 no:∀(i:Nat) (x:Log_),l[i]? = some x->x.No=((n+i:Nat):Int)+1
 few:l.length<=1000
theorem SeqL.tail {pl:ByteArray} {n:Nat} {x:Log_} {l:List Log_} (h:SeqL pl n (x::l)):SeqL pl (n+1) l :=
 ⟨λy hy=>h.good y (List.mem_cons_of_mem _ hy),λy hy=>h.form y (List.mem_cons_of_mem _ hy),λy hy=>h.mark y (List.mem_cons_of_mem _ hy),λy hy=>h.player y (List.mem_cons_of_mem _ hy),
  λi y hi=>by rw [h.no (i+1) y (by simpa using hi),show n+(i+1)=n+1+i by omega],by have:=h.few;simp only [List.length_cons]at this;omega⟩
theorem SeqL.drop {pl:ByteArray}:∀(k n:Nat) {l:List Log_},SeqL pl n l->SeqL pl (n+k) (l.drop k)
 | 0,n,l,h=>h
 | k+1,n,[],h=>by
  rw [List.drop_nil]
  exact⟨λx hx=>(by cases hx),λx hx=>(by cases hx),λx hx=>(by cases hx),λx hx=>(by cases hx),λi x hi=>(by simp at hi),(by simp)⟩
 | k+1,n,x::l,h=>by
  have:=SeqL.drop k (n+1) h.tail
  rw [show n+(k+1)=n+1+k by omega]
  exact this
theorem SeqL.take {pl:ByteArray} (k:Nat) {n:Nat} {l:List Log_} (h:SeqL pl n l):SeqL pl n (l.take k) :=
 ⟨λy hy=>h.good y (List.mem_of_mem_take hy),λy hy=>h.form y (List.mem_of_mem_take hy),λy hy=>h.mark y (List.mem_of_mem_take hy),λy hy=>h.player y (List.mem_of_mem_take hy),
  λi y hi=>h.no i y (by
   rw [List.getElem?_take]at hi
   split at hi
   ·exact hi
   ·cases hi),by have:=h.few;rw [List.length_take];omega⟩
theorem ND {a b:Log_} (h:a.Player=b.Player) (h2:a.No<b.No):cmpL a b = -1:=by
 unfold cmpL
 rw [h,Eu]
 unfold or0 MH
 rw [if_pos h2];rfl
theorem K5 {pl:ByteArray}:∀{l:List Log_} {n:Nat} (p:Option Log_),(∀o,p=some o->o.Player=pl/\o.No=(n:Int))->SeqL pl n l->Ma L6 p l=0
 | [],n,p,hp,h=>rfl
 | x::l,n,p,hp,h=>by
  have hf:=h.form x (by simp)
  have hm:=h.mark x (by simp)
  have hn:=h.no 0 x rfl
  have hpl:=h.player x (by simp)
  have hs:L6 p x=0:=by
   unfold L6
   rw [hf,bne_self_eq_false,cond_false,hm]
   cases p with
   | none=>rfl
   | some o =>
    obtain ⟨o1,o2⟩:=hp o rfl
    simp only [Bool.not_true,cond_false]
    rw [ND (by rw [o1,hpl]) (by rw [o2,hn];omega)];rfl
  rw [Ma,hs]
  exact K5 (some x) (λo ho=>by
   rw [so_]at ho
   rw [<- ho]
   exact⟨hpl,by rw [hn];omega⟩) h.tail
theorem SeqL.check {pl:ByteArray} {n:Nat} {l:List Log_} (h:SeqL pl n l):bW l=some 0:=by
 have hl:=h.few
 rw [logsK l h.good (by omega)]
 unfold Ni
 rw [decide_eq_false (by omega),cond_false,K5 none (λo ho=>by cases ho) h]
def nN (l:List Log_) (k:Nat):ByteArray:=if k=0 then (⟨#[]⟩:ByteArray)else match l[k-1]? with
 | some y=>y.Sum
 | none=>(⟨#[]⟩:ByteArray)
theorem EC {pl:ByteArray} {l:List Log_} (h:SeqL pl 0 l) (bad:Nat->Bool) (hb:∀(k:Nat) (x:Log_),l[k]? = some x->sNe (tX (nN l k) x) x.Sum=bad k) :
  ∀(xs:List Log_) (k:Nat) (out:List Int),l.drop k=xs->out.length<=k->forR (λk x s=>iU l k x s) xs k out=some (.go (out++((List.range' k xs.length).filter bad).map (λ(i:Nat)=>(i:Int))))
 | [],k,out,hd,ho=>by simp [forR]
 | x::xs,k,out,hd,ho=>by
  have hx:=xg hd
  have hlt:=(List.getElem?_eq_some_iff.1 hx).1
  have hm:=List.mem_of_getElem? hx
  have hl:=h.few
  have hbk:=hb k x hx
  have happ:mg out ([(k:Int)]:List Int)=some (out++[(k:Int)]):=uH _ _ (by simp only [List.length_cons,List.length_nil];omega)
  have hstep:iU l k x out=some (.go (out++(if bad k then [(k:Int)]else []))):=by
   unfold iU
   by_cases hk:k=0
   ·subst hk
    have hno:=h.no 0 x hx
    have hs:=sumP (⟨#[]⟩:ByteArray) (uB rfl) (h.good x hm)
    have ha:nN l 0=(⟨#[]⟩:ByteArray):=rfl
    rw [ha]at hbk
    rw [decide_eq_false (by omega),cond_false,ob_,cond_false,show (x.No != 1)=false by rw [hno];rfl,cond_false,hs,ob_,hbk]
    cases bad 0 with
    | true=>simp only [cond_true,happ,ob_,if_true]
    | false=>simp only [cond_false,ob_,Bool.false_eq_true,if_false,List.append_nil]
   ·obtain ⟨j,rfl⟩:∃j,k=j+1:=⟨k-1,by omega⟩
    have hj:l[j]? = some (l[j]'(by omega)):=List.getElem?_eq_getElem _
    have hjm:l[j]'(by omega)∈l:=List.getElem_mem _
    have hi:idx l (w64 (((j+1:Nat):Int)-1))=some (l[j]'(by omega)):=by
     rw [fQ (by omega),show (((j+1:Nat):Int)-1)=(j:Int) by omega,sK,hj]
    have ha:nN l (j+1)=(l[j]'(by omega)).Sum:=by
     unfold nN
     rw [if_neg (by omega),show j+1-1=j by omega,hj]
    rw [ha]at hbk
    have hs:=sumP (l[j]'(by omega)).Sum (h.good _ hjm).2.2.1 (h.good x hm)
    have e1:sEq (l[j]'(by omega)).Player x.Player=true:=(lG _ _).2 (by rw [h.player _ hjm,h.player x hm])
    have n1:=h.no j _ hj
    have n2:=h.no (j+1) x hx
    have e2:((l[j]'(by omega)).No==w64 (x.No-1))=true:=by
     rw [beq_iff_eq,n1,n2,fQ (by omega)];omega
    simp only [decide_eq_true (show ((j+1:Nat):Int)>0 by omega),cond_true,hi,ob_,e1,e2,hs,hbk]
    cases bad (j+1)with
    | true=>simp only [cond_true,happ,ob_,if_true]
    | false=>simp only [cond_false,ob_,Bool.false_eq_true,if_false,List.append_nil]
  rw [forR,hstep,ob_]
  simp only []
  rw [EC h bad hb xs (k+1) _ (aR hd) (by rw [List.length_append];split <;> simp <;> omega),List.length_cons,List.range'_succ,List.filter_cons]
  cases bad k with
  | true=>simp
  | false=>simp
theorem EO {pl:ByteArray} {l:List Log_} (h:SeqL pl 0 l) (bad:Nat->Bool) (hb:∀(k:Nat) (x:Log_),l[k]? = some x->sNe (tX (nN l k) x) x.Sum=bad k):jS l=some (((List.range l.length).filter bad).map (λ(i:Nat)=>(i:Int)),0):=by
 unfold jS
 rw [h.check,ob_,bne_self_eq_false,cond_false,jm (by have:=h.few;omega),EC h bad hb l 0 [] rfl (Nat.le_refl _),ob_,gM,List.nil_append,List.range_eq_range']
theorem Cy {pl:ByteArray} {l:List Log_} (h:SeqL pl 0 l):∀(xs:List Log_) (k:Nat),l.drop k=xs->forR (λk x s=>ik l k x s) xs k ([]:List Log_)=some (.go [])
 | [],k,hd=>rfl
 | x::xs,k,hd=>by
  have hx:=xg hd
  have hlt:=(List.getElem?_eq_some_iff.1 hx).1
  have hm:=List.mem_of_getElem? hx
  have hl:=h.few
  have hno:=h.no k x hx
  have hstep:ik l k x []=some (.go []):=by
   unfold ik
   by_cases hk:k=0
   ·subst hk
    rw [decide_eq_false (by omega),cond_false,ob_,cond_false,ob_,decide_eq_false (by rw [hno];omega)];rfl
   ·obtain ⟨j,rfl⟩:∃j,k=j+1:=⟨k-1,by omega⟩
    have hj:l[j]? = some (l[j]'(by omega)):=List.getElem?_eq_getElem _
    have hjm:l[j]'(by omega)∈l:=List.getElem_mem _
    have hi:idx l (w64 (((j+1:Nat):Int)-1))=some (l[j]'(by omega)):=by
     rw [fQ (by omega),show (((j+1:Nat):Int)-1)=(j:Int) by omega,sK,hj]
    have e1:sEq (l[j]'(by omega)).Player x.Player=true:=(lG _ _).2 (by rw [h.player _ hjm,h.player x hm])
    have n1:=h.no j _ hj
    simp only [decide_eq_true (show ((j+1:Nat):Int)>0 by omega),cond_true,hi,ob_,e1]
    rw [decide_eq_false (by rw [hno,n1,fQ (by omega)];omega)];rfl
  rw [forR,hstep,ob_]
  exact Cy h xs (k+1) (aR hd)
theorem JU {pl:ByteArray} {l:List Log_} (h:SeqL pl 0 l):ma l=some ([],0):=by
 unfold ma
 rw [h.check,ob_,bne_self_eq_false,cond_false,jm (by have:=h.few;omega),Cy h l 0 rfl,ob_,gM]
theorem K9:∀(l:List Log_) (last:ByteArray) (k:Nat) (x:Log_),l[k]? = some x->(chn last l)[k]? = some ⟨x.Player,x.Item,x.No,x.Clock,x.Long,tX (if k=0 then last else (match (chn last l)[k-1]? with | some y=>y.Sum | none=>(⟨#[]⟩:ByteArray))) x⟩
 | z::l,last,0,x,h=>by
  simp only [List.getElem?_cons_zero,so_]at h
  subst h;rfl
 | z::l,last,k+1,x,h=>by
  simp only [List.getElem?_cons_succ]at h
  have ih:=K9 l (tX last z) k x h
  simp only [chn,List.getElem?_cons_succ]
  rw [ih]
  cases k with
  | zero=>rfl
  | succ k=>rfl
theorem chn_seq {pl:ByteArray} {l:List Log_} (hg:∀x∈l,GoodL x) (hf:∀x∈l,formF x=0) (hp:∀x∈l,x.Player=pl) (hn:∀(i:Nat) (x:Log_),l[i]? = some x->x.No=(i:Int)+1) (hl:l.length<=1000) :
  SeqL pl 0 (chn (⟨#[]⟩:ByteArray) l)/\∀(k:Nat) (y:Log_),(chn (⟨#[]⟩:ByteArray) l)[k]? = some y->y.Sum=tX (nN (chn (⟨#[]⟩:ByteArray) l) k) y/\∃x,l[k]? = some x/\y.Player=x.Player/\y.Item=x.Item/\y.No=x.No/\y.Clock=x.Clock/\y.Long=x.Long:=by
 have key:∀(k:Nat) (y:Log_),(chn (⟨#[]⟩:ByteArray) l)[k]? = some y->∃x,l[k]? = some x/\y=⟨x.Player,x.Item,x.No,x.Clock,x.Long,tX (nN (chn (⟨#[]⟩:ByteArray) l) k) x⟩:=λk y hy=>by
  have hk:=(List.getElem?_eq_some_iff.1 hy).1
  rw [BQ]at hk
  have hx:l[k]? = some l[k]:=List.getElem?_eq_getElem hk
  have:=K9 l (⟨#[]⟩:ByteArray) k _ hx
  rw [hy,so_]at this
  exact⟨_,hx,this⟩
 have km:∀y∈chn (⟨#[]⟩:ByteArray) l,∃x s,x∈l/\og s/\markB s=true/\y=⟨x.Player,x.Item,x.No,x.Clock,x.Long,s⟩:=λy hy=>by
  obtain ⟨k,hk⟩:=List.getElem?_of_mem hy
  obtain ⟨x,x1,x2⟩:=key k y hk
  exact⟨x,_,List.mem_of_getElem? x1,Dc _ _,mk_mark _,x2⟩
 refine⟨⟨λy hy => ?_,λy hy => ?_,λy hy => ?_,λy hy => ?_,λi y hy => ?_,by rw [BQ];exact hl⟩,λk y hy => ?_⟩
 ·obtain ⟨x,s,x1,x2,x3,rfl⟩:=km y hy
  obtain ⟨g1,g2,g3,g4,g5,g6⟩:=hg x x1
  exact⟨g1,g2,x2,g4,g5,g6⟩
 ·obtain ⟨x,s,x1,x2,x3,rfl⟩:=km y hy
  exact hf x x1
 ·obtain ⟨x,s,x1,x2,x3,rfl⟩:=km y hy
  exact x3
 ·obtain ⟨x,s,x1,x2,x3,rfl⟩:=km y hy
  exact hp x x1
 ·obtain ⟨x,x1,x2⟩:=key i y hy
  rw [x2,Nat.zero_add]
  exact hn i x x1
 ·obtain ⟨x,x1,x2⟩:=key k y hy
  rw [x2]
  exact⟨rfl,x,x1,rfl,rfl,rfl,rfl,rfl⟩
def spl (c:UInt8):List UInt8->List (List UInt8)
 | []=>[[]]
 | b::l=>if b=c then []::spl c l else match spl c l with
  | []=>[[b]]
  | x::r=>(b::x)::r
theorem OC {c:UInt8}:∀{x:List UInt8},c∉x->spl c x=[x]
 | [],_=>rfl
 | b::x,h=>by
  have hb:b≠c:=λe=>h (by simp [e])
  have ih:=OC (x:=x) (λe=>h (List.mem_cons_of_mem _ e))
  unfold spl
  rw [if_neg hb,ih]
theorem vP {c:UInt8}:∀{x:List UInt8} (y:List UInt8),c∉x->spl c (x++c::y)=x::spl c y
 | [],y,_=>by
  show spl c (c::y)=_
  rw [spl,if_pos rfl]
 | b::x,y,h=>by
  have hb:b≠c:=λe=>h (by simp [e])
  have ih:=vP (x:=x) y (λe=>h (List.mem_cons_of_mem _ e))
  show spl c (b::(x++c::y))=_
  rw [spl,if_neg hb,ih]
theorem index_c {c b:UInt8} (h:b≠c) (l:List UInt8):Lib.index (b::l) [c]=if Lib.index l [c] == -1 then -1 else Lib.index l [c]+1:=by
 have hp:([c]:List UInt8).isPrefixOf (b::l)=false:=by simp [List.isPrefixOf,Ne.symm h]
 rw [Lib.index,hp];simp
theorem Ey (c:UInt8):∀l:List UInt8,Lib.splitK [c] 0 (l.count c) l=spl c l
 | []=>rfl
 | b::l=>by
  have ih:=Ey c l
  by_cases hb:b=c
  ·subst hb
   rw [List.count_cons_self,spl,if_pos rfl,<- ih,Lib.splitK]
   have h0:Lib.index (b::l) [b]=0:=by rw [Lib.index];simp [List.isPrefixOf]
   rw [h0]
   simp
  ·rw [List.count_cons_of_ne hb,spl,if_neg hb,<- ih]
   cases hn:l.count c with
   | zero=>rfl
   | succ n =>
    rw [Lib.splitK,Lib.splitK,index_c hb]
    have hg:=Lib.index_ge l [c]
    by_cases hm:Lib.index l [c] = -1
    ·rw [hm];rfl
    ·have e1:(Lib.index l [c] == -1)=false:=by simpa using hm
     rw [e1]
     simp only [Bool.false_eq_true,if_false]
     have e2:(Lib.index l [c]+1 == -1)=false:=by rw [beq_eq_false_iff_ne];omega
     rw [e2]
     simp only [Bool.false_eq_true,if_false,Nat.add_zero,List.length_cons,List.length_nil,Nat.zero_add]
     rw [show (Lib.index l [c]+1).toNat=(Lib.index l [c]).toNat+1 by omega]
     rfl
theorem GV (c:UInt8) {s:ByteArray} (hs:s.size<4294967281):strings_Split s (⟨#[c]⟩:ByteArray)=some ((spl c s.data.toList).map λl=>(⟨l.toArray⟩:ByteArray)):=by
 have h1:(1:Nat)<=(⟨#[c]⟩:ByteArray).size:=Nat.le_refl 1
 show CG s (⟨#[c]⟩:ByteArray)=_
 unfold CG
 rw [if_pos ⟨hs,h1⟩]
 have e1:Lib.countB s (⟨#[c]⟩:ByteArray)=s.data.toList.count c:=by
  show Lib.count s.data.toList [c]=_
  exact Lib.count_one c _
 have e2:=Lib.splitB_data (⟨#[c]⟩:ByteArray) 0 (s.data.toList.count c) s
 have e3:(Lib.splitB (⟨#[c]⟩:ByteArray) 0 (s.data.toList.count c) s).map (λx=>x.data.toList)=spl c s.data.toList:=by
  rw [<- Ey];exact e2
 rw [e1,<- e3,List.map_map]
 congr 1
 exact (List.map_id _).symm.trans (List.map_congr_left (λx _=>rfl))
def FI (b:UInt8):Bool:=decide (48<=b.toNat)&&decide (b.toNat<=57)
theorem FB {n:Nat} (h:n<10):(UInt8.ofNat (48+n)).toNat=48+n:=by
 rw [UInt8.toNat_ofNat'];omega
theorem ddS {u:Nat} (h:u<10):Lib.decDigits u=[UInt8.ofNat (48+u)]:=by rw [Lib.decDigits,dif_pos h]
theorem ddB {u:Nat} (h:¬u<10):Lib.decDigits u=Lib.decDigits (u / 10)++[UInt8.ofNat (48+u % 10)]:=by rw [Lib.decDigits,dif_neg h]
theorem Fe (u:Nat):∀b∈Lib.decDigits u,FI b=true:=by
 induction u using Nat.strongRecOn with
 | ind u ih =>
  by_cases h:u<10
  ·rw [ddS h]
   intro b hb
   rw [List.mem_singleton.1 hb]
   unfold FI
   rw [FB h,decide_eq_true (by omega),decide_eq_true (by omega)];rfl
  ·rw [ddB h]
   intro b hb
   rcases List.mem_append.1 hb with hb|hb
   ·exact ih (u / 10) (by omega) b hb
   ·rw [List.mem_singleton.1 hb]
    unfold FI
    rw [FB (Nat.mod_lt _ (by decide)),decide_eq_true (by omega),decide_eq_true (by omega)];rfl
theorem dv_of {n:Nat} (h:n<10):Lib.digitVal (UInt8.ofNat (48+n))=some n:=by
 have:∀n:Fin 10,Lib.digitVal (UInt8.ofNat (48+n.val))=some n.val:=by decide
 exact this ⟨n,h⟩
theorem Bo:∀(l:List UInt8) (a m:Nat) (b:UInt8) (d:Nat),Lib.decFrom a l=some m->Lib.digitVal b=some d->Lib.decFrom a (l++[b])=some (m*10+d)
 | [],a,m,b,d,h,hd=>by
  simp only [Lib.decFrom,so_]at h
  subst h
  simp only [List.nil_append,Lib.decFrom,hd]
 | x::l,a,m,b,d,h,hd=>by
  simp only [List.cons_append,Lib.decFrom]at h ⊢
  cases hx:Lib.digitVal x with
  | none=>rw [hx]at h;cases h
  | some e =>
   rw [hx]at h
   exact Bo l _ m b d h hd
theorem JQ (u:Nat):Lib.decFrom 0 (Lib.decDigits u)=some u:=by
 induction u using Nat.strongRecOn with
 | ind u ih =>
  by_cases h:u<10
  ·rw [ddS h]
   simp only [Lib.decFrom,dv_of h]
   congr 1;omega
  ·rw [ddB h,Bo _ 0 (u / 10) _ (u % 10) (ih (u / 10) (by omega)) (dv_of (Nat.mod_lt _ (by decide)))]
   congr 1;omega
theorem GJ (u:Nat):Lib.decDigits u ≠ []:=by
 by_cases h:u<10
 ·rw [ddS h];simp
 ·rw [ddB h];simp
theorem dd_head (u:Nat) (h:u≠0):∀b l,Lib.decDigits u=b::l->b.toNat≠48:=by
 induction u using Nat.strongRecOn with
 | ind u ih =>
  intro b l e
  by_cases h1:u<10
  ·rw [ddS h1]at e
   simp only [List.cons.injEq]at e
   rw [<- e.1,FB h1]
   omega
  ·rw [ddB h1]at e
   cases hd:Lib.decDigits (u / 10)with
   | nil=>exact absurd hd (GJ _)
   | cons x r =>
    rw [hd,List.cons_append,List.cons.injEq]at e
    rw [<- e.1]
    exact ih (u / 10) (by omega) (by omega) x r hd
theorem NI:∀(k u:Nat),u<10 ^ (k+1)->(Lib.decDigits u).length<=k+1
 | 0,u,h=>by rw [ddS (by omega)];simp
 | k+1,u,h=>by
  by_cases h1:u<10
  ·rw [ddS h1];simp
  ·rw [ddB h1,List.length_append]
   have:=NI k (u / 10) (by rw [Nat.pow_succ]at h;omega)
   simp only [List.length_cons,List.length_nil];omega
theorem atoi_dd (u:Nat):Lib.atoi (Lib.decDigits u)=some (u:Int):=by
 cases hd:Lib.decDigits u with
 | nil=>exact absurd hd (GJ u)
 | cons b l =>
  have hb:=Fe u b (by rw [hd];exact List.mem_cons_self)
  unfold FI at hb
  simp only [Bool.and_eq_true,decide_eq_true_eq]at hb
  have n1:(b==45)=false:=by rw [beq_eq_false_iff_ne];intro e;rw [e]at hb;exact absurd hb.1 (by decide)
  have n2:(b==43)=false:=by rw [beq_eq_false_iff_ne];intro e;rw [e]at hb;exact absurd hb.1 (by decide)
  simp only [Lib.atoi,n1,n2,Bool.false_eq_true,if_false]
  have e:Lib.decNat (b::l)=some u:=by
   unfold Lib.decNat
   rw [<- hd,JQ]
   rw [hd];rfl
  rw [e];rfl
theorem yQ {s:ByteArray} {k:Nat} (h:k<s.size):s.data.toList[k]? = some (jT s k):=by
 have hl:k<s.data.toList.length:=by rw [<- Go.Lib.size_eq];exact h
 unfold jT
 rw [List.getD_eq_getElem?_getD,List.getElem?_eq_getElem hl];rfl
theorem Ox {s:ByteArray} {b:UInt8} (h:0<s.size) (hl:s.size<1000000000) (hb:jT s 0=b) (h45:b≠45):strings_TrimPrefix s (⟨#[45]⟩:ByteArray)=some s:=by
 unfold strings_TrimPrefix dR ek
 have h1:((⟨#[45]⟩:ByteArray).size:Int)=1:=rfl
 have h2:DC s 0 1=some (s.extract 0 1):=by
  unfold DC
  rw [if_pos (by omega)];rfl
 have h3:sEq (s.extract 0 1) (⟨#[45]⟩:ByteArray)=false:=by
  cases hq:sEq (s.extract 0 1) (⟨#[45]⟩:ByteArray)with
  | false=>rfl
  | true =>
   exfalso
   have e:=(lG _ _).1 hq
   have e2:(s.extract 0 1).data.toList=s.data.toList.take 1:=by
    rw [ByteArray.data_extract,Array.toList_extract]
    rfl
   have e3:=congrArg (λx:ByteArray=>x.data.toList[0]?) e
   simp only [e2]at e3
   have hg:=yQ h
   rw [hb]at hg
   rw [List.getElem?_take,if_pos (by omega),hg]at e3
   have:(⟨#[45]⟩:ByteArray).data.toList[0]? = some 45:=rfl
   rw [this,so_]at e3
   exact h45 e3
 rw [h1,decide_eq_true (by omega),cond_true,h2,ob_,h3]
 rfl
theorem number_eq {n:Int} {m:Int} (h0:0<=n) (h1:n<1000000000000000) (hm:15<=m):jk (⟨(Lib.itoa n).toArray⟩:ByteArray) m=some (n,true):=by
 have hi:Lib.itoa n=Lib.decDigits n.toNat:=by unfold Lib.itoa;rw [if_neg (by omega)]
 rw [hi]
 obtain ⟨u,hu⟩:∃u,n.toNat=u:=⟨_,rfl⟩
 have hun:n=(u:Int):=by omega
 rw [hu]
 have hlen:=NI 14 u (by omega)
 generalize hs:(⟨(Lib.decDigits u).toArray⟩:ByteArray)=s
 have hsl:s.data.toList=Lib.decDigits u:=by rw [<- hs]
 have hsz:s.size=(Lib.decDigits u).length:=by rw [<- hs];show (Lib.decDigits u).toArray.size=_;simp
 have hpos:0<s.size:=by rw [hsz];exact List.length_pos_iff.2 (GJ u)
 cases hd:Lib.decDigits u with
 | nil=>exact absurd hd (GJ u)
 | cons b l =>
 have hdig:∀(i:Nat) (c:UInt8),s.data.toList[i]? = some c->FI c=true:=λi c hc=>Fe u c (by rw [<- hsl];exact List.mem_of_getElem? hc)
 have hix:∀(i:Nat) (h:i<s.size),∃c,rW s (i:Int)=some c/\FI c=true:=λi h=>by
  have hl:i<s.data.toList.length:=by rw [hsl,<- hsz];exact h
  exact⟨jT s i,zC s i h,hdig i _ (yQ h)⟩
 have hba:jT s 0=b:=by
  have h1:=yQ hpos
  have h2:s.data.toList[0]? = some b:=by rw [hsl,hd];rfl
  rw [h1,so_]at h2
  exact h2
 have hb0:rW s 0=some b:=by
  have h00:=zC s 0 hpos
  rw [show ((0:Nat):Int)=0 from rfl]at h00
  rw [h00,hba]
 have hbd:=Fe u b (by rw [hd];exact List.mem_cons_self)
 unfold FI at hbd
 simp only [Bool.and_eq_true,decide_eq_true_eq]at hbd
 have htrim:strings_TrimPrefix s (⟨#[45]⟩:ByteArray)=some s:=Ox hpos (by omega) hba (by intro e;rw [e]at hbd;exact absurd hbd.1 (by decide))
 unfold jk
 rw [htrim,ob_]
 have hne:sEq s (⟨#[]⟩:ByteArray)=false:=by
  cases h:sEq s (⟨#[]⟩:ByteArray)with
  | false=>rfl
  | true =>
   have:=(lG _ _).1 h
   rw [this]at hpos
   exact absurd hpos (by decide)
 rw [hne,cond_false,decide_eq_false (by omega),cond_false,hb0,ob_]
 have hz:(bif ((b.toNat:Int)==48)then some (sNe s (⟨#[48]⟩:ByteArray))else some false)=some false:=by
  by_cases h48:u=0
  ·subst h48
   have e:s=(⟨#[48]⟩:ByteArray):=by rw [<- hs,ddS (by decide)];rfl
   have e2:sNe s (⟨#[48]⟩:ByteArray)=false:=by
    have:sNe s (⟨#[48]⟩:ByteArray) = !sEq s (⟨#[48]⟩:ByteArray):=rfl
    rw [this,(lG _ _).2 e];rfl
   rw [e2]
   cases ((b.toNat:Int)==48) <;> rfl
  ·have:=dd_head u h48 b l hd
   rw [show ((b.toNat:Int)==48)=false by rw [beq_eq_false_iff_ne];omega];rfl
 rw [hz,ob_,cond_false]
 have hit:∀(d j:Nat),j+d=s.size->iterN (λt=>jl s t) (d+1) (j:Int)=some (.go (s.size:Int)):=by
  intro d
  induction d with
  | zero =>
   intro j hj
   have hj':j=s.size:=by omega
   subst hj'
   simp only [iterN,jl]
   rw [decide_eq_false (by omega)];rfl
  | succ d ih =>
   intro j hj
   obtain ⟨c,c1,c2⟩:=hix j (by omega)
   unfold FI at c2
   simp only [Bool.and_eq_true,decide_eq_true_eq]at c2
   have hstep:jl s (j:Int)=some (.go ((j+1:Nat):Int)):=by
    unfold jl
    rw [decide_eq_true (by omega),cond_true,c1,ob_,decide_eq_false (by omega),cond_false,ob_,decide_eq_false (by omega),ob_,cond_false,fQ (by omega)]
    rfl
   rw [iterN,hstep,ob_]
   exact ih (j+1) (by omega)
 have h0:=gu (hit s.size 0 (by omega))
 rw [show ((0:Nat):Int)=0 from rfl]at h0
 rw [h0,ob_,gM]
 have ha:strconv_Atoi s=some n:=by
  show Ht s=some n
  unfold Ht
  rw [if_pos (by omega),hsl,atoi_dd,hun]
 rw [ha,ob_]
end Go.Proofs.YtnkgapmhkhcanabGreatDoor.Law

