import Derived.Test.YtdenjndllgahgaaGreatDoorLgLine
/-
  PLAIN LEMMAS: roots, paths and proofs of logs: the program's and the document's are the same.
-/
open Go Go.Eng
namespace Go.Proofs.YtdenjndllgahgaaGreatDoor.Law
set_option linter.unusedVariables false
set_option linter.unusedSimpArgs false
def ng (x:Log_):ByteArray:=mk ([108,101,97,102,32]++tu x++[32]++x.Sum.data.toList)
def uZ (a b:ByteArray):ByteArray:=mk ([110,111,100,101,32]++a.data.toList++[32]++b.data.toList)
theorem leafP {x:Log_} (h:eu x):jV x=some (ng x):=by
 have l1:=sK h;have l2:=eF h.2.2.1
 unfold jV
 rw [line_eq h,show x.Sum=BB x.Sum.data.toList from rfl,show (⟨#[108,101,97,102,32]⟩:ByteArray)=BB [108,101,97,102,32] from rfl,show (⟨#[32]⟩:ByteArray)=BB [32] from rfl]
 simp only [ob_]
 rw [gp _ _ (by simp only [List.length_append,List.length_cons,List.length_nil];omega)];simp only [ob_]
 rw [gp _ _ (by simp only [List.length_append,List.length_cons,List.length_nil];omega)];simp only [ob_]
 rw [gp _ _ (by simp only [List.length_append,List.length_cons,List.length_nil];omega)];simp only [ob_]
 rw [EB _ (by simp only [List.length_append,List.length_cons,List.length_nil];omega)]
 rfl
theorem leafR {x:Log_} (h:eu x):mZ x=some (ng x):=by
 have l1:=sK h;have l2:=eF h.2.2.1
 unfold mZ
 rw [vo h,show x.Sum=BB x.Sum.data.toList from rfl,show (⟨#[108,101,97,102,32]⟩:ByteArray)=BB [108,101,97,102,32] from rfl,show (⟨#[32]⟩:ByteArray)=BB [32] from rfl]
 simp only [ob_]
 rw [gp _ _ (by simp only [List.length_append,List.length_cons,List.length_nil];omega)];simp only [ob_]
 rw [gp _ _ (by simp only [List.length_append,List.length_cons,List.length_nil];omega)];simp only [ob_]
 rw [gp _ _ (by simp only [List.length_append,List.length_cons,List.length_nil];omega)];simp only [ob_]
 rw [uh _ (by simp only [List.length_append,List.length_cons,List.length_nil];omega)]
 rfl
theorem Ey {a b:ByteArray} (ha:aV a) (hb:aV b):gz a b=some (uZ a b):=by
 have l1:=eF ha;have l2:=eF hb
 unfold gz
 rw [show a=BB a.data.toList from rfl,show b=BB b.data.toList from rfl,show (⟨#[110,111,100,101,32]⟩:ByteArray)=BB [110,111,100,101,32] from rfl,show (⟨#[32]⟩:ByteArray)=BB [32] from rfl]
 rw [gp _ _ (by simp only [List.length_append,List.length_cons,List.length_nil];omega)];simp only [ob_]
 rw [gp _ _ (by simp only [List.length_append,List.length_cons,List.length_nil];omega)];simp only [ob_]
 rw [gp _ _ (by simp only [List.length_append,List.length_cons,List.length_nil];omega)];simp only [ob_]
 rw [EB _ (by simp only [List.length_append,List.length_cons,List.length_nil];omega)]
 rfl
theorem DV {a b:ByteArray} (ha:aV a) (hb:aV b):jy a b=some (uZ a b):=by
 have l1:=eF ha;have l2:=eF hb
 unfold jy
 rw [show a=BB a.data.toList from rfl,show b=BB b.data.toList from rfl,show (⟨#[110,111,100,101,32]⟩:ByteArray)=BB [110,111,100,101,32] from rfl,show (⟨#[32]⟩:ByteArray)=BB [32] from rfl]
 rw [gp _ _ (by simp only [List.length_append,List.length_cons,List.length_nil];omega)];simp only [ob_]
 rw [gp _ _ (by simp only [List.length_append,List.length_cons,List.length_nil];omega)];simp only [ob_]
 rw [gp _ _ (by simp only [List.length_append,List.length_cons,List.length_nil];omega)];simp only [ob_]
 rw [uh _ (by simp only [List.length_append,List.length_cons,List.length_nil];omega)]
 rfl
theorem oJ (a b:ByteArray):aV (uZ a b):=iU _
theorem oH (x:Log_):aV (ng x):=iU _
theorem yh {α β:Type} {body:Nat->α->List β->Option (Ctl (List β) Unit)} (f:α->β):∀(xs:List α) (k:Nat) (out:List β),(∀k x (out:List β),x∈xs->out.length<=1000000->body k x out=some (.go (out++[f x])))->xs.length+out.length<=1000000 ->
  dW body xs k out=some (.go (out++xs.map f))
 | [],k,out,h,hl=>by simp [dW]
 | x::xs,k,out,h,hl=>by
  simp only [List.length_cons]at hl
  have ih:=yh f xs (k+1) (out++[f x]) (λk y o hy=>h k y o (List.mem_cons_of_mem _ hy)) (by simp;omega)
  simp only [dW,h k x out (by simp) (by omega),ob_]
  rw [ih];simp
theorem Cf (l:List Log_) (h:∀x∈l,eu x) (hl:l.length<=1000000):iC l=some (l.map ng):=by
 unfold iC
 rw [fo (by omega),yh ng l 0 [] (λk x out hx ho=>by
  show gH k x out=_
  unfold gH
  rw [leafP (h x hx)]
  simp only [ob_]
  rw [jE _ _ (by simp;omega)];rfl) (by simpa using hl)]
 rfl
theorem BN (l:List Log_) (h:∀x∈l,eu x) (hl:l.length<=1000000):jO l=some (l.map ng):=by
 unfold jO
 rw [fo (by omega),yh ng l 0 [] (λk x out hx ho=>by
  show iT k x out=_
  unfold iT
  rw [leafR (h x hx)]
  simp only [ob_]
  rw [jE _ _ (by simp;omega)];rfl) (by simpa using hl)]
 rfl
def ek:List ByteArray->List ByteArray
 | a::b::r=>uZ a b::ek r
 | [a]=>[a]
 | []=>[]
theorem pz:∀(l:List ByteArray),(ek l).length=(l.length+1) / 2
 | a::b::r=>by simp only [ek,List.length_cons,pz r];omega
 | [a]=>by simp [ek]
 | []=>by simp [ek]
theorem mQ:∀(l:List ByteArray),(∀x∈l,aV x)->∀x∈ek l,aV x
 | a::b::r,h,x,hx=>by
  simp only [ek,List.mem_cons]at hx
  rcases hx with rfl|hx
  ·exact oJ a b
  ·exact mQ r (λy hy=>h y (List.mem_cons_of_mem _ (List.mem_cons_of_mem _ hy))) x hx
 | [a],h,x,hx=>h x hx
 | [],h,x,hx=>h x hx
theorem yP {α:Type} {l:List α} {k:Nat} (h:k<l.length):idx l (k:Int)=some l[k]:=by rw [nS,List.getElem?_eq_getElem h]
theorem mg {N:ByteArray->ByteArray->Option ByteArray} {body:List ByteArray×Int->Option (Ctl (List ByteArray×Int) Unit)} (l:List ByteArray) (hl:l.length<=1000000) (hs:∀x∈l,aV x)
  (hN:∀a b,aV a->aV b->N a b=some (uZ a b))
  (hb:∀s,body s=(bif (decide (s.2<(l.length:Int)))then (bif (decide ((w64 (s.2+1))<(l.length:Int)))then (idx l s.2).bind λy_20=>(idx l (w64 (s.2+1))).bind λy_22=>(N y_20 y_22).bind λr_24=>(kV s.1 ([r_24]:List ByteArray)).bind λa_26=>some a_26 else (idx l s.2).bind λy_29=>(kV s.1 ([y_29]:List ByteArray)).bind λa_31=>some a_31).bind λv_16=>some (.go (v_16,(w64 (s.2+2))))else some (.brk (s.1,s.2)))) :
  ∀(n k:Nat) (out:List ByteArray),l.length<=k+n->k<=l.length+1->out.length<=k->∃e,aZ body (n+1) (out,(k:Int))=some (.go (out++ek (l.drop k),e))
 | n,k,out,h,hk,ho=>by
  by_cases hlt:k<l.length
  ·have hd:decide ((k:Int)<(l.length:Int))=true:=decide_eq_true (by omega)
   have w1:w64 ((k:Int)+1)=((k+1:Nat):Int):=by rw [cK (by omega)];omega
   have w2:w64 ((k:Int)+2)=((k+2:Nat):Int):=by rw [cK (by omega)];omega
   obtain ⟨n,rfl⟩:∃m,n=m+1:=⟨n-1,by omega⟩
   by_cases hlt2:k+1<l.length
   ·have hd2:decide (((k+1:Nat):Int)<(l.length:Int))=true:=decide_eq_true (by omega)
    obtain ⟨e,he⟩:=mg l hl hs hN hb n (k+2) (out++[uZ l[k] l[k+1]]) (by omega) (by omega) (by simp;omega)
    refine⟨e,?_⟩
    have hstep:body (out,(k:Int))=some (.go (out++[uZ l[k] l[k+1]],((k+2:Nat):Int))):=by
     rw [hb]
     simp only [hd,cond_true,w1,w2,hd2]
     rw [yP hlt,yP hlt2]
     simp only [ob_]
     rw [hN _ _ (hs _ (List.getElem_mem _)) (hs _ (List.getElem_mem _))]
     simp only [ob_]
     rw [jE _ _ (by simp;omega)]
     rfl
    rw [aZ,hstep]
    simp only [ob_]
    rw [he]
    rw [List.drop_eq_getElem_cons hlt,List.drop_eq_getElem_cons hlt2]
    simp [ek]
   ·have hd2:decide (((k+1:Nat):Int)<(l.length:Int))=false:=decide_eq_false (by omega)
    obtain ⟨e,he⟩:=mg l hl hs hN hb n (k+2) (out++[l[k]]) (by omega) (by omega) (by simp;omega)
    refine⟨e,?_⟩
    have hstep:body (out,(k:Int))=some (.go (out++[l[k]],((k+2:Nat):Int))):=by
     rw [hb]
     simp only [hd,cond_true,w1,w2,hd2,cond_false]
     rw [yP hlt]
     simp only [ob_]
     rw [jE _ _ (by simp;omega)]
     rfl
    rw [aZ,hstep]
    simp only [ob_]
    rw [he]
    have e1:l.drop k=[l[k]]:=by
     rw [List.drop_eq_getElem_cons hlt,List.drop_eq_nil_iff.2 (by omega)]
    have e2:l.drop (k+2)=[]:=List.drop_eq_nil_iff.2 (by omega)
    rw [e1,e2]
    simp [ek]
  ·have hd:decide ((k:Int)<(l.length:Int))=false:=decide_eq_false (by omega)
   refine⟨(k:Int),?_⟩
   rw [aZ,hb]
   simp only [hd,cond_false,ob_]
   have e2:l.drop k=[]:=List.drop_eq_nil_iff.2 (by omega)
   rw [e2]
   simp [ek]
theorem Ct (l:List ByteArray) (hl:l.length<=1000000) (hs:∀x∈l,aV x):iB l=some (ek l):=by
 unfold iB
 obtain ⟨e,he⟩:=mg (body:=λs=>ja l s) l hl hs (λa b ha hb=>Ey ha hb) (λs=>rfl) l.length 0 [] (by omega) (by omega) (by simp)
 have:=dL he
 rw [show ((([]:List ByteArray),(0:Int)):List ByteArray×Int)=([],((0:Nat):Int)) from rfl,this]
 rfl
theorem Ck (l:List ByteArray) (hl:l.length<=1000000) (hs:∀x∈l,aV x):jM l=some (ek l):=by
 unfold jM
 obtain ⟨e,he⟩:=mg (body:=λs=>kD l s) l hl hs (λa b ha hb=>DV ha hb) (λs=>rfl) l.length 0 [] (by omega) (by omega) (by simp)
 have:=dL he
 rw [show ((([]:List ByteArray),(0:Int)):List ByteArray×Int)=([],((0:Nat):Int)) from rfl,this]
 rfl
theorem CP:∀(m:Nat) (l:List ByteArray),l.length=m->0<m->m<=1000000->(∀x∈l,aV x)->∃n r,aV r/\aZ (λs=>fF s) n l=some (.go [r])/\aZ (λs=>fE s) n l=some (.go [r]):=by
 intro m
 induction m using Nat.strongRecOn with
 | ind m ih =>
  intro l hl h0 hm hs
  by_cases h1:1<m
  ·have hd:decide ((l.length:Int)>1)=true:=decide_eq_true (by omega)
   obtain ⟨n,r,hr,h2,h3⟩:=ih ((m+1) / 2) (by omega) (ek l) (by rw [pz,hl]) (by omega) (by omega) (mQ l hs)
   refine⟨n+1,r,hr,?_,?_⟩
   ·have hstep:fF l=some (.go (ek l)):=by
     unfold fF
     rw [hd,Ct l (by omega) hs];rfl
    simp only [aZ,hstep,ob_];exact h2
   ·have hstep:fE l=some (.go (ek l)):=by
     unfold fE
     rw [hd,Ck l (by omega) hs];rfl
    simp only [aZ,hstep,ob_];exact h3
  ·have hd:decide ((l.length:Int)>1)=false:=decide_eq_false (by omega)
   obtain ⟨r,rfl⟩:∃r,l=[r]:=List.length_eq_one_iff.1 (by omega)
   refine⟨1,r,hs r (by simp),?_,?_⟩
   ·simp only [aZ]
    unfold fF
    rw [hd];rfl
   ·simp only [aZ]
    unfold fE
    rw [hd];rfl
theorem root_eq (l:List Log_) (h:∀x∈l,eu x) (hl:l.length<=1000000):∃r,aV r/\(gJ l=0->j6 l=some r)/\jP l=some (bif gJ l==0 then (r,0)else ((⟨#[]⟩:ByteArray),gJ l)):=by
 unfold jP j6
 rw [logsK l h hl,Cf l h hl,BN l h hl]
 simp only [ob_]
 by_cases hf:gJ l=0
 ·have e:(gJ l != 0)=false:=by simp [hf]
  have e':(gJ l==0)=true:=by simp [hf]
  rw [e,e']
  simp only [cond_false,cond_true]
  cases l with
  | nil =>
   refine⟨mk [],iU _,?_,?_⟩
   ·intro _
    have e1:((([]:List Log_).length:Int)==0)=true:=rfl
    rw [e1]
    simp only [cond_true]
    rw [show (⟨#[]⟩:ByteArray)=BB [] from rfl,uh [] (by simp)]
    simp only [ob_]
   ·have e1:(((List.map ng ([]:List Log_)).length:Int)==0)=true:=rfl
    rw [e1]
    simp only [cond_true]
    rw [show (⟨#[]⟩:ByteArray)=BB [] from rfl,EB [] (by simp)]
    simp only [ob_]
  | cons x l =>
   obtain ⟨n,r,hr,h2,h3⟩:=CP _ ((x::l).map ng) rfl (by simp) (by simpa using hl) (λy hy=>by obtain ⟨z,_,rfl⟩:=List.mem_map.1 hy;exact oH z)
   have e1:(((List.map ng (x::l)).length:Int)==0)=false:=by simp;omega
   have e2:(((x::l).length:Int)==0)=false:=by simp;omega
   refine⟨r,hr,?_,?_⟩
   ·intro _
    rw [e2]
    simp only [cond_false]
    rw [dL h3]
    rfl
   ·rw [e1]
    simp only [cond_false]
    rw [dL h2]
    rfl
 ·have e:(gJ l != 0)=true:=by simp [hf]
  have e':(gJ l==0)=false:=by simp [hf]
  rw [e,e']
  exact⟨⟨#[]⟩,bL rfl,λh=>absurd h hf,rfl⟩
theorem xor1 {i:Nat} (h:i<1000000000):∃j:Nat,iH .i64 (i:Int) 1=(j:Int)/\j<=i+1:=by
 have h1:iH .i64 (i:Int) 1=((i ^^^ 1:Nat):Int):=by
  show IntKind.i64.wrap (((BitVec.ofInt 64 (i:Int)) ^^^ (BitVec.ofInt 64 1)).toNat:Int)=_
  have h1:((BitVec.ofInt 64 (i:Int)) ^^^ (BitVec.ofInt 64 1)).toNat=i ^^^ 1:=by
   rw [BitVec.toNat_xor]
   have e1:(BitVec.ofInt 64 (i:Int)).toNat=i:=by
    rw [BitVec.ofInt_natCast,BitVec.toNat_ofNat];exact Nat.mod_eq_of_lt (by omega)
   have e2:(BitVec.ofInt 64 1).toNat=1:=by decide
   rw [e1,e2]
  rw [h1]
  have h2:i ^^^ 1<2 ^ 30:=Nat.xor_lt_two_pow (by omega) (by omega)
  exact cK (by omega)
 refine⟨i ^^^ 1,h1,?_⟩
 have h2:(i ^^^ 1) >>> 1=i >>> 1:=by rw [Nat.shiftRight_xor_distrib];simp
 rw [Nat.shiftRight_eq_div_pow,Nat.shiftRight_eq_div_pow]at h2
 omega
theorem CZ:∀(m:Nat) (l:List ByteArray) (i:Nat) (out:List ByteArray),l.length=m->0<m->m<=1000000->i<m->(∀x∈l,aV x)->(∀x∈out,aV x)->out.length+m<=10000000 ->
  ∃n s,aZ (λs=>eB s) n (out,(i:Int),l)=some (.go s)/\aZ (λs=>fH s) n (out,(i:Int),l)=some (.go s)/\(∀x∈s.1,aV x)/\s.1.length<=10000000:=by
 intro m
 induction m using Nat.strongRecOn with
 | ind m ih =>
  intro l i out hl h0 hm hi hs ho hol
  by_cases h1:1<m
  ·have hd:decide ((l.length:Int)>1)=true:=decide_eq_true (by omega)
   obtain ⟨j,hj,hj2⟩:=xor1 (i:=i) (by omega)
   have hdiv:w64 ((i:Int).tdiv 2)=((i / 2:Nat):Int):=by
    rw [show (i:Int).tdiv 2=((i / 2:Nat):Int) from rfl,cK (by omega)]
   obtain ⟨out',ho',hol',hv⟩:∃out':List ByteArray,(∀x∈out',aV x)/\out'.length<=out.length+1/\(bif (decide ((j:Int)<(l.length:Int)))then (idx l (j:Int)).bind λy_29=>(kV out ([y_29]:List ByteArray)).bind λa_31=>some a_31 else some out)=some out':=by
    by_cases hjl:j<l.length
    ·rw [decide_eq_true (show (j:Int)<(l.length:Int) by omega),yP hjl]
     simp only [cond_true,ob_]
     rw [jE _ _ (by simp;omega)]
     refine⟨out++[l[j]],λx hx => ?_,by simp,rfl⟩
     rcases List.mem_append.1 hx with hx|hx
     ·exact ho x hx
     ·rw [List.mem_singleton.1 hx];exact hs _ (List.getElem_mem _)
    ·rw [decide_eq_false (show ¬(j:Int)<(l.length:Int) by omega)]
     exact⟨out,ho,by omega,rfl⟩
   obtain ⟨n,s,h2,h3,h4⟩:=ih ((m+1) / 2) (by omega) (ek l) (i / 2) out' (by rw [pz,hl]) (by omega) (by omega) (by omega) (mQ l hs) ho' (by omega)
   refine⟨n+1,s,?_,?_,h4⟩
   ·have hstep:eB (out,(i:Int),l)=some (.go (out',((i / 2:Nat):Int),ek l)):=by
     unfold eB
     simp only [hd,cond_true,hj,hdiv]
     rw [hv]
     simp only [ob_]
     rw [Ct l (by omega) hs];rfl
    simp only [aZ,hstep,ob_];exact h2
   ·have hstep:fH (out,(i:Int),l)=some (.go (out',((i / 2:Nat):Int),ek l)):=by
     unfold fH
     simp only [hd,cond_true,hj,hdiv]
     rw [hv]
     simp only [ob_]
     rw [Ck l (by omega) hs];rfl
    simp only [aZ,hstep,ob_];exact h3
  ·have hd:decide ((l.length:Int)>1)=false:=decide_eq_false (by omega)
   refine⟨1,(out,(i:Int),l),?_,?_,ho,by show out.length<=_;omega⟩
   ·simp only [aZ]
    unfold eB
    simp only [hd,cond_false,ob_]
   ·simp only [aZ]
    unfold fH
    simp only [hd,cond_false,ob_]
def lN (l:List Log_) (i:Int):Int:=or0 (gJ l) (bif gQ i 0 ((l.length:Int)-1)then 1 else 0)
theorem path_eq (l:List Log_) (i:Int) (h:∀x∈l,eu x) (hl:l.length<=1000000) (hi : -1000<=i/\i<=1000000) :
  ∃p,(∀x∈p,aV x)/\p.length<=10000000/\(lN l i=0->jU l i=some p)/\jW l i=some (bif lN l i==0 then (p,0)else (([]:List ByteArray),lN l i)):=by
 unfold jW jU
 rw [logsK l h hl,Cf l h hl,BN l h hl]
 simp only [ob_,nK]
 rw [cK (by omega)]
 unfold lN or0
 by_cases hf:gJ l=0
 ·rw [hf]
  cases ho:gQ i 0 ((l.length:Int)-1)with
  | true=>exact⟨[],(λx hx=>by cases hx),by simp,(λh=>by cases h),rfl⟩
  | false =>
   have hb:=wN ho
   obtain ⟨k,rfl⟩:∃k:Nat,i=k:=⟨i.toNat,by omega⟩
   obtain ⟨n,s,h1,h2,h3,h4⟩:=CZ _ (l.map ng) k [] rfl (by simp;omega) (by simpa using hl) (by simp;omega) (λy hy=>by obtain ⟨z,_,rfl⟩:=List.mem_map.1 hy;exact oH z) (λx hx=>by cases hx) (by simp;omega)
   refine⟨s.1,h3,h4,?_,?_⟩
   ·intro _
    rw [dL h2];rfl
   ·show ((jw (([]:List ByteArray),(k:Int),List.map ng l) (λs=>eB s)).bind λo_22=>dD o_22 (λs_16=>some (s_16.1,(0:Int))) (λ_=>none))=_
    rw [dL h1];rfl
 ·have e:(gJ l != 0)=true:=by simp [hf]
  have e':(gJ l==0)=false:=by simp [hf]
  rw [e,e']
  simp only [cond_true,cond_false]
  refine⟨[],(λx hx=>by cases hx),by simp,λh=>absurd h hf,?_⟩
  rw [e'];rfl
theorem Ap:∀(m:Nat) (i:Nat) (path:List ByteArray) (at_:ByteArray),m<=1000000->i<m->(∀x∈path,aV x)->aV at_->path.length<=100000000 ->
  (∃n s,aZ (λs=>bC s) n ((m:Int),(i:Int),path,at_)=some (.go s)/\aZ (λs=>bE s) n ((m:Int),(i:Int),path,at_)=some (.go s)) \/
  (∃n,aZ (λs=>bC s) n ((m:Int),(i:Int),path,at_)=some (.ret (false,0))/\aZ (λs=>bE s) n ((m:Int),(i:Int),path,at_)=some (.ret false)):=by
 intro m
 induction m using Nat.strongRecOn with
 | ind m ih =>
  intro i path at_ hm hi hp ha hpl
  by_cases h1:1<m
  ·have hd:decide ((m:Int)>1)=true:=decide_eq_true (by omega)
   obtain ⟨j,hj,hj2⟩:=xor1 (i:=i) (by omega)
   have hdiv:w64 ((i:Int).tdiv 2)=((i / 2:Nat):Int):=by
    rw [show (i:Int).tdiv 2=((i / 2:Nat):Int) from rfl,cK (by omega)]
   have hdiv2:w64 ((w64 ((m:Int)+1)).tdiv 2)=(((m+1) / 2:Nat):Int):=by
    rw [cK (n:=(m:Int)+1) (by omega),show ((m:Int)+1).tdiv 2=(((m+1) / 2:Nat):Int) from rfl,cK (by omega)]
   by_cases hjm:m<=j
   ·have hd2:decide ((j:Int)>=(m:Int))=true:=decide_eq_true (by omega)
    have s1:bC ((m:Int),(i:Int),path,at_)=some (.go ((((m+1) / 2:Nat):Int),((i / 2:Nat):Int),path,at_)):=by
     unfold bC
     simp only [hd,cond_true,hj,hd2,hdiv,hdiv2]
    have s2:bE ((m:Int),(i:Int),path,at_)=some (.go ((((m+1) / 2:Nat):Int),((i / 2:Nat):Int),path,at_)):=by
     unfold bE
     simp only [hd,cond_true,hj,hd2,hdiv,hdiv2]
    rcases ih ((m+1) / 2) (by omega) (i / 2) path at_ (by omega) (by omega) hp ha hpl with⟨n,s,h2,h3⟩|⟨n,h2,h3⟩
    ·exact .inl ⟨n+1,s,by simp only [aZ,s1,ob_];exact h2,by simp only [aZ,s2,ob_];exact h3⟩
    ·exact .inr ⟨n+1,by simp only [aZ,s1,ob_];exact h2,by simp only [aZ,s2,ob_];exact h3⟩
   ·have hd2:decide ((j:Int)>=(m:Int))=false:=decide_eq_false (by omega)
    cases path with
    | nil =>
     refine .inr ⟨1,?_,?_⟩
     ·simp only [aZ]
      unfold bC
      simp only [hd,cond_true,hj,hd2,cond_false]
      rfl
     ·simp only [aZ]
      unfold bE
      simp only [hd,cond_true,hj,hd2,cond_false]
      rfl
    | cons p path =>
     have e0:(((p::path).length:Int)==0)=false:=by simp;omega
     have e1:idx (p::path) 0=some p:=rfl
     have e2:uq (p::path) 1 ((p::path).length:Int)=some path:=by
      unfold uq
      rw [if_pos ⟨by omega,by omega,by simp,by simp⟩]
      simp
     have hsp:=hp p (by simp)
     have hm2:(i:Int).tmod 2=((i % 2:Nat):Int):=rfl
     obtain ⟨at',ha',c1,c2⟩:∃at':ByteArray,aV at'/\(bif (((i % 2:Nat):Int)==1)then (gz p at_).bind λr_30=>some r_30 else (gz at_ p).bind λr_34=>some r_34)=some at' /\
       (bif (((i % 2:Nat):Int)==0)then (jy at_ p).bind λr_27=>some r_27 else (jy p at_).bind λr_31=>some r_31)=some at':=by
      rw [Ey hsp ha,Ey ha hsp,DV hsp ha,DV ha hsp]
      rcases Nat.mod_two_eq_zero_or_one i with h2|h2
      ·rw [h2];exact⟨_,oJ _ _,rfl,rfl⟩
      ·rw [h2];exact⟨_,oJ _ _,rfl,rfl⟩
     have s1:bC ((m:Int),(i:Int),p::path,at_)=some (.go ((((m+1) / 2:Nat):Int),((i / 2:Nat):Int),path,at')):=by
      unfold bC
      simp only [hd,cond_true,hj,hd2,cond_false,e0,e1,e2,hm2,ob_,hdiv,hdiv2]
      rw [c1];rfl
     have s2:bE ((m:Int),(i:Int),p::path,at_)=some (.go ((((m+1) / 2:Nat):Int),((i / 2:Nat):Int),path,at')):=by
      unfold bE
      simp only [hd,cond_true,hj,hd2,cond_false,e0,e1,e2,hm2,ob_,hdiv,hdiv2]
      rw [c2];rfl
     rcases ih ((m+1) / 2) (by omega) (i / 2) path at' (by omega) (by omega) (λx hx=>hp x (List.mem_cons_of_mem _ hx)) ha' (by simp only [List.length_cons]at hpl;omega)with⟨n,s,h2,h3⟩|⟨n,h2,h3⟩
     ·exact .inl ⟨n+1,s,by simp only [aZ,s1,ob_];exact h2,by simp only [aZ,s2,ob_];exact h3⟩
     ·exact .inr ⟨n+1,by simp only [aZ,s1,ob_];exact h2,by simp only [aZ,s2,ob_];exact h3⟩
  ·have hd:decide ((m:Int)>1)=false:=decide_eq_false (by omega)
   refine .inl ⟨1,((m:Int),(i:Int),path,at_),?_,?_⟩
   ·simp only [aZ]
    unfold bC
    simp only [hd,cond_false,ob_]
   ·simp only [aZ]
    unfold bE
    simp only [hd,cond_false,ob_]
end Go.Proofs.YtdenjndllgahgaaGreatDoor.Law

