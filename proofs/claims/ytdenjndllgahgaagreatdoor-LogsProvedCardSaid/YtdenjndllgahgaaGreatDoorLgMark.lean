import Derived.Test.YtdenjndllgahgaaGreatDoorCkBase
/-
  PLAIN LEMMAS: marks of strings: the program's (by FormatUint and Repeat) and the document's are the same.
-/
open Go Go.Eng
namespace Go.Proofs.YtdenjndllgahgaaGreatDoor.Law
set_option linter.unusedVariables false
set_option linter.unusedSimpArgs false
theorem wu (n:Int):IntKind.u64.wrap n=n % 18446744073709551616:=by simp [IntKind.wrap,IntKind.bits,IntKind.signed]
theorem Et {n:Int} (h0:0<=n) (h1:n<18446744073709551616):IntKind.u64.wrap n=n:=by rw [wu];exact Int.emod_eq_of_lt h0 h1
theorem wu_in (n:Int):0<=IntKind.u64.wrap n/\IntKind.u64.wrap n<18446744073709551616:=by rw [wu];omega
abbrev BB (l:List UInt8):ByteArray:=⟨l.toArray⟩
theorem Bp (l m:List UInt8):BB l++BB m=BB (l++m):=by
  apply uL;rw [toL,toL];simp
theorem kr (l:List UInt8):(BB l).size=l.length:=by show l.toArray.size=_;simp
theorem yE {x y:ByteArray} (h:x.size+y.size<=1000000000000):iI x y=some (x++y):=by
  unfold iI
  rw [if_neg]
  have:IntKind.i64.max=9223372036854775807:=by decide
  rw [this];omega
def rQ (h:Int) (b:UInt8):Int:=IntKind.u64.wrap ((iH .u64 h (IntKind.u64.wrap (b.toNat:Int)))*1099511628211)
def fnv (bs:List UInt8):Int:=bs.foldl rQ 14695981039346656037
theorem Cr:∀(bs:List UInt8) (h:Int),0<=h/\h<18446744073709551616->0<=bs.foldl rQ h/\bs.foldl rQ h<18446744073709551616
  | [],h,hh=>hh
  | b::bs,h,hh=>Cr bs _ (wu_in _)
theorem D7 (bs:List UInt8):0<=fnv bs/\fnv bs<18446744073709551616:=Cr bs _ (by decide)
theorem zY (s:ByteArray):∀(xs:List Nat) (k:Nat) (h:Int),k+xs.length=s.size->dW (λk x u=>iL s k x u) xs k h=some (.go ((s.data.toList.drop k).foldl rQ h))
  | [],k,h,hk=>by
    have:s.data.toList.drop k=[]:=List.drop_eq_nil_iff.2 (by rw [<- Go.Lib.size_eq];simp at hk;omega)
    rw [this];rfl
  | x::xs,k,h,hk=>by
    simp only [List.length_cons]at hk
    have hlt:k<s.data.toList.length:=by rw [<- Go.Lib.size_eq];omega
    have hb:bZ s k=s.data.toList[k]:=by simp [bZ,List.getD,List.getElem?_eq_getElem hlt]
    simp only [dW]
    unfold iL
    rw [wG s k (by omega)]
    simp only [ob_]
    have ih:=zY s xs (k+1) (rQ h (bZ s k)) (by omega)
    rw [List.drop_eq_getElem_cons hlt,List.foldl_cons,<- hb]
    exact ih
theorem uj:∀(bs:List UInt8) (k:Nat) (h:Int),dW (λk x u=>mE k x u) (bs.map λb=>(b.toNat:Int)) k h=some (.go (bs.foldl rQ h))
  | [],k,h=>rfl
  | b::bs,k,h=>by
    simp only [List.map_cons,dW]
    exact uj bs (k+1) (rQ h b)
def jX (n:Nat):UInt8:=if n<10 then UInt8.ofNat (48+n)else UInt8.ofNat (87+n)
def nE (u:Nat):List UInt8:=if h:u<16 then [jX u]else nE (u / 16)++[jX (u % 16)]
termination_by u
decreasing_by omega
def rq:Nat->Nat->List UInt8
  | 0,_=>[]
  | k+1,u=>rq k (u / 16)++[jX (u % 16)]
theorem lQ {u:Nat} (h:u<16):nE u=[jX u]:=by rw [nE,dif_pos h]
theorem rW {u:Nat} (h:¬u<16):nE u=nE (u / 16)++[jX (u % 16)]:=by rw [nE,dif_neg h]
theorem Af:∀(k u:Nat),(rq k u).length=k
  | 0,u=>rfl
  | k+1,u=>by simp [rq,Af k]
theorem xC:∀k,rq k 0=List.replicate k 48
  | 0=>rfl
  | k+1=>by
    show rq k 0++[jX 0]=_
    rw [xC k,List.replicate_succ']
    rfl
theorem hexM_N:∀(k u:Nat),u<16 ^ (k+1)->(nE u).length<=k+1/\rq (k+1) u=List.replicate (k+1-(nE u).length) 48++nE u
  | 0,u,h=>by
    have h':u<16:=by simpa using h
    rw [lQ h']
    refine⟨Nat.le_refl _,?_⟩
    simp [rq,Nat.mod_eq_of_lt h']
  | k+1,u,h=>by
    by_cases hu:u<16
    · rw [lQ hu]
      refine⟨by simp,?_⟩
      show rq (k+1) (u / 16)++[jX (u % 16)]=_
      rw [Nat.div_eq_of_lt hu,Nat.mod_eq_of_lt hu,xC]
      simp
    · rw [rW hu]
      have h2:u / 16<16 ^ (k+1):=by
        rw [Nat.div_lt_iff_lt_mul (by omega)]
        rw [Nat.pow_succ]at h;exact h
      obtain ⟨h3,h4⟩:=hexM_N k (u / 16) h2
      refine⟨by simp;omega,?_⟩
      show rq (k+1) (u / 16)++[jX (u % 16)]=_
      rw [h4,List.append_assoc]
      congr 2
      simp
def qp:ByteArray:=⟨#[48,49,50,51,52,53,54,55,56,57,97,98,99,100,101,102]⟩
def digs:ByteArray:=⟨#[48,49,50,51,52,53,54,55,56,57,97,98,99,100,101,102,103,104,105,106,107,108,109,110,111,112,113,114,115,116,117,118,119,120,121,122]⟩
theorem xu:∀n:Fin 16,sU qp (n.val:Int) ((n.val+1:Nat):Int)=some (BB [jX n.val])/\qN digs (n.val:Int)=some (jX n.val):=by decide +kernel
theorem D6 {n:Nat} (h:n<16):sU qp (n:Int) ((n+1:Nat):Int)=some (BB [jX n]):=(xu ⟨n,h⟩).1
theorem Cn {n:Nat} (h:n<16):qN digs (n:Int)=some (jX n):=(xu ⟨n,h⟩).2
theorem qz:∀(xs:List Nat) (k:Nat) (u:Nat) (out:List UInt8),u<18446744073709551616->xs.length+out.length<=1000->∃u',dW (λk x s=>jg k x s) xs k ((u:Int),BB out)=some (.go (u',BB (rq xs.length u++out)))
  | [],k,u,out,h,hl=>⟨_,rfl⟩
  | x::xs,k,u,out,h,hl=>by
    simp only [List.length_cons]at hl
    obtain ⟨u',hu'⟩:=qz xs (k+1) (u / 16) (jX (u % 16)::out) (by omega) (by simp;omega)
    refine⟨u',?_⟩
    simp only [dW]
    have hm:((u:Int).tmod 16)=((u % 16:Nat):Int):=rfl
    have hd:((u:Int).tdiv 16)=((u / 16:Nat):Int):=rfl
    have hlt:u % 16<16:=Nat.mod_lt _ (by omega)
    have hstep:jg k x ((u:Int),BB out)=some (.go (((u / 16:Nat):Int),BB (jX (u % 16)::out))):=by
      unfold jg
      simp only [hm,hd]
      rw [Et (n:=((u % 16:Nat):Int)+1) (by omega) (by omega),Et (n:=((u / 16:Nat):Int)) (by omega) (by omega)]
      have h1:sU (⟨#[48,49,50,51,52,53,54,55,56,57,97,98,99,100,101,102]⟩:ByteArray) ((u % 16:Nat):Int) (((u % 16:Nat):Int)+1)=some (BB [jX (u % 16)]):=D6 hlt
      rw [h1]
      simp only [ob_]
      rw [yE (by rw [kr,kr];simp;omega),Bp]
      rfl
    rw [hstep]
    simp only [ob_]
    rw [hu']
    simp [rq]
theorem Be (s:ByteArray) (hs:s.size<=1000000000):fU s=some (BB (rq 16 (fnv s.data.toList).toNat)):=by
  unfold fU
  have hl:(bH s).length<=1000000000000:=by simp only [bH,List.length_map];rw [<- Go.Lib.size_eq];omega
  rw [fo hl]
  have h1:=uj s.data.toList 0 14695981039346656037
  unfold bH
  rw [h1]
  simp only [ob_,iV]
  obtain ⟨b1,b2⟩:=D7 s.data.toList
  rw [fo (by decide)]
  obtain ⟨u',hu⟩:=qz (List.range (16:Int).toNat) 0 (fnv s.data.toList).toNat [] (by omega) (by decide)
  have e:(((fnv s.data.toList).toNat:Nat):Int)=s.data.toList.foldl rQ 14695981039346656037:=Int.toNat_of_nonneg b1
  rw [e]at hu
  have e2:BB []=(⟨#[]⟩:ByteArray):=rfl
  rw [e2]at hu
  rw [hu]
  simp only [ob_,iV,List.append_nil]
  rfl
theorem and15 {u:Nat} (h:u<18446744073709551616):ze .u64 (u:Int) 15=((u % 16:Nat):Int):=by
  show IntKind.u64.wrap (((BitVec.ofInt 64 (u:Int)) &&& (BitVec.ofInt 64 15)).toNat:Int)=_
  have h1:((BitVec.ofInt 64 (u:Int)) &&& (BitVec.ofInt 64 15)).toNat=u % 16:=by
    rw [BitVec.toNat_and]
    have e1:(BitVec.ofInt 64 (u:Int)).toNat=u:=by
      rw [BitVec.ofInt_natCast,BitVec.toNat_ofNat];exact Nat.mod_eq_of_lt h
    have e2:(BitVec.ofInt 64 15).toNat=15:=by decide
    rw [e1,e2]
    exact Nat.and_two_pow_sub_one_eq_mod u 4
  rw [h1]
  exact Et (by omega) (by omega)
theorem shr4 (u:Nat):EC .u64 (u:Int) 4=some ((u / 16:Nat):Int):=by
  unfold EC
  rw [if_neg (by decide)]
  have e:((2:Int) ^ (min (Int.toNat 4) IntKind.u64.bits))=16:=by decide
  rw [e,Int.fdiv_eq_ediv_of_nonneg _ (by decide)]
  rfl
def nums (l:List UInt8):List Int:=l.map λb=>(b.toNat:Int)
theorem Bj (l:List UInt8):Go.strOfNums (nums l)=BB l:=by
  unfold Go.strOfNums nums
  rw [List.map_map]
  have:(l.map ((λn:Int=>UInt8.ofNat n.toNat) ∘ λb:UInt8=>(b.toNat:Int)))=l:=by
    have:((λn:Int=>UInt8.ofNat n.toNat) ∘ λb:UInt8=>(b.toNat:Int))=id:=by
      funext b;simp
    rw [this,List.map_id]
  rw [this]
theorem zo {a:List Int} {i:Nat} (c:Int) (h:i<a.length):(a.set i c).drop i=c::a.drop (i+1):=by
  rw [List.drop_eq_getElem_cons (by simpa using h)]
  simp only [List.getElem_set_self]
  congr 1
  apply List.ext_getElem?
  intro j
  rw [List.getElem?_drop,List.getElem?_drop,List.getElem?_set_ne (by omega)]
theorem fb_iter:∀(u:Nat),u<18446744073709551616->∀(a:List Int) (i:Nat),a.length=65->i<=65->(nE u).length<=i ->
    ∃n a' u' i',aZ (λs=>aO 16 4 s) n (a,(u:Int),(i:Int))=some (.go (a',((u':Nat):Int),((i':Nat):Int)))/\u'<16/\a'.length=65/\1<=i'/\i'<=65/\nums [jX u']++a'.drop i'=nums (nE u)++a.drop i:=by
  intro u
  induction u using Nat.strongRecOn with
  | ind u ih =>
    intro hu a i ha hi hl
    have w16:IntKind.u64.wrap 16=16:=by decide
    have w15:IntKind.u64.wrap (16-1)=15:=by decide
    have w4:IntKind.u64.wrap 4=4:=by decide
    by_cases h16:u<16
    · refine⟨1,a,u,i,?_,h16,ha,?_,hi,by rw [lQ h16]⟩
      · simp only [aZ]
        unfold aO
        have hd:decide ((u:Int)>=16)=false:=by simp;omega
        simp only [w16,hd,cond_false,ob_]
      · rw [lQ h16]at hl;simpa using hl
    · rw [rW h16]at hl
      simp only [List.length_append,List.length_cons,List.length_nil]at hl
      have hpos:1<=(nE (u / 16)).length:=by
        by_cases h:u / 16<16
        · rw [lQ h];simp
        · rw [rW h];simp
      have hlt:u % 16<16:=Nat.mod_lt _ (by omega)
      obtain ⟨j,rfl⟩:∃j,i=j+1:=⟨i-1,by omega⟩
      obtain ⟨n,a',u',i',h1,h2,h3,h4,h5,h6⟩:=ih (u / 16) (by omega) (by omega) (a.set j ((jX (u % 16)).toNat:Int)) j (by simpa using ha) (by omega) (by omega)
      refine⟨n+1,a',u',i',?_,h2,h3,h4,h5,?_⟩
      · simp only [aZ]
        have hstep:aO 16 4 (a,(u:Int),((j+1:Nat):Int))=some (.go (a.set j ((jX (u % 16)).toNat:Int),((u / 16:Nat):Int),(j:Int))):=by
          unfold aO
          have hd:decide ((u:Int)>=16)=true:=by simp;omega
          have hw:w64 (((j+1:Nat):Int)-1)=(j:Int):=by rw [cK (by omega)];omega
          have hi1:inN (j:Int) 65=some ():=by unfold inN;rw [if_pos ⟨by omega,by omega⟩]
          have hg:a[(j:Int).toNat]? = some (a[j]'(by omega)):=by rw [Int.toNat_natCast];exact List.getElem?_eq_getElem _
          simp only [w16,w15,w4,hd,cond_true,and15 hu,hw,hi1,hg,shr4]
          have hdg:qN (⟨#[48,49,50,51,52,53,54,55,56,57,97,98,99,100,101,102,103,104,105,106,107,108,109,110,111,112,113,114,115,116,117,118,119,120,121,122]⟩:ByteArray) ((u % 16:Nat):Int)=some (jX (u % 16)):=Cn hlt
          rw [hdg]
          simp only [ob_,Int.toNat_natCast]
        rw [hstep]
        exact h1
      · rw [h6,rW h16,zo _ (by omega)]
        unfold nums
        simp
theorem pow2:cZ 16=some true:=by decide +kernel
theorem tz16:fT (IntKind.u64.wrap 16)=some 4:=by decide +kernel
theorem wR (h:Int) (h0:0<=h) (h1:h<18446744073709551616):eP h 16=some (BB (nE h.toNat)):=by
  obtain ⟨u,rfl⟩:∃u:Nat,h=u:=⟨h.toNat,by omega⟩
  have hu:u<18446744073709551616:=by omega
  have hm:=hexM_N 15 u (by simpa using hu)
  have hfb:bJ ([]:List Int) (u:Int) 16 false false=some (([]:List Int),BB (nE u)):=by
    unfold bJ
    obtain ⟨n,a',u',i',e1,e2,e3,e4,e5,e6⟩:=fb_iter u hu (List.replicate 65 (0:Int)) 65 (by simp) (by omega) (by omega)
    have hlp:jw ((List.replicate 65 (0:Int)),(u:Int),(65:Int)) (λs=>aO 16 4 s)=some (.go (a',((u':Nat):Int),((i':Nat):Int))):=dL e1
    have hlt:i'-1<a'.length:=by omega
    have hw:w64 ((i':Int)-1)=((i'-1:Nat):Int):=by rw [cK (by omega)];omega
    have hi1:inN ((i'-1:Nat):Int) 65=some ():=by unfold inN;rw [if_pos ⟨by omega,by omega⟩]
    have hg:a'[i'-1]? = some (a'[i'-1]'hlt):=List.getElem?_eq_getElem _
    have hdg:qN (⟨#[48,49,50,51,52,53,54,55,56,57,97,98,99,100,101,102,103,104,105,106,107,108,109,110,111,112,113,114,115,116,117,118,119,120,121,122]⟩:ByteArray) (u':Int)=some (jX u'):=Cn e2
    have hset:(a'.set (i'-1) ((jX u').toNat:Int)).length=65:=by simpa using e3
    have hln:zR (a'.set (i'-1) ((jX u').toNat:Int)) 65=some ():=by unfold zR;rw [if_pos hset]
    have hsr:yo (a'.set (i'-1) ((jX u').toNat:Int)) ((i'-1:Nat):Int) (((a'.set (i'-1) ((jX u').toNat:Int)).length:Nat):Int)=some ():=by
      unfold yo;rw [if_pos ⟨by omega,by omega,by rw [hset];omega,by simp⟩]
    have hcut:yY (a'.set (i'-1) ((jX u').toNat:Int)) (i'-1) (65-(i'-1))=nums (nE u):=by
      unfold yY
      rw [zo _ hlt,show i'-1+1=i' by omega]
      have:(((jX u').toNat:Int)::a'.drop i')=nums (nE u):=by
        have:=e6
        rw [show (List.replicate 65 (0:Int)).drop 65=[] by simp,List.append_nil]at this
        exact this
      rw [this,List.take_of_length_le]
      have h9:=congrArg List.length this
      simp only [List.length_cons,List.length_drop]at h9
      omega
    have c1:decide ((16:Int)<2)=false:=by decide
    have c2:((16:Int)==10)=false:=by decide
    have c3:decide ((16:Int)>36)=false:=by decide
    simp only [c1,c2,c3,cond_false,cond_true,ob_,pow2,tz16,hlp,iV,hdg,hw,hi1,hg,Int.toNat_natCast,hln,hsr]
    have e7:(((a'.set (i'-1) ((jX u').toNat:Int)).length:Nat):Int).toNat=65:=by rw [hset];rfl
    rw [Int.toNat_natCast]at e7
    rw [e7,hcut,Bj]
  unfold eP dA
  have c2:((16:Int)==10)=false:=by decide
  rw [c2]
  simp only [cond_false,hfb,ob_,Int.toNat_natCast]
theorem Av:∀n,Go.Lib.repeatL [48] n=List.replicate n 48
  | 0=>rfl
  | n+1=>by simp [Go.Lib.repeatL,Av n,List.replicate_succ]
theorem mark_eq (s:ByteArray) (hs:s.size<=1000000000):ik s=some (BB (rq 16 (fnv s.data.toList).toNat)):=by
  unfold ik
  have hl:(List.range ((s.size:Int)).toNat).length<=1000000000000:=by simp;omega
  rw [fo hl,zY s _ 0 _ (by simp)]
  simp only [ob_,iV,List.drop_zero]
  obtain ⟨b1,b2⟩:=D7 s.data.toList
  have hf:=wR (fnv s.data.toList) b1 b2
  have e:s.data.toList.foldl rQ 14695981039346656037=fnv s.data.toList:=rfl
  rw [e,hf]
  simp only [ob_,kr]
  obtain ⟨m1, m2⟩ := hexM_N 15 (fnv s.data.toList).toNat (by have : (16 : Nat) ^ (15 + 1) = 18446744073709551616 := by decide
                                                             omega)
  have hw:w64 (16-((nE (fnv s.data.toList).toNat).length:Int))=((16-(nE (fnv s.data.toList).toNat).length:Nat):Int):=by rw [cK (by omega)];omega
  rw [hw]
  have hr:strings_Repeat (⟨#[48]⟩:ByteArray) ((16-(nE (fnv s.data.toList).toNat).length:Nat):Int)=some (BB (List.replicate (16-(nE (fnv s.data.toList).toNat).length) 48)):=by
    unfold strings_Repeat uE
    rw [if_pos ⟨by omega,by omega,by rw [Int.toNat_natCast,show (⟨#[48]⟩:ByteArray).size=1 from rfl];omega⟩,Int.toNat_natCast]
    rw [show (⟨#[48]⟩:ByteArray).data.toList=[48] from rfl,Av]
  rw [hr]
  simp only [ob_]
  rw [yE (by rw [kr,kr];simp;omega),Bp,<- m2]
  rfl
end Go.Proofs.YtdenjndllgahgaaGreatDoor.Law

