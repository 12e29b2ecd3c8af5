import Derived.Test.YtdenjndllgahgaaGreatDoorCkBase
/-
  PLAIN LEMMAS: marks of strings: the program's (by FormatUint and Repeat) and the document's are the same.
-/
open Go Go.Eng
namespace Go.Proofs.YtdenjndllgahgaaGreatDoor.Law
set_option linter.unusedVariables false
set_option linter.unusedSimpArgs false
theorem wu (n:Int):IntKind.u64.wrap n=n % 18446744073709551616:=by simp [IntKind.wrap,IntKind.bits,IntKind.signed]
theorem Eh {n:Int} (h0:0<=n) (h1:n<18446744073709551616):IntKind.u64.wrap n=n:=by rw [wu];exact Int.emod_eq_of_lt h0 h1
theorem wu_in (n:Int):0<=IntKind.u64.wrap n/\IntKind.u64.wrap n<18446744073709551616:=by rw [wu];omega
abbrev BB (l:List UInt8):ByteArray:=⟨l.toArray⟩
theorem Au (l m:List UInt8):BB l++BB m=BB (l++m):=by
  apply tL;rw [toL,toL];simp
theorem jK (l:List UInt8):(BB l).size=l.length:=by show l.toArray.size=_;simp
theorem xY {x y:ByteArray} (h:x.size+y.size<=1000000000000):kQ x y=some (x++y):=by
  unfold kQ
  rw [if_neg]
  have:IntKind.i64.max=9223372036854775807:=by decide
  rw [this];omega
def qo (h:Int) (b:UInt8):Int:=IntKind.u64.wrap ((vo .u64 h (IntKind.u64.wrap (b.toNat:Int)))*1099511628211)
def fnv (bs:List UInt8):Int:=bs.foldl qo 14695981039346656037
theorem BO:∀(bs:List UInt8) (h:Int),0<=h/\h<18446744073709551616->0<=bs.foldl qo h/\bs.foldl qo h<18446744073709551616
  | [],h,hh=>hh
  | b::bs,h,hh=>BO bs _ (wu_in _)
theorem Dz (bs:List UInt8):0<=fnv bs/\fnv bs<18446744073709551616:=BO bs _ (by decide)
theorem zC (s:ByteArray):∀(xs:List Nat) (k:Nat) (h:Int),k+xs.length=s.size->dF (λk x u=>iq s k x u) xs k h=some (.go ((s.data.toList.drop k).foldl qo h))
  | [],k,h,hk=>by
    have:s.data.toList.drop k=[]:=List.drop_eq_nil_iff.2 (by rw [<- Go.Lib.size_eq];simp at hk;omega)
    rw [this];rfl
  | x::xs,k,h,hk=>by
    simp only [List.length_cons]at hk
    have hlt:k<s.data.toList.length:=by rw [<- Go.Lib.size_eq];omega
    have hb:bQ s k=s.data.toList[k]:=by simp [bQ,List.getD,List.getElem?_eq_getElem hlt]
    simp only [dF]
    unfold iq
    rw [uI s k (by omega)]
    simp only [ob_]
    have ih:=zC s xs (k+1) (qo h (bQ s k)) (by omega)
    rw [List.drop_eq_getElem_cons hlt,List.foldl_cons,<- hb]
    exact ih
theorem sM:∀(bs:List UInt8) (k:Nat) (h:Int),dF (λk x u=>lK k x u) (bs.map λb=>(b.toNat:Int)) k h=some (.go (bs.foldl qo h))
  | [],k,h=>rfl
  | b::bs,k,h=>by
    simp only [List.map_cons,dF]
    exact sM bs (k+1) (qo h b)
def jo (n:Nat):UInt8:=if n<10 then UInt8.ofNat (48+n)else UInt8.ofNat (87+n)
def mh (u:Nat):List UInt8:=if h:u<16 then [jo u]else mh (u / 16)++[jo (u % 16)]
termination_by u
decreasing_by omega
def qG:Nat->Nat->List UInt8
  | 0,_=>[]
  | k+1,u=>qG k (u / 16)++[jo (u % 16)]
theorem lD {u:Nat} (h:u<16):mh u=[jo u]:=by rw [mh,dif_pos h]
theorem qW {u:Nat} (h:¬u<16):mh u=mh (u / 16)++[jo (u % 16)]:=by rw [mh,dif_neg h]
theorem y5:∀(k u:Nat),(qG k u).length=k
  | 0,u=>rfl
  | k+1,u=>by simp [qG,y5 k]
theorem wK:∀k,qG k 0=List.replicate k 48
  | 0=>rfl
  | k+1=>by
    show qG k 0++[jo 0]=_
    rw [wK k,List.replicate_succ']
    rfl
theorem hexM_N:∀(k u:Nat),u<16 ^ (k+1)->(mh u).length<=k+1/\qG (k+1) u=List.replicate (k+1-(mh u).length) 48++mh u
  | 0,u,h=>by
    have h':u<16:=by simpa using h
    rw [lD h']
    refine⟨Nat.le_refl _,?_⟩
    simp [qG,Nat.mod_eq_of_lt h']
  | k+1,u,h=>by
    by_cases hu:u<16
    · rw [lD hu]
      refine⟨by simp,?_⟩
      show qG (k+1) (u / 16)++[jo (u % 16)]=_
      rw [Nat.div_eq_of_lt hu,Nat.mod_eq_of_lt hu,wK]
      simp
    · rw [qW hu]
      have h2:u / 16<16 ^ (k+1):=by
        rw [Nat.div_lt_iff_lt_mul (by omega)]
        rw [Nat.pow_succ]at h;exact h
      obtain ⟨h3,h4⟩:=hexM_N k (u / 16) h2
      refine⟨by simp;omega,?_⟩
      show qG (k+1) (u / 16)++[jo (u % 16)]=_
      rw [h4,List.append_assoc]
      congr 2
      simp
def pq:ByteArray:=⟨#[48,49,50,51,52,53,54,55,56,57,97,98,99,100,101,102]⟩
def digs:ByteArray:=⟨#[48,49,50,51,52,53,54,55,56,57,97,98,99,100,101,102,103,104,105,106,107,108,109,110,111,112,113,114,115,116,117,118,119,120,121,122]⟩
theorem xy:∀n:Fin 16,ry pq (n.val:Int) ((n.val+1:Nat):Int)=some (BB [jo n.val])/\qb digs (n.val:Int)=some (jo n.val):=by decide +kernel
theorem D7 {n:Nat} (h:n<16):ry pq (n:Int) ((n+1:Nat):Int)=some (BB [jo n]):=(xy ⟨n,h⟩).1
theorem BN {n:Nat} (h:n<16):qb digs (n:Int)=some (jo n):=(xy ⟨n,h⟩).2
theorem pK:∀(xs:List Nat) (k:Nat) (u:Nat) (out:List UInt8),u<18446744073709551616->xs.length+out.length<=1000->∃u',dF (λk x s=>iP k x s) xs k ((u:Int),BB out)=some (.go (u',BB (qG xs.length u++out)))
  | [],k,u,out,h,hl=>⟨_,rfl⟩
  | x::xs,k,u,out,h,hl=>by
    simp only [List.length_cons]at hl
    obtain ⟨u',hu'⟩:=pK xs (k+1) (u / 16) (jo (u % 16)::out) (by omega) (by simp;omega)
    refine⟨u',?_⟩
    simp only [dF]
    have hm:((u:Int).tmod 16)=((u % 16:Nat):Int):=rfl
    have hd:((u:Int).tdiv 16)=((u / 16:Nat):Int):=rfl
    have hlt:u % 16<16:=Nat.mod_lt _ (by omega)
    have hstep:iP k x ((u:Int),BB out)=some (.go (((u / 16:Nat):Int),BB (jo (u % 16)::out))):=by
      unfold iP
      simp only [hm,hd]
      rw [Eh (n:=((u % 16:Nat):Int)+1) (by omega) (by omega),Eh (n:=((u / 16:Nat):Int)) (by omega) (by omega)]
      have h1:ry (⟨#[48,49,50,51,52,53,54,55,56,57,97,98,99,100,101,102]⟩:ByteArray) ((u % 16:Nat):Int) (((u % 16:Nat):Int)+1)=some (BB [jo (u % 16)]):=D7 hlt
      rw [h1]
      simp only [ob_]
      rw [xY (by rw [jK,jK];simp;omega),Au]
      rfl
    rw [hstep]
    simp only [ob_]
    rw [hu']
    simp [qG]
theorem Aw (s:ByteArray) (hs:s.size<=1000000000):jS s=some (BB (qG 16 (fnv s.data.toList).toNat)):=by
  unfold jS
  have hl:(bE s).length<=1000000000000:=by simp only [bE,List.length_map];rw [<- Go.Lib.size_eq];omega
  rw [fo hl]
  have h1:=sM s.data.toList 0 14695981039346656037
  unfold bE
  rw [h1]
  simp only [ob_,gL]
  obtain ⟨b1,b2⟩:=Dz s.data.toList
  rw [fo (by decide)]
  obtain ⟨u',hu⟩:=pK (List.range (16:Int).toNat) 0 (fnv s.data.toList).toNat [] (by omega) (by decide)
  have e:(((fnv s.data.toList).toNat:Nat):Int)=s.data.toList.foldl qo 14695981039346656037:=Int.toNat_of_nonneg b1
  rw [e]at hu
  have e2:BB []=(⟨#[]⟩:ByteArray):=rfl
  rw [e2]at hu
  rw [hu]
  simp only [ob_,gL,List.append_nil]
  rfl
theorem and15 {u:Nat} (h:u<18446744073709551616):yU .u64 (u:Int) 15=((u % 16:Nat):Int):=by
  show IntKind.u64.wrap (((BitVec.ofInt 64 (u:Int)) &&& (BitVec.ofInt 64 15)).toNat:Int)=_
  have h1:((BitVec.ofInt 64 (u:Int)) &&& (BitVec.ofInt 64 15)).toNat=u % 16:=by
    rw [BitVec.toNat_and]
    have e1:(BitVec.ofInt 64 (u:Int)).toNat=u:=by
      rw [BitVec.ofInt_natCast,BitVec.toNat_ofNat];exact Nat.mod_eq_of_lt h
    have e2:(BitVec.ofInt 64 15).toNat=15:=by decide
    rw [e1,e2]
    exact Nat.and_two_pow_sub_one_eq_mod u 4
  rw [h1]
  exact Eh (by omega) (by omega)
theorem shr4 (u:Nat):Dl .u64 (u:Int) 4=some ((u / 16:Nat):Int):=by
  unfold Dl
  rw [if_neg (by decide)]
  have e:((2:Int) ^ (min (Int.toNat 4) IntKind.u64.bits))=16:=by decide
  rw [e,Int.fdiv_eq_ediv_of_nonneg _ (by decide)]
  rfl
def nums (l:List UInt8):List Int:=l.map λb=>(b.toNat:Int)
theorem Az (l:List UInt8):Go.strOfNums (nums l)=BB l:=by
  unfold Go.strOfNums nums
  rw [List.map_map]
  have:(l.map ((λn:Int=>UInt8.ofNat n.toNat) ∘ λb:UInt8=>(b.toNat:Int)))=l:=by
    have:((λn:Int=>UInt8.ofNat n.toNat) ∘ λb:UInt8=>(b.toNat:Int))=id:=by
      funext b;simp
    rw [this,List.map_id]
  rw [this]
theorem yV {a:List Int} {i:Nat} (c:Int) (h:i<a.length):(a.set i c).drop i=c::a.drop (i+1):=by
  rw [List.drop_eq_getElem_cons (by simpa using h)]
  simp only [List.getElem_set_self]
  congr 1
  apply List.ext_getElem?
  intro j
  rw [List.getElem?_drop,List.getElem?_drop,List.getElem?_set_ne (by omega)]
theorem fb_iter:∀(u:Nat),u<18446744073709551616->∀(a:List Int) (i:Nat),a.length=65->i<=65->(mh u).length<=i ->
    ∃n a' u' i',fE (λs=>aQ 16 4 s) n (a,(u:Int),(i:Int))=some (.go (a',((u':Nat):Int),((i':Nat):Int)))/\u'<16/\a'.length=65/\1<=i'/\i'<=65/\nums [jo u']++a'.drop i'=nums (mh u)++a.drop i:=by
  intro u
  induction u using Nat.strongRecOn with
  | ind u ih =>
    intro hu a i ha hi hl
    have w16:IntKind.u64.wrap 16=16:=by decide
    have w15:IntKind.u64.wrap (16-1)=15:=by decide
    have w4:IntKind.u64.wrap 4=4:=by decide
    by_cases h16:u<16
    · refine⟨1,a,u,i,?_,h16,ha,?_,hi,by rw [lD h16]⟩
      · simp only [fE]
        unfold aQ
        have hd:decide ((u:Int)>=16)=false:=by simp;omega
        simp only [w16,hd,cond_false,ob_]
      · rw [lD h16]at hl;simpa using hl
    · rw [qW h16]at hl
      simp only [List.length_append,List.length_cons,List.length_nil]at hl
      have hpos:1<=(mh (u / 16)).length:=by
        by_cases h:u / 16<16
        · rw [lD h];simp
        · rw [qW h];simp
      have hlt:u % 16<16:=Nat.mod_lt _ (by omega)
      obtain ⟨j,rfl⟩:∃j,i=j+1:=⟨i-1,by omega⟩
      obtain ⟨n,a',u',i',h1,h2,h3,h4,h5,h6⟩:=ih (u / 16) (by omega) (by omega) (a.set j ((jo (u % 16)).toNat:Int)) j (by simpa using ha) (by omega) (by omega)
      refine⟨n+1,a',u',i',?_,h2,h3,h4,h5,?_⟩
      · simp only [fE]
        have hstep:aQ 16 4 (a,(u:Int),((j+1:Nat):Int))=some (.go (a.set j ((jo (u % 16)).toNat:Int),((u / 16:Nat):Int),(j:Int))):=by
          unfold aQ
          have hd:decide ((u:Int)>=16)=true:=by simp;omega
          have hw:w64 (((j+1:Nat):Int)-1)=(j:Int):=by rw [dI (by omega)];omega
          have hi1:inN (j:Int) 65=some ():=by unfold inN;rw [if_pos ⟨by omega,by omega⟩]
          have hg:a[(j:Int).toNat]? = some (a[j]'(by omega)):=by rw [Int.toNat_natCast];exact List.getElem?_eq_getElem _
          simp only [w16,w15,w4,hd,cond_true,and15 hu,hw,hi1,hg,shr4]
          have hdg:qb (⟨#[48,49,50,51,52,53,54,55,56,57,97,98,99,100,101,102,103,104,105,106,107,108,109,110,111,112,113,114,115,116,117,118,119,120,121,122]⟩:ByteArray) ((u % 16:Nat):Int)=some (jo (u % 16)):=BN hlt
          rw [hdg]
          simp only [ob_,Int.toNat_natCast]
        rw [hstep]
        exact h1
      · rw [h6,qW h16,yV _ (by omega)]
        unfold nums
        simp
theorem pow2:cB 16=some true:=by decide +kernel
theorem tz16:fB (IntKind.u64.wrap 16)=some 4:=by decide +kernel
theorem wE (h:Int) (h0:0<=h) (h1:h<18446744073709551616):eu h 16=some (BB (mh h.toNat)):=by
  obtain ⟨u,rfl⟩:∃u:Nat,h=u:=⟨h.toNat,by omega⟩
  have hu:u<18446744073709551616:=by omega
  have hm:=hexM_N 15 u (by simpa using hu)
  have hfb:bG ([]:List Int) (u:Int) 16 false false=some (([]:List Int),BB (mh u)):=by
    unfold bG
    obtain ⟨n,a',u',i',e1,e2,e3,e4,e5,e6⟩:=fb_iter u hu (List.replicate 65 (0:Int)) 65 (by simp) (by omega) (by omega)
    have hlp:nA ((List.replicate 65 (0:Int)),(u:Int),(65:Int)) (λs=>aQ 16 4 s)=some (.go (a',((u':Nat):Int),((i':Nat):Int))):=mX e1
    have hlt:i'-1<a'.length:=by omega
    have hw:w64 ((i':Int)-1)=((i'-1:Nat):Int):=by rw [dI (by omega)];omega
    have hi1:inN ((i'-1:Nat):Int) 65=some ():=by unfold inN;rw [if_pos ⟨by omega,by omega⟩]
    have hg:a'[i'-1]? = some (a'[i'-1]'hlt):=List.getElem?_eq_getElem _
    have hdg:qb (⟨#[48,49,50,51,52,53,54,55,56,57,97,98,99,100,101,102,103,104,105,106,107,108,109,110,111,112,113,114,115,116,117,118,119,120,121,122]⟩:ByteArray) (u':Int)=some (jo u'):=BN e2
    have hset:(a'.set (i'-1) ((jo u').toNat:Int)).length=65:=by simpa using e3
    have hln:yR (a'.set (i'-1) ((jo u').toNat:Int)) 65=some ():=by unfold yR;rw [if_pos hset]
    have hsr:nH (a'.set (i'-1) ((jo u').toNat:Int)) ((i'-1:Nat):Int) (((a'.set (i'-1) ((jo u').toNat:Int)).length:Nat):Int)=some ():=by
      unfold nH;rw [if_pos ⟨by omega,by omega,by rw [hset];omega,by simp⟩]
    have hcut:xB (a'.set (i'-1) ((jo u').toNat:Int)) (i'-1) (65-(i'-1))=nums (mh u):=by
      unfold xB
      rw [yV _ hlt,show i'-1+1=i' by omega]
      have:(((jo u').toNat:Int)::a'.drop i')=nums (mh u):=by
        have:=e6
        rw [show (List.replicate 65 (0:Int)).drop 65=[] by simp,List.append_nil]at this
        exact this
      rw [this,List.take_of_length_le]
      have h9:=congrArg List.length this
      simp only [List.length_cons,List.length_drop]at h9
      omega
    have c1:decide ((16:Int)<2)=false:=by decide
    have c2:((16:Int)==10)=false:=by decide
    have c3:decide ((16:Int)>36)=false:=by decide
    simp only [c1,c2,c3,cond_false,cond_true,ob_,pow2,tz16,hlp,gL,hdg,hw,hi1,hg,Int.toNat_natCast,hln,hsr]
    have e7:(((a'.set (i'-1) ((jo u').toNat:Int)).length:Nat):Int).toNat=65:=by rw [hset];rfl
    rw [Int.toNat_natCast]at e7
    rw [e7,hcut,Az]
  unfold eu di
  have c2:((16:Int)==10)=false:=by decide
  rw [c2]
  simp only [cond_false,hfb,ob_,Int.toNat_natCast]
theorem yM:∀n,Go.Lib.repeatL [48] n=List.replicate n 48
  | 0=>rfl
  | n+1=>by simp [Go.Lib.repeatL,yM n,List.replicate_succ]
theorem mark_eq (s:ByteArray) (hs:s.size<=1000000000):jq s=some (BB (qG 16 (fnv s.data.toList).toNat)):=by
  unfold jq
  have hl:(List.range ((s.size:Int)).toNat).length<=1000000000000:=by simp;omega
  rw [fo hl,zC s _ 0 _ (by simp)]
  simp only [ob_,gL,List.drop_zero]
  obtain ⟨b1,b2⟩:=Dz s.data.toList
  have hf:=wE (fnv s.data.toList) b1 b2
  have e:s.data.toList.foldl qo 14695981039346656037=fnv s.data.toList:=rfl
  rw [e,hf]
  simp only [ob_,jK]
  obtain ⟨m1, m2⟩ := hexM_N 15 (fnv s.data.toList).toNat (by have : (16 : Nat) ^ (15 + 1) = 18446744073709551616 := by decide
                                                             omega)
  have hw:w64 (16-((mh (fnv s.data.toList).toNat).length:Int))=((16-(mh (fnv s.data.toList).toNat).length:Nat):Int):=by rw [dI (by omega)];omega
  rw [hw]
  have hr:strings_Repeat (⟨#[48]⟩:ByteArray) ((16-(mh (fnv s.data.toList).toNat).length:Nat):Int)=some (BB (List.replicate (16-(mh (fnv s.data.toList).toNat).length) 48)):=by
    unfold strings_Repeat tT
    rw [if_pos ⟨by omega,by omega,by rw [Int.toNat_natCast,show (⟨#[48]⟩:ByteArray).size=1 from rfl];omega⟩,Int.toNat_natCast]
    rw [show (⟨#[48]⟩:ByteArray).data.toList=[48] from rfl,yM]
  rw [hr]
  simp only [ob_]
  rw [xY (by rw [jK,jK];simp;omega),Au,<- m2]
  rfl
end Go.Proofs.YtdenjndllgahgaaGreatDoor.Law

