import Derived.Test.YtdenjndllgahgaaGreatDoorCkBase
/-
  PLAIN LEMMAS: marks of strings: the program's (by FormatUint and Repeat) and the document's are the same.
-/
open Go Go.Eng
namespace Go.Proofs.YtdenjndllgahgaaGreatDoor.Law
set_option linter.unusedVariables false
set_option linter.unusedSimpArgs false
theorem wu (n:Int):IntKind.u64.wrap n=n % 18446744073709551616:=by simp [IntKind.wrap,IntKind.bits,IntKind.signed]
theorem wu_id {n:Int} (h0:0<=n) (h1:n<18446744073709551616):IntKind.u64.wrap n=n:=by rw [wu];exact Int.emod_eq_of_lt h0 h1
theorem wu_in (n:Int):0<=IntKind.u64.wrap n/\IntKind.u64.wrap n<18446744073709551616:=by rw [wu];omega
abbrev BB (l:List UInt8):ByteArray:=⟨l.toArray⟩
theorem FR (l m:List UInt8):BB l++BB m=BB (l++m):=by
  apply rQ;rw [toL,toL];simp
theorem qg (l:List UInt8):(BB l).size=l.length:=by show l.toArray.size=_;simp
theorem DU {x y:ByteArray} (h:x.size+y.size<=1000000000000):vg x y=some (x++y):=by
  unfold vg
  rw [if_neg]
  have:IntKind.i64.max=9223372036854775807:=by decide
  rw [this];omega
def yN (h:Int) (b:UInt8):Int:=IntKind.u64.wrap ((EP .u64 h (IntKind.u64.wrap (b.toNat:Int)))*1099511628211)
def fnv (bs:List UInt8):Int:=bs.foldl yN 14695981039346656037
theorem D6:∀(bs:List UInt8) (h:Int),0<=h/\h<18446744073709551616->0<=bs.foldl yN h/\bs.foldl yN h<18446744073709551616
  | [],h,hh=>hh
  | b::bs,h,hh=>D6 bs _ (wu_in _)
theorem fnv_in (bs:List UInt8):0<=fnv bs/\fnv bs<18446744073709551616:=D6 bs _ (by decide)
theorem uF:∀(bs:List UInt8) (k:Nat) (h:Int),dY (λk x u=>mY k x u) (bs.map λb=>(b.toNat:Int)) k h=some (.go (bs.foldl yN h))
  | [],k,h=>rfl
  | b::bs,k,h=>by
    simp only [List.map_cons,dY]
    exact uF bs (k+1) (yN h b)
def Ct (n:Nat):UInt8:=if n<10 then UInt8.ofNat (48+n)else UInt8.ofNat (87+n)
def CR:Nat->Nat->List UInt8
  | 0,_=>[]
  | k+1,u=>CR k (u / 16)++[Ct (u % 16)]
theorem BX:∀(k u:Nat),(CR k u).length=k
  | 0,u=>rfl
  | k+1,u=>by simp [CR,BX k]
def qK:ByteArray:=⟨#[48,49,50,51,52,53,54,55,56,57,97,98,99,100,101,102]⟩
def digs:ByteArray:=⟨#[48,49,50,51,52,53,54,55,56,57,97,98,99,100,101,102,103,104,105,106,107,108,109,110,111,112,113,114,115,116,117,118,119,120,121,122]⟩
theorem EO:∀n:Fin 16,tK qK (n.val:Int) ((n.val+1:Nat):Int)=some (BB [Ct n.val])/\Cj digs (n.val:Int)=some (Ct n.val):=by decide +kernel
theorem FP {n:Nat} (h:n<16):tK qK (n:Int) ((n+1:Nat):Int)=some (BB [Ct n]):=(EO ⟨n,h⟩).1
theorem qQ:∀(xs:List Nat) (k:Nat) (u:Nat) (out:List UInt8),u<18446744073709551616->xs.length+out.length<=1000->∃u',dY (λk x s=>jW k x s) xs k ((u:Int),BB out)=some (.go (u',BB (CR xs.length u++out)))
  | [],k,u,out,h,hl=>⟨_,rfl⟩
  | x::xs,k,u,out,h,hl=>by
    simp only [List.length_cons]at hl
    obtain ⟨u',hu'⟩:=qQ xs (k+1) (u / 16) (Ct (u % 16)::out) (by omega) (by simp;omega)
    refine⟨u',?_⟩
    simp only [dY]
    have hm:((u:Int).tmod 16)=((u % 16:Nat):Int):=rfl
    have hd:((u:Int).tdiv 16)=((u / 16:Nat):Int):=rfl
    have hlt:u % 16<16:=Nat.mod_lt _ (by omega)
    have hstep:jW k x ((u:Int),BB out)=some (.go (((u / 16:Nat):Int),BB (Ct (u % 16)::out))):=by
      unfold jW
      simp only [hm,hd]
      rw [wu_id (n:=((u % 16:Nat):Int)+1) (by omega) (by omega),wu_id (n:=((u / 16:Nat):Int)) (by omega) (by omega)]
      have h1:tK (⟨#[48,49,50,51,52,53,54,55,56,57,97,98,99,100,101,102]⟩:ByteArray) ((u % 16:Nat):Int) (((u % 16:Nat):Int)+1)=some (BB [Ct (u % 16)]):=FP hlt
      rw [h1]
      simp only [ob_]
      rw [DU (by rw [qg,qg];simp;omega),FR]
      rfl
    rw [hstep]
    simp only [ob_]
    rw [hu']
    simp [CR]
theorem Da (s:ByteArray) (hs:s.size<=1000000000):mq s=some (BB (CR 16 (fnv s.data.toList).toNat)):=by
  unfold mq
  have hl:(di s).length<=1000000000000:=by simp only [di,List.length_map];rw [<- Go.Lib.size_eq];omega
  rw [fK hl]
  have h1:=uF s.data.toList 0 14695981039346656037
  unfold di
  rw [h1]
  simp only [ob_,fo]
  obtain ⟨b1,b2⟩:=fnv_in s.data.toList
  rw [fK (by decide)]
  obtain ⟨u',hu⟩:=qQ (List.range (16:Int).toNat) 0 (fnv s.data.toList).toNat [] (by omega) (by decide)
  have e:(((fnv s.data.toList).toNat:Nat):Int)=s.data.toList.foldl yN 14695981039346656037:=Int.toNat_of_nonneg b1
  rw [e]at hu
  have e2:BB []=(⟨#[]⟩:ByteArray):=rfl
  rw [e2]at hu
  rw [hu]
  simp only [ob_,fo,List.append_nil]
  rfl
end Go.Proofs.YtdenjndllgahgaaGreatDoor.Law

