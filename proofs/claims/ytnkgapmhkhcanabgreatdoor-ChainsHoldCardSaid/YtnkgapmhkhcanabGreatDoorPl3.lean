/-
  THE PLAIN LAW (part 3).
-/
import Derived.Test.YtnkgapmhkhcanabGreatDoorPl2
import Derived.Test.YtnkgapmhkhcanabGreatDoorEng5
import Derived.Test.YtnkgapmhkhcanabGreatDoorDefs
open Go Go.Eng
namespace Go.Proofs.YtnkgapmhkhcanabGreatDoor.Law
set_option linter.unusedVariables false
set_option linter.unusedSimpArgs false
def tlB (x:Log_):List UInt8:=Cz x++[32]++x.Sum.data.toList
def txB (l:List Log_):List UInt8:=l.flatMap (λx=>tlB x++[10])
theorem I6 {x:Log_} (h:GoodL x):(tlB x).length<=3200:=by
 have h1:=AA h
 have h2:=oo h.2.2.1
 unfold tlB
 simp only [List.length_append,List.length_cons,List.length_nil];omega
theorem Ff (x:Log_) (l:List Log_):txB (x::l)=tlB x++10::txB l:=by
 unfold txB
 rw [List.flatMap_cons];simp
theorem FR:∀(l:List Log_),(∀x∈l,GoodL x)->(txB l).length<=l.length*3201
 | [],_=>Nat.le_refl _
 | x::l,h=>by
  have h1:=I6 (h x (by simp))
  have h2:=FR l (λy hy=>h y (List.mem_cons_of_mem _ hy))
  rw [Ff,List.length_append,List.length_cons,List.length_cons];omega
theorem Me (a z:List UInt8) (h:a.length+z.length<=1000000000):Oz (nums a) (BB z)=some (nums (a++z)):=by
 unfold Oz
 have e:bf (BB z)=nums z:=rfl
 rw [if_pos (by rw [nQ];unfold nums;rw [List.length_map];exact h),e]
 unfold nums
 rw [List.map_append]
theorem Ir (a:List UInt8) (h:a.length<=1000000000):zR (nums a)=some (BB a):=by
 unfold zR
 rw [if_pos ⟨by unfold nums;rw [List.length_map];exact h,by
  unfold nums
  rw [List.all_map,List.all_eq_true]
  intro b _
  have:=b.toNat_lt
  show (decide (0<=(b.toNat:Int))&&decide ((b.toNat:Int)<=255))=true
  rw [decide_eq_true (by omega),decide_eq_true (by omega)];rfl⟩,DX]
theorem KP:∀(xs:List Log_) (k:Nat) (acc:List UInt8),(∀x∈xs,GoodL x)->acc.length+xs.length*3201<=900000000->forR (λk x s=>j5 k x s) xs k (nums acc)=some (.go (nums (acc++txB xs)))
 | [],k,acc,h,hl=>by
  rw [show txB []=[] from rfl,List.append_nil];rfl
 | x::xs,k,acc,h,hl=>by
  simp only [List.length_cons]at hl
  have hx:=h x (by simp)
  have h1:=AA hx
  have h2:=oo hx.2.2.1
  have hstep:j5 k x (nums acc)=some (.go (nums (acc++(tlB x++[10])))):=by
   unfold j5
   rw [KM hx,ob_,show (⟨#[32]⟩:ByteArray)=BB [32] from rfl,show (⟨#[10]⟩:ByteArray)=BB [10] from rfl,show x.Sum=BB x.Sum.data.toList from rfl,
    uu _ _ (by simp only [List.length_append,List.length_cons,List.length_nil];omega),ob_,uu _ _ (by simp only [List.length_append,List.length_cons,List.length_nil];omega),ob_,
    uu _ _ (by simp only [List.length_append,List.length_cons,List.length_nil];omega),ob_,Me _ _ (by simp only [List.length_append,List.length_cons,List.length_nil];omega),ob_]
   rfl
  rw [forR,hstep,ob_]
  simp only []
  rw [KP xs (k+1) _ (λy hy=>h y (List.mem_cons_of_mem _ hy)) (by have:=I6 hx;simp only [List.length_append,List.length_cons,List.length_nil];omega),Ff]
  simp
theorem text_eq {l:List Log_} (h:∀x∈l,GoodL x) (hl:l.length<=50) (hc:bW l=some 0):rF l=some (BB (txB l),0):=by
 have hn:=FR l h
 unfold rF
 rw [hc,ob_,bne_self_eq_false,cond_false,jm (by omega)]
 have hg:=KP l 0 [] h (by simp only [List.length_nil];omega)
 rw [show nums []=[] from rfl,List.nil_append]at hg
 rw [hg,ob_,gM,decide_eq_false (by unfold nums;rw [List.length_map];omega),cond_false,Ir _ (by omega)];rfl
theorem Cf {s:ByteArray} (h:keyB s=true) {c:UInt8} (hc:∀i,okB i c=false):c∉s.data.toList:=λhm=>by
 unfold keyB at h
 simp only [Bool.and_eq_true]at h
 obtain ⟨i,hi,e⟩:=List.getElem_of_mem hm
 have:=List.all_eq_true.1 h.2.2 i (List.mem_range.2 (by rw [Go.Lib.size_eq];exact hi))
 have e2:jT s i=c:=by
  unfold jT
  rw [List.getD_eq_getElem?_getD,List.getElem?_eq_getElem hi,e];rfl
 rw [e2,hc i]at this
 cases this
theorem ok32 (i:Nat):okB i 32=false:=by unfold okB;cases decide (0<i) <;> rfl
theorem ok10 (i:Nat):okB i 10=false:=by unfold okB;cases decide (0<i) <;> rfl
theorem ut {n:Int} (h:0<=n) {c:UInt8} (hc:FI c=false):c∉Go.Lib.itoa n:=λhm=>by
 have e:Lib.itoa n=Lib.decDigits n.toNat:=by unfold Lib.itoa;rw [if_neg (by omega)]
 rw [e]at hm
 have:=Fe _ c hm
 rw [hc]at this;cases this
theorem Hg {s:ByteArray} (h:markB s=true) {c:UInt8} (hc:JB c=false):c∉s.data.toList:=λhm=>by
 unfold markB at h
 rw [Bool.and_eq_true]at h
 have:=List.all_eq_true.1 h.2 c hm
 rw [hc]at this;cases this
structure Fmt (x:Log_):Prop where
 p:keyB x.Player=true
 i:keyB x.Item=true
 n:1<=x.No/\x.No<=1000000
 c:0<=x.Clock/\x.Clock<=345686399999
 l:1<=x.Long/\x.Long<=86400000
theorem F5 {x:Log_} (h:formF x=0):Fmt x:=by
 unfold formF at h
 cases h1:keyB x.Player with
 | false=>rw [h1]at h;cases h
 | true =>
 cases h2:keyB x.Item with
 | false=>rw [h1,h2]at h;cases h
 | true =>
 rw [h1,h2]at h
 simp only [Bool.not_true,cond_false]at h
 cases h3:(xZ x.No 1 1000000||(xZ x.Clock 0 345686399999||xZ x.Long 1 86400000))with
 | true=>rw [h3]at h;cases h
 | false =>
  rw [Bool.or_eq_false_iff,Bool.or_eq_false_iff]at h3
  exact⟨h1,h2,Jm h3.1,Jm h3.2.1,Jm h3.2.2⟩
theorem Kw (x:Log_):tlB x=x.Player.data.toList++32::(x.Item.data.toList++32::(Go.Lib.itoa x.No++32::(Go.Lib.itoa x.Clock++32::(Go.Lib.itoa x.Long++32::x.Sum.data.toList)))):=by
 unfold tlB Cz
 simp
theorem tl_no10 {x:Log_} (h:formF x=0) (hm:markB x.Sum=true):(10:UInt8)∉tlB x:=by
 obtain ⟨p,i,n,c,l⟩:=F5 h
 rw [Kw]
 have h1:=Cf p ok10
 have h2:=Cf i ok10
 have h3:=ut (n:=x.No) (by omega) (c:=10) rfl
 have h4:=ut (n:=x.Clock) (by omega) (c:=10) rfl
 have h5:=ut (n:=x.Long) (by omega) (c:=10) rfl
 have h6:=Hg hm (c:=10) rfl
 have h7:(10:UInt8)≠32:=by decide
 simp only [List.mem_append,List.mem_cons,not_or]
 exact⟨h1,h7,h2,h7,h3,h7,h4,h7,h5,h7,h6⟩
theorem EA:∀(l:List Log_),(∀x∈l,formF x=0/\markB x.Sum=true)->spl 10 (txB l)=l.map tlB++[[]]
 | [],_=>rfl
 | x::l,h=>by
  obtain ⟨h1,h2⟩:=h x (by simp)
  rw [Ff,vP _ (tl_no10 h1 h2),EA l (λy hy=>h y (List.mem_cons_of_mem _ hy))];rfl
theorem Mi {x:Log_} (h:formF x=0) (hm:markB x.Sum=true):spl 32 (tlB x)=[x.Player.data.toList,x.Item.data.toList,Go.Lib.itoa x.No,Go.Lib.itoa x.Clock,Go.Lib.itoa x.Long,x.Sum.data.toList]:=by
 obtain ⟨p,i,n,c,l⟩:=F5 h
 rw [Kw,vP _ (Cf p ok32),vP _ (Cf i ok32),vP _ (ut (by omega) (c:=32) rfl),vP _ (ut (by omega) (c:=32) rfl),vP _ (ut (by omega) (c:=32) rfl),OC (Hg hm (c:=32) rfl)]
theorem OD {l:List Log_} (h:∀x∈l,GoodL x) (hf:∀x∈l,formF x=0/\markB x.Sum=true) (hl:l.length<=50):uq (BB (txB l))=some (l.map (λx=>BB (tlB x)),true):=by
 have hn:=FR l h
 have hs:(BB (txB l)).size<4294967281:=by rw [nQ];omega
 unfold uq
 rw [GV 10 hs,ob_]
 have e:((spl 10 (BB (txB l)).data.toList).map λl=>(⟨l.toArray⟩:ByteArray))=l.map (λx=>BB (tlB x))++[(⟨#[]⟩:ByteArray)]:=by
  show ((spl 10 (txB l)).map λl=>(⟨l.toArray⟩:ByteArray))=_
  rw [EA l hf,List.map_append,List.map_map];rfl
 rw [e]
 have hlen:(l.map (λx=>BB (tlB x))++[(⟨#[]⟩:ByteArray)]).length=l.length+1:=by simp
 have hw:w64 (((l.map (λx=>BB (tlB x))++[(⟨#[]⟩:ByteArray)]).length:Int)-1)=(l.length:Int):=by rw [hlen,fQ (by omega)];omega
 have hi:idx (l.map (λx=>BB (tlB x))++[(⟨#[]⟩:ByteArray)]) (l.length:Int)=some (⟨#[]⟩:ByteArray):=by
  rw [sK,List.getElem?_append_right (by simp)];simp
 have hsub:wQ (l.map (λx=>BB (tlB x))++[(⟨#[]⟩:ByteArray)]) 0 (l.length:Int)=some (l.map (λx=>BB (tlB x))):=by
  unfold wQ
  rw [if_pos (by rw [hlen];omega),Int.toNat_natCast]
  congr 1
  rw [List.take_append_of_le_length (by simp),List.take_of_length_le (by simp)];rfl
 rw [hw,hi,ob_,(lG _ _).2 rfl,cond_true,hsub];rfl
theorem Mq {l:List UInt8} (h:l ≠ []):sEq (⟨#[]⟩:ByteArray) (BB l)=false:=by
 cases hq:sEq (⟨#[]⟩:ByteArray) (BB l)with
 | false=>rfl
 | true =>
  have:=congrArg (λs:ByteArray=>s.data.toList) ((lG _ _).1 hq)
  exact absurd this.symm h
theorem BA:∀(ws:List (List UInt8)) (k:Nat),(∀w∈ws,w ≠ [])->forR (λk x s=>cO (⟨#[]⟩:ByteArray) k x s) (ws.map BB) k ()=some (.go ())
 | [],k,h=>rfl
 | w::ws,k,h=>by
  have hstep:cO (⟨#[]⟩:ByteArray) k (BB w) ()=some (.go ()):=by
   unfold cO
   rw [Mq (h w (by simp))];rfl
  rw [List.map_cons,forR,hstep,ob_]
  exact BA ws (k+1) (λy hy=>h y (List.mem_cons_of_mem _ hy))
theorem NZ {z:List UInt8} {ws:List (List UInt8)} (hz:z.length<=100000000) (hs:spl 32 z=ws) (hw:∀w∈ws,w ≠ []) (hl:ws.length<=1000000):tC (BB z)=some (ws.map BB,true):=by
 unfold tC
 rw [GV 32 (by rw [nQ];omega),ob_]
 have e:((spl 32 (BB z).data.toList).map λl=>(⟨l.toArray⟩:ByteArray))=ws.map BB:=by
  show ((spl 32 z).map λl=>(⟨l.toArray⟩:ByteArray))=_
  rw [hs]
  first | done | rfl
 rw [e]
 have hi:dW (ws.map BB) (⟨#[]⟩:ByteArray)=some (-1):=by
  unfold dW
  rw [jm (by rw [List.length_map];omega),BA ws 0 hw,ob_,gM]
 unfold fe
 rw [hi,ob_,ob_];rfl
theorem Ki {s:ByteArray} (h:keyB s=true):s.data.toList ≠ []:=λe=>by
 have h1:s.size=0:=by rw [Go.Lib.size_eq,e];rfl
 unfold keyB at h
 rw [h1]at h;cases h
theorem Cu {n:Int} (h:0<=n):Go.Lib.itoa n ≠ []:=by
 have e:Lib.itoa n=Lib.decDigits n.toNat:=by unfold Lib.itoa;rw [if_neg (by omega)]
 rw [e];exact GJ _
theorem Oe {s:ByteArray} (h:markB s=true):s.data.toList ≠ []:=λe=>by
 have h1:s.size=0:=by rw [Go.Lib.size_eq,e];rfl
 unfold markB at h
 rw [h1]at h;cases h
theorem J6 {x:Log_} (hg:GoodL x) (h:formF x=0) (hm:markB x.Sum=true):lW (BB (tlB x))=some (x,true):=by
 obtain ⟨p,i,n,c,l⟩:=F5 h
 have hw:=NZ (by have:=I6 hg;omega) (Mi h hm) (λw hw=>by
  simp only [List.mem_cons,List.not_mem_nil,or_false]at hw
  rcases hw with rfl|rfl|rfl|rfl|rfl|rfl
  ·exact Ki p
  ·exact Ki i
  ·exact Cu (by omega)
  ·exact Cu (by omega)
  ·exact Cu (by omega)
  ·exact Oe hm) (by simp)
 unfold lW
 rw [hw,ob_]
 simp only [Bool.not_true,cond_false,List.map_cons,List.map_nil,List.length_cons,List.length_nil]
 have g:∀(a b c d e f:ByteArray),idx [a,b,c,d,e,f] 0=some a/\idx [a,b,c,d,e,f] 1=some b/\idx [a,b,c,d,e,f] 2=some c/\idx [a,b,c,d,e,f] 3=some d/\idx [a,b,c,d,e,f] 4=some e/\idx [a,b,c,d,e,f] 5=some f:=λa b c d e f=>⟨rfl,rfl,rfl,rfl,rfl,rfl⟩
 obtain ⟨g0,g1,g2,g3,g4,g5⟩:=g (BB x.Player.data.toList) (BB x.Item.data.toList) (BB (Go.Lib.itoa x.No)) (BB (Go.Lib.itoa x.Clock)) (BB (Go.Lib.itoa x.Long)) (BB x.Sum.data.toList)
 have n1:jk (BB (Go.Lib.itoa x.No)) 15=some (x.No,true):=number_eq (by omega) (by omega) (by omega)
 have n2:jk (BB (Go.Lib.itoa x.Clock)) 15=some (x.Clock,true):=number_eq (by omega) (by omega) (by omega)
 have n3:jk (BB (Go.Lib.itoa x.Long)) 15=some (x.Long,true):=number_eq (by omega) (by omega) (by omega)
 have e6:(((0+1+1+1+1+1+1:Nat):Int) != 6)=false:=rfl
 simp only [g0,g1,g2,g3,g4,g5,n1,n2,n3,ob_,cond_true,e6,cond_false]
 first | done | rfl
theorem Kz {r:(List ByteArray)×Bool} (hr:r.2=true):∀(xs:List Log_) (k:Nat) (out:List Log_),(∀x∈xs,GoodL x/\formF x=0/\markB x.Sum=true)->out.length+xs.length<=1000000->forR (λk x s=>j3 r k x s) (xs.map (λx=>BB (tlB x))) k out=some (.go (out++xs))
 | [],k,out,h,hl=>by rw [List.append_nil];rfl
 | x::xs,k,out,h,hl=>by
  simp only [List.length_cons]at hl
  obtain ⟨h1,h2,h3⟩:=h x (by simp)
  have hstep:j3 r k (BB (tlB x)) out=some (.go (out++[x])):=by
   unfold j3
   rw [J6 h1 h2 h3,ob_]
   simp only [Bool.not_true,cond_false,hr,ob_]
   rw [uH _ _ (by simp only [List.length_cons,List.length_nil];omega)];rfl
  rw [List.map_cons,forR,hstep,ob_]
  simp only []
  rw [Kz hr xs (k+1) _ (λy hy=>h y (List.mem_cons_of_mem _ hy)) (by simp only [List.length_append,List.length_cons,List.length_nil];omega)]
  simp
theorem read_eq {l:List Log_} (h:∀x∈l,GoodL x/\formF x=0/\markB x.Sum=true) (hl:l.length<=50) (hc:bW l=some 0):rf (BB (txB l))=some (l,0,0):=by
 have hn:=FR l (λx hx=>(h x hx).1)
 unfold rf
 rw [decide_eq_false (by rw [nQ];omega),cond_false,OD (λx hx=>(h x hx).1) (λx hx=>(h x hx).2) hl,ob_,jm (by rw [List.length_map];omega)]
 rw [Kz rfl l 0 [] h (by simp only [List.length_nil];omega),ob_,gM,List.nil_append,hc];rfl
end Go.Proofs.YtnkgapmhkhcanabGreatDoor.Law

namespace Go.Eng
set_option linter.unusedVariables false
set_option linter.unusedSimpArgs false
def C8 {α:Type} (cmp:α->α->Option Int) (a_2:Int) (s_21:(List α)×Int):Option (Ctl ((List α)×Int) (Unit)) :=
 (bif (decide (s_21.2>a_2))then (inR s_21.2 s_21.1).bind λ_=>(s_21.1[(0+(s_21.2).toNat)]?).bind λe_30=>(inR (w64 (s_21.2-1)) s_21.1).bind λ_=>(s_21.1[(0+((w64 (s_21.2-1))).toNat)]?).bind λe_33=>(cmp e_30 e_33).bind λr_35=>some (decide (r_35<0))else some false).bind λv_26=>bif v_26 then (inR (w64 (s_21.2-1)) s_21.1).bind λ_=>(s_21.1[(0+((w64 (s_21.2-1))).toNat)]?).bind λe_39=>(inR s_21.2 s_21.1).bind λ_=>(s_21.1[(0+(s_21.2).toNat)]?).bind λe_42=>(inR s_21.2 s_21.1).bind λ_=>(s_21.1[(0+(s_21.2).toNat)]?).bind λe_45=>(inR (w64 (s_21.2-1)) (s_21.1.set (0+(s_21.2).toNat) e_39)).bind λ_=>((s_21.1.set (0+(s_21.2).toNat) e_39)[(0+((w64 (s_21.2-1))).toNat)]?).bind λe_48=>some (.go (((s_21.1.set (0+(s_21.2).toNat) e_39).set (0+((w64 (s_21.2-1))).toNat) e_42),(w64 (s_21.2-1))))else some (.brk (s_21.1,s_21.2))
noncomputable def Bq {α:Type} (cmp:α->α->Option Int) (b_3:Int) (a_2:Int) (s_10:(List α)×Int):Option (Ctl ((List α)×Int) (Unit)) :=
 bif (decide (s_10.2<b_3))then (fI (s_10.1,s_10.2) (λs=>C8 cmp a_2 s)).bind λo_24=>thenC o_24 (λs_21=>some (.go (s_21.1,(w64 (s_10.2+1))))) (λ_=>none)else some (.brk (s_10.1,s_10.2))
noncomputable def FH {α:Type} (cmp:α->α->Option Int) (data_1:(List α)) (a_2:Int) (b_3:Int):Option ((List α)) :=
 (fI (data_1,(w64 (a_2+1))) (λs=>Bq cmp b_3 a_2 s)).bind λo_13=>thenC o_13 (λs_10=>some s_10.1) (λ_=>none)
theorem KO {α:Type} (u v:α) (C:List α):∀A:List α,((A++u::v::C).set (A.length+1) u).set A.length v=A++v::u::C
 | []=>rfl
 | a::A=>by simp only [List.cons_append,List.length_cons,List.set_cons_succ,KO u v C A]
theorem get_0 {α:Type} (u:α) (C A:List α):(A++u::C)[A.length]? = some u:=by simp
theorem get_1 {α:Type} (u v:α) (C A:List α):(A++u::v::C)[A.length+1]? = some v:=by
 rw [List.getElem?_append_right (by omega)];simp
theorem MJ {α:Type} (u v w:α) (C:List α):∀A:List α,(A++u::v::C).set (A.length+1) w=A++u::w::C
 | []=>rfl
 | a::A=>by simp only [List.cons_append,List.length_cons,List.set_cons_succ,MJ u v w C A]
theorem Az {α:Type} {xs:List α} {i:Nat} (h:i<xs.length):inR (i:Int) xs=some ():=by
 unfold inR;rw [if_pos ⟨by omega,by simpa using h⟩]
section
variable {α:Type} {cmp:α->α->Option Int} {le:α->α->Prop} {p:α->Prop}
theorem insL1_0 (v:α) (C:List α):C8 cmp 0 (v::C,0)=some (.brk (v::C,0)):=rfl
theorem insL1_s (u v:α) (A C:List α) {c:Int} (hc:cmp v u=some c) (hl:A.length<=1000000000):C8 cmp 0 (A++u::v::C,((A.length+1:Nat):Int))=some (bif decide (c<0)then .go (A++v::u::C,(A.length:Int))else .brk (A++u::v::C,((A.length+1:Nat):Int))):=by
 have hw:w64 (((A.length+1:Nat):Int)-1)=(A.length:Int):=by rw [u7 _ (by omega)];omega
 have h1:inR ((A.length+1:Nat):Int) (A++u::v::C)=some ():=Az (by simp)
 have h2:inR (A.length:Int) (A++u::v::C)=some ():=Az (by simp)
 have h3:inR (A.length:Int) (A++u::u::C)=some ():=Az (by simp)
 have hd:decide (((A.length+1:Nat):Int)>0)=true:=by simp <;> omega
 have e1:0+((A.length+1:Nat):Int).toNat=A.length+1:=by omega
 have e2:0+((A.length:Nat):Int).toNat=A.length:=by omega
 unfold C8
 simp only [hw,h1,h2,hd,e1,e2,get_0,get_1,ob_,hc,cond_true,MJ,h3]
 cases decide (c<0)with
 | false=>rfl
 | true =>
  simp only [cond_true]
  have:=KO u v C A
  rw [MJ]at this
  rw [this]
end
end Go.Eng

namespace Go.Eng
set_option linter.unusedVariables false
set_option linter.unusedSimpArgs false
noncomputable def stL1 {α:Type} (cmp:α->α->Option Int) (n_2:Int) (s_9:(List α)×Int×Int):Option (Ctl ((List α)×Int×Int) (Unit)) :=
 bif (decide (s_9.2.2<=n_2))then (FH cmp s_9.1 s_9.2.1 s_9.2.2).bind λr_15=>(lV r_15 s_9.1).bind λ_=>some (.go (r_15,s_9.2.2,(w64 (s_9.2.2+20))))else some (.brk (s_9.1,s_9.2.1,s_9.2.2))
def stL2 (s_26:Int) (n_2:Int) (s_37:Unit):Option (Ctl (Unit) (Unit)) :=
 bif (decide ((w64 (2*s_26))<=n_2))then none else some (.brk ())
noncomputable def stL3 (n_2:Int) (s_26:Int):Option (Ctl (Int) (Unit)) :=
 bif (decide (s_26<n_2))then (fI () (λs=>stL2 s_26 n_2 s)).bind λo_40=>thenC o_40 (λs_37=>(bif (decide ((w64 (0+s_26))<n_2))then none else some ()).bind λv_43=>some (.go (w64 (s_26*2)))) (λ_=>none)else some (.brk s_26)
noncomputable def MZ {α:Type} (cmp:α->α->Option Int) (data_1:(List α)) (n_2:Int):Option ((List α)) :=
 (fI (data_1,0,20) (λs=>stL1 cmp n_2 s)).bind λo_12=>thenC o_12 (λs_9=>(FH cmp s_9.1 s_9.2.1 n_2).bind λr_18=>(lV r_18 s_9.1).bind λ_=>(fI 20 (λs=>stL3 n_2 s)).bind λo_29=>thenC o_29 (λs_26=>some r_18) (λ_=>none)) (λ_=>none)
def oG {α:Type} (c:α->α->Int) (v:α):List α->List α
 | []=>[v]
 | u::R=>bif decide (c v u<0)then u::oG c v R else v::u::R
def Mx {α:Type} (c:α->α->Int):List α->List α->List α
 | R,[]=>R
 | R,v::Q=>Mx c (oG c v R) Q
def wo {α:Type} (c:α->α->Int) (l:List α):List α:=(Mx c [] l).reverse
theorem mW {α:Type} (c:α->α->Int) (v:α):∀R:List α,(oG c v R).Perm (v::R)
 | []=>List.Perm.refl _
 | u::R=>by
  unfold oG
  cases decide (c v u<0)with
  | true=>exact ((mW c v R).cons u).trans (List.Perm.swap v u R)
  | false=>exact List.Perm.refl _
theorem EJ {α:Type} (c:α->α->Int):∀(Q R:List α),(Mx c R Q).Perm (Q++R)
 | [],R=>List.Perm.refl _
 | v::Q,R=>by
  have h1:=EJ c Q (oG c v R)
  refine h1.trans ?_
  refine ((mW c v R).append_left Q).trans ?_
  exact List.perm_middle
theorem EK {α:Type} (c:α->α->Int) (l:List α):(wo c l).Perm l:=by
 unfold wo
 refine (List.reverse_perm _).trans ?_
 simpa using EJ c l []
theorem zx {α:Type} (c:α->α->Int) (l:List α):(wo c l).length=l.length:=(EK c l).length_eq
theorem De {α:Type} (c:α->α->Int) (v:α) (R:List α):(oG c v R).length=R.length+1:=by simpa using (mW c v R).length_eq
section
variable {α:Type} {cmp:α->α->Option Int} {c:α->α->Int} {p:α->Prop}
theorem Nw (hc:∀a b,p a->p b->cmp a b=some (c a b)) (v:α) (hv:p v):∀(R B:List α),R.length<=1000000000->(∀a∈R,p a) ->
  ∃i,iterN (λs=>C8 cmp 0 s) (R.length+1) (R.reverse++v::B,(R.length:Int))=some (.go ((oG c v R).reverse++B,i))
 | [],B,hn,hp=>⟨0,by
   show iterN (λs=>C8 cmp 0 s) 1 (v::B,0)=_
   simp only [iterN]
   show ((C8 cmp 0 (v::B,0)).bind _)=_
   rw [insL1_0];rfl⟩
 | u::R,B,hn,hp=>by
  simp only [List.length_cons]at hn
  have hcu:=hc v u hv (hp u (by simp))
  have e:(u::R).reverse++v::B=R.reverse++u::v::B:=by simp
  have hs:=insL1_s (cmp:=cmp) u v R.reverse B hcu (by simpa using (by omega:R.length<=1000000000))
  rw [List.length_reverse]at hs
  rw [e,List.length_cons,iterN,hs]
  unfold oG
  cases hd:decide (c v u<0)with
  | true =>
   obtain ⟨i,hi⟩:=Nw hc v hv R (u::B) (by omega) (λa ha=>hp a (List.mem_cons_of_mem _ ha))
   refine⟨i,?_⟩
   simp only [cond_true,ob_]
   rw [hi];simp
  | false =>
   refine⟨((R.length+1:Nat):Int),?_⟩
   simp only [cond_false,ob_]
   simp
theorem Kk (hc:∀a b,p a->p b->cmp a b=some (c a b)):∀(Q R:List α),R.length+Q.length<=1000000000->(∀a∈R,p a)->(∀a∈Q,p a) ->
  iterN (λs=>Bq cmp ((R.length+Q.length:Nat):Int) 0 s) (Q.length+1) (R.reverse++Q,(R.length:Int))=some (.go ((Mx c R Q).reverse,((R.length+Q.length:Nat):Int)))
 | [],R,hn,hr,hq=>by
  have hd:decide ((R.length:Int)<((R.length+([]:List α).length:Nat):Int))=false:=decide_eq_false (by simp)
  simp only [iterN]
  unfold Bq
  simp only [hd,cond_false,ob_]
  simp [Mx]
 | v::Q,R,hn,hr,hq=>by
  simp only [List.length_cons]at hn
  have hd:decide ((R.length:Int)<((R.length+(v::Q).length:Nat):Int))=true:=decide_eq_true (by simp only [List.length_cons];omega)
  obtain ⟨i,hi⟩:=Nw hc v (hq v (by simp)) R Q (by omega) hr
  have hw:w64 ((R.length:Int)+1)=((R.length+1:Nat):Int):=by rw [u7 _ (by omega)];omega
  have hstep:Bq cmp ((R.length+(v::Q).length:Nat):Int) 0 (R.reverse++v::Q,(R.length:Int))=some (.go ((oG c v R).reverse++Q,((R.length+1:Nat):Int))):=by
   unfold Bq
   simp only [hd,cond_true]
   rw [gu hi]
   simp only [ob_,hw,thenC]
  have ih:=Kk hc Q (oG c v R) (by rw [De];omega) (λa ha=>by
   have:=(mW c v R).mem_iff.1 ha
   rcases List.mem_cons.1 this with rfl|h
   ·exact hq _ (by simp)
   ·exact hr a h) (λa ha=>hq a (List.mem_cons_of_mem _ ha))
  rw [List.length_cons,iterN]
  simp only [List.length_cons]at hstep
  rw [hstep]
  simp only [ob_]
  rw [De]at ih
  have e2:R.length+1+Q.length=R.length+(Q.length+1):=by omega
  rw [e2]at ih
  exact ih
theorem Mr (hc:∀a b,p a->p b->cmp a b=some (c a b)) (l:List α) (hl:l.length<=100000000) (hp:∀a∈l,p a):FH cmp l 0 (l.length:Int)=some (wo c l):=by
 unfold FH
 have hw:w64 ((0:Int)+1)=1:=by decide
 rw [hw]
 cases l with
 | nil =>
  have h1:iterN (λs=>Bq cmp ((([]:List α).length:Nat):Int) 0 s) 1 (([]:List α),(1:Int))=some (.go ([],1)):=by
   simp only [iterN]
   unfold Bq
   have hd:decide ((1:Int)<((([]:List α).length:Nat):Int))=false:=rfl
   simp only [hd,cond_false,ob_]
  rw [gu h1];rfl
 | cons v Q =>
  simp only [List.length_cons]at hl
  have h1:=Kk hc Q [v] (by simp only [List.length_cons,List.length_nil];omega) (λa ha=>by rw [List.mem_singleton.1 ha];exact hp v (by simp)) (λa ha=>hp a (List.mem_cons_of_mem _ ha))
  have e:([v].length+Q.length:Nat)=(v::Q).length:=by simp only [List.length_cons,List.length_nil];omega
  rw [e]at h1
  have h2:=gu h1
  have h3:fI (v::Q,(1:Int)) (λs=>Bq cmp (((v::Q).length:Nat):Int) 0 s)=_:=h2
  rw [h3];rfl
theorem Np (hc:∀a b,p a->p b->cmp a b=some (c a b)) (l:List α) (hl:l.length<=19) (hp:∀a∈l,p a):MZ cmp l (l.length:Int)=some (wo c l):=by
 unfold MZ
 have h1:iterN (λs=>stL1 cmp (l.length:Int) s) 1 (l,(0:Int),(20:Int))=some (.go (l,0,20)):=by
  simp only [iterN]
  unfold stL1
  have hd:decide ((20:Int)<=(l.length:Int))=false:=decide_eq_false (by omega)
  simp only [hd,cond_false,ob_]
 have h2:iterN (λs=>stL3 (l.length:Int) s) 1 (20:Int)=some (.go 20):=by
  simp only [iterN]
  unfold stL3
  have hd:decide ((20:Int)<(l.length:Int))=false:=decide_eq_false (by omega)
  simp only [hd,cond_false,ob_]
 rw [gu h1]
 simp only [ob_,thenC]
 rw [Mr hc l (by omega) hp]
 have hs:lV (wo c l) l=some ():=by unfold lV;rw [if_pos (zx c l)]
 simp only [ob_,hs]
 rw [gu h2];rfl
theorem x9 {le:α->α->Prop} (h1:∀a b,p a->p b->c a b<0->le a b) (h2:∀a b,p a->p b->¬c a b<0->le b a) (tr:∀a b d,p a->p b->p d->le a b->le b d->le a d) (v:α) (hv:p v) :
  ∀R:List α,(∀a∈R,p a)->R.Pairwise (λa b=>le b a)->(oG c v R).Pairwise (λa b=>le b a)
 | [],hp,h=>List.pairwise_singleton _ _
 | u::R,hp,h=>by
  obtain ⟨h3,h4⟩:=List.pairwise_cons.1 h
  have hu:=hp u (by simp)
  have hR:∀a∈R,p a:=λa ha=>hp a (List.mem_cons_of_mem _ ha)
  unfold oG
  cases hd:decide (c v u<0)with
  | true =>
   have hlt:=of_decide_eq_true hd
   refine List.pairwise_cons.2 ⟨λa ha => ?_,x9 h1 h2 tr v hv R hR h4⟩
   rcases List.mem_cons.1 ((mW c v R).mem_iff.1 ha)with rfl|ha
   ·exact h1 _ _ hv hu hlt
   ·exact h3 a ha
  | false =>
   have hge:=of_decide_eq_false hd
   have huv:=h2 _ _ hv hu hge
   refine List.pairwise_cons.2 ⟨λa ha => ?_,h⟩
   rcases List.mem_cons.1 ha with rfl|ha
   ·exact huv
   ·exact tr _ _ _ (hR a ha) hu hv (h3 a ha) huv
theorem BC {le:α->α->Prop} (h1:∀a b,p a->p b->c a b<0->le a b) (h2:∀a b,p a->p b->¬c a b<0->le b a) (tr:∀a b d,p a->p b->p d->le a b->le b d->le a d) :
  ∀(Q R:List α),(∀a∈R,p a)->(∀a∈Q,p a)->R.Pairwise (λa b=>le b a)->(Mx c R Q).Pairwise (λa b=>le b a)
 | [],R,hr,hq,h=>h
 | v::Q,R,hr,hq,h=>BC h1 h2 tr Q (oG c v R) (λa ha=>by
   rcases List.mem_cons.1 ((mW c v R).mem_iff.1 ha)with rfl|ha
   ·exact hq _ (by simp)
   ·exact hr a ha) (λa ha=>hq a (List.mem_cons_of_mem _ ha)) (x9 h1 h2 tr v (hq v (by simp)) R hr h)
theorem H9 {le:α->α->Prop} (h1:∀a b,p a->p b->c a b<0->le a b) (h2:∀a b,p a->p b->¬c a b<0->le b a) (tr:∀a b d,p a->p b->p d->le a b->le b d->le a d) (l:List α) (hp:∀a∈l,p a) :
  (wo c l).Pairwise le:=by
 unfold wo
 rw [List.pairwise_reverse]
 exact BC h1 h2 tr l [] (λa ha=>by cases ha) hp List.Pairwise.nil
end
section
variable {α:Type} (eqv:α->α->Bool) (z:α)
def NY (s_1:(List α)) (s_8:Int) (s_28:(List α)×Int×Int):Option (Ctl ((List α)×Int×Int) (Unit)) :=
 bif (decide (s_28.2.2<(((((s_1.length:Int)).toNat-(s_8).toNat):Nat):Int)))then (inN s_28.2.2 (((s_1.length:Int)).toNat-(s_8).toNat)).bind λ_=>(s_28.1[(((s_8).toNat)+(s_28.2.2).toNat)]?).bind λe_35=>(inN (w64 (s_28.2.2-1)) (((s_1.length:Int)).toNat-(s_8).toNat)).bind λ_=>(s_28.1[(((s_8).toNat)+((w64 (s_28.2.2-1))).toNat)]?).bind λe_38=>(bif (!(eqv e_35 e_38))then (inN s_28.2.2 (((s_1.length:Int)).toNat-(s_8).toNat)).bind λ_=>(s_28.1[(((s_8).toNat)+(s_28.2.2).toNat)]?).bind λe_44=>(inR s_28.2.1 s_28.1).bind λ_=>(s_28.1[(0+(s_28.2.1).toNat)]?).bind λe_47=>some ((s_28.1.set (0+(s_28.2.1).toNat) e_44),(w64 (s_28.2.1+1)))else some (s_28.1,s_28.2.1)).bind λv_40=>some (.go (v_40.1,v_40.2,(w64 (s_28.2.2+1))))else some (.brk (s_28.1,s_28.2.1,s_28.2.2))
noncomputable def GR (s_1:(List α)) (s_8:Int):Option (Ctl (Int) ((List α))) :=
 bif (decide (s_8<(s_1.length:Int)))then (inR s_8 s_1).bind λ_=>(s_1[(0+(s_8).toNat)]?).bind λe_15=>(inR (w64 (s_8-1)) s_1).bind λ_=>(s_1[(0+((w64 (s_8-1))).toNat)]?).bind λe_18=>bif (eqv e_15 e_18)then (neL s_1).bind λ_=>(nu s_1 s_8 (s_1.length:Int)).bind λ_=>(fI (s_1,s_8,1) (λs=>NY eqv s_1 s_8 s)).bind λo_31=>thenC o_31 (λs_28=>(nu s_28.1 s_28.2.1 (s_28.1.length:Int)).bind λ_=>(nu (s_28.1.take ((s_28.2.1).toNat)++List.replicate (((s_28.1.length:Int)).toNat-(s_28.2.1).toNat) z++s_28.1.drop (((s_28.2.1).toNat)+(((s_28.1.length:Int)).toNat-(s_28.2.1).toNat))) 0 s_28.2.1).bind λ_=>some (.ret (yJ (s_28.1.take ((s_28.2.1).toNat)++List.replicate (((s_28.1.length:Int)).toNat-(s_28.2.1).toNat) z++s_28.1.drop (((s_28.2.1).toNat)+(((s_28.1.length:Int)).toNat-(s_28.2.1).toNat))) 0 ((s_28.2.1).toNat)))) (λ_=>none)else some (.go (w64 (s_8+1)))else some (.brk s_8)
noncomputable def NS (s_1:(List α)):Option ((List α)) :=
 bif (decide ((s_1.length:Int)<2))then some s_1 else (fI 1 (λs=>GR eqv z s_1 s)).bind λo_11=>thenC o_11 (λs_8=>some s_1) (λr=>some r)
def ddG:List α->List α
 | []=>[]
 | [x]=>[x]
 | x::y::l=>bif eqv y x then ddG (y::l)else x::ddG (y::l)
variable {eqv} (he:∀a b,eqv a b=true↔a=b)
include he
theorem HV (x:α):∀(l:List α) (b:α),l.getLast? = some b->ddG eqv (l++[x])=bif eqv x b then ddG eqv l else ddG eqv l++[x]
 | [],b,h=>by cases h
 | [a],b,h=>by
  simp only [List.getLast?_singleton,so_]at h
  subst h
  simp only [List.cons_append,List.nil_append,ddG]
  cases hx:eqv x a with
  | true=>rw [(he _ _).1 hx]
  | false=>rfl
 | a::c::l,b,h=>by
  have ih:=HV x (c::l) b (by rw [<- h];simp [List.getLast?_cons_cons])
  simp only [List.cons_append]at ih ⊢
  rw [ddG,ih,ddG]
  cases eqv c a <;> cases eqv x b <;> rfl
theorem GG (s:List α) (p:Nat) (a b:α) (hp:1<=p) (ha:s[p]? = some a) (hb:s[p-1]? = some b):ddG eqv (s.take (p+1))=bif eqv a b then ddG eqv (s.take p)else ddG eqv (s.take p)++[a]:=by
 have hlt:=(List.getElem?_eq_some_iff.1 ha).1
 have e:s.take (p+1)=s.take p++[a]:=by rw [List.take_add_one,ha];rfl
 rw [e]
 refine HV he a _ b ?_
 rw [List.getLast?_eq_getElem?,List.length_take,List.getElem?_take,if_pos (by omega),<- hb]
 congr 1;omega
theorem yX (x:α):∀l:List α,x∈ddG eqv l↔x∈l
 | []=>Iff.rfl
 | [a]=>Iff.rfl
 | a::b::l=>by
  rw [ddG]
  cases h:eqv b a with
  | true =>
   rw [cond_true,yX x (b::l),(he _ _).1 h];simp
  | false=>rw [cond_false,List.mem_cons,yX x (b::l),List.mem_cons (a:=x) (b:=a)]
omit he in
theorem Kj {i:Int} {n:Nat} (h0:0<=i) (h1:i<n):inN i n=some ():=by unfold inN;rw [if_pos ⟨h0,by omega⟩]
omit he in
theorem cp_L1 (s data:List α) (k0 i2 k:Nat) (a b:α) (hn:s.length<=1000000000) (hd:data.length=s.length) (h1:1<=i2) (hp:k0+i2<s.length) (hk:k<s.length) (ha:data[k0+i2]? = some a) (hb:data[k0+i2-1]? = some b) :
  NY eqv s (k0:Int) (data,(k:Int),(i2:Int))=some (.go (bif eqv a b then (data,(k:Int),((i2+1:Nat):Int))else (data.set k a,((k+1:Nat):Int),((i2+1:Nat):Int)))):=by
 unfold NY
 have e0:((s.length:Int).toNat-(k0:Int).toNat)=s.length-k0:=by omega
 have hc:decide ((i2:Int)<((s.length-k0:Nat):Int))=true:=decide_eq_true (by omega)
 have hw:w64 ((i2:Int)-1)=((i2-1:Nat):Int):=by rw [u7 _ (by omega)];omega
 have hw2:w64 ((i2:Int)+1)=((i2+1:Nat):Int):=by rw [u7 _ (by omega)];omega
 have hw3:w64 ((k:Int)+1)=((k+1:Nat):Int):=by rw [u7 _ (by omega)];omega
 have i1:inN (i2:Int) (s.length-k0)=some ():=Kj (by omega) (by omega)
 have i3:inN ((i2-1:Nat):Int) (s.length-k0)=some ():=Kj (by omega) (by omega)
 have i4:inR (k:Int) data=some ():=Az (by omega)
 have g1:(k0:Int).toNat+(i2:Int).toNat=k0+i2:=by omega
 have g2:(k0:Int).toNat+((i2-1:Nat):Int).toNat=k0+i2-1:=by omega
 have g3:0+(k:Int).toNat=k:=by omega
 have hkd:data[k]? = some data[k]:=List.getElem?_eq_getElem (by omega)
 simp only [e0,hc,cond_true,hw,hw2,hw3,i1,i3,i4,g1,g2,g3,ob_,ha,hb,hkd]
 cases eqv a b <;> rfl
theorem Du (s:List α) (k0:Nat) (hn:s.length<=1000000000):∀(m i2 k:Nat) (data:List α),k0+i2+m=s.length->1<=i2->data.length=s.length->k<=k0+i2-1->data.take k=ddG eqv (s.take (k0+i2))->data.drop (k0+i2-1)=s.drop (k0+i2-1) ->
  ∃(data':List α) (k':Nat),iterN (λt=>NY eqv s (k0:Int) t) (m+1) (data,(k:Int),(i2:Int))=some (.go (data',(k':Int),((s.length-k0:Nat):Int)))/\data'.length=s.length/\k'<=s.length/\data'.take k'=ddG eqv s
 | 0,i2,k,data,hm,h1,hd,hk,ht,hr=>by
  refine⟨data,k,?_,hd,by omega,?_⟩
  ·have e0:((s.length:Int).toNat-(k0:Int).toNat)=s.length-k0:=by omega
   have hc:decide ((i2:Int)<((s.length-k0:Nat):Int))=false:=decide_eq_false (by omega)
   simp only [iterN,NY,e0,hc,cond_false,ob_]
   rw [show s.length-k0=i2 by omega]
  ·rw [ht,show k0+i2=s.length by omega,List.take_length]
 | m+1,i2,k,data,hm,h1,hd,hk,ht,hr=>by
  have hp:k0+i2<s.length:=by omega
  have hga:data[k0+i2]? = some s[k0+i2]:=by
   have:=congrArg (λl=>l[1]?) hr
   simp only [List.getElem?_drop]at this
   rw [show k0+i2-1+1=k0+i2 by omega]at this
   rw [this,List.getElem?_eq_getElem hp]
  have hgb:data[k0+i2-1]? = some (s[k0+i2-1]'(by omega)):=by
   have:=congrArg (λl=>l[0]?) hr
   simp only [List.getElem?_drop,Nat.add_zero]at this
   rw [this,List.getElem?_eq_getElem (by omega)]
  have hdt:=GG he s (k0+i2) s[k0+i2] (s[k0+i2-1]'(by omega)) (by omega) (List.getElem?_eq_getElem hp) (List.getElem?_eq_getElem (by omega))
  rw [iterN,cp_L1 s data k0 i2 k _ _ hn hd h1 hp (by omega) hga hgb,ob_]
  cases hx:eqv s[k0+i2] (s[k0+i2-1]'(by omega))with
  | true =>
   rw [hx,cond_true]at hdt
   simp only [cond_true]
   refine Du s k0 hn m (i2+1) k data (by omega) (by omega) hd (by omega) (by rw [ht,<- hdt];rfl) ?_
   have:=congrArg (List.drop 1) hr
   simp only [List.drop_drop]at this
   rw [show k0+i2-1+1=k0+(i2+1)-1 by omega]at this
   exact this
  | false =>
   rw [hx,cond_false]at hdt
   simp only [cond_false]
   have hkl:k<data.length:=by omega
   refine Du s k0 hn m (i2+1) (k+1) (data.set k s[k0+i2]) (by omega) (by omega) (by simpa using hd) (by omega) ?_ ?_
   ·rw [List.take_add_one,List.getElem?_set_self hkl,List.take_set_of_le (Nat.le_refl _),ht]
    show _=ddG eqv (s.take (k0+i2+1))
    rw [hdt];rfl
   ·rw [List.drop_set_of_lt (by omega)]
    have:=congrArg (List.drop 1) hr
    simp only [List.drop_drop]at this
    rw [show k0+i2-1+1=k0+(i2+1)-1 by omega]at this
    exact this
theorem Io (s:List α) (hn:s.length<=1000000000):∀(m i:Nat),i+m=s.length->1<=i->ddG eqv (s.take i)=s.take i ->
  (iterN (λt=>GR eqv z s t) (m+1) (i:Int)=some (.go (s.length:Int))/\ddG eqv s=s)\/iterN (λt=>GR eqv z s t) (m+1) (i:Int)=some (.ret (ddG eqv s))
 | 0,i,hm,h1,hd=>by
  refine .inl ⟨?_,?_⟩
  ·have hc:decide ((i:Int)<(s.length:Int))=false:=decide_eq_false (by omega)
   simp only [iterN,GR,hc,cond_false,ob_]
   rw [show i=s.length by omega]
  ·rw [show i=s.length by omega,List.take_length]at hd;exact hd
 | m+1,i,hm,h1,hd=>by
  have hi:i<s.length:=by omega
  have hc:decide ((i:Int)<(s.length:Int))=true:=decide_eq_true (by omega)
  have hw:w64 ((i:Int)-1)=((i-1:Nat):Int):=by rw [u7 _ (by omega)];omega
  have hw2:w64 ((i:Int)+1)=((i+1:Nat):Int):=by rw [u7 _ (by omega)];omega
  have e1:0+(i:Int).toNat=i:=by omega
  have e2:0+((i-1:Nat):Int).toNat=i-1:=by omega
  have hga:s[i]? = some s[i]:=List.getElem?_eq_getElem hi
  have hgb:s[i-1]? = some (s[i-1]'(by omega)):=List.getElem?_eq_getElem (by omega)
  have hdt:=GG he s i s[i] (s[i-1]'(by omega)) h1 hga hgb
  have i1:inR (i:Int) s=some ():=Az hi
  have i2:inR ((i-1:Nat):Int) s=some ():=Az (by omega)
  rw [iterN]
  cases hx:eqv s[i] (s[i-1]'(by omega))with
  | false =>
   have:GR eqv z s (i:Int)=some (.go ((i+1:Nat):Int)):=by
    unfold GR
    simp only [hc,cond_true,hw,hw2,e1,e2,i1,i2,hga,hgb,ob_,hx,cond_false]
   rw [this,ob_]
   rw [hx,cond_false,hd]at hdt
   refine Io s hn m (i+1) (by omega) (by omega) ?_
   rw [hdt,List.take_add_one,hga];rfl
  | true =>
   right
   rw [hx,cond_true,hd]at hdt
   obtain ⟨data',k',q1,q2,q3,q4⟩:=Du he s i hn (s.length-(i+1)) 1 i s (by omega) (by omega) rfl (by omega) hdt.symm rfl
   have hlo:=gu q1
   have hne:neL s=some ():=by
    cases s with
    | nil=>simp at hi
    | cons a l=>rfl
   have hsr:nu s (i:Int) (s.length:Int)=some ():=by unfold nu;rw [if_pos ⟨by omega,by omega,by omega,by omega⟩]
   have hsr2:nu data' (k':Int) (data'.length:Int)=some ():=by unfold nu;rw [if_pos ⟨by omega,by omega,by omega,by omega⟩]
   have hlen:(data'.take k'++List.replicate (data'.length-k') z++data'.drop (k'+(data'.length-k'))).length=data'.length:=by simp;omega
   have hsr3:nu (data'.take k'++List.replicate (data'.length-k') z++data'.drop (k'+(data'.length-k'))) 0 (k':Int)=some ():=by unfold nu;rw [if_pos ⟨by omega,by omega,by omega,by rw [hlen];omega⟩]
   have n1:((data'.length:Int)).toNat=data'.length:=by omega
   have n2:(k':Int).toNat=k':=by omega
   have:GR eqv z s (i:Int)=some (.ret (ddG eqv s)):=by
    unfold GR
    have one:((1:Nat):Int)=1:=rfl
    rw [one]at hlo
    simp only [hc,cond_true,hw,e1,e2,i1,i2,hga,hgb,ob_,hx,hne,hsr,hlo,thenC,hsr2,n1,n2,hsr3]
    congr 2
    show List.take k' (List.drop 0 _)=ddG eqv s
    rw [List.drop_zero,List.append_assoc,List.take_append_of_le_length (by rw [List.length_take];omega),List.take_take,Nat.min_self,q4]
   rw [this];rfl
theorem Nz (s:List α) (hn:s.length<=1000000000):NS eqv z s=some (ddG eqv s):=by
 unfold NS
 by_cases h:(s.length:Int)<2
 ·rw [decide_eq_true h,cond_true]
  match s,h with
  | [],_=>rfl
  | [a],_=>rfl
  | a::b::l,h=>simp at h;omega
 ·rw [decide_eq_false h,cond_false]
  have h1:ddG eqv (s.take 1)=s.take 1:=by
   match s with
   | []=>rfl
   | a::l=>rfl
  rcases Io z he s hn (s.length-1) 1 (by omega) (Nat.le_refl _) h1 with⟨h2,h3⟩|h2
  ·have:=gu h2
   show (fI 1 _).bind _=_
   rw [show ((1:Nat):Int)=1 from rfl]at this
   rw [this,h3];rfl
  ·have:=gu h2
   show (fI 1 _).bind _=_
   rw [show ((1:Nat):Int)=1 from rfl]at this
   rw [this];rfl
end
end Go.Eng

open Go Go.Eng
namespace Go.Proofs.YtnkgapmhkhcanabGreatDoor.Law
set_option linter.unusedVariables false
set_option linter.unusedSimpArgs false
section
variable {α:Type} {c:α->α->Int} {eqv:α->α->Bool}
theorem Es (he:∀a b,eqv a b=true↔a=b):∀(l:List α),l.Pairwise (λa b=>¬c b a<0)->(∀x∈l,∀y∈l,¬c x y<0->¬c y x<0->x=y)->(ddG eqv l).Pairwise (λa b=>c a b<0)
 | [],_,_=>List.Pairwise.nil
 | [x],_,_=>List.pairwise_singleton _ _
 | x::y::l,hp,hu=>by
  obtain ⟨p1,p2⟩:=List.pairwise_cons.1 hp
  have ih:=Es he (y::l) p2 (λa ha b hb=>hu a (List.mem_cons_of_mem _ ha) b (List.mem_cons_of_mem _ hb))
  rw [ddG]
  cases hxy:eqv y x with
  | true=>exact ih
  | false =>
   refine List.pairwise_cons.2 ⟨λz hz => ?_,ih⟩
   have hz:=(yX he z (y::l)).1 hz
   refine Classical.byContradiction λhn => ?_
   have e:=hu x (by simp) z (List.mem_cons_of_mem _ hz) hn (p1 z hz)
   rcases List.mem_cons.1 hz with h|h
   ·rw [(he y x).2 (by rw [e,h])]at hxy;cases hxy
   ·have h1:=(List.pairwise_cons.1 p2).1 z h
    rw [<- e]at h1
    have e2:=hu x (by simp) y (by simp) h1 (p1 y (by simp))
    rw [(he y x).2 e2.symm]at hxy;cases hxy
theorem IQ (hi:∀a,¬c a a<0) (hs:∀a b,c a b<0->¬c b a<0) {l m:List α} (hl:l.Pairwise (λa b=>c a b<0)) (hm:m.Pairwise (λa b=>c a b<0)) (h:∀x,x∈l↔x∈m):l=m:=by
 have d:∀{l:List α},l.Pairwise (λa b=>c a b<0)->l.Nodup:=λh=>h.imp (λ{a b} q e=>by rw [e]at q;exact hi b q)
 have hp:l.Perm m:=(List.perm_ext_iff_of_nodup (d hl) (d hm)).2 h
 exact List.Perm.eq_of_pairwise (le:=λa b=>c a b<0) (λa b _ _ h1 h2=>absurd h2 (hs a b h1)) hl hm hp
end
def Ol (a b:Log_):Bool:=(a.Player.toList==b.Player.toList)&&((a.Item.toList==b.Item.toList)&&((a.No==b.No)&&((a.Clock==b.Clock)&&((a.Long==b.Long)&&((a.Sum.toList==b.Sum.toList)&&true)))))
theorem zJ (a b:Log_):Ol a b=true↔a=b:=by
 obtain ⟨a1,a2,a3,a4,a5,a6⟩:=a
 obtain ⟨b1,b2,b3,b4,b5,b6⟩:=b
 unfold Ol
 simp only [Bool.and_eq_true,beq_iff_eq,Bool.and_true,Log_.mk.injEq]
 have k:∀x y:ByteArray,x.toList=y.toList↔x=y:=λx y=>⟨λh=>zH h,λh=>by rw [h]⟩
 rw [k,k,k]
theorem JP (a b:List Log_) (ha:a.length<=1000) (hb:b.length<=1000):dx [a,b]=some (a++b):=by
 unfold dx
 have e1:forL [a,b] 0 (λk x s=>bu k x s)=some (.go (((a.length+b.length:Nat)):Int)):=by
  rw [jm (by simp)]
  have q1:∀k,bu k a 0=some (.go (a.length:Int)):=λk=>by
   unfold bu
   rw [fQ (by omega),decide_eq_false (by omega),cond_false,ob_,Int.zero_add]
  have q2:∀k,bu k b (a.length:Int)=some (.go ((a.length+b.length:Nat):Int)):=λk=>by
   unfold bu
   rw [fQ (by omega),decide_eq_false (by omega),cond_false,ob_]
   congr 2
  simp only [forR,q1,q2,ob_]
 have e3:forL [a,b] ([]:List Log_) (λk x s=>bv k x s)=some (.go (a++b)):=by
  rw [jm (by simp)]
  have q1:∀k,bv k a []=some (.go a):=λk=>by
   unfold bv
   rw [uH _ _ (by simp;omega)];rfl
  have q2:∀k,bv k b a=some (.go (a++b)):=λk=>by
   unfold bv
   rw [uH _ _ (by omega)];rfl
  simp only [forR,q1,q2,ob_]
 have w0:w64 (0-0)=0:=rfl
 have e2:∃g,dC (((a.length+b.length:Nat)):Int)=some g/\(a++b=[]->g=false):=by
  unfold dC
  rw [w0,fQ (n:=((a.length+b.length:Nat):Int)-0) (by omega),decide_eq_false (by omega),cond_false]
  by_cases hz:a.length+b.length=0
  ·rw [decide_eq_false (by omega),cond_false]
   exact⟨_,rfl,λ_=>rfl⟩
  ·rw [decide_eq_true (by omega),cond_true]
   have hzn:zN (((a.length+b.length:Nat):Int)-0) 72=some ():=by unfold zN;rw [if_pos (by omega)]
   rw [hzn]
   refine⟨_,rfl,λe => ?_⟩
   have:=congrArg List.length e
   rw [List.length_append]at this
   exact absurd this hz
 obtain ⟨g,g1,g2⟩:=e2
 rw [e1,ob_,gM,g1,ob_,e3,ob_,gM]
 have hk:kE g (a++b)=some ():=by
  cases hab:a++b with
  | nil=>rw [g2 hab];rfl
  | cons x l=>cases g <;> rfl
 rw [hk];rfl
theorem qO {pl:ByteArray} {a b:Log_} (ha:a.Player=pl) (hb:b.Player=pl):cmpL a b<0↔a.No<b.No:=by
 unfold cmpL
 rw [ha,hb,Eu]
 show MH a.No b.No<0↔_
 unfold MH
 split
 ·rename_i h;exact⟨λ_=>h,λ_=>by omega⟩
 ·rename_i h
  split
  ·exact⟨λq=>by omega,λq=>absurd q h⟩
  ·exact⟨λq=>by omega,λq=>absurd q h⟩
theorem SeqL.strict {pl:ByteArray}:∀{l:List Log_} {n:Nat},SeqL pl n l->l.Pairwise (λa b=>a.No<b.No)/\∀x∈l,(n:Int)<x.No
 | [],n,h=>⟨List.Pairwise.nil,λx hx=>by cases hx⟩
 | x::l,n,h=>by
  obtain ⟨i1,i2⟩:=SeqL.strict h.tail
  have h0:=h.no 0 x rfl
  refine⟨List.pairwise_cons.2 ⟨λy hy=>by have:=i2 y hy;omega,i1⟩,λy hy => ?_⟩
  rcases List.mem_cons.1 hy with rfl|hy
  ·omega
  ·have:=i2 y hy;omega
theorem Ha {pl:ByteArray} {a u v:List Log_} (h:SeqL pl 0 a) (hl:a.length<=9) (hu:∀x∈u,x∈a) (hv:∀x∈v,x∈a) (hc:∀x∈a,x∈u\/x∈v) (lu:u.length<=9) (lv:v.length<=9) (cu:bW u=some 0) (cv:bW v=some 0):jN u v=some (a,0):=by
 have hm:∀x∈u++v,x∈a:=λx hx=>(List.mem_append.1 hx).elim (hu x) (hv x)
 have hst:=h.strict.1
 have hid:∀x∈a,∀y∈a,x.No=y.No->x=y:=λx hx y hy e=>by
  obtain ⟨i,hi⟩:=List.getElem?_of_mem hx
  obtain ⟨j,hj⟩:=List.getElem?_of_mem hy
  have h1:=h.no i x hi
  have h2:=h.no j y hj
  have hij:i=j:=by omega
  subst hij
  rw [hi,so_]at hj
  exact hj
 have e0:forL (List.range (2:Int).toNat) () (λk x s=>gK u v k x s)=some (.go ()):=by
  rw [jm (by simp)]
  have q0:∀x,gK u v 0 x ()=some (.go ()):=λx=>by
   unfold gK
   rw [show idx ([u,v]:List (List Log_)) ((0:Nat):Int)=some u from rfl,ob_,cu];rfl
  have q1:∀x,gK u v (0+1) x ()=some (.go ()):=λx=>by
   unfold gK
   rw [show idx ([u,v]:List (List Log_)) ((0+1:Nat):Int)=some v from rfl,ob_,cv];rfl
  rw [show List.range (2:Int).toNat=[0,1] from rfl]
  simp only [forR,q0,q1,ob_]
 have hlen:(u++v).length<=19:=by rw [List.length_append];omega
 have hsort:bN (u++v)=some (wo cmpL (u++v)):=by
  unfold bN
  have h1:dP (u++v) ((u++v).length:Int)=MZ eZ (u++v) ((u++v).length:Int):=rfl
  rw [h1,Np (p:=λ_=>True) (c:=cmpL) (λa b _ _=>rV a b) _ hlen (λ_ _=>trivial),ob_]
  unfold lV;rw [if_pos (zx _ _)];rfl
 have hsm:∀x,x∈wo cmpL (u++v)↔x∈u++v:=λx=>(EK _ _).mem_iff
 have hpl:∀x∈wo cmpL (u++v),x.Player=pl:=λx hx=>h.player x (hm x ((hsm x).1 hx))
 have hsrt:(wo cmpL (u++v)).Pairwise (λa b=>¬cmpL b a<0):=H9 (c:=cmpL) (p:=λx=>x.Player=pl) (le:=λa b=>¬cmpL b a<0) (λa b ha hb q=>by rw [qO ha hb]at q;rw [qO hb ha];omega) (λa b _ _ q=>q) (λa b d ha hb hd q1 q2=>by rw [qO hb ha]at q1;rw [qO hd hb]at q2;rw [qO hd ha];omega) _ (λx hx=>h.player x (hm x hx))
 have hdd:ddG Ol (wo cmpL (u++v))=a:=by
  have hs1:=Es (c:=cmpL) zJ _ hsrt (λx hx y hy q1 q2=>by
   rw [qO (hpl x hx) (hpl y hy)]at q1
   rw [qO (hpl y hy) (hpl x hx)]at q2
   exact hid x (hm x ((hsm x).1 hx)) y (hm y ((hsm y).1 hy)) (by omega))
  have hp1:∀x∈ddG Ol (wo cmpL (u++v)),x.Player=pl:=λx hx=>hpl x ((yX zJ x _).1 hx)
  refine IQ (c:=λa b=>a.No-b.No) (λa q=>by omega) (λa b q=>by omega) ?_ (hst.imp (λ{a b} q=>by omega)) (λx => ?_)
  ·refine (List.Pairwise.and_mem.1 hs1).imp (λ{x y} q => ?_)
   obtain ⟨q1,q2,q3⟩:=q
   rw [qO (hp1 x q1) (hp1 y q2)]at q3
   omega
  ·rw [yX zJ,hsm,List.mem_append]
   exact⟨λq=>q.elim (hu x) (hv x),hc x⟩
 have hcp:cZ (wo cmpL (u++v))=some a:=by
  have h1:cZ (wo cmpL (u++v))=NS Ol (⟨(⟨#[]⟩:ByteArray),(⟨#[]⟩:ByteArray),0,0,0,(⟨#[]⟩:ByteArray)⟩:Log_) (wo cmpL (u++v)):=rfl
  rw [h1,Nz _ zJ _ (by rw [zx];omega),hdd]
 have hit:∀(d j:Nat),1<=j->j+d=max 1 a.length->iterN (λt=>iP a t) (d+1) (j:Int)=some (.go ((max 1 a.length:Nat):Int)):=by
  intro d
  induction d with
  | zero =>
   intro j h1 hj
   simp only [iterN,iP]
   rw [decide_eq_false (by omega),cond_false,ob_]
   simp only []
   rw [show j=max 1 a.length by omega]
  | succ d ih =>
   intro j h1 hj
   have hja:j<a.length:=by omega
   obtain ⟨i,rfl⟩:∃i,j=i+1:=⟨j-1,by omega⟩
   have g1:a[i]? = some (a[i]'(by omega)):=List.getElem?_eq_getElem _
   have g2:a[i+1]? = some (a[i+1]'hja):=List.getElem?_eq_getElem _
   have hlt:=(List.pairwise_iff_getElem.1 hst) i (i+1) (by omega) hja (by omega)
   have hcm:cmpL (a[i]'(by omega)) (a[i+1]'hja)<0:=(qO (h.player _ (List.getElem_mem _)) (h.player _ (List.getElem_mem _))).2 hlt
   have hne:(cmpL (a[i]'(by omega)) (a[i+1]'hja)==0)=false:=by rw [beq_eq_false_iff_ne];omega
   have hstep:iP a ((i+1:Nat):Int)=some (.go ((i+1+1:Nat):Int)):=by
    unfold iP
    rw [decide_eq_true (by omega),cond_true,fQ (n:=((i+1:Nat):Int)-1) (by omega),show ((i+1:Nat):Int)-1=(i:Int) by omega,sK,g1,ob_,sK,g2,ob_,rV,ob_,hne,cond_false,fQ (by omega)];rfl
   rw [iterN,hstep,ob_]
   exact ih (i+1+1) (by omega) (by omega)
 have hlo:=gu (hit (max 1 a.length-1) 1 (Nat.le_refl _) (by omega))
 rw [show ((1:Nat):Int)=1 from rfl]at hlo
 unfold jN
 rw [e0,ob_,gM,JP u v (by omega) (by omega),ob_,hsort,ob_]
 have hsl:lV (wo cmpL (u++v)) (u++v)=some ():=by unfold lV;rw [if_pos (zx _ _)]
 rw [hsl,ob_,hcp,ob_,hlo,ob_,gM,decide_eq_false (by omega)];rfl
end Go.Proofs.YtnkgapmhkhcanabGreatDoor.Law

open Go Go.Eng
namespace Go.Proofs.YtnkgapmhkhcanabGreatDoor.Law
set_option linter.unusedVariables false
set_option linter.unusedSimpArgs false
theorem NU:∀a b:Fin 16,oh a.val=oh b.val->a=b:=by decide
theorem GN:∀(k u v:Nat),u<16 ^ k->v<16 ^ k->vw k u=vw k v->u=v
 | 0,u,v,hu,hv,_=>by simp at hu hv;omega
 | k+1,u,v,hu,hv,h=>by
  rw [Nat.pow_succ]at hu hv
  simp only [vw]at h
  have h1:=List.append_inj' h rfl
  have e1:=GN k (u / 16) (v / 16) (by omega) (by omega) h1.1
  have h2:=h1.2
  simp only [List.cons.injEq,and_true]at h2
  have e2:=NU ⟨u % 16,Nat.mod_lt _ (by decide)⟩ ⟨v % 16,Nat.mod_lt _ (by decide)⟩ h2
  have e3:u % 16=v % 16:=congrArg Fin.val e2
  omega
theorem mk_inj {a b:List UInt8} (h:mk a=mk b):fnv a=fnv b:=by
 unfold mk at h
 have h1:vw 16 (fnv a).toNat=vw 16 (fnv b).toNat:=congrArg (λs:ByteArray=>s.data.toList) h
 have ha:=Jp a
 have hb:=Jp b
 have:=GN 16 _ _ (by omega) (by omega) h1
 omega
theorem mul_inj {x y:Int} (hx:0<=x/\x<18446744073709551616) (hy:0<=y/\y<18446744073709551616) (h:(x*1099511628211) % 18446744073709551616=(y*1099511628211) % 18446744073709551616):x=y:=by
 have h1:(x*1099511628211-y*1099511628211) % 18446744073709551616=0:=by
  rw [Int.sub_emod,h,Int.sub_self];rfl
 obtain ⟨k,hk⟩:=Int.dvd_of_emod_eq_zero h1
 rw [<- Int.sub_mul]at hk
 generalize hd:x-y=d at hk
 have e:(1099511628211:Int)*14886173955864302971-18446744073709551616*887285111055=1:=by decide
 have e2:d=18446744073709551616*(k*14886173955864302971-d*887285111055):=by
  have e3:d*((1099511628211:Int)*14886173955864302971-18446744073709551616*887285111055)=d:=by rw [e,Int.mul_one]
  rw [Int.mul_sub,<- Int.mul_assoc,hk,Int.mul_assoc,Int.mul_left_comm d]at e3
  rw [Int.mul_sub]
  exact e3.symm
 generalize k*14886173955864302971-d*887285111055=q at e2
 clear h h1 hk e
 omega
theorem xor_ne (h:Int) {a b:UInt8} (hab:BitVec.ofInt 64 (IntKind.u64.wrap (a.toNat:Int))≠BitVec.ofInt 64 (IntKind.u64.wrap (b.toNat:Int))):FX .u64 h (IntKind.u64.wrap (a.toNat:Int))≠FX .u64 h (IntKind.u64.wrap (b.toNat:Int)):=λe=>by
 unfold FX at e
 have k:∀v:BitVec 64,IntKind.u64.wrap (v.toNat:Int)=(v.toNat:Int):=λv=>wu_id (by omega) (by have:=v.isLt;omega)
 have e2:((BitVec.ofInt 64 h ^^^ BitVec.ofInt 64 (IntKind.u64.wrap (a.toNat:Int))).toNat:Int)=((BitVec.ofInt 64 h ^^^ BitVec.ofInt 64 (IntKind.u64.wrap (b.toNat:Int))).toNat:Int):=by
  have e':IntKind.u64.wrap ((BitVec.ofInt 64 h ^^^ BitVec.ofInt 64 (IntKind.u64.wrap (a.toNat:Int))).toNat:Int)=IntKind.u64.wrap ((BitVec.ofInt 64 h ^^^ BitVec.ofInt 64 (IntKind.u64.wrap (b.toNat:Int))).toNat:Int):=e
  rw [k,k]at e'
  exact e'
 have e3:=BitVec.eq_of_toNat_eq (Int.ofNat.inj e2)
 have e4:=congrArg (λv=>BitVec.ofInt 64 h ^^^ v) e3
 simp only [<- BitVec.xor_assoc,BitVec.xor_self,BitVec.zero_xor]at e4
 exact hab e4
theorem step_ne (h:Int) {a b:UInt8} (hab:BitVec.ofInt 64 (IntKind.u64.wrap (a.toNat:Int))≠BitVec.ofInt 64 (IntKind.u64.wrap (b.toNat:Int))):yj h a≠yj h b:=λe=>by
 unfold yj at e
 rw [wu (_*_),wu (_*_)]at e
 exact xor_ne h hab (mul_inj (MX _) (MX _) e)
theorem long_ne (last:ByteArray) (x y:Log_) (h1:x.Player=y.Player) (h2:x.Item=y.Item) (h3:x.No=y.No) (h4:x.Clock=y.Clock) (h5:x.Long=10) (h6:y.Long=11):tX last x≠tX last y:=λe=>by
 unfold tX at e
 have e1:=mk_inj e
 unfold Cz at e1
 rw [h1,h2,h3,h4,h5,h6]at e1
 have i10:Go.Lib.itoa 10=[49,48]:=by decide +kernel
 have i11:Go.Lib.itoa 11=[49,49]:=by decide +kernel
 rw [i10,i11]at e1
 generalize last.data.toList++[32]=A at e1
 generalize y.Player.data.toList++[32]++y.Item.data.toList++[32]++Go.Lib.itoa y.No++[32]++Go.Lib.itoa y.Clock++[32]=B at e1
 have k:∀z:UInt8,fnv (A++(B++[49,z]))=yj (fnv (A++(B++[49]))) z:=λz=>by
  unfold fnv
  rw [show A++(B++[49,z])=(A++(B++[49]))++[z] by simp,List.foldl_append];rfl
 rw [k,k]at e1
 exact step_ne _ (by decide) e1
end Go.Proofs.YtnkgapmhkhcanabGreatDoor.Law

open Go Go.Eng
namespace Go.Proofs.YtnkgapmhkhcanabGreatDoor.Law
set_option linter.unusedVariables false
set_option linter.unusedSimpArgs false
def tZ {σ ρ:Type} (s:σ) (body:σ->Option (Ctl σ ρ)):Option (Ctl σ ρ):=iterN body 300 s
def Le {α:Type} (a b:Option α):Prop:=∀r,a=some r->b=some r
theorem Le.refl {α:Type} (a:Option α):Le a a:=λ_ h=>h
theorem Le.bind {α β:Type} {a b:Option α} {f g:α->Option β} (h:Le a b) (k:∀x,Le (f x) (g x)):Le (a.bind f) (b.bind g):=λr e=>by
 obtain ⟨x,h1,h2⟩:=Option.bind_eq_some_iff.1 e
 rw [h x h1];exact k x r h2
theorem Le.cond {α:Type} {a b c d:Option α} {t:Bool} (h:Le a c) (k:Le b d):Le (bif t then a else b) (bif t then c else d):=by
 cases t
 ·exact k
 ·exact h
theorem Le.thenC {σ ρ τ:Type} {o:Ctl σ ρ} {f f':σ->Option τ} {g g':ρ->Option τ} (h:∀x,Le (f x) (f' x)) (k:∀x,Le (g x) (g' x)):Le (Go.Eng.thenC o f g) (Go.Eng.thenC o f' g'):=by
 cases o
 ·exact h _
 ·exact Le.refl _
 ·exact k _
theorem Le.forR {α σ ρ:Type} {b b':Nat->α->σ->Option (Ctl σ ρ)} (h:∀k x s,Le (b k x s) (b' k x s)):∀(xs:List α) (k:Nat) (s:σ),Le (Go.Eng.forR b xs k s) (Go.Eng.forR b' xs k s)
 | [],k,s=>Le.refl _
 | x::xs,k,s=>Le.bind (h k x s) (λc=>by
   cases c with
   | go s'=>exact Le.forR h xs _ _
   | brk s'=>exact Le.refl _
   | ret r=>exact Le.refl _)
theorem Le.forL {α σ ρ:Type} {xs:List α} {s:σ} {b b':Nat->α->σ->Option (Ctl σ ρ)} (h:∀k x s,Le (b k x s) (b' k x s)):Le (Go.Eng.forL xs s b) (Go.Eng.forL xs s b'):=by
 unfold Go.Eng.forL
 split
 ·exact Le.forR h xs 0 s
 ·exact Le.refl _
theorem Le.iterN {σ ρ:Type} {b b':σ->Option (Ctl σ ρ)} (h:∀s,Le (b s) (b' s)):∀(n:Nat) (s:σ),Le (Go.Eng.iterN b n s) (Go.Eng.iterN b' n s)
 | 0,s=>Le.refl _
 | n+1,s=>Le.bind (h s) (λc=>by
   cases c with
   | go s'=>exact Le.iterN h n s'
   | brk s'=>exact Le.refl _
   | ret r=>exact Le.refl _)
theorem Le.loop {σ ρ:Type} {s:σ} {b b':σ->Option (Ctl σ ρ)} (h:∀s,Le (b s) (b' s)):Le (tZ s b) (fI s b'):=λr e=>gu (Le.iterN h _ _ r e)
end Go.Proofs.YtnkgapmhkhcanabGreatDoor.Law

open Go Go.Eng
namespace Go.Proofs.YtnkgapmhkhcanabGreatDoor.Law
set_option linter.unusedVariables false
set_option linter.unusedSimpArgs false
def Mf (x:Int):List Int->List Int
 | []=>[x]
 | y::l=>bif decide (x<=y)then x::y::l else y::Mf x l
def CQ:List Int->List Int
 | []=>[]
 | x::l=>Mf x (CQ l)
theorem Ap (x:Int):∀l,(Mf x l).Perm (x::l)
 | [] => .refl _
 | y::l=>by
  unfold Mf
  cases decide (x<=y)with
  | true=>exact .refl _
  | false=>exact ((Ap x l).cons y).trans (List.Perm.swap x y l)
theorem Bv:∀l,(CQ l).Perm l
 | [] => .refl _
 | x::l=>(Ap x _).trans ((Bv l).cons x)
theorem Bz (x:Int):∀l:List Int,l.Pairwise (· <= ·)->(Mf x l).Pairwise (· <= ·)
 | [],_=>List.pairwise_singleton _ _
 | y::l,h=>by
  obtain ⟨h1,h2⟩:=List.pairwise_cons.1 h
  unfold Mf
  by_cases hx:x<=y
  ·rw [decide_eq_true hx,cond_true]
   exact List.pairwise_cons.2 ⟨λz hz=>by
    rcases List.mem_cons.1 hz with rfl|hz
    ·exact hx
    ·exact Int.le_trans hx (h1 z hz),h⟩
  ·rw [decide_eq_false hx,cond_false]
   exact List.pairwise_cons.2 ⟨λz hz=>by
    rcases List.mem_cons.1 ((Ap x l).mem_iff.1 hz)with rfl|hz
    ·omega
    ·exact h1 z hz,Bz x l h2⟩
theorem yo:∀l,(CQ l).Pairwise (· <= ·)
 | [] => .nil
 | x::l=>Bz x _ (yo l)
theorem Mc (l:List Int):l.mergeSort (λx y=>decide (x<=y))=CQ l:=by
 refine List.Perm.eq_of_pairwise (le:=(· <= ·)) (λa b _ _ h1 h2=>Int.le_antisymm h1 h2) ?_ (yo l) ((List.mergeSort_perm l _).trans (Bv l).symm)
 have:=List.pairwise_mergeSort (le:=λ(x y:Int)=>decide (x<=y)) (λa b c=>by simp;omega) (λa b=>by simp;omega) l
 exact this.imp (by simp)
def Ny (l:List Int):Option (List Int):=bif Nat.ble l.length 1000 then some (CQ l)else none
theorem OP (l:List Int):Le (Ny l) (ig l):=λr h=>by
 unfold Ny at h
 cases hb:Nat.ble l.length 1000 with
 | false=>rw [hb]at h;cases h
 | true =>
  rw [hb,cond_true]at h
  have:=Nat.le_of_ble_eq_true hb
  unfold ig KN
  rw [if_pos (by omega),Mc];exact h
end Go.Proofs.YtnkgapmhkhcanabGreatDoor.Law

