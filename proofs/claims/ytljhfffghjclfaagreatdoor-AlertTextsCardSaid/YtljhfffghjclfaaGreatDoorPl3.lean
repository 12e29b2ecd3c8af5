/-
  THE PLAIN LAW (part 3).
-/
import Derived.Test.YtljhfffghjclfaaGreatDoorPl2
open Go Go.Eng
namespace Go.Proofs.YtljhfffghjclfaaGreatDoor.Law
set_option linter.unusedVariables false
set_option linter.unusedSimpArgs false
set_option maxRecDepth 100000
def nums (l:List UInt8):List Int:=l.map λb=>(b.toNat:Int)
theorem Ir (l:List UInt8):Go.strOfNums (nums l)=SB l:=by
 unfold Go.strOfNums nums
 rw [List.map_map]
 have:(l.map ((λn:Int=>UInt8.ofNat n.toNat) ∘ λb:UInt8=>(b.toNat:Int)))=l:=by
  have:((λn:Int=>UInt8.ofNat n.toNat) ∘ λb:UInt8=>(b.toNat:Int))=id:=by
   funext b;simp
  rw [this,List.map_id]
 rw [this]
theorem vC (a z:List UInt8) (h:a.length+z.length<=1000000000):Ec (nums a) (SB z)=some (nums (a++z)):=by
 unfold Ec
 have e:bf (SB z)=nums z:=rfl
 rw [if_pos (by rw [fG];unfold nums;rw [List.length_map];exact h),e]
 unfold nums
 rw [List.map_append]
theorem GI (a:List UInt8) (h:a.length<=1000000000):yE (nums a)=some (SB a):=by
 unfold yE
 rw [if_pos ⟨by unfold nums;rw [List.length_map];exact h,by
  unfold nums
  rw [List.all_map,List.all_eq_true]
  intro b _
  have:=b.toNat_lt
  show (decide (0<=(b.toNat:Int))&&decide ((b.toNat:Int)<=255))=true
  rw [decide_eq_true (by omega),decide_eq_true (by omega)];rfl⟩,Ir]
def kZ (ns:List Int):List UInt8:=ns.flatMap λn=>32::Go.Lib.itoa n
theorem tZ:∀(n:Int) (ns:List Int),kZ (n::ns)=32::Go.Lib.join ((n::ns).map Go.Lib.itoa) [32]
 | n,[]=>by simp [kZ,Go.Lib.join_one]
 | n,m::ns=>by
  have ih:=tZ m ns
  have e:kZ (n::m::ns)=(32::Go.Lib.itoa n)++kZ (m::ns):=by simp [kZ]
  rw [e,ih]
  simp only [List.map_cons]
  rw [Lu]
  simp
theorem DK:∀(ns:List Int) (k:Nat) (out:List UInt8),(∀n∈ns,Med n)->out.length+ns.length*30<=1000000->forR (λk x s=>jg k x s) ns k (SB out)=some (.go (SB (out++kZ ns)))
 | [],k,out,_,_=>by simp [forR,kZ]
 | n::ns,k,out,h,hl=>by
  have hn:=h n (by simp)
  have:=xP hn
  simp only [List.length_cons,Nat.add_mul]at hl
  have hs:jg k n (SB out)=some (.go (SB (out++32::Go.Lib.itoa n))):=by
   unfold jg
   have c1:eH (⟨#[32]⟩:ByteArray) (SB (Go.Lib.itoa n))=some (SB (32::Go.Lib.itoa n)):=iP [32] (Go.Lib.itoa n) (by simp only [List.length_cons,List.length_nil];omega)
   have c2:=iP out (32::Go.Lib.itoa n) (by simp only [List.length_cons];omega)
   rw [EE hn,ob_,c1,ob_,c2,ob_]
  rw [forR,hs,ob_]
  simp only []
  rw [DK ns (k+1) _ (λm hm=>h m (by simp [hm])) (by simp only [List.length_append,List.length_cons];omega)]
  simp [kZ]
theorem Bf:∀(ns:List Int),(∀n∈ns,Med n)->(kZ ns).length<=ns.length*30
 | [],_=>by simp [kZ]
 | n::ns,h=>by
  have:=xP (h n (by simp))
  have:=Bf ns (λm hm=>h m (by simp [hm]))
  have e:kZ (n::ns)=(32::Go.Lib.itoa n)++kZ ns:=by simp [kZ]
  rw [e];simp only [List.length_append,List.length_cons,Nat.add_mul];omega
theorem CP (f:List UInt8) (ns:List Int) (h:∀n∈ns,Med n) (hf:f.length<=100000) (hn:ns.length<=1000):kr (SB f) ns=some (SB (f++kZ ns++[10])):=by
 unfold kr
 have:=Bf ns h
 rw [fQ (by omega),DK ns 0 f h (by omega),ob_]
 simp only [thenC]
 rw [show (⟨#[10]⟩:ByteArray)=SB [10] from rfl,iP _ [10] (by simp only [List.length_append,List.length_cons,List.length_nil];omega)];rfl
theorem JK:∀(l:List ByteArray) (k:Nat) (out:List UInt8),(∀r∈l,ShA r)->out.length+l.length*2000<=1000000->forR (λk x s=>jN k x s) l k (nums out)=some (.go (nums (out++qy l)))
 | [],k,out,_,_=>by simp [forR,qy]
 | r::l,k,out,h,hl=>by
  have hr:=xE (h r (by simp))
  simp only [List.length_cons,Nat.add_mul]at hl
  have hs:jN k r (nums out)=some (.go (nums (out++([114,101,102,32]++r.data.toList++[10])))):=by
   unfold jN
   have c1:eH (⟨#[114,101,102,32]⟩:ByteArray) r=some (SB ([114,101,102,32]++r.data.toList)):=iP [114,101,102,32] r.data.toList (by simp only [List.length_append,List.length_cons,List.length_nil];omega)
   have c2:eH (SB ([114,101,102,32]++r.data.toList)) (⟨#[10]⟩:ByteArray)=some (SB ([114,101,102,32]++r.data.toList++[10])):=iP _ [10] (by simp only [List.length_append,List.length_cons,List.length_nil];omega)
   have c3:=vC out ([114,101,102,32]++r.data.toList++[10]) (by simp only [List.length_append,List.length_cons,List.length_nil];omega)
   simp only [c1,c2,c3,ob_]
  simp only [forR,hs,ob_]
  rw [JK l (k+1) _ (λa ha=>h a (List.mem_cons_of_mem _ ha)) (by simp only [List.length_append,List.length_cons,List.length_nil];omega)]
  simp [qy]
theorem H7 (r:Rect) : [97,114,101,97]++kZ (numR r)++[10]=[97,114,101,97,32]++Go.Lib.join ((numR r).map Go.Lib.itoa) [32]++[10]:=by
 unfold numR
 rw [tZ];simp
theorem Fq:∀(l:List Rect) (k:Nat) (out:List UInt8),(∀r∈l,Fine r)->out.length+l.length*2000<=1000000->forR (λk x s=>jQ k x s) l k (nums out)=some (.go (nums (out++mW l)))
 | [],k,out,_,_=>by simp [forR,mW]
 | r::l,k,out,h,hl=>by
  have hm:=medR (h r (by simp))
  have hr:=qX (numR r) hm
  have hn:(numR r).length=4:=rfl
  simp only [List.length_cons,Nat.add_mul]at hl
  have hw:=CP [97,114,101,97] (numR r) hm (by simp) (by omega)
  rw [H7]at hw
  have hs:jQ k r (nums out)=some (.go (nums (out++([97,114,101,97,32]++Go.Lib.join ((numR r).map Go.Lib.itoa) [32]++[10])))):=by
   unfold jQ
   have c3:=vC out ([97,114,101,97,32]++Go.Lib.join ((numR r).map Go.Lib.itoa) [32]++[10]) (by simp only [List.length_append,List.length_cons,List.length_nil];omega)
   have hw':kr (⟨#[97,114,101,97]⟩:ByteArray) [r.X,r.Y,r.W,r.H]=some (SB ([97,114,101,97,32]++Go.Lib.join ((numR r).map Go.Lib.itoa) [32]++[10])):=hw
   rw [hw',ob_,c3];rfl
  simp only [forR,hs,ob_]
  rw [Fq l (k+1) _ (λa ha=>h a (List.mem_cons_of_mem _ ha)) (by simp only [List.length_append,List.length_cons,List.length_nil];omega)]
  simp [mW]
theorem Ke {x:Alert} (hg:FitB x) (k:Nat) (out:List UInt8) (ho:out.length<=900000):jO k x (nums out)=some (.go (nums (out++qL x))):=by
 have f3:=hg.areas
 have l1:=xE hg.id
 have l2:=xE hg.sender
 have l3:=hg.tlen
 have hk:x.Kind=1\/x.Kind=2\/x.Kind=3:=by have:=hg.kind;omega
 have hm:=hg.nums
 have hnl:=qX [x.At,x.Until,x.Weight] hm
 simp only [List.length_cons,List.length_nil]at hnl
 have hw:idx ([(⟨#[]⟩:ByteArray),(⟨#[110,101,119]⟩:ByteArray),(⟨#[117,112,100,97,116,101]⟩:ByteArray),(⟨#[99,97,110,99,101,108]⟩:ByteArray)]:List ByteArray) x.Kind=some (SB (vQ x.Kind)):=by
  rcases hk with e|e|e <;> rw [e] <;> rfl
 have hwl:(vQ x.Kind).length<=6:=by
  rcases hk with e|e|e <;> rw [e] <;> decide
 have hR:=uZ x.Refs hg.refs
 have hA:=rW x.Areas f3
 have b1:=hg.rlen
 have b2:=hg.alen
 have c1:eH (⟨#[97,108,101,114,116,32]⟩:ByteArray) x.Id=some (SB ([97,108,101,114,116,32]++x.Id.data.toList)):=iP [97,108,101,114,116,32] x.Id.data.toList (by simp only [List.length_cons,List.length_nil];omega)
 have c2:∀l:List UInt8,l.length<=100000->eH (SB l) (⟨#[32]⟩:ByteArray)=some (SB (l++[32])):=λl hl=>iP l [32] (by simp only [List.length_cons,List.length_nil];omega)
 have c3:∀l:List UInt8,l.length<=100000->eH (SB l) x.Sender=some (SB (l++x.Sender.data.toList)):=λl hl=>iP l x.Sender.data.toList (by omega)
 have c4:∀l:List UInt8,l.length<=100000->eH (SB l) (⟨#[10]⟩:ByteArray)=some (SB (l++[10])):=λl hl=>iP l [10] (by simp only [List.length_cons,List.length_nil];omega)
 have c5:∀l m:List UInt8,l.length<=100000->m.length<=100000->eH (SB l) (SB m)=some (SB (l++m)):=λl m hl hm=>iP l m (by omega)
 have hh:(lC x).length<=3000:=by unfold lC;simp only [List.length_append,List.length_cons,List.length_nil];omega
 have c6:Ec (nums out) (SB (lC x))=some (nums (out++lC x)):=vC out (lC x) (by omega)
 have hws:=CP ([97,108,101,114,116,32]++x.Id.data.toList++[32]++x.Sender.data.toList++[32]++vQ x.Kind) [x.At,x.Until,x.Weight] hm (by simp only [List.length_append,List.length_cons,List.length_nil];omega) (by simp)
 have hfold : [97,108,101,114,116,32]++x.Id.data.toList++[32]++x.Sender.data.toList++[32]++vQ x.Kind++kZ [x.At,x.Until,x.Weight]++[10]=lC x:=by
  rw [tZ];unfold lC;simp
 rw [hfold]at hws
 unfold jO gQ
 rw [c1,ob_,c2 _ (by simp only [List.length_append,List.length_cons,List.length_nil];omega),ob_,c3 _ (by simp only [List.length_append,List.length_cons,List.length_nil];omega),ob_,c2 _ (by simp only [List.length_append,List.length_cons,List.length_nil];omega),ob_,ob_,hw,ob_,
  c5 _ _ (by simp only [List.length_append,List.length_cons,List.length_nil];omega) (by omega),ob_,hws,ob_,c6,ob_]
 rw [fQ (by omega),JK x.Refs 0 (out++lC x) hg.refs (by simp only [List.length_append];omega),ob_,pq,fQ (by omega),Fq x.Areas 0 _ f3 (by simp only [List.length_append];omega),ob_,pq]
 unfold qL CQ
 by_cases ht:x.Text=⟨#[]⟩
 ·have e:sNe x.Text (⟨#[]⟩:ByteArray)=false:=by rw [vw];simp [ht]
  rw [e,cond_false,if_pos ht,List.append_nil,List.append_assoc,List.append_assoc,<- List.append_assoc (lC x)];rfl
 ·have e:sNe x.Text (⟨#[]⟩:ByteArray)=true:=by rw [vw];simp [ht]
  have lt':x.Text.data.toList.length<=500:=by rw [<- Go.Lib.size_eq];exact l3
  have d1:eH (⟨#[116,101,120,116,32]⟩:ByteArray) x.Text=some (SB ([116,101,120,116,32]++x.Text.data.toList)):=iP [116,101,120,116,32] x.Text.data.toList (by simp only [List.length_cons,List.length_nil];omega)
  rw [e,cond_true,if_neg ht,d1,ob_,c4 _ (by simp only [List.length_append,List.length_cons,List.length_nil];omega),ob_,vC _ _ (by simp only [List.length_append,List.length_cons,List.length_nil];omega),ob_]
  simp only [ob_,List.append_assoc]
theorem GY:∀(l:List Alert) (k:Nat) (out:List UInt8),(∀x∈l,FitB x)->out.length+l.length*30000<=900000->forR (λk x s=>jO k x s) l k (nums out)=some (.go (nums (out++kX l)))
 | [],k,out,_,_=>by simp [forR,kX]
 | x::l,k,out,h,hl=>by
  have hx:=h x (by simp)
  have:=yl hx
  simp only [List.length_cons,Nat.add_mul]at hl
  rw [forR,Ke hx k out (by omega),ob_]
  simp only []
  rw [GY l (k+1) (out++qL x) (λy hy=>h y (by simp [hy])) (by simp only [List.length_append];omega)]
  simp [kX]
theorem yJ:∀(l:List Alert),(∀x∈l,FitB x)->(kX l).length<=l.length*30000
 | [],_=>by simp [kX]
 | x::l,h=>by
  have:=yl (h x (by simp))
  have:=yJ l (λy hy=>h y (by simp [hy]))
  have e:kX (x::l)=qL x++kX l:=by simp [kX]
  rw [e,List.length_append,List.length_cons,Nat.add_mul];omega
theorem LZ {l:List Alert} (h:∀x∈l,FitB x) (hl:l.length<=6) (hc:bS l=some 0):lI l=some (SB (kX l),0):=by
 unfold lI
 have hlen:=yJ l h
 have hr:=GY l 0 [] h (by simp only [List.length_nil];omega)
 rw [hc,ob_,fQ (by omega),show ([]:List Int)=nums [] from rfl,hr]
 have hnl:(nums ([]++kX l)).length=(kX l).length:=by simp [nums]
 simp only [bne_self_eq_false,cond_false,ob_,thenC]
 rw [hnl,decide_eq_false (by omega),cond_false,List.nil_append,GI _ (by omega)];rfl
def Asc (l:List UInt8):Prop:=∀b∈l,b.toNat<128
theorem dZ {l m:List UInt8} (h:Asc l) (k:Asc m):Asc (l++m):=λb hb=>by
 rcases List.mem_append.1 hb with hb|hb
 ·exact h b hb
 ·exact k b hb
theorem gG {l:List UInt8} (h:l.all (λb=>decide (b.toNat<128))=true):Asc l:=λb hb=>of_decide_eq_true (List.all_eq_true.1 h b hb)
theorem JB {l:List UInt8} (h:l.all Mt=true):Asc l:=λb hb=>by
 have:=List.all_eq_true.1 h b hb
 unfold Mt at this
 simp only [Bool.and_eq_true,decide_eq_true_eq]at this
 omega
theorem Gi (n:Int):Asc (Go.Lib.itoa n):=by
 by_cases h:n<0
 ·rw [itoa_neg h]
  exact dZ (l:=[45]) (gG rfl) (JB (Gv _))
 ·rw [itoaN (by omega)];exact JB (Gv _)
theorem BQ:∀l:List Int,Asc (Go.Lib.join (l.map Go.Lib.itoa) [32])
 | []=>λb hb=>by simp [Go.Lib.join]at hb
 | [n]=>by rw [List.map_cons,List.map_nil,Go.Lib.join_one];exact Gi n
 | n::m::r=>by
  rw [joinI']
  exact dZ (Gi n) (dZ (l:=[32]) (gG rfl) (BQ (m::r)))
theorem id_asc:∀k∈idL,Asc k.data.toList:=by
 intro k hk
 simp only [idL,List.mem_cons,List.not_mem_nil,or_false]at hk
 rcases hk with rfl|rfl|rfl|rfl|rfl|rfl <;> exact gG rfl
theorem ref_asc:∀k∈refL,Asc k.data.toList:=by
 intro k hk
 simp only [refL,List.mem_cons,List.not_mem_nil,or_false]at hk
 rcases hk with rfl|rfl|rfl|rfl|rfl <;> exact gG rfl
theorem JX {x:Alert} (h:RightA x):FitB x:=by
 have h1:=h.at_
 have h2:=h.until_
 have h3:=h.weight
 have h4:=h.alen
 refine⟨jX (Jl _ h.id).2,?_,h.kind,λr hr => ?_,?_,λr hr=>(h.areas r hr).1,by omega,λn hn => ?_,?_⟩
 ·rcases h.sender with e|e <;> rw [e] <;> exact jX rfl
 ·rcases h.refs with hs|hs
  ·exact jX (Gr r (hs.subset hr)).2
  ·rw [hs]at hr;rw [List.mem_singleton.1 hr];exact jX rfl
 ·rcases h.refs with hs|hs
  ·have:=hs.length_le
   have e:refL.length=5:=rfl
   omega
  ·rw [hs];decide
 ·simp only [List.mem_cons,List.not_mem_nil,or_false]at hn
  unfold Med
  rcases hn with rfl|rfl|rfl <;> omega
 ·rcases h.text with e|e|⟨_,e|e⟩ <;> rw [e] <;> decide
theorem CY:∀l:List ByteArray,(∀r∈l,Asc r.data.toList)->Asc (qy l)
 | [],_=>λb hb=>by cases hb
 | r::l,h=>by
  unfold qy
  exact dZ (dZ (dZ (gG rfl) (h r (by simp))) (gG rfl)) (CY l (λa ha=>h a (by simp [ha])))
theorem Bj:∀l:List Rect,Asc (mW l)
 | []=>λb hb=>by cases hb
 | r::l=>by
  unfold mW
  exact dZ (dZ (dZ (gG rfl) (BQ _)) (gG rfl)) (Bj l)
theorem JW {x:Alert} (h:RightA x):Asc (qL x):=by
 have hk:x.Kind=1\/x.Kind=2\/x.Kind=3:=by have:=h.kind;omega
 have a1:=id_asc _ h.id
 have a2:Asc x.Sender.data.toList:=by rcases h.sender with e | e <;> rw [e] <;> exact gG rfl
 have a3:Asc (vQ x.Kind):=by rcases hk with e | e | e <;> rw [e] <;> exact gG rfl
 have a4:Asc (qy x.Refs):=CY _ (λr hr=>by
  rcases h.refs with hs|hs
  ·exact ref_asc r (hs.subset hr)
  ·rw [hs]at hr;rw [List.mem_singleton.1 hr];exact gG rfl)
 have a5:Asc (CQ x.Text):=by rcases h.text with e | e | ⟨_,e | e⟩ <;> rw [e] <;> exact gG rfl
 unfold qL lC
 exact dZ (dZ (dZ (dZ (dZ (dZ (dZ (dZ (dZ (dZ (dZ (gG rfl) a1) (gG rfl)) a2) (gG rfl)) a3) (gG rfl)) (BQ _)) (gG rfl)) a4) (Bj _)) a5
theorem CK:∀l:List Alert,(∀x∈l,RightA x)->Asc (kX l)
 | [],_=>λb hb=>by cases hb
 | x::l,h=>by
  have e:kX (x::l)=qL x++kX l:=by simp [kX]
  rw [e];exact dZ (JW (h x (by simp))) (CK l (λy hy=>h y (by simp [hy])))
def En:ByteArray:=⟨#[32,10,48,45,57,97,116,114]⟩
theorem enc_a:∀i:Fin 8,((Utf8.encode (IntKind.i32.wrap ((dP En i.val).toNat:Int))).data.toList.length<=4/\(Utf8.encode (IntKind.i32.wrap ((dP En i.val).toNat:Int))).data.toList.all (λb=>decide (b.toNat<128))=true):=by decide +kernel
theorem KA (s:Stream) (l:List UInt8) {b:Int} (hs:Ok s b) (hb:b<=900000) (hl:l.length<=100000) (ha:Asc l):∃l' s',gD s (SB l) En=some (SB l',s')/\l'.length<=l.length+8/\Asc l'/\Ok s' (b+3):=by
 unfold gD
 have hw:sEq En (⟨#[]⟩:ByteArray)=false:=sS [32,10,48,45,57,97,116,114]
 rw [hw,sS]
 cases h0:l.isEmpty with
 | true=>exact⟨[32,10,48,45,57,97,116,114],s,rfl,by simp,gG rfl,hs.mono (by omega)⟩
 | false =>
 have hpos:0<l.length:=by
  cases l with
  | nil=>cases h0
  | cons _ _=>simp
 simp only [cond_false,ob_,fG]
 obtain ⟨i,s1,a1,a2,a3,a4⟩:=kR s (l.length:Int) hs (by omega) (by omega) (by omega)
 obtain ⟨j,s2,b1,b2,b3,b4⟩:=kR s1 (En.size:Int) a4 (by omega) (by decide) (by decide)
 obtain ⟨q,s3,c1,c2,c3,c4⟩:=kR s2 3 b4 (by omega) (by decide) (by decide)
 obtain ⟨i,rfl⟩:∃n:Nat,i=(n:Int):=⟨i.toNat,by omega⟩
 obtain ⟨j,rfl⟩:∃n:Nat,j=(n:Int):=⟨j.toNat,by omega⟩
 have hj:j<8:=by rw [show En.size=8 from rfl]at b3;omega
 have hx:=qO En j (by rw [show En.size=8 from rfl];exact hj)
 obtain ⟨he,hea⟩:=enc_a ⟨j,hj⟩
 have d1:=sj l 0 i (by omega) (by omega)
 have e1:=sj l (i+1) l.length (by omega) (Nat.le_refl _)
 have f1:=sj l i l.length (by omega) (Nat.le_refl _)
 rw [List.take_length]at e1 f1
 rw [show ((0:Nat):Int)=0 from rfl,List.drop_zero]at d1
 have hwi:w64 ((i:Int)+1)=((i+1:Nat):Int):=by rw [eT (by omega)];rfl
 simp only [a1,b1,hx,c1,d1,ob_,hwi,e1,f1]
 generalize hz:Utf8.encode (IntKind.i32.wrap ((dP En j).toNat:Int))=z at he hea
 have hze:z=SB z.data.toList:=rfl
 rw [hze]
 generalize z.data.toList=zl at he hea
 have k1:Asc (l.take i):=λb hb=>ha b (List.mem_of_mem_take hb)
 have k2:Asc (l.drop (i+1)):=λb hb=>ha b (List.mem_of_mem_drop hb)
 have k3:Asc (l.drop i):=λb hb=>ha b (List.mem_of_mem_drop hb)
 have k4:Asc zl:=gG hea
 have n1:(l.take i).length<=l.length:=by simp;omega
 have n2:(l.drop (i+1)).length<=l.length:=by simp
 have n3:(l.drop i).length<=l.length:=by simp
 have g1:eH (SB (l.take i)) (SB zl)=some (SB (l.take i++zl)):=iP _ _ (by omega)
 have g2:eH (SB (l.take i++zl)) (SB (l.drop (i+1)))=some (SB (l.take i++zl++l.drop (i+1))):=iP _ _ (by simp only [List.length_append];omega)
 have g3:eH (SB (l.take i++zl)) (SB (l.drop i))=some (SB (l.take i++zl++l.drop i)):=iP _ _ (by simp only [List.length_append];omega)
 have g4:eH (SB (l.take i)) (SB (l.drop (i+1)))=some (SB (l.take i++l.drop (i+1))):=iP _ _ (by omega)
 have hok:Ok s3 (b+3):=c4.mono (by omega)
 cases hq0:q==0 with
 | true =>
  simp only [cond_true,g1,g2,ob_]
  exact⟨_,_,rfl,by simp only [List.length_append,List.length_take,List.length_drop];omega,dZ (dZ k1 k4) k2,hok⟩
 | false =>
  simp only [cond_false]
  cases hq1:q==1 with
  | true =>
   simp only [cond_true,g1,g3,ob_]
   exact⟨_,_,rfl,by simp only [List.length_append,List.length_take,List.length_drop];omega,dZ (dZ k1 k4) k3,hok⟩
  | false =>
   simp only [cond_false,g4,ob_]
   exact⟨_,_,rfl,by simp only [List.length_append,List.length_take,List.length_drop];omega,dZ k1 k2,hok⟩
theorem ER (s:Stream) {b:Int} (hs:Ok s b) (hb:b<=500000):∃l s',gZ s=some (SB l,s')/\l.length<=100000/\Asc l:=by
 obtain ⟨al,s1,a1,a2,a3⟩:=zh 3 (by decide) s hs (by omega)
 have hfit:∀x∈al,FitB x:=λx hx=>JX (a2.right x hx)
 have hal:al.length<=3:=a2.len
 have hl:=yJ al hfit
 have hln:=yI hfit (by omega)
 obtain ⟨n,s2,c1,c2,c3⟩:=qh s1 [0,0,1,2] a3 (by omega) (by decide) (by decide)
 have hn:0<=n/\n<=2:=by
  simp only [List.mem_cons,List.not_mem_nil,or_false]at c2
  rcases c2 with h|h|h|h <;> omega
 obtain ⟨u,d1,d2,l,d4,d3,d5⟩:=Bz (body:=λk x s=>fw k x s) (λk (s:ByteArray×List Int×Int)=>Ok ⟨s.2.1,s.2.2⟩ (b+301+3*k)/\∃l,s.1=SB l/\l.length<=90000+8*k/\Asc l) (xs:=List.range n.toNat) (s:=(SB (kX al),s2.L,s2.f_at)) (by rw [List.length_range];omega) (λk x t _ hk ⟨i1,l,i0,i2,i3⟩=>by
  have hk2:k<2:=by rw [List.length_range]at hk;omega
  obtain ⟨l',s',e1,e2,e4,e3⟩:=KA ⟨t.2.1,t.2.2⟩ l i1 (by omega) (by omega) i3
  unfold fw
  have e1':gD ⟨t.2.1,t.2.2⟩ t.1 (⟨#[32,10,48,45,57,97,116,114]⟩:ByteArray)=some (SB l',s'):=by rw [i0];exact e1
  rw [e1',ob_]
  refine⟨_,rfl,?_,l',rfl,by omega,e4⟩
  show Ok ⟨s'.L,s'.f_at⟩ _
  exact e3.mono (by omega)) ⟨c3.mono (by simp;omega),kX al,rfl,by omega,CK al a2.right⟩
 rw [List.length_range]at d2 d3
 obtain ⟨f,s3,f1,f2⟩:=sZ ⟨u.2.1,u.2.2⟩ 12 d2 (by omega) (by decide) (by decide)
 unfold gZ
 simp only [a1,hln,c1,ob_]
 rw [d1,ob_,pq]
 simp only [f1,ob_]
 cases f with
 | false=>exact⟨l,⟨s3.L,s3.f_at⟩,by simp only [cond_false,ob_,d4],by omega,d5⟩
 | true =>
  obtain ⟨o,s4,g1,g2,g3⟩:=sW s3 [(⟨#[116,101,120,116,32,120,10]⟩:ByteArray),(⟨#[114,101,102,32,122,122,10]⟩:ByteArray),(⟨#[97,114,101,97,32,48,32,48,32,49,32,49,10]⟩:ByteArray),(⟨#[116,101,120,116,32,10]⟩:ByteArray),(⟨#[116,101,120,116,32,32,120,10]⟩:ByteArray)] f2 (by omega) (by simp) (by simp)
  obtain ⟨z,hz,hz1,hz2⟩:∃z:List UInt8,o=SB z/\z.length<=13/\Asc z:=by
   refine⟨o.data.toList,rfl,?_⟩
   simp only [List.mem_cons,List.not_mem_nil,or_false]at g2
   rcases g2 with rfl|rfl|rfl|rfl|rfl <;> exact⟨by decide,gG rfl⟩
  have hc:eH u.1 o=some (SB (l++z)):=by rw [d4,hz];exact iP l z (by omega)
  simp only [cond_true,g1,hc,ob_]
  exact⟨l++z,_,rfl,by simp only [List.length_append];omega,dZ d5 hz2⟩
theorem Ez (most:Int) (hm:0<=most/\most<=6) (s:Stream) {b:Int} (hs:Ok s b) (hb:b<=100000):∃l s',jf s most=some (l,s')/\GAs l/\Ok s' (b+400):=by
 obtain ⟨l,s1,a1,a2,a3⟩:=zh most hm s hs (by omega)
 have hl:l.length<=6:=Nat.le_trans a2.len (by omega)
 have hg:∀x∈l,GA x:=λx hx=>(a2.right x hx).ga
 unfold jf
 rw [a1,ob_]
 simp only []
 by_cases h0:(l.length:Int)>0
 ·obtain ⟨f,s2,b1,b2⟩:=sZ s1 10 a3 (by omega) (by decide) (by decide)
  rw [decide_eq_true h0,cond_true,b1,ob_,ob_]
  simp only []
  cases f with
  | false=>exact⟨l,s2,rfl,⟨hg,hl⟩,b2.mono (by omega)⟩
  | true =>
   rw [cond_true]
   obtain ⟨i,s3,c1,c2,c3,c4⟩:=kR s2 (l.length:Int) b2 (by omega) (by omega) (by omega)
   have e0:(⟨s2.L,s2.f_at⟩:Stream)=s2:=rfl
   rw [e0,c1,ob_]
   simp only []
   rw [inR_ok (by omega) (by omega),ob_]
   obtain ⟨k,s4,d1,d2,d3,d4⟩:=kR s3 6 c4 (by omega) (by decide) (by decide)
   rw [d1,ob_]
   simp only []
   have hi:0+i.toNat<l.length:=by omega
   have hx:l[0+i.toNat]? = some l[0+i.toNat]:=List.getElem?_eq_getElem hi
   have hgx:=hg _ (List.getElem_mem hi)
   generalize l[0+i.toNat]=x at hx hgx
   have two:∀(y z:Alert) (s:Stream) {c:Int},GA z->Ok s c->c<=b+400->∃l' s',some ((l.set (0+i.toNat) y).set (0+i.toNat) z,(⟨s.L,s.f_at⟩:Stream))=some (l',s')/\GAs l'/\Ok s' (b+400):=λy z s c hz hs hc=>by
    refine⟨_,_,rfl,?_,hs.mono hc⟩
    rw [List.set_set]
    exact⟨Jr hg hz,by rw [List.length_set];exact hl⟩
   have one:∀(z:Alert) (s:Stream) {c:Int},GA z->Ok s c->c<=b+400->∃l' s',some (l.set (0+i.toNat) z,(⟨s.L,s.f_at⟩:Stream))=some (l',s')/\GAs l'/\Ok s' (b+400):=λz s c hz hs hc =>
    ⟨_,_,rfl,⟨Jr hg hz,by rw [List.length_set];exact hl⟩,hs.mono hc⟩
   cases k0:k==0 with
   | true =>
    rw [cond_true,hx,ob_]
    obtain ⟨u,s5,e1,e2,e3⟩:=sW s4 [x.Id,(⟨#[]⟩:ByteArray),(⟨#[97,97]⟩:ByteArray)] d4 (by omega) (by simp) (by simp)
    obtain ⟨v,s6,f1,f2,f3⟩:=sW s5 [(⟨#[119,120]⟩:ByteArray),(⟨#[65]⟩:ByteArray)] e3 (by omega) (by simp) (by simp)
    rw [e1,ob_]
    simp only []
    rw [f1]
    simp only [ob_]
    rw [mH hi]
    simp only [ob_]
    refine two _ _ s6 ⟨?_,?_,hgx.refs,hgx.rlen,hgx.alen,hgx.at_,hgx.until_,hgx.text⟩ f3 (by omega)
    ·simp only [List.mem_cons,List.not_mem_nil,or_false]at e2
     rcases e2 with rfl|rfl|rfl
     ·exact hgx.id
     ·exact jX rfl
     ·exact jX rfl
    ·simp only [List.mem_cons,List.not_mem_nil,or_false]at f2
     rcases f2 with rfl|rfl <;> exact jX rfl
   | false =>
   rw [cond_false]
   cases k1:k==1 with
   | true =>
    obtain ⟨u,s5,e1,e2,e3⟩:=Es s4 1 3 d4 (by omega) (by decide) (by decide) (by decide)
    rw [cond_true,e1,hx]
    simp only [ob_]
    exact one _ s5 ⟨hgx.id,hgx.sender,hgx.refs,hgx.rlen,hgx.alen,hgx.at_,hgx.until_,hgx.text⟩ e3 (by omega)
   | false =>
   rw [cond_false]
   cases k2:k==2 with
   | true =>
    rw [cond_true,hx,ob_]
    obtain ⟨u,s5,e1,e2,e3,e4⟩:=kR s4 5 d4 (by omega) (by decide) (by decide)
    rw [e1,ob_]
    simp only []
    obtain ⟨y,y1,y2⟩:=EB (l:=([([]:List ByteArray),([(⟨#[97,98]⟩:ByteArray),(⟨#[97,97]⟩:ByteArray)]:List ByteArray),([x.Id]:List ByteArray),([(⟨#[65]⟩:ByteArray)]:List ByteArray),([(⟨#[97,97]⟩:ByteArray),(⟨#[122,122]⟩:ByteArray)]:List ByteArray)]:List (List ByteArray))) (r:=u) e2 (by simp;omega)
    rw [y1]
    simp only [ob_]
    have hy:(∀r∈y,ShA r)/\y.length<=5:=by
     simp only [List.mem_cons,List.not_mem_nil,or_false]at y2
     rcases y2 with rfl|rfl|rfl|rfl|rfl
     ·exact⟨λr hr=>(by cases hr),by simp⟩
     ·refine⟨λr hr => ?_,by simp⟩
      simp only [List.mem_cons,List.not_mem_nil,or_false]at hr
      rcases hr with rfl|rfl <;> exact jX rfl
     ·refine⟨λr hr => ?_,by simp⟩
      rw [List.mem_singleton.1 hr];exact hgx.id
     ·refine⟨λr hr => ?_,by simp⟩
      rw [List.mem_singleton.1 hr];exact jX rfl
     ·refine⟨λr hr => ?_,by simp⟩
      simp only [List.mem_cons,List.not_mem_nil,or_false]at hr
      rcases hr with rfl|rfl <;> exact jX rfl
    exact one _ s5 ⟨hgx.id,hgx.sender,hy.1,hy.2,hgx.alen,hgx.at_,hgx.until_,hgx.text⟩ e4 (by omega)
   | false =>
   rw [cond_false]
   cases k3:k==3 with
   | true =>
    obtain ⟨u,s5,e1,e2,e3⟩:=Es s4 0 30 d4 (by omega) (by decide) (by decide) (by decide)
    obtain ⟨v,s6,f1,f2,f3⟩:=Es s5 0 60 e3 (by omega) (by decide) (by decide) (by decide)
    rw [cond_true,e1,ob_]
    simp only []
    rw [f1,hx]
    simp only [ob_]
    rw [mH hi]
    simp only [ob_]
    exact two _ _ s6 ⟨hgx.id,hgx.sender,hgx.refs,hgx.rlen,hgx.alen,e2,f2,hgx.text⟩ f3 (by omega)
   | false =>
   rw [cond_false]
   cases k4:k==4 with
   | true =>
    obtain ⟨u,s5,e1,e2,e3⟩:=Ka s4 d4 (by omega)
    obtain ⟨v,s6,f1,f2,f3⟩:=Es s5 1 9 e3 (by omega) (by decide) (by decide) (by decide)
    rw [cond_true,e1,ob_]
    simp only []
    rw [f1,hx]
    simp only [ob_]
    rw [mH hi]
    simp only [ob_]
    exact two _ _ s6 ⟨hgx.id,hgx.sender,hgx.refs,hgx.rlen,e2,hgx.at_,hgx.until_,hgx.text⟩ f3 (by omega)
   | false =>
    obtain ⟨u,s5,e1,e2,e3⟩:=sW s4 [(⟨#[]⟩:ByteArray),(⟨#[32,120]⟩:ByteArray),(⟨#[97,32,32,98]⟩:ByteArray),(⟨#[10]⟩:ByteArray),(⟨#[255]⟩:ByteArray)] d4 (by omega) (by simp) (by simp)
    rw [cond_false,e1,hx]
    simp only [ob_]
    refine one _ s5 ⟨hgx.id,hgx.sender,hgx.refs,hgx.rlen,hgx.alen,hgx.at_,hgx.until_,?_⟩ e3 (by omega)
    simp only [List.mem_cons,List.not_mem_nil,or_false]at e2
    unfold txtL
    rcases e2 with rfl|rfl|rfl|rfl|rfl <;> simp
 ·rw [decide_eq_false h0,cond_false,ob_]
  exact⟨l,s1,rfl,⟨hg,hl⟩,a3.mono (by omega)⟩
theorem M9:uN=some true:=by kernel_rfl
theorem Kh:ny=some true:=Cj _ M9
theorem Kv (l:List Alert) (h:∀e∈l,iy e e=some true) (hl:l.length<=1000):aU l l=some true:=by
 unfold aU
 have key:∀(xs:List Alert) (k:Nat),(∀i x,xs[i]? = some x->l[k+i]? = some x)->(∀e∈xs,iy e e=some true)->forR (λk x s=>aL l k x s) xs k ()=some (.go ()):=by
  intro xs
  induction xs with
  | nil=>exact λk _ _=>rfl
  | cons x xs ih =>
   intro k h hs
   have hk:=h 0 x rfl
   rw [Nat.add_zero]at hk
   have hstep:aL l k x ()=some (.go ()):=by
    unfold aL
    rw [Et,hk,ob_,hs x (by simp)];rfl
   rw [forR,hstep,ob_]
   exact ih (k+1) (λi y hy=>by have:=h (i+1) y hy;rw [show k+1+i=k+(i+1) by omega];exact this) (λe he=>hs e (List.mem_cons_of_mem _ he))
 rw [bne_self_eq_false,cond_false,fQ (by omega),key l 0 (λi x hx=>by rw [Nat.zero_add];exact hx) h,ob_];rfl
theorem vG_0 {l:List Alert} (h:vG l=0):l.length<=300/\∀x∈l,alG x=0:=by
 unfold vG at h
 cases e1:decide ((l.length:Int)>300)with
 | true=>rw [e1]at h;cases h
 | false =>
 rw [e1,cond_false]at h
 simp only [decide_eq_false_iff_not]at e1
 cases e2:chA xn none l==0 with
 | false=>rw [e2,cond_false]at h;rw [h]at e2;cases e2
 | true =>
 refine⟨by omega,λx hx => ?_⟩
 obtain ⟨i,hi,rfl⟩:=List.getElem_of_mem hx
 obtain ⟨q,q1,_⟩:=JJ (eq_of_beq e2) i _ (List.getElem?_eq_getElem hi)
 unfold xn at q1
 cases e3:alG l[i]==0 with
 | true=>exact eq_of_beq e3
 | false=>rw [e3,cond_false]at q1;rw [q1]at e3;cases e3
theorem II (l:List UInt8) (hl:l.length<=100000) (ha:Asc l):∃r:List Alert×Int×Int,kv (SB l)=some r/\gy (SB l)=some r/\(∀x∈r.1,iy x x=some true)/\r.1.length<=300:=by
 rcases H6 l hl ha with⟨i,h1,h2⟩|⟨o,hg,h1,h2⟩
 ·exact⟨_,h1,h2,(λx hx=>by cases hx),Nat.zero_le _⟩
 ·have hb:GBs o:=⟨λx hx=>gb_la (hg.2 x hx) hl (by omega),by have:=hg.1;omega⟩
  rw [vG_K hb,ob_]at h1
  rw [vG_R hb,ob_]at h2
  cases hv:(vG o != 0)with
  | true =>
   rw [hv]at h1 h2
   exact⟨_,h1,h2,(λx hx=>by cases hx),Nat.zero_le _⟩
  | false =>
   rw [hv]at h1 h2
   obtain ⟨k1,k2⟩:=vG_0 (l:=o) (by simpa [bne]using hv)
   exact⟨_,h1,h2,λx hx=>MI (JA (k2 x hx)).1,k1⟩
theorem alertTexts (l:List Int):mP l=some true:=by
 have h0:Ok (⟨l,0⟩:Stream) 0:=⟨Int.le_refl _,Int.le_refl _⟩
 obtain ⟨al,s1,a1,a2,a3⟩:=Ez 4 (by decide) ⟨l,0⟩ h0 (by decide)
 obtain ⟨t,s2,b1,b2,b3⟩:=ER s1 a3 (by decide)
 have hb:GBs al:=⟨λx hx=>gb_ga (a2.1 x hx),by have:=a2.2;omega⟩
 have hK:=vG_K hb
 have hR:=vG_R hb
 obtain ⟨r,c1,c2,c3,c4⟩:=II t b2 b3
 have heq:=Kv r.1 c3 (by omega)
 have hsame:∀s:ByteArray,sEq s s=true:=λs=>(ig _ _).2 rfl
 have htext:∃s:ByteArray,lI al=some (s,vG al)/\(bif (vG al==0)then (fF al).bind λr_16=>some r_16 else some (⟨#[]⟩:ByteArray))=some s:=by
  by_cases h:vG al=0
  ·have hf:∀x∈al,FitB x:=λx hx=>(JA ((vG_0 h).2 x hx)).1
   have d1:=LZ hf a2.2 (by rw [hK,h])
   have d2:=yI hf (by have:=a2.2;omega)
   refine⟨SB (kX al),by rw [h];exact d1,?_⟩
   rw [h,beq_self_eq_true,cond_true,d2];rfl
  ·refine⟨⟨#[]⟩,?_,?_⟩
   ·unfold lI
    rw [hK,ob_,show (vG al != 0)=true by simpa using h];rfl
   ·rw [show (vG al==0)=false by simpa using h];rfl
 obtain ⟨s,d1,d2⟩:=htext
 unfold mP
 simp only [a1,b1,d1,hR,ob_,d2,c1,c2,beq_self_eq_true,cond_true,hsame,heq,Kh]
end Go.Proofs.YtljhfffghjclfaaGreatDoor.Law

