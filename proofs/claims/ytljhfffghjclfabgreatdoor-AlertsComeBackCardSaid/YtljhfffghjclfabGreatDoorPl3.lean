/-
  THE PLAIN LAW (part 3).
-/
import Derived.Test.YtljhfffghjclfabGreatDoorPl2
open Go Go.Eng
namespace Go.Proofs.YtljhfffghjclfabGreatDoor.Law
set_option linter.unusedVariables false
set_option linter.unusedSimpArgs false
set_option maxRecDepth 100000
theorem xO {s:ByteArray} (h:ShA s):s.data.toList.length<=1000:=by rw [<- Go.Lib.size_eq];exact h
theorem uU:∀(l:List ByteArray),(∀r∈l,ShA r)->(lu l).length<=l.length*1005
 | [],_=>by simp [lu]
 | r::l,h=>by
  have:=xO (h r (by simp))
  have:=uU l (λa o=>h a (List.mem_cons_of_mem _ o))
  simp only [lu,List.length_append,List.length_cons,List.length_nil,Nat.add_mul]
  omega
theorem Gz:∀(l:List ByteArray) (k:Nat) (o:List UInt8),(∀r∈l,ShA r)->o.length+l.length*2000<=1000000->forR (λk x s=>iC k x s) l k (SB o)=some (.go (SB (o++lu l)))
 | [],k,o,_,_=>by simp [forR,lu]
 | r::l,k,o,h,hl=>by
  have L:=xO (h r (by simp))
  simp only [List.length_cons,Nat.add_mul]at hl
  have J:r=SB r.data.toList:=rfl
  have hs:iC k r (SB o)=some (.go (SB (o++([114,101,102,32]++r.data.toList++[10])))):=by
   unfold iC
   have F:fu (⟨#[114,101,102,32]⟩:ByteArray) r=some (SB ([114,101,102,32]++r.data.toList)):=jq [114,101,102,32] r.data.toList (by simp only [List.length_append,List.length_cons,List.length_nil];omega)
   have I:fu (SB ([114,101,102,32]++r.data.toList)) (⟨#[10]⟩:ByteArray)=some (SB ([114,101,102,32]++r.data.toList++[10])):=jq _ [10] (by simp only [List.length_append,List.length_cons,List.length_nil];omega)
   have A:=jq o ([114,101,102,32]++r.data.toList++[10]) (by simp only [List.length_append,List.length_cons,List.length_nil];omega)
   simp only [F,I,A,ob_]
  simp only [forR,hs,ob_]
  rw [Gz l (k+1) _ (λa B=>h a (List.mem_cons_of_mem _ B)) (by simp only [List.length_append,List.length_cons,List.length_nil];omega)]
  simp [lu]
theorem medR {r:Rect} (h:Fine r):∀n∈numR r,Med n:=λn o=>by
 obtain ⟨h1,h2,A,F,B⟩:=h
 simp only [numR,List.mem_cons,List.not_mem_nil,or_false]at o
 unfold Med
 rcases o with rfl|rfl|rfl|rfl <;> omega
theorem sI:∀(l:List Rect),(∀r∈l,Fine r)->(iU l).length<=l.length*100
 | [],_=>by simp [iU]
 | r::l,h=>by
  have:=rJ (numR r) (medR (h r (by simp)))
  have A:(numR r).length=4:=rfl
  have:=sI l (λa o=>h a (List.mem_cons_of_mem _ o))
  simp only [iU,List.length_append,List.length_cons,List.length_nil,Nat.add_mul]
  omega
theorem FT:∀(l:List Rect) (k:Nat) (o:List UInt8),(∀r∈l,Fine r)->o.length+l.length*2000<=1000000->forR (λk x s=>iB k x s) l k (SB o)=some (.go (SB (o++iU l)))
 | [],k,o,_,_=>by simp [forR,iU]
 | r::l,k,o,h,hl=>by
  have hm:=medR (h r (by simp))
  have M:=rJ (numR r) hm
  have L:(numR r).length=4:=rfl
  simp only [List.length_cons,Nat.add_mul]at hl
  have A:lH [r.X,r.Y,r.W,r.H]=some (SB (Go.Lib.join ((numR r).map Go.Lib.itoa) [32])):=E9 (numR r) hm (by omega)
  have hs:iB k r (SB o)=some (.go (SB (o++([97,114,101,97,32]++Go.Lib.join ((numR r).map Go.Lib.itoa) [32]++[10])))):=by
   unfold iB
   have I:fu (⟨#[97,114,101,97,32]⟩:ByteArray) (SB (Go.Lib.join ((numR r).map Go.Lib.itoa) [32]))=some (SB ([97,114,101,97,32]++Go.Lib.join ((numR r).map Go.Lib.itoa) [32])):=jq [97,114,101,97,32] _ (by simp only [List.length_cons,List.length_nil];omega)
   have J:fu (SB ([97,114,101,97,32]++Go.Lib.join ((numR r).map Go.Lib.itoa) [32])) (⟨#[10]⟩:ByteArray)=some (SB ([97,114,101,97,32]++Go.Lib.join ((numR r).map Go.Lib.itoa) [32]++[10])):=jq _ [10] (by simp only [List.length_append,List.length_cons,List.length_nil];omega)
   have B:=jq o ([97,114,101,97,32]++Go.Lib.join ((numR r).map Go.Lib.itoa) [32]++[10]) (by simp only [List.length_append,List.length_cons,List.length_nil];omega)
   simp only [A,I,J,B,ob_]
  simp only [forR,hs,ob_]
  rw [FT l (k+1) _ (λa F=>h a (List.mem_cons_of_mem _ F)) (by simp only [List.length_append,List.length_cons,List.length_nil];omega)]
  simp [iU]
structure FitB (x:Alert):Prop where
 id:ShA x.Id
 sender:ShA x.Sender
 kind:1<=x.Kind/\x.Kind<=3
 refs:∀r∈x.Refs,ShA r
 rlen:x.Refs.length<=20
 areas:∀r∈x.Areas,Fine r
 alen:x.Areas.length<=20
 nums:∀n∈([x.At,x.Until,x.Weight]:List Int),Med n
 tlen:x.Text.size<=500
theorem D7 {s:ByteArray} (h:keyB s=true):s.size<=40:=by
 unfold keyB at h
 simp only [Bool.and_eq_true,decide_eq_true_eq]at h
 omega
theorem fitB_of {x:Alert} (o:alG x=0):FitB x/\plG x.Text=true/\RF x/\(∀r∈x.Areas,EO r=false):=by
 unfold alG at o
 cases e1:(!keyB x.Id || !keyB x.Sender)with
 | true=>rw [e1]at o;cases o
 | false =>
 rw [e1,cond_false]at o
 cases e2:pJ x.Kind 1 3 with
 | true=>rw [e2]at o;cases o
 | false =>
 rw [e2,cond_false]at o
 cases e3:rfG x==0 with
 | false=>rw [e3,cond_false]at o;rw [o]at e3;exact absurd e3 (by decide)
 | true =>
 rw [e3,cond_true]at o
 cases e5:agV x with
 | true=>rw [e5]at o;cases o
 | false =>
 rw [e5,cond_false]at o
 cases e6:decide ((x.Areas.length:Int)>20)with
 | true=>rw [e6]at o;cases o
 | false =>
 rw [e6,cond_false]at o
 cases e7:arV x==0 with
 | false=>rw [e7,cond_false]at o;rw [o]at e7;exact absurd e7 (by decide)
 | true =>
 rw [e7,cond_true]at o
 cases e8:cnV x with
 | true=>rw [e8]at o;cases o
 | false =>
 rw [e8,cond_false]at o
 cases e9:decide ((x.Text.size:Int)>500)with
 | true=>rw [e9]at o;cases o
 | false =>
 rw [e9,cond_false]at o
 cases e10:txG x with
 | true=>rw [e10]at o;cases o
 | false =>
 unfold rfG at e3
 cases e4:decide ((x.Refs.length:Int)>20)with
 | true=>rw [e4]at e3;cases e3
 | false =>
 rw [e4,cond_false]at e3
 cases e11:rfV x==0 with
 | false=>rw [e11,cond_false]at e3;rw [e3]at e11;cases e11
 | true =>
 simp only [Bool.or_eq_false_iff,Bool.not_eq_false']at e1
 unfold agV at e5
 simp only [Bool.or_eq_false_iff,Bool.not_eq_false']at e5
 unfold txG at e10
 simp only [Bool.or_eq_false_iff,Bool.not_eq_false']at e10
 simp only [decide_eq_false_iff_not]at e4 e6 e9
 have hb:∀{n M hi:Int},pJ n M hi=false->M<=n/\n<=hi:=λh=>by
  simp only [pJ,Bool.or_eq_false_iff,decide_eq_false_iff_not]at h;omega
 have A:=e5.1
 unfold KC at A
 have A:=hb (show pJ x.At 0 345686399999=false by simpa using A)
 have O:=hb e5.2.1
 have L:=hb e5.2.2
 have I:∀r∈x.Refs,keyB r=true:=λr F=>by
  obtain ⟨i,hi,rfl⟩:=List.getElem_of_mem F
  obtain ⟨q,B,_⟩:=NV (eq_of_beq e11) i _ (List.getElem?_eq_getElem hi)
  unfold zW at B
  cases hk:keyB x.Refs[i]with
  | true=>rfl
  | false=>rw [hk]at B;cases B
 have J:∀r∈x.Areas,EO r=false:=λr F=>by
  obtain ⟨i,hi,rfl⟩:=List.getElem_of_mem F
  obtain ⟨q,B,_⟩:=NV (eq_of_beq e7) i _ (List.getElem?_eq_getElem hi)
  unfold wu at B
  cases hk:EO x.Areas[i]with
  | false=>rfl
  | true=>rw [hk]at B;cases B
 refine⟨⟨?_,?_,hb e2,λr F => ?_,by omega,λr F=>OE (J r F),by omega,λn N => ?_,by omega⟩,e10.1,⟨e1.1,e1.2,hb e2,I,L⟩,J⟩
 ·have:=D7 e1.1;unfold ShA;omega
 ·have:=D7 e1.2;unfold ShA;omega
 ·have:=D7 (I r F);unfold ShA;omega
 ·simp only [List.mem_cons,List.not_mem_nil,or_false]at N
  unfold Med
  rcases N with rfl|rfl|rfl <;> omega
theorem HY {x:Alert} (h:FitB x):(jJ x).length<=30000:=by
 have O:=xO h.id
 have L:=xO h.sender
 have o:=rJ [x.At,x.Until,x.Weight] h.nums
 simp only [List.length_cons,List.length_nil]at o
 have F:x.Kind=1\/x.Kind=2\/x.Kind=3:=by have:=h.kind;omega
 have B:(nZ x.Kind).length<=6:=by
  rcases F with e|e|e <;> rw [e] <;> decide
 have J:=uU x.Refs h.refs
 have I:=sI x.Areas h.areas
 have M:=h.rlen
 have N:=h.alen
 have A:x.Text.data.toList.length<=500:=by rw [<- Go.Lib.size_eq];exact h.tlen
 have ht:(qQ x.Text).length<=506:=by
  unfold qQ
  split
  ·simp
  ·simp only [List.length_append,List.length_cons,List.length_nil];omega
 unfold jJ jw
 simp only [List.length_append,List.length_cons,List.length_nil];omega
theorem Oi {x:Alert} (o:FitB x) (k:Nat) (h:List UInt8) (ho:h.length<=900000):iE k x (SB h)=some (.go (SB (h++jJ x))):=by
 have f3:=o.areas
 have l1:=xO o.id
 have l2:=xO o.sender
 have O:=o.tlen
 have N:x.Kind=1\/x.Kind=2\/x.Kind=3:=by have:=o.kind;omega
 have hm:=o.nums
 have F:=E9 [x.At,x.Until,x.Weight] hm (by simp)
 have J:=rJ [x.At,x.Until,x.Weight] hm
 simp only [List.length_cons,List.length_nil]at J
 have Y:idx ([(⟨#[]⟩:ByteArray),(⟨#[110,101,119]⟩:ByteArray),(⟨#[117,112,100,97,116,101]⟩:ByteArray),(⟨#[99,97,110,99,101,108]⟩:ByteArray)]:List ByteArray) x.Kind=some (SB (nZ x.Kind)):=by
  rcases N with e|e|e <;> rw [e] <;> rfl
 have hwl:(nZ x.Kind).length<=6:=by
  rcases N with e|e|e <;> rw [e] <;> decide
 have hR:=uU x.Refs o.refs
 have hA:=sI x.Areas f3
 have b1:=o.rlen
 have b2:=o.alen
 have e1:x.Id=SB x.Id.data.toList:=rfl
 have c1:fu (⟨#[97,108,101,114,116,32]⟩:ByteArray) x.Id=some (SB ([97,108,101,114,116,32]++x.Id.data.toList)):=jq [97,108,101,114,116,32] x.Id.data.toList (by simp only [List.length_cons,List.length_nil];omega)
 have I:∀l:List UInt8,l.length<=100000->fu (SB l) (⟨#[32]⟩:ByteArray)=some (SB (l++[32])):=λl hl=>jq l [32] (by simp only [List.length_cons,List.length_nil];omega)
 have c3:∀l:List UInt8,l.length<=100000->fu (SB l) x.Sender=some (SB (l++x.Sender.data.toList)):=λl hl=>jq l x.Sender.data.toList (by omega)
 have L:∀l:List UInt8,l.length<=100000->fu (SB l) (⟨#[10]⟩:ByteArray)=some (SB (l++[10])):=λl hl=>jq l [10] (by simp only [List.length_cons,List.length_nil];omega)
 have M:∀l m:List UInt8,l.length<=100000->m.length<=100000->fu (SB l) (SB m)=some (SB (l++m)):=λl m hl hm=>jq l m (by omega)
 have hh:(jw x).length<=3000:=by unfold jw;simp only [List.length_append,List.length_cons,List.length_nil];omega
 have R:fu (SB h) (SB (jw x))=some (SB (h++jw x)):=jq h (jw x) (by omega)
 have Z:∀l m:List UInt8,l.length<=1000000->m.length<=100000->fu (SB l) (SB m)=some (SB (l++m)):=λl m hl hm=>jq l m (by omega)
 unfold iE oG
 rw [c1,ob_,I _ (by simp only [List.length_append,List.length_cons,List.length_nil];omega),ob_,c3 _ (by simp only [List.length_append,List.length_cons,List.length_nil];omega),ob_,I _ (by simp only [List.length_append,List.length_cons,List.length_nil];omega),ob_,ob_,Y,ob_,
  M _ _ (by simp only [List.length_append,List.length_cons,List.length_nil];omega) (by omega),ob_,I _ (by simp only [List.length_append,List.length_cons,List.length_nil];omega),ob_,F,ob_,M _ _ (by simp only [List.length_append,List.length_cons,List.length_nil];omega) (by omega),ob_,
  L _ (by simp only [List.length_append,List.length_cons,List.length_nil];omega),ob_]
 have B:=R
 unfold jw at B
 rw [B,ob_]
 have A:([97,108,101,114,116,32]++x.Id.data.toList++[32]++x.Sender.data.toList++[32]++nZ x.Kind++[32]++Go.Lib.join (([x.At,x.Until,x.Weight]:List Int).map Go.Lib.itoa) [32]++[10])=jw x:=rfl
 rw [A,gJ (by omega),Gz x.Refs 0 (h++jw x) o.refs (by simp only [List.length_append];omega),ob_,lX,gJ (by omega),FT x.Areas 0 _ f3 (by simp only [List.length_append];omega),ob_,lX]
 unfold jJ qQ
 by_cases ht:x.Text=⟨#[]⟩
 ·have e:sNe x.Text (⟨#[]⟩:ByteArray)=false:=by rw [yg];simp [ht]
  rw [e,cond_false,if_pos ht,List.append_nil,List.append_assoc,List.append_assoc,<- List.append_assoc (jw x)];rfl
 ·have e:sNe x.Text (⟨#[]⟩:ByteArray)=true:=by rw [yg];simp [ht]
  have X:x.Text.data.toList.length<=500:=by rw [<- Go.Lib.size_eq];exact O
  have W:fu (⟨#[116,101,120,116,32]⟩:ByteArray) x.Text=some (SB ([116,101,120,116,32]++x.Text.data.toList)):=jq [116,101,120,116,32] x.Text.data.toList (by simp only [List.length_cons,List.length_nil];omega)
  rw [e,cond_true,if_neg ht,W,ob_,L _ (by simp only [List.length_append,List.length_cons,List.length_nil];omega),ob_,Z _ _ (by simp only [List.length_append];omega) (by simp only [List.length_append,List.length_cons,List.length_nil];omega),ob_]
  simp only [ob_,List.append_assoc]
def textA (l:List Alert):List UInt8:=l.flatMap jJ
theorem GV:∀(l:List Alert) (k:Nat) (o:List UInt8),(∀x∈l,FitB x)->o.length+l.length*30000<=900000->forR (λk x s=>iE k x s) l k (SB o)=some (.go (SB (o++textA l)))
 | [],k,o,_,_=>by simp [forR,textA]
 | x::l,k,o,h,hl=>by
  have A:=h x (by simp)
  have:=HY A
  simp only [List.length_cons,Nat.add_mul]at hl
  rw [forR,Oi A k o (by omega),ob_]
  simp only []
  rw [GV l (k+1) (o++jJ x) (λy B=>h y (by simp [B])) (by simp only [List.length_append];omega)]
  simp [textA]
theorem G9 {l:List Alert} (h:∀x∈l,FitB x) (hl:l.length<=30):ji l=some (SB (textA l)):=by
 unfold ji
 have:=GV l 0 [] h (by simp only [List.length_nil];omega)
 rw [gJ (by omega),show (⟨#[]⟩:ByteArray)=SB [] from rfl,this]
 rfl
theorem QZ {a:Alert} (h:FitB a):jL a a=some true:=by
 unfold jL
 rw [G9 (l:=[a]) (λx o=>by rw [List.mem_singleton.1 o];exact h) (by simp),ob_,ob_,(gY _ _).2 rfl]
theorem Ky (ws:List (List UInt8)) (h:∀w∈ws,w.length<=100000) (hl:ws.length<=100000):∃ns ok,fP (ws.map SB)=some (ns,ok)/\(ok=true->ns.map Lib.itoa=ws/\∀n∈ns,Med n):=by
 have key:∀(xs:List (List UInt8)) (k:Nat) (o:List Int),(∀w∈xs,w.length<=100000)->o.length+xs.length<=1000000 ->
   (∃ns,forR (λk x s=>di k x s) (xs.map SB) k o=some (.go (o++ns))/\ns.map Lib.itoa=xs/\∀n∈ns,Med n)\/forR (λk x s=>di k x s) (xs.map SB) k o=some (.ret ([],false)):=by
  intro xs
  induction xs with
  | nil=>exact λk o _ _ => .inl ⟨[],by simp [forR],rfl,λn N=>by cases N⟩
  | cons x xs M =>
   intro k o J ho
   simp only [List.length_cons]at ho
   obtain ⟨n,ok,L,a2,a3⟩:=num_kit x (J x (by simp)) 15 (by decide)
   cases ok with
   | false =>
    right
    have A:di k (SB x) o=some (.ret ([],false)):=by unfold di;rw [L];rfl
    rw [List.map_cons,forR,A];rfl
   | true =>
    have A:di k (SB x) o=some (.go (o++[n])):=by
     unfold di
     rw [L,ob_]
     simp only [Bool.not_true,cond_false]
     rw [nD _ _ (by simp only [List.length_cons,List.length_nil];omega)];rfl
    rcases M (k+1) (o++[n]) (λw hm=>J w (by simp [hm])) (by simp only [List.length_append,List.length_cons,List.length_nil];omega)with⟨ns,B,F,I⟩|B
    ·left
     refine⟨n::ns,?_,by rw [List.map_cons,a3 rfl,F],λm hm => ?_⟩
     ·rw [List.map_cons,forR,A,ob_]
      simp only []
      rw [B];simp
     ·rcases List.mem_cons.1 hm with rfl|hm
      ·exact a2
      ·exact I m hm
    ·right
     rw [List.map_cons,forR,A,ob_]
     exact B
 unfold fP
 rw [gJ (by rw [List.length_map];omega)]
 rcases key ws 0 [] h (by simp only [List.length_nil];omega)with⟨ns,B,F,I⟩|B
 ·rw [B]
  exact⟨ns,true,rfl,λ_=>⟨F,I⟩⟩
 ·rw [B]
  exact⟨[],false,rfl,(λh=>by cases h)⟩
theorem Pd (y:List UInt8):∃k:Int,bu [(⟨#[]⟩:ByteArray),⟨#[110,101,119]⟩,⟨#[117,112,100,97,116,101]⟩,⟨#[99,97,110,99,101,108]⟩] (SB y)=some k/\k<=3/\(1<=k->nZ k=y):=by
 have hs:∀w:List UInt8,sEq (SB y) (SB w)=true->w=y:=λw h=>(IB ((gY _ _).1 h)).symm
 unfold bu
 rw [gJ (by decide)]
 simp only [forR,bA]
 cases sEq (SB y) ⟨#[]⟩with
 | true=>exact⟨0,rfl,by decide,λh=>absurd h (by decide)⟩
 | false =>
  cases h1:sEq (SB y) ⟨#[110,101,119]⟩with
  | true=>exact⟨1,rfl,by decide,λ_=>hs [110,101,119] h1⟩
  | false =>
   cases h2:sEq (SB y) ⟨#[117,112,100,97,116,101]⟩with
   | true=>exact⟨2,rfl,by decide,λ_=>hs [117,112,100,97,116,101] h2⟩
   | false =>
    cases h3:sEq (SB y) ⟨#[99,97,110,99,101,108]⟩with
    | true=>exact⟨3,rfl,by decide,λ_=>hs [99,97,110,99,101,108] h3⟩
    | false=>exact⟨-1,rfl,by decide,λh=>absurd h (by decide)⟩
theorem GI:∀l m:List ByteArray,lu (l++m)=lu l++lu m
 | [],m=>rfl
 | r::l,m=>by
  rw [List.cons_append]
  simp only [lu,GI l m,List.append_assoc]
theorem Eh:∀l m:List Rect,iU (l++m)=iU l++iU m
 | [],m=>rfl
 | r::l,m=>by
  rw [List.cons_append]
  simp only [iU,Eh l m,List.append_assoc]
theorem NR (w:List UInt8):(SB w).data.toList=w:=rfl
theorem BD (l m:List Alert):textA (l++m)=textA l++textA m:=by unfold textA;rw [List.flatMap_append]
theorem Bo (a:Alert):textA [a]=jJ a:=by simp [textA]
theorem Bq {l0:List Alert} {a b:Alert} {z:List UInt8} (h:jJ b=jJ a++z):textA (l0++[b])=textA (l0++[a])++z:=by
 rw [BD,BD,Bo,Bo,h,List.append_assoc]
structure One (l:List Alert) (x:List UInt8) (l':List Alert) (ok:Bool):Prop where
 prog:alert_readLine l (SB x)=some (l',ok)
 back:ok=true->textA l'=textA l++(x++[10])
 len:ok=true->l'.length<=l.length+1
 good:ok=true->∀m c:Nat,x.length<=m->(∀b∈x,b.toNat<128)->(∀a∈l,LA m c a)->∀a∈l',LA m (c+1) a
theorem mY {l:List Alert} {x:List UInt8} (h1:alert_readLine l (SB x)=some (l,false)):One l x l false :=
 ⟨h1,(λh=>by cases h),(λh=>by cases h),λh=>by cases h⟩
theorem Rb {l:List Alert} {x t:List UInt8} (hl:l.length<=1000000) (hc:strings_CutPrefix (SB x) C8=some (SB t,true)) (B:x=[116,101,120,116,32]++t):∃l' ok,One l x l' ok:=by
 have ht:t.length<=x.length:=by rw [B,List.length_append];omega
 have hm:∀c∈t,c∈x:=λc h=>by rw [B];exact List.mem_append_right _ h
 rcases List.eq_nil_or_concat l with rfl|⟨l0,a,rfl⟩
 ·refine⟨_,false,mY ?_⟩
  unfold alert_readLine;rw [hc];rfl
 ·rw [List.concat_eq_append]at *
  have J:l0.length<=1000000:=by simp at hl;omega
  obtain ⟨N,i2⟩:=last_at (l0:=l0) (a:=a) J
  have M:=wo l0 a
  have A:alert_readLine (l0++[a]) (SB x)=(bif t.isEmpty then some true else some (decide (a.Text≠⟨#[]⟩))).bind λv=>bif v then some (l0++[a],false)else some (l0++[({ a with Text:=SB t }:Alert)],true):=by
   unfold alert_readLine
   rw [hc]
   simp only [ob_,cond_true,M,cond_false,zy,N,i2,oF,lJ]
  cases he:t.isEmpty with
  | true =>
   rw [he]at A
   exact⟨_,false,mY A⟩
  | false =>
   rw [he]at A
   simp only [cond_false,ob_]at A
   by_cases hT:a.Text=⟨#[]⟩
   ·rw [decide_eq_false (by simp [hT])]at A
    have I:SB t≠⟨#[]⟩:=λe=>by
     have:=zy t
     rw [he,(gY _ _).2 e]at this;cases this
    refine⟨_,true,A,λ_=>Bq ?_,λ_=>by simp,λ_ m c L hb h=>FE h λo => ?_⟩
    ·have e1:jJ ({ a with Text:=SB t }:Alert)=jw a++lu a.Refs++iU a.Areas++qQ (SB t):=rfl
     have e2:jJ a=jw a++lu a.Refs++iU a.Areas:=by unfold jJ qQ;rw [if_pos hT,List.append_nil]
     rw [e1,e2,B]
     congr 1
     unfold qQ
     rw [if_neg I]
    ·exact { id:=o.id,sender:=o.sender,kind:=o.kind,refs:=o.refs,refsN:=by have:=o.refsN;show a.Refs.length<=_;omega,at_:=o.at_,until_:=o.until_,weight:=o.weight,areas:=o.areas,areasN:=by have:=o.areasN;show a.Areas.length<=_;omega,text:=by show (SB t).size<=m;rw [fG];omega,asc:=λb F=>hb b (hm b F) }
   ·rw [decide_eq_true hT]at A
    exact⟨_,false,mY A⟩
theorem Lv {w v:List UInt8} (h:sEq (SB w) (SB v)=true):w=v:=IB ((gY _ _).1 h)
theorem Pj {l:List Alert} {x t:List UInt8} (hx:x.length<=100000) (hl:l.length<=1000000) (F:∀a∈l,a.Refs.length<=1000000/\a.Areas.length<=1000000) (hc:strings_CutPrefix (SB x) C8=some (SB t,false)):∃l' ok,One l x l' ok:=by
 obtain ⟨g,B⟩:=Pg x hx
 obtain ⟨wn,Y⟩:=AR 32 x
 have hne:=Jp 32 x
 have hj:=EU 32 x
 generalize spl 32 x=ws at B wn Y hne hj
 obtain ⟨L,X,rfl⟩:∃L X,ws=L::X:=by
  cases ws with
  | nil=>exact absurd rfl hne
  | cons a b=>exact⟨a,b,rfl⟩
 have Z:idx ((L::X).map SB) 0=some (SB L):=rfl
 have A:=Ed (l:=l) hc B
 rw [Z]at A
 cases g with
 | false=>exact⟨_,false,mY A⟩
 | true =>
 simp only [Bool.not_true,cond_false,ob_]at A
 have m7:=I1 (ws:=L::X) 7
 have m5:=I1 (ws:=L::X) 5
 have m2:=I1 (ws:=L::X) 2
 rw [show ((7:Nat):Int)=7 from rfl]at m7
 rw [show ((5:Nat):Int)=5 from rfl]at m5
 rw [show ((2:Nat):Int)=2 from rfl]at m2
 obtain ⟨q1,q2,q3,q4,q5,q6,q7,q8,q9⟩:=Jt
 cases ha:sEq (SB L) vX with
 | true =>
  have e0:=(gY _ _).1 ha
  have R:L=[97,108,101,114,116]:=Lv (v:=[97,108,101,114,116]) ha
  rw [ha,cond_true]at A
  by_cases h7:(L::X).length=7
  ·rw [m7,decide_eq_true h7]at A
   simp only [cond_true,ob_]at A
   obtain ⟨v0,I,M,N,O,w5,w6,he⟩:=list7 h7
   have W:v0=[97,108,101,114,116]:=by
    have:=(List.cons.inj he).1
    rw [<- this,R]
   rw [he]at A Y hj
   have j1:idx ([v0,I,M,N,O,w5,w6].map SB) 1=some (SB I):=rfl
   have j2:idx ([v0,I,M,N,O,w5,w6].map SB) 2=some (SB M):=rfl
   have j3:idx ([v0,I,M,N,O,w5,w6].map SB) 3=some (SB N):=rfl
   have j4:uw ([v0,I,M,N,O,w5,w6].map SB) 4 (([v0,I,M,N,O,w5,w6].map SB).length:Int)=some ([O,w5,w6].map SB):=rfl
   obtain ⟨k,k1,k2,k3⟩:=Pd N
   obtain ⟨ns,o,a1,a2⟩:=Ky [O,w5,w6] (λw hm=>by
    have:=Y w (by simp only [List.mem_cons,List.not_mem_nil,or_false]at hm ⊢;rcases hm with rfl | rfl | rfl <;> simp)
    omega) (by simp)
   unfold Nb at A
   have hkw:gz=some [(⟨#[]⟩:ByteArray),⟨#[110,101,119]⟩,⟨#[117,112,100,97,116,101]⟩,⟨#[99,97,110,99,101,108]⟩]:=rfl
   have J:∀y:Alert,jE l [y]=some (l++[y]):=λy=>nD _ _ (by simp only [List.length_cons,List.length_nil];omega)
   simp only [hkw,j1,j2,j3,j4,k1,a1,ob_]at A
   cases o with
   | false =>
    simp only [Bool.not_false,cond_true,cond_false,ob_]at A
    exact⟨_,false,mY A⟩
   | true =>
    obtain ⟨f1,f2⟩:=a2 rfl
    obtain ⟨n0,n1,n2,rfl⟩:=list3 (l:=ns) (by have:=congrArg List.length f1;simpa using this)
    have i0:idx [n0,n1,n2] 0=some n0:=rfl
    have i1:idx [n0,n1,n2] 1=some n1:=rfl
    have i2:idx [n0,n1,n2] 2=some n2:=rfl
    simp only [Bool.not_true,cond_true,cond_false,ob_]at A
    by_cases hk1:k<1
    ·rw [decide_eq_true hk1]at A
     exact⟨_,false,mY A⟩
    ·rw [decide_eq_false hk1]at A
     simp only [cond_false,i0,i1,i2,J,ob_]at A
     refine⟨_,true,A,λ_ => ?_,λ_=>by simp,λ_ m c hm hb h=>λy hy => ?_⟩
     ·rw [BD,Bo]
      congr 1
      have k4:=k3 (by omega)
      rw [<- hj,W]
      unfold jJ jw qQ
      simp only [f1,k4]
      simp [lu,iU,nK,Lib.join_one,NR]
     ·rcases List.mem_append.1 hy with hy|hy
      ·exact DJ (h y hy) (Nat.le_succ c)
      ·rw [List.mem_singleton]at hy;subst hy
       have z1:=Y I (by simp)
       have z2:=Y M (by simp)
       exact { id:=by show (SB I).size<=m;rw [fG];omega,sender:=by show (SB M).size<=m;rw [fG];omega,kind:=⟨by show 1<=k;omega,k2⟩,refs:=(λr F=>by cases F),refsN:=Nat.zero_le _,at_:=f2 _ (by simp),until_:=f2 _ (by simp),weight:=f2 _ (by simp),areas:=(λr F=>by cases F),areasN:=Nat.zero_le _,text:=Nat.zero_le _,asc:=(λb hb=>by cases hb) }
  ·rw [m7,decide_eq_false h7]at A
   simp only [cond_false,ob_]at A
   rw [xq hl Z (.inl (by rw [e0];exact q1)) (.inl (by rw [e0];exact q2))]at A
   exact⟨_,false,mY A⟩
 | false =>
 rw [ha,cond_false]at A
 simp only [ob_,cond_false]at A
 cases hf:sEq (SB L) Cw with
 | true =>
  have e0:=(gY _ _).1 hf
  have R:L=[114,101,102]:=Lv (v:=[114,101,102]) hf
  rcases List.eq_nil_or_concat l with rfl|⟨l0,a,rfl⟩
  ·exact⟨_,false,mY A⟩
  ·rw [List.concat_eq_append]at *
   have hl0:l0.length<=1000000:=by simp at hl;omega
   obtain ⟨i1,i2⟩:=last_at (l0:=l0) (a:=a) hl0
   have hR:dw Alert.Refs (l0++[a])=a.Refs:=eT _ _ _
   have hA:dw Alert.Areas (l0++[a])=a.Areas:=eT _ _ _
   by_cases hT:a.Text=⟨#[]⟩
   ·by_cases hAr:a.Areas=[]
    ·by_cases h2:(L::X).length=2
     ·obtain ⟨v0,I,he⟩:=list2 h2
      have W:v0=[114,101,102]:=by
       have:=(List.cons.inj he).1
       rw [<- this,R]
      rw [he]at Y hj
      have j1:idx ([v0,I].map SB) 1=some (SB I):=rfl
      have J:jE a.Refs [SB I]=some (a.Refs++[SB I]):=nD _ _ (by have:=(F a (by simp)).1;simp only [List.length_cons,List.length_nil];omega)
      have ez:((([]:List Rect).length:Int)==0)=true:=rfl
      unfold zo at A
      rw [wo,cond_false]at A
      rw [m2,decide_eq_true h2,Z,he]at A
      simp only [i1,i2,hR,hA,hAr,ez,oF,hf,j1,J,lJ,cond_true,cond_false,ob_]at A
      rw [decide_eq_false (by simp [hT])]at A
      simp only [cond_true,cond_false,ob_]at A
      refine⟨_,true,A,λ_=>Bq ?_,λ_=>by simp,λ_ m c hm hb h=>FE h λB => ?_⟩
      ·rw [<- hj,W]
       unfold jJ jw qQ
       simp [hAr,hT,GI,lu,iU,nK,Lib.join_one,NR]
      ·have z1:=Y I (by simp)
       exact { id := B.id, sender := B.sender, kind := B.kind, refs := (fun r F => by
            rcases List.mem_append.1 F with F|F
            ·exact B.refs r F
            ·rw [List.mem_singleton]at F;subst F;rw [fG];omega),refsN:=by have:=B.refsN;show (a.Refs++[SB I]).length<=_;simp;omega,at_:=B.at_,until_:=B.until_,weight:=B.weight,areas:=(λr F=>by cases F),areasN:=Nat.zero_le _,text:=B.text,asc:=B.asc }
     ·rw [xq hl Z (.inr (.inl (by rw [m2];exact decide_eq_false h2))) (.inl (by rw [e0];exact q4))]at A
      exact⟨_,false,mY A⟩
    ·rw [xq hl Z (.inr (.inr (by rw [hA];exact hAr))) (.inl (by rw [e0];exact q4))]at A
     exact⟨_,false,mY A⟩
   ·have hP2:alert_readLine (l0++[a]) (SB x)=some (l0++[a],false):=by
     rw [A];unfold zo
     rw [wo,cond_false]
     simp only [i1,i2,ob_,oF]
     rw [decide_eq_true hT];rfl
    exact⟨_,false,mY hP2⟩
 | false =>
 cases hz:sEq (SB L) wS with
 | true =>
  have e0:=(gY _ _).1 hz
  have R:L=[97,114,101,97]:=Lv (v:=[97,114,101,97]) hz
  rcases List.eq_nil_or_concat l with rfl|⟨l0,a,rfl⟩
  ·exact⟨_,false,mY A⟩
  ·rw [List.concat_eq_append]at *
   have hl0:l0.length<=1000000:=by simp at hl;omega
   obtain ⟨i1,i2⟩:=last_at (l0:=l0) (a:=a) hl0
   have hA:dw Alert.Areas (l0++[a])=a.Areas:=eT _ _ _
   by_cases hT:a.Text=⟨#[]⟩
   ·by_cases h5:(L::X).length=5
    ·obtain ⟨v0,I,M,N,O,he⟩:=list5 h5
     have W:v0=[97,114,101,97]:=by
      have:=(List.cons.inj he).1
      rw [<- this,R]
     rw [he]at Y hj
     have j1:uw ([v0,I,M,N,O].map SB) 1 (([v0,I,M,N,O].map SB).length:Int)=some ([I,M,N,O].map SB):=rfl
     obtain ⟨ns,o,a1,a2⟩:=Ky [I,M,N,O] (λw hm=>by
      have:=Y w (by simp only [List.mem_cons,List.not_mem_nil,or_false]at hm ⊢;rcases hm with rfl | rfl | rfl | rfl <;> simp)
      omega) (by simp)
     have J:∀y:Rect,jE a.Areas [y]=some (a.Areas++[y]):=λy=>nD _ _ (by have:=(F a (by simp)).2;simp only [List.length_cons,List.length_nil];omega)
     unfold zo at A
     rw [wo,cond_false]at A
     rw [m5,decide_eq_true h5,Z,he]at A
     simp only [i1,i2,oF,hf,hz,j1,a1,cond_true,cond_false,ob_]at A
     rw [decide_eq_false (by simp [hT])]at A
     simp only [cond_true,cond_false,ob_]at A
     cases o with
     | false=>exact⟨_,false,mY A⟩
     | true =>
      obtain ⟨f1,f2⟩:=a2 rfl
      obtain ⟨n0,n1,n2,n3,rfl⟩:=list4 (l:=ns) (by have:=congrArg List.length f1;simpa using this)
      have z0:idx [n0,n1,n2,n3] 0=some n0:=rfl
      have z1:idx [n0,n1,n2,n3] 1=some n1:=rfl
      have z2:idx [n0,n1,n2,n3] 2=some n2:=rfl
      have z3:idx [n0,n1,n2,n3] 3=some n3:=rfl
      simp only [Bool.not_true,cond_false,z0,z1,z2,z3,hA,J,lJ,ob_]at A
      refine⟨_,true,A,λ_=>Bq ?_,λ_=>by simp,λ_ m c hm hb h=>FE h λB => ?_⟩
      ·have en:numR (⟨n0,n1,n2,n3⟩:Rect)=[n0,n1,n2,n3]:=rfl
       rw [<- hj,W]
       unfold jJ jw qQ
       simp only [Eh,iU,en,f1]
       simp [hT,nK]
      ·exact { id := B.id, sender := B.sender, kind := B.kind, refs := B.refs, refsN := by have := B.refsN; show a.Refs.length ≤ _; omega, at_ := B.at_, until_ := B.until_, weight := B.weight, areas := (fun r F => by
            rcases List.mem_append.1 F with F|F
            ·exact B.areas r F
            ·rw [List.mem_singleton]at F;subst F;exact f2),areasN:=by have:=B.areasN;show (a.Areas++[_]).length<=_;simp;omega,text:=B.text,asc:=B.asc }
    ·rw [xq hl Z (.inl hf) (.inr (by rw [m5];exact decide_eq_false h5))]at A
     exact⟨_,false,mY A⟩
   ·have hP2:alert_readLine (l0++[a]) (SB x)=some (l0++[a],false):=by
     rw [A];unfold zo
     rw [wo,cond_false]
     simp only [i1,i2,ob_,oF]
     rw [decide_eq_true hT];rfl
    exact⟨_,false,mY hP2⟩
 | false =>
  rw [xq hl Z (.inl hf) (.inl hz)]at A
  exact⟨_,false,mY A⟩
theorem PM {l:List Alert} {x:List UInt8} (o:x.length<=100000) (hl:l.length<=1000000) (A:∀a∈l,a.Refs.length<=1000000/\a.Areas.length<=1000000):∃l' ok,One l x l' ok:=by
 obtain ⟨t,b,h,I,F,B,_⟩:=cutp x (by omega)
 cases b with
 | true=>exact Rb hl h (B rfl)
 | false=>exact Pj o hl A h
def nums (l:List UInt8):List Int:=l.map λb=>(b.toNat:Int)
theorem LF (l:List UInt8):Go.strOfNums (nums l)=SB l:=by
 unfold Go.strOfNums nums
 rw [List.map_map]
 have:(l.map ((λn:Int=>UInt8.ofNat n.toNat) ∘ λb:UInt8=>(b.toNat:Int)))=l:=by
  have:((λn:Int=>UInt8.ofNat n.toNat) ∘ λb:UInt8=>(b.toNat:Int))=id:=by
   funext b;simp
  rw [this,List.map_id]
 rw [this]
theorem yE (a z:List UInt8) (h:a.length+z.length<=1000000000):IU (nums a) (SB z)=some (nums (a++z)):=by
 unfold IU
 have e:bn (SB z)=nums z:=rfl
 rw [if_pos (by rw [fG];unfold nums;rw [List.length_map];exact h),e]
 unfold nums
 rw [List.map_append]
theorem KJ (a:List UInt8) (h:a.length<=1000000000):Ce (nums a)=some (SB a):=by
 unfold Ce
 rw [if_pos ⟨by unfold nums;rw [List.length_map];exact h,by
  unfold nums
  rw [List.all_map,List.all_eq_true]
  intro b _
  have:=b.toNat_lt
  show (decide (0<=(b.toNat:Int))&&decide ((b.toNat:Int)<=255))=true
  rw [decide_eq_true (by omega),decide_eq_true (by omega)];rfl⟩,LF]
def mZ (ns:List Int):List UInt8:=ns.flatMap λn=>32::Go.Lib.itoa n
theorem yf:∀(n:Int) (ns:List Int),mZ (n::ns)=32::Go.Lib.join ((n::ns).map Go.Lib.itoa) [32]
 | n,[]=>by simp [mZ,Go.Lib.join_one]
 | n,m::ns=>by
  have h:=yf m ns
  have e:mZ (n::m::ns)=(32::Go.Lib.itoa n)++mZ (m::ns):=by simp [mZ]
  rw [e,h]
  simp only [List.map_cons]
  rw [nK]
  simp
theorem Hl:∀(ns:List Int) (k:Nat) (o:List UInt8),(∀n∈ns,Med n)->o.length+ns.length*30<=1000000->forR (λk x s=>jS k x s) ns k (SB o)=some (.go (SB (o++mZ ns)))
 | [],k,o,_,_=>by simp [forR,mZ]
 | n::ns,k,o,h,hl=>by
  have A:=h n (by simp)
  have:=AL A
  simp only [List.length_cons,Nat.add_mul]at hl
  have hs:jS k n (SB o)=some (.go (SB (o++32::Go.Lib.itoa n))):=by
   unfold jS
   have B:fu (⟨#[32]⟩:ByteArray) (SB (Go.Lib.itoa n))=some (SB (32::Go.Lib.itoa n)):=jq [32] (Go.Lib.itoa n) (by simp only [List.length_cons,List.length_nil];omega)
   have F:=jq o (32::Go.Lib.itoa n) (by simp only [List.length_cons];omega)
   rw [ND A,ob_,B,ob_,F,ob_]
  rw [forR,hs,ob_]
  simp only []
  rw [Hl ns (k+1) _ (λm hm=>h m (by simp [hm])) (by simp only [List.length_append,List.length_cons];omega)]
  simp [mZ]
theorem EN:∀(ns:List Int),(∀n∈ns,Med n)->(mZ ns).length<=ns.length*30
 | [],_=>by simp [mZ]
 | n::ns,h=>by
  have:=AL (h n (by simp))
  have:=EN ns (λm hm=>h m (by simp [hm]))
  have e:mZ (n::ns)=(32::Go.Lib.itoa n)++mZ ns:=by simp [mZ]
  rw [e];simp only [List.length_append,List.length_cons,Nat.add_mul];omega
theorem Hm (f:List UInt8) (ns:List Int) (h:∀n∈ns,Med n) (hf:f.length<=100000) (o:ns.length<=1000):mh (SB f) ns=some (SB (f++mZ ns++[10])):=by
 unfold mh
 have:=EN ns h
 rw [gJ (by omega),Hl ns 0 f h (by omega),ob_]
 simp only [thenC]
 rw [show (⟨#[10]⟩:ByteArray)=SB [10] from rfl,jq _ [10] (by simp only [List.length_append,List.length_cons,List.length_nil];omega)];rfl
theorem NP:∀(l:List ByteArray) (k:Nat) (o:List UInt8),(∀r∈l,ShA r)->o.length+l.length*2000<=1000000->forR (λk x s=>kU k x s) l k (nums o)=some (.go (nums (o++lu l)))
 | [],k,o,_,_=>by simp [forR,lu]
 | r::l,k,o,h,hl=>by
  have J:=xO (h r (by simp))
  simp only [List.length_cons,Nat.add_mul]at hl
  have hs:kU k r (nums o)=some (.go (nums (o++([114,101,102,32]++r.data.toList++[10])))):=by
   unfold kU
   have F:fu (⟨#[114,101,102,32]⟩:ByteArray) r=some (SB ([114,101,102,32]++r.data.toList)):=jq [114,101,102,32] r.data.toList (by simp only [List.length_append,List.length_cons,List.length_nil];omega)
   have I:fu (SB ([114,101,102,32]++r.data.toList)) (⟨#[10]⟩:ByteArray)=some (SB ([114,101,102,32]++r.data.toList++[10])):=jq _ [10] (by simp only [List.length_append,List.length_cons,List.length_nil];omega)
   have A:=yE o ([114,101,102,32]++r.data.toList++[10]) (by simp only [List.length_append,List.length_cons,List.length_nil];omega)
   simp only [F,I,A,ob_]
  simp only [forR,hs,ob_]
  rw [NP l (k+1) _ (λa B=>h a (List.mem_cons_of_mem _ B)) (by simp only [List.length_append,List.length_cons,List.length_nil];omega)]
  simp [lu]
theorem MV (r:Rect) : [97,114,101,97]++mZ (numR r)++[10]=[97,114,101,97,32]++Go.Lib.join ((numR r).map Go.Lib.itoa) [32]++[10]:=by
 unfold numR
 rw [yf];simp
theorem K6:∀(l:List Rect) (k:Nat) (o:List UInt8),(∀r∈l,Fine r)->o.length+l.length*2000<=1000000->forR (λk x s=>kW k x s) l k (nums o)=some (.go (nums (o++iU l)))
 | [],k,o,_,_=>by simp [forR,iU]
 | r::l,k,o,h,hl=>by
  have hm:=medR (h r (by simp))
  have L:=rJ (numR r) hm
  have J:(numR r).length=4:=rfl
  simp only [List.length_cons,Nat.add_mul]at hl
  have B:=Hm [97,114,101,97] (numR r) hm (by simp) (by omega)
  rw [MV]at B
  have hs:kW k r (nums o)=some (.go (nums (o++([97,114,101,97,32]++Go.Lib.join ((numR r).map Go.Lib.itoa) [32]++[10])))):=by
   unfold kW
   have F:=yE o ([97,114,101,97,32]++Go.Lib.join ((numR r).map Go.Lib.itoa) [32]++[10]) (by simp only [List.length_append,List.length_cons,List.length_nil];omega)
   have A:mh (⟨#[97,114,101,97]⟩:ByteArray) [r.X,r.Y,r.W,r.H]=some (SB ([97,114,101,97,32]++Go.Lib.join ((numR r).map Go.Lib.itoa) [32]++[10])):=B
   rw [A,ob_,F];rfl
  simp only [forR,hs,ob_]
  rw [K6 l (k+1) _ (λa I=>h a (List.mem_cons_of_mem _ I)) (by simp only [List.length_append,List.length_cons,List.length_nil];omega)]
  simp [iU]
theorem Om {x:Alert} (o:FitB x) (k:Nat) (h:List UInt8) (ho:h.length<=900000):kQ k x (nums h)=some (.go (nums (h++jJ x))):=by
 have f3:=o.areas
 have l1:=xO o.id
 have l2:=xO o.sender
 have N:=o.tlen
 have J:x.Kind=1\/x.Kind=2\/x.Kind=3:=by have:=o.kind;omega
 have hm:=o.nums
 have F:=rJ [x.At,x.Until,x.Weight] hm
 simp only [List.length_cons,List.length_nil]at F
 have X:idx ([(⟨#[]⟩:ByteArray),(⟨#[110,101,119]⟩:ByteArray),(⟨#[117,112,100,97,116,101]⟩:ByteArray),(⟨#[99,97,110,99,101,108]⟩:ByteArray)]:List ByteArray) x.Kind=some (SB (nZ x.Kind)):=by
  rcases J with e|e|e <;> rw [e] <;> rfl
 have hwl:(nZ x.Kind).length<=6:=by
  rcases J with e|e|e <;> rw [e] <;> decide
 have hR:=uU x.Refs o.refs
 have hA:=sI x.Areas f3
 have b1:=o.rlen
 have b2:=o.alen
 have Z:fu (⟨#[97,108,101,114,116,32]⟩:ByteArray) x.Id=some (SB ([97,108,101,114,116,32]++x.Id.data.toList)):=jq [97,108,101,114,116,32] x.Id.data.toList (by simp only [List.length_cons,List.length_nil];omega)
 have I:∀l:List UInt8,l.length<=100000->fu (SB l) (⟨#[32]⟩:ByteArray)=some (SB (l++[32])):=λl hl=>jq l [32] (by simp only [List.length_cons,List.length_nil];omega)
 have Y:∀l:List UInt8,l.length<=100000->fu (SB l) x.Sender=some (SB (l++x.Sender.data.toList)):=λl hl=>jq l x.Sender.data.toList (by omega)
 have L:∀l:List UInt8,l.length<=100000->fu (SB l) (⟨#[10]⟩:ByteArray)=some (SB (l++[10])):=λl hl=>jq l [10] (by simp only [List.length_cons,List.length_nil];omega)
 have M:∀l m:List UInt8,l.length<=100000->m.length<=100000->fu (SB l) (SB m)=some (SB (l++m)):=λl m hl hm=>jq l m (by omega)
 have hh:(jw x).length<=3000:=by unfold jw;simp only [List.length_append,List.length_cons,List.length_nil];omega
 have O:IU (nums h) (SB (jw x))=some (nums (h++jw x)):=yE h (jw x) (by omega)
 have B:=Hm ([97,108,101,114,116,32]++x.Id.data.toList++[32]++x.Sender.data.toList++[32]++nZ x.Kind) [x.At,x.Until,x.Weight] hm (by simp only [List.length_append,List.length_cons,List.length_nil];omega) (by simp)
 have A : [97,108,101,114,116,32]++x.Id.data.toList++[32]++x.Sender.data.toList++[32]++nZ x.Kind++mZ [x.At,x.Until,x.Weight]++[10]=jw x:=by
  rw [yf];unfold jw;simp
 rw [A]at B
 unfold kQ gz
 rw [Z,ob_,I _ (by simp only [List.length_append,List.length_cons,List.length_nil];omega),ob_,Y _ (by simp only [List.length_append,List.length_cons,List.length_nil];omega),ob_,I _ (by simp only [List.length_append,List.length_cons,List.length_nil];omega),ob_,ob_,X,ob_,
  M _ _ (by simp only [List.length_append,List.length_cons,List.length_nil];omega) (by omega),ob_,B,ob_,O,ob_]
 rw [gJ (by omega),NP x.Refs 0 (h++jw x) o.refs (by simp only [List.length_append];omega),ob_,lX,gJ (by omega),K6 x.Areas 0 _ f3 (by simp only [List.length_append];omega),ob_,lX]
 unfold jJ qQ
 by_cases ht:x.Text=⟨#[]⟩
 ·have e:sNe x.Text (⟨#[]⟩:ByteArray)=false:=by rw [yg];simp [ht]
  rw [e,cond_false,if_pos ht,List.append_nil,List.append_assoc,List.append_assoc,<- List.append_assoc (jw x)];rfl
 ·have e:sNe x.Text (⟨#[]⟩:ByteArray)=true:=by rw [yg];simp [ht]
  have W:x.Text.data.toList.length<=500:=by rw [<- Go.Lib.size_eq];exact N
  have R:fu (⟨#[116,101,120,116,32]⟩:ByteArray) x.Text=some (SB ([116,101,120,116,32]++x.Text.data.toList)):=jq [116,101,120,116,32] x.Text.data.toList (by simp only [List.length_cons,List.length_nil];omega)
  rw [e,cond_true,if_neg ht,R,ob_,L _ (by simp only [List.length_append,List.length_cons,List.length_nil];omega),ob_,yE _ _ (by simp only [List.length_append,List.length_cons,List.length_nil];omega),ob_]
  simp only [ob_,List.append_assoc]
theorem GY:∀(l:List Alert),(∀x∈l,FitB x)->(textA l).length<=l.length*30000
 | [],_=>by simp [textA]
 | x::l,h=>by
  have:=HY (h x (by simp))
  have:=GY l (λy o=>h y (by simp [o]))
  have e:textA (x::l)=jJ x++textA l:=by simp [textA]
  rw [e,List.length_append,List.length_cons,Nat.add_mul];omega
def Da (m c:Nat) (l:List Alert):Prop:=l.length<=c/\∀a∈l,LA m c a
def Fv (m:Nat) (x:List UInt8):Prop:=x.length<=m/\∀b∈x,b.toNat<128
noncomputable def wO (l:List Alert) (x:List UInt8):Option (List Alert):=match alert_readLine l (SB x)with
 | some (l',true)=>some l'
 | _=>none
theorem yB {m c:Nat} {l:List Alert} {x:List UInt8} (hm:m<=100000) (hc:c<=900000) (o:Da m c l) (A:Fv m x):∃l' ok,One l x l' ok/\wO l x=(bif ok then some l' else none)/\(ok=true->Da m (c+1) l'):=by
 obtain ⟨l',ok,h⟩:=PM (l:=l) (x:=x) (by have:=A.1;omega) (by have:=o.1;omega) (λa B=>by have:=(o.2 a B).refsN;have:=(o.2 a B).areasN;exact⟨by omega,by omega⟩)
 refine⟨l',ok,h,?_,λho=>⟨by have:=h.len ho;have:=o.1;omega,h.good ho m c A.1 A.2 o.2⟩⟩
 unfold wO
 rw [h.prog]
 cases ok <;> rfl
noncomputable def wK:List (List UInt8)->Nat->List Alert->Sum Nat (List Alert)
 | [],_,h => .inr h
 | [x],k,h=>if x=[]then .inr h else .inl k
 | x::y::r,k,h=>match wO h x with
  | none => .inl k
  | some l'=>wK (y::r) (k+1) l'
theorem G6 {m:Nat} (hm:m<=100000):∀(F:List (List UInt8)) (k c:Nat) (A o:List Alert),(∀q∈F,Fv m q)->Da m c A->c+F.length<=900000->wK F k A = .inr o->Da m (c+F.length) o/\textA o=textA A++Lib.join F [10]
 | [],k,c,A,o,_,B,_,h=>by
  simp only [wK,Sum.inr.injEq]at h
  subst h;exact⟨B,by simp [Lib.join_nil]⟩
 | [x],k,c,A,o,_,B,_,h=>by
  unfold wK at h
  split at h
  ·rename_i J
   simp only [Sum.inr.injEq]at h
   subst h
   exact⟨⟨by have:=B.1;simp only [List.length_cons,List.length_nil];omega,λa N=>DJ (B.2 a N) (by simp)⟩,by rw [J,Lib.join_one,List.append_nil]⟩
  ·cases h
 | x::y::r,k,c,A,o,I,B,hc,h=>by
  simp only [List.length_cons]at hc
  obtain ⟨l',ok,O,a2,a3⟩:=yB hm (by omega) B (I x (by simp))
  unfold wK at h
  rw [a2]at h
  cases ok with
  | false=>cases h
  | true =>
   simp only [cond_true]at h
   obtain ⟨M,L⟩:=G6 hm (y::r) (k+1) (c+1) l' o (λq hm=>I q (by simp [hm])) (a3 rfl) (by simp only [List.length_cons];omega) h
   rw [show c+(x::y::r).length=c+1+(y::r).length by simp only [List.length_cons];omega]
   refine⟨M,?_⟩
   rw [L,O.back rfl,nK]
   simp only [List.append_assoc]
theorem J6 {m:Nat} (hm:m<=100000) (r:(List ByteArray)×Bool) (L:r.2=true):∀(F:List (List UInt8)) (k c:Nat) (A:List Alert),F ≠ []->F.getLast? = some []->(∀q∈F,Fv m q)->c+F.length<=900000->Da m c A ->
  forR (λk x s=>fA r k x s) (F.dropLast.map SB) k A=some (match wK F k A with | .inl i => .ret ([],(i:Int),9) | .inr o => .go o)
 | [],_,_,_,h,_,_,_,_=>absurd rfl h
 | [x],k,c,A,_,I,_,_,_=>by
  simp only [List.getLast?_singleton,so_]at I
  subst I
  simp only [wK,if_true];rfl
 | x::y::t,k,c,A,_,I,J,hc,M=>by
  simp only [List.length_cons]at hc
  obtain ⟨l',ok,N,a2,a3⟩:=yB hm (by omega) M (J x (by simp))
  have B:fA r k (SB x) A=some (bif ok then .go l' else .ret ([],(k:Int),9)):=by
   unfold fA
   rw [N.prog,ob_,L]
   cases ok <;> rfl
  rw [List.dropLast_cons_cons,List.map_cons,forR,B,ob_]
  unfold wK
  rw [a2]
  cases ok with
  | false=>rfl
  | true =>
   simp only [cond_true]
   exact J6 hm r L (y::t) (k+1) (c+1) l' (by simp) (by rw [<- I];simp) (λq hm=>J q (by simp [hm])) (by simp only [List.length_cons];omega) (a3 rfl)
theorem Ic {m:Nat} (hm:m<=100000) (r:(List ByteArray)×Bool) (O:r.2=false) (M:r.1.length<=900000):∀(F:List (List UInt8)) (k c:Nat) (B:List Alert),F ≠ []->F.getLast? ≠ some []->k+F.length=r.1.length->(∀q∈F,Fv m q)->c+F.length<=900000->Da m c B ->
  forR (λk x s=>fA r k x s) (F.map SB) k B=some (match wK F k B with | .inl i => .ret ([],(i:Int),9) | .inr o => .go o)
 | [],_,_,_,h,_,_,_,_,_=>absurd rfl h
 | [x],k,c,B,_,J,R,I,hc,L=>by
  simp only [List.getLast?_singleton,ne_eq,so_]at J
  simp only [List.length_cons,List.length_nil]at R hc
  obtain ⟨l',ok,N,a2,a3⟩:=yB hm (by omega) L (I x (by simp))
  have A:fA r k (SB x) B=some (.ret ([],(k:Int),9)):=by
   unfold fA
   rw [N.prog,ob_,O,gM (by omega),show ((k:Int)==((r.1.length:Int)-1))=true by rw [beq_iff_eq];omega]
   cases ok <;> rfl
  rw [List.map_cons,forR,A]
  simp only [wK,if_neg J];rfl
 | x::y::t,k,c,B,_,J,R,I,hc,L=>by
  simp only [List.length_cons]at hc R
  obtain ⟨l',ok,N,a2,a3⟩:=yB hm (by omega) L (I x (by simp))
  have A:fA r k (SB x) B=some (bif ok then .go l' else .ret ([],(k:Int),9)):=by
   unfold fA
   rw [N.prog,ob_,O,gM (by omega),show ((k:Int)==((r.1.length:Int)-1))=false by rw [beq_eq_false_iff_ne];omega]
   cases ok <;> rfl
  rw [List.map_cons,forR,A,ob_]
  unfold wK
  rw [a2]
  cases ok with
  | false=>rfl
  | true =>
   simp only [cond_true]
   exact Ic hm r O M (y::t) (k+1) (c+1) l' (by simp) (by simpa using J) (by simp only [List.length_cons];omega) (λq hm=>I q (by simp [hm])) (by simp only [List.length_cons];omega) (a3 rfl)
theorem spl_mem:∀(c:UInt8) (l:List UInt8),∀q∈spl c l,∀b∈q,b∈l:=by
 intro c l
 induction l with
 | nil=>intro q h b hb;simp [spl]at h;subst h;cases hb
 | cons a l o =>
  intro q h b hb
  unfold spl at h
  split at h
  ·rcases List.mem_cons.1 h with rfl|h
   ·cases hb
   ·exact List.mem_cons_of_mem _ (o q h b hb)
  ·split at h
   ·simp at h;subst h
    rw [List.mem_singleton.1 hb];exact List.mem_cons_self ..
   ·rename_i x r A
    rw [A]at o
    rcases List.mem_cons.1 h with rfl|h
    ·rcases List.mem_cons.1 hb with rfl|hb
     ·exact List.mem_cons_self ..
     ·exact List.mem_cons_of_mem _ (o x (by simp) b hb)
    ·exact List.mem_cons_of_mem _ (o q (by simp [h]) b hb)
theorem Ie (l:List UInt8) (hl:l.length<=100000) (O:∀b∈l,b.toNat<128) :
  lK (SB l)=(match wK (spl 10 l) 0 []with
   | .inl i=>some ([],(i:Int),9)
   | .inr o=>(bO o).bind λF=>bif (F != 0)then some ([],0,F)else some (o,0,0)) /\
  ∀o,wK (spl 10 l) 0 [] = .inr o->Da l.length 100001 o/\textA o=l:=by
 have hsz:decide (((SB l).size:Int)>200000)=false:=by rw [fG];exact decide_eq_false (by omega)
 obtain ⟨sz1,sz2⟩:=AR 10 l
 have B:=Jp 10 l
 have R:∀q∈spl 10 l,Fv l.length q:=λq h=>⟨sz2 q h,λb hb=>O b (spl_mem 10 l q h b hb)⟩
 have I:Da l.length 0 []:=⟨Nat.le_refl _,λa h=>by cases h⟩
 have J:=EW 10 (s:=SB l) (by rw [fG];omega)
 rw [show (List.map (λl=>(⟨l.toArray⟩:ByteArray)) (spl 10 (SB l).data.toList))=(spl 10 l).map SB from rfl]at J
 have A:((spl 10 l).map SB).length=(spl 10 l).length:=List.length_map ..
 have W:0<(spl 10 l).length:=List.length_pos_iff.2 B
 have Y:w64 ((((spl 10 l).map SB).length:Int)-1)=(((spl 10 l).length-1:Nat):Int):=by rw [A,gM (by omega)];omega
 obtain ⟨z,L⟩:∃z,(spl 10 l).getLast? = some z:=⟨_,List.getLast?_eq_some_getLast B⟩
 have M:idx ((spl 10 l).map SB) (((spl 10 l).length-1:Nat):Int)=some (SB z):=by
  rw [Ju,List.getElem?_map,<- List.getLast?_eq_getElem?,L];rfl
 constructor
 ·unfold lK yC
  rw [hsz,cond_false,J,ob_,Y,M,ob_,zy]
  cases z with
  | nil =>
   have N:uw ((spl 10 l).map SB) 0 (((spl 10 l).length-1:Nat):Int)=some ((spl 10 l).dropLast.map SB):=by
    unfold uw
    rw [if_pos (by rw [A];omega),Int.toNat_natCast]
    congr 1
    rw [show Int.toNat 0=0 from rfl,List.drop_zero,<- List.map_take,<- List.dropLast_eq_take]
   simp only [List.isEmpty_nil,cond_true]
   rw [N]
   simp only [ob_]
   rw [gJ (by rw [List.length_map,List.length_dropLast];omega),J6 hl _ rfl (spl 10 l) 0 0 [] B L R (by omega) I]
   cases wK (spl 10 l) 0 [] <;> rfl
  | cons z0 zs =>
   simp only [List.isEmpty_cons,cond_false,ob_]
   rw [gJ (by rw [A];omega),Ic hl _ rfl (by rw [A];omega) (spl 10 l) 0 0 [] B (by rw [L];simp) (by rw [A];omega) R (by omega) I]
   cases wK (spl 10 l) 0 [] <;> rfl
 ·intro o h
  obtain ⟨g1,X⟩:=G6 hl (spl 10 l) 0 0 [] o R I (by omega) h
  rw [EU]at X
  exact⟨⟨by have:=g1.1;omega,λa O=>DJ (g1.2 a O) (by omega)⟩,X⟩
theorem vG_0 {l:List Alert} (h:vG l=0):l.length<=300/\∀x∈l,alG x=0:=by
 unfold vG at h
 cases e1:decide ((l.length:Int)>300)with
 | true=>rw [e1]at h;cases h
 | false =>
 rw [e1,cond_false]at h
 simp only [decide_eq_false_iff_not]at e1
 cases e2:chA IA none l==0 with
 | false=>rw [e2,cond_false]at h;rw [h]at e2;cases e2
 | true =>
 refine⟨by omega,λx A => ?_⟩
 obtain ⟨i,hi,rfl⟩:=List.getElem_of_mem A
 obtain ⟨q,o,_⟩:=NV (eq_of_beq e2) i _ (List.getElem?_eq_getElem hi)
 unfold IA at o
 cases e3:alG l[i]==0 with
 | true=>exact eq_of_beq e3
 | false=>rw [e3,cond_false]at o;rw [o]at e3;cases e3
theorem GL:∀(l:List Alert) (k:Nat) (o:List UInt8),(∀x∈l,FitB x)->o.length+(textA l).length<=900000->forR (λk x s=>kQ k x s) l k (nums o)=some (.go (nums (o++textA l)))
 | [],k,o,_,_=>by simp [forR,textA]
 | x::l,k,o,h,hl=>by
  have A:=h x (by simp)
  have e:textA (x::l)=jJ x++textA l:=by simp [textA]
  rw [e,List.length_append]at hl
  rw [forR,Om A k o (by omega),ob_]
  simp only []
  rw [GL l (k+1) (o++jJ x) (λy B=>h y (by simp [B])) (by simp only [List.length_append];omega),e,List.append_assoc]
theorem Ke {l:List Alert} (h:∀x∈l,FitB x) (hl:(textA l).length<=200000) (B:l.length<=300) (hc:bO l=some 0):nI l=some (SB (textA l),0):=by
 unfold nI
 have A:=GL l 0 [] h (by simp only [List.length_nil];omega)
 rw [hc,ob_,gJ (by omega),show ([]:List Int)=nums [] from rfl,A]
 have o:(nums ([]++textA l)).length=(textA l).length:=by simp [nums]
 simp only [bne_self_eq_false,cond_false,ob_,thenC]
 rw [o,decide_eq_false (by omega),cond_false,List.nil_append,KJ _ (by omega)];rfl
theorem O8 (u:List UInt8) (F:u.length<=100000) (L:∀b∈u,b.toNat<128):∃r:List Alert×Int×Int,lK (SB u)=some r/\(r.2.2=0->nI r.1=some (SB u,0)):=by
 obtain ⟨h1,h2⟩:=Ie u F L
 cases hr:wK (spl 10 u) 0 []with
 | inl i =>
  rw [hr]at h1
  exact⟨_,h1,λh=>by cases h⟩
 | inr o =>
  rw [hr]at h1
  obtain ⟨B,ht⟩:=h2 o hr
  have hb:GBs o:=⟨λx A=>gb_la (B.2 x A) F (by omega),by have:=B.1;omega⟩
  have hc:=vG_K hb
  simp only []at h1
  rw [hc,ob_]at h1
  by_cases h0:vG o=0
  ·rw [h0]at h1 hc
   obtain ⟨I,J⟩:=vG_0 h0
   refine⟨_,h1,λ_ => ?_⟩
   have:=Ke (λx A=>(fitB_of (J x A)).1) (by rw [ht];omega) I hc
   rw [ht]at this
   exact this
  ·rw [show (vG o != 0)=true by simpa using h0]at h1
   exact⟨_,h1,λh=>absurd h h0⟩
def Asc (l:List UInt8):Prop:=∀b∈l,b.toNat<128
theorem eX {l m:List UInt8} (h:Asc l) (k:Asc m):Asc (l++m):=λb hb=>by
 rcases List.mem_append.1 hb with hb|hb
 ·exact h b hb
 ·exact k b hb
theorem iG {l:List UInt8} (h:l.all (λb=>decide (b.toNat<128))=true):Asc l:=λb hb=>of_decide_eq_true (List.all_eq_true.1 h b hb)
theorem Nj {l:List UInt8} (h:l.all IY=true):Asc l:=λb hb=>by
 have:=List.all_eq_true.1 h b hb
 unfold IY at this
 simp only [Bool.and_eq_true,decide_eq_true_eq]at this
 omega
theorem K9 (n:Int):Asc (Go.Lib.itoa n):=by
 by_cases h:n<0
 ·rw [itoa_neg h]
  exact eX (l:=[45]) (iG rfl) (Nj (Ak _))
 ·rw [CK (by omega)];exact Nj (Ak _)
theorem Gg:∀l:List Int,Asc (Go.Lib.join (l.map Go.Lib.itoa) [32])
 | []=>λb hb=>by simp [Go.Lib.join]at hb
 | [n]=>by rw [List.map_cons,List.map_nil,Go.Lib.join_one];exact K9 n
 | n::m::r=>by
  rw [joinI']
  exact eX (K9 n) (eX (l:=[32]) (iG rfl) (Gg (m::r)))
theorem id_asc:∀k∈idL,Asc k.data.toList:=by
 intro k h
 simp only [idL,List.mem_cons,List.not_mem_nil,or_false]at h
 rcases h with rfl|rfl|rfl|rfl|rfl|rfl <;> exact iG rfl
theorem ref_asc:∀k∈refL,Asc k.data.toList:=by
 intro k h
 simp only [refL,List.mem_cons,List.not_mem_nil,or_false]at h
 rcases h with rfl|rfl|rfl|rfl|rfl <;> exact iG rfl
theorem Bv {x:Alert} (h:RightA x):FitB x:=by
 have h1:=h.at_
 have h2:=h.until_
 have F:=h.weight
 have B:=h.alen
 refine⟨DV (JG _ h.id).2,?_,h.kind,λr o => ?_,?_,λr o=>(h.areas r o).1,by omega,λn A => ?_,?_⟩
 ·rcases h.sender with e|e <;> rw [e] <;> exact DV rfl
 ·rcases h.refs with hs|hs
  ·exact DV (Fy r (hs.subset o)).2
  ·rw [hs]at o;rw [List.mem_singleton.1 o];exact DV rfl
 ·rcases h.refs with hs|hs
  ·have:=hs.length_le
   have e:refL.length=5:=rfl
   omega
  ·rw [hs];decide
 ·simp only [List.mem_cons,List.not_mem_nil,or_false]at A
  unfold Med
  rcases A with rfl|rfl|rfl <;> omega
 ·rcases h.text with e|e|⟨_,e|e⟩ <;> rw [e] <;> decide
theorem H6:∀l:List ByteArray,(∀r∈l,Asc r.data.toList)->Asc (lu l)
 | [],_=>λb hb=>by cases hb
 | r::l,h=>by
  unfold lu
  exact eX (eX (eX (iG rfl) (h r (by simp))) (iG rfl)) (H6 l (λa o=>h a (by simp [o])))
theorem FQ:∀l:List Rect,Asc (iU l)
 | []=>λb hb=>by cases hb
 | r::l=>by
  unfold iU
  exact eX (eX (eX (iG rfl) (Gg _)) (iG rfl)) (FQ l)
theorem Od {x:Alert} (h:RightA x):Asc (jJ x):=by
 have A:x.Kind=1\/x.Kind=2\/x.Kind=3:=by have:=h.kind;omega
 have B:=id_asc _ h.id
 have a2:Asc x.Sender.data.toList:=by rcases h.sender with e | e <;> rw [e] <;> exact iG rfl
 have a3:Asc (nZ x.Kind):=by rcases A with e | e | e <;> rw [e] <;> exact iG rfl
 have a4:Asc (lu x.Refs):=H6 _ (λr o=>by
  rcases h.refs with hs|hs
  ·exact ref_asc r (hs.subset o)
  ·rw [hs]at o;rw [List.mem_singleton.1 o];exact iG rfl)
 have a5:Asc (qQ x.Text):=by rcases h.text with e | e | ⟨_,e | e⟩ <;> rw [e] <;> exact iG rfl
 unfold jJ jw
 exact eX (eX (eX (eX (eX (eX (eX (eX (eX (eX (eX (iG rfl) B) (iG rfl)) a2) (iG rfl)) a3) (iG rfl)) (Gg _)) (iG rfl)) a4) (FQ _)) a5
theorem BF:∀l:List Alert,(∀x∈l,RightA x)->Asc (textA l)
 | [],_=>λb hb=>by cases hb
 | x::l,h=>by
  have e:textA (x::l)=jJ x++textA l:=by simp [textA]
  rw [e];exact eX (Od (h x (by simp))) (BF l (λy o=>h y (by simp [o])))
def Ip:ByteArray:=⟨#[32,10,48,45,57,97,116,114]⟩
theorem enc_a:∀i:Fin 8,((Utf8.encode (IntKind.i32.wrap ((kZ Ip i.val).toNat:Int))).data.toList.length<=4/\(Utf8.encode (IntKind.i32.wrap ((kZ Ip i.val).toNat:Int))).data.toList.all (λb=>decide (b.toNat<128))=true):=by decide +kernel
theorem OJ (s:Stream) (l:List UInt8) {b:Int} (hs:Ok s b) (hb:b<=900000) (hl:l.length<=100000) (A:Asc l):∃l' I,iy s (SB l) Ip=some (SB l',I)/\l'.length<=l.length+8/\Asc l'/\Ok I (b+3):=by
 unfold iy
 have hw:sEq Ip (⟨#[]⟩:ByteArray)=false:=zy [32,10,48,45,57,97,116,114]
 rw [hw,zy]
 cases h0:l.isEmpty with
 | true=>exact⟨[32,10,48,45,57,97,116,114],s,rfl,by simp,iG rfl,hs.mono (by omega)⟩
 | false =>
 have N:0<l.length:=by
  cases l with
  | nil=>cases h0
  | cons _ _=>simp
 simp only [cond_false,ob_,fG]
 obtain ⟨i,s1,R,a2,a3,a4⟩:=rq s (l.length:Int) hs (by omega) (by omega) (by omega)
 obtain ⟨j,s2,Y,b2,O,Z⟩:=rq s1 (Ip.size:Int) a4 (by omega) (by decide) (by decide)
 obtain ⟨q,s3,c1,c2,c3,c4⟩:=rq s2 3 Z (by omega) (by decide) (by decide)
 obtain ⟨i,rfl⟩:∃n:Nat,i=(n:Int):=⟨i.toNat,by omega⟩
 obtain ⟨j,rfl⟩:∃n:Nat,j=(n:Int):=⟨j.toNat,by omega⟩
 have hj:j<8:=by rw [show Ip.size=8 from rfl]at O;omega
 have hx:=uO Ip j (by rw [show Ip.size=8 from rfl];exact hj)
 obtain ⟨he,h⟩:=enc_a ⟨j,hj⟩
 have L:=A8 l 0 i (by omega) (by omega)
 have e1:=A8 l (i+1) l.length (by omega) (Nat.le_refl _)
 have f1:=A8 l i l.length (by omega) (Nat.le_refl _)
 rw [List.take_length]at e1 f1
 rw [show ((0:Nat):Int)=0 from rfl,List.drop_zero]at L
 have hwi:w64 ((i:Int)+1)=((i+1:Nat):Int):=by rw [gM (by omega)];rfl
 simp only [R,Y,hx,c1,L,ob_,hwi,e1,f1]
 generalize hz:Utf8.encode (IntKind.i32.wrap ((kZ Ip j).toNat:Int))=z at he h
 have B:z=SB z.data.toList:=rfl
 rw [B]
 generalize z.data.toList=zl at he h
 have F:Asc (l.take i):=λb hb=>A b (List.mem_of_mem_take hb)
 have M:Asc (l.drop (i+1)):=λb hb=>A b (List.mem_of_mem_drop hb)
 have W:Asc (l.drop i):=λb hb=>A b (List.mem_of_mem_drop hb)
 have J:Asc zl:=iG h
 have n1:(l.take i).length<=l.length:=by simp;omega
 have n2:(l.drop (i+1)).length<=l.length:=by simp
 have n3:(l.drop i).length<=l.length:=by simp
 have g1:fu (SB (l.take i)) (SB zl)=some (SB (l.take i++zl)):=jq _ _ (by omega)
 have X:fu (SB (l.take i++zl)) (SB (l.drop (i+1)))=some (SB (l.take i++zl++l.drop (i+1))):=jq _ _ (by simp only [List.length_append];omega)
 have g3:fu (SB (l.take i++zl)) (SB (l.drop i))=some (SB (l.take i++zl++l.drop i)):=jq _ _ (by simp only [List.length_append];omega)
 have g4:fu (SB (l.take i)) (SB (l.drop (i+1)))=some (SB (l.take i++l.drop (i+1))):=jq _ _ (by omega)
 have o:Ok s3 (b+3):=c4.mono (by omega)
 cases hq0:q==0 with
 | true =>
  simp only [cond_true,g1,X,ob_]
  exact⟨_,_,rfl,by simp only [List.length_append,List.length_take,List.length_drop];omega,eX (eX F J) M,o⟩
 | false =>
  simp only [cond_false]
  cases hq1:q==1 with
  | true =>
   simp only [cond_true,g1,g3,ob_]
   exact⟨_,_,rfl,by simp only [List.length_append,List.length_take,List.length_drop];omega,eX (eX F J) W,o⟩
  | false =>
   simp only [cond_false,g4,ob_]
   exact⟨_,_,rfl,by simp only [List.length_append,List.length_take,List.length_drop];omega,eX F M,o⟩
theorem JM (s:Stream) {b:Int} (hs:Ok s b) (hb:b<=500000):∃l B,iP s=some (SB l,B)/\l.length<=100000/\Asc l:=by
 obtain ⟨al,s1,a1,a2,a3⟩:=CR 3 (by decide) s hs (by omega)
 have A:∀x∈al,FitB x:=λx hx=>Bv (a2.right x hx)
 have hal:al.length<=3:=a2.len
 have hl:=GY al A
 have J:=G9 A (by omega)
 obtain ⟨n,s2,c1,W,c3⟩:=D5 s1 [0,0,1,2] a3 (by omega) (by decide) (by decide)
 have hn:0<=n/\n<=2:=by
  simp only [List.mem_cons,List.not_mem_nil,or_false]at W
  rcases W with h|h|h|h <;> omega
 obtain ⟨u,d1,N,l,R,Z,O⟩:=KA (body:=λk x s=>fV k x s) (λk (s:ByteArray×List Int×Int)=>Ok ⟨s.2.1,s.2.2⟩ (b+301+3*k)/\∃l,s.1=SB l/\l.length<=90000+8*k/\Asc l) (xs:=List.range n.toNat) (s:=(SB (textA al),s2.L,s2.f_at)) (by rw [List.length_range];omega) (λk x t _ hk ⟨i1,l,i0,i2,i3⟩=>by
  have hk2:k<2:=by rw [List.length_range]at hk;omega
  obtain ⟨l',B,e1,e2,Y,e3⟩:=OJ ⟨t.2.1,t.2.2⟩ l i1 (by omega) (by omega) i3
  unfold fV
  have F:iy ⟨t.2.1,t.2.2⟩ t.1 (⟨#[32,10,48,45,57,97,116,114]⟩:ByteArray)=some (SB l',B):=by rw [i0];exact e1
  rw [F,ob_]
  refine⟨_,rfl,?_,l',rfl,by omega,Y⟩
  show Ok ⟨B.L,B.f_at⟩ _
  exact e3.mono (by omega)) ⟨c3.mono (by simp;omega),textA al,rfl,by omega,BF al a2.right⟩
 rw [List.length_range]at N Z
 obtain ⟨f,M,f1,f2⟩:=Ns ⟨u.2.1,u.2.2⟩ 12 N (by omega) (by decide) (by decide)
 unfold iP
 simp only [a1,J,c1,ob_]
 rw [d1,ob_,lX]
 simp only [f1,ob_]
 cases f with
 | false=>exact⟨l,⟨M.L,M.f_at⟩,by simp only [cond_false,ob_,R],by omega,O⟩
 | true =>
  obtain ⟨o,s4,g1,X,g3⟩:=D8 M [(⟨#[116,101,120,116,32,120,10]⟩:ByteArray),(⟨#[114,101,102,32,122,122,10]⟩:ByteArray),(⟨#[97,114,101,97,32,48,32,48,32,49,32,49,10]⟩:ByteArray),(⟨#[116,101,120,116,32,10]⟩:ByteArray),(⟨#[116,101,120,116,32,32,120,10]⟩:ByteArray)] f2 (by omega) (by simp) (by simp)
  obtain ⟨z,hz,hz1,I⟩:∃z:List UInt8,o=SB z/\z.length<=13/\Asc z:=by
   refine⟨o.data.toList,rfl,?_⟩
   simp only [List.mem_cons,List.not_mem_nil,or_false]at X
   rcases X with rfl|rfl|rfl|rfl|rfl <;> exact⟨by decide,iG rfl⟩
  have hc:fu u.1 o=some (SB (l++z)):=by rw [R,hz];exact jq l z (by omega)
  simp only [cond_true,g1,hc,ob_]
  exact⟨l++z,_,rfl,by simp only [List.length_append];omega,eX O I⟩
theorem Px (n:Int):qj (Lib.itoa n)=Lib.decDigits n.natAbs:=by
 by_cases h:n<0
 ·rw [itoa_neg h];simp [qj]
 ·rw [CK (by omega),show n.toNat=n.natAbs by omega]
  cases hd:Lib.decDigits n.natAbs with
  | nil=>rfl
  | cons b t =>
   have hb:=LZ n.natAbs b (by rw [hd];exact List.mem_cons_self)
   have:b≠45:=λe=>by rw [e]at hb;exact absurd hb (by decide)
   simp [qj,this]
theorem O4 (n:Int):Lib.atoi (Lib.itoa n)=some n:=by
 by_cases h:n<0
 ·have hf:=FK n.natAbs
  rw [itoa_neg h]
  cases hd:Lib.decDigits n.natAbs with
  | nil=>exact absurd hd (K3 _)
  | cons b t =>
   rw [hd]at hf
   have o:Lib.decNat (b::t)=some n.natAbs:=by unfold Lib.decNat;exact hf
   have:(-(n.natAbs:Int))=n:=by omega
   simp only [Lib.atoi,o]
   simp [this]
   try omega
 ·rw [CK (by omega),atoi_dd]
  congr 1;omega
theorem Qs {n:Int} (h1 : -1000000000<n) (h2:n<1000000000):nS (SB (Lib.itoa n)) 15=some (n,true):=by
 have hsz:∀r:List UInt8,((SB r).size:Int)=(r.length:Int):=λr=>by rw [fG]
 have I:=Mx 8 n.natAbs (by omega)
 have L:(Lib.itoa n).length<=10:=by
  by_cases h:n<0
  ·rw [itoa_neg h];simp only [List.length_cons];omega
  ·rw [CK (by omega),show n.toNat=n.natAbs by omega];omega
 have M:strconv_Atoi (SB (Lib.itoa n))=some n:=by
  show Fh (SB (Lib.itoa n))=some n
  unfold Fh
  rw [if_pos (by rw [fG];omega)];exact O4 n
 have o:(Lib.decDigits n.natAbs).all uH=true:=List.all_eq_true.2 (LZ _)
 have B:=Jl n.natAbs
 unfold nS
 rw [M5 _ (by omega),ob_,zy,hsz,Px]
 cases hd:Lib.decDigits n.natAbs with
 | nil=>exact absurd hd (K3 _)
 | cons b t =>
 rw [hd]at I o
 have J:yV (SB (b::t)) 0=some b:=by
  have F:=uO (SB (b::t)) 0 (by rw [fG];simp)
  rw [show ((0:Nat):Int)=0 from rfl]at F
  rw [F];rfl
 have A:(bif ((b.toNat:Int)==48)then some (sNe (SB (Lib.itoa n)) (⟨#[48]⟩:ByteArray))else some false)=some false:=by
  by_cases h0:n.natAbs=0
  ·have:n=0:=by omega
   subst this
   have e:SB (Lib.itoa 0)=(⟨#[48]⟩:ByteArray):=by rw [CK (by decide),show (0:Int).toNat=0 from rfl,ddS (by decide)];rfl
   have e2:sNe (SB (Lib.itoa 0)) (⟨#[48]⟩:ByteArray)=false:=by
    show (!sEq (SB (Lib.itoa 0)) (⟨#[48]⟩:ByteArray))=false
    rw [(gY _ _).2 e];rfl
   rw [e2]
   cases ((b.toNat:Int)==48) <;> rfl
  ·have:=B h0 b t hd
   rw [show ((b.toNat:Int)==48)=false by rw [beq_eq_false_iff_ne];omega];rfl
 simp only [List.isEmpty_cons,cond_false]
 rw [decide_eq_false (by omega),cond_false,J,ob_,A,ob_,cond_false,KU _ (by omega),o,cond_true,ob_,lX,M,ob_]
theorem La (ns:List Int) (h:∀n∈ns,-1000000000<n/\n<1000000000) (hl:ns.length<=1000):fP ((ns.map Lib.itoa).map SB)=some (ns,true):=by
 have key:∀(xs:List Int) (k:Nat) (o:List Int),(∀n∈xs,-1000000000<n/\n<1000000000)->o.length+xs.length<=1000000->forR (λk x s=>di k x s) ((xs.map Lib.itoa).map SB) k o=some (.go (o++xs)):=by
  intro xs
  induction xs with
  | nil=>exact λk o _ _=>by simp [forR]
  | cons x xs I =>
   intro k o F ho
   simp only [List.length_cons]at ho
   have B:=F x (by simp)
   have A:di k (SB (Lib.itoa x)) o=some (.go (o++[x])):=by
    unfold di
    rw [Qs B.1 B.2,ob_]
    simp only [Bool.not_true,cond_false]
    rw [nD _ _ (by simp only [List.length_cons,List.length_nil];omega)];rfl
   rw [List.map_cons,List.map_cons,forR,A,ob_]
   simp only []
   rw [I (k+1) (o++[x]) (λw hm=>F w (by simp [hm])) (by simp only [List.length_append,List.length_cons,List.length_nil];omega)]
   simp
 unfold fP
 rw [gJ (by simp;omega),key ns 0 [] h (by simp only [List.length_nil];omega)];rfl
theorem Kc {c:UInt8}:∀(ws:List (List UInt8)),ws ≠ []->(∀w∈ws,c∉w)->spl c (Lib.join ws [c])=ws
 | [],h,_=>absurd rfl h
 | [w],_,h=>by rw [Lib.join_one];exact QJ (h w (by simp))
 | w::v::r,_,h=>by
  have e:Lib.join (w::v::r) [c]=w++c::Lib.join (v::r) [c]:=by rw [nK];simp
  rw [e,IG _ (h w (by simp)),Kc (v::r) (by simp) (λx o=>h x (List.mem_cons_of_mem _ o))]
theorem G5:∀(xs:List (List UInt8)),(∀x∈xs,(10:UInt8)∉x)->spl 10 (xs.flatMap λx=>x++[10])=xs++[[]]
 | [],_=>rfl
 | x::r,h=>by
  rw [List.flatMap_cons,List.append_assoc,List.cons_append,List.nil_append,IG _ (h x (by simp)),G5 r (λy o=>h y (List.mem_cons_of_mem _ o))];rfl
theorem DX {c s:UInt8} (hs:c≠s):∀(ws:List (List UInt8)),(∀w∈ws,c∉w)->c∉Lib.join ws [s]
 | [],_=>by simp [Lib.join_nil]
 | [w],h=>by rw [Lib.join_one];exact h w (by simp)
 | w::v::r,h=>by
  rw [nK]
  intro hm
  rcases List.mem_append.1 hm with hm|hm
  ·exact h w (by simp) hm
  ·rcases List.mem_append.1 hm with hm|hm
   ·exact hs (List.mem_singleton.1 hm)
   ·exact DX hs (v::r) (λx o=>h x (List.mem_cons_of_mem _ o)) hm
theorem Pm {l:List UInt8} (h:l ≠ []):sEq (⟨#[]⟩:ByteArray) (SB l)=false:=by
 cases hq:sEq (⟨#[]⟩:ByteArray) (SB l)with
 | false=>rfl
 | true =>
  have:=congrArg (λs:ByteArray=>s.data.toList) ((gY _ _).1 hq)
  exact absurd this.symm h
theorem Cy:∀(ws:List (List UInt8)) (k:Nat),(∀w∈ws,w ≠ [])->forR (λk x s=>bA (⟨#[]⟩:ByteArray) k x s) (ws.map SB) k ()=some (.go ())
 | [],k,h=>rfl
 | w::ws,k,h=>by
  have o:bA (⟨#[]⟩:ByteArray) k (SB w) ()=some (.go ()):=by
   unfold bA
   rw [Pm (h w (by simp))];rfl
  rw [List.map_cons,forR,o,ob_]
  exact Cy ws (k+1) (λy A=>h y (List.mem_cons_of_mem _ A))
theorem Cu {ws:List (List UInt8)} (B:ws ≠ []) (h:∀w∈ws,(32:UInt8)∉w/\w ≠ []) (hl:ws.length<=1000000) (F:(Lib.join ws [32]).length<=100000000):nY (SB (Lib.join ws [32]))=some (ws.map SB,true):=by
 have o:bU (ws.map SB) (⟨#[]⟩:ByteArray)=some false:=by
  unfold bU bu
  rw [gJ (by rw [List.length_map];omega),Cy ws 0 (λw A=>(h w A).2),ob_,lX,ob_];rfl
 unfold nY
 rw [EW 32 (by rw [fG];omega),ob_]
 have e:((spl 32 (SB (Lib.join ws [32])).data.toList).map λl=>(⟨l.toArray⟩:ByteArray))=ws.map SB:=by
  show ((spl 32 (Lib.join ws [32])).map λl=>(⟨l.toArray⟩:ByteArray))=_
  rw [Kc ws B (λw A=>(h w A).1)]
  first | done | rfl
 rw [e,o];rfl
theorem Ct {x:List UInt8} (o:x.length<=1000000) (h:x.head? ≠ some 116):∃t,strings_CutPrefix (SB x) C8=some (SB t,false):=by
 obtain ⟨t,b,A,_,_,B,_⟩:=cutp x o
 cases b with
 | false=>exact⟨t,A⟩
 | true=>exact absurd (by rw [B rfl];rfl) h
theorem Rx {t:List UInt8} (h:t.length<=100000):strings_CutPrefix (SB ([116,101,120,116,32]++t)) C8=some (SB t,true):=by
 obtain ⟨t',b,o,_,_,B,A⟩:=cutp ([116,101,120,116,32]++t) (by simp;omega)
 cases b with
 | false=>exact absurd rfl (A rfl)
 | true =>
  have e:=List.append_cancel_left (B rfl)
  rw [o,e]
def headW (x:Alert):List (List UInt8):=[[97,108,101,114,116],x.Id.data.toList,x.Sender.data.toList,nZ x.Kind]++([x.At,x.Until,x.Weight]:List Int).map Lib.itoa
def Ez (r:ByteArray):List UInt8:=Lib.join [[114,101,102],r.data.toList] [32]
def xN (r:Rect):List UInt8:=Lib.join ([97,114,101,97]::(numR r).map Lib.itoa) [32]
def E8 (t:ByteArray):List (List UInt8):=if t=⟨#[]⟩then []else [[116,101,120,116,32]++t.data.toList]
def wG (x:Alert):List (List UInt8):=Lib.join (headW x) [32]::(x.Refs.map Ez++(x.Areas.map xN++E8 x.Text))
theorem EY:∀l:List ByteArray,(l.map Ez).flatMap (λx=>x++[10])=lu l
 | []=>rfl
 | r::l=>by
  rw [List.map_cons,List.flatMap_cons,EY l]
  simp [Ez,lu,nK,Lib.join_one]
theorem CO:∀l:List Rect,(l.map xN).flatMap (λx=>x++[10])=iU l
 | []=>rfl
 | r::l=>by
  rw [List.map_cons,List.flatMap_cons,CO l]
  have:xN r=[97,114,101,97]++([32]++Lib.join ((numR r).map Lib.itoa) [32]):=by unfold xN numR;rw [List.map_cons,nK]
  rw [this]
  simp [iU]
theorem KI (x:Alert):jJ x=(wG x).flatMap (λx=>x++[10]):=by
 unfold wG
 rw [List.flatMap_cons,List.flatMap_append,List.flatMap_append,EY,CO]
 have h1:jw x=Lib.join (headW x) [32]++[10]:=by
  unfold jw headW
  simp only [List.cons_append,List.nil_append,List.map_cons,List.map_nil,nK,Lib.join_one]
  simp
 have h2:qQ x.Text=(E8 x.Text).flatMap (λx=>x++[10]):=by
  unfold qQ E8
  by_cases h:x.Text=⟨#[]⟩
  ·rw [if_pos h,if_pos h];rfl
  ·rw [if_neg h,if_neg h];simp
 unfold jJ
 rw [h1,h2]
 simp only [List.append_assoc]
structure WordsOk (x:Alert):Prop where
 id:keyB x.Id=true
 sender:keyB x.Sender=true
 kind:1<=x.Kind/\x.Kind<=3
 refs:∀r∈x.Refs,keyB r=true
 rlen:x.Refs.length<=100
 alen:x.Areas.length<=100
 nums:∀n∈([x.At,x.Until,x.Weight]:List Int),-1000000000<n/\n<1000000000
 areas:∀r∈x.Areas,∀n∈numR r,-1000000000<n/\n<1000000000
 text:(10:UInt8)∉x.Text.data.toList
 tlen:x.Text.size<=500
theorem Md {s:ByteArray} (h:keyB s=true):s.data.toList ≠ []:=λe=>by
 unfold keyB at h
 simp only [Bool.and_eq_true,decide_eq_true_eq]at h
 have:=Go.Lib.size_eq s
 rw [e]at this
 exact h.1 this
theorem Nq (n:Int):Lib.itoa n ≠ []:=by
 by_cases h:n<0
 ·rw [itoa_neg h];simp
 ·rw [CK (by omega)];exact K3 _
theorem word_ne (k:Int):nZ k ≠ []:=by
 unfold nZ
 split
 ·simp
 ·split <;> simp
theorem JU {x:Alert} (h:WordsOk x):∀w∈headW x,((32:UInt8)∉w/\w ≠ [])/\(10:UInt8)∉w:=λw o=>by
 unfold headW at o
 rcases List.mem_append.1 o with o|o
 ·simp only [List.mem_cons,List.not_mem_nil,or_false]at o
  rcases o with rfl|rfl|rfl|rfl
  ·decide
  ·exact⟨⟨BR h.id (by decide),Md h.id⟩,BR h.id (by decide)⟩
  ·exact⟨⟨BR h.sender (by decide),Md h.sender⟩,BR h.sender (by decide)⟩
  ·exact⟨⟨NS (.inl rfl),word_ne _⟩,NS (.inr rfl)⟩
 ·obtain ⟨n,_,rfl⟩:=List.mem_map.1 o
  exact⟨⟨AP n (by decide) (by decide),Nq n⟩,AP n (by decide) (by decide)⟩
theorem Nh {r:ByteArray} (h:keyB r=true):∀w ∈ [[114,101,102],r.data.toList],((32:UInt8)∉w/\w ≠ [])/\(10:UInt8)∉w:=λw o=>by
 simp only [List.mem_cons,List.not_mem_nil,or_false]at o
 rcases o with rfl|rfl
 ·decide
 ·exact⟨⟨BR h (by decide),Md h⟩,BR h (by decide)⟩
theorem Lg (r:Rect):∀w ∈ [97,114,101,97]::(numR r).map Lib.itoa,((32:UInt8)∉w/\w ≠ [])/\(10:UInt8)∉w:=λw h=>by
 rcases List.mem_cons.1 h with rfl|h
 ·decide
 ·obtain ⟨n,_,rfl⟩:=List.mem_map.1 h
  exact⟨⟨AP n (by decide) (by decide),Nq n⟩,AP n (by decide) (by decide)⟩
theorem OY {x:Alert} (h:WordsOk x):∀q∈wG x,(10:UInt8)∉q:=λq o=>by
 unfold wG at o
 rcases List.mem_cons.1 o with rfl|o
 ·exact DX (by decide) _ λw A=>(JU h w A).2
 ·rcases List.mem_append.1 o with o|o
  ·obtain ⟨r,B,rfl⟩:=List.mem_map.1 o
   exact DX (by decide) _ λw A=>(Nh (h.refs r B) w A).2
  ·rcases List.mem_append.1 o with o|o
   ·obtain ⟨r,_,rfl⟩:=List.mem_map.1 o
    exact DX (by decide) _ λw A=>(Lg r w A).2
   ·unfold E8 at o
    split at o
    ·cases o
    ·rw [List.mem_singleton.1 o]
     intro hm
     rcases List.mem_append.1 hm with hm|hm
     ·exact absurd hm (by decide)
     ·exact h.text hm
theorem AX {l l':List Alert} {x:List UInt8} (h:alert_readLine l (SB x)=some (l',true)):wO l x=some l':=by unfold wO;rw [h]
theorem IP {s:ByteArray} (h:keyB s=true):s.data.toList.length<=40:=by rw [<- Go.Lib.size_eq];exact D7 h
theorem Bj (m:Nat):∀ws:List (List UInt8),(∀w∈ws,w.length<=m)->(Lib.join ws [32]).length<=ws.length*(m+1)
 | [],_=>by simp [Lib.join_nil]
 | [w],h=>by rw [Lib.join_one];have:=h w (by simp);simp;omega
 | w::v::r,h=>by
  have h1:=h w (by simp)
  have h2:=Bj m (v::r) (λx o=>h x (List.mem_cons_of_mem _ o))
  rw [nK,List.length_append,List.length_append]
  simp only [List.length_cons,List.length_nil,Nat.add_mul]at h2 ⊢
  omega
theorem GR {n:Int} (h : -1000000000<n/\n<1000000000):(Lib.itoa n).length<=40:=by
 have o:=Mx 8 n.natAbs (by omega)
 by_cases h':n<0
 ·rw [itoa_neg h'];simp only [List.length_cons];omega
 ·rw [CK (by omega),show n.toNat=n.natAbs by omega];omega
theorem OU {x:Alert} (h:WordsOk x):(Lib.join (headW x) [32]).length<=287:=by
 refine Nat.le_trans (Bj 40 (headW x) λw o => ?_) (by rw [show (headW x).length=7 from rfl];decide)
 unfold headW at o
 rcases List.mem_append.1 o with o|o
 ·simp only [List.mem_cons,List.not_mem_nil,or_false]at o
  rcases o with rfl|rfl|rfl|rfl
  ·decide
  ·exact IP h.id
  ·exact IP h.sender
  ·unfold nZ
   split
   ·decide
   ·split <;> decide
 ·obtain ⟨n,A,rfl⟩:=List.mem_map.1 o
  exact GR (h.nums n A)
theorem Pp {x:Alert} (h:WordsOk x) (o:List Alert) (ho:o.length<=1000):wO o (Lib.join (headW x) [32])=some (o++[⟨x.Id,x.Sender,x.Kind,[],x.At,x.Until,x.Weight,[],⟨#[]⟩⟩]):=by
 apply AX
 have F:=OU h
 obtain ⟨t,hc⟩:=Ct (x:=Lib.join (headW x) [32]) (by omega) (by unfold headW;rw [List.cons_append,List.cons_append,nK];simp)
 have M:=Cu (ws:=headW x) (by unfold headW;simp) (λw R=>(JU h w R).1) (by unfold headW;simp) (by omega)
 have Z:=Ed (l:=o) hc M
 have X:=La [x.At,x.Until,x.Weight] h.nums (by simp)
 have Y:bu [(⟨#[]⟩:ByteArray),⟨#[110,101,119]⟩,⟨#[117,112,100,97,116,101]⟩,⟨#[99,97,110,99,101,108]⟩] (SB (nZ x.Kind))=some x.Kind:=by
  unfold bu
  rw [gJ (by decide)]
  have e:x.Kind=1\/x.Kind=2\/x.Kind=3:=by have:=h.kind;omega
  rcases e with e|e|e <;> rw [e] <;> decide +kernel
 obtain ⟨q1,q2,q3,q4,q5,q6,O,q8,q9⟩:=Jt
 have J:idx ((headW x).map SB) 0=some vX:=rfl
 have e1:idx ((headW x).map SB) 1=some x.Id:=rfl
 have e2:idx ((headW x).map SB) 2=some x.Sender:=rfl
 have W:idx ((headW x).map SB) 3=some (SB (nZ x.Kind)):=rfl
 have I:uw ((headW x).map SB) 4 (((headW x).map SB).length:Int)=some ((([x.At,x.Until,x.Weight]:List Int).map Lib.itoa).map SB):=rfl
 have L:((((headW x).map SB).length:Int)==7)=true:=rfl
 have B:gz=some [(⟨#[]⟩:ByteArray),⟨#[110,101,119]⟩,⟨#[117,112,100,97,116,101]⟩,⟨#[99,97,110,99,101,108]⟩]:=rfl
 have i0:idx [x.At,x.Until,x.Weight] 0=some x.At:=rfl
 have N:idx [x.At,x.Until,x.Weight] 1=some x.Until:=rfl
 have i2:idx [x.At,x.Until,x.Weight] 2=some x.Weight:=rfl
 have A:∀y:Alert,jE o [y]=some (o++[y]):=λy=>nD _ _ (by simp only [List.length_cons,List.length_nil];omega)
 rw [Z]
 unfold Nb
 simp only [J,O,L,Bool.not_true,cond_false,cond_true,ob_,B,W,Y,I,X]
 rw [decide_eq_false (by have:=h.kind;omega)]
 simp only [cond_false,e1,e2,i0,N,i2,A,ob_]
theorem PW {a:Alert} {l0:List Alert} {r:ByteArray} (F:keyB r=true) (hT:a.Text=⟨#[]⟩) (I:a.Areas=[]) (hl:a.Refs.length<=1000) (ho:l0.length<=1000):wO (l0++[a]) (Ez r)=some (l0++[({ a with Refs:=a.Refs++[r] }:Alert)]):=by
 apply AX
 have h:(Ez r).length<=82:=by
  refine Nat.le_trans (Bj 40 _ λw A => ?_) (by rw [show [[114,101,102],r.data.toList].length=2 from rfl];decide)
  simp only [List.mem_cons,List.not_mem_nil,or_false]at A
  rcases A with rfl|rfl
  ·decide
  ·exact IP F
 unfold Ez at h ⊢
 obtain ⟨t,hc⟩:=Ct (x:=Lib.join [[114,101,102],r.data.toList] [32]) (by omega) (by rw [nK];simp)
 have O:=Cu (ws:=[[114,101,102],r.data.toList]) (by simp) (λw A=>(Nh F w A).1) (by simp) (by omega)
 have W:=Ed (l:=l0++[a]) hc O
 obtain ⟨X,i2⟩:=last_at (l0:=l0) (a:=a) (by omega)
 obtain ⟨q1,q2,R,q4,q5,Y,Z,M,q9⟩:=Jt
 have N:dw Alert.Refs (l0++[a])=a.Refs:=eT _ _ _
 have B:dw Alert.Areas (l0++[a])=a.Areas:=eT _ _ _
 have J:((([]:List Rect).length:Int)==0)=true:=rfl
 have L:idx ([[114,101,102],r.data.toList].map SB) 0=some Cw:=rfl
 have e1:idx ([[114,101,102],r.data.toList].map SB) 1=some r:=rfl
 have e2:((([[114,101,102],r.data.toList].map SB).length:Int)==2)=true:=rfl
 have o:jE a.Refs [r]=some (a.Refs++[r]):=nD _ _ (by simp only [List.length_cons,List.length_nil];omega)
 rw [W]
 unfold zo
 rw [wo]
 simp only [L,e1,e2,R,M,X,i2,N,B,I,J,o,lJ,oF,Bool.not_true,cond_true,cond_false,ob_]
 rw [decide_eq_false (by simp [hT])]
 simp only [cond_true,cond_false,ob_]
theorem Ol {a:Alert} {l0:List Alert} {r:Rect} (I:∀n∈numR r,-1000000000<n/\n<1000000000) (hT:a.Text=⟨#[]⟩) (hl:a.Areas.length<=1000) (ho:l0.length<=1000):wO (l0++[a]) (xN r)=some (l0++[({ a with Areas:=a.Areas++[r] }:Alert)]):=by
 apply AX
 have h:(xN r).length<=205:=by
  refine Nat.le_trans (Bj 40 _ λw A => ?_) (by rw [show ([97,114,101,97]::(numR r).map Lib.itoa).length=5 from rfl];decide)
  rcases List.mem_cons.1 A with rfl|A
  ·decide
  ·obtain ⟨n,F,rfl⟩:=List.mem_map.1 A
   exact GR (I n F)
 unfold xN at h ⊢
 obtain ⟨t,hc⟩:=Ct (x:=Lib.join ([97,114,101,97]::(numR r).map Lib.itoa) [32]) (by omega) (by unfold numR;rw [List.map_cons,nK];simp)
 have L:=Cu (ws:=[97,114,101,97]::(numR r).map Lib.itoa) (by simp) (λw A=>(Lg r w A).1) (by unfold numR;simp) (by omega)
 have hP:=Ed (l:=l0++[a]) hc L
 obtain ⟨N,i2⟩:=last_at (l0:=l0) (a:=a) (by omega)
 obtain ⟨q1,q2,q3,q4,Z,q6,q7,q8,O⟩:=Jt
 have B:dw Alert.Areas (l0++[a])=a.Areas:=eT _ _ _
 have F:=La (numR r) I (by unfold numR;simp)
 have J:idx (([97,114,101,97]::(numR r).map Lib.itoa).map SB) 0=some wS:=rfl
 have M:(((([97,114,101,97]::(numR r).map Lib.itoa).map SB).length:Int)==5)=true:=rfl
 have e4:uw (([97,114,101,97]::(numR r).map Lib.itoa).map SB) 1 ((([97,114,101,97]::(numR r).map Lib.itoa).map SB).length:Int)=some (((numR r).map Lib.itoa).map SB):=rfl
 have z0:idx (numR r) 0=some r.X:=rfl
 have R:idx (numR r) 1=some r.Y:=rfl
 have z2:idx (numR r) 2=some r.W:=rfl
 have z3:idx (numR r) 3=some r.H:=rfl
 have o:∀y:Rect,jE a.Areas [y]=some (a.Areas++[y]):=λy=>nD _ _ (by simp only [List.length_cons,List.length_nil];omega)
 rw [hP]
 unfold zo
 rw [wo]
 simp only [J,M,e4,Z,q6,O,F,z0,R,z2,z3,N,i2,B,o,lJ,oF,Bool.not_true,cond_true,cond_false,ob_]
 rw [decide_eq_false (by simp [hT])]
 simp only [cond_true,cond_false,ob_]
theorem Ph {a:Alert} {l0:List Alert} {t:ByteArray} (ht:t≠⟨#[]⟩) (hs:t.size<=500) (hT:a.Text=⟨#[]⟩) (ho:l0.length<=1000):wO (l0++[a]) ([116,101,120,116,32]++t.data.toList)=some (l0++[({ a with Text:=t }:Alert)]):=by
 apply AX
 have hc:=Rx (t:=t.data.toList) (by rw [<- Go.Lib.size_eq];omega)
 have et:SB t.data.toList=t:=rfl
 rw [et]at hc
 obtain ⟨o,i2⟩:=last_at (l0:=l0) (a:=a) (by omega)
 have h:=wo l0 a
 have e1:sEq t (⟨#[]⟩:ByteArray)=false:=by
  cases hq:sEq t (⟨#[]⟩:ByteArray)with
  | false=>rfl
  | true=>exact absurd ((gY _ _).1 hq) ht
 unfold alert_readLine
 rw [hc]
 simp only [ob_,cond_true,h,cond_false,e1,o,i2,oF,lJ]
 rw [decide_eq_false (by simp [hT])]
 simp only [cond_false,ob_]
noncomputable def nV:List Alert->List (List UInt8)->Option (List Alert)
 | l,[]=>some l
 | l,x::xs=>(wO l x).bind λl'=>nV l' xs
theorem yF:∀(xs ys:List (List UInt8)) (l l':List Alert),nV l xs=some l'->nV l (xs++ys)=nV l' ys
 | [],ys,l,l',h=>by
  simp only [nV,so_]at h
  rw [h];rfl
 | x::xs,ys,l,l',h=>by
  simp only [nV]at h
  rw [List.cons_append,nV]
  cases hx:wO l x with
  | none=>rw [hx]at h;cases h
  | some m =>
   rw [hx,ob_]at h
   rw [ob_]
   exact yF xs ys m l' h
theorem GQ:∀(xs:List (List UInt8)) (k:Nat) (A o:List Alert),nV A xs=some o->wK (xs++[[]]) k A = .inr o
 | [],k,A,o,h=>by
  simp only [nV,so_]at h
  simp [wK,h]
 | x::xs,k,A,o,h=>by
  simp only [nV]at h
  cases hx:wO A x with
  | none=>rw [hx]at h;cases h
  | some m =>
   rw [hx,ob_]at h
   have B:=GQ xs (k+1) m o h
   obtain ⟨y,r,F⟩:∃y r,xs++[[]]=y::r:=by
    cases xs with
    | nil=>exact⟨_,_,rfl⟩
    | cons y r=>exact⟨_,_,rfl⟩
   rw [List.cons_append,F]
   rw [F]at B
   unfold wK
   rw [hx]
   exact B
theorem Ij:∀(o:List ByteArray) (a:Alert) (l0:List Alert),(∀r∈o,keyB r=true)->a.Text=⟨#[]⟩->a.Areas=[]->a.Refs.length+o.length<=1000->l0.length<=1000->nV (l0++[a]) (o.map Ez)=some (l0++[({ a with Refs:=a.Refs++o }:Alert)])
 | [],a,l0,_,_,_,_,_=>by rw [List.append_nil];rfl
 | r::o,a,l0,h,hT,A,hl,ho=>by
  simp only [List.length_cons]at hl
  rw [List.map_cons,nV,PW (h r (by simp)) hT A (by omega) ho,ob_]
  rw [Ij o ({ a with Refs:=a.Refs++[r] }:Alert) l0 (λq B=>h q (List.mem_cons_of_mem _ B)) hT A (by show (a.Refs++[r]).length+_<=_;simp only [List.length_append,List.length_cons,List.length_nil];omega) ho]
  simp
theorem EM:∀(o:List Rect) (a:Alert) (l0:List Alert),(∀r∈o,∀n∈numR r,-1000000000<n/\n<1000000000)->a.Text=⟨#[]⟩->a.Areas.length+o.length<=1000->l0.length<=1000->nV (l0++[a]) (o.map xN)=some (l0++[({ a with Areas:=a.Areas++o }:Alert)])
 | [],a,l0,_,_,_,_=>by rw [List.append_nil];rfl
 | r::o,a,l0,h,hT,hl,ho=>by
  simp only [List.length_cons]at hl
  rw [List.map_cons,nV,Ol (h r (by simp)) hT (by omega) ho,ob_]
  rw [EM o ({ a with Areas:=a.Areas++[r] }:Alert) l0 (λq A=>h q (List.mem_cons_of_mem _ A)) hT (by show (a.Areas++[r]).length+_<=_;simp only [List.length_append,List.length_cons,List.length_nil];omega) ho]
  simp
theorem RA {x:Alert} (h:WordsOk x) (o:List Alert) (ho:o.length<=1000):nV o (wG x)=some (o++[x]):=by
 have B:=h.rlen
 have A:=h.alen
 unfold wG
 rw [nV,Pp h o ho,ob_]
 rw [yF _ _ _ _ (Ij x.Refs ⟨x.Id,x.Sender,x.Kind,[],x.At,x.Until,x.Weight,[],⟨#[]⟩⟩ o h.refs rfl rfl (by show 0+_<=_;omega) ho)]
 rw [yF _ _ _ _ (EM x.Areas _ o h.areas rfl (by show 0+_<=_;omega) ho)]
 unfold E8
 by_cases ht:x.Text=⟨#[]⟩
 ·rw [if_pos ht,nV]
  congr 3
  simp only [List.nil_append]
  rw [<- ht]
 ·rw [if_neg ht,nV,Ph ht h.tlen rfl ho,ob_,nV]
  simp only [List.nil_append]
theorem K8:∀(l o:List Alert),(∀x∈l,WordsOk x)->o.length+l.length<=1000->nV o (l.flatMap wG)=some (o++l)
 | [],o,_,_=>by rw [List.append_nil];rfl
 | x::l,o,h,ho=>by
  simp only [List.length_cons]at ho
  rw [List.flatMap_cons,yF _ _ _ _ (RA (h x (by simp)) o (by omega)),K8 l (o++[x]) (λy A=>h y (List.mem_cons_of_mem _ A)) (by simp only [List.length_append,List.length_cons,List.length_nil];omega)]
  simp
theorem Cx:∀l:List Alert,textA l=(l.flatMap wG).flatMap (λx=>x++[10])
 | []=>rfl
 | x::l=>by
  have e:textA (x::l)=jJ x++textA l:=by simp [textA]
  rw [e,List.flatMap_cons,List.flatMap_append,<- Cx l,KI]
theorem LV {al:List Alert} (h:∀x∈al,WordsOk x) (hl:al.length<=100) (ht:(textA al).length<=100000) (B:∀b∈textA al,b.toNat<128) (hc:bO al=some 0):lK (SB (textA al))=some (al,0,0):=by
 obtain ⟨h1,_⟩:=Ie (textA al) ht B
 have hs:spl 10 (textA al)=al.flatMap wG++[[]]:=by
  rw [Cx]
  exact G5 _ (λq o=>by
   obtain ⟨x,A,o⟩:=List.mem_flatMap.1 o
   exact OY (h x A) q o)
 have hf:=K8 al [] h (by simp only [List.length_nil];omega)
 rw [List.nil_append]at hf
 rw [h1,hs,GQ _ 0 [] al hf]
 simp only []
 rw [hc];rfl
theorem Ka {x:Alert} (h:RightA x):WordsOk x:=by
 have h1:=h.at_
 have h2:=h.until_
 have J:=h.weight
 have B:=h.alen
 refine⟨(JG _ h.id).1,?_,h.kind,λr A => ?_,?_,by omega,λn o => ?_,λr A n o => ?_,?_,?_⟩
 ·rcases h.sender with e|e <;> rw [e] <;> kernel_rfl
 ·rcases h.refs with hs|hs
  ·exact (Fy r (hs.subset A)).1
  ·rw [hs]at A;rw [List.mem_singleton.1 A];kernel_rfl
 ·have:=h.refsLen;omega
 ·simp only [List.mem_cons,List.not_mem_nil,or_false]at o
  rcases o with rfl|rfl|rfl <;> omega
 ·obtain ⟨⟨f1,f2,f3,I,F⟩,g⟩:=h.areas r A
  simp only [numR,List.mem_cons,List.not_mem_nil,or_false]at o
  rcases o with rfl|rfl|rfl|rfl <;> omega
 ·rcases h.text with e|e|⟨_,e|e⟩ <;> rw [e] <;> decide
 ·rcases h.text with e|e|⟨_,e|e⟩ <;> rw [e] <;> decide
theorem O5 {x:Alert} (h:RightA x):(jJ x).length<=10000:=by
 have hf:=Bv h
 have L:=h.refsLen
 have J:=h.alen
 have O:=xO hf.id
 have N:=xO hf.sender
 have o:=rJ [x.At,x.Until,x.Weight] hf.nums
 simp only [List.length_cons,List.length_nil]at o
 have B:x.Kind=1\/x.Kind=2\/x.Kind=3:=by have:=hf.kind;omega
 have A:(nZ x.Kind).length<=6:=by
  rcases B with e|e|e <;> rw [e] <;> decide
 have M:=uU x.Refs hf.refs
 have I:=sI x.Areas hf.areas
 have F:x.Text.data.toList.length<=500:=by rw [<- Go.Lib.size_eq];exact hf.tlen
 have ht:(qQ x.Text).length<=506:=by
  unfold qQ
  split
  ·simp
  ·simp only [List.length_append,List.length_cons,List.length_nil];omega
 unfold jJ jw
 simp only [List.length_append,List.length_cons,List.length_nil];omega
theorem Ey:∀(l:List Alert),(∀x∈l,RightA x)->(textA l).length<=l.length*10000
 | [],_=>by simp [textA]
 | x::l,h=>by
  have:=O5 (h x (by simp))
  have:=Ey l (λy o=>h y (by simp [o]))
  have e:textA (x::l)=jJ x++textA l:=by simp [textA]
  rw [e,List.length_append,List.length_cons,Nat.add_mul];omega
theorem ready_F:xn=some true:=by kernel_rfl
theorem KH:nH=some true:=Gp _ ready_F
theorem OW (l:List Alert) (h:∀e∈l,jL e e=some true) (hl:l.length<=1000):aU l l=some true:=by
 unfold aU
 have key:∀(xs:List Alert) (k:Nat),(∀i x,xs[i]? = some x->l[k+i]? = some x)->(∀e∈xs,jL e e=some true)->forR (λk x s=>aO l k x s) xs k ()=some (.go ()):=by
  intro xs
  induction xs with
  | nil=>exact λk _ _=>rfl
  | cons x xs F =>
   intro k h hs
   have A:=h 0 x rfl
   rw [Nat.add_zero]at A
   have o:aO l k x ()=some (.go ()):=by
    unfold aO
    rw [Ju,A,ob_,hs x (by simp)];rfl
   rw [forR,o,ob_]
   exact F (k+1) (λi y I=>by have:=h (i+1) y I;rw [show k+1+i=k+(i+1) by omega];exact this) (λe he=>hs e (List.mem_cons_of_mem _ he))
 rw [bne_self_eq_false,cond_false,gJ (by omega),key l 0 (λi x B=>by rw [Nat.zero_add];exact B) h,ob_];rfl
theorem alertsComeBack (l:List Int):jN l=some true:=by
 have F:Ok (⟨l,0⟩:Stream) 0:=⟨Int.le_refl _,Int.le_refl _⟩
 obtain ⟨al,s1,I,a2,a3⟩:=CR 5 (by decide) ⟨l,0⟩ F (by decide)
 obtain ⟨u,s2,A,L,B⟩:=JM s1 a3 (by decide)
 have O:al.length<=5:=a2.len
 have hc:=Gw a2 (by decide)
 have hl:=Ey al a2.right
 have h:∀x∈al,FitB x:=λx o=>Bv (a2.right x o)
 have ht:=Ke h (by omega) (by omega) hc
 have M:=LV (λx o=>Ka (a2.right x o)) (by omega) (by omega) (BF al a2.right) hc
 have hs:=OW al (λx o=>QZ (h x o)) (by omega)
 obtain ⟨r,N,J⟩:=O8 u L B
 unfold jN
 simp only [I,ht,M,hs,A,N,ob_,bne_self_eq_false,cond_false,Bool.not_true]
 by_cases hr0:r.2.2=0
 ·simp only [hr0,beq_self_eq_true,cond_true,J hr0,ob_,(gY (SB u) (SB u)).2 rfl,KH]
 ·rw [show (r.2.2==0)=false by simpa using hr0]
  simp only [cond_false,KH,ob_]
end Go.Proofs.YtljhfffghjclfabGreatDoor.Law

