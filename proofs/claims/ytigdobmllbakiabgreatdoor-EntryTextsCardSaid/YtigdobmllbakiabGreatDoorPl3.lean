/-
  THE PLAIN LAW (part 3).
-/
import Derived.Test.YtigdobmllbakiabGreatDoorPl2
import Derived.Test.YtigdobmllbakiabGreatDoorDefs
open Go Go.Eng
namespace Go.Proofs.YtigdobmllbakiabGreatDoor.Law
set_option linter.unusedVariables false
set_option linter.unusedSimpArgs false
def okW (w:List UInt8):Bool := !w.isEmpty && !w.contains 32 && !w.contains 10&&decide (w.length<=10)
theorem EJ {w:List UInt8} (h:okW w=true):w ≠ []/\(32:UInt8)∉w/\(10:UInt8)∉w/\w.length<=10:=by
 unfold okW at h
 simp only [Bool.and_eq_true,Bool.not_eq_true',decide_eq_true_eq]at h
 obtain ⟨⟨⟨a,b⟩,c⟩,d⟩:=h
 refine⟨λe=>(by rw [e]at a;cases a),λhm => ?_,λhm => ?_,d⟩
 ·rw [List.contains_iff_mem.2 hm]at b;cases b
 ·rw [List.contains_iff_mem.2 hm]at c;cases c
theorem Im {n:Int} (h0:0<=n):∀b∈Lib.itoa n,lW b=true:=by
 have hi:Lib.itoa n=Lib.decDigits n.toNat:=by unfold Lib.itoa;rw [if_neg (by omega)]
 rw [hi];exact dd_all _
theorem Da {n:Int} (h0:0<=n) {c:UInt8} (hc:lW c=false):c∉Lib.itoa n:=λhm=>by
 rw [Im h0 c hm]at hc;cases hc
theorem G8 {n:Int} (h0:0<=n):Lib.itoa n ≠ []:=by
 have hi:Lib.itoa n=Lib.decDigits n.toNat:=by unfold Lib.itoa;rw [if_neg (by omega)]
 rw [hi];exact dd_ne _
theorem GA {n:Int} (h0:0<=n) (h1:n<10000):(Lib.itoa n).length<=4:=by
 have hi:Lib.itoa n=Lib.decDigits n.toNat:=by unfold Lib.itoa;rw [if_neg (by omega)]
 rw [hi];exact Ij 3 _ (by omega)
theorem Ic {n:Int} (h0:0<=n) (h1:n<10000):okW (Lib.itoa n)=true:=by
 have a:=G8 h0
 have b:=Da h0 (c:=32) (by decide)
 have c:=Da h0 (c:=10) (by decide)
 have d:=GA h0 h1
 unfold okW
 simp only [Bool.and_eq_true,Bool.not_eq_true',decide_eq_true_eq]
 refine⟨⟨⟨?_,?_⟩,?_⟩,by omega⟩
 ·cases h:Lib.itoa n with
  | nil=>exact absurd h a
  | cons _ _=>rfl
 ·cases h:(Lib.itoa n).contains 32 with
  | false=>rfl
  | true=>exact absurd (List.contains_iff_mem.1 h) b
 ·cases h:(Lib.itoa n).contains 10 with
  | false=>rfl
  | true=>exact absurd (List.contains_iff_mem.1 h) c
theorem sub3 {α:Type} {t:List α} {a b c:α} (h:t.Sublist [a,b,c]):t=[]\/t=[a]\/t=[b]\/t=[c]\/t=[a,b]\/t=[a,c]\/t=[b,c]\/t=[a,b,c]:=by
 cases h with
 | cons _ h=>cases h with
  | cons _ h=>cases h with
   | cons _ h=>cases h;simp
   | cons_cons _ h=>cases h;simp
  | cons_cons _ h=>cases h with
   | cons _ h=>cases h;simp
   | cons_cons _ h=>cases h;simp
 | cons_cons _ h=>cases h with
  | cons _ h=>cases h with
   | cons _ h=>cases h;simp
   | cons_cons _ h=>cases h;simp
  | cons_cons _ h=>cases h with
   | cons _ h=>cases h;simp
   | cons_cons _ h=>cases h;simp
theorem sub2 {α:Type} {t:List α} {a b:α} (h:t.Sublist [a,b]):t=[]\/t=[a]\/t=[b]\/t=[a,b]:=by
 cases h with
 | cons _ h=>cases h with
  | cons _ h=>cases h;simp
  | cons_cons _ h=>cases h;simp
 | cons_cons _ h=>cases h with
  | cons _ h=>cases h;simp
  | cons_cons _ h=>cases h;simp
theorem GG {t:List Int} (h:t.Sublist [1,2,8]):okW (kM (t.map Lib.itoa))=true:=by
 have e1:Lib.itoa 1=[49]:=by unfold Lib.itoa;rw [if_neg (by decide)];exact ddS (u:=1) (by decide)
 have e2:Lib.itoa 2=[50]:=by unfold Lib.itoa;rw [if_neg (by decide)];exact ddS (u:=2) (by decide)
 have e8:Lib.itoa 8=[56]:=by unfold Lib.itoa;rw [if_neg (by decide)];exact ddS (u:=8) (by decide)
 rcases sub3 h with rfl|rfl|rfl|rfl|rfl|rfl|rfl|rfl <;> simp only [List.map_cons,List.map_nil,e1,e2,e8] <;> decide
theorem Gf {t:List ByteArray} (h:t.Sublist tgL):okW (kM (t.map λx=>x.data.toList))=true:=by
 unfold tgL at h
 rcases sub2 h with rfl|rfl|rfl|rfl <;> decide
theorem Gq (g:Bool):okW (bif g then [103,111,110,101]else [111,110])=true:=by cases g <;> decide
theorem Io {k:ByteArray} (h:k∈keL):okW k.data.toList=true:=by
 simp only [keL,List.mem_cons,List.not_mem_nil,or_false]at h
 rcases h with rfl|rfl|rfl|rfl <;> decide
theorem Gz {k:ByteArray} (h:k∈itL):okW k.data.toList=true:=by
 simp only [itL,List.mem_cons,List.not_mem_nil,or_false]at h
 rcases h with rfl|rfl|rfl <;> decide
theorem x8 {e:Entry} (h:TinyE e):∀w∈bH e,okW w=true:=λw hw=>by
 unfold bH at hw
 rcases List.mem_append.1 hw with hw|hw
 ·rcases List.mem_append.1 hw with hw|hw
  ·simp only [List.mem_cons,List.not_mem_nil,or_false]at hw
   rcases hw with rfl|rfl
   ·exact Io h.key
   ·exact Gz h.item
  ·obtain ⟨n,hn,rfl⟩:=List.mem_map.1 hw
   have:=h.nums n hn
   exact Ic this.1 this.2
 ·simp only [List.mem_cons,List.not_mem_nil,or_false]at hw
  rcases hw with rfl|rfl|rfl
  ·exact Gq _
  ·exact GG h.days
  ·exact Gf h.tags
def mq (e:Entry):List UInt8:=Lib.join (bH e) [32]
theorem CE (e:Entry):(bH e).length=13:=by simp [bH]
theorem Gu {e:Entry} (h:TinyE e):(mq e).length<=143:=by
 have:=pq [32] 10 (bH e) (λw hw=>(EJ (x8 h w hw)).2.2.2)
 rw [CE]at this
 exact this
theorem Ha {e:Entry} (h:TinyE e):∀n ∈ [e.Version,e.First,e.Last,e.Every,e.Days,e.From,e.To,e.Prio],Med n:=λn hn=>by
 have:=h.nums n hn
 unfold Med;omega
theorem IJ {t:List Int} (h:t.Sublist [1,2,8]):∀n∈t,0<=n/\n<10000:=λn hn=>by
 have:=h.subset hn
 simp only [List.mem_cons,List.not_mem_nil,or_false]at this
 omega
def kL (es:List Entry):List UInt8:=(es.map mq).flatMap λx=>x++[10]
theorem Ae:∀(es:List Entry),(∀e∈es,TinyE e)->(kL es).length<=es.length*144
 | [],_=>Nat.le_refl _
 | e::es,h=>by
  have h1:=Gu (h e (by simp))
  have h2:=Ae es (λx hx=>h x (List.mem_cons_of_mem _ hx))
  unfold kL at h2 ⊢
  rw [List.map_cons,List.flatMap_cons,List.length_append,List.length_append,List.length_cons]
  simp only [List.length_cons,List.length_nil]
  omega
theorem FX (l:List ByteArray):ny l=fP l:=rfl
theorem sQ (e:Entry) (hm:∀n ∈ [e.Version,e.First,e.Last,e.Every,e.Days,e.From,e.To,e.Prio],Med n) (hx:∀n∈e.Except,Med n) (hxl:e.Except.length<=10000) (ht:∀t∈e.Tags,t.size<=5000) (htl:e.Tags.length<=10000)
  (hw:∀w∈bH e,w.length<=5000):dZ e=some (SB (mq e)):=by
 have r2:=uR (body:=λk x s=>jF k x s) (λ_ _ _=>rfl) e.Except 0 [] hx (by simp only [List.length_nil];omega)
 rw [List.nil_append]at r2
 have l1:=ru (e.Except.map Lib.itoa) (by rw [List.length_map];omega) (λw hm=>by
  obtain ⟨n,hn,rfl⟩:=List.mem_map.1 hm
  have:=nE (hx n hn)
  omega)
 have etags:e.Tags=(e.Tags.map λt=>t.data.toList).map SB:=by
  rw [List.map_map]
  exact (List.map_id _).symm.trans (List.map_congr_left (λx _=>rfl))
 have l2:=ru (e.Tags.map λt=>t.data.toList) (by rw [List.length_map];omega) (λw hm=>by
  obtain ⟨t,h1,rfl⟩:=List.mem_map.1 hm
  have:=ht t h1
  rw [Go.Lib.size_eq]at this
  omega)
 rw [<- etags]at l2
 have hgone:(bif e.Gone then some (⟨#[103,111,110,101]⟩:ByteArray)else some (⟨#[111,110]⟩:ByteArray))=some (SB (bif e.Gone then [103,111,110,101]else [111,110])):=by cases e.Gone <;> rfl
 have e3:=EB [e.Version,e.First,e.Last,e.Every,e.Days,e.From,e.To,e.Prio] hm (by simp)
 have hnl:=pq [32] 21 ([e.Version,e.First,e.Last,e.Every,e.Days,e.From,e.To,e.Prio].map Lib.itoa) (λx hx=>by
  obtain ⟨n,hn,rfl⟩:=List.mem_map.1 hx
  exact nE (hm n hn))
 simp only [List.length_map,List.length_cons,List.length_nil]at hnl
 have e5:=uL [e.Key.data.toList,e.Item.data.toList,Lib.join ([e.Version,e.First,e.Last,e.Every,e.Days,e.From,e.To,e.Prio].map Lib.itoa) [32],(bif e.Gone then [103,111,110,101]else [111,110]),kM (e.Except.map Lib.itoa),kM (e.Tags.map λt=>t.data.toList)] [32] 5000 (λx hx=>by
  simp only [List.mem_cons,List.not_mem_nil,or_false]at hx
  rcases hx with rfl|rfl|rfl|rfl|rfl|rfl
  ·exact hw _ (by simp [bH])
  ·exact hw _ (by simp [bH])
  ·omega
  ·exact hw _ (by simp [bH])
  ·exact hw _ (by simp [bH])
  ·exact hw _ (by simp [bH])) (by simp) (by decide)
 have hline:Lib.join [e.Key.data.toList,e.Item.data.toList,Lib.join ([e.Version,e.First,e.Last,e.Every,e.Days,e.From,e.To,e.Prio].map Lib.itoa) [32],(bif e.Gone then [103,111,110,101]else [111,110]),kM (e.Except.map Lib.itoa),kM (e.Tags.map λt=>t.data.toList)] [32]=mq e:=by
  unfold mq bH
  simp only [List.map_cons,List.map_nil,List.cons_append,List.nil_append,Lib.join_cons,sJ,FR,List.append_assoc,List.append_nil]
 rw [hline]at e5
 unfold dZ
 simp only [FX]
 rw [eF (by omega),r2,ob_,iH,hgone,ob_,e3,ob_,l1,ob_,l2,ob_]
 exact (congrArg (λo=>o.bind λr=>some r) e5).trans rfl
theorem BG {e:Entry} (h:TinyE e):dZ e=some (SB (mq e)) :=
 sQ e (Ha h) (λn hn=>by have:=IJ h.days n hn;unfold Med;omega) (by have:=h.days.length_le;simp only [List.length_cons,List.length_nil]at this;omega)
  (λt ht=>by
   have:=h.tags.subset ht
   simp only [tgL,List.mem_cons,List.not_mem_nil,or_false]at this
   rcases this with rfl|rfl <;> decide) (by have:=h.tags.length_le;simp only [tgL,List.length_cons,List.length_nil]at this;omega)
  (λw hw=>by have:=(EJ (x8 h w hw)).2.2.2;omega)
theorem tQ (e:Entry) (es:List Entry):kL (e::es)=mq e++[10]++kL es:=by unfold kL;rw [List.map_cons,List.flatMap_cons]
theorem qK:∀(es:List Entry) (k:Nat) (acc:List UInt8),(∀e∈es,dZ e=some (SB (mq e)))->acc.length+(kL es).length<=1000000->forR (λk x s=>fG k x s) es k (SB acc)=some (.go (SB (acc++kL es)))
 | [],k,acc,h,hl=>by
  rw [show kL []=[] from rfl,List.append_nil];rfl
 | e::es,k,acc,h,hl=>by
  rw [tQ,List.length_append,List.length_append]at hl
  simp only [List.length_cons,List.length_nil]at hl
  have hstep:fG k e (SB acc)=some (.go (SB (acc++(mq e++[10])))):=by
   unfold fG
   rw [h e (by simp),ob_,show (⟨#[10]⟩:ByteArray)=SB [10] from rfl,pY (by rw [dA,dA];simp only [List.length_cons,List.length_nil];omega),ob_,Eg,
    pY (by rw [dA,dA,List.length_append];simp only [List.length_cons,List.length_nil];omega),ob_,Eg]
  rw [forR,hstep,ob_]
  simp only []
  rw [qK es (k+1) _ (λy hy=>h y (List.mem_cons_of_mem _ hy)) (by simp only [List.length_append,List.length_cons,List.length_nil];omega),tQ]
  simp
theorem sj (es:List Entry) (h:∀e∈es,dZ e=some (SB (mq e))) (hl:es.length<=1000) (ht:(kL es).length<=1000000):fC es=some (SB (kL es)):=by
 have:=qK es 0 [] h (by simp only [List.length_nil];omega)
 rw [show SB []=(⟨#[]⟩:ByteArray) from rfl,List.nil_append]at this
 unfold fC
 rw [eF (by omega),this];rfl
theorem AV (l:List UInt8) (a b:Nat) (h1:a<=b) (h2:b<=l.length):kJ (SB l) (a:Int) (b:Int)=some (SB ((l.take b).drop a)):=by
 unfold kJ
 rw [if_pos (by rw [dA];omega),Int.toNat_natCast,Int.toNat_natCast]
 congr 1
 apply ByteArray.ext
 apply Array.ext'
 rw [ByteArray.data_extract,Array.toList_extract]
 show l.extract a b=(l.take b).drop a
 rw [List.drop_take]
theorem Bt (t:ByteArray) (a b:Nat) (h1:a<=b) (h2:b<=t.size):∃y,kJ t (a:Int) (b:Int)=some y/\y.size=b-a:=by
 have hl:t.data.toList.length=t.size:=(Go.Lib.size_eq t).symm
 have:=AV t.data.toList a b h1 (by omega)
 refine⟨_,this,?_⟩
 rw [dA,List.length_drop,List.length_take];omega
def chE:ByteArray:=⟨#[32,10,48,45,57,44,101,105]⟩
theorem enc_all:∀i:Fin 8,(Utf8.encode (IntKind.i32.wrap ((dR chE i.val).toNat:Int))).size<=4:=by decide +kernel
theorem uY (x y:ByteArray):(x++y).size=x.size+y.size:=ByteArray.size_append
theorem F4 (s:Stream) (t:ByteArray) {b:Int} (hs:Ok s b) (hb:b<=900000) (ht:t.size<=100000):∃r,fK s t chE=some r/\r.1.size<=t.size+8/\Ok r.2 (b+3):=by
 unfold fK
 have hw:sEq chE (⟨#[]⟩:ByteArray)=false:=by
  cases h:sEq chE (⟨#[]⟩:ByteArray)with
  | false=>rfl
  | true =>
   have:=congrArg ByteArray.size ((eT _ _).1 h)
   exact absurd this (by decide)
 rw [hw]
 cases h0:sEq t (⟨#[]⟩:ByteArray)with
 | true=>exact⟨_,rfl,by show chE.size<=_;rw [show chE.size=8 from rfl];omega,hs.mono (by omega)⟩
 | false =>
 have hpos:0<t.size:=by
  rcases Nat.eq_zero_or_pos t.size with h|h
  ·have:t=(⟨#[]⟩:ByteArray):=by
    have hl:t.data.toList=[]:=List.eq_nil_of_length_eq_zero (by rw [<- Go.Lib.size_eq];exact h)
    exact ((show t=SB t.data.toList from rfl)).trans (by rw [hl])
   rw [this,(eT _ _).2 rfl]at h0;cases h0
  ·exact h
 simp only [cond_false,ob_]
 obtain ⟨i,s1,a1,a2,a3,a4⟩:=ll s (t.size:Int) hs (by omega) (by omega) (by omega)
 obtain ⟨j,s2,b1,b2,b3,b4⟩:=ll s1 (chE.size:Int) a4 (by omega) (by decide) (by decide)
 obtain ⟨q,s3,c1,c2,c3,c4⟩:=ll s2 3 b4 (by omega) (by decide) (by decide)
 obtain ⟨i,rfl⟩:∃n:Nat,i=(n:Int):=⟨i.toNat,by omega⟩
 obtain ⟨j,rfl⟩:∃n:Nat,j=(n:Int):=⟨j.toNat,by omega⟩
 have hj:j<8:=by rw [show chE.size=8 from rfl]at b3;omega
 have hx:=oP chE j (by rw [show chE.size=8 from rfl];exact hj)
 have he:=enc_all ⟨j,hj⟩
 obtain ⟨y0,d1,d2⟩:=Bt t 0 i (by omega) (by omega)
 obtain ⟨y1,e1,e2⟩:=Bt t (i+1) t.size (by omega) (Nat.le_refl _)
 obtain ⟨y2,f1,f2⟩:=Bt t i t.size (by omega) (Nat.le_refl _)
 rw [show ((0:Nat):Int)=0 from rfl]at d1
 have hwi:w64 ((i:Int)+1)=((i+1:Nat):Int):=by rw [jb (by omega)];rfl
 simp only [a1,b1,hx,c1,d1,ob_,hwi,e1,f1]
 generalize Utf8.encode (IntKind.i32.wrap ((dR chE j).toNat:Int))=z at he
 have g1:qL y0 z=some (y0++z):=pY (by omega)
 have z1:(y0++z).size=y0.size+z.size:=uY _ _
 have g2:qL (y0++z) y1=some (y0++z++y1):=pY (by omega)
 have g3:qL (y0++z) y2=some (y0++z++y2):=pY (by omega)
 have g4:qL y0 y1=some (y0++y1):=pY (by omega)
 have z2:(y0++z++y1).size=(y0++z).size+y1.size:=uY _ _
 have z3:(y0++z++y2).size=(y0++z).size+y2.size:=uY _ _
 have z4:(y0++y1).size=y0.size+y1.size:=uY _ _
 have hok:Ok s3 (b+3):=c4.mono (by omega)
 cases hq0:q==0 with
 | true =>
  simp only [cond_true,g1,g2,ob_]
  exact⟨_,rfl,by show (y0++z++y1).size<=_;omega,hok⟩
 | false =>
  simp only [cond_false]
  cases hq1:q==1 with
  | true =>
   simp only [cond_true,g1,g3,ob_]
   exact⟨_,rfl,by show (y0++z++y2).size<=_;omega,hok⟩
  | false =>
   simp only [cond_false,g4,ob_]
   exact⟨_,rfl,by show (y0++y1).size<=_;omega,hok⟩
theorem AL (s old new:List UInt8):(Lib.replace s old new 1).length<=s.length+new.length:=by
 have hk:∀k,k<=1->(Lib.replaceK old new k s).length<=s.length+new.length:=by
  intro k hk
  match k,hk with
  | 0,_=>simp [Lib.replaceK]
  | 1,_ =>
   simp only [Lib.replaceK]
   split
   ·omega
   ·simp only [List.length_append,List.length_drop,List.length_take];omega
 unfold Lib.replace
 split
 ·omega
 ·refine hk _ ?_
  unfold Lib.replaceNum
  split
  ·rename_i h;omega
  ·exact (by decide)
theorem zD (s old new:ByteArray) (ho:1<=old.size) (hs:s.size<=100000) (hn:new.size<=100):∃r,strings_Replace s old new 1=some r/\r.size<=s.size+new.size:=by
 have hc:Lib.countB s old<=s.size+1:=by have:=Lib.count_le s.data.toList old.data.toList;rw [<- Lib.size_eq]at this;exact this
 have hm:Lib.countB s old*new.size<=100001*100:=Nat.mul_le_mul (by omega) hn
 refine⟨SB (Lib.replace s.data.toList old.data.toList new.data.toList 1),?_,?_⟩
 ·show qN s old new 1=some _
  unfold qN
  rw [if_pos ⟨by omega,ho,by omega⟩]
 ·rw [dA,Lib.size_eq s,Lib.size_eq new]
  exact AL _ _ _
theorem Bj (s:Stream) {b:Int} (hs:Ok s b) (hb:b<=600000):∃r,fU s=some r/\r.1.size<=900:=by
 obtain ⟨es,s1,a1,a2,a3,a4,_⟩:=rightE s hs (by omega)
 have hl:=Ae es (λe he=>(a4 e he).2)
 have hln:=sj es (λe he=>BG (a4 e he).2) (by omega) (by omega)
 obtain ⟨n,s2,c1,c2,c3⟩:=iC s1 [0,0,1,2] a2 (by omega) (by decide) (by decide)
 have hn:0<=n/\n<=2:=by
  simp only [List.mem_cons,List.not_mem_nil,or_false]at c2
  rcases c2 with h|h|h|h <;> omega
 obtain ⟨u,d1,d2,d3⟩:=yK (body:=λk x s=>eO k x s) (λk (s:ByteArray×List Int×Int)=>Ok ⟨s.2.1,s.2.2⟩ (b+301+3*k)/\s.1.size<=576+8*k) (xs:=List.range n.toNat) (s:=(SB (kL es),s2.L,s2.f_at)) (by rw [List.length_range];omega) (λk x t _ hk ⟨i1,i2⟩=>by
  have hk2:k<2:=by rw [List.length_range]at hk;omega
  obtain ⟨v,e1,e2,e3⟩:=F4 ⟨t.2.1,t.2.2⟩ t.1 i1 (by omega) (by omega)
  unfold eO
  have e1':fK ⟨t.2.1,t.2.2⟩ t.1 (⟨#[32,10,48,45,57,44,101,105]⟩:ByteArray)=some v:=e1
  rw [e1',ob_]
  refine⟨_,rfl,?_,?_⟩
  ·show Ok ⟨v.2.L,v.2.f_at⟩ _
   exact e3.mono (by omega)
  ·show v.1.size<=_
   omega) ⟨c3.mono (by simp;omega),by show (SB (kL es)).size<=_;rw [dA];omega⟩
 rw [List.length_range]at d2 d3
 obtain ⟨f,s3,f1,f2⟩:=mD ⟨u.2.1,u.2.2⟩ 20 d2 (by omega) (by decide) (by decide)
 unfold fU
 simp only [a1,hln,c1,ob_]
 rw [d1,ob_,iH]
 simp only [f1,ob_]
 cases f with
 | false=>exact⟨_,rfl,by show u.1.size<=_;omega⟩
 | true =>
  obtain ⟨o,s4,g1,g2,g3⟩:=rP s3 [(⟨#[32,111,110,32]⟩:ByteArray),(⟨#[32,45,32]⟩:ByteArray),(⟨#[32,49,50,55,32]⟩:ByteArray),(⟨#[44]⟩:ByteArray)] f2 (by omega) (by simp) (by simp)
  obtain ⟨w,s5,g4,g5,g6⟩:=rP s4 [(⟨#[32,111,102,102,32]⟩:ByteArray),(⟨#[32,45,45,32]⟩:ByteArray),(⟨#[32]⟩:ByteArray),(⟨#[44,44]⟩:ByteArray)] g3 (by omega) (by simp) (by simp)
  have ho:1<=o.size:=by
   simp only [List.mem_cons,List.not_mem_nil,or_false]at g2
   rcases g2 with rfl|rfl|rfl|rfl <;> decide
  have hw:w.size<=5:=by
   simp only [List.mem_cons,List.not_mem_nil,or_false]at g5
   rcases g5 with rfl|rfl|rfl|rfl <;> decide
  obtain ⟨r,r1,r2⟩:=zD u.1 o w ho (by omega) (by omega)
  simp only [cond_true,g1,g4,r1,ob_]
  exact⟨_,rfl,by show r.size<=_;omega⟩
theorem Co (l:List Int) (hl:l.length<=1000):fD l l=some true:=by
 unfold fD
 have key:∀(xs:List Int) (k:Nat),(∀i x,xs[i]? = some x->l[k+i]? = some x)->forR (λk x s=>dI l k x s) xs k ()=some (.go ()):=by
  intro xs
  induction xs with
  | nil=>exact λk _=>rfl
  | cons x xs ih =>
   intro k h
   have hk:=h 0 x rfl
   rw [Nat.add_zero]at hk
   have hstep:dI l k x ()=some (.go ()):=by
    unfold dI
    rw [uA,hk,ob_,bne_self_eq_false];rfl
   rw [forR,hstep,ob_]
   exact ih (k+1) (λi y hy=>by have:=h (i+1) y hy;rw [show k+1+i=k+(i+1) by omega];exact this)
 rw [bne_self_eq_false,cond_false,eF (by omega),key l 0 (λi x hx=>by rw [Nat.zero_add];exact hx),ob_];rfl
theorem Cc (l:List ByteArray) (hl:l.length<=1000):dP l l=some true:=by
 unfold dP
 have key:∀(xs:List ByteArray) (k:Nat),(∀i x,xs[i]? = some x->l[k+i]? = some x)->forR (λk x s=>bL l k x s) xs k ()=some (.go ()):=by
  intro xs
  induction xs with
  | nil=>exact λk _=>rfl
  | cons x xs ih =>
   intro k h
   have hk:=h 0 x rfl
   rw [Nat.add_zero]at hk
   have hstep:bL l k x ()=some (.go ()):=by
    unfold bL
    have hne:sNe x x=false:=by
     show (!sEq x x)=false
     rw [(eT _ _).2 rfl];rfl
    rw [uA,hk,ob_,hne];rfl
   rw [forR,hstep,ob_]
   exact ih (k+1) (λi y hy=>by have:=h (i+1) y hy;rw [show k+1+i=k+(i+1) by omega];exact this)
 rw [bne_self_eq_false,cond_false,eF (by omega),key l 0 (λi x hx=>by rw [Nat.zero_add];exact hx),ob_];rfl
theorem FJ (e:Entry) (hm:∀n ∈ [e.Version,e.First,e.Last,e.Every,e.Days,e.From,e.To,e.Prio],Med n) (hk:e.Key.size<=1000) (hi:e.Item.size<=1000) (hx:e.Except.length<=1000) (ht:e.Tags.length<=1000):fA e e=some true:=by
 have hl:=sQ (⟨e.Key,e.Item,e.Version,e.First,e.Last,e.Every,e.Days,[],e.From,e.To,e.Prio,[],e.Gone⟩:Entry) hm (λn hn=>by cases hn) (by simp) (λt ht=>by cases ht) (by simp) (λw hw=>by
  unfold bH at hw
  rcases List.mem_append.1 hw with hw|hw
  ·rcases List.mem_append.1 hw with hw|hw
   ·simp only [List.mem_cons,List.not_mem_nil,or_false]at hw
    rcases hw with rfl|rfl
    ·rw [<- Lib.size_eq];show e.Key.size<=_;omega
    ·rw [<- Lib.size_eq];show e.Item.size<=_;omega
   ·obtain ⟨n,hn,rfl⟩:=List.mem_map.1 hw
    have:=nE (hm n hn)
    omega
  ·simp only [List.mem_cons,List.not_mem_nil,or_false]at hw
   rcases hw with rfl|rfl|rfl
   ·show (bif e.Gone then _ else _:List UInt8).length<=_
    cases e.Gone <;> decide
   ·decide
   ·decide)
 unfold fA
 rw [hl,ob_,ob_,(eT _ _).2 rfl,cond_true,Co _ hx,ob_,cond_true,Cc _ ht];rfl
theorem H8 (l:List Entry) (h:∀e∈l,fA e e=some true) (hl:l.length<=1000):aO l l=some true:=by
 unfold aO
 have key:∀(xs:List Entry) (k:Nat),(∀i x,xs[i]? = some x->l[k+i]? = some x)->(∀e∈xs,fA e e=some true)->forR (λk x s=>aI l k x s) xs k ()=some (.go ()):=by
  intro xs
  induction xs with
  | nil=>exact λk _ _=>rfl
  | cons x xs ih =>
   intro k h hs
   have hk:=h 0 x rfl
   rw [Nat.add_zero]at hk
   have hstep:aI l k x ()=some (.go ()):=by
    unfold aI
    rw [uA,hk,ob_,hs x (by simp)];rfl
   rw [forR,hstep,ob_]
   exact ih (k+1) (λi y hy=>by have:=h (i+1) y hy;rw [show k+1+i=k+(i+1) by omega];exact this) (λe he=>hs e (List.mem_cons_of_mem _ he))
 rw [bne_self_eq_false,cond_false,eF (by omega),key l 0 (λi x hx=>by rw [Nat.zero_add];exact hx) h,ob_];rfl
theorem Dz (s:ByteArray):kE s=bS s:=rfl
theorem Cv (s:ByteArray):rH s=mJ s:=rfl
theorem wW (ws:List (List UInt8)) (h:∀w∈ws,w.length<=100000) (hl:ws.length<=100000):∃(ns ms:List Int) (ok:Bool),iO (ws.map SB)=some (ns,ok)/\iZ (ws.map SB) 9=some (ms,ok)/\ms.length=ws.length/\(ok=true->ns=ms):=by
 have key:∀(xs:List (List UInt8)) (k:Nat) (out out2:List Int) (all:Bool),(∀w∈xs,w.length<=100000)->out.length+xs.length<=1000000->out2.length+xs.length<=1000000 ->
   ∃(ms:List Int) (ok:Bool),forR (λk x s=>bR k x s) (xs.map SB) k out=some (bif ok then .go (out++ms)else .ret ([],false))/\forR (λk x s=>gq 9 k x s) (xs.map SB) k (out2,all)=some (.go (out2++ms,all&&ok))/\ms.length=xs.length:=by
  intro xs
  induction xs with
  | nil=>exact λk out out2 all _ _ _=>⟨[],true,by simp [forR],by simp [forR],rfl⟩
  | cons x xs ih =>
   intro k out out2 all hw ho ho2
   simp only [List.length_cons]at ho ho2
   obtain ⟨n,n',o,a1,a2,a3,_,_⟩:=num_two x (hw x (by simp)) 9 (by decide)
   have hs:kT (SB x)=some (n,o):=by unfold kT;rw [a1];rfl
   have hr:gq 9 k (SB x) (out2,all)=some (.go (out2++[n'],all&&o)):=by
    unfold gq
    rw [a2,ob_]
    simp only []
    rw [iP _ _ (by simp only [List.length_cons,List.length_nil];omega),ob_]
    cases all <;> rfl
   obtain ⟨ms,ok,b1,b2,b3⟩:=ih (k+1) (out++[n']) (out2++[n']) (all&&o) (λw hm=>hw w (by simp [hm])) (by simp only [List.length_append,List.length_cons,List.length_nil];omega) (by simp only [List.length_append,List.length_cons,List.length_nil];omega)
   refine⟨n'::ms,o&&ok,?_,?_,by simp [b3]⟩
   ·cases o with
    | false =>
     have hstep:bR k (SB x) out=some (.ret ([],false)):=by unfold bR;rw [hs];rfl
     rw [List.map_cons,forR,hstep];rfl
    | true =>
     have hstep:bR k (SB x) out=some (.go (out++[n'])):=by
      unfold bR
      rw [hs,ob_]
      simp only [Bool.not_true,cond_false]
      rw [iP _ _ (by simp only [List.length_cons,List.length_nil];omega),a3 rfl];rfl
     rw [List.map_cons,forR,hstep,ob_]
     simp only []
     rw [b1,Bool.true_and];simp
   ·rw [List.map_cons,forR,hr,ob_]
    simp only []
    rw [b2];simp [Bool.and_assoc]
 obtain ⟨ms,ok,b1,b2,b3⟩:=key ws 0 [] [] true h (by simp only [List.length_nil];omega) (by simp only [List.length_nil];omega)
 refine⟨bif ok then ms else [],ms,ok,?_,?_,b3,λh=>by rw [h];rfl⟩
 ·unfold iO
  rw [eF (by rw [List.length_map];omega),b1]
  cases ok <;> rfl
 ·unfold iZ
  rw [eF (by rw [List.length_map];omega),b2]
  cases ok <;> rfl
def PE (e:Entry):Prop:=oD e/\fA e e=some true
theorem Hz {m:Nat} {e:Entry} (h:ReadE m e) (hm:m<=900):PE e :=
 ⟨D6 h (by omega),FJ e h.nums (by have:=h.key;omega) (by have:=h.item;omega) (by have:=h.dayl;omega) (by have:=h.tagl;omega)⟩
theorem IA (x:List UInt8) (hx:x.length<=900):∃(e:Entry) (ok:Bool),bX (SB x)=some (e,ok)/\(ok=true->PE e/\12<=x.length)/\∀out:List Entry,out.length<=1000000->∃out',eU (SB x) out=some (ok,out')/\(ok=true->out'=out++[e]):=by
 obtain ⟨e0,ok0,z1,z2⟩:=GK x (by omega)
 suffices H:∃e ok,bX (SB x)=some (e,ok)/\∀out:List Entry,out.length<=1000000->∃out',eU (SB x) out=some (ok,out')/\(ok=true->out'=out++[e]) by
  obtain ⟨e,ok,h1,h2⟩:=H
  rw [h1,so_,Prod.mk.injEq]at z1
  obtain ⟨rfl,rfl⟩:=z1
  exact⟨e,ok,h1,λh=>⟨Hz (z2 h).1 hx,(z2 h).1.big⟩,h2⟩
 clear z1 z2
 obtain ⟨b,hb⟩:=zW x (by omega)
 have hw:=(lM 32 x).2
 unfold bX eU
 simp only [Cv,hb,ob_]
 generalize hws:spl 32 x=ws at hw
 by_cases hlen:ws.length=13
 ·obtain ⟨w0,w1,w2,w3,w4,w5,w6,w7,w8,w9,w10,w11,w12,rfl⟩:=II hlen
  have i0:idx (List.map SB [w0,w1,w2,w3,w4,w5,w6,w7,w8,w9,w10,w11,w12]) 0=some (SB w0):=rfl
  have i1:idx (List.map SB [w0,w1,w2,w3,w4,w5,w6,w7,w8,w9,w10,w11,w12]) 1=some (SB w1):=rfl
  have i10:idx (List.map SB [w0,w1,w2,w3,w4,w5,w6,w7,w8,w9,w10,w11,w12]) 10=some (SB w10):=rfl
  have i11:idx (List.map SB [w0,w1,w2,w3,w4,w5,w6,w7,w8,w9,w10,w11,w12]) 11=some (SB w11):=rfl
  have i12:idx (List.map SB [w0,w1,w2,w3,w4,w5,w6,w7,w8,w9,w10,w11,w12]) 12=some (SB w12):=rfl
  have hsub:vz (List.map SB [w0,w1,w2,w3,w4,w5,w6,w7,w8,w9,w10,w11,w12]) 2 10=some ([w2,w3,w4,w5,w6,w7,w8,w9].map SB):=rfl
  have hl13:((((List.map SB [w0,w1,w2,w3,w4,w5,w6,w7,w8,w9,w10,w11,w12]).length:Nat):Int) != 13)=false:=rfl
  have hsz:∀w ∈ [w0,w1,w2,w3,w4,w5,w6,w7,w8,w9,w10,w11,w12],w.length<=x.length:=hw
  obtain ⟨ns,ms,o1,a1,a2,a3,a4⟩:=wW [w2,w3,w4,w5,w6,w7,w8,w9] (λw hm=>by
   have:=hsz w (by
    simp only [List.mem_cons,List.not_mem_nil,or_false]at hm
    rcases hm with rfl|rfl|rfl|rfl|rfl|rfl|rfl|rfl <;> simp)
   omega) (by simp)
  obtain ⟨ls,o2,b1,b2,b3,b4⟩:=mE w11 (by have:=hsz w11 (by simp);omega)
  obtain ⟨ds,es,o3,c1,c2,c3,c4⟩:=wW ls (λw hm=>by have:=b4 w hm;have:=hsz w11 (by simp);omega) (by have:=hsz w11 (by simp);omega)
  obtain ⟨ts,o4,d1,d2,d3,d4⟩:=mE w12 (by have:=hsz w12 (by simp);omega)
  simp only [hl13,i10,cond_false,ob_]
  obtain ⟨v,hv⟩:∃v,(bif (!b)then some true else bif sNe (SB w10) (⟨#[111,110]⟩:ByteArray)then some (sNe (SB w10) (⟨#[103,111,110,101]⟩:ByteArray))else some false)=some v:=by
   cases b with
   | false=>exact⟨true,rfl⟩
   | true=>cases h1:sNe (SB w10) (⟨#[111,110]⟩:ByteArray) <;> exact⟨_,rfl⟩
  simp only [hv,ob_]
  cases v with
  | true=>exact⟨_,false,rfl,λout ho=>⟨out,rfl,(λh=>by cases h)⟩⟩
  | false =>
  obtain ⟨m2,m3,m4,m5,m6,m7,m8,m9,rfl⟩:=list8 (l:=ms) (by simpa using a3)
  have j0:idx [m2,m3,m4,m5,m6,m7,m8,m9] 0=some m2:=rfl
  have j1:idx [m2,m3,m4,m5,m6,m7,m8,m9] 1=some m3:=rfl
  have j2:idx [m2,m3,m4,m5,m6,m7,m8,m9] 2=some m4:=rfl
  have j3:idx [m2,m3,m4,m5,m6,m7,m8,m9] 3=some m5:=rfl
  have j4:idx [m2,m3,m4,m5,m6,m7,m8,m9] 4=some m6:=rfl
  have j5:idx [m2,m3,m4,m5,m6,m7,m8,m9] 5=some m7:=rfl
  have j6:idx [m2,m3,m4,m5,m6,m7,m8,m9] 6=some m8:=rfl
  have j7:idx [m2,m3,m4,m5,m6,m7,m8,m9] 7=some m9:=rfl
  simp only [cond_false,hsub,a1,a2,i11,Dz,b1,c1,c2,i12,d1,i0,i1,j0,j1,j2,j3,j4,j5,j6,j7,ob_]
  have app:∀(out:List Entry) (y:Entry),out.length<=1000000->jO out [y]=some (out++[y]):=λout y ho=>iP _ _ (by simp only [List.length_cons,List.length_nil];omega)
  cases o1 with
  | false=>exact⟨_,false,rfl,λout ho=>⟨_,by rw [app _ _ ho];rfl,(λh=>by cases h)⟩⟩
  | true =>
  obtain rfl:=a4 rfl
  cases o2 with
  | false=>exact⟨_,false,rfl,λout ho=>⟨_,by rw [app _ _ ho];rfl,(λh=>by cases h)⟩⟩
  | true =>
  cases o3 with
  | false=>exact⟨_,false,rfl,λout ho=>⟨_,by rw [app _ _ ho];rfl,(λh=>by cases h)⟩⟩
  | true =>
  obtain rfl:=c4 rfl
  cases o4 with
  | false=>exact⟨_,false,rfl,λout ho=>⟨_,by rw [app _ _ ho];rfl,(λh=>by cases h)⟩⟩
  | true =>
  simp only [Bool.not_true,cond_false,cond_true,ob_,j0,j1,j2,j3,j4,j5,j6,j7]
  exact⟨_,true,rfl,λout ho=>⟨_,by rw [app _ _ ho];rfl,λ_=>rfl⟩⟩
 ·have hl:(((ws.map SB).length:Int) != 13)=true:=by rw [List.length_map,bne_iff_ne];omega
  simp only [hl]
  cases b <;> exact⟨_,false,rfl,λout ho=>⟨out,rfl,(λh=>by cases h)⟩⟩
theorem GY {c:UInt8}:∀{l:List UInt8},c∉l->Lib.indexByte l c = -1
 | [],_=>rfl
 | b::l,h=>by
  have hb:(b==c)=false:=by rw [beq_eq_false_iff_ne];exact λe=>h (by simp [e])
  have ih:=GY (c:=c) (l:=l) (λe=>h (List.mem_cons_of_mem _ e))
  rw [Lib.indexByte,hb,ih];rfl
theorem Fe {c:UInt8}:∀{x:List UInt8} (y:List UInt8),c∉x->Lib.indexByte (x++c::y) c=(x.length:Int)
 | [],y,_=>by
  show Lib.indexByte (c::y) c=0
  rw [Lib.indexByte,beq_self_eq_true];rfl
 | b::x,y,h=>by
  have hb:(b==c)=false:=by rw [beq_eq_false_iff_ne];exact λe=>h (by simp [e])
  have ih:=Fe (c:=c) (x:=x) y (λe=>h (List.mem_cons_of_mem _ e))
  show Lib.indexByte (b::(x++c::y)) c=_
  rw [Lib.indexByte,hb,ih]
  have:(((x.length:Nat):Int) == -1)=false:=by rw [beq_eq_false_iff_ne];omega
  simp only [this,Bool.false_eq_true,if_false,List.length_cons]
  omega
theorem H5 (l:List UInt8):dK (SB l) (⟨#[10]⟩:ByteArray)=some (Lib.indexByte l 10):=by
 unfold dK
 have h0:(((⟨#[10]⟩:ByteArray).size:Int)==0)=false:=rfl
 have h1:(((⟨#[10]⟩:ByteArray).size:Int)==1)=true:=rfl
 have h2:tO (⟨#[10]⟩:ByteArray) 0=some 10:=rfl
 rw [h0,cond_false,ob_,h1,h2]
 cases hs:sEq (⟨#[10]⟩:ByteArray) (SB l)with
 | true =>
  have : [10]=l:=qa (l:=[10]) ((eT _ _).1 hs)
  subst this
  rfl
 | false=>rfl
theorem cut_no {l:List UInt8} (h:(10:UInt8)∉l):strings_Cut (SB l) (⟨#[10]⟩:ByteArray)=some (SB l,(⟨#[]⟩:ByteArray),false):=by
 unfold strings_Cut dX
 rw [H5,GY h];rfl
theorem cut_yes {x:List UInt8} (y:List UInt8) (h:(10:UInt8)∉x) (hl:x.length+y.length<=1000000):strings_Cut (SB (x++10::y)) (⟨#[10]⟩:ByteArray)=some (SB x,SB y,true):=by
 have hlen:(x++10::y).length=x.length+1+y.length:=by simp;omega
 have e1:=AV (x++10::y) 0 x.length (by omega) (by rw [hlen];omega)
 have e2:=AV (x++10::y) (x.length+1) (x++10::y).length (by rw [hlen];omega) (Nat.le_refl _)
 rw [List.take_length]at e2
 have e3:((x++10::y).take x.length).drop 0=x:=by simp
 have e4:(x++10::y).drop (x.length+1)=y:=by
  rw [List.drop_append,List.drop_of_length_le (by omega),show x.length+1-x.length=1 by omega];rfl
 rw [e3]at e1
 rw [e4]at e2
 unfold strings_Cut dX
 rw [H5,Fe y h,ob_,decide_eq_true (by omega),cond_true]
 rw [show ((0:Nat):Int)=0 from rfl]at e1
 have hs1:((⟨#[10]⟩:ByteArray).size:Int)=1:=rfl
 have hw:w64 (((x.length:Nat):Int)+((⟨#[10]⟩:ByteArray).size:Int))=((x.length+1:Nat):Int):=by rw [hs1,jb (by omega)];rfl
 rw [e1,ob_,hw]
 rw [show ((SB (x++10::y)).size:Int)=(((x++10::y).length:Nat):Int) by rw [dA],e2]
 rfl
theorem Ik (l:List UInt8):(10:UInt8)∉l\/∃x y,l=x++10::y/\(10:UInt8)∉x:=by
 by_cases h:(10:UInt8)∈l
 ·right
  induction l with
  | nil=>cases h
  | cons b l ih =>
   by_cases hb:b=10
   ·exact⟨[],l,by rw [hb];rfl,by simp⟩
   ·have:(10:UInt8)∈l:=by
     rcases List.mem_cons.1 h with h|h
     ·exact absurd h.symm hb
     ·exact h
    obtain ⟨x,y,e,hx⟩:=ih this
    refine⟨b::x,y,by rw [e];rfl,λhm => ?_⟩
    rcases List.mem_cons.1 hm with hm|hm
    ·exact hb hm.symm
    ·exact hx hm
 ·exact .inl h
noncomputable def Iz (x:List UInt8):Option Entry:=match bX (SB x)with
 | some (lg,true)=>some lg
 | _=>none
theorem mO (x:List UInt8) (hx:x.length<=900):∃lg ok,bX (SB x)=some (lg,ok)/\Iz x=(bif ok then some lg else none)/\(ok=true->PE lg/\12<=x.length) /\
  ∀out:List Entry,out.length<=1000000->∃out',eU (SB x) out=some (ok,out')/\(ok=true->out'=out++[lg]):=by
 obtain ⟨lg,ok,h1,h2,h3⟩:=IA x hx
 refine⟨lg,ok,h1,?_,h2,h3⟩
 unfold Iz
 rw [h1]
 cases ok <;> rfl
noncomputable def lns:List (List UInt8)->Nat->List Entry->Sum Nat (List Entry)
 | [],_,out => .inr out
 | [x],k,out=>if x=[]then .inr out else .inl k
 | x::y::r,k,out=>match Iz x with
  | none => .inl k
  | some lg=>lns (y::r) (k+1) (out++[lg])
theorem Df:∀(qs:List (List UInt8)) (k:Nat) (out o:List Entry),(∀q∈qs,q.length<=900)->(∀x∈out,PE x)->lns qs k out = .inr o->(∀x∈o,PE x)/\13*o.length<=13*out.length+(qs.map λq=>q.length+1).sum
 | [],_,out,o,_,hg,h=>by
  simp only [lns,Sum.inr.injEq]at h
  subst h
  exact⟨hg,by simp⟩
 | [x],k,out,o,_,hg,h=>by
  unfold lns at h
  split at h
  ·simp only [Sum.inr.injEq]at h
   subst h
   exact⟨hg,by omega⟩
  ·cases h
 | x::y::r,k,out,o,hq,hg,h=>by
  obtain ⟨lg,ok,a1,a2,a3,_⟩:=mO x (hq x (by simp))
  unfold lns at h
  rw [a2]at h
  cases ok with
  | false=>cases h
  | true =>
   simp only [cond_true]at h
   obtain ⟨b1,b2⟩:=Df (y::r) (k+1) (out++[lg]) o (λq hm=>hq q (by simp [hm])) (λz hz=>by
    rcases List.mem_append.1 hz with hz|hz
    ·exact hg z hz
    ·rw [List.mem_singleton.1 hz];exact (a3 rfl).1) h
   refine⟨b1,?_⟩
   have h12:=(a3 rfl).2
   rw [List.map_cons,List.sum_cons]
   simp only [List.length_append,List.length_cons,List.length_nil]at b2
   omega
theorem FB (c:UInt8):∀l:List UInt8,((spl c l).map λq=>q.length+1).sum=l.length+1
 | []=>rfl
 | b::l=>by
  have ih:=FB c l
  unfold spl
  split
  ·rw [List.map_cons,List.sum_cons,ih];simp only [List.length_cons,List.length_nil];omega
  ·cases hs:spl c l with
   | nil=>exact absurd hs (sN c l)
   | cons x r =>
    rw [hs,List.map_cons,List.sum_cons]at ih
    simp only [List.map_cons,List.sum_cons,List.length_cons]at ih ⊢
    omega
theorem Aj:∀(n:Nat) (l:List UInt8) (k:Nat) (out:List Entry),l.length<=n->l.length<=900->k+l.length<=100000->out.length+l.length<=100000 ->
  ∃m,match lns (spl 10 l) k out with
   | .inl i=>∃o,iterN dC m (out,SB l,(k:Int))=some (.ret ((i:Int),false,o))
   | .inr o=>∃t j,iterN dC m (out,SB l,(k:Int))=some (.go (o,t,j))
 | n,l,k,out,hn,hl,hk,ho=>by
  cases hle:l with
  | nil =>
   refine⟨1,?_⟩
   simp only [spl,lns,if_true]
   refine⟨SB [],(k:Int),?_⟩
   simp only [iterN,dC]
   rw [show sNe (SB []) (⟨#[]⟩:ByteArray)=false by show (!sEq (SB []) (⟨#[]⟩:ByteArray))=false;rw [yO];rfl]
   rfl
  | cons b0 l0 =>
  have hne:l ≠ []:=by rw [hle];simp
  rw [<- hle]
  have hsn:sNe (SB l) (⟨#[]⟩:ByteArray)=true:=by show (!sEq (SB l) (⟨#[]⟩:ByteArray))=true;rw [yO,hle];rfl
  rcases Ik l with h|⟨x,y,e,hx⟩
  ·refine⟨1,?_⟩
   rw [Ht h]
   simp only [lns,if_neg hne]
   refine⟨out,?_⟩
   simp only [iterN,dC]
   rw [hsn,cond_true,cut_no h];rfl
  ·have hlen:l.length=x.length+1+y.length:=by rw [e];simp;omega
   obtain ⟨lg,ok,a1,a2,a3,a4⟩:=mO x (by omega)
   obtain ⟨out',b1,b2⟩:=a4 out (by omega)
   have hspl:spl 10 l=x::spl 10 y:=by rw [e];exact Fx y hx
   obtain ⟨y0,r,hy⟩:∃y0 r,spl 10 y=y0::r:=by
    cases h:spl 10 y with
    | nil=>exact absurd h (sN 10 y)
    | cons y0 r=>exact⟨y0,r,rfl⟩
   have hstep:dC (out,SB l,(k:Int))=some (bif ok then .go (out',SB y,((k+1:Nat):Int))else .ret ((k:Int),false,out')):=by
    unfold dC
    simp only []
    rw [hsn,cond_true,e,cut_yes y hx (by omega),ob_]
    simp only [Bool.not_true,cond_false,b1,ob_]
    cases ok with
    | false=>rfl
    | true =>
     simp only [Bool.not_true,cond_false,cond_true]
     rw [jb (by omega)];rfl
   rw [hspl,hy]
   unfold lns
   rw [a2]
   cases ok with
   | false =>
    refine⟨1,?_⟩
    simp only [cond_false]
    refine⟨out',?_⟩
    simp only [iterN,hstep];rfl
   | true =>
    simp only [cond_true]
    match n,hn with
    | 0,hn=>omega
    | n+1,hn =>
    obtain ⟨m,hm⟩:=Aj n y (k+1) (out++[lg]) (by omega) (by omega) (by omega) (by simp only [List.length_append,List.length_cons,List.length_nil];omega)
    rw [hy]at hm
    refine⟨m+1,?_⟩
    have hit:iterN dC (m+1) (out,SB l,(k:Int))=iterN dC m (out++[lg],SB y,((k+1:Nat):Int)):=by
     rw [iterN,hstep,b2 rfl];rfl
    rw [hit]
    exact hm
theorem Ad (r:(List ByteArray)×Bool) (hr:r.2=true):∀(qs:List (List UInt8)) (k:Nat) (out:List Entry),qs ≠ []->qs.getLast? = some []->(∀q∈qs,q.length<=900)->out.length+qs.length<=100000 ->
  forR (λk x s=>cK r k x s) (qs.dropLast.map SB) k out=some (match lns qs k out with | .inl i => .ret ([],(i:Int),9) | .inr o => .go o)
 | [],_,_,h,_,_,_=>absurd rfl h
 | [x],k,out,_,hx,_,_=>by
  simp only [List.getLast?_singleton,so_]at hx
  subst hx
  simp only [lns,if_true];rfl
 | x::y::t,k,out,_,hx,hq,ho=>by
  obtain ⟨lg,ok,a1,a2,a3,_⟩:=mO x (hq x (by simp))
  have ho2:out.length+(t.length+1+1)<=100000:=by simpa using ho
  have hstep:cK r k (SB x) out=some (bif ok then .go (out++[lg])else .ret ([],(k:Int),9)):=by
   unfold cK
   rw [a1,ob_,hr]
   cases ok with
   | false=>rfl
   | true =>
    simp only [Bool.not_true,cond_false,ob_,cond_true]
    rw [iP _ _ (by simp only [List.length_cons,List.length_nil];omega)];rfl
  rw [List.dropLast_cons_cons,List.map_cons,forR,hstep,ob_]
  unfold lns
  rw [a2]
  cases ok with
  | false=>rfl
  | true =>
   simp only [cond_true]
   exact Ad r hr (y::t) (k+1) (out++[lg]) (by simp) (by rw [<- hx];simp) (λq hm=>hq q (by simp [hm])) (by simp only [List.length_append,List.length_cons,List.length_nil];omega)
theorem yZ (r:(List ByteArray)×Bool) (hr:r.2=false) (hrl:r.1.length<=100000):∀(qs:List (List UInt8)) (k:Nat) (out:List Entry),qs ≠ []->qs.getLast? ≠ some []->k+qs.length=r.1.length->(∀q∈qs,q.length<=900)->out.length+qs.length<=100000 ->
  forR (λk x s=>cK r k x s) (qs.map SB) k out=some (match lns qs k out with | .inl i => .ret ([],(i:Int),9) | .inr o => .go o)
 | [],_,_,h,_,_,_,_=>absurd rfl h
 | [x],k,out,_,hx,hk,hq,_=>by
  simp only [List.getLast?_singleton,ne_eq,so_]at hx
  simp only [List.length_cons,List.length_nil]at hk
  obtain ⟨lg,ok,a1,a2,a3,_⟩:=mO x (hq x (by simp))
  have hstep:cK r k (SB x) out=some (.ret ([],(k:Int),9)):=by
   unfold cK
   rw [a1,ob_,hr,jb (by omega),show ((k:Int)==((r.1.length:Int)-1))=true by rw [beq_iff_eq];omega]
   cases ok <;> rfl
  rw [List.map_cons,forR,hstep]
  simp only [lns,if_neg hx];rfl
 | x::y::t,k,out,_,hx,hk,hq,ho=>by
  obtain ⟨lg,ok,a1,a2,a3,_⟩:=mO x (hq x (by simp))
  have ho2:out.length+(t.length+1+1)<=100000:=by simpa using ho
  simp only [List.length_cons]at hk
  have hstep:cK r k (SB x) out=some (bif ok then .go (out++[lg])else .ret ([],(k:Int),9)):=by
   unfold cK
   rw [a1,ob_,hr,jb (by omega),show ((k:Int)==((r.1.length:Int)-1))=false by rw [beq_eq_false_iff_ne];omega]
   cases ok with
   | false=>rfl
   | true =>
    simp only [Bool.not_true,Bool.not_false,cond_false,ob_,cond_true]
    rw [iP _ _ (by simp only [List.length_cons,List.length_nil];omega)];rfl
  rw [List.map_cons,forR,hstep,ob_]
  unfold lns
  rw [a2]
  cases ok with
  | false=>rfl
  | true =>
   simp only [cond_true]
   exact yZ r hr hrl (y::t) (k+1) (out++[lg]) (by simp) (by simpa using hx) (by simp only [List.length_cons];omega) (λq hm=>hq q (by simp [hm])) (by simp only [List.length_append,List.length_cons,List.length_nil];omega)
theorem Fa {α:Type} {key:α->ByteArray} {stp:ByteArray->α->Int}:∀(l:List α) (last:ByteArray),chk key stp last l=0->∀x∈l,∃q,stp q x=0
 | [],_,_=>λx hx=>by cases hx
 | y::l,last,h=>λx hx=>by
  unfold chk at h
  cases hs:stp last y==0 with
  | false=>rw [hs,cond_false]at h;rw [h]at hs;cases hs
  | true =>
   rw [hs,cond_true]at h
   rcases List.mem_cons.1 hx with rfl|hx
   ·exact⟨last,by simpa using hs⟩
   ·exact Fa l _ h x hx
theorem CY {α:Type} {stp:Option α->α->Int}:∀(l:List α) (p:Option α),Dk stp p l=0->∀x∈l,∃q,stp q x=0
 | [],_,_=>λx hx=>by cases hx
 | y::l,p,h=>λx hx=>by
  unfold Dk at h
  cases hs:stp p y==0 with
  | false=>rw [hs,cond_false]at h;rw [h]at hs;cases hs
  | true =>
   rw [hs,cond_true]at h
   rcases List.mem_cons.1 hx with rfl|hx
   ·exact⟨p,by simpa using hs⟩
   ·exact CY l _ h x hx
theorem nW {n lo hi:Int} (h:iB n lo hi=false):lo<=n/\n<=hi:=by
 unfold iB at h
 simp only [Bool.or_eq_false_iff,decide_eq_false_iff_not]at h
 omega
theorem AQ {s:ByteArray} (h:kP s=true):s.size<=40:=by
 unfold kP at h
 simp only [Bool.and_eq_true,decide_eq_true_eq]at h
 exact h.2.1
structure FitE (e:Entry):Prop where
 key:e.Key.size<=40
 item:e.Item.size<=40
 nums:∀n ∈ [e.Version,e.First,e.Last,e.Every,e.Days,e.From,e.To,e.Prio],Med n
 days:∀n∈e.Except,Med n
 dayl:e.Except.length<=100
 tags:∀t∈e.Tags,t.size<=40
 tagl:e.Tags.length<=20
theorem fit_of {e:Entry} (h:oq e=0):FitE e:=by
 unfold oq at h
 cases hk:(!kP e.Key || !kP e.Item)with
 | true=>rw [hk]at h;cases h
 | false =>
 rw [hk,cond_false]at h
 cases hb:(iB e.Version 0 1000000||(iB e.First 0 e.Last||(decide (e.Last>4000)||(iB e.Every 1 400||iB e.Days 1 127))))with
 | true=>rw [hb]at h;cases h
 | false =>
 rw [hb,cond_false]at h
 simp only [Bool.or_eq_false_iff,decide_eq_false_iff_not,Bool.not_eq_false']at hb hk
 cases hx:exF e.Except==0 with
 | false=>rw [hx,cond_false]at h;rw [h]at hx;cases hx
 | true =>
 rw [hx,cond_true]at h
 cases hc:(iB e.From 0 1439||(iB e.To 0 1439||iB e.Prio 0 9))with
 | true=>rw [hc]at h;cases h
 | false =>
 rw [hc,cond_false]at h
 simp only [Bool.or_eq_false_iff]at hc
 have h1:=nW hb.1
 have h2:=nW hb.2.1
 have h3:=hb.2.2.1
 have h4:=nW hb.2.2.2.1
 have h5:=nW hb.2.2.2.2
 have h6:=nW hc.1
 have h7:=nW hc.2.1
 have h8:=nW hc.2.2
 have hx:exF e.Except=0:=by simpa using hx
 unfold exF at hx
 cases hxl:decide (e.Except.length>100)with
 | true=>rw [hxl]at hx;cases hx
 | false =>
 rw [hxl,cond_false]at hx
 unfold yH at h
 cases htl:decide (e.Tags.length>20)with
 | true=>rw [htl]at h;cases h
 | false =>
 rw [htl,cond_false]at h
 simp only [decide_eq_false_iff_not]at hxl htl
 refine⟨AQ hk.1,AQ hk.2,λn hn => ?_,λn hn => ?_,by omega,λt ht => ?_,by omega⟩
 ·simp only [List.mem_cons,List.not_mem_nil,or_false]at hn
  unfold Med
  rcases hn with rfl|rfl|rfl|rfl|rfl|rfl|rfl|rfl <;> omega
 ·obtain ⟨q,hq⟩:=CY _ _ hx n hn
  unfold wP at hq
  cases ho:iB n 0 4000 with
  | true=>rw [ho]at hq;cases hq
  | false =>
   have:=nW ho
   unfold Med;omega
 ·obtain ⟨q,hq⟩:=Fa _ _ h t ht
  unfold vU at hq
  cases hkb:kP t with
  | false=>rw [hkb]at hq;cases hq
  | true=>exact AQ hkb
theorem wo {e:Entry} (h:FitE e):∀w∈bH e,w.length<=2200:=λw hw=>by
 unfold bH at hw
 rcases List.mem_append.1 hw with hw|hw
 ·rcases List.mem_append.1 hw with hw|hw
  ·simp only [List.mem_cons,List.not_mem_nil,or_false]at hw
   rcases hw with rfl|rfl
   ·rw [<- Lib.size_eq];have:=h.key;omega
   ·rw [<- Lib.size_eq];have:=h.item;omega
  ·obtain ⟨n,hn,rfl⟩:=List.mem_map.1 hw
   have:=nE (h.nums n hn)
   omega
 ·simp only [List.mem_cons,List.not_mem_nil,or_false]at hw
  rcases hw with rfl|rfl|rfl
  ·cases e.Gone <;> decide
  ·unfold kM
   split
   ·decide
   ·have:=pq [44] 21 (e.Except.map Lib.itoa) (λx hx=>by
     obtain ⟨n,hn,rfl⟩:=List.mem_map.1 hx
     exact nE (h.days n hn))
    rw [List.length_map]at this
    have:=h.dayl
    simp only [List.length_cons,List.length_nil]at *
    omega
  ·unfold kM
   split
   ·decide
   ·have:=pq [44] 40 (e.Tags.map λt=>t.data.toList) (λx hx=>by
     obtain ⟨t,ht,rfl⟩:=List.mem_map.1 hx
     rw [<- Lib.size_eq];exact h.tags t ht)
    rw [List.length_map]at this
    have:=h.tagl
    simp only [List.length_cons,List.length_nil]at *
    omega
theorem fit_len {e:Entry} (h:FitE e):(mq e).length<=28613:=by
 have:=pq [32] 2200 (bH e) (wo h)
 rw [CE]at this
 exact this
theorem Hw {e:Entry} (h:FitE e):dz e=some (SB (mq e++[10])) :=
 tZ e h.nums h.days (by have:=h.dayl;omega) (λt ht=>by have:=h.tags t ht;omega) (by have:=h.tagl;omega) (λw hw=>by have:=wo h w hw;omega)
theorem fit_ref {e:Entry} (h:FitE e):dZ e=some (SB (mq e)) :=
 sQ e h.nums h.days (by have:=h.dayl;omega) (λt ht=>by have:=h.tags t ht;omega) (by have:=h.tagl;omega) (λw hw=>by have:=wo h w hw;omega)
theorem CQ:∀(es:List Entry),(∀e∈es,FitE e)->(kL es).length<=es.length*28614
 | [],_=>Nat.le_refl _
 | e::es,h=>by
  have h1:=fit_len (h e (by simp))
  have h2:=CQ es (λx hx=>h x (List.mem_cons_of_mem _ hx))
  rw [tQ,List.length_append,List.length_append,List.length_cons]
  simp only [List.length_cons,List.length_nil]
  omega
theorem IC {es:List Entry} (h:∀e∈es,FitE e) (hl:es.length<=4) (hc:aX es=some 0):fV es=some (SB (kL es),0)/\fC es=some (SB (kL es)):=by
 have hlen:=CQ es h
 refine⟨?_,sj es (λe he=>fit_ref (h e he)) (by omega) (by omega)⟩
 have e1:(es.map λe=>(e,mq e)).map (·.1)=es:=by rw [List.map_map];exact List.map_id' es
 have e2:nZ (es.map λe=>(e,mq e))=kL es:=by unfold nZ kL;rw [List.flatMap_map,List.flatMap_map]
 have:=text_of (es.map λe=>(e,mq e)) (λp hp=>by
  obtain ⟨e,he,rfl⟩:=List.mem_map.1 hp
  exact Hw (h e he)) (by rw [List.length_map];omega) (by rw [e1];exact hc) (by rw [e2];omega)
 rw [e1,e2]at this
 exact this
def EZ {σ ρ:Type} (s:σ) (body:σ->Option (Ctl σ ρ)):Option (Ctl σ ρ):=iterN body 300 s
def Le {α:Type} (a b:Option α):Prop:=∀r,a=some r->b=some r
theorem Le.refl {α:Type} (a:Option α):Le a a:=λ_ h=>h
theorem Le.bind {α β:Type} {a b:Option α} {f g:α->Option β} (h:Le a b) (k:∀x,Le (f x) (g x)):Le (a.bind f) (b.bind g):=λr e=>by
 obtain ⟨x,h1,h2⟩:=Option.bind_eq_some_iff.1 e
 rw [h x h1];exact k x r h2
theorem Le.cond {α:Type} {a b c d:Option α} {t:Bool} (h:Le a c) (k:Le b d):Le (bif t then a else b) (bif t then c else d):=by
 cases t
 ·exact k
 ·exact h
theorem Le.thenC {σ ρ τ:Type} {o:Ctl σ ρ} {f f':σ->Option τ} {g g':ρ->Option τ} (h:∀x,Le (f x) (f' x)) (k:∀x,Le (g x) (g' x)):Le (Go.Eng.thenC o f g) (Go.Eng.thenC o f' g'):=by
 cases o
 ·exact h _
 ·exact Le.refl _
 ·exact k _
theorem Le.forR {α σ ρ:Type} {b b':Nat->α->σ->Option (Ctl σ ρ)} (h:∀k x s,Le (b k x s) (b' k x s)):∀(xs:List α) (k:Nat) (s:σ),Le (Go.Eng.forR b xs k s) (Go.Eng.forR b' xs k s)
 | [],k,s=>Le.refl _
 | x::xs,k,s=>Le.bind (h k x s) (λc=>by
   cases c with
   | go s'=>exact Le.forR h xs _ _
   | brk s'=>exact Le.refl _
   | ret r=>exact Le.refl _)
theorem Le.forL {α σ ρ:Type} {xs:List α} {s:σ} {b b':Nat->α->σ->Option (Ctl σ ρ)} (h:∀k x s,Le (b k x s) (b' k x s)):Le (Go.Eng.forL xs s b) (Go.Eng.forL xs s b'):=by
 unfold Go.Eng.forL
 split
 ·exact Le.forR h xs 0 s
 ·exact Le.refl _
theorem Le.iterN {σ ρ:Type} {b b':σ->Option (Ctl σ ρ)} (h:∀s,Le (b s) (b' s)):∀(n:Nat) (s:σ),Le (Go.Eng.iterN b n s) (Go.Eng.iterN b' n s)
 | 0,s=>Le.refl _
 | n+1,s=>Le.bind (h s) (λc=>by
   cases c with
   | go s'=>exact Le.iterN h n s'
   | brk s'=>exact Le.refl _
   | ret r=>exact Le.refl _)
theorem Le.loop {σ ρ:Type} {s:σ} {b b':σ->Option (Ctl σ ρ)} (h:∀s,Le (b s) (b' s)):Le (EZ s b) (qh s b'):=λr e=>nJ (Le.iterN h _ _ r e)
set_option maxRecDepth 100000
def mX (s_1:ByteArray):Option (Bool) :=
 (EZ 0 (λs=>ib s_1 s)).bind λo_10=>thenC o_10 (λs_7=>(bif (sNe s_1 (⟨#[]⟩:ByteArray))then some (decide ((s_1.size:Int)<=40))else some false).bind λv_30=>some v_30) (λr=>some r)
theorem uN (s_1:ByteArray):Le (mX s_1) (jH s_1):=by
 unfold mX jH
 repeat' (with_reducible first | exact Le.refl _ | refine Le.loop (λ_ => ?_) | refine Le.forL (λ_ _ _ => ?_) | refine Le.thenC (λ_ => ?_) (λ_ => ?_) | refine Le.cond ?_ ?_ | refine Le.bind ?_ (λ_ => ?_))
def jJ (l_1:(List ByteArray)) (k_2:Nat) (x_4:ByteArray) (s_7:Unit):Option (Ctl (Unit) (Int)) :=
 (mX x_4).bind λr_12=>bif (!r_12)then some (.ret 5)else (bif (decide ((k_2:Int)>0))then (idx l_1 (w64 ((k_2:Int)-1))).bind λy_18=>some (sLe x_4 y_18)else some false).bind λv_15=>bif v_15 then some (.ret 7)else some (.go ())
theorem qm (l_1:(List ByteArray)) (k_2:Nat) (x_4:ByteArray) (s_7:Unit):Le (jJ l_1 k_2 x_4 s_7) (eZ l_1 k_2 x_4 s_7):=by
 unfold jJ eZ
 repeat' (with_reducible first | exact Le.refl _ | exact uN _ | refine Le.loop (λ_ => ?_) | refine Le.forL (λ_ _ _ => ?_) | refine Le.thenC (λ_ => ?_) (λ_ => ?_) | refine Le.cond ?_ ?_ | refine Le.bind ?_ (λ_ => ?_))
def kN (l_1:(List ByteArray)):Option (Int) :=
 (forL l_1 () (λk x s=>jJ l_1 k x s)).bind λo_10=>thenC o_10 (λs_7=>some 0) (λr=>some r)
theorem sO (l_1:(List ByteArray)):Le (kN l_1) (gW l_1):=by
 unfold kN gW
 repeat' (with_reducible first | exact Le.refl _ | exact qm _ _ _ _ | refine Le.loop (λ_ => ?_) | refine Le.forL (λ_ _ _ => ?_) | refine Le.thenC (λ_ => ?_) (λ_ => ?_) | refine Le.cond ?_ ?_ | refine Le.bind ?_ (λ_ => ?_))
def jI (l_1:(List ByteArray)):Option (Int) :=
 bif (decide ((l_1.length:Int)>20))then some 2 else (kN l_1).bind λr_3=>some r_3
theorem ql (l_1:(List ByteArray)):Le (jI l_1) (d9 l_1):=by
 unfold jI d9
 repeat' (with_reducible first | exact Le.refl _ | exact sO _ | refine Le.loop (λ_ => ?_) | refine Le.forL (λ_ _ _ => ?_) | refine Le.thenC (λ_ => ?_) (λ_ => ?_) | refine Le.cond ?_ ?_ | refine Le.bind ?_ (λ_ => ?_))
def ji (e_1:Entry):Option (Int) :=
 ((mX e_1.Key).bind λr_5=>bif (!r_5)then some true else (mX e_1.Item).bind λr_8=>some (!r_8)).bind λv_3=>bif v_3 then some 5 else ((bE e_1.Version 0 1000000).bind λr_13=>bif r_13 then some true else (bE e_1.First 0 e_1.Last).bind λr_16=>bif r_16 then some true else bif (decide (e_1.Last>4000))then some true else (bE e_1.Every 1 400).bind λr_20=>bif r_20 then some true else (bE e_1.Days 1 127).bind λr_23=>some r_23).bind λv_11=>bif v_11 then some 1 else (eu e_1.Except).bind λr_26=>bif (r_26 != 0)then some r_26 else ((bE e_1.From 0 1439).bind λr_31=>bif r_31 then some true else (bE e_1.To 0 1439).bind λr_34=>bif r_34 then some true else (bE e_1.Prio 0 9).bind λr_37=>some r_37).bind λv_29=>bif v_29 then some 1 else (jI e_1.Tags).bind λr_40=>some r_40
theorem pg (e_1:Entry):Le (ji e_1) (dW e_1):=by
 unfold ji dW
 repeat' (with_reducible first | exact Le.refl _ | exact uN _ | exact ql _ | refine Le.loop (λ_ => ?_) | refine Le.forL (λ_ _ _ => ?_) | refine Le.thenC (λ_ => ?_) (λ_ => ?_) | refine Le.cond ?_ ?_ | refine Le.bind ?_ (λ_ => ?_))
def gP (l_1:(List Entry)) (k_3:Nat) (x_5:Entry) (s_8:Unit):Option (Ctl (Unit) (Int)) :=
 (ji x_5).bind λr_14=>bif (r_14 != 0)then some (.ret r_14)else (bif (decide ((k_3:Int)>0))then (idx l_1 (w64 ((k_3:Int)-1))).bind λy_20=>some (sLe x_5.Key y_20.Key)else some false).bind λv_17=>bif v_17 then some (.ret 7)else some (.go ())
theorem mF (l_1:(List Entry)) (k_3:Nat) (x_5:Entry) (s_8:Unit):Le (gP l_1 k_3 x_5 s_8) (dD l_1 k_3 x_5 s_8):=by
 unfold gP dD
 repeat' (with_reducible first | exact Le.refl _ | exact pg _ | refine Le.loop (λ_ => ?_) | refine Le.forL (λ_ _ _ => ?_) | refine Le.thenC (λ_ => ?_) (λ_ => ?_) | refine Le.cond ?_ ?_ | refine Le.bind ?_ (λ_ => ?_))
def iU (l_1:(List Entry)):Option (Int) :=
 bif (decide ((l_1.length:Int)>200))then some 2 else (forL l_1 () (λk x s=>gP l_1 k x s)).bind λo_11=>thenC o_11 (λs_8=>some 0) (λr=>some r)
theorem oz (l_1:(List Entry)):Le (iU l_1) (aX l_1):=by
 unfold iU aX
 repeat' (with_reducible first | exact Le.refl _ | exact mF _ _ _ _ | refine Le.loop (λ_ => ?_) | refine Le.forL (λ_ _ _ => ?_) | refine Le.thenC (λ_ => ?_) (λ_ => ?_) | refine Le.cond ?_ ?_ | refine Le.bind ?_ (λ_ => ?_))
def fT (x_1:(List Int)) (target_2:Int):Option (Int×Bool) :=
 (EZ (0,(x_1.length:Int)) (λs=>dU x_1 target_2 s)).bind λo_11=>thenC o_11 (λs_8=>(bif (decide (s_8.1<(x_1.length:Int)))then (idx x_1 s_8.1).bind λy_24=>bif (y_24==target_2)then some true else (idx x_1 s_8.1).bind λy_27=>(fZ y_27).bind λr_29=>bif r_29 then (fZ target_2).bind λr_32=>some r_32 else some false else some false).bind λv_21=>some (s_8.1,v_21)) (λ_=>none)
theorem kX (x_1:(List Int)) (target_2:Int):Le (fT x_1 target_2) (dG x_1 target_2):=by
 unfold fT dG
 repeat' (with_reducible first | exact Le.refl _ | refine Le.loop (λ_ => ?_) | refine Le.forL (λ_ _ _ => ?_) | refine Le.thenC (λ_ => ?_) (λ_ => ?_) | refine Le.cond ?_ ?_ | refine Le.bind ?_ (λ_ => ?_))
def lX (e_1:Entry) (d_2:Int):Option (Bool) :=
 ((bE d_2 e_1.First e_1.Last).bind λr_6=>bif r_6 then some true else (CU .i64 (w64 (d_2-e_1.First)) e_1.Every).bind λq_9=>bif (q_9 != 0)then some true else (Ex .i64 1 (d_2.tmod 7)).bind λq_12=>some ((y5 .i64 e_1.Days q_12)==0)).bind λv_4=>bif v_4 then some false else (fT e_1.Except d_2).bind λr_15=>some (!r_15.2)
theorem ug (e_1:Entry) (d_2:Int):Le (lX e_1 d_2) (jy e_1 d_2):=by
 unfold lX jy
 repeat' (with_reducible first | exact Le.refl _ | exact kX _ _ | refine Le.loop (λ_ => ?_) | refine Le.forL (λ_ _ _ => ?_) | refine Le.thenC (λ_ => ?_) (λ_ => ?_) | refine Le.cond ?_ ?_ | refine Le.bind ?_ (λ_ => ?_))
def jW (wv_3:Window) (zone_2:Int) (e_1:Entry) (s_15:(List Window)×Int):Option (Ctl ((List Window)×Int) (Unit)) :=
 bif (decide (s_15.2<=(Br (w64 ((w64 ((w64 (wv_3.To+(w64 (zone_2*60000)))).tdiv 86400000))+1)) e_1.Last)))then (lX e_1 s_15.2).bind λr_24=>bif (!r_24)then some (.go (s_15.1,(w64 (s_15.2+1))))else (jR e_1 zone_2 s_15.2).bind λr_27=>(bif (decide (r_27.From<wv_3.To))then some (decide (r_27.To>wv_3.From))else some false).bind λv_30=>(bif v_30 then (jO s_15.1 ([r_27]:List Window)).bind λa_37=>some a_37 else some s_15.1).bind λv_33=>some (.go (v_33,(w64 (s_15.2+1))))else some (.brk (s_15.1,s_15.2))
theorem qH (wv_3:Window) (zone_2:Int) (e_1:Entry) (s_15:(List Window)×Int):Le (jW wv_3 zone_2 e_1 s_15) (ig wv_3 zone_2 e_1 s_15):=by
 unfold jW ig
 repeat' (with_reducible first | exact Le.refl _ | exact ug _ _ | refine Le.loop (λ_ => ?_) | refine Le.forL (λ_ _ _ => ?_) | refine Le.thenC (λ_ => ?_) (λ_ => ?_) | refine Le.cond ?_ ?_ | refine Le.bind ?_ (λ_ => ?_))
def lV (e_1:Entry) (zone_2:Int) (wv_3:Window):Option ((List Window)) :=
 (bif e_1.Gone then some true else some (decide (wv_3.From>=wv_3.To))).bind λv_6=>bif v_6 then some ([]:(List Window))else (EZ (([]:List Window),(zM (w64 ((w64 ((w64 (wv_3.From+(w64 (zone_2*60000)))).tdiv 86400000))-2)) e_1.First)) (λs=>jW wv_3 zone_2 e_1 s)).bind λo_21=>thenC o_21 (λs_15=>some s_15.1) (λ_=>none)
theorem ul (e_1:Entry) (zone_2:Int) (wv_3:Window):Le (lV e_1 zone_2 wv_3) (jB e_1 zone_2 wv_3):=by
 unfold lV jB
 repeat' (with_reducible first | exact Le.refl _ | exact qH _ _ _ _ | refine Le.loop (λ_ => ?_) | refine Le.forL (λ_ _ _ => ?_) | refine Le.thenC (λ_ => ?_) (λ_ => ?_) | refine Le.cond ?_ ?_ | refine Le.bind ?_ (λ_ => ?_))
def lZ (e_1:Entry) (zone_2:Int) (wv_3:Window):Option ((List Window)×Int) :=
 (iU ([e_1]:List Entry)).bind λr_6=>bif (r_6 != 0)then some (([]:(List Window)),r_6)else (bE zone_2 (-1440) 1440).bind λr_9=>bif r_9 then some (([]:(List Window)),1)else (gX wv_3).bind λr_12=>bif (r_12 != 0)then some (([]:(List Window)),r_12)else (lV e_1 zone_2 wv_3).bind λr_15=>(forL (List.range ((r_15.length:Int)).toNat) r_15 (λk x s=>jf wv_3 k x s)).bind λo_27=>thenC o_27 (λs_24=>some (s_24,0)) (λ_=>none)
theorem uh (e_1:Entry) (zone_2:Int) (wv_3:Window):Le (lZ e_1 zone_2 wv_3) (jh e_1 zone_2 wv_3):=by
 unfold lZ jh
 repeat' (with_reducible first | exact Le.refl _ | exact oz _ | exact ul _ _ _ | refine Le.loop (λ_ => ?_) | refine Le.forL (λ_ _ _ => ?_) | refine Le.thenC (λ_ => ?_) (λ_ => ?_) | refine Le.cond ?_ ?_ | refine Le.bind ?_ (λ_ => ?_))
def tu  : Option (Bool) :=
 (lZ (⟨(⟨#[97]⟩:ByteArray),(⟨#[98]⟩:ByteArray),0,0,0,1,127,([]:List Int),1,2,0,([]:List ByteArray),false⟩:Entry) 0 (⟨0,86400000⟩:Window)).bind λr_1=>(bif (r_1.2==0)then bif ((r_1.1.length:Int)==1)then (idx r_1.1 0).bind λy_7=>some (y_7.From==60000)else some false else some false).bind λv_3=>some v_3
theorem Bu  : Le (tu) (mI):=by
 unfold tu mI
 repeat' (with_reducible first | exact Le.refl _ | exact uh _ _ _ | refine Le.loop (λ_ => ?_) | refine Le.forL (λ_ _ _ => ?_) | refine Le.thenC (λ_ => ?_) (λ_ => ?_) | refine Le.cond ?_ ?_ | refine Le.bind ?_ (λ_ => ?_))
theorem timed_F:tu=some true:=by kernel_rfl
theorem GN:mI=some true:=Bu _ timed_F
theorem Gr (l:List UInt8) (hl:l.length<=900):∃r:List Entry×Int×Int,ja (SB l)=some r/\fQ (SB l)=some r/\(∀e∈r.1,fA e e=some true)/\r.1.length<=100:=by
 have hsz:decide (((SB l).size:Int)>200000)=false:=by rw [dA];exact decide_eq_false (by omega)
 obtain ⟨sz1,sz2⟩:=lM 10 l
 have hne:=sN 10 l
 have hq:∀q∈spl 10 l,q.length<=900:=λq h=>Nat.le_trans (sz2 q h) hl
 obtain ⟨m,hm⟩:=Aj l.length l 0 [] (Nat.le_refl _) hl (by omega) (by simp only [List.length_nil];omega)
 have hsp:=uH 10 (s:=SB l) (by rw [dA];omega)
 rw [show (List.map (λl=>(⟨l.toArray⟩:ByteArray)) (spl 10 (SB l).data.toList))=(spl 10 l).map SB from rfl]at hsp
 have hpl:((spl 10 l).map SB).length=(spl 10 l).length:=List.length_map ..
 have hpos:0<(spl 10 l).length:=List.length_pos_iff.2 hne
 have hw:w64 ((((spl 10 l).map SB).length:Int)-1)=(((spl 10 l).length-1:Nat):Int):=by rw [hpl,jb (by omega)];omega
 obtain ⟨z,hz⟩:∃z,(spl 10 l).getLast? = some z:=⟨_,List.getLast?_eq_some_getLast hne⟩
 have hix:idx ((spl 10 l).map SB) (((spl 10 l).length-1:Nat):Int)=some (SB z):=by
  rw [uA,List.getElem?_map,<- List.getLast?_eq_getElem?,hz];rfl
 have hread:ja (SB l)=(match lns (spl 10 l) 0 []with
   | .inl i=>some ([],(i:Int),9)
   | .inr o=>(aX o).bind λr_29=>bif (r_29 != 0)then some ([],0,r_29)else some (o,0,0)):=by
  unfold ja rM
  rw [hsz,cond_false,hsp,ob_,hw,hix,ob_,yO]
  cases z with
  | nil =>
   have hdl:vz ((spl 10 l).map SB) 0 (((spl 10 l).length-1:Nat):Int)=some ((spl 10 l).dropLast.map SB):=by
    unfold vz
    rw [if_pos (by rw [hpl];omega),Int.toNat_natCast]
    congr 1
    rw [show Int.toNat 0=0 from rfl,List.drop_zero,<- List.map_take,<- List.dropLast_eq_take]
   simp only [List.isEmpty_nil,cond_true]
   rw [hdl]
   simp only [ob_]
   rw [eF (by rw [List.length_map,List.length_dropLast];omega),Ad _ rfl (spl 10 l) 0 [] hne hz hq (by simp only [List.length_nil];omega)]
   cases lns (spl 10 l) 0 [] <;> rfl
  | cons z0 zs =>
   simp only [List.isEmpty_cons,cond_false,ob_]
   rw [eF (by rw [hpl];omega),yZ _ rfl (by rw [hpl];omega) (spl 10 l) 0 [] hne (by rw [hz];simp) (by rw [hpl];omega) hq (by simp only [List.length_nil];omega)]
   cases lns (spl 10 l) 0 [] <;> rfl
 rw [hread]
 have e0:((0:Nat):Int)=0:=rfl
 rw [e0]at hm
 cases hr:lns (spl 10 l) 0 []with
 | inl i =>
  rw [hr]at hm
  obtain ⟨o,ho⟩:=hm
  refine⟨_,rfl,?_,(λe he=>by cases he),by simp⟩
  unfold fQ kC
  rw [hsz,cond_false,nJ ho];rfl
 | inr o =>
  rw [hr]at hm
  obtain ⟨t,j,ho⟩:=hm
  obtain ⟨g1,g2⟩:=Df (spl 10 l) 0 [] o hq (λx hx=>by cases hx) hr
  simp only [List.length_nil]at g2
  rw [FB]at g2
  have hg:∀e∈o,oD e:=λe he=>(g1 e he).1
  have hK:=entsK hg (by omega)
  have hR:=entsR hg (by omega)
  have href:fQ (SB l)=(fq o).bind λr_9=>bif (r_9 != 0)then some ([],0,r_9)else some (o,0,0):=by
   unfold fQ kC
   rw [hsz,cond_false,nJ ho];rfl
  rw [href]
  simp only []
  rw [hK,hR]
  cases hb:(qc o != 0)with
  | true =>
   refine⟨([],0,qc o),?_,?_,(λe he=>by cases he),by simp⟩
   ·simp only [ob_,hb,cond_true]
   ·simp only [ob_,hb,cond_true]
  | false =>
   refine⟨(o,0,0),?_,?_,λe he=>(g1 e he).2,by show o.length<=_;omega⟩
   ·simp only [ob_,hb,cond_false]
   ·simp only [ob_,hb,cond_false]
theorem entryTexts (l:List Int):kG l=some true:=by
 have h0:Ok (⟨l,0⟩:Stream) 0:=⟨Int.le_refl _,Int.le_refl _⟩
 obtain ⟨es,s1,a1,a2,a3,a4⟩:=DT ⟨l,0⟩ h0 (by decide)
 obtain ⟨t,b1,b2⟩:=Bj s1 a2 (by decide)
 have hK:=entsK a4 (by omega)
 have hR:=entsR a4 (by omega)
 have htl:t.1.data.toList.length<=900:=by rw [<- Lib.size_eq];exact b2
 obtain ⟨r,c1,c2,c3,c4⟩:=Gr t.1.data.toList htl
 rw [show SB t.1.data.toList=t.1 from rfl]at c1 c2
 have heq:=H8 r.1 c3 (by omega)
 have hsame:∀s:ByteArray,sEq s s=true:=λs=>(eT _ _).2 rfl
 have htext:∃s:ByteArray,fV es=some (s,qc es)/\(bif (qc es==0)then (fC es).bind λr_16=>some r_16 else some (⟨#[]⟩:ByteArray))=some s:=by
  by_cases h:qc es=0
  ·have hf:=(zY es xy h).1
   have hc:aX es=some 0:=by rw [hK,h]
   obtain ⟨d1,d2⟩:=IC (λe he=>fit_of (hf e he).1) a3 hc
   refine⟨SB (kL es),by rw [h];exact d1,?_⟩
   rw [h,beq_self_eq_true,cond_true,d2];rfl
  ·refine⟨⟨#[]⟩,?_,?_⟩
   ·unfold fV
    rw [hK,ob_,show (qc es != 0)=true by simpa using h];rfl
   ·rw [show (qc es==0)=false by simpa using h];rfl
 obtain ⟨s,d1,d2⟩:=htext
 unfold kG
 simp only [a1,b1,d1,hR,ob_,d2,c1,c2,beq_self_eq_true,cond_true,hsame,heq,GN]
end Go.Proofs.YtigdobmllbakiabGreatDoor.Law

