/-
  THE PLAIN LAW (part 3).
-/
import Derived.Test.YtnfedlledilojaaGreatDoorPl2
open Go Go.Eng
namespace Go.Proofs.YtnfedlledilojaaGreatDoor.Law
set_option linter.unusedVariables false
set_option linter.unusedSimpArgs false
theorem wO (l2:List Log_):∀(xs:List Log_) (k:Nat),l2.drop k=xs->eD (λk x s=>aY l2 k x s) xs k ()=some (.go ())
 | [],k,h=>rfl
 | x::xs,k,h=>by
  have hstep:aY l2 k x ()=some (.go ()):=by
   unfold aY
   rw [dU h]
   simp
  simp only [eD,hstep,ob_]
  exact wO l2 xs (k+1) (bJ h)
theorem Ae (l:List Log_) (hl:l.length<=1000000000):bL l l=some true:=by
 unfold bL
 have e:((l.length:Int) != (l.length:Int))=false:=by simp
 rw [e,cond_false,eX (by omega),wO l l 0 rfl]
 rfl
open Go Go.Eng
structure SeqL (pl:ByteArray) (n:Nat) (l:List Log_):Prop where
 good:∀x∈l,GoodL x
 form:∀x∈l,formF x=0
 mark:∀x∈l,markB x.Sum=true
 player:∀x∈l,x.Player=pl
 no:∀(i:Nat) (x:Log_),l[i]? = some x->x.No=((n+i:Nat):Int)+1
 few:l.length<=1000
theorem SeqL.tail {pl:ByteArray} {n:Nat} {x:Log_} {l:List Log_} (h:SeqL pl n (x::l)):SeqL pl (n+1) l :=
 ⟨λy hy=>h.good y (List.mem_cons_of_mem _ hy),λy hy=>h.form y (List.mem_cons_of_mem _ hy),λy hy=>h.mark y (List.mem_cons_of_mem _ hy),λy hy=>h.player y (List.mem_cons_of_mem _ hy),
  λi y hi=>by rw [h.no (i+1) y (by simpa using hi),show n+(i+1)=n+1+i by omega],by have:=h.few;simp only [List.length_cons]at this;omega⟩
theorem SeqL.drop {pl:ByteArray}:∀(k n:Nat) {l:List Log_},SeqL pl n l->SeqL pl (n+k) (l.drop k)
 | 0,n,l,h=>h
 | k+1,n,[],h=>by
  rw [List.drop_nil]
  exact⟨λx hx=>(by cases hx),λx hx=>(by cases hx),λx hx=>(by cases hx),λx hx=>(by cases hx),λi x hi=>(by simp at hi),(by simp)⟩
 | k+1,n,x::l,h=>by
  have:=SeqL.drop k (n+1) h.tail
  rw [show n+(k+1)=n+1+k by omega]
  exact this
theorem SeqL.take {pl:ByteArray} (k:Nat) {n:Nat} {l:List Log_} (h:SeqL pl n l):SeqL pl n (l.take k) :=
 ⟨λy hy=>h.good y (List.mem_of_mem_take hy),λy hy=>h.form y (List.mem_of_mem_take hy),λy hy=>h.mark y (List.mem_of_mem_take hy),λy hy=>h.player y (List.mem_of_mem_take hy),
  λi y hi=>h.no i y (by
   rw [List.getElem?_take]at hi
   split at hi
   ·exact hi
   ·cases hi),by have:=h.few;rw [List.length_take];omega⟩
def tlB (x:Log_):List UInt8:=ql x++[32]++x.Sum.data.toList
def txB (l:List Log_):List UInt8:=l.flatMap (λx=>tlB x++[10])
theorem BA {x:Log_} (h:GoodL x):(tlB x).length<=3200:=by
 have h1:=pU h
 have h2:=gy h.2.2.1
 unfold tlB
 simp only [List.length_append,List.length_cons,List.length_nil];omega
theorem uU (x:Log_) (l:List Log_):txB (x::l)=tlB x++10::txB l:=by
 unfold txB
 rw [List.flatMap_cons];simp
theorem EW:∀(l:List Log_),(∀x∈l,GoodL x)->(txB l).length<=l.length*3201
 | [],_=>Nat.le_refl _
 | x::l,h=>by
  have h1:=BA (h x (by simp))
  have h2:=EW l (λy hy=>h y (List.mem_cons_of_mem _ hy))
  rw [uU,List.length_append,List.length_cons,List.length_cons];omega
theorem D8 (a z:List UInt8) (h:a.length+z.length<=1000000000):Ex (nums a) (BB z)=some (nums (a++z)):=by
 unfold Ex
 have e:aI (BB z)=nums z:=rfl
 rw [if_pos (by rw [dz];unfold nums;rw [List.length_map];exact h),e]
 unfold nums
 rw [List.map_append]
theorem Bh (a:List UInt8) (h:a.length<=1000000000):rR (nums a)=some (BB a):=by
 unfold rR
 rw [if_pos ⟨by unfold nums;rw [List.length_map];exact h,by
  unfold nums
  rw [List.all_map,List.all_eq_true]
  intro b _
  have:=b.toNat_lt
  show (decide (0<=(b.toNat:Int))&&decide ((b.toNat:Int)<=255))=true
  rw [decide_eq_true (by omega),decide_eq_true (by omega)];rfl⟩,Br]
theorem CK:∀(xs:List Log_) (k:Nat) (acc:List UInt8),(∀x∈xs,GoodL x)->acc.length+xs.length*3201<=900000000->eD (λk x s=>gu k x s) xs k (nums acc)=some (.go (nums (acc++txB xs)))
 | [],k,acc,h,hl=>by
  rw [show txB []=[] from rfl,List.append_nil];rfl
 | x::xs,k,acc,h,hl=>by
  simp only [List.length_cons]at hl
  have hx:=h x (by simp)
  have h1:=pU hx
  have h2:=gy hx.2.2.1
  have hstep:gu k x (nums acc)=some (.go (nums (acc++(tlB x++[10])))):=by
   unfold gu
   rw [line_eq hx,ob_,show (⟨#[32]⟩:ByteArray)=BB [32] from rfl,show (⟨#[10]⟩:ByteArray)=BB [10] from rfl,show x.Sum=BB x.Sum.data.toList from rfl,
    iB _ _ (by simp only [List.length_append,List.length_cons,List.length_nil];omega),ob_,iB _ _ (by simp only [List.length_append,List.length_cons,List.length_nil];omega),ob_,
    iB _ _ (by simp only [List.length_append,List.length_cons,List.length_nil];omega),ob_,D8 _ _ (by simp only [List.length_append,List.length_cons,List.length_nil];omega),ob_]
   rfl
  rw [eD,hstep,ob_]
  simp only []
  rw [CK xs (k+1) _ (λy hy=>h y (List.mem_cons_of_mem _ hy)) (by have:=BA hx;simp only [List.length_append,List.length_cons,List.length_nil];omega),uU]
  simp
theorem text_eq {l:List Log_} (h:∀x∈l,GoodL x) (hl:l.length<=50) (hc:dF l=some 0):iL l=some (BB (txB l),0):=by
 have hn:=EW l h
 unfold iL
 rw [hc,ob_,bne_self_eq_false,cond_false,eX (by omega)]
 have hg:=CK l 0 [] h (by simp only [List.length_nil];omega)
 rw [show nums []=[] from rfl,List.nil_append]at hg
 rw [hg,ob_,jk,decide_eq_false (by unfold nums;rw [List.length_map];omega),cond_false,Bh _ (by omega)];rfl
structure Fmt (x:Log_):Prop where
 p:keyB x.Player=true
 i:keyB x.Item=true
 n:1<=x.No/\x.No<=1000000
 c:0<=x.Clock/\x.Clock<=345686399999
 l:1<=x.Long/\x.Long<=86400000
def x9 (x:Log_):Prop:=GoodL x/\x.Player.size<=16/\x.Item.size<=16/\x.Sum.size<=16
theorem uz (s:Stream) (most:Int) (hm:0<=most/\most<=20) {b:Int} (hs:Ok s b) (hb:b<=700000):∃r,bu s most=some r/\(Ok r.2 (b+300)/\r.1.length<=2*most.toNat/\∀x∈r.1,x9 x):=by
 unfold bu
 obtain ⟨s',h1,h2,h3,h4⟩:=oM (body:=λk x s=>aR most k x s) (λk s=>Ok ⟨s.2.1,s.2.2⟩ (b+150*k)/\s.1.length<=most.toNat*k/\∀x∈s.1,x9 x)
  (xs:=[(⟨#[112,97]⟩:ByteArray),(⟨#[112,98]⟩:ByteArray)]) (s:=(([]:List Log_),s.L,s.f_at)) (by simp) (λk x t hxm hk ⟨i1,i2,i3⟩=>by
   have hk2:k<2:=hk
   have hti:x.size<=16:=by
    simp only [List.mem_cons,List.not_mem_nil,or_false]at hxm
    rcases hxm with rfl|rfl <;> decide
   have hsh:cZ x:=by
    simp only [List.mem_cons,List.not_mem_nil,or_false]at hxm
    rcases hxm with rfl|rfl <;> exact bX rfl
   obtain ⟨a,a1,a2,a3⟩:=ou _ [0,50,1000] i1 (by omega) (by simp) (by simp)
   have ha:0<=a.1/\a.1<=1000:=by
    simp only [List.mem_cons,List.not_mem_nil,or_false]at a2
    rcases a2 with h|h|h <;> omega
   obtain ⟨n,n1,n2,n3,n4⟩:=zz a.2 0 most a3 (by omega) hm.1 (by omega) (by omega)
   obtain ⟨u,m1,m2,m3,m4,m5,m6⟩:=oM (body:=λk y s=>aZ x k y s) (λj s=>Ok ⟨s.2.2.2.1,s.2.2.2.2⟩ (b+150*k+2+4*j)/\cZ s.2.1/\(0<=s.2.2.1/\s.2.2.1<=1000+100*j)/\s.1.length<=most.toNat*k+j/\∀x∈s.1,x9 x)
    (xs:=List.range n.1.toNat) (s:=(t.1,(⟨#[]⟩:ByteArray),a.1,n.2.L,n.2.f_at)) (by simp;omega) (λj y v _ hj ⟨j1,j2,j3,j4,j5⟩=>by
     have hj3:j<20:=by rw [List.length_range]at hj;omega
     have hmk:most.toNat*k<=20*2:=Nat.mul_le_mul (by omega) (by omega)
     obtain ⟨p,p1,p2,p3⟩:=qJ _ [(⟨#[105,97]⟩:ByteArray),(⟨#[105,98]⟩:ByteArray)] j1 (by omega) (by simp) (by simp)
     have hp:cZ p.1:=kP p2 (rD (bX rfl) (bX rfl))
     have hpt:p.1.size<=16:=by
      simp only [List.mem_cons,List.not_mem_nil,or_false]at p2
      rcases p2 with h|h <;> rw [h] <;> decide
     obtain ⟨q,q1,q2,q3⟩:=ou p.2 [1,10,30,100] p3 (by omega) (by simp) (by simp)
     have hq:Med q.1:=by
      unfold Med
      simp only [List.mem_cons,List.not_mem_nil,or_false]at q2
      rcases q2 with h|h|h|h <;> omega
     have hw:w64 ((j:Int)+1)=(j:Int)+1:=dC (by omega)
     have hg0:GoodL (⟨x,p.1,w64 ((j:Int)+1),v.2.2.1,q.1,(⟨#[]⟩:ByteArray)⟩:Log_):=⟨hsh,hp,bX rfl,by rw [hw];show Med ((j:Int)+1);unfold Med;omega,by show Med v.2.2.1;unfold Med;omega,hq⟩
     obtain ⟨r,r1,r2,r3⟩:=ou q.2 [0,5,10,50,100] q3 (by omega) (by simp) (by simp)
     have hr:0<=r.1/\r.1<=100:=by
      simp only [List.mem_cons,List.not_mem_nil,or_false]at r2
      rcases r2 with h|h|h|h|h <;> omega
     obtain ⟨c,c1,c2⟩:=vX r.2 6 r3 (by omega) (by decide) (by decide)
     have hsum:=AL v.2.1 j2 hg0
     have hw2:w64 (v.2.2.1+r.1)=v.2.2.1+r.1:=dC (by omega)
     have hgl:∀z∈v.1++[(⟨x,p.1,w64 ((j:Int)+1),v.2.2.1,q.1,mk (v.2.1.data.toList++[32]++ql (⟨x,p.1,w64 ((j:Int)+1),v.2.2.1,q.1,(⟨#[]⟩:ByteArray)⟩:Log_))⟩:Log_)],x9 z:=λz hz=>by
      rcases List.mem_append.1 hz with hz|hz
      ·exact j5 z hz
      ·rw [List.mem_singleton.1 hz];exact⟨⟨hsh,hp,lF _,hg0.2.2.2.1,hg0.2.2.2.2.1,hq⟩,hti,hpt,by show (mk _).size<=16;rw [CQ];decide⟩
     simp only [aZ,p1,q1,hsum,r1,c1,ob_]
     cases c.1 with
     | true =>
      simp only [Bool.not_true,cond_false,ob_]
      exact⟨_,rfl,c2.mono (by omega),lF _,by show 0<=w64 (v.2.2.1+r.1)/\w64 (v.2.2.1+r.1)<=_;rw [hw2];omega,by show v.1.length<=_;omega,j5⟩
     | false =>
      simp only [Bool.not_false,cond_true]
      rw [kF v.1 [_] (by simp;omega)]
      simp only [ob_]
      exact⟨_,rfl,c2.mono (by omega),lF _,by show 0<=w64 (v.2.2.1+r.1)/\w64 (v.2.2.1+r.1)<=_;rw [hw2];omega,by simp;omega,hgl⟩) ⟨n4.mono (by omega),bX rfl,by simpa using ha,by simpa using i2,i3⟩
   have hstep:aR most k x t=some (.go (u.1,u.2.2.2.1,u.2.2.2.2)):=by
    unfold aR
    rw [a1];simp only [ob_]
    rw [n1];simp only [ob_]
    rw [m1];rfl
   rw [hstep]
   have hl:(List.range n.1.toNat).length<=most.toNat:=by rw [List.length_range];omega
   refine⟨_,rfl,m2.mono (by omega),?_,m6⟩
   show u.1.length<=most.toNat*(k+1)
   rw [Nat.mul_succ];omega) ⟨by simpa using hs,by simp,by simp⟩
 rw [h1]
 refine mr ⟨h2.mono (by simp),?_,h4⟩
 show s'.1.length<=_
 have:s'.1.length<=most.toNat*2:=h3
 omega
theorem tiny_tl {x:Log_} (h:x9 x):(tlB x).length<=120:=by
 obtain ⟨⟨_,_,_,h4,h5,h6⟩,t1,t2,t3⟩:=h
 have:=fE h4;have:=fE h5;have:=fE h6
 rw [Go.Lib.size_eq]at t1 t2 t3
 simp only [tlB,ql,List.length_append,List.length_cons,List.length_nil]
 omega
theorem CE:∀(l:List Log_),(∀x∈l,x9 x)->(txB l).length<=l.length*121
 | [],_=>Nat.le_refl _
 | x::l,h=>by
  have h1:=tiny_tl (h x (by simp))
  have h2:=CE l (λy hy=>h y (List.mem_cons_of_mem _ hy))
  rw [uU,List.length_append,List.length_cons,List.length_cons];omega
theorem qW:∀(xs:List Log_) (k:Nat) (acc:List UInt8),(∀x∈xs,GoodL x)->acc.length+xs.length*3201<=900000000->eD (λk x s=>eO k x s) xs k (BB acc)=some (.go (BB (acc++txB xs)))
 | [],k,acc,h,hl=>by
  rw [show txB []=[] from rfl,List.append_nil];rfl
 | x::xs,k,acc,h,hl=>by
  simp only [List.length_cons]at hl
  have hx:=h x (by simp)
  have h1:=pU hx
  have h2:=gy hx.2.2.1
  have hstep:eO k x (BB acc)=some (.go (BB (acc++(tlB x++[10])))):=by
   unfold eO
   rw [vM hx,ob_,show (⟨#[32]⟩:ByteArray)=BB [32] from rfl,show (⟨#[10]⟩:ByteArray)=BB [10] from rfl,show x.Sum=BB x.Sum.data.toList from rfl,
    iB _ _ (by simp only [List.length_append,List.length_cons,List.length_nil];omega),ob_,iB _ _ (by simp only [List.length_append,List.length_cons,List.length_nil];omega),ob_,
    iB _ _ (by simp only [List.length_append,List.length_cons,List.length_nil];omega),ob_,iB _ _ (by simp only [List.length_append,List.length_cons,List.length_nil];omega),ob_]
   rfl
  rw [eD,hstep,ob_]
  simp only []
  rw [qW xs (k+1) _ (λy hy=>h y (List.mem_cons_of_mem _ hy)) (by have:=BA hx;simp only [List.length_append,List.length_cons,List.length_nil];omega),uU]
  simp
theorem tF (l:List Log_) (h:∀x∈l,GoodL x) (hl:l.length<=1000):fT l=some (BB (txB l)):=by
 have:=qW l 0 [] h (by simp only [List.length_nil];omega)
 rw [show BB []=(⟨#[]⟩:ByteArray) from rfl,List.nil_append]at this
 unfold fT
 rw [eX (by omega),this];rfl
theorem zg (t:ByteArray) (a b:Nat) (h1:a<=b) (h2:b<=t.size):∃y,ik t (a:Int) (b:Int)=some y/\y.size=b-a:=by
 have hl:t.data.toList.length=t.size:=(Go.Lib.size_eq t).symm
 have:=zJ t.data.toList a b h1 (by omega)
 refine⟨_,this,?_⟩
 rw [dz,List.length_drop,List.length_take];omega
def chW:ByteArray:=⟨#[32,10,48,45,57,112,105]⟩
theorem enc_all:∀i:Fin 7,(Utf8.encode (IntKind.i32.wrap ((bN chW i.val).toNat:Int))).size<=4:=by decide +kernel
theorem Ck (s:Stream) (t:ByteArray) {b:Int} (hs:Ok s b) (hb:b<=900000) (ht:t.size<=100000):∃r,dN s t chW=some r/\r.1.size<=t.size+7/\Ok r.2 (b+3):=by
 unfold dN
 have hw:sEq chW (⟨#[]⟩:ByteArray)=false:=by
  cases h:sEq chW (⟨#[]⟩:ByteArray)with
  | false=>rfl
  | true =>
   have:=congrArg ByteArray.size ((iG _ _).1 h)
   exact absurd this (by decide)
 rw [hw]
 cases h0:sEq t (⟨#[]⟩:ByteArray)with
 | true=>exact⟨_,rfl,by show chW.size<=_;rw [show chW.size=7 from rfl];omega,hs.mono (by omega)⟩
 | false =>
 have hpos:0<t.size:=by
  rcases Nat.eq_zero_or_pos t.size with h|h
  ·have:t=(⟨#[]⟩:ByteArray):=by
    have hl:t.data.toList=[]:=List.eq_nil_of_length_eq_zero (by rw [<- Go.Lib.size_eq];exact h)
    exact (bb_of t).trans (by rw [hl])
   rw [this,(iG _ _).2 rfl]at h0;cases h0
  ·exact h
 simp only [cond_false,ob_]
 obtain ⟨i,s1,a1,a2,a3,a4⟩:=lX s (t.size:Int) hs (by omega) (by omega) (by omega)
 obtain ⟨j,s2,b1,b2,b3,b4⟩:=lX s1 (chW.size:Int) a4 (by omega) (by decide) (by decide)
 obtain ⟨q,s3,c1,c2,c3,c4⟩:=lX s2 3 b4 (by omega) (by decide) (by decide)
 obtain ⟨i,rfl⟩:∃n:Nat,i=(n:Int):=⟨i.toNat,by omega⟩
 obtain ⟨j,rfl⟩:∃n:Nat,j=(n:Int):=⟨j.toNat,by omega⟩
 have hj:j<7:=by rw [show chW.size=7 from rfl]at b3;omega
 have hx:=ow chW j (by rw [show chW.size=7 from rfl];exact hj)
 have he:=enc_all ⟨j,hj⟩
 obtain ⟨y0,d1,d2⟩:=zg t 0 i (by omega) (by omega)
 obtain ⟨y1,e1,e2⟩:=zg t (i+1) t.size (by omega) (Nat.le_refl _)
 obtain ⟨y2,f1,f2⟩:=zg t i t.size (by omega) (Nat.le_refl _)
 rw [show ((0:Nat):Int)=0 from rfl]at d1
 have hwi:w64 ((i:Int)+1)=((i+1:Nat):Int):=by rw [dC (by omega)];rfl
 simp only [a1,b1,hx,c1,d1,ob_,hwi,e1,f1]
 generalize Utf8.encode (IntKind.i32.wrap ((bN chW j).toNat:Int))=z at he
 have g1:gG y0 z=some (y0++z):=pG (by omega)
 have z1:(y0++z).size=y0.size+z.size:=ry _ _
 have g2:gG (y0++z) y1=some (y0++z++y1):=pG (by omega)
 have g3:gG (y0++z) y2=some (y0++z++y2):=pG (by omega)
 have g4:gG y0 y1=some (y0++y1):=pG (by omega)
 have z2:(y0++z++y1).size=(y0++z).size+y1.size:=ry _ _
 have z3:(y0++z++y2).size=(y0++z).size+y2.size:=ry _ _
 have z4:(y0++y1).size=y0.size+y1.size:=ry _ _
 have hok:Ok s3 (b+3):=c4.mono (by omega)
 cases hq0:q==0 with
 | true =>
  simp only [cond_true,g1,g2,ob_]
  exact⟨_,rfl,by show (y0++z++y1).size<=_;omega,hok⟩
 | false =>
  simp only [cond_false]
  cases hq1:q==1 with
  | true =>
   simp only [cond_true,g1,g3,ob_]
   exact⟨_,rfl,by show (y0++z++y2).size<=_;omega,hok⟩
  | false =>
   simp only [cond_false,g4,ob_]
   exact⟨_,rfl,by show (y0++y1).size<=_;omega,hok⟩
theorem Cf (s:Stream) {b:Int} (hs:Ok s b) (hb:b<=600000):∃r,eU s=some r/\r.1.size<=1000:=by
 obtain ⟨r,a1,a2,a3,a4⟩:=uz s 2 (by decide) hs (by omega)
 have hg:∀x∈r.1,GoodL x:=λx hx=>(a4 x hx).1
 have hl:r.1.length<=4:=a3
 have ht:=CE r.1 a4
 have hln:=tF r.1 hg (by omega)
 obtain ⟨n,c1,c2,c3⟩:=ou r.2 [0,0,1,2] a2 (by omega) (by decide) (by decide)
 have hn:0<=n.1/\n.1<=2:=by
  simp only [List.mem_cons,List.not_mem_nil,or_false]at c2
  rcases c2 with h|h|h|h <;> omega
 obtain ⟨u,d1,d2,d3⟩:=oM (body:=λk x s=>dM k x s) (λk (s:ByteArray×List Int×Int)=>Ok ⟨s.2.1,s.2.2⟩ (b+301+3*k)/\s.1.size<=484+7*k) (xs:=List.range n.1.toNat) (s:=(BB (txB r.1),n.2.L,n.2.f_at)) (by rw [List.length_range];omega) (λk x t _ hk ⟨i1,i2⟩=>by
  have hk2:k<2:=by rw [List.length_range]at hk;omega
  obtain ⟨v,e1,e2,e3⟩:=Ck ⟨t.2.1,t.2.2⟩ t.1 i1 (by omega) (by omega)
  unfold dM
  have e1':dN ⟨t.2.1,t.2.2⟩ t.1 (⟨#[32,10,48,45,57,112,105]⟩:ByteArray)=some v:=e1
  rw [e1',ob_]
  refine⟨_,rfl,?_,?_⟩
  ·show Ok ⟨v.2.L,v.2.f_at⟩ _
   exact e3.mono (by omega)
  ·show v.1.size<=_
   omega) ⟨c3.mono (by simp;omega),by show (BB (txB r.1)).size<=_;rw [dz];omega⟩
 unfold eU
 simp only [a1,hln,c1,ob_]
 rw [d1,ob_,jk]
 refine⟨_,rfl,?_⟩
 show u.1.size<=1000
 rw [List.length_range]at d3
 omega
theorem ms {α:Type} {E:Option α} {f:α->Option Bool} {P:α->Prop} (h:∃a,E=some a/\P a) (k:∀a,P a->f a=some true):E.bind f=some true:=by
  obtain ⟨a,h1,h2⟩:=h
  rw [h1];exact k a h2
theorem Dq (l:List UInt8) (hl:l.length<=1000):∃r:List Log_×Int×Int,jC (BB l)=some r/\fZ (BB l)=some r/\r.1.length<=100000:=by
 have hsz:decide (((BB l).size:Int)>200000)=false:=by rw [dz];exact decide_eq_false (by omega)
 obtain ⟨sz1,sz2⟩:=rF 10 l
 have hne:=Fv 10 l
 have hq:∀q∈spl 10 l,q.length<=1000:=λq h=>Nat.le_trans (sz2 q h) hl
 obtain ⟨m,hm⟩:=yz l.length l 0 [] (Nat.le_refl _) hl (by omega) (by simp only [List.length_nil];omega)
 have hsp:=Ai 10 (s:=BB l) (by rw [dz];omega)
 rw [show (List.map (λl=>(⟨l.toArray⟩:ByteArray)) (spl 10 (BB l).data.toList))=(spl 10 l).map BB from rfl]at hsp
 have hpl:((spl 10 l).map BB).length=(spl 10 l).length:=List.length_map ..
 have hpos:0<(spl 10 l).length:=List.length_pos_iff.2 hne
 have hw:w64 ((((spl 10 l).map BB).length:Int)-1)=(((spl 10 l).length-1:Nat):Int):=by rw [hpl,dC (by omega)];omega
 obtain ⟨z,hz⟩:∃z,(spl 10 l).getLast? = some z:=⟨_,List.getLast?_eq_some_getLast hne⟩
 have hix:idx ((spl 10 l).map BB) (((spl 10 l).length-1:Nat):Int)=some (BB z):=by
  rw [nO,List.getElem?_map,<- List.getLast?_eq_getElem?,hz];rfl
 have hread:jC (BB l)=(match lns (spl 10 l) 0 []with
   | .inl i=>some ([],(i:Int),9)
   | .inr o=>(dF o).bind λr_29=>bif (r_29 != 0)then some ([],0,r_29)else some (o,0,0)):=by
  unfold jC pz
  rw [hsz,cond_false,hsp,ob_,hw,hix,ob_,zA]
  cases z with
  | nil =>
   have hdl:wh ((spl 10 l).map BB) 0 (((spl 10 l).length-1:Nat):Int)=some ((spl 10 l).dropLast.map BB):=by
    unfold wh
    rw [if_pos (by rw [hpl];omega),Int.toNat_natCast]
    congr 1
    rw [show Int.toNat 0=0 from rfl,List.drop_zero,<- List.map_take,<- List.dropLast_eq_take]
   simp only [List.isEmpty_nil,cond_true]
   rw [hdl]
   simp only [ob_]
   rw [eX (by rw [List.length_map,List.length_dropLast];omega),yH _ rfl (spl 10 l) 0 [] hne hz hq (by simp only [List.length_nil];omega)]
   cases lns (spl 10 l) 0 [] <;> rfl
  | cons z0 zs =>
   simp only [List.isEmpty_cons,cond_false,ob_]
   rw [eX (by rw [hpl];omega),vQ _ rfl (by rw [hpl];omega) (spl 10 l) 0 [] hne (by rw [hz];simp) (by rw [hpl];omega) hq (by simp only [List.length_nil];omega)]
   cases lns (spl 10 l) 0 [] <;> rfl
 rw [hread]
 have e0:((0:Nat):Int)=0:=rfl
 rw [e0]at hm
 cases hr:lns (spl 10 l) 0 []with
 | inl i =>
  rw [hr]at hm
  obtain ⟨o,ho⟩:=hm
  refine⟨_,rfl,?_,by simp⟩
  unfold fZ jh
  rw [hsz,cond_false,ll ho];rfl
 | inr o =>
  rw [hr]at hm
  obtain ⟨t,j,ho⟩:=hm
  obtain ⟨g1,g2⟩:=Bi (spl 10 l) 0 [] o hq (λx hx=>by cases hx) hr
  simp only [List.length_nil]at g2
  have hK:=logsK o g1 (by omega)
  have hR:=logsR o g1 (by omega)
  have href:fZ (BB l)=(fA o).bind λr_9=>bif (r_9 != 0)then some ([],0,r_9)else some (o,0,0):=by
   unfold fZ jh
   rw [hsz,cond_false,ll ho];rfl
  rw [href]
  simp only []
  rw [hK,hR]
  cases hb:(oW o != 0)with
  | true =>
   refine⟨([],0,oW o),?_,?_,by simp⟩
   ·simp only [ob_,hb,cond_true]
   ·simp only [ob_,hb,cond_true]
  | false =>
   refine⟨(o,0,0),?_,?_,by show o.length<=_;omega⟩
   ·simp only [ob_,hb,cond_false]
   ·simp only [ob_,hb,cond_false]
theorem logTexts (l:List Int):kI l=some true:=by
 have h0:Ok (⟨l,0⟩:Stream) 0:=⟨Int.le_refl _,Int.le_refl _⟩
 obtain ⟨x,a1,a2,a3,a4⟩:=logs_ok ⟨l,0⟩ 4 (by decide) h0 (by decide)
 obtain ⟨t,b1,b2⟩:=Cf x.2 a2 (by decide)
 have hxl:x.1.length<=8:=a3
 have hK:=logsK x.1 a4 (by omega)
 have hR:=logsR x.1 a4 (by omega)
 have htl:t.1.data.toList.length<=1000:=by rw [<- Go.Lib.size_eq];exact b2
 obtain ⟨r,c1,c2,c3⟩:=Dq t.1.data.toList htl
 rw [<- bb_of]at c1 c2
 have heq:=Ae r.1 (by omega)
 have hsame:∀s:ByteArray,sEq s s=true:=λs=>(iG _ _).2 rfl
 have htext:∃s:ByteArray,iL x.1=some (s,oW x.1)/\(bif (oW x.1==0)then (fT x.1).bind λr_16=>some r_16 else some (⟨#[]⟩:ByteArray))=some s:=by
  by_cases h:oW x.1=0
  ·refine⟨BB (txB x.1),?_,?_⟩
   ·rw [h]at hK ⊢
    exact text_eq a4 (by omega) hK
   ·rw [h,beq_self_eq_true,cond_true,tF x.1 a4 (by omega)];rfl
  ·refine⟨⟨#[]⟩,?_,?_⟩
   ·unfold iL
    rw [hK,ob_,show (oW x.1 != 0)=true by simpa using h];rfl
   ·rw [show (oW x.1==0)=false by simpa using h];rfl
 obtain ⟨s,d1,d2⟩:=htext
 unfold kI
 simp only [a1,b1,d1,hR,ob_,d2,c1,c2,beq_self_eq_true,cond_true,hsame,heq,DL]
end Go.Proofs.YtnfedlledilojaaGreatDoor.Law

