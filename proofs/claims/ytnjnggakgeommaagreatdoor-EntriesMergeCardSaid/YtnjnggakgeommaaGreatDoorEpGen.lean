import Derived.Test.YtnjnggakgeommaaGreatDoorEpStream
/-
  PLAIN LEMMAS: entries, players and windows that are made.
-/
open Go Go.Eng
namespace Go.Proofs.YtnjnggakgeommaaGreatDoor.Law
set_option linter.unusedVariables false
set_option linter.unusedSimpArgs false
def jF (s:ByteArray):Prop:=s.size<=1000
def jD (x:Entry):Prop:=jF x.Key/\jF x.Item/\x.Except.length<=50/\x.Tags.length<=20/\∀t∈x.Tags,jF t
def Dc (x:Player):Prop:=jF x.Key/\jF x.Screen/\x.Tags.length<=20/\∀t∈x.Tags,jF t
theorem dw {s:ByteArray} (h:Nat.ble s.size 1000=true):jF s:=Nat.le_of_ble_eq_true h
theorem jC {α:Type} (xs ys:List α) (h:xs.length+ys.length<=1000000000):kI xs ys=some (xs++ys):=by unfold kI;rw [if_pos h]
theorem DT {α:Type} {L:Nat->α->(List α×List Int×Int)->Option (Ctl (List α×List Int×Int) Unit)} {n:Int} (hn:1<=n) (hn2:n<=1000) (p:α->Prop)
  (hL:∀k x s,L k x s=(bB (⟨s.2.1,s.2.2⟩:Stream) n).bind λr=>(bif r.1 then (kI s.1 ([x]:List α)).bind λa=>some a else some s.1).bind λv=>some (.go (v,r.2.L,r.2.f_at)))
  {xs:List α} (hx:∀x∈xs,p x) (hl:xs.length<=10) (s:Stream) {b:Int} (hs:Ok s b) (hb:b<=900000) :
  ∃t s',gN xs (([]:List α),s.L,s.f_at) (λk x s=>L k x s)=some (.go (t,s'.L,s'.f_at))/\Ok s' (b+10)/\t.length<=10/\∀x∈t,p x:=by
 obtain ⟨s',h1,h2,h3,h4⟩:=xS (body:=λk x s=>L k x s) (λk s=>Ok ⟨s.2.1,s.2.2⟩ (b+k)/\s.1.length<=k/\∀x∈s.1,p x) (xs:=xs) (s:=(([]:List α),s.L,s.f_at)) (by omega) (λk x s hxm hk ⟨i1,i2,i3⟩=>by
   obtain ⟨c,s1,k1,k2⟩:=mU _ n i1 (by omega) hn hn2
   simp only [hL,k1,ob_]
   cases c with
   | true =>
    simp only [cond_true,jC s.1 [x] (by simp;omega),ob_]
    refine⟨_,rfl,k2.mono (by omega),by simp;omega,λy hy => ?_⟩
    rcases List.mem_append.1 hy with hy|hy
    ·exact i3 y hy
    ·rw [List.mem_singleton.1 hy];exact hx x hxm
   | false =>
    simp only [cond_false,ob_]
    exact⟨_,rfl,k2.mono (by omega),by show s.1.length<=_;omega,i3⟩) ⟨by simpa using hs,by simp,by simp⟩
 exact⟨s'.1,⟨s'.2.1,s'.2.2⟩,h1,h2.mono (by omega),by omega,h4⟩
theorem nk {α:Type} {xs:List α} {i:Nat} {a:α} (h:i<xs.length):(xs.set i a)[i]? = some a:=by simp [h]
theorem get_at {α:Type} {xs:List α} {i:Nat} (h:i<xs.length):xs[i]? = some xs[i]:=List.getElem?_eq_getElem h
theorem o8 {α:Type} {p:α->Prop} {xs:List α} {i:Nat} {a:α} (h:∀x∈xs,p x) (ha:p a):∀x∈xs.set i a,p x:=λx hx=>by
 rcases List.mem_or_eq_of_mem_set hx with h1|h1
 ·exact h x h1
 ·rw [h1];exact ha
theorem uO {α:Type} {i:Int} {xs:List α} (h0:0<=i) (h1:i<xs.length):inR i xs=some ():=by unfold inR;rw [if_pos ⟨h0,by omega⟩]
theorem xQ (s:Stream) {b:Int} (hs:Ok s b) (hb:b<=800000):∃p s',eX s=some (p,s')/\Ok s' (b+2)/\Dc p:=by
 obtain ⟨z,s1,h1,_,h2⟩:=lT s [0,0,60,(-90),1440] hs (by omega) (by simp) (by simp)
 obtain ⟨j,s2,h3,h4,h5,h6⟩:=lM s1 3 h2 (by omega) (by decide) (by decide)
 obtain ⟨tg,n1,n2⟩:=tQ (l:=[([]:List ByteArray),([(⟨#[99,105,116,121]⟩:ByteArray)]:List ByteArray),([(⟨#[99,105,116,121]⟩:ByteArray),(⟨#[109,97,108,108]⟩:ByteArray)]:List ByteArray)]) h4 (by simpa using h5)
 simp only [eX,h1,h3,n1,ob_]
 refine⟨_,_,rfl,h6.mono (by omega),dw rfl,dw rfl,?_⟩
 simp only [List.mem_cons,List.not_mem_nil,or_false]at n2
 rcases n2 with rfl|rfl|rfl
 ·exact⟨by simp,by simp⟩
 ·exact⟨by simp,by intro t ht;simp only [List.mem_cons,List.not_mem_nil,or_false]at ht;rw [ht];exact dw rfl⟩
 ·exact⟨by simp,by intro t ht;simp only [List.mem_cons,List.not_mem_nil,or_false]at ht;rcases ht with rfl | rfl <;> exact dw rfl⟩
theorem Ex (s:Stream) {b:Int} (hs:Ok s b) (hb:b<=800000):∃p s',gQ s=some (p,s')/\Ok s' (b+20)/\Dc p:=by
 obtain ⟨p,s1,h1,h2,h3⟩:=xQ s hs hb
 obtain ⟨c,s2,h4,h5⟩:=mU s1 15 h2 (by omega) (by decide) (by decide)
 simp only [gQ,h1,h4,ob_]
 cases c with
 | false=>exact⟨_,_,rfl,h5.mono (by omega),h3⟩
 | true =>
  obtain ⟨k1,s3,m1,m2,m3⟩:=tX s2 [(⟨#[112]⟩:ByteArray),(⟨#[]⟩:ByteArray)] h5 (by omega) (by simp) (by simp)
  obtain ⟨k2,s4,m4,m5,m6⟩:=tX s3 [(⟨#[115,97]⟩:ByteArray),(⟨#[65]⟩:ByteArray)] m3 (by omega) (by simp) (by simp)
  obtain ⟨z,s5,m7,m8⟩:=oH s4 (-1440) 1440 m6 (by omega) (by decide) (by decide) (by decide)
  obtain ⟨j,s6,m9,m10,m11,m12⟩:=lM s5 3 m8 (by omega) (by decide) (by decide)
  obtain ⟨tg,n1,n2⟩:=tQ (l:=[([(⟨#[109,97,108,108]⟩:ByteArray),(⟨#[99,105,116,121]⟩:ByteArray)]:List ByteArray),([(⟨#[]⟩:ByteArray)]:List ByteArray),([]:List ByteArray)]) m10 (by simpa using m11)
  simp only [cond_true,m1,m4,m7,m9,n1,ob_]
  refine⟨_,_,rfl,m12.mono (by omega),?_,?_,?_⟩
  ·simp only [List.mem_cons,List.not_mem_nil,or_false]at m2
   rcases m2 with rfl|rfl <;> exact dw rfl
  ·simp only [List.mem_cons,List.not_mem_nil,or_false]at m5
   rcases m5 with rfl|rfl <;> exact dw rfl
  ·simp only [List.mem_cons,List.not_mem_nil,or_false]at n2
   rcases n2 with rfl|rfl|rfl
   ·exact⟨by simp,by intro t ht;simp only [List.mem_cons,List.not_mem_nil,or_false]at ht;rcases ht with rfl | rfl <;> exact dw rfl⟩
   ·exact⟨by simp,by intro t ht;simp only [List.mem_cons,List.not_mem_nil,or_false]at ht;rw [ht];exact dw rfl⟩
   ·exact⟨by simp,by simp⟩
theorem vM (s:Stream) {b:Int} (hs:Ok s b) (hb:b<=800000):∃xs s',eF s=some (xs,s')/\Ok s' (b+200)/\xs.length<=4/\(∀x∈xs,jD x/\x.Except.length<=10):=by
 unfold eF
 obtain ⟨s',h1,h2,h3,h4⟩:=xS (body:=λk x s=>dK k x s) (λk s=>Ok ⟨s.2.1,s.2.2⟩ (b+40*k)/\s.1.length<=k/\∀x∈s.1,jD x/\x.Except.length<=10)
  (xs:=[(⟨#[101,97]⟩:ByteArray),(⟨#[101,98]⟩:ByteArray),(⟨#[101,99]⟩:ByteArray),(⟨#[101,100]⟩:ByteArray)]) (s:=(([]:List Entry),s.L,s.f_at)) (by simp) (λk x t hxm hk ⟨i1,i2,i3⟩=>by
   have hk5:k<4:=hk
   obtain ⟨c,s1,k1,k2⟩:=mU _ 4 i1 (by omega) (by decide) (by decide)
   simp only [dK,k1,ob_]
   cases c with
   | true=>exact⟨_,rfl,k2.mono (by omega),by show t.1.length<=_;omega,i3⟩
   | false =>
    obtain ⟨it,s2,a1,ai,a2⟩:=tX s1 [(⟨#[105,97]⟩:ByteArray),(⟨#[105,98]⟩:ByteArray),(⟨#[105,99]⟩:ByteArray)] k2 (by omega) (by simp) (by simp)
    obtain ⟨v,s3,a3,_,_,a4⟩:=xO s2 0 2 a2 (by omega) (by decide) (by decide) (by decide)
    obtain ⟨p1,s4,m1,_,n1⟩:=lT s3 [0,0,1,3] a4 (by omega) (by simp) (by simp)
    obtain ⟨p2,s5,m2,_,n2⟩:=lT s4 [1,1,2,3,7] n1 (by omega) (by simp) (by simp)
    obtain ⟨p3,s6,m3,_,n3⟩:=lT s5 [127,127,31,96,1,2] n2 (by omega) (by simp) (by simp)
    obtain ⟨p4,s7,m4,_,n4⟩:=lT s6 [0,0,60,600,1380] n3 (by omega) (by simp) (by simp)
    obtain ⟨p5,s8,m5,_,n5⟩:=lT s7 [0,60,120,600,720,1439] n4 (by omega) (by simp) (by simp)
    obtain ⟨p6,s9,m6,_,n6⟩:=lT s8 [0,0,1,5] n5 (by omega) (by simp) (by simp)
    obtain ⟨g,s10,m7,n7⟩:=mU s9 8 n6 (by omega) (by decide) (by decide)
    obtain ⟨p7,s11,m8,_,n8⟩:=lT s10 [0,1,5,10,30] n7 (by omega) (by simp) (by simp)
    obtain ⟨ex,s12,m9,n9,l9,_⟩:=DT (L:=eT) (n:=4) (by decide) (by decide) (λ_=>True) (λ_ _ _=>rfl) (xs:=[1,2,8]) (λ_ _=>trivial) (by simp) s11 n8 (by omega)
    obtain ⟨tg,s13,m10,n10,l10,q10⟩:=DT (L:=eU) (n:=4) (by decide) (by decide) jF (λ_ _ _=>rfl) (xs:=[(⟨#[99,105,116,121]⟩:ByteArray),(⟨#[109,97,108,108]⟩:ByteArray)])
     (by intro x hx;simp only [List.mem_cons,List.not_mem_nil,or_false]at hx;rcases hx with rfl | rfl <;> exact dw rfl) (by simp) s12 n9 (by omega)
    simp only [cond_false,a1,a3,m1,m2,m3,m4,m5,m6,m7,m8,m9,m10,ob_,fZ,jC t.1 _ (show t.1.length+[_].length<=_ by simp;omega)]
    refine⟨_,rfl,n10.mono (by omega),by simp;omega,λy hy => ?_⟩
    rcases List.mem_append.1 hy with hy|hy
    ·exact i3 y hy
    ·rw [List.mem_singleton.1 hy]
     refine⟨⟨?_,?_,by show ex.length<=50;omega,by show tg.length<=20;omega,q10⟩,l9⟩
     ·simp only [List.mem_cons,List.not_mem_nil,or_false]at hxm
      rcases hxm with rfl|rfl|rfl|rfl <;> exact dw rfl
     ·simp only [List.mem_cons,List.not_mem_nil,or_false]at ai
      rcases ai with rfl|rfl|rfl <;> exact dw rfl) ⟨by simpa using hs,by simp,by simp⟩
 rw [h1]
 exact⟨s'.1,⟨s'.2.1,s'.2.2⟩,rfl,h2.mono (by simp),h3,h4⟩
theorem xH (s:Stream) {b:Int} (hs:Ok s b) (hb:b<=700000):∃xs s',fH s=some (xs,s')/\Ok s' (b+300)/\xs.length<=4/\∀x∈xs,jD x:=by
 obtain ⟨xs,s1,h1,h2,h3,h4'⟩:=vM s hs (by omega)
 have h4:∀x∈xs,jD x:=λx hx=>(h4' x hx).1
 simp only [fH,h1,ob_]
 obtain ⟨v,s2,h5,h6,h7⟩:∃(v:Bool) (s2:Stream),(bif decide ((xs.length:Int)>0)then (bB s1 10).bind λr_9=>some (r_9.1,r_9.2.L,r_9.2.f_at)else some (false,s1.L,s1.f_at))=some (v,s2.L,s2.f_at)/\Ok s2 (b+201)/\(v=true->0<xs.length):=by
  cases hd:decide ((xs.length:Int)>0)with
  | true =>
   obtain ⟨c,s2,k1,k2⟩:=mU s1 10 h2 (by omega) (by decide) (by decide)
   simp only [decide_eq_true_eq]at hd
   exact⟨c,s2,by simp only [cond_true,k1,ob_],k2.mono (by omega),λ_=>by omega⟩
  | false=>exact⟨false,s1,rfl,h2.mono (by omega),λh=>by cases h⟩
 simp only [h5,ob_]
 cases v with
 | false=>exact⟨xs,_,rfl,h6.mono (by omega),h3,h4⟩
 | true =>
  have hpos:=h7 rfl
  have e2:(⟨s2.L,s2.f_at⟩:Stream)=s2:=rfl
  obtain ⟨i,s3,k1,k2,k3,k4⟩:=lM s2 xs.length h6 (by omega) (by omega) (by omega)
  have hi:0+i.toNat<xs.length:=by omega
  have ho:=(h4 _ (List.getElem_mem hi))
  have ho':=(h4' _ (List.getElem_mem hi)).2
  obtain ⟨w,s4,m1,_,_,m2⟩:=lM s3 6 k4 (by omega) (by decide) (by decide)
  have hset:∀a,0+i.toNat<(xs.set (0+i.toNat) a).length:=λa=>by simpa using hi
  simp only [cond_true,e2,k1,ob_,uO k2 k3,m1]
  cases hw0:(w==0)with
  | true =>
   obtain ⟨key,s5,n1,n2,n3⟩:=tX s4 [xs[0+i.toNat].Key,(⟨#[]⟩:ByteArray),(⟨#[65]⟩:ByteArray),(⟨#[101,97]⟩:ByteArray)] m2 (by omega) (by simp) (by simp)
   obtain ⟨cl,s6,n4,n5,n6⟩:=tX s5 [(⟨#[105,97]⟩:ByteArray),(⟨#[]⟩:ByteArray),(⟨#[66]⟩:ByteArray)] n3 (by omega) (by simp) (by simp)
   simp only [cond_true,get_at hi,n1,n4,ob_,nk hi,List.set_set]
   refine⟨_,_,rfl,n6.mono (by omega),by simpa using h3,o8 h4 ⟨?_,?_,ho.2.2⟩⟩
   ·simp only [List.mem_cons,List.not_mem_nil,or_false]at n2
    rcases n2 with rfl|rfl|rfl|rfl
    ·exact ho.1
    ·exact dw rfl
    ·exact dw rfl
    ·exact dw rfl
   ·simp only [List.mem_cons,List.not_mem_nil,or_false]at n5
    rcases n5 with rfl|rfl|rfl <;> exact dw rfl
  | false =>
  simp only [cond_false]
  cases hw1:(w==1)with
  | true =>
   obtain ⟨a,s5,n1,n2⟩:=oH s4 0 10 m2 (by omega) (by decide) (by decide) (by decide)
   obtain ⟨c,s6,n3,n4⟩:=oH s5 0 4000 n2 (by omega) (by decide) (by decide) (by decide)
   simp only [cond_true,get_at hi,n1,n3,ob_,nk hi,nk (hset _),List.set_set]
   exact⟨_,_,rfl,n4.mono (by omega),by simpa using h3,o8 h4 ho⟩
  | false =>
  simp only [cond_false]
  cases hw2:(w==2)with
  | true =>
   obtain ⟨a,s5,n1,n2⟩:=oH s4 1 400 m2 (by omega) (by decide) (by decide) (by decide)
   obtain ⟨c,s6,n3,n4⟩:=oH s5 1 127 n2 (by omega) (by decide) (by decide) (by decide)
   simp only [cond_true,get_at hi,n1,n3,ob_,nk hi,nk (hset _),List.set_set]
   exact⟨_,_,rfl,n4.mono (by omega),by simpa using h3,o8 h4 ho⟩
  | false =>
  simp only [cond_false]
  cases hw3:(w==3)with
  | true =>
   obtain ⟨a,s5,n1,n2⟩:=oH s4 0 4000 m2 (by omega) (by decide) (by decide) (by decide)
   generalize hx:xs[0+i.toNat]=e at *
   have a1:bK e.Except=some e.Except:=by
    simp only [bK,jC [] e.Except (show 0+e.Except.length<=_ by omega),List.nil_append,ob_]
   have a2:kI e.Except [a]=some (e.Except++[a]):=jC _ _ (show e.Except.length+1<=_ by omega)
   have a3:xs[0+i.toNat]? = some e:=by rw [get_at hi,hx]
   simp only [cond_true,a3,n1,a1,a2,ob_]
   exact⟨_,_,rfl,n2.mono (by omega),by simpa using h3,o8 h4 ⟨ho.1,ho.2.1,by show (e.Except++[a]).length<=50;rw [List.length_append];show _+1<=50;omega,ho.2.2.2⟩⟩
  | false =>
  simp only [cond_false]
  cases hw4:(w==4)with
  | true =>
   obtain ⟨a,s5,n1,n2⟩:=oH s4 0 1439 m2 (by omega) (by decide) (by decide) (by decide)
   obtain ⟨c,s6,n3,n4⟩:=oH s5 0 1439 n2 (by omega) (by decide) (by decide) (by decide)
   simp only [cond_true,get_at hi,n1,n3,ob_,nk hi,nk (hset _),List.set_set]
   exact⟨_,_,rfl,n4.mono (by omega),by simpa using h3,o8 h4 ho⟩
  | false =>
   obtain ⟨j,s5,n1,n2,n3,n4⟩:=lM s4 3 m2 (by omega) (by decide) (by decide)
   obtain ⟨tg,n5,n6⟩:=tQ (l:=[([(⟨#[109,97,108,108]⟩:ByteArray),(⟨#[99,105,116,121]⟩:ByteArray)]:List ByteArray),([(⟨#[]⟩:ByteArray)]:List ByteArray),([(⟨#[97]⟩:ByteArray),(⟨#[97]⟩:ByteArray)]:List ByteArray)]) n2 (by simpa using n3)
   obtain ⟨a,s6,n7,n8⟩:=oH s5 0 9 n4 (by omega) (by decide) (by decide) (by decide)
   simp only [cond_false,get_at hi,n1,n5,n7,ob_,nk hi,nk (hset _),List.set_set]
   refine⟨_,_,rfl,n8.mono (by omega),by simpa using h3,o8 h4 ⟨ho.1,ho.2.1,ho.2.2.1,?_⟩⟩
   simp only [List.mem_cons,List.not_mem_nil,or_false]at n6
   rcases n6 with rfl|rfl|rfl
   ·exact⟨by simp,by intro t ht;simp only [List.mem_cons,List.not_mem_nil,or_false]at ht;rcases ht with rfl | rfl <;> exact dw rfl⟩
   ·exact⟨by simp,by intro t ht;simp only [List.mem_cons,List.not_mem_nil,or_false]at ht;rw [ht];exact dw rfl⟩
   ·exact⟨by simp,by intro t ht;simp only [List.mem_cons,List.not_mem_nil,or_false,or_self]at ht;rw [ht];exact dw rfl⟩
end Go.Proofs.YtnjnggakgeommaaGreatDoor.Law

