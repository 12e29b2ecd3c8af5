/-
  The law AlertsComeBack holds of every input: it returns true, and its argument reads as before. Condition: the tables of the library that the row lists start as the program's text lays them, and the card ties them to that text.
-/
import Derived.Test.YtljhfffghjclfabGreatDoorRows
import Derived.WalkKit
import Derived.ProofKit
import Derived.OpenShut
import Derived.ShutString
import Derived.ChangeOld
import Derived.Below
import Derived.Test.YtljhfffghjclfabGreatDoorCards
import Derived.Test.YtljhfffghjclfabGreatDoorTie
import Derived.LaidMore
import Derived.Stop.Joined
import Derived.Stop.LaidErr
import Derived.MakeChecks
import Derived.Lib.LaidTab
import Derived.Lib.ItoaNum
import Derived.SevenTiedAt
import Derived.Lib.LaidIn
import Derived.Shelf.Vars
import Derived.Lib.LaidU8T
import Derived.Test.YtljhfffghjclfabGreatDoorShelf
import Derived.Test.YtljhfffghjclfabGreatDoorEng6
import Derived.Test.YtljhfffghjclfabGreatDoorPf6
import Derived.Test.YtljhfffghjclfabGreatDoorPl3
namespace Go.Proofs.YtljhfffghjclfabGreatDoor.alertsComeBack
open Go.ChangeShapes Go.WideShapes Go.ChangeAt Go.RowKit Go.WideMaps Go.WideElems
open Go.ChangeMaps (open_string shut_string)
set_option linter.unusedVariables false

theorem own : ownKnob Tryz.prog.godebug=none:=by kernel_rfl
theorem laidOut : laidOutB Tryz.prog=true:=by kernel_rfl

noncomputable def Jh : Nat:=(World.holding Tryz.prog default ⟨#[], #[], []⟩).heap.size
noncomputable def laidWorld (os : Os) : World :=
  let w0:=World.holding Tryz.prog os ⟨#[.cells #[.string ⟨#[118, 97, 108, 117, 101, 32, 111, 117, 116, 32, 111, 102, 32, 114, 97, 110, 103, 101]⟩] 254, .cells #[.string ⟨#[105, 110, 118, 97, 108, 105, 100, 32, 115, 121, 110, 116, 97, 120]⟩] 254], #[], []⟩
  let put (h : Array Obj) (g : Nat) (cs : Array Value) : Array Obj:=h.modify g fun
    | .cells _ t frozen => .cells cs t frozen
    | o=>o
  let h1:=put w0.heap 6 ((([0, 1, 28, 2, 29, 14, 24, 3, 30, 22, 20, 15, 25, 17, 4, 8, 31, 27, 13, 23, 21, 19, 16, 7, 26, 12, 18, 6, 11, 5, 10, 9] : List Int)).map λz=>Value.int .u8 z).toArray
  let h2:=put h1 7 ((([0, 1, 56, 2, 57, 49, 28, 3, 61, 58, 42, 50, 38, 29, 17, 4, 62, 47, 59, 36, 45, 43, 51, 22, 53, 39, 33, 30, 24, 18, 12, 5, 63, 55, 48, 27, 60, 41, 37, 16, 46, 35, 44, 21, 52, 32, 23, 11, 54, 26, 40, 15, 34, 20, 31, 10, 25, 14, 19, 9, 13, 8, 7, 6] : List Int)).map λz=>Value.int .u8 z).toArray
  let h3:=put h2 3 ((([1, 10, 100, 1000, 10000, 100000, 1000000, 10000000, 100000000, 1000000000, 10000000000, 100000000000, 1000000000000, 10000000000000, 100000000000000, 1000000000000000, 10000000000000000, 100000000000000000, 1000000000000000000, 10000000000000000000] : List Int)).map λz=>Value.int .u64 z).toArray
  let h4:=put h3 1 ((([128, 191, 160, 191, 128, 159, 144, 191, 128, 143, 0, 0, 0, 0, 0, 0, 0, 0, 0, 0, 0, 0, 0, 0, 0, 0, 0, 0, 0, 0, 0, 0] : List Int)).map λz=>Value.int .u8 z).toArray
  let h5:=put h4 5 #[.iface 252 (.pointer (some ⟨Jh+0, 0, none⟩))]
  let h6:=put h5 4 #[.iface 252 (.pointer (some ⟨Jh+1, 0, none⟩))]
  let h7:=put h6 0 (Go.Pinned.utf8FirstZ.map λ(z : Nat)=>Value.int .u8 z).toArray
  { w0 with heap:=h7 }
theorem wrap {H : Type} {enc : TypeId × Value->H} {a : Assume} {C : Checked} {os : Os} {f : FuncId} {fn : Func} {s : ChangeSpec} {conds : List PathCond} {apart fresh handsOn again : Bool} {X : World->Array Value->Prop}
    (hX : ∀(w w' : World) (args : Array Value), w.heap=w'.heap->X w args->X w' args)
    (own : ownKnob C.prog.godebug=none) (started : os.Started) (noInit : C.prog.inits.idxOf? f=none) (hfn : C.prog.funcs[f]? = some fn)
    (witness : ∃(w : World) (tape : Tape) (i : Input), w.os=os/\(w.forCall tape i).Shaped C.prog/\i.vars=[]/\Input.okWide C.prog (w.forCall tape i) .any w.heap.size f i /\
      ((s.pre enc C.prog fn conds apart (w.forCall tape i).memory i.args/\X (w.forCall tape i).memory i.args)/\sizedMet enc C.prog fn (OpenSpec.ofChange s) apart (w.forCall tape i).memory i.args)/\a.holds C.prog (lone (Frame.enter C.prog f i.args .normal) [] (w.forCall tape i)))
    (contract : ∀(W : World) (base : Nat) (args : Array Value) (ds gs : List (DataW H)) (before : List MemPlace),
      (∀(j : Nat) t v, fn.params[j]? = some t->args[j]? = some v->Value.okWide C.prog W .any base t v) ->
      DataW.Whole enc C.prog fn.params.toList s.vars apart W args.toList ds gs before->X W args->W.ShapedOpen C.prog ->
      Calls C.prog f args W λe W'=>∃v, e = .returned v/\s.post enc C.prog fn apart fresh handsOn again W args v W') :
    ReturnsInHanded a C os f .any (λw args=>(s.pre enc C.prog fn conds apart w args/\X w args)/\sizedMet enc C.prog fn (OpenSpec.ofChange s) apart w args) (s.post enc C.prog fn apart fresh handsOn again):=by
  refine returnsInHanded_of_calls own started noInit witness ?_
  intro w tape i _ hsh _ hok hpre _
  obtain ⟨_, _, _, fn2, hfn2, _, _, _, _, hval⟩:=hok
  obtain rfl : fn2=fn:=Option.some.inj (hfn2.symm.trans hfn)
  obtain ⟨⟨⟨ds, gs, before, hw, _⟩, hx⟩, _⟩:=hpre
  exact (contract (w.forCall tape i) w.heap.size i.args ds gs before hval (DataW.Whole.of_heap (w':=w.forCall tape i) (by rfl) hw) (hX _ _ _ (by rfl) hx) hsh).mono λe W' ⟨v, he, hp⟩=>by
    subst he
    exact ChangeSpec.post_blind hp
theorem gTab_pow10 : Tryz.prog.globalNamed "internal/strconv.uint64pow10" = some 3 := by kernel_rfl
theorem gTabType_pow10 : (Tryz.prog.globals[3]?).map (·.type)=some 220:=by kernel_rfl
theorem cellsT_pow10 : Tryz.prog.cellsOf 220=20:=by kernel_rfl
theorem cellsE_pow10 : Tryz.prog.cellsOf 134=1:=by kernel_rfl
theorem isTab_pow10 : Rows.laid_internal_strconv_uint64pow10 (H:=Unit)=Lib.tabData .u64 Go.Lib.pow10Tab:=by kernel_rfl
theorem table_pow10 {W : World} (h : laidMetH Tryz.prog Rows.alertsComeBackRow.laid W) : Go.Lib.TabIs Go.Proofs.Tryz.prog W "internal/strconv.uint64pow10" .u64 Go.Lib.pow10Tab := by
  rw [MakeChecks.laidMetH_plain _ _ _ (by kernel_rfl)] at h
  have h1 : laidMet Tryz.prog Rows.alertsComeBackRow.laid W:=h
  have h2 : laidMet Tryz.prog (("internal/strconv.uint64pow10", Rows.laid_internal_strconv_uint64pow10 (H := Unit)) :: _) W := h1.tail.tail
  rw [isTab_pow10] at h2
  exact Lib.tabIs_of_head gTab_pow10 gTabType_pow10 Tryz.underlying220 Tryz.underlying134 cellsE_pow10 cellsT_pow10 h2
theorem maxLenIs {W : World} (h : W.ShapedOpen Tryz.prog) : (∃m, W.cell? ⟨2, 0, none⟩=some (.int .i64 m)) :=
  cell_of_shapedOpen_int (t:=3) (zero := #[.int .i64 0]) h (of_decide_eq_true (by kernel_rfl)) (by kernel_rfl) (by kernel_rfl) (by kernel_rfl) (by kernel_rfl) (by kernel_rfl)
theorem isFirst : Go.Pinned.utf8First=Go.Lib.firstData:=by kernel_rfl
theorem isAccept : Rows.laid_unicode_utf8_acceptRanges (H:=Unit)=Go.Lib.acceptData:=by rfl
theorem utf8Is {W : World} (h : laidMetH Tryz.prog Rows.alertsComeBackRow.laid W) : Go.Lib.Utf8Tabs 0 1 W:=by
  rw [MakeChecks.laidMetH_plain _ _ _ (by kernel_rfl)] at h
  have h1 : laidMet Tryz.prog Rows.alertsComeBackRow.laid W:=h
  have h2 := Lib.laidMet.reads (n := "unicode/utf8.first") (d := Go.Pinned.utf8First) h1 (.tail _ (.tail _ (.tail _ (.tail _ (.tail _ (.tail _ (.head _)))))))
  have h3 := Lib.laidMet.reads (n := "unicode/utf8.acceptRanges") (d := Rows.laid_unicode_utf8_acceptRanges) h1 (.tail _ (.tail _ (.tail _ (.head _))))
  rw [isFirst] at h2
  rw [isAccept] at h3
  exact utf8Tabs_of_readsT (ρ:=Tryz.lays196_ren) (.of196 Tryz.lays196) ⟨by kernel_rfl, by kernel_rfl, by kernel_rfl, by kernel_rfl, by kernel_rfl, by kernel_rfl, by kernel_rfl⟩ h2 h3
theorem door_met (os : Os) (args : Array Value) : laidMetH Tryz.prog Rows.alertsComeBackRow.laid ((laidWorld os).forCall (λ_ _=>0) ⟨#[], args, []⟩).memory :=
  laidMetH_of_parts3 (fuel:=8) (LaidIn.met (B:=[6, 7, 3, 1, 5, 4, 0, Jh+0, Jh+1]) (LaidIn.of_run [6, 7, 3, 1, 5, 4, 0, Jh+0, Jh+1] 8 (by kernel_rfl) (by kernel_rfl) (by kernel_rfl) (by kernel_rfl))) (by kernel_rfl) (by kernel_rfl)
def IsRow (k : IntKind) (w : World) (a : Option Addr) (len cap : Nat) (zs : List Int) : Prop :=
  (a=none/\len=0/\cap=0/\zs=[]) \/
  ∃x, a=some x/\len<=cap/\cap<=maxLen/\zs.length=cap/\(∀i, i<zs.length->w.cell? (x.add i)=some (.int k (zs.getD i 0)))/\∀n ∈ zs, (Lit.int k n).wf=true

theorem walk (a0 : Option Addr) (len0 cap0 : Nat) (z0 : List Int) (w : World) (w0 : IsRow .i64 w a0 len0 cap0 z0) (hLaid : Go.Lib.TabIs Go.Proofs.Tryz.prog w "internal/strconv.uint64pow10" .u64 Go.Lib.pow10Tab ∧ (∃ m, w.cell? ⟨2, 0, none⟩ = some (.int .i64 m)) ∧ Go.Lib.Utf8Tabs 0 1 w) :
    Calls Tryz.prog 3 #[.slice a0 len0 cap0] w λe w'=>e = .returned (.bool true)/\Below w.heap.size w w':=by
  exact Go.Eng.QE (λl _ _=>Law.wD (Law.alertsComeBack l)) a0 len0 cap0 z0 w w0 hLaid

set_option maxRecDepth 100000 in
theorem lifted (os : Os) (started : os.Started) (H : Type) (enc : TypeId × Value->H) :
    ReturnsInHanded {} Tryz.checked os 3 .any (λw args=>(Rows.alertsComeBackSpec.pre enc Tryz.prog Tryz.f3 [] false w args/\laidMetH Tryz.prog Rows.alertsComeBackRow.laid w)/\sizedMet enc Tryz.prog Tryz.f3 (OpenSpec.ofChange Rows.alertsComeBackSpec) false w args)
      (Rows.alertsComeBackSpec.post enc Tryz.prog Tryz.f3 false true false false):=by
  refine wrap (C:=Tryz.checked) (X:=λw _=>laidMetH Tryz.prog Rows.alertsComeBackRow.laid w) (λ_ _ _ hh h=>h.of_heap hh) own started (by kernel_rfl) Tryz.func3
    (ChangeSpec.witness_shaped (enc:=enc) (C:=Tryz.checked) (os:=os) (X:=λw _=>laidMetH Tryz.prog Rows.alertsComeBackRow.laid w) false (laidWorld os) #[.slice none 0 0] 8 rfl (World.shaped_of_RefB (by kernel_rfl) (by kernel_rfl)) (by kernel_rfl) (by kernel_rfl) (by kernel_rfl) (door_met os _)) ?_
  intro W base args ds gs before hval0 hW hL hsh
  have hval : ∀(j : Nat) t v, Tryz.f3.params[j]? = some t->args[j]? = some v->Value.okWide Tryz.prog W .any base t v:=hval0
  have hW':=hW
  obtain ⟨p, q, hA0, hV, rfl, hfz, hnd⟩:=hW
  have hA : DataW.TrodAll enc Tryz.prog W 0 (λ_=>true) true Tryz.f3.params.toList args.toList ds p:=hA0
  rw [Tryz.params3] at hA hval
  obtain ⟨v0, vs0, d0, ds0, p0, q0, hargs, rfl, rfl, h0, r0⟩:=trodAll_cons hA
  obtain ⟨rfl, rfl, rfl⟩:=trodAll_nil r0
  obtain rfl : args = #[v0]:=by cases args;simp_all
  obtain ⟨rfl, rfl⟩:=trodVars_none hV
  obtain ⟨a0, len0, cap0, rfl⟩:=okWide_slice Tryz.underlying22 (hval 0 22 v0 rfl rfl)
  have k0:=h0
  have lt0 : ∀x ∈ p0, x.block<W.heap.size:=by obtain ⟨m, hm⟩:=k0;exact DataW.trod_lt m _ _ _ hm
  obtain ⟨z0, w0⟩ : ∃zs, IsRow .i64 W a0 len0 cap0 zs:=by
    obtain ⟨fuel, hf⟩:=h0
    rcases open_ints Tryz.underlying22 Tryz.underlying3 (by kernel_rfl) hf with ⟨hcs, _⟩|⟨x, l, c, zs, hcs, _, hl, hm, hz, _, hcell, hwz⟩
    · simp [Value.cells] at hcs
      obtain ⟨rfl, rfl, rfl⟩:=hcs
      exact ⟨[], .inl ⟨rfl, rfl, rfl, rfl⟩⟩
    · simp [Value.cells] at hcs
      obtain ⟨rfl, rfl, rfl⟩:=hcs
      exact ⟨zs, .inr ⟨_, rfl, hl, hm, by simpa using hz, hcell, hwz⟩⟩
  clear hA0 hval0
  refine (walk a0 len0 cap0 z0 W w0 ⟨table_pow10 hL, maxLenIs hsh, utf8Is hL⟩).mono λe W' ⟨he, bel⟩ => ?_
  subst he
  exact ⟨_, rfl, _, _, _, [], _, [], hW', trodAll_mk1 (shut_bool Tryz.underlying4 _), (trodAll_cons_mk (Below.trod laidOut (by kernel_rfl) (of_decide_eq_true (by kernel_rfl)) k0 bel lt0) trodAll_mk0), rfl, bel.frame _, λh=>by cases h⟩

theorem and_t {a b : Bool} (h : a=true) (k : b=true) : (a&&b)=true:=by rw [h, k];rfl
set_option maxHeartbeats 100000000 in
theorem closed : joinedFacts Tryz.pinned.checked.prog 3 Tryz.f3 Rows.alertsComeBackSpec Rows.alertsComeBackRow=true:=by
  unfold joinedFacts
  repeat' (with_reducible (refine and_t ?_ ?_))
  all_goals (as_aux_lemma=>kernel_rfl)
theorem over : Rows.alertsComeBackRow.holds Tryz.pinned (OpenSpec.ofChange Rows.alertsComeBackSpec) :=
  OpenClaim.holds_of_wide 3 Tryz.f3 rfl rfl rfl rfl rfl rfl rfl ⟨rfl, rfl, rfl, rfl, rfl⟩ rfl rfl rfl rfl rfl (by as_aux_lemma=>kernel_rfl) Tryz.func3 closed
    (of_decide_eq_true (by kernel_rfl)) (by unfold Func.isWrapper;first | (rw [if_pos (by decide +kernel)];kernel_rfl) | (rw [if_neg (by decide +kernel)];exact ⟨rfl, rfl⟩))
    (λos started H enc _=>lifted os started H enc)

theorem plain (f : FuncId) (fn : Func) (hf : Tryz.pinned.checked.prog.funcNamed "signboard/signkeep2.AlertsComeBack" = some f) (hfn : Tryz.pinned.checked.prog.funcs[f]? = some fn) :
    true=Tryz.pinned.checked.prog.looks []/\∀(j : Nat) t, fn.params[j]? = some t->Tryz.pinned.checked.prog.wantsStandIn t=false:=by
  obtain rfl : f = 3 := Option.some.inj ((show Tryz.prog.funcNamed "signboard/signkeep2.AlertsComeBack" = some 3 by kernel_rfl).symm.trans hf) |>.symm
  obtain rfl : fn=Tryz.f3:=(Option.some.inj (Tryz.func3.symm.trans hfn)).symm
  refine ⟨by kernel_rfl, λj t ht => ?_⟩
  rw [Tryz.params3] at ht
  obtain rfl : t=22:=by simpa using Array.mem_of_getElem? ht
  exact (show Tryz.prog.wantsStandIn 22=false by kernel_rfl)

theorem proved : Rows.AlertsComeBackCardSaid :=
  Claim7.holds_tied_plain_at .later [] _ _ _ _ over (λ_ h=>by cases h) (by kernel_rfl) (λ_ h=>by cases h) alertsComeBack_row_tie rfl ⟨rfl, rfl⟩ (by kernel_rfl) rfl plain (by kernel_rfl)
#print axioms proved
end Go.Proofs.YtljhfffghjclfabGreatDoor.alertsComeBack

