/-
  The functions of the program, as plain functions over data (written by a program of ours).
-/
import Derived.Test.YthcdokkcamcnmabEng5
open Go Go.Eng
namespace Go.Proofs.Ythcdokkcamcnmab.Law
set_option maxRecDepth 100000
set_option linter.unusedVariables false
set_option maxHeartbeats 1000000
structure Stream where
  L:(List Int)
  f_at:Int
def Stream.enc (s:Stream):List D := [dl eI s.L,.int .i64 s.f_at]

structure Play where
  Player:ByteArray
  Item:ByteArray
  At:Int
  Long:Int
def Play.enc (s:Play):List D := [.str s.Player,.str s.Item,.int .i64 s.At,.int .i64 s.Long]
abbrev Play.v (s:Play):List V := [(vS s.Player),(vS s.Item),(vI s.At),(vI s.Long)]

structure Window where
  From:Int
  To:Int
def Window.enc (s:Window):List D := [.int .i64 s.From,.int .i64 s.To]

structure Tally where
  Player:ByteArray
  Item:ByteArray
  Day:Int
  Many:Int
  Long:Int
def Tally.enc (s:Tally):List D := [.str s.Player,.str s.Item,.int .i64 s.Day,.int .i64 s.Many,.int .i64 s.Long]
abbrev Tally.v (s:Tally):List V := [(vS s.Player),(vS s.Item),(vI s.Day),(vI s.Many),(vI s.Long)]

structure Match where
  Want:Int
  Have:Int
def Match.enc (s:Match):List D := [.int .i64 s.Want,.int .i64 s.Have]

structure Beat where
  Player:ByteArray
  At:Int
  Clock:Int
def Beat.enc (s:Beat):List D := [.str s.Player,.int .i64 s.At,.int .i64 s.Clock]
abbrev Beat.v (s:Beat):List V := [(vS s.Player),(vI s.At),(vI s.Clock)]

structure Beat_ where
  f_from:Int
  f_to:Int
def Beat_.enc (s:Beat_):List D := [.int .i64 s.f_from,.int .i64 s.f_to]

def mk_Below (x_1:Int) (n_2:Int):Option (Int) :=
  bif (decide (n_2 < 1))then some 0 else (remO .i64 x_1 n_2).bind fun q_4=>(bif (decide (q_4 < 0))then some (w64 (q_4 + n_2))else some q_4).bind fun v_6=>some v_6
def mk_Stream_Next (s_1:Stream) (n_2:Int):Option (Int×Stream) :=
  bif ((s_1.L.length:Int) == 0)then (mk_Below (w64 ((w64 (s_1.f_at + 1)) * 7919)) n_2).bind fun r_4=>some (r_4,(⟨s_1.L,(w64 (s_1.f_at + 1))⟩:Stream))else (remO .i64 (w64 ((w64 (s_1.f_at + 1)) - 1)) (s_1.L.length:Int)).bind fun q_6=>(quoO .i64 (w64 ((w64 (s_1.f_at + 1)) - 1)) (s_1.L.length:Int)).bind fun q_8=>(idx s_1.L q_6).bind fun y_10=>(mk_Below y_10 1073741824).bind fun r_12=>(mk_Below (w64 (r_12 + (w64 (q_8 * (w64 (7919 + q_6)))))) n_2).bind fun r_14=>some (r_14,(⟨s_1.L,(w64 (s_1.f_at + 1))⟩:Stream))
def mk_Stream_Pick (s_1:Stream) (l_2:(List Int)):Option (Int×Stream) :=
  (mk_Stream_Next s_1 (l_2.length:Int)).bind fun r_3=>(idx l_2 r_3.1).bind fun y_6=>some (y_6,r_3.2)
def mk_Stream_Range (s_1:Stream) (low_2:Int) (high_3:Int):Option (Int×Stream) :=
  bif (decide (high_3 < low_2))then some (low_2,s_1)else (mk_Stream_Next s_1 (w64 ((w64 (high_3 - low_2)) + 1))).bind fun r_5=>some ((w64 (low_2 + r_5.1)),r_5.2)
def mk_Stream_Some (s_1:Stream) (l_2:(List ByteArray)):Option (ByteArray×Stream) :=
  (mk_Stream_Next s_1 (l_2.length:Int)).bind fun r_3=>(idx l_2 r_3.1).bind fun y_6=>some (y_6,r_3.2)
def mk_Stream_RightPlays_L1 (x_5:ByteArray) (k_22:Nat) (x_24:Nat) (s_27:(List Play)×Int×(List Int)×Int):Option (Ctl ((List Play)×Int×(List Int)×Int) (Unit)) :=
  (mk_Stream_Some (⟨s_27.2.2.1,s_27.2.2.2⟩:Stream) ([(⟨#[105,97]⟩:ByteArray),(⟨#[105,98]⟩:ByteArray)]:List ByteArray)).bind fun r_34=>(mk_Stream_Pick r_34.2 ([1,5,10,20]:List Int)).bind fun r_37=>(mk_Stream_Pick r_37.2 ([1,5,10,30]:List Int)).bind fun r_41=>(appL s_27.1 ([(⟨x_5,r_34.1,s_27.2.1,r_37.1⟩:Play)]:List Play)).bind fun a_44=>some (.go (a_44,(w64 (s_27.2.1 + r_41.1)),r_41.2.L,r_41.2.f_at))
def mk_Stream_RightPlays_L2 (most_2:Int) (k_3:Nat) (x_5:ByteArray) (s_8:(List Play)×(List Int)×Int):Option (Ctl ((List Play)×(List Int)×Int) (Unit)) :=
  (mk_Stream_Pick (⟨s_8.2.1,s_8.2.2⟩:Stream) ([0,5,86399990]:List Int)).bind fun r_16=>(mk_Stream_Range r_16.2 0 most_2).bind fun r_19=>(forL (List.range (r_19.1).toNat) (s_8.1,r_16.1,r_19.2.L,r_19.2.f_at) (fun k x s=>mk_Stream_RightPlays_L1 x_5 k x s)).bind fun o_32=>thenC o_32 (fun s_27=>some (.go (s_27.1,s_27.2.2.1,s_27.2.2.2))) (fun _=>none)
def mk_Stream_RightPlays (s_1:Stream) (most_2:Int):Option ((List Play)×Stream) :=
  (forL ([(⟨#[112,97]⟩:ByteArray),(⟨#[112,98]⟩:ByteArray)]:List ByteArray) (([]:List Play),s_1.L,s_1.f_at) (fun k x s=>mk_Stream_RightPlays_L2 most_2 k x s)).bind fun o_14=>thenC o_14 (fun s_8=>some (s_8.1,(⟨s_8.2.1,s_8.2.2⟩:Stream))) (fun _=>none)
def mk_Stream_Flip (s_1:Stream) (n_2:Int):Option (Bool×Stream) :=
  (mk_Stream_Next s_1 n_2).bind fun r_3=>some ((r_3.1 == 0),r_3.2)
def mk_Stream_Odd (s_1:Stream) (low_2:Int) (high_3:Int):Option (Int×Stream) :=
  (mk_Stream_Flip s_1 12).bind fun r_4=>bif r_4.1 then (mk_Stream_Pick r_4.2 ([(w64 (low_2 - 1)),(w64 (high_3 + 1)),low_2,high_3,(-1099511627776),1099511627776]:List Int)).bind fun r_8=>some (r_8.1,r_8.2)else (mk_Stream_Range r_4.2 low_2 high_3).bind fun r_11=>some (r_11.1,r_11.2)
def mk_Stream_Plays (s_1:Stream) (most_2:Int):Option ((List Play)×Stream) :=
  (mk_Stream_RightPlays s_1 most_2).bind fun r_3=>(bif (decide ((r_3.1.length:Int) > 0))then (mk_Stream_Flip r_3.2 12).bind fun r_10=>some (r_10.1,r_10.2.L,r_10.2.f_at)else some (false,r_3.2.L,r_3.2.f_at)).bind fun v_7=>(bif v_7.1 then (mk_Stream_Next (⟨v_7.2.1,v_7.2.2⟩:Stream) (r_3.1.length:Int)).bind fun r_16=>(inR r_16.1 r_3.1).bind fun _=>(r_3.1[(0 + (r_16.1).toNat)]?).bind fun e_20=>(mk_Stream_Some r_16.2 ([e_20.Player,(⟨#[]⟩:ByteArray),(⟨#[112,97]⟩:ByteArray)]:List ByteArray)).bind fun r_22=>(mk_Stream_Some r_22.2 ([(⟨#[105,97]⟩:ByteArray),(⟨#[65]⟩:ByteArray)]:List ByteArray)).bind fun r_25=>(mk_Stream_Odd r_25.2 0 100).bind fun r_28=>(mk_Stream_Odd r_28.2 1 50).bind fun r_31=>(r_3.1[(0 + (r_16.1).toNat)]?).bind fun e_34=>((r_3.1.set (0 + (r_16.1).toNat) (⟨r_22.1,e_34.Item,e_34.At,e_34.Long⟩:Play))[(0 + (r_16.1).toNat)]?).bind fun e_36=>(((r_3.1.set (0 + (r_16.1).toNat) (⟨r_22.1,e_34.Item,e_34.At,e_34.Long⟩:Play)).set (0 + (r_16.1).toNat) (⟨e_36.Player,r_25.1,e_36.At,e_36.Long⟩:Play))[(0 + (r_16.1).toNat)]?).bind fun e_38=>((((r_3.1.set (0 + (r_16.1).toNat) (⟨r_22.1,e_34.Item,e_34.At,e_34.Long⟩:Play)).set (0 + (r_16.1).toNat) (⟨e_36.Player,r_25.1,e_36.At,e_36.Long⟩:Play)).set (0 + (r_16.1).toNat) (⟨e_38.Player,e_38.Item,r_28.1,e_38.Long⟩:Play))[(0 + (r_16.1).toNat)]?).bind fun e_40=>some (((((r_3.1.set (0 + (r_16.1).toNat) (⟨r_22.1,e_34.Item,e_34.At,e_34.Long⟩:Play)).set (0 + (r_16.1).toNat) (⟨e_36.Player,r_25.1,e_36.At,e_36.Long⟩:Play)).set (0 + (r_16.1).toNat) (⟨e_38.Player,e_38.Item,r_28.1,e_38.Long⟩:Play)).set (0 + (r_16.1).toNat) (⟨e_40.Player,e_40.Item,e_40.At,r_31.1⟩:Play)),r_31.2.L,r_31.2.f_at)else some (r_3.1,v_7.2.1,v_7.2.2)).bind fun v_13=>some (v_13.1,(⟨v_13.2.1,v_13.2.2⟩:Stream))
def kit_IsKey_L1 (s_1:ByteArray) (s_7:Int):Option (Ctl (Int) (Bool)) :=
  bif (decide (s_7 < (s_1.size:Int)))then (idxS s_1 s_7).bind fun b_13=>(bif (decide ((b_13.toNat:Int)≥97))then bif (decide ((b_13.toNat:Int)≤122))then some false else bif (decide (s_7 > 0))then bif (decide ((b_13.toNat:Int)≥48))then bif (decide ((b_13.toNat:Int)≤57))then some false else bif ((b_13.toNat:Int) == 45)then some false else some (!((b_13.toNat:Int) == 95))else bif ((b_13.toNat:Int) == 45)then some false else some (!((b_13.toNat:Int) == 95))else some true else bif (decide (s_7 > 0))then bif (decide ((b_13.toNat:Int)≥48))then bif (decide ((b_13.toNat:Int)≤57))then some false else bif ((b_13.toNat:Int) == 45)then some false else some (!((b_13.toNat:Int) == 95))else bif ((b_13.toNat:Int) == 45)then some false else some (!((b_13.toNat:Int) == 95))else some true).bind fun v_15=>bif v_15 then some (.ret false)else some (.go (w64 (s_7 + 1)))else some (.brk s_7)
noncomputable def kit_IsKey (s_1:ByteArray):Option (Bool) :=
  (loopO 0 (fun s=>kit_IsKey_L1 s_1 s)).bind fun o_10=>thenC o_10 (fun s_7=>(bif (sNe s_1 (⟨#[]⟩:ByteArray))then some (decide ((s_1.size:Int)≤40))else some false).bind fun v_30=>some v_30) (fun r=>some r)
def kit_IsMoment (n_1:Int):Option (Bool) :=
  (bif (decide (n_1≥0))then some (decide (n_1 < 345686400000))else some false).bind fun v_2=>some v_2
def kit_Outside (n_1:Int) (low_2:Int) (high_3:Int):Option (Bool) :=
  (bif (decide (n_1 < low_2))then some true else some (decide (n_1 > high_3))).bind fun v_4=>some v_4
def internal_bytealg_CompareString (a_1:ByteArray) (b_2:ByteArray):Option (Int) :=
  some (cmpB a_1 b_2)
def strings_Compare (a_1:ByteArray) (b_2:ByteArray):Option (Int) :=
  (internal_bytealg_CompareString a_1 b_2).bind fun r_3=>some r_3
def cmp_isNaN_int (x_1:Int):Option (Bool) :=
  some (x_1 != x_1)
def cmp_Compare_int (x_1:Int) (y_2:Int):Option (Int) :=
  (cmp_isNaN_int x_1).bind fun r_3=>(cmp_isNaN_int y_2).bind fun r_5=>bif r_3 then bif r_5 then some 0 else some (-1)else bif r_5 then some 1 else bif (decide (x_1 < y_2))then some (-1)else bif (decide (x_1 > y_2))then some 1 else some 0
def cmp_Or_int_L1 (k_2:Nat) (x_4:Int) (s_7:Unit):Option (Ctl (Unit) (Int)) :=
  bif (x_4 != 0)then some (.ret x_4)else some (.go ())
def cmp_Or_int (vals_1:(List Int)):Option (Int) :=
  (forL vals_1 () (fun k x s=>cmp_Or_int_L1 k x s)).bind fun o_10=>thenC o_10 (fun s_7=>some 0) (fun r=>some r)
def proof_comparePlays (a_1:Play) (b_2:Play):Option (Int) :=
  (strings_Compare a_1.Player b_2.Player).bind fun r_5=>(cmp_Compare_int a_1.At b_2.At).bind fun r_7=>(cmp_Or_int ([r_5,r_7]:List Int)).bind fun r_9=>some r_9
noncomputable def proof_CheckPlays_L1 (l_1:(List Play)) (k_3:Nat) (x_5:Play) (s_8:Unit):Option (Ctl (Unit) (Int)) :=
  ((kit_IsKey x_5.Player).bind fun r_16=>bif (!r_16)then some true else (kit_IsKey x_5.Item).bind fun r_19=>some (!r_19)).bind fun v_14=>bif v_14 then some (.ret 5)else ((kit_IsMoment x_5.At).bind fun r_24=>bif (!r_24)then some true else (kit_Outside x_5.Long 1 86400000).bind fun r_27=>some r_27).bind fun v_22=>bif v_22 then some (.ret 1)else (bif (decide ((k_3:Int) > 0))then (idx l_1 (w64 ((k_3:Int) - 1))).bind fun y_33=>(proof_comparePlays y_33 x_5).bind fun r_35=>some (decide (r_35≥0))else some false).bind fun v_30=>bif v_30 then some (.ret 7)else some (.go ())
noncomputable def proof_CheckPlays (l_1:(List Play)):Option (Int) :=
  bif (decide ((l_1.length:Int) > 3000))then some 2 else (forL l_1 () (fun k x s=>proof_CheckPlays_L1 l_1 k x s)).bind fun o_11=>thenC o_11 (fun s_8=>some 0) (fun r=>some r)
def proof_dayOf (atv_1:Int) (zone_2:Int):Option (Int) :=
  some (w64 ((w64 ((w64 ((w64 (atv_1 + (w64 (zone_2 * 60000)))) + 86400000)).tdiv 86400000)) - 1))
def proof_Counts_1 (a_1:Tally) (b_2:Tally):Option (Int) :=
  (strings_Compare a_1.Player b_2.Player).bind fun r_5=>(strings_Compare a_1.Item b_2.Item).bind fun r_7=>(cmp_Compare_int a_1.Day b_2.Day).bind fun r_9=>(cmp_Or_int ([r_5,r_7,r_9]:List Int)).bind fun r_11=>some r_11
def math_bits_Len64 (x_1:Int):Option (Int) :=
  (bif (decide (x_1≥4294967296))then (shrO .u64 x_1 32).bind fun q_5=>some (q_5,32)else some (x_1,0)).bind fun v_2=>(bif (decide (v_2.1≥65536))then (shrO .u64 v_2.1 16).bind fun q_10=>some (q_10,(w64 (v_2.2 + 16)))else some (v_2.1,v_2.2)).bind fun v_7=>(bif (decide (v_7.1≥256))then (shrO .u64 v_7.1 8).bind fun q_15=>some (q_15,(w64 (v_7.2 + 8)))else some (v_7.1,v_7.2)).bind fun v_12=>(idxS (⟨#[0,1,2,2,3,3,3,3,4,4,4,4,4,4,4,4,5,5,5,5,5,5,5,5,5,5,5,5,5,5,5,5,6,6,6,6,6,6,6,6,6,6,6,6,6,6,6,6,6,6,6,6,6,6,6,6,6,6,6,6,6,6,6,6,7,7,7,7,7,7,7,7,7,7,7,7,7,7,7,7,7,7,7,7,7,7,7,7,7,7,7,7,7,7,7,7,7,7,7,7,7,7,7,7,7,7,7,7,7,7,7,7,7,7,7,7,7,7,7,7,7,7,7,7,7,7,7,7,8,8,8,8,8,8,8,8,8,8,8,8,8,8,8,8,8,8,8,8,8,8,8,8,8,8,8,8,8,8,8,8,8,8,8,8,8,8,8,8,8,8,8,8,8,8,8,8,8,8,8,8,8,8,8,8,8,8,8,8,8,8,8,8,8,8,8,8,8,8,8,8,8,8,8,8,8,8,8,8,8,8,8,8,8,8,8,8,8,8,8,8,8,8,8,8,8,8,8,8,8,8,8,8,8,8,8,8,8,8,8,8,8,8,8,8,8,8,8,8,8,8,8,8,8,8,8,8]⟩:ByteArray) (IntKind.u8.wrap v_12.1)).bind fun b_17=>some (w64 (v_12.2 + (w64 (b_17.toNat:Int))))
def math_bits_Len (x_1:Int):Option (Int) :=
  (math_bits_Len64 x_1).bind fun r_2=>some r_2
def slices_insertionSortCmpFunc_api_Tally_v1_L1 (a_2:Int) (s_21:(List Tally)×Int):Option (Ctl ((List Tally)×Int) (Unit)) :=
  (bif (decide (s_21.2 > a_2))then (inR s_21.2 s_21.1).bind fun _=>(s_21.1[(0 + (s_21.2).toNat)]?).bind fun e_30=>(inR (w64 (s_21.2 - 1)) s_21.1).bind fun _=>(s_21.1[(0 + ((w64 (s_21.2 - 1))).toNat)]?).bind fun e_33=>(proof_Counts_1 e_30 e_33).bind fun r_35=>some (decide (r_35 < 0))else some false).bind fun v_26=>bif v_26 then (inR (w64 (s_21.2 - 1)) s_21.1).bind fun _=>(s_21.1[(0 + ((w64 (s_21.2 - 1))).toNat)]?).bind fun e_39=>(inR s_21.2 s_21.1).bind fun _=>(s_21.1[(0 + (s_21.2).toNat)]?).bind fun e_42=>(inR s_21.2 s_21.1).bind fun _=>(s_21.1[(0 + (s_21.2).toNat)]?).bind fun e_45=>(inR (w64 (s_21.2 - 1)) (s_21.1.set (0 + (s_21.2).toNat) e_39)).bind fun _=>((s_21.1.set (0 + (s_21.2).toNat) e_39)[(0 + ((w64 (s_21.2 - 1))).toNat)]?).bind fun e_48=>some (.go (((s_21.1.set (0 + (s_21.2).toNat) e_39).set (0 + ((w64 (s_21.2 - 1))).toNat) e_42),(w64 (s_21.2 - 1))))else some (.brk (s_21.1,s_21.2))
noncomputable def slices_insertionSortCmpFunc_api_Tally_v1_L2 (b_3:Int) (a_2:Int) (s_10:(List Tally)×Int):Option (Ctl ((List Tally)×Int) (Unit)) :=
  bif (decide (s_10.2 < b_3))then (loopO (s_10.1,s_10.2) (fun s=>slices_insertionSortCmpFunc_api_Tally_v1_L1 a_2 s)).bind fun o_24=>thenC o_24 (fun s_21=>some (.go (s_21.1,(w64 (s_10.2 + 1))))) (fun _=>none)else some (.brk (s_10.1,s_10.2))
noncomputable def slices_insertionSortCmpFunc_api_Tally_v1 (data_1:(List Tally)) (a_2:Int) (b_3:Int):Option ((List Tally)) :=
  (loopO (data_1,(w64 (a_2 + 1))) (fun s=>slices_insertionSortCmpFunc_api_Tally_v1_L2 b_3 a_2 s)).bind fun o_13=>thenC o_13 (fun s_10=>some s_10.1) (fun _=>none)
noncomputable def slices_pdqsortCmpFunc_api_Tally_v1_L1 (b_3:Int) (a_2:Int) (data_1:(List Tally)) (limit_4:Int) (s_11:Unit):Option (Ctl (Unit) ((List Tally))) :=
  bif (decide ((w64 (b_3 - a_2))≤12))then (slices_insertionSortCmpFunc_api_Tally_v1 data_1 a_2 b_3).bind fun r_17=>(sameL r_17 data_1).bind fun _=>some (.ret r_17)else bif (limit_4 == 0)then none else none
noncomputable def slices_pdqsortCmpFunc_api_Tally_v1 (data_1:(List Tally)) (a_2:Int) (b_3:Int) (limit_4:Int):Option ((List Tally)) :=
  (loopO () (fun s=>slices_pdqsortCmpFunc_api_Tally_v1_L1 b_3 a_2 data_1 limit_4 s)).bind fun o_14=>thenC o_14 (fun s_11=>some data_1) (fun r=>some r)
noncomputable def slices_SortFunc_api_Tally_api_Tally_v1 (x_1:(List Tally)):Option ((List Tally)) :=
  (math_bits_Len (IntKind.u64.wrap (x_1.length:Int))).bind fun r_3=>(slices_pdqsortCmpFunc_api_Tally_v1 x_1 0 (x_1.length:Int) r_3).bind fun r_5=>(sameL r_5 x_1).bind fun _=>some r_5
def proof_Counts_L1 (zone_2:Int) (k_10:Nat) (x_12:Play) (s_15:(List (Tally×Tally))):Option (Ctl ((List (Tally×Tally))) (Unit)) :=
  (proof_dayOf x_12.At zone_2).bind fun r_23=>(bif (mIdx (fun (a b:Tally)=>(eqS a.Player b.Player && (eqS a.Item b.Item && (eqI a.Day b.Day && (eqI a.Many b.Many && (eqI a.Long b.Long && true)))))) (⟨x_12.Player,x_12.Item,r_23,0,0⟩:Tally) s_15).isNone then (noneO (mIdx (fun (a b:Tally)=>(eqS a.Player b.Player && (eqS a.Item b.Item && (eqI a.Day b.Day && (eqI a.Many b.Many && (eqI a.Long b.Long && true)))))) (⟨x_12.Player,x_12.Item,r_23,0,0⟩:Tally) s_15)).bind fun _=>some (s_15 ++ [((⟨x_12.Player,x_12.Item,r_23,0,0⟩:Tally),(⟨x_12.Player,x_12.Item,r_23,0,0⟩:Tally))])else some s_15).bind fun v_26=>((mIdx (fun (a b:Tally)=>(eqS a.Player b.Player && (eqS a.Item b.Item && (eqI a.Day b.Day && (eqI a.Many b.Many && (eqI a.Long b.Long && true)))))) (⟨x_12.Player,x_12.Item,r_23,0,0⟩:Tally) v_26)).bind fun i_32=>(v_26[i_32]?).bind fun e_34=>(v_26[i_32]?).bind fun e_36=>((mIdx (fun (a b:Tally)=>(eqS a.Player b.Player && (eqS a.Item b.Item && (eqI a.Day b.Day && (eqI a.Many b.Many && (eqI a.Long b.Long && true)))))) (⟨x_12.Player,x_12.Item,r_23,0,0⟩:Tally) (v_26.set i_32 (e_36.1,(⟨e_36.2.Player,e_36.2.Item,e_36.2.Day,(w64 (e_34.2.Many + 1)),e_36.2.Long⟩:Tally))))).bind fun i_38=>((v_26.set i_32 (e_36.1,(⟨e_36.2.Player,e_36.2.Item,e_36.2.Day,(w64 (e_34.2.Many + 1)),e_36.2.Long⟩:Tally)))[i_38]?).bind fun e_40=>((v_26.set i_32 (e_36.1,(⟨e_36.2.Player,e_36.2.Item,e_36.2.Day,(w64 (e_34.2.Many + 1)),e_36.2.Long⟩:Tally)))[i_38]?).bind fun e_42=>some (.go ((v_26.set i_32 (e_36.1,(⟨e_36.2.Player,e_36.2.Item,e_36.2.Day,(w64 (e_34.2.Many + 1)),e_36.2.Long⟩:Tally))).set i_38 (e_42.1,(⟨e_42.2.Player,e_42.2.Item,e_42.2.Day,e_42.2.Many,(w64 (e_40.2.Long + x_12.Long))⟩:Tally))))
def proof_Counts_L2 (s_15:(List (Tally×Tally))) (x_48:(Nat×Tally)) (s_50:(List Tally)):Option (Ctl ((List Tally)) (Unit)) :=
  (s_15[x_48.1]?).bind fun e_59=>(appL s_50 ([e_59.2]:List Tally)).bind fun a_61=>some (.go a_61)
noncomputable def proof_Counts (l_1:(List Play)) (zone_2:Int):Option ((List Tally)×Int) :=
  (proof_CheckPlays l_1).bind fun r_3=>bif (r_3 != 0)then some (([]:(List Tally)),r_3)else (kit_Outside zone_2 (-1440) 1440).bind fun r_6=>bif r_6 then some (([]:(List Tally)),1)else (forL l_1 ([]:List (Tally×Tally)) (fun k x s=>proof_Counts_L1 zone_2 k x s)).bind fun o_20=>thenC o_20 (fun s_15=>overP (pmL s_15) (fun l_67=>(forP (fun x s=>proof_Counts_L2 s_15 x s) l_67 ([]:List Tally)).bind fun o_57=>thenC o_57 (fun s_50=>(slices_SortFunc_api_Tally_api_Tally_v1 s_50).bind fun r_64=>(sameL r_64 s_50).bind fun _=>some (r_64,0)) (fun _=>none))) (fun _=>none)
def proof_Idle_L1 (player_2:ByteArray) (wv_3:Window) (k_17:Nat) (x_19:Play) (s_22:(List Window)×Int):Option (Ctl ((List Window)×Int) (Unit)) :=
  (bif (sNe x_19.Player player_2)then some true else some (decide (s_22.2≥wv_3.To))).bind fun v_31=>bif v_31 then some (.go (s_22.1,s_22.2))else (bif (decide ((minI x_19.At wv_3.To) > s_22.2))then (appL s_22.1 ([(⟨s_22.2,(minI x_19.At wv_3.To)⟩:Window)]:List Window)).bind fun a_39=>some a_39 else some s_22.1).bind fun v_35=>some (.go (v_35,(maxI s_22.2 (w64 (x_19.At + x_19.Long)))))
noncomputable def proof_Idle (l_1:(List Play)) (player_2:ByteArray) (wv_3:Window):Option ((List Window)×Int) :=
  (proof_CheckPlays l_1).bind fun r_5=>bif (r_5 != 0)then some (([]:(List Window)),r_5)else (kit_IsKey player_2).bind fun r_8=>bif (!r_8)then some (([]:(List Window)),5)else ((kit_Outside wv_3.From 0 wv_3.To).bind fun r_13=>bif r_13 then some true else some (decide (wv_3.To > 345686400000))).bind fun v_11=>bif v_11 then some (([]:(List Window)),1)else (forL l_1 (([]:List Window),wv_3.From) (fun k x s=>proof_Idle_L1 player_2 wv_3 k x s)).bind fun o_28=>thenC o_28 (fun s_22=>(bif (decide (s_22.2 < wv_3.To))then (appL s_22.1 ([(⟨s_22.2,wv_3.To⟩:Window)]:List Window)).bind fun a_46=>some a_46 else some s_22.1).bind fun v_42=>some (v_42,0)) (fun _=>none)
def proof_apart (a_1:Int) (b_2:Int):Option (Int) :=
  some (maxI (w64 (a_1 - b_2)) (w64 (b_2 - a_1)))
noncomputable def proof_Compare_L1 (want_1:(List Play)) (havev_2:(List Play)) (k_4:Nat) (x_6:Nat) (s_9:Unit):Option (Ctl (Unit) ((List Match)×(List Int)×Int)) :=
  (idx ([want_1,havev_2]:List (List Play)) (k_4:Int)).bind fun y_14=>(proof_CheckPlays y_14).bind fun r_16=>bif (r_16 != 0)then some (.ret (([]:(List Match)),([]:(List Int)),r_16))else some (.go ())
def proof_Compare_L2 (s_30:(List Bool)×(List Match)) (x_27:Play) (most_3:Int) (havev_2:(List Play)) (k_39:Nat) (x_41:Play) (s_44:Int):Option (Ctl (Int) (Unit)) :=
  ((inR (k_39:Int) s_30.1).bind fun _=>(s_30.1[(0 + ((k_39:Int)).toNat)]?).bind fun e_53=>bif e_53 then some true else bif (sNe x_41.Player x_27.Player)then some true else bif (sNe x_41.Item x_27.Item)then some true else (proof_apart x_41.At x_27.At).bind fun r_58=>some (decide (r_58 > most_3))).bind fun v_50=>bif v_50 then some (.go s_44)else (bif (decide (s_44 < 0))then some true else (proof_apart x_41.At x_27.At).bind fun r_64=>(idx havev_2 s_44).bind fun y_66=>(proof_apart y_66.At x_27.At).bind fun r_68=>some (decide (r_64 < r_68))).bind fun v_61=>(bif v_61 then some (k_39:Int)else some s_44).bind fun v_70=>some (.go v_70)
def proof_Compare_L3 (havev_2:(List Play)) (most_3:Int) (k_25:Nat) (x_27:Play) (s_30:(List Bool)×(List Match)):Option (Ctl ((List Bool)×(List Match)) (Unit)) :=
  (forL havev_2 (-1) (fun k x s=>proof_Compare_L2 s_30 x_27 most_3 havev_2 k x s)).bind fun o_47=>thenC o_47 (fun s_44=>(bif (decide (s_44≥0))then (inR s_44 s_30.1).bind fun _=>(s_30.1[(0 + (s_44).toNat)]?).bind fun e_77=>some (s_30.1.set (0 + (s_44).toNat) true)else some s_30.1).bind fun v_73=>(appL s_30.2 ([(⟨(k_25:Int),s_44⟩:Match)]:List Match)).bind fun a_79=>some (.go (v_73,a_79))) (fun _=>none)
def proof_Compare_L4 (k_82:Nat) (x_84:Bool) (s_87:(List Int)):Option (Ctl ((List Int)) (Unit)) :=
  (bif (!x_84)then (appL s_87 ([(k_82:Int)]:List Int)).bind fun a_99=>some a_99 else some s_87).bind fun v_95=>some (.go v_95)
noncomputable def proof_Compare (want_1:(List Play)) (havev_2:(List Play)) (most_3:Int):Option ((List Match)×(List Int)×Int) :=
  (forL (List.range (2:Int).toNat) () (fun k x s=>proof_Compare_L1 want_1 havev_2 k x s)).bind fun o_12=>thenC o_12 (fun s_9=>(kit_Outside most_3 0 86400000).bind fun r_19=>bif r_19 then some (([]:(List Match)),([]:(List Int)),1)else (mkN (havev_2.length:Int) 1).bind fun m_22=>(forL want_1 ((List.replicate m_22 (false:Bool)),([]:List Match)) (fun k x s=>proof_Compare_L3 havev_2 most_3 k x s)).bind fun o_36=>thenC o_36 (fun s_30=>(forL s_30.1 ([]:List Int) (fun k x s=>proof_Compare_L4 k x s)).bind fun o_93=>thenC o_93 (fun s_87=>some (s_30.2,s_87,0)) (fun _=>none)) (fun _=>none)) (fun r=>some r)
def ref_in (n_1:Int) (low_2:Int) (high_3:Int):Option (Bool) :=
  (bif (decide (low_2≤n_1))then some (decide (n_1≤high_3))else some false).bind fun v_4=>some v_4
def internal_stringslite_IndexByte (s_1:ByteArray) (c_2:Int):Option (Int) :=
  some (ixB s_1 c_2)
def strings_IndexByte (s_1:ByteArray) (c_2:Int):Option (Int) :=
  (internal_stringslite_IndexByte s_1 c_2).bind fun r_3=>some r_3
def ref_only_L1 (s_1:ByteArray) (somev_2:ByteArray) (k_3:Nat) (x_5:Nat) (s_8:Unit):Option (Ctl (Unit) (Bool)) :=
  (idxS s_1 (k_3:Int)).bind fun b_13=>(strings_IndexByte somev_2 (b_13.toNat:Int)).bind fun r_15=>bif (decide (r_15 < 0))then some (.ret false)else some (.go ())
def ref_only (s_1:ByteArray) (somev_2:ByteArray):Option (Bool) :=
  (forL (List.range ((s_1.size:Int)).toNat) () (fun k x s=>ref_only_L1 s_1 somev_2 k x s)).bind fun o_11=>thenC o_11 (fun s_8=>some true) (fun r=>some r)
def ref_Key (s_1:ByteArray):Option (Bool) :=
  ((ref_in (s_1.size:Int) 1 40).bind fun r_4=>bif r_4 then (subS s_1 0 1).bind fun y_7=>(ref_only y_7 (⟨#[97,98,99,100,101,102,103,104,105,106,107,108,109,110,111,112,113,114,115,116,117,118,119,120,121,122]⟩:ByteArray)).bind fun r_9=>bif r_9 then (ref_only s_1 (⟨#[97,98,99,100,101,102,103,104,105,106,107,108,109,110,111,112,113,114,115,116,117,118,119,120,121,122,48,49,50,51,52,53,54,55,56,57,45,95]⟩:ByteArray)).bind fun r_12=>some r_12 else some false else some false).bind fun v_2=>some v_2
def ref_Moment (atv_1:Int):Option (Bool) :=
  (ref_in atv_1 0 345686399999).bind fun r_2=>some r_2
def ref_PlayedFault_L1 (k_3:Nat) (x_5:Play) (s_8:Unit):Option (Ctl (Unit) (Int)) :=
  ((ref_Key x_5.Player).bind fun r_16=>bif (!r_16)then some true else (ref_Key x_5.Item).bind fun r_19=>some (!r_19)).bind fun v_14=>bif v_14 then some (.ret 5)else ((ref_Moment x_5.At).bind fun r_24=>bif (!r_24)then some true else (ref_in x_5.Long 1 86400000).bind fun r_27=>some (!r_27)).bind fun v_22=>bif v_22 then some (.ret 1)else some (.go ())
def ref_PlayedFault (l_1:(List Play)):Option (Int) :=
  bif (decide ((l_1.length:Int) > 3000))then some 2 else (forL l_1 () (fun k x s=>ref_PlayedFault_L1 k x s)).bind fun o_11=>thenC o_11 (fun s_8=>some 0) (fun r=>some r)
def ref_sign (n_1:Int):Option (Int) :=
  bif (decide (n_1 < 0))then some (-1)else bif (decide (n_1 > 0))then some 1 else some 0
def ref_PlayOrder (a_1:Play) (b_2:Play):Option (Int) :=
  bif (sNe a_1.Player b_2.Player)then (strings_Compare a_1.Player b_2.Player).bind fun r_6=>some r_6 else (ref_sign (w64 (a_1.At - b_2.At))).bind fun r_8=>some r_8
def ref_PlaysFault_L1 (l_1:(List Play)) (k_3:Nat) (x_5:Play) (s_8:Unit):Option (Ctl (Unit) (Int)) :=
  (ref_PlayedFault ([x_5]:List Play)).bind fun r_14=>bif (r_14 != 0)then some (.ret r_14)else (bif (decide ((k_3:Int) > 0))then (idx l_1 (w64 ((k_3:Int) - 1))).bind fun y_20=>(ref_PlayOrder y_20 x_5).bind fun r_22=>some (decide (r_22≥0))else some false).bind fun v_17=>bif v_17 then some (.ret 7)else some (.go ())
def ref_PlaysFault (l_1:(List Play)):Option (Int) :=
  bif (decide ((l_1.length:Int) > 3000))then some 2 else (forL l_1 () (fun k x s=>ref_PlaysFault_L1 l_1 k x s)).bind fun o_11=>thenC o_11 (fun s_8=>some 0) (fun r=>some r)
def law_when (is_1:Bool) (e_2:Int):Option (Int) :=
  bif is_1 then some e_2 else some 0
def law_errs_L1 (k_2:Nat) (x_4:Int) (s_7:Unit):Option (Ctl (Unit) (Int)) :=
  bif (x_4 != 0)then some (.ret x_4)else some (.go ())
def law_errs (l_1:(List Int)):Option (Int) :=
  (forL l_1 () (fun k x s=>law_errs_L1 k x s)).bind fun o_10=>thenC o_10 (fun s_7=>some 0) (fun r=>some r)
def ref_WindowFault (wv_1:Window):Option (Int) :=
  ((ref_in wv_1.From 0 wv_1.To).bind fun r_5=>bif (!r_5)then some true else some (decide (wv_1.To > 345686400000))).bind fun v_3=>bif v_3 then some 1 else some 0
def ref_floor (a_1:Int) (b_2:Int):Option (Int) :=
  (remO .i64 a_1 b_2).bind fun q_3=>bif (decide (q_3 < 0))then (quoO .i64 a_1 b_2).bind fun q_6=>some (w64 (q_6 - 1))else (quoO .i64 a_1 b_2).bind fun q_8=>some q_8
def ref_CountsOf_1 (o_1:Tally) (p_2:Tally):Option (Bool) :=
  (bif (sEq o_1.Player p_2.Player)then bif (sEq o_1.Item p_2.Item)then some (o_1.Day == p_2.Day)else some false else some false).bind fun v_4=>some v_4
def slices_IndexFunc_api_Tally_api_Tally_v1_L1 (s_1:(List Tally)) (f2_3:Tally) (k_4:Nat) (x_6:Nat) (s_9:Unit):Option (Ctl (Unit) (Int)) :=
  (inR (k_4:Int) s_1).bind fun _=>(s_1[(0 + ((k_4:Int)).toNat)]?).bind fun e_15=>(ref_CountsOf_1 e_15 f2_3).bind fun r_17=>bif r_17 then some (.ret (k_4:Int))else some (.go ())
def slices_IndexFunc_api_Tally_api_Tally_v1 (s_1:(List Tally)) (f2_3:Tally):Option (Int) :=
  (forL (List.range ((s_1.length:Int)).toNat) () (fun k x s=>slices_IndexFunc_api_Tally_api_Tally_v1_L1 s_1 f2_3 k x s)).bind fun o_12=>thenC o_12 (fun s_9=>some (-1)) (fun r=>some r)
def cmp_isNaN_string (x_1:ByteArray):Option (Bool) :=
  some (sNe x_1 x_1)
def cmp_Compare_string (x_1:ByteArray) (y_2:ByteArray):Option (Int) :=
  (cmp_isNaN_string x_1).bind fun r_3=>(cmp_isNaN_string y_2).bind fun r_5=>bif r_3 then bif r_5 then some 0 else some (-1)else bif r_5 then some 1 else bif (sLt x_1 y_2)then some (-1)else bif (sGt x_1 y_2)then some 1 else some 0
def slices_Compare_string_string_L1 (s2_2:(List ByteArray)) (k_3:Nat) (x_5:ByteArray) (s_8:Unit):Option (Ctl (Unit) (Int)) :=
  bif (decide ((k_3:Int)≥(s2_2.length:Int)))then some (.ret 1)else (idx s2_2 (k_3:Int)).bind fun y_14=>(cmp_Compare_string x_5 y_14).bind fun r_16=>bif (r_16 != 0)then some (.ret r_16)else some (.go ())
def slices_Compare_string_string (s1_1:(List ByteArray)) (s2_2:(List ByteArray)):Option (Int) :=
  (forL s1_1 () (fun k x s=>slices_Compare_string_string_L1 s2_2 k x s)).bind fun o_11=>thenC o_11 (fun s_8=>bif (decide ((s1_1.length:Int) < (s2_2.length:Int)))then some (-1)else some 0) (fun r=>some r)
def ref_CountsOf_2 (a_1:Tally) (b_2:Tally):Option (Int) :=
  (slices_Compare_string_string ([a_1.Player,a_1.Item]:List ByteArray) ([b_2.Player,b_2.Item]:List ByteArray)).bind fun r_5=>bif (r_5 != 0)then some r_5 else (ref_sign (w64 (a_1.Day - b_2.Day))).bind fun r_8=>some r_8
def slices_insertionSortCmpFunc_api_Tally_v2_L1 (a_2:Int) (s_21:(List Tally)×Int):Option (Ctl ((List Tally)×Int) (Unit)) :=
  (bif (decide (s_21.2 > a_2))then (inR s_21.2 s_21.1).bind fun _=>(s_21.1[(0 + (s_21.2).toNat)]?).bind fun e_30=>(inR (w64 (s_21.2 - 1)) s_21.1).bind fun _=>(s_21.1[(0 + ((w64 (s_21.2 - 1))).toNat)]?).bind fun e_33=>(ref_CountsOf_2 e_30 e_33).bind fun r_35=>some (decide (r_35 < 0))else some false).bind fun v_26=>bif v_26 then (inR (w64 (s_21.2 - 1)) s_21.1).bind fun _=>(s_21.1[(0 + ((w64 (s_21.2 - 1))).toNat)]?).bind fun e_39=>(inR s_21.2 s_21.1).bind fun _=>(s_21.1[(0 + (s_21.2).toNat)]?).bind fun e_42=>(inR s_21.2 s_21.1).bind fun _=>(s_21.1[(0 + (s_21.2).toNat)]?).bind fun e_45=>(inR (w64 (s_21.2 - 1)) (s_21.1.set (0 + (s_21.2).toNat) e_39)).bind fun _=>((s_21.1.set (0 + (s_21.2).toNat) e_39)[(0 + ((w64 (s_21.2 - 1))).toNat)]?).bind fun e_48=>some (.go (((s_21.1.set (0 + (s_21.2).toNat) e_39).set (0 + ((w64 (s_21.2 - 1))).toNat) e_42),(w64 (s_21.2 - 1))))else some (.brk (s_21.1,s_21.2))
noncomputable def slices_insertionSortCmpFunc_api_Tally_v2_L2 (b_3:Int) (a_2:Int) (s_10:(List Tally)×Int):Option (Ctl ((List Tally)×Int) (Unit)) :=
  bif (decide (s_10.2 < b_3))then (loopO (s_10.1,s_10.2) (fun s=>slices_insertionSortCmpFunc_api_Tally_v2_L1 a_2 s)).bind fun o_24=>thenC o_24 (fun s_21=>some (.go (s_21.1,(w64 (s_10.2 + 1))))) (fun _=>none)else some (.brk (s_10.1,s_10.2))
noncomputable def slices_insertionSortCmpFunc_api_Tally_v2 (data_1:(List Tally)) (a_2:Int) (b_3:Int):Option ((List Tally)) :=
  (loopO (data_1,(w64 (a_2 + 1))) (fun s=>slices_insertionSortCmpFunc_api_Tally_v2_L2 b_3 a_2 s)).bind fun o_13=>thenC o_13 (fun s_10=>some s_10.1) (fun _=>none)
noncomputable def slices_pdqsortCmpFunc_api_Tally_v2_L1 (b_3:Int) (a_2:Int) (data_1:(List Tally)) (limit_4:Int) (s_11:Unit):Option (Ctl (Unit) ((List Tally))) :=
  bif (decide ((w64 (b_3 - a_2))≤12))then (slices_insertionSortCmpFunc_api_Tally_v2 data_1 a_2 b_3).bind fun r_17=>(sameL r_17 data_1).bind fun _=>some (.ret r_17)else bif (limit_4 == 0)then none else none
noncomputable def slices_pdqsortCmpFunc_api_Tally_v2 (data_1:(List Tally)) (a_2:Int) (b_3:Int) (limit_4:Int):Option ((List Tally)) :=
  (loopO () (fun s=>slices_pdqsortCmpFunc_api_Tally_v2_L1 b_3 a_2 data_1 limit_4 s)).bind fun o_14=>thenC o_14 (fun s_11=>some data_1) (fun r=>some r)
noncomputable def slices_SortFunc_api_Tally_api_Tally_v2 (x_1:(List Tally)):Option ((List Tally)) :=
  (math_bits_Len (IntKind.u64.wrap (x_1.length:Int))).bind fun r_3=>(slices_pdqsortCmpFunc_api_Tally_v2 x_1 0 (x_1.length:Int) r_3).bind fun r_5=>(sameL r_5 x_1).bind fun _=>some r_5
def ref_CountsOf_L1 (zone_2:Int) (k_3:Nat) (x_5:Play) (s_8:(List Tally)):Option (Ctl ((List Tally)) (Unit)) :=
  (ref_floor (w64 (x_5.At + (w64 (zone_2 * 60000)))) 86400000).bind fun r_17=>(slices_IndexFunc_api_Tally_api_Tally_v1 s_8 (⟨x_5.Player,x_5.Item,r_17,0,0⟩:Tally)).bind fun r_20=>(bif (decide (r_20 < 0))then (appL s_8 ([(⟨x_5.Player,x_5.Item,r_17,0,0⟩:Tally)]:List Tally)).bind fun a_26=>some (a_26,(s_8.length:Int))else some (s_8,r_20)).bind fun v_22=>(inR v_22.2 v_22.1).bind fun _=>(v_22.1[(0 + (v_22.2).toNat)]?).bind fun e_30=>(inR v_22.2 v_22.1).bind fun _=>(v_22.1[(0 + (v_22.2).toNat)]?).bind fun e_33=>(inR v_22.2 (v_22.1.set (0 + (v_22.2).toNat) (⟨e_33.Player,e_33.Item,e_33.Day,(w64 (e_30.Many + 1)),e_33.Long⟩:Tally))).bind fun _=>((v_22.1.set (0 + (v_22.2).toNat) (⟨e_33.Player,e_33.Item,e_33.Day,(w64 (e_30.Many + 1)),e_33.Long⟩:Tally))[(0 + (v_22.2).toNat)]?).bind fun e_36=>(inR v_22.2 (v_22.1.set (0 + (v_22.2).toNat) (⟨e_33.Player,e_33.Item,e_33.Day,(w64 (e_30.Many + 1)),e_33.Long⟩:Tally))).bind fun _=>((v_22.1.set (0 + (v_22.2).toNat) (⟨e_33.Player,e_33.Item,e_33.Day,(w64 (e_30.Many + 1)),e_33.Long⟩:Tally))[(0 + (v_22.2).toNat)]?).bind fun e_39=>some (.go ((v_22.1.set (0 + (v_22.2).toNat) (⟨e_33.Player,e_33.Item,e_33.Day,(w64 (e_30.Many + 1)),e_33.Long⟩:Tally)).set (0 + (v_22.2).toNat) (⟨e_39.Player,e_39.Item,e_39.Day,e_39.Many,(w64 (e_36.Long + x_5.Long))⟩:Tally)))
noncomputable def ref_CountsOf (l_1:(List Play)) (zone_2:Int):Option ((List Tally)) :=
  (forL l_1 ([]:List Tally) (fun k x s=>ref_CountsOf_L1 zone_2 k x s)).bind fun o_14=>thenC o_14 (fun s_8=>(slices_SortFunc_api_Tally_api_Tally_v2 s_8).bind fun r_41=>(sameL r_41 s_8).bind fun _=>some r_41) (fun _=>none)
def ref_IdleOf_1 (x_1:Window):Option (Bool) :=
  some (decide (x_1.From≥x_1.To))
def slices_IndexFunc_api_Window_api_Window_v1_L1 (s_1:(List Window)) (k_3:Nat) (x_5:Nat) (s_8:Unit):Option (Ctl (Unit) (Int)) :=
  (inR (k_3:Int) s_1).bind fun _=>(s_1[(0 + ((k_3:Int)).toNat)]?).bind fun e_14=>(ref_IdleOf_1 e_14).bind fun r_16=>bif r_16 then some (.ret (k_3:Int))else some (.go ())
def slices_IndexFunc_api_Window_api_Window_v1 (s_1:(List Window)):Option (Int) :=
  (forL (List.range ((s_1.length:Int)).toNat) () (fun k x s=>slices_IndexFunc_api_Window_api_Window_v1_L1 s_1 k x s)).bind fun o_11=>thenC o_11 (fun s_8=>some (-1)) (fun r=>some r)
def slices_DeleteFunc_api_Window_api_Window_v1_L1 (s_11:(List Window)×Int×Int):Option (Ctl ((List Window)×Int×Int) (Unit)) :=
  bif (decide (s_11.2.2 < (s_11.1.length:Int)))then (inR s_11.2.2 s_11.1).bind fun _=>(s_11.1[(0 + (s_11.2.2).toNat)]?).bind fun e_18=>(ref_IdleOf_1 e_18).bind fun r_21=>(bif (!r_21)then (inR s_11.2.1 s_11.1).bind fun _=>(s_11.1[(0 + (s_11.2.1).toNat)]?).bind fun e_27=>some ((s_11.1.set (0 + (s_11.2.1).toNat) e_18),(w64 (s_11.2.1 + 1)))else some (s_11.1,s_11.2.1)).bind fun v_23=>some (.go (v_23.1,v_23.2,(w64 (s_11.2.2 + 1))))else some (.brk (s_11.1,s_11.2.1,s_11.2.2))
noncomputable def slices_DeleteFunc_api_Window_api_Window_v1 (s_1:(List Window)):Option ((List Window)) :=
  (slices_IndexFunc_api_Window_api_Window_v1 s_1).bind fun r_3=>bif (r_3 == (-1))then some s_1 else (loopO (s_1,r_3,(w64 (r_3 + 1))) (fun s=>slices_DeleteFunc_api_Window_api_Window_v1_L1 s)).bind fun o_14=>thenC o_14 (fun s_11=>(subR s_11.1 s_11.2.1 (s_11.1.length:Int)).bind fun _=>(subR (s_11.1.take ((s_11.2.1).toNat)++List.replicate (((s_11.1.length:Int)).toNat - (s_11.2.1).toNat) (⟨0,0⟩:Window)++s_11.1.drop (((s_11.2.1).toNat) + (((s_11.1.length:Int)).toNat - (s_11.2.1).toNat))) 0 s_11.2.1).bind fun _=>some ((s_11.1.take ((s_11.2.1).toNat)++List.replicate (((s_11.1.length:Int)).toNat - (s_11.2.1).toNat) (⟨0,0⟩:Window)++s_11.1.drop (((s_11.2.1).toNat) + (((s_11.1.length:Int)).toNat - (s_11.2.1).toNat))).take ((s_11.2.1).toNat))) (fun _=>none)
def slices_IndexFunc_api_Window_api_Window_L1 (f_2:Window→Option Bool) (k_3:Nat) (x_5:Window) (s_8:Unit):Option (Ctl (Unit) (Int)) :=
  (f_2 x_5).bind fun r_13=>bif r_13 then some (.ret (k_3:Int))else some (.go ())
def slices_IndexFunc_api_Window_api_Window (s_1:(List Window)) (f_2:Window→Option Bool):Option (Int) :=
  (forL s_1 () (fun k x s=>slices_IndexFunc_api_Window_api_Window_L1 f_2 k x s)).bind fun o_11=>thenC o_11 (fun s_8=>some (-1)) (fun r=>some r)
def slices_DeleteFunc_api_Window_api_Window_v2_L1 (r_3:Int) (s_11:Unit):Option (Ctl (Unit) (Unit)) :=
  bif (decide ((w64 (r_3 + 1)) < 0))then none else some (.brk ())
noncomputable def slices_DeleteFunc_api_Window_api_Window_v2  : Option (Unit) :=
  (slices_IndexFunc_api_Window_api_Window ([]:List Window) (fun x0=>ref_IdleOf_1 x0)).bind fun r_3=>bif (r_3 == (-1))then some ()else (loopO () (fun s=>slices_DeleteFunc_api_Window_api_Window_v2_L1 r_3 s)).bind fun o_14=>thenC o_14 (fun s_11=>none) (fun _=>none)
def ref_IdleOf_2 (x_1:Window):Option (Bool) :=
  some (decide (x_1.From≥x_1.To))
def slices_IndexFunc_api_Window_api_Window_v2_L1 (s_1:(List Window)) (k_3:Nat) (x_5:Nat) (s_8:Unit):Option (Ctl (Unit) (Int)) :=
  (inR (k_3:Int) s_1).bind fun _=>(s_1[(0 + ((k_3:Int)).toNat)]?).bind fun e_14=>(ref_IdleOf_2 e_14).bind fun r_16=>bif r_16 then some (.ret (k_3:Int))else some (.go ())
def slices_IndexFunc_api_Window_api_Window_v2 (s_1:(List Window)):Option (Int) :=
  (forL (List.range ((s_1.length:Int)).toNat) () (fun k x s=>slices_IndexFunc_api_Window_api_Window_v2_L1 s_1 k x s)).bind fun o_11=>thenC o_11 (fun s_8=>some (-1)) (fun r=>some r)
def slices_DeleteFunc_api_Window_api_Window_v3_L1 (s_11:(List Window)×Int×Int):Option (Ctl ((List Window)×Int×Int) (Unit)) :=
  bif (decide (s_11.2.2 < (s_11.1.length:Int)))then (inR s_11.2.2 s_11.1).bind fun _=>(s_11.1[(0 + (s_11.2.2).toNat)]?).bind fun e_18=>(ref_IdleOf_2 e_18).bind fun r_21=>(bif (!r_21)then (inR s_11.2.1 s_11.1).bind fun _=>(s_11.1[(0 + (s_11.2.1).toNat)]?).bind fun e_27=>some ((s_11.1.set (0 + (s_11.2.1).toNat) e_18),(w64 (s_11.2.1 + 1)))else some (s_11.1,s_11.2.1)).bind fun v_23=>some (.go (v_23.1,v_23.2,(w64 (s_11.2.2 + 1))))else some (.brk (s_11.1,s_11.2.1,s_11.2.2))
noncomputable def slices_DeleteFunc_api_Window_api_Window_v3 (s_1:(List Window)):Option ((List Window)) :=
  (slices_IndexFunc_api_Window_api_Window_v2 s_1).bind fun r_3=>bif (r_3 == (-1))then some s_1 else (loopO (s_1,r_3,(w64 (r_3 + 1))) (fun s=>slices_DeleteFunc_api_Window_api_Window_v3_L1 s)).bind fun o_14=>thenC o_14 (fun s_11=>(subR s_11.1 s_11.2.1 (s_11.1.length:Int)).bind fun _=>(subR (s_11.1.take ((s_11.2.1).toNat)++List.replicate (((s_11.1.length:Int)).toNat - (s_11.2.1).toNat) (⟨0,0⟩:Window)++s_11.1.drop (((s_11.2.1).toNat) + (((s_11.1.length:Int)).toNat - (s_11.2.1).toNat))) 0 s_11.2.1).bind fun _=>some ((s_11.1.take ((s_11.2.1).toNat)++List.replicate (((s_11.1.length:Int)).toNat - (s_11.2.1).toNat) (⟨0,0⟩:Window)++s_11.1.drop (((s_11.2.1).toNat) + (((s_11.1.length:Int)).toNat - (s_11.2.1).toNat))).take ((s_11.2.1).toNat))) (fun _=>none)
def slices_DeleteFunc_api_Window_api_Window_v4_L1 (r_3:Int) (s_11:Unit):Option (Ctl (Unit) (Unit)) :=
  bif (decide ((w64 (r_3 + 1)) < 0))then none else some (.brk ())
noncomputable def slices_DeleteFunc_api_Window_api_Window_v4  : Option (Unit) :=
  (slices_IndexFunc_api_Window_api_Window ([]:List Window) (fun x0=>ref_IdleOf_2 x0)).bind fun r_3=>bif (r_3 == (-1))then some ()else (loopO () (fun s=>slices_DeleteFunc_api_Window_api_Window_v4_L1 r_3 s)).bind fun o_14=>thenC o_14 (fun s_11=>none) (fun _=>none)
def ref_IdleOf_L1 (x_8:Play) (k_22:Nat) (x_24:Window) (s_27:(List Window)):Option (Ctl ((List Window)) (Unit)) :=
  (appL s_27 ([(⟨x_24.From,(minI x_24.To x_8.At)⟩:Window),(⟨(maxI x_24.From (w64 (x_8.At + x_8.Long))),x_24.To⟩:Window)]:List Window)).bind fun a_36=>some (.go a_36)
noncomputable def ref_IdleOf_L2 (player_2:ByteArray) (k_6:Nat) (x_8:Play) (s_11:(List Window)):Option (Ctl ((List Window)) (Unit)) :=
  bif (sNe x_8.Player player_2)then some (.go s_11)else (forL s_11 ([]:List Window) (fun k x s=>ref_IdleOf_L1 x_8 k x s)).bind fun o_33=>thenC o_33 (fun s_27=>(slices_DeleteFunc_api_Window_api_Window_v1 s_27).bind fun r_39=>(leL r_39 s_27).bind fun _=>(slices_DeleteFunc_api_Window_api_Window_v2).bind fun _=>some (.go r_39)) (fun _=>none)
noncomputable def ref_IdleOf (l_1:(List Play)) (player_2:ByteArray) (wv_3:Window):Option ((List Window)) :=
  (forL l_1 ([wv_3]:List Window) (fun k x s=>ref_IdleOf_L2 player_2 k x s)).bind fun o_18=>thenC o_18 (fun s_11=>(slices_DeleteFunc_api_Window_api_Window_v3 s_11).bind fun r_43=>(leL r_43 s_11).bind fun _=>(slices_DeleteFunc_api_Window_api_Window_v4).bind fun _=>some r_43) (fun _=>none)
def slices_Index_int_int_v1_L1 (s_1:(List Int)) (v_2:Int) (k_3:Nat) (x_5:Nat) (s_8:Unit):Option (Ctl (Unit) (Int)) :=
  (inR (k_3:Int) s_1).bind fun _=>(s_1[(0 + ((k_3:Int)).toNat)]?).bind fun e_14=>bif (v_2 == e_14)then some (.ret (k_3:Int))else some (.go ())
def slices_Index_int_int_v1 (s_1:(List Int)) (v_2:Int):Option (Int) :=
  (forL (List.range ((s_1.length:Int)).toNat) () (fun k x s=>slices_Index_int_int_v1_L1 s_1 v_2 k x s)).bind fun o_11=>thenC o_11 (fun s_8=>some (-1)) (fun r=>some r)
def slices_Contains_int_int_v1 (s_1:(List Int)) (v_2:Int):Option (Bool) :=
  (slices_Index_int_int_v1 s_1 v_2).bind fun r_3=>some (decide (r_3≥0))
def ref_CompareOf_L1 (x_6:Play) (most_3:Int) (s_9:(List Match)×(List Int)) (havev_2:(List Play)) (k_22:Nat) (x_24:Play) (s_27:Int):Option (Ctl (Int) (Unit)) :=
  (bif (sNe x_24.Player x_6.Player)then some true else bif (sNe x_24.Item x_6.Item)then some true else bif (decide ((maxI (w64 (x_6.At - x_24.At)) (w64 (x_24.At - x_6.At))) > most_3))then some true else (slices_Contains_int_int_v1 s_9.2 (k_22:Int)).bind fun r_38=>some r_38).bind fun v_33=>bif v_33 then some (.go s_27)else (bif (decide (s_27 < 0))then some true else (idx havev_2 s_27).bind fun y_44=>(idx havev_2 s_27).bind fun y_46=>some (decide ((maxI (w64 (x_6.At - x_24.At)) (w64 (x_24.At - x_6.At))) < (maxI (w64 (x_6.At - y_44.At)) (w64 (y_46.At - x_6.At)))))).bind fun v_41=>(bif v_41 then some (k_22:Int)else some s_27).bind fun v_48=>some (.go v_48)
def ref_CompareOf_L2 (havev_2:(List Play)) (most_3:Int) (k_4:Nat) (x_6:Play) (s_9:(List Match)×(List Int)):Option (Ctl ((List Match)×(List Int)) (Unit)) :=
  (forL havev_2 (-1) (fun k x s=>ref_CompareOf_L1 x_6 most_3 s_9 havev_2 k x s)).bind fun o_30=>thenC o_30 (fun s_27=>(bif (decide (s_27≥0))then (appL s_9.2 ([s_27]:List Int)).bind fun a_55=>some a_55 else some s_9.2).bind fun v_51=>(appL s_9.1 ([(⟨(k_4:Int),s_27⟩:Match)]:List Match)).bind fun a_58=>some (.go (a_58,v_51))) (fun _=>none)
def ref_CompareOf_L3 (s_9:(List Match)×(List Int)) (k_61:Nat) (x_63:Nat) (s_66:(List Int)):Option (Ctl ((List Int)) (Unit)) :=
  (slices_Contains_int_int_v1 s_9.2 (k_61:Int)).bind fun r_74=>(bif (!r_74)then (appL s_66 ([(k_61:Int)]:List Int)).bind fun a_80=>some a_80 else some s_66).bind fun v_76=>some (.go v_76)
def ref_CompareOf (want_1:(List Play)) (havev_2:(List Play)) (most_3:Int):Option ((List Match)×(List Int)) :=
  (forL want_1 (([]:List Match),([]:List Int)) (fun k x s=>ref_CompareOf_L2 havev_2 most_3 k x s)).bind fun o_18=>thenC o_18 (fun s_9=>(forL (List.range ((havev_2.length:Int)).toNat) ([]:List Int) (fun k x s=>ref_CompareOf_L3 s_9 k x s)).bind fun o_72=>thenC o_72 (fun s_66=>some (s_9.1,s_66)) (fun _=>none)) (fun _=>none)
def slices_Equal_api_Tally_api_Tally_L1 (s2_2:(List Tally)) (k_4:Nat) (x_6:Tally) (s_9:Unit):Option (Ctl (Unit) (Bool)) :=
  (idx s2_2 (k_4:Int)).bind fun y_14=>bif (!((x_6.Player.toList == y_14.Player.toList) && ((x_6.Item.toList == y_14.Item.toList) && ((x_6.Day == y_14.Day) && ((x_6.Many == y_14.Many) && ((x_6.Long == y_14.Long) && true))))))then some (.ret false)else some (.go ())
def slices_Equal_api_Tally_api_Tally (s1_1:(List Tally)) (s2_2:(List Tally)):Option (Bool) :=
  bif ((s1_1.length:Int) != (s2_2.length:Int))then some false else (forL s1_1 () (fun k x s=>slices_Equal_api_Tally_api_Tally_L1 s2_2 k x s)).bind fun o_12=>thenC o_12 (fun s_9=>some true) (fun r=>some r)
def slices_Equal_api_Window_api_Window_L1 (s2_2:(List Window)) (k_4:Nat) (x_6:Window) (s_9:Unit):Option (Ctl (Unit) (Bool)) :=
  (idx s2_2 (k_4:Int)).bind fun y_14=>bif (!((x_6.From == y_14.From) && ((x_6.To == y_14.To) && true)))then some (.ret false)else some (.go ())
def slices_Equal_api_Window_api_Window (s1_1:(List Window)) (s2_2:(List Window)):Option (Bool) :=
  bif ((s1_1.length:Int) != (s2_2.length:Int))then some false else (forL s1_1 () (fun k x s=>slices_Equal_api_Window_api_Window_L1 s2_2 k x s)).bind fun o_12=>thenC o_12 (fun s_9=>some true) (fun r=>some r)
def slices_Equal_api_Match_api_Match_L1 (s2_2:(List Match)) (k_4:Nat) (x_6:Match) (s_9:Unit):Option (Ctl (Unit) (Bool)) :=
  (idx s2_2 (k_4:Int)).bind fun y_14=>bif (!((x_6.Want == y_14.Want) && ((x_6.Have == y_14.Have) && true)))then some (.ret false)else some (.go ())
def slices_Equal_api_Match_api_Match (s1_1:(List Match)) (s2_2:(List Match)):Option (Bool) :=
  bif ((s1_1.length:Int) != (s2_2.length:Int))then some false else (forL s1_1 () (fun k x s=>slices_Equal_api_Match_api_Match_L1 s2_2 k x s)).bind fun o_12=>thenC o_12 (fun s_9=>some true) (fun r=>some r)
def slices_Equal_int_int_L1 (s2_2:(List Int)) (k_4:Nat) (x_6:Int) (s_9:Unit):Option (Ctl (Unit) (Bool)) :=
  (idx s2_2 (k_4:Int)).bind fun y_14=>bif (x_6 != y_14)then some (.ret false)else some (.go ())
def slices_Equal_int_int (s1_1:(List Int)) (s2_2:(List Int)):Option (Bool) :=
  bif ((s1_1.length:Int) != (s2_2.length:Int))then some false else (forL s1_1 () (fun k x s=>slices_Equal_int_int_L1 s2_2 k x s)).bind fun o_12=>thenC o_12 (fun s_9=>some true) (fun r=>some r)
def proof_compareBeats (a_1:Beat) (b_2:Beat):Option (Int) :=
  (strings_Compare a_1.Player b_2.Player).bind fun r_5=>(cmp_Compare_int a_1.At b_2.At).bind fun r_7=>(cmp_Or_int ([r_5,r_7]:List Int)).bind fun r_9=>some r_9
noncomputable def proof_CheckBeats_L1 (l_1:(List Beat)) (k_3:Nat) (x_5:Beat) (s_8:Unit):Option (Ctl (Unit) (Int)) :=
  (kit_IsKey x_5.Player).bind fun r_14=>bif (!r_14)then some (.ret 5)else ((kit_IsMoment x_5.At).bind fun r_19=>bif (!r_19)then some true else (kit_Outside x_5.Clock 0 345686399999).bind fun r_22=>some r_22).bind fun v_17=>bif v_17 then some (.ret 1)else (bif (decide ((k_3:Int) > 0))then (idx l_1 (w64 ((k_3:Int) - 1))).bind fun y_28=>(proof_compareBeats y_28 x_5).bind fun r_30=>some (decide (r_30≥0))else some false).bind fun v_25=>bif v_25 then some (.ret 7)else (bif (decide ((k_3:Int) > 0))then (idx l_1 (w64 ((k_3:Int) - 1))).bind fun y_36=>bif (sEq x_5.Player y_36.Player)then (idx l_1 (w64 ((k_3:Int) - 1))).bind fun y_39=>some (decide (x_5.Clock≤y_39.Clock))else some false else some false).bind fun v_33=>bif v_33 then some (.ret 16)else some (.go ())
noncomputable def proof_CheckBeats (l_1:(List Beat)):Option (Int) :=
  bif (decide ((l_1.length:Int) > 500))then some 2 else (forL l_1 () (fun k x s=>proof_CheckBeats_L1 l_1 k x s)).bind fun o_11=>thenC o_11 (fun s_8=>some 0) (fun r=>some r)
def proof_beatsOf_L1 (player_2:ByteArray) (back_3:Bool) (k_4:Nat) (x_6:Beat) (s_9:(List Beat_)):Option (Ctl ((List Beat_)) (Unit)) :=
  (bif (sNe x_6.Player player_2)then some s_9 else bif back_3 then (appL s_9 ([(⟨x_6.At,x_6.Clock⟩:Beat_)]:List Beat_)).bind fun a_23=>some a_23 else (appL s_9 ([(⟨x_6.Clock,x_6.At⟩:Beat_)]:List Beat_)).bind fun a_26=>some a_26).bind fun v_18=>some (.go v_18)
def proof_beatsOf (l_1:(List Beat)) (player_2:ByteArray) (back_3:Bool):Option ((List Beat_)) :=
  (forL l_1 ([]:List Beat_) (fun k x s=>proof_beatsOf_L1 player_2 back_3 k x s)).bind fun o_15=>thenC o_15 (fun s_9=>some s_9) (fun _=>none)
def proof_mapped_L1 (l_1:(List Beat_)) (n_2:Int) (s_9:Int):Option (Ctl (Int) (Unit)) :=
  (bif (decide (s_9 < (l_1.length:Int)))then (idx l_1 s_9).bind fun y_17=>some (decide (y_17.f_from≤n_2))else some false).bind fun v_14=>bif v_14 then some (.go (w64 (s_9 + 1)))else some (.brk s_9)
noncomputable def proof_mapped (l_1:(List Beat_)) (n_2:Int):Option (Int×Int) :=
  bif ((l_1.length:Int) == 0)then some (0,8)else (loopO 0 (fun s=>proof_mapped_L1 l_1 n_2 s)).bind fun o_12=>thenC o_12 (fun s_9=>bif (s_9 == 0)then (idx l_1 0).bind fun y_21=>(idx l_1 0).bind fun y_23=>(kit_IsMoment (w64 (y_21.f_to - (w64 (y_23.f_from - n_2))))).bind fun r_25=>bif (!r_25)then some (0,11)else some ((w64 (y_21.f_to - (w64 (y_23.f_from - n_2)))),0)else bif (s_9 == (l_1.length:Int))then (idx l_1 (w64 (s_9 - 1))).bind fun y_29=>(idx l_1 (w64 (s_9 - 1))).bind fun y_31=>(kit_IsMoment (w64 ((w64 (y_29.f_to + n_2)) - y_31.f_from))).bind fun r_33=>bif (!r_33)then some (0,11)else some ((w64 ((w64 (y_29.f_to + n_2)) - y_31.f_from)),0)else (idx l_1 (w64 (s_9 - 1))).bind fun y_36=>(idx l_1 s_9).bind fun y_38=>(bif (decide ((w64 (y_38.f_from - y_36.f_from)) > 2592000000))then some true else some (decide ((w64 (y_38.f_to - y_36.f_to)) > 2592000000))).bind fun v_42=>bif v_42 then some (0,2)else (quoO .i64 (w64 ((w64 (n_2 - y_36.f_from)) * (w64 (y_38.f_to - y_36.f_to)))) (w64 (y_38.f_from - y_36.f_from))).bind fun q_46=>(kit_IsMoment (w64 (y_36.f_to + q_46))).bind fun r_48=>bif (!r_48)then some (0,11)else some ((w64 (y_36.f_to + q_46)),0)) (fun _=>none)
noncomputable def proof_asked (l_1:(List Beat)) (player_2:ByteArray) (n_3:Int) (back_4:Bool):Option (Int×Int) :=
  (proof_CheckBeats l_1).bind fun r_5=>bif (r_5 != 0)then some (0,r_5)else (kit_IsKey player_2).bind fun r_8=>bif (!r_8)then some (0,5)else (kit_IsMoment n_3).bind fun r_11=>bif (!r_11)then some (0,1)else (proof_beatsOf l_1 player_2 back_4).bind fun r_14=>(proof_mapped r_14 n_3).bind fun r_16=>some (r_16.1,r_16.2)
noncomputable def proof_Right (l_1:(List Beat)) (player_2:ByteArray) (clock_3:Int):Option (Int×Int) :=
  (proof_asked l_1 player_2 clock_3 false).bind fun r_4=>some (r_4.1,r_4.2)
noncomputable def law_proved  : Option (Bool) :=
  (proof_Right ([(⟨(⟨#[112]⟩:ByteArray),0,100⟩:Beat),(⟨(⟨#[112]⟩:ByteArray),1000,1300⟩:Beat)]:List Beat) (⟨#[112]⟩:ByteArray) 700).bind fun r_1=>(bif (r_1.2 == 0)then some (r_1.1 == 500)else some false).bind fun v_3=>some v_3
noncomputable def law_PlaysCounted (l_1:(List Int)):Option (Bool) :=
  (mk_Stream_Plays (⟨l_1,0⟩:Stream) 6).bind fun r_3=>(mk_Stream_Plays r_3.2 5).bind fun r_6=>(mk_Stream_Pick r_6.2 ([0,0,60,(-60),1440,1441]:List Int)).bind fun r_9=>(mk_Stream_Some r_9.2 ([(⟨#[112,97]⟩:ByteArray),(⟨#[112,98]⟩:ByteArray),(⟨#[112,122]⟩:ByteArray),(⟨#[]⟩:ByteArray)]:List ByteArray)).bind fun r_12=>(mk_Stream_Pick r_12.2 ([0,5,20,1000,(-1),86400001]:List Int)).bind fun r_15=>(mk_Stream_Pick r_15.2 ([0,3,10]:List Int)).bind fun r_18=>(mk_Stream_Pick r_18.2 ([5,50,200]:List Int)).bind fun r_21=>(mk_Stream_Flip r_21.2 12).bind fun r_25=>(bif r_25.1 then (mk_Stream_Odd r_25.2 0 50).bind fun r_31=>(mk_Stream_Odd r_31.2 0 100).bind fun r_34=>some (r_34.2.L,r_34.2.f_at,r_31.1,r_34.1)else some (r_25.2.L,r_25.2.f_at,r_18.1,r_21.1)).bind fun v_28=>(proof_Counts r_3.1 r_9.1).bind fun r_37=>(proof_Idle r_3.1 r_12.1 (⟨v_28.2.2.1,v_28.2.2.2⟩:Window)).bind fun r_39=>(proof_Compare r_3.1 r_6.1 r_15.1).bind fun r_41=>(ref_PlaysFault r_3.1).bind fun r_43=>(proof_CheckPlays r_3.1).bind fun r_45=>bif (r_45 != r_43)then some false else (law_when (decide (r_9.1 > 1440)) 1).bind fun r_48=>(law_errs ([r_43,r_48]:List Int)).bind fun r_50=>(ref_Key r_12.1).bind fun r_52=>(law_when (!r_52) 5).bind fun r_54=>(ref_WindowFault (⟨v_28.2.2.1,v_28.2.2.2⟩:Window)).bind fun r_56=>(law_errs ([r_43,r_54,r_56]:List Int)).bind fun r_58=>((ref_PlaysFault r_6.1).bind fun r_62=>bif (decide (r_15.1 < 0))then (law_when true 1).bind fun r_65=>(law_errs ([r_43,r_62,r_65]:List Int)).bind fun r_67=>some r_67 else (law_when (decide (r_15.1 > 86400000)) 1).bind fun r_69=>(law_errs ([r_43,r_62,r_69]:List Int)).bind fun r_71=>some r_71).bind fun v_60=>(bif (r_50 == 0)then (ref_CountsOf r_3.1 r_9.1).bind fun r_78=>some r_78 else some ([]:List Tally)).bind fun v_75=>(bif (r_58 == 0)then (ref_IdleOf r_3.1 r_12.1 (⟨v_28.2.2.1,v_28.2.2.2⟩:Window)).bind fun r_85=>some r_85 else some ([]:List Window)).bind fun v_82=>(bif (v_60 == 0)then (ref_CompareOf r_3.1 r_6.1 r_15.1).bind fun r_94=>some (r_94.1,r_94.2)else some (([]:List Match),([]:List Int))).bind fun v_91=>(bif (r_37.2 == r_50)then (slices_Equal_api_Tally_api_Tally r_37.1 v_75).bind fun r_99=>bif r_99 then bif (r_39.2 == r_58)then (slices_Equal_api_Window_api_Window r_39.1 v_82).bind fun r_103=>bif r_103 then bif (r_41.2.2 == v_60)then (slices_Equal_api_Match_api_Match r_41.1 v_91.1).bind fun r_107=>bif r_107 then (slices_Equal_int_int r_41.2.1 v_91.2).bind fun r_110=>bif r_110 then (law_proved).bind fun r_113=>some r_113 else some false else some false else some false else some false else some false else some false else some false).bind fun v_96=>some v_96
end Go.Proofs.Ythcdokkcamcnmab.Law

