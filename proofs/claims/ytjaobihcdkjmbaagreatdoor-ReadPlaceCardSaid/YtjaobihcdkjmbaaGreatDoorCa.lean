/- The law ReadPlace answers true for every argument; short names. -/
import Derived.Below
import Derived.CallsIn
import Derived.Deep.AppendLies
import Derived.Deep.QuietTactic
import Derived.Deep.RegionHeld
import Derived.Defers
import Derived.KernelRfl
import Derived.Laws.AppendOwn
import Derived.Laws.Concat
import Derived.Laws.Entries
import Derived.Laws.Externs
import Derived.Laws.NewBlocks
import Derived.Laws.Rows
import Derived.Laws.Sem
import Derived.Laws.Strings
import Derived.Laws.World
import Derived.Lib.BufferOwn
import Derived.Lib.BufferWrite
import Derived.Lib.Hide
import Derived.Lib.Strings
import Derived.Orders
import Derived.OrdersHeld
import Derived.OwnWalk
import Derived.OwnWalkIn
import Derived.RangeFuncLeaves
import Derived.RangeFuncOwn
import Derived.RangeFuncRecord
import Derived.Recover
import Derived.RowKit
import Derived.Scope
import Derived.Still
import Derived.Stop.Asserts
import Derived.Tactics
import Derived.Test.YtjaobihcdkjmbaaGreatDoorCb
set_option linter.unusedVariables false
namespace Go.Proofs
abbrev kA0:=@List.setIfInBounds_toArray
abbrev kA1:=@Go.Lib.hid
abbrev kA2:=@Nat.le_refl
abbrev kA3:=@Go.RowKit.Below.refl
abbrev kA4:=@Go.RowKit.Below.heap_alloc
abbrev kA5:=@decide_eq_true
abbrev kA6:=@decide_eq_false
abbrev kA7:=@Go.RowKit.Below.heap_setCell
abbrev kA8:=@of_decide_eq_true
abbrev kA9:=@Go.Lib.grownBy_trans
abbrev kAa:=@if_neg
abbrev kAb:=@if_pos
abbrev kAc:=@Option.some.inj
abbrev kAd:=@Go.ByteArray.size_append'
abbrev kAe:=@List.length_take
abbrev kAf:=@List.size_toArray
abbrev kAg:=@Go.bodyPost_ret
abbrev kAh:=@Go.Lib.grownBy_setCell
abbrev kAi:=@Go.Lib.grownBy_below
abbrev kAj:=@beq_eq_false_iff_ne
abbrev kAk:=@List.map_toArray
abbrev kAl:=@List.length_drop
abbrev kAm:=@Go.run_string_add_sum
abbrev kAn:=@List.drop_eq_getElem_cons
abbrev kAo:=@List.map_cons
abbrev kAp:=@Go.World.putObj_heap_other
abbrev kAq:=@Nat.ne_of_gt
abbrev kAr:=@List.map_nil
abbrev kAs:=@eq_true
abbrev kAt:=@Int.sign_eq_one_of_pos
abbrev kAu:=@Go.wpAnyH_take
abbrev kAv:=@Int.sign_eq_neg_one_of_neg
abbrev kAw:=@List.length_append
abbrev kAx:=@Bool.and_eq_true
abbrev kAy:=@ByteArray.size_extract
abbrev kAz:=@Nat.le_trans
abbrev kAA:=@beq_iff_eq
abbrev kAB:=@Go.World.cell?_setCell_far
abbrev kAC:=@Go.World.size_alloc
abbrev kAD:=@List.getElem?_eq_getElem
abbrev kAE:=@Go.World.grownBy_alloc
abbrev kAF:=@Int.mul_le_mul_of_nonneg_left
abbrev kAG:=@Go.World.block_lt_of_cell?
abbrev kAI:=@Nat.zero_le
abbrev kAJ:=@Go.World.grownBy.refl
abbrev kAK:=@List.getElem?_eq_some_iff
abbrev kAL:=@Nat.zero_add
abbrev kAM:=@Go.World.size_setCell
abbrev kAN:=@Nat.le_of_lt
abbrev kAO:=@Go.Addr.add_zero'
abbrev kAP:=@List.append_toArray
abbrev kAQ:=@List.takeWhile_cons
abbrev kAR:=@List.getElem_mem
abbrev kAS:=@Go.Lib.extract_data
abbrev kAT:=@Nat.min_eq_left
abbrev kAU:=@List.mem_cons
abbrev kAV:=@Array.replicate_succ
abbrev kAW:=@Int.mul_assoc
abbrev kAX:=@Go.results_none
abbrev kAY:=@Go.wp_region_held_drew
abbrev kAZ:=@List.drop_eq_nil_of_le
abbrev kB0:=@Nat.zero_mul
abbrev kB1:=@Nat.ne_of_lt
abbrev kB2:=@Int.mul_le_mul_of_nonneg_right
abbrev kB3:=@Go.World.setCell_alloc_past
abbrev kB4:=@List.mem_cons_of_mem
abbrev kB5:=@List.take_length
abbrev kB6:=@decide_eq_true_eq
abbrev kB7:=@Int.lt_trichotomy
abbrev kB8:=@List.mem_cons_self
abbrev kB9:=@Bool.and_eq_false_iff
abbrev kBa:=@List.take_append_drop
abbrev kBb:=@Go.World.cell?_setCell_other
abbrev kBc:=@Go.bodyPost_end
abbrev kBd:=@Int.le_of_lt
abbrev kBe:=@Int.mul_comm
abbrev kBf:=@Go.World.putObj_heap_same
abbrev kBg:=@Nat.mul_le_mul_right
abbrev kBh:=@List.push_toArray
abbrev kBi:=@Nat.lt_of_lt_of_le
abbrev kBj:=@ByteArray.size_append
abbrev kBk:=@List.getD_eq_getElem?_getD
abbrev kBl:=@Go.run_callFunc_extern
abbrev kBm:=@Go.ByteArray.toList_eq
abbrev kBn:=@List.eq_nil_of_length_eq_zero
abbrev kBo:=@Go.callsIn_wide
abbrev kBp:=@List.take_of_length_le
abbrev kBq:=@Int.emod_lt_of_pos
abbrev kBr:=@of_decide_eq_false
abbrev kBs:=@List.take_succ_eq_append_getElem
abbrev kBt:=@Int.toNat_of_nonneg
abbrev kBu:=@Go.World.ownsRow.lt
abbrev kBv:=@Go.Addr.add_succ'
abbrev kBw:=@decide_eq_false_iff_not
abbrev kBx:=@Int.tdiv_eq_ediv_of_nonneg
abbrev kBy:=@Go.World.cell?_alloc_lt
abbrev kBz:=@Int.mul_add
abbrev kBA:=@List.mem_singleton
abbrev kBB:=@List.drop_zero
abbrev kBC:=@Go.AllReadyH.cons
abbrev kBD:=@List.not_mem_nil
abbrev kBE:=@Go.KeepsOthers.setCell
abbrev kBF:=@Int.pow_succ
abbrev kBG:=@Go.AllReadyH.nil
abbrev kBH:=@Int.emod_nonneg
abbrev kBI:=@Option.map_eq_some_iff
abbrev kBJ:=@Nat.one_mul
abbrev kBK:=@Go.World.news_of_block
abbrev kBL:=@Nat.lt_or_ge
abbrev kBM:=@Go.wpAnyH_ready
abbrev kBN:=@Int.mul_ediv_add_emod
abbrev kBO:=@List.take_append_of_le_length
abbrev kBP:=@Go.World.alloc_heap_new
abbrev kBQ:=@Prod.mk.injEq
abbrev kBR:=@Int.eq_ofNat_of_zero_le
abbrev kBS:=@Option.some.injEq
abbrev kBT:=@Go.leaves_cons
abbrev kBU:=@Int.ediv_nonneg
abbrev kBV:=@List.append_nil
abbrev kBW:=@Bool.eq_iff_iff
abbrev kBX:=@Array.getElem?_eq_some_iff
abbrev kBY:=@Int.tmod_eq_emod_of_nonneg
abbrev kBZ:=@Array.toList_inj
abbrev kC0:=@ByteArray.ext
abbrev kC1:=@Bool.true_and
abbrev kC2:=@List.mem_append_left
abbrev kC3:=@Go.run_loadVar_row
abbrev kC4:=@List.mem_append
abbrev kC5:=@Option.isSome_iff_exists
abbrev kC6:=@List.getElem?_take_of_lt
abbrev kC7:=@Go.wpListIn_append_own
abbrev kC8:=@Go.callsD_of_wpS
abbrev kC9:=@List.drop_append_of_le_length
abbrev kCa:=@List.foldlM_cons
abbrev kCb:=@List.all_eq_true
abbrev kCc:=@Go.run_takeDeferred
abbrev kCd:=@Nat.le_add_right
abbrev kCe:=@Int.mul_nonneg
abbrev kCf:=@Array.getElem?_eq_none
abbrev kCg:=@Go.KeepsOthers.of_grownBy
abbrev kCh:=@Bool.false_eq_true
abbrev kCi:=@Go.Lib.grownBy_allocR
abbrev kCj:=@Go.Sem.run_bind
abbrev kCk:=@Int.one_mul
abbrev kCl:=@Go.World.ownsRow_nil
abbrev kCm:=@List.append_assoc
abbrev kCn:=@List.getElem?_append_right
abbrev kCo:=@dif_pos
abbrev kCp:=@List.mem_of_mem_take
abbrev kCq:=@Nat.pow_le_pow_right
abbrev kCr:=@List.drop_drop
abbrev kCs:=@Nat.zero_lt_succ
abbrev kCt:=@Ne.symm
abbrev kCu:=@Go.callsIn_of_wp_marks
abbrev kCv:=@Go.run_typeAssert_hasB
abbrev kCw:=@bne_iff_ne
abbrev kCx:=@Int.mul_zero
abbrev kCy:=@Nat.le_mul_of_pos_right
abbrev kCz:=@Bool.or_eq_true
abbrev kCA:=@Go.callsIn_of_wp
abbrev kCB:=@List.takeWhile_sublist
abbrev kCC:=@Go.KeepsOthers.alloc
abbrev kCD:=@Go.wpStill_nil
abbrev kCE:=@Nat.not_lt
abbrev kCF:=@Go.wpS_region
abbrev kCG:=@Int.pow_add
abbrev kCH:=@List.getElem_take
abbrev kCI:=@Go.Calls.quiet_of
abbrev kCJ:=@List.getElem?_eq_none
abbrev kCK:=@Int.ediv_lt_of_lt_mul
abbrev kCL:=@ByteArray.data_append
abbrev kCM:=@Int.add_zero
abbrev kCN:=@Int.ediv_le_self
abbrev kCO:=@List.drop_length
abbrev kCP:=@List.contains_eq_mem
abbrev kCQ:=@or_false
abbrev kCR:=@Nat.add_mul
abbrev kCS:=@Int.mul_one
abbrev kCT:=@UInt8.toNat_inj
abbrev kCU:=@Go.ready_mono
abbrev kCV:=@Go.step_scope
theorem kCW{P:Prop}(h:P:=by omega):P:=h
theorem kCX{P:Prop}(h:P:=by kernel_rfl):P:=h
theorem kCY{P:Prop}(h:P:=by simp):P:=h
theorem kCZ{P:Prop}(h:P:=by simp;omega):P:=h
theorem kD0{P:Prop}(h:P:=by decide):P:=h
theorem kD1{P:Prop}(h:P:=by first | (with_reducible assumption) | assumption):P:=h
theorem kD2{P:Prop}(h:P:=by intro e;injection e with e;omega):P:=h
theorem kD3{P:Prop}(h:P:=by assumption):P:=h
theorem kD4{P:Prop}(h:P:=by (try simp only[List.map_toArray,List.map_cons,List.map_nil]);first | done | rfl | (simp only[List.length_drop,List.length_take];rfl)):P:=h
theorem kD5{P:Prop}(h:P:=by simp only[ByteArray.size_append',ByteArray.size_mk',List.size_toArray,List.length_cons,List.length_nil];omega):P:=h
theorem kD6{P:Prop}(h:P:=by simp<;>omega):P:=h
theorem kD7{P:Prop}(h:P:=by repeat (first | (with_reducible first | exact HB.out | apply zA7 | apply zA3 | apply zA8) | exact HB.out)):P:=h
theorem kD8{P:Prop}(h:P:=by first | rfl | (simp;done) | (simp[*];done)):P:=h
theorem kD9{P:Prop}(h:P:=by rfl):P:=h
theorem kDa{P:Prop}(h:P:=by have:=hl.out;omega):P:=h
theorem kDb{P:Prop}(h:P:=by simp;try omega):P:=h
theorem kDc{P:Prop}(h:P:=by simp[go_sem]):P:=h
theorem kDd{P:Prop}(h:P:=by rw[h1];decide):P:=h
theorem kDe{P:Prop}(h:P:=by show w.heap.size≠X;omega):P:=h
theorem kDf{P:Prop}(h:P:=by unfold maxLen;omega):P:=h
theorem kDg{P:Prop}(h:P:=by simp only;omega):P:=h
theorem kDh{P:Prop}(h:P:=by simp;have:=h4.size;omega):P:=h
theorem kDi{P:Prop}(h:P:=by simp only[List.map_toArray,List.map_cons,List.map_nil];rfl):P:=h
theorem kDj{P:Prop}(h:P:=by simp[hrl.out]):P:=h
theorem kDk{P:Prop}(h:P:=by go_simp;rfl):P:=h
theorem kDl{P:Prop}(h:P:=by rw[World.size_alloc,hz0];omega):P:=h
theorem kDm{P:Prop}(h:P:=by rw[beq_iff_eq];exact h2):P:=h
theorem kDn{P:Prop}(h:P:=by rw[nodeT];omega):P:=h
theorem kDo{P:Prop}(h:P:=by (with_reducible repeat (first | apply Kd.R_alloc | apply Kd.R_drewN | apply Kd.R_drew));exact HO366.out):P:=h
theorem kDp{P:Prop}(h:P:=by rw[← HCAT.out];have:=HSZ.out;omega):P:=h
theorem kDq{P:Prop}(h:P:=by simp[Value.oneCell']):P:=h
theorem kDr{P:Prop}(h:P:=by rw[hrl.out,hL.out]):P:=h
theorem kDs{P:Prop}(h:P:=by have:=zA5 hN2.scan;omega):P:=h
theorem kDt{P:Prop}(h:P:=by rw[h] at hr;cases hr):P:=h
theorem kDu{P:Prop}(h:P:=by rw[hrec];simp):P:=h
theorem kDv{P:Prop}(h:P:=by rw[node0];omega):P:=h
theorem kDw{P:Prop}(h:P:=by rw[node1];omega):P:=h
theorem kDx{P:Prop}(h:P:=by simp;have:=BW.size;omega):P:=h
theorem kDy{P:Prop}(h:P:=by rw[hs n hn]):P:=h
theorem kDz{P:Prop}(h:P:=by (with_reducible repeat (first | apply Kd.R_alloc | apply Kd.R_drewN | apply Kd.R_drew));exact HO_4.out):P:=h
theorem kDA{P:Prop}(h:P:=by simp[h7]):P:=h
theorem kDB{P:Prop}(h:P:=by simp;exact hXl):P:=h
theorem kDC{P:Prop}(h:P:=by rw[ByteArray.size_extract];omega):P:=h
theorem kDD{P:Prop}(h:P:=by simpa[maxLen] using hm):P:=h
theorem kDE{P:Prop}(h:P:=by simp[Value.ownBlock]):P:=h
theorem kDF{P:Prop}(h:P:=by have:=h.1;omega):P:=h
theorem kDG{P:Prop}(h:P:=by rw[h2];decide):P:=h
theorem kDH{P:Prop}(h:P:=by simp only[zFQ,Act.put,List.setIfInBounds_toArray,List.set_cons_zero,List.set_cons_succ]):P:=h
theorem kDI{P:Prop}(h:P:=by have:=HL.out;omega):P:=h
theorem kDJ{P:Prop}(h:P:=by have:=hbb1.out;omega):P:=h
theorem kDK{P:Prop}(h:P:=by simp only[ByteArray.size_mk',List.size_toArray,List.length_cons,List.length_nil];omega):P:=h
theorem kDL{P:Prop}(h:P:=by first | (simp only[List.map_toArray,List.map_cons,List.map_nil,List.append_toArray,List.nil_append,List.append_nil,List.singleton_append];rfl) | simp[Act.eval]):P:=h
theorem kDM{P:Prop}(h:P:=by rw[List.length_append,List.length_singleton];have:=hacc.out;omega):P:=h
theorem kDN{P:Prop}(h:P:=by unfold zAl;omega):P:=h
end Go.Proofs
