/- What can be read as an expression is printed as a text that reads as the same, and is printed as itself: for every argument; short names. -/
import Derived.Below
import Derived.CallsIn
import Derived.Deep.AppendLies
import Derived.Deep.QuietTactic
import Derived.Deep.RegionHeld
import Derived.Defers
import Derived.KernelRfl
import Derived.Laws.AppendOwn
import Derived.Laws.Concat
import Derived.Laws.Entries
import Derived.Laws.Externs
import Derived.Laws.NewBlocks
import Derived.Laws.OwnMore
import Derived.Laws.Rows
import Derived.Laws.Sem
import Derived.Laws.Strings
import Derived.Laws.World
import Derived.Lib.BufferOwn
import Derived.Lib.BufferWrite
import Derived.Lib.Hide
import Derived.Lib.Strings
import Derived.Orders
import Derived.OrdersHeld
import Derived.OwnWalk
import Derived.OwnWalkIn
import Derived.RangeFuncLeaves
import Derived.RangeFuncOwn
import Derived.RangeFuncRecord
import Derived.Recover
import Derived.RowKit
import Derived.Scope
import Derived.Stop.Asserts
import Derived.Tactics
import Derived.Test.YtjaobihcdkjmbaaGreatDoorDb
set_option linter.unusedVariables false
namespace Go.Proofs
abbrev kA0:=@List.setIfInBounds_toArray
abbrev kA1:=@Go.Lib.hid
abbrev kA2:=@Nat.le_refl
abbrev kA3:=@Go.RowKit.Below.refl
abbrev kA4:=@Go.RowKit.Below.heap_alloc
abbrev kA5:=@Go.RowKit.Below.heap_setCell
abbrev kA6:=@Go.ByteArray.size_append'
abbrev kA7:=@Go.Lib.grownBy_trans
abbrev kA8:=@decide_eq_true
abbrev kA9:=@if_neg
abbrev kAa:=@if_pos
abbrev kAb:=@List.size_toArray
abbrev kAc:=@decide_eq_false
abbrev kAd:=@beq_eq_false_iff_ne
abbrev kAe:=@List.length_take
abbrev kAf:=@Go.Lib.grownBy_setCell
abbrev kAg:=@Option.some.inj
abbrev kAh:=@List.map_cons
abbrev kAi:=@Go.bodyPost_ret
abbrev kAj:=@Go.run_string_add_sum
abbrev kAk:=@Go.Lib.grownBy_below
abbrev kAl:=@List.map_toArray
abbrev kAm:=@List.length_drop
abbrev kAn:=@of_decide_eq_true
abbrev kAo:=@Bool.and_eq_true
abbrev kAp:=@List.drop_eq_getElem_cons
abbrev kAq:=@Go.World.putObj_heap_other
abbrev kAr:=@List.map_nil
abbrev kAs:=@Nat.ne_of_gt
abbrev kAt:=@List.length_append
abbrev kAu:=@Int.sign_eq_one_of_pos
abbrev kAv:=@Nat.zero_add
abbrev kAw:=@Go.World.size_alloc
abbrev kAx:=@Go.wpAnyH_take
abbrev kAy:=@Int.sign_eq_neg_one_of_neg
abbrev kAz:=@Go.World.cell?_setCell_far
abbrev kAA:=@beq_iff_eq
abbrev kAB:=@Nat.le_trans
abbrev kAC:=@List.getElem_mem
abbrev kAD:=@ByteArray.append_assoc
abbrev kAE:=@Go.World.grownBy_alloc
abbrev kAF:=@List.getElem?_eq_getElem
abbrev kAG:=@Int.mul_le_mul_of_nonneg_left
abbrev kAH:=@Go.Addr.add_zero'
abbrev kAI:=@Nat.zero_le
abbrev kAJ:=@Go.World.block_lt_of_cell?
abbrev kAK:=@List.eq_nil_of_length_eq_zero
abbrev kAM:=@List.mem_cons_of_mem
abbrev kAN:=@Go.World.size_setCell
abbrev kAO:=@List.mem_cons
abbrev kAP:=@Nat.le_of_lt
abbrev kAQ:=@List.mem_cons_self
abbrev kAR:=@List.append_toArray
abbrev kAS:=@Go.World.grownBy.refl
abbrev kAT:=@Bool.and_eq_false_iff
abbrev kAU:=@decide_eq_true_eq
abbrev kAV:=@Go.ByteArray.toList_eq
abbrev kAW:=@List.getElem?_eq_some_iff
abbrev kAX:=@eq_true
abbrev kAY:=@Nat.min_eq_left
abbrev kAZ:=@Nat.zero_mul
abbrev kB0:=@List.takeWhile_cons
abbrev kB1:=@List.getD_eq_getElem?_getD
abbrev kB2:=@Array.replicate_succ
abbrev kB3:=@Int.mul_assoc
abbrev kB4:=@Go.results_none
abbrev kB5:=@Go.Addr.add_succ'
abbrev kB6:=@List.take_length
abbrev kB7:=@Go.wp_region_held_drew
abbrev kB8:=@Nat.ne_of_lt
abbrev kB9:=@Int.mul_le_mul_of_nonneg_right
abbrev kBa:=@Go.World.setCell_alloc_past
abbrev kBb:=@Int.lt_trichotomy
abbrev kBc:=@List.not_mem_nil
abbrev kBd:=@Go.World.cell?_setCell_other
abbrev kBe:=@Go.World.putObj_heap_same
abbrev kBf:=@Go.bodyPost_end
abbrev kBg:=@Int.mul_comm
abbrev kBh:=@Int.le_of_lt
abbrev kBi:=@Nat.mul_le_mul_right
abbrev kBj:=@Go.Lib.extract_data
abbrev kBk:=@List.push_toArray
abbrev kBl:=@List.append_assoc
abbrev kBm:=@ByteArray.size_append
abbrev kBn:=@Go.run_callFunc_extern
abbrev kBo:=@List.all_eq_true
abbrev kBp:=@Go.callsIn_wide
abbrev kBq:=@List.drop_eq_nil_of_le
abbrev kBr:=@ByteArray.size_extract
abbrev kBs:=@Nat.lt_of_lt_of_le
abbrev kBt:=@List.mem_singleton
abbrev kBu:=@Bool.false_eq_true
abbrev kBv:=@List.take_succ_eq_append_getElem
abbrev kBw:=@List.take_append_drop
abbrev kBx:=@Array.toList_inj
abbrev kBy:=@Go.World.ownsRow.lt
abbrev kBz:=@Int.tdiv_eq_ediv_of_nonneg
abbrev kBA:=@Nat.one_mul
abbrev kBB:=@Int.mul_add
abbrev kBC:=@Go.World.cell?_alloc_lt
abbrev kBD:=@Int.emod_lt_of_pos
abbrev kBE:=@List.take_of_length_le
abbrev kBF:=@Go.AllReadyH.cons
abbrev kBG:=@ByteArray.ext
abbrev kBH:=@Go.KeepsOthers.setCell
abbrev kBI:=@Int.pow_succ
abbrev kBJ:=@Go.AllReadyH.nil
abbrev kBK:=@Option.map_eq_some_iff
abbrev kBL:=@Go.World.news_of_block
abbrev kBM:=@Int.emod_nonneg
abbrev kBN:=@Int.mul_ediv_add_emod
abbrev kBO:=@Go.wpAnyH_ready
abbrev kBP:=@ByteArray.data_append
abbrev kBQ:=@Go.World.alloc_heap_new
abbrev kBR:=@Nat.add_assoc
abbrev kBS:=@Int.eq_ofNat_of_zero_le
abbrev kBT:=@decide_eq_false_iff_not
abbrev kBU:=@Nat.lt_or_ge
abbrev kBV:=@Int.ediv_nonneg
abbrev kBW:=@Array.getElem?_eq_some_iff
abbrev kBX:=@Int.tmod_eq_emod_of_nonneg
abbrev kBY:=@List.mem_range
abbrev kBZ:=@List.drop_zero
abbrev kC0:=@List.drop_drop
abbrev kC1:=@Go.run_loadVar_row
abbrev kC2:=@List.mem_append
abbrev kC3:=@Option.isSome_iff_exists
abbrev kC4:=@Go.wpListIn_append_own
abbrev kC5:=@Go.callsD_of_wpS
abbrev kC6:=@List.drop_append_of_le_length
abbrev kC7:=@List.take_append_of_le_length
abbrev kC8:=@List.foldlM_cons
abbrev kC9:=@Go.run_takeDeferred
abbrev kCa:=@Int.mul_nonneg
abbrev kCb:=@Array.getElem?_eq_none
abbrev kCc:=@Go.KeepsOthers.of_grownBy
abbrev kCd:=@Go.Lib.grownBy_allocR
abbrev kCe:=@of_decide_eq_false
abbrev kCf:=@Go.Sem.run_bind
abbrev kCg:=@List.getElem?_eq_none
abbrev kCh:=@List.length_map
abbrev kCi:=@List.append_nil
abbrev kCj:=@Int.one_mul
abbrev kCk:=@Go.leaves_cons
abbrev kCl:=@Go.World.ownsRow_nil
abbrev kCm:=@or_false
abbrev kCn:=@List.getElem?_append_right
abbrev kCo:=@List.mem_of_mem_take
abbrev kCp:=@Nat.pow_le_pow_right
abbrev kCq:=@Nat.zero_lt_succ
abbrev kCr:=@Ne.symm
abbrev kCs:=@dif_pos
abbrev kCt:=@Go.callsIn_of_wp_marks
abbrev kCu:=@Go.World.ownsRow.cells
abbrev kCv:=@Go.run_typeAssert_hasB
abbrev kCw:=@Int.toNat_of_nonneg
abbrev kCx:=@Int.mul_zero
abbrev kCy:=@Nat.not_lt
abbrev kCz:=@Nat.le_mul_of_pos_right
abbrev kCA:=@Bool.eq_iff_iff
abbrev kCB:=@Go.callsIn_of_wp
abbrev kCC:=@Bool.true_and
abbrev kCD:=@Go.World.ownsRow_lit
abbrev kCE:=@Go.KeepsOthers.alloc
abbrev kCF:=@Int.pow_add
abbrev kCG:=@List.getElem_take
abbrev kCH:=@Go.wpS_region
abbrev kCI:=@Nat.add_left_comm
abbrev kCJ:=@Bool.eq_false_iff
abbrev kCK:=@Go.Calls.quiet_of
abbrev kCL:=@if_false
abbrev kCM:=@Int.add_zero
abbrev kCN:=@Int.ediv_lt_of_lt_mul
abbrev kCO:=@if_true
abbrev kCP:=@List.drop_length
abbrev kCQ:=@Int.ediv_le_self
abbrev kCR:=@Nat.le_add_right
abbrev kCS:=@List.mem_append_left
abbrev kCT:=@List.contains_eq_mem
abbrev kCU:=@Prod.mk.injEq
abbrev kCV:=@bne_iff_ne
abbrev kCW:=@Nat.add_mul
abbrev kCX:=@Bool.or_eq_true
abbrev kCY:=@UInt8.toNat_inj
abbrev kCZ:=@Int.mul_one
abbrev kD0:=@List.map_append
abbrev kD1:=@Go.results_tmp2
abbrev kD2:=@Go.ready_mono
abbrev kD3:=@Go.step_scope
theorem kD4{P:Prop}(h:P:=by omega):P:=h
theorem kD5{P:Prop}(h:P:=by kernel_rfl):P:=h
theorem kD6{P:Prop}(h:P:=by simp):P:=h
theorem kD7{P:Prop}(h:P:=by decide):P:=h
theorem kD8{P:Prop}(h:P:=by simp;omega):P:=h
theorem kD9{P:Prop}(h:P:=by rfl):P:=h
theorem kDa{P:Prop}(h:P:=by intro e;injection e with e;omega):P:=h
theorem kDb{P:Prop}(h:P:=by assumption):P:=h
theorem kDc{P:Prop}(h:P:=by simp only[ByteArray.size_append',ByteArray.size_mk',List.size_toArray,List.length_cons,List.length_nil];omega):P:=h
theorem kDd{P:Prop}(h:P:=by simp<;>omega):P:=h
theorem kDe{P:Prop}(h:P:=by (try simp only[List.map_toArray,List.map_cons,List.map_nil]);first | done | rfl | (simp only[List.length_drop,List.length_take];rfl)):P:=h
theorem kDf{P:Prop}(h:P:=by first | (with_reducible assumption) | assumption):P:=h
theorem kDg{P:Prop}(h:P:=by repeat (first | (with_reducible first | exact HB.out | apply zAb | apply zA3 | apply zAc) | exact HB.out)):P:=h
theorem kDh{P:Prop}(h:P:=by first | rfl | (simp;done) | (simp[*];done)):P:=h
theorem kDi{P:Prop}(h:P:=by simp;try omega):P:=h
theorem kDj{P:Prop}(h:P:=by rw[h1];decide):P:=h
theorem kDk{P:Prop}(h:P:=by simp[go_sem]):P:=h
theorem kDl{P:Prop}(h:P:=by rw[hcat];omega):P:=h
theorem kDm{P:Prop}(h:P:=by simp;have:=BW.size;omega):P:=h
theorem kDn{P:Prop}(h:P:=by unfold maxLen;omega):P:=h
theorem kDo{P:Prop}(h:P:=by simp only[List.map_toArray,List.map_cons,List.map_nil];rfl):P:=h
theorem kDp{P:Prop}(h:P:=by show w.heap.size≠X;omega):P:=h
theorem kDq{P:Prop}(h:P:=by rw[zBa,s2];rfl):P:=h
theorem kDr{P:Prop}(h:P:=by simp only;omega):P:=h
theorem kDs{P:Prop}(h:P:=by rw[zBa,s1];decide):P:=h
theorem kDt{P:Prop}(h:P:=by simp[hrl.out]):P:=h
theorem kDu{P:Prop}(h:P:=by go_simp;rfl):P:=h
theorem kDv{P:Prop}(h:P:=by have:=zA5 hN2.scan;omega):P:=h
theorem kDw{P:Prop}(h:P:=by rw[World.size_alloc,hz0];omega):P:=h
theorem kDx{P:Prop}(h:P:=by simp[Value.oneCell']):P:=h
theorem kDy{P:Prop}(h:P:=by rw[hrl.out,hL.out]):P:=h
theorem kDz{P:Prop}(h:P:=by (with_reducible repeat (first | apply Kd.R_alloc | apply Kd.R_drewN | apply Kd.R_drew));exact HO366.out):P:=h
theorem kDA{P:Prop}(h:P:=by rw[beq_iff_eq];exact h2):P:=h
theorem kDB{P:Prop}(h:P:=by rw[h2];decide):P:=h
theorem kDC{P:Prop}(h:P:=by rw[nodeT];omega):P:=h
theorem kDD{P:Prop}(h:P:=by rw[zBa,s1];rfl):P:=h
theorem kDE{P:Prop}(h:P:=by simpa[maxLen] using hm):P:=h
theorem kDF{P:Prop}(h:P:=by simp[Value.ownBlock]):P:=h
theorem kDG{P:Prop}(h:P:=by rw[h] at hr;cases hr):P:=h
theorem kDH{P:Prop}(h:P:=by rw[hrec];simp):P:=h
theorem kDI{P:Prop}(h:P:=by simp[h7]):P:=h
theorem kDJ{P:Prop}(h:P:=by rw[node0];omega):P:=h
theorem kDK{P:Prop}(h:P:=by rw[node1];omega):P:=h
theorem kDL{P:Prop}(h:P:=by rw[h];decide):P:=h
theorem kDM{P:Prop}(h:P:=by rw[hw _ (by decide)];decide):P:=h
theorem kDN{P:Prop}(h:P:=by simp;exact hXl):P:=h
theorem kDO{P:Prop}(h:P:=by rw[hcat,HRR.out];omega):P:=h
theorem kDP{P:Prop}(h:P:=by simp only[zFM,Act.put,List.setIfInBounds_toArray,List.set_cons_zero,List.set_cons_succ]):P:=h
theorem kDQ{P:Prop}(h:P:=by have:=hbb1.out;omega):P:=h
theorem kDR{P:Prop}(h:P:=by have:=zBh ha;omega):P:=h
theorem kDS{P:Prop}(h:P:=by simpa using h):P:=h
theorem kDT{P:Prop}(h:P:=by first | (simp only[List.map_toArray,List.map_cons,List.map_nil,List.append_toArray,List.nil_append,List.append_nil,List.singleton_append];rfl) | simp[Act.eval]):P:=h
theorem kDU{P:Prop}(h:P:=by rw[List.length_append,List.length_singleton];have:=hacc.out;omega):P:=h
theorem kDV{P:Prop}(h:P:=by simp only[World.size_alloc];omega):P:=h
theorem kDW{P:Prop}(h:P:=by simp only[ByteArray.size_mk',List.size_toArray,List.length_cons,List.length_nil];omega):P:=h
theorem kDX{P:Prop}(h:P:=by rw[e];exact hc):P:=h
theorem kDY{P:Prop}(h:P:=by rcases hop with⟨rfl,rfl⟩ | ⟨rfl,rfl⟩<;>rfl):P:=h
end Go.Proofs
