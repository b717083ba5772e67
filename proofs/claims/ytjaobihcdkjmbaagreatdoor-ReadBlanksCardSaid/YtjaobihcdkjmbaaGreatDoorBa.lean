/- The law ReadBlanks answers true for every argument; short names. -/
import Derived.Below
import Derived.CallsIn
import Derived.Deep.AppendLies
import Derived.Deep.QuietTactic
import Derived.Deep.RegionHeld
import Derived.Defers
import Derived.KernelRfl
import Derived.Laws.AppendOwn
import Derived.Laws.Concat
import Derived.Laws.Entries
import Derived.Laws.Externs
import Derived.Laws.NewBlocks
import Derived.Laws.OwnMore
import Derived.Laws.Rows
import Derived.Laws.Sem
import Derived.Laws.Strings
import Derived.Laws.World
import Derived.Lib.BufferOwn
import Derived.Lib.BufferWrite
import Derived.Lib.Hide
import Derived.Lib.Strings
import Derived.Orders
import Derived.OrdersHeld
import Derived.OwnWalk
import Derived.OwnWalkIn
import Derived.RangeFuncLeaves
import Derived.RangeFuncOwn
import Derived.RangeFuncRecord
import Derived.Recover
import Derived.RowKit
import Derived.Scope
import Derived.Still
import Derived.Stop.Asserts
import Derived.Tactics
import Derived.Test.YtjaobihcdkjmbaaGreatDoorBb
set_option linter.unusedVariables false
namespace Go.Proofs
abbrev kA0:=@List.setIfInBounds_toArray
abbrev kA1:=@Go.Lib.hid
abbrev kA2:=@Nat.le_refl
abbrev kA3:=@Go.RowKit.Below.refl
abbrev kA4:=@Go.RowKit.Below.heap_alloc
abbrev kA5:=@Go.RowKit.Below.heap_setCell
abbrev kA6:=@Go.Lib.grownBy_trans
abbrev kA7:=@decide_eq_true
abbrev kA8:=@decide_eq_false
abbrev kA9:=@if_neg
abbrev kAa:=@if_pos
abbrev kAb:=@Go.ByteArray.size_append'
abbrev kAc:=@List.size_toArray
abbrev kAd:=@beq_eq_false_iff_ne
abbrev kAe:=@Go.Lib.grownBy_below
abbrev kAf:=@Go.Lib.grownBy_setCell
abbrev kAg:=@Option.some.inj
abbrev kAh:=@List.length_take
abbrev kAi:=@Go.bodyPost_ret
abbrev kAj:=@Bool.and_eq_true
abbrev kAk:=@Go.run_string_add_sum
abbrev kAl:=@of_decide_eq_true
abbrev kAm:=@List.map_toArray
abbrev kAn:=@List.length_drop
abbrev kAo:=@List.map_cons
abbrev kAp:=@Go.World.putObj_heap_other
abbrev kAq:=@Nat.ne_of_gt
abbrev kAr:=@List.drop_eq_getElem_cons
abbrev kAs:=@List.map_nil
abbrev kAt:=@Int.sign_eq_one_of_pos
abbrev kAu:=@Go.wpAnyH_take
abbrev kAv:=@List.length_append
abbrev kAw:=@Int.sign_eq_neg_one_of_neg
abbrev kAx:=@beq_iff_eq
abbrev kAy:=@Go.World.cell?_setCell_far
abbrev kAz:=@Go.World.size_alloc
abbrev kAA:=@List.getElem_mem
abbrev kAB:=@Nat.le_trans
abbrev kAC:=@Go.World.grownBy_alloc
abbrev kAD:=@Int.mul_le_mul_of_nonneg_left
abbrev kAE:=@Go.World.block_lt_of_cell?
abbrev kAF:=@Go.World.grownBy.refl
abbrev kAG:=@List.getElem?_eq_getElem
abbrev kAH:=@Nat.zero_add
abbrev kAI:=@List.mem_cons
abbrev kAJ:=@List.mem_cons_self
abbrev kAK:=@List.mem_cons_of_mem
abbrev kAL:=@Go.World.size_setCell
abbrev kAM:=@trivial
abbrev kAN:=@decide_eq_true_eq
abbrev kAO:=@Go.Addr.add_zero'
abbrev kAP:=@List.append_toArray
abbrev kAQ:=@Bool.and_eq_false_iff
abbrev kAR:=@Go.ByteArray.toList_eq
abbrev kAS:=@List.getElem?_eq_some_iff
abbrev kAT:=@Nat.zero_le
abbrev kAU:=@Nat.min_eq_left
abbrev kAV:=@List.append_assoc
abbrev kAW:=@List.getD_eq_getElem?_getD
abbrev kAX:=@Nat.le_of_lt
abbrev kAY:=@Array.replicate_succ
abbrev kAZ:=@Int.mul_assoc
abbrev kB0:=@Go.results_none
abbrev kB1:=@List.take_length
abbrev kB2:=@Go.wp_region_held_drew
abbrev kB3:=@Int.mul_le_mul_of_nonneg_right
abbrev kB4:=@Nat.ne_of_lt
abbrev kB5:=@Go.World.setCell_alloc_past
abbrev kB6:=@Nat.mul_le_mul_right
abbrev kB7:=@eq_true
abbrev kB8:=@Int.lt_trichotomy
abbrev kB9:=@List.not_mem_nil
abbrev kBa:=@Nat.lt_of_lt_of_le
abbrev kBb:=@Go.World.cell?_setCell_other
abbrev kBc:=@List.takeWhile_cons
abbrev kBd:=@Go.bodyPost_end
abbrev kBe:=@Int.mul_comm
abbrev kBf:=@Int.le_of_lt
abbrev kBg:=@Go.World.putObj_heap_same
abbrev kBh:=@Nat.zero_mul
abbrev kBi:=@List.all_eq_true
abbrev kBj:=@List.push_toArray
abbrev kBk:=@Go.run_callFunc_extern
abbrev kBl:=@Go.callsIn_wide
abbrev kBm:=@of_decide_eq_false
abbrev kBn:=@List.take_succ_eq_append_getElem
abbrev kBo:=@Go.World.ownsRow.lt
abbrev kBp:=@Go.Lib.extract_data
abbrev kBq:=@Go.Addr.add_succ'
abbrev kBr:=@Int.tdiv_eq_ediv_of_nonneg
abbrev kBs:=@Int.mul_add
abbrev kBt:=@Go.World.cell?_alloc_lt
abbrev kBu:=@List.mem_singleton
abbrev kBv:=@Int.emod_lt_of_pos
abbrev kBw:=@List.take_of_length_le
abbrev kBx:=@List.drop_eq_nil_of_le
abbrev kBy:=@ByteArray.size_extract
abbrev kBz:=@Go.AllReadyH.cons
abbrev kBA:=@Go.KeepsOthers.setCell
abbrev kBB:=@Int.pow_succ
abbrev kBC:=@List.take_append_drop
abbrev kBD:=@ByteArray.size_append
abbrev kBE:=@decide_eq_false_iff_not
abbrev kBF:=@Go.AllReadyH.nil
abbrev kBG:=@Nat.one_mul
abbrev kBH:=@Int.emod_nonneg
abbrev kBI:=@Int.mul_ediv_add_emod
abbrev kBJ:=@Go.wpAnyH_ready
abbrev kBK:=@List.eq_nil_of_length_eq_zero
abbrev kBL:=@Go.World.alloc_heap_new
abbrev kBM:=@Nat.add_assoc
abbrev kBN:=@Int.eq_ofNat_of_zero_le
abbrev kBO:=@List.mem_range
abbrev kBP:=@Go.World.news_of_block
abbrev kBQ:=@Int.ediv_nonneg
abbrev kBR:=@Go.leaves_cons
abbrev kBS:=@Option.map_eq_some_iff
abbrev kBT:=@Array.getElem?_eq_some_iff
abbrev kBU:=@Int.tmod_eq_emod_of_nonneg
abbrev kBV:=@Array.toList_inj
abbrev kBW:=@Nat.lt_or_ge
abbrev kBX:=@ByteArray.ext
abbrev kBY:=@Bool.false_eq_true
abbrev kBZ:=@List.drop_zero
abbrev kC0:=@List.drop_drop
abbrev kC1:=@Go.run_loadVar_row
abbrev kC2:=@List.mem_append
abbrev kC3:=@Option.isSome_iff_exists
abbrev kC4:=@Go.wpListIn_append_own
abbrev kC5:=@Go.callsD_of_wpS
abbrev kC6:=@Int.toNat_of_nonneg
abbrev kC7:=@List.foldlM_cons
abbrev kC8:=@Go.run_takeDeferred
abbrev kC9:=@Int.mul_nonneg
abbrev kCa:=@Array.getElem?_eq_none
abbrev kCb:=@Go.KeepsOthers.of_grownBy
abbrev kCc:=@Go.Lib.grownBy_allocR
abbrev kCd:=@Go.Sem.run_bind
abbrev kCe:=@List.getElem?_eq_none
abbrev kCf:=@Int.one_mul
abbrev kCg:=@List.append_nil
abbrev kCh:=@Go.World.ownsRow_nil
abbrev kCi:=@or_false
abbrev kCj:=@List.getElem?_append_right
abbrev kCk:=@List.mem_append_left
abbrev kCl:=@List.mem_of_mem_take
abbrev kCm:=@Nat.pow_le_pow_right
abbrev kCn:=@Nat.zero_lt_succ
abbrev kCo:=@Ne.symm
abbrev kCp:=@Go.callsIn_of_wp_marks
abbrev kCq:=@Go.run_typeAssert_hasB
abbrev kCr:=@Nat.not_lt
abbrev kCs:=@Int.mul_zero
abbrev kCt:=@Bool.or_eq_true
abbrev kCu:=@Go.callsIn_of_wp
abbrev kCv:=@Bool.eq_iff_iff
abbrev kCw:=@Go.World.ownsRow_lit
abbrev kCx:=@Nat.add_mul
abbrev kCy:=@Go.wpStill_nil
abbrev kCz:=@Go.KeepsOthers.alloc
abbrev kCA:=@Int.pow_add
abbrev kCB:=@Go.wpS_region
abbrev kCC:=@Bool.eq_false_iff
abbrev kCD:=@Nat.add_left_comm
abbrev kCE:=@Go.Calls.quiet_of
abbrev kCF:=@Int.add_zero
abbrev kCG:=@Int.ediv_lt_of_lt_mul
abbrev kCH:=@ByteArray.data_append
abbrev kCI:=@dif_pos
abbrev kCJ:=@List.drop_length
abbrev kCK:=@Int.ediv_le_self
abbrev kCL:=@List.contains_eq_mem
abbrev kCM:=@Bool.true_and
abbrev kCN:=@Int.mul_one
abbrev kCO:=@UInt8.toNat_inj
abbrev kCP:=@List.map_append
abbrev kCQ:=@Go.ready_mono
abbrev kCR:=@bne_iff_ne
abbrev kCS:=@Go.step_scope
theorem kCT{P:Prop}(h:P:=by omega):P:=h
theorem kCU{P:Prop}(h:P:=by kernel_rfl):P:=h
theorem kCV{P:Prop}(h:P:=by simp):P:=h
theorem kCW{P:Prop}(h:P:=by decide):P:=h
theorem kCX{P:Prop}(h:P:=by simp;omega):P:=h
theorem kCY{P:Prop}(h:P:=by rfl):P:=h
theorem kCZ{P:Prop}(h:P:=by intro e;injection e with e;omega):P:=h
theorem kD0{P:Prop}(h:P:=by assumption):P:=h
theorem kD1{P:Prop}(h:P:=by simp only[ByteArray.size_append',ByteArray.size_mk',List.size_toArray,List.length_cons,List.length_nil];omega):P:=h
theorem kD2{P:Prop}(h:P:=by (try simp only[List.map_toArray,List.map_cons,List.map_nil]);first | done | rfl | (simp only[List.length_drop,List.length_take];rfl)):P:=h
theorem kD3{P:Prop}(h:P:=by simp<;>omega):P:=h
theorem kD4{P:Prop}(h:P:=by first | (with_reducible assumption) | assumption):P:=h
theorem kD5{P:Prop}(h:P:=by repeat (first | (with_reducible first | exact HB.out | apply zAa | apply zA3 | apply zAb) | exact HB.out)):P:=h
theorem kD6{P:Prop}(h:P:=by first | rfl | (simp;done) | (simp[*];done)):P:=h
theorem kD7{P:Prop}(h:P:=by have:=hl.out;omega):P:=h
theorem kD8{P:Prop}(h:P:=by simp;try omega):P:=h
theorem kD9{P:Prop}(h:P:=by simp[go_sem]):P:=h
theorem kDa{P:Prop}(h:P:=by rw[h1];decide):P:=h
theorem kDb{P:Prop}(h:P:=by unfold maxLen;omega):P:=h
theorem kDc{P:Prop}(h:P:=by show w.heap.size≠X;omega):P:=h
theorem kDd{P:Prop}(h:P:=by simp only[List.map_toArray,List.map_cons,List.map_nil];rfl):P:=h
theorem kDe{P:Prop}(h:P:=by rw[zB1,s2];rfl):P:=h
theorem kDf{P:Prop}(h:P:=by simp only;omega):P:=h
theorem kDg{P:Prop}(h:P:=by simp;have:=h4.size;omega):P:=h
theorem kDh{P:Prop}(h:P:=by rw[zB1,s1];decide):P:=h
theorem kDi{P:Prop}(h:P:=by simp[hrl.out]):P:=h
theorem kDj{P:Prop}(h:P:=by go_simp;rfl):P:=h
theorem kDk{P:Prop}(h:P:=by (with_reducible repeat (first | apply Kd.R_alloc | apply Kd.R_drewN | apply Kd.R_drew));exact HO366.out):P:=h
theorem kDl{P:Prop}(h:P:=by rw[World.size_alloc,hz0];omega):P:=h
theorem kDm{P:Prop}(h:P:=by simp[Value.oneCell']):P:=h
theorem kDn{P:Prop}(h:P:=by rw[hrl.out,hL.out]):P:=h
theorem kDo{P:Prop}(h:P:=by rw[beq_iff_eq];exact h2):P:=h
theorem kDp{P:Prop}(h:P:=by rw[h2];decide):P:=h
theorem kDq{P:Prop}(h:P:=by rw[← HCAT.out];have:=HSZ.out;omega):P:=h
theorem kDr{P:Prop}(h:P:=by rw[zB1,s1];rfl):P:=h
theorem kDs{P:Prop}(h:P:=by have:=zA5 hN2.scan;omega):P:=h
theorem kDt{P:Prop}(h:P:=by simpa[maxLen] using hm):P:=h
theorem kDu{P:Prop}(h:P:=by rw[h] at hr;cases hr):P:=h
theorem kDv{P:Prop}(h:P:=by rw[hrec];simp):P:=h
theorem kDw{P:Prop}(h:P:=by simp;have:=BW.size;omega):P:=h
theorem kDx{P:Prop}(h:P:=by simp[h7]):P:=h
theorem kDy{P:Prop}(h:P:=by simpa using h):P:=h
theorem kDz{P:Prop}(h:P:=by rw[hw _ (by decide)];decide):P:=h
theorem kDA{P:Prop}(h:P:=by simp;exact hXl):P:=h
theorem kDB{P:Prop}(h:P:=by show (2:Int)≠-1;decide):P:=h
theorem kDC{P:Prop}(h:P:=by simp[Value.ownBlock]):P:=h
theorem kDD{P:Prop}(h:P:=by simp only[zFH,Act.put,List.setIfInBounds_toArray,List.set_cons_zero,List.set_cons_succ]):P:=h
theorem kDE{P:Prop}(h:P:=by have:=hbb1.out;omega):P:=h
theorem kDF{P:Prop}(h:P:=by have:=zB7 ha;omega):P:=h
theorem kDG{P:Prop}(h:P:=by rw[e];exact hc):P:=h
theorem kDH{P:Prop}(h:P:=by simp only[ByteArray.size_mk',List.size_toArray,List.length_cons,List.length_nil];omega):P:=h
theorem kDI{P:Prop}(h:P:=by rcases hop with⟨rfl,rfl⟩ | ⟨rfl,rfl⟩<;>rfl):P:=h
theorem kDJ{P:Prop}(h:P:=by first | (simp only[List.map_toArray,List.map_cons,List.map_nil,List.append_toArray,List.nil_append,List.append_nil,List.singleton_append];rfl) | simp[Act.eval]):P:=h
theorem kDK{P:Prop}(h:P:=by rw[List.length_append,List.length_singleton];have:=hacc.out;omega):P:=h
end Go.Proofs
