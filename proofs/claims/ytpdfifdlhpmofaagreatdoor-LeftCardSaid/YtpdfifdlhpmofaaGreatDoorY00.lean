/-
  Scripts that stand more than once in the proof, each as a theorem's default.
-/
import Derived.Test.YtpdfifdlhpmofaaGreatDoorProg
import Derived.Lib.Hide
import Derived.RowKit
import Derived.Deep.DeepCutAuto
import Derived.Deep.MidRow
set_option linter.unusedVariables false
set_option linter.unusedSimpArgs false
set_option maxHeartbeats 3200000
set_option maxRecDepth 100000
namespace Go.Proofs.YtpdfifdlhpmofaaGreatDoor
open Go.RowKit
open Go.Lib (hid)
theorem Y{p:Prop}(h:p:=by omega):p:=h
theorem AC{p:Prop}(h:p:=by decide):p:=h
theorem Do{p:Prop}(h:p:=by rfl):p:=h
theorem EQ{p:Prop}(h:p:=by simp):p:=h
theorem Fd{p:Prop}(h:p:=by kernel_rfl):p:=h
abbrev Z:=@List.mem_singleton
abbrev U:=@List.mem_cons_of_mem
abbrev V:=@List.length_append
abbrev I:=@if_neg
abbrev J:=@List.mem_cons_self
abbrev D:=@List.mem_append_left
abbrev GE:=@List.getD_eq_getElem?_getD
abbrev GT:=@List.mem_append_right
abbrev Id:=@List.getElem?_eq_getElem
abbrev In:=@if_pos
abbrev IR:=@List.length_cons
abbrev LE:=@Nat.le_refl
abbrev Nm:=@List.mem_append
abbrev NE:=@beq_eq_false_iff_ne
abbrev Pi:=@List.mem_cons
abbrev PP:=@List.append_assoc
abbrev RK:=@List.eq_nil_of_length_eq_zero
abbrev UV:=@absurd
abbrev WP:=@List.cons_append
abbrev d5:=@List.length_singleton
abbrev d6:=@Nat.zero_le
abbrev d7:=@Nat.add_assoc
abbrev d8:=@List.map_cons
abbrev d9:=@List.getElem?_eq_some_iff
abbrev f5:=@List.eq_nil_or_concat
abbrev i7:=@List.append_nil
abbrev i9:=@List.nodup_append
abbrev m7:=@List.length_nil
abbrev m8:=@List.concat_eq_append
abbrev m9:=@List.getElem?_append_left
abbrev y4:=@if_false
abbrev z9:=@List.length_map
abbrev Qaa:=@List.length_set
abbrev Qab:=@List.getElem_mem
abbrev Qad:=@decide_eq_true_eq
abbrev Qae:=@List.length_pos_iff
abbrev Qaf:=@Bool.and_eq_true
abbrev Qag:=@List.getElem?_append_right
abbrev Qah:=@Bool.false_eq_true
abbrev Qai:=@List.mem_of_getElem?
abbrev Qaj:=@Nat.add_zero
abbrev Qak:=@List.nil_append
abbrev Qal:=@decide_eq_false
abbrev Qam:=@Option.map_eq_some_iff
abbrev Qan:=@Nat.le_succ
abbrev Qao:=@congrArg
abbrev Qap:=@List.not_mem_nil
abbrev Qaq:=@Nat.lt_of_lt_of_le
abbrev Qar:=@List.take_succ_eq_append_getElem
abbrev Qas:=@List.flatMap_cons
abbrev Qat:=@List.dropLast_concat
abbrev Qau:=@if_true
abbrev Qav:=@List.getLast?_singleton
abbrev Qaw:=@Nat.zero_add
abbrev Qax:=@List.getElem?_map
abbrev Qay:=@List.mem_flatMap
abbrev Qaz:=@List.map_append
abbrev Qa0:=@decide_eq_true
abbrev Qa1:=@Nat.lt_succ_self
abbrev Qa2:=@Int.natCast_nonneg
abbrev Qa3:=@List.getLast?_append
abbrev Qa4:=@List.all_eq_true
abbrev Qa5:=@List.nodup_cons
abbrev Qa6:=@List.drop_eq_getElem_cons
abbrev Qa7:=@Int.mul_add
abbrev Qa8:=@List.foldl_cons
abbrev Qa9:=@List.set_append_right
abbrev Qba:=@List.flatMap_append
abbrev Qbb:=@Array.getElem?_eq_none
abbrev Qbc:=@List.drop_of_length_le
abbrev Qbd:=@List.getElem?_toArray
abbrev Qbe:=@List.getElem?_cons_zero
abbrev Qbf:=@Nat.ne_of_lt
abbrev Qbg:=@List.mem_map
abbrev Qbh:=@Option.isSome_iff_exists
abbrev Qbi:=@forall_eq_or_imp
abbrev Qbj:=@List.getElem?_cons_succ
abbrev Qbk:=@List.mem_range
abbrev Qbl:=@List.set_cons_succ
abbrev Qbm:=@Option.some_or
abbrev Qbn:=@Int.le_refl
abbrev Qbo:=@List.take_of_length_le
abbrev Qbp:=@Option.getD_some
abbrev Qbq:=@Int.toNat_natCast
abbrev Qbr:=@List.Perm.append_left
abbrev Qbs:=@Nat.lt_or_ge
abbrev Qbt:=@Nat.sub_self
abbrev Qbu:=@beq_iff_eq
abbrev Qbw:=@Nat.mul_le_mul_right
abbrev Qbx:=@List.exists_cons_of_ne_nil
abbrev Qby:=@List.foldl_append
abbrev Qbz:=@of_decide_eq_true
abbrev Qb0:=@List.perm_append_comm
abbrev Qb1:=@Option.isSome_none
abbrev Qb2:=@Bool.true_and
abbrev Qb3:=@List.getElem?_set
abbrev Qb4:=@List.zipWith_append
abbrev Qb6:=@Nat.le_trans
abbrev Qb7:=@Array.getD_eq_getD_getElem?
abbrev Qb8:=@List.length_tail
abbrev Qb9:=@List.any_eq_true
abbrev Qca:=@List.append_inj'
abbrev Qcb:=@List.mem_nil_iff
abbrev Qcc:=@List.take_length
abbrev Qcd:=@List.set_cons_zero
abbrev Qce:=@Option.isSome_some
abbrev Qcf:=@List.getElem_append_right
abbrev Qcg:=@Array.size_push
abbrev Qch:=@List.map_nil
abbrev Qci:=@Option.mem_toList
abbrev Qcj:=@Bool.false_or
abbrev Qck:=@List.isEmpty_iff_length_eq_zero
abbrev Qcm:=@Option.getD_none
abbrev Qcn:=@List.getElem?_replicate
abbrev Qco:=@Int.mul_le_mul_of_nonneg_left
abbrev Qcp:=@Bool.eq_iff_iff
abbrev Qcq:=@Bool.or_eq_true
abbrev Qcr:=@List.getElem?_eq_none
abbrev Qcs:=@List.length_replicate
abbrev Qct:=@Nat.lt_trichotomy
abbrev Qcu:=@List.drop_eq_nil_iff
abbrev Qcv:=@List.length_take
abbrev Qcw:=@List.filterMap_cons
abbrev Qcx:=@List.getElem?_range
abbrev Qcy:=@Array.getElem?_replicate
abbrev Qcz:=@List.find?_cons
abbrev Qc0:=@Option.map_some
abbrev Qc1:=@List.zip_append
abbrev Qc2:=@Nat.eq_zero_or_pos
abbrev Qc3:=@Bool.eq_false_iff
abbrev Qc4:=@List.tail_drop
abbrev Qc5:=@Int.mul_le_mul
abbrev Qc6:=@List.map_set
abbrev Qc7:=@List.ext_getElem?
abbrev Qc8:=@List.Perm.append_right
abbrev Qc9:=@List.contains_iff_mem
abbrev Qda:=@List.mem_of_mem_erase
abbrev Qdb:=@List.getElem?_zipWith
abbrev Qdc:=@Array.mem_of_getElem?
abbrev Qdd:=@List.mem_reverse
abbrev Qde:=@Int.mul_assoc
abbrev Qdg:=@Nat.add_mul
abbrev Qdh:=@List.pairwise_append
abbrev Qdj:=@Option.map_none
abbrev Qdk:=@Array.length_toList
abbrev Qdl:=@List.map_eq_nil_iff
abbrev Qdm:=@List.getD_cons_zero
abbrev Qdn:=@List.getD_cons_succ
abbrev Qdo:=@List.map_map
abbrev Qdp:=@Array.any_eq_true'
abbrev Qdq:=@Int.mul_nonneg
abbrev Qdr:=@List.findIdx?_cons
abbrev Qds:=@List.find?_eq_none
abbrev Qdt:=@Bool.not_eq_true'
abbrev Qdu:=@Nat.le_succ_of_le
abbrev Qdv:=@Nat.lt_succ_of_lt
abbrev Qdw:=@List.length_range
abbrev Qdx:=@List.any_cons
abbrev Qdy:=@Nat.lt_irrefl
theorem naf {p:Prop} (h:p:=by
 go_wp2_with fail;refine Hma.mono ?_;intro e w1 hm;obtain⟨rfl,LB⟩:=tt Hr hm;have cj:=hid LB;clear hm LB;go_wp2;go_ret;exact⟨rfl,cj⟩):p:=h
theorem nag {p:Prop} (h:p:=by
 rw[CA,Bo] at e2;have:=e2.2;rw[CX,V,<-d7,<-e1] at this;unfold ON at this;rw[CA,Bo,CX] at this;have h2:=this.2;unfold F3;split at h2
 ·rename_i hp;rw[In hp];rw[Ge] at h2;exact h2
 ·rename_i hp;rw[I hp];exact h2):p:=h
end Go.Proofs.YtpdfifdlhpmofaaGreatDoor
