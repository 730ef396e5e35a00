import PyProof.Rows.All
import Wide.All
import OpenK.KMake
import OpenK.KDescr
import OpenK.KMore
import OpenK.KCall
import KE.KTryMore
import KE.KDictList
import KE.KDictOf
import Open.FastRun
import Wide.FinOn
import PySem.Challenge.RW_uf030002_06
set_option Elab.async false
set_option bootstrap.genMatcherCode false
set_option genSizeOf false
set_option genSizeOfSpec false
set_option linter.all false
set_option tactic.hygienic false
noncomputable section
namespace Mine.Internal
open PySem PySem.Spec PyProof.Rows List Nat
def CZ:=@List.length_append
def KK:=@List.length_map
def TW:=@List.getElem?_eq_getElem
def XL:=@if_pos
def XP:=@List.mem_append
def Xt:=@PySem.wpAny_bind
def YP:=@List.mem_singleton
def Ya:=@List.mem_map
def Yf:=@if_neg
def ac:=@decide_eq_true
def dV:=@decide_eq_false
def d4:=@List.mem_cons_self
def fR:=@List.getElem?_eq_some_iff
def kV:=@List.mem_cons_of_mem
def mi:=@PySem.Heap.get?_push_of_some
def mj:=@PySem.wpAny_mono
def ml:=@PySem.wpAny_pure
def mu:=@Nat.le_trans
def nP:=@List.length_singleton
def nf:=@List.mem_append_right
def on:=@List.append_assoc
def ra:=@Bool.and_eq_true_iff
def yc:=@Array.length_toList
def A0C:=@List.mem_of_getElem?
def A0D:=@List.map_append
def A0E:=@List.mem_cons
def A0F:=@List.getElem?_append_right
def A0G:=@PySem.wpAny_items_cons
def A0H:=@Int.natCast_nonneg
def A0I:=@Nat.le_refl
def A0J:=@List.mem_append_left
def A0K:=@List.not_mem_nil
def A0L:=@PySem.Heap.get?_push_size
def A0M:=@List.mem_range
def A0N:=@of_decide_eq_true
def A0O:=@Bool.false_ne_true
def A0P:=@List.length_cons
def A0Q:=@List.getElem?_map
def A0R:=@Int.toNat_natCast
def A0S:=@List.nodup_append
def A0T:=@List.all_eq_true
def A0U:=@congrArg
def A0V:=@List.length_take
def A0W:=@PySem.wpAny_execs_cons
def A0X:=@Int.toNat_of_nonneg
def A0Y:=@PySem.wpAny_Name
def A0Z:=@List.map_cons
def A0a:=@PySem.builtinLookup_eq_fast
def A0b:=@List.getElem?_append_left
def A0c:=@PySem.wpAny_items_nil
def A0d:=@Int.sub_nonneg_of_le
def A0e:=@Int.ofNat_le
def A0f:=@PySem.Heap.SameBut.update
def A0g:=@List.map_map
def A0h:=@PySem.wpAny_truthy_bool
def A0i:=@PySem.plainObj_wpAny_Assign_Attribute
def A0j:=@decide_eq_true_iff
def A0k:=@List.append_nil
def A0l:=@List.getElem?_eq_none_iff
def A0m:=@PySem.Heap.lt_size
def A0n:=@List.length_drop
def A0o:=@Nat.lt_of_le_of_lt
def A0p:=@PySem.wpAny_Call_NameR
def A0q:=@List.length_range
def A0r:=@Nat.le_of_lt
def A0s:=@Int.le_trans
def A0t:=@PySem.typeLookup_type
def A0u:=@List.mem_filter
def A0v:=@beq_self_eq_true
def A0w:=@List.getElem_mem
def A0x:=@List.getD_eq_getElem?_getD
def A0y:=@Int.zero_add
def A0z:=@Array.getElem?_toList
def A1A:=@List.mem_of_mem_take
def A1B:=@Int.le_refl
def A1C:=@List.nodup_cons
def A1D:=@Nat.ne_of_lt
def A1E:=@Classical.byContradiction
def A1F:=@List.mem_of_mem_drop
def A1G:=@Bool.eq_iff_iff
def A1H:=@Nat.lt_of_succ_lt_succ
def A1I:=@Int.not_lt
def A1J:=@List.any_eq_true
def A1K:=@Nat.min_eq_left
def A1L:=@Nat.add_le_add_left
def A1M:=@List.idxOf_lt_length_of_mem
def A1N:=@Array.getElem?_eq_some_iff
def A1O:=@List.take_append_drop
def A1P:=@List.mem_flatMap
def A1Q:=@Bool.and_eq_true
def A1R:=@List.length_eq_zero_iff
def A1S:=@PySem.Heap.get?_update_self
def A1T:=@Int.one_mul
def A1U:=@Int.neg_neg
def A1V:=@PySem.wpAny_loadName_local
def A1W:=@List.range_eq_range'
def A1X:=@Eq.trans
def A1Y:=@Bool.or_eq_false_iff
def A1Z:=@PySem.wpAny_holding
def A1a:=@PySem.callWith_type
def A1b:=@PySem.F.plainAttrs_list
def A1c:=@PyProof.Rows.le_int
def A1d:=@List.nodup_nil
def A1e:=@List.range'_succ
def A1f:=@PySem.Calls.callWith_builtin
def A1g:=@PySem.wpAny_Constant_int
def A1h:=@List.mem_zipIdx_iff_getElem?
def A1i:=@PySem.wpAny_storeName_local
def A1j:=@PySem.wpAny_field
def A1k:=@Nat.le_add_right
def A1l:=@beq_false_of_ne
def A1m:=@PySem.Within.cons
def A1n:=@Int.mul_one
def A1o:=@Int.le_of_lt
def A1p:=@PySem.wpAny_Assign_Name
def A1q:=@PySem.F.slot_tuple_iterator_next
def A1r:=@List.filterMap_cons
def A1s:=@List.replicate_succ
def A1t:=@List.length_nil
def A1u:=@List.foldl_cons
def A1v:=@Nat.zero_add
def A1w:=@Nat.sub_self
def A1x:=@Nat.zero_le
def A1y:=@PySem.wpAny_standAt
def A1z:=@PySem.tupleKind_room_in1
def A13:=@List.length_zipIdx
def A14:=@Nat.le_of_lt_succ
def A15:=@Nat.lt_of_lt_of_le
def A16:=@Int.ofNat_inj
def A17:=@Int.lt_of_le_of_lt
def A18:=@PySem.wpAny_dictEntries
def A19:=@PySem.wpAny_Return_some
def A2A:=@PySem.wpAny_Call_method
def A2B:=@List.find?_cons
def A2C:=@List.any_eq_false
def A2D:=@Bool.not_eq_true'
@[elab_as_elim] theorem zr {α:Sort u} {a b:α} {motive:α->Prop} (h:a=b) (p:motive b):motive a:=h▸p
theorem DI{P0 P1 P2:Prop}{G:Prop}(h:P0/\P1/\P2)(k:P0->P1->P2->G):G:=k h.1 h.2.1 h.2.2
theorem LL{P0 P1 P2 P3:Prop}{G:Prop}(h:P0/\P1/\P2/\P3)(k:P0->P1->P2->P3->G):G:=k h.1 h.2.1 h.2.2.1 h.2.2.2
theorem g6{P0 P1 P2 P3 P4:Prop}{G:Prop}(h:P0/\P1/\P2/\P3/\P4)(k:P0->P1->P2->P3->P4->G):G:=k h.1 h.2.1 h.2.2.1 h.2.2.2.1 h.2.2.2.2
theorem A08{P0 P1 P2 P3 P4 P5:Prop}{G:Prop}(h:P0/\P1/\P2/\P3/\P4/\P5)(k:P0->P1->P2->P3->P4->P5->G):G:=k h.1 h.2.1 h.2.2.1 h.2.2.2.1 h.2.2.2.2.1 h.2.2.2.2.2
theorem pt{P0 P1 P2 P3 P4 P5 P6:Prop}{G:Prop}(h:P0/\P1/\P2/\P3/\P4/\P5/\P6)(k:P0->P1->P2->P3->P4->P5->P6->G):G:=k h.1 h.2.1 h.2.2.1 h.2.2.2.1 h.2.2.2.2.1 h.2.2.2.2.2.1 h.2.2.2.2.2.2
theorem pr{P0 P1 P2 P3 P4 P5 P6 P7:Prop}{G:Prop}(h:P0/\P1/\P2/\P3/\P4/\P5/\P6/\P7)(k:P0->P1->P2->P3->P4->P5->P6->P7->G):G:=k h.1 h.2.1 h.2.2.1 h.2.2.2.1 h.2.2.2.2.1 h.2.2.2.2.2.1 h.2.2.2.2.2.2.1 h.2.2.2.2.2.2.2
theorem AE{A0:Sort _}{P0 P1:A0->Prop}{G:Prop}(h:∃a0,P0 a0/\P1 a0)(k:∀a0,P0 a0->P1 a0->G):G:=h.elim λa0 h=>k a0 h.1 h.2
theorem Ca{A0:Sort _}{P0 P1 P2:A0->Prop}{G:Prop}(h:∃a0,P0 a0/\P1 a0/\P2 a0)(k:∀a0,P0 a0->P1 a0->P2 a0->G):G:=h.elim λa0 h=>k a0 h.1 h.2.1 h.2.2
theorem DU{A0:Sort _}{P0 P1 P2 P3:A0->Prop}{G:Prop}(h:∃a0,P0 a0/\P1 a0/\P2 a0/\P3 a0)(k:∀a0,P0 a0->P1 a0->P2 a0->P3 a0->G):G:=h.elim λa0 h=>k a0 h.1 h.2.1 h.2.2.1 h.2.2.2
theorem pp{A0:Sort _}{P0 P1 P2 P3 P4:A0->Prop}{G:Prop}(h:∃a0,P0 a0/\P1 a0/\P2 a0/\P3 a0/\P4 a0)(k:∀a0,P0 a0->P1 a0->P2 a0->P3 a0->P4 a0->G):G:=h.elim λa0 h=>k a0 h.1 h.2.1 h.2.2.1 h.2.2.2.1 h.2.2.2.2
theorem HU{A0:Sort _}{A1:Sort _}{P0:A0->A1->Prop}{G:Prop}(h:∃a0 a1,P0 a0 a1)(k:∀a0 a1,P0 a0 a1->G):G:=h.elim λa0 h=>h.elim λa1 h=>k a0 a1 h
theorem Gr{A0:Sort _}{A1:Sort _}{P0 P1:A0->A1->Prop}{G:Prop}(h:∃a0 a1,P0 a0 a1/\P1 a0 a1)(k:∀a0 a1,P0 a0 a1->P1 a0 a1->G):G:=h.elim λa0 h=>h.elim λa1 h=>k a0 a1 h.1 h.2
theorem Gq{A0:Sort _}{A1:Sort _}{P0 P1 P2:A0->A1->Prop}{G:Prop}(h:∃a0 a1,P0 a0 a1/\P1 a0 a1/\P2 a0 a1)(k:∀a0 a1,P0 a0 a1->P1 a0 a1->P2 a0 a1->G):G:=h.elim λa0 h=>h.elim λa1 h=>k a0 a1 h.1 h.2.1 h.2.2
theorem pn{A0:Sort _}{A1:Sort _}{P0 P1 P2 P3 P4 P5 P6:A0->A1->Prop}{G:Prop}(h:∃a0 a1,P0 a0 a1/\P1 a0 a1/\P2 a0 a1/\P3 a0 a1/\P4 a0 a1/\P5 a0 a1/\P6 a0 a1)(k:∀a0 a1,P0 a0 a1->P1 a0 a1->P2 a0 a1->P3 a0 a1->P4 a0 a1->P5 a0 a1->P6 a0 a1->G):G:=h.elim λa0 h=>h.elim λa1 h=>k a0 a1 h.1 h.2.1 h.2.2.1 h.2.2.2.1 h.2.2.2.2.1 h.2.2.2.2.2.1 h.2.2.2.2.2.2
theorem pj{A0:Sort _}{A1:Sort _}{A2:Sort _}{P0:A0->A1->A2->Prop}{G:Prop}(h:∃a0 a1 a2,P0 a0 a1 a2)(k:∀a0 a1 a2,P0 a0 a1 a2->G):G:=h.elim λa0 h=>h.elim λa1 h=>h.elim λa2 h=>k a0 a1 a2 h
theorem pi{A0:Sort _}{A1:Sort _}{A2:Sort _}{P0 P1:A0->A1->A2->Prop}{G:Prop}(h:∃a0 a1 a2,P0 a0 a1 a2/\P1 a0 a1 a2)(k:∀a0 a1 a2,P0 a0 a1 a2->P1 a0 a1 a2->G):G:=h.elim λa0 h=>h.elim λa1 h=>h.elim λa2 h=>k a0 a1 a2 h.1 h.2
theorem WL{A0:Sort _}{A1:Sort _}{A2:Sort _}{P0 P1 P2 P3:A0->A1->A2->Prop}{G:Prop}(h:∃a0 a1 a2,P0 a0 a1 a2/\P1 a0 a1 a2/\P2 a0 a1 a2/\P3 a0 a1 a2)(k:∀a0 a1 a2,P0 a0 a1 a2->P1 a0 a1 a2->P2 a0 a1 a2->P3 a0 a1 a2->G):G:=h.elim λa0 h=>h.elim λa1 h=>h.elim λa2 h=>k a0 a1 a2 h.1 h.2.1 h.2.2.1 h.2.2.2
theorem A07{A0:Sort _}{A1:Sort _}{A2:Sort _}{A3:Sort _}{P0 P1 P2 P3 P4:A0->A1->A2->A3->Prop}{G:Prop}(h:∃a0 a1 a2 a3,P0 a0 a1 a2 a3/\P1 a0 a1 a2 a3/\P2 a0 a1 a2 a3/\P3 a0 a1 a2 a3/\P4 a0 a1 a2 a3)(k:∀a0 a1 a2 a3,P0 a0 a1 a2 a3->P1 a0 a1 a2 a3->P2 a0 a1 a2 a3->P3 a0 a1 a2 a3->P4 a0 a1 a2 a3->G):G:=h.elim λa0 h=>h.elim λa1 h=>h.elim λa2 h=>h.elim λa3 h=>k a0 a1 a2 a3 h.1 h.2.1 h.2.2.1 h.2.2.2.1 h.2.2.2.2
theorem ph{A0:Sort _}{A1:Sort _}{A2:Sort _}{A3:Sort _}{P0 P1 P2 P3 P4 P5 P6 P7:A0->A1->A2->A3->Prop}{G:Prop}(h:∃a0 a1 a2 a3,P0 a0 a1 a2 a3/\P1 a0 a1 a2 a3/\P2 a0 a1 a2 a3/\P3 a0 a1 a2 a3/\P4 a0 a1 a2 a3/\P5 a0 a1 a2 a3/\P6 a0 a1 a2 a3/\P7 a0 a1 a2 a3)(k:∀a0 a1 a2 a3,P0 a0 a1 a2 a3->P1 a0 a1 a2 a3->P2 a0 a1 a2 a3->P3 a0 a1 a2 a3->P4 a0 a1 a2 a3->P5 a0 a1 a2 a3->P6 a0 a1 a2 a3->P7 a0 a1 a2 a3->G):G:=h.elim λa0 h=>h.elim λa1 h=>h.elim λa2 h=>h.elim λa3 h=>k a0 a1 a2 a3 h.1 h.2.1 h.2.2.1 h.2.2.2.1 h.2.2.2.2.1 h.2.2.2.2.2.1 h.2.2.2.2.2.2.1 h.2.2.2.2.2.2.2
theorem pg{A0:Sort _}{A1:Sort _}{A2:Sort _}{A3:Sort _}{A4:Sort _}{P0:A0->A1->A2->A3->A4->Prop}{G:Prop}(h:∃a0 a1 a2 a3 a4,P0 a0 a1 a2 a3 a4)(k:∀a0 a1 a2 a3 a4,P0 a0 a1 a2 a3 a4->G):G:=h.elim λa0 h=>h.elim λa1 h=>h.elim λa2 h=>h.elim λa3 h=>h.elim λa4 h=>k a0 a1 a2 a3 a4 h
theorem A06{A0:Sort _}{A1:Sort _}{A2:Sort _}{A3:Sort _}{A4:Sort _}{P0 P1:A0->A1->A2->A3->A4->Prop}{G:Prop}(h:∃a0 a1 a2 a3 a4,P0 a0 a1 a2 a3 a4/\P1 a0 a1 a2 a3 a4)(k:∀a0 a1 a2 a3 a4,P0 a0 a1 a2 a3 a4->P1 a0 a1 a2 a3 a4->G):G:=h.elim λa0 h=>h.elim λa1 h=>h.elim λa2 h=>h.elim λa3 h=>h.elim λa4 h=>k a0 a1 a2 a3 a4 h.1 h.2
theorem pf{A0:Sort _}{A1:Sort _}{A2:Sort _}{A3:Sort _}{A4:Sort _}{P0 P1 P2 P3:A0->A1->A2->A3->A4->Prop}{G:Prop}(h:∃a0 a1 a2 a3 a4,P0 a0 a1 a2 a3 a4/\P1 a0 a1 a2 a3 a4/\P2 a0 a1 a2 a3 a4/\P3 a0 a1 a2 a3 a4)(k:∀a0 a1 a2 a3 a4,P0 a0 a1 a2 a3 a4->P1 a0 a1 a2 a3 a4->P2 a0 a1 a2 a3 a4->P3 a0 a1 a2 a3 a4->G):G:=h.elim λa0 h=>h.elim λa1 h=>h.elim λa2 h=>h.elim λa3 h=>h.elim λa4 h=>k a0 a1 a2 a3 a4 h.1 h.2.1 h.2.2.1 h.2.2.2
theorem WK{A0:Sort _}{A1:Sort _}{A2:Sort _}{A3:Sort _}{A4:Sort _}{P0 P1 P2 P3 P4:A0->A1->A2->A3->A4->Prop}{G:Prop}(h:∃a0 a1 a2 a3 a4,P0 a0 a1 a2 a3 a4/\P1 a0 a1 a2 a3 a4/\P2 a0 a1 a2 a3 a4/\P3 a0 a1 a2 a3 a4/\P4 a0 a1 a2 a3 a4)(k:∀a0 a1 a2 a3 a4,P0 a0 a1 a2 a3 a4->P1 a0 a1 a2 a3 a4->P2 a0 a1 a2 a3 a4->P3 a0 a1 a2 a3 a4->P4 a0 a1 a2 a3 a4->G):G:=h.elim λa0 h=>h.elim λa1 h=>h.elim λa2 h=>h.elim λa3 h=>h.elim λa4 h=>k a0 a1 a2 a3 a4 h.1 h.2.1 h.2.2.1 h.2.2.2.1 h.2.2.2.2
@[elab_as_elim] theorem CD {α:Type u} {motive:α->Prop} {x d:α} (e:some x=some d) (p:motive x):motive d:=by cases e;exact p
section
variable {α:Sort u}{β:Sort v}{γ:Sort w}{motive:β->Prop}{d:β}{P:α->Prop}{f:α->β}
@[elab_as_elim] theorem zsa (h:∃y,P y/\f y=d) (H:∀y,P y->motive (f y)):motive d:=by obtain⟨y,a,rfl⟩:=h;exact H y a
@[elab_as_elim] theorem zsb (h:∃y,P y/\d=f y) (H:∀y,P y->motive (f y)):motive d:=by obtain⟨y,a,rfl⟩:=h;exact H y a
@[elab_as_elim] theorem zsc (h:∃y,d=f y/\P y) (H:∀y,P y->motive (f y)):motive d:=by obtain⟨y,rfl,a⟩:=h;exact H y a
@[elab_as_elim] theorem zsd {f:α->γ->β} (h:∃y z,d=f y z) (H:∀y z,motive (f y z)):motive d:=by obtain⟨y,z,rfl⟩:=h;exact H y z
end
section
variable {motive:Expr->Type}
@[elab_as_elim] noncomputable def vN (e:Expr) (d:motive e) (k:∀x p,motive (.Name x p)):motive e:=if h:e.ctorIdx=23 then Expr.Name.elim e h k else d
@[elab_as_elim] noncomputable def vC (e:Expr) (d:motive e) (k:∀f a b p,motive (.Call f a b p)):motive e:=if h:e.ctorIdx=16 then Expr.Call.elim e h k else d
@[elab_as_elim] noncomputable def vT (e:Expr) (d:motive e) (k:∀l m p,motive (.Tuple l m p)):motive e:=if h:e.ctorIdx=25 then Expr.Tuple.elim e h k else d
@[elab_as_elim] noncomputable def vL (e:Expr) (d:motive e) (k:∀l p,motive (.List l p)):motive e:=if h:e.ctorIdx=24 then Expr.List.elim e h k else d
@[elab_as_elim] noncomputable def vK (e:Expr) (d:motive e) (k:∀c m p,motive (.Constant c m p)):motive e:=if h:e.ctorIdx=19 then Expr.Constant.elim e h k else d
@[elab_as_elim] noncomputable def vA (e:Expr) (d:motive e) (k:∀o m p,motive (.Attribute o m p)):motive e:=if h:e.ctorIdx=20 then Expr.Attribute.elim e h k else d
@[elab_as_elim] noncomputable def vS (e:Expr) (d:motive e) (k:∀v i p,motive (.Subscript v i p)):motive e:=if h:e.ctorIdx=21 then Expr.Subscript.elim e h k else d
@[elab_as_elim] noncomputable def vX (e:Expr) (d:motive e) (k:∀a b c p,motive (.Slice a b c p)):motive e:=if h:e.ctorIdx=26 then Expr.Slice.elim e h k else d
@[elab_as_elim] noncomputable def vG (e:Expr) (d:motive e) (k:∀e l s p,motive (.ListComp e l s p)):motive e:=if h:e.ctorIdx=8 then Expr.ListComp.elim e h k else d
@[elab_as_elim] noncomputable def vB (e:Expr) (d:motive e) (k:∀l o r p,motive (.BinOp l o r p)):motive e:=if h:e.ctorIdx=2 then Expr.BinOp.elim e h k else d
@[elab_as_elim] noncomputable def vU (e:Expr) (d:motive e) (k:∀o x p,motive (.UnaryOp o x p)):motive e:=if h:e.ctorIdx=3 then Expr.UnaryOp.elim e h k else d
@[elab_as_elim] noncomputable def vI (e:Expr) (d:motive e) (k:∀c a b p,motive (.IfExp c a b p)):motive e:=if h:e.ctorIdx=5 then Expr.IfExp.elim e h k else d
@[elab_as_elim] noncomputable def vO (e:Expr) (d:motive e) (k:∀o l p,motive (.BoolOp o l p)):motive e:=if h:e.ctorIdx=0 then Expr.BoolOp.elim e h k else d
@[elab_as_elim] noncomputable def vD (e:Expr) (d:motive e) (k:∀a b p,motive (.Dict a b p)):motive e:=if h:e.ctorIdx=6 then Expr.Dict.elim e h k else d
@[elab_as_elim] noncomputable def vM (e:Expr) (d:motive e) (k:∀l o r p,motive (.Compare l o r p)):motive e:=if h:e.ctorIdx=15 then Expr.Compare.elim e h k else d
end
section
variable {motive:Stmt->Type}
@[elab_as_elim] noncomputable def sA (e:Stmt) (d:motive e) (k:∀l v p,motive (.Assign l v p)):motive e:=if h:e.ctorIdx=5 then Stmt.Assign.elim e h k else d
@[elab_as_elim] noncomputable def sE (e:Stmt) (d:motive e) (k:∀e p,motive (.Expr e p)):motive e:=if h:e.ctorIdx=24 then Stmt.Expr.elim e h k else d
@[elab_as_elim] noncomputable def sR (e:Stmt) (d:motive e) (k:∀a b p,motive (.Raise a b p)):motive e:=if h:e.ctorIdx=16 then Stmt.Raise.elim e h k else d
@[elab_as_elim] noncomputable def sIf (e:Stmt) (d:motive e) (k:∀c a b p,motive (.If c a b p)):motive e:=if h:e.ctorIdx=12 then Stmt.If.elim e h k else d
@[elab_as_elim] noncomputable def sF (e:Stmt) (d:motive e) (k:∀x i a b p,motive (.For x i a b p)):motive e:=if h:e.ctorIdx=9 then Stmt.For.elim e h k else d
@[elab_as_elim] noncomputable def sW (e:Stmt) (d:motive e) (k:∀c a b p,motive (.While c a b p)):motive e:=if h:e.ctorIdx=11 then Stmt.While.elim e h k else d
@[elab_as_elim] noncomputable def sT (e:Stmt) (d:motive e) (k:∀a h b c p,motive (.Try a h b c p)):motive e:=if h:e.ctorIdx=17 then Stmt.Try.elim e h k else d
@[elab_as_elim] noncomputable def sQ (e:Stmt) (d:motive e) (k:∀e p,motive (.Return e p)):motive e:=if h:e.ctorIdx=3 then Stmt.Return.elim e h k else d
end
section
variable {α:Type}{motive:List α->Type}
@[elab_as_elim] noncomputable def Rx (l:List α) (d:motive l) (k:motive []):motive l:=if h:l.ctorIdx=0 then List.nil.elim l h k else d
@[elab_as_elim] noncomputable def WY (l:List α) (d:motive l) (k:∀a r,motive (a::r)):motive l:=if h:l.ctorIdx=1 then List.cons.elim l h k else d
@[elab_as_elim] def Ky (l:List α) (d:motive l) (k:∀a,motive [a]):motive l:=WY (motive:=λl=>motive l->motive l) l id (λa r d=>Rx (motive:=λr=>motive (a::r)->motive (a::r)) r id (λ_=>k a) d) d
@[elab_as_elim] def ag (l:List α) (d:motive l) (k:∀a b,motive [a,b]):motive l:=WY (motive:=λl=>motive l->motive l) l id (λa r d=>Ky (motive:=λr=>motive (a::r)->motive (a::r)) r id (λb _=>k a b) d) d
@[elab_as_elim] def uV (l:List α) (d:motive l) (k:∀a b c,motive [a,b,c]):motive l:=WY (motive:=λl=>motive l->motive l) l id (λa r d=>ag (motive:=λr=>motive (a::r)->motive (a::r)) r id (λb c _=>k a b c) d) d
@[elab_as_elim] def zo (l:List α) (d:motive l) (k:∀a b c e,motive [a,b,c,e]):motive l:=WY (motive:=λl=>motive l->motive l) l id (λa r d=>uV (motive:=λr=>motive (a::r)->motive (a::r)) r id (λb c e _=>k a b c e) d) d
end
section
variable {α:Type}{motive:Option α->Type}
@[elab_as_elim] noncomputable def ls (o:Option α) (d:motive o) (k:motive none):motive o:=if h:o.ctorIdx=0 then Option.none.elim o h k else d
@[elab_as_elim] noncomputable def Vj (o:Option α) (d:motive o) (k:∀a,motive (some a)):motive o:=if h:o.ctorIdx=1 then Option.some.elim o h k else d
end
section
variable {motive:Const->Type}
@[elab_as_elim] noncomputable def vcI (c:Const) (d:motive c) (k:∀i,motive (.int i)):motive c:=if h:c.ctorIdx=2 then Const.int.elim c h k else d
@[elab_as_elim] noncomputable def zq (c:Const) (d:motive c) (k:∀s,motive (.str s)):motive c:=if h:c.ctorIdx=5 then Const.str.elim c h k else d
end
section
variable {motive:Expr->Type}
@[elab_as_elim] def Ry (e:Expr) (d:motive e) (k:∀g gp es cp,motive (.Call (.Name g gp) es [] cp)):motive e:=vC (motive:=λe=>motive e->motive e) e id (λf a b p d=>Rx (motive:=λb=>motive (.Call f a b p)->motive (.Call f a b p)) b id (λd=>vN (motive:=λf=>motive (.Call f a [] p)->motive (.Call f a [] p)) f id (λg gp _=>k g gp a p) d) d) d
@[elab_as_elim] def lv (e:Expr) (d:motive e) (k:∀o m ap es cp,motive (.Call (.Attribute o m ap) es [] cp)):motive e:=vC (motive:=λe=>motive e->motive e) e id (λf a b p d=>Rx (motive:=λb=>motive (.Call f a b p)->motive (.Call f a b p)) b id (λd=>vA (motive:=λf=>motive (.Call f a [] p)->motive (.Call f a [] p)) f id (λo m ap _=>k o m ap a p) d) d) d
end
@[elab_as_elim] def zt {motive:List Comprehension->Type} (l:List Comprehension) (d:motive l) (k:∀a b l,motive [⟨a,b,l,0⟩]):motive l:=Ky (motive:=λl=>motive l->motive l) l id (λc=>Comprehension.casesOn c λa b l i d=>if h:i=0 then Eq.rec (motive:=λi _=>motive [⟨a,b,l,i⟩]) (k a b l) h.symm else d) d
def oH{α β:Type}(o:Option α)(k:∀a,o=some a->Option β):Option β:=Vj (motive:=λo=>(∀a,o=some a->Option β)->Option β) o (λ_=>none) (λa k=>k a rfl) k
noncomputable def iF{β:Type}(p:Prop)[Decidable p](k:p->Option β):Option β:=if h:p then k h else none
section
set_option maxRecDepth 100000
open PySem.W PySem.Calls Builtin Builtin.ObjectAttr Builtin.Getset_descriptor
noncomputable def Gj(K:Frag)(C:Addr):Bool:=
 (clsIn K C).isSome&&mroIn K C (.type "object")==some true&&mroIn K C (.type "BaseException")==some true &&
 findIn K (.ref C) "__getattribute__" == some (some (.builtin "BaseException.__getattribute__"))&&findIn K (.ref C) "__getattr__" == some none&&findIn K (.ref C) "__class__" == some (some (.builtin "object.__class__")) &&
 specialIn K (.builtin "object.__class__") "__get__" == some (some (.builtin "getset_descriptor.__get__"))&&takesIn K (.builtin "object.__class__")==some true
section
variable {prog:Program}{w:World}{A:Around}{E:Value->Shared->Prop}{s:Shared}{K:Frag}{x C D:Addr}{ox:Obj}
set_option tactic.hygienic true in
theorem Q2(X:K.In h)(e:(clsIn K C).isSome=true):Looks M h (isType (.ref C)) true:=by
 unfold clsIn at e;split at e
 ·rename_i c d cd sl ho;intro A Q E s k q;unfold isType loadHead;exact Xt (wpAny_loadPart (k _ _ (X _ _ ho)) (ml q))
 ·cases e
theorem RX (L0:Looks (model prog w) s.heap (typeOf (.ref x)) (.ref C)) (X:K.In s.heap) (hm:mroIn K C (.type "object")=some true)
  (h:R (.ok (.ret (.ref C))) s):codeAny (model prog w) A (.call (.builtin "getset_descriptor.__get__") ⟨[.builtin "object.__class__",.ref x,tp],[]⟩) R s:=by
 obtain⟨hh,g,dr,t,os⟩:=s;have L1:=looks_mroIn (M:=model prog w) X hm;refine codeAny_call_builtin KF.slot_gs.plain KF.entry_gs (KF.slot_gs.check _ _ _ _ _ _ _ _ KF.type_class (KF.args_gs _ _ _) ?_);unfold Builtin.«getset_descriptor.__get__» descrGet;refine zr (dga_obj _ _ _) ?_;refine Xt (ml ?_);unfold descrGetter descrCheckInstance descrNameAndClass isInstance;simp only[KF.owner_class]
 repeat lk
 refine⟨Code.quiet_builtin _ (by decide +kernel),codeAny_builtin KF.entry_class ?_⟩;unfold Builtin.«object.__class__» shownTypeOf
 repeat lk
 exact h
theorem Ua (L0:Looks (model prog w) s.heap (typeOf (.ref x)) (.ref C)) (L2:Looks (model prog w) s.heap (find (.ref x) (.ref C) "__class__") (.bind (.builtin "getset_descriptor.__get__") (.builtin "object.__class__")))
  (X:K.In s.heap) (e5:mroIn K C (.type "object")=some true) (h:Q (.done (.ret (.ref C))) s):wpAny (model prog w) A (Builtin.«object.__getattribute__» ⟨[.ref x,.str "__class__" tk],[]⟩) Q E s:=by
 obtain⟨hh,g,d,t,os⟩:=s;unfold Builtin.«object.__getattribute__»;refine Xt (wpAny_of_eq (a:=(Value.ref x,[Value.str "__class__" tk])) (by rfl) ?_);dsimp only;refine Xt (wpAny_of_eq (a:=("__class__" : Str)) (by rfl) ?_);refine Xt (L0.at (Xt (L2.at ?_)));show wpAny _ _ (holding [Value.builtin "object.__class__"] (call (.builtin "getset_descriptor.__get__") [.builtin "object.__class__",.ref x,.ref C]) >>= ret) _ _ _;exact Xt (A1Z (wpAny_call (RX (s:=⟨hh,g,d,t,os⟩) L0 X e5 (ml h))))
theorem Xu (L0:Looks (model prog w) s.heap (typeOf (.ref x)) (.ref C)) (L2:Looks (model prog w) s.heap (find (.ref x) (.ref C) "__class__") (.bind (.builtin "getset_descriptor.__get__") (.builtin "object.__class__")))
  (X:K.In s.heap) (e5:mroIn K C (.type "object")=some true) (fm:mroIn K C (.type "BaseException")=some true) (h:R (.ok (.ret (.ref C))) s):codeAny (model prog w) A (.call (.builtin "BaseException.__getattribute__") ⟨[.ref x,.str "__class__" tk],[]⟩) R s:=by
 have hck:∀(A:Around)(Q:Unit->Shared->Prop)(E:Value->Shared->Prop),Q () s->wpAny (model prog w) A (checkBuiltinCall "BaseException.__getattribute__" ⟨[.ref x,.str "__class__" tk],[]⟩) Q E s:=λA Q E q=>check_slot (i := "BaseException.__getattribute__") (rest:=[.str "__class__" tk]) (kw:=[]) (by decide +kernel:builtinKind "BaseException.__getattribute__" = some .slot) (by decide +kernel:splitId "BaseException.__getattribute__" = some ("BaseException","__getattribute__")) (L0.andThen (looks_mroIn X fm):Looks (model prog w) s.heap (isInstance (.ref x) (.type "BaseException")) true) (F.args_bexc_ga (.ref x) (.str "__class__" tk)) q
 exact codeAny_call_builtin F.excAttr_ValueError.ga.plain F.entry_bexc_ga (hck _ _ _ (Ua L0 L2 X e5 h))
theorem U8(hx:s.heap.get? x=some ox)(hc:ox.cls=.ref C)(X:K.In s.heap)(e:Gj K C=true)(h:Q (some (.ref C)) { s with toks:=s.toks+1 }):
  wpAny (model prog w) A (getAttr? (.ref x) "__class__") Q E s:=by
 unfold Gj at e;simp only[Bool.and_eq_true,beq_iff_eq] at e;obtain⟨⟨⟨⟨⟨⟨⟨e1,e5⟩,fm⟩,e6⟩,e7⟩,e8⟩,e9⟩,pR⟩:=e;obtain⟨hh,g,d,t,os⟩:=s;have L0:Looks (model prog w) hh (typeOf (.ref x)) (.ref C):=hc▸(Looks.ld hx).andThen .now;have L2:Looks (model prog w) hh (find (.ref x) (.ref C) "__class__") (.bind (.builtin "getset_descriptor.__get__") (.builtin "object.__class__")):=
  (looks_findIn X e8).andThen ((looks_specialIn X e9).andThen ((show Looks (model prog w) hh (dataDescriptor? (some (.builtin "object.__class__")) (some (.builtin "getset_descriptor.__get__"))) (some (.builtin "getset_descriptor.__get__",.builtin "object.__class__")) from(looks_takesIn X pR).andThen .now).andThen (Looks.tag .now)))
 unfold getAttr? getAttrBy? getAttrBy;refine Xt (wpAny_mkText (Xt (wpAny_attempt (A1Z (Xt (L0.at (Xt ((looks_findIn (M:=model prog w) X e6).at ?_))))))));dsimp only;refine zr (Yf (show ¬((onTheHeap (Value.ref C)&&Value.builtin "BaseException.__getattribute__" == Value.builtin "object.__getattribute__")=true) from λq=>absurd (ra.mp q).2 (by decide +kernel))) ?_;unfold getAttrByItsOwn hookBefore;refine zr (XL (show onTheHeap (Value.ref C)=true from rfl)) ?_;refine Xt ((looks_findIn (M:=model prog w) X e7).at (Xt (wpAny_attempt (A1Z ?_))));unfold callGetattribute;refine zr (Yf (by decide)) ?_;unfold boundAndCalled;refine zr (F.excAttr_ValueError.ga.bind (.ref x)) ?_;refine Xt (ml (wpAny_call (Xu (s:=⟨hh,g,d,t+1,os⟩) L0 L2 X e5 fm ?_)));show wpAny _ _ (handedOut (.ref C)) _ _ _;exact zr (handedOut_of rfl) (ml (ml h))
theorem UG(e:Gj K C=true):KitX K (.ref x) (.ref C) (λh=>∃o,h.get? x=some o/\o.cls=.ref C) where
 ty:=λ_ _ _ ⟨_,hx,hc⟩=>hc▸(Looks.ld hx).andThen .now
 it:=λJ J X J=>Q2 X (by unfold Gj at e;simp only[Bool.and_eq_true] at e;exact e.1.1.1.1.1.1.1)
 ne:=λh tp dd its n sl X htp=>by
  refine Bool.eq_false_iff.mpr λq=>?_
  have e2:=Value.ref.inj (beq_iff_eq.mp q);subst e2;have e1:(clsIn K C).isSome=true:=by unfold Gj at e;simp only[Bool.and_eq_true] at e;exact e.1.1.1.1.1.1.1
  unfold clsIn at e1;split at e1
  ·rename_i ho;have z:=(X _ _ ho).symm.trans htp;cases z
  ·cases e1
 ca:=λX ⟨_,hx,hc⟩ k=>U8 hx hc X e k
end
noncomputable def BD:List Str:=["NoDrawing","NoStretch","NoWay","NotFalling","TooMany"]
def aU(K:Frag)(xa:Nat->Addr)(R:Addr)(c:Nat):Bool:=
 Gj K (xa c)&&(List.range 5).all (λj=>kitOne K (.ref (xa c)) (.ref (xa j))==some (c==j))&&kitOne K (.ref (xa c)) (.type "ValueError")==some true&&exmOne K (.ref (xa c)) (.ref R)==some true
noncomputable def refOf(mg:Str->Option Value)(x:Str):Addr:=match mg x with
 |some (.ref a)=>a
 |_=>0
noncomputable def ZP(v:Option Value):Bool:=match v with
 |some (.ref _)=>true
 |_=>false
theorem bJ{mg:Str->Option Value}(h:ZP (mg x)=true):mg x=some (.ref (refOf mg x)):=by
 unfold refOf;cases q:mg x with
 |none=>rw[q] at h;cases h
 |some v=>
  rw[q] at h;cases v with
  |ref a=>rfl
  |_=>cases h
noncomputable def xaOf(mg:Str->Option Value)(c:Nat):Addr:=refOf mg (BD.getD c "")
structure XcAt(mg:Str->Option Value)(h:Heap):Prop where
 ref:∀x∈("RopeError" : Str)::BD,mg x=some (.ref (refOf mg x))
 ok:∃K:Frag,K.In h/\∀c∈List.range 5,aU K (xaOf mg) (refOf mg "RopeError") c=true
noncomputable def lL(h:Heap)(a:Addr):Option ClassData:=(h.get? a).bind λo=>match o.data with|.cls cd=>some cd|_=>none
noncomputable def uk:Value->Option Addr
 |.ref a=>some a
 |_=>none
def cT(h:Heap)(Cs:List Addr):Frag:=
 ((Cs.flatMap λC=>match lL h C with|some cd=>cd.mro.filterMap uk|none=>[]).flatMap λa=>match lL h a with|some cd=>[a,cd.ns]|none=>[]).filterMap λa=>(h.get? a).map λo=>(a,o)
def xcAt(s:Shared):Bool:=
 (("RopeError" : Str)::BD).all (λx=>ZP (s.heap.nsMap mainGlobals x))&&(List.range 5).all (aU (cT s.heap (BD.map (refOf (s.heap.nsMap mainGlobals)))) (xaOf (s.heap.nsMap mainGlobals)) (refOf (s.heap.nsMap mainGlobals) "RopeError"))
theorem RA(h:Heap)(as:List Addr):Frag.In (as.filterMap λa=>(h.get? a).map λo=>(a,o)) h:=by
 intro a o e
 induction as with
 |nil=>cases e
 |cons b as ih=>
  rw[A1r] at e;cases q:h.get? b with
  |none=>rw[q] at e;exact ih e
  |some ob=>
   rw[q] at e;simp only[Option.map_some,lookup_cons] at e;split at e
   ·rename_i hb;refine CD e ?_;exact zr (eq_of_beq hb) q
   ·exact ih e
theorem xc_of(s:Shared)(h:xcAt s=true):XcAt (s.heap.nsMap mainGlobals) s.heap:=
 have h:=ra.1 h
 ⟨λx hx=>bJ (A0T.1 h.1 x hx),_,RA _ _,A0T.1 h.2⟩
theorem XcAt.keeps(x:XcAt mg h)(k:∀b o,h.get? b=some o->h'.get? b=some o):XcAt mg h':=let ⟨r,K,hK,q⟩:=x;⟨r,K,hK.keeps k,q⟩
end
def view2:Program:={ PySem.Challenge.pw_uf030002_06 with main:={ PySem.Challenge.pw_uf030002_06.main with body:=PySem.Challenge.pw_uf030002_06.main.body.filter λs=>sA s true λl v p=>Ky l true λa=>vN a true λx _=>vK v true λc _ _=>zq c true λ_=>!(x==("__name__" : Str)) } }
noncomputable def prog:Program:=PySem.Challenge.pw_uf030002_06
noncomputable def AQ:ClsRec:=((plainsOf view2 (PySem.W.looseW view2 [])).find? λc=>c.name==("Arc" : Str)).getD ⟨"",none,[],[],0,[]⟩
section
open PySem.W
def arcSeen(s:Shared):Option PlainShape×Bool:=(s.heap.plainShapeAt AQ,s.heap.isNs mainGlobals)
noncomputable def arcGood(_:World):Option PlainShape×Bool:=(some AQ.plainShape,true)
set_option maxRecDepth 100000 in
set_option maxHeartbeats 8000000 in
theorem left3:LeftO PySem.Challenge.rw_uf030002_06.row.prog view2 [] (λs=>xlAt view2 [] s&&recOk (RowW.records PySem.Challenge.rw_uf030002_06.row.toRowW) s&&xcAt s) arcSeen arcGood 4000:=by
 intro w;unfold openEnds fencedOpening topFrom;rw[Fast.te10274390034422433532,Fast.te14289696077712309145,Fast.te14082659384304107361,Fast.te14364793385576792824,Fast.te1435165496053646825,Fast.te4187177175401517315]
 kernel_rfl
set_option maxRecDepth 100000 in
theorem wsaid0:PySem.Challenge.rw_uf030002_06.wellSaid=true:=by kernel_rfl
end
namespace L
set_option genCtorIdx false
set_option genInjectivity false
noncomputable def d:List Int->(Nat->Int)->Int
 |[],_=>0
 |c::cs,r=>c*r 0+d cs λi=>r (i+1)
noncomputable def add:List Int->List Int->List Int
 |[],b=>b
 |a,[]=>a
 |x::a,y::b=>(x+y)::add a b
noncomputable def mul(k:Int):List Int->List Int
 |[]=>[]
 |x::a=>k*x::mul k a
noncomputable def unit:Nat->List Int
 |0=>[1]
 |n+1=>0::unit n
theorem dR(a b c e:Int):a+b+(c+e)=a+c+(b+e):=by rw[Int.add_assoc,Int.add_left_comm b,<-Int.add_assoc]
theorem lC(a b:List Int)(r:Nat->Int):d (add a b) r=d a r+d b r:=by
 induction a generalizing b r with
 |nil=>exact(A0y _).symm
 |cons x a ih=>
  cases b with
  |nil=>exact(Int.add_zero _).symm
  |cons y b=>show(x+y)*r 0+d (add a b) _=_+_;rw[ih,Int.add_mul];exact dR ..
theorem lB(k:Int)(a:List Int)(r:Nat->Int):d (mul k a) r=k*d a r:=by
 induction a generalizing r with
 |nil=>exact(Int.mul_zero k).symm
 |cons x a ih=>show k*x*r 0+d (mul k a) _=k*(_+_);rw[ih,Int.mul_add,Int.mul_assoc]
theorem OT(n:Nat)(r:Nat->Int):d (unit n) r=r n:=by
 induction n generalizing r with
 |zero=>show 1*r 0+0=r 0;rw[A1T,Int.add_zero]
 |succ n ih=>show 0*r 0+d (unit n) _=_;rw[ih,Int.zero_mul,A0y]
structure C where
 k:Int
 c:List Int
noncomputable def C.ev(r:Nat->Int)(x:C):Int:=x.k+d x.c r
noncomputable def C.add(x y:C):C:=⟨x.k+y.k,L.add x.c y.c⟩
noncomputable def C.mul(k:Int)(x:C):C:=⟨k*x.k,L.mul k x.c⟩
theorem C.HT(r:Nat->Int)(x y:C):(x.add y).ev r=x.ev r+y.ev r:=by
 show x.k+y.k+d (L.add x.c y.c) r=_;rw[lC];exact dR ..
theorem C.ev_mul(r:Nat->Int)(k:Int)(x:C):(x.mul k).ev r=k*x.ev r:=by
 show k*x.k+d (L.mul k x.c) r=_;rw[lB,<-Int.mul_add];rfl
noncomputable def C.sub(x y:C):C:=x.add (y.mul (-1))
theorem C.DH(r:Nat->Int)(x y:C):(x.sub y).ev r=x.ev r-y.ev r:=by
 show(x.add (y.mul (-1))).ev r=_;rw[C.HT,C.ev_mul,Int.neg_mul,A1T];rfl
noncomputable def C.over(x y:C):C:=(x.sub y).add ⟨-1,[]⟩
theorem C.Ou(r:Nat->Int)(x y:C):(x.over y).ev r=x.ev r-y.ev r-1:=by
 show((x.sub y).add ⟨-1,[]⟩).ev r=_;rw[C.HT,C.DH];rfl
noncomputable def C.hd(x:C):Int:=x.c.headD 0
noncomputable def C.tl(x:C):C:=⟨x.k,x.c.tail⟩
theorem C.SC(r:Nat->Int)(x:C):x.ev r=x.hd*r 0+x.tl.ev λi=>r (i+1):=by
 obtain⟨k,c⟩:=x;cases c with
 |nil=>show k+0=0*r 0+(k+0);rw[Int.zero_mul,A0y]
 |cons a c=>exact Int.add_left_comm ..
noncomputable def xo(p n:C):C:=(p.tl.mul (-n.hd)).add (n.tl.mul p.hd)
theorem c7(hp:0<p.hd)(hn:n.hd<0)(h1:0<=p.ev r)(h2:0<=n.ev r):0<=(xo p n).ev λi=>r (i+1):=by
 have e:(xo p n).ev (λi=>r (i+1))=-n.hd*p.ev r+p.hd*n.ev r:=by
  show((p.tl.mul (-n.hd)).add (n.tl.mul p.hd)).ev _=_;rw[C.HT,C.ev_mul,C.ev_mul,C.SC r p,C.SC r n];generalize p.tl.ev _=a;generalize n.tl.ev _=b;generalize p.hd=u;generalize n.hd=v;generalize r 0=z;rw[Int.mul_add,Int.mul_add,dR,<-Int.mul_assoc,<-Int.mul_assoc,<-Int.add_mul,Int.neg_mul v u,Int.mul_comm u v,Int.add_left_neg,Int.zero_mul,A0y]
 rw[e];exact Int.add_nonneg (Int.mul_nonneg (Int.neg_nonneg_of_nonpos (A1o hn)) h1) (Int.mul_nonneg (A1o hp) h2)
def elim(cs:List C):List C:=
 (cs.filter λx=>x.hd==0).map C.tl++(cs.filter λx=>decide (0<x.hd)).flatMap λp=>(cs.filter λx=>decide (x.hd<0)).map (xo p)
theorem X2(h:∀x∈cs,0<=x.ev r):∀x∈elim cs,0<=x.ev λi=>r (i+1):=by
 intro x hx;rcases XP.mp hx with hx|hx
 ·obtain⟨y,hy,rfl⟩:=Ya.mp hx;obtain⟨hy,e⟩:=A0u.mp hy;have:=h y hy
  rwa [C.SC,eq_of_beq e,Int.zero_mul,A0y] at this
 ·obtain⟨p,hp,hx⟩:=A1P.mp hx;obtain⟨n,hn,rfl⟩:=Ya.mp hx;obtain⟨hp,e⟩:=A0u.mp hp;obtain⟨hn,e'⟩:=A0u.mp hn;exact c7 (A0N e) (A0N e') (h p hp) (h n hn)
noncomputable def Hc:Nat->List C->Bool
 |0,cs=>cs.any λx=>x.c.isEmpty&&decide (x.k<0)
 |n+1,cs=>Hc n cs||Hc n (elim cs)
theorem Qa(e:Hc n cs=true)(h:∀x∈cs,0<=x.ev r):False:=by
 induction n generalizing cs r with
 |zero=>
  obtain⟨x,hx,e⟩:=A1J.mp e;obtain⟨k,c⟩:=x;cases c with
  |nil=>exact absurd (Int.add_zero k▸h _ hx) (Int.not_le.mpr (A0N e))
  |cons a c=>cases e
 |succ n ih=>
  rcases Bool.or_eq_true_iff.mp e with e|e
  ·exact ih e h
  ·exact ih e (X2 h)
noncomputable def val(l:List Nat)(m:List Int)(i:Nat):Int:=if i%2=0 then(l.getD (i/2) 0:Nat) else m.getD (i/2) 0
abbrev Br:=List (List C×C)
noncomputable def Br.two(f:C->C->Br)(a b:Br):Br:=a.flatMap λp=>b.flatMap λq=>(f p.2 q.2).map λt=>(t.1++(p.1++q.1),t.2)
def Br.is(r:Nat->Int)(a:Br)(z:Int):Prop:=∃p∈a,(∀c∈p.1,0<=c.ev r)/\p.2.ev r=z
theorem Br.one(h:c.ev r=z):Br.is r [([],c)] z:=⟨_,YP.mpr rfl,λc hc=>absurd hc A0K,h⟩
theorem Br.Do(ha:a.is r x)(hb:b.is r y)(h:∀p q:C,p.ev r=x->q.ev r=y->(f p q).is r z):(Br.two f a b).is r z:=by
 obtain⟨p,hp,h1,h2⟩:=ha;obtain⟨q,hq,h3,h4⟩:=hb;obtain⟨t,ht,h5,h6⟩:=h p.2 q.2 h2 h4;refine⟨_,A1P.mpr ⟨p,hp,A1P.mpr ⟨q,hq,Ya.mpr ⟨t,ht,rfl⟩⟩⟩,λc hc=>?_,h6⟩;rcases XP.mp hc with hc|hc
 ·exact h5 c hc
 ·rcases XP.mp hc with hc|hc
  ·exact h1 c hc
  ·exact h3 c hc
inductive T where
 |v (i:Nat)|c (n:Nat)|a (x y:T)|s (x y:T)|m (k:Nat) (x:T)|mn (x y:T)|mx (x y:T)
noncomputable def T.val(l:List Nat):T->Nat
 |v i=>l.getD i 0
 |c n=>n
 |a x y=>x.val l+y.val l
 |s x y=>x.val l-y.val l
 |m k x=>k*x.val l
 |mn x y=>min (x.val l) (y.val l)
 |mx x y=>max (x.val l) (y.val l)
noncomputable def T.br:T->Br
 |v i=>[([],⟨0,unit (2*i)⟩)]
 |c n=>[([],⟨n,[]⟩)]
 |a x y=>Br.two (λp q=>[([],p.add q)]) x.br y.br
 |s x y=>Br.two (λp q=>[([p.sub q],p.sub q),([q.over p],⟨0,[]⟩)]) x.br y.br
 |m k x=>Br.two (λp J=>[([],p.mul k)]) x.br x.br
 |mn x y=>Br.two (λp q=>[([q.sub p],p),([p.sub q],q)]) x.br y.br
 |mx x y=>Br.two (λp q=>[([q.sub p],q),([p.sub q],p)]) x.br y.br
theorem Br.pick{p q u w:C}[Decidable s](h1:s->0<=p.ev r/\u.ev r=z)(h2:¬s->0<=q.ev r/\w.ev r=z):Br.is r [([p],u),([q],w)] z:=by
 by_cases h:s
 ·exact⟨_,d4,λc hc=>by rw[YP.mp hc];exact(h1 h).1,(h1 h).2⟩
 ·exact⟨_,kV _ (YP.mpr rfl),λc hc=>by rw[YP.mp hc];exact(h2 h).1,(h2 h).2⟩
theorem T.CY(l:List Nat)(k:List Int)(t:T):t.br.is (L.val l k) (t.val l):=by
 induction t with
 |v i=>refine Br.one ?_;show 0+d _ _=_;rw[OT,A0y];unfold L.val;rw[XL (mul_mod_right 2 i),Nat.mul_div_cancel_left i (by decide)];rfl
 |c n=>exact Br.one (Int.add_zero _)
 |a x y hx hy=>exact Br.Do hx hy λp q h1 h2=>Br.one (by rw[C.HT,h1,h2];rfl)
 |s x y hx hy=>exact Br.Do hx hy λp q h1 h2=>Br.pick (s:=y.val l<=x.val l) (λh=>by rw[C.DH,h1,h2];exact⟨A0d (A0e.mpr h),(Int.ofNat_sub h).symm⟩) (λh=>by rw[C.Ou,h1,h2];have:=Nat.not_le.mp h;exact⟨A0d (show(1:Int)<=_ from Int.sub_pos_of_lt (Int.ofNat_lt.2 this)),by show(0+0:Int)=((x.val l-y.val l:Nat):Int);rw[Nat.sub_eq_zero_of_le (A0r this)];rfl⟩)
 |m k x hx=>exact Br.Do hx hx λp q h1 h2=>Br.one (by rw[C.ev_mul,h1];rfl)
 |mn x y hx hy=>exact Br.Do hx hy λp q h1 h2=>Br.pick (s:=x.val l<=y.val l) (λh=>by rw[C.DH,h1,h2];exact⟨A0d (A0e.mpr h),A0U Int.ofNat (A1K h).symm⟩) (λh=>by rw[C.DH,h1,h2];have:=A0r (Nat.not_le.mp h);exact⟨A0d (A0e.mpr this),A0U Int.ofNat (Nat.min_eq_right this).symm⟩)
 |mx x y hx hy=>exact Br.Do hx hy λp q h1 h2=>Br.pick (s:=x.val l<=y.val l) (λh=>by rw[C.DH,h1,h2];exact⟨A0d (A0e.mpr h),A0U Int.ofNat (Nat.max_eq_right h).symm⟩) (λh=>by rw[C.DH,h1,h2];have:=A0r (Nat.not_le.mp h);exact⟨A0d (A0e.mpr this),A0U Int.ofNat (Nat.max_eq_left this).symm⟩)
inductive Z where
 |v (i:Nat)|n (t:T)|c (n:Int)|a (x y:Z)|s (x y:Z)|g (x:Z)|m (k:Int) (x:Z)
noncomputable def Z.val(l:List Nat)(k:List Int):Z->Int
 |v i=>k.getD i 0
 |.n t=>(t.val l:Int)
 |c j=>j
 |a x y=>x.val l k+y.val l k
 |s x y=>x.val l k-y.val l k
 |g x=>- x.val l k
 |m j x=>j*x.val l k
noncomputable def Z.br:Z->Br
 |v i=>[([],⟨0,unit (2*i+1)⟩)]
 |.n t=>t.br
 |c j=>[([],⟨j,[]⟩)]
 |a x y=>Br.two (λp q=>[([],p.add q)]) x.br y.br
 |s x y=>Br.two (λp q=>[([],p.sub q)]) x.br y.br
 |g x=>Br.two (λp J=>[([],p.mul (-1))]) x.br x.br
 |m k x=>Br.two (λp J=>[([],p.mul k)]) x.br x.br
theorem Z.CY(l:List Nat)(k:List Int)(t:Z):t.br.is (L.val l k) (t.val l k):=by
 induction t with
 |v i=>refine Br.one ?_;show 0+d _ _=_;rw[OT,A0y];unfold L.val;rw[Yf (by rw[mul_add_mod];decide),show(2*i+1)/2=i from mul_add_div (by decide) i 1];rfl
 |n t=>exact T.CY l k t
 |c n=>exact Br.one (Int.add_zero _)
 |a x y hx hy=>exact Br.Do hx hy λp q h1 h2=>Br.one (by rw[C.HT,h1,h2];rfl)
 |s x y hx hy=>exact Br.Do hx hy λp q h1 h2=>Br.one (by rw[C.DH,h1,h2];rfl)
 |g x hx=>exact Br.Do hx hx λp q h1 h2=>Br.one (by rw[C.ev_mul,h1,Int.neg_mul,A1T];rfl)
 |m k x hx=>exact Br.Do hx hx λp q h1 h2=>Br.one (by rw[C.ev_mul,h1];rfl)
inductive F where
 |le (x y:T)|lt (x y:T)|eq (x y:T)|zle (x y:Z)|zlt (x y:Z)|zeq (x y:Z)
 |no (f:F)|an (f g:F)|o (f g:F)|im (f g:F)|ff
def F.holds(l:List Nat)(k:List Int):F->Prop
 |le x y=>x.val l<=y.val l
 |lt x y=>x.val l<y.val l
 |eq x y=>x.val l=y.val l
 |zle x y=>x.val l k<=y.val l k
 |zlt x y=>x.val l k<y.val l k
 |zeq x y=>x.val l k=y.val l k
 |no f=>¬f.holds l k
 |an f g=>f.holds l k/\g.holds l k
 |o f g=>f.holds l k\/g.holds l k
 |im f g=>f.holds l k->g.holds l k
 |ff=>False
abbrev Dn:=List (List C)
def Dn.is(r:Nat->Int)(a:Dn):Prop:=∃p∈a,∀c∈p,0<=c.ev r
noncomputable def Br.cmp(a b:Br)(f:C->C->Dn):Dn:=a.flatMap λp=>b.flatMap λq=>(f p.2 q.2).map λt=>t++(p.1++q.1)
theorem Br.GG(ha:a.is r x)(hb:b.is r y)(h:∀p q:C,p.ev r=x->q.ev r=y->(f p q).is r):(Br.cmp a b f).is r:=by
 obtain⟨p,hp,h1,h2⟩:=ha;obtain⟨q,hq,h3,h4⟩:=hb;obtain⟨t,ht,h5⟩:=h p.2 q.2 h2 h4;refine⟨_,A1P.mpr ⟨p,hp,A1P.mpr ⟨q,hq,Ya.mpr ⟨t,ht,rfl⟩⟩⟩,λc hc=>?_⟩;rcases XP.mp hc with hc|hc
 ·exact h5 c hc
 ·rcases XP.mp hc with hc|hc
  ·exact h1 c hc
  ·exact h3 c hc
noncomputable def Dn.and(a b:Dn):Dn:=a.flatMap λp=>b.map λq=>p++q
theorem Dn.NM{a b:Dn}(ha:a.is r)(hb:b.is r):(a.and b).is r:=by
 obtain⟨p,hp,h1⟩:=ha;obtain⟨q,hq,h2⟩:=hb;exact⟨_,A1P.mpr ⟨p,hp,Ya.mpr ⟨q,hq,rfl⟩⟩,λc hc=>(XP.mp hc).elim (h1 c) (h2 c)⟩
theorem Dn.left(ha:a.is r):Dn.is r (a++b):=let ⟨p,hp,h⟩:=ha;⟨p,A0J _ hp,h⟩
theorem Dn.right(hb:b.is r):Dn.is r (a++b):=let ⟨p,hp,h⟩:=hb;⟨p,nf _ hp,h⟩
theorem Dn.one(h:0<=c.ev r):Dn.is r [[c]]:=⟨_,YP.mpr rfl,λx hx=>by rw[YP.mp hx];exact h⟩
theorem Dn.cons(h:0<=c.ev r)(q:Dn.is r [p]):Dn.is r [c::p]:=by
 obtain⟨t,ht,q⟩:=q;rw[YP.mp ht] at q;exact⟨_,YP.mpr rfl,λx hx=>(A0E.mp hx).elim (λe=>e▸h) (q x)⟩
noncomputable def le(b:Bool)(p q:C):Dn:=if b then[[q.sub p]] else[[p.over q]]
noncomputable def eq(b:Bool)(p q:C):Dn:=if b then[[q.sub p,p.sub q]] else[[p.over q]]++[[q.over p]]
def So(b:Bool)(s:Prop):Prop:=if b then s else ¬s
theorem JM(h:So b (x<=y))(h1:p.ev r=x)(h2:q.ev r=y):(le b p q).is r:=by
 subst h1 h2;cases b with
 |true=>exact Dn.one (by rw[C.DH];exact A0d h)
 |false=>exact Dn.one (by rw[C.Ou];exact A0d (Int.le_sub_left_of_add_le (Int.not_le.mp h)))
theorem ZK(h:So b (x<y))(h1:p.ev r=x)(h2:q.ev r=y):(le (!b) q p).is r:=by
 cases b with
 |true=>exact JM (b:=false) (Int.not_le.mpr h) h2 h1
 |false=>exact JM (b:=true) (A1I.mp h) h2 h1
theorem ZX(h:So b (x=y))(h1:p.ev r=x)(h2:q.ev r=y):(eq b p q).is r:=by
 cases b with
 |true=>exact Dn.cons (by rw[C.DH,h1,h2];exact A0d (Int.le_of_eq h)) (Dn.one (by rw[C.DH,h1,h2];exact A0d (Int.le_of_eq (Eq.symm h))))
 |false=>
  rcases Int.lt_or_gt_of_ne h with q|q
  ·exact Dn.right (JM (b:=false) (Int.not_le.mpr q) h2 h1)
  ·exact Dn.left (JM (b:=false) (Int.not_le.mpr q) h1 h2)
noncomputable def F.br:F->Bool->Dn
 |le x y,b=>x.br.cmp y.br (L.le b)
 |lt x y,b=>x.br.cmp y.br λp q=>L.le (!b) q p
 |eq x y,b=>x.br.cmp y.br (L.eq b)
 |zle x y,b=>x.br.cmp y.br (L.le b)
 |zlt x y,b=>x.br.cmp y.br λp q=>L.le (!b) q p
 |zeq x y,b=>x.br.cmp y.br (L.eq b)
 |no f,b=>f.br (!b)
 |an f g,b=>if b then(f.br b).and (g.br b) else f.br b++g.br b
 |o f g,b=>if b then f.br b++g.br b else(f.br b).and (g.br b)
 |im f g,b=>if b then f.br (!b)++g.br b else(f.br (!b)).and (g.br b)
 |ff,b=>if b then[] else[[]]
theorem So.of(e:s↔t)(h:So b s):So b t:=by
 cases b with
 |true=>exact e.mp h
 |false=>exact λq=>h (e.mpr q)
theorem So.not(h:So b (¬s)):So (!b) s:=by
 cases b with
 |true=>exact h
 |false=>exact Classical.not_not.mp h
theorem F.CY(l:List Nat)(k:List Int)(f:F):∀b,So b (f.holds l k)->(f.br b).is (L.val l k):=by
 induction f with
 |le x y=>exact λb h=>Br.GG (T.CY l k x) (T.CY l k y) λp q=>JM (So.of A0e.symm h)
 |lt x y=>exact λb h=>Br.GG (T.CY l k x) (T.CY l k y) λp q=>ZK (So.of Int.ofNat_lt.symm h)
 |eq x y=>exact λb h=>Br.GG (T.CY l k x) (T.CY l k y) λp q=>ZX (So.of A16.symm h)
 |zle x y=>exact λb h=>Br.GG (Z.CY l k x) (Z.CY l k y) λp q=>JM h
 |zlt x y=>exact λb h=>Br.GG (Z.CY l k x) (Z.CY l k y) λp q=>ZK h
 |zeq x y=>exact λb h=>Br.GG (Z.CY l k x) (Z.CY l k y) λp q=>ZX h
 |no f hf=>exact λb h=>hf _ (So.not h)
 |an f g hf hg=>
  intro b h;cases b with
  |true=>exact Dn.NM (hf true h.1) (hg true h.2)
  |false=>
   rcases Classical.not_and_iff_not_or_not.mp h with h|h
   ·exact Dn.left (hf false h)
   ·exact Dn.right (hg false h)
 |o f g hf hg=>
  intro b h;cases b with
  |true=>exact h.elim (λh=>Dn.left (hf true h)) λh=>Dn.right (hg true h)
  |false=>exact Dn.NM (hf false λq=>h (.inl q)) (hg false λq=>h (.inr q))
 |im f g hf hg=>
  intro b h;cases b with
  |true=>
   by_cases q:f.holds l k
   ·exact Dn.right (hg true (h q))
   ·exact Dn.left (hf false q)
  |false=>exact Dn.NM (hf true (Classical.not_not.mp λq=>h λz=>absurd z q)) (hg false λq=>h λJ=>q)
 |ff=>
  intro b h;cases b with
  |true=>exact absurd h id
  |false=>exact⟨_,YP.mpr rfl,λc hc=>by cases hc⟩
noncomputable def pos:Nat->List C
 |0=>[]
 |n+1=>⟨0,unit (2*n)⟩::pos n
theorem bO(l:List Nat)(k:List Int)(n:Nat):∀c∈pos n,0<=c.ev (val l k):=by
 induction n with
 |zero=>exact λc hc=>by cases hc
 |succ n ih=>
  intro c hc;rcases A0E.mp hc with rfl|hc
  ·show 0<=0+d _ _;rw[OT,A0y];unfold val;rw[XL (mul_mod_right 2 n)];exact A0H _
  ·exact ih c hc
theorem run(f:F)(n:Nat)(e:((f.br false).all λp=>Hc (2*n) (pos n++p))=true)(l:List Nat)(k:List Int):f.holds l k:=
 Classical.not_not.mp λh=>by
  obtain⟨p,hp,h⟩:=F.CY l k f false h;exact Qa (A0T.mp e p hp) λc hc=>(XP.mp hc).elim (bO l k n c) (h c)
@[reducible] noncomputable def sl (r:Nat):Nat:=Nat.mod (Nat.div r 64) (Nat.pow 2 (Nat.mul 3 (Nat.mod r 64)))
@[reducible] noncomputable def sr (r:Nat):Nat:=Nat.div (Nat.div r 64) (Nat.pow 2 (Nat.mul 3 (Nat.mod r 64)))
@[reducible] noncomputable def zi (n:Nat):Int:=Bool.rec (Int.negSucc (Nat.div n 2)) (Int.ofNat (Nat.div n 2)) (Nat.beq (Nat.mod n 2) 0)
@[reducible] noncomputable def T.of (f n:Nat):T:=Nat.rec (motive:=λ_=>Nat->T) (λ_=>c 0) (λf o n=>Bool.rec (Bool.rec (Bool.rec (Bool.rec (Bool.rec (Bool.rec (mx (o (sl (Nat.div n 8))) (o (sr (Nat.div n 8)))) (mn (o (sl (Nat.div n 8))) (o (sr (Nat.div n 8)))) (Nat.beq (Nat.mod n 8) 5)) (m (sl (Nat.div n 8)) (o (sr (Nat.div n 8)))) (Nat.beq (Nat.mod n 8) 4)) (s (o (sl (Nat.div n 8))) (o (sr (Nat.div n 8)))) (Nat.beq (Nat.mod n 8) 3)) (a (o (sl (Nat.div n 8))) (o (sr (Nat.div n 8)))) (Nat.beq (Nat.mod n 8) 2)) (c (Nat.div n 8)) (Nat.beq (Nat.mod n 8) 1)) (v (Nat.div n 8)) (Nat.beq (Nat.mod n 8) 0)) f n
@[reducible] noncomputable def Z.of (f n:Nat):Z:=Nat.rec (motive:=λ_=>Nat->Z) (λ_=>c 0) (λf o n=>Bool.rec (Bool.rec (Bool.rec (Bool.rec (Bool.rec (Bool.rec (g (o (Nat.div n 8))) (.n (T.of f (Nat.div n 8))) (Nat.beq (Nat.mod n 8) 5)) (m (zi (sl (Nat.div n 8))) (o (sr (Nat.div n 8)))) (Nat.beq (Nat.mod n 8) 4)) (s (o (sl (Nat.div n 8))) (o (sr (Nat.div n 8)))) (Nat.beq (Nat.mod n 8) 3)) (a (o (sl (Nat.div n 8))) (o (sr (Nat.div n 8)))) (Nat.beq (Nat.mod n 8) 2)) (c (zi (Nat.div n 8))) (Nat.beq (Nat.mod n 8) 1)) (v (Nat.div n 8)) (Nat.beq (Nat.mod n 8) 0)) f n
@[reducible] noncomputable def F.of (f n:Nat):F:=Nat.rec (motive:=λ_=>Nat->F) (λ_=>ff) (λf o n=>Bool.rec (Bool.rec (Bool.rec (Bool.rec (Bool.rec (Bool.rec (Bool.rec (Bool.rec (Bool.rec (Bool.rec (ff) (im (o (sl (Nat.div n 16))) (o (sr (Nat.div n 16)))) (Nat.beq (Nat.mod n 16) 9)) (.o (o (sl (Nat.div n 16))) (o (sr (Nat.div n 16)))) (Nat.beq (Nat.mod n 16) 8)) (an (o (sl (Nat.div n 16))) (o (sr (Nat.div n 16)))) (Nat.beq (Nat.mod n 16) 7)) (no (o (Nat.div n 16))) (Nat.beq (Nat.mod n 16) 6)) (zeq (Z.of f (sl (Nat.div n 16))) (Z.of f (sr (Nat.div n 16)))) (Nat.beq (Nat.mod n 16) 5)) (zlt (Z.of f (sl (Nat.div n 16))) (Z.of f (sr (Nat.div n 16)))) (Nat.beq (Nat.mod n 16) 4)) (zle (Z.of f (sl (Nat.div n 16))) (Z.of f (sr (Nat.div n 16)))) (Nat.beq (Nat.mod n 16) 3)) (eq (T.of f (sl (Nat.div n 16))) (T.of f (sr (Nat.div n 16)))) (Nat.beq (Nat.mod n 16) 2)) (lt (T.of f (sl (Nat.div n 16))) (T.of f (sr (Nat.div n 16)))) (Nat.beq (Nat.mod n 16) 1)) (le (T.of f (sl (Nat.div n 16))) (T.of f (sr (Nat.div n 16)))) (Nat.beq (Nat.mod n 16) 0)) f n
def ck(m n:Nat):Bool:=((F.of 30 n).br false).all λp=>Hc (2*m) (pos m++p)
end L
section
variable {a b c d e f:Nat}{x y z:Int}{n:Nat}
abbrev A00(n:Nat):Prop:=(L.F.of 30 n).holds [] []
theorem Xv(h:L.ck 0 n=true):Internal.A00 n:=L.run _ _ h _ _
abbrev A01(x:Int)(n:Nat):Prop:=(L.F.of 30 n).holds [] [x]
theorem Cz(h:L.ck 1 n=true):Internal.A01 x n:=L.run _ _ h _ _
abbrev A02(x y:Int)(n:Nat):Prop:=(L.F.of 30 n).holds [] [x,y]
theorem Il(h:L.ck 2 n=true):Internal.A02 x y n:=L.run _ _ h _ _
abbrev A03(x y z:Int)(n:Nat):Prop:=(L.F.of 30 n).holds [] [x,y,z]
theorem ku(h:L.ck 3 n=true):Internal.A03 x y z n:=L.run _ _ h _ _
abbrev A10(a:Nat)(n:Nat):Prop:=(L.F.of 30 n).holds [a] []
theorem Ac(h:L.ck 1 n=true):Internal.A10 a n:=L.run _ _ h _ _
abbrev A11(a:Nat)(x:Int)(n:Nat):Prop:=(L.F.of 30 n).holds [a] [x]
theorem N5(h:L.ck 1 n=true):Internal.A11 a x n:=L.run _ _ h _ _
abbrev A12(a:Nat)(x y:Int)(n:Nat):Prop:=(L.F.of 30 n).holds [a] [x,y]
theorem ZU(h:L.ck 2 n=true):Internal.A12 a x y n:=L.run _ _ h _ _
abbrev A20(a b:Nat)(n:Nat):Prop:=(L.F.of 30 n).holds [a,b] []
theorem AT(h:L.ck 2 n=true):Internal.A20 a b n:=L.run _ _ h _ _
abbrev A21(a b:Nat)(x:Int)(n:Nat):Prop:=(L.F.of 30 n).holds [a,b] [x]
theorem ZT(h:L.ck 2 n=true):Internal.A21 a b x n:=L.run _ _ h _ _
abbrev A22(a b:Nat)(x y:Int)(n:Nat):Prop:=(L.F.of 30 n).holds [a,b] [x,y]
theorem g22(h:L.ck 2 n=true):Internal.A22 a b x y n:=L.run _ _ h _ _
abbrev A30(a b c:Nat)(n:Nat):Prop:=(L.F.of 30 n).holds [a,b,c] []
theorem Az(h:L.ck 3 n=true):Internal.A30 a b c n:=L.run _ _ h _ _
abbrev A31(a b c:Nat)(x:Int)(n:Nat):Prop:=(L.F.of 30 n).holds [a,b,c] [x]
theorem mU(h:L.ck 3 n=true):Internal.A31 a b c x n:=L.run _ _ h _ _
abbrev A40(a b c d:Nat)(n:Nat):Prop:=(L.F.of 30 n).holds [a,b,c,d] []
theorem M6(h:L.ck 4 n=true):Internal.A40 a b c d n:=L.run _ _ h _ _
abbrev A41(a b c d:Nat)(x:Int)(n:Nat):Prop:=(L.F.of 30 n).holds [a,b,c,d] [x]
theorem g41(h:L.ck 4 n=true):Internal.A41 a b c d x n:=L.run _ _ h _ _
abbrev A50(a b c d e:Nat)(n:Nat):Prop:=(L.F.of 30 n).holds [a,b,c,d,e] []
theorem ZS(h:L.ck 5 n=true):Internal.A50 a b c d e n:=L.run _ _ h _ _
abbrev A60(a b c d e f:Nat)(n:Nat):Prop:=(L.F.of 30 n).holds [a,b,c,d,e,f] []
theorem yC(h:L.ck 6 n=true):Internal.A60 a b c d e f n:=L.run _ _ h _ _
end
abbrev LH(l:List Nat)(k:List Int)(f:L.F):Prop:=f.holds l k
section
variable {a0 a1 a2 a3 a4 a5 a b c d e f:Nat}{z0 z1 z2 z3 x y z:Int}
theorem o1:((a0+1)+a1)=((a0+a1)+1):=@AT a0 a1 168327711891850832034 rfl
theorem o2:((a0+1)<=a0)->False:=@Ac a0 176632709257 rfl
theorem o3:A20 a b 80621473208161765925753716905:=AT rfl
theorem o4:A20 a b 4684079311479636057:=AT rfl
theorem o5:A20 a b 1131157525627993:=AT rfl
theorem o6:A20 a b 4633082790731056217:=AT rfl
theorem o7:A20 a b 47274297555482051737:=AT rfl
theorem o8:A30 a b c 366452164073090066911426774265:=Az rfl
theorem o9:A20 a b 47274567902498390105:=AT rfl
theorem o10:A10 a 0:=Ac rfl
theorem o11:A20 a b 5658987394306555108994843737:=AT rfl
theorem xX:(a0<a1)->(a1-a0)=((a1-(a0+1))+1):=@AT a0 a1 5657812986956788408818599001 rfl
theorem o13:A20 a b 156775745537:=AT rfl
theorem o14:A20 a b 9007478966665385:=AT rfl
theorem o15:A30 a b c 10213633420757185209003147353:=Az rfl
theorem o16:A20 a b 2460372109417600260243545:=AT rfl
theorem o17:A30 a b c 639473743693609771411288622329:=Az rfl
theorem o18:A20 a b 1126072252892313:=AT rfl
theorem o19:A10 a 1040:=Ac rfl
theorem o20:A20 a b 1143835732214873:=AT rfl
theorem o21:(a0<=a1)->(a0+(a1-a0))=a1:=@AT a0 a1 4684077937090101337 rfl
theorem o22:A20 a b 168336675110640461986:=AT rfl
theorem o23:A10 a 612402470:=Ac rfl
theorem o24:A20 a b 4805414309434394494121:=AT rfl
theorem o31:A20 a b 645140962233176109354812703833:=AT rfl
theorem o35:A20 a b 1352603881374057133241995727948833065:=AT rfl
theorem o38:A30 a b c 886026925195760269614011140109674279961498700308635945:=Az rfl
theorem o39:A20 a b 10077684224663023710284810409:=AT rfl
theorem o43:A20 a b 4415972966489:=AT rfl
theorem o45:A20 a b 37472272447503942825:=AT rfl
theorem uu:A20 a b 300338393090051097769:=AT rfl
theorem o48:A10 a 1284576451264601:=Ac rfl
theorem o50:A10 a 82332003067790630:=Ac rfl
theorem o51:A20 a b 80621473873667619041868514393:=AT rfl
theorem o53:(a0<=a1)->a0<=(a1+1):=@AT a0 a1 10274455133618265 rfl
theorem o54:(a0<=a1)->(a1<(a0+1))->a1=a0:=@AT a0 a1 303496214580425159344217 rfl
theorem ut:(a0<=a1)->a0<=a1:=@AT a0 a1 274886295641 rfl
theorem o61:A10 a 75531558:=Ac rfl
theorem o71:A10 a 2595341709078464658:=Ac rfl
theorem o72:A10 a 5341323383148675161:=Ac rfl
theorem o74:A20 a b 11541645270975577:=AT rfl
theorem o76:A30 a b c 2765292793463757694567715520398820900953:=Az rfl
theorem o77:A10 a 172739950955529883385945:=Ac rfl
theorem o79:A10 a 551048740953:=Ac rfl
theorem o81:A30 a b c 594928890128945382569:=Az rfl
theorem o82:A30 a b c 304373618630533842089:=Az rfl
theorem o83:A30 a b c 37788733956411264882889:=Az rfl
theorem o84:A20 a b 70731670530258:=AT rfl
theorem dl:A20 a b 9008578478294185:=AT rfl
theorem o86:A20 a b 1125938580424857:=AT rfl
theorem o87:A30 a b c 42192506106491136705645274407634009:=Az rfl
theorem ur:A20 a b 274919851097:=AT rfl
theorem o89:A10 a 534530:=Ac rfl
theorem o90:A30 a b c 1180754314426249644121:=Az rfl
theorem o91:A30 a b c 18155724947409033:=Az rfl
theorem o92:A30 a b c 644038988643452453049732169817:=Az rfl
theorem o93:A30 a b c 158787910880538859130383800505:=Az rfl
theorem o94:A30 a b c 18155724947327113:=Az rfl
theorem o95:A20 a b 2657556411663187728569:=AT rfl
theorem o96:A20 a b 1130611504842905:=AT rfl
theorem o97:A30 a b c 1267827406975998860306522572969:=Az rfl
theorem o98:A30 a b c 296347270677906065657:=Az rfl
theorem o99:A20 a b 1267255945988185:=AT rfl
theorem xm:A30 a b c 147882458534025140329:=Az rfl
theorem kS:A10 a 37766161:=Ac rfl
theorem kR:A30 a b c 639473743693645800208307587321:=Az rfl
theorem bg:A20 a b 274953406553:=AT rfl
theorem W5:A20 a b 336673503944642659417:=AT rfl
theorem xl:A30 a b c 158478425869708707745128028345:=Az rfl
theorem xk:A30 a b c 5106844263492310837349056601:=Az rfl
theorem xj:A20 a b 295194208436331037945:=AT rfl
theorem xi:A30 a b c 147594219361780406377:=Az rfl
theorem kQ:A30 a b c 366452164073126095708445739257:=Az rfl
theorem xh:A20 a b 378320456220833482841:=AT rfl
theorem xg:A40 a b c d 27911296278442418250558804542359801:=M6 rfl
theorem bf:A10 a 34948022361:=Ac rfl
theorem xe:A30 a b c 2706487607133671073092339329214185561:=Az rfl
theorem xd:A20 a b 35332145846377:=AT rfl
theorem W4:A30 a b c 732904292001118503009945389145:=Az rfl
theorem xb:A30 a b c 19948467280419409503453273:=Az rfl
theorem xZ:A30 a b c 1180699989721384748121:=Az rfl
theorem xY:A30 a b c 19962434895279823657428322457:=Az rfl
theorem kP:A20 a b 1126213458331801:=AT rfl
theorem xW:A20 a b 144157283069200553:=AT rfl
theorem xV:A20 a b 43094204331437932452025:=AT rfl
theorem xU:A20 a b 154690131024:=AT rfl
theorem xT:A20 a b 177336378023298559976238378094296326816937:=AT rfl
theorem kO:A20 a b 4617405957627004073:=AT rfl
theorem xS:A20 a b 378158351681132169385:=AT rfl
theorem xR:A20 a b 300338393123891709097:=AT rfl
theorem bd:A20 a b 4199504:=AT rfl
theorem kN:A30 a b c 4836147157898792471103641:=Az rfl
theorem xQ:A30 a b c 9916215271358101577239970985:=Az rfl
theorem xP:A30 a b c 12022863604263739309987758758293466295343209:=Az rfl
theorem xO:A30 a b c 438573103992073129934344725681974391087841135882567704496650380723369:=Az rfl
theorem xM:A20 a b 640740508444991873730217065:=AT rfl
theorem J1:A10 a 5477926486:=Ac rfl
theorem xL:A10 a 43823499094:=Ac rfl
theorem xK:A10 a 170482802742762045557543081:=Ac rfl
theorem kM:A10 a 5477926470:=Ac rfl
theorem xJ:A10 a 19381650729061:=Ac rfl
theorem xI:A20 a b 18969099290999722710297:=AT rfl
theorem xH:A10 a 2738968692:=Ac rfl
theorem xG:A10 a 1240425646708869:=Ac rfl
theorem xF:A10 a 10910899375536793353359005897:=Ac rfl
theorem xE:LH [a0] [z0,z1,z2] (.im (.o (.an (.zeq (.v 0) (.a (.n (.v 0)) (.c 1))) (.zeq (.v 1) (.c 1))) (.an (.zeq (.v 0) (.g (.a (.n (.v 0)) (.c 1)))) (.zeq (.v 1) (.c (-1))))) (.im (.o (.an (.zeq (.v 0) (.a (.n (.v 0)) (.c 1))) (.zeq (.v 2) (.c 1))) (.an (.zeq (.v 0) (.g (.a (.n (.v 0)) (.c 1)))) (.zeq (.v 2) (.c (-1))))) (.zeq (.v 1) (.v 2)))):=L.run _ 3 (by decide +kernel) _ _
theorem xD:A20 a b 2411518173200726:=AT rfl
theorem xC:A20 a b 1390771888329531727649602559641877:=AT rfl
theorem kL:A20 a b 306225472341081:=AT rfl
theorem xB:A10 a 45255270385845:=Ac rfl
theorem xA:A10 a 46354782014645:=Ac rfl
theorem kK:A20 a b 17597065090169:=AT rfl
theorem wz:A30 a b c 6509732126090752024642836234329:=Az rfl
theorem Ng:A20 a b 162282139125998035411732574754735401:=AT rfl
theorem kJ:(a0<=a1)->(a1<=a0)->a0=a1:=@AT a0 a1 9225906414151532633 rfl
theorem W3:A20 a b 2535301219373379964238708245801:=AT rfl
theorem bc:A10 a 36893488422381944937:=Ac rfl
theorem Qi:A10 a 591479828:=Ac rfl
theorem kH:A30 a b c 11183232546174744230101161:=Az rfl
theorem kG:A30 a b c 366452164073054038114407809273:=Az rfl
theorem wx:A10 a 75710087494:=Ac rfl
theorem ww:A20 a b 151134625926245818430554409:=AT rfl
theorem wv:A20 a b 5070602438746759889980856729689:=AT rfl
theorem wu:A20 a b 5070602443432807375562756587657:=AT rfl
theorem kF:A20 a b 18895312314704884503833:=AT rfl
theorem wt:A10 a 213318:=Ac rfl
theorem wq:A20 a b 140912046899289:=AT rfl
theorem Ta:A10 a 2361183259035398307977:=Ac rfl
theorem W2:A10 a 591479827:=Ac rfl
theorem kE:A01 x 70087872585:=Cz rfl
theorem kC:A10 a 42003:=Ac rfl
theorem wp:A01 x 4375728201:=Cz rfl
theorem kB:A01 x 69081256009:=Cz rfl
theorem kA:A10 a 151115729369711732850825:=Ac rfl
theorem wo:A01 x 13587096266081324105:=Cz rfl
theorem wn:A01 x 1361160062485193476956087821960299417849:=Cz rfl
theorem wm:A01 x 1267679093844069048351009542393:=Cz rfl
theorem wl:A10 a 72067868446245781609:=Ac rfl
theorem wk:A20 a b 9007478966666409:=AT rfl
theorem wj:A20 a b 304950078008966857897:=AT rfl
theorem wi:A10 a 72067868445977346153:=Ac rfl
theorem ba:A30 a b c 1182988099807065671769:=Az rfl
theorem wh:A10 a 36893488422340002921:=Ac rfl
theorem bZ:A10 a 2199298176451689:=Ac rfl
theorem k7:A20 a b 47888038106895785918569:=AT rfl
theorem wg:A20 a b 10168597085161641:=AT rfl
theorem jz:A10 a 22265153455209:=Ac rfl
theorem wf:A20 a b 1208925685638334256250985:=AT rfl
theorem we:A10 a 18697475860581:=Ac rfl
theorem bY:A20 a b 2449803845867625:=AT rfl
theorem wb:A10 a 19847044563763289:=Ac rfl
theorem wa:A01 x 657863529247204176483601481:=Cz rfl
theorem jy:A20 a b 1891310984238665866315033:=AT rfl
theorem jx:A20 a b 2031098747463250820859697805034777:=AT rfl
theorem wZ:A10 a 1480737811:=Ac rfl
theorem wY:A10 a 19381919165541:=Ac rfl
theorem wX:A10 a 89383314185856883453698608496729:=Ac rfl
theorem wW:A10 a 183809261549158489:=Ac rfl
theorem jw:A10 a 295147907381363475577:=Ac rfl
theorem wV:A30 a b c 1278797088149699807057992041641:=Az rfl
theorem wU:A20 a b 47888038106895743976553:=AT rfl
theorem wT:A20 a b 61984049533323040025234015513:=AT rfl
theorem wR:A10 a 34939634777:=Ac rfl
theorem wQ:A10 a 310354412633:=Ac rfl
theorem wP:A10 a 11580449260633:=Ac rfl
theorem wO:A10 a 38763036694633:=Ac rfl
theorem bX:A11 a x 600402543322292309065:=N5 rfl
theorem W1:A11 a x 1548992741480554470314089:=N5 rfl
theorem wM:A11 a x 5708957854856366576012918541385:=N5 rfl
theorem wL:A11 a x 9904932455948268337897485111401:=N5 rfl
theorem wK:A11 a x 11411496001887391380600557423689:=N5 rfl
theorem wJ:A10 a 317806390810745:=Ac rfl
theorem wH:A10 a 758927097367894137:=Ac rfl
theorem jv:A00 65545232:=Xv rfl
theorem ju:A20 a b 336673504494364917849:=AT rfl
theorem jt:A10 a 2361183259052578178185:=Ac rfl
theorem wG:A10 a 2199298218393705:=Ac rfl
theorem wF:A20 a b 2361478768928808929231113:=AT rfl
theorem wE:A20 a b 4612263317046208578777:=AT rfl
theorem js:A20 a b 4952456537695745744621774472489:=AT rfl
theorem wD:A20 a b 5178695843825265477195961:=AT rfl
theorem jr:A30 a b c 1180610199238173786201:=Az rfl
theorem wC:A40 a b c d 2637693741111776985392189422960729:=M6 rfl
theorem wB:A10 a 9071013921897:=Ac rfl
theorem wA:A20 a b 1298074225520274310925247669339273:=AT rfl
theorem w9:A10 a 1208925829893435186741353:=Ac rfl
theorem w8:A21 a b x 74077636217258643545:=ZT rfl
theorem w7:A21 a b x 9223548683273900121:=ZT rfl
theorem w6:A20 a b 9672767377842507475409961081:=AT rfl
theorem w5:A10 a 8798294529540217:=Ac rfl
theorem w4:(a0=a1)->(a1<=a2)->a0<=a2:=@Az a0 a1 a2 1180627932092987082841 rfl
theorem vz:0<=64:=@Xv  4203536 rfl
theorem vy:(a0<62)->(a0+1)<=64:=@Ac a0 36975683410984961145 rfl
theorem vx:(a0=a1)->(a2=a3)->((a1+a3)<=a4)->(a0+a2)<=a4:=@ZS a0 a1 a2 a3 a4 43896511659866669304414465399153980606553 rfl
theorem jq:((a0+200)<a1)->(a2<=60)->(a3=a2)->((a0+1)+(min a4 a3))<a1:=@ZS a0 a1 a2 a3 a4 6272772570673975056612092603694069179343213699384521 rfl
theorem TZ:((a0+200)<a1)->(a0+1)<a1:=@AT a0 a1 19221657158313425618121 rfl
theorem jp:((a0+200)<a1)->(a2<=60)->(a3=a2)->(a0+(min a3 a4))<a1:=@ZS a0 a1 a2 a3 a4 194239719394842061795961807463697941499218085065 rfl
theorem bW:(a0<=a1)->(min (a2-a3) (a0-a3))<=a1:=@M6 a0 a1 a2 a3 10124878399246560493830233 rfl
theorem vw:(0<=z0)->¬(z0<0):=@Cz z0 69014146121 rfl
theorem vv:(z0<0)->(z0+(a0:Int))<=(a0:Int):=@N5 a0 z0 98964918505545 rfl
theorem vt:(¬(z0<0))->0<=z0:=@Cz z0 35014121561 rfl
theorem vq:((((a0:Int)-0)-1)+1)=(a0:Int):=@Ac a0 189865457566173429 rfl
theorem vp:(¬(0<(a0:Int)))->0=(a0:Int):=@Ac a0 90205738834041 rfl
theorem vo:((a0:Int)<=((16777216:Nat):Int))->a0<=16777216:=@Ac a0 4951760194044016446384655609 rfl
theorem vn:(3<a0)->¬(a0=1):=@Ac a0 4949103641689 rfl
theorem bV:(((a0+(20*a1))+300)<a2)->(a0+200)<a2:=@Az a0 a1 a2 2659570736679789017216813210289513 rfl
theorem vk:(a0<a1)->(a2<a0)->a2<a1:=@Az a0 a1 a2 608780273216160531545 rfl
theorem vj:((z0+(a0:Int))+1)=(z0+(((a0+1):Nat):Int)):=@N5 a0 z0 2595551441721526421 rfl
theorem vi:(((z0-z1)-(a0:Int))-1)=((z0-z1)-(((a0+1):Nat):Int)):=@ZU a0 z0 z1 2786961255375740719678958821 rfl
theorem vh:(((z0-z1)-1)+1)=(z0-z1):=@Il z0 z1 147691759763862407413 rfl
theorem vg:(z0<=z1)->(¬(z0<z1))->0=(z1-z0):=@Il z0 z1 303642824482488764599385 rfl
theorem vf:(z0<=((16777216:Nat):Int))->z0<=16777216:=@Cz z0 1237940043911702992129101033 rfl
theorem vd:(a0<a1)->(a2+a0)<(a2+a1):=@Az a0 a1 a2 304391825510709068889 rfl
theorem vc:((a0+a1)=(a0+a2))->a1=a2:=@Az a0 a1 a2 594926918223542700249 rfl
theorem vb:(a0=a1)->(a2<=a1)->(a0<a2)->False:=@Az a0 a1 a2 25387522430587828925630553 rfl
theorem bU:(a0<=a1)->((a1+1)-(a0+1))<((a1+1)-a0):=@AT a0 a1 185088200590382659186775570776153 rfl
theorem vZ:(a0<=a1)->(a2<=a0)->(a3<=a2)->(a4=a3)->a4<=a1:=@ZS a0 a1 a2 a3 a4 2892570247764206089667001629602889072729 rfl
theorem vY:((a0+a1)<a0)->False:=@AT a0 a1 176095839369 rfl
theorem vW:(a0+(a1+1))=((a0+1)+a1):=@AT a0 a1 150169198211212773538 rfl
theorem vV:(a0<=a1)->(a1<(a0+a2))->(a1-a0)<a2:=@Az a0 a1 a2 19962503940006223347632308313 rfl
theorem jo:(a0<=(a1+a2))->(a1<=(a3+1))->a0<=(a3+(a2+1)):=@M6 a0 a1 a2 a3 786950679158187579441191950298673840297 rfl
theorem vR:(a0<=a1)->(a2=a0)->a2<=a1:=@Az a0 a1 a2 608779147350613426265 rfl
theorem vQ:(min a0 a1)<=a1:=@AT a0 a1 272634960 rfl
theorem vP:((a0+a1)<=a2)->(a3<=(a0+a4))->(a4<=a1)->a3<=a2:=@ZS a0 a1 a2 a3 a4 22289165164452858107393388231468737708201 rfl
theorem vJ:(a0=a1)->(a0<=a2)->a1<=(a2+1):=@Az a0 a1 a2 22366465088407733641676889 rfl
theorem vH:(a0<a1)->(a2<=(a0+1))->a2<=a1:=@Az a0 a1 a2 19948466996623295027086425 rfl
theorem jn:(a0=a1)->a1=a0:=@AT a0 a1 276027148377 rfl
theorem jm:(a0<=a1)->(a0=a2)->a2<=a1:=@Az a0 a1 a2 608779146251101798489 rfl
theorem vF:((a0+a1)<16777216)->(16777216<=a2)->(a0+a1)<=a2:=@Az a0 a1 a2 359600930959796960705618334351215031299949865 rfl
theorem vE:((a0+a1)<a2)->(a3<=(a0+a1))->a3<=a2:=@M6 a0 a1 a2 a3 1297400149204041383753944220841 rfl
theorem jl:(a0=a1)->a0<=a1:=@AT a0 a1 274886297689 rfl
theorem v7:(a0<(min a1 a2))->a0<a1:=@Az a0 a1 a2 9008852839171241 rfl
theorem v6:(a0<(min a1 a2))->a0<a2:=@Az a0 a1 a2 18016052093912233 rfl
theorem v4:(1000000007<a0)->(a0<1000)->False:=@Ac a0 6491969472100243572410991865 rfl
theorem uz:(((a0+(20*(a1+1)))+300)<a2)->((a0+3)+200)<a2:=@Az a0 a1 a2 2855708776549438221979073542203607840294329 rfl
theorem uy:(((a0+(20*(a1+1)))+300)<a2)->(((a0+3)+(20*a1))+300)<a2:=@Az a0 a1 a2 3102819580421966168097491923279782453998017482950073 rfl
theorem ux:(a0=a1)->(a1=a2)->(a3=a2)->(a4=a3)->(a5<a0)->a5<a4:=@yC a0 a1 a2 a3 a4 a5 190728921319279250720707726467842592594521934006361 rfl
theorem uw:(a0=a1)->(a1=a2)->(a3=a2)->(a4=a3)->(a5<a0)->a5<(min a4 a3):=@yC a0 a1 a2 a3 a4 a5 4693394016751061348244757516241650200972118222589397081 rfl
theorem uv:(a0=a1)->(a1=a2)->(a3<a0)->(a2<=a3)->False:=@M6 a0 a1 a2 a3 55857835570995093107705570958248025 rfl
end
section
variable {a0 a1 a2 a3 a4 a5 a b c d e f:Nat}{z0 z1 z2 z3 x y z:Int}
theorem u3:A20 a b 300408445828291626073:=AT rfl
theorem u4:A20 a b 2207747430505:=AT rfl
theorem u10:A12 a x y 182687706027705220538795705405181382458476596457:=ZU rfl
theorem u66:A20 a b 686070619796677563474203640921:=AT rfl
theorem u68:A01 x 63127694988569235545:=Cz rfl
theorem j4:A01 x 55333:=Cz rfl
theorem u71:A01 x 55317:=Cz rfl
theorem u72:A02 x y 28927178934507922281593:=Il rfl
theorem u73:A01 x 55533906270685042793:=Cz rfl
theorem u74:A02 x y 3615897366813489517673:=Il rfl
theorem u75:A02 x y 3615897366813489501289:=Il rfl
theorem u76:A02 x y 451987170851685405785:=Il rfl
theorem u78:A02 x y 19247164036201:=Il rfl
theorem u79:A10 a 8488978:=Ac rfl
theorem u80:A11 a x 14242110721589138179747761257:=N5 rfl
theorem u81:A10 a 3028128146896601353:=Ac rfl
theorem u83:A11 a x 811812143616208521602799092455513:=N5 rfl
theorem u88:A20 a b 623977593737053273:=AT rfl
theorem uZ:A20 a b 9225906414151532633:=AT rfl
theorem uY:A30 a b c 590350014092597691641:=Az rfl
theorem uX:A30 a b c 638864142264545651554217264377:=Az rfl
end
section
variable {a0 a1 a2 a3 a4 a5 a b c d e f:Nat}{z0 z1 z2 z3 x y z:Int}
theorem nab{z:Int}{n:Nat}(h0:0<=z)(h:z<n):z.natAbs<n:=by obtain⟨m,rfl⟩:=Int.eq_ofNat_of_zero_le h0;exact Int.ofNat_lt.1 h
theorem v2:(max (z0+(a0:Int)) 0)=((((z0+(a0:Int))).toNat:Nat):Int):=(Int.ofNat_toNat _).symm
theorem v5:¬(1<0):=by decide
theorem Vl:(0<=z0)->((z0).toNat<a0)->((0<=z0)/\(z0<(a0:Int))):=λh h2=>⟨h,(Int.toNat_lt h).1 h2⟩
theorem v14:((z0).toNat<a0)->(a1=a0)->(z0).toNat<a1:=λh e=>e▸h
theorem v27:(a0<((z0-z1)).toNat)->0<((z0-z1)-(a0:Int)):=λh=>Int.sub_pos_of_lt (Int.lt_toNat.1 h)
theorem v28:((z0-z1)-((((z0-z1)).toNat:Nat):Int))<=0:=Int.sub_nonpos_of_le (Int.self_le_toNat _)
theorem v31:(0<=z0)->(z1<=16777216)->((z1-z0)).toNat<=16777216:=λh1 h2=>Int.toNat_le.2 (A0s (Int.sub_le_self z1 h1) h2)
theorem v35:(¬(1073741824<=(z0).natAbs))->(z0).natAbs<1073741824:=λh=>Nat.lt_of_not_le h
theorem v42:(0<z0)->(z0<=(a0:Int))->((z0-1)).toNat<a0:=λh1 h2=>(Int.toNat_lt (A0d h1)).2 (Int.lt_of_lt_of_le (Int.sub_lt_self z0 (by decide)) h2)
theorem v43:(0<z0)->(((((z0-1)).toNat:Nat):Int)+1)=z0:=λh=>by rw[A0X (A0d (show 1<=z0 from h))];exact Int.sub_add_cancel z0 1
theorem v50:((2+(a0:Int))).toNat=(a0+2):=Nat.add_comm 2 a0
theorem uW:(((a0:Int)+1)).toNat=(a0+1):=rfl
theorem v52:((a0+1)<a1)->(a1<=10)->¬(1073741824<=(((a0:Int)+1)).natAbs):=λh1 h2 h=>absurd (mu h (A0r (A15 h1 h2))) (by decide)
theorem zv:(0<=z0)->(((z0).toNat:Nat):Int)=z0:=A0X
theorem v54:(2<=a0)->(z0<((a0:Int)-1))->((z0).toNat+1)<a0:=λh1 h2=>add_lt_of_lt_sub ((Int.toNat_lt' (Nat.sub_pos_of_lt h1)).2 (by rw[Int.ofNat_sub (A0r h1)];exact h2))
theorem v58:(0<=z0)->((((1+z0)).toNat:Nat):Int)=(1+z0):=λh=>A0X (Int.add_nonneg (by decide) h)
theorem v59:(0<=z0)->((((z0*(1))).toNat:Nat):Int)=(z0*(1)):=λh=>A0X (by rw[A1n];exact h)
theorem v60:((((z0*(0))).toNat:Nat):Int)=(z0*(0)):=by rw[Int.mul_zero];rfl
theorem v66:((a0:Int)=(z0*(0)))->a0=0:=λe=>Int.ofNat.inj (e.trans (Int.mul_zero _))
theorem v67:(a0<1000)->¬(4611686018427387904<=(((a0:Int)+1)).natAbs):=λh q=>absurd (mu q h) (by decide)
theorem v68:(a0<=10)->((a1+((a2+1)*10))<500)->(a1+a0)<1000:=λh1 h2=>by rw[succ_mul] at h2;exact A0o (A1L (mu h1 (le_add_left 10 _)) a1) (Nat.lt_trans h2 (by decide))
theorem v69:(a0<=10)->((a1+((a2+1)*10))<500)->(a3<=a0)->((a1+a3)+(a2*10))<500:=λh1 h2 h3=>A0o (by rw[Nat.add_assoc,succ_mul,Nat.add_comm a3];exact A1L (A1L (mu h3 h1) _) _) h2
theorem v70:(a0<5)->(a0*10)<500:=λh=>A15 (Nat.mul_lt_mul_of_pos_right h (by decide)) (by decide)
theorem v80:(((a0:Int)+1)*(1))=((a0:Int)+1):=A1n _
theorem v81:(((a0:Int)+1)*(-1))=(-((a0:Int)+1)):=by rw[Int.mul_neg,A1n]
theorem v82:(a0<=1000)->(a1<=a0)->(a2<a1)->(((a2:Int)+1)).natAbs<4611686018427387904:=λh1 h2 h3=>A0o (mu h3 (mu h2 h1)) (by decide)
theorem v85:(0<=z0)->(z0<2147531918)->(z0).natAbs<4611686018427387904:=λh0 h=>Nat.lt_trans (nab (n:=2147531918) h0 h) (by decide)
end
section
variable {a0 a1 a2 a3 a4 a5 a b c d e f:Nat}{z0 z1 z2 z3 x y z:Int}
theorem y7:A10 a 894788715593:=Ac rfl
end
section
variable {a0 a1 a2 a3 a4 a5 a b c d e f:Nat}{z0 z1 z2 z3 x y z:Int}
theorem w1:A22 a b x y 6087383605396698548638329310217286881206750536532121:=g22 rfl
theorem wa3:A20 a b 4684077937090101337:=AT rfl
theorem uU:A20 a b 10633824055568803409905772120291410041:=AT rfl
theorem j1:A10 a 81129638414606681697990512476281:=Ac rfl
theorem uT:A10 a 295147907378712674425:=Ac rfl
theorem ae:A20 a b 37784246921240350074863737:=AT rfl
theorem uS:A20 a b 1516472260743880795750521:=AT rfl
theorem j0:A10 a 743131472571924601:=Ac rfl
theorem uR:A10 a 39614081594951755521825177721:=Ac rfl
end
section
variable {a0 a1 a2 a3 a4 a5 a b c d e f:Nat}{z0 z1 z2 z3 x y z:Int}
theorem xo1:A10 a 18889468624865558808667095177:=Ac rfl
theorem xo2:A00 84485168:=Xv rfl
theorem li:A10 a 2482836080745:=Ac rfl
theorem xo4:A30 a b c 5732479395160085809078373074313676905:=Az rfl
theorem xo5:A10 a 220177531666537:=Ac rfl
theorem xo6:A31 a b c x 1198969323672946037751727167475971347449415187836178537:=mU rfl
theorem xo7:A41 a b c d x 261530749780773815193946889306236594777156585563979257064984681:=g41 rfl
theorem zj:A10 a 2199298193227881:=Ac rfl
theorem sJ:A20 a b 680564739548879650588865008402137350281:=AT rfl
theorem iI:A10 a 46336265735349:=Ac rfl
theorem sH:A10 a 45236754106549:=Ac rfl
theorem sG:A30 a b c 166153500866429899530977113260687497:=Az rfl
theorem sD:A20 a b 2658456002808974842820529623634280585:=AT rfl
theorem sC:A30 a b c 100433628610941300686054172957417144502611853381763020619913:=Az rfl
theorem sB:A40 a b c d 853569059368875657217973500697951544955912228700313:=M6 rfl
theorem s9:A10 a 2417851653887686721142953:=Ac rfl
theorem s8:A20 a b 217783783354932158563852376963274810792838521:=AT rfl
theorem s7:A20 a b 324518556378663180024961255342169:=AT rfl
theorem s6:A10 a 18889466072437395293337:=Ac rfl
theorem rz:A20 a b 196005711871992096902159508599494226156422521:=AT rfl
theorem ry:A10 a 11259140018852070553:=Ac rfl
theorem rx:A20 a b 792292767231451002274897300817049:=AT rfl
theorem rq:A30 a b c 93536105661667758475972569220345790611735064872089:=Az rfl
theorem ro:A30 a b c 723001109962944484601388597337:=Az rfl
theorem rn:A10 a 696352304174058491672204935305:=Ac rfl
theorem rm:A30 a b c 392012095123827583788889390500459813378688377:=Az rfl
theorem rj:A10 a 461169259404851537772681:=Ac rfl
theorem ri:A20 a b 1661558725329907209482458528677910020233:=AT rfl
theorem rh:A30 a b c 435568238089707707112238233739873563548288377:=Az rfl
theorem rg:A20 a b 990353445882203201905823897878665:=AT rfl
theorem re:A30 a b c 22392498914881148050960435300616361:=Az rfl
theorem rc:A01 x 11470280102860889:=Cz rfl
theorem NO:A01 x 69014147145:=Cz rfl
theorem rb:A02 x y 11540614478828633:=Il rfl
theorem rZ:A01 x 1855599940696:=Cz rfl
theorem NN:A01 x 60214497353:=Cz rfl
theorem rY:A01 x 50377752:=Cz rfl
theorem rX:A01 x 963508195401:=Cz rfl
theorem rW:A01 x 8111340408905:=Cz rfl
theorem rV:A01 x 299140262154313:=Cz rfl
theorem rU:A02 x y 19281654522581081:=Il rfl
theorem gi:A01 x 8914948:=Cz rfl
theorem rT:A02 x y 9010781796519081:=Il rfl
theorem rS:A02 x y 144210030082739369:=Il rfl
theorem rR:A01 x 413752381513:=Cz rfl
theorem gh:A01 x 86041:=Cz rfl
theorem WR:A03 x y z 8657350681:=ku rfl
theorem rQ:A03 x y z 148732107791480672329:=ku rfl
theorem rP:A03 x y z 148732107860200149065:=ku rfl
theorem SR:A20 a b 2361478482948580102521097:=AT rfl
theorem rO:A20 a b 631821409123961929817:=AT rfl
theorem gg:A20 a b 302273974793426869620310153:=AT rfl
theorem rN:A30 a b c 38686816078823039334089897:=Az rfl
theorem gf:A20 a b 28291456806007376749766189447854799683929:=AT rfl
theorem gd:A01 x 2198350917:=Cz rfl
theorem gc:A30 a b c 3621306263435898549804983804041562335379737:=Az rfl
theorem gb:A01 x 1060869:=Cz rfl
theorem SQ:A20 a b 19139020193881:=AT rfl
theorem rM:A20 a b 2361478771178956254232841:=AT rfl
theorem gZ:A20 a b 576532903119728754889:=AT rfl
theorem SO:A10 a 5775893048157274233:=Ac rfl
theorem QJ:A20 a b 274886295641:=AT rfl
theorem rL:A30 a b c 55222944093592403727095402833985456308345:=Az rfl
theorem rK:A10 a 295147907379056607353:=Ac rfl
theorem QH:A30 a b c 1180627932092987080793:=Az rfl
theorem aT:A30 a b c 316912653013171826986444652665:=Az rfl
theorem gY:A20 a b 316912652754897141557164507257:=AT rfl
theorem gX:A30 a b c 5316912032682823179133673106798805113:=Az rfl
theorem rJ:A02 x y 3098214484237703038637129:=Il rfl
theorem WQ:A01 x 210538336329:=Cz rfl
theorem rH:A02 x y 197130808820616061730690121:=Il rfl
theorem WP:A01 x 1176004860882016345:=Cz rfl
theorem WO:A01 x 7708073875545:=Cz rfl
theorem rG:A21 a b x 665945946261613826803801:=ZT rfl
theorem gW:A10 a 295184810369059188244729:=Ac rfl
theorem rF:A20 a b 18890700628686457113881:=AT rfl
theorem rE:A31 a b c x 10466055133717086092188860386643033:=mU rfl
theorem rD:A20 a b 4196352:=AT rfl
theorem rC:A30 a b c 10889035842923250045758497730909355114633:=Az rfl
theorem rB:A20 a b 37784246849182756036935801:=AT rfl
theorem rA:A20 a b 3777898501281941765284167801:=AT rfl
theorem r9:A02 x y 274986963033:=Il rfl
theorem gV:A01 x 3:=Cz rfl
theorem r7:A02 x y 2208552786025:=Il rfl
theorem r6:A11 a x 52673188417476324499358941859081:=N5 rfl
theorem qz:A02 x y 646985107565264337114201:=Il rfl
theorem qy:A03 x y z 41407055974089082309448793:=ku rfl
theorem iS:A20 a b 316912652750431752676903567561:=AT rfl
theorem iR:A20 a b 9671406629067849702916297:=AT rfl
theorem iQ:A30 a b c 42535296227836925316237221171233440009:=Az rfl
theorem iP:A30 a b c 713623852999630150451481658925105323373117705:=Az rfl
theorem iO:A20 a b 1298074226874694278579773461643529:=AT rfl
theorem iN:A30 a b c 38989407245385392422125657:=Az rfl
theorem iM:A20 a b 1125934805616793:=AT rfl
theorem iL:A20 a b 1254297336220289177:=AT rfl
theorem iK:A40 a b c d 653672589493255740584819163225:=M6 rfl
theorem iJ:A30 a b c 39439877580468273711353:=Az rfl
theorem Y1:A50 a b c d e 1446287070990948850865294026895259598937:=ZS rfl
theorem Y0:A21 a b x 303421997945945621270681:=ZT rfl
theorem iH:A30 a b c 638864142264581680351236229369:=Az rfl
theorem Ow:A20 a b 10274455133618265:=AT rfl
theorem iG:A31 a b c x 11783758587790687285431639596209954076669071331481:=mU rfl
theorem SV:A20 a b 180782786732359774717472753906:=AT rfl
theorem iE:A30 a b c 590313985295578728697:=Az rfl
theorem iD:A30 a b c 3138551310596576957107485133653320262295928560111110013712334969:=Az rfl
theorem iC:A20 a b 19139053749337:=AT rfl
theorem iB:A40 a b c d 653672840978356850719141658873:=M6 rfl
theorem iA:A20 a b 2449799550883945:=AT rfl
theorem i9:A30 a b c 145246890617755753:=Az rfl
theorem Yz:A01 x 82231754003647319000501321:=Cz rfl
theorem i8:A10 a 279475914857:=Ac rfl
theorem i6:A10 a 2482794137705:=Ac rfl
theorem i5:A30 a b c 1298787477404905293452149451247833:=Az rfl
theorem i3:A30 a b c 20293554336791593126370828163321:=Az rfl
theorem hZ:A10 a 4681817393257:=Ac rfl
theorem hV:A20 a b 10137773201688665:=AT rfl
theorem hU:A20 a b 11032112278109398014970105:=AT rfl
theorem hJ:A20 a b 336673345857073973417:=AT rfl
theorem hH:A30 a b c 174738008306716453634137:=Az rfl
theorem Yy:A20 a b 11052709194753553744265385:=AT rfl
theorem gz:A20 a b 336673503944609103961:=AT rfl
theorem gy:A30 a b c 53591045174698550775246222055326089321:=Az rfl
theorem Yx:A01 x 299140262153289:=Cz rfl
theorem SU:A10 a 24567173685541522636905:=Ac rfl
theorem gx:A01 x 95829423035037781097:=Cz rfl
theorem gw:A02 x y 19281654522580057:=Il rfl
theorem gv:A02 x y 378197758148327066793:=Il rfl
theorem gu:A30 a b c 27660177020497286342183794291988496489:=Az rfl
theorem Yw:A30 a b c 36286812761716616227478399256841:=Az rfl
theorem gq:A10 a 83030652070463543417:=Ac rfl
theorem gn:A20 a b 18104331790455923745489166698761:=AT rfl
theorem gm:A30 a b c 723001109926050996419609755737:=Az rfl
theorem ST:A20 a b 863386742052473027312114237758996825:=AT rfl
theorem SS:A20 a b 51461559196938342292047167769:=AT rfl
theorem gk:A11 a x 1607418602699406801799105801:=N5 rfl
theorem Yv:A10 a 176178611273:=Ac rfl
theorem Yu:A21 a b x 74086643416513384537:=ZT rfl
theorem gj:A10 a 36893488422625214569:=Ac rfl
end
section
variable {a0 a1 a2 a3 a4 a5 a b c d e f:Nat}{z0 z1 z2 z3 x y z:Int}
theorem xp1:A20 a b 24259880328202301417446878746974880937:=AT rfl
theorem xp2:A20 a b 336673345823235457193:=AT rfl
theorem xp4:A20 a b 81102185412188265:=AT rfl
theorem xp6:A20 a b 10351465742294703315880178:=AT rfl
theorem xp7:A10 a 4304404553:=Ac rfl
theorem xp8:A20 a b 9008578478295209:=AT rfl
theorem xp9:A20 a b 45185277214853052884685183081:=AT rfl
theorem qx:A02 x y 19242869085289:=Il rfl
theorem qw:A30 a b c 159695195816757924351864472745:=Az rfl
theorem gS:A20 a b 38443314336975363004601:=AT rfl
theorem qv:A20 a b 168327711908770613408:=AT rfl
theorem aS:A10 a 4720640:=Ac rfl
theorem qu:A02 x y 17603516994681:=Il rfl
theorem qt:A20 a b 168327711908770613410:=AT rfl
theorem gG:A10 a 154690652240:=Ac rfl
theorem qr:A20 a b 10142946335333874836763814680761:=AT rfl
theorem qq:A40 a b c d 877267165709248826367476548293159223415211691081817:=M6 rfl
theorem qp:A30 a b c 144139931401324713:=Az rfl
theorem qo:A01 x 11470829858674777:=Cz rfl
theorem qm:A20 a b 690651287472621157961074:=AT rfl
theorem qk:A10 a 34443909209:=Ac rfl
theorem qj:A20 a b 12429425416452426929620137:=AT rfl
theorem qi:A30 a b c 683420615088213751158401927417:=Az rfl
theorem qh:A40 a b c d 713421054614592067721324660905:=M6 rfl
theorem qg:A40 a b c d 42513209786222098398226429442605305:=M6 rfl
theorem qf:A01 x 26949527361625:=Cz rfl
theorem qe:A40 a b c d 713421054614593193621231503529:=M6 rfl
theorem qZ:A40 a b c d 25101271864611341433556067681584959578966265:=M6 rfl
theorem qY:A01 x 561248295001:=Cz rfl
theorem WN:A20 a b 294206351360:=AT rfl
theorem qX:A20 a b 11032117378383989207728297:=AT rfl
theorem qW:A60 a b c d e f 69886936651071135383321478347146839534009465096732812461877774226817193:=yC rfl
theorem qV:A20 a b 314928811639499760326432873:=AT rfl
theorem gF:A20 a b 9640553726085200:=AT rfl
theorem WM:A20 a b 315901664635877632160:=AT rfl
theorem qS:A20 a b 11315662119150891834783324265:=AT rfl
theorem qR:A20 a b 2693387763323515181241:=AT rfl
theorem gE:A20 a b 315901664498438678688:=AT rfl
theorem gD:A50 a b c d e 58138996127764539246703442628918544809949661318404369148888488085673:=ZS rfl
theorem qQ:A30 a b c 332194551452544272553:=Az rfl
theorem qP:A30 a b c 10885391416483775112022185:=Az rfl
theorem gC:A10 a 2:=Ac rfl
theorem qO:A10 a 154690652242:=Ac rfl
theorem qN:A20 a b 42529711556085577417817:=AT rfl
theorem qM:A20 a b 1496076881162946981619878933366309977:=AT rfl
theorem qK:A20 a b 1393311284318682803987306601:=AT rfl
theorem qJ:A20 a b 49023447241937540713679013555176868960361:=AT rfl
theorem gB:A01 x 963441070153:=Cz rfl
theorem qI:A10 a 166097901209351441650:=Ac rfl
theorem gA:A01 x 16163984420771027033:=Cz rfl
theorem aR:A10 a 157035834530:=Ac rfl
theorem qH:A30 a b c 366452184669980973453547751593:=Az rfl
theorem qG:A40 a b c d 85026535086574499943640938645113001:=M6 rfl
theorem qF:A50 a b c d e 12373711212892572274982100976861521674996804495255619753:=ZS rfl
theorem qE:A20 a b 11414006635175304740940143433833:=AT rfl
theorem qD:A20 a b 1393613515773868211135584361:=AT rfl
theorem qC:A20 a b 42154126313145768041:=AT rfl
theorem qB:A30 a b c 38989056721034752091490473:=Az rfl
theorem qA:A30 a b c 732906745868583845267421268137:=Az rfl
theorem g9:A20 a b 174163910539835350490024025:=AT rfl
theorem g8:A20 a b 5708315685055428282910351820889:=AT rfl
theorem g7:A20 a b 45666546622210858330025931835481:=AT rfl
theorem pz:A30 a b c 713401711792254861377156417705:=Az rfl
theorem pw:A30 a b c 23376209972500559100973216432130217:=Az rfl
theorem gU:A20 a b 9841488428750599953219833:=AT rfl
theorem gT:A20 a b 300338391994834436265:=AT rfl
theorem gR:A21 a b x 2427749561333272363928665:=ZT rfl
theorem gQ:A30 a b c 100433628703015903837901056804249288963737683620086770827401:=Az rfl
theorem gP:A10 a 4951760218363632065128169609:=Ac rfl
theorem SL:A10 a 88235893063785:=Ac rfl
theorem gO:A20 a b 1294673960916204794202309:=AT rfl
theorem gN:A20 a b 4952456839926299928353594048809:=AT rfl
theorem gM:A20 a b 5070602443432807375562756588681:=AT rfl
theorem gL:A20 a b 5137227634444368:=AT rfl
theorem gK:A20 a b 168336675127560243360:=AT rfl
theorem gJ:A10 a 157035834498:=Ac rfl
theorem gI:A20 a b 156775745536:=AT rfl
theorem gH:A20 a b 83076750433240008388572624655122729:=AT rfl
end
theorem zy{n:Nat}:((n:Int)+1-1).toNat=n:=by rw[Int.add_sub_cancel];rfl
theorem jF(h:0<a):(((a-1).toNat:Nat):Int)+1=a:=by rw[A0X (Int.le_sub_one_of_lt h),Int.sub_add_cancel]
theorem tn3{a:Int}{n:Nat}(h:0<a)(h2:a<=n):(a-1).toNat<n:=Int.ofNat_lt.1 (Int.lt_of_add_one_le ((jF h).symm▸h2))
theorem yH(h:a+(d+1)+10<l):a<l:=A0o (mu (A1k a (d+1)) (A1k _ 10)) h
theorem yG(h:a+(d+1)+10<l):a+1+d+10<l:=by rw[Nat.add_right_comm a 1 d];exact h
theorem lA(h:a+d+10<l):a+1<l:=A0o (mu (A1L (show 1<=10 by decide) a) (Nat.add_le_add_right (A1k a d) 10)) h
section
variable {a0 a1 a2 a3 a4 a5 a b c d e f:Nat}{z0 z1 z2 z3 x y z:Int}
theorem zm:A20 a b 2972091341064161608918558049304697:=AT rfl
theorem ww2:A10 a 2361521061021547660050553:=Ac rfl
theorem ww3:A10 a 191593662142945684357241:=Ac rfl
theorem ww4:A20 a b 2824223108676102556845385954:=AT rfl
theorem ww5:A20 a b 27610892072165499822765653256696425054553:=AT rfl
theorem ww6:A20 a b 5518183500561353935144891621540185:=AT rfl
theorem ww8:A30 a b c 12007905264393100577195932220653657:=Az rfl
theorem ww9:A20 a b 13399502020417598710645573812329:=AT rfl
theorem iy:A20 a b 12880235859592789991330152553:=AT rfl
theorem uQ:A30 a b c 40729332628644636182942166550633:=Az rfl
theorem uP:A10 a 15676967225449:=Ac rfl
theorem uO:A00 2777710697:=Xv rfl
theorem uN:A00 90469888458937:=Xv rfl
theorem uM:A00 2964653131370103049:=Xv rfl
theorem uL:A10 a 379589073299473657:=Ac rfl
theorem ia:A10 a 12733523889633399915849:=Ac rfl
theorem uK:A10 a 3658915122930345810463283816047883298286470889:=Ac rfl
theorem uJ:A20 a b 10633824056804376527483272866732965993:=AT rfl
theorem uI:A10 a 1208925829889037140230249:=Ac rfl
theorem uH:A10 a 143411988054:=Ac rfl
theorem uG:A11 a x 673316579061015777385:=N5 rfl
theorem uF:A20 a b 41027378650779614222505:=AT rfl
theorem uE:A20 a b 63473055060955722891219650478185:=AT rfl
theorem uD:A20 a b 2494305327649031807043737:=AT rfl
theorem uC:A10 a 2892578169482641513:=Ac rfl
theorem uB:A20 a b 1937002593734338355225690217:=AT rfl
theorem uA:A20 a b 2758030379562401294977177:=AT rfl
theorem iZ:A03 x y z 22478420469702217461879577923818771994120265:=ku rfl
theorem u0:A30 a b c 19962501090087846749325492313:=Az rfl
theorem tz:A20 a b 9008582773260457:=AT rfl
theorem SX:A02 x y 5275030945963383249001959713165401:=Il rfl
theorem tx:A30 a b c 38689177262064444612100265:=Az rfl
theorem tv:A20 a b 300338393094346064041:=AT rfl
theorem WU:A30 a b c 38686826563706791135281241:=Az rfl
theorem iY:A30 a b c 732904292008937374009324996777:=Az rfl
theorem tq:A20 a b 1238114200834615203263293685881:=AT rfl
theorem iX:A10 a 22657795638:=Ac rfl
theorem iW:A30 a b c 38764154054477966536083625:=Az rfl
theorem tm:A20 a b 20769187608300859749050349486342265:=AT rfl
theorem tj:A01 x 144714012062718041:=Cz rfl
theorem ti:A01 x 4312797257:=Cz rfl
theorem te:A10 a 8916048:=Ac rfl
theorem td:A10 a 325227645943387876391669945:=Ac rfl
theorem tc:A10 a 23909077115484873496777:=Ac rfl
theorem tb:A20 a b 20428580400140879548247000233:=AT rfl
theorem ta:A20 a b 569092609184:=AT rfl
theorem tZ:A20 a b 1331085201413764063470591718576345:=AT rfl
theorem tY:A20 a b 2753800187156334367552149723369:=AT rfl
theorem tX:A40 a b c d 1461684382998250886225380018875630413143042233991401:=M6 rfl
theorem tW:A20 a b 41405862680909938825363545:=AT rfl
theorem tV:A30 a b c 467687123812405552115479261492125982591639690686989689:=Az rfl
theorem tU:A10 a 4611686052804952153:=Ac rfl
theorem tT:A20 a b 1329228006927004459169217641951790233:=AT rfl
theorem tS:A20 a b 49518221514837914219310680868217:=AT rfl
theorem tR:A10 a 2765116521:=Ac rfl
theorem tQ:A01 x 1482163523425353:=Cz rfl
theorem tP:A01 x 1446979151336521:=Cz rfl
theorem tO:A01 x 94858465466389609:=Cz rfl
theorem tN:A01 x 92606665652704361:=Cz rfl
theorem tM:A21 a b x 10059059211980286493234040985:=ZT rfl
theorem aZ:A21 a b x 37076563873209889337086614112833689:=ZT rfl
theorem tL:A20 a b 425359023619467640299943348978618701414745:=AT rfl
theorem tK:A20 a b 24178856556022426136870913177:=AT rfl
theorem tJ:A20 a b 40564819547462459004518822577305:=AT rfl
theorem tH:A10 a 4951760198719047612484289689:=Ac rfl
theorem tG:A20 a b 253530481544238810793355760497819993:=AT rfl
theorem tF:A20 a b 514537103595405417:=AT rfl
theorem tE:A10 a 1208925829889037115064425:=Ac rfl
theorem tD:A20 a b 680564739557489619820487880758537486441:=AT rfl
theorem tC:A20 a b 151134644372989892140107049:=AT rfl
theorem tB:A20 a b 77371253104225432208670857:=AT rfl
theorem tA:A01 x 11474589688287305:=Cz rfl
theorem t9:A10 a 302162964:=Ac rfl
theorem t8:A01 x 1469033808400457:=Cz rfl
theorem t7:A31 a b c x 1300731477352160210914374783600729:=mU rfl
theorem t6:A30 a b c 1514113388994898737234041:=Az rfl
theorem sz:A30 a b c 316957990009229103646682054131833:=Az rfl
theorem sy:A10 a 72067749267580649593:=Ac rfl
theorem sx:A10 a 2535301668484706562672080737537097849:=Ac rfl
theorem sv:A10 a 265670019851123905659129:=Ac rfl
theorem su:A10 a 1254532283109534073945:=Ac rfl
theorem sq:A10 a 1599568431777576693302895236874305801:=Ac rfl
theorem so:A30 a b c 497729049712403361133275791010513561379456287937396841:=Az rfl
theorem sj:A30 a b c 905342599603386535022481004076980147060841:=Az rfl
theorem sf:A10 a 2482810914921:=Ac rfl
theorem se:A30 a b c 118610714328760656000638294650573963613882817708137:=Az rfl
theorem WT:A10 a 4681834170473:=Ac rfl
theorem sd:A10 a 439827753932937:=Ac rfl
theorem sc:A10 a 9079880681577:=Ac rfl
theorem sZ:A10 a 6880857426025:=Ac rfl
theorem sY:A10 a 263515056013092847721:=Ac rfl
theorem sX:A10 a 9243458536537:=Ac rfl
theorem sV:A10 a 37385824915577:=Ac rfl
theorem sU:A11 a x 599529602766160793705:=N5 rfl
theorem sS:A10 a 279492692073:=Ac rfl
theorem sP:A10 a 2964498990547076217:=Ac rfl
theorem iw:A10 a 196348018784684085346425:=Ac rfl
theorem iv:A10 a 5990935532326092921:=Ac rfl
theorem iu:A10 a 2964498990538686585:=Ac rfl
theorem ir:A10 a 191625652301814431744121:=Ac rfl
theorem iq:A10 a 23706959747666231497:=Ac rfl
theorem ip:A10 a 723478987669625:=Ac rfl
theorem io:A10 a 23707030116410409161:=Ac rfl
theorem il:A10 a 5785203633471132678619945566441:=Ac rfl
theorem ik:A10 a 45212330460446809:=Ac rfl
theorem Ga:A00 74768:=Xv rfl
theorem D2:A00 599072:=Xv rfl
theorem ij:A20 a b 7074182873304298806335837270330945044569:=AT rfl
theorem SZ:A00 9232:=Xv rfl
theorem ii:A10 a 5995435492706877529:=Ac rfl
theorem ig:A11 a x 23685630696013436031097:=N5 rfl
theorem SY:A11 a x 24275926506372141682809:=N5 rfl
theorem ie:A10 a 9671406639112296787345529:=Ac rfl
theorem ic:A20 a b 43556143331679335668492795148659479019641:=AT rfl
theorem ib:A20 a b 203506551620559399355006377456859759744450937:=AT rfl
end
section
set_option backward.eqns.nonrecursive false
inductive Key where
 |int (i:Int)
 |tup (l:List Int)
 deriving DecidableEq
inductive PV where
 |none
 |bool (b:Bool)
 |int (i:Int)
 |tuple (l:List PV)
 |list (l:List PV)
 |dict (l:List (Key×PV))
 |str (s:Str)
 |obj (th:List PV) (tu:List (Key×PV)) (kd:Str) (fr lf:Int)
inductive Res(α:Type) where
 |ok (a:α)
 |stuck
noncomputable def Res.bind{α β:Type}:Res α->(α->Res β)->Res β
 |.ok a,f=>f a
 |.stuck,_=>.stuck
theorem HA{α:Type}{a:α}{p:Prop}(h:Option.none=some a):p:=by cases h
theorem Res.no{α:Type}{d:α}{p:Prop}(h:(.stuck:Res α)=.ok d):p:=by cases h
noncomputable def Ab:Nat:=16777216
inductive yV where|add|sub|mul|fdiv|mod
inductive mX where|eq|ne|lt|gt|ge|isIn|notIn|is_|isNot|no
inductive Vs where|range1|range2|enum|seq
inductive Ty where|int|bool|tuple|list|str|seq
set_option genCtorIdx false
set_option genInjectivity false
inductive I0 where
 |len|abs|listOf|listRange|tupleOf|intOf|all|max2|min2|maxL|dictOf
 |isi (t:Ty)
inductive Py where
 |one (i:Nat)
 |many (is:List Nat)
inductive PE where
 |var (i:Nat)
 |const (d:PV)
 |tup (l:List PE)
 |lst (l:List PE)
 |dct0
 |bin (o:yV) (a b:PE)
 |neg (a:PE)
 |not (a:PE)
 |cmp (o:mX) (a b:PE)
 |and (l:List PE)
 |or (l:List PE)
 |ite (c a b:PE)
 |idx (a i:PE)
 |slL (a lo:PE)
 |slH (a hi:PE)
 |slLH (a lo hi:PE)
 |attr (a:PE) (k:Nat)
 |chain (a b c d:PE)
 |call (f:Nat) (clean:Bool) (l:List PE)
 |prim (p:I0) (l:List PE)
 |index (a b:PE)
 |comp (elt:PE) (t:Py) (k:Vs) (src:List PE) (conds:List PE)
inductive PS where
 |assign (i:Nat) (e:PE)
 |unpack (is:List Nat) (e:PE)
 |setItem (i:Nat) (k v:PE)
 |append (i:Nat) (e:PE)
 |update (i:Nat) (e:PE)
 |ite (c:PE) (a b:List PS)
 |for_ (t:Py) (k:Vs) (src:List PE) (body:List PS)
 |while_ (c:PE) (body:List PS)
 |ret (e:PE)
 |expr (e:PE)
 |halt
 |raise (c:Nat)
 |x (p:PS) (f:Nat) (l:List PE)
 |tryR (f:Nat) (l:List PE)
 |step (i:Nat) (a b:PE)
 |pop (j i:Nat)
 |retMk (i:Nat) (b c d:PE)
set_option genCtorIdx true
set_option genInjectivity true
mutual
noncomputable def PV.Ot:PV->Bool
 |.none|.bool _|.int _|.str _=>true
 |.tuple l=>PV.Bm l
 |.list _|.dict _|.obj ..=>false
noncomputable def PV.Bm:List PV->Bool
 |[]=>true
 |x::xs=>PV.Ot x&&PV.Bm xs
end
noncomputable def PV.clean:PV->Bool
 |.list l=>PV.Bm l
 |.dict l=>PV.Bm (l.map (·.2))
 |d=>d.Ot
mutual
noncomputable def PV.eq:PV->PV->Bool
 |.int i,.int j=>i==j
 |.bool a,.bool b=>a==b
 |.bool a,.int j=>(if a then 1 else 0)==j
 |.int i,.bool b=>i==(if b then 1 else 0)
 |.str x,.str y=>x==y
 |.list xs,.list ys=>PV.eqs xs ys
 |.tuple xs,.tuple ys=>PV.eqs xs ys
 |_,_=>false
noncomputable def PV.eqs:List PV->List PV->Bool
 |[],[]=>true
 |x::xs,y::ys=>PV.eq x y&&PV.eqs xs ys
 |_,_=>false
end
mutual
noncomputable def PV.flat:PV->Bool
 |.int _|.bool _|.str _=>true
 |.tuple l=>PV.Bk l
 |.list l=>PV.Bk l
 |_=>false
noncomputable def PV.Bk:List PV->Bool
 |[]=>true
 |x::xs=>PV.flat x&&PV.Bk xs
end
mutual
noncomputable def PV.depth:PV->Nat
 |.tuple l=>PV.EI l+1
 |.list l=>PV.EI l+1
 |_=>0
noncomputable def PV.EI:List PV->Nat
 |[]=>0
 |x::xs=>max (PV.depth x) (PV.EI xs)
end
noncomputable def PV.Bu:List PV->Option (List Int)
 |[]=>some []
 |.int i::r=>(PV.Bu r).map (i::·)
 |_::_=>Option.none
noncomputable def PV.GF:PV->Option Key
 |.int i=>some (.int i)
 |.tuple l=>(PV.Bu l).map .tup
 |_=>Option.none
noncomputable def Key.pv:Key->PV
 |.int i=>.int i
 |.tup l=>.tuple (l.map .int)
noncomputable def Key.same:Key->Key->Bool
 |.int _,.int _=>true
 |.tup _,.tup _=>true
 |_,_=>false
noncomputable def Am(l:List (Key×PV))(k:Key):Option PV:=(l.find? λp=>p.1=k).map (·.2)
noncomputable def Bs(l:List (Key×PV))(k:Key):Bool:=l.any λp=>p.1=k
def Aj(l:List (Key×PV))(k:Key)(v:PV):List (Key×PV):=
 if Bs l k then l.map λp=>if p.1=k then(p.1,v) else p else l++[(k,v)]
noncomputable def AR(l:List (Key×PV))(k:Key):Bool:=l.all λp=>p.1.same k
def GX(l m:List (Key×PV)):List (Key×PV):=m.foldl (λl p=>Aj l p.1 p.2) l
noncomputable def jG(l:List Int):Int:=reduceHash (Builtin.Tuple.tupleHashOf (l.map hashInt))
def Cv:Key->Int
 |.int i=>hashInt i
 |.tup l=>jG l
def FP(l:List PV):Res PV:=if l.length<=Ab then .ok (.list l) else .stuck
def PH(l:List PV):Res PV:=if l.length<=Ab then .ok (.tuple l) else .stuck
noncomputable def big(i:Int):Bool:=decide (4611686018427387904<=i.natAbs)
noncomputable def DO{α:Type}(f:Int->Int->Res α):PV->PV->Res α
 |.int a,.int b=>f a b
 |_,_=>.stuck
def YU:PV->PV->Res PV
 |.int a,.int b=>.ok (.int (a+b))
 |.list a,.list b=>FP (a++b)
 |.tuple a,.tuple b=>PH (a++b)
 |_,_=>.stuck
noncomputable def bx:PV->PV->Res PV
 |.int a,.int b=>if big a||big b then .stuck else .ok (.int (a*b))
 |.tuple a,.int b=>if decide (a.length=1)&&decide (2<=b)&&decide (b<=100) then .ok (.tuple (List.replicate b.toNat a).flatten) else .stuck
 |_,_=>.stuck
def EZ(o:yV)(x y:PV):Res PV:=match o with
 |.add=>YU x y
 |.sub=>DO (λa b=>.ok (.int (a-b))) x y
 |.mul=>bx x y
 |.fdiv=>DO (λa b=>if b=0||decide (1073741824<=b.natAbs) then .stuck else .ok (.int (Int.fdiv a b))) x y
 |.mod=>DO (λa b=>if b=0 then .stuck else .ok (.int (Int.fmod a b))) x y
def CG(x:PV):PV->Res Bool
 |.list l=>if PV.Bk l&&x.flat&&decide (x.depth<=60) then .ok (l.any λy=>PV.eq y x) else .stuck
 |.tuple l=>if PV.Bk l&&x.flat&&decide (x.depth<=60) then .ok (l.any λy=>PV.eq y x) else .stuck
 |.dict l=>match x.GF with
  |some k=>if AR l k then .ok (Bs l k) else .stuck
  |Option.none=>.stuck
 |_=>.stuck
noncomputable def kj:PV->PV->Res Bool
 |.none,.none=>.ok true
 |.tuple _,.none=>.ok false
 |.bool a,.bool b=>.ok (a==b)
 |_,_=>.stuck
def EX(o:mX)(x y:PV):Res Bool:=match o with
 |.eq=>if x.flat&&y.flat&&decide (x.depth<=60) then .ok (PV.eq x y) else .stuck
 |.ne=>if x.flat&&y.flat&&decide (x.depth<=60) then .ok (!PV.eq x y) else .stuck
 |.lt=>DO (λa b=>.ok (decide (a<b))) x y
 |.gt=>DO (λa b=>.ok (decide (a>b))) x y
 |.ge=>DO (λa b=>.ok (decide (a≥b))) x y
 |.isIn=>CG x y
 |.notIn=>(CG x y).bind λr=>.ok (!r)
 |.is_=>kj x y
 |.isNot=>(kj x y).bind λr=>.ok (!r)
 |.no=>.stuck
def CI:PV->PV->Res PV
 |.list l,.int i=>if 0<=i then(match l[i.toNat]? with|some d=>.ok d|Option.none=>.stuck) else .stuck
 |.tuple l,.int i=>if 0<=i then(match l[i.toNat]? with|some d=>.ok d|Option.none=>.stuck) else .stuck
 |.dict l,k=>(match k.GF with
  |some k=>if AR l k then(match Am l k with|some d=>.ok d|Option.none=>.stuck) else .stuck
  |Option.none=>.stuck)
 |_,_=>.stuck
noncomputable def Dw(n:Nat)(i:Int):Nat:=if i<0 then(i+n).toNat else min i.toNat n
noncomputable def Kd(l:List PV)(lo hi:Nat):List PV:=(l.take hi).drop lo
def Ez(lo hi:Option PV)(l:List PV):Option (List PV):=match lo,hi with
 |some (.int a),some (.int b)=>some (Kd l (Dw l.length a) (Dw l.length b))
 |some (.int a),Option.none=>some (Kd l (Dw l.length a) l.length)
 |Option.none,some (.int b)=>some (Kd l 0 (Dw l.length b))
 |_,_=>Option.none
def JF(lo hi:Option PV):PV->Res PV
 |.list l=>(match Ez lo hi l with|some l=>.ok (.list l)|Option.none=>.stuck)
 |.tuple l=>(match Ez lo hi l with|some l=>.ok (.tuple l)|Option.none=>.stuck)
 |_=>.stuck
noncomputable def EB(lo hi:Int):List PV:=(List.range (hi-lo).toNat).map λ(k:Nat)=>.int (lo+k)
noncomputable def l1(f:PV->Res (List PV)):List PV->Res (List PV)
 |[x]=>f x
 |_=>.stuck
def Jy:PV->Res (List PV)
 |.int n=>if decide (0<=n)&&decide (n<=Ab) then .ok (EB 0 n) else .stuck
 |_=>.stuck
def TL:PV->Res (List PV)
 |.int n=>if decide (0<=n)&&decide (n<=Ab) then .ok (EB 0 n) else if n=-1 then .ok [] else .stuck
 |_=>.stuck
noncomputable def l2(f:PV->PV->Res (List PV)):List PV->Res (List PV)
 |[x,y]=>f x y
 |_=>.stuck
def Ww:PV->PV->Res (List PV):=DO λa b=>if a=1/\b=41 then .ok (EB a b) else .stuck
def uj:PV->Res (List PV)
 |.list l=>.ok l
 |.tuple l=>.ok l
 |.dict l=>if AR l (.int 0) then .ok (l.map λp=>p.1.pv) else .stuck
 |_=>.stuck
noncomputable def l4:PV->Res (List PV)
 |.tuple l=>.ok (l.zipIdx.map λp=>.tuple [.int p.2,p.1])
 |_=>.stuck
def items(k:Vs)(l:List PV):Res (List PV):=match k with
 |.range1=>l1 TL l
 |.range2=>l2 Ww l
 |.seq=>l1 uj l
 |.enum=>l1 l4 l
noncomputable def Xm:Ty->PV->Res PV
 |.int,.none=>.ok (.bool false)
 |.int,.bool _=>.ok (.bool true)
 |.int,.int _=>.ok (.bool true)
 |.bool,.bool _=>.ok (.bool true)
 |.bool,.int _=>.ok (.bool false)
 |.tuple,.none=>.ok (.bool false)
 |.tuple,.int _=>.ok (.bool false)
 |.tuple,.str _=>.ok (.bool false)
 |.tuple,.list _=>.ok (.bool false)
 |.tuple,.tuple _=>.ok (.bool true)
 |.str,.none=>.ok (.bool false)
 |.str,.int _=>.ok (.bool false)
 |.str,.str _=>.ok (.bool true)
 |.seq,.tuple _=>.ok (.bool true)
 |_,_=>.stuck
noncomputable def Dx:List PV->Option (List Bool)
 |[]=>some []
 |.bool i::r=>(Dx r).map (i::·)
 |_::_=>Option.none
noncomputable def Ay(l:List PV)(x:PV):Res PV:=
 match PV.Bu l,x with
 |some l,.int i=>(match l.idxOf? i with|some k=>.ok (.int k)|Option.none=>.stuck)
 |_,_=>.stuck
def N0:PV->PV->Res PV
 |.list l,x=>Ay l x
 |_,_=>.stuck
noncomputable def p1(f:PV->Res PV):List PV->Res PV
 |[x]=>f x
 |_=>.stuck
noncomputable def p2(f:PV->PV->Res PV):List PV->Res PV
 |[x,y]=>f x y
 |_=>.stuck
def cC:PV->Res PV
 |.list l=>.ok (.int l.length)
 |.tuple l=>.ok (.int l.length)
 |.dict l=>if AR l (.int 0) then .ok (.int l.length) else .stuck
 |_=>.stuck
noncomputable def dS:PV->Res PV
 |.int i=>.ok (.int (if i<0 then -i else i))
 |_=>.stuck
noncomputable def Key.i:Key->Int
 |.int i=>i
 |.tup _=>0
def kf:PV->Res PV
 |.tuple l=>.ok (.list l)
 |.dict l=>if AR l (.int 0) then .ok (.list (l.map λp=>.int p.1.i)) else .stuck
 |_=>.stuck
noncomputable def NQ:PV->Res PV
 |.list l=>.ok (.tuple l)
 |_=>.stuck
noncomputable def cR:PV->Res PV
 |.bool b=>.ok (.int (if b then 1 else 0))
 |_=>.stuck
def Mo(l:List PV):Res PV:=match Dx l with|some l=>.ok (.bool (l.all id))|Option.none=>.stuck
def yN:PV->Res PV
 |.list l=>Mo l
 |_=>.stuck
def l9:PV->Res PV
 |.dict l=>if AR l (.int 0)&&decide (l.length<1000) then .ok (.dict l) else .stuck
 |_=>.stuck
noncomputable def Hr:List Int->Int
 |[]=>0
 |i::l=>l.foldl (λa b=>if a<b then b else a) i
def kX:PV->Res PV
 |.list l=>(match PV.Bu l with|some (i::is)=>.ok (.int (Hr (i::is)))|_=>.stuck)
 |_=>.stuck
def prim(p:I0)(l:List PV):Res PV:=match p with
 |.len=>p1 cC l
 |.abs=>p1 dS l
 |.listOf=>p1 kf l
 |.listRange=>(l1 Jy l).bind FP
 |.tupleOf=>p1 NQ l
 |.intOf=>p1 cR l
 |.all=>p1 yN l
 |.max2=>p2 (DO λa b=>.ok (.int (if a<b then b else a))) l
 |.isi t=>p1 (Xm t) l
 |.min2=>p2 (DO λa b=>.ok (.int (if b<a then b else a))) l
 |.maxL=>p1 kX l
 |.dictOf=>p1 l9 l
noncomputable def over:Str := "over"
noncomputable def Zc(k:Nat):PV->Res PV
 |.obj th tu kd f l=>(match k with
  |0=>.ok (.list th)
  |1=>.ok (.dict tu)
  |2=>.ok (.str kd)
  |3=>.ok (.int f)
  |4=>.ok (.int l)
  |_=>.stuck)
 |_=>.stuck
def VA:PV->PV->PV->PV->Res PV
 |x,y,z,u=>DO (λa b=>DO (λc d=>.ok (.bool (decide (a<=b)&&decide (b<=c)&&decide (c<=d)))) z u) x y
noncomputable def Dq(kd:Str)(f:Int):Int:=if kd==over then f else 0-f
def stepO(th:List PV)(tu:List (Key×PV))(kd:Str)(f l g w:Int):PV:=
 .obj (th.take g.toNat++.int (0-Dq kd f)::th.drop g.toNat++[.int (Dq kd f)]) (Aj tu (.int f) (.int (if kd==over then w else 0-w))) kd (f+1) (l+1)
def LS(c x y:PV):Res PV:=match c with
 |.obj th tu kd f l=>DO (λg w=>if decide (0<=g)&&decide (g<=th.length)&&decide (th.length<1000)&&AR tu (.int 0)&&decide (tu.length<1000) then .ok (stepO th tu kd f l g w) else .stuck) x y
 |_=>.stuck
noncomputable def onL(g:List PV->Res PV):PV->Res PV
 |.list l=>g l
 |_=>.stuck
noncomputable def onD(g:List (Key×PV)->Res PV):PV->Res PV
 |.dict l=>g l
 |_=>.stuck
noncomputable def onS(g:Str->Res PV):PV->Res PV
 |.str l=>g l
 |_=>.stuck
noncomputable def onI(g:Int->Res PV):PV->Res PV
 |.int l=>g l
 |_=>.stuck
def mT(x y z u:PV):Res PV:=onL (λl=>onD (λm=>onS (λk=>onI (λf=>if AR m (.int 0)&&PV.Bm l&&PV.Bm (m.map (·.2)) then .ok (.obj l m k f l.length) else .stuck) u) z) y) x
theorem bR{g:List PV->Res PV}{x d:PV}(h:onL g x=.ok d):∃l,x=.list l/\g l=.ok d:=by
 cases x with
 |list l=>exact⟨l,rfl,h⟩
 |_=>exact Res.no h
theorem bT{g:List (Key×PV)->Res PV}{x d:PV}(h:onD g x=.ok d):∃l,x=.dict l/\g l=.ok d:=by
 cases x with
 |dict l=>exact⟨l,rfl,h⟩
 |_=>exact Res.no h
theorem bQ{g:Str->Res PV}{x d:PV}(h:onS g x=.ok d):∃l,x=.str l/\g l=.ok d:=by
 cases x with
 |str l=>exact⟨l,rfl,h⟩
 |_=>exact Res.no h
theorem bS{g:Int->Res PV}{x d:PV}(h:onI g x=.ok d):∃l,x=.int l/\g l=.ok d:=by
 cases x with
 |int l=>exact⟨l,rfl,h⟩
 |_=>exact Res.no h
theorem jj(h:p1 f l=.ok d):∃x,l=[x]/\f x=.ok d:=by
 cases l with
 |nil=>cases h
 |cons x l=>
  cases l with
  |nil=>exact⟨x,rfl,h⟩
  |cons _ _=>cases h
theorem ji(h:p2 f l=.ok d):∃x y,l=[x,y]/\f x y=.ok d:=by
 cases l with
 |nil=>cases h
 |cons x l=>
  cases l with
  |nil=>cases h
  |cons y l=>
   cases l with
   |nil=>exact⟨x,y,rfl,h⟩
   |cons _ _=>cases h
theorem B3{α:Type}{f:Int->Int->Res α}{x y:PV}{d:α}(h:DO f x y=.ok d):∃a b,x=.int a/\y=.int b/\f a b=.ok d:=by
 cases x with
 |int a=>
  cases y with
  |int b=>exact⟨a,b,rfl,rfl,h⟩
  |_=>exact Res.no h
 |_=>exact Res.no h
theorem Bb{α:Type}[Decidable c]{r:Res α}{d:α}(h:(if c then r else .stuck)=.ok d):c/\r=.ok d:=by
 by_cases q:c
 ·exact⟨q,by rwa [XL q] at h⟩
 ·rw[Yf q] at h;cases h
theorem N1{α:Type}[Decidable c]{r:Res α}{d:α}(h:(if c then .stuck else r)=.ok d):¬c/\r=.ok d:=by
 by_cases q:c
 ·rw[XL q] at h;cases h
 ·exact⟨q,by rwa [Yf q] at h⟩
abbrev AP:=List (Option PV)
noncomputable def CO:Py->PV->AP->Res AP
 |.one i,d,ρ=>.ok (ρ.set i (some d))
 |.many is,.tuple l,ρ=>if is.length=l.length then .ok ((is.zip l).foldl (λρ p=>ρ.set p.1 (some p.2)) ρ) else .stuck
 |_,_,_=>.stuck
noncomputable def Pq:Py->AP->AP
 |.one i,ρ=>ρ.set i Option.none
 |.many is,ρ=>is.foldl (λρ i=>ρ.set i Option.none) ρ
noncomputable def slot(ρ:AP)(i:Nat):Res PV:=match ρ[i]? with
 |some (some d)=>.ok d
 |_=>.stuck
section
variable (cf:Nat->List PV->Res PV)
noncomputable def Hk{α:Type}(r:Res α):Res α:=r
def A8(elt:AP->Res PV)(cond:AP->Res Bool)(t:Py):List PV->AP->Res (List PV)
 |[],_=>.ok []
 |d::ds,ρ=>(CO t d ρ).bind λρ'=>(cond ρ').bind λb=>
   if b then(elt ρ').bind λx=>(A8 elt cond t ds ρ').bind λxs=>.ok (x::xs) else A8 elt cond t ds ρ'
mutual
noncomputable def ev(ρ:AP):PE->Res PV
 |.var i=>slot ρ i
 |.const d=>.ok d
 |.tup l=>(evs ρ l).bind PH
 |.lst l=>(evs ρ l).bind FP
 |.dct0=>.ok (.dict [])
 |.bin o a b=>(ev ρ a).bind λx=>(ev ρ b).bind λy=>EZ o x y
 |.neg a=>(ev ρ a).bind λx=>match x with|.int i=>.ok (.int (-i))|_=>.stuck
 |.not a=>(ev ρ a).bind λx=>match x with|.bool b=>.ok (.bool (!b))|_=>.stuck
 |.cmp o a b=>(ev ρ a).bind λx=>(ev ρ b).bind λy=>(EX o x y).bind λr=>.ok (.bool r)
 |.and l=>(evAnd ρ l).bind λr=>.ok (.bool r)
 |.or l=>(evOr ρ l).bind λr=>.ok (.bool r)
 |.ite c a b=>(ev ρ c).bind λx=>match x with|.bool t=>if t then ev ρ a else ev ρ b|_=>.stuck
 |.idx a i=>(ev ρ a).bind λx=>(ev ρ i).bind λy=>CI x y
 |.slL a lo=>(ev ρ a).bind λx=>(ev ρ lo).bind λy=>JF (some y) Option.none x
 |.slH a hi=>(ev ρ a).bind λx=>(ev ρ hi).bind λy=>JF Option.none (some y) x
 |.slLH a lo hi=>(ev ρ a).bind λx=>(ev ρ lo).bind λy=>(ev ρ hi).bind λz=>JF (some y) (some z) x
 |.attr a k=>(ev ρ a).bind (Zc k)
 |.chain a b c d=>(ev ρ a).bind λx=>(ev ρ b).bind λy=>(ev ρ c).bind λz=>(ev ρ d).bind λu=>VA x y z u
 |.call f c l=>(evs ρ l).bind λxs=>(cf f xs).bind λd=>if !c||d.clean then .ok d else .stuck
 |.prim p l=>(evs ρ l).bind λxs=>prim p xs
 |.index a b=>(ev ρ a).bind λx=>(ev ρ b).bind λy=>N0 x y
 |.comp elt t k src conds=>(evs ρ src).bind λxs=>(items k xs).bind λds=>
   (Hk (A8 (λρ'=>ev ρ' elt) (λρ'=>evAnd ρ' conds) t ds (Pq t ρ))).bind FP
noncomputable def evs(ρ:AP):List PE->Res (List PV)
 |[]=>.ok []
 |e::r=>(ev ρ e).bind λx=>(evs ρ r).bind λxs=>.ok (x::xs)
noncomputable def evAnd(ρ:AP):List PE->Res Bool
 |[]=>.ok true
 |e::r=>(ev ρ e).bind λx=>match x with|.bool b=>if b then evAnd ρ r else .ok false|_=>.stuck
noncomputable def evOr(ρ:AP):List PE->Res Bool
 |[]=>.ok false
 |e::r=>(ev ρ e).bind λx=>match x with|.bool b=>if b then .ok true else evOr ρ r|_=>.stuck
end
noncomputable def bk{α:Type}(r:Res α):PV->Res α
 |.none=>r
 |_=>.stuck
theorem XM{α:Type}{r:Res α}{d:PV}{o:α}(h:bk r d=.ok o):d=.none/\r=.ok o:=by
 cases d with
 |none=>exact⟨rfl,h⟩
 |_=>exact Res.no h
inductive Out where
 |next (ρ:AP)
 |ret (d:PV)
 |exc (c:Nat)
noncomputable def zw:PV->Res Out
 |.int c=>.ok (.exc c.toNat)
 |_=>.stuck
noncomputable def db{α:Type}:Res α->Res α->Res α
 |.ok a,_=>.ok a
 |.stuck,r=>r
noncomputable def kinds(c:Nat):PV:=.list [.bool (c==0),.bool (c==1),.bool (c==2),.bool (c==3),.bool (c==4),.bool false]
noncomputable def ug(r:Res PV):Res Out:=r.bind λd=>match d with
 |.int c=>.ok (.ret (kinds c.toNat))
 |_=>.stuck
noncomputable def je:PV->Res (PV×PV)
 |.list (x::l)=>.ok (x,.list l)
 |_=>.stuck
def An(body:AP->Res Out)(t:Py):List PV->AP->Res Out
 |[],ρ=>.ok (.next ρ)
 |d::ds,ρ=>(CO t d ρ).bind λρ'=>(body ρ').bind λo=>match o with
   |.next Zm=>An body t ds Zm
   |o=>.ok o
noncomputable def Bw(test:AP->Res PV)(body:AP->Res Out):Nat->AP->Res Out
 |0,_=>.stuck
 |n+1,ρ=>(test ρ).bind λx=>match x with
   |.bool true=>(body ρ).bind λo=>(match o with
    |.next ρ'=>Bw test body n ρ'
    |o=>.ok o)
   |.bool false=>.ok (.next ρ)
   |_=>.stuck
noncomputable def Lx:Nat:=1000000
mutual
noncomputable def ex(ρ:AP):PS->Res Out
 |.assign i e=>(ev cf ρ e).bind λd=>.ok (.next (ρ.set i (some d)))
 |.unpack is e=>(ev cf ρ e).bind λd=>(CO (.many is) d ρ).bind λρ'=>.ok (.next ρ')
 |.setItem i k v=>(ev cf ρ v).bind λd=>(slot ρ i).bind λc=>match c with
   |.dict l=>(ev cf ρ k).bind λkk=>(match kk.GF with
    |some k=>if AR l k&&decide (l.length<Ab) then .ok (.next (ρ.set i (some (.dict (Aj l k d))))) else .stuck
    |Option.none=>.stuck)
   |_=>.stuck
 |.append i e=>(slot ρ i).bind λc=>match c with
   |.list l=>(ev cf ρ e).bind λd=>if decide (l.length<Ab) then .ok (.next (ρ.set i (some (.list (l++[d]))))) else .stuck
   |_=>.stuck
 |.update i e=>(slot ρ i).bind λc=>match c with
   |.dict l=>(ev cf ρ e).bind λd=>(match d with
    |.dict m=>if AR l (.tup [])&&AR m (.tup [])&&decide (l.length+m.length<Ab)&&(!l.isEmpty||decide ((m.map λp=>Cv p.1).Nodup)) then .ok (.next (ρ.set i (some (.dict (GX l m))))) else .stuck
    |_=>.stuck)
   |_=>.stuck
 |.ite c a b=>(ev cf ρ c).bind λx=>match x with|.bool t=>if t then exs ρ a else exs ρ b|_=>.stuck
 |.for_ t k src body=>(evs cf ρ src).bind λxs=>(items k xs).bind λds=>Hk (An (λρ'=>exs ρ' body) t ds ρ)
 |.while_ c body=>Hk (Bw (λρ'=>ev cf ρ' c) (λρ'=>exs ρ' body) Lx ρ)
 |.ret e=>(ev cf ρ e).bind λd=>.ok (.ret d)
 |.expr e=>(ev cf ρ e).bind (bk (.ok (.next ρ)))
 |.halt=>.stuck
 |.raise c=>.ok (.exc c)
 |.x p f l=>db (ex ρ p) ((evs cf ρ l).bind λxs=>(cf (f+1000) xs).bind zw)
 |.tryR f l=>(evs cf ρ l).bind λxs=>db ((cf f xs).bind λJ=>.ok (.next ρ)) (ug (cf (f+1000) xs))
 |.step i a b=>(slot ρ i).bind λc=>(ev cf ρ a).bind λx=>(ev cf ρ b).bind λy=>(LS c x y).bind λd=>.ok (.next (ρ.set i (some d)))
 |.pop j i=>(slot ρ i).bind λc=>(je c).bind λp=>.ok (.next ((ρ.set i (some p.2)).set j (some p.1)))
 |.retMk i b c d=>(slot ρ i).bind λx=>(ev cf ρ b).bind λy=>(ev cf ρ c).bind λz=>(ev cf ρ d).bind λu=>(mT x y z u).bind λd=>.ok (.ret d)
noncomputable def exs(ρ:AP):List PS->Res Out
 |[]=>.ok (.next ρ)
 |p::r=>(ex ρ p).bind λo=>match o with
   |.next ρ'=>exs ρ' r
   |o=>.ok o
end
end
section
variable {cf:Nat->List PV->Res PV}{ρ:AP}
theorem Bp:ev cf ρ (.var i)=(slot ρ i):=rfl
theorem F9:ev cf ρ (.const d)=(.ok d):=rfl
theorem JB:ev cf ρ (.tup l)=((evs cf ρ l).bind PH):=rfl
theorem Vk:ev cf ρ (.lst l)=((evs cf ρ l).bind FP):=rfl
theorem Gs:ev cf ρ (.bin o a b)=((ev cf ρ a).bind λx=>(ev cf ρ b).bind λy=>EZ o x y):=rfl
theorem Y3:ev cf ρ (.neg a)=((ev cf ρ a).bind λx=>match x with|.int i=>.ok (.int (-i))|_=>.stuck):=rfl
theorem zu:ev cf ρ (.not a)=((ev cf ρ a).bind λx=>match x with|.bool b=>.ok (.bool (!b))|_=>.stuck):=rfl
theorem Kz:ev cf ρ (.cmp o a b)=((ev cf ρ a).bind λx=>(ev cf ρ b).bind λy=>(EX o x y).bind λr=>.ok (.bool r)):=rfl
theorem Sn:ev cf ρ (.and l)=((evAnd cf ρ l).bind λr=>.ok (.bool r)):=rfl
theorem Sm:ev cf ρ (.or l)=((evOr cf ρ l).bind λr=>.ok (.bool r)):=rfl
theorem Sl:ev cf ρ (.ite c a b)=((ev cf ρ c).bind λx=>match x with|.bool t=>if t then ev cf ρ a else ev cf ρ b|_=>.stuck):=rfl
theorem EJ:ev cf ρ (.idx a i)=((ev cf ρ a).bind λx=>(ev cf ρ i).bind λy=>CI x y):=rfl
theorem Sk{lo:PE}:ev cf ρ (.slL a lo)=((ev cf ρ a).bind λx=>(ev cf ρ lo).bind λy=>JF (some y) Option.none x):=rfl
theorem Sj:ev cf ρ (.slH a hi)=((ev cf ρ a).bind λx=>(ev cf ρ hi).bind λy=>JF Option.none (some y) x):=rfl
theorem Jl:ev cf ρ (.call f c l)=((evs cf ρ l).bind λxs=>(cf f xs).bind λd=>if !c||d.clean then .ok d else .stuck):=rfl
theorem Bo:ev cf ρ (.prim p l)=((evs cf ρ l).bind λxs=>prim p xs):=rfl
theorem j3:ev cf ρ (.index a b)=((ev cf ρ a).bind λx=>(ev cf ρ b).bind λy=>N0 x y):=rfl
theorem j2:ev cf ρ (.comp elt t k src conds)=((evs cf ρ src).bind λxs=>(items k xs).bind λds=>
   (Hk (A8 (λρ'=>ev cf ρ' elt) (λρ'=>evAnd cf ρ' conds) t ds (Pq t ρ))).bind FP):=rfl
theorem A0B{lo:PE}:ev cf ρ (.slLH a lo hi)=((ev cf ρ a).bind λx=>(ev cf ρ lo).bind λy=>(ev cf ρ hi).bind λz=>JF (some y) (some z) x):=rfl
theorem A0A:ev cf ρ (.attr a k)=(ev cf ρ a).bind (Zc k):=rfl
theorem A09:ev cf ρ (.chain a b c d)=(ev cf ρ a).bind λx=>(ev cf ρ b).bind λy=>(ev cf ρ c).bind λz=>(ev cf ρ d).bind λu=>VA x y z u:=rfl
theorem CC:evs cf ρ []=(.ok []):=rfl
theorem AO:evs cf ρ (e::r)=((ev cf ρ e).bind λx=>(evs cf ρ r).bind λxs=>.ok (x::xs)):=rfl
theorem BO:evAnd cf ρ []=(.ok true):=rfl
theorem KS:evAnd cf ρ (e::r)=((ev cf ρ e).bind λx=>match x with|.bool b=>if b then evAnd cf ρ r else .ok false|_=>.stuck):=rfl
theorem ER:evOr cf ρ []=(.ok false):=rfl
theorem E3:evOr cf ρ (e::r)=((ev cf ρ e).bind λx=>match x with|.bool b=>if b then .ok true else evOr cf ρ r|_=>.stuck):=rfl
theorem Kx:ex cf ρ (.assign i e)=((ev cf ρ e).bind λd=>.ok (.next (ρ.set i (some d)))):=rfl
theorem Rs:ex cf ρ (.unpack is e)=((ev cf ρ e).bind λd=>(CO (.many is) d ρ).bind λρ'=>.ok (.next ρ')):=rfl
theorem sM:ex cf ρ (.setItem i k v)=((ev cf ρ v).bind λd=>(slot ρ i).bind λc=>match c with
   |.dict l=>(ev cf ρ k).bind λkk=>(match kk.GF with
    |some k=>if AR l k&&decide (l.length<Ab) then .ok (.next (ρ.set i (some (.dict (Aj l k d))))) else .stuck
    |Option.none=>.stuck)
   |_=>.stuck):=rfl
theorem aV:ex cf ρ (.append i e)=((slot ρ i).bind λc=>match c with
   |.list l=>(ev cf ρ e).bind λd=>if decide (l.length<Ab) then .ok (.next (ρ.set i (some (.list (l++[d]))))) else .stuck
   |_=>.stuck):=rfl
theorem zl:ex cf ρ (.update i e)=((slot ρ i).bind λc=>match c with
   |.dict l=>(ev cf ρ e).bind λd=>(match d with
    |.dict m=>if AR l (.tup [])&&AR m (.tup [])&&decide (l.length+m.length<Ab)&&(!l.isEmpty||decide ((m.map λp=>Cv p.1).Nodup)) then .ok (.next (ρ.set i (some (.dict (GX l m))))) else .stuck
    |_=>.stuck)
   |_=>.stuck):=rfl
theorem Vi:ex cf ρ (.ite c a b)=((ev cf ρ c).bind λx=>match x with|.bool t=>if t then exs cf ρ a else exs cf ρ b|_=>.stuck):=rfl
theorem zk:ex cf ρ (.for_ t k src body)=((evs cf ρ src).bind λxs=>(items k xs).bind λds=>Hk (An (λρ'=>exs cf ρ' body) t ds ρ)):=rfl
theorem iV:ex cf ρ (.while_ c body)=(Hk (Bw (λρ'=>ev cf ρ' c) (λρ'=>exs cf ρ' body) Lx ρ)):=rfl
theorem E8:ex cf ρ (.ret e)=((ev cf ρ e).bind λd=>.ok (.ret d)):=rfl
theorem aY:ex cf ρ (.expr e)=((ev cf ρ e).bind (bk (.ok (.next ρ)))):=rfl
theorem aX:ex cf ρ (.tryR f l)=((evs cf ρ l).bind λxs=>db ((cf f xs).bind λJ=>.ok (.next ρ)) (ug (cf (f+1000) xs))):=rfl
theorem iU:ex cf ρ (.step i a b)=(slot ρ i).bind λc=>(ev cf ρ a).bind λx=>(ev cf ρ b).bind λy=>(LS c x y).bind λd=>.ok (.next (ρ.set i (some d))):=rfl
theorem aW:ex cf ρ (.x p f l)=db (ex cf ρ p) ((evs cf ρ l).bind λxs=>(cf (f+1000) xs).bind zw):=rfl
theorem sO:ex cf ρ (.pop j i)=(slot ρ i).bind λc=>(je c).bind λp=>.ok (.next ((ρ.set i (some p.2)).set j (some p.1))):=rfl
theorem iT:ex cf ρ (.retMk i b c d)=(slot ρ i).bind λx=>(ev cf ρ b).bind λy=>(ev cf ρ c).bind λz=>(ev cf ρ d).bind λu=>(mT x y z u).bind λd=>.ok (.ret d):=rfl
theorem G4:exs cf ρ []=(.ok (.next ρ)):=rfl
theorem EO:exs cf ρ (p::r)=((ex cf ρ p).bind λo=>match o with
   |.next ρ'=>exs cf ρ' r
   |o=>.ok o):=rfl
end
structure Fn where
 slots:Nat
 arity:Nat
 body:List PS
noncomputable def FD:Out->Res PV
 |.ret d=>.ok d
 |.next _=>.ok .none
 |.exc _=>.stuck
noncomputable def J0:Out->Res PV
 |.exc c=>.ok (.int c)
 |_=>.stuck
noncomputable def DW(g:Out->Res PV)(f:Fn)(cf:Nat->List PV->Res PV)(args:List PV):Res PV:=
 if args.length=f.arity then(exs cf (args.map some++List.replicate (f.slots-f.arity) Option.none) f.body).bind g else .stuck
def AC(P:List Fn):Nat->Nat->List PV->Res PV
 |0,_,_=>.stuck
 |n+1,f,args=>match P[f]? with
  |some fn=>DW FD fn (AC P n) args
  |Option.none=>if 1000<=f then(match P[f-1000]? with
   |some fn=>DW J0 fn (AC P n) args
   |Option.none=>.stuck) else .stuck
theorem IU(h:P[f]?=some fn):AC P (n+1) f args=DW FD fn (AC P n) args:=by
 show(match P[f]? with|some fn=>DW FD fn (AC P n) args|Option.none=>_)=_;rw[h]
theorem Za(hl:P.length<=1000)(h:P[f]?=some fn):AC P (n+1) (f+1000) args=DW J0 fn (AC P n) args:=by
 have h1:P[f+1000]?=Option.none:=A0l.2 (mu hl (le_add_left _ _));show(match P[f+1000]? with|some fn=>DW FD fn (AC P n) args|Option.none=>if 1000<=f+1000 then(match P[f+1000-1000]? with|some fn=>DW J0 fn (AC P n) args|Option.none=>.stuck) else .stuck)=_;rw[h1,Nat.add_sub_cancel,h];exact XL (le_add_left _ _)
section
variable {α β:Type}{cf:Nat->List PV->Res PV}{ρ:AP}{a b:Int}{l m:List PV}{k:List (Key×PV)}{x y z:PV}
theorem AM{a:α}{f:α->Res β}:(Res.ok a).bind f=f a:=rfl
theorem BR{f:Int->Int->Res α}:DO f (.int a) (.int b)=f a b:=rfl
theorem O9:p1 f [x]=f x:=rfl
theorem p2K:p2 f [x,y]=f x y:=rfl
theorem Ea:YU (.int a) (.int b)=.ok (.int (a+b)):=rfl
theorem Zg:YU (.list l) (.list m)=FP (l++m):=rfl
theorem G6:EZ .add x y=YU x y:=rfl
theorem YI:EZ .sub x y=DO (λa b=>.ok (.int (a-b))) x y:=rfl
theorem YJ:EZ .mul x y=bx x y:=rfl
theorem PG:bx (.int a) (.int b)=if big a||big b then .stuck else .ok (.int (a*b)):=rfl
theorem lQ:EZ .fdiv x y=DO (λa b=>if b=0||decide (1073741824<=b.natAbs) then .stuck else .ok (.int (Int.fdiv a b))) x y:=rfl
theorem Oe:EZ .mod x y=DO (λa b=>if b=0 then .stuck else .ok (.int (Int.fmod a b))) x y:=rfl
theorem RS:EX .eq x y=if x.flat&&y.flat&&decide (x.depth<=60) then .ok (PV.eq x y) else .stuck:=rfl
theorem YA:EX .ne x y=if x.flat&&y.flat&&decide (x.depth<=60) then .ok (!PV.eq x y) else .stuck:=rfl
theorem Po:EX .lt x y=DO (λa b=>.ok (decide (a<b))) x y:=rfl
theorem lF:EX .gt x y=DO (λa b=>.ok (decide (a>b))) x y:=rfl
theorem JX:EX .notIn x y=(CG x y).bind λr=>.ok (!r):=rfl
theorem ixL:N0 (.list l) x=Ay l x:=rfl
theorem BM:CI (.list l) (.int a)=if 0<=a then(match l[a.toNat]? with|some d=>.ok d|Option.none=>.stuck) else .stuck:=rfl
theorem FX:JF (some (.int a)) Option.none (.list l)=.ok (.list (Kd l (Dw l.length a) l.length)):=rfl
theorem FY:JF Option.none (some (.int b)) (.list l)=.ok (.list (Kd l 0 (Dw l.length b))):=rfl
theorem No:cC (.list l)=.ok (.int l.length):=rfl
theorem YV:dS (.int a)=.ok (.int (if a<0 then -a else a)):=rfl
theorem j5:NQ (.list l)=.ok (.tuple l):=rfl
theorem cQ{b:Bool}:cR (.bool b)=.ok (.int (if b then 1 else 0)):=rfl
theorem Hh:prim .len l=p1 cC l:=rfl
theorem O8:prim .abs l=p1 dS l:=rfl
theorem jd:prim .listRange l=(l1 Jy l).bind FP:=rfl
theorem jc:prim .tupleOf l=p1 NQ l:=rfl
theorem TO:prim .intOf l=p1 cR l:=rfl
theorem ZE:prim .max2 l=p2 (DO λa b=>.ok (.int (if a<b then b else a))) l:=rfl
theorem G5:PV.eq (.int a) (.int b)=(a==b):=rfl
theorem yD:PV.eqs (x::l) (y::m)=(PV.eq x y&&PV.eqs l m):=rfl
theorem Gh:PV.flat (.int a)=true:=rfl
theorem A05:PV.flat (.tuple l)=PV.Bk l:=rfl
theorem cW:PV.Bk []=true:=rfl
theorem KI:PV.Bk (x::l)=(PV.flat x&&PV.Bk l):=rfl
theorem OR:PV.depth (.int a)=0:=rfl
theorem yA:PV.Ot (.int a)=true:=rfl
theorem y9:PV.Ot (.tuple l)=PV.Bm l:=rfl
theorem kq:PV.Bm []=true:=rfl
theorem ZR:PV.Bm (x::l)=(PV.Ot x&&PV.Bm l):=rfl
theorem Jv:Key.same (.int i) (.int j)=true:=rfl
theorem S9:Key.same (.tup i) (.tup j)=true:=rfl
theorem y6:PV.GF (.int a)=some (.int a):=rfl
theorem y5:PV.GF (.tuple l)=(PV.Bu l).map .tup:=rfl
theorem km:PV.Bu []=some []:=rfl
theorem ZQ:PV.Bu (.int a::l)=(PV.Bu l).map (a::·):=rfl
theorem HY:CO (.one i) x ρ=.ok (ρ.set i (some x)):=rfl
theorem Wa:CO (.many is) (.tuple l) ρ=if is.length=l.length then .ok ((is.zip l).foldl (λρ p=>ρ.set p.1 (some p.2)) ρ) else .stuck:=rfl
theorem Oa:Pq (.one i) ρ=ρ.set i Option.none:=rfl
theorem jk:FD (.ret x)=.ok x:=rfl
theorem KG:An g t [] ρ=.ok (.next ρ):=rfl
theorem Ue:An g t (x::l) ρ=(CO t x ρ).bind λρ'=>(g ρ').bind λo=>match o with
   |.next Zm=>An g t l Zm
   |o=>.ok o:=rfl
theorem IR:A8 g h t (x::l) ρ=(CO t x ρ).bind λρ'=>(h ρ').bind λb=>
   if b then(g ρ').bind λx=>(A8 g h t l ρ').bind λxs=>.ok (x::xs) else A8 g h t l ρ':=rfl
end
end
section
set_option backward.eqns.nonrecursive false
def ArcAt(mg:Str->Option Value)(h:Heap)(C:Addr):Prop:=mg ("Arc" : Str)=some (.ref C)/\∃N mN,PlainAt h AQ C N mN
def PP(p:World×Addr):Prop:=∀(AG:Shared)(NB:ExcName->Option Value)(mg mb:Str->Option Value)(fa a:Addr)(vs:List Value)(ns:List Int),PyProof.Rows.Top view2 (PySem.W.looseW view2 []) NB mg mb AG.heap->ArcAt mg AG.heap p.2->XcAt mg AG.heap->mg ("law" : Str)=some (.ref fa) ->
 AG.heap.get? a=some { cls:=.type "list",data:=.seq vs.toArray }->PyProof.Rows.IntsAre vs ns->ns.length<=63 ->
 codeAny (model prog p.1) callerA (.call (.ref fa) ⟨[.ref a],[]⟩) (λr s'=>r=.ok (.ret (.bool true))/\(∀b o,AG.heap.get? b=some o->s'.heap.get? b=some o)/\∃h' tk,s'={ AG with heap:=h',toks:=tk }) AG
theorem wNe:Nonempty (World×Addr):=⟨(PySem.W.aWorld 0,0)⟩
noncomputable def wc:World×Addr:=@Classical.epsilon (World×Addr) wNe λp=>¬PP p
noncomputable def w:World:=wc.1
noncomputable abbrev Md:Model:=model prog w
noncomputable def CA:Addr:=wc.2
theorem pp_all(h:PP wc)(v:World×Addr):PP v:=A1E λq=>@Classical.epsilon_spec (World×Addr) (λp=>¬PP p) ⟨v,q⟩ h
def SeqAt(h:Heap)(T:String)(a:Addr)(vs:Array Value):Prop:=∃n,h.get? a=some { cls:=.type T,dict:=Option.none,data:=.seq vs n,slots:=#[] }
section
def Om(h:Heap)(xs:List (List Int×Addr×Value)):Prop:=∀x∈xs,∃us,SeqAt h "tuple" x.2.1 us/\us.size<=Ab
def Bi(h:Heap)(a:Addr)(ks:List Key)(vs:List Value):Prop:=
 (∃kvs:List (Int×Value),h.DictOf (intKind prog w) a kvs/\ks=kvs.map (λp=>Key.int p.1)/\vs=kvs.map (·.2)) \/
 (∃xs:List (List Int×Addr×Value),h.DictOfH (tupleKind (intKind prog w)) a xs/\ks=xs.map (λp=>Key.tup p.1)/\vs=xs.map (·.2.2)/\Om h xs)
inductive Iz(h:Heap)(v:Value)(n:Nat)(R:List Value->Prop):Prop where
 |mk (a:Addr) (vs:Array Value) (e:v=.ref a) (q:SeqAt h "tuple" a vs) (ln:n<=Ab) (r:R vs.toList)
inductive M7(h:Heap)(O:Addr->Prop)(v:Value)(n:Nat)(R:List Value->Prop):Prop where
 |mk (a:Addr) (vs:Array Value) (e:v=.ref a) (pa:O a) (q:SeqAt h "list" a vs) (ln:n<=Ab) (r:R vs.toList)
inductive R4(h:Heap)(O:Addr->Prop)(v:Value)(l:List (Key×PV))(R:List Value->Prop):Prop where
 |mk (a:Addr) (vs:List Value) (e:v=.ref a) (pa:O a) (n1:a≠1) (ln:l.length<=Ab) (q:Bi h a (l.map (·.1)) vs) (r:R vs)
inductive CAt(vs:List Value)(A:Value->Prop)(B:List Value->Prop):Prop where
 |mk (v:Value) (r:List Value) (e:vs=v::r) (a:A v) (b:B r)
structure Eh(m:Str->Option Value)(a t:Addr)(kd:Str)(f l:Int):Prop where
 th:m ("things" : Str)=some (.ref a)
 tu:m ("turns" : Str)=some (.ref t)
 kd:∃k,m ("kind" : Str)=some (.str kd k)
 fr:∃k,m ("fresh" : Str)=some (.int f k)
 lf:∃k,m ("left" : Str)=some (.int l k)
 no:∀x,x∉(["things","turns","kind","fresh","left"]:List Str)->m x=none
inductive On(h:Heap)(O:Addr->Prop)(v:Value)(n:List PV)(tu:List (Key×PV))(kd:Str)(f l:Int)(R1 R2:List Value->Prop):Prop where
 |mk (x dx a t:Addr) (m:Str->Option Value) (vs:Array Value) (us:List Value) (e:v=.ref x) (ox:O x) (od:O dx) (oa:O a) (ot:O t)
  (hx:∃o,h.get? x=some o/\o.cls=.ref CA/\o.dict=some dx/\o.data=.plain) (ns:h.Ns1 dx m) (am:Eh m a t kd f l) (sk:PyData.strOk kd=true) (ne:dx≠t)
  (im:PV.Bm n=true/\PV.Bm (tu.map (·.2))=true) (q:SeqAt h "list" a vs) (ln:n.length<=Ab) (r:R1 vs.toList) (n1:t≠1) (lt:tu.length<=Ab) (dq:Bi h t (tu.map (·.1)) us) (dr:R2 us)
variable (h:Heap)(P:Addr->Prop)
mutual
def Rd:PV->Value->Prop
 |.none,v=>v=.none
 |.bool b,v=>v=.bool b
 |.int i,v=>∃t,v=.int i t
 |.tuple l,v=>Iz h v l.length (Rds l)
 |.list l,v=>M7 h P v l.length (Rds l)
 |.dict l,v=>R4 h P v l (RdKV l)
 |.str x,v=>PyData.strOk x=true/\∃t,v=.str x t
 |.obj th tu kd f l,v=>On h P v th tu kd f l (Rds th) (RdKV tu)
def Rds:List PV->List Value->Prop
 |[],vs=>vs=[]
 |d::ds,vs=>CAt vs (Rd d) (Rds ds)
def RdKV:List (Key×PV)->List Value->Prop
 |[],vs=>vs=[]
 |(_,d)::ds,vs=>CAt vs (Rd d) (RdKV ds)
end
def CV(O:Addr->Prop):PV->Value->Prop
 |.list l,v=>M7 h O v l.length (Rds h P l)
 |.dict l,v=>R4 h O v l (RdKV h P l)
 |.obj th tu kd f l,v=>On h O v th tu kd f l (Rds h P th) (RdKV h P tu)
 |d,v=>Rd h P d v
end
def LD(o:Obj):Prop:=(o.cls=.type "list" \/ o.cls=.type "dict")\/o.cls=.ref CA\/∃es n,o.data=.dict es n
def P8(P:Addr->Prop)(a:Addr)(o:Obj):Prop:=
 (∃vs n,o.data=.seq vs n/\(o.cls=.type "tuple" \/ (P a/\o.cls=.type "list")))\/(∃es n,o.data=.dict es n/\P a)\/(o.data=.plain/\P a)
def Kp(P:Addr->Prop)(h h':Heap):Prop:=∀a o,h.get? a=some o->P8 P a o->h'.get? a=some o
theorem SeqAt.to(x:SeqAt h T a vs)(k:∀o n,h.get? a=some o->o.cls=.type T->o.data=.seq vs n->h'.get? a=some o):SeqAt h' T a vs:=
 let ⟨n,ho⟩:=x;⟨n,k _ n ho rfl rfl⟩
theorem SeqAt.isTuple (x:SeqAt h "tuple" a vs):h.IsTuple a vs:=let ⟨n,ho⟩:=x;⟨_,ho,rfl,n,rfl⟩
theorem Ik(k:Kp P h h')(x:IsTupleKey (intKind prog w) h ks a):IsTupleKey (intKind prog w) h' ks a:=
 let ⟨o,it,n,ho,hc,hd,r⟩:=x;⟨o,it,n,k a o ho (.inl ⟨_,_,hd,.inl hc⟩),hc,hd,r⟩
theorem Om.to(k:Kp P h h')(x:Om h xs):Om h' xs:=λy hy=>
 let ⟨us,q,l⟩:=x y hy;⟨us,q.to λo J ho hc hd=>k _ o ho (.inl ⟨_,_,hd,.inl hc⟩),l⟩
theorem Bi.to(k:Kp P h h')(pa:P a)(x:Bi h a ks vs):Bi h' a ks vs:=by
 rcases x with⟨kvs,⟨o,es,ep,ho,hx,hd,r⟩,e⟩|⟨xs,⟨o,es,ep,ho,hx,hd,he,hk,hn⟩,e,e',e2⟩
 ·exact .inl ⟨kvs,⟨o,es,ep,k a o ho (.inr (.inl ⟨_,_,hd,pa⟩)),hx,hd,r⟩,e⟩
 ·exact .inr ⟨xs,⟨o,es,ep,k a o ho (.inr (.inl ⟨_,_,hd,pa⟩)),hx,hd,he,λx hm=>Ik k (hk x hm),hn⟩,e,e',e2.to k⟩
theorem On.to(_k:Kp P h h')(ko:Kp O h h')(k1:∀{vs},R1 vs->pV vs)(k2:∀{vs},R2 vs->pU vs)(x:On h O v n tu kd f l R1 R2):On h' O v n tu kd f l pV pU:=by
 obtain⟨x,dx,a,t,m,vs,us,e,ox,od,oa,ot,⟨o,ho,hc,hd,hp⟩,ns,am,sk,ne,im,q,ln,r,n1,lt,dq,dr⟩:=x;refine⟨x,dx,a,t,m,vs,us,e,ox,od,oa,ot,⟨o,ko x o ho (.inr (.inr ⟨hp,ox⟩)),hc,hd,hp⟩,?_,am,sk,ne,im,q.to λo J ho hc hd=>ko a o ho (.inl ⟨_,_,hd,.inr ⟨oa,hc⟩⟩),ln,k1 r,n1,lt,dq.to ko ot,k2 dr⟩;obtain⟨o,es,ep,e1,e2,r⟩:=ns;exact⟨o,es,ep,ko dx o e1 (.inr (.inl ⟨_,_,e2,od⟩)),e2,r⟩
theorem On.imp(ko:∀a o,h.get? a=some o->LD o->O a->O' a)(k1:∀{vs},R1 vs->pV vs)(k2:∀{vs},R2 vs->pU vs)(x:On h O v n tu kd f l R1 R2):On h O' v n tu kd f l pV pU:=by
 obtain⟨x,dx,a,t,m,vs,us,e,ox,od,oa,ot,hx,ns,am,sk,ne,im,q,ln,r,n1,lt,dq,dr⟩:=x;refine⟨x,dx,a,t,m,vs,us,e,?_,?_,?_,?_,hx,ns,am,sk,ne,im,q,ln,k1 r,n1,lt,dq,k2 dr⟩
 ·refine Ca hx λo ho hc J=>?_;exact ko x o ho (.inr (.inl hc)) ox
 ·obtain⟨o,es,ep,e1,e2,_⟩:=ns;exact ko dx o e1 (.inr (.inr ⟨_,_,e2⟩)) od
 ·obtain⟨_,ho⟩:=q;exact ko a _ ho (.inl (.inl rfl)) oa
 ·rcases dq with⟨_,⟨o,_,_,ho,hx,_⟩,_⟩|⟨_,⟨o,_,_,ho,hx,_⟩,_⟩<;>exact ko t o ho (.inl (.inr hx.1)) ot
mutual
theorem Rd.to(k:Kp P h h'):∀(d:PV){v:Value},Rd h P d v->Rd h' P d v
 |.none,_,x=>x
 |.bool _,_,x=>x
 |.int _,_,x=>x
 |.tuple l,_,⟨a,vs,e,q,n,r⟩=>⟨a,vs,e,q.to λo J ho hc hd=>k a o ho (.inl ⟨_,_,hd,.inl hc⟩),n,Rds.to k l r⟩
 |.list l,_,⟨a,vs,e,pa,q,n,r⟩=>⟨a,vs,e,pa,q.to λo J ho hc hd=>k a o ho (.inl ⟨_,_,hd,.inr ⟨pa,hc⟩⟩),n,Rds.to k l r⟩
 |.dict l,_,⟨a,vs,e,pa,n1,n,q,r⟩=>⟨a,vs,e,pa,n1,n,q.to k pa,RdKV.to k l r⟩
 |.str _,_,x=>x
 |.obj th tu _ _ _,_,o=>On.to k k (Rds.to k th) (RdKV.to k tu) o
theorem Rds.to(k:Kp P h h'):∀(l:List PV){vs:List Value},Rds h P l vs->Rds h' P l vs
 |[],_,x=>x
 |d::ds,_,⟨v,r,e,a,b⟩=>⟨v,r,e,Rd.to k d a,Rds.to k ds b⟩
theorem RdKV.to(k:Kp P h h'):∀(l:List (Key×PV)){vs:List Value},RdKV h P l vs->RdKV h' P l vs
 |[],_,x=>x
 |(_,d)::ds,_,⟨v,r,e,a,b⟩=>⟨v,r,e,Rd.to k d a,RdKV.to k ds b⟩
end
mutual
theorem Rd.imp(k:∀a o,h.get? a=some o->LD o->P a->P' a):∀(d:PV){v:Value},Rd h P d v->Rd h P' d v
 |.none,_,x=>x
 |.bool _,_,x=>x
 |.int _,_,x=>x
 |.tuple l,_,⟨a,vs,e,q,n,r⟩=>⟨a,vs,e,q,n,Rds.imp k l r⟩
 |.list l,_,⟨a,vs,e,pa,q,n,r⟩=>⟨a,vs,e,(let ⟨_,ho⟩:=q;k a _ ho (.inl (.inl rfl)) pa),q,n,Rds.imp k l r⟩
 |.dict l,_,⟨a,vs,e,pa,n1,n,q,r⟩=>⟨a,vs,e,(by
   rcases q with⟨_,⟨o,_,_,ho,hx,_⟩,_⟩|⟨_,⟨o,_,_,ho,hx,_⟩,_⟩<;>exact k a o ho (.inl (.inr hx.1)) pa),n1,n,q,RdKV.imp k l r⟩
 |.str _,_,x=>x
 |.obj th tu _ _ _,_,o=>On.imp k (Rds.imp k th) (RdKV.imp k tu) o
theorem Rds.imp(k:∀a o,h.get? a=some o->LD o->P a->P' a):∀(l:List PV){vs:List Value},Rds h P l vs->Rds h P' l vs
 |[],_,x=>x
 |d::ds,_,⟨v,r,e,a,b⟩=>⟨v,r,e,Rd.imp k d a,Rds.imp k ds b⟩
theorem RdKV.imp(k:∀a o,h.get? a=some o->LD o->P a->P' a):∀(l:List (Key×PV)){vs:List Value},RdKV h P l vs->RdKV h P' l vs
 |[],_,x=>x
 |(_,d)::ds,_,⟨v,r,e,a,b⟩=>⟨v,r,e,Rd.imp k d a,RdKV.imp k ds b⟩
end
mutual
theorem Rd.Bj:∀(d:PV){v:Value},d.Ot=true->Rd h P d v->Rd h P' d v
 |.none,_,_,x=>x
 |.bool _,_,_,x=>x
 |.int _,_,_,x=>x
 |.tuple l,_,i,⟨a,vs,e,q,n,r⟩=>⟨a,vs,e,q,n,Rds.Bj l (by simpa [PV.Ot] using i) r⟩
 |.list l,_,i,_=>by simp[PV.Ot] at i
 |.dict l,_,i,_=>by simp[PV.Ot] at i
 |.str _,_,_,x=>x
 |.obj ..,_,i,_=>by cases i
theorem Rds.Bj:∀(l:List PV){vs:List Value},PV.Bm l=true->Rds h P l vs->Rds h P' l vs
 |[],_,_,x=>x
 |d::ds,_,i,⟨v,r,e,a,b⟩=>by
  simp only[PV.Bm,Bool.and_eq_true] at i;exact⟨v,r,e,Rd.Bj d i.1 a,Rds.Bj ds i.2 b⟩
end
theorem RdKV.Bj:∀(l:List (Key×PV)){vs:List Value},PV.Bm (l.map (·.2))=true->RdKV h P l vs->RdKV h P' l vs
 |[],_,_,x=>x
 |(_,d)::ds,_,i,⟨v,r,e,a,b⟩=>by
  simp only[map_cons,PV.Bm,Bool.and_eq_true] at i;exact⟨v,r,e,Rd.Bj d i.1 a,RdKV.Bj ds i.2 b⟩
theorem Rds.length:∀{l:List PV}{vs:List Value},Rds h P l vs->vs.length=l.length
 |[],_,x=>zr (show _=_ from x) rfl
 |d::ds,_,⟨v,r,e,a,b⟩=>by subst e;simp[Rds.length b]
theorem Rds.get:∀{l:List PV}{vs:List Value}{i:Nat}{d:PV},Rds h P l vs->l[i]?=some d->∃v,vs[i]?=some v/\Rd h P d v
 |[],_,_,_,_,e=>by simp at e
 |d::ds,_,0,_,⟨v,r,e,a,b⟩,q=>by subst e;simp at q;subst q;exact⟨v,rfl,a⟩
 |d::ds,_,i+1,_,⟨v,r,e,a,b⟩,q=>by
  subst e;simp only[getElem?_cons_succ] at q ⊢;exact Rds.get b q
theorem Rds.none:∀{l:List PV}{vs:List Value}{i:Nat},Rds h P l vs->l[i]?=Option.none->vs[i]?=Option.none:=λx e=>by
 simp only[List.getElem?_eq_none_iff] at e ⊢;exact w4 x.length e
theorem Rds.append:∀{l m:List PV}{vs us:List Value},Rds h P l vs->Rds h P m us->Rds h P (l++m) (vs++us)
 |[],_,_,_,x,y=>by exact zr (show _=_ from x) y
 |d::ds,_,_,_,⟨v,r,e,a,b⟩,y=>by subst e;exact⟨v,r++_,rfl,a,b.append y⟩
theorem Rds.drop:∀{l:List PV}{vs:List Value}(n:Nat),Rds h P l vs->Rds h P (l.drop n) (vs.drop n)
 |_,_,0,x=>x
 |[],_,n+1,x=>zr (show _=_ from x) rfl
 |d::ds,_,n+1,⟨v,r,e,a,b⟩=>by subst e;exact b.drop n
theorem Rds.take:∀{l:List PV}{vs:List Value}(n:Nat),Rds h P l vs->Rds h P (l.take n) (vs.take n)
 |_,_,0,_=>rfl
 |[],_,n+1,x=>zr (show _=_ from x) rfl
 |d::ds,_,n+1,⟨v,r,e,a,b⟩=>by subst e;exact⟨v,r.take n,rfl,a,b.take n⟩
theorem Rds.one(x:Rd h P d v):Rds h P [d] [v]:=⟨v,[],rfl,x,rfl⟩
theorem CV.imp(ko:∀a o,h.get? a=some o->LD o->O a->O' a)(k:∀a o,h.get? a=some o->LD o->P a->P' a)(x:CV h P O d v):CV h P' O' d v:=by
 cases d with
 |list l=>obtain⟨a,vs,e,pa,q,n,r⟩:=x;exact⟨a,vs,e,(let ⟨_,ho⟩:=q;ko a _ ho (.inl (.inl rfl)) pa),q,n,Rds.imp k l r⟩
 |dict l=>
  obtain⟨a,vs,e,pa,n1,n,q,r⟩:=x;exact⟨a,vs,e,(by rcases q with⟨_,⟨o,_,_,ho,hx,_⟩,_⟩|⟨_,⟨o,_,_,ho,hx,_⟩,_⟩<;>exact ko a o ho (.inl (.inr hx.1)) pa),n1,n,q,RdKV.imp k l r⟩
 |none=>exact x
 |bool _=>exact x
 |int _=>exact x
 |str _=>exact x
 |obj th tu _ _ _=>exact On.imp ko (Rds.imp k th) (RdKV.imp k tu) x
 |tuple l=>exact Rd.imp k (.tuple l) x
theorem CV.to(k:Kp P h h')(ko:Kp O h h')(x:CV h P O d v):CV h' P O d v:=by
 cases d with
 |list l=>obtain⟨a,vs,e,pa,q,n,r⟩:=x;exact⟨a,vs,e,pa,q.to λo J ho hc hd=>ko a o ho (.inl ⟨_,_,hd,.inr ⟨pa,hc⟩⟩),n,Rds.to k l r⟩
 |dict l=>obtain⟨a,vs,e,pa,n1,n,q,r⟩:=x;exact⟨a,vs,e,pa,n1,n,q.to ko pa,RdKV.to k l r⟩
 |none=>exact x
 |bool _=>exact x
 |int _=>exact x
 |str _=>exact x
 |obj th tu _ _ _=>exact On.to k ko (Rds.to k th) (RdKV.to k tu) x
 |tuple l=>exact Rd.to k (.tuple l) x
theorem CV.rd(x:CV h P O d v):Rd h (λa=>P a\/O a) d v:=by
 cases d with
 |list l=>obtain⟨a,vs,e,pa,q,n,r⟩:=x;exact⟨a,vs,e,.inr pa,q,n,Rds.imp (λJ J J J p=>.inl p) l r⟩
 |dict l=>obtain⟨a,vs,e,pa,n1,n,q,r⟩:=x;exact⟨a,vs,e,.inr pa,n1,n,q,RdKV.imp (λJ J J J p=>.inl p) l r⟩
 |none=>exact x
 |bool _=>exact x
 |int _=>exact x
 |str _=>exact x
 |obj th tu _ _ _=>exact On.imp (λJ J J J p=>.inr p) (Rds.imp (λJ J J J p=>.inl p) th) (RdKV.imp (λJ J J J p=>.inl p) tu) x
 |tuple l=>exact Rd.imp (λJ J J J p=>.inl p) (.tuple l) x
theorem Rd.o(x:Rd h P d v):CV h P P d v:=by
 cases d with
 |list l=>exact x
 |dict l=>exact x
 |none=>exact x
 |bool _=>exact x
 |int _=>exact x
 |str _=>exact x
 |obj _ _ _ _ _=>exact x
 |tuple l=>exact x
end
@[elab_as_elim] theorem Iz.el {motive:Value->Prop} {h:Heap} {v:Value} {n:Nat} {R:List Value->Prop} (r:Iz h v n R) (H:∀a vs m,h.get? a=some { cls:=.type "tuple",dict:=Option.none,data:=.seq vs m,slots:=#[] }->n<=Ab->R vs.toList->motive (.ref a)):motive v:=by
 obtain⟨a,vs,rfl,⟨m,q⟩,ln,r⟩:=r;exact H a vs m q ln r
@[elab_as_elim] theorem M7.el {motive:Value->Prop} {h:Heap} {O:Addr->Prop} {v:Value} {n:Nat} {R:List Value->Prop} (r:M7 h O v n R) (H:∀a vs,O a->∀m,h.get? a=some { cls:=.type "list",dict:=Option.none,data:=.seq vs m,slots:=#[] }->n<=Ab->R vs.toList->motive (.ref a)):motive v:=by
 obtain⟨a,vs,rfl,o,⟨m,q⟩,ln,r⟩:=r;exact H a vs o m q ln r
@[elab_as_elim] theorem R4.el {motive:Value->Prop} {h:Heap} {O:Addr->Prop} {v:Value} {l:List (Key×PV)} {R:List Value->Prop} (r:R4 h O v l R) (H:∀a vs,O a->a≠1->l.length<=Ab->Bi h a (l.map (·.1)) vs->R vs->motive (.ref a)):motive v:=by
 obtain⟨a,vs,rfl,o,n1,ln,q,r⟩:=r;exact H a vs o n1 ln q r
@[elab_as_elim] theorem CB {motive:Value->Prop} {v:Value} {i:Int} (r:∃t,v=.int i t) (H:∀t,motive (.int i t)):motive v:=by
 obtain⟨t,rfl⟩:=r;exact H t
@[elab_as_elim] theorem At {α:Type} {motive:α->Prop} {x d:α} (e:Res.ok x=.ok d) (p:motive x):motive d:=by cases e;exact p
noncomputable abbrev up(s:Shared)(h:Heap)(tk:Nat):Shared:={ s with heap:=h,toks:=tk }
noncomputable def frs(A:Around):List Addr:=(A.frames.getD []).filterMap (·.frame)
def Ap(l:List Addr)(h h':Heap):Prop:=∀b o,h.get? b=some o->(b∉l->h'.get? b=some o)/\∃sl,h'.get? b=some { o with slots:=sl }
inductive AX(A:Around)(s s':Shared):Prop where
 |mk (h':Heap) (tk:Nat) (e:s'=(up s (h') (tk))) (k:Ap (frs A) s.heap h')
theorem Ap.of_keeps(k:∀b o,h.get? b=some o->h'.get? b=some o):Ap l h h':=λb o e=>⟨λJ=>k b o e,o.slots,k b o e⟩
theorem Ap.refl(h:Heap):Ap l h h:=.of_keeps λJ J e=>e
theorem Ap.trans(x:Ap l h h')(y:Ap l h' fh):Ap l h fh:=λb o ho=>by
 refine⟨λhb=>(y b o ((x b o ho).1 hb)).1 hb,?_⟩;obtain⟨sl,e⟩:=(x b o ho).2;obtain⟨Yd,e'⟩:=(y b _ e).2;exact⟨Yd,e'⟩
theorem Ap.none(x:Ap l h h')(e:h'.get? a=Option.none):h.get? a=Option.none:=by
 cases q:h.get? a with
 |none=>rfl
 |some o=>obtain⟨sl,e'⟩:=(x a o q).2;rw[e] at e';cases e'
theorem Ap.some(x:Ap l h h')(e:∃o,h.get? a=some o):∃o,h'.get? a=some o:=by
 obtain⟨o,e⟩:=e;obtain⟨sl,e'⟩:=(x a o e).2;exact⟨_,e'⟩
theorem Ap.ns(x:Ap l h h')(hn:h.Ns a m):h'.Ns a m:=by
 obtain⟨o,es,ep,ho,hd,r⟩:=hn;obtain⟨sl,e⟩:=(x a o ho).2;exact⟨_,es,ep,e,hd,r⟩
theorem Ap.cell(x:Ap l h h')(hn:h.IsCell a v):h'.IsCell a v:=by
 obtain⟨o,ho,hd⟩:=hn;obtain⟨sl,e⟩:=(x a o ho).2;exact⟨_,e,hd⟩
theorem AX.of_keeps(k:Keeps s s'):AX A s s':=let ⟨h',tk,e,q⟩:=k;⟨h',tk,e,.of_keeps q⟩
theorem AX.refl(s:Shared):AX A s s:=⟨s.heap,s.toks,rfl,.refl _⟩
theorem AX.trans(x:AX A s s')(y:AX A s' M8):AX A s M8:=by
 obtain⟨h1,t1,rfl,k1⟩:=x;obtain⟨h2,t2,rfl,k2⟩:=y;exact⟨h2,t2,rfl,k1.trans k2⟩
theorem AX.h(x:AX A s s'):Ap (frs A) s.heap s'.heap:=by obtain⟨h1,t1,rfl,k1⟩:=x;exact k1
theorem AX.tok(s:Shared)(t:Nat):AX A s { s with toks:=t }:=⟨s.heap,t,rfl,.refl _⟩
theorem AX.push(s:Shared)(o:Obj)(t:Nat):AX A s (up s (s.heap.push o) (t)):=⟨_,t,rfl,.of_keeps λJ J e=>mi _ e⟩
structure Cx where
 env:Env
 A:Around
 h0:Heap
 P0:Addr->Prop
 names:List (Str×Nat)
 mv:List Nat
noncomputable def EU:Nat:=1000000007
def Fz(c:Cx)(own:Addr->Option Nat)(a:Addr):Prop:=(c.P0 a\/c.h0.get? a=none)/\own a=none
inductive Ed(h:Heap)(env:Env)(x:Str)(v:Value):Prop where
 |inl (k:env.kindOf x=some .local) (m:Str->Option Value) (hn:h.Ns env.locals m) (e:m x=some v)
 |inr (k:env.kindOf x=some .cell) (c:Addr) (hl:env.cells.lookup x=some c) (hc:h.IsCell c (some v))
structure Ex(c:Cx):Prop where
 kind:c.env.scope.kind=.function
 nodupN:(c.names.map (·.1)).Nodup
 nodupI:(c.names.map (·.2)).Nodup
 kinds:∀x i,(x,i)∈c.names->c.env.kindOf x=some .local\/(c.env.kindOf x=some .cell/\∃a,c.env.cells.lookup x=some a)
 debug:∀x i,(x,i)∈c.names->(x==("__debug__" : Str))=false
 apart:c.env.cells.Pairwise λx y=>x.2≠y.2
 handled:c.A.handled=none
 dumNot:EU∉c.mv
 units:c.A.units+200<cLine
 frames:∃l,c.A.frames=some l/\∀e∈l,e.scope.kind≠.module/\∃L,e.frame=some L
def DB(h:Heap)(c:Cx)(own:Addr->Option Nat)(i:Nat)(d:PV)(v:Value):Prop:=
 if i∈c.mv then CV h (Fz c own) (λa=>own a=some i) d v else Rd h (Fz c own) d v
structure St(c:Cx)(own:Addr->Option Nat)(ρ:AP)(s:Shared):Prop where
 base:Ap (frs c.A) c.h0 s.heap
 fr:∀a∈frs c.A,own a=some EU/\∃m,s.heap.Ns a m
 loc:own c.env.locals=some EU/\∃m,s.heap.Ns c.env.locals m
 locNew:c.h0.get? c.env.locals=none
 cell:∀n a,c.env.cells.lookup n=some a->∃v,s.heap.IsCell a v
 cellNew:∀n a,c.env.cells.lookup n=some a->c.h0.get? a=none
 ownIn:∀a,own a≠none->∃o,s.heap.get? a=some o
 ownNew:∀a i,own a=some i->i∈c.mv->c.h0.get? a=none
 vars:∀x i d,(x,i)∈c.names->ρ[i]?=some (some d)->∃v,Ed s.heap c.env x v/\DB s.heap c own i d v
theorem Ed.grow(g:Ap l h h'):Ed h env x v->Ed h' env x v
 |.inl k m hn e=>.inl k m (g.ns hn) e
 |.inr k a hl hc=>.inr k a hl (g.cell hc)
theorem St.kp(x:St c own ρ s)(hP:∀a,P a->own a≠some EU)(g:Ap (frs c.A) s.heap h'):Kp P s.heap h':=λa o ho hm=>by
 refine(g a o ho).1 λhf=>?_
 obtain⟨h1,m,o',es,ep,Ah,hd,_⟩:=x.fr a hf;rw[ho] at Ah;cases Ah
 rcases hm with⟨vs,n,Au,_⟩|⟨_,_,_,hp⟩|⟨_,hp⟩
 ·rw[hd] at Au;cases Au
 ·exact hP a hp h1
 ·exact hP a hp h1
theorem Aq(x:Fz c own a):own a≠some EU:=λe=>by rw[x.2] at e;cases e
theorem DB.kp(k1:Kp (Fz c own) h h')(k2:i∈c.mv->Kp (λa=>own a=some i) h h')(x:DB h c own i d v):DB h' c own i d v:=by
 unfold DB at x ⊢;split
 ·rename_i hi;rw[XL hi] at x;exact x.to k1 (k2 hi)
 ·rename_i hi;rw[Yf hi] at x;exact Rd.to k1 d x
theorem St.grow(ok:Ex c)(x:St c own ρ s)(g:AX c.A s s'):St c own ρ s' where
 base:=x.base.trans g.h
 fr:=λa ha=>let ⟨h1,m,hm⟩:=x.fr a ha;⟨h1,m,g.h.ns hm⟩
 loc:=let ⟨h1,m,hm⟩:=x.loc;⟨h1,m,g.h.ns hm⟩
 locNew:=x.locNew
 cell:=λn a h=>let ⟨v,hv⟩:=x.cell n a h;⟨v,g.h.cell hv⟩
 cellNew:=x.cellNew
 ownIn:=λa h=>g.h.some (x.ownIn a h)
 ownNew:=x.ownNew
 vars:=λy i d hm hd=>by
  refine AE (x.vars y i d hm hd) λv hv hr=>?_
  refine⟨v,hv.grow g.h,hr.kp (x.kp (λa h=>Aq h) g.h) λhi=>x.kp (λa h e=>?_) g.h⟩;rw[h] at e;cases e;exact ok.dumNot hi
theorem St.load(ok:Ex c)(x:St c own ρ s)(hm:(y,i)∈c.names)(hd:ρ[i]?=some (some d))
  (h:∀v,DB s.heap c own i d v->Q v s):wpAny M A (loadName c.env y) Q E s:=by
 refine AE (x.vars y i d hm hd) λv hv hr=>?_
 rcases hv with⟨k,m,hn,e⟩|⟨k,a,hl,hc⟩
 ·exact A1V ok.kind k hn e (h v hr)
 ·exact wpAny_loadName_cell ok.kind k hl hc (h v hr)
section
set_option backward.eqns.nonrecursive false
inductive Cl where|safe|fresh|own|any
 deriving DecidableEq
inductive GE where
 |fn (i ar:Nat) (fr:Bool)
 |const (d:PV)
structure TC where
 scope:List (Str×NameKind)
 slots:List (Str×Nat)
 mv:List Nat
 G:List (Str×GE)
 cbase:Nat
noncomputable def Cl.inner:Cl->Bool
 |.safe|.fresh=>true
 |_=>false
noncomputable def Cl.top:Cl->Bool
 |.any=>false
 |_=>true
noncomputable def Cd(l:List Cl):Cl:=if l.all Cl.inner then .safe else .any
noncomputable def Pt:Operator->Option yV
 |.Add=>some .add|.Sub=>some .sub|.Mult=>some .mul|.FloorDiv=>some .fdiv|.Mod=>some .mod
 |_=>none
noncomputable def JW:CmpOp->mX
 |.Eq=>.eq|.NotEq=>.ne|.Lt=>.lt|.Gt=>.gt|.GtE=>.ge|.In=>.isIn|.NotIn=>.notIn|.Is=>.is_|.IsNot=>.isNot|_=>.no
noncomputable def TC.glob(t:TC)(x:Str):Bool:=t.scope.lookup x==some .globalImplicit
noncomputable def TC.bi(t:TC)(x y:Str):Bool:=t.glob x&&(t.G.lookup x).isNone&&x==y
noncomputable def TC.slot(t:TC)(x:Str):Option Nat:=
 if t.scope.lookup x==some .local||t.scope.lookup x==some .cell then t.slots.lookup x else none
noncomputable def O0:List (Str×Ty):=[("int",.int),("bool",.bool),("tuple",.tuple),("list",.list),("str",.str)]
inductive VO(t:TC):Expr->Ty->Prop where
 |name {T:Str} {yp:Pos} {ty:Ty} (h:t.bi T T=true) (ht:O0.lookup T=some ty):VO t (.Name T yp) ty
 |seq {X Y:Str} {xp yp tp:Pos} {tk:Nat} (hx:t.bi X "tuple" = true) (hy:t.bi Y "list" = true):VO t (.Tuple [.Name X xp,.Name Y yp] tk tp) .seq
def ub(t:TC)(y:Expr):Option { ty:Ty // VO t y ty }:=
 vT y (vN y none λT yp=>iF (t.bi T T=true) λh=>oH (O0.lookup T) λty ht=>some ⟨ty,.name h ht⟩)
  λes tk tp=>ag es none λa b=>vN a none λX xp=>vN b none λY yp=>iF (t.bi X "tuple" = true/\t.bi Y "list" = true) λh=>some ⟨.seq,.seq h.1 h.2⟩
noncomputable def O7:List (Str×I0):=[("len",.len),("abs",.abs),("list",.listOf),("tuple",.tupleOf),("int",.intOf),("all",.all),("max",.max2),("min",.min2),("dict",.dictOf)]
noncomputable def Hg(t:TC)(f:Str)(n:Nat):Option I0:=if t.bi f f then(if n==1&&f==("max" : Str) then some .maxL else O7.lookup f) else none
noncomputable def Df(outer:List (Str×NameKind))(names:List (Str×NameKind)):List (Str×NameKind):=
 names.map λp=>if p.2==.free&&outer.lookup p.1==some .cell then(p.1,.cell) else p
def Bz(t:TC)(names:List (Str×NameKind))(xs:List Str):List (Str×Nat):=
 xs.zipIdx.map (λp=>(p.1,t.cbase+p.2))++t.slots.filter λp=>!xs.contains p.1&&(Df t.scope names).lookup p.1==some .cell
def compTC(t:TC)(names:List (Str×NameKind))(xs:List Str):TC:=
 { t with scope:=Df t.scope names,slots:=Bz t names xs,cbase:=t.cbase+xs.length }
inductive VR:Expr->Bool->List Str->Prop where
 |one {x:Str} {p:Pos}:VR (.Name x p) true [x]
 |many {es:List Expr} {ps:List (Str×Pos)} {k:Nat} {p:Pos} (h:es=ps.map λp=>.Name p.1 p.2):VR (.Tuple es k p) false (ps.map (·.1))
noncomputable def jC:(es:List Expr)->Option { ps:List (Str×Pos) // es=ps.map λp=>.Name p.1 p.2 }
 |[]=>some ⟨[],rfl⟩
 |e::es=>vN e none λx p=>(jC es).bind λr=>some ⟨(x,p)::r.1,A0U (.Name x p::·) r.2⟩
def j9(e:Expr):Option { q:Bool×List Str // VR e q.1 q.2 }:=vN e (vT e none λes k p=>(jC es).bind λr=>some ⟨(false,r.1.map (·.1)),.many r.2⟩) λx p=>some ⟨(true,[x]),.one⟩
noncomputable def Ke(t:TC)(names:List (Str×NameKind))(xs:List Str):Bool:=
 xs.all (λx=>names.lookup x==some .local&&!(x==("__debug__" : Str))&&!(x==(".0" : Str)))&&decide xs.Nodup &&
 names.all (λp=>p.2==.local||p.2==.globalImplicit||(p.2==.free&&t.scope.lookup p.1==some .cell&&(t.slots.lookup p.1).isSome)) &&
 names.all (λp=>p.2 != .local||p.1==(".0" : Str)||xs.contains p.1)&&decide ((names.map (·.1)).Nodup)
noncomputable def AN(e:Expr):Bool:=Nat.beq e.ctorIdx 22
noncomputable def oF{β:Type}(G:List (Str×GE))(x:Str)(k:∀i ar fr,G.lookup x=some (.fn i ar fr)->Option β):Option β:=oH (G.lookup x) λe=>GE.casesOn (motive:=λe=>G.lookup x=some e->Option β) e k λ_ _=>none
noncomputable def oK{β:Type}(G:List (Str×GE))(x:Str)(k:∀d,G.lookup x=some (.const d)->Option β):Option β:=oH (G.lookup x) λe=>GE.casesOn (motive:=λe=>G.lookup x=some e->Option β) e (λ_ _ _ _=>none) k
end
section
set_option backward.eqns.nonrecursive false
def D9(c:Cx)(own:Addr->Option Nat)(B8 h:Heap):Cl->PV->Value->Prop
 |.safe,d,v=>Rd h (Fz c own) d v
 |.fresh,d,v=>CV h (λb=>Fz c own b/\v≠.ref b) (λa=>B8.get? a=none) d v
 |.own,d,v=>CV h (Fz c own) (λa=>c.h0.get? a=none/\own a≠some EU/\own a≠none) d v
 |.any,d,v=>Rd h (λa=>(c.P0 a\/c.h0.get? a=none)/\own a≠some EU) d v
abbrev Tp(c:Cx)(own:Addr->Option Nat)(h:Heap)(d:PV)(v:Value):Prop:=CV h (Fz c own) (λa=>own a≠some EU) d v
section
variable {c:Cx}{own:Addr->Option Nat}{ρ:AP}{s s':Shared}{k:Cl}{d:PV}{v:Value}{B8 h h':Heap}
theorem St.Co(x:St c own ρ s)(e:s.heap.get? a=none):own a=none:=by
 cases q:own a with
 |none=>rfl
 |some i=>obtain⟨o,ho⟩:=x.ownIn a (zr q (λz=>by cases z));rw[e] at ho;cases ho
theorem St.BS(x:St c own ρ s)(e:s.heap.get? a=none):c.h0.get? a=none:=x.base.none e
theorem St.SB(x:St c own ρ s)(e:s.heap.get? a=none):Fz c own a:=⟨.inr (x.BS e),x.Co e⟩
theorem D9.tp(x:St c own ρ s)(hk:k.top=true)(r:D9 c own s.heap h k d v):Tp c own h d v:=by
 cases k with
 |safe=>exact CV.imp (λa J J J p=>Aq p) (λJ J J J p=>p) (Rd.o r)
 |fresh=>exact CV.imp (λa _ _ _ (p:s.heap.get? a=none)=>zr (x.Co p) (λz=>by cases z)) (λJ J J J p=>p.1) r
 |own=>exact CV.imp (λa J J J p=>p.2.1) (λJ J J J p=>p) r
 |any=>cases hk
theorem D9.rd(x:St c own ρ s)(hk:k.inner=true)(r:D9 c own s.heap h k d v):Rd h (Fz c own) d v:=by
 cases k with
 |safe=>exact r
 |fresh=>exact Rd.imp (λa J J J p=>p.elim (λq=>q.1) λ(q:s.heap.get? a=none)=>x.SB q) d (CV.rd r)
 |own=>cases hk
 |any=>cases hk
theorem D9.any(x:St c own ρ s)(r:D9 c own s.heap h k d v):Rd h (λa=>(c.P0 a\/c.h0.get? a=none)/\own a≠some EU) d v:=by
 cases k with
 |safe=>exact Rd.imp (λa J J J p=>⟨p.1,Aq p⟩) d r
 |fresh=>exact Rd.imp (λa J J J p=>p.elim (λq=>⟨q.1.1,Aq q.1⟩) λ(q:s.heap.get? a=none)=>⟨.inr (x.BS q),zr (x.Co q) (λz=>by cases z)⟩) d (CV.rd r)
 |own=>exact Rd.imp (λa J J J p=>p.elim (λq=>⟨q.1,Aq q⟩) λq=>⟨.inr q.1,q.2.1⟩) d (CV.rd r)
 |any=>exact r
theorem D9.back(g:Ap l B8 s.heap)(r:D9 c own s.heap h k d v):D9 c own B8 h k d v:=by
 cases k with
 |fresh=>exact CV.imp (λa _ _ _ (p:s.heap.get? a=none)=>g.none p) (λJ J J J p=>p) r
 |_=>exact r
theorem D9.grow(x:St c own ρ s)(aH:AX c.A s AG)(ok:Ex c)(g:AX c.A AG s₂)(r:D9 c own s.heap AG.heap k d v):D9 c own s.heap s₂.heap k d v:=by
 have P9:=x.grow ok aH;cases k with
 |safe=>exact Rd.to (P9.kp (λa h=>Aq h) g.h) d r
 |fresh=>exact CV.to (P9.kp (λa h=>Aq h.1) g.h) (P9.kp (λa (p:s.heap.get? a=none)=>zr (x.Co p) (λz=>by cases z)) g.h) r
 |own=>exact CV.to (P9.kp (λa h=>Aq h) g.h) (P9.kp (λa p=>p.2.1) g.h) r
 |any=>exact Rd.to (P9.kp (λa p=>p.2) g.h) d r
theorem Tp.grow(x:St c own ρ s)(g:AX c.A s s')(r:Tp c own s.heap d v):Tp c own s'.heap d v:=
 CV.to (x.kp (λa h=>Aq h) g.h) (x.kp (λa p=>p) g.h) r
theorem N7(hd:∀l,d≠.list l)(Au:∀l,d≠.dict l)(oG:∀a b c e g,d≠.obj a b c e g)(r:Rd h (Fz c own) d v):D9 c own B8 h .fresh d v:=by
 cases d with
 |list l=>exact absurd rfl (hd l)
 |dict l=>exact absurd rfl (Au l)
 |none=>exact r
 |bool _=>exact r
 |int _=>exact r
 |str _=>exact r
 |obj a b c e g=>exact absurd rfl (oG a b c e g)
 |tuple l=>
  refine Iz.el r λa vs n hs hn hr=>?_
  refine⟨a,vs,rfl,⟨n,hs⟩,hn,Rds.imp (λb o ho hc p=>⟨p,λq=>?_⟩) l hr⟩;injection q with q;subst q;rw[hs] at ho;cases ho
  rcases hc with(hc|hc)|hc|⟨_,_,hc⟩<;>simp at hc
theorem Hl(x:St c own ρ s)(hn:l.length<=Ab)(r:Rds s.heap (Fz c own) l vs.toList):
  D9 c own s.heap (s.heap.push { cls:=.type "list",data:=.seq vs }) .fresh (.list l) (.ref s.heap.objs.size):=by
 have e:s.heap.get? s.heap.objs.size=none:=by
  cases q:s.heap.get? s.heap.objs.size with
  |none=>rfl
  |some o=>exact absurd (A0m q) (Nat.lt_irrefl _)
 refine⟨_,vs,rfl,e,⟨0,A0L _ rfl⟩,hn,?_⟩;refine Rds.to (λa o ho J=>mi _ ho) l (Rds.imp (λa o ho J p=>⟨p,λq=>?_⟩) l r);injection q with q;rw[<-q,e] at ho;cases ho
theorem Cf(hn:l.length<=Ab)(r:Rds h P l vs.toList):
  Rd (h.push { cls:=.type "tuple",data:=.seq vs }) P (.tuple l) (.ref h.objs.size):=
 ⟨_,vs,rfl,⟨0,A0L _ rfl⟩,hn,Rds.to (λa o ho J=>mi _ ho) l r⟩
theorem BI(h:Heap):h.get? h.objs.size=none:=by
 cases q:h.get? h.objs.size with
 |none=>rfl
 |some o=>exact absurd (A0m q) (Nat.lt_irrefl _)
end
end
section
set_option maxRecDepth 100000
theorem GQ:fillsNumberSlot (.type "tuple") "mul" = pure false:=
 PySem.fillsNumberSlot_seq PySem.F.slot_tuple_mul.lookup (by decide +kernel) PySem.F.slot_tuple_rmul.lookup (by decide +kernel)
theorem Jx:seqRepeat? (.type "tuple")=pure (some (.builtin "tuple.__mul__")):=by
 unfold seqRepeat?;refine zr (PySem.seqSlot_of PySem.F.slot_tuple_mul.lookup (by decide +kernel)) (zr (PySem.seqSlot_of PySem.F.slot_tuple_rmul.lookup (by decide +kernel)) ?_);rfl
theorem Ih(a:Int)(t:Tok)(l:Addr)(items:Array Value)(n:Nat):
  Meets (Builtin.«int.__rmul__» ⟨[.int a t,.ref l],[]⟩) (λJ R s=>s.heap.get? l=some { cls:=.type "tuple",dict:=none,data:=.seq items n,slots:=#[] }/\R (.ok (.ret Value.notImplemented)) s):=
 .of_wp λprog w A R s h=>by obtain⟨hp,g,d,tk,os⟩:=s;obtain⟨hl,h⟩:=h;wp_walk;exact⟨_,rfl,h⟩
theorem Gu(l:Addr)(items:Array Value)(n:Nat)(x:Int)(u:Tok)(h1:2<=x)(h2:x<=100)(h4:items.size=1):
  Meets (Builtin.«tuple.__mul__» ⟨[.ref l,.int x u],[]⟩) (λJ R s=>s.heap.get? l=some { cls:=.type "tuple",dict:=none,data:=.seq items n,slots:=#[] }/\R (.ok (.ret (Value.ref s.heap.objs.size))) { s with heap:=s.heap.push { cls:=Value.type "tuple",data:=Data.seq (List.foldl (λx1 x2=>x1++x2) #[] (List.replicate x.toNat items)) },toks:=s.toks }):=
 .of_wp λprog w A R s h=>by
  obtain⟨hp,g,d,tk,os⟩:=s;obtain⟨hl,h⟩:=h;have BG:items.isEmpty=false:=by simp[Array.isEmpty,h4]
  have hx1:(x==1)=false:=A1l λe=>absurd (e▸h1) (by decide)
  have hz:(items.size:Int)*x<=100:=by refine zr h4 ?_;show 1*x<=100;exact zr (A1T x) h2
  have EF:(List.foldl (λx1 x2=>x1++x2) #[] (List.replicate x.toNat items)).size<=sizeLine:=by
   refine zr (PySem.AutoListH.size_joined _ _ _) (zr sizeLine_eq (zr h4 ?_));exact zr Array.size_empty (zr (A1v _) (zr (Nat.mul_one _) (mu (Int.toNat_le.2 h2) (by decide))))
  have hb:¬((items.size:Int)*x>(2 ^ 63-1)/8):=by
   exact A1I.2 (A0s hz (by decide))
  have ht:¬Builtin.Tuple.tupleTooMany ((items.size:Int)*x)=true:=by
   exact λe=>absurd (A0s (A1o (A0N e)) hz) (by decide +kernel)
  wp_walk;refine wpAny_ite_false (dV λe=>(Bool.or_eq_true_iff.1 e).elim (λe=>absurd (A0s h1 (A1o (A0N e))) (by decide)) λe=>absurd (A0s (A0N e) h2) (by decide)) ?_;wp_walk;refine wpAny_ite_false (dV (zr BG (zr (Bool.or_false _) λe=>absurd (A0s h1 (A0N e)) (by decide)))) ?_;wp_walk;refine wpAny_ite_false (dV hb) ?_;wp_walk;refine wpAny_ite_false (dV ht) ?_;wp_walk;exact⟨_,rfl,h⟩
theorem Qq{prog:Program}{w:World}{items:Array Value}{u:Tok}{Q:Value->Shared->Prop}
  (hl:s.heap.get? l=some { cls:=.type "tuple",dict:=none,data:=.seq items k,slots:=#[] }) (h1:2<=x) (h2:x<=100) (h4:items.size=1)
  (h:Q (.ref s.heap.objs.size) { s with heap:=s.heap.push { cls:=.type "tuple",data:=.seq (List.foldl (λx1 x2=>x1++x2) #[] (List.replicate x.toNat items)) } }):
  wpAny (model prog w) A (binaryOp .Mult (.ref l) (.int x u)) Q E s:=
 wpAny_binaryOp_repeat_ref (by decide) ⟨_,hl,rfl⟩ (λs'=>typeIs_int s' x u) GQ PySem.F.fills_int_mul PySem.F.slot_int_rmul Jx PySem.F.slot_int_index.lookup
  (call_meets PySem.F.slot_int_rmul (typeIs_int s x u) PySem.F.entry_int_rmul (PySem.F.args_int_rmul_2 _ _) (Ih x u l items k)
   ⟨hl,rfl,⟨_,hl,rfl⟩,call_meets PySem.F.slot_tuple_mul ⟨_,hl,rfl⟩ PySem.F.entry_tuple_mul (PySem.F.args_tuple_mul_2 _ _) (Gu l items k x u h1 h2 h4) ⟨hl,h⟩⟩)
end
theorem lR{α β:Type}{r:Res α}{g:α->Res β}(h:r.bind g≠.stuck):∃a,r=.ok a/\g a≠.stuck:=by
 cases r with
 |ok a=>exact⟨a,rfl,h⟩
 |stuck=>exact absurd rfl h
theorem AD{α β:Type}{r:Res α}{g:α->Res β}{d:β}(h:r.bind g=.ok d):∃a,r=.ok a/\g a=.ok d:=by
 cases r with
 |ok a=>exact⟨a,rfl,h⟩
 |stuck=>cases h
theorem Eu{α β:Type}{r:Res α}{g:α->Res β}{d:β}(h:r.bind g=.ok d):∃a,g a=.ok d:=by
 cases r with
 |ok a=>exact⟨a,h⟩
 |stuck=>cases h
theorem DN:Ab=sizeLine:=by decide
theorem kU(h:big a=false):IntMulOk a b:=by
 refine .of_left ?_;unfold big at h;unfold Builtin.Int.intBits;split
 ·exact vz
 ·rename_i hz;have:a.natAbs.log2<62:=(log2_lt (by simpa using hz)).mpr (by simpa using (by simpa using h:a.natAbs<4611686018427387904));exact vy this
def Ja(c:Cx)(own:Addr->Option Nat)(A:Around)(t:Sem Value)(k:Cl)(d:PV)(s:Shared):Prop:=
 ∀E,wpAny (model prog w) A t (λv s'=>Keeps s s'/\D9 c own s.heap s'.heap k d v) E s
theorem AK(s:Shared)(t:Nat):Keeps s { s with toks:=t }:=⟨s.heap,t,rfl,λJ J e=>e⟩
theorem Cw(s:Shared)(o:Obj)(t:Nat):Keeps s (up s (s.heap.push o) (t)):=⟨_,t,rfl,λJ J e=>mi _ e⟩
theorem KH(xs:Array Value):∀(k:Nat)(acc:Array Value),(List.foldl (λx1 x2=>x1++x2) acc (List.replicate k xs)).toList=acc.toList++(List.replicate k xs.toList).flatten:=by
 intro k;induction k with
 |zero=>exact λacc=>(A0k _).symm
 |succ k ih=>exact λacc=>by rw[A1s,A1u,ih,Array.toList_append,A1s,flatten_cons,on]
theorem Rds.rep(r:Rds h P l vs):∀k:Nat,Rds h P (List.replicate k l).flatten (List.replicate k vs).flatten
 |0=>rfl
 |k+1=>by exact zr A1s (zr flatten_cons (zr A1s (zr flatten_cons (r.append (r.rep k)))))
theorem O5{α:Type}(l:List α):∀k:Nat,(List.replicate k l).flatten.length=k*l.length
 |0=>(Nat.zero_mul _).symm
 |k+1=>by rw[A1s,flatten_cons,CZ,O5 l k,succ_mul,Nat.add_comm]
theorem Ub(g:Ja c own A t .safe (.tuple l) s):
  wpAny (model prog w) A t (λv s'=>Keeps s s'/\D9 c own s.heap s'.heap .fresh (.tuple l) v) E s:=
 mj (g E) (λv s' q=>⟨q.1,N7 (λJ e=>by cases e) (λJ e=>by cases e) (λJ J J J J e=>by cases e) q.2⟩) λJ J q=>q
theorem YT(x:St c own ρ s)(BB:Tp c own s.heap (.tuple K9) EA)(BK:Tp c own s.heap (.tuple l₂) Ew)(hl:(K9++l₂).length<=Ab):Ja c own A (binaryOp .Add EA Ew) .safe (.tuple (K9++l₂)) s:=by
 intro E;obtain⟨_,m,hm⟩:=x.loc;have F:Fr {} c.env.locals s.heap m:=⟨hm,λb o e=>by simp[Heap.get?] at e,A1x _⟩;refine Iz.el BB λa vs n hs hn hr=>?_;refine Iz.el BK λb us n2 Ro Z6 Yg=>?_
 have h1:=hr.length;have h2:=Yg.length;have hz:vs.toList.length+us.toList.length<=sizeLine:=by exact zr DN.symm (zr h1 (zr h2 (zr CZ.symm hl)))
 by_cases hv:vs.toList=[]
 ·refine add_tuples F News.nil ⟨_,hs,rfl,_,rfl⟩ ⟨_,Ro,rfl,_,rfl⟩ (λq=>⟨AK s s.toks,?_⟩) (λq=>absurd hv q) (λq=>absurd hv q) hz;rw[hv] at h1;exact zr (A1R.mp h1.symm) ⟨b,us,rfl,⟨n2,Ro⟩,Z6,Yg⟩
 ·by_cases hu:us.toList=[]
  ·refine add_tuples F News.nil ⟨_,hs,rfl,_,rfl⟩ ⟨_,Ro,rfl,_,rfl⟩ (λq=>absurd q hv) (λJ J=>⟨AK s s.toks,?_⟩) (λJ q=>absurd hu q) hz;rw[hu] at h2;rw[A1R.mp h2.symm,A0k];exact⟨a,vs,rfl,⟨n,hs⟩,hn,hr⟩
  ·refine P.add_tuple hs Ro (by simpa using hv) (by simpa using hu) ⟨Cw _ _ _,Cf hl ?_⟩ (by simpa using hz);exact zr Array.toList_append (hr.append Yg)
theorem Ml(x:St c own ρ s)(ho:Pt op=some o)(BB:Tp c own s.heap Ad EA)(BK:Tp c own s.heap Be Ew)
  (e:EZ o Ad Be=.ok d):Ja c own A (binaryOp op EA Ew) .fresh d s:=by
 intro E;cases op with
 |Add=>
  cases ho
  cases Ad with
  |int a=>
   cases Be with
   |int b=>refine CB BB λt=>?_;refine CB BK λu=>?_;refine At e ?_;exact PyProof.Rows.add_int ⟨AK _ _,_,rfl⟩
   |_=>exact Res.no e
  |list K9=>
   cases Be with
   |list l₂=>
    obtain⟨hl,e⟩:=Bb (show(if(K9++l₂).length<=Ab then Res.ok (PV.list (K9++l₂)) else .stuck)=.ok d from e);refine At e ?_;refine M7.el BB λa vs _ n hs hn hr=>?_;refine M7.el BK λb us _ n2 Ro Z6 Yg=>?_
    refine P.add_list hs Ro ⟨Cw _ _ _,Hl x hl ?_⟩ ?_
    ·exact zr Array.toList_append (hr.append Yg)
    ·have h1:=hr.length;have h2:=Yg.length;simp only[Array.length_toList,length_append] at h1 h2 hl;exact zr DN.symm (vx h1 h2 hl)
   |_=>exact Res.no e
  |tuple K9=>
   cases Be with
   |tuple l₂=>
    obtain⟨hl,e⟩:=Bb (show(if(K9++l₂).length<=Ab then Res.ok (PV.tuple (K9++l₂)) else .stuck)=.ok d from e);refine At e ?_;exact Ub (YT x BB BK hl)
   |_=>exact Res.no e
  |_=>exact Res.no e
 |Sub=>
  cases ho
  refine Gq (B3 e) λa b Av EH e=>?_;subst Av;subst EH
  refine CB BB λt=>?_;refine CB BK λu=>?_;refine At e ?_;exact PyProof.Rows.sub_int ⟨AK _ _,_,rfl⟩
 |Mult=>
  cases ho
  cases Ad with
  |int a=>
   cases Be with
   |int b=>
    obtain⟨hb,e⟩:=N1 (show(if(big a||big b)=true then Res.stuck else .ok (.int (a*b)))=.ok d from e);refine CB BB λt=>?_;refine CB BK λu=>?_;refine At e ?_
    exact PyProof.Rows.mul_int ⟨AK _ _,_,rfl⟩ (kU (by simp only[Bool.or_eq_true,not_or,Bool.not_eq_true] at hb;exact hb.1))
   |_=>exact Res.no e
  |tuple l=>
   cases Be with
   |int b=>
    obtain⟨hb,e⟩:=Bb (show(if(decide (l.length=1)&&decide (2<=b)&&decide (b<=100))=true then Res.ok (PV.tuple (List.replicate b.toNat l).flatten) else .stuck)=.ok d from e);refine Iz.el BB λa vs n hs hn hr=>?_;refine CB BK λu=>?_;refine At e ?_
    simp only[Bool.and_eq_true,decide_eq_true_eq] at hb;refine Ub λE=>Qq hs hb.1.2 hb.2 ((by refine zr yc.symm ?_;exact hr.length:vs.size=l.length).trans hb.1.1) ⟨Cw _ _ _,Cf ?_ ?_⟩
    ·exact zr (O5 _ _) (zr hb.1.1 (zr (Nat.mul_one _) (mu (Int.toNat_le.2 hb.2) (by decide))))
    ·exact zr (KH _ _ _) (hr.rep _)
   |_=>exact Res.no e
  |_=>exact Res.no e
 |FloorDiv=>
  cases ho
  refine Gq (B3 e) λa b Av EH e=>?_;subst Av;subst EH
  obtain⟨hb,e⟩:=N1 e;refine CB BB λt=>?_;refine CB BK λu=>?_;refine At e ?_
  simp only[Bool.or_eq_true,not_or,decide_eq_true_eq] at hb;exact PyProof.Rows.floordiv_int hb.1 ⟨AK _ _,_,rfl⟩ (.inl (PyProof.noPylong_small (v35 hb.2)))
 |Mod=>
  cases ho
  refine Gq (B3 e) λa b Av EH e=>?_;subst Av;subst EH
  obtain⟨hb,e⟩:=N1 e;refine CB BB λt=>?_;refine CB BK λu=>?_;refine At e ?_;exact PyProof.Rows.mod_int hb ⟨AK _ _,_,rfl⟩
 |_=>cases ho
section
set_option backward.eqns.nonrecursive false
mutual
noncomputable def PV.pd:PV->PyData
 |.int i=>.int i
 |.bool b=>.bool b
 |.str x=>.str x
 |.tuple l=>.tuple (PV.LE l)
 |.list l=>.list (PV.LE l)
 |_=>.none
noncomputable def PV.LE:List PV->List PyData
 |[]=>[]
 |x::xs=>PV.pd x::PV.LE xs
end
mutual
theorem KV:∀a b:PV,a.flat=true->b.flat=true->PyData.eqv a.pd b.pd=PV.eq a b
 |.int _,b,_,h=>by cases b<;>first|rfl|refine At h ?_
 |.bool _,b,_,h=>by cases b<;>first|rfl|refine At h ?_
 |.str _,b,_,h=>by cases b<;>first|rfl|refine At h ?_
 |.tuple l,b,g,h=>by
  cases b with
  |tuple m=>exact eqvs_pds l m g h
  |_=>first|rfl|refine At h ?_
 |.list l,b,g,h=>by
  cases b with
  |list m=>exact eqvs_pds l m g h
  |_=>first|rfl|refine At h ?_
theorem eqvs_pds:∀a b:List PV,PV.Bk a=true->PV.Bk b=true->PyData.eqvAll (PV.LE a) (PV.LE b)=PV.eqs a b
 |[],[],_,_=>rfl
 |[],_::_,_,_=>rfl
 |_::_,[],_,_=>rfl
 |x::xs,y::ys,g,h=>by
  rw[KI,A1Q] at g h;refine zr yD (zr (KV x y g.1 h.1).symm (zr (eqvs_pds xs ys g.2 h.2).symm ?_));rfl
end
mutual
theorem Rd.reads:∀(d:PV){v:Value},d.flat=true->Rd h P d v->(∃as,Reads h v d.pd as)/\d.pd.canLay0=true/\d.pd.depth=d.depth
 |.none,_,f,_=>nomatch f
 |.dict _,_,f,_=>nomatch f
 |.obj ..,_,f,_=>nomatch f
 |.int i,_,_,r=>by obtain⟨t,e⟩:=r;subst e;exact⟨⟨_,.int i t⟩,rfl,rfl⟩
 |.bool b,_,_,e=>by cases e;exact⟨⟨_,.bool b⟩,rfl,rfl⟩
 |.str x,_,_,r=>by obtain⟨q,t,e⟩:=r;subst e;exact⟨⟨_,.str x t⟩,q,rfl⟩
 |.tuple l,_,f,r=>by
  obtain⟨a,vs,e,⟨n,hs⟩,_,r⟩:=r;subst e;refine DI (Rds.reads l f r) λGA q2 q3=>?_;obtain⟨as,q⟩:=GA
  exact⟨⟨_,.tuple hs rfl rfl q⟩,q2,A0U (·+1) q3⟩
 |.list l,_,f,r=>by
  obtain⟨a,vs,e,_,⟨n,hs⟩,_,r⟩:=r;subst e;refine DI (Rds.reads l f r) λGA q2 q3=>?_;obtain⟨as,q⟩:=GA
  exact⟨⟨_,.list hs rfl rfl q⟩,q2,A0U (·+1) q3⟩
theorem Rds.reads:∀(l:List PV){vs:List Value},PV.Bk l=true->Rds h P l vs->(∃as,ReadsAll h vs (PV.LE l) as)/\PyData.canLayAll0 (PV.LE l)=true/\PyData.depthAll (PV.LE l)=PV.EI l
 |[],_,_,r=>by exact zr (show _=_ from r) ⟨⟨_,.nil⟩,rfl,rfl⟩
 |x::xs,_,f,r=>by
  obtain⟨v,r,e,a,b⟩:=r;subst e;rw[KI,A1Q] at f;refine DI (Rd.reads x f.1 a) λGA q2 q3=>?_;obtain⟨as,q⟩:=GA
  refine DI (Rds.reads xs f.2 b) λGA p2 p3=>?_;obtain⟨bs,p⟩:=GA
  exact⟨⟨_,.cons q p⟩,by show(x.pd.canLay0&&PyData.canLayAll0 (PV.LE xs))=true;refine zr q2 (zr p2 ?_);rfl,by show max x.pd.depth (PyData.depthAll (PV.LE xs))=max x.depth (PV.EI xs);exact zr q3 (zr p3 rfl)⟩
end
theorem HJ(l:List PV)(d:PV)(h:PV.Bk l=true)(hd:d.flat=true):((PV.LE l).any λy=>PyData.eqv y d.pd)=l.any λy=>PV.eq y d:=by
 induction l with
 |nil=>rfl
 |cons x xs ih=>
  rw[KI,A1Q] at h;rw[any_cons,<-ih h.2,<-KV x d h.1 hd];rfl
theorem Ci(i:Int)(t:Tok):(intKind prog w).is i (.int i t)=true:=by simp[intKind,Value.isInt]
theorem CJ:∀{l:List PV}{is:List Int}{vs:List Value},PV.Bu l=some is->Rds h P l vs->ItemsAre (intKind prog w) is vs
 |[],_,_,e,r=>by refine CD e ?_;exact zr (show _=_ from r) .nil
 |.int i::l,_,_,e,⟨v,r,q,⟨t,a⟩,b⟩=>by
  subst q a;simp only[PV.Bu,Option.map_eq_some_iff] at e;obtain⟨yi,e,rfl⟩:=e;exact .cons (Ci i t) (CJ e b)
 |.none::_,_,_,e,_=>HA e
 |.bool _::_,_,_,e,_=>HA e
 |.tuple _::_,_,_,e,_=>HA e
 |.list _::_,_,_,e,_=>HA e
 |.dict _::_,_,_,e,_=>HA e
 |.str _::_,_,_,e,_=>HA e
 |.obj ..::_,_,_,e,_=>HA e
end
section
variable {h:Heap}
theorem OQ(x:h.DictOfH (tupleKind (intKind prog w)) a []):h.DictOf (intKind prog w) a []:=by
 obtain⟨o,es,ep,ho,hx,hd,he,_,_⟩:=x;have e:es.toList=[]:=by simpa using he
 exact⟨o,es,ep,ho,hx,hd,λy hy=>by rw[<-Array.mem_toList_iff,e] at hy;simp at hy,by refine zr e ?_;exact .nil,A1d⟩
theorem MQ(x:h.DictOf (intKind prog w) a []):h.DictOfH (tupleKind (intKind prog w)) a []:=by
 obtain⟨o,es,ep,ho,hx,hd,_,hp,_⟩:=x;exact⟨o,es,ep,ho,hx,hd,by simpa using (A1R.mp hp.length),λy hy=>(by simp at hy),A1d⟩
theorem Bi.int(f:AR l (.int i)=true)(x:Bi h a (l.map (·.1)) vs):
  ∃kvs:List (Int×Value),h.DictOf (intKind prog w) a kvs/\l.map (·.1)=kvs.map (λp=>Key.int p.1)/\vs=kvs.map (·.2):=by
 rcases x with q|⟨xs,q,e,e',_⟩
 ·exact q
 ·cases xs with
  |nil=>exact⟨[],OQ q,e,e'⟩
  |cons p r=>
   cases l with
   |nil=>simp at e
   |cons p' r'=>simp only[map_cons,List.cons.injEq] at e;simp[AR,e.1,Key.same] at f
theorem Bi.tup(f:AR l (.tup i)=true)(x:Bi h a (l.map (·.1)) vs):
  ∃xs:List (List Int×Addr×Value),h.DictOfH (tupleKind (intKind prog w)) a xs/\l.map (·.1)=xs.map (λp=>Key.tup p.1)/\vs=xs.map (·.2.2)/\Om h xs:=by
 rcases x with⟨xs,q,e,e'⟩|q
 ·cases xs with
  |nil=>exact⟨[],MQ q,e,e',λJ hy=>by cases hy⟩
  |cons p r=>
   cases l with
   |nil=>simp at e
   |cons p' r'=>simp only[map_cons,List.cons.injEq] at e;simp[AR,e.1,Key.same] at f
 ·exact q
theorem RdKV.aQ:∀{l:List (Key×PV)}{vs:List Value},RdKV h P l vs->Rds h P (l.map (·.2)) vs
 |[],_,r=>r
 |(_,d)::ds,_,⟨v,r,e,a,b⟩=>⟨v,r,e,a,RdKV.aQ b⟩
theorem RdKV.of:∀{l:List (Key×PV)}{vs:List Value},Rds h P (l.map (·.2)) vs->RdKV h P l vs
 |[],_,r=>r
 |(_,d)::ds,_,⟨v,r,e,a,b⟩=>⟨v,r,e,a,RdKV.of b⟩
theorem Dp:∀{l:List (Key×PV)}{kvs:List (Int×Value)},l.map (·.1)=kvs.map (λp=>Key.int p.1)->RdKV h P l (kvs.map (·.2)) ->
  (Bs l (.int i)=(valueAt kvs i).isSome)/\∀d,Am l (.int i)=some d->∃v,valueAt kvs i=some v/\Rd h P d v:=by
 intro l;induction l with
 |nil=>
  intro kvs e _;cases kvs with
  |nil=>exact⟨rfl,λd q=>by simp[Am] at q⟩
  |cons _ _=>simp at e
 |cons pq r ih=>
  intro kvs e q;obtain⟨k,d⟩:=pq;cases kvs with
  |nil=>simp at e
  |cons p ps=>
   obtain⟨v,vs,e2,a,b⟩:=q;simp only[map_cons,List.cons.injEq] at e e2;obtain⟨rfl,e⟩:=e;obtain⟨rfl,rfl⟩:=e2;obtain⟨h1,h2⟩:=ih e b;by_cases hk:p.1=i
   ·refine⟨by simp[Bs,valueAt,hk],λd' q=>?_⟩;simp[Am,hk] at q;subst q;exact⟨p.2,by simp[valueAt,hk],a⟩
   ·refine⟨by simpa [Bs,valueAt,hk] using h1,λd' q=>?_⟩;refine AE (h2 d' (by simpa [Am,hk] using q)) λv' q1 q2=>?_
    exact⟨v',by simpa [valueAt,hk] using q1,q2⟩
theorem FM:∀{l:List (Key×PV)}{xs:List (List Int×Addr×Value)},l.map (·.1)=xs.map (λp=>Key.tup p.1)->RdKV h P l (xs.map (·.2.2)) ->
  (Bs l (.tup i)=(atKey xs i).isSome)/\∀d,Am l (.tup i)=some d->∃p,atKey xs i=some p/\Rd h P d p.2:=by
 intro l;induction l with
 |nil=>
  intro kvs e _;cases kvs with
  |nil=>exact⟨rfl,λd q=>by simp[Am] at q⟩
  |cons _ _=>simp at e
 |cons pq r ih=>
  intro kvs e q;obtain⟨k,d⟩:=pq;cases kvs with
  |nil=>simp at e
  |cons p ps=>
   obtain⟨v,vs,e2,a,b⟩:=q;simp only[map_cons,List.cons.injEq] at e e2;obtain⟨rfl,e⟩:=e;obtain⟨rfl,rfl⟩:=e2;obtain⟨h1,h2⟩:=ih e b;by_cases hk:p.1=i
   ·refine⟨by simp[Bs,atKey,hk],λd' q=>?_⟩;simp[Am,hk] at q;subst q;exact⟨p.2,by simp[atKey,hk],a⟩
   ·refine⟨by simpa [Bs,atKey,hk] using h1,λd' q=>?_⟩;refine AE (h2 d' (by simpa [Am,hk] using q)) λv' q1 q2=>?_
    exact⟨v',by simpa [atKey,hk] using q1,q2⟩
end
theorem FT(h:a≠1):(a==sysModules)=false:=by simpa [sysModules] using h
def Oo(A:Around)(t:Sem Value)(b:Bool)(s:Shared):Prop:=
 ∀E,wpAny Md A t (λv s'=>Keeps s s'/\v=.bool b) E s
set_option tactic.hygienic true in
theorem Hx(hu:A.units+200<cLine)(BB:Tp c own s.heap Ad EA)(BK:Tp c own s.heap Be Ew)(e:CG Ad Be=.ok b):
  Oo A (compareOp .In EA Ew) b s/\Oo A (compareOp .NotIn EA Ew) (!b) s:=by
 unfold CG at e;split at e
 ·rename_i l;split at e
  ·rename_i hf;refine At e ?_;simp only[Bool.and_eq_true,decide_eq_true_eq] at hf;refine M7.el (CV.rd BK) λa vs _ n hs _ rr=>?_
   refine DI (Rds.reads l hf.1.1 rr) λGA q2 q3=>?_;obtain⟨as,qs⟩:=GA
   have q:Reads s.heap (.ref a) (.list (PV.LE l)) _:=.list hs rfl rfl qs;refine DI (Rd.reads _ hf.1.2 (CV.rd BB)) λGA p2 p3=>?_;obtain⟨bs,p⟩:=GA
   have hd:A.units+1+min (PyData.depthAll (PV.LE l)) Ad.pd.depth<cLine:=by have:=Nat.min_le_right (PyData.depthAll (PV.LE l)) Ad.pd.depth;exact jq hu hf.2 p3
   exact⟨λE=>PySem.SeqAt.in_list_reads q p q2 p2 hd ⟨AK s s.toks,by exact zr (HJ _ _ hf.1.1 hf.1.2) rfl⟩,λE=>PySem.SeqAt.notIn_list_reads q p q2 p2 hd ⟨AK s s.toks,by exact zr (HJ _ _ hf.1.1 hf.1.2) rfl⟩⟩
  ·exact Res.no e
 ·rename_i l;split at e
  ·rename_i hf;refine At e ?_;simp only[Bool.and_eq_true,decide_eq_true_eq] at hf;refine Iz.el (CV.rd BK) λa vs n hs _ rr=>?_
   refine DI (Rds.reads l hf.1.1 rr) λGA q2 q3=>?_;obtain⟨as,qs⟩:=GA
   have q:Reads s.heap (.ref a) (.tuple (PV.LE l)) _:=.tuple hs rfl rfl qs;refine DI (Rd.reads _ hf.1.2 (CV.rd BB)) λGA p2 p3=>?_;obtain⟨bs,p⟩:=GA
   have hd:A.units+1+min (PyData.depthAll (PV.LE l)) Ad.pd.depth<cLine:=by have:=Nat.min_le_right (PyData.depthAll (PV.LE l)) Ad.pd.depth;exact jq hu hf.2 p3
   exact⟨λE=>PySem.SeqAt.in_tuple_reads q p q2 p2 hd ⟨AK s s.toks,by exact zr (HJ _ _ hf.1.1 hf.1.2) rfl⟩,λE=>PySem.SeqAt.notIn_tuple_reads q p q2 p2 hd ⟨AK s s.toks,by exact zr (HJ _ _ hf.1.1 hf.1.2) rfl⟩⟩
  ·exact Res.no e
 ·rename_i l;split at e
  ·rename_i k hk;split at e
   ·rename_i hf;refine At e ?_;refine R4.el BK λa vs _ n1 n q r=>?_
    cases Ad with
    |int i=>
     cases hk
     refine CB BB λt=>?_
     refine Ca (q.int hf) λkvs hd e1 EH=>?_;subst EH
     obtain⟨h1,_⟩:=Dp e1 r;exact zr h1 ⟨λE=>wpAny_in_of (Ci i t) (FT n1) hd.mapOf ⟨AK _ _,rfl⟩,λE=>wpAny_notIn_of (Ci i t) (FT n1) hd.mapOf ⟨AK _ _,rfl⟩⟩
    |tuple l'=>
     simp only[PV.GF,Option.map_eq_some_iff] at hk;refine AE hk λis hi Av=>?_;subst Av
     refine Iz.el BB λb us m hs _ r1=>?_
     refine DU (q.tup hf) λxs hd e1 EH J=>?_;subst EH
     obtain⟨h1,_⟩:=FM e1 r;refine zr h1 ?_;have LC:(tupleKind (intKind prog w)).is s.heap is b:=⟨_,us,m,hs,rfl,rfl,CJ hi r1⟩;exact⟨λE=>wpAny_in_heap (A1z (TZ hu)) LC (FT n1) hd ⟨AK _ _,rfl⟩,λE=>wpAny_notIn_heap (A1z (TZ hu)) LC (FT n1) hd ⟨AK _ _,rfl⟩⟩
    |_=>cases hk
   ·exact Res.no e
  ·exact Res.no e
 ·exact Res.no e
theorem JP(BB:CV h P O Ad EA)(BK:CV h P O Be Ew)(e:kj Ad Be=.ok b):isSame EA Ew=pure b:=by
 cases Be with
 |none=>
  refine zr (show Ew=.none from BK) ?_;cases Ad with
  |none=>refine zr (show EA=.none from BB) ?_;refine At e ?_;rfl
  |tuple _=>obtain⟨_,_,q,_⟩:=BB;refine zr q ?_;refine At e ?_;rfl
  |_=>exact Res.no e
 |bool ft=>
  refine zr (show Ew=.bool ft from BK) ?_;cases Ad with
  |bool fu=>refine zr (show EA=.bool fu from BB) ?_;refine At e ?_;cases fu<;>cases ft<;>rfl
  |_=>exact Res.no e
 |_=>cases Ad<;>exact Res.no e
theorem Gk(hu:A.units+200<cLine)(op:CmpOp)(BB:Tp c own s.heap Ad EA)(BK:Tp c own s.heap Be Ew)(e:EX (JW op) Ad Be=.ok b):
  Oo A (compareOp op EA Ew) b s:=by
 intro E;cases op with
 |Eq=>
  obtain⟨hf,e⟩:=Bb e
  ·refine At e ?_;simp only[Bool.and_eq_true,decide_eq_true_eq] at hf;refine DI (Rd.reads _ hf.1.1 (CV.rd BB)) λGA q2 q3=>?_;obtain⟨as,q⟩:=GA
   refine DI (Rd.reads _ hf.1.2 (CV.rd BK)) λGA p2 p3=>?_;obtain⟨bs,p⟩:=GA
   exact PySem.SeqAt.compareEq_reads q p q2 p2 (by have:=Nat.min_le_left Ad.pd.depth Be.pd.depth;exact jp hu hf.2 q3) ⟨AK s s.toks,by exact zr (KV _ _ hf.1.1 hf.1.2) rfl⟩
 |NotEq=>
  obtain⟨hf,e⟩:=Bb e
  ·refine At e ?_;simp only[Bool.and_eq_true,decide_eq_true_eq] at hf;refine DI (Rd.reads _ hf.1.1 (CV.rd BB)) λGA q2 q3=>?_;obtain⟨as,q⟩:=GA
   refine DI (Rd.reads _ hf.1.2 (CV.rd BK)) λGA p2 p3=>?_;obtain⟨bs,p⟩:=GA
   exact PySem.SeqAt.compareNe_reads q p q2 p2 (by have:=Nat.min_le_left Ad.pd.depth Be.pd.depth;exact jp hu hf.2 q3) ⟨AK s s.toks,by exact zr (KV _ _ hf.1.1 hf.1.2) rfl⟩
 |Lt=>
  refine Gq (B3 e) λa b Av EH e=>?_;subst Av;subst EH
  obtain⟨t,rfl⟩:=BB;obtain⟨u,rfl⟩:=BK;refine At e ?_;exact PyProof.Rows.lt_int ⟨AK s s.toks,rfl⟩
 |Gt=>
  refine Gq (B3 e) λa b Av EH e=>?_;subst Av;subst EH
  obtain⟨t,rfl⟩:=BB;obtain⟨u,rfl⟩:=BK;refine At e ?_;exact PyProof.Rows.gt_int ⟨AK s s.toks,rfl⟩
 |GtE=>
  refine Gq (B3 e) λa b Av EH e=>?_;subst Av;subst EH
  obtain⟨t,rfl⟩:=BB;obtain⟨u,rfl⟩:=BK;refine At e ?_;exact PyProof.Rows.ge_int ⟨AK s s.toks,rfl⟩
 |In=>exact(Hx hu BB BK e).1 E
 |NotIn=>
  have e:(CG Ad Be).bind (λr=>.ok (!r))=.ok b:=e;cases q:CG Ad Be with
  |ok b'=>rw[q] at e;refine At e ?_;exact(Hx hu BB BK q).2 E
  |stuck=>rw[q] at e;cases e
 |Is=>
  show wpAny _ _ (do return Value.bool (<-isSame EA Ew)) _ E s;exact zr (JP BB BK e) (Xt (ml (ml ⟨AK s s.toks,rfl⟩)))
 |IsNot=>
  have e:(kj Ad Be).bind (λr=>.ok (!r))=.ok b:=e;show wpAny _ _ (do return Value.bool (!(<-isSame EA Ew))) _ E s;cases q:kj Ad Be with
  |ok b'=>
   rw[q] at e;refine At e ?_;exact zr (JP BB BK q) (Xt (ml (ml ⟨AK s s.toks,rfl⟩)))
  |stuck=>rw[q] at e;cases e
 |_=>exact Res.no e
noncomputable def BJ(n:Nat)(i:Int):Nat:=if i<0 then(i+n).toNat else min i.toNat n
theorem Pu{z:Int}{n:Nat}(h:z<=n)(hn:n<=16777216):z<2 ^ 63:=A17 h (A17 (A0e.2 hn) (by decide))
theorem dK{n m:Nat}(h:n<m)(hm:m<=16777216):(n:Int)<2 ^ 63-1:=A17 (A0e.2 (mu (A0r h) hm)) (by decide)
theorem ZI(h:0<=z):-2 ^ 63<=z:=A0s (by decide) h
theorem Zb{z:Int}{n:Nat}(h:z<=n)(hn:n<=16777216):z<2 ^ 62:=A17 h (A17 (A0e.2 hn) (by decide))
theorem ZJ(h:0<=z):-2 ^ 62<=z:=A0s (by decide) h
theorem FW(x:IsPart v p)(h:Q p s):wpAny Md A (Builtin.Slice.slicePartIndex v) Q E s:=by
 cases x with
 |none=>exact slicePart_none h
 |int i t=>exact slicePart_int h
theorem Oi(lo hi:Option Int)(n:Nat):Builtin.Slice.sliceAdjust lo hi 1 (n:Int)=(((lo.elim 0 (BJ n):Nat):Int),((hi.elim n (BJ n):Nat):Int)):=by
 have c:∀i:Int,(if i<0 then max (i+(n:Int)) 0 else min i (n:Int))=((BJ n i:Nat):Int):=λi=>by
  unfold BJ;split
  ·exact(Int.ofNat_toNat _).symm
  ·rename_i h;exact zr (Lean.Omega.Int.ofNat_min _ _) (zr (A0X (A1I.1 h)) rfl)
 unfold Builtin.Slice.sliceAdjust;have h1:¬((1:Int)<0):=by decide
 cases lo<;>cases hi<;>simp only[h1,if_false,Option.elim,c]<;>rfl
theorem Nf(a b:Nat):Builtin.Slice.slicePlaces (a:Int) (b:Int) 1=b-a:=by
 unfold Builtin.Slice.slicePlaces;have h1:(1:Int)>0:=by decide
 simp only[h1,if_true,Int.ediv_one];split
 ·exact zr (Int.sub_add_cancel _ _) (Int.toNat_sub b a)
 ·rename_i h;exact(Nat.sub_eq_zero_of_le (A0e.1 (A1I.1 h))).symm
theorem Gv{lo hi:Option Int}{Q:Int×Int×Nat->Shared->Prop}(hs:s.heap.IsSliceOf sl vl vu .none)(pl:IsPart vl lo)(pu:IsPart vu hi)
  (h:Q (((lo.elim 0 (BJ n):Nat):Int),1,hi.elim n (BJ n)-lo.elim 0 (BJ n)) s):
  wpAny Md A (Builtin.Slice.sliceApplied (.ref sl) (pure (n:Int))) Q E s:=by
 obtain⟨os,eu,Ru,mB⟩:=id hs;unfold Builtin.Slice.sliceApplied Builtin.Slice.sliceFields;refine Xt (Xt (A1j eu mB rfl (Xt (A1j eu mB rfl (Xt (A1j eu mB rfl (ml ?_)))))));refine Xt (slicePart_none ?_);show wpAny _ _ (if((1:Int)==0)=true then _ else _) _ _ s;refine zr (Yf (by decide)) ?_;refine Xt (FW pl (Xt (FW pu (Xt (ml ?_)))));show wpAny _ _ (match Builtin.Slice.sliceAdjust lo hi 1 (n:Int) with|(lo,hi)=>pure (lo,(1:Int),Builtin.Slice.slicePlaces lo hi 1)) _ _ s;refine zr (Oi _ _ _) ?_;show wpAny _ _ (pure (((lo.elim 0 (BJ n):Nat):Int),(1:Int),Builtin.Slice.slicePlaces ((lo.elim 0 (BJ n):Nat):Int) ((hi.elim n (BJ n):Nat):Int) 1)) _ _ s;exact zr (Nf _ _) (ml h)
theorem TP(xs:Array Value)(a k:Nat):((List.range k).filterMap λ(j:Nat)=>xs[((a:Int)+(j:Int)*1).toNat]?).toArray=((xs.toList.drop a).take k).toArray:=by
 have e:(λ(j:Nat)=>xs[((a:Int)+(j:Int)*1).toNat]?)=λj=>xs[a+j]?:=by
  funext j;exact zr (by refine zr (A1n _) ?_;rfl:((a:Int)+(j:Int)*1).toNat=a+j) rfl
 refine zr e ?_;have:=pick_run xs a k;rw[List.filterMap_map] at this;have e2:((λx=>xs[x]?)∘λx=>a+x)=λk=>xs[a+k]?:=rfl
 rw[e2] at this;exact zr this rfl
theorem Ev{items:Array Value}{lo hi:Option Int}(ht:IsTup s.heap t items)(hs:s.heap.IsSliceOf sl vl vu .none)(pl:IsPart vl lo)(pu:IsPart vu hi)
  (hw:lo.elim 0 (BJ items.size)=0->hi.elim items.size (BJ items.size)=items.size->Q (.ref t) s)
  (h:Q (.ref s.heap.objs.size) { s with heap:=s.heap.push { cls:=.type "tuple",data:=.seq ((items.toList.drop (lo.elim 0 (BJ items.size))).take (hi.elim items.size (BJ items.size)-lo.elim 0 (BJ items.size))).toArray } })
  (EF:items.size<=sizeLine):wpAny Md A (getItem (.ref t) (.ref sl)) Q E s:=by
 have fO:sizeOk (.seq ((items.toList.drop (lo.elim 0 (BJ items.size))).take (hi.elim items.size (BJ items.size)-lo.elim 0 (BJ items.size))).toArray):=by
  show Array.size _<=sizeLine;exact zr List.size_toArray (zr A0V (zr A0n (zr yc (bW EF))))
 obtain⟨os,eu,Ru,mB⟩:=id hs;unfold getItem
 try with_reducible refine A1Z ?_
 first|refine Xt (ml ?_)|skip
 refine Xt (wpAny_sequenceKey ht.typeIs (by decide) ?_);refine Xt (wpAny_callSpecial?_slot ht.typeIs slot_tuple_getitem
  (wpAny_call_entry slot_tuple_getitem ht.typeIs entry_tuple_getitem ?_ (args_tuple_getitem _ _)))
 show wpAny _ _ (Builtin.Tuple.tupleItemsOf (.ref t) >>= _) _ _ s;refine Xt (tupleItemsOf_ ht ?_);refine Xt (wpAny_typeOf (⟨os,eu,Ru⟩:s.TypeIs (.ref sl) "slice") ?_);refine zr (XL (by decide)) ?_;refine Xt (Gv hs pl pu ?_);generalize lo.elim 0 (BJ items.size)=a at *;generalize hi.elim items.size (BJ items.size)=b at *;show wpAny _ _ (if(((a:Int)==0)&&(1:Int)==1&&(b-a)==items.size)=true then _ else _) _ _ s;split
 ·rename_i hc;simp only[Bool.and_eq_true,beq_iff_eq] at hc;have ha:a=0:=A16.1 hc.1.1;refine Xt ?_;unfold Builtin.Tuple.tupleIsExact;refine Xt (wpAny_typeOf ht.typeIs (ml ?_));refine zr (XL (by decide)) ?_;exact Xt (wpAny_rule (ml ⟨_,rfl,ml (hw ha (by have:=hc.2;rw[ha,Nat.sub_zero] at this;exact this))⟩))
 ·exact zr (TP _ _ _) (Xt (wpAny_newObj_type (ml ⟨_,rfl,ml h⟩) fO))
section
set_option backward.eqns.nonrecursive false
noncomputable def Fw(e:Expr):Bool:=Nat.beq e.ctorIdx 26
theorem BX(h:Fw e=false)(o i:Value):subscripted e false o i=operate [o,i] (getItem o i):=by
 cases e<;>first|rfl|(cases h)
theorem Fa(h0:0<=i)(h:i.toNat<n):seqIndex? i n=some i.toNat:=by
 unfold seqIndex?;simp only[show ¬i<0 by exact vw h0,if_false];exact zr (XL (by simp only[Bool.and_eq_true,decide_eq_true_eq];exact Vl h0 h)) rfl
set_option tactic.hygienic true in
theorem KD(hu:A.units+200<cLine){value Ez:Expr}(hs:Fw Ez=false)(BB:Tp c own s.heap Ad EA)(BK:Tp c own s.heap Be Ew)(e:CI Ad Be=.ok d):
  Ja c own A (subscriptTail value Ez EA Ew) .safe d s:=by
 intro E;unfold CI at e;split at e
 ·rename_i l i;refine M7.el BB λa vs _ n hl hn hr=>?_
  refine CB BK λt=>?_
  split at e
  ·rename_i h0;split at e
   ·rename_i d' hd;refine At e ?_;refine AE (hr.get hd) λx hx nL=>?_
    have hlt:=(fR.mp hd).1;refine tail_any ⟨_,hl,rfl⟩ slot_list_getitem.lookup (wpAny_getItem_list ⟨_,hl,rfl,n,rfl⟩ h0 ?_ (by refine zr A0z.symm ?_;exact hx) ⟨AK s s.toks,nL⟩) (BX hs _ _);exact Pu (A0s (Int.self_le_toNat _) (A0e.2 (A0r hlt))) hn
   ·exact Res.no e
  ·exact Res.no e
 ·rename_i l i;refine Iz.el BB λa vs n hl hn hr=>?_
  refine CB BK λt=>?_
  split at e
  ·rename_i h0;split at e
   ·rename_i d' hd;refine At e ?_;refine AE (hr.get hd) λx hx nL=>?_
    have hlt:=(fR.mp hd).1;refine tail_any ⟨_,hl,rfl⟩ slot_tuple_getitem.lookup (PyProof.Rows.getItem_tuple ⟨_,hl,rfl,n,rfl⟩ ?_ ?_ (Fa h0 ?_) (by refine zr A0z.symm ?_;exact hx) ⟨AK s s.toks,nL⟩) (BX hs _ _)
    ·exact ZI h0
    ·exact Pu (A0s (Int.self_le_toNat _) (A0e.2 (A0r hlt))) hn
    ·exact zr yc.symm (v14 hlt hr.length)
   ·exact Res.no e
  ·exact Res.no e
 ·rename_i l;split at e
  ·rename_i k hk;split at e
   ·rename_i hf;split at e
    ·rename_i d' hd;refine At e ?_;refine R4.el BB λa vs _ n1 n q r=>?_
     cases Be with
     |int i=>
      cases hk
      refine CB BK λt=>?_
      refine Ca (q.int hf) λkvs hm e1 EH=>?_;subst EH
      obtain⟨_,h2⟩:=Dp e1 r;refine AE (h2 _ hd) λv hv eX=>?_
      exact tail_any (hm.mapOf).typeIs slot_dict_getitem.lookup (wpAny_getItem_of (Ci i t) hm.mapOf hv ⟨AK _ _,eX⟩) (BX hs _ _)
     |tuple l'=>
      simp only[PV.GF,Option.map_eq_some_iff] at hk;refine AE hk λis hi Av=>?_;subst Av
      refine Iz.el BK λb us m hb _ r1=>?_
      refine DU (q.tup hf) λxs hm e1 EH J=>?_;subst EH
      obtain⟨_,h2⟩:=FM e1 r;refine AE (h2 _ hd) λp hp eX=>?_
      exact tail_any hm.typeIs slot_dict_getitem.lookup (wpAny_getItem_heap (A1z (TZ hu)) (⟨_,us,m,hb,rfl,rfl,CJ hi r1⟩:(tupleKind (intKind prog w)).is s.heap is b) hm hp ⟨AK _ _,eX⟩) (BX hs _ _)
     |_=>cases hk
    ·exact Res.no e
   ·exact Res.no e
  ·exact Res.no e
 ·exact Res.no e
theorem NS(a:Int):(max 0 a).toNat=a.toNat:=by
 rcases Int.le_total 0 a with h|h
 ·exact zr (Int.max_eq_right h) rfl
 ·rw[Int.max_eq_left h,Int.toNat_of_nonpos h];rfl
theorem QO(a:Int)(n:Nat)(h:0<=a):(min a n).toNat=min a.toNat n:=by
 obtain⟨k,rfl⟩:=Int.eq_ofNat_of_zero_le h;rcases Nat.le_total k n with q|q
 ·rw[Int.min_eq_left (A0e.2 q),A0R,A1K q]
 ·rw[Int.min_eq_right (A0e.2 q),A0R,A0R,Nat.min_eq_right q]
theorem RW(n:Nat)(i:Int):clipAt n i=BJ n i:=by
 unfold clipAt BJ;refine zr (NS _) ?_;by_cases h:i<0
 ·exact zr (XL h) (zr (XL h) (zr (Int.min_eq_left (vv h)) rfl))
 ·exact zr (Yf h) (zr (Yf h) (zr (QO i n (vt h)) rfl))
theorem U6(l:List PV)(a b:Nat):Kd l a b=(l.drop a).take (b-a):=by
 unfold Kd;exact zr drop_take rfl
theorem DC(b:Bool)(o i:Value):subscripted (.Slice l u none p) b o i=operate [i,o] (getItem o i):=rfl
theorem LV(x:St c own ρ s){lo hi:Option Int}(yv:s.heap.IsSliceOf sl vl vu .none)(pl:IsPart vl lo)(pu:IsPart vu hi)(BB:Tp c own s.heap Ad EA)
  (e:JF (lo.map .int) (hi.map .int) Ad=.ok d):Ja c own A (subscriptTail value (.Slice l u none p) EA (.ref sl)) .safe d s:=by
 intro E;cases Ad with
 |list ds=>
  refine M7.el BB λa vs ho n hl hn hr=>?_
  have hlen:vs.size=ds.length:=by exact zr yc.symm hr.length
  have hd:d=.list ((ds.drop (lo.elim 0 (BJ ds.length))).take (hi.elim ds.length (BJ ds.length)-lo.elim 0 (BJ ds.length))):=by
   cases lo<;>cases hi<;>first|(refine At e ?_;refine zr (U6 _ _ _) ?_;rfl)|cases e
  subst hd;refine tail_any ⟨_,hl,rfl⟩ slot_list_getitem.lookup (wpAny_getItem_list_slice ⟨_,hl,rfl,n,rfl⟩ yv pl pu .none (by simp) ?_ (zr hlen (zr DN.symm hn))) (DC _ _ _);refine⟨Cw _ _ _,D9.rd x rfl (Hl x ?_ ?_)⟩
  ·exact zr A0V (zr A0n (bW hn))
  ·refine zr (slicePick_plain _ _ _) ?_;simp only[hlen];exact zr (funext λi=>RW _ _:clipAt ds.length=BJ ds.length) ((hr.drop _).take _)
 |tuple ds=>
  refine Iz.el BB λa vs n hl hn hr=>?_
  have hlen:vs.size=ds.length:=by exact zr yc.symm hr.length
  have hd:d=.tuple ((ds.drop (lo.elim 0 (BJ ds.length))).take (hi.elim ds.length (BJ ds.length)-lo.elim 0 (BJ ds.length))):=by
   cases lo<;>cases hi<;>first|(refine At e ?_;refine zr (U6 _ _ _) ?_;rfl)|cases e
  subst hd;refine tail_any ⟨_,hl,rfl⟩ slot_tuple_getitem.lookup (Ev ⟨_,hl,rfl,n,rfl⟩ yv pl pu (λh1 h2=>⟨AK s s.toks,?_⟩) ?_ (zr hlen (zr DN.symm hn))) (DC _ _ _)
  ·rw[hlen] at h1 h2;rw[h1,h2,drop_zero,Nat.sub_zero,take_length];exact⟨a,vs,rfl,⟨n,hl⟩,hn,hr⟩
  ·refine⟨Cw _ _ _,Cf ?_ ?_⟩
   ·exact zr A0V (zr A0n (bW hn))
   ·simp only[hlen];exact(hr.drop _).take _
 |_=>exact Res.no e
end
section
set_option backward.eqns.nonrecursive false
noncomputable def El:I0->Value
 |.len=>.builtin "len"
 |.abs=>.builtin "abs"
 |.listOf|.listRange=>.type "list"
 |.tupleOf=>.type "tuple"
 |.intOf=>.type "int"
 |.all=>.builtin "all"
 |.max2=>.builtin "max"
 |.min2=>.builtin "min"
 |.maxL=>.builtin "max"
 |.dictOf=>.type "dict"
 |_=>.none
noncomputable def Nd:I0->Cl
 |.listOf|.listRange|.dictOf=>.fresh
 |_=>.safe
noncomputable def Sq:Ty->String
 |.int => "int" | .bool => "bool" | .tuple => "tuple" | .list => "list" | .str => "str" | .seq => ""
def Ms(c:Cx)(own:Addr->Option Nat)(h:Heap):List PV->List Value->Prop
 |[],vs=>vs=[]
 |d::ds,vs=>∃v r,vs=v::r/\Tp c own h d v/\Ms c own h ds r
theorem Cy(k:∀b o,s.heap.get? b=some o->h'.get? b=some o):Keeps s (up s (h') (tk)):=⟨h',tk,rfl,k⟩
theorem Mk:∀{l:List PV}{bs:List Bool}{vs:List Value},Dx l=some bs->Rds h P l vs->vs.length=bs.length/\∀(i:Nat)(v:Value),vs[i]?=some v->∃b,bs[i]?=some b/\v=Value.bool b
 |[],_,_,e,r=>by refine CD e ?_;exact zr (show _=_ from r) ⟨rfl,λi v q=>by simp at q⟩
 |.bool b::l,_,_,e,⟨v,r,q,a,b'⟩=>by
  subst q;simp only[Dx,Option.map_eq_some_iff] at e;obtain⟨yi,e,rfl⟩:=e;obtain⟨h1,h2⟩:=Mk e b';refine⟨by simp[h1],λi u hu=>?_⟩;cases i with
  |zero=>simp at hu;subst hu;exact⟨b,rfl,a⟩
  |succ j=>simp only[getElem?_cons_succ] at hu ⊢;exact h2 j u hu
 |.none::_,_,_,e,_=>HA e
 |.int _::_,_,_,e,_=>HA e
 |.tuple _::_,_,_,e,_=>HA e
 |.list _::_,_,_,e,_=>HA e
 |.dict _::_,_,_,e,_=>HA e
 |.str _::_,_,_,e,_=>HA e
 |.obj ..::_,_,_,e,_=>HA e
theorem Rh(bs:List Bool):(List.range bs.length).all (λi=>bs.getD i false)=bs.all id:=by
 induction bs with
 |nil=>rfl
 |cons b r ih=>refine zr A0P (zr List.range_succ_eq_map (zr all_cons (zr List.all_map ?_)));simpa [Function.comp_def] using ih▸rfl
theorem LZ:∀(n:Nat)(f:Nat->Int)(vs:List Value),vs.length=n->(∀(j:Nat)(v:Value),vs[j]?=some v->∃t,v=Value.int (f j) t)->Rds h P ((List.range n).map λk=>PV.int (f k)) vs
 |0,f,vs,e,_=>by have:=A1R.mp e;subst this;rfl
 |n+1,f,[],e,_=>by simp at e
 |n+1,f,v::vs,e,q=>by
  refine zr List.range_succ_eq_map (zr A0Z (zr A0g ?_));obtain⟨t,ht⟩:=q 0 v rfl;refine⟨v,vs,rfl,⟨t,ht⟩,?_⟩;exact LZ n (λk=>f (k+1)) vs (by simpa using e) λj u hu=>q (j+1) u (by simpa using hu)
theorem PM(h:n<=Ab):(n:Int)<2 ^ 63:=Pu (A1B _) h
theorem Ft{us:Array Value}(hr:Rds h P l us.toList):us.size=l.length:=by exact zr yc.symm hr.length
theorem H7:∀{l:List PV}{is:List Int}{vs:List Value},PV.Bu l=some is->Rds h P l vs->IntsAre vs is
 |[],_,_,e,r=>by refine CD e ?_;exact zr (show _=_ from r) .nil
 |.int i::l,_,_,e,⟨v,r,q,⟨t,a⟩,b⟩=>by
  subst q a;simp only[PV.Bu,Option.map_eq_some_iff] at e;obtain⟨yi,e,rfl⟩:=e;exact .cons i t (H7 e b)
 |.none::_,_,_,e,_=>HA e
 |.bool _::_,_,_,e,_=>HA e
 |.tuple _::_,_,_,e,_=>HA e
 |.list _::_,_,_,e,_=>HA e
 |.dict _::_,_,_,e,_=>HA e
 |.str _::_,_,_,e,_=>HA e
 |.obj ..::_,_,_,e,_=>HA e
theorem Uf:∀(l:List Int)(i:Int),(l.foldl (λa b=>if a<b then b else a) i∈i::l)/\∀a∈i::l,a<=l.foldl (λa b=>if a<b then b else a) i:=by
 intro l;induction l with
 |nil=>exact λi=>⟨YP.2 rfl,λa ha=>by refine zr (YP.1 ha) ?_;exact A1B _⟩
 |cons b l ih=>
  intro i;obtain⟨h1,h2⟩:=ih (if i<b then b else i);refine zr A1u ?_;have zE:i<=(if i<b then b else i)/\b<=(if i<b then b else i):=by
   by_cases c:i<b
   ·exact zr (XL c) ⟨A1o c,A1B _⟩
   ·exact zr (Yf c) ⟨A1B _,A1I.1 c⟩
  have h0:=h2 _ d4;refine⟨?_,λa ha=>?_⟩
  ·rcases A0E.1 h1 with h|h
   ·refine zr h ?_;split
    ·exact kV _ d4
    ·exact d4
   ·exact kV _ (kV _ h)
  ·cases ha with
   |head=>exact A0s zE.1 h0
   |tail _ ha=>
    cases ha with
    |head=>exact A0s zE.2 h0
    |tail _ ha=>exact h2 a (kV _ ha)
theorem XT(hh:A.handled=none)(hl:s.heap.IsList l us)(hi:IntsAre us.toList ns)(BG:0<ns.length)
  (h:∀h' t tk,(∀b o,s.heap.get? b=some o->h'.get? b=some o)->Q (.int (Hr ns) t) { s with heap:=h',toks:=tk }):
  wpAny Md A (call (.builtin "max") [.ref l]) Q E s:=by
 obtain⟨xs,e⟩:=hi.allInts.items;have FQ:ns=xs.toList.map (·.1):=by rw[<-hi.numsOf,<-nums_intItems,<-e]
 have EF:0<xs.size:=by have h3:=BG;rw[FQ,KK,yc] at h3;exact h3
 rw[show us=intItems xs from by simpa using e] at hl;refine max_intList hh hl EF λv h' tk hv hk=>?_
 refine CB (intItems_at hv) λt=>?_
 obtain⟨h1,h2⟩:=argBest_gt (numAt xs) (xs.size-1);have m1:numAt xs (argBest (λi j=>decide (numAt xs i>numAt xs j)) (xs.size-1))∈ns:=by
  rw[FQ,numAt_eq];exact getD_mem (zr (KK _) (zr yc (A0o h1 (sub_lt EF Nat.one_pos))))
 have m2:∀a∈ns,a<=numAt xs (argBest (λi j=>decide (numAt xs i>numAt xs j)) (xs.size-1)):=λa ha=>by
  rw[FQ] at ha;refine AE (mem_getD ha) λj hj Av=>?_;subst Av
  rw[KK,yc] at hj;exact zr (numAt_eq _ _).symm (h2 j (Nat.le_sub_one_of_lt hj))
 have:numAt xs (argBest (λi j=>decide (numAt xs i>numAt xs j)) (xs.size-1))=Hr ns:=by
  cases ns with
  |nil=>cases BG
  |cons i l=>
   obtain⟨f1,f2⟩:=Uf l i;exact Int.le_antisymm (f2 _ m1) (m2 _ f1)
 exact zr this (h h' t tk hk)
theorem Ln:∀{kvs:List (Int×Value)}{acc:List Value},acc.length=kvs.length->(∀(j:Nat)(v:Value),acc[j]?=some v->∃k x,kvs[j]?=some (k,x)/\(intKind prog w).is k v=true)->Rds h P (kvs.map λp=>PV.int p.1) acc
 |[],[],_,_=>rfl
 |[],_::_,e,_=>by cases e
 |_::_,[],e,_=>by cases e
 |(k,x)::kvs,v::acc,e,q=>by
  refine Gr (q 0 v rfl) λk' x' h1 h2=>?_
  cases h1
  exact⟨v,acc,rfl,Value.isInt_shape h2,Ln (by simpa using e) λj u hu=>q (j+1) u hu⟩
@[elab_as_elim] theorem Ms.p1 {motive:List Value->Prop} {f:PV->Res PV} (r:Ms c own h ds vs) (e:p1 f ds=.ok d) (H:∀x v,f x=.ok d->Tp c own h x v->motive [v]):motive vs:=by
 refine AE (jj e) λx q e=>?_;subst q
 obtain⟨v,_,rfl,a,rfl⟩:=r;exact H x v e a
@[elab_as_elim] theorem Ms.p2 {motive:List Value->Prop} {f:Int->Int->Res PV} (r:Ms c own h ds vs) (e:p2 (DO f) ds=.ok d) (H:∀a b t u,f a b=.ok d->motive [.int a t,.int b u]):motive vs:=by
 refine Gr (ji e) λx y q e=>?_;subst q
 refine Gq (B3 e) λa b q q' e=>?_;subst q;subst q'
 obtain⟨v,_,rfl,⟨t,rfl⟩,v',_,rfl,⟨u,rfl⟩,rfl⟩:=r;exact H a b t u e
theorem Nb(x:St c own ρ s)(fX:3<s.heap.objs.size)(hu:A.units+200<cLine)(hh:A.handled=none)(hp:El p≠.none)(dn:p≠.listRange)(r:Ms c own s.heap ds vs)(e:prim p ds=.ok d):
  Ja c own A (call (El p) vs) (Nd p) d s:=by
 intro E;cases p with
 |isi t=>exact absurd rfl hp
 |listRange=>exact absurd rfl dn
 |max2=>
  refine Ms.p2 r e λa b t u e=>?_
  refine At e ?_;refine max_two_ints hh λh' tk k=>⟨Cy k,?_⟩
  show ∃_,_;split<;>exact⟨_,rfl⟩
 |min2=>
  refine Ms.p2 r e λa b t u e=>?_
  refine At e ?_;refine min_two_ints hh λh' tk k=>⟨Cy k,?_⟩
  show ∃_,_;split<;>exact⟨_,rfl⟩
 |maxL=>
  refine Ms.p1 r e λAd v e r=>?_
  cases Ad with
  |list l=>
   have e:(match PV.Bu l with|some (i::is)=>Res.ok (PV.int (Hr (i::is)))|_=>.stuck)=.ok d:=e;refine M7.el r λa us _ n hl hn hr=>?_
   cases q:PV.Bu l with
   |none=>rw[q] at e;cases e
   |some is=>
    rw[q] at e;cases is with
    |nil=>cases e
    |cons i is=>refine At e ?_;exact XT hh ⟨_,hl,rfl,n,rfl⟩ (H7 q hr) (succ_pos _) λh' t tk k=>⟨Cy k,_,rfl⟩
  |_=>exact Res.no e
 |dictOf=>
  refine Ms.p1 r e λAd v e r=>?_
  cases Ad with
  |dict l=>
   obtain⟨hf,e⟩:=Bb (show(if(AR l (.int 0)&&decide (l.length<1000))=true then Res.ok (PV.dict l) else .stuck)=.ok d from e);refine At e ?_;simp only[Bool.and_eq_true,decide_eq_true_eq] at hf;refine R4.el r λa us _ n1 hn dr hr=>?_
   refine Ca (dr.int hf.1) λkvs hm e1 EH=>?_;subst EH
   have I7:kvs.length=l.length:=by simpa using (A0U List.length e1).symm
   refine PySem.kt_call_dict (FT n1) hm (zr I7 (zr DN.symm hn)) λh' Ks hs=>?_
   have hk:∀b o,s.heap.get? b=some o->h'.get? b=some o:=λb o ho=>(hs.2 b (A1D (A0m ho))).trans (mi _ ho)
   refine⟨Cy hk,_,_,rfl,BI _,?_,hn,.inl ⟨kvs,Ks,e1,rfl⟩,?_⟩
   ·intro q;rw[q] at fX;exact absurd fX (by decide)
   ·refine RdKV.to (λa o ho J=>hk a o ho) l (RdKV.imp (λb o ho J p=>⟨p,λq=>?_⟩) l hr);injection q with q;rw[<-q,BI] at ho;cases ho
  |_=>exact Res.no e
 |len=>
  refine Ms.p1 r e λAd v e r=>?_
  cases Ad with
  |dict l=>
   obtain⟨hf,e⟩:=Bb (show(if(AR l (.int 0))=true then Res.ok (PV.int l.length) else .stuck)=.ok d from e);refine At e ?_;refine R4.el r λa us _ n1 hn dr hr=>?_
   refine Ca (dr.int hf) λkvs hm e1 EH=>?_;subst EH
   have I7:kvs.length=l.length:=by simpa using (A0U List.length e1).symm
   exact PySem.call_len_dict (FT n1) hm (zr I7 (PM hn)) ⟨AK _ _,_,by exact zr I7 rfl⟩
  |list l=>refine M7.el r λa us _ n hl hn hr=>?_;refine At e ?_;exact Calls.call_len_list ⟨_,hl,rfl,n,rfl⟩ (zr (Ft hr) (PM hn)) ⟨AK _ _,_,by exact zr (Ft hr) rfl⟩
  |tuple l=>refine Iz.el r λa us n hl hn hr=>?_;refine At e ?_;exact PyProof.Rows.len_tuple ⟨_,hl,rfl,n,rfl⟩ (zr (Ft hr) (PM hn)) ⟨AK _ _,_,by exact zr (Ft hr) rfl⟩
  |_=>exact Res.no e
 |abs=>
  refine Ms.p1 r e λAd v e r=>?_
  cases Ad with
  |int i=>refine CB r λt=>?_;refine At e ?_;exact call_abs_int λu tk=>⟨AK _ _,_,rfl⟩
  |_=>exact Res.no e
 |listOf=>
  refine Ms.p1 r e λAd v e r=>?_
  cases Ad with
  |tuple l=>
    refine Iz.el r λa us n hl hn hr=>?_
    refine At e ?_;refine call_list_seq a (.inr rfl) hl rfl rfl (λh' c' k1 k2=>⟨Cy k1,s.heap.objs.size,us,rfl,BI _,⟨c',k2⟩,hn,?_⟩) (zr (Ft hr) (zr DN.symm hn));refine Rds.to (λa o ho J=>k1 a o ho) l (Rds.imp (λb o ho J p=>⟨p,λq=>?_⟩) l hr);injection q with q;rw[<-q,BI] at ho;cases ho
  |dict l=>
   obtain⟨hf,e⟩:=Bb (show(if(AR l (.int 0))=true then Res.ok (PV.list (l.map λp=>.int p.1.i)) else .stuck)=.ok d from e);refine At e ?_;refine R4.el r λa us _ n1 hn dr hr=>?_
   refine Ca (dr.int hf) λkvs hm e1 EH=>?_;subst EH
   obtain⟨ep,hm⟩:=hm.dictAt;have I7:kvs.length=l.length:=by simpa using (A0U List.length e1).symm
   refine PySem.W.kdl_call (PySem.W.kdl_dict (FT n1)) hh hm (zr I7 (zr DN.symm hn)) λh' tk acc c' k1 k2 k3=>⟨Cy k1,s.heap.objs.size,acc,rfl,BI _,⟨c',k2⟩,by refine zr (KK _) ?_;exact hn,?_⟩
   rw[show(l.map λp=>PV.int p.1.i)=kvs.map λp=>PV.int p.1 by
    have:=A0U (List.map λk:Key=>PV.int k.i) e1;rw[A0g,A0g] at this;exact this]
   exact Ln (zr yc k3.1) λj v hv=>k3.2 j v (by refine zr A0z.symm ?_;exact hv)
  |_=>exact Res.no e
 |tupleOf=>
  refine Ms.p1 r e λAd v e r=>?_
  cases Ad with
  |list l=>refine M7.el r λa us _ n hl hn hr=>?_;refine At e ?_;exact call_tuple_list ⟨_,hl,rfl,n,rfl⟩ (λh' k=>⟨Cy λb o ho=>mi _ (k b o ho),Cf hn (Rds.to (λa o ho J=>k a o ho) l hr)⟩) (zr (Ft hr) (zr DN.symm hn))
  |_=>exact Res.no e
 |intOf=>
  refine Ms.p1 r e λAd v e r=>?_
  cases Ad with
  |bool b=>obtain rfl:v=_:=r;refine At e ?_;exact call_int_bool ⟨AK _ _,_,rfl⟩
  |_=>exact Res.no e
 |all=>
  refine Ms.p1 r e λAd v e r=>?_
  cases Ad with
  |list l=>
   have e:Mo l=.ok d:=e;cases oO:Dx l with
   |none=>rw[Mo,oO] at e;cases e
   |some bs=>
    rw[Mo,oO] at e;refine At e ?_;refine M7.el r λa us _ n hl hn hr=>?_
    obtain⟨h1,h2⟩:=Mk oO hr;refine call_all_walk (wpAny_pyIter_list ⟨_,hl,rfl,n,rfl⟩ ?_);refine⟨s.heap.objs.size,_,_,_,_,_,λi=>bs.getD i false,rfl,Walks.list (by exact hh) s.heap.objs.size a (A1D (A0m hl)) us,⟨⟨_,A0L _ rfl,rfl,rfl⟩,⟨_,mi _ hl,rfl,n,rfl⟩⟩,λi v s Q E hv hq=>?_,λh' tk k=>⟨?_,?_⟩⟩
    ·refine AE (h2 i v (by refine zr A0z ?_;exact hv)) λb hb Av=>?_;subst Av
     exact A0h (by simpa [List.getD,hb] using hq)
    ·exact⟨h',tk,rfl,λb o ho=>k b o (λq=>by rw[YP.mp q,BI] at ho;cases ho) (mi _ ho)⟩
    ·rw[<-yc,h1,Rh];rfl
  |_=>exact Res.no e
end
theorem Q1(ht:t≠.seq)(r:Tp c own s.heap d v)(e:Xm t d=.ok x):∀E,wpAny Md A (call (.builtin "isinstance") [v,.type (Sq t)]) (λu s'=>Keeps s s'/\∃b,x=.bool b/\u=.bool b) E s:=by
 intro E;cases d with
 |none=>
  cases r
  cases t with
  |int=>refine At e ?_;exact IsiPair.NoneType_int ⟨AK _ _,_,rfl,rfl⟩
  |tuple=>refine At e ?_;exact IsiPair.NoneType_tuple ⟨AK _ _,_,rfl,rfl⟩
  |str=>refine At e ?_;exact IsiPair.NoneType_str ⟨AK _ _,_,rfl,rfl⟩
  |_=>exact Res.no e
 |bool b=>
  cases r
  cases t with
  |int=>refine At e ?_;exact IsiPair.bool_int ⟨AK s s.toks,_,rfl,rfl⟩
  |bool=>refine At e ?_;exact IsiPair.bool_bool ⟨AK s s.toks,_,rfl,rfl⟩
  |_=>exact Res.no e
 |int i=>
  refine CB r λu=>?_
  cases t with
  |int=>refine At e ?_;exact IsiPair.int_int ⟨AK s s.toks,_,rfl,rfl⟩
  |bool=>refine At e ?_;exact IsiPair.int_bool ⟨AK _ _,_,rfl,rfl⟩
  |tuple=>refine At e ?_;exact IsiPair.int_tuple ⟨AK _ _,_,rfl,rfl⟩
  |str=>refine At e ?_;exact IsiPair.int_str ⟨AK _ _,_,rfl,rfl⟩
  |_=>exact Res.no e
 |str i=>
  obtain⟨_,u,rfl⟩:=r;cases t with
  |tuple=>refine At e ?_;exact IsiPair.str_tuple ⟨AK _ _,_,rfl,rfl⟩
  |str=>refine At e ?_;exact IsiPair.str_str ⟨AK s s.toks,_,rfl,rfl⟩
  |_=>exact Res.no e
 |list l=>
  cases t with
  |tuple=>refine M7.el r λa us _ n hl hn hr=>?_;refine At e ?_;exact IsiPair.list_tuple hl rfl ⟨AK _ _,_,rfl,rfl⟩
  |_=>exact Res.no e
 |tuple l=>
  cases t with
  |tuple=>refine Iz.el r λa us n hl hn hr=>?_;refine At e ?_;exact IsiPair.tuple_tuple hl rfl ⟨AK s s.toks,_,rfl,rfl⟩
  |seq=>exact absurd rfl ht
  |_=>exact Res.no e
 |_=>cases t<;>exact Res.no e
theorem Xl (ht:s.heap.get? tp=some { cls:=.type "tuple",data:=.seq #[.type "tuple",.type "list"] }) (r:Tp c own s.heap d v) (e:Xm .seq d=.ok x):∀E,wpAny Md A (call (.builtin "isinstance") [v,.ref tp]) (λu s'=>Keeps s s'/\∃b,x=.bool b/\u=.bool b) E s:=by
 intro E;cases d with
 |tuple l=>refine Iz.el r λa us n hl hn hr=>?_;refine At e ?_;exact IsiPair.tupleOfB (.cons (.of_true PySem.F.isi_meta_tuple PySem.F.sub_tuple_tuple) (.cons (.of_false_tuple (by decide) PySem.F.isi_meta_list PySem.F.sub_tuple_list) .nil)) ⟨_,hl,rfl⟩ ht rfl λtk=>⟨AK _ _,_,rfl,rfl⟩
 |_=>exact Res.no e
theorem S3(k:Nat):Builtin.Range.rangeSize 0 k 1=k:=by
 unfold Builtin.Range.rangeSize;simp only[show(1:Int)>0 by decide,if_true,Int.ediv_one];split<;>(first|exact vq|exact vp (by assumption))
theorem Gx(x:St c own ρ s)(hh:A.handled=none)(e:prim .listRange [.int n]=.ok d):
  ∀E,wpAny Md A (call (.type "range") [.int n t]) (λr AG=>wpAny Md A (call (.type "list") [r]) (λv s'=>Keeps s s'/\D9 c own s.heap s'.heap .fresh d v) E AG) E s:=by
 intro E;simp only[prim,l1,Jy] at e;split at e
 ·rename_i hc;simp only[Bool.and_eq_true,decide_eq_true_eq] at hc;obtain⟨k,rfl⟩:=Int.eq_ofNat_of_zero_le hc.1;unfold Ab at hc;have hk:=vo hc.2;have he:d=.list ((List.range k).map λ(j:Nat)=>PV.int (j:Int)):=by
   simp only[Res.bind,FP,EB,Int.sub_zero,Int.toNat_natCast,length_map,length_range,Int.zero_add] at e;rw[XL (show k<=Ab from hk)] at e;refine At e ?_;rfl
  subst he;refine call_range_1 (call_list_range hh (A0L _ rfl) (PySem.small_one (by decide) (by decide) (ZJ (A0H _)) (Zb (A1B _) hk)) (S3 k) hk λh' tk pT c' k1 k2 k3=>⟨?_,?_⟩)
  ·exact⟨h',tk,rfl,λb o ho=>k1 b o (mi _ ho)⟩
  ·refine⟨_,pT,rfl,?_,⟨c',k2⟩,zr (KK _) (zr A0q hk),?_⟩
   ·show s.heap.get? (s.heap.push _).objs.size=none;refine zr (Heap.size_push _ _) ?_;cases q:s.heap.get? (s.heap.objs.size+1) with
    |none=>rfl
    |some o=>exact absurd (A0m q) (Nat.not_lt.mpr (le_succ _))
   ·refine LZ k (λj=>(j:Int)) _ (zr yc k3.1) λj v hv=>?_
    obtain⟨t,ht⟩:=k3.2 j v (by refine zr A0z.symm ?_;exact hv);exact⟨t,by refine zr ht ?_;simp⟩
 ·exact Res.no e
theorem S2(h:a<=b):Builtin.Range.rangeSize a b 1=b-a:=by
 unfold Builtin.Range.rangeSize;simp only[show(1:Int)>0 by decide,if_true,Int.ediv_one];split<;>(first|exact vh|exact vg h (by assumption))
section
set_option backward.eqns.nonrecursive false
noncomputable def Bg:List (Str×Value):=
 [("len",.builtin "len"),("abs",.builtin "abs"),("range",.type "range"),("enumerate",.type "enumerate"),("list",.type "list"),("tuple",.type "tuple"),("int",.type "int"),("all",.builtin "all"),
  ("max",.builtin "max"),("min",.builtin "min"),("dict",.type "dict"),("isinstance",.builtin "isinstance"),("bool",.type "bool"),("str",.type "str"),("ValueError",.type "ValueError")]
noncomputable def meths:List (Str×GE):=[("face",.fn 53 1 true),("able",.fn 54 1 true),("leads",.fn 55 1 false),("crossings",.fn 56 1 true),("drawing",.fn 57 1 false)]
def lZ(fa:Nat->Addr):GE->Value->Prop
 |.fn i _ _,v=>v=.ref (fa i)
 |.const d,v=>∃i t,d=.int i/\v=.int i t
structure Mu(B:Heap)(c:Nat)(C:Addr):Prop where
 lt:c∈List.range 5
 ok:∃mg,B.Ns mainGlobals mg/\XcAt mg B/\C=xaOf mg c
structure Zl(fa:Nat->Addr)(B:Heap)(N:Addr)(mN:Str->Option Value):Prop where
 at_:PlainAt B AQ CA N mN
 fn:∀x i ar fr,meths.lookup x=some (.fn i ar fr)->mN x=some (.ref (fa i))/\∃o fd,B.get? (fa i)=some o/\o.cls=.type "function" /\ o.data=.func fd
structure da(G:List (Str×GE))(fa:Nat->Addr)(B:Heap):Prop where
 g:∃mg,B.Ns mainGlobals mg/\(∀x e,G.lookup x=some e->∃v,mg x=some v/\lZ fa e v)/\(∀x v,(x,v)∈Bg->G.lookup x=none->mg x=none)/\mg ("Arc" : Str)=some (.ref CA)
 b:∃mb,B.Ns builtinsNs mb/\∀x v,(x,v)∈Bg->mb x=some v
 nolimit:B.NoLimit
 fn:∀x i ar fr,G.lookup x=some (.fn i ar fr)->∃o fd,B.get? (fa i)=some o/\o.data=.func fd
 arc:∃N mN,Zl fa B N mN
 x:∀c x,BD[c]?=some x->∃C,Mu B c C/\∃bm newId Bn GB mg,B.Ns mainGlobals mg/\OwnClsQ x C bm newId mg B/\ExcBaseFacts Bn newId GB bm
inductive Fly(B:Heap)(A:Around)(s:Shared)(d:PV)(x:Value)(s':Shared):Prop where
 |mk (c:Nat) (C a:Addr) (h':Heap) (tk:Nat) (er:d=.int c) (o:Mu B c C) (e:x=.ref a) (e':s'=(up s (h') (tk))) (g:Ap (frs A) s.heap h') (hn:s.heap.get? a=none) (ht:h'.Traced s.heap a (.ref C))
structure Rl(B:Heap)(D:Nat)(A:Around)(h:Heap):Prop where
 handled:A.handled=none
 depth:A.depth+D+10<recursionLimit
 units:A.units+20*D+300<cLine
 frames:∃l,A.frames=some l/\∀e∈l,e.scope.kind≠.module/\∃L,e.frame=some L
 fr:∀a∈frs A,∃m,h.Ns a m
 base:∀b o,B.get? b=some o->b∉frs A/\h.get? b=some o
def IX(B8 h:Heap)(P:Addr->Prop)(fr:Bool)(d:PV)(v:Value):Prop:=
 if fr then CV h (λb=>(P b\/B8.get? b=none)/\v≠.ref b) (λa=>B8.get? a=none) d v else Rd h (λb=>P b\/B8.get? b=none) d v
def YY(G:List (Str×GE))(f:Str)(i ar:Nat)(fr:Bool):Prop:=G.lookup f=some (.fn i ar fr)\/meths.lookup f=some (.fn i ar fr)
def CFv(B:Heap)(fa:Nat->Addr)(G:List (Str×GE))(cf:Nat->List PV->Res PV)(D:Nat):Prop:=
 ∀(A:Around)(s:Shared)(f:Str)(i ar:Nat)(fr:Bool)(ds:List PV)(vs:List Value)(P:Addr->Prop)(d:PV),YY G f i ar fr->ds.length=ar->Rl B D A s.heap->(∀a∈frs A,¬P a)->Rds s.heap P ds vs->cf i ds=.ok d ->
  codeAny Md A (.call (.ref (fa i)) ⟨vs,[]⟩) (λr s'=>match r with
   |.ok (.ret v)=>AX A s s'/\IX s.heap s'.heap P fr d v
   |_=>False) s
def CFx(B:Heap)(fa:Nat->Addr)(G:List (Str×GE))(cf:Nat->List PV->Res PV)(D:Nat):Prop:=
 ∀(A:Around)(s:Shared)(f:Str)(i ar:Nat)(fr:Bool)(ds:List PV)(vs:List Value)(P:Addr->Prop)(d:PV),G.lookup f=some (.fn i ar fr)->ds.length=ar->Rl B D A s.heap->(∀a∈frs A,¬P a)->Rds s.heap P ds vs->cf (i+1000) ds=.ok d ->
  codeAny Md A (.call (.ref (fa i)) ⟨vs,[]⟩) (λr s'=>match r with
   |.error x=>Fly B A s d x s'
   |_=>False) s
noncomputable def Ct:PV->Bool
 |.obj ..=>false
 |_=>true
structure CF(B:Heap)(fa:Nat->Addr)(G:List (Str×GE))(cf:Nat->List PV->Res PV)(D:Nat):Prop where
 v:CFv B fa G cf D
 o:∀m i ar fr,meths.lookup m=some (.fn i ar fr)->∀d,Ct d=true->cf i [d]=.stuck
 x:CFx B fa G cf D
structure EG where
 c:Cx
 t:TC
 B:Heap
 fa:Nat->Addr
 D:Nat
structure AL(f:EG):Prop where
 ok:Ex f.c
 scope:f.c.env.scope.names=f.t.scope
 names:f.c.names=f.t.slots
 mv:f.c.mv=f.t.mv
 gl:f.c.env.globals=mainGlobals
 bl:f.c.env.builtins=builtinsNs
 gnd:da f.t.G f.fa f.B
 base:∀b o,f.B.get? b=some o->b∉frs f.c.A/\f.c.h0.get? b=some o
 depth:f.c.A.depth+f.D+10<recursionLimit
 units:f.c.A.units+20*f.D+300<cLine
 cb:∀x i,(x,i)∈f.t.slots->i<f.t.cbase
 mvb:∀i∈f.t.mv,i<f.t.cbase
inductive VP(f:EG)(own:Addr->Option Nat)(s:Shared)(k:Cl)(d:PV)(v:Value)(s':Shared):Prop where
 |mk (g:AX f.c.A s s') (x:D9 f.c own s.heap s'.heap k d v)
abbrev BP(f:EG)(s:Shared)(b b':Bool)(s':Shared):Prop:=b'=b/\AX f.c.A s s'
def AW(f:EG)(cf:Nat->List PV->Res PV)(e:Expr)(p:PE)(k:Cl):Prop:=
 ∀own ρ s d,St f.c own ρ s->ev cf ρ p=.ok d->wpAny Md f.c.A (eval e f.c.env) (VP f own s k d) (λJ J=>False) s
def EE(f:EG)(cf:Nat->List PV->Res PV)(e:Expr)(p:PE):Prop:=
 ∀own ρ s b,St f.c own ρ s->ev cf ρ p=.ok (.bool b)->wpAny Md f.c.A (isTrue e f.c.env (eval e f.c.env)) (BP f s b) (λJ J=>False) s
theorem St.B0(F:AL f)(x:St f.c own ρ s):∀b o,f.B.get? b=some o->s.heap.get? b=some o:=λb o h=>(x.base b o (F.base b o h).2).1 (F.base b o h).1
theorem St.here(F:AL f)(x:St f.c own ρ s):Rl f.B f.D f.c.A s.heap where
 handled:=F.ok.handled
 depth:=F.depth
 units:=F.units
 frames:=F.ok.frames
 fr:=λa h=>(x.fr a h).2
 base:=λb o h=>⟨(F.base b o h).1,x.B0 F b o h⟩
theorem AW.at(h:AW f cf e p k)(F:AL f)(x:St f.c own ρ s)(he:ev cf ρ p=.ok d)(hQ:∀v s',AX f.c.A s s'->St f.c own ρ s'->D9 f.c own s.heap s'.heap k d v->Q v s'):wpAny Md f.c.A (eval e f.c.env) Q E s:=
 mj (h own ρ s d x he) (λv s' q=>q.casesOn λg r=>hQ v s' g (x.grow F.ok g) r) λJ J q=>q.elim
theorem EE.at(h:EE f cf e p)(F:AL f)(x:St f.c own ρ s)(he:ev cf ρ p=.ok (.bool b))(hQ:∀s',AX f.c.A s s'->St f.c own ρ s'->Q b s'):wpAny Md f.c.A (isTrue e f.c.env (eval e f.c.env)) Q E s:=
 mj (h own ρ s b x he) (λb' s' q=>q.1▸hQ s' q.2 (x.grow F.ok q.2)) λJ J q=>q.elim
theorem EE.WF(h:AW f cf e p k)(ho:∀env whole,isTrue e env whole=(do let v <-whole;standAt e.pos;holding [v] (truthy v))):EE f cf e p:=by
 intro own ρ s b x he;refine zr (ho _ _) ?_;refine Xt (mj (h own ρ s _ x he) (λv s' q=>?_) λJ J q=>q.elim);obtain⟨g1,r⟩:=q;have hv:v=.bool b:=by cases k<;>exact r
 subst hv;exact Xt (A1y (A1Z (A0h ⟨rfl,g1⟩)))
theorem DM(F:AL f)(x:St f.c own ρ s)(hg:f.t.glob y=true)(hn:f.t.G.lookup y=none)(hb:(y,v)∈Bg)(h:Q v s):
  wpAny Md f.c.A (loadName f.c.env y) Q E s:=by
 refine DU F.gnd.g λmg h1 J h2 J=>?_
 refine AE F.gnd.b λmb h3 h4=>?_
 have hk:f.c.env.kindOf y=some .globalImplicit:=by
  show f.c.env.scope.names.lookup y=_;exact zr F.scope (eq_of_beq hg)
 refine zr (loadName_read F.ok.kind hk) ?_;exact Calls.loadGlobal_builtin (zr F.gl (h1.keeps (x.B0 F))) (h2 y v hb hn) (by refine zr F.bl ?_;exact h3.keeps (x.B0 F)) (h4 y v hb) h
theorem Nm(F:AL f)(x:St f.c own ρ s)(hg:f.t.glob y=true)(hl:f.t.G.lookup y=some g)(h:∀v,lZ f.fa g v->Q v s):
  wpAny Md f.c.A (loadName f.c.env y) Q E s:=by
 refine DU F.gnd.g λmg h1 h2 J J=>?_
 refine AE (h2 y g hl) λv hv Z1=>?_
 have hk:f.c.env.kindOf y=some .globalImplicit:=by
  show f.c.env.scope.names.lookup y=_;exact zr F.scope (eq_of_beq hg)
 refine zr (loadName_read F.ok.kind hk) ?_;exact Calls.loadGlobal_global (zr F.gl (h1.keeps (x.B0 F))) hv (h v Z1)
end
section
set_option backward.eqns.nonrecursive false
def C6(c:Cx)(own:Addr->Option Nat)(B8 h:Heap):List Cl->List PV->List Value->Prop
 |[],ds,vs=>ds=[]/\vs=[]
 |k::ks,ds,vs=>∃d eC v DQ,ds=d::eC/\vs=v::DQ/\D9 c own B8 h k d v/\C6 c own B8 h ks eC DQ
inductive BF(f:EG)(cf:Nat->List PV->Res PV):List Expr->List (PE×Cl)->Prop
 |nil:BF f cf [] []
 |cons {e:Expr} {p:PE} {k:Cl} {es:List Expr} {l:List (PE×Cl)}:AW f cf e p k->EE f cf e p->BF f cf es l->BF f cf (e::es) ((p,k)::l)
section
variable {f:EG}{cf:Nat->List PV->Res PV}{own:Addr->Option Nat}{ρ:AP}{s:Shared}{e:Expr}{p:PE}{k:Cl}
theorem AJ(h:AN e=false):starEach (e::es) env=(false,eval e env)::starEach es env:=by
 cases e<;>first|rfl|(cases h)
theorem C6.cons(r:C6 c own B8 h (k::ks) ds vs){M:List PV->List Value->Prop}(H:∀d ds v vs,D9 c own B8 h k d v->C6 c own B8 h ks ds vs->M (d::ds) (v::vs)):M ds vs:=by
 obtain⟨d,eC,v,DQ,rfl,rfl,a,b⟩:=r;exact H d eC v DQ a b
theorem C6.nil(r:C6 c own B8 h [] ds vs){M:List PV->List Value->Prop}(H:M [] []):M ds vs:=by
 obtain⟨rfl,rfl⟩:=r;exact H
theorem C6.grow(x:St c own ρ s)(aH:AX c.A s AG)(ok:Ex c)(g:AX c.A AG s₂):∀{ks:List Cl}{ds:List PV}{vs:List Value},C6 c own s.heap AG.heap ks ds vs->C6 c own s.heap s₂.heap ks ds vs:=by
 intro ks;induction ks with
 |nil=>exact λ{_}{_}r=>r
 |cons _ _ ih=>exact λ{_}{_}r=>r.cons λd ds v vs a b=>⟨d,ds,v,vs,rfl,rfl,a.grow x aH ok g,ih b⟩
theorem C6.back(g:Ap l B8 s.heap):∀{ks:List Cl}{ds:List PV}{vs:List Value},C6 c own s.heap h ks ds vs->C6 c own B8 h ks ds vs:=by
 intro ks;induction ks with
 |nil=>exact λ{_}{_}r=>r
 |cons _ _ ih=>exact λ{_}{_}r=>r.cons λd ds v vs a b=>⟨d,ds,v,vs,rfl,rfl,a.back g,ih b⟩
theorem C6.tps(x:St c own ρ s):∀{ks:List Cl}{ds:List PV}{vs:List Value},ks.all Cl.top=true->C6 c own s.heap h ks ds vs->Ms c own h ds vs:=by
 intro ks;induction ks with
 |nil=>exact λ{_}{_}_ r=>r.nil rfl
 |cons _ _ ih=>exact λ{_}{_}ht r=>have ht:=ra.1 ht;r.cons λJ J v vs a b=>⟨v,vs,rfl,a.tp x ht.1,ih ht.2 b⟩
theorem C6.aQ(x:St c own ρ s):∀{ks:List Cl}{ds:List PV}{vs:List Value},ks.all Cl.inner=true->C6 c own s.heap h ks ds vs->Rds h (Fz c own) ds vs:=by
 intro ks;induction ks with
 |nil=>exact λ{_}{_}_ r=>r.nil rfl
 |cons _ _ ih=>exact λ{_}{_}ht r=>have ht:=ra.1 ht;r.cons λJ J v vs a b=>⟨v,vs,rfl,a.rd x ht.1,ih ht.2 b⟩
theorem C6.fz(x:St c own ρ s):∀{ks:List Cl}{ds:List PV}{vs:List Value},C6 c own s.heap h ks ds vs->Rds h (λa=>(c.P0 a\/c.h0.get? a=none)/\own a≠some EU) ds vs:=by
 intro ks;induction ks with
 |nil=>exact λ{_}{_}r=>r.nil rfl
 |cons _ _ ih=>exact λ{_}{_}r=>r.cons λJ J v vs a b=>⟨v,vs,rfl,a.any x,ih b⟩
inductive SP(f:EG)(own:Addr->Option Nat)(s:Shared)(ks:List Cl)(ds:List PV)(vs:List Value)(s':Shared):Prop where
 |mk (g:AX f.c.A s s') (x:C6 f.c own s.heap s'.heap ks ds vs)
theorem Dd(F:AL f)(h:BF f cf es l):es.any AN=false->∀{own:Addr->Option Nat}{ρ:AP}{s:Shared}{ds:List PV},St f.c own ρ s->evs cf ρ (l.map (·.1))=.ok ds ->
  wpAny Md f.c.A (spliced (backTo pos (starEach es f.c.env))) (SP f own s (l.map (·.2)) ds) (λJ J=>False) s:=by
 induction h with
 |nil=>
  intro _ own ρ s ds x he;refine At he ?_;exact A0c ⟨AX.refl s,rfl,rfl⟩
 |@cons e p k es l h1 _ h2 ih=>
  intro hs own ρ s ds x he;rw[any_cons,A1Y] at hs;refine AE (AD he) λd e1 he=>?_
  refine AE (AD he) λeC e2 he=>?_
  refine At he ?_;refine A0G (h1.at F x e1 λv AG g1 x1 r=>?_) (AJ hs.1);exact mj (ih hs.2 x1 e2) (λvs s₂ q=>q.casesOn λg z=>⟨g1.trans g,d,eC,v,vs,rfl,rfl,r.grow x g1 F.ok g,z.back g1.h⟩) λJ J q=>q.elim
noncomputable def lM:Const->Option PV
 |.none=>some .none
 |.bool b=>some (.bool b)
 |.int i=>some (.int i)
 |.str s=>if PyData.strOk s=true then some (.str s) else none
 |_=>none
theorem MT(h:lM c=some d):AW f cf (.Constant c kd pos) (.const d) .safe:=by
 intro own ρ s d' x he;refine At he ?_;cases c with
 |none=>refine CD h ?_;exact wpAny_Constant_none ⟨AX.refl s,rfl⟩
 |bool b=>refine CD h ?_;exact wpAny_Constant_bool ⟨AX.refl s,rfl⟩
 |int i=>refine CD h ?_;exact A1g ⟨AX.tok _ _,_,rfl⟩
 |str z=>
  by_cases hs:PyData.strOk z=true
  ·rw[show lM (.str z)=some (.str z) from XL hs] at h;refine CD h ?_;exact wpAny_Constant_str ⟨AX.tok _ _,hs,_,rfl⟩
  ·rw[show lM (.str z)=none from Yf hs] at h;cases h
 |_=>cases h
theorem LU{t:TC}(h:t.slot x=some i):(x,i)∈t.slots:=by
 unfold TC.slot at h;split at h
 ·exact mem_of_lookup h
 ·cases h
theorem Wg(h:slot ρ i=.ok d):ρ[i]?=some (some d):=by
 unfold slot at h;split at h
 ·rename_i q;refine At h ?_;exact q
 ·cases h
theorem Ts (F:AL f) {x:Str} (hd:(x==("__debug__" : Str))=false) (hi:f.t.slot x=some i):AW f cf (.Name x pos) (.var i) (if i∈f.t.mv then .own else .safe):=by
 intro own ρ s d st he;refine A0Y (st.load F.ok (by refine zr F.names ?_;exact LU hi:(x,i)∈f.c.names) (Wg he) λv hv=>⟨AX.refl s,?_⟩) hd;unfold DB at hv;rw[F.mv] at hv;by_cases M0:i∈f.t.mv
 ·rw[XL M0] at hv ⊢;exact CV.imp (λa _ _ _ (q:own a=some i)=>⟨st.ownNew a i q (zr F.mv M0),λz=>by rw[q] at z;cases z;exact F.ok.dumNot (zr F.mv M0),λz=>by rw[q] at z;cases z⟩) (λJ J J J q=>q) hv
 ·rw[Yf M0] at hv ⊢;exact hv
theorem Nk (F:AL f) (hd:(x==("__debug__" : Str))=false) (hg:f.t.glob x=true) (hl:f.t.G.lookup x=some (.const d)):AW f cf (.Name x pos) (.const d) .safe:=by
 intro own ρ s d' st he;refine At he ?_;refine A0Y (Nm F st hg hl λv hv=>⟨AX.refl s,?_⟩) hd;obtain⟨i,t,rfl,rfl⟩:=hv;exact⟨t,rfl⟩
theorem Rb(F:AL f){a b:PE×Cl}(ha:AW f cf l a.1 a.2)(hb:AW f cf r b.1 b.2)(ho:Pt op=some o)(ht:(a.2.top&&b.2.top)=true):
  AW f cf (.BinOp l op r pos) (.bin o a.1 b.1) .fresh:=by
 intro own ρ s d x he;refine AE (AD he) λd1 e1 he=>?_
 refine AE (AD he) λd2 e2 he=>?_
 have ht:=ra.1 ht;refine wpAny_BinOp (ha.at F x e1 λv AG g1 x1 r1=>hb.at F x1 e2 λv' s₂ g2 x2 r2=>?_);exact mj (Ml x2 ho ((r1.tp x ht.1).grow x1 g2) (r2.tp x1 ht.2) he _) (λv Bt z=>⟨(g1.trans g2).trans (.of_keeps z.1),z.2.back (g1.trans g2).h⟩) λJ J z=>z
theorem Ds(r:D9 c own B8 h k (.int i) v):∃t,v=.int i t:=by cases k<;>exact r
theorem XD(r:D9 c own B8 h k .none v):v=.none:=by cases k<;>exact r
theorem F2(r:D9 c own B8 h k (.bool b) v):v=.bool b:=by cases k<;>exact r
theorem Qo(F:AL f){a:PE×Cl}(ha:AW f cf x a.1 a.2):AW f cf (.UnaryOp .USub x pos) (.neg a.1) .safe:=by
 intro own ρ s d st he;refine AE (AD he) λd1 e1 he=>?_
 cases d1 with
 |int i=>
  refine At he ?_;refine wpAny_UnaryOp (ha.at F st e1 λv AG g1 x1 r1=>?_);refine CB (Ds r1) λt=>?_
  exact PyProof.Rows.neg_int ⟨g1.trans (AX.tok _ _),_,rfl⟩
 |_=>exact Res.no he
theorem Tk(he:ev cf ρ (.not a)=.ok d):∃b,ev cf ρ a=.ok (.bool b)/\d=.bool !b:=by
 refine AE (AD he) λd1 e1 he=>?_
 cases d1 with
 |bool b=>refine At he ?_;exact⟨b,e1,rfl⟩
 |_=>exact Res.no he
theorem Qk(F:AL f){a:PE×Cl}(ha:AW f cf x a.1 a.2):AW f cf (.UnaryOp .Not x pos) (.not a.1) .safe:=by
 intro own ρ s d st he;obtain⟨b,e1,rfl⟩:=Tk he;refine wpAny_UnaryOp (ha.at F st e1 λv AG g1 x1 r1=>?_);exact zr (F2 r1) (not_value (A0h ⟨g1,rfl⟩))
theorem Tj(F:AL f)(ha:EE f cf x a):EE f cf (.UnaryOp .Not x pos) (.not a):=by
 intro own ρ s d st he;obtain⟨b,e1,q⟩:=Tk he;cases q
 exact wpAny_isTrue_Not (ha.at F st e1 λAG g1 x1=>⟨rfl,g1⟩)
theorem Qz(F:AL f){pa pb:PE×Cl}(hc:EE f cf c pc)(ha:AW f cf a pa.1 pa.2)(hb:AW f cf b pb.1 pb.2)(hi:(pa.2.inner&&pb.2.inner)=true):
  AW f cf (.IfExp c a b pos) (.ite pc pa.1 pb.1) .safe:=by
 intro own ρ s d st he;have hi:=ra.1 hi;refine AE (AD he) λd1 e1 he=>?_
 cases d1 with
 |bool t=>
  refine wpAny_IfExp (hc.at F st e1 λAG g1 x1=>?_);cases t with
  |true=>exact ha.at F x1 he λv s₂ g2 _ r=>⟨g1.trans g2,r.rd x1 hi.1⟩
  |false=>exact hb.at F x1 he λv s₂ g2 _ r=>⟨g1.trans g2,r.rd x1 hi.2⟩
 |_=>exact Res.no he
end
end
theorem F3
  (h:wpAny M A x (λv AG=>wpAny M A (truthy v) (λt s₂=>match op,t with|.And,false|.Or,true=>Q v s₂|_,_=>wpAny M A (boolOp pos op (y::r)) Q E s₂) E AG) E s):wpAny M A (boolOp pos op (x::y::r)) Q E s:=by
 show wpAny M A (x >>= λv=>standAt pos >>= λJ=>holding [v] (truthy v) >>= λt=>match op,t with|.And,false|.Or,true=>pure v|_,_=>boolOp pos op (y::r)) Q E s;refine Xt (mj h (λv AG q=>Xt (A1y (Xt (A1Z (mj q (λt s₂ z=>?_) λJ J z=>z))))) λJ J z=>z);cases op<;>cases t<;>first|exact ml z|exact z
inductive OP(f:EG)(s:Shared)(b:Bool)(v:Value)(s':Shared):Prop where
 |mk (ev:v=.bool b) (g:AX f.c.A s s')
theorem Oh(he:evAnd cf ρ (p::l)=.ok b):∃t,ev cf ρ p=.ok (.bool t)/\(if t then evAnd cf ρ l else .ok false)=.ok b:=by
 refine AE (AD he) λd e1 he=>?_
 cases d with
 |bool t=>exact⟨t,e1,he⟩
 |_=>exact Res.no he
theorem ZG(he:evOr cf ρ (p::l)=.ok b):∃t,ev cf ρ p=.ok (.bool t)/\(if t then .ok true else evOr cf ρ l)=.ok b:=by
 refine AE (AD he) λd e1 he=>?_
 cases d with
 |bool t=>exact⟨t,e1,he⟩
 |_=>exact Res.no he
theorem Rg(F:AL f)(h:BF f cf es l):es≠[]->∀{own:Addr->Option Nat}{ρ:AP}{s:Shared}{b:Bool},St f.c own ρ s->evAnd cf ρ (l.map (·.1))=.ok b ->
  wpAny Md f.c.A (boolOp pos .And (evalEach es f.c.env)) (OP f s b) (λJ J=>False) s:=by
 induction h with
 |nil=>exact λhe=>absurd rfl he
 |@cons e p k es l h1 _ h2 ih=>
  intro _ own ρ s b x he;refine AE (Oh he) λt e1 he=>?_
  cases h2 with
  |nil=>cases t<;>cases he<;>exact h1.at F x e1 λv AG g1 x1 r=>⟨F2 r,g1⟩
  |cons h3 h4 h5=>
   refine F3 (h1.at F x e1 λv AG g1 x1 r=>zr (F2 r) (A0h ?_));cases t with
   |false=>refine At he ?_;exact⟨rfl,g1⟩
   |true=>exact mj (ih (cons_ne_nil _ _) x1 he) (λv s₂ q=>q.casesOn λe g=>⟨e,g1.trans g⟩) λJ J q=>q.elim
theorem TY(F:AL f)(h:BF f cf es l):es≠[]->∀{own:Addr->Option Nat}{ρ:AP}{s:Shared}{b:Bool},St f.c own ρ s->evOr cf ρ (l.map (·.1))=.ok b ->
  wpAny Md f.c.A (boolOp pos .Or (evalEach es f.c.env)) (OP f s b) (λJ J=>False) s:=by
 induction h with
 |nil=>exact λhe=>absurd rfl he
 |@cons e p k es l h1 _ h2 ih=>
  intro _ own ρ s b x he;refine AE (ZG he) λt e1 he=>?_
  cases h2 with
  |nil=>cases t<;>cases he<;>exact h1.at F x e1 λv AG g1 x1 r=>⟨F2 r,g1⟩
  |cons h3 h4 h5=>
   refine F3 (h1.at F x e1 λv AG g1 x1 r=>zr (F2 r) (A0h ?_));cases t with
   |true=>refine At he ?_;exact⟨rfl,g1⟩
   |false=>exact mj (ih (cons_ne_nil _ _) x1 he) (λv s₂ q=>q.casesOn λe g=>⟨e,g1.trans g⟩) λJ J q=>q.elim
theorem VJ(F:AL f)(h:BF f cf es l):∀{own:Addr->Option Nat}{ρ:AP}{s:Shared}{b:Bool},St f.c own ρ s->evAnd cf ρ (l.map (·.1))=.ok b ->
  wpAny Md f.c.A (allTrue .And es f.c.env) (BP f s b) (λJ J=>False) s:=by
 induction h with
 |nil=>exact λ{own ρ s b}x he=>by refine At he ?_;exact wpAny_allTrue_And_nil ⟨rfl,AX.refl s⟩
 |@cons e p k es l _ h1 h2 ih=>
  intro own ρ s b x he;refine AE (Oh he) λt e1 he=>?_
  refine wpAny_allTrue_And_cons (h1.at F x e1 λAG g1 x1=>?_);cases t with
  |false=>refine At he ?_;exact⟨rfl,g1⟩
  |true=>exact mj (ih x1 he) (λv s₂ q=>⟨q.1,g1.trans q.2⟩) λJ J q=>q.elim
theorem Wz(F:AL f)(h:BF f cf es l):∀{own:Addr->Option Nat}{ρ:AP}{s:Shared}{b:Bool},St f.c own ρ s->evOr cf ρ (l.map (·.1))=.ok b ->
  wpAny Md f.c.A (allTrue .Or es f.c.env) (BP f s b) (λJ J=>False) s:=by
 induction h with
 |nil=>exact λ{own ρ s b}x he=>by refine At he ?_;exact wpAny_allTrue_Or_nil ⟨rfl,AX.refl s⟩
 |@cons e p k es l _ h1 h2 ih=>
  intro own ρ s b x he;refine AE (ZG he) λt e1 he=>?_
  refine wpAny_allTrue_Or_cons (h1.at F x e1 λAG g1 x1=>?_);cases t with
  |true=>refine At he ?_;exact⟨rfl,g1⟩
  |false=>exact mj (ih x1 he) (λv s₂ q=>⟨q.1,g1.trans q.2⟩) λJ J q=>q.elim
theorem Dh{r:Res Bool}{d:PV}(h:(r.bind λx=>.ok (.bool x))=.ok d):∃b,r=.ok b/\d=.bool b:=by
 refine AE (AD h) λb e q=>?_
 refine At q ?_;exact⟨b,e,rfl⟩
theorem Kg(F:AL f){op:BoolOp}{es:List Expr}(h:BF f cf es l)(he:es≠[]):
  AW f cf (.BoolOp op es pos) (if op=.And then .and (l.map (·.1)) else .or (l.map (·.1))) .safe/\EE f cf (.BoolOp op es pos) (if op=.And then .and (l.map (·.1)) else .or (l.map (·.1))):=by
 cases op with
 |And=>
  refine⟨λown ρ s d x hd=>?_,λown ρ s d x hd=>?_⟩
  ·obtain⟨b,e1,rfl⟩:=Dh hd;exact mj (Rg F h he x e1) (λv s' q=>q.casesOn λe g=>⟨g,e⟩) λJ J q=>q
  ·obtain⟨b,e1,q⟩:=Dh hd;cases q
   exact wpAny_isTrue_BoolOp (VJ F h x e1)
 |Or=>
  refine⟨λown ρ s d x hd=>?_,λown ρ s d x hd=>?_⟩
  ·obtain⟨b,e1,rfl⟩:=Dh hd;exact mj (TY F h he x e1) (λv s' q=>q.casesOn λe g=>⟨g,e⟩) λJ J q=>q
  ·obtain⟨b,e1,q⟩:=Dh hd;cases q
   exact wpAny_isTrue_BoolOp (Wz F h x e1)
theorem JC(F:AL f)(h:BF f cf es l)(hs:es.any AN=false):
  AW f cf (.Tuple es kd pos) (.tup (l.map (·.1))) (Cd (l.map (·.2))):=by
 intro own ρ s d x he;refine AE (AD he) λds e1 he=>?_
 obtain⟨hl,he⟩:=Bb he;refine At he ?_;refine wpAny_Tuple (mj (Dd F h hs x e1) (λvs AG q=>?_) λJ J q=>q.elim);obtain⟨g1,r⟩:=q;have hlen:∀{P},Rds AG.heap P ds vs->vs.length<=sizeLine:=λhr=>by exact zr hr.length (zr DN.symm hl)
 unfold Cd;split
 ·have hr:=r.aQ x (by assumption);exact⟨hlen hr,g1.trans (AX.push _ _ _),Cf hl hr⟩
 ·have hr:=r.fz x;exact⟨hlen hr,g1.trans (AX.push _ _ _),Cf hl hr⟩
theorem QN(h:AW f cf e (.tup l) .safe):AW f cf e (.tup l) .fresh:=by
 intro own ρ s d x he;refine mj (h own ρ s d x he) (λv s' q=>?_) λJ J q=>q.elim
 refine AE (AD he) λds e1 he=>?_
 obtain⟨_,he⟩:=Bb he;cases he
 obtain⟨g,r⟩:=q;exact⟨g,N7 (λJ z=>by cases z) (λJ z=>by cases z) (λJ J J J J z=>by cases z) r⟩
theorem Qs(F:AL f)(h:BF f cf es l)(hs:es.any AN=false)(hc:Cd (l.map (·.2))=.safe):
  AW f cf (.List es pos) (.lst (l.map (·.1))) .fresh:=by
 intro own ρ s d x he;refine AE (AD he) λds e1 he=>?_
 obtain⟨hl,he⟩:=Bb he;refine At he ?_;have hi:(l.map (·.2)).all Cl.inner=true:=by unfold Cd at hc;split at hc<;>first|assumption|cases hc
 refine wpAny_List (mj (Dd F h hs x e1) (λvs AG q=>?_) λJ J q=>q.elim);obtain⟨g1,r⟩:=q;have hr:=r.aQ x hi;exact⟨by refine zr hr.length (zr DN.symm ?_);exact hl,g1.trans (AX.push _ _ _),(Hl (x.grow F.ok g1) hl hr).back g1.h⟩
theorem Tq(x:St c own ρ s)(h1:s.heap.objs.size≠1):D9 c own s.heap (s.heap.push { cls:=.type "dict",data:=.dict #[] }) .fresh (.dict []) (.ref s.heap.objs.size):=
 ⟨_,[],rfl,BI _,h1,A1x _,.inl ⟨[],⟨_,#[],0,A0L _ rfl,⟨rfl,rfl,rfl⟩,rfl,λJ he=>by simp at he,.nil,A1d⟩,rfl,rfl⟩,rfl⟩
theorem St.big(F:AL f)(x:St f.c own ρ s):3<s.heap.objs.size:=by
 refine AE F.gnd.g λmg eI J=>?_;obtain⟨o,_,_,ho,_⟩:=eI
 exact A0m (x.B0 F _ _ ho)
theorem OS(F:AL f):AW f cf (.Dict [] [] pos) .dct0 .fresh:=by
 intro own ρ s d x he;refine At he ?_;exact wpAny_Dict_empty ⟨AX.push _ _ _,Tq x (vn (x.big F))⟩
theorem RU(F:AL f){l r:Expr}{op:CmpOp}{a b:PE×Cl}(ha:AW f cf l a.1 a.2)(hb:AW f cf r b.1 b.2)(ht:(a.2.top&&b.2.top&&!behindInMarks op r)=true):
  AW f cf (.Compare l [op] [r] pos) (.cmp (JW op) a.1 b.1) .safe/\EE f cf (.Compare l [op] [r] pos) (.cmp (JW op) a.1 b.1):=by
 simp only[Bool.and_eq_true,Bool.not_eq_true'] at ht;have hu:f.c.A.units+200<cLine:=by exact bV F.units
 have key:∀{ρ d},ev cf ρ (.cmp (JW op) a.1 b.1)=.ok d->∃Ad Be bb,ev cf ρ a.1=.ok Ad/\ev cf ρ b.1=.ok Be/\EX (JW op) Ad Be=.ok bb/\d=.bool bb:=λ{ρ d}he=>by
  refine AE (AD he) λAd e1 he=>?_
  refine AE (AD he) λBe e2 he=>?_
  obtain⟨bb,e3,e4⟩:=Dh he;exact⟨Ad,Be,bb,e1,e2,e3,e4⟩
 refine⟨λown ρ s d x he=>?_,λown ρ s d x he=>?_⟩
 ·obtain⟨Ad,Be,bb,e1,e2,e3,rfl⟩:=key he;refine wpAny_Compare1 (ha.at F x e1 λv AG g1 x1 r1=>hb.at F x1 e2 λv' s₂ g2 x2 r2=>?_) ht.2;exact mj (Gk hu op ((r1.tp x ht.1.1).grow x1 g2) (r2.tp x1 ht.1.2) e3 _) (λv Bt q=>⟨(g1.trans g2).trans (.of_keeps q.1),q.2⟩) λJ J z=>z
 ·obtain⟨Ad,Be,bb,e1,e2,e3,q⟩:=key he;cases q
  refine wpAny_isTrue_Compare1 (ha.at F x e1 λv AG g1 x1 r1=>hb.at F x1 e2 λv' s₂ g2 x2 r2=>?_) ht.2;exact mj (Gk hu op ((r1.tp x ht.1.1).grow x1 g2) (r2.tp x1 ht.1.2) e3 _) (λv Bt q=>zr q.2 (A0h ⟨rfl,(g1.trans g2).trans (.of_keeps q.1)⟩)) λJ J z=>z
section
set_option backward.eqns.nonrecursive false
theorem Q6(F:AL f){a b:PE×Cl}(hi:Fw i=false)(ha:AW f cf v a.1 a.2)(hb:AW f cf i b.1 b.2)(E5:a.2.top=true)(yr:b.2.top=true):
  AW f cf (.Subscript v i pos) (.idx a.1 b.1) .safe:=by
 intro own ρ s d x he;refine AE (AD he) λAd e1 he=>?_
 refine AE (AD he) λBe e2 he=>?_
 refine Subscript_ (ha.at F x e1 λv AG g1 x1 r1=>hb.at F x1 e2 λv' s₂ g2 x2 r2=>?_);exact mj (KD (by have:=F.units;exact bV this:f.c.A.units+200<cLine) hi ((r1.tp x E5).grow x1 g2) (r2.tp x1 yr) he _) (λv Bt z=>⟨(g1.trans g2).trans (.of_keeps z.1),z.2⟩) λJ J z=>z
theorem E9(F:AL f){lo hi:Option Expr}{a:PE×Cl}(x:St f.c own ρ Dk)(E5:a.2.top=true){l u:Option Int}(g1:AX f.c.A Dk AG)(r1:D9 f.c own Dk.heap AG.heap a.2 d ov)(g3:AX f.c.A AG Bt)
  (pl:IsPart vl l) (pu:IsPart vu u) (q:JF (l.map .int) (u.map .int) d=.ok d'):
  wpAny Md f.c.A (subscriptTail v (.Slice lo hi none sp) ov (.ref Bt.heap.objs.size)) (VP f own Dk .safe d') (λJ J=>False)
   { Bt with heap:=Bt.heap.push { cls:=.type "slice",data:=.fields #[vl,vu,.none] } }:=by
 have gp:AX f.c.A Bt { Bt with heap:=Bt.heap.push { cls:=.type "slice",data:=.fields #[vl,vu,.none] } }:=AX.push _ _ _;exact mj (LV ((x.grow F.ok g1).grow F.ok (g3.trans gp)) (Heap.IsSliceOf.new ..) pl pu (((r1.tp x E5).grow (x.grow F.ok g1) (g3.trans gp))) q _) (λv Jc z=>⟨((g1.trans g3).trans gp).trans (.of_keeps z.1),z.2⟩) λJ J z=>z
theorem HZ{lo hi:Option PV}(h:Ez lo hi l=some l'):(∀y,lo=some y->∃i,y=.int i)/\∀z,hi=some z->∃i,z=.int i:=by
 cases lo with
 |none=>
  refine⟨λy q=>(by cases q),λz q=>?_⟩;subst q;cases z with
  |int i=>exact⟨i,rfl⟩
  |_=>exact HA h
 |some y=>
  cases y with
  |int i=>
   refine⟨λy' q=>(by refine CD q ?_;exact⟨i,rfl⟩),λz q=>?_⟩;subst q;cases z with
   |int i=>exact⟨i,rfl⟩
   |_=>exact HA h
  |_=>exact HA h
theorem FZ{lo hi:Option PV}(h:JF lo hi d=.ok d'):(∀y,lo=some y->∃i,y=.int i)/\∀z,hi=some z->∃i,z=.int i:=by
 cases d with
 |list l=>
  cases q:Ez lo hi l with
  |none=>exact Res.no (A1X (show Res.stuck=(match Ez lo hi l with|some l=>Res.ok (PV.list l)|none=>.stuck) from zr q rfl) h)
  |some l'=>exact HZ q
 |tuple l=>
  cases q:Ez lo hi l with
  |none=>exact Res.no (A1X (show Res.stuck=(match Ez lo hi l with|some l=>Res.ok (PV.tuple l)|none=>.stuck) from zr q rfl) h)
  |some l'=>exact HZ q
 |_=>exact Res.no h
theorem QX(F:AL f){v lo:Expr}{pos sp:Pos}{a b:PE×Cl}(ha:AW f cf v a.1 a.2)(hb:AW f cf lo b.1 b.2)(E5:a.2.top=true):AW f cf (.Subscript v (.Slice (some lo) none none sp) pos) (.slL a.1 b.1) .safe:=by
 intro own ρ s d x he;refine AE (AD he) λAd e1 he=>?_
 refine AE (AD he) λBe e2 he=>?_
 obtain⟨i,rfl⟩:=(FZ he).1 _ rfl;refine Subscript_ (ha.at F x e1 λv AG g1 x1 r1=>wpAny_Slice (hb.at F x1 e2 λv' s₂ g2 x2 r2=>ml (ml ?_)));refine CB (Ds r2) λt=>?_
 exact E9 F x E5 g1 r1 g2 (.int i t) .none he
theorem QY(F:AL f){v hi:Expr}{pos sp:Pos}{a b:PE×Cl}(ha:AW f cf v a.1 a.2)(hb:AW f cf hi b.1 b.2)(E5:a.2.top=true):AW f cf (.Subscript v (.Slice none (some hi) none sp) pos) (.slH a.1 b.1) .safe:=by
 intro own ρ s d x he;refine AE (AD he) λAd e1 he=>?_
 refine AE (AD he) λBe e2 he=>?_
 obtain⟨i,rfl⟩:=(FZ he).2 _ rfl;refine Subscript_ (ha.at F x e1 λv AG g1 x1 r1=>wpAny_Slice (ml (hb.at F x1 e2 λv' s₂ g2 x2 r2=>ml ?_)));refine CB (Ds r2) λt=>?_
 exact E9 F x E5 g1 r1 g2 .none (.int i t) he
theorem NY(F:AL f){v lo hi:Expr}{pos sp:Pos}{a b c:PE×Cl}(ha:AW f cf v a.1 a.2)(hb:AW f cf lo b.1 b.2)(hc:AW f cf hi c.1 c.2)(E5:a.2.top=true):AW f cf (.Subscript v (.Slice (some lo) (some hi) none sp) pos) (.slLH a.1 b.1 c.1) .safe:=by
 intro own ρ s d x he;refine AE (AD he) λAd e1 he=>?_
 refine AE (AD he) λBe e2 he=>?_
 refine AE (AD he) λd₃ e3 he=>?_
 obtain⟨i,rfl⟩:=(FZ he).1 _ rfl;obtain⟨j,rfl⟩:=(FZ he).2 _ rfl;refine Subscript_ (ha.at F x e1 λv AG g1 x1 r1=>wpAny_Slice (hb.at F x1 e2 λv' s₂ g2 x2 r2=>hc.at F x2 e3 λv'' Bt g3 x3 r3=>ml ?_));refine CB (Ds r2) λt=>?_
 refine CB (Ds r3) λu=>?_
 exact E9 F x E5 g1 r1 (g2.trans g3) (.int i t) (.int j u) he
theorem AW.int(h:AW f cf e p k)(x:St f.c own ρ s)(he:ev cf ρ p=.ok (.int i))(hQ:∀t s',AX f.c.A s s'->Q (.int i t) s'):wpAny Md f.c.A (eval e f.c.env) Q E s:=by
 refine mj (h own ρ s _ x he) (λv s' q=>?_) λJ J q=>q.elim
 obtain⟨g1,r⟩:=q;refine CB (Ds r) λt=>?_
 exact hQ t s' g1
theorem Me(he:ev cf ρ (.chain a b c d)=.ok r):∃i j k l:Int,ev cf ρ a=.ok (.int i)/\ev cf ρ b=.ok (.int j)/\ev cf ρ c=.ok (.int k)/\ev cf ρ d=.ok (.int l)/\r=.bool (decide (i<=j)&&decide (j<=k)&&decide (k<=l)):=by
 refine AE (AD he) λx qa he=>?_
 refine AE (AD he) λy qb he=>?_
 refine AE (AD he) λz qc he=>?_
 refine AE (AD he) λu qd he=>?_
 obtain⟨i,j,rfl,rfl,he⟩:=B3 he;obtain⟨k,l,rfl,rfl,he⟩:=B3 he;refine At he ?_;exact⟨i,j,k,l,qa,qb,qc,qd,rfl⟩
theorem HC{P R:Prop}(h1:b=true->P)(h2:b=false->R):if b=true then P else R:=by
 cases b with
 |false=>exact h2 rfl
 |true=>exact h1 rfl
theorem Zf(h:a=false):(a&&b&&c)=a:=by subst h;rfl
theorem Ze(h:a=true)(h':b=false):(a&&b&&c)=b:=by subst h h';rfl
theorem Zd(h:a=true)(h':b=true):(a&&b&&c)=c:=by subst h h';rfl
theorem Mc(F:AL f){pos:Pos}{a b c d:PE×Cl}(ha:AW f cf l a.1 a.2)(hb:AW f cf BB b.1 b.2)(hc:AW f cf BK c.1 c.2)(hd:AW f cf Jd d.1 d.2)(hm:lastMarks [.LtE,.LtE,.LtE] [BB,BK,Jd]=false):
  AW f cf (.Compare l [.LtE,.LtE,.LtE] [BB,BK,Jd] pos) (.chain a.1 b.1 c.1 d.1) .safe/\EE f cf (.Compare l [.LtE,.LtE,.LtE] [BB,BK,Jd] pos) (.chain a.1 b.1 c.1 d.1):=by
 refine⟨λown ρ s r x he=>?_,λown ρ s r x he=>?_⟩
 ·obtain⟨i,j,k,m,e1,e2,e3,e4,rfl⟩:=Me he;refine Compare_chain (ha.int x e1 λt AG g1=>chain_link (hb.int (x.grow F.ok g1) e2 λml s₂ g2=>A1c (A0h (HC (λq1=>?_) λq1=>⟨g1.trans g2,A0U Value.bool (Zf q1).symm⟩)))) hm;refine chain_link (hc.int ((x.grow F.ok g1).grow F.ok g2) e3 λmj Bt g3=>A1c (A0h (HC (λq2=>?_) λq2=>⟨(g1.trans g2).trans g3,A0U Value.bool (Ze q1 q2).symm⟩)));exact chain_last (hd.int (((x.grow F.ok g1).grow F.ok g2).grow F.ok g3) e4 λmi Jc g4=>A1c ⟨((g1.trans g2).trans g3).trans g4,A0U Value.bool (Zd q1 q2).symm⟩)
 ·obtain⟨i,j,k,m,e1,e2,e3,e4,q⟩:=Me he;cases q
  refine isTrue_chain (ha.int x e1 λt AG g1=>test_link (hb.int (x.grow F.ok g1) e2 λml s₂ g2=>A1c (A0h (HC (λq1=>?_) λq1=>⟨((Zf q1).trans q1).symm,g1.trans g2⟩)))) hm;refine test_link (hc.int ((x.grow F.ok g1).grow F.ok g2) e3 λmj Bt g3=>A1c (A0h (HC (λq2=>?_) λq2=>⟨((Ze q1 q2).trans q2).symm,(g1.trans g2).trans g3⟩)));exact test_last (hd.int (((x.grow F.ok g1).grow F.ok g2).grow F.ok g3) e4 λmi Jc g4=>A1c (A0h ⟨(Zd q1 q2).symm,((g1.trans g2).trans g3).trans g4⟩))
theorem A5(h:es.any AN=false):(backTo pos (starEach es env)).any (·.1)=false:=by
 induction es with
 |nil=>rfl
 |cons e r ih=>
  simp only[any_cons,Bool.or_eq_false_iff] at h;refine zr (AJ h.1) ?_;simp only[backTo,map_cons,any_cons,Bool.false_or];exact ih h.2
theorem AY(hs:es.any AN=false)(BG:es≠[])
  (h:wpAny M A (spliced (backTo pos (starEach es env))) (λvs s'=>Q ⟨vs,[]⟩ s') E s):wpAny M A (evalArgs fv true (backTo pos (starEach es env)) []) Q E s:=by
 cases es with
 |nil=>exact absurd rfl BG
 |cons e r=>
  simp only[any_cons,Bool.or_eq_false_iff] at hs;rw[AJ hs.1] at h ⊢;exact Calls.evalArgs_plain h
theorem YG (F:AL f) (hb:(g,fv)∈Bg) (hg:f.t.bi g g=true) (hd:(g==("__debug__" : Str))=false) (hfv:(∃id,fv=.builtin id)\/∃T,fv=.type T)
  (h:BF f cf es l) (hs:es.any AN=false) (BG:es≠[]) (x:St f.c own ρ s) (he:evs cf ρ (l.map (·.1))=.ok ds)
  (hQ:∀vs AG,AX f.c.A s AG->St f.c own ρ AG->C6 f.c own s.heap AG.heap (l.map (·.2)) ds vs->wpAny Md f.c.A (call fv vs) Q E AG):
  wpAny Md f.c.A (eval (.Call (.Name g gp) es [] pos) f.c.env) Q E s:=by
 simp only[TC.bi,Bool.and_eq_true,Option.isNone_iff_eq_none,beq_self_eq_true,and_true] at hg;refine A0p (A0Y (DM F x hg.1 hg.2 hb ?_) hd);have key:wpAny Md f.c.A (spliced (backTo pos (starEach es f.c.env))) (λvs AG=>wpAny Md f.c.A (call fv vs) Q E AG) E s:=by
  exact mj (Dd F h hs x he) (λvs AG q=>q.casesOn λg1 r=>hQ vs AG g1 (x.grow F.ok g1) r) λJ J q=>q.elim
 rcases hfv with⟨id,rfl⟩|⟨T,rfl⟩
 ·exact A1f (A5 hs) (AY hs BG key)
 ·exact A1a (A5 hs) (AY hs BG key)
end
section
set_option backward.eqns.nonrecursive false
theorem D8{t:TC}(h:t.bi x y=true):x=y/\t.bi x x=true:=by
 simp only[TC.bi,Bool.and_eq_true] at h ⊢;exact⟨eq_of_beq h.2,h.1,by simp⟩
noncomputable def cP:Value->Bool
 |.builtin _|.type _=>true
 |_=>false
noncomputable def kl:I0->Bool
 |.listRange=>true
 |_=>false
theorem Nc:∀q∈O7,(q.1,El q.2)∈Bg/\kl q.2=false/\cP (El q.2)=true:=by decide +kernel
theorem Xo(h:cP v=true):v≠.none/\((∃id,v=.builtin id)\/∃T,v=.type T):=by
 cases v with
 |builtin id=>exact⟨λz=>(by cases z),.inl ⟨_,rfl⟩⟩
 |type T=>exact⟨λz=>(by cases z),.inr ⟨_,rfl⟩⟩
 |_=>cases h
theorem Qd{p:I0}(hp:Hg t g n=some p):t.bi g g=true/\(g,El p)∈Bg/\kl p=false/\cP (El p)=true:=by
 unfold Hg at hp;split at hp
 ·rename_i h1;refine⟨h1,?_⟩;split at hp
  ·rename_i h2;refine CD hp ?_;rw[A1Q] at h2;refine zr (eq_of_beq h2.2) ?_;decide +kernel
  ·exact Nc (g,p) (mem_of_lookup hp)
 ·cases hp
theorem Hf (F:AL f) {l:List (PE×Cl)} {p:I0} (hp:Hg f.t g n=some p) (hd:(g==("__debug__" : Str))=false)
  (h:BF f cf es l) (hs:es.any AN=false) (BG:es≠[]) (ht:(l.map (·.2)).all Cl.top=true):AW f cf (.Call (.Name g gp) es [] pos) (.prim p (l.map (·.1))) (Nd p):=by
 intro own ρ s d x he;obtain⟨h1,h3⟩:=Qd hp;have h4:=Xo h3.2.2;refine AE (AD he) λds e1 he=>?_
 refine YG F h3.1 h1 hd h4.2 h hs BG x e1 λvs AG g1 x1 r=>?_
 exact mj (Nb x1 (x1.big F) (by exact bV F.units) F.ok.handled h4.1 (λz=>by have:=h3.2.1;rw[z] at this;cases this) (r.tps x ht) he _) (λv s₂ z=>⟨g1.trans (.of_keeps z.1),z.2.back g1.h⟩) λJ J z=>z
theorem MK{p:I0}(he:ev cf ρ (.prim p [a])=.ok d):∃Ad,ev cf ρ a=.ok Ad/\prim p [Ad]=.ok d:=by
 refine AE (AD he) λds e1 he=>?_
 refine AE (AD e1) λAd e2 e1=>?_
 cases e1
 exact⟨Ad,e2,he⟩
noncomputable def y8:Ty->Bool
 |.seq=>true
 |_=>false
theorem GI:∀q∈O0,(q.1,Value.type (Sq q.2))∈Bg/\(q.1==("__debug__" : Str))=false/\y8 q.2=false:=by decide +kernel
theorem Sr:∀q∈O0,(q.1,Value.type (Sq q.2))∈Bg/\(q.1==("__debug__" : Str))=false/\q.2≠.seq:=λq h=>⟨(GI q h).1,(GI q h).2.1,λe=>by have:=(GI q h).2.2;rw[e] at this;cases this⟩
theorem Hs (F:AL f) {g h:Str} {a:PE×Cl} (hg:f.t.bi g "list" = true) (oB:(g==("__debug__" : Str))=false) (hh:f.t.bi h "range" = true) (hdh:(h==("__debug__" : Str))=false) (SA:AN e=false)
  (ha:AW f cf e a.1 a.2):AW f cf (.Call (.Name g gp) [.Call (.Name h hp) [e] [] pos'] [] pos) (.prim .listRange [a.1]) .fresh:=by
 intro own ρ s d x he;obtain⟨rfl,hg⟩:=D8 hg;obtain⟨rfl,hh⟩:=D8 hh;simp only[TC.bi,Bool.and_eq_true,Option.isNone_iff_eq_none] at hg hh;obtain⟨Ad,e1,he⟩:=MK he;cases Ad with
 |int i=>
  refine A0p (A0Y (DM F x hg.1.1 hg.1.2 (v:=.type "list") (by decide +kernel) ?_) oB);refine A1a (by rfl) (AY (by rfl) (by simp) ?_);refine A0G ?_ (AJ (by rfl));refine A0p (A0Y (DM F x hh.1.1 hh.1.2 (v:=.type "range") (by decide +kernel) ?_) hdh);refine A1a (A5 (by simp[SA])) (AY (by simp[SA]) (by simp) ?_);refine A0G (ha.at F x e1 λv AG g1 x1 r1=>A0c ?_) (AJ SA);refine CB (Ds r1) λt=>?_
  refine mj (Gx x1 F.ok.handled he (t:=t) (λJ J=>False)) (λr s₂ z=>?_) λJ J z=>z.elim
  exact A0c (mj z (λv Bt z=>⟨g1.trans (.of_keeps z.1),z.2.back g1.h⟩) λJ J z=>z.elim)
 |_=>exact Res.no he
theorem Hz (F:AL f) {g:Str} {a:PE×Cl} (hg:f.t.bi g "isinstance" = true) (oB:(g==("__debug__" : Str))=false) (yu:AN x=false) (yt:AN y=false) (hy:VO f.t y ty)
  (ha:AW f cf x a.1 a.2) (E5:a.2.top=true):AW f cf (.Call (.Name g gp) [x,y] [] pos) (.prim (.isi ty) [a.1]) .safe:=by
 intro own ρ s d st he;obtain⟨rfl,hg⟩:=D8 hg;simp only[TC.bi,Bool.and_eq_true,Option.isNone_iff_eq_none] at hg;obtain⟨Ad,e1,he⟩:=MK he;have he:Xm ty Ad=.ok d:=he;have hs:[x,y].any AN=false:=by simp only[any_cons,yu,yt,any_nil,Bool.false_or,Bool.or_false]
 refine A0p (A0Y (DM F st hg.1.1 hg.1.2 (v:=.builtin "isinstance") (by decide +kernel) ?_) oB);refine A1f (A5 hs) (AY hs (by simp) ?_);refine A0G (ha.at F st e1 λv AG g1 x1 r1=>A0G ?_ (AJ yt)) (AJ yu);cases hy with
 |name hT nJ=>
  have hk:=Sr _ (mem_of_lookup nJ);simp only[TC.bi,Bool.and_eq_true,Option.isNone_iff_eq_none] at hT;refine A0Y (DM F x1 hT.1.1 hT.1.2 hk.1 (A0c ?_)) hk.2.1;refine mj (Q1 hk.2.2 (r1.tp st E5) he _) (λv s₂ z=>?_) λJ J z=>z
  obtain⟨z1,b,rfl,rfl⟩:=z;exact⟨g1.trans (.of_keeps z1),rfl⟩
 |seq hX hY=>
  obtain⟨rfl,hX⟩:=D8 hX;obtain⟨rfl,hY⟩:=D8 hY;simp only[TC.bi,Bool.and_eq_true,Option.isNone_iff_eq_none] at hX hY;refine wpAny_Tuple (A0G (A0Y (DM F x1 hX.1.1 hX.1.2 (v:=.type "tuple") (by decide +kernel) ?_) (by decide +kernel)) rfl);refine A0G (A0Y (DM F x1 hY.1.1 hY.1.2 (v:=.type "list") (by decide +kernel) (A0c ⟨by show 2<=sizeLine;decide,A0c ?_⟩)) (by decide +kernel)) rfl;have gp:AX f.c.A AG { AG with heap:=AG.heap.push { cls:=.type "tuple",data:=.seq #[.type "tuple",.type "list"] } }:=AX.push _ _ _;refine mj (Xl (A0L _ rfl) ((r1.tp st E5).grow x1 gp) he _) (λv s₂ z=>?_) λJ J z=>z
  obtain⟨z1,b,rfl,rfl⟩:=z;exact⟨(g1.trans gp).trans (.of_keeps z1),rfl⟩
theorem C6.len:∀{ks:List Cl}{ds:List PV}{vs:List Value},C6 c own B8 h ks ds vs->ds.length=ks.length:=by
 intro ks;induction ks with
 |nil=>exact λ{_}{_}r=>zr r.1 rfl
 |cons _ _ ih=>exact λ{_}{_}r=>r.cons (M:=λds J=>ds.length=_) λJ J J J J b=>A0U (·+1) (ih b)
theorem JZ(F:AL f)(C:CF f.B f.fa f.t.G cf f.D)(hl:YY f.t.G g i ar fr)(x:St f.c own ρ s)(g1:AX f.c.A s AG)(r:C6 f.c own s.heap AG.heap ks ds vs)(hlen:ks.length=ar)(hk:if clean then fr=true else ks.all Cl.inner=true)
 (he:((cf i ds).bind λd=>if !clean||d.clean then .ok d else .stuck)=.ok d):
  wpAny Md f.c.A (call (.ref (f.fa i)) vs) (VP f own s (if fr then .fresh else .safe) d) (λJ J=>False) AG:=by
 have x1:=x.grow F.ok g1;refine AE (AD he) λd' e2 he=>?_
 obtain⟨hc,he⟩:=Bb he;cases he
 have QG:=r.len.trans hlen;cases clean with
 |false=>
  simp only[Bool.false_eq_true,if_false] at hk;refine wpAny_call (codeAny_mono (C.v f.c.A AG g i ar fr ds vs (Fz f.c own) d hl QG (x1.here F) (λa ha hf=>Aq hf (x1.fr a ha).1) (r.aQ x hk) e2) λres s₂ z=>?_);cases res with
  |error x'=>exact z.elim
  |ok fl=>
   cases fl with
   |ret v=>
    obtain⟨g2,rr⟩:=z;refine⟨g1.trans g2,?_⟩;unfold IX at rr;cases fr with
    |false=>exact Rd.imp (λa J J J q=>q.elim id λq=>x1.SB q) d rr
    |true=>exact D9.back g1.h (CV.imp (λa J J J q=>q) (λa J J J q=>⟨q.1.elim id λq=>x1.SB q,q.2⟩) rr:D9 f.c own AG.heap s₂.heap .fresh d v)
   |_=>exact z.elim
 |true=>
  simp only[if_true] at hk;subst hk;have hc:d.clean=true:=hc;refine wpAny_call (codeAny_mono (C.v f.c.A AG g i ar true ds vs (λa=>own a≠some EU) d hl QG (x1.here F) (λa ha hf=>hf (x1.fr a ha).1) (Rds.imp (λa J J J q=>q.2) ds (r.fz x)) e2) λres s₂ z=>?_);cases res with
  |error x'=>exact z.elim
  |ok fl=>
   cases fl with
   |ret v=>
    obtain⟨g2,rr⟩:=z;refine⟨g1.trans g2,D9.back g1.h (?_:D9 f.c own AG.heap s₂.heap .fresh d v)⟩;unfold IX at rr;rw[XL rfl] at rr;cases d with
    |list l'=>obtain⟨a,us,e3,Ah,q1,q2,q3⟩:=rr;exact⟨a,us,e3,Ah,q1,q2,Rds.Bj l' hc q3⟩
    |dict l'=>obtain⟨a,us,e3,Ah,q0,q1,q2,q3⟩:=rr;exact⟨a,us,e3,Ah,q0,q1,q2,RdKV.Bj l' hc q3⟩
    |tuple l'=>exact Rd.Bj (.tuple l') hc rr
    |obj _ _ _ _ _=>cases hc
    |_=>exact rr
   |_=>exact z.elim
theorem HW (F:AL f) (C:CF f.B f.fa f.t.G cf f.D) (hg:f.t.glob g=true) (hl:f.t.G.lookup g=some (.fn i ar fr)) (hd:(g==("__debug__" : Str))=false)
  (h:BF f cf es l) (hs:es.any AN=false) (BG:es≠[]) (hlen:l.length=ar) (hk:if clean then fr=true else(l.map (·.2)).all Cl.inner=true):
  AW f cf (.Call (.Name g gp) es [] pos) (.call i clean (l.map (·.1))) (if fr then .fresh else .safe):=by
 intro own ρ s d x he;refine AE (AD he) λds e1 he=>?_
 refine A0p (A0Y (Nm F x hg hl λv hv=>?_) hd);refine zr (show v=.ref (f.fa i) from hv) ?_;refine Gr (F.gnd.fn g i ar fr hl) λo fd ho Yn=>?_
 refine Calls.callWith_function (o:=o) (fd:=fd) (AY hs BG ?_);refine mj (Dd F h hs x e1) (λvs AG q=>?_) λJ J q=>q.elim
 obtain⟨g1,r⟩:=q;exact⟨⟨(x.grow F.ok g1).B0 F _ _ ho,Yn⟩,JZ F C (.inl hl) x g1 r (zr (KK _) hlen) hk he⟩
end
noncomputable def mV(i:Int):Value->Bool
 |.int j _=>j==i
 |_=>false
theorem Xp(e:PV.Bu l=some is)(r:Rds h P l vs):vs.length=is.length/\∀(i:Nat)(v:Value),vs[i]?=some v->∃n t,is[i]?=some n/\v=Value.int n t:=by
 have q:=H7 e r;clear e r
 induction q with
 |nil=>exact⟨rfl,λi v h=>by cases h⟩
 |cons n t _ ih=>
  refine⟨A0U (·+1) ih.1,λi v h=>?_⟩;cases i with
  |zero=>refine CD h ?_;exact⟨n,t,rfl,rfl⟩
  |succ i=>exact ih.2 i v h
theorem Nz(h:Ay l x=.ok d):∃is i k,PV.Bu l=some is/\x=.int i/\is.idxOf? i=some k/\d=.int (k:Nat):=by
 cases q:PV.Bu l with
 |none=>exact Res.no ((show Res.stuck=Ay l x by unfold Ay;exact zr q rfl).trans h)
 |some is=>
  cases x with
  |int i=>
   have e:Ay l (.int i)=(match is.idxOf? i with|some k=>Res.ok (PV.int k)|Option.none=>.stuck):=by unfold Ay;refine zr q ?_<;>rfl
   cases q2:is.idxOf? i with
   |none=>exact Res.no ((show Res.stuck=Ay l (.int i) from zr e (zr q2 rfl)).trans h)
   |some kk=>
    have e2:=(show Res.ok (PV.int (kk:Nat))=Ay l (.int i) from zr e (zr q2 rfl)).trans h;refine At e2 ?_;exact⟨is,i,kk,rfl,rfl,q2,rfl⟩
  |_=>exact Res.no ((show Res.stuck=Ay l _ by unfold Ay;exact zr q rfl).trans h)
theorem Lv{l:List Int}{k:Nat}(h:l.idxOf? i=some k):l[k]?=some i/\∀m,m<k->l[m]?≠some i:=by
 rw[List.idxOf?,List.findIdx?_eq_some_iff_getElem] at h;refine AE h λhk h1 h2=>?_
 refine⟨by exact zr (TW hk) (zr (eq_of_beq h1) rfl),λm hm q=>?_⟩;have:=h2 m hm;rw[TW (vk hk hm)] at q;injection q with q;rw[q] at this;simp at this
theorem Q7{P:Addr->Prop}{l:List PV}{vs:Array Value}(Mz:PV.Bu l=some is)(hk:is.idxOf? i=some kk)(hr:Rds h P l vs.toList):
  ∃I7:kk<vs.size,(∀y,y∈vs->MeetsSeq.EqGives y (.int i t) (mV i y))/\mV i vs[kk]=true/\∀m (hm:m<vs.size),m<kk->mV i vs[m]=false:=by
 obtain⟨h1,h2⟩:=Xp Mz hr;obtain⟨q1,q2⟩:=Lv hk;have I7:kk<vs.size:=by
  refine zr yc.symm (zr h1 ?_);exact(fR.mp q1).1
 have at':∀m (hm:m<vs.size),∃n t,is[m]?=some n/\vs[m]=.int n t:=λm hm=>h2 m _ (by refine zr A0z ?_;exact Array.getElem?_eq_getElem hm)
 refine⟨I7,λy hy=>?_,?_,λm hm hmk=>?_⟩
 ·obtain⟨m,hm,rfl⟩:=Array.mem_iff_getElem.mp hy;refine Gr (at' m hm) λj u J fJ=>?_
  exact zr fJ (MeetsSeq.EqGives.int j i u t)
 ·refine Gr (at' kk I7) λj u hj fJ=>?_
  refine zr fJ ?_;rw[q1] at hj;injection hj with hj;show(j==i)=true;exact zr hj (A0v _)
 ·refine Gr (at' m hm) λj u hj fJ=>?_
  refine zr fJ ?_;have:=q2 m hmk;rw[hj] at this;show(j==i)=false;rw[beq_eq_false_iff_ne];exact λz=>this (zr z rfl)
inductive PB:Expr->Prop where
 |name {x:Str} {p:Pos}:PB (.Name x p)
 |attr {e:Expr} {x:Str} {p:Pos}:PB (.Attribute e x p)
 |call {g:Str} {gp p:Pos} {a:Expr} {as:List Expr} {ks:List Keyword}:PB (.Call (.Name g gp) (a::as) ks p)
theorem Hi(h:PB o)(nm:Str)(env:Env)(w:Sem Value):attributeBase o nm env w=w:=by cases h<;>rfl
theorem Lu(F:AL f){a b:PE×Cl}(aB:PB o)(ha:AW f cf o a.1 a.2)(hb:AW f cf e b.1 b.2)(SA:AN e=false)(DS:(apos.endLine==pos.line)=true)(E5:a.2.top=true)(yr:b.2.top=true):
  AW f cf (.Call (.Attribute o "index" apos) [e] [] pos) (.index a.1 b.1) .safe:=by
 intro own ρ s d st he;refine AE (AD he) λAd e1 he=>?_
 refine AE (AD he) λBe e2 he=>?_
 cases Ad with
 |list l=>
  refine WL (Nz he) λis i kk Mz mz hk mw=>?_;subst mz;subst mw
  refine wpAny_Call_method1_late (Hi aB _ _ _) DS (by refine zr (show starEach [e] f.c.env=[(false,eval e f.c.env)] from AJ SA) ?_;rfl:backTo pos (starEach [e] f.c.env)=[(false,eval e f.c.env)]) (ha.at F st e1 λv AG g1 x1 r1=>?_);obtain⟨ad,vs,rfl,ho,⟨n,hl⟩,hlen,hr⟩:=r1.tp st E5;refine⟨"list","list.index",A1b,PySem.F.slot_list_index,PySem.F.type_list_index,⟨_,hl,rfl⟩,λa' q=>by injection q with q;subst q;exact⟨_,hl,rfl⟩,?_⟩;refine P.index_list (hb.at F x1 e2 λv' s₂ g2 x2 r2=>?_);obtain⟨zf,DQ,hq,Ah,⟨n',WD⟩,LB,dk⟩:=(r1.tp st E5).grow x1 g2;injection hq with hq;subst hq;refine CB (Ds r2) λt=>?_
  obtain⟨I7,q1,q2,q3⟩:=Q7 Mz hk dk;refine⟨DQ,n',mV i,kk,I7,WD,q1,?_,q2,q3,(g1.trans g2).trans (AX.tok _ _),_,rfl⟩;exact dK I7 (zr (Ft dk) LB)
 |_=>exact Res.no he
noncomputable def Bc:List (Str×Nat):=[("things",0),("turns",1),("kind",2),("fresh",3),("left",4)]
set_option maxRecDepth 100000 in
theorem dM:(Bc.map (·.1)).all AQ.statics.contains=true:=by kernel_rfl
theorem Qm:typeLookup (.type "object") ("things" : Str)=pure none:=by refine zr (A0t _ _) (zr A0a ?_);kernel_rfl
theorem Tm:typeLookup (.type "object") ("turns" : Str)=pure none:=by refine zr (A0t _ _) (zr A0a ?_);kernel_rfl
theorem XI:typeLookup (.type "object") ("kind" : Str)=pure none:=by refine zr (A0t _ _) (zr A0a ?_);kernel_rfl
theorem To:typeLookup (.type "object") ("fresh" : Str)=pure none:=by refine zr (A0t _ _) (zr A0a ?_);kernel_rfl
theorem XH:typeLookup (.type "object") ("left" : Str)=pure none:=by refine zr (A0t _ _) (zr A0a ?_);kernel_rfl
theorem XJ:typeLookup (.type "object") ("face" : Str)=pure none:=by refine zr (A0t _ _) (zr A0a ?_);kernel_rfl
theorem Tn:typeLookup (.type "object") ("leads" : Str)=pure none:=by refine zr (A0t _ _) (zr A0a ?_);kernel_rfl
theorem XK:typeLookup (.type "object") ("able" : Str)=pure none:=by refine zr (A0t _ _) (zr A0a ?_);kernel_rfl
theorem J2:typeLookup (.type "object") ("crossings" : Str)=pure none:=by refine zr (A0t _ _) (zr A0a ?_);kernel_rfl
theorem XE:typeLookup (.type "object") ("step" : Str)=pure none:=by refine zr (A0t _ _) (zr A0a ?_);kernel_rfl
theorem Ni:typeLookup (.type "object") ("drawing" : Str)=pure none:=by refine zr (A0t _ _) (zr A0a ?_);kernel_rfl
theorem Le(h:(x,k)∈Bc):typeLookup (.type "object") x=pure none:=by
 simp only[Bc,mem_cons,not_mem_nil,or_false,Prod.mk.injEq] at h;rcases h with⟨rfl,_⟩|⟨rfl,_⟩|⟨rfl,_⟩|⟨rfl,_⟩|⟨rfl,_⟩
 ·exact Qm
 ·exact Tm
 ·exact XI
 ·exact To
 ·exact XH
theorem XG(h:(x,e)∈meths):typeLookup (.type "object") x=pure none:=by
 simp only[meths,mem_cons,not_mem_nil,or_false,Prod.mk.injEq] at h;rcases h with⟨rfl,_⟩|⟨rfl,_⟩|⟨rfl,_⟩|⟨rfl,_⟩|⟨rfl,_⟩
 ·exact XJ
 ·exact XK
 ·exact Tn
 ·exact J2
 ·exact Ni
theorem Tw:∀q∈meths,q.1∉(["things","turns","kind","fresh","left"]:List Str):=by decide +kernel
section
variable {h:Heap}{C N:Addr}{mN:Str->Option Value}
theorem Gf(P:PlainAt h AQ C N mN)(hx:(x,k)∈Bc):mN x=none:=
 P.quiet x (nf _ (List.contains_iff_mem.mp (A0T.mp dM x (Ya.2 ⟨_,hx,rfl⟩))))
theorem Qb(P:PlainAt h AQ C N mN):mN "__setattr__" = none:=P.quiet _ (A0J _ (.head _))
theorem JI(P:PlainAt h AQ C N mN):mN "__getattribute__" = none:=P.quiet _ (A0J _ (.tail _ (.head _)))
theorem Qc(P:PlainAt h AQ C N mN):mN "__getattr__" = none:=P.quiet _ (A0J _ (.tail _ (.tail _ (.head _))))
theorem Tf(hx:∃o,h.get? x=some o/\o.cls=.ref CA/\o.dict=some dx/\o.data=.plain)(ns:h.Ns1 dx m):dx≠x:=λe=>by
 refine DU hx λo ho J J hd=>?_
 obtain⟨o',_,_,Ah,Au,_⟩:=ns;rw[e,ho] at Ah;cases Ah;rw[hd] at Au;cases Au
theorem Cc(hx:∃o,h.get? x=some o/\o.cls=.ref CA/\o.dict=some dx/\o.data=.plain)(ns:h.Ns1 dx m):h.Inst x CA m:=by
 refine DU hx λo ho hc hd hp=>?_
 exact⟨o,ho,hc,λc q=>(by rw[hp] at q;cases q),.inr ⟨dx,hd,(Tf hx ns),ns⟩⟩
end
theorem Eo(P:PlainAt s.heap AQ CA N mN)(I:s.heap.Inst x CA m)(hx:(nm,k)∈Bc)(hv:m nm=some v)(hh:handedOut v=pure v)(hq:Q v { s with toks:=s.toks+1 }):
  wpAny Md A (getAttr (.ref x) nm b) Q E s:=by
 obtain⟨hp,g,d,t,os⟩:=s;obtain⟨yd,q,bs,sn,sub,col,dd,k0,k1,k2,k3,k5,hC⟩:=P.cls.obj;exact load_attr hC P.cls.ns (JI P) (Gf P hx) (Le hx) I hv hh hq
theorem PI (P:PlainAt s.heap AQ CA N mN) (I:s.heap.Inst x CA m) (hf:mN nm=some (.ref fa)) (ho:s.heap.get? fa=some o) (hc:o.cls=.type "function") (hB:typeLookup (.type "object") nm=pure none) (hm:m nm=none) (hq:Q (.ref fa,[.ref x]) s):
  wpAny Md A (getMethod (.ref x) nm pl) Q E s:=by
 obtain⟨hp,g,d,t,os⟩:=s;obtain⟨yd,q,bs,sn,sub,col,dd,k0,k1,k2,k3,k5,hC⟩:=P.cls.obj;exact method_of hC P.cls.ns (JI P) (Qc P) hf ho hc hB I hm hq
theorem Hp(hb:PB o)(hs:args.any AN=false)(hl:args.length<30)(DS:(apos.endLine==pos.line)=true)
  (h:wpAny Md A (eval o env) (λov AG=>∀pl,wpAny Md A (getMethod ov name pl) (λfx s₂=>wpAny Md A (callWith pos fx.1 fx.2 (backTo pos (starEach args env)) []) Q E s₂) E AG) E s):
  wpAny Md A (eval (.Call (.Attribute o name apos) args [] pos) env) Q E s:=by
 rw[arm_eval_Call,Hi hb];refine Xt (mj h (λov AG Bl=>?_) λJ J e=>e);refine Xt (A1y ?_);have fM:methodCallForm (args.length+([]:List Keyword).length) (backTo pos (starEach args env)) (backToKw pos (keywordEach [] env))=true:=by
  have h1:(backTo pos (starEach args env)).all (λx=>!x.1)=true:=by
   refine zr List.all_eq_not_any_not ?_;simpa using (A5 (env:=env) (pos:=pos) hs)
  show((backTo pos (starEach args env)).all (λx=>!x.1)&&true&&decide (args.length+0+0<30))=true;refine zr h1 (zr (ac (show args.length+0+0<30 from hl)) ?_);rfl
 unfold methodCall;refine zr fM ?_;refine Xt (A1Z (mj (Bl _) (λfx s₂ Jf=>?_) λJ J e=>e));exact Xt (wpAny_of_eq (by unfold methodCallPos;simp[DS]:methodCallPos true o env apos pos=pure pos) Jf)
theorem Of(F:AL f){a:PE×Cl}(ha:AW f cf (.Name x xp) a.1 a.2)(hin:a.2.inner=true)(hf:Bc.lookup nm=some j):AW f cf (.Attribute (.Name x xp) nm pos) (.attr a.1 j) .safe:=by
 intro own ρ s d st he;refine AE (AD he) λAd e1 he=>?_
 cases Ad with
 |obj th tu kd fr lf=>
  refine Attribute_any_ (ha.at F st e1 λv AG g1 x1 r1=>?_) rfl;obtain⟨xa,dx,la,t,m,vs,us,rfl,ox,od,oa,ot,hx,ns,am,sk,ne,im,q,ln,rr,n1,lt,dq,dr⟩:=r1.rd st hin;refine HU F.gnd.arc λN mN arc=>?_
  have P:=arc.at_.keeps (x1.B0 F);have hm:=mem_of_lookup hf;have g2:AX f.c.A s { AG with toks:=AG.toks+1 }:=g1.trans (AX.tok _ _);simp only[Bc,mem_cons,not_mem_nil,or_false,Prod.mk.injEq] at hm;rcases hm with⟨rfl,rfl⟩|⟨rfl,rfl⟩|⟨rfl,rfl⟩|⟨rfl,rfl⟩|⟨rfl,rfl⟩<;>refine At he ?_
  ·exact Eo P (Cc hx ns) (mem_of_lookup hf) am.th rfl ⟨g2,la,vs,rfl,oa,q,ln,rr⟩
  ·exact Eo P (Cc hx ns) (mem_of_lookup hf) am.tu rfl ⟨g2,t,us,rfl,ot,n1,lt,dq,dr⟩
  ·obtain⟨_,hv⟩:=am.kd;exact Eo P (Cc hx ns) (mem_of_lookup hf) hv rfl ⟨g2,sk,_,rfl⟩
  ·obtain⟨_,hv⟩:=am.fr;exact Eo P (Cc hx ns) (mem_of_lookup hf) hv rfl ⟨g2,_,rfl⟩
  ·obtain⟨_,hv⟩:=am.lf;exact Eo P (Cc hx ns) (mem_of_lookup hf) hv rfl ⟨g2,_,rfl⟩
 |_=>exact Res.no he
theorem ki(h:Ct d=true->False):∃th tu kd fr lf,d=.obj th tu kd fr lf:=by
 cases d with
 |obj th tu kd fr lf=>exact⟨_,_,_,_,_,rfl⟩
 |_=>exact(h rfl).elim
theorem Nl(F:AL f)(C:CF f.B f.fa f.t.G cf f.D){a:PE×Cl}(hb:PB o)(ha:AW f cf o a.1 a.2)(hm:meths.lookup m=some (.fn i 1 fr))(DS:(apos.endLine==pos.line)=true)(hk:if clean then fr=true else a.2.inner=true):
  AW f cf (.Call (.Attribute o m apos) [] [] pos) (.call i clean [a.1]) (if fr then .fresh else .safe):=by
 intro own ρ s d st he;refine AE (AD he) λds e1 he=>?_
 refine AE (AD e1) λAd e2 e1=>?_
 cases e1
 refine pg (ki λh=>Res.no ((show Res.stuck=(cf i [Ad]).bind _ from zr (C.o m i 1 fr hm Ad h) rfl).trans he)) λth tu kd ff lf my=>?_;subst my
 refine Hp hb rfl (by decide) DS (ha.at F st e2 λv AG g1 x1 r1 pl=>?_);obtain⟨xa,dx,la,t,mm,vs,us,rfl,ox,od,oa,ot,hx,ns,am,_⟩:=r1.any st;refine HU F.gnd.arc λN mN arc=>?_
 obtain⟨hf,o,fd,ho,hc,hd⟩:=arc.fn m i 1 fr hm;have VX:=mem_of_lookup hm;refine PI (arc.at_.keeps (x1.B0 F)) (Cc hx ns) hf (x1.B0 F _ _ ho) hc (XG VX) (am.no _ (Tw _ VX)) ?_;refine callWith_meth0 hd (x1.B0 F _ _ ho) ?_;refine JZ F C (.inr hm) st g1 (ks:=[a.2]) ⟨_,[],_,[],rfl,rfl,r1,rfl,rfl⟩ rfl ?_ he;cases clean with
 |true=>exact hk
 |false=>simp only[Bool.false_eq_true,if_false,all_cons,all_nil,Bool.and_true] at hk ⊢;exact hk
section
open AutoSeq1 (wpAny_loadPart')
theorem Fi{items:Array Value}(F8:s.heap.IsTupleIter it t i)(ht:s.heap.IsTuple t items)(hx:items[i]?=some x)
  (hQ:∀h',h'.IsTupleIter it t (i+1)->Heap.SameBut it s.heap h'->Q x { s with heap:=h' }):wpAny Md A (Builtin.SmallTypes.nextOf (.ref it)) Q E s:=by
 obtain⟨o,ho,hc,hd⟩:=id F8;obtain⟨ol,WA,_,nl,QG⟩:=ht;have hT:s.TypeIs (.ref it) "tuple_iterator" := ⟨o,ho,hc⟩;unfold Builtin.SmallTypes.nextOf;refine Xt (wpAny_callSpecial?_slot hT A1q
  (wpAny_call_entry A1q hT F.entry_tuple_iterator_next ?_ (F.args_tuple_iterator_next_1 _)))
 show wpAny _ _ (field (.ref it) 0 >>= _) _ _ s;refine Xt (A1j ho hd rfl ?_);show wpAny _ _ (if(Value.ref t==Value.none)=true then _ else _) _ _ s;refine zr (Yf (show ¬((Value.ref t==Value.none)=true) from A0O)) ?_;show wpAny _ _ (field (.ref it) 1 >>= _) _ _ s;refine Xt (A1j ho hd rfl ?_);show wpAny _ _ (seqItems? (.ref t) >>= _) _ _ s;refine Xt (wpAny_seqItems WA QG ?_);simp only[Int.toNat_natCast,hx];refine Xt (wpAny_setField ho hd (by simp) (ml ⟨x,rfl,ml (hQ _ ⟨_,A1S _ ho (Obj.isFreed_of_fields (Obj.data_mapFields hd _)),(Obj.cls_mapFields ..).trans hc,?_⟩ (A0f ..))⟩));refine zr (Obj.data_mapFields hd _) ?_;simp[rawInt]
theorem GR{items:Array Value}(hh:A.handled=none)(F8:s.heap.IsTupleIter it t i)(ht:s.heap.IsTuple t items)(hx:items[i]?=none)
  (hE:∀h' e,Heap.ExtBut it s.heap h'->(∃o,h'.get? e=some o/\o.cls=.type "StopIteration")->E (.ref e) { s with heap:=h' }):wpAny Md A (Builtin.SmallTypes.nextOf (.ref it)) Q E s:=by
 obtain⟨o,ho,hc,hd⟩:=id F8;obtain⟨ol,WA,_,nl,QG⟩:=ht;have hT:s.TypeIs (.ref it) "tuple_iterator" := ⟨o,ho,hc⟩;unfold Builtin.SmallTypes.nextOf;refine Xt (wpAny_callSpecial?_slot hT A1q
  (wpAny_call_entry A1q hT F.entry_tuple_iterator_next ?_ (F.args_tuple_iterator_next_1 _)))
 show wpAny _ _ (field (.ref it) 0 >>= _) _ _ s;refine Xt (A1j ho hd rfl ?_);show wpAny _ _ (if(Value.ref t==Value.none)=true then _ else _) _ _ s;refine zr (Yf (show ¬((Value.ref t==Value.none)=true) from A0O)) ?_;show wpAny _ _ (field (.ref it) 1 >>= _) _ _ s;refine Xt (A1j ho hd rfl ?_);show wpAny _ _ (seqItems? (.ref t) >>= _) _ _ s;refine Xt (wpAny_seqItems WA QG ?_);simp only[Int.toNat_natCast,hx];refine Xt (wpAny_rule (Xt (wpAny_setField ho hd (by simp) (Xt ?_))));unfold newExc newTuple;refine Xt (wpAny_newObj_type ?_ (by size_fits));refine Xt (wpAny_of_eq rfl ?_);exact wpAny_newObj_type (wpAny_raiseNew_none hh (hE _ _ (((A0f ..).extBut.push _).push _) ⟨_,A0L _ rfl,rfl⟩)) (by size_fits)
theorem OO(hh:A.handled=none)(it l:Addr)(BG:l≠it)(items:Array Value):
  Draws prog w A it [it,l] items.size (λi v=>items[i]?=some v) (λi h=>h.IsTupleIter it l i/\h.IsTuple l items) where
 live:=λJ J st=>let ⟨o,ho,_⟩:=st.1;⟨o,ho⟩
 frame:=λJ J J st hk=>⟨st.1.at λo e=>hk it (by simp) o e,st.2.at λo e=>hk l (by simp) o e⟩
 item:=λi s Q E hi st hQ=>by
  refine Fi st.1 st.2 (x:=items[i]) (by simp[hi]) λh' ni Mw=>?_
  refine hQ _ h' s.toks (by simp[hi]) ⟨ni,st.2.at λo e=>?_⟩ Mw;exact Mw.extBut l o BG e
 done:=λs Q E st hE=>GR hh st.1 st.2 (by simp) hE
theorem TN{α:Type}{a:α}{Q:α->Shared->Prop}(h:∀b,Q b s):wpAny M A (pure a) Q E s:=ml (h a)
set_option maxRecDepth 100000 in
theorem ED(l:Addr)(items:Array Value)(n:Nat)(dct:Option Addr)(sl:Array (Option Value)):
  Meets (Builtin.«enumerate.__new__» ⟨[.type "enumerate",.ref l],[]⟩) (λJ R s=>s.heap.get? l=some { cls:=.type "tuple",dict:=dct,data:=.seq items n,slots:=sl } /\
   R (.ok (.ret (.ref (s.heap.push { cls:=.type "tuple_iterator",data:=.fields #[.ref l,.int 0 0] }).objs.size)))
    { s with heap:=(s.heap.push { cls:=.type "tuple_iterator",data:=.fields #[.ref l,.int 0 0] }).push { cls:=.type "enumerate",data:=.fields #[.none,.bool false,.ref s.heap.objs.size,rawInt 0,.none,.none] } }):=
 .of_wp λprog w A R s h=>by
  obtain⟨hp,g,d,tk,os⟩:=s;obtain⟨hl,h⟩:=h;have hsub:=sub_enumerate;have hL:Heap.IsTuple (Shared.heap ⟨hp,g,d,tk,os⟩) l items:=⟨_,hl,rfl,n,rfl⟩;wp_walk using wpAny_loadPart' hl;refine wpAny_stack_any λst=>TN λb=>?_
  cases b<;>(wp_walk using wpAny_loadPart' hl,wpAny_pyIter_tuple hL;exact⟨_,rfl,h⟩)
theorem EY {items:Array Value} (hl:s.heap.get? l=some { cls:=.type "tuple",dict:=none,data:=.seq items n,slots:=#[] })
  (h:∀h',IsEnum h' (s.heap.objs.size+1) s.heap.objs.size 0 .none->h'.IsTupleIter s.heap.objs.size l 0->h'.objs.size=s.heap.objs.size+2 ->
   (∀b o,s.heap.get? b=some o->h'.get? b=some o)->Q (.ref (s.heap.objs.size+1)) { s with heap:=h' }):
  wpAny Md A (call (.type "enumerate") [.ref l]) Q E s:=by
 refine callType_new F.called_enumerate (by decide) (F.typeCall_enumerate_1 _) (F.newCall_enumerate_1 _) (λobj=>F.args_object_init_2 obj _) F.entry_enumerate_new
  (ED l items n none #[]) ⟨hl,?_⟩
 have hz:(s.heap.push { cls:=.type "tuple_iterator",data:=.fields #[.ref l,.int 0 0] }).objs.size=s.heap.objs.size+1:=Heap.size_push ..;have he:=A0L (s.heap.push { cls:=.type "tuple_iterator",data:=.fields #[.ref l,.int 0 0] })
   (o:={ cls:=.type "enumerate",data:=.fields #[.none,.bool false,.ref s.heap.objs.size,rawInt 0,.none,.none] }) rfl
 rw[hz] at he;show _/\_;refine zr hz ?_;exact⟨⟨_,he,rfl⟩,h _ he ⟨_,mi _ (A0L _ rfl),rfl,rfl⟩ (zr (Heap.size_push _ _) (zr hz rfl)) λb o x=>mi _ (mi _ x)⟩
end
section
set_option backward.eqns.nonrecursive false
noncomputable def Ey(e:Expr):Bool:=Nat.beq e.ctorIdx 23||Nat.beq e.ctorIdx 25
structure Rk(A:Around)(P:Addr->Prop)(I:Addr)(tgt:Expr)(fp wr:List Addr)(ds:List PV)(S:Nat->Heap->Prop):Prop where
 sub:∀b∈wr,b∈fp
 frame:∀i h h',S i h->(∀b∈fp,∀o,h.get? b=some o->h'.get? b=some o)->Kp P h h'->S i h'
 rec_:∀i h,S i h->∀b∈wr,∃o vs,h.get? b=some o/\o.data=.fields vs
 live:∀i h,S i h->∀b∈fp,∃o,h.get? b=some o/\∀v,o.data≠.cell v
 turn:∀i (s:Shared)(Q:Value->Shared->Prop)(E:Value->Shared->Prop)d,ds[i]?=some d->S i s.heap ->
  (∀v h' tk,S (i+1) h'->Rd h' P d v->(∀b o,b∉wr->s.heap.get? b=some o->h'.get? b=some o)->Q v (up s (h') (tk))) ->
  wpAny Md A (pyNext (.ref I)) (λr AG=>∃v,r=some v/\wpAny Md A (letOwnedTupleGo tgt (.ref I) v) (λJ s₂=>Q v s₂) E AG) E s
 done:∀(s:Shared)(Q:Shared->Prop)(E:Value->Shared->Prop),S ds.length s.heap->(∀h' tk,(∀b o,b∉wr->s.heap.get? b=some o->h'.get? b=some o)->Q (up s (h') (tk))) ->
  wpAny Md A (pyNext (.ref I)) (λr AG=>r=none/\Q AG) E s
 self:∀i (s:Shared)(Q:Value->Shared->Prop)(E:Value->Shared->Prop),S i s.heap->Q (.ref I) s->wpAny Md A (pyIter (.ref I)) Q E s
theorem B2(ht:Ey tgt=true)(ho:s.heap.get? I=some o)(hc:o.cls=.type T)
  (hT:(["enumerate","zip","dict_itemiterator","dict_reverseitemiterator","odict_iterator","itertools.zip_longest","itertools.pairwise"]:List String).contains T=false) (h:Q () s):
  wpAny M A (letOwnedTupleGo tgt (.ref I) v) Q E s:=by
 cases tgt with
 |Name _ _=>exact ml h
 |Tuple _ _ _=>
  cases v with
  |ref a=>
   show wpAny M A (load I >>= _) Q E s;refine Xt (wpAny_load ho ?_);obtain⟨c,d,dt,sl⟩:=o;simp only at hc;subst hc;cases dt with
   |fields vs=>simp only[hT,Bool.false_and,Bool.false_eq_true,if_false];exact ml h
   |_=>exact ml h
  |_=>exact ml h
 |_=>cases ht
theorem Hd {vs:Array Value}{i:Nat}(r:Rds h P l vs.toList)(e:l[i]?=some d):∃v,vs[i]?=some v/\Rd h P d v:=by
 refine AE (r.get e) λv h1 h2=>?_
 exact⟨v,by refine zr A0z.symm ?_;exact h1,h2⟩
theorem UB{wr:List Addr}(hr:∀b∈wr,∃o vs,h.get? b=some o/\o.data=.fields vs)(k:∀b o,b∉wr->h.get? b=some o->h'.get? b=some o):Kp P h h':=λa o ho hm=>by
 refine k a o (λhw=>?_) ho;refine Gr (hr a hw) λo' vs Ah hd=>?_
 rw[ho] at Ah;cases Ah
 rcases hm with⟨_,_,Au,_⟩|⟨_,_,Au,_⟩|⟨Au,_⟩<;>(rw[hd] at Au;cases Au)
theorem UI(hh:A.handled=none){tgt:Expr}(ht:Ey tgt=true)(I l:Addr)(BG:l≠I)(ds:List PV)(vs:Array Value)(n:Nat):
  Rk A P I tgt [I,l] [I] ds (λi h=>h.IsListIter I l i/\h.get? l=some { cls:=.type "list",dict:=none,data:=.seq vs n,slots:=#[] }/\Rds h P ds vs.toList) where
 sub:=λb hb=>by simp at hb;simp[hb]
 frame:=λi h h' st hk kp=>⟨st.1.at λo e=>hk I (by simp) o e,hk l (by simp) _ st.2.1,Rds.to kp ds st.2.2⟩
 rec_:=λi h st b hb=>by
  simp only[List.mem_singleton] at hb;subst hb;obtain⟨o,ho,_,hd⟩:=st.1;exact⟨o,_,ho,hd⟩
 live:=λi h st b hb=>by
  simp only[mem_cons,not_mem_nil,or_false] at hb;rcases hb with rfl|rfl
  ·obtain⟨o,ho,_,hd⟩:=st.1;exact⟨o,ho,λv q=>by rw[hd] at q;cases q⟩
  ·exact⟨_,st.2.1,λv q=>by cases q⟩
 turn:=λi s Q E d hd st hQ=>by
  refine AE (Hd st.2.2 hd) λv hv hr=>?_
  refine wpAny_pyNext_list_item st.1 ⟨_,st.2.1,rfl,n,rfl⟩ hv λh' F8 G7=>⟨v,rfl,?_⟩
  obtain⟨o,ho,hc,Yn⟩:=F8;have k:∀b o,b∉[I]->s.heap.get? b=some o->h'.get? b=some o:=λb o hb e=>G7.extBut b o (by simpa using hb) e
  have kp:Kp P s.heap h':=UB (λb hb=>by simp only[List.mem_singleton] at hb;subst hb;obtain⟨o,ho,_,hd⟩:=st.1;exact⟨o,_,ho,hd⟩) k;exact B2 ht ho hc (by decide) (hQ v h' s.toks ⟨⟨o,ho,hc,Yn⟩,k l _ (by simpa using BG) st.2.1,Rds.to kp ds st.2.2⟩ (Rd.to kp d hr) k)
 done:=λs Q E st hQ=>by
  refine wpAny_pyNext_list_end hh st.1 ⟨_,st.2.1,rfl,n,rfl⟩ ?_ λh' hx=>⟨rfl,hQ h' s.toks λb o hb e=>hx b o (by simpa using hb) e⟩
  have:=st.2.2.length;rw[yc] at this;simp[this]
 self:=λi s Q E st hQ=>wpAny_pyIter_listiter st.1 hQ
theorem Qx(hh:A.handled=none){tgt:Expr}(ht:Ey tgt=true)(I l:Addr)(BG:l≠I)(ds:List PV)(vs:Array Value)(n:Nat):
  Rk A P I tgt [I,l] [I] ds (λi h=>h.IsTupleIter I l i/\h.get? l=some { cls:=.type "tuple",dict:=none,data:=.seq vs n,slots:=#[] }/\Rds h P ds vs.toList) where
 sub:=λb hb=>by simp at hb;simp[hb]
 frame:=λi h h' st hk kp=>⟨st.1.at λo e=>hk I (by simp) o e,hk l (by simp) _ st.2.1,Rds.to kp ds st.2.2⟩
 rec_:=λi h st b hb=>by
  simp only[List.mem_singleton] at hb;subst hb;obtain⟨o,ho,_,hd⟩:=st.1;exact⟨o,_,ho,hd⟩
 live:=λi h st b hb=>by
  simp only[mem_cons,not_mem_nil,or_false] at hb;rcases hb with rfl|rfl
  ·obtain⟨o,ho,_,hd⟩:=st.1;exact⟨o,ho,λv q=>by rw[hd] at q;cases q⟩
  ·exact⟨_,st.2.1,λv q=>by cases q⟩
 turn:=λi s Q E d hd st hQ=>by
  refine AE (Hd st.2.2 hd) λv hv hr=>?_
  refine wpAny_pyNext_tuple_item st.1 ⟨_,st.2.1,rfl,n,rfl⟩ hv λh' F8 G7=>⟨v,rfl,?_⟩
  obtain⟨o,ho,hc,Yn⟩:=F8;have k:∀b o,b∉[I]->s.heap.get? b=some o->h'.get? b=some o:=λb o hb e=>G7.extBut b o (by simpa using hb) e
  have kp:Kp P s.heap h':=UB (λb hb=>by simp only[List.mem_singleton] at hb;subst hb;obtain⟨o,ho,_,hd⟩:=st.1;exact⟨o,_,ho,hd⟩) k;exact B2 ht ho hc (by decide) (hQ v h' s.toks ⟨⟨o,ho,hc,Yn⟩,k l _ (by simpa using BG) st.2.1,Rds.to kp ds st.2.2⟩ (Rd.to kp d hr) k)
 done:=λs Q E st hQ=>by
  refine wpAny_pyNext_tuple_end hh st.1 ⟨_,st.2.1,rfl,n,rfl⟩ ?_ λh' hx=>⟨rfl,hQ h' s.toks λb o hb e=>hx b o (by simpa using hb) e⟩
  have:=st.2.2.length;rw[yc] at this;simp[this]
 self:=λi s Q E st hQ=>wpAny_pyIter_tupleiter st.1 hQ
theorem Sp(h:(EB a b)[i]?=some d):i<(b-a).toNat/\d=.int (a+i):=by
 unfold EB at h;rw[A0Q] at h;cases q:(List.range (b-a).toNat)[i]? with
 |none=>rw[q] at h;cases h
 |some j=>
  rw[q] at h;obtain⟨h1,h2⟩:=fR.mp q;simp only[List.getElem_range] at h2;simp only[length_range] at h1;subst h2;refine CD h ?_;exact⟨h1,rfl⟩
theorem Gb(a b:Int):(EB a b).length=(b-a).toNat:=by simp[EB]
theorem Qy(hh:A.handled=none)(ht:Ey tgt=true)(I:Addr)(a b:Int)(Ve:a<=b):
  Rk A P I tgt [I] [I] (EB a b) (λi h=>IsRangeIter h I (a+i) (b-a-i) 1) where
 sub:=λb hb=>hb
 frame:=λi h h' st hk kp=>hk I (by simp) _ st
 rec_:=λi h st b hb=>by
  simp only[List.mem_singleton] at hb;subst hb;exact⟨_,_,st,rfl⟩
 live:=λi h st b hb=>by
  simp only[List.mem_singleton] at hb;subst hb;exact⟨_,st,λv q=>by cases q⟩
 turn:=λi s Q E d hd st hQ=>by
  obtain⟨h1,rfl⟩:=Sp hd;refine wpAny_pyNext_range_item st (v27 h1) λh' F8 G7=>⟨_,rfl,?_⟩
  refine B2 ht F8 rfl (by decide) (hQ _ h' _ (zr (vj:a+(i:Int)+1=a+((i+1:Nat):Int)).symm (zr (vi:b-a-(i:Int)-1=b-a-((i+1:Nat):Int)).symm F8)) ⟨_,rfl⟩ λb o hb e=>G7.extBut b o (by simpa using hb) e)
 done:=λs Q E st hQ=>by
  rw[Gb] at st;exact wpAny_pyNext_range_end hh st v28 λh' hx=>⟨rfl,hQ h' s.toks λb o hb e=>hx b o (by simpa using hb) e⟩
 self:=λi s Q E st hQ=>wpAny_pyIter_rangeiter st hQ
theorem UJ(hh:A.handled=none)(ht:Ey tgt=true)(I l:Addr)(BG:l≠I)(kvs:List (Int×Value))(ep:Nat):
  Rk A P I tgt [I,l] [I] (kvs.map λp=>PV.int p.1) (λi h=>h.IsKeyIter I l i kvs.length ep/\h.DictAt (intKind prog w) l kvs ep) where
 sub:=λb hb=>by simp at hb;simp[hb]
 frame:=λi h h' st hk kp=>⟨st.1.at λo e=>hk I (by simp) o e,st.2.at' λo e=>hk l (by simp) o e⟩
 rec_:=λi h st b hb=>by
  simp only[List.mem_singleton] at hb;subst hb;obtain⟨o,ho,_,hd⟩:=st.1;exact⟨o,_,ho,hd⟩
 live:=λi h st b hb=>by
  simp only[mem_cons,not_mem_nil,or_false] at hb;rcases hb with rfl|rfl
  ·obtain⟨o,ho,_,hd⟩:=st.1;exact⟨o,ho,λv q=>by rw[hd] at q;cases q⟩
  ·obtain⟨o,_,ho,_,hd,_⟩:=st.2;exact⟨_,ho,λv q=>by rw[hd] at q;cases q⟩
 turn:=λi s Q E d hd st hQ=>by
  rw[A0Q] at hd;cases q:kvs[i]? with
  |none=>rw[q] at hd;cases hd
  |some p=>
   rw[q] at hd;cases hd
   refine wpAny_pyNext_dict_item st.1 st.2 q λkey h' hk F8 G7=>⟨key,rfl,?_⟩
   obtain⟨t,rfl⟩:=Value.isInt_shape hk;obtain⟨o,ho,hc,Yn⟩:=id F8;have k:∀b o,b∉[I]->s.heap.get? b=some o->h'.get? b=some o:=λb o hb e=>G7.extBut b o (by simpa using hb) e
   exact B2 ht ho hc (by decide) (hQ _ h' s.toks ⟨F8,st.2.at' λo e=>k l o (by simpa using BG) e⟩ ⟨t,rfl⟩ k)
 done:=λs Q E st hQ=>by
  rw[KK] at st;exact wpAny_pyNext_dict_end hh st.1 st.2 (by simp) λh' hx=>⟨rfl,hQ h' s.toks λb o hb e=>hx b o (by simpa using hb) e⟩
 self:=λi s Q E st hQ=>wpAny_pyIter_keyiter st.1 hQ
end
theorem Uq{l:List PV}{i:Nat}(h:(l.zipIdx.map λp=>PV.tuple [.int p.2,p.1])[i]?=some d):∃x,l[i]?=some x/\d=.tuple [.int i,x]:=by
 rw[A0Q,List.getElem?_zipIdx] at h;cases q:l[i]? with
 |none=>rw[q] at h;cases h
 |some x=>rw[q] at h;refine CD h ?_;exact⟨x,rfl,by simp⟩
theorem UK{elts:List Expr}{k:Nat}(e it:Addr)(hei:e≠it)(zH:e∉fp)(hif:it∈fp){vs:Array Value}
  (hD:Draws prog w A.in1 it fp vs.size (λi v=>vs[i]?=some v) S) (ek:∀i h,S i h->∃o fs,h.get? it=some o/\o.data=.fields fs) (Yk:∀i h,S i h->∀b∈fp,∃o,h.get? b=some o/\∀v,o.data≠.cell v):
  Rk A P e (.Tuple elts k pos) (e::fp) [e,it] (ds.zipIdx.map λp=>PV.tuple [.int p.2,p.1]) (λi h=>(∃old,IsEnum h e it i old)/\S i h/\Rds h P ds vs.toList) where
 sub:=λb hb=>by
  simp only[mem_cons,not_mem_nil,or_false] at hb;rcases hb with rfl|rfl
  ·simp
  ·exact kV _ hif
 frame:=λi h h' st hk kp=>⟨let ⟨old,ho⟩:=st.1;⟨old,hk e (by simp) _ ho⟩,hD.frame _ _ _ st.2.1 λb hb o q=>hk b (kV _ hb) o q,Rds.to kp ds st.2.2⟩
 rec_:=λi h st b hb=>by
  simp only[mem_cons,not_mem_nil,or_false] at hb;rcases hb with rfl|rfl
  ·obtain⟨old,ho⟩:=st.1;exact⟨_,_,ho,rfl⟩
  ·exact ek i h st.2.1
 live:=λi h st b hb=>by
  rcases A0E.mp hb with rfl|hb
  ·obtain⟨old,ho⟩:=st.1;exact⟨_,ho,λv q=>by cases q⟩
  ·exact Yk i h st.2.1 b hb
 turn:=λi s Q E d hd st hQ=>by
  refine AE (Uq hd) λx hx Av=>?_;subst Av
  refine AE (Hd st.2.2 hx) λv hv hr=>?_
  obtain⟨old,he⟩:=st.1;refine wpAny_pyNext_enum_itemD hD he st.2.1 ((A1N.mp hv).1:i<vs.size) hei zH λx' h' tk hP Vz hS hT EF hk=>⟨_,rfl,?_⟩
  have hP':v=x':=Option.some.inj (hv.symm.trans hP);subst hP';refine Gr (ek i _ st.2.1) λoi fi hoi hdi=>?_
  refine wpAny_letOwnedTupleGo_enum Vz λJf fN R8=>?_
  have k:∀b o,b∉[e,it]->s.heap.get? b=some o->Jf.get? b=some o:=λb o hb q=>by
   simp only[mem_cons,not_mem_nil,or_false,not_or] at hb;exact R8.extBut b o hb.1 (hk b o hb.1 hb.2 q)
  have kp:Kp P s.heap Jf:=UB (λb hb=>by
   simp only[mem_cons,not_mem_nil,or_false] at hb;rcases hb with rfl|rfl
   ·exact⟨_,_,he,rfl⟩
   ·exact⟨oi,fi,hoi,hdi⟩) k
  refine hQ _ Jf _ ⟨⟨v,by simpa using fN⟩,hD.frame _ _ _ hS λb hb o q=>R8.extBut b o (λz=>zH (z▸hb)) q,Rds.to kp ds st.2.2⟩ ?_ k;exact⟨_,#[.int i tk,v],rfl,⟨0,R8.extBut _ _ (Nat.ne_of_gt (A0m he:e<s.heap.objs.size)) hT⟩,(by show 2<=Ab;decide),⟨.int i tk,[v],rfl,⟨tk,rfl⟩,v,[],rfl,Rd.to kp x hr,rfl⟩⟩
 done:=λs Q E st hQ=>by
  obtain⟨old,he⟩:=st.1;have hl:(ds.zipIdx.map λp=>PV.tuple [.int p.2,p.1]).length=vs.size:=by
   exact zr (KK _) (zr A13 (zr st.2.2.length.symm (zr yc rfl)))
  have hS:=st.2.1;rw[hl] at hS;exact wpAny_pyNext_enum_endD hD he hS λh' hx=>⟨rfl,hQ h' s.toks λb o hb q=>hx b o (λz=>hb (by simp[z])) q⟩
 self:=λi s Q E st hQ=>by
  obtain⟨old,he⟩:=st.1;exact wpAny_pyIter_enum he hQ
theorem T0{α:Type}{P:α->Prop}{a:α}(h:P a):∀x∈[a],P x:=λx hx=>YP.1 hx▸h
theorem Ij{α:Type}{P:α->Prop}{a b:α}(h:P a)(h':P b):∀x∈[a,b],P x:=forall_mem_cons.2 ⟨h,T0 h'⟩
theorem kW{α:Type}{P:α->Prop}{a b c:α}(h:P a)(h':P b)(fh:P c):∀x∈[a,b,c],P x:=forall_mem_cons.2 ⟨h,Ij h' fh⟩
theorem Lc{α:Type}{x y:α}(h:Res.ok x=.ok y):x=y:=by refine At h ?_;rfl
def IW(own:Addr->Option Nat)(h:Heap)(b:Addr):Prop:=own b=none\/∃o vs n,h.get? b=some o/\o.cls=.type "tuple" /\ o.data=.seq vs n
inductive Kj(f:EG)(own:Addr->Option Nat)(tgt:Expr)(cl:Cl)(ds:List PV)(s:Shared)(it:Value)(s₂:Shared):Prop where
 |mk (I:Addr) (fp wr:List Addr) (S:Nat->Heap->Prop) (ei:it=.ref I) (hi:Rk f.c.A (λa=>Fz f.c own a/\∃o,s₂.heap.get? a=some o) I tgt fp wr ds S) (h0:S 0 s₂.heap) (g:AX f.c.A s s₂) (hw:∀b∈wr,s.heap.get? b=none) (hf:cl.inner=true->∀b∈fp,IW own s₂.heap b) (ln:ds.length<=Ab) (hl:∀b∈fp,b∉frs f.c.A/\b≠f.c.env.locals)
theorem St.Os(x:St c own ρ s)(ho:s.heap.get? b=some o)(hd:∀es n,o.data≠.dict es n):b∉frs c.A/\b≠c.env.locals:=by
 refine⟨λhb=>?_,λhb=>?_⟩
 ·obtain⟨_,m,o',es,ep,Ah,Au,_⟩:=x.fr b hb;rw[ho] at Ah;cases Ah;exact hd _ _ Au
 ·obtain⟨_,m,o',es,ep,Ah,Au,_⟩:=x.loc;rw[<-hb,ho] at Ah;cases Ah;exact hd _ _ Au
theorem St.FR(x:St c own ρ s)(ho:s.heap.get? b=none):b∉frs c.A/\b≠c.env.locals:=by
 refine⟨λhb=>?_,λhb=>?_⟩
 ·obtain⟨_,m,o',es,ep,Ah,Au,_⟩:=x.fr b hb;rw[ho] at Ah;cases Ah
 ·obtain⟨_,m,o',es,ep,Ah,Au,_⟩:=x.loc;rw[<-hb,ho] at Ah;cases Ah
theorem St.HR(x:St c own ρ s)(ho:own b≠some EU):b∉frs c.A/\b≠c.env.locals:=
 ⟨λhb=>ho (x.fr b hb).1,λhb=>ho (hb▸x.loc.1)⟩
theorem Wi(F:AL f)(ht:Ey tgt=true){d:PV}(x0:St f.c own ρ Dk)(g0:AX f.c.A Dk s)(x:St f.c own ρ s)(Zw:k.top=true)(r:D9 f.c own Dk.heap s.heap k d v)(he:items .seq [d]=.ok ds){E:Value->Shared->Prop}:
  wpAny Md f.c.A (pyIter v) (Kj f own tgt k ds Dk) E s:=by
 have BG:=BI s.heap;have tp:=r.tp x0 Zw;have Zr:∀b∈[s.heap.objs.size],Dk.heap.get? b=none:=T0 (g0.h.none BG);have mq:∀h,IW own h s.heap.objs.size:=λh=>.inl (x.Co BG)
 have oq:=x.FR BG;have kp:∀o,Kp (Fz f.c own) s.heap (s.heap.push o):=λo b p hb J=>mi _ hb
 cases d with
 |list l=>
  obtain⟨a,vs,rfl,ho,⟨n,hl⟩,hlen,hr⟩:=tp;refine At he ?_;exact wpAny_pyIter_list ⟨_,hl,rfl,n,rfl⟩ ⟨_,_,_,_,rfl,UI F.ok.handled ht s.heap.objs.size a (A1D (A0m hl)) l vs n,⟨⟨_,A0L _ rfl,rfl,rfl⟩,mi _ hl,Rds.imp (λb o hb J p=>⟨p,o,hb⟩) l (Rds.to (kp _) l hr)⟩,g0.trans (AX.push _ _ _),Zr,
   λhk=>Ij (mq _) (.inl (by obtain⟨a',_,e1,p,_⟩:=r.rd x0 hk;cases e1;exact p.2)),hlen,Ij oq (x.Os hl λes n q=>by cases q)⟩
 |tuple l=>
  refine Iz.el tp λa vs n hl hlen hr=>?_
  refine At he ?_;exact wpAny_pyIter_tuple ⟨_,hl,rfl,n,rfl⟩ ⟨_,_,_,_,rfl,Qx F.ok.handled ht s.heap.objs.size a (A1D (A0m hl)) l vs n,⟨⟨_,A0L _ rfl,rfl,rfl⟩,mi _ hl,Rds.imp (λb o hb J p=>⟨p,o,hb⟩) l (Rds.to (kp _) l hr)⟩,g0.trans (AX.push _ _ _),Zr,
   λhk=>Ij (mq _) (.inr ⟨_,_,_,mi _ hl,rfl,rfl⟩),hlen,Ij oq (x.Os hl λes n q=>by cases q)⟩
 |dict l=>
  obtain⟨a,vs,rfl,ho,n1,hlen,q,hr⟩:=tp;obtain⟨hf,he⟩:=Bb he;refine At he ?_;refine Ca (q.int hf) λkvs eI e1 e2=>?_;obtain⟨o,es,ep,hm⟩:=eI
  have Ks:s.heap.DictAt (intKind prog w) a kvs ep:=⟨o,es,hm⟩;refine wpAny_pyIter_dict (FT n1) Ks ?_;have hk1:(l.map λp=>p.1.pv)=kvs.map λp=>PV.int p.1:=by
   have:=A0U (List.map Key.pv) e1;rw[A0g,A0g] at this;exact this
  have hl:(l.map λp=>p.1.pv).length<=Ab:=zr (KK _) hlen
  revert hl
  refine zr hk1 λhl=>?_
  exact⟨_,_,_,_,rfl,UJ F.ok.handled ht s.heap.objs.size a (A1D (A0m hm.1)) kvs ep,⟨⟨_,A0L _ rfl,rfl,rfl⟩,Ks.at' λo e=>mi _ e⟩,g0.trans (AX.push _ _ _),Zr,
   λhk=>Ij (mq _) (.inl (by obtain⟨a',_,e1,p,_⟩:=r.rd x0 hk;cases e1;exact p.2)),hl,Ij oq (x.HR ho)⟩
 |_=>exact Res.no he
theorem GO(F:AL f)(ht:Ey tgt=true){a b bb:Int}(x0:St f.c own ρ Dk)(g0:AX f.c.A Dk s)(x:St f.c own ρ s)(hs:Builtin.Range.small a bb 1=true)(hz:Builtin.Range.rangeSize a bb 1=b-a)(h0:0<=a)(Ve:a<=b)(hb:b<=16777216){E:Value->Shared->Prop}:
  wpAny Md f.c.A (pyIter (.ref s.heap.objs.size)) (Kj f own tgt .safe (EB a b) Dk) E { s with heap:=s.heap.push { cls:=.type "range",data:=.fields #[.int a t,.int bb u,.int 1 v] },toks:=tk }:=by
 have g1:AX f.c.A s { s with heap:=s.heap.push { cls:=.type "range",data:=.fields #[.int a t,.int bb u,.int 1 v] },toks:=tk }:=AX.push _ _ _;have x1:=x.grow F.ok g1;refine wpAny_pyIter_range (A0L _ rfl) hs ?_;have BG:=BI (s.heap.push { cls:=.type "range",data:=.fields #[.int a t,.int bb u,.int 1 v] });refine⟨_,_,_,_,rfl,Qy F.ok.handled ht _ a b Ve,?_,(g0.trans g1).trans (AX.push _ _ _),T0 ((g0.trans g1).h.none BG),λJ=>T0 (.inl (x1.Co BG)),zr (Gb _ _) (v31 h0 hb),T0 (x1.FR BG)⟩;have:=A0L (s.heap.push { cls:=.type "range",data:=.fields #[.int a t,.int bb u,.int 1 v] }) (o:={ cls:=.type "range_iterator",data:=.fields #[rawInt a,rawInt (Builtin.Range.rangeSize a bb 1),rawInt 1] }) rfl;rw[hz] at this;simpa [IsRangeIter,hz] using this
theorem Up(F:AL f){elts:List Expr}{kd:Nat}{Dk:Shared}(x0:St f.c own ρ Dk)(g0:AX f.c.A Dk s)(x:St f.c own ρ s)(Zw:k.top=true)(r:D9 f.c own Dk.heap s.heap k d v){ds:List PV}(he:items .enum [d]=.ok ds){E:Value->Shared->Prop}:
  wpAny Md f.c.A (call (.type "enumerate") [v]) (λxv AG=>wpAny Md f.c.A (pyIter xv) (Kj f own (.Tuple elts kd tp) k ds Dk) E AG) E s:=by
 have BG:=BI s.heap;have Z5:s.heap.get? (s.heap.objs.size+1)=none:=by
  cases q:s.heap.get? (s.heap.objs.size+1) with
  |none=>rfl
  |some o=>exact absurd (A0m q) (Nat.not_lt.mpr (le_succ _))
 have tp:=r.tp x0 Zw;cases d with
 |tuple l=>
  refine Iz.el tp λa vs n hl hlen hr=>?_
  refine At he ?_;have du:=A0m hl;refine EY hl λh' he F8 EF hk=>?_
  exact wpAny_pyIter_enum he ⟨_,_,_,_,rfl,UK (P:=λa=>Fz f.c own a/\∃o,h'.get? a=some o) (s.heap.objs.size+1) s.heap.objs.size (succ_ne_self _) (fp:=[s.heap.objs.size,a]) (λq=>(Ij (P:=(·≠s.heap.objs.size+1)) (A1D (lt_succ_self _)) (A1D (lt_succ_of_lt du)) _ q) rfl) (.head _) (OO (A:=f.c.A.in1) F.ok.handled s.heap.objs.size a (A1D du) vs) (λi h st=>let ⟨o,ho,J,hd⟩:=st.1;⟨o,_,ho,hd⟩)
    (λi h st=>Ij (let ⟨o,ho,J,hd⟩:=st.1;⟨o,ho,λv q=>by cases hd.symm.trans q⟩) (let ⟨o,ho,J,n,hd⟩:=st.2;⟨o,ho,λv q=>by cases hd.symm.trans q⟩)),
   ⟨⟨.none,he⟩,⟨F8,⟨_,hk a _ hl,rfl,n,rfl⟩⟩,Rds.imp (λb o hb J p=>⟨p,o,hb⟩) l (Rds.to (λb o hb J=>hk b o hb) l hr)⟩,g0.trans ⟨h',s.toks,rfl,.of_keeps hk⟩,Ij (g0.h.none Z5) (g0.h.none BG),
   λVY=>kW (.inl (x.Co Z5)) (.inl (x.Co BG)) (.inr ⟨_,_,_,hk _ _ hl,rfl,rfl⟩),zr (KK _) (zr A13 hlen),kW (x.FR Z5) (x.FR BG) (x.Os hl λes n q=>by cases q)⟩
 |_=>exact Res.no he
def Kk(f:EG)(cf:Nat->List PV->Res PV)(tup:Bool)(Dj:Expr)(kk:Vs)(src:List PE)(cl:Cl):Prop:=
 (∀env x,foldedSetIterable Dj env x=pure x)/\∀{own:Addr->Option Nat}{ρ:AP}{s:Shared}{tgt:Expr}{ds:List PV},(tup=true->∃elts k pos,tgt=.Tuple elts k pos)->Ey tgt=true->St f.c own ρ s->(evs cf ρ src).bind (items kk)=.ok ds ->
  wpAny Md f.c.A (eval Dj f.c.env) (λxv AG=>wpAny Md f.c.A (pyIter xv) (Kj f own tgt cl ds s) (λJ J=>False) AG)
   (λJ J=>False) s
theorem cg{k:Vs}(h:(evs cf ρ [a]).bind (items k)=.ok ds):∃d,ev cf ρ a=.ok d/\items k [d]=.ok ds:=by
 refine AE (AD h) λxs h h2=>?_
 refine AE (AD (AO.symm.trans h)) λd h1 h=>⟨d,h1,?_⟩
 cases (A0U (Res.bind · _) CC).symm.trans h;exact h2
theorem cN(F:AL f){a:PE×Cl}(hs:∀env x,foldedSetIterable Dj env x=pure x)(ha:AW f cf Dj a.1 a.2)(E5:a.2.top=true):Kk f cf tup Dj .seq [a.1] a.2:=
 ⟨hs,λLA ht x he=>AE (cg he) λd e1 he=>ha.at F x e1 λv AG g1 x1 r1=>Wi F ht x g1 x1 E5 r1 he⟩
theorem UN (F:AL f) {a:PE×Cl} (hb:f.t.bi g "range" = true) (SD:AN e=false) (ha:AW f cf e a.1 a.2):Kk f cf tup (.Call (.Name g gp) [e] [] pos) .range1 [a.1] .safe:=by
 refine⟨λJ J=>rfl,λLA ht x he=>?_⟩;obtain⟨rfl,hb⟩:=D8 hb;simp only[TC.bi,Bool.and_eq_true,Option.isNone_iff_eq_none] at hb;refine AE (cg he) λd e1 he=>?_
 refine A0p (A0Y (DM F x hb.1.1 hb.1.2 (v:=.type "range") (by decide +kernel) ?_) (by decide +kernel));refine A1a (A5 (by simp[SD])) (AY (by simp[SD]) (by simp) (A0G ?_ (AJ SD)));refine ha.at F x e1 λv AG g1 x1 r1=>A0c ?_
 cases d with
 |int i=>
  refine CB (Ds r1) λt=>?_
  simp only[items,l1,TL] at he;by_cases hc:(decide (0<=i)&&decide (i<=(Ab:Nat)))=true
  ·rw[XL hc] at he;refine At he ?_;simp only[Bool.and_eq_true,decide_eq_true_eq] at hc;have hb:i<=16777216:=by have:=hc.2;unfold Ab at this;exact vf this
   exact call_range_1 (GO F ht x g1 x1 (PySem.small_one (by decide) (by decide) (ZJ hc.1) (Zb (n:=16777216) hb (A0I _))) (S2 hc.1) (A1B 0) hc.1 hb)
  ·rw[Yf hc] at he;obtain⟨rfl,he⟩:=Bb he;refine At he ?_;exact call_range_1 (GO F ht x g1 x1 (b:=0) (by decide +kernel) (by decide +kernel) (A1B 0) (A1B 0) (by decide))
 |_=>exact Res.no he
theorem Nv(he:(evs cf ρ [a,b]).bind (items .range2)=.ok ds):ev cf ρ a=.ok (.int 1)/\ev cf ρ b=.ok (.int 41)/\ds=EB 1 41:=by
 rw[AO,AO,CC] at he;refine AE (AD he) λds h1 he=>?_
 refine AE (AD h1) λx h2 h1=>?_
 refine AE (AD h1) λys h3 h1=>?_
 refine AE (AD h3) λy h4 h3=>?_
 cases h3;cases h1
 refine Gq (B3 he) λi j Av EH q=>?_;subst Av;subst EH
 obtain⟨⟨rfl,rfl⟩,q⟩:=Bb q;exact⟨h2,h4,(Lc q).symm⟩
theorem Q0 (F:AL f) {a b:PE×Cl} (hb:f.t.bi g "range" = true) (SD:AN e=false) (G7:AN e'=false) (ha:AW f cf e a.1 a.2) (Vc:AW f cf e' b.1 b.2):Kk f cf tup (.Call (.Name g gp) [e,e'] [] pos) .range2 [a.1,b.1] .safe:=by
 refine⟨λJ J=>rfl,λLA ht x he=>?_⟩;obtain⟨rfl,hb⟩:=D8 hb;simp only[TC.bi,Bool.and_eq_true,Option.isNone_iff_eq_none] at hb;refine DI (Nv he) λh1 h2 h3=>?_;subst h3
 refine A0p (A0Y (DM F x hb.1.1 hb.1.2 (v:=.type "range") (by decide +kernel) ?_) (by decide +kernel));refine A1a (A5 (by simp[SD,G7])) (AY (by simp[SD,G7]) (by simp) (A0G (ha.int x h1 λt AG g1=>?_) (AJ SD)));refine A0G (Vc.int (x.grow F.ok g1) h2 λt' s₂ g2=>A0c ?_) (AJ G7);exact call_range_2 (GO F ht x (g1.trans g2) ((x.grow F.ok g1).grow F.ok g2) (b:=41) (by decide +kernel) (by decide +kernel) (by decide) (by decide) (by decide))
theorem Xi (F:AL f) {a:PE×Cl} (hb:f.t.bi g "enumerate" = true) (SD:AN e=false) (ha:AW f cf e a.1 a.2) (E5:a.2.top=true):Kk f cf true (.Call (.Name g gp) [e] [] pos) .enum [a.1] a.2:=by
 refine⟨λJ J=>rfl,λLA ht x he=>?_⟩;obtain⟨rfl,hb⟩:=D8 hb;simp only[TC.bi,Bool.and_eq_true,Option.isNone_iff_eq_none] at hb;refine pj (LA rfl) λelts kd tpos EH=>?_;subst EH
 refine AE (cg he) λd e1 he=>?_
 refine A0p (A0Y (DM F x hb.1.1 hb.1.2 (v:=.type "enumerate") (by decide +kernel) ?_) (by decide +kernel));refine A1a (A5 (by simp[SD])) (AY (by simp[SD]) (by simp) (A0G ?_ (AJ SD)));exact ha.at F x e1 λv AG g1 x1 r1=>A0c (Up F x g1 x1 E5 r1 he)
section
set_option backward.eqns.nonrecursive false
def Di(c:Cx)(b:Addr):Prop:=b=c.env.locals\/∃n,c.env.cells.lookup n=some b
def Dy(c:Cx)(y:Str)(b:Addr):Prop:=(c.env.kindOf y=some .local/\b=c.env.locals)\/(c.env.kindOf y=some .cell/\c.env.cells.lookup y=some b)
theorem Dy.names:Dy c y b->Di c b
 |.inl h=>.inl h.2
 |.inr h=>.inr ⟨y,h.2⟩
inductive Bd(N:Addr->Prop)(s s':Shared):Prop where
 |mk (h':Heap) (tk:Nat) (e:s'=(up s (h') (tk))) (k:∀b o,s.heap.get? b=some o->¬N b->h'.get? b=some o)
theorem mem_of_lookup{α:Type}:∀{l:List (Str×α)}{x:Str}{a:α},l.lookup x=some a->(x,a)∈l:=by
 intro l;induction l with
 |nil=>exact λ{_}{_}h=>by simp at h
 |cons pq r ih=>
  intro x a h;obtain⟨n,c⟩:=pq;simp only[lookup_cons] at h;cases hx:x==n with
  |true=>rw[hx] at h;refine CD h ?_;exact zr (eq_of_beq hx) d4
  |false=>rw[hx] at h;exact kV _ (ih h)
theorem JL:∀{l:List (Str×Addr)}{x y:Str}{a b:Addr},l.Pairwise (λx y=>x.2≠y.2)->l.lookup x=some a->l.lookup y=some b->x≠y->a≠b:=by
 intro l;induction l with
 |nil=>exact λ{_}{_}{_}{_}_ h _ _=>by simp at h
 |cons pq r ih=>
  intro x y a b hp h1 h2 BG;obtain⟨n,c⟩:=pq;rw[pairwise_cons] at hp;simp only[lookup_cons] at h1 h2;cases hx:x==n with
  |true=>
   rw[hx] at h1;refine CD h1 ?_;have:(y==n)=false:=by
    cases hy:y==n with
    |false=>rfl
    |true=>exact absurd ((eq_of_beq hx).trans (eq_of_beq hy).symm) BG
   rw[this] at h2;exact hp.1 (y,b) (mem_of_lookup h2)
  |false=>
   rw[hx] at h1;cases hy:y==n with
   |true=>
    rw[hy] at h2;refine CD h2 ?_;exact λq=>hp.1 (x,a) (mem_of_lookup h1) q.symm
   |false=>
    rw[hy] at h2;exact ih hp.2 h1 h2 BG
section
variable {c:Cx}{own:Addr->Option Nat}{ρ:AP}{s s':Shared}
theorem GP{l:List (Str×Nat)}(h:(l.map (·.2)).Nodup)(hx:(x,i)∈l)(hy:(y,i)∈l):x=y:=by
 induction l with
 |nil=>cases hx
 |cons p r ih=>
  simp only[map_cons,nodup_cons,List.mem_map,not_exists,not_and] at h;rcases A0E.mp hx with e1|m1<;>rcases A0E.mp hy with e2|m2
  ·rw[<-e1] at e2;cases e2;rfl
  ·subst e1;exact absurd rfl (h.1 (y,i) m2)
  ·subst e2;exact absurd rfl (h.1 (x,i) m1)
  ·exact ih h.2 m1 m2
theorem JK{l:List (Str×Nat)}(h:(l.map (·.1)).Nodup)(hx:(x,i)∈l)(hy:(x,j)∈l):i=j:=by
 induction l with
 |nil=>cases hx
 |cons p r ih=>
  simp only[map_cons,nodup_cons,List.mem_map,not_exists,not_and] at h;rcases A0E.mp hx with e1|m1<;>rcases A0E.mp hy with e2|m2
  ·rw[<-e1] at e2;cases e2;rfl
  ·subst e1;exact absurd rfl (h.1 (x,j) m2)
  ·subst e2;exact absurd rfl (h.1 (x,i) m1)
  ·exact ih h.2 m1 m2
theorem Jt(h:(ρ.set i (some d))[j]?=some (some e)):(j=i/\e=d)\/(j≠i/\ρ[j]?=some (some e)):=by
 rw[List.getElem?_set] at h;split at h
 ·rename_i q;split at h
  ·cases h;exact .inl ⟨q.symm,rfl⟩
  ·cases h
 ·rename_i q;exact .inr ⟨λz=>q z.symm,h⟩
theorem St.store{M:Model}(hN:∀b,Dy c y b->N b)(ok:Ex c)(x:St c own ρ s)(hm:(y,i)∈c.names)(r:DB s.heap c own i d v)
  (hQ:∀s',St c own (ρ.set i (some d)) s'->Bd N s s'->Q () s'):wpAny M A (storeName c.env y v) Q E s:=by
 obtain⟨ol,m,Rp⟩:=x.loc;rcases ok.kinds y i hm with hk|⟨hk,a,ha⟩
 ·refine A1i hk Rp (λh' hn hs=>?_) (zr ok.kind rfl);have kp:∀{P:Addr->Prop},(∀a,P a->own a≠some EU)->Kp P s.heap h':=λhP a o ho VX=>by
   by_cases e:a=c.env.locals
   ·subst e;obtain⟨o',es,ep,Ah,hd,_⟩:=Rp;rw[ho] at Ah;cases Ah
    rcases VX with⟨_,_,Au,_⟩|⟨_,_,Au,hp⟩|⟨_,hp⟩
    ·rw[hd] at Au;cases Au
    ·exact absurd ol (hP _ hp)
    ·exact absurd ol (hP _ hp)
   ·exact zr (hs.2 a e) ho
  refine hQ _ ⟨λb o hb=>?_,λb hb=>?_,⟨ol,_,hn⟩,x.locNew,λn b hb=>?_,x.cellNew,λb hb=>?_,x.ownNew,λz j e hz he=>?_⟩ ⟨h',_,rfl,λb o hb Vc=>by refine zr (hs.2 b (λe=>Vc (hN b (.inl ⟨hk,e⟩)))) ?_;exact hb⟩
  ·have BG:b≠c.env.locals:=λe=>by rw[e,x.locNew] at hb;cases hb
   obtain⟨h1,sl,h2⟩:=x.base b o hb;exact⟨λhf=>(hs.2 b BG).trans (h1 hf),sl,(hs.2 b BG).trans h2⟩
  ·obtain⟨h1,m',h2⟩:=x.fr b hb;by_cases e:b=c.env.locals
   ·exact zr e ⟨ol,_,hn⟩
   ·exact⟨h1,m',h2.sameBut hs e⟩
  ·obtain⟨v',o,ho,hd⟩:=x.cell n b hb;have BG:b≠c.env.locals:=λe=>by
    obtain⟨o',es,ep,Ah,Au,_⟩:=Rp;rw[<-e,ho] at Ah;cases Ah;rw[hd] at Au;cases Au
   exact⟨v',o,(hs.2 b BG).trans ho,hd⟩
  ·obtain⟨o,ho⟩:=x.ownIn b hb;by_cases e:b=c.env.locals
   ·obtain⟨o',_,_,Ah,_⟩:=hn;exact zr e ⟨o',Ah⟩
   ·exact⟨o,(hs.2 b e).trans ho⟩
  ·rcases Jt he with⟨rfl,rfl⟩|⟨BG,Rt⟩
   ·have:z=y:=GP ok.nodupI hz hm;subst this;exact⟨v,.inl hk _ hn (by simp),r.kp (kp λa h=>Aq h) λhi=>kp λa h q=>by rw[h] at q;cases q;exact ok.dumNot hi⟩
   ·refine AE (x.vars z j e hz Rt) λv' hv hr=>?_
    have nA:z≠y:=λq=>BG (JK ok.nodupN (q▸hz) hm)
    refine⟨v',?_,hr.kp (kp λa h=>Aq h) λhi=>kp λa h q=>by rw[h] at q;cases q;exact ok.dumNot hi⟩;rcases hv with⟨k1,m1,WB,e1⟩|⟨k1,a,hl,o,ho,hd⟩
    ·refine .inl k1 _ hn ?_;simp only[if_neg nA];obtain⟨o1,es1,ep1,DR,Vb,_,Z8⟩:=Rp;obtain⟨o2,es2,ep2,NF,Va,_,Z7⟩:=WB;rw[DR] at NF;cases NF
     rw[Vb] at Va;cases Va
     rw[<-Z8,Z7,e1]
    ·have BG:a≠c.env.locals:=λe=>by
      obtain⟨o',es,ep,Ah,Au,_⟩:=Rp;rw[<-e,ho] at Ah;cases Ah;rw[hd] at Au;cases Au
     exact .inr k1 a hl ⟨o,(hs.2 a BG).trans ho,hd⟩
 ·obtain⟨v0,dg⟩:=x.cell y a ha;refine wpAny_storeName_cell ok.kind hk ha dg λh' hn hs=>?_
  obtain⟨oc,nR,zI⟩:=dg;have kp:∀{P:Addr->Prop},Kp P s.heap h':=λb o ho VX=>by
   by_cases e:b=a
   ·subst e;rw[ho] at nR;cases nR
    rcases VX with⟨_,_,Au,_⟩|⟨_,_,Au,_⟩|⟨Au,_⟩<;>(rw[zI] at Au;cases Au)
   ·exact zr (hs.2 b e) ho
  have NA:∀{b m'},s.heap.Ns b m'->b≠a:=λ{b m'}h e=>by
   obtain⟨o',es,ep,Ah,Au,_⟩:=h;rw[e,nR] at Ah;cases Ah;rw[zI] at Au;cases Au
  refine hQ _ ⟨λb o hb=>?_,λb hb=>?_,⟨ol,_,Rp.sameBut hs (NA Rp)⟩,x.locNew,λn b hb=>?_,x.cellNew,λb hb=>?_,x.ownNew,λz j e hz he=>?_⟩ ⟨h',s.toks,rfl,λb o hb Vc=>by refine zr (hs.2 b (λe=>Vc (hN b (.inr ⟨hk,e▸ha⟩)))) ?_;exact hb⟩
  ·have BG:b≠a:=λe=>by rw[e,x.cellNew y a ha] at hb;cases hb
   obtain⟨h1,sl,h2⟩:=x.base b o hb;exact⟨λhf=>(hs.2 b BG).trans (h1 hf),sl,(hs.2 b BG).trans h2⟩
  ·obtain⟨h1,m',h2⟩:=x.fr b hb;exact⟨h1,m',h2.sameBut hs (NA h2)⟩
  ·by_cases e:b=a
   ·exact zr e ⟨_,hn⟩
   ·obtain⟨v',o,ho,hd⟩:=x.cell n b hb;exact⟨v',o,(hs.2 b e).trans ho,hd⟩
  ·obtain⟨o,ho⟩:=x.ownIn b hb;by_cases e:b=a
   ·obtain⟨o',Ah,_⟩:=hn;exact zr e ⟨o',Ah⟩
   ·exact⟨o,(hs.2 b e).trans ho⟩
  ·rcases Jt he with⟨rfl,rfl⟩|⟨BG,Rt⟩
   ·have:z=y:=GP ok.nodupI hz hm;subst this;exact⟨v,.inr hk a ha hn,r.kp kp λhi=>kp⟩
   ·refine AE (x.vars z j e hz Rt) λv' hv hr=>?_
    have nA:z≠y:=λq=>BG (JK ok.nodupN (q▸hz) hm)
    refine⟨v',?_,hr.kp kp λhi=>kp⟩;rcases hv with⟨k1,m1,WB,e1⟩|⟨k1,b,hl,o,ho,hd⟩
    ·exact .inl k1 m1 (WB.sameBut hs (NA WB)) e1
    ·exact .inr k1 b hl ⟨o,(hs.2 b (JL ok.apart hl ha nA)).trans ho,hd⟩
theorem Bd.refl:Bd N s s:=⟨s.heap,s.toks,rfl,λJ J h J=>h⟩
theorem Bd.trans(x:Bd N s s')(y:Bd N s' M8):Bd N s M8:=by
 obtain⟨h1,t1,rfl,k1⟩:=x;obtain⟨h2,t2,rfl,k2⟩:=y;exact⟨h2,t2,rfl,λb o hb hN=>k2 b o (k1 b o hb hN) hN⟩
theorem Bd.keeps(k:Keeps s s'):Bd N s s':=by
 obtain⟨h1,t1,rfl,k1⟩:=k;exact⟨h1,t1,rfl,λb o hb J=>k1 b o hb⟩
theorem Bd.kp(x:St c own ρ s)(fb:∀b,N b->Di c b)(y:Bd N s s')(hP:∀a,P a->own a≠some EU):Kp P s.heap s'.heap:=by
 obtain⟨h',tk,rfl,k⟩:=y;intro a o ho hm;refine k a o ho λhN=>?_
 rcases fb a hN with rfl|⟨n,hn⟩
 ·obtain⟨ol,m,o',es,ep,Ah,hd,_⟩:=x.loc;rw[ho] at Ah;cases Ah
  rcases hm with⟨_,_,Au,_⟩|⟨_,_,Au,hp⟩|⟨_,hp⟩
  ·rw[hd] at Au;cases Au
  ·exact hP _ hp ol
  ·exact hP _ hp ol
 ·obtain⟨v,o',Ah,hd⟩:=x.cell n a hn;rw[ho] at Ah;cases Ah
  rcases hm with⟨_,_,Au,_⟩|⟨_,_,Au,_⟩|⟨Au,_⟩<;>(rw[hd] at Au;cases Au)
end
def F7(c:Cx)(N:Addr->Prop):List (Str×Pos)->List Nat->Prop
 |[],[]=>True
 |p::ps,i::is=>((p.1,i)∈c.names/\i∉c.mv/\∀b,Dy c p.1 b->N b)/\F7 c N ps is
 |_,_=>False
theorem F7.length:∀{xs:List (Str×Pos)}{is:List Nat},F7 c N xs is->xs.length=is.length
 |[],[],_=>rfl
 |_::_,_::_,h=>by simp[F7.length h.2]
inductive Ee(c:Cx)(N:Addr->Prop):Expr->Py->Prop where
 |one {x i pos} (h:(x,i)∈c.names) (hi:i∉c.mv) (hN:∀b,Dy c x b->N b):Ee c N (.Name x pos) (.one i)
 |many {xs:List (Str×Pos)} {is:List Nat} {k pos} (h:F7 c N xs is):Ee c N (.Tuple (xs.map λp=>.Name p.1 p.2) k pos) (.many is)
theorem Ee.ok(h:Ee c N e t):Ey e=true:=by cases h<;>rfl
theorem OM(fb:∀b,N b->Di c b)(ok:Ex c):∀{is:List Nat}{l:List PV}{vs:List Value}{ρ:AP}{s:Shared},
  F7 c N xs is->St c own ρ s->Rds s.heap (Fz c own) l vs->is.length=l.length ->
  (∀s',St c own ((is.zip l).foldl (λρ p=>ρ.set p.1 (some p.2)) ρ) s'->Bd N s s'->Q () s') ->
  wpAny Md A (assignInOrder ((assignEach (xs.map λp=>.Name p.1 p.2) c.env).map (·.2)) vs) Q E s:=by
 induction xs with
 |nil=>
  intro is l vs ρ s ha x hr hl hQ;cases is with
  |cons _ _=>exact ha.elim
  |nil=>
   cases l with
   |cons _ _=>cases hl
   |nil=>cases (show vs=[] from hr);exact wpAny_assignInOrder_none (hQ s x .refl)
 |cons p xs ih=>
  intro is l vs ρ s ha x hr hl hQ;cases is with
  |nil=>exact ha.elim
  |cons i is=>
   cases l with
   |nil=>cases hl
   |cons d l=>
    cases vs with
    |nil=>obtain⟨_,_,h,_⟩:=hr;cases h
    |cons v r=>
     have r1:Rd s.heap (Fz c own) d v/\Rds s.heap (Fz c own) l r:=by
      obtain⟨_,_,h,r1,r2⟩:=hr;cases h;exact⟨r1,r2⟩
     exact wpAny_assignInOrder_more (wpAny_assign_Name (x.store ha.1.2.2 ok ha.1.1 (by unfold DB;refine zr (Yf ha.1.2.1) ?_;exact r1.1) λs' x' st=>
      ih ha.2 x' (Rds.to (st.kp x fb λa h=>Aq h) l r1.2) (Nat.succ.inj hl) λM8 x'' lg=>hQ M8 x'' (st.trans lg)))
theorem ML:∀(xs:List (Str×Pos))(env:Env),(assignEach (xs.map λp=>.Name p.1 p.2) env).length=xs.length:=by
 intro xs;induction xs with
 |nil=>exact λ_=>rfl
 |cons p xs ih=>exact λenv=>A0U (·+1) (ih env)
theorem RN:∀(xs:List (Str×Pos))(env:Env),(assignEach (xs.map λp=>.Name p.1 p.2) env).findIdx? (·.1)=none:=by
 intro xs;induction xs with
 |nil=>exact λ_=>rfl
 |cons p xs ih=>
  intro env;show List.findIdx? _ (_::assignEach (xs.map λp=>.Name p.1 p.2) env)=none;refine zr findIdx?_cons (zr (ih env) ?_);rfl
set_option tactic.hygienic true in
theorem GK(fb:∀b,N b->Di c b)(ok:Ex c)(hh:A.handled=none)(h:Ee c N e t)(x:St c own ρ s)(r:Rd s.heap (Fz c own) d v)(he:CO t d ρ=.ok ρ')
  (hQ:∀s',St c own ρ' s'->Bd N s s'->Q () s'):wpAny Md A (assign e c.env v) Q E s:=by
 cases h with
 |one hm hi hN=>obtain rfl:=Lc he;exact wpAny_assign_Name (x.store hN ok hm (by unfold DB;refine zr (Yf hi) ?_;exact r) hQ)
 |many dm=>
  rename_i xs is k pos;cases d with
  |tuple l=>
   obtain⟨hl,he⟩:=Bb he;obtain rfl:=Lc he;refine Iz.el r λa vs n hs hlen hr=>?_
   refine wpAny_assign_Tuple hh ⟨_,hs,rfl,n,rfl⟩ (by refine zr (ML _ _) (zr dm.length (zr hl (zr hr.length.symm ?_)));simp) (RN xs c.env) λh' hx=>?_
   have kk:Keeps s { s with heap:=h' }:=⟨h',s.toks,rfl,λb o hb=>hx b o (A1D (A0m hb)) hb⟩;exact OM fb ok dm (x.grow ok (AX.of_keeps kk)) (Rds.to (λb o hb J=>hx b o (A1D (A0m hb)) hb) l hr) hl λs' x' st=>hQ s' x' ((Bd.keeps kk).trans st)
  |_=>exact Res.no he
end
noncomputable def Dg(env:Env)(names:List (Str×NameKind)):List (Str×Addr):=names.filterMap λp=>if p.2==.free then some (p.1,(env.cells.lookup p.1).getD 0) else none
theorem JY(hk:(k==NameKind.free)=true):Dg env ((n,k)::r)=(n,(env.cells.lookup n).getD 0)::Dg env r:=by
 unfold Dg;refine zr A1r ?_;simp only[hk,if_true]
theorem Mb(hk:(k==NameKind.free)=false):Dg env ((n,k)::r)=Dg env r:=by
 unfold Dg;refine zr A1r ?_;simp only[hk,Bool.false_eq_true,if_false]
theorem dA(h:∀p∈scope.names,p.2=.free->∃a,env.cells.lookup p.1=some a):closureFor scope env=pure (Dg env scope.names).reverse:=by
 simp only[closureFor];have go:∀(names:List (Str×NameKind))(acc:List (Str×Addr)),(∀p∈names,p.2=.free->∃a,env.cells.lookup p.1=some a) ->
   (forIn names acc λ(x:Str×NameKind)(r:List (Str×Addr))=>if(x.2==NameKind.free)=true then(do let a <-cellOf env x.1;pure (ForInStep.yield ((x.1,a)::r))) else pure (ForInStep.yield r):Sem _)=pure ((Dg env names).reverse++acc):=by
  intro names
  induction names with
  |nil=>intro acc _;rfl
  |cons p r ih=>
   intro acc hp;obtain⟨n,k⟩:=p;refine zr (forIn_cons _ _ _ _) ?_;cases hk:(k==NameKind.free) with
   |true=>
    obtain⟨a,ha⟩:=hp (n,k) d4 (eq_of_beq hk);have hc:cellOf env n=pure a:=by unfold cellOf;exact zr ha rfl
    have e1:Dg env ((n,k)::r)=(n,a)::Dg env r:=zr (JY hk) (zr ha rfl);simp only[if_true,hc,e1];rw[reverse_cons,on];exact ih _ λp hm=>hp p (kV _ hm)
   |false=>
    have e1:Dg env ((n,k)::r)=Dg env r:=Mb hk;simp only[Bool.false_eq_true,if_false,e1];exact ih _ λp hm=>hp p (kV _ hm)
 have:=go scope.names [] h;rw[A0k] at this;refine zr this ?_;rfl
theorem HH(h:(n,a)∈Dg env names):(n,NameKind.free)∈names/\a=(env.cells.lookup n).getD 0:=by
 refine AE (List.mem_filterMap.mp h) λp hp e=>?_
 split at e
 ·rename_i hk;cases e
  exact⟨by refine zr (eq_of_beq hk).symm ?_;exact hp,rfl⟩
 ·cases e
theorem XS(h:(n,NameKind.free)∈names):(n,(env.cells.lookup n).getD 0)∈Dg env names:=
 List.mem_filterMap.mpr ⟨_,h,by simp⟩
theorem Ma:∀{names:List (Str×NameKind)},(names.map (·.1)).Nodup->((Dg env names).map (·.1)).Nodup:=by
 intro names;induction names with
 |nil=>exact λ_=>A1d
 |cons pq r HN=>
  intro h;obtain⟨n,k⟩:=pq;simp only[map_cons,nodup_cons] at h;have ih:=HN h.2;cases hk:(k==NameKind.free) with
  |true=>
   have e1:Dg env ((n,k)::r)=(n,(env.cells.lookup n).getD 0)::Dg env r:=JY hk;rw[e1,A0Z,A1C];refine⟨λhm=>?_,ih⟩;refine AE (Ya.mp hm) λp hp e=>?_
   obtain⟨n',a⟩:=p;simp only at e;subst e;exact h.1 (Ya.mpr ⟨_,(HH hp).1,rfl⟩)
  |false=>
   have e1:Dg env ((n,k)::r)=Dg env r:=Mb hk;exact zr e1 ih
theorem DL{α:Type}:∀{l:List (Str×α)}{x:Str}{a:α},(l.map (·.1)).Nodup->(x,a)∈l->l.lookup x=some a:=by
 intro l;induction l with
 |nil=>exact λ{_}{_}_ h=>by cases h
 |cons pq r ih=>
  intro x a hn h;obtain⟨n,c⟩:=pq;simp only[map_cons,nodup_cons] at hn;simp only[lookup_cons];rcases A0E.mp h with e|hm
  ·cases e;simp
  ·have:(x==n)=false:=by
    cases q:x==n with
    |false=>rfl
    |true=>exact absurd (Ya.mpr ⟨_,hm,rfl⟩) (zr (eq_of_beq q) hn.1)
   exact zr this (ih hn.2 hm)
structure Vt(env:Env)(names:List (Str×NameKind))(cl:List (Str×Addr)):Prop where
 to:∀n a,cl.lookup n=some a->env.cells.lookup n=some a
 has:∀n,(n,NameKind.free)∈names->∃a,cl.lookup n=some a
 apart:cl.Pairwise λx y=>x.2≠y.2
theorem d8{scope:Scope}(hn:(scope.names.map (·.1)).Nodup)(ha:env.cells.Pairwise λx y=>x.2≠y.2)(h:∀p∈scope.names,p.2=.free->∃a,env.cells.lookup p.1=some a):Vt env scope.names (Dg env scope.names).reverse where
 to:=λn a e=>by
  have hm:=mem_of_lookup e;rw[List.mem_reverse] at hm;obtain⟨h1,h2⟩:=HH hm;obtain⟨b,hb⟩:=h _ h1 rfl;rw[hb] at h2 ⊢;refine zr h2 ?_;rfl
 has:=λn hm=>⟨_,DL (zr List.map_reverse (pairwise_reverse.mpr ((Ma hn).imp λh=>Ne.symm h))) (List.mem_reverse.mpr (XS hm))⟩
 apart:=by
  rw[pairwise_reverse];have:=Ma (env:=env) hn;rw[List.Nodup,pairwise_map] at this;refine this.imp_of_mem λ{x y}hx hy BG=>?_
  obtain⟨h1,h2⟩:=HH (n:=x.1) hx;obtain⟨h3,h4⟩:=HH (n:=y.1) hy;obtain⟨b,hb⟩:=h _ h1 rfl;obtain⟨b',Vc⟩:=h _ h3 rfl;exact zr h2 (zr h4 (zr hb (zr Vc ((JL ha hb Vc BG).symm))))
def Loose(c:Cx)(own:Addr->Option Nat)(s:Shared)(W:Addr->Prop):Prop:=
 ∀b,W b->c.h0.get? b=none/\∃o,s.heap.get? b=some o/\((∃vs,o.data=.fields vs)\/(own b=some EU/\∃vs n,o.data=.seq vs n/\o.cls=.type "list")\/(own b=some EU/\b∉frs c.A/\b≠c.env.locals/\∃es n,o.data=.dict es n))
theorem Loose.kp(hW:Loose c own s W)(k:∀b o,¬W b->s.heap.get? b=some o->h'.get? b=some o)(hP:∀a,P a->own a≠some EU):Kp P s.heap h':=λa o ho hm=>by
 refine k a o (λhw=>?_) ho;obtain⟨_,o',Ah,hd⟩:=hW a hw;rw[ho] at Ah;cases Ah
 rcases hd with⟨vs,hd⟩|⟨Vb,vs,n,Va,oG⟩|⟨Vb,_,_,es,n,Va⟩
 ·rcases hm with⟨_,_,Au,_⟩|⟨_,_,Au,_⟩|⟨Au,_⟩<;>(rw[hd] at Au;cases Au)
 ·rcases hm with⟨_,_,_,hc|⟨hp,_⟩⟩|⟨_,_,Au,hp⟩|⟨_,hp⟩
  ·rw[oG] at hc;simp at hc
  ·exact hP a hp Vb
  ·exact hP a hp Vb
  ·exact hP a hp Vb
 ·rcases hm with⟨_,_,Au,_⟩|⟨_,_,Au,hp⟩|⟨_,hp⟩
  ·rw[Va] at Au;cases Au
  ·exact hP a hp Vb
  ·exact hP a hp Vb
theorem Loose.dict(hW:Loose c own s W)(ho:s.heap.get? b=some o){es n}(hd:o.data=.dict es n)(hb:b∈frs c.A\/b=c.env.locals):¬W b:=λhw=>by
 obtain⟨_,o',Ah,hq⟩:=hW b hw;cases ho.symm.trans Ah
 rcases hq with⟨vs,hq⟩|⟨_,_,_,hq,_⟩|⟨_,h1,h2,_⟩
 ·cases hd.symm.trans hq
 ·cases hd.symm.trans hq
 ·exact hb.elim h1 h2
theorem Loose.cell(hW:Loose c own s W)(ho:s.heap.get? b=some o){v}(hd:o.data=.cell v):¬W b:=λhw=>by
 obtain⟨_,o',Ah,hq⟩:=hW b hw;cases ho.symm.trans Ah
 rcases hq with⟨vs,hq⟩|⟨_,_,_,hq,_⟩|⟨_,_,_,_,_,hq⟩<;>cases hd.symm.trans hq
structure Pz(c:Cx)(own own':Addr->Option Nat):Prop where
 non:∀a,own a=none->own' a=none
 som:∀a i,i∈c.mv->own a=some i->own' a=some i
 back:∀a i,i∈c.mv->own' a=some i->own a=some i
 fr:∀a∈frs c.A,own' a=own a
 loc:own' c.env.locals=own c.env.locals
theorem Pz.refl:Pz c own own:=⟨λJ h=>h,λJ J J h=>h,λJ J J h=>h,λJ J=>rfl,rfl⟩
theorem DB.fw(r:Pz c own own')(x:DB h c own i d v):DB h c own' i d v:=by
 unfold DB at x ⊢;split
 ·rename_i hi;rw[XL hi] at x;exact CV.imp (λa J J J p=>r.som a i hi p) (λa J J J p=>⟨p.1,r.non a p.2⟩) x
 ·rename_i hi;rw[Yf hi] at x;exact Rd.imp (λa J J J p=>⟨p.1,r.non a p.2⟩) d x
theorem St.Ov(ok:Ex c)(x:St c own ρ s)(hW:Loose c own s W)(hr:Pz c own own')(hS:∀b,W b->own' b≠none->∃o,h'.get? b=some o)(hS':∀b,¬W b->own' b=own b)
  (k:∀b o,¬W b->s.heap.get? b=some o->h'.get? b=some o):St c own' ρ (up s (h') (tk)) where
 base:=λb o hb=>by
  have z5:¬W b:=λhw=>by have:=(hW b hw).1;rw[hb] at this;cases this
  obtain⟨h1,sl,h2⟩:=x.base b o hb;exact⟨λhf=>k b _ z5 (h1 hf),sl,k b _ z5 h2⟩
 fr:=λb hb=>by
  obtain⟨h1,m,o,es,ep,ho,hd,r⟩:=x.fr b hb;exact⟨(hr.fr b hb).trans h1,m,o,es,ep,k b o (hW.dict ho hd (.inl hb)) ho,hd,r⟩
 loc:=by
  obtain⟨h1,m,o,es,ep,ho,hd,r⟩:=x.loc;exact⟨hr.loc.trans h1,m,o,es,ep,k _ o (hW.dict ho hd (.inr rfl)) ho,hd,r⟩
 locNew:=x.locNew
 cell:=λn b hb=>by
  obtain⟨v,o,ho,hd⟩:=x.cell n b hb;exact⟨v,o,k b o (hW.cell ho hd) ho,hd⟩
 cellNew:=x.cellNew
 ownIn:=λb hb=>by
  by_cases hw:W b
  ·exact hS b hw hb
  ·rw[hS' b hw] at hb;obtain⟨o,ho⟩:=x.ownIn b hb;exact⟨o,k b o hw ho⟩
 ownNew:=λa i h hi=>x.ownNew a i (hr.back a i hi h) hi
 vars:=λy i d hm hd=>by
  refine AE (x.vars y i d hm hd) λv hv hq=>?_
  refine⟨v,?_,DB.fw hr (hq.kp (hW.kp k λa h=>Aq h) λhi=>hW.kp k λa h e=>by rw[h] at e;cases e;exact ok.dumNot hi)⟩;rcases hv with⟨k1,m,⟨o,es,ep,ho,hd,r⟩,e⟩|⟨k1,a,hl,o,ho,hd⟩
  ·exact .inl k1 m ⟨o,es,ep,k _ o (hW.dict ho hd (.inr rfl)) ho,hd,r⟩ e
  ·exact .inr k1 a hl ⟨o,k _ o (hW.cell ho hd) ho,hd⟩
theorem St.change(ok:Ex c)(x:St c own ρ s)(hW:Loose c own s W)(hS:∀b,W b->own b≠none->∃o,h'.get? b=some o)
  (k:∀b o,¬W b->s.heap.get? b=some o->h'.get? b=some o):St c own ρ (up s (h') (tk)):=x.Ov ok hW .refl hS (λJ J=>rfl) k
def A6(f:EG)(scope:Scope)(xs:List Str)(cl:List (Str×Addr))(C:Addr):EG:=
 { f with c:={ f.c with env:=compEnvC scope cl C f.c.env,names:=Bz f.t scope.names xs },t:=compTC f.t scope.names xs }
theorem DJ(F:AL f)(scope:Scope):(relabel scope f.c.env).names=Df f.t.scope scope.names:=by
 show scope.names.map _=scope.names.map _;refine List.map_congr_left λp J=>?_
 obtain⟨n,k⟩:=p;have hk:(f.c.env.scope.kind==ScopeKind.function)=true:=zr F.ok.kind rfl;have hl:f.c.env.kindOf n=f.t.scope.lookup n:=by show f.c.env.scope.names.lookup n=_;exact zr F.scope rfl
 simp only[hk,hl,Bool.and_true]
structure Ef(t:TC)(names:List (Str×NameKind))(xs:List Str):Prop where
 each:∀x∈xs,names.lookup x=some .local/\(x==("__debug__" : Str))=false
 nodup:xs.Nodup
 kinds:∀p∈names,p.2=.local\/p.2=.globalImplicit\/(p.2=.free/\t.scope.lookup p.1=some .cell/\∃i,(p.1,i)∈t.slots)
 keys:(names.map (·.1)).Nodup
theorem Cm(h:Ke t names xs=true):Ef t names xs:=by
 unfold Ke at h;simp only[Bool.and_eq_true,List.all_eq_true,decide_eq_true_eq,Bool.or_eq_true] at h;obtain⟨⟨⟨⟨h1,h2⟩,h3⟩,h4⟩,h5⟩:=h;refine⟨λx hx=>?_,h2,λp hp=>?_,h5⟩
 ·obtain⟨⟨a,b⟩,c⟩:=h1 x hx;exact⟨eq_of_beq a,by simpa using b⟩
 ·rcases h3 p hp with(a|a)|a
  ·exact .inl (eq_of_beq a)
  ·exact .inr (.inl (eq_of_beq a))
  ·refine .inr (.inr ⟨eq_of_beq a.1.1,eq_of_beq a.1.2,?_⟩);obtain⟨i,hi⟩:=Option.isSome_iff_exists.mp a.2;exact⟨i,mem_of_lookup hi⟩
theorem EW(h:(Df outer names).lookup x=some .cell)(hk:∀p∈names,p.2≠.cell):(x,NameKind.free)∈names/\outer.lookup x=some .cell:=by
 refine AE (Ya.mp (mem_of_lookup h)) λp hp e=>?_
 split at e
 ·rename_i hc;cases e
  simp only[Bool.and_eq_true] at hc;exact⟨by refine zr (eq_of_beq hc.1).symm ?_;exact hp,eq_of_beq hc.2⟩
 ·subst e;exact absurd rfl (hk _ hp)
theorem E7{xs:List Str}(h:(x,i)∈xs.zipIdx.map (λp=>(p.1,t0+p.2))):x∈xs/\t0<=i/\i<t0+xs.length/\xs[i-t0]?=some x:=by
 refine AE (Ya.mp h) λp hp e=>?_
 obtain⟨y,j⟩:=p;cases e
 obtain⟨h1,h2⟩:=List.mem_zipIdx' hp;simp only;refine⟨zr h2 (A0w h1),A1k _ _,by exact vd h1,?_⟩;exact zr (Nat.add_sub_cancel_left _ _) (zr (TW h1) (zr h2.symm rfl))
theorem B6{t:TC}(h:(x,i)∈Bz t names xs):
  (x∈xs/\t.cbase<=i/\i<t.cbase+xs.length)\/((x,i)∈t.slots/\x∉xs/\(Df t.scope names).lookup x=some .cell):=by
 rcases XP.mp h with h|h
 ·refine LL (E7 h) λh1 h2 h3 J=>?_;exact .inl ⟨h1,h2,h3⟩
 ·obtain⟨h1,h2⟩:=A0u.mp h;simp only[Bool.and_eq_true] at h2;refine .inr ⟨h1,?_,eq_of_beq h2.2⟩;simpa using h2.1
theorem I9(xs:List Str)(t0:Nat)(h:xs.Nodup):((xs.zipIdx.map (λp=>(p.1,t0+p.2))).map (·.1)).Nodup/\((xs.zipIdx.map (λp=>(p.1,t0+p.2))).map (·.2)).Nodup:=by
 refine zr A0g (zr A0g ?_);constructor
 ·have:(List.map ((λx=>x.fst)∘λp:Str×Nat=>(p.1,t0+p.2)) xs.zipIdx)=xs:=by
   simp[Function.comp_def]
  exact zr this h
 ·have:(List.map ((λx=>x.snd)∘λp:Str×Nat=>(p.1,t0+p.2)) xs.zipIdx)=(List.range' 0 xs.length).map (t0+·):=by
   refine zr (List.zipIdx_map_snd 0 xs).symm (zr A0g ?_);rfl
  rw[this,List.Nodup,pairwise_map];exact(nodup_range').imp λh q=>h (vc q)
theorem Da{α β:Type}{l:List α}{g:α->β}{p:α->Bool}(h:(l.map g).Nodup):((l.filter p).map g).Nodup:=by
 rw[List.Nodup,pairwise_map] at h ⊢;exact h.filter p
theorem C3{f:EG}(F:AL f){scope:Scope}{xs:List Str}(hk:scope.kind=.function)(ok:Ef f.t scope.names xs)(HP:Vt f.c.env scope.names cl):AL (A6 f scope xs cl C) where
 ok:={
  kind:=hk
  nodupN:=by
   show((Bz f.t scope.names xs).map (·.1)).Nodup;unfold Bz;rw[A0D,A0S];refine⟨(I9 xs _ ok.nodup).1,Da (F.names▸F.ok.nodupN),λa ha b hb e=>?_⟩;subst e;refine AE (Ya.mp ha) λp hp Av=>?_;subst Av
   refine AE (Ya.mp hb) λq hq e=>?_
   have h1:=(E7 hp).1;have h2:=(A0u.mp hq).2;simp only[Bool.and_eq_true] at h2;rw[e] at h2;have h3:p.1∉xs:=by simpa using h2.1
   exact h3 h1
  nodupI:=by
   show((Bz f.t scope.names xs).map (·.2)).Nodup;unfold Bz;rw[A0D,A0S];refine⟨(I9 xs _ ok.nodup).2,Da (F.names▸F.ok.nodupI),λa ha b hb e=>?_⟩;subst e;refine AE (Ya.mp ha) λp hp Av=>?_;subst Av
   refine AE (Ya.mp hb) λq hq e=>?_
   have h1:=(E7 hp).2.1;have h2:=F.cb q.1 q.2 (A0u.mp hq).1;exact(vb e h1 h2).elim
  kinds:=λx i hm=>by
   have BG:∀p∈scope.names,p.2≠.cell:=λp hp q=>by rcases ok.kinds p hp with h|h|h<;>simp[q] at h
   rcases B6 hm with⟨h1,_⟩|⟨h1,h2,h3⟩
   ·exact .inl (lookup_relabel_local (ok.each x h1).1)
   ·refine .inr ⟨?_,?_⟩
    ·show(relabel scope f.c.env).names.lookup x=_;exact zr (DJ F _) h3
    ·exact HP.has x (EW h3 BG).1
  debug:=λx i hm=>by
   rcases B6 hm with⟨h1,_⟩|⟨h1,h2,h3⟩
   ·exact(ok.each x h1).2
   ·exact F.ok.debug x i (F.names▸h1)
  apart:=HP.apart
  handled:=F.ok.handled
  dumNot:=F.ok.dumNot
  units:=F.ok.units
  frames:=F.ok.frames }
 scope:=DJ F scope
 names:=rfl
 mv:=F.mv
 gl:=F.gl
 bl:=F.bl
 gnd:=F.gnd
 base:=F.base
 depth:=F.depth
 units:=F.units
 cb:=λx i hm=>by
  rcases B6 hm with⟨_,_,h1⟩|⟨h1,_⟩
  ·exact h1
  ·exact A15 (F.cb x i h1) (A1k _ _)
 mvb:=λi hi=>A15 (F.mvb i hi) (A1k _ _)
theorem Kf(I:Nat->Shared->Prop)
  (turn:∀n s,I n s->wpAny Md A (pyNext it) (λr AG=>match r with
   |none=>R (.ok .next) AG
   |some v=>wpAny Md A (letOwnedTupleGo target it v) (λJ AG=>wpAny Md A (assign target env v) (λJ s₂=>
     wpAny Md A (forIn ifs true λc r=>if r=true then do let ok <-isTrue c env (eval c env);pure (ForInStep.yield ok) else pure (ForInStep.yield r)) (λok Bt=>
      if ok=true then wpAny Md A (eval elt env) (λx Jc=>
       wpAny Md A (call (.builtin "list.append") [acc,x]) (λJ Vu=>∃m,m<n/\I m Vu) (notedBy Md A env λe s'=>R (.error e) s') Jc) (notedBy Md A env λe s'=>R (.error e) s') Bt
      else ∃m,m<n/\I m Bt) (notedBy Md A env λe s'=>R (.error e) s') s₂) (notedBy Md A env λe s'=>R (.error e) s') AG) (notedBy Md A env λe s'=>R (.error e) s') AG) (notedBy Md A env λe s'=>R (.error e) s') s)
  (n:Nat) (h:I n s):
  codeAny Md A (.compLoop (.ListComp elt [⟨target,Dj,ifs,0⟩] scope pos) 0 it acc env) R s:=by
 refine codeAny_loop rfl I (λn s hI=>?_) n h;show wpAny _ A ((compTurn (.ListComp elt [⟨target,Dj,ifs,0⟩] scope pos) 0 it acc env).onRaise (λx=>do noteFrame x env;theTreesLotGoes x)) _ _ s;refine wpAny_noted ?_;rw[compTurn_list];refine Xt (A1y (Xt (mj (turn n s hI) (λr AG Bl=>?_) λJ J h'=>h')));cases r with
 |none=>exact ml Bl
 |some v=>
  refine Xt (mj Bl (λJ AG Bl=>Xt (mj Bl (λJ s₂ Jf=>Xt (mj Jf (λok Bt NC=>?_) λJ J h'=>h')) λJ J h'=>h')) λJ J h'=>h');cases ok with
  |false=>exact ml ⟨rfl,NC⟩
  |true=>
   exact Xt (Xt (mj NC (λx Jc n9=>Xt (mj n9 (λJ Vu n8=>ml (ml ⟨rfl,n8⟩)) λJ J h'=>h')) λJ J h'=>h'))
theorem Rk.Yr(it:Rk A P I tgt fp wr ds S){K:Value->Shared->Prop}
  (hG:∀v AG,G (some v) AG=wpAny Md A (letOwnedTupleGo tgt (.ref I) v) (λJ s₂=>K v s₂) E AG) (hd:ds[i]?=some d) (hS:S i s.heap)
  (hQ:∀v h' tk,S (i+1) h'->Rd h' P d v->(∀b o,b∉wr->s.heap.get? b=some o->h'.get? b=some o)->K v (up s (h') (tk))):
  wpAny Md A (pyNext (.ref I)) G E s:=
 mj (it.turn i s K E d hd hS hQ) (λr AG q=>by obtain⟨v,rfl,q⟩:=q;refine zr (hG _ _) ?_;exact q) λJ J e=>e
theorem Rk.Yt(it:Rk A P I tgt fp wr ds S){K:Shared->Prop}
  (hG:∀AG,G none AG=K AG) (hS:S ds.length s.heap) (hQ:∀h' tk,(∀b o,b∉wr->s.heap.get? b=some o->h'.get? b=some o)->K (up s (h') (tk))):
  wpAny Md A (pyNext (.ref I)) G E s:=
 mj (it.done s K E hS hQ) (λr AG q=>by obtain⟨rfl,q⟩:=q;refine zr (hG _) ?_;exact q) λJ J e=>e
theorem Gc(h:Q false s):∀(es:List Expr),
  wpAny M A (forIn es false λc r=>if r=true then do let ok <-isTrue c env (eval c env);pure (ForInStep.yield ok) else pure (ForInStep.yield r)) Q E s
 |[]=>ml h
 |e::es=>by
  refine zr (forIn_cons _ _ _ _) ?_;simp only[Bool.false_eq_true,if_false];exact Xt (ml (Gc h es))
theorem LQ(F:AL f)(h:BF f cf es l):∀{own:Addr->Option Nat}{ρ:AP}{s:Shared}{b:Bool},St f.c own ρ s->evAnd cf ρ (l.map (·.1))=.ok b ->
  (∀s',AX f.c.A s s'->Q b s') ->
  wpAny Md f.c.A (forIn es true λc r=>if r=true then do let ok <-isTrue c f.c.env (eval c f.c.env);pure (ForInStep.yield ok) else pure (ForInStep.yield r)) Q E s:=by
 induction h with
 |nil=>exact λx he hQ=>ml (Lc he▸hQ _ (AX.refl _))
 |@cons e p k es l _ h1 h2 ih=>
  intro own ρ s b x he hQ;refine AE (Oh he) λt e1 he=>?_
  refine zr (forIn_cons _ _ _ _) ?_;refine Xt (Xt (h1.at F x e1 λAG g1 x1=>ml ?_));cases t with
  |true=>exact ih x1 he λs' g2=>hQ s' (g1.trans g2)
  |false=>exact Gc (Lc he▸hQ AG g1) es
inductive Jb(A:Around)(C D:Addr)(wr:List Addr)(s s':Shared):Prop where
 |mk (h':Heap) (tk:Nat) (e:s'=(up s (h') (tk))) (k:∀b o,s.heap.get? b=some o->b≠C->b≠D->b∉wr->(b∉frs A->h'.get? b=some o)/\∃sl,h'.get? b=some { o with slots:=sl })
theorem Jb.refl:Jb A C D wr s s:=⟨s.heap,s.toks,rfl,λb o h J J J=>⟨λJ=>h,o.slots,h⟩⟩
theorem Jb.trans(x:Jb A C D wr s s')(y:Jb A C D wr s' M8):Jb A C D wr s M8:=by
 obtain⟨h1,t1,rfl,k1⟩:=x;obtain⟨h2,t2,rfl,k2⟩:=y;refine⟨h2,t2,rfl,λb o hb h3 h4 h5=>?_⟩;obtain⟨a1,sl,a2⟩:=k1 b o hb h3 h4 h5;refine⟨λhf=>(k2 b o (a1 hf) h3 h4 h5).1 hf,?_⟩;obtain⟨_,Yd,a3⟩:=k2 b _ a2 h3 h4 h5;exact⟨Yd,a3⟩
theorem Jb.plain(k:∀b o,b≠C->b≠D->b∉wr->s.heap.get? b=some o->h'.get? b=some o):Jb A C D wr s (up s (h') (tk)):=
 ⟨h',tk,rfl,λb o hb h3 h4 h5=>⟨λJ=>k b o h3 h4 h5 hb,o.slots,k b o h3 h4 h5 hb⟩⟩
theorem Jb.grow(g:AX A s s'):Jb A C D wr s s':=by
 obtain⟨h',tk,rfl,k⟩:=g;exact⟨h',tk,rfl,λb o hb J J J=>k b o hb⟩
inductive yU(f:EG)(cf:Nat->List PV->Res PV)(own:Addr->Option Nat)(a:PE)(cs:List (PE×Cl))(tg:Py)(ds Rm:List PV)(S:Nat->Heap->Prop)(D:Addr)(wr:List Addr)(s:Shared)(n:Nat)(s':Shared):Prop where
 |mk (i:Nat) (ρ':AP) (acc rest:List PV) (vs:Array Value) (e:n=ds.length+1-i) (hi:i<=ds.length) (ha:acc.length<=i) (x:St f.c own ρ' s') (hS:S i s'.heap) (hl:SeqAt s'.heap "list" D vs) (hr:Rds s'.heap (Fz f.c own) acc vs.toList)
  (hg:A8 (λρ'=>ev cf ρ' a) (λρ'=>evAnd cf ρ' (cs.map (·.1))) tg (ds.drop i) ρ'=.ok rest) (ht:Rm=acc++rest) (hc:Jb f.c.A f.c.env.locals D wr s s')
theorem RT(F:AL f){elt target Dj:Expr}
  (HO:AW f cf elt a k) (hk:k.inner=true) (Ru:BF f cf ifs cs) (ht:Ee f.c (λb=>b=f.c.env.locals) target tg) (hD:own D=some EU) (hDh:f.c.h0.get? D=none) (Rw:D≠f.c.env.locals)
 {I:Addr} {fp wr:List Addr} {ds:List PV} {S:Nat->Heap->Prop} (it:Rk f.c.A P I target fp wr ds S) (hP:∀a,P a->Fz f.c own a) (NK:∀b∈fp,b∉frs f.c.A/\b≠f.c.env.locals/\b≠D) (I5:∀b∈wr,f.c.h0.get? b=none/\own b=none)
  (NH:ds.length<=Ab) {Rm:List PV} {R:Result->Shared->Prop} (x0:St f.c own ρ s) (hS:S 0 s.heap) {ma:Array Value} (hl0:SeqAt s.heap "list" D ma) (dg:ma.toList=[])
  (fK:A8 (λρ'=>ev cf ρ' a) (λρ'=>evAnd cf ρ' (cs.map (·.1))) tg ds ρ=.ok Rm)
  (hR:∀s' DQ,(∃m,s'.heap.Ns f.c.env.locals m)->SeqAt s'.heap "list" D DQ->Rds s'.heap (Fz f.c own) Rm DQ.toList->Rm.length<=ds.length->Jb f.c.A f.c.env.locals D wr s s'->R (.ok .next) s'):
  codeAny Md f.c.A (.compLoop (.ListComp elt [⟨target,Dj,ifs,0⟩] scope pos) 0 (.ref I) (.ref D) f.c.env) R s:=by
 refine Kf (yU f cf own a cs tg ds Rm S D wr s) ?_ (ds.length+1)
  ⟨0,ρ,[],Rm,ma,rfl,A1x _,A0I _,x0,hS,hl0,dg,by simpa using fK,rfl,.refl⟩
 rintro n s1 ⟨i,ρ1,acc,rest,vs,rfl,hi,mE,x1,Rv,Kt,nM,DT,rfl,fV⟩;have Yk:=it.live i s1.heap Rv;have fc:D∉wr:=λhm=>(NK D (it.sub D hm)).2.2 rfl
 have loose:Loose f.c own s1 (λb=>b∈wr):=λb hb=>by
  refine Gr ((it.rec_ i s1.heap Rv) b hb) λo vs ho hd=>?_
  exact⟨(I5 b hb).1,o,ho,.inl ⟨vs,hd⟩⟩
 rcases Nat.lt_or_ge i ds.length with hlt|nq
 ·have hd:=TW hlt;rw[drop_eq_getElem_cons hlt] at DT;generalize ds[i]=d at hd DT;simp only[A8] at DT;refine it.Yr (λJ J=>rfl) hd Rv ?_;intro v h2 VW mH Zy Ku;have x2:St f.c own ρ1 (up s1 (h2) (VW)):=x1.change F.ok loose (λb hb ho=>absurd (I5 b hb).2 ho) λb o hb=>Ku b o hb
  refine AE (AD DT) λdc e3 DT=>?_
  refine GK (λb hb=>.inl hb) F.ok F.ok.handled ht x2 (Rd.imp (λa J J J p=>hP a p) d Zy) e3 λs3 x3 st3=>?_
  refine AE (AD DT) λb e4 DT=>?_
  have c3:Jb f.c.A f.c.env.locals D wr s1 s3:=by
   obtain⟨h',tk,rfl,k⟩:=st3;exact(.plain λb o J J hb=>Ku b o hb:Jb f.c.A f.c.env.locals D wr s1 (up s1 (h2) (VW))).trans (Jb.plain λb o hb J J ho=>k b o ho hb)
  have mG:S (i+1) s3.heap:=it.frame _ _ _ mH (λb hb o ho=>by
   obtain⟨h',tk,rfl,k⟩:=st3;exact k b o ho (NK b hb).2.1) (st3.kp x2 (λb hb=>.inl hb) λa p=>Aq (hP a p))
  have hl3:SeqAt s3.heap "list" D vs:=(Kt.to λo n ho J J=>Ku D o fc ho).to λo n ho J J=>by
   obtain⟨h',tk,rfl,k⟩:=st3;exact k D o ho Rw
  have hr3:Rds s3.heap (Fz f.c own) acc vs.toList:=Rds.to (st3.kp x2 (λb hb=>.inl hb) λa p=>Aq p) acc (Rds.to (loose.kp Ku λa h=>Aq h) acc nM);have R5:∀{sa sb:Shared},St f.c own dc sa->AX f.c.A sa sb->S (i+1) sa.heap->SeqAt sa.heap "list" D vs->Rds sa.heap (Fz f.c own) acc vs.toList ->
    S (i+1) sb.heap/\SeqAt sb.heap "list" D vs/\Rds sb.heap (Fz f.c own) acc vs.toList:=λ{sa sb}xa g a1 a2 a3=>by
   refine⟨it.frame _ _ _ a1 (λb hb o ho=>(g.h b o ho).1 (NK b hb).1) (λb o ho hm=>?_),?_,Rds.to (xa.kp (λa h=>Aq h) g.h:Kp (Fz f.c own) sa.heap sb.heap) acc a3⟩
   ·exact xa.kp (λa h=>Aq (hP a h)) g.h b o ho hm
   ·exact a2.to λo n ho J hq=>(g.h D o ho).1 λhf=>by
     obtain⟨_,m,o',es,ep,Ah,Au,_⟩:=xa.fr D hf;rw[ho] at Ah;cases Ah;rw[hq] at Au;cases Au
  refine LQ F Ru x3 e4 λs4 g4=>?_
  have x4:=x3.grow F.ok g4;refine DI (R5 x3 g4 mG hl3 hr3) λzQ z9 z4=>?_
  have c4:=c3.trans (Jb.grow g4);cases b with
  |false=>
   simp only[Bool.false_eq_true,if_false] at DT ⊢;exact⟨ds.length+1-(i+1),by exact bU hi,i+1,dc,acc,rest,vs,rfl,hlt,by exact o53 mE,x4,zQ,z9,z4,DT,rfl,fV.trans c4⟩
  |true=>
   simp only[if_true] at DT ⊢;refine AE (AD DT) λy e5 DT=>?_
   refine AE (AD DT) λxs hq DT=>?_
   refine At DT ?_;refine HO.at F x4 e5 λv5 s5 g5 x5 r5=>?_
   refine DI (R5 x4 g5 zQ z9 z4) λhS5 hl5 yz=>?_
   obtain⟨n5,fF⟩:=id hl5;have EF:vs.size<=sizeLine:=by
    have:=yz.length;rw[yc] at this;exact mu (vZ NH hi mE this:vs.size<=Ab) (by decide)
   refine wpAny_list_append_plain ⟨n5,fF⟩ (λh6 hl6 eV=>?_) EF;obtain⟨n6,fE⟩:=id hl6;have looseD:Loose f.c own s5 (λb=>b=D):=λb hb=>by subst hb;exact⟨hDh,_,fF,.inr (.inl ⟨hD,_,_,rfl,rfl⟩)⟩
   have kD:∀b o,¬b=D->s5.heap.get? b=some o->h6.get? b=some o:=λb o hb ho=>(eV.2 b hb).trans ho
   have yh:Kp (Fz f.c own) s5.heap h6:=looseD.kp kD λa h=>Aq h
   refine⟨ds.length+1-(i+1),by exact bU hi,i+1,dc,acc++[y],xs,vs.push v5,rfl,hlt,by simp;exact ut mE,(x5.change F.ok looseD (λb hb J=>⟨_,by subst hb;exact fE⟩) kD:St f.c own dc (up s5 (h6) (s5.toks))),?_,⟨n6,fE⟩,?_,hq,by simp,?_⟩
   ·exact it.frame _ _ _ hS5 (λb hb o ho=>kD b o (NK b hb).2.2 ho) (λb o ho hm=>looseD.kp kD (λa h=>Aq (hP a h)) b o ho hm)
   ·exact zr Array.toList_push (Rds.append (Rds.to yh acc yz) (Rds.one (Rd.to yh y (r5.rd x4 hk))))
   ·exact fV.trans (c4.trans ((Jb.grow g5).trans (Jb.plain λb o J hb J ho=>kD b o hb ho)))
 ·have M0:=kJ hi nq;subst M0;rw[drop_length] at DT;simp only[A8] at DT;cases DT
  refine it.Yt (λJ=>rfl) Rv λh2 VW Ku=>?_
  have x2:St f.c own ρ1 (up s1 (h2) (VW)):=x1.change F.ok loose (λb hb ho=>absurd (I5 b hb).2 ho) λb o hb=>Ku b o hb
  rw[A0k] at hR;exact hR _ vs x2.loc.2 (Kt.to λo n ho J J=>Ku D o fc ho) (Rds.to (loose.kp Ku λa h=>Aq h) acc nM) (ut mE) (fV.trans (.plain λb o J J hb=>Ku b o hb))
theorem YC:∀{t:Py}{ρ:AP}{j:Nat}{d:PV},(Pq t ρ)[j]?=some (some d)->ρ[j]?=some (some d)/\(match t with|.one i=>j≠i|.many is=>j∉is):=by
 intro t ρ j d h;have one:∀{ρ:AP}{i:Nat},(ρ.set i none)[j]?=some (some d)->ρ[j]?=some (some d)/\j≠i:=λ{ρ i}h=>by
  rw[List.getElem?_set] at h;split at h
  ·split at h<;>cases h
  ·rename_i q;exact⟨h,λz=>q z.symm⟩
 cases t with
 |one i=>exact one h
 |many is=>
  simp only[Pq] at h ⊢
  induction is generalizing ρ with
  |nil=>exact⟨h,by simp⟩
  |cons i is ih=>
   simp only[foldl_cons] at h;obtain⟨h1,h2⟩:=ih h;obtain⟨h3,h4⟩:=one h1;exact⟨h3,by simp[h2,h4]⟩
noncomputable def Bf(t:TC)(one:Bool)(xs:List Str):Py:=if one then .one t.cbase else .many ((List.range xs.length).map (t.cbase+·))
theorem Mp:∀(ps:List (Str×Pos))(k:Nat),(∀j p,ps[j]?=some p->(p.1,b+(k+j))∈c.names/\b+(k+j)∉c.mv/\∀a,Dy c p.1 a->N a)->F7 c N ps ((List.range' k ps.length).map (b+·)):=by
 intro ps;induction ps with
 |nil=>exact λk _=>trivial
 |cons p ps ih=>
  intro k h;refine⟨h 0 p rfl,?_⟩;refine ih (k+1) λj q hq=>?_
  have:=h (j+1) q (by simpa using hq)
  rwa [show k+(j+1)=k+1+j by exact vW] at this
theorem U7(F:AL f)(ok:Ef f.t scope.names xs)(h:VR target one xs):
  Ee (A6 f scope xs cl C).c (λb=>b=C) target (Bf f.t one xs):=by
 have base:∀j x,xs[j]?=some x->(x,f.t.cbase+j)∈Bz f.t scope.names xs/\f.t.cbase+j∉f.c.mv/\∀a,Dy (A6 f scope xs cl C).c x a->a=C:=λj x hx=>by
  refine⟨?_,λhm=>?_,λa ha=>?_⟩
  ·refine XP.mpr (.inl (Ya.mpr ⟨(x,j),?_,rfl⟩));obtain⟨h1,h2⟩:=fR.mp hx;rw[A1h];simpa using hx
  ·exact(vY (F.mvb _ (F.mv▸hm))).elim
  ·rcases ha with⟨_,e⟩|⟨e,_⟩
   ·exact e
   ·have h1:(A6 f scope xs cl C).c.env.kindOf x=some .local:=lookup_relabel_local (ok.each x (A0C hx)).1;rw[h1] at e;cases e
 cases h with
 |one=>
  have:=base 0 _ rfl;exact .one this.1 this.2.1 this.2.2
 |many h=>
  subst h;unfold Bf;rw[Yf (by simp),A1W,KK];refine .many (Mp _ 0 λj p hp=>?_);exact zr (A1v _) (base j p.1 (by simp[hp]))
theorem MX(h:VR target one xs)(hj:t.cbase<=j)(nh:j<t.cbase+xs.length):¬(match Bf t one xs with|.one i=>j≠i|.many is=>j∉is):=by
 cases h with
 |one=>simp[Bf];simp at nh;exact o54 hj nh
 |many h=>
  simp only[Bf,Bool.false_eq_true,if_false,List.mem_map,List.mem_range];exact λq=>q ⟨j-t.cbase,by exact vV hj nh,by exact o21 hj⟩
theorem YB(F:AL f)(Rn:VR target one xs)(ok:Ef f.t scope.names xs)(HP:Vt f.c.env scope.names cl)(x:St f.c own ρ s)
 {tk:Nat} (hk:∀b o,s.heap.get? b=some o->h'.get? b=some o) (hC:s.heap.get? C=none) (hD:s.heap.get? D=none) {m:Str->Option Value} (hn:h'.Ns C m) (mI:∃o,h'.get? D=some o):
  St (A6 f scope xs cl C).c (λa=>if a=C\/a=D then some EU else own a) (Pq (Bf f.t one xs) ρ) (up s (h') (tk)):=by
 have up:∀a i,own a=some i->(if a=C\/a=D then some EU else own a)=some i\/s.heap.get? a=none:=λa i h=>by
  by_cases e:a=C\/a=D
  ·right;rcases e with rfl|rfl<;>assumption
  ·left;exact zr (Yf e) h
 have down:∀{a o},s.heap.get? a=some o->¬(a=C\/a=D):=λ{a o}h q=>by rcases q with rfl|rfl<;>simp_all
 refine⟨λb o hb=>?_,λa ha=>?_,⟨?_,m,hn⟩,x.BS hC,λn a h=>?_,λn a h=>?_,λa h=>?_,λa i h hi=>?_,λy i d hm hd=>?_⟩
 ·obtain⟨h1,sl,h2⟩:=x.base b o hb;exact⟨λhf=>hk _ _ (h1 hf),sl,hk _ _ h2⟩
 ·obtain⟨h1,m',o,es,ep,ho,r⟩:=x.fr a ha;exact⟨by refine zr (Yf (down ho)) ?_;exact h1,m',o,es,ep,hk _ _ ho,r⟩
 ·show(if C=C\/C=D then some EU else own C)=some EU;simp
 ·obtain⟨v,o,ho,hd⟩:=x.cell n a (HP.to n a h);exact⟨v,o,hk _ _ ho,hd⟩
 ·exact x.cellNew n a (HP.to n a h)
 ·by_cases e:a=C\/a=D
  ·rcases e with rfl|rfl
   ·obtain⟨o,_,_,ho,_⟩:=hn;exact⟨o,ho⟩
   ·exact mI
  ·rw[Yf e] at h;obtain⟨o,ho⟩:=x.ownIn a h;exact⟨o,hk _ _ ho⟩
 ·split at h
  ·cases h;exact absurd hi F.ok.dumNot
  ·exact x.ownNew a i h hi
 ·obtain⟨Vb,Va⟩:=YC hd;rcases B6 hm with⟨_,h1,h2⟩|⟨h1,h2,h3⟩
  ·exact absurd Va (MX Rn h1 h2)
  ·refine AE (x.vars y i d (F.names▸h1) Vb) λv hv hr=>?_
   have BG:∀p∈scope.names,p.2≠.cell:=λp hp q=>by rcases ok.kinds p hp with h|h|h<;>simp[q] at h
   obtain⟨h4,h5⟩:=EW h3 BG;have hko:f.c.env.kindOf y=some .cell:=by show f.c.env.scope.names.lookup y=_;exact zr F.scope h5
   refine⟨v,?_,?_⟩
   ·rcases hv with⟨k1,_⟩|⟨k1,a,hl,o,ho,hq⟩
    ·rw[hko] at k1;cases k1
    ·obtain⟨a',aF⟩:=HP.has y h4;have:=HP.to y a' aF;rw[hl] at this;cases this
     refine .inr ?_ a aF ⟨o,hk _ _ ho,hq⟩;show(relabel scope f.c.env).names.lookup y=_;exact zr (DJ F _) h3
   ·have kp:∀{P:Addr->Prop},Kp P s.heap h':=λb o ho J=>hk b o ho
    unfold DB at hr ⊢;split at hr
    ·rename_i hi;refine zr (XL (show i∈(A6 f scope xs cl C).c.mv from hi)) ?_;refine CV.to kp kp (CV.imp (λa o ho J p=>?_) (λa o ho J p=>⟨p.1,?_⟩) hr)
     ·simp only[if_neg (down ho)];exact p
     ·simp only[if_neg (down ho)];exact p.2
    ·rename_i hi;refine zr (Yf (show i∉(A6 f scope xs cl C).c.mv from hi)) ?_;refine Rd.to kp d (Rd.imp (λa o ho J p=>⟨p.1,?_⟩) d hr);simp only[if_neg (down ho)];exact p.2
theorem OZ(F:AL f)(Rq:scope.kind=.function)(Rn:VR target one xs)(ok:Ef f.t scope.names xs)(HP:Vt f.c.env scope.names cl)
  {a:PE} {k:Cl} {cs:List (PE×Cl)} (hk:k.inner=true) (HO:∀C,AW (A6 f scope xs cl C) cf elt a k) (Ru:∀C,BF (A6 f scope xs cl C) cf ifs cs)
  (x:St f.c own ρ s) {I:Addr} {fp wr:List Addr} {ds:List PV} {S:Nat->Heap->Prop} (it:Rk f.c.A (λa=>Fz f.c own a/\∃o,s.heap.get? a=some o) I target fp wr ds S) (hS:S 0 s.heap) (NH:ds.length<=Ab)
  (NK:∀b∈fp,b∉frs f.c.A/\b≠f.c.env.locals) (I5:∀b∈wr,f.c.h0.get? b=none/\own b=none) {Rm:List PV}
  (fK:A8 (λρ'=>ev cf ρ' a) (λρ'=>evAnd cf ρ' (cs.map (·.1))) (Bf f.t one xs) ds (Pq (Bf f.t one xs) ρ)=.ok Rm) {E:Value->Shared->Prop} {RR:Value->Addr->Result->Shared->Prop}
  (hR:∀C D s' DQ,s.heap.get? C=none->s.heap.get? D=none->D≠C->(∃m,s'.heap.Ns C m)->SeqAt s'.heap "list" D DQ->Rds s'.heap (λb=>Fz f.c own b/\b≠C/\b≠D) Rm DQ.toList->Rm.length<=Ab->Jb f.c.A C D wr s s'->RR (.ref D) C (.ok .next) s'):
  wpAny Md f.c.A (newList []) (λacc Bt=>wpAny Md f.c.A (newFunctionEnv scope f.c.env.globals cl [] f.c.env.qual none .none (some f.c.env)) (λfo Jc=>
   codeAny Md f.c.A (.compStart (.ListComp elt [⟨target,Dj,ifs,0⟩] scope pos) 0 (.ref I) acc { fo with scope:=relabel scope f.c.env }) (RR acc fo.locals) Jc) E Bt) E s:=by
 have LG:∀y∈scope.names,y.2≠.cell:=λp hp q=>by rcases ok.kinds p hp with h|h|h<;>simp[q] at h
 refine wpAny_newObj_type (wpAny_newFunctionEnv LG (by intro y hy;simp at hy) (λBl NG Jg=>?_) Rq);dsimp only at NG Jg ⊢;generalize oW:s.heap.push { cls:=.type "list",dict:=none,data:=.seq ([]:List Value).toArray }=H2 at NG Jg ⊢;have hC:H2.objs.size=s.heap.objs.size+1:=by rw[<-oW,Heap.size_push]
 have Rw:s.heap.objs.size≠H2.objs.size:=by exact zr hC (A1D (lt_succ_self _))
 have below:∀b,b<s.heap.objs.size->b≠H2.objs.size/\b≠s.heap.objs.size:=λb hb=>⟨by refine zr hC ?_;exact A1D (lt_succ_of_lt hb),A1D hb⟩
 have old:∀b o,s.heap.get? b=some o->Bl.get? b=some o:=λb o e=>Jg.extBut b o (below b (A0m e)).1 (mi _ (oW▸mi _ e))
 have fZ:SeqAt Bl "list" s.heap.objs.size #[]:=⟨0,Jg.extBut _ _ Rw (mi _ (oW▸A0L _ rfl))⟩;have fresh:∀a,s.heap.objs.size<=a->s.heap.get? a=none:=λa ha=>by
  cases e:s.heap.get? a with
  |none=>rfl
  |some o'=>exact absurd (A0m e) (Nat.not_lt.mpr ha)
 have newD:=fresh s.heap.objs.size (A0I _);have Zq:=fresh H2.objs.size (zr hC (le_succ _));generalize H2.objs.size=C at *;generalize s.heap.objs.size=D at *;have Rv:S 0 Bl:=it.frame _ _ _ hS (λb J o e=>old b o e) λb o e J=>old b o e
 have ye:∀b∈fp,b≠C/\b≠D:=λb hb=>by
  refine AE ((it.live 0 s.heap hS) b hb) λo ho J=>?_
  exact⟨λe=>by(rw[e,Zq] at ho;cases ho),λe=>by(rw[e,newD] at ho;cases ho)⟩
 have loop:∀Bt:Shared,Bt={ s with heap:=Bl,toks:=s.toks+([]:List (Str×Value)).length } ->
   codeAny Md f.c.A (.compLoop (.ListComp elt [⟨target,Dj,ifs,0⟩] scope pos) 0 (.ref I) (.ref D) (compEnvC scope cl C f.c.env)) (RR (.ref D) C) Bt:=by
  rintro Bt rfl;refine RT (f:=A6 f scope xs cl C) (D:=D) (C3 F (C:=C) Rq ok HP) (HO C) hk (Ru C) (U7 F ok Rn) (by simp) (x.BS newD) Rw it (λa p=>⟨p.1.1,?_⟩) (λb hb=>⟨(NK b hb).1,ye b hb⟩) (λb hb=>⟨(I5 b hb).1,?_⟩) NH (YB F (C:=C) (tk:=s.toks+([]:List (Str×Value)).length) Rn ok HP x old Zq newD NG (let ⟨n,q⟩:=fZ;⟨_,q⟩)) Rv fZ rfl fK λs' DQ FQ hl hr hlen oM=>?_
  ·obtain⟨o,ho⟩:=p.2;have:¬(a=C\/a=D):=λq=>by rcases q with rfl|rfl<;>simp_all
   simp only[if_neg this];exact p.1.2
  ·have:=ye b (it.sub b hb);simp only[if_neg (not_or.mpr this)];exact(I5 b hb).2
  ·refine hR C D s' DQ Zq newD Rw FQ hl (Rds.imp (λb o ho J p=>?_) Rm hr) (mu hlen NH) ?_
   ·have:¬(b=C\/b=D):=λq=>by have:=p.2;simp only[if_pos q] at this;cases this
    refine⟨⟨p.1,?_⟩,λe=>this (.inl e),λe=>this (.inr e)⟩;have:=p.2;simp only[if_neg ‹¬(b=C\/b=D)›] at this;exact this
   ·exact(Jb.plain λb o J J J ho=>old b o ho).trans oM
 exact codeAny_compStart_list (loop _ rfl) (it.self 0 _ _ _ Rv (loop _ rfl))
theorem P8.imp(x:P8 P a o)(k:P a->P' a):P8 P' a o:=by
 rcases x with⟨vs,n,h1,h2⟩|⟨es,n,h1,h2⟩|⟨h1,h2⟩
 ·exact .inl ⟨vs,n,h1,h2.imp id λh=>⟨k h.1,h.2⟩⟩
 ·exact .inr (.inl ⟨es,n,h1,k h2⟩)
 ·exact .inr (.inr ⟨h1,k h2⟩)
theorem St.claim(ok:Ex c)(x:St c own ρ s)(g:AX c.A s s')(hs:∀a o,s.heap.get? a=some o->own' a=own a)(hin:∀a,own' a≠none->∃o,s'.heap.get? a=some o):St c own' ρ s' where
 base:=x.base.trans g.h
 fr:=λa ha=>by
  obtain⟨h1,m,hm⟩:=x.fr a ha;obtain⟨o,_,_,ho,_⟩:=id hm;exact⟨(hs a o ho).trans h1,m,g.h.ns hm⟩
 loc:=by
  obtain⟨h1,m,hm⟩:=x.loc;obtain⟨o,_,_,ho,_⟩:=id hm;exact⟨(hs _ o ho).trans h1,m,g.h.ns hm⟩
 locNew:=x.locNew
 cell:=λn a h=>let ⟨v,hv⟩:=x.cell n a h;⟨v,g.h.cell hv⟩
 cellNew:=x.cellNew
 ownIn:=hin
 ownNew:=λa i h hi=>by
  cases q:s.heap.get? a with
  |none=>exact x.BS q
  |some o=>exact x.ownNew a i ((hs a o q).symm.trans h) hi
 vars:=λy i d hm hd=>by
  refine AE (x.vars y i d hm hd) λv hv hr=>?_
  refine⟨v,hv.grow g.h,?_⟩;have h2:=hr.kp (x.kp (λa h=>Aq h) g.h) λhi=>x.kp (λa h e=>by rw[h] at e;cases e;exact ok.dumNot hi) g.h
  unfold DB at hr h2 ⊢;split
  ·rename_i hi;rw[XL hi] at hr;refine CV.to (λa o ho hm=>?_) (λa o ho hm=>?_) (CV.imp (λa o ho J p=>(hs a o ho).trans p) (λa o ho J p=>⟨p.1,(hs a o ho).trans p.2⟩) hr)
   ·refine x.kp (P:=Fz c own) (λa h=>Aq h) g.h a o ho ?_;exact hm.imp λh=>⟨h.1,(hs a o ho).symm.trans h.2⟩
   ·refine x.kp (P:=λa=>own a=some i) (λa h e=>by rw[h] at e;cases e;exact ok.dumNot hi) g.h a o ho ?_;exact hm.imp λh=>(hs a o ho).symm.trans h
  ·rename_i hi;rw[Yf hi] at hr;refine Rd.to (λa o ho hm=>?_) d (Rd.imp (λa o ho J p=>⟨p.1,(hs a o ho).trans p.2⟩) d hr);refine x.kp (P:=Fz c own) (λa h=>Aq h) g.h a o ho ?_;exact hm.imp λh=>⟨h.1,(hs a o ho).symm.trans h.2⟩
theorem Pp(he:ev cf ρ (.comp a tg kk src cs)=.ok d):∃ds l,(evs cf ρ src).bind (items kk)=.ok ds/\A8 (λρ'=>ev cf ρ' a) (λρ'=>evAnd cf ρ' cs) tg ds (Pq tg ρ)=.ok l/\d=.list l:=by
 refine AE (AD (j2.symm.trans he)) λxs h1 he=>?_
 refine AE (AD he) λds h2 he=>?_
 refine AE (AD he) λl h3 he=>⟨ds,l,zr h1 h2,h3,?_⟩
 exact(Lc (Bb he).2).symm
theorem MV(F:AL f)(Rq:scope.kind=.function)(Rn:VR target one xs)(ok:Ef f.t scope.names xs)
 (hk:k.inner=true) (HO:∀cl C,Vt f.c.env scope.names cl->AW (A6 f scope xs cl C) cf elt a k) (Ru:∀cl C,Vt f.c.env scope.names cl->BF (A6 f scope xs cl C) cf ifs cs)
  (F8:Kk f cf (!one) Dj kk src zd) (x:St f.c own ρ s) (h1:(evs cf ρ src).bind (items kk)=.ok ds) (h2:A8 (λρ'=>ev cf ρ' a) (λρ'=>evAnd cf ρ' (cs.map (·.1))) (Bf f.t one xs) ds (Pq (Bf f.t one xs) ρ)=.ok l)
  (hQ:∀C D s' vs,s.heap.get? C=none->s.heap.get? D=none->D≠C->(∃m,s'.heap.Ns C m)->SeqAt s'.heap "list" D vs->l.length<=Ab ->
   Rds s'.heap (λb=>Fz f.c own b/\b≠C/\b≠D) l vs.toList->AX f.c.A s s'->St f.c own ρ s'->compPost Md f.c.A E use Q (.ref D) C (.ok .next) s'):
  wpAny Md f.c.A (comprehension (.ListComp elt [⟨target,Dj,ifs,0⟩] scope pos) scope f.c.env p0 (newList []) false (eval Dj f.c.env) use) Q E s:=by
 have Ym:∀p∈scope.names,p.2=.free->∃a,f.c.env.cells.lookup p.1=some a:=λp hp hq=>by
  rcases ok.kinds p hp with h|h|⟨_,h,i,hi⟩
  ·rw[hq] at h;cases h
  ·rw[hq] at h;cases h
  ·rcases F.ok.kinds p.1 i (F.names▸hi) with h1|h1
   ·have:f.c.env.kindOf p.1=some .cell:=by show f.c.env.scope.names.lookup p.1=_;exact zr F.scope h
    rw[this] at h1;cases h1
   ·exact h1.2
 have SK:=d8 ok.keys F.ok.apart Ym;have ht:Ey target=true:=by cases Rn<;>rfl
 have LA:(!one)=true->∃elts k pos,target=.Tuple elts k pos:=λh=>by
  cases Rn with
  |one=>cases h
  |many _=>exact⟨_,_,_,rfl⟩
 refine wpAny_comprehension_free rfl (F8.1 f.c.env) (dA Ym) Rq (λy hy hl=>DL ok.keys (zr hl.symm hy)) ?_;refine mj (F8.2 LA ht x h1) (λxv AG q=>mj q (λit s₂ q=>?_) λJ J q=>q.elim) λJ J q=>q.elim
 obtain⟨I,fp,wr,S,rfl,itr,oV,g,I5,_,NH,NK⟩:=q;refine OZ F Rq Rn ok SK hk (λC=>HO _ C SK) (λC=>Ru _ C SK) (x.grow F.ok g) itr oV NH NK (λb hb=>⟨x.BS (I5 b hb),x.Co (I5 b hb)⟩) h2 λC D s' DQ hC hD Rw FQ hl hr hlen oM=>?_
 have g2:AX f.c.A s s':=by
  obtain⟨h1,t1,rfl,k1⟩:=g;obtain⟨h2,t2,rfl,k2⟩:=oM;refine⟨h2,t2,rfl,λb o hb=>?_⟩;obtain⟨a1,sl,a2⟩:=k1 b o hb;have fY:b≠C:=λe=>by rw[e] at hb;rw[Ap.none k1 (show h1.get? C=none from hC)] at hb;cases hb
  have zM:b≠D:=λe=>by rw[e] at hb;rw[Ap.none k1 (show h1.get? D=none from hD)] at hb;cases hb
  have zK:b∉wr:=λe=>by rw[I5 b e] at hb;cases hb
  obtain⟨_,Yd,a3⟩:=k2 b _ a2 fY zM zK;exact⟨λhf=>(k2 b _ (a1 hf) fY zM zK).1 hf,Yd,a3⟩
 exact hQ C D s' DQ (g.h.none hC) (g.h.none hD) Rw FQ hl hlen hr g2 (x.grow F.ok g2)
theorem OY(F:AL f)(Rq:scope.kind=.function)(Rn:VR target one xs)(ok:Ef f.t scope.names xs)
 (hk:k.inner=true) (HO:∀cl C,Vt f.c.env scope.names cl->AW (A6 f scope xs cl C) cf elt a k) (Ru:∀cl C,Vt f.c.env scope.names cl->BF (A6 f scope xs cl C) cf ifs cs)
  (F8:Kk f cf (!one) Dj kk src zd):
  AW f cf (.ListComp elt [⟨target,Dj,ifs,0⟩] scope pos) (.comp a (Bf f.t one xs) kk src (cs.map (·.1))) .fresh:=by
 intro own ρ s d x he;refine Gq (Pp he) λds l h1 h2 r=>?_;subst r
 refine zr (eval_ListComp _ _ _ _) ?_;refine MV F Rq Rn ok hk HO Ru F8 x h1 h2 λC D s' vs hC hD Rw FQ hl hlen hr g x'=>?_
 obtain⟨m,hm⟩:=FQ;refine⟨m,hm,λh' hs=>⟨?_,?_⟩⟩
 ·obtain⟨h1,t1,rfl,k1⟩:=g;refine⟨h',t1,rfl,λb o hb=>?_⟩;have fY:b≠C:=λe=>by rw[e,hC] at hb;cases hb
  obtain⟨a1,sl,a2⟩:=k1 b o hb;exact⟨λhf=>(hs.2 b fY).trans (a1 hf),sl,(hs.2 b fY).trans a2⟩
 ·obtain⟨o,es,ep,ho,hd,_⟩:=hm;have kp:Kp (λb=>Fz f.c own b/\b≠C/\b≠D) s'.heap h':=λb o' Ah Ks=>by
   have:b≠C:=λe=>by
    rw[e,ho] at Ah;cases Ah
    rcases Ks with⟨_,_,Au,_⟩|⟨_,_,_,hp⟩|⟨_,hp⟩
    ·rw[hd] at Au;cases Au
    ·exact hp.2.1 e
    ·exact hp.2.1 e
   exact(hs.2 b this).trans Ah
  exact⟨D,vs,rfl,hD,hl.to (λo n ho J J=>(hs.2 D Rw).trans ho),hlen,Rds.imp (λb o ho J p=>⟨p.1,λq=>by injection q with q;exact p.2.2 q.symm⟩) l (Rds.to kp l hr)⟩
theorem UM(F:AL f)(hc:EE f cf c pc)(ha:EE f cf a pa)(hb:EE f cf b pb):EE f cf (.IfExp c a b pos) (.ite pc pa pb):=by
 intro own ρ s r x he;show wpAny _ _ (do if <-isTrue c f.c.env (eval c f.c.env) then isTrue a f.c.env (eval a f.c.env) else isTrue b f.c.env (eval b f.c.env)) _ _ s;refine AE (AD (Sl.symm.trans he)) λd e1 he=>?_
 cases d with
 |bool t=>
  refine Xt (hc.at F x e1 λAG g1 x1=>?_);cases t with
  |true=>exact mj (ha own ρ AG r x1 he) (λb s' q=>⟨q.1,g1.trans q.2⟩) λJ J q=>q.elim
  |false=>exact mj (hb own ρ AG r x1 he) (λb s' q=>⟨q.1,g1.trans q.2⟩) λJ J q=>q.elim
 |_=>exact Res.no he
section
set_option backward.eqns.nonrecursive false
def mY(t:TC)(P:(cf:Nat->List PV->Res PV)->EG->Prop):Prop:=
 ∀cf f,AL f->f.t=t->CF f.B f.fa f.t.G cf f.D->P cf f
def Ok(t:TC)(e:Expr)(p:PE)(k:Cl):Prop:=mY t λcf f=>AW f cf e p k/\EE f cf e p
def Kn(t:TC)(es:List Expr)(l:List (PE×Cl)):Prop:=mY t λcf f=>BF f cf es l
def It(t:TC)(tup:Bool)(e:Expr)(r:Vs×List PE×Cl):Prop:=mY t λcf f=>Kk f cf tup e r.1 r.2.1 r.2.2
abbrev TE(t:TC)(e:Expr):Type:=Option { a:PE×Cl // Ok t e a.1 a.2 }
theorem Ok.val(ho:∀env whole,isTrue e env whole=(do let v <-whole;standAt e.pos;holding [v] (truthy v)))(h:mY t λcf f=>AW f cf e p k):Ok t e p k:=
 λcf f F ht C=>⟨h cf f F ht C,.WF (h cf f F ht C) ho⟩
theorem Ok.con(h:lM c=some d):Ok t (.Constant c kd pos) (.const d) .safe:=.val (λJ J=>rfl) λJ J J J J=>MT h
theorem Ok.vr (hd:(x==("__debug__" : Str))=false) (hi:t.slot x=some i):Ok t (.Name x pos) (.var i) (if i∈t.mv then .own else .safe):=.val (λJ J=>rfl) λJ J F ht J=>by subst ht;exact Ts F hd hi
theorem Ok.gl (hd:(x==("__debug__" : Str))=false) (hg:t.glob x=true) (hl:t.G.lookup x=some (.const d)):Ok t (.Name x pos) (.const d) .safe:=.val (λJ J=>rfl) λJ J F ht J=>by subst ht;exact Nk F hd hg hl
theorem Ok.bop(h:Kn t es l)(he:es≠[]):Ok t (.BoolOp op es pos) (if op=.And then .and (l.map (·.1)) else .or (l.map (·.1))) .safe:=λJ J F ht C=>Kg F (h _ _ F ht C) he
theorem Ok.bin{a b:PE×Cl}(ha:Ok t l a.1 a.2)(hb:Ok t r b.1 b.2)(ho:Pt op=some o)(ht:(a.2.top&&b.2.top)=true):Ok t (.BinOp l op r pos) (.bin o a.1 b.1) .fresh:=.val (λJ J=>rfl) λJ J F h C=>Rb F (ha _ _ F h C).1 (hb _ _ F h C).1 ho ht
theorem Ok.not{a:PE×Cl}(ho:o=.Not)(ha:Ok t x a.1 a.2):Ok t (.UnaryOp o x pos) (.not a.1) .safe:=λJ J F h C=>by subst ho;exact⟨Qk F (ha _ _ F h C).1,Tj F (ha _ _ F h C).2⟩
theorem Ok.neg{a:PE×Cl}(ho:o=.USub)(ha:Ok t x a.1 a.2):Ok t (.UnaryOp o x pos) (.neg a.1) .safe:=by subst ho;exact .val (λJ J=>rfl) λJ J F h C=>Qo F (ha _ _ F h C).1
theorem Ok.ite{pc pa pb:PE×Cl}(hc:Ok t c pc.1 pc.2)(ha:Ok t a pa.1 pa.2)(hb:Ok t b pb.1 pb.2)(hi:(pa.2.inner&&pb.2.inner)=true):Ok t (.IfExp c a b pos) (.ite pc.1 pa.1 pb.1) .safe:=
 λJ J F h C=>⟨Qz F (hc _ _ F h C).2 (ha _ _ F h C).1 (hb _ _ F h C).1 hi,UM F (hc _ _ F h C).2 (ha _ _ F h C).2 (hb _ _ F h C).2⟩
theorem Ok.tup(hs:es.any AN=false)(h:Kn t es l):Ok t (.Tuple es kd pos) (.tup (l.map (·.1))) (Cd (l.map (·.2))):=.val (λJ J=>rfl) λJ J F ht C=>JC F (h _ _ F ht C) hs
theorem Ok.na(hs:es.any AN=false)(h:Kn t es l)(hc:Cd (l.map (·.2))=.safe):Ok t (.Tuple es kd pos) (.tup (l.map (·.1))) .fresh:=.val (λJ J=>rfl) λJ J F ht C=>QN (hc▸JC F (h _ _ F ht C) hs)
theorem Ok.lst(hs:es.any AN=false)(h:Kn t es l)(hc:Cd (l.map (·.2))=.safe):Ok t (.List es pos) (.lst (l.map (·.1))) .fresh:=.val (λJ J=>rfl) λJ J F ht C=>Qs F (h _ _ F ht C) hs hc
theorem Ok.pY:Ok t (.Dict [] [] pos) .dct0 .fresh:=.val (λJ J=>rfl) λJ J F J J=>OS F
theorem Ok.cmp{a b:PE×Cl}(ha:Ok t l a.1 a.2)(hb:Ok t r b.1 b.2)(ht:(a.2.top&&b.2.top&&!behindInMarks op r)=true):Ok t (.Compare l [op] [r] pos) (.cmp (JW op) a.1 b.1) .safe:=λJ J F h C=>RU F (ha _ _ F h C).1 (hb _ _ F h C).1 ht
theorem Ok.slL{v lo:Expr}{a b:PE×Cl}(ha:Ok t v a.1 a.2)(hb:Ok t lo b.1 b.2)(E5:a.2.top=true):Ok t (.Subscript v (.Slice (some lo) none none sp) pos) (.slL a.1 b.1) .safe:=.val (λJ J=>rfl) λJ J F h C=>QX F (ha _ _ F h C).1 (hb _ _ F h C).1 E5
theorem Ok.slH{a b:PE×Cl}(ha:Ok t v a.1 a.2)(hb:Ok t hi b.1 b.2)(E5:a.2.top=true):Ok t (.Subscript v (.Slice none (some hi) none sp) pos) (.slH a.1 b.1) .safe:=.val (λJ J=>rfl) λJ J F h C=>QY F (ha _ _ F h C).1 (hb _ _ F h C).1 E5
theorem Ok.idx{a b:PE×Cl}(hi:Fw i=false)(ha:Ok t v a.1 a.2)(hb:Ok t i b.1 b.2)(ht:(a.2.top&&b.2.top)=true):Ok t (.Subscript v i pos) (.idx a.1 b.1) .safe:=.val (λJ J=>rfl) λJ J F h C=>Q6 F hi (ha _ _ F h C).1 (hb _ _ F h C).1 (ra.1 ht).1 (ra.1 ht).2
def B7(g:Str)(es:List Expr):Bool:=!(g==("__debug__" : Str))&&!es.any AN&&!es.isEmpty
theorem Ao(h:B7 g es=true):(g==("__debug__" : Str))=false/\es.any AN=false/\es≠[]:=by
 simp only[B7,Bool.and_eq_true,Bool.not_eq_true'] at h;exact⟨h.1.1,h.1.2,λe=>by rw[e] at h;cases h.2⟩
theorem Ok.isi {a:PE×Cl} (hc:B7 g [x,y]=true) (hg:t.bi g "isinstance" = true) (hy:VO t y ty) (ha:Ok t x a.1 a.2) (E5:a.2.top=true):Ok t (.Call (.Name g gp) [x,y] [] pos) (.prim (.isi ty) [a.1]) .safe:=
 .val (λJ J=>rfl) λJ J F h C=>by subst h;exact Hz F hg (Ao hc).1 (by have:=(Ao hc).2.1;rw[any_cons,A1Y] at this;exact this.1) (by have:=(Ao hc).2.1;rw[any_cons,any_cons,A1Y,A1Y] at this;exact this.2.1) hy (ha _ _ F rfl C).1 E5
theorem Ok.lr {a:PE×Cl} (hg:t.bi g "list" = true) (hr:t.bi r "range" = true) (SA:AN e=false) (ha:Ok t e a.1 a.2):Ok t (.Call (.Name g gp) [.Call (.Name r rp) [e] [] pos'] [] pos) (.prim .listRange [a.1]) .fresh:=
 .val (λJ J=>rfl) λJ J F h C=>by subst h;exact Hs F hg (by refine zr ((D8 hg).1) ?_;decide +kernel) hr (by refine zr ((D8 hr).1) ?_;decide +kernel) SA (ha _ _ F rfl C).1
theorem Ok.prm(hc:B7 g es=true)(hp:Hg t g es.length=some p)(h:Kn t es l)(ht:(l.map (·.2)).all Cl.top=true):Ok t (.Call (.Name g gp) es [] pos) (.prim p (l.map (·.1))) (Nd p):=
 .val (λJ J=>rfl) λJ J F q C=>by subst q;exact Hf F hp (Ao hc).1 (h _ _ F rfl C) (Ao hc).2.1 (Ao hc).2.2 ht
theorem Ok.ms(hc:B7 g es=true)(hg:t.glob g=true)(hl:t.G.lookup g=some (.fn i ar fr))(h:Kn t es l)(hn:l.length=ar)(hk:if clean then fr=true else(l.map (·.2)).all Cl.inner=true):
  Ok t (.Call (.Name g gp) es [] pos) (.call i clean (l.map (·.1))) (if fr then .fresh else .safe):=
 .val (λJ J=>rfl) λJ J F q C=>by subst q;exact HW F C hg hl (Ao hc).1 (h _ _ F rfl C) (Ao hc).2.1 (Ao hc).2.2 hn hk
theorem Ok.ind {a b:PE×Cl} (h0:PB o) (ha:Ok t o a.1 a.2) (hb:Ok t e b.1 b.2) (hc:(m==("index" : Str)&&!AN e&&(apos.endLine==pos.line)&&a.2.top&&b.2.top)=true):Ok t (.Call (.Attribute o m apos) [e] [] pos) (.index a.1 b.1) .safe:=
 .val (λJ J=>rfl) λJ J F q C=>by
  simp only[Bool.and_eq_true,Bool.not_eq_true'] at hc;exact zr (eq_of_beq hc.1.1.1.1) (Lu F h0 (ha _ _ F q C).1 (hb _ _ F q C).1 hc.1.1.1.2 hc.1.1.2 hc.1.2 hc.2)
theorem Ok.slLH{v lo hi:Expr}{a b c:PE×Cl}(ha:Ok t v a.1 a.2)(hb:Ok t lo b.1 b.2)(hc:Ok t hi c.1 c.2)(E5:a.2.top=true):Ok t (.Subscript v (.Slice (some lo) (some hi) none sp) pos) (.slLH a.1 b.1 c.1) .safe:=.val (λJ J=>rfl) λJ J F h C=>NY F (ha _ _ F h C).1 (hb _ _ F h C).1 (hc _ _ F h C).1 E5
theorem Ok.chain{a b c d:PE×Cl}{oo:List CmpOp}(ho:oo=[.LtE,.LtE,.LtE])(ha:Ok t l a.1 a.2)(hb:Ok t BB b.1 b.2)(hc:Ok t BK c.1 c.2)(hd:Ok t Jd d.1 d.2)(hm:lastMarks [.LtE,.LtE,.LtE] [BB,BK,Jd]=false):Ok t (.Compare l oo [BB,BK,Jd] pos) (.chain a.1 b.1 c.1 d.1) .safe:=by
 subst ho;exact λJ J F h C=>Mc F (ha _ _ F h C).1 (hb _ _ F h C).1 (hc _ _ F h C).1 (hd _ _ F h C).1 hm
theorem Ok.attr{a:PE×Cl}(ha:Ok t (.Name x xp) a.1 a.2)(hi:a.2.inner=true)(hf:Bc.lookup nm=some j):Ok t (.Attribute (.Name x xp) nm pos) (.attr a.1 j) .safe:=.val (λJ J=>rfl) λJ J F h C=>Of F (ha _ _ F h C).1 hi hf
theorem Ok.zg{a:PE×Cl}{fr clean:Bool}(h0:PB o)(ha:Ok t o a.1 a.2)(hm:meths.lookup m=some (.fn i ar fr))(h1:ar=1)(hl:(apos.endLine==pos.line)=true)(hk:if clean then fr=true else a.2.inner=true):Ok t (.Call (.Attribute o m apos) [] [] pos) (.call i clean [a.1]) (if fr then .fresh else .safe):=
 by subst h1;exact .val (λJ J=>rfl) λJ J F h C=>Nl F C h0 (ha _ _ F h C).1 hm hl hk
structure CR where
 one:Bool
 xs:List Str
 a:PE×Cl
 it:Vs×List PE×Cl
 cs:List (PE×Cl)
def CR.pe(t:TC)(r:CR):PE:=.comp r.a.1 (Bf t r.one r.xs) r.it.1 r.it.2.1 (r.cs.map (·.1))
structure Op(t:TC)(elt target Dj:Expr)(ifs:List Expr)(scope:Scope)(r:CR):Prop where
 kd:scope.kind=.function
 tn:VR target r.one r.xs
 ok:Ke t scope.names r.xs=true
 inr:r.a.2.inner=true
 e:Ok (compTC t scope.names r.xs) elt r.a.1 r.a.2
 c:Kn (compTC t scope.names r.xs) ifs r.cs
 i:It t (!r.one) Dj r.it
theorem Ok.comp(h:Op t elt target Dj ifs scope r):Ok t (.ListComp elt [⟨target,Dj,ifs,0⟩] scope pos) (r.pe t) .fresh:=
 .val (λJ J=>rfl) λJ f F q C=>by
  subst q;exact OY F h.kd h.tn (Cm h.ok) h.inr (λcl c HP=>(h.e _ (A6 f scope r.xs cl c) (C3 F h.kd (Cm h.ok) HP) rfl C).1) (λcl c HP=>h.c _ (A6 f scope r.xs cl c) (C3 F h.kd (Cm h.ok) HP) rfl C) (h.i _ _ F rfl C)
theorem It.seq{a:PE×Cl}(hs:∀env x,foldedSetIterable e env x=pure x)(ha:Ok t e a.1 a.2)(ht:a.2.top=true):It t tup e (.seq,[a.1],a.2):=λJ J F q C=>cN F hs (ha _ _ F q C).1 ht
theorem It.range {a:PE×Cl} (hb:t.bi g "range" = true) (hs:AN e=false) (ha:Ok t e a.1 a.2):It t tup (.Call (.Name g gp) [e] [] pos) (.range1,[a.1],.safe):=λJ J F q C=>by subst q;exact UN F hb hs (ha _ _ F rfl C).1
theorem It.range2 {a b:PE×Cl} (hb:t.bi g "range" = true) (hs:AN e=false) (Mw:AN e'=false) (ha:Ok t e a.1 a.2) (Vc:Ok t e' b.1 b.2):It t tup (.Call (.Name g gp) [e,e'] [] pos) (.range2,[a.1,b.1],.safe):=λJ J F q C=>by subst q;exact Q0 F hb hs Mw (ha _ _ F rfl C).1 (Vc _ _ F rfl C).1
theorem It.enum {a:PE×Cl} (hu:tup=true) (hb:t.bi g "enumerate" = true) (hs:AN e=false) (ha:Ok t e a.1 a.2) (ht:a.2.top=true):It t tup (.Call (.Name g gp) [e] [] pos) (.enum,[a.1],a.2):=λJ J F q C=>by subst hu q;exact Xi F hb hs (ha _ _ F rfl C).1 ht
noncomputable def Y6{t:TC}(g:(e:Expr)->TE t e):(es:List Expr)->Option { l:List (PE×Cl) // Kn t es l }
 |[]=>some ⟨[],λJ J J J J=>.nil⟩
 |e::es=>(g e).bind λa=>(Y6 g es).bind λl=>some ⟨(a.1.1,a.1.2)::l.1,λJ J F q C=>.cons (a.2 _ _ F q C).1 (a.2 _ _ F q C).2 (l.2 _ _ F q C)⟩
noncomputable def JD{t:TC}(g:(e:Expr)->TE t e)(tup:Bool)(e:Expr)(hs:∀env x,foldedSetIterable e env x=pure x):Option { r:Vs×List PE×Cl // It t tup e r }:=
 (g e).bind λa=>iF (a.1.2.top=true) λh=>some ⟨_,.seq hs a.2 h⟩
def ud{t:TC}(g:(e:Expr)->TE t e)(tup:Bool)(f:Str)(fp:Pos)(args:List Expr)(pos:Pos):Option { r:Vs×List PE×Cl // It t tup (.Call (.Name f fp) args [] pos) r }:=
 Ky args (ag args none λa b=>iF (t.bi f "range" = true/\AN a=false/\AN b=false) λh=>(g a).bind λc=>(g b).bind λd=>some ⟨_,.range2 h.1 h.2.1 h.2.2 c.2 d.2⟩)
  λa=>(g a).bind λb=>(iF (t.bi f "range" = true/\AN a=false) λh=>some ⟨_,.range h.1 h.2 b.2⟩).or (iF (tup=true/\t.bi f "enumerate" = true/\AN a=false/\b.1.2.top=true) λh=>some ⟨_,.enum h.1 h.2.1 h.2.2.1 b.2 h.2.2.2⟩)
def jD{t:TC}(g:(e:Expr)->TE t e)(tup:Bool)(e:Expr):Option { r:Vs×List PE×Cl // It t tup e r }:=
 Ry e (vN e (vT e (vL e (vS e (vB e none λ_ _ _ _=>JD g tup _ λJ J=>rfl) λ_ _ _=>JD g tup _ λJ J=>rfl) λ_ _=>JD g tup _ λJ J=>rfl) λ_ _ _=>JD g tup _ λJ J=>rfl) λ_ _=>JD g tup _ λJ J=>rfl)
  λf fp args pos=>(ud g tup f fp args pos).or (JD g tup _ λJ J=>rfl)
def Su(g:(t:TC)->(e:Expr)->TE t e)(t:TC)(elt target Dj:Expr)(ifs:List Expr)(scope:Scope):Option { r:CR // Op t elt target Dj ifs scope r }:=
 (j9 target).bind λq=>iF (Ke t scope.names q.1.2=true/\scope.kind=.function) λh=>
   (jD (g t) (!q.1.1) Dj).bind λi=>(g (compTC t scope.names q.1.2) elt).bind λa=>(Y6 (g (compTC t scope.names q.1.2)) ifs).bind λc=>
    iF (a.1.2.inner=true) λhi=>some ⟨⟨q.1.1,q.1.2,a.1,i.1,c.1⟩,h.2,q.2,h.1,hi,a.2,c.2,i.2⟩
def uc(g:(t:TC)->(e:Expr)->TE t e)(t:TC)(f:Str)(fp:Pos)(args:List Expr)(pos:Pos):TE t (.Call (.Name f fp) args [] pos):=
 Ky args none λb=>Ry b none λr rp as p=>Ky as none λe=>iF (t.bi f "list" = true/\t.bi r "range" = true/\AN e=false) λh=>(g t e).bind λa=>some ⟨(_,_),.lr h.1 h.2.1 h.2.2 a.2⟩
def ak(g:(t:TC)->(e:Expr)->TE t e)(t:TC)(f:Str)(fp:Pos)(args:List Expr)(pos:Pos):TE t (.Call (.Name f fp) args [] pos):=
 iF (B7 f args=true) λhc=>((oH (Hg t f args.length) λp hp=>(uc g t f fp args pos).or ((Y6 (g t) args).bind λl=>iF ((l.1.map (·.2)).all Cl.top=true) λht=>some ⟨(_,_),.prm hc hp l.2 ht⟩)).or
  (iF (t.glob f=true) λhg=>oF t.G f λi ar fr hl=>(Y6 (g t) args).bind λl=>iF (l.1.length=ar) λhn=>
   (iF ((l.1.map (·.2)).all Cl.inner=true) λhk=>some ⟨(_,_),.ms (clean:=false) hc hg hl l.2 hn hk⟩).or (iF (fr=true) λhk=>some ⟨(_,_),.ms (clean:=true) hc hg hl l.2 hn hk⟩))).or
  (ag (motive:=λargs=>B7 f args=true->TE t (.Call (.Name f fp) args [] pos)) args (λ_=>none) (λx y hc=>iF (t.bi f "isinstance" = true) λhb=>(ub t y).bind λty=>(g t x).bind λa=>iF (a.1.2.top=true) λht=>some ⟨(_,_),.isi hc hb ty.2 a.2 ht⟩) hc)
def jA{t:TC}(g:(e:Expr)->TE t e)(v i:Expr)(pos:Pos):TE t (.Subscript v i pos):=(g v).bind λa=>iF (a.1.2.top=true) λE5=>
 vX i (iF (Fw i=false) λhi=>(g i).bind λb=>iF ((a.1.2.top&&b.1.2.top)=true) λh=>some ⟨(_,_),.idx hi a.2 b.2 h⟩)
  λlo hi st sp=>ls st none (Vj lo (ls lo none (Vj hi none λhi=>(g hi).bind λb=>some ⟨(_,_),.slH a.2 b.2 E5⟩)) λlo=>(g lo).bind λb=>Vj hi (ls hi none (some ⟨(_,_),.slL a.2 b.2 E5⟩)) λhi=>(g hi).bind λc=>some ⟨(_,_),.slLH a.2 b.2 c.2 E5⟩)
def ue(o:Expr):Option (PLift (PB o)):=vN o (vA o (vC o none λf a _ _=>vN f none λ_ _=>WY a none λ_ _=>some ⟨.call⟩) λ_ _ _=>some ⟨.attr⟩) λ_ _=>some ⟨.name⟩
def EK(n:Nat):(t:TC)->(e:Expr)->TE t e:=Nat.rec (motive:=λ_=>(t:TC)->(e:Expr)->TE t e) (λ_ _=>none) (λ_ g t e=>
  vK e (vN e (vO e (vB e (vU e (vI e (vT e (vL e (vD e (vM e (vA e (vS e (Ry e (lv e (vG e none
   λelt l scope pos=>zt l none λtarget Dj ifs=>(Su g t elt target Dj ifs scope).bind λr=>some ⟨(_,_),.comp r.2⟩)
   λo m apos es pos=>(ue o).bind λh0=>(g t o).bind λa=>Rx es (Ky es none λe=>(g t e).bind λb=>iF ((m==("index" : Str)&&!AN e&&(apos.endLine==pos.line)&&a.1.2.top&&b.1.2.top)=true) λh=>some ⟨(_,_),.ind h0.1 a.2 b.2 h⟩)
    (iF ((apos.endLine==pos.line)=true) λhl=>oF meths m λi ar fr hm=>iF (ar=1) λh1=>(iF (a.1.2.inner=true) λhk=>some ⟨(_,_),.zg (clean:=false) h0.1 a.2 hm h1 hl hk⟩).or (iF (fr=true) λhk=>some ⟨(_,_),.zg (clean:=true) h0.1 a.2 hm h1 hl hk⟩)))
   λf fp args pos=>ak g t f fp args pos)
   λv i pos=>jA (g t) v i pos)
   λo nm pos=>vN o none λx xp=>(g t (.Name x xp)).bind λa=>iF (a.1.2.inner=true) λhi=>oH (Bc.lookup nm) λj hf=>some ⟨(_,_),.attr a.2 hi hf⟩)
   λl os rs pos=>(g t l).bind λa=>Ky os (iF (os=[.LtE,.LtE,.LtE]) λho=>uV rs none λBB BK Jd=>(g t BB).bind λb=>(g t BK).bind λc=>(g t Jd).bind λd=>iF (lastMarks [.LtE,.LtE,.LtE] [BB,BK,Jd]=false) λh=>some ⟨(_,_),.chain ho a.2 b.2 c.2 d.2 h⟩)
    λo=>Ky rs none λr=>(g t r).bind λb=>iF ((a.1.2.top&&b.1.2.top&&!behindInMarks o r)=true) λh=>some ⟨(_,_),.cmp a.2 b.2 h⟩)
   λa b pos=>Rx a none (Rx b none (some ⟨(_,_),.pY⟩)))
   λes pos=>iF (es.any AN=false) λhs=>(Y6 (g t) es).bind λl=>iF (Cd (l.1.map (·.2))=.safe) λhc=>some ⟨(_,_),.lst hs l.2 hc⟩)
   λes kd pos=>iF (es.any AN=false) λhs=>(Y6 (g t) es).bind λl=>(iF (Cd (l.1.map (·.2))=.safe) λhc=>some ⟨(_,_),.na hs l.2 hc⟩).or (some ⟨(_,_),.tup hs l.2⟩))
   λc a b pos=>(g t c).bind λc=>(g t a).bind λa=>(g t b).bind λb=>iF ((a.1.2.inner&&b.1.2.inner)=true) λh=>some ⟨(_,_),.ite c.2 a.2 b.2 h⟩)
   λo x pos=>(g t x).bind λa=>(iF (o=.Not) λh=>some ⟨(_,_),.not h a.2⟩).or (iF (o=.USub) λh=>some ⟨(_,_),.neg h a.2⟩))
   λl op r pos=>(g t l).bind λa=>(g t r).bind λb=>oH (Pt op) λo ho=>iF ((a.1.2.top&&b.1.2.top)=true) λht=>some ⟨(_,_),.bin a.2 b.2 ho ht⟩)
   λop es pos=>(Y6 (g t) es).bind λl=>iF (es≠[]) λhe=>some ⟨(_,_),.bop l.2 he⟩)
   λx pos=>iF ((x==("__debug__" : Str))=false) λhd=>(oH (t.slot x) λi h=>some ⟨(_,_),.vr hd h⟩).or (iF (t.glob x=true) λhg=>oK t.G x λd hl=>some ⟨(_,_),.gl hd hg hl⟩))
   λc kd pos=>oH (lM c) λd h=>some ⟨(_,_),.con h⟩) n
end
section
set_option backward.eqns.nonrecursive false
noncomputable def EN(e:Expr):Bool:=Nat.beq e.ctorIdx 8||Nat.beq e.ctorIdx 9||Nat.beq e.ctorIdx 10
noncomputable def Wf(t:TC)(i:Nat)(k:Cl):Bool:=if i∈t.mv then k==.fresh else k.inner
noncomputable def HF(e:Expr):Bool:=Nat.beq e.ctorIdx 25
structure Ko where
 name:Str
 args:Arguments
 body:List Stmt
 scope:Scope
noncomputable def BH(a:Arguments):List Str:=a.args.map (·.arg)
def slotsOf(d:Ko):List (Str×Nat):=
 (BH d.args++(d.scope.names.filter λp=>(p.2==.local||p.2==.cell)&&!(BH d.args).contains p.1).map (·.1)).zipIdx
structure VS where
 fr:Bool:=false
 own:List Str:=[]
 skip:Bool:=false
 stub:Bool:=false
noncomputable def optOf(os:List (Str×VS))(x:Str):VS:=(os.lookup x).getD {}
noncomputable def Qp(os:List (Str×VS))(d:Ko):List Nat:=(slotsOf d).filterMap λp=>if(optOf os d.name).own.contains p.1 then some p.2 else none
def Wb(os:List (Str×VS))(G:List (Str×GE))(d:Ko):TC:={ scope:=d.scope.names,slots:=slotsOf d,mv:=Qp os d,G:=G,cbase:=(slotsOf d).length }
noncomputable def Vo(os:List (Str×VS))(ds:List Ko)(more:List (Str×GE)):List (Str×GE):=(ds.zipIdx.filter λp=>!(optOf os p.1.name).skip).map (λp=>(p.1.name,GE.fn p.2 p.1.args.args.length (optOf os p.1.name).fr))++more
end
section
set_option backward.eqns.nonrecursive false
inductive Cn(c:Cx)(own own':Addr->Option Nat)(s s':Shared):Prop where
 |mk (eh:∃h' tk,s'=(up s (h') (tk))) (hn:∀b o,s.heap.get? b=some o->own b=none->own' b=none)
  (hs:∀b o,s.heap.get? b=some o->IW own s.heap b->b∉frs c.A->b≠c.env.locals->(∀v,o.data≠.cell v)->s'.heap.get? b=some o)
theorem Cn.refl:Cn c own own s s:=⟨⟨s.heap,s.toks,rfl⟩,λJ J J h=>h,λJ J h J J J J=>h⟩
theorem IW.to(x:IW own h b)(ho:h.get? b=some o)(Ah:h'.get? b=some o)(hn:own b=none->own' b=none):IW own' h' b:=by
 rcases x with x|⟨o1,vs,n,h1,h2,h3⟩
 ·exact .inl (hn x)
 ·rw[ho] at h1;cases h1;exact .inr ⟨o,vs,n,Ah,h2,h3⟩
theorem Cn.trans(x:Cn c own own' s s')(y:Cn c own' eH s' M8)(hin:∀b o,s.heap.get? b=some o->∃o',s'.heap.get? b=some o'):Cn c own eH s M8:=by
 obtain⟨⟨h1,t1,rfl⟩,a1,b1⟩:=x;obtain⟨⟨h2,t2,rfl⟩,a2,b2⟩:=y;refine⟨⟨h2,t2,rfl⟩,λb o hb hn=>?_,λb o hb hs h3 h4 h5=>?_⟩
 ·obtain⟨o',Ah⟩:=hin b o hb;exact a2 b o' Ah (a1 b o hb hn)
 ·have:=b1 b o hb hs h3 h4 h5;exact b2 b o this (hs.to hb this (a1 b o hb)) h3 h4 h5
theorem Cn.grow(g:AX c.A s s'):Cn c own own s s':=by
 obtain⟨h1,t1,rfl,k⟩:=g;exact⟨⟨h1,t1,rfl⟩,λJ J J h=>h,λb o hb J h3 J J=>(k b o hb).1 h3⟩
theorem Cn.claim(g:AX c.A s s')(hs:∀b o,s.heap.get? b=some o->own' b=own b):Cn c own own' s s':=by
 obtain⟨h1,t1,rfl,k⟩:=g;exact⟨⟨h1,t1,rfl⟩,λb o hb h=>(hs b o hb).trans h,λb o hb J h3 J J=>(k b o hb).1 h3⟩
theorem Cn.stored(x:St c own ρ s)(hN:∀b,N b->Di c b)(st:Bd N s s'):Cn c own own s s':=by
 obtain⟨h1,t1,rfl,k⟩:=st;refine⟨⟨h1,t1,rfl⟩,λJ J J h=>h,λb o hb J J h4 h5=>k b o hb λhn=>?_⟩;rcases hN b hn with e|⟨n,hn⟩
 ·exact h4 e
 ·obtain⟨v,o',Ah,hd⟩:=x.cell n b hn;rw[hb] at Ah;cases Ah;exact h5 v hd
theorem AX.ups(g:AX A s s'):∃h' tk,s'=up s h' tk:=let ⟨h',tk,e,_⟩:=g;⟨h',tk,e⟩
theorem AX.FO(g:AX A s s'):∀b o,s.heap.get? b=some o->∃o',s'.heap.get? b=some o':=λb o hb=>g.h.some ⟨o,hb⟩
inductive lY(f:EG)(fr:Bool)(s s':Shared)(d:PV)(v:Value):Prop where
 |mk (eh:∃h' tk,s'=(up s (h') (tk))) (g:Ap (frs f.c.A) f.c.h0 s'.heap) (r:IX f.c.h0 s'.heap f.c.P0 fr d v)
inductive dY(f:EG)(ρ':AP)(own:Addr->Option Nat)(s s':Shared):Prop where
 |mk (own':Addr->Option Nat) (x:St f.c own' ρ' s') (ev:Cn f.c own own' s s') (hin:∀b o,s.heap.get? b=some o->∃o',s'.heap.get? b=some o')
def C9(f:EG)(fr:Bool)(R:Out)(own:Addr->Option Nat)(s:Shared)(fl:Flow)(s':Shared):Prop:=match fl with
 |.next=>∃ρ',R=.next ρ'/\dY f ρ' own s s'
 |.ret v=>∃d,R=.ret d/\lY f fr s s' d v
 |_=>False
structure YX(f:EG)(C a:Addr)(h':Heap):Prop where
 g:Ap (frs f.c.A) f.c.h0 h'
 hf:∀b∈frs f.c.A,∃m,h'.Ns b m
 hn:f.c.h0.get? a=none
 ht:h'.Traced f.c.h0 a (.ref C)
inductive XQ(f:EG)(R:Out)(s:Shared)(x:Value)(s':Shared):Prop where
 |mk (c:Nat) (C a:Addr) (h':Heap) (tk:Nat) (e:R=.exc c) (o:Mu f.B c C) (ex:x=.ref a) (es:s'=up s h' tk) (g:YX f C a h')
def XU(f:EG)(R:Out)(s:Shared)(x:Value)(s':Shared):Prop:=wpAny Md f.c.A (leaving f.c.env x) (λJ M8=>XQ f R s x M8) (λJ J=>False) s'
theorem XU.imp(h:XU f R AG x s')(hs:∃h' tk,AG=up s h' tk)(hR:∀c,R=.exc c->R'=.exc c):XU f R' s x s':=
 mj h (λJ J q=>by
  obtain⟨c,C,a,h',tk,e,o,ex,rfl,g⟩:=q;refine HU hs λh1 t1 Av=>?_;subst Av
  exact⟨c,C,a,h',tk,hR c e,o,ex,rfl,g⟩) λJ J q=>q
theorem XU.own(h:XU f R s x s'):notedBy Md f.c.A f.c.env (cameBackBy Md f.c.A f.c.env (XU f R s)) x s':=PassesOwn.leaving _ _ h
def Dz(f:EG)(cf:Nat->List PV->Res PV)(fr:Bool)(st:Stmt)(p:PS):Prop:=
 ∀own ρ s o,St f.c own ρ s->ex cf ρ p=.ok o->wpAny Md f.c.A (exec st f.c.env) (C9 f fr o own s) (XU f o s) s
def E4(f:EG)(cf:Nat->List PV->Res PV)(fr:Bool)(st:List Stmt)(p:List PS):Prop:=
 ∀own ρ s o,St f.c own ρ s->exs cf ρ p=.ok o->wpAny Md f.c.A (execs st f.c.env) (C9 f fr o own s) (XU f o s) s
theorem St.pW(F:AL f)(x:St f.c own ρ s)(g:AX f.c.A s AG)(hi:i∈f.c.mv)(r:D9 f.c own s.heap AG.heap .fresh d v):
  ∃own',St f.c own' ρ AG/\DB AG.heap f.c own' i d v/\∀b o,s.heap.get? b=some o->own' b=own b:=by
 have key:∀{a:Addr},v=.ref a->s.heap.get? a=none->(∃o,AG.heap.get? a=some o)->CV AG.heap (λb=>Fz f.c own b/\v≠.ref b) (λb=>b=a) d v->∃own',St f.c own' ρ AG/\DB AG.heap f.c own' i d v/\∀b o,s.heap.get? b=some o->own' b=own b:=by
  intro a hv hn ho rr;have hs:∀b o,s.heap.get? b=some o->(if b=a then some i else own b)=own b:=λb o hb=>Yf λe=>by rw[e,hn] at hb;cases hb
  refine⟨λb=>if b=a then some i else own b,x.claim F.ok g hs λb hb=>?_,?_,hs⟩
  ·by_cases e:b=a
   ·exact zr e ho
   ·rw[Yf e] at hb;exact(x.grow F.ok g).ownIn b hb
  ·unfold DB;refine zr (XL hi) ?_;refine CV.imp (λb J J J p=>?_) (λb J J J p=>⟨p.1.1,?_⟩) rr
   ·exact XL p
   ·have:b≠a:=λe=>p.2 (e▸hv)
    simp only[if_neg this];exact p.1.2
 have same:CV AG.heap (Fz f.c own) (λa=>own a=some i) d v->∃own',St f.c own' ρ AG/\DB AG.heap f.c own' i d v/\∀b o,s.heap.get? b=some o->own' b=own b:=λrr=>by
  refine⟨own,x.grow F.ok g,?_,λJ J J=>rfl⟩;unfold DB;exact zr (XL hi) rr
 cases d with
 |list l=>
  obtain⟨a,vs,hv,hn,⟨n,hs⟩,hl,hr⟩:=r;exact key hv hn ⟨_,hs⟩ ⟨a,vs,hv,rfl,⟨n,hs⟩,hl,hr⟩
 |dict l=>
  obtain⟨a,vs,hv,hn,h1,hl,hq,hr⟩:=r;refine key hv hn ?_ ⟨a,vs,hv,rfl,h1,hl,hq,hr⟩;rcases hq with⟨_,⟨o,_,_,ho,_⟩,_⟩|⟨_,⟨o,_,_,ho,_⟩,_⟩<;>exact⟨o,ho⟩
 |obj th tu kd fr lf=>
  obtain⟨xa,dx,la,t,m,vs,us,hv,ox,od,oa,ot,hx,ns,am,sk,ne,im,q,ln,rr,n1,lt,dq,dr⟩:=r;have hs:∀b o,s.heap.get? b=some o->(if b=xa\/b=dx\/b=la\/b=t then some i else own b)=own b:=λb o hb=>Yf λe=>by
   rcases e with rfl|rfl|rfl|rfl
   ·rw[ox] at hb;cases hb
   ·rw[od] at hb;cases hb
   ·rw[oa] at hb;cases hb
   ·rw[ot] at hb;cases hb
  refine⟨λb=>if b=xa\/b=dx\/b=la\/b=t then some i else own b,x.claim F.ok g hs λb hb=>?_,?_,hs⟩
  ·by_cases e:b=xa\/b=dx\/b=la\/b=t
   ·rcases e with rfl|rfl|rfl|rfl
    ·refine AE hx λo ho J=>?_;exact⟨o,ho⟩
    ·obtain⟨o,_,_,ho,_⟩:=ns;exact⟨o,ho⟩
    ·obtain⟨_,ho⟩:=q;exact⟨_,ho⟩
    ·rcases dq with⟨_,⟨o,_,_,ho,_⟩,_⟩|⟨_,⟨o,_,_,ho,_⟩,_⟩<;>exact⟨o,ho⟩
   ·rw[Yf e] at hb;exact(x.grow F.ok g).ownIn b hb
  ·unfold DB;exact zr (XL hi) ⟨xa,dx,la,t,m,vs,us,hv,XL (.inl rfl),XL (.inr (.inl rfl)),XL (.inr (.inr (.inl rfl))),XL (.inr (.inr (.inr rfl))),hx,ns,am,sk,ne,im,q,ln,Rds.Bj th im.1 rr,n1,lt,dq,RdKV.Bj tu im.2 dr⟩
 |tuple l=>exact same (Rd.imp (λJ J J J p=>p.1) (.tuple l) r)
 |_=>exact same r
theorem Bd.FO(x:St c own ρ s)(x':St c own' ρ' s')(hN:∀b,N b->Di c b)(st:Bd N s s'):∀b o,s.heap.get? b=some o->∃o',s'.heap.get? b=some o':=λb o hb=>by
 obtain⟨h1,t1,rfl,k⟩:=st;by_cases hn:N b
 ·rcases hN b hn with e|⟨n,hn⟩
  ·obtain⟨_,m,o',_,_,Ah,_⟩:=x'.loc;exact zr e ⟨o',Ah⟩
  ·obtain⟨v,o',Ah,_⟩:=x'.cell n b hn;exact⟨o',Ah⟩
 ·exact⟨o,k b o hb hn⟩
theorem LR(F:AL f)(x:St f.c own ρ s)(g:AX f.c.A s AG)(hm:(y,i)∈f.c.names)(hk:(if i∈f.t.mv then k==.fresh else k.inner)=true)(r:D9 f.c own s.heap AG.heap k d v)
 (hQ:∀own' s',St f.c own' (ρ.set i (some d)) s'->Cn f.c own own' s s'->(∀b o,s.heap.get? b=some o->∃o',s'.heap.get? b=some o')->Q () s'):
  wpAny Md f.c.A (storeName f.c.env y v) Q E AG:=by
 have x1:=x.grow F.ok g;by_cases hi:i∈f.t.mv
 ·rw[XL hi] at hk;have VY:=eq_of_beq hk;subst VY;refine Ca (x.pW F g (F.mv▸hi) r) λown' x2 hv hs=>?_
  refine x2.store (λb h=>h.names) F.ok hm hv λs' x' st=>hQ own' s' x' ?_ ?_
  ·exact(Cn.claim g hs).trans (Cn.stored x2 (λJ h=>h) st) g.FO
  ·intro b o hb;obtain⟨o',Ah⟩:=g.FO b o hb;exact st.FO x2 x' (λJ h=>h) b o' Ah
 ·rw[Yf hi] at hk;refine x1.store (λb h=>h.names) F.ok hm (by unfold DB;refine zr (Yf (F.mv▸hi)) ?_;exact r.rd x hk) λs' x' st=>hQ own s' x' ?_ ?_
  ·exact(Cn.grow g).trans (Cn.stored x1 (λJ h=>h) st) g.FO
  ·intro b o hb;obtain⟨o',Ah⟩:=g.FO b o hb;exact st.FO x1 x' (λJ h=>h) b o' Ah
theorem F4(F:AL f)(hm:(y,i)∈f.c.names)(HO:AW f cf value a k)(hk:(if i∈f.t.mv then k==.fresh else k.inner)=true)
  (hs:swapsWith value (some (.Name y py)) pos.line f.c.env=pure false):Dz f cf fr (.Assign [.Name y py] value pos) (.assign i a):=by
 intro own ρ s o x he;refine AE (AD (Kx.symm.trans he)) λd e1 he=>?_
 refine At he ?_;exact A1p (HO.at F x e1 λv AG g1 x1 r1=>LR F x g1 hm hk r1 λown' s' x' ev hin=>⟨_,rfl,own',x',ev,hin⟩) hs
theorem F5(F:AL f)(Rq:scope.kind=.function)(Rn:VR target one xs)(ok:Ef f.t scope.names xs)
 (hk:k.inner=true) (HO:∀cl C,Vt f.c.env scope.names cl->AW (A6 f scope xs cl C) cf elt a k) (Ru:∀cl C,Vt f.c.env scope.names cl->BF (A6 f scope xs cl C) cf ifs cs)
  (F8:Kk f cf (!one) Dj kk src zd)
 (hm:(y,i)∈f.c.names) (WC:f.c.env.kindOf y=some .local) (hs:swapsWith (.ListComp elt [⟨target,Dj,ifs,0⟩] scope pos) (some (.Name y py)) mr.line f.c.env=pure true):
  Dz f cf fr (.Assign [.Name y py] (.ListComp elt [⟨target,Dj,ifs,0⟩] scope pos) mr) (.assign i (.comp a (Bf f.t one xs) kk src (cs.map (·.1)))):=by
 intro own ρ s o x he;refine AE (AD (Kx.symm.trans he)) λd e1 he=>?_
 refine At he ?_;refine Gq (Pp e1) λds l h1 h2 r=>?_;subst r
 refine zr (exec_Assign_Name_used _ _ _ _ hs) ?_;refine Xt (A1y (Xt ?_));show wpAny _ _ (do let _ <-comprehension (.ListComp elt [⟨target,Dj,ifs,0⟩] scope pos) scope f.c.env _ (newList []) false (eval Dj f.c.env) (some (assign (.Name y py) f.c.env))) _ _ s;refine Xt (mj (MV (use:=some (assign (.Name y py) f.c.env))
  (E:=λJ J=>False)
  F Rq Rn ok hk HO Ru F8 x h1 h2 λC D s' vs hC hD Rw FQ hl hlen hr g x'=>?_) (λJ s' q=>ml (ml q)) λJ J e=>e.elim)
 obtain⟨m,Rp⟩:=FQ;obtain⟨oC,esC,epC,nU,hdC,_⟩:=id Rp;obtain⟨nD,hoD⟩:=id hl;let own1:Addr->Option Nat:=λb=>if b=C then some EU else if b=D/\i∈f.c.mv then some i else own b
 have oX:C≠f.c.env.locals:=λe=>by
  obtain⟨_,m',o,_,_,ho,_⟩:=x.loc;rw[<-e,hC] at ho;cases ho
 have zT:C∉frs f.c.A:=λhf=>by
  obtain⟨_,m',o,_,_,ho,_⟩:=x.fr C hf;rw[hC] at ho;cases ho
 have hold:∀b o,s.heap.get? b=some o->own1 b=own b:=λb o hb=>by
  have h1:b≠C:=λe=>by rw[e,hC] at hb;cases hb
  have h2:b≠D:=λe=>by rw[e,hD] at hb;cases hb
  show(if b=C then some EU else if b=D/\i∈f.c.mv then some i else own b)=own b;exact zr (Yf h1) (zr (Yf λh=>h2 h.1) rfl)
 have x1:St f.c own1 ρ s':=x.claim F.ok g hold λb hb=>by
  by_cases h1:b=C
  ·exact zr h1 ⟨_,nU⟩
  by_cases h2:b=D
  ·exact zr h2 ⟨_,hoD⟩
  ·refine x'.ownIn b ?_
   rwa [(by show(if b=C then some EU else if b=D/\i∈f.c.mv then some i else own b)=own b;exact zr (Yf h1) (zr (Yf λh=>h2 h.1) rfl):own1 b=own b)] at hb
 have nF:DB s'.heap f.c own1 i (.list l) (.ref D):=by
  have inn:Rds s'.heap (Fz f.c own1) l vs.toList:=Rds.imp (λb o ho J p=>⟨p.1.1,by
   show(if b=C then some EU else if b=D/\i∈f.c.mv then some i else own b)=none;refine zr (Yf p.2.1) (zr (Yf λh=>p.2.2 h.1) ?_);exact p.1.2⟩) l hr
  unfold DB;split
  ·rename_i hi;refine⟨D,vs,rfl,?_,hl,hlen,inn⟩;show(if D=C then some EU else if D=D/\i∈f.c.mv then some i else own D)=some i;exact zr (Yf Rw) (zr (XL ⟨rfl,hi⟩) rfl)
  ·rename_i hi;refine⟨D,vs,rfl,⟨.inr (x.BS hD),?_⟩,hl,hlen,inn⟩;show(if D=C then some EU else if D=D/\i∈f.c.mv then some i else own D)=none;exact zr (Yf Rw) (zr (Yf λh=>hi h.2) (x.Co hD))
 show wpAny _ _ (assign (.Name y py) f.c.env (.ref D)) _ _ s';refine wpAny_assign_Name (x1.store (N:=λb=>b=f.c.env.locals) (λb h=>?_) F.ok hm nF λs2 x2 st=>?_)
 ·rcases h with⟨_,e⟩|⟨e,_⟩
  ·exact e
  ·rw[WC] at e;cases e
 have zU:s2.heap.get? C=some oC:=by
  obtain⟨h2,t2,rfl,k2⟩:=st;exact k2 C oC nU oX
 refine⟨m,Rp.at' (λo ho=>?_),λh3 dj=>?_⟩
 ·rw[nU] at ho;refine CD ho ?_;exact zU
 have zS:own1 C=some EU:=XL rfl;let Vw:Addr->Option Nat:=λb=>if b=C then none else own1 b
 have x3:St f.c Vw (ρ.set i (some (.list l))) (up s2 (h3) (s2.toks)):=by
  refine x2.Ov F.ok (W:=λb=>b=C) (λb hb=>?_) ⟨λb hb=>?_,λb j hj hb=>?_,λb j hj hb=>?_,λb hb=>?_,?_⟩ (λb hb ho=>?_) (λb hb=>Yf hb) λb o hb ho=>(dj.2 b hb).trans ho
  ·subst hb;exact⟨x.BS hC,oC,zU,.inr (.inr ⟨zS,zT,oX,_,_,hdC⟩)⟩
  ·show(if b=C then none else own1 b)=none;split
   ·rfl
   ·exact hb
  ·have:b≠C:=λe=>by rw[e,zS] at hb;cases hb;exact F.ok.dumNot hj
   show(if b=C then none else own1 b)=some j;exact zr (Yf this) hb
  ·have:b≠C:=λe=>by
    have:Vw C=none:=XL rfl;rw[e,this] at hb;cases hb
   have h2:Vw b=own1 b:=Yf this
   rwa [h2] at hb
  ·exact Yf (λ(e:b=C)=>zT (e▸hb))
  ·exact Yf (λ(e:f.c.env.locals=C)=>oX e.symm)
  ·exact absurd (zr hb (XL rfl)) ho
 refine⟨_,rfl,Vw,x3,?_,λb o hb=>?_⟩
 ·have e1:Cn f.c own own1 s s2:=(Cn.claim g hold).trans (Cn.stored x1 (λb h=>.inl h) st) g.FO;obtain⟨⟨h2,t2,rfl⟩,a2,b2⟩:=e1;refine⟨⟨h3,t2,rfl⟩,λb o hb hn=>?_,λb o hb ND h4 h5 h6=>?_⟩
  ·show(if b=C then none else own1 b)=none;split
   ·rfl
   ·exact a2 b o hb hn
  ·have:b≠C:=λe=>by rw[e,hC] at hb;cases hb
   exact(dj.2 b this).trans (b2 b o hb ND h4 h5 h6)
 ·obtain⟨o1,DR⟩:=g.FO b o hb;obtain⟨o2,NF⟩:=st.FO x1 x2 (λb h=>.inl h) b o1 DR;have:b≠C:=λe=>by rw[e,hC] at hb;cases hb
  exact⟨o2,(dj.2 b this).trans NF⟩
end
section
variable {c:Cx}{own:Addr->Option Nat}{ρ:AP}{s s':Shared}
theorem St.I8{Q:Value->Shared->Prop}{d:PV}(ok:Ex c)(x:St c own ρ s)(hm:(y,i)∈c.names)(hd:ρ[i]?=some (some d))
  (h:∀v,Ed s.heap c.env y v->DB s.heap c own i d v->Q v s):wpAny M A (loadName c.env y) Q E s:=by
 refine AE (x.vars y i d hm hd) λv hv hr=>?_
 rcases id hv with⟨k,m,hn,e⟩|⟨k,a,hl,hc⟩
 ·exact A1V ok.kind k hn e (h v hv hr)
 ·exact wpAny_loadName_cell ok.kind k hl hc (h v hv hr)
def C8(o:Obj):Prop:=(∃vs n,o.data=.seq vs n/\o.cls=.type "list")\/(∃es n,o.data=.dict es n)
structure mW(o:Obj):Prop where
 tup:o.cls=.type "tuple" -> ∀vs n,o.data≠.seq vs n
 cell:∀v,o.data≠.cell v
theorem C8.pX{o:Obj}(h:C8 o):mW o:=by
 rcases h with⟨vs,n,h1,h2⟩|⟨es,n,h1⟩
 ·exact⟨λq=>(by rw[h2] at q;simp at q),λv q=>(by rw[h1] at q;cases q)⟩
 ·exact⟨λJ vs n q=>(by rw[h1] at q;cases q),λv q=>(by rw[h1] at q;cases q)⟩
theorem HB{W:Addr->Prop}(hW:∀b,W b->∃o,s.heap.get? b=some o/\mW o)(k:∀b o,¬W b->s.heap.get? b=some o->h'.get? b=some o){P:Addr->Prop}(hP:∀b,W b->¬P b):Kp P s.heap h':=λb o' Ah hm=>by
 refine k b o' (λe=>?_) Ah;refine AE (hW b e) λo ho md=>?_
 rw[ho] at Ah;cases Ah
 rcases hm with⟨_,_,Au,hc|⟨hp,_⟩⟩|⟨_,_,_,hp⟩|⟨_,hp⟩
 ·exact md.tup hc _ _ Au
 ·exact hP b e hp
 ·exact hP b e hp
 ·exact hP b e hp
theorem J5(ho:s.heap.get? a=some o)(hd:C8 o){h':Heap}(k:∀b o,b≠a->s.heap.get? b=some o->h'.get? b=some o)(hP:¬P a):Kp P s.heap h':=
 HB (λb e=>⟨o,e▸ho,hd.pX⟩) k λb e=>e▸hP
theorem St.mutates(ok:Ex c)(x:St c own ρ s)(hi:i∈c.mv)(hm:(y,i)∈c.names){W:Addr->Prop}(ha:∀b,W b->own b=some i)(hv:Ed s.heap c.env y v)(hW:∀b,W b->∃o,s.heap.get? b=some o/\mW o)
 (k:∀b o,¬W b->s.heap.get? b=some o->h'.get? b=some o) (hex:∀b,W b->∃o,h'.get? b=some o) {d':PV} (r:CV h' (Fz c own) (λb=>own b=some i) d' v):
  St c own (ρ.set i (some d')) (up s (h') (tk))/\Cn c own own s (up s (h') (tk))/\∀b o,s.heap.get? b=some o->∃o',h'.get? b=some o':=by
 have had:∀b,W b->own b≠some EU:=λb hb e=>by rw[ha b hb] at e;cases e;exact ok.dumNot hi
 have NA:∀{b m},own b=some EU->s.heap.Ns b m->h'.Ns b m:=λ{b m}hb ⟨o',es,ep,Ah,r⟩=>⟨o',es,ep,k b o' (λe=>had b e hb) Ah,r⟩
 have Yq:∀{b v},s.heap.IsCell b v->h'.IsCell b v:=λ{b v}⟨o',Ah,Au⟩=>⟨o',k b o' (λe=>by
  refine AE (hW b e) λo ho md=>?_
  rw[ho] at Ah;cases Ah
  exact md.cell _ Au) Ah,Au⟩
 have hin:∀b o,s.heap.get? b=some o->∃o',h'.get? b=some o':=λb o' hb=>by
  by_cases e:W b
  ·exact hex b e
  ·exact⟨o',k b o' e hb⟩
 have Yc:∀{z v},Ed s.heap c.env z v->Ed h' c.env z v:=λ{z v}hz=>by
  rcases hz with⟨k1,m,hn,e⟩|⟨k1,b,hl,hc⟩
  ·exact .inl k1 m (NA x.loc.1 hn) e
  ·exact .inr k1 b hl (Yq hc)
 refine⟨⟨λb ob hb=>?_,λb hb=>?_,?_,x.locNew,λn b hb=>?_,x.cellNew,λb hb=>?_,x.ownNew,λz j e hz he=>?_⟩,⟨⟨h',tk,rfl⟩,λJ J J h=>h,λb ob hb ND J J J=>k b ob (λe=>?_) hb⟩,hin⟩
 ·have BG:¬W b:=λe=>by rw[x.ownNew b i (ha b e) hi] at hb;cases hb
  obtain⟨h1,sl,h2⟩:=x.base b ob hb;exact⟨λhf=>k b _ BG (h1 hf),sl,k b _ BG h2⟩
 ·obtain⟨h1,m,h2⟩:=x.fr b hb;exact⟨h1,m,NA h1 h2⟩
 ·obtain⟨h1,m,h2⟩:=x.loc;exact⟨h1,m,NA h1 h2⟩
 ·obtain⟨v,h1⟩:=x.cell n b hb;exact⟨v,Yq h1⟩
 ·obtain⟨o',Ah⟩:=x.ownIn b hb;exact hin b o' Ah
 ·rcases Jt he with⟨rfl,rfl⟩|⟨BG,Rt⟩
  ·have:z=y:=GP ok.nodupI hz hm;subst this;exact⟨_,Yc hv,by unfold DB;refine zr (XL hi) ?_;exact r⟩
  ·refine AE (x.vars z j e hz Rt) λv h1 h2=>?_
   refine⟨v,Yc h1,h2.kp (HB hW k λb e h=>by have q:=ha b e;rw[h.2] at q;cases q) λJ=>HB hW k λb e h=>?_⟩;have h:=h;rw[ha b e] at h;cases h;exact BG rfl
 ·rcases ND with h|⟨o1,vs,n,h1,h2,h3⟩
  ·rw[ha b e] at h;cases h
  ·refine AE (hW b e) λo ho md=>?_
   rw[ho] at h1;cases h1
   exact md.tup h2 _ _ h3
theorem St.Jj(ok:Ex c)(x:St c own ρ s)(hi:i∈c.mv)(hm:(y,i)∈c.names){a:Addr}(ha:own a=some i)(hv:Ed s.heap c.env y (.ref a))(ho:s.heap.get? a=some o)(hd:C8 o)
 (k:∀b o,b≠a->s.heap.get? b=some o->h'.get? b=some o) (hex:∃o,h'.get? a=some o) {d':PV} (r:CV h' (Fz c own) (λb=>own b=some i) d' (.ref a)):
  St c own (ρ.set i (some d')) (up s (h') (tk))/\Cn c own own s (up s (h') (tk))/\∀b o,s.heap.get? b=some o->∃o',h'.get? b=some o':=
 x.mutates ok hi hm (W:=λb=>b=a) (λb e=>e▸ha) hv (λb e=>⟨o,e▸ho,hd.pX⟩) k (λb e=>e▸hex) r
end
section
variable {f:EG}{cf:Nat->List PV->Res PV}{own:Addr->Option Nat}{ρ:AP}{s AG:Shared}{fr:Bool}
theorem Ff(hi:i∈f.c.mv){l:List PV}(r:DB h f.c own i (.list l) v):M7 h (λa=>own a=some i) v l.length (Rds h (Fz f.c own) l):=by
 unfold DB at r;rw[XL hi] at r;exact r
theorem Hj(hi:i∈f.c.mv){l:List (Key×PV)}(r:DB h f.c own i (.dict l) v):R4 h (λa=>own a=some i) v l (RdKV h (Fz f.c own) l):=by
 unfold DB at r;rw[XL hi] at r;exact r
theorem DB.grow(ok:Ex c)(x:St c own ρ s)(g:AX c.A s s'){i:Nat}(r:DB s.heap c own i d v):DB s'.heap c own i d v:=
 r.kp (x.kp (λa h=>Aq h) g.h) λhi=>x.kp (λa h e=>by rw[h] at e;cases e;exact ok.dumNot hi) g.h
theorem Ek{α:Type}{g:PV->Res α}{d:α}(h:(slot ρ i).bind g=.ok d):∃WH,ρ[i]?=some (some WH)/\g WH=.ok d:=by
 refine AE (AD h) λWH e h=>⟨WH,?_,h⟩
 unfold slot at e;split at e
 ·refine At e ?_;assumption
 ·cases e
theorem Kh (F:AL f) {e:Expr} {i:Nat} (hd:(y==("__debug__" : Str))=false) (hm:(y,i)∈f.c.names) (hi:i∈f.c.mv) (HO:AW f cf e a k) (hk:k.inner=true) (SA:AN e=false)
  (DS:(apos.endLine==BQ.line)=true) (hint:interactive f.c.env=false):Dz f cf fr (.Expr (.Call (.Attribute (.Name y yp) "append" apos) [e] [] BQ) pos) (.append i a):=by
 intro own ρ s o x he;refine AE (Ek (aV.symm.trans he)) λd0 SJ he=>?_
 have ND:starEach [e] f.c.env=[(false,eval e f.c.env)]:=AJ SA;refine wpAny_Expr ?_ hint rfl;refine A2A rfl ?_ DS A1b PySem.F.slot_list_append PySem.F.type_list_append ?_
 ·refine zr ND ?_;rfl
 refine A0Y (x.I8 F.ok hm SJ λv hv hr=>?_) (by simpa using hd);refine zr ND ?_;have hl:∃l,d0=.list l:=by
  cases d0 with
  |list l=>exact⟨l,rfl⟩
  |_=>exact Res.no he
 obtain⟨l,rfl⟩:=hl;refine AE (AD he) λd e1 he=>?_
 obtain⟨Kt,he⟩:=Bb he;refine At he ?_;obtain⟨ad,vs,rfl,DA,⟨n,hs⟩,hlen,yw⟩:=Ff hi hr;refine⟨⟨_,hs,rfl⟩,λa' q=>by injection q with q;subst q;exact⟨_,hs,rfl⟩,?_⟩;refine P.append_list (HO.at F x e1 λv AG g1 x1 r1=>?_);obtain⟨zf,DQ,hq,eo,⟨n',Mw⟩,LB,eY⟩:=Ff hi (DB.grow F.ok x g1 hr);injection hq with hq;subst hq;have EF:=eY.length;rw[yc] at EF;refine⟨DQ,n',?_,Mw,?_⟩
 ·exact zr EF (mu LB (by decide))
 dsimp only;have kk:∀b o,b≠ad->AG.heap.get? b=some o->(AG.heap.update ad (Obj.mapSeq λxs=>xs.push v)).get? b=some o:=λb o hb ho=>((A0f ..).2 b hb).trans ho
 obtain⟨o',Ah,Yo,Au,Yh⟩:∃o',(AG.heap.update ad (Obj.mapSeq λxs=>xs.push v)).get? ad=some o'/\o'={ cls:=.type "list",dict:=none,data:=.seq (DQ.push v) (Obj.mapSeq (λxs=>xs.push v) { cls:=.type "list",dict:=none,data:=.seq DQ n',slots:=#[] } |> λo=>match o.data with|.seq _ m=>m|_=>0),slots:=#[] }/\True/\True:=by
  refine⟨_,A1S _ Mw rfl,rfl,trivial,trivial⟩
 subst Yo;have Vy:Kp (Fz f.c own) AG.heap (AG.heap.update ad (Obj.mapSeq λxs=>xs.push v)):=J5 Mw (.inl ⟨_,_,rfl,rfl⟩) kk λh=>by rw[h.2] at DA;cases DA
 obtain⟨h1,h2,h3⟩:=x1.Jj F.ok hi hm DA (hv.grow g1.h) Mw (.inl ⟨_,_,rfl,rfl⟩) kk ⟨_,Ah⟩ (d':=.list (l++[d])) ⟨ad,DQ.push v,rfl,DA,⟨_,Ah⟩,by refine zr CZ ?_;exact(A0N Kt:l.length<Ab),by
  refine zr Array.toList_push ?_;exact Rds.append (Rds.to Vy l eY) (Rds.one (Rd.to Vy d (r1.rd x hk)))⟩
 exact⟨_,rfl,own,h1,(Cn.grow g1).trans h2 g1.FO,λb o hb=>let ⟨o1,DR⟩:=g1.FO b o hb;h3 b o1 DR⟩
theorem Jn(F:AL f){tp pos:Pos}{k:Cl}(ht:Ee f.c (Di f.c) (.Tuple es kd tp) (.many is))(HO:AW f cf value a k)(hk:k.inner=true)
  (hs:swapsWithSole [.Tuple es kd tp] value pos.line f.c.env=pure false) (hw:swappedStores [.Tuple es kd tp] value f.c.env=pure none):Dz f cf fr (.Assign [.Tuple es kd tp] value pos) (.unpack is a):=by
 intro own ρ s o x he;refine AE (AD (Rs.symm.trans he)) λd e1 he=>?_
 refine AE (AD he) λeG e2 he=>?_
 refine At he ?_;refine Assign_Tuple (HO.at F x e1 λv AG g1 x1 r1=>?_) hs hw;refine GK (λJ h=>h) F.ok F.ok.handled ht x1 (r1.rd x hk) e2 λs' x' st=>?_
 exact⟨eG,rfl,own,x',(Cn.grow g1).trans (Cn.stored x1 (λJ h=>h) st) g1.FO,λb o hb=>let ⟨o1,DR⟩:=g1.FO b o hb;st.FO x1 x' (λJ h=>h) b o1 DR⟩
theorem JG(F:AL f){a:PE}(HO:AW f cf e a k)(hk:(!fr||k==.fresh||k==.own)=true):Dz f cf fr (.Return (some e) pos) (.ret a):=by
 intro own ρ s o x he;refine AE (AD (E8.symm.trans he)) λd e1 he=>?_
 refine At he ?_;refine A19 (HO.at F x e1 λv AG g1 x1 r1=>?_);obtain⟨h1,t1,rfl,k1⟩:=id g1;refine⟨d,rfl,⟨h1,t1,rfl⟩,x1.base,?_⟩;unfold IX;cases fr with
 |false=>
  exact zr (Yf (by simp)) (Rd.imp (λa J J J p=>p.1) d (r1.any x))
 |true=>
  refine zr (XL rfl) ?_;cases k with
  |fresh=>exact CV.imp (λa _ _ _ (p:s.heap.get? a=none)=>x.BS p) (λa J J J p=>⟨p.1.1,p.2⟩) r1
  |own=>
   have key:∀{a:Addr},v=.ref a->own a≠none->CV h1 (Fz f.c own) (λa=>f.c.h0.get? a=none/\own a≠some EU/\own a≠none) d v->CV h1 (λb=>(f.c.P0 b\/f.c.h0.get? b=none)/\v≠.ref b) (λa=>f.c.h0.get? a=none) d v:=λ{a}hv ha r=>
    CV.imp (λa J J J p=>p.1) (λb J J J p=>⟨p.1,λe=>by rw[hv] at e;injection e with e;rw[e] at ha;exact ha p.2⟩) r
   cases d with
   |list l=>obtain⟨a,_,hv,ha,_⟩:=id r1;exact key hv ha.2.2 r1
   |dict l=>obtain⟨a,_,hv,ha,_⟩:=id r1;exact key hv ha.2.2 r1
   |obj th tu kd ff lf=>
    obtain⟨xa,dx,la,t,m,vs,us,hv,ox,od,oa,ot,hx,ns,am,sk,ne,im,q,ln,rr,n1,lt,dq,dr⟩:=r1;exact⟨xa,dx,la,t,m,vs,us,hv,ox.1,od.1,oa.1,ot.1,hx,ns,am,sk,ne,im,q,ln,Rds.Bj th im.1 rr,n1,lt,dq,RdKV.Bj tu im.2 dr⟩
   |none=>exact r1
   |bool _=>exact r1
   |int _=>exact r1
   |str _=>exact r1
   |tuple l=>
    refine Iz.el r1 λa vs n hs hl hr=>?_
    refine⟨a,vs,rfl,⟨n,hs⟩,hl,Rds.imp (λb o ho hc p=>⟨p.1,λq=>?_⟩) l hr⟩;injection q with q;subst q;rw[hs] at ho;cases ho
    rcases hc with(hc|hc)|hc|⟨_,_,hc⟩<;>simp at hc
  |safe=>cases hk
  |any=>cases hk
theorem C9.mono{fl:Flow}(h:Cn f.c own own1 s AG)(hin:∀b o,s.heap.get? b=some o->∃o',AG.heap.get? b=some o')(x:C9 f fr R own1 AG fl s'):C9 f fr R own s fl s':=by
 cases fl with
 |next=>
  obtain⟨ρ',e,own',x',ev,hi⟩:=x;exact⟨ρ',e,own',x',h.trans ev hin,λb o hb=>let ⟨o1,DR⟩:=hin b o hb;hi b o1 DR⟩
 |ret v=>
  obtain⟨d,e,⟨h2,t2,rfl⟩,g,r⟩:=x;obtain⟨⟨h1,t1,rfl⟩,_⟩:=h;exact⟨d,e,⟨h2,t2,rfl⟩,g,r⟩
 |brk=>exact x
 |cont=>exact x
theorem Hw(F:AL f){pos:Pos}(hc:EE f cf test c)(ha:E4 f cf fr body a)(hb:E4 f cf fr orelse b):Dz f cf fr (.If test body orelse pos) (.ite c a b):=by
 intro own ρ s o x he;refine AE (AD (Vi.symm.trans he)) λd e1 he=>?_
 cases d with
 |bool t=>
  refine wpAny_If (hc.at F x e1 λAG g1 x1=>?_);cases t with
  |true=>exact mj (ha own ρ AG o x1 he) (λfl s' q=>C9.mono (Cn.grow g1) g1.FO q) λJ J q=>q.imp g1.ups λJ e=>e
  |false=>exact mj (hb own ρ AG o x1 he) (λfl s' q=>C9.mono (Cn.grow g1) g1.FO q) λJ J q=>q.imp g1.ups λJ e=>e
 |_=>exact Res.no he
end
theorem Lz{target it body env}(I:Nat->Shared->Prop)
  (turn:∀n s,I n s->wpAny Md A (pyNext it) (λr AG=>match r with
   |none=>R (.ok .next) AG
   |some v=>wpAny Md A (letOwnedTupleGo target it v) (λJ AG=>wpAny Md A (assign target env v) (λJ s₂=>wpAny Md A (execs body env) (λf Bt=>match f with
     |.next|.cont=>∃m,m<n/\I m Bt
     |.brk=>R (.ok .next) Bt
     |.ret v=>R (.ok (.ret v)) Bt) (notedBy Md A env λe s'=>R (.error e) s') s₂) (notedBy Md A env λe s'=>R (.error e) s') AG) (notedBy Md A env λe s'=>R (.error e) s') AG) (notedBy Md A env λe s'=>R (.error e) s') s)
  (n:Nat) (h:I n s):codeAny Md A (.forLoop target it body [] env) R s:=by
 refine codeAny_loop' rfl I (λn s hI=>?_) n h;show wpAny _ _ ((forTurn target it body [] env).onRaise (λx=>do noteFrame x env;theTreesLotGoes x)) _ _ s;refine wpAny_noted ?_;simp only[forTurn];refine Xt (A1y (Xt (wpAny_onRaise (mj (turn n s hI) (λr AG Bl=>?_) λJ J h'=>A1y h'))));cases r with
 |none=>exact ml (.inr ⟨rfl,codeAny_block (ml Bl)⟩)
 |some v=>
  refine Xt (mj Bl (λJ AG Bl=>Xt (mj Bl (λJ s₂ Jf=>Xt (mj Jf (λf Bt NC=>?_) λJ J h'=>h')) λJ J h'=>h')) λJ J h'=>h');cases f with
  |next=>exact ml (.inl ⟨rfl,NC⟩)
  |cont=>exact ml (.inl ⟨rfl,NC⟩)
  |brk=>exact ml NC
  |ret v=>exact ml NC
theorem Cn.loose(e:Cn c own own' s AG){wr:List Addr}(k:∀b o,b∉wr->AG.heap.get? b=some o->h'.get? b=some o)(hw:∀b∈wr,s.heap.get? b=none):Cn c own own' s (up AG (h') (tk)):=by
 obtain⟨⟨h1,t1,rfl⟩,a1,b1⟩:=e;exact⟨⟨h',tk,rfl⟩,a1,λb o hb h2 h3 h4 h5=>k b o (λhm=>by rw[hw b hm] at hb;cases hb) (b1 b o hb h2 h3 h4 h5)⟩
inductive yT(f:EG)(cf:Nat->List PV->Res PV)(own:Addr->Option Nat)(b:List PS)(tg:Py)(ds:List PV)(fp wr:List Addr)(S:Nat->Heap->Prop)(P:Addr->Prop)(s:Shared)(out:Out)(n:Nat)(s':Shared):Prop where
 |mk (i:Nat) (ρ':AP) (own':Addr->Option Nat) (e:n=ds.length+1-i) (hi:i<=ds.length) (x:St f.c own' ρ' s') (hS:S i s'.heap) (ev:Cn f.c own own' s s') (hin:∀b o,s.heap.get? b=some o->∃o',s'.heap.get? b=some o') (st:∀b∈fp,IW own' s'.heap b) (hp:∀a,P a->own' a=none/\∃o,s'.heap.get? a=some o) (hw:∀b∈wr,own' b=none)
  (hg:An (λρ'=>exs cf ρ' b) tg (ds.drop i) ρ'=.ok out)
inductive yQ(f:EG)(cf:Nat->List PV->Res PV)(own:Addr->Option Nat)(c:PE)(b:List PS)(s:Shared)(out:Out)(n:Nat)(s':Shared):Prop where
 |mk (ρ':AP) (own':Addr->Option Nat) (x:St f.c own' ρ' s') (ev:Cn f.c own own' s s') (hin:∀b o,s.heap.get? b=some o->∃o',s'.heap.get? b=some o') (hg:Bw (λρ'=>Internal.ev cf ρ' c) (λρ'=>exs cf ρ' b) n ρ'=.ok out)
theorem Ud(F:AL f){tg:Py}(hb:E4 f cf fr body b)(ht:Ee f.c (Di f.c) target tg){P:Addr->Prop}
  (it:Rk f.c.A P I target fp wr ds S) (zR:∀a,P a->(f.c.P0 a\/f.c.h0.get? a=none)/\own a=none/\∃o,s₂.heap.get? a=some o) (hS:S 0 s₂.heap) (g:AX f.c.A s s₂) (I5:∀b∈wr,s.heap.get? b=none) (R9:∀b∈fp,IW own s₂.heap b) (NK:∀b∈fp,b∉frs f.c.A/\b≠f.c.env.locals)
  (x:St f.c own ρ s) {R:Result->Shared->Prop} {out:Out} (fK:An (λρ'=>exs cf ρ' b) tg ds ρ=.ok out)
  (hR:∀fl s',C9 f fr out own s fl s'->R (.ok fl) s') (hX:∀x s',XU f out s x s'->notedBy Md f.c.A f.c.env (λe s'=>R (.error e) s') x s'):
  codeAny Md f.c.A (.forLoop target (.ref I) body [] f.c.env) R s₂:=by
 refine Lz (yT f cf own b tg ds fp wr S P s out) ?_ (ds.length+1)
  ⟨0,ρ,own,rfl,A1x _,x.grow F.ok g,hS,Cn.grow g,g.FO,R9,λa p=>(zR a p).2,λb hb=>x.Co (I5 b hb),by simpa using fK⟩
 rintro n s1 ⟨i,ρ1,own1,rfl,hi,x1,Rv,aK,in1,st1,p1,w1,DT⟩;have loose:Loose f.c own1 s1 (λb=>b∈wr):=λb hb=>by
  refine Gr ((it.rec_ i s1.heap Rv) b hb) λo vs ho hd=>?_
  exact⟨x.BS (I5 b hb),o,ho,.inl ⟨vs,hd⟩⟩
 rcases Nat.lt_or_ge i ds.length with hlt|nq
 ·have hd:=TW hlt;rw[drop_eq_getElem_cons hlt] at DT;generalize ds[i]=d at hd DT;refine AE (AD (Ue.symm.trans DT)) λdc e3 DT=>?_
  refine AE (AD DT) λo3 e4 DT=>?_
  refine it.Yr (λJ J=>rfl) hd Rv ?_;intro v h2 VW mH Zy Ku;have R7:=it.live (i+1) h2 mH;have x2:St f.c own1 ρ1 (up s1 (h2) (VW)):=x1.change F.ok loose (λb hb ho=>absurd (w1 b hb) ho) λb o hb=>Ku b o hb
  have oy:∀b o,s1.heap.get? b=some o->∃o',h2.get? b=some o':=λb o hb=>by
   by_cases hw:b∈wr
   ·refine AE (R7 b (it.sub b hw)) λo' Ah J=>?_;exact⟨o',Ah⟩
   ·exact⟨o,Ku b o hw hb⟩
  have st2:∀b∈fp,IW own1 h2 b:=λb hb=>by
   by_cases hw:b∈wr
   ·exact .inl (w1 b hw)
   ·refine AE ((it.live i s1.heap Rv) b hb) λo ho J=>?_
    exact(st1 b hb).to ho (Ku b o hw ho) id
  refine GK (λJ h=>h) F.ok F.ok.handled ht x2 (Rd.imp (λa J J J p=>⟨(zR a p).1,(p1 a p).1⟩) d Zy) e3 λs3 x3 Zo=>?_
  have zV:=Cn.stored x2 (λJ h=>h) Zo;have yj:=Zo.FO x2 x3 (λJ h=>h);have k3:∀b∈fp,∀o,h2.get? b=some o->s3.heap.get? b=some o:=λb hb o ho=>by
   refine AE (R7 b hb) λo' Ah nW=>?_
   rw[ho] at Ah;cases Ah
   exact zV.3 b o ho (st2 b hb) (NK b hb).1 (NK b hb).2 nW
  have mG:=it.frame _ _ _ mH k3 (Zo.kp x2 (λJ h=>h) λa p e=>by rw[(p1 a p).1] at e;cases e);have R6:=it.live (i+1) s3.heap mG;have st3:∀b∈fp,IW own1 s3.heap b:=λb hb=>by
   refine AE (R7 b hb) λo ho J=>?_
   exact(st2 b hb).to ho (k3 b hb o ho) id
  have oz:=(aK.loose Ku I5:Cn f.c own own1 s (up s1 (h2) (VW))).trans zV λb o hb=>let ⟨o1,DR⟩:=in1 b o hb;oy b o1 DR
  have yk:∀b o,s.heap.get? b=some o->∃o',s3.heap.get? b=some o':=λb o hb=>by
   obtain⟨o1,DR⟩:=in1 b o hb;obtain⟨o2,NF⟩:=oy b o1 DR;exact yj b o2 NF
  refine mj (hb own1 dc s3 o3 x3 e4) (λfl s4 q=>?_) λJ J q=>hX _ _ (q.imp oz.1 λc e=>by subst e;exact(Lc DT).symm)
  ·cases fl with
   |next=>
    obtain⟨mZ,rfl,Zp,x4,Yp,in4⟩:=q;have k4:∀b∈fp,∀o,s3.heap.get? b=some o->s4.heap.get? b=some o:=λb hb o ho=>by
     refine AE (R6 b hb) λo' Ah nW=>?_
     rw[ho] at Ah;cases Ah
     exact Yp.3 b o ho (st3 b hb) (NK b hb).1 (NK b hb).2 nW
    have p3:∀a,P a->own1 a=none/\∃o,s3.heap.get? a=some o:=λa p=>by
     obtain⟨h1,o1,DR⟩:=p1 a p;obtain⟨o2,NF⟩:=oy a o1 DR;exact⟨h1,yj a o2 NF⟩
    refine⟨ds.length+1-(i+1),by exact bU hi,i+1,mZ,Zp,rfl,hlt,x4,it.frame _ _ _ mG k4 (λb o ho hm=>?_),oz.trans Yp yk,λb o hb=>let ⟨o1,DR⟩:=yk b o hb;in4 b o1 DR,λb hb=>?_,λa p=>?_,λb hb=>?_,DT⟩
    ·
     have ND:IW own1 s3.heap b/\∀v,o.data≠.cell v:=by
      rcases hm with⟨vs,n,Au,hc|⟨hp,hc⟩⟩|⟨es,n,Au,hp⟩|⟨Au,hp⟩
      ·exact⟨.inr ⟨o,vs,n,ho,hc,Au⟩,λv q=>by rw[Au] at q;cases q⟩
      ·exact⟨.inl (p3 b hp).1,λv q=>by rw[Au] at q;cases q⟩
      ·exact⟨.inl (p3 b hp).1,λv q=>by rw[Au] at q;cases q⟩
      ·exact⟨.inl (p3 b hp).1,λv q=>by rw[Au] at q;cases q⟩
     have SG:b∉frs f.c.A/\b≠f.c.env.locals:=by
      rcases hm with⟨vs,n,Au,_⟩|⟨es,n,Au,hp⟩|⟨_,hp⟩
      ·exact x3.Os ho λes m q=>by rw[Au] at q;cases q
      ·exact x3.HR λq=>by rw[(p3 b hp).1] at q;cases q
      ·exact x3.HR λq=>by rw[(p3 b hp).1] at q;cases q
     exact Yp.3 b o ho ND.1 SG.1 SG.2 ND.2
    ·refine AE (R6 b hb) λo ho J=>?_
     exact(st3 b hb).to ho (k4 b hb o ho) λh=>Yp.2 b o ho h
    ·obtain⟨h1,o1,DR⟩:=p3 a p;exact⟨Yp.2 a o1 DR h1,in4 a o1 DR⟩
    ·refine AE (R6 b (it.sub b hb)) λo ho J=>?_
     exact Yp.2 b o ho (w1 b hb)
   |ret v=>
    obtain⟨d',rfl,⟨h4,t4,rfl⟩,g4,r⟩:=q;obtain rfl:=Lc (x:=Out.ret d') DT;obtain⟨⟨h5,t5,rfl⟩,_⟩:=oz;exact hR (.ret v) _ ⟨d',rfl,⟨h4,t4,rfl⟩,g4,r⟩
   |brk=>exact q.elim
   |cont=>exact q.elim
 ·have M0:=kJ hi nq;subst M0;rw[drop_length] at DT;obtain rfl:=Lc (KG.symm.trans DT);refine it.Yt (λJ=>rfl) Rv λh2 VW Ku=>?_
  have x2:St f.c own1 ρ1 (up s1 (h2) (VW)):=x1.change F.ok loose (λb hb ho=>absurd (w1 b hb) ho) λb o hb=>Ku b o hb
  refine hR .next _ ⟨ρ1,rfl,own1,x2,aK.loose Ku I5,λb o hb=>?_⟩;obtain⟨o1,DR⟩:=in1 b o hb;exact⟨o1,Ku b o1 (λhm=>by rw[I5 b hm] at hb;cases hb) DR⟩
theorem RB(F:AL f)(LA:tup=true->∃elts k pos,target=.Tuple elts k pos)(hb:E4 f cf fr body b)(ht:Ee f.c (Di f.c) target tg)
 (F8:Kk f cf tup Dj kk src cl) (HP:cl.inner=true):
  Dz f cf fr (.For target Dj body [] pos) (.for_ tg kk src b):=by
 intro own ρ s o x he;refine AE (AD (zk.symm.trans he)) λxs h1 he=>?_
 refine AE (AD he) λds h2 he=>?_
 refine wpAny_For (mj (F8.2 LA ht.ok x (zr h1 h2)) (λxv AG q=>mj q (λit s₂ q=>?_) λJ J q=>q.elim) λJ J q=>q.elim) (F8.1 f.c.env);obtain⟨I,fp,wr,S,rfl,itr,oV,g,I5,R9,NH,NK⟩:=q;exact Ud F hb ht itr (λa p=>⟨p.1.1,p.1.2,p.2⟩) oV g I5 (R9 HP) NK x he (λfl s' q=>q) λx s' q=>XU.own q
theorem LN(F:AL f)(hc:EE f cf test c)(hb:E4 f cf fr body b):Dz f cf fr (.While test body [] pos) (.while_ c b):=by
 intro own ρ s out x he;refine wpAny_While (codeAny_whileLoop (yQ f cf own c b s out) ?_ Lx ⟨ρ,own,x,.refl,λb o h=>⟨o,h⟩,iV.symm.trans he⟩);rintro n s1 ⟨ρ1,own1,x1,aK,in1,DT⟩;cases n with
 |zero=>exact Res.no DT
 |succ n=>
  refine AE (AD DT) λd e1 DT=>?_
  cases d with
  |bool t=>
   refine hc.at F x1 e1 λs2 g2 x2=>?_
   have eB:=aK.trans (Cn.grow g2) in1;have yl:∀b o,s.heap.get? b=some o->∃o',s2.heap.get? b=some o':=λb o hb=>let ⟨o1,DR⟩:=in1 b o hb;g2.FO b o1 DR
   cases t with
   |false=>
    obtain rfl:=Lc (x:=Out.next ρ1) DT;exact ml ⟨ρ1,rfl,own1,x2,eB,yl⟩
   |true=>
    refine AE (AD DT) λo4 e4 DT=>?_
    refine mj (hb own1 ρ1 s2 o4 x2 e4) (λfl s4 q=>?_) λJ J q=>XU.own (q.imp eB.1 λc e=>by subst e;exact(Lc DT).symm)
    have q:=C9.mono eB yl q;cases fl with
    |next=>
     obtain⟨mZ,rfl,Zp,x4,Yp,in4⟩:=q;exact⟨n,lt_succ_self _,mZ,Zp,x4,Yp,in4,DT⟩
    |ret v=>
     obtain⟨d',rfl,r⟩:=q;obtain rfl:=Lc (x:=Out.ret d') DT;exact⟨d',rfl,r⟩
    |brk=>exact q.elim
    |cont=>exact q.elim
  |_=>exact Res.no DT
theorem Qn(F:AL f):E4 f cf fr [] []:=λown ρ s o x he=>by refine At he ?_;exact ml ⟨ρ,rfl,own,x,.refl,λb o h=>⟨o,h⟩⟩
theorem IQ(F:AL f){st:Stmt}(h1:Dz f cf fr st p)(h2:E4 f cf fr r ps):E4 f cf fr (st::r) (p::ps):=by
 intro own ρ s out x he;refine AE (AD (EO.symm.trans he)) λo1 e1 he=>?_
 refine A0W (mj (h1 own ρ s o1 x e1) (λfl s1 q=>?_) λJ J q=>q.imp ⟨_,_,rfl⟩ λc e=>by subst e;exact(Lc he).symm);cases fl with
 |next=>
  obtain⟨ρ1,rfl,own1,x1,aK,in1⟩:=q;exact mj (h2 own1 ρ1 s1 out x1 he) (λfl s2 q=>C9.mono aK in1 q) λJ J q=>q.imp aK.1 λJ e=>e
 |ret v=>
  obtain⟨d',rfl,r⟩:=q;obtain rfl:=Lc (x:=Out.ret d') he;exact⟨d',rfl,r⟩
 |brk=>exact q.elim
 |cont=>exact q.elim
section
variable {K:Type}[DecidableEq K]{knd:HeapKind prog w K}{A:Around}{E:Value->Shared->Prop}{s:Shared}
theorem FJ{xs:List (K×Addr×Value)}{k:K}(hu:knd.room A)(LC:knd.is s.heap k a)(hm:s.heap.DictOfH knd d xs)
  (hQ:∀h',h'.DictOfH knd d (storedH xs k a v)->Heap.SameBut d s.heap h'->Q () { s with heap:=h' })
  (EF:xs.length<=sizeLine):
  wpAny Md A (dictSetHashed d (.ref a) (knd.hash k) v) Q E s:=by
 obtain⟨o,es,ep,ho,hc,hd,he,Mz,hn⟩:=hm;unfold dictSetHashed
 try with_reducible refine A1Z ?_
 refine Xt (wpAny_dictFind_heap hu LC ho hd he Mz hn ?_ ?_)
 ·intro Z4;refine Xt (wpAny_rule (wpAny_updateDictKeys (hz:=by have e:=size_of_entries he;exact vR EF e) ho hd (hQ _ ⟨_,_,ep+1,A1S _ ho (Obj.isFreed_of_dict (Obj.data_mapDictKeys hd _)),
   hc.mapDictKeys _,Obj.data_mapDictKeys hd _,?_,?_,?_⟩ (A0f ..))))
  ·refine zr (storedH_new (atKey_none_of_get Z4) _ _) ?_;simp[he,entryOfKey]
  ·refine zr (storedH_new (atKey_none_of_get Z4) _ _) ?_;intro x hx;rcases XP.mp hx with hx|hx
   ·exact knd.keeps (Mz x hx) ho hd (A0f ..)
   ·simp only[List.mem_singleton] at hx;subst hx;exact knd.keeps LC ho hd (A0f ..)
  ·refine zr (storedH_new (atKey_none_of_get Z4) _ _) ?_;rw[A0D,A0S];refine⟨hn,by simp,?_⟩;intro x hx y hy;simp only[map_cons,map_nil,List.mem_singleton] at hy;subst hy;exact λe=>(not_mem_keys_of_get Z4) (e▸hx)
 ·intro j p hj;refine Xt (wpAny_rule (Xt (wpAny_updateDict ho hd (wpAny_point (hQ _ ⟨_,_,ep,A1S _ ho (Obj.isFreed_of_dict (Obj.data_mapDict hd _)),
   hc.mapDict _,Obj.data_mapDict hd _,?_,?_,?_⟩ (A0f ..))))))
  ·refine zr (storedH_old (atKey_of_get hn hj) _ _) ?_;have:=modify_map_putAt (entryOfKey knd) (λe:DictEntry=>{ e with val:=v }) k v (λJ J=>rfl) hn hj;rw[<-he] at this;obtain⟨l⟩:=es;simpa using this
  ·refine zr (storedH_old (atKey_of_get hn hj) _ _) ?_;intro x hx;refine AE (Ya.mp hx) λy hy Av=>?_;subst Av
   unfold putAt;split<;>exact knd.keeps (Mz y hy) ho hd (A0f ..)
  ·refine zr (storedH_old (atKey_of_get hn hj) _ _) ?_;exact zr (keys_map_putAt _ _ _) hn
noncomputable def A7(xs more:List (K×Addr×Value)):List (K×Addr×Value):=more.foldl (λacc x=>storedH acc x.1 x.2.1 x.2.2) xs
theorem Fj(xs more:List (K×Addr×Value))(i:Nat)(x:K×Addr×Value)(h:more[i]?=some x):A7 xs (more.take (i+1))=storedH (A7 xs (more.take i)) x.1 x.2.1 x.2.2:=by
 simp[A7,take_add_one,h,List.foldl_append]
theorem FU(xs:List (K×Addr×Value))(k:K)(a:Addr)(v:Value):(storedH xs k a v).length<=xs.length+1:=by
 unfold storedH;split<;>simp
theorem Fk(xs more:List (K×Addr×Value)):(A7 xs more).length<=xs.length+more.length:=by
 induction more generalizing xs with
 |nil=>simp[A7]
 |cons x rest ih=>
  have e1:=ih (storedH xs x.1 x.2.1 x.2.2);simp only[A7,foldl_cons,length_cons] at e1 ⊢;exact jo e1 (FU xs x.1 x.2.1 x.2.2)
theorem Ii(acc more:List (K×Addr×Value))(hn:((acc++more).map (·.1)).Nodup):A7 acc more=acc++more:=by
 induction more generalizing acc with
 |nil=>simp[A7]
 |cons x rest ih=>
  have NJ:atKey acc x.1=none:=by
   refine atKey_none_of_get λj p hj=>?_
   rw[A0D,A0Z,A0S] at hn;exact hn.2.2 x.1 (Ya.mpr ⟨_,A0C hj,rfl⟩) x.1 d4 rfl
  have:A7 acc (x::rest)=A7 (acc++[x]) rest:=by
   simp only[A7,foldl_cons,storedH_new NJ]
  refine zr this (zr (ih (acc++[x]) (by simpa using hn)) ?_);simp
theorem OD{α:Type}{g:α->Int}:∀{l:List α},(l.map g).Nodup->(l.filter λx=>g x==c).length<=1:=by
 intro l;induction l with
 |nil=>exact λ_=>by simp
 |cons x l HN=>
  intro h;simp only[map_cons,nodup_cons] at h;by_cases hx:(g x==c)=true
  ·have:l.filter (λx=>g x==c)=[]:=by
    rw[filter_eq_nil_iff];intro y hy hq;exact h.1 (Ya.mpr ⟨y,hy,(eq_of_beq hq).trans (eq_of_beq hx).symm⟩)
   refine zr filter_cons (zr (XL hx) (zr this ?_));simp
  ·exact zr filter_cons (zr (Yf hx) (HN h.2))
end
noncomputable abbrev tk:HeapKind prog w (List Int):=tupleKind (intKind prog w)
theorem ET{id:String}{es ep}{xs:List (List Int×Addr×Value)}(ho:s.heap.get? d=some o)(hd:o.data=.dict es ep)(he:es.toList=xs.map (entryOfKey (tk)))
  (Mz:∀x∈xs,(tk).is s.heap x.1 x.2.1) (hh:(xs.map λx=>(tk).hash x.1).Nodup) (h:Q es s):
  wpAny Md A (Builtin.Dict.entriesForEmpty id d) Q E s:=by
 unfold Builtin.Dict.entriesForEmpty;refine Xt (A18 ho hd ?_);refine Xt ?_;refine zr Array.forIn_toList.symm ?_;refine wpAny_forIn_list _ (λrest J s'=>s'=s/\∀e∈rest,e∈es.toList) _ ?_ ?_ _ _ ⟨rfl,λe h=>h⟩
 ·rintro e rest b s' ⟨rfl,hr⟩;have hm:=hr e d4;rw[he] at hm;refine AE (Ya.mp hm) λx hx Av=>?_;subst Av
  obtain⟨o',it,n,Ah,Yo,_⟩:=Mz x hx;refine Xt ?_;show wpAny _ _ (do return (<-specialOf (.ref x.2.1) "__eq__")==some (.builtin "object.__eq__")) _ _ s';refine Xt (wpAny_specialOf ⟨o',Ah,Yo⟩ F.slot_tuple_eq.lookup (ml ?_));have EF:¬(es.filter (λy=>y.hash==(entryOfKey (tk) x).hash)).size>1:=by
   have h1:(es.filter (λy=>y.hash==(entryOfKey (tk) x).hash)).size=(es.toList.filter (λy=>y.hash==(entryOfKey (tk) x).hash)).length:=by
    exact zr yc.symm (zr Array.toList_filter rfl)
   rw[h1,he,List.filter_map,KK];exact Nat.not_lt.mpr (OD (c:=(tk).hash x.1) hh)
  refine zr (by decide:(some (Value.builtin "tuple.__eq__")==some (Value.builtin "object.__eq__"))=false) ?_;simp only[Bool.not_false,if_true,if_neg EF];exact ml ⟨rfl,λe h=>hr e (kV _ h)⟩
 ·rintro b s' ⟨rfl,_⟩;exact ml h
theorem Lp{es ep}{xs:List (List Int×Addr×Value)}(ho:h.get? d=some o)(hd:o.data=.dict es ep)(hs:Heap.SameBut d h h')(hx:∀x∈xs,(tk).is h x.1 x.2.1):∀x∈xs,(tk).is h' x.1 x.2.1:=
 λx hm=>(tk).keeps (hx x hm) ho hd hs
theorem Hq{Q:Unit->Shared->Prop}(hu:(tk).room A)(Kw:d≠o)(nS:(o==sysModules)=false)
  (hd:s.heap.DictOfH (tk) d xs) (ho:s.heap.DictOfH (tk) o more) (hh:xs=[]->(more.map λx=>(tk).hash x.1).Nodup)
  (hQ:∀h',h'.DictOfH (tk) d (A7 xs more)->Heap.SameBut d s.heap h'->Q () { s with heap:=h' })
  (EF:xs.length+more.length<=sizeLine):
  wpAny Md A (Builtin.Dict.mergeDict nm d o) Q E s:=by
 obtain⟨od,esd,epd,f9,WG,VZ,hed,hid,Yj⟩:=id hd;obtain⟨oo,Vf,epo,ey,hco,GD,m9,nj,Z4⟩:=id ho;unfold Builtin.Dict.mergeDict;refine zr (Yf (by simpa using Kw)) ?_;unfold Builtin.Dict.showsAll;refine zr (Yf (by refine zr nS ?_;exact A0O)) ?_;refine Xt (ml ?_);refine Xt (A18 ey GD ?_);have hlen:=(size_of_entries m9).symm;have loop:wpAny Md A (do
   let fj <-dictEpoch o;let l <-dictEntries o
   forIn [:l.size] PUnit.unit λi (_:PUnit)=>(do
     let l' <-dictEntries o
     match l'[i]? with
      |some e=>do
       holding [e.key,e.val] (dictSetHashed d e.key e.hash e.val)
       let zW <-dictEpoch o
       if(zW != fj)=true then do
         (unsupported (toString nm++toString ":source-changed-during-callback"):Sem PUnit)
         pure (ForInStep.yield PUnit.unit)
        else pure (ForInStep.yield PUnit.unit)
      |_=>do
       (unsupported "internal:dict-merge" : Sem PUnit)
       pure (ForInStep.yield PUnit.unit):Sem (ForInStep PUnit))
   pure ()) Q E s:=by
  refine Xt (wpAny_dictEpoch ey GD ?_);refine Xt (A18 ey GD ?_);refine Xt ?_;refine zr (Std.Legacy.Range.forIn_eq_forIn_range' _ _ _) ?_;simp only[Std.Legacy.Range.size,Nat.sub_zero,Nat.add_sub_cancel,Nat.div_one];refine wpAny_forIn_list _
   (λrest J s'=>∃h' i,s'={ s with heap:=h' }/\rest=List.range' i (Vf.size-i)/\i<=Vf.size/\h'.DictOfH (tk) d (A7 xs (more.take i))/\h'.get? o=some oo/\Heap.SameBut d s.heap h')
   _ ?_ ?_ _ _ ⟨s.heap,0,rfl,by simp,A1x _,by simpa [A7] using hd,ey,Heap.SameBut.refl _ _⟩
  ·rintro x rest b s' ⟨h',i,rfl,hr,hi,Au,Z0,Mw⟩;have hlt:i<Vf.size:=by
    rcases Nat.lt_or_ge i Vf.size with h|h
    ·exact h
    ·rw[Nat.sub_eq_zero_of_le h] at hr;simp at hr
   obtain⟨rfl,ej⟩:x=i/\rest=List.range' (i+1) (Vf.size-(i+1)):=by
    have e:=xX hlt;rw[e,A1e] at hr;injection hr with h1 h2;exact⟨h1,h2⟩
   refine Xt (A18 Z0 GD ?_);have hx:more[x]?=some (more[x]'(zr hlen hlt)):=TW _;generalize more[x]'(zr hlen hlt)=kv at hx;refine zr (by refine zr (entry_at m9 x) (zr hx ?_);rfl:Vf[x]?=some (entryOfKey (tk) kv)) ?_;have fC:(A7 xs (more.take x)).length<=sizeLine:=by
    exact vP EF (Fk xs (more.take x)) (by refine zr A0V ?_;exact vQ:(more.take x).length<=more.length)
   refine Xt (A1Z (FJ (knd:=tk) hu (Lp f9 VZ Mw nj kv (A0C hx)) Au (λfh oJ eW=>?_) fC));have Yi:=(eW.2 o (Ne.symm Kw)).trans Z0;refine Xt (wpAny_dictEpoch Yi GD ?_);refine zr (Yf (by simp)) ?_;exact ml ⟨fh,x+1,rfl,ej,hlt,by refine zr (Fj xs more x kv hx) ?_;exact oJ,Yi,Mw.trans eW⟩
  ·rintro b s' ⟨h',i,rfl,hr,hi,Au,Z0,Mw⟩;have hin:i=Vf.size:=by
    rcases Nat.lt_or_ge i Vf.size with h|h
    ·have e:=xX h;rw[e,A1e] at hr;exact nomatch hr
    ·exact Nat.le_antisymm hi h
   refine ml (hQ h' ?_ Mw);rw[hin,<-hlen,take_length] at Au;exact Au
 dsimp only;split
 ·refine Xt (A18 f9 VZ ?_);split
  ·rename_i ny;have fG:xs=[]:=by
    have h0:=Array.isEmpty_iff.mp ny;have:=size_of_entries hed;rw[h0] at this;exact A1R.mp (by simpa using this.symm)
   have hh':=hh fG;subst fG;refine Xt (ET ey GD m9 nj hh' ?_);rw[Ii [] more (by simpa using Z4),nil_append] at hQ;split
   ·have hto:Vf.size<=sizeLine+1:=by
     simp only[length_nil,Nat.zero_add] at EF;exact vJ hlen EF
    have G7:Heap.SameBut d s.heap (s.heap.update d (Obj.mapDictKeys λJ=>Vf)):=A0f ..;refine Xt (wpAny_updateDictKeysTo f9 VZ (ml (hQ _ ⟨_,_,epd+1,A1S _ f9 (Obj.isFreed_of_dict (Obj.data_mapDictKeys VZ _)),WG.mapDictKeys _,
     Obj.data_mapDictKeys VZ _,m9,Lp f9 VZ G7 nj,Z4⟩ G7)) hto)
   ·rename_i BG;have h0:=Array.isEmpty_iff.mp (by simpa using BG);have Rp:=A1R.mp (zr hlen (zr h0 rfl));subst Rp;exact ml (hQ _ hd (Heap.SameBut.refl _ _))
  ·exact loop
 ·exact loop
theorem Fm(d o:Addr)(Kw:d≠o)(nS:(o==sysModules)=false):
  MeetsIn prog w (Builtin.«dict.update» ⟨[.ref d,.ref o],[]⟩) (λA R s=>(tk).room A.in1/\∃xs more,s.heap.DictOfH (tk) d xs/\s.heap.DictOfH (tk) o more/\(xs=[]->(more.map λx=>(tk).hash x.1).Nodup)/\xs.length+more.length<=sizeLine /\
   ∀h',h'.DictOfH (tk) d (A7 xs more)->Heap.SameBut d s.heap h'->R (.ok (.ret .none)) { s with heap:=h' }):=
 .of_wp λA R s ⟨hu,kvs,more,hd,ho,hh,EF,h⟩=>by
  unfold Builtin.«dict.update»;refine Xt ?_;unfold Builtin.Dict.selfAndRest;refine Xt (wpAny_notOrdered_dict hd.typeIs ?_);show wpAny _ _ (pure (d,[Value.ref o])) _ _ s;refine ml ?_;show wpAny _ _ (Builtin.Dict.updateFrom "dict.update" d (.ref o) [] .none) _ _ s;unfold Builtin.Dict.updateFrom;refine Xt (wpAny_typeOf ho.typeIs ?_);refine zr (Yf (by decide)) ?_;refine Xt ?_;unfold Builtin.Dict.merge;refine Xt ?_
  ·unfold Builtin.Dict.readDirectly;refine Xt (wpAny_isInstance ho.typeIs isSubtype_dict_dict ?_);simp only[Bool.not_true,Bool.false_eq_true,if_false];refine Xt (wpAny_specialOf ho.typeIs F.slot_dict_iter.lookup (ml ?_));simp only[beq_self_eq_true,if_true];refine Xt (ml ?_);refine Hq hu Kw nS hd ho hh (λh' Au Mw=>?_) EF;show wpAny _ _ (Builtin.Dict.addKeywords d [] >>= _) _ _ _;exact Xt (ml (ml ⟨.none,rfl,h h' Au Mw⟩))
theorem IK(l:List (Key×PV))(k:Key)(d:PV):(Aj l k d).length<=l.length+1:=by unfold Aj;split<;>simp
theorem Uu(l m:List (Key×PV)):(GX l m).length<=l.length+m.length:=by
 induction m generalizing l with
 |nil=>simp[GX]
 |cons p m ih=>
  have e1:=ih (Aj l p.1 p.2);simp only[GX,foldl_cons,length_cons] at e1 ⊢;exact jo e1 (IK l p.1 p.2)
theorem JV{α:Type}{g:α->Key}{val:α->Value}{put:α->α}{has:Bool}{new:α}(hd:Rd h P d v)(nO:∀x,g (put x)=g x/\val (put x)=if g x=k then v else val x)(Gp:g new=k/\val new=v):∀{l:List (Key×PV)}{xs:List α},l.map (·.1)=xs.map g->RdKV h P l (xs.map val) ->
   (l.map λp=>if p.1=k then(p.1,d) else p).map (·.1)=(xs.map put).map g/\RdKV h P (l.map λp=>if p.1=k then(p.1,d) else p) ((xs.map put).map val) /\
   (l++[(k,d)]).map (·.1)=(xs++[new]).map g/\RdKV h P (l++[(k,d)]) ((xs++[new]).map val):=by
 intro l;induction l with
 |nil=>
  intro xs e r;cases xs with
  |nil=>exact⟨rfl,rfl,by simp[Gp.1],⟨v,[],by simp[Gp.2],hd,rfl⟩⟩
  |cons _ _=>simp at e
 |cons pq l ih=>
  intro xs e r;obtain⟨k',d'⟩:=pq;cases xs with
  |nil=>simp at e
  |cons x xs=>
   simp only[map_cons,List.cons.injEq] at e;obtain⟨v',r',e2,a,b⟩:=r;simp only[map_cons,List.cons.injEq] at e2;obtain⟨rfl,rfl⟩:=e2;obtain⟨h1,h2,h3,h4⟩:=ih e.2 b;obtain⟨p1,p2⟩:=nO x;refine⟨?_,?_,?_,?_⟩
   ·simp only[map_cons,List.cons.injEq];refine⟨?_,h1⟩;refine zr p1 (zr e.1.symm ?_);split<;>rfl
   ·simp only[map_cons];refine zr p2 (zr e.1.symm ?_);split
    ·exact⟨v,_,rfl,hd,h2⟩
    ·exact⟨val x,_,rfl,a,h2⟩
   ·simp only[cons_append,map_cons,List.cons.injEq];exact⟨e.1,h3⟩
   ·exact⟨val x,_,rfl,a,h4⟩
theorem MO{i:Int}{d:PV}(hd:Rd h P d v)(e:l.map (·.1)=kvs.map (λp=>Key.int p.1))(r:RdKV h P l (kvs.map (·.2))):
  (Aj l (.int i) d).map (·.1)=(stored kvs i v).map (λp=>Key.int p.1)/\RdKV h P (Aj l (.int i) d) ((stored kvs i v).map (·.2)):=by
 obtain⟨h1,h2,h3,h4⟩:=JV (val:=(·.2)) (k:=.int i) (put:=λkv=>if kv.1=i then(kv.1,v) else kv) (has:=true) (new:=(i,v)) hd
  (λx=>by by_cases q:x.1=i<;>simp[q]) ⟨rfl,rfl⟩ e r
 have oQ:Bs l (.int i)=kvs.any (λkv=>kv.1=i):=by
  have hv:=(Dp (i:=i) e r).1;refine zr hv ?_;clear hv h1 h2 h3 h4 e r
  induction kvs with
  |nil=>rfl
  |cons p ps ih=>
   by_cases q:p.1=i
   ·simp[valueAt,q]
   ·simp only[any_cons,q,decide_false,Bool.false_or];refine zr ih.symm ?_;simp[valueAt,q]
 unfold Aj stored;refine zr oQ ?_;split
 ·exact⟨h1,h2⟩
 ·exact⟨h3,h4⟩
theorem MN{i:List Int}{d:PV}(hd:Rd h P d v){xs:List (List Int×Addr×Value)}(e:l.map (·.1)=xs.map (λp=>Key.tup p.1))(r:RdKV h P l (xs.map (·.2.2))):
  (Aj l (.tup i) d).map (·.1)=(storedH xs i a v).map (λp=>Key.tup p.1)/\RdKV h P (Aj l (.tup i) d) ((storedH xs i a v).map (·.2.2)):=by
 obtain⟨h1,h2,h3,h4⟩:=JV (g:=λp:List Int×Addr×Value=>Key.tup p.1) (val:=(·.2.2)) (put:=putAt i v) (has:=true) (new:=(i,a,v)) hd
  (λx=>by unfold putAt;by_cases q:x.1=i<;>simp[q]) ⟨rfl,rfl⟩ e r
 unfold Aj storedH;refine zr ((FM (i:=i) e r).1) ?_;split
 ·exact⟨h1,h2⟩
 ·exact⟨h3,h4⟩
theorem Ut:∀{m:List (Key×PV)}{more:List (List Int×Addr×Value)}{l:List (Key×PV)}{xs:List (List Int×Addr×Value)},m.map (·.1)=more.map (λp=>Key.tup p.1)->RdKV h P m (more.map (·.2.2))->l.map (·.1)=xs.map (λp=>Key.tup p.1)->RdKV h P l (xs.map (·.2.2)) ->
  (GX l m).map (·.1)=(A7 xs more).map (λp=>Key.tup p.1)/\RdKV h P (GX l m) ((A7 xs more).map (·.2.2)):=by
 intro m;induction m with
 |nil=>
  intro more l xs e r e' r';cases more with
  |nil=>exact⟨e',r'⟩
  |cons _ _=>simp at e
 |cons pq m ih=>
  intro more l xs e r e' r';obtain⟨k,d⟩:=pq;cases more with
  |nil=>simp at e
  |cons x more=>
   simp only[map_cons,List.cons.injEq] at e;obtain⟨v',r1,e2,a,b⟩:=r;simp only[map_cons,List.cons.injEq] at e2;obtain⟨rfl,rfl⟩:=e2;obtain⟨rfl,e3⟩:=e;obtain⟨h1,h2⟩:=MN a e' r';have:=ih e3 b h1 h2;exact this
theorem Om.stored (x:Om h xs) (q:∃us,SeqAt h "tuple" a us/\us.size<=Ab):Om h (storedH xs i a v):=λy hy=>by
 unfold storedH at hy;split at hy
 ·refine AE (Ya.mp hy) λz hz Av=>?_;subst Av
  unfold putAt;split<;>exact x z hz
 ·rcases XP.mp hy with hy|hy
  ·exact x y hy
  ·exact zr (YP.mp hy) q
theorem Om.merged:∀{more xs:List (List Int×Addr×Value)},Om h xs->Om h more->Om h (A7 xs more):=by
 intro more;induction more with
 |nil=>exact λ{_}x _=>x
 |cons p more ih=>exact λ{xs}x q=>ih (x.stored (q p d4)) λy hy=>q y (kV _ hy)
theorem Om.but{es n}(x:Om h xs)(ho:h.get? d=some o)(hd:o.data=.dict es n)(hs:Heap.SameBut d h h'):Om h' xs:=λy hy=>by
 refine AE (x y hy) λus eI l=>?_;obtain⟨m,q⟩:=eI
 refine⟨us,⟨m,(hs.2 _ λe=>?_).trans q⟩,l⟩;rw[e,ho] at q;cases q;cases hd
theorem DF(x:Bi h a ks vs):∃o es n,h.get? a=some o/\o.data=.dict es n/\o.cls=.type "dict" /\ o.dict=none:=by
 rcases x with⟨_,⟨o,es,ep,ho,hx,hd,_⟩,_⟩|⟨_,⟨o,es,ep,ho,hx,hd,_⟩,_⟩<;>exact⟨o,es,ep,ho,hd,hx.1,hx.2.1⟩
set_option tactic.hygienic true in
theorem Ie (F:AL f) (hd:(y==("__debug__" : Str))=false) (hm:(y,i)∈f.c.names) (hi:i∈f.c.mv) (HO:AW f cf value a k) (hk:k.inner=true) (heb:AW f cf ix b kb) (fH:kb.inner=true)
  (hs:swapsWith value (some (.Subscript (.Name y yp) ix sp)) pos.line f.c.env=pure false):Dz f cf fr (.Assign [.Subscript (.Name y yp) ix sp] value pos) (.setItem i b a):=by
 intro own ρ s o x he;refine AE (AD (sM.symm.trans he)) λd e1 he=>?_
 refine AE (Ek he) λd0 SJ he=>?_
 cases d0 with
 |dict l=>
  refine AE (AD he) λkd e3 he=>?_
  refine wpAny_Assign_Subscript (HO.at F x e1 λv AG g1 x1 r1=>A0Y (x1.I8 F.ok hm SJ λv0 hv hr=>heb.at F x1 e3 λkv s₂ g2 x2 r2=>?_) (by simpa using hd)) hs;obtain⟨ad,vs,dg,DA,oU,hlen,hq,QE⟩:=Hj hi (DB.grow F.ok x1 g2 hr);subst dg;have eQ:Rd s₂.heap (Fz f.c own) d v:=Rd.to (x1.kp (λa h=>Aq h) g2.h) d (r1.rd x hk);have LC:=r2.rd x1 fH;split at he
  ·rename_i kk Yl;obtain⟨hc,he⟩:=Bb he;refine At he ?_;have hc:=ra.1 hc;refine WL (DF hq) λo0 pC n0 dp WE mC J=>?_
   have inn:∀b o,s.heap.get? b=some o->∃o',s₂.heap.get? b=some o':=λb o hb=>let ⟨o1,DR⟩:=g1.FO b o hb;g2.FO b o1 DR
   have fin:∀h' tk,Heap.SameBut ad s₂.heap h'->(∀DQ,Bi h' ad ((Aj l kk d).map (·.1)) DQ->RdKV s₂.heap (Fz f.c own) (Aj l kk d) DQ->C9 f fr (.next (ρ.set i (some (.dict (Aj l kk d))))) own s .next (up s₂ (h') (tk))):=by
    intro h' tk G7 DQ Yh dk;have k':∀b o,b≠ad->s₂.heap.get? b=some o->h'.get? b=some o:=λb o hb ho=>(G7.2 b hb).trans ho
    have Vy:Kp (Fz f.c own) s₂.heap h':=J5 dp (.inr ⟨_,_,WE⟩) k' λh=>by rw[h.2] at DA;cases DA
    refine pi (DF Yh) λo1 J J DR J=>?_
    obtain⟨h1,h2,h3⟩:=x2.Jj F.ok hi hm DA (hv.grow g2.h) dp (.inr ⟨_,_,WE⟩) k' ⟨o1,DR⟩ (d':=.dict (Aj l kk d)) ⟨ad,DQ,rfl,DA,oU,by exact vH (A0N hc.2) (IK l kk d),Yh,RdKV.to Vy _ dk⟩;exact⟨_,rfl,own,h1,((Cn.grow g1).trans (Cn.grow g2) g1.FO:Cn f.c own own s s₂).trans h2 inn,λb o hb=>let ⟨o1,DR⟩:=inn b o hb;h3 b o1 DR⟩
   have LB:=(RdKV.aQ QE).length;have EF:l.length<=sizeLine:=mu hlen (by decide);cases kd with
   |int j=>
    cases Yl
    refine CB LC λt=>?_
    refine Ca (hq.int hc.1) λkvs Kw e5 e6=>?_
    rw[e6] at QE;obtain⟨q1,q2⟩:=MO eQ e5 QE;have I7:kvs.length<=sizeLine:=by have:=A0U List.length e5;simp only[length_map] at this;exact jm EF this
    refine wpAny_setItem_pairs (Ci j t) Kw (λh' GD G7=>?_) I7;exact fin h' _ G7 _ (.inl ⟨_,GD,q1,rfl⟩) q2
   |tuple tl=>
    simp only[PV.GF,Option.map_eq_some_iff] at Yl;refine AE Yl λis Mz Av=>?_;subst Av
    refine Iz.el LC λka us m zA hkn zB=>?_
    refine DU (hq.tup hc.1) λxs Kw e5 e6 nI=>?_
    rw[e6] at QE;obtain⟨q1,q2⟩:=MN eQ e5 QE;have I7:xs.length<=sizeLine:=by have:=A0U List.length e5;simp only[length_map] at this;exact jm EF this
    refine wpAny_setItem_heap (A1z (by exact TZ F.ok.units)) (⟨_,us,m,zA,rfl,rfl,CJ Mz zB⟩:(tupleKind (intKind prog w)).is s₂.heap is ka) Kw (λh' GD G7=>?_) I7;exact fin h' _ G7 _ (.inr ⟨_,GD,q1,rfl,(nI.stored ⟨us,⟨m,zA⟩,zr yc.symm (zr zB.length hkn)⟩).but dp WE G7⟩) q2
   |_=>cases Yl
  ·exact Res.no he
 |_=>exact Res.no he
theorem Jm (F:AL f) (hd:(y==("__debug__" : Str))=false) (hm:(y,i)∈f.c.names) (hi:i∈f.c.mv) (HO:AW f cf e a k) (hk:k.inner=true) (SA:AN e=false)
  (DS:(apos.endLine==BQ.line)=true) (hint:interactive f.c.env=false):Dz f cf fr (.Expr (.Call (.Attribute (.Name y yp) "update" apos) [e] [] BQ) pos) (.update i a):=by
 intro own ρ s o x he;refine AE (Ek (zl.symm.trans he)) λd0 SJ he=>?_
 cases d0 with
 |dict l=>
  refine AE (AD he) λd e1 he=>?_
  cases d with
  |dict m=>
   obtain⟨hc,he⟩:=Bb he;refine At he ?_;simp only[Bool.and_eq_true,decide_eq_true_eq,Bool.or_eq_true,Bool.not_eq_true'] at hc;obtain⟨⟨⟨Z8,Z7⟩,Kt⟩,hh⟩:=hc;have ND:starEach [e] f.c.env=[(false,eval e f.c.env)]:=AJ SA;refine wpAny_Expr ?_ hint rfl;refine A2A rfl ?_ DS PySem.F.plainAttrs_dict PySem.F.slot_dict_update PySem.F.type_dict_update ?_
   ·refine zr ND ?_;rfl
   refine A0Y (x.I8 F.ok hm SJ λv hv hr=>?_) (by simpa using hd);refine zr ND ?_;obtain⟨ad,vs,rfl,DA,oU,hlen,hq,QE⟩:=Hj hi hr;refine WL (DF hq) λo0 pC n0 dp WE mC oA=>?_
   refine⟨⟨_,dp,mC⟩,λa' q=>by injection q with q;subst q;exact⟨_,dp,oA⟩,?_⟩;refine method1_meetsIn PySem.F.slot_dict_update PySem.F.entry_dict_update (HO.at F x e1 λv AG g1 x1 r1=>?_);obtain⟨zf,DQ,nN,eo,ha1',LB,Yh,Ye⟩:=Hj hi (DB.grow F.ok x g1 hr);injection nN with nN;subst nN;refine R4.el (r1.rd x hk) λam vm hPm oR hlm hqm yx=>?_
   refine DU (Yh.tup Z8) λxs Kw e5 e6 nI=>?_
   refine DU (hqm.tup Z7) λmore hdm e7 e8 htm=>?_
   rw[e6] at Ye;rw[e8] at yx;have BG:ad≠am:=λe=>by rw[e] at DA;rw[hPm.2] at DA;cases DA
   obtain⟨q1,q2⟩:=Ut e7 yx e5 Ye;refine WL (DF Yh) λo1 es1 n1 DR Z9 fV J=>?_
   have yn:xs.length=l.length:=by have:=A0U List.length e5;simp only[length_map] at this;exact jn this
   refine⟨⟨_,DR,fV⟩,PySem.F.args_dict_update_2 _ _,_,Fm ad am BG (FT oR),A1z (by exact TZ F.ok.units),xs,more,Kw,hdm,λhx=>?_,?_,λh' GD G7=>?_⟩
   ·have hle:l=[]:=by subst hx;exact A1R.mp yn.symm
    rcases hh with h1|h1
    ·rw[hle] at h1;cases h1
    ·have:(m.map λp=>Cv p.1)=more.map λx=>(tk).hash x.1:=by
      have:=A0U (List.map Cv) e7;rw[A0g,A0g] at this;exact this
     exact zr this.symm h1
   ·unfold Ab at Kt;refine zr yn (zr (by have:=A0U List.length e7;simp only[length_map] at this;exact jn this:more.length=m.length) ?_);have:sizeLine≥16777216:=by decide
    exact vF Kt this
   ·have k':∀b o,b≠ad->AG.heap.get? b=some o->h'.get? b=some o:=λb o hb ho=>(G7.2 b hb).trans ho
    have Vy:Kp (Fz f.c own) AG.heap h':=J5 DR (.inr ⟨_,_,Z9⟩) k' λh=>by rw[h.2] at DA;cases DA
    obtain⟨o2,es2,ep2,NF,_⟩:=id GD;obtain⟨h1,h2,h3⟩:=x1.Jj F.ok hi hm DA (hv.grow g1.h) DR (.inr ⟨_,_,Z9⟩) k' ⟨o2,NF⟩ (d':=.dict (GX l m)) ⟨ad,_,rfl,DA,oU,by exact vE Kt (Uu l m),.inr ⟨_,GD,q1,rfl,(nI.merged htm).but DR Z9 G7⟩,RdKV.to Vy _ q2⟩;exact⟨_,rfl,own,h1,(Cn.grow g1).trans h2 g1.FO,λb o hb=>let ⟨o1,DR⟩:=g1.FO b o hb;h3 b o1 DR⟩
  |_=>exact Res.no he
 |_=>exact Res.no he
theorem Re(P:PlainAt h AQ C N mN):W.Makes Md h C:=by
 obtain⟨nm,q,bs,sn,sub,col,dd,k0,k1,k2,k3,k5,hC⟩:=P.cls.obj;refine⟨⟨_,_,_,_,hC,rfl,rfl,rfl⟩,λA Q E s k hq=>?_,λA Q E s k hq=>?_,λA Q E s k hq=>?_,λA Q E s k hq=>?_,λA Q E s k hq=>?_,λA Q E s k hq=>?_⟩
 ·exact wpAny_madeBy_exc (k _ _ hC) hq
 ·exact wpAny_staticBase_exc (k _ _ hC) hq
 ·exact wpAny_isSubtype_exc (k _ _ hC) (zr (by simp:(Value.ref C::[Value.type "object"]).contains (.ref C)=true) hq)
 ·exact wpAny_isSubtype_exc (k _ _ hC) (zr (by simp:(Value.ref C::[Value.type "object"]).contains (.type "object")=true) hq)
 ·exact wpAny_specialOf (T := "type") ⟨_,k _ _ hC,rfl⟩ tc_lookup hq
 ·exact wpAny_isInstance (T := "type") ⟨_,k _ _ hC,rfl⟩ (by refine zr (isSubtype_type _ _) ?_;kernel_rfl) hq
theorem Nx (P:PlainAt h AQ C N mN) (hi:mN ("__init__" : Str)=some (.ref fI)):W.Looks Md h (typeLookup (.ref C) ("__init__" : Str)) (some (.ref fI)):=λA Q E s k hq=>by
 obtain⟨nm,q,bs,sn,sub,col,dd,k0,k1,k2,k3,k5,hC⟩:=P.cls.obj;obtain⟨hh,g,d,t,os⟩:=s;refine wpAny_typeLookup_exc (B := "object") (y:=some (.builtin "object.__init__")) (k _ _ hC) (P.cls.ns.keeps k) (by kernel_rfl) (by refine zr (A0t _ _) (zr A0a ?_);kernel_rfl) ?_;exact zr hi hq
theorem T1 (P:PlainAt s.heap AQ C N mN) (hi:mN ("__init__" : Str)=some (.ref fI)) (ho:s.heap.get? fI=some oI) (hc:oI.cls=.type "function")
  (hq:codeAny Md (A.under (.builtin "type.__call__" ⟨.ref C::rest,[]⟩)) (.call (.ref fI) ⟨.ref (s.heap.objs.size+1)::rest,[]⟩) (W.InitBack (s.heap.objs.size+1) R) { s with heap:=(s.heap.push { cls:=.type "dict",data:=.dict #[] }).push { cls:=.ref C,dict:=some s.heap.objs.size,data:=.plain } }):
  codeAny Md A (.call (.ref C) ⟨rest,[]⟩) R s:=by
 obtain⟨hh,g,d,t,os⟩:=s;refine W.make_core (Re P) (Nx P hi) (λself A Q E s k hq=>?_) (.inl rfl) hq;unfold bindSpecial;refine Xt (wpAny_typeOf ⟨_,k _ _ ho,hc⟩ ?_);exact wpAny_ite_true (by decide) (ml hq)
noncomputable def yJ:List Stmt:=match (PySem.Challenge.pw_uf030002_06.main.body[23]?:Option Stmt) with
 |some (.ClassDef _ _ _ b _ _ _ _ _ _ _)=>b
 |_=>[]
def XR(i:Nat):List Stmt:=match (yJ[i]?:Option Stmt) with
 |some (.FunctionDef _ _ b _ _ _ _ _ _ _)=>b
 |_=>[]
noncomputable def pa(l:List Pos)(i:Nat):Pos:=l.getD i ⟨0,0,0,0⟩
noncomputable def sa(l:List Pos)(i:Nat)(x:Str):Expr:=.Attribute (.Name "self" (pa l i)) x (pa l (i+1))
noncomputable def PA (l:List Pos)(i:Nat):Expr:=.Compare (sa l i "kind") [.Eq] [.Constant (.str "over") 0 (pa l (i+2))] (pa l (i+3))
noncomputable def less(l:List Pos)(i:Nat)(e:Expr):Expr:=.BinOp (.Constant (.int 0) 0 (pa l i)) .Sub e (pa l (i+1))
noncomputable def more(l:List Pos)(i:Nat)(e:Expr):Expr:=.BinOp e .Add (.Constant (.int 1) 0 (pa l i)) (pa l (i+1))
def st1(l:List Pos):Stmt:=.Assign [.Name "laid" (pa l 0)] (.IfExp (PA l 1) (sa l 5 "fresh") (less l 7 (sa l 9 "fresh")) (pa l 11)) (pa l 12)
noncomputable def st2(l:List Pos):Stmt:=.Expr (.Call (.Attribute (sa l 13 "things") "insert" (pa l 15)) [.Name "gap" (pa l 16),less l 17 (.Name "laid" (pa l 19))] [] (pa l 20)) (pa l 21)
noncomputable def st3(l:List Pos):Stmt:=.Expr (.Call (.Attribute (sa l 22 "things") "append" (pa l 24)) [.Name "laid" (pa l 25)] [] (pa l 26)) (pa l 27)
def st4(l:List Pos):Stmt:=.Assign [.Subscript (sa l 28 "turns") (sa l 30 "fresh") (pa l 32)] (.IfExp (PA l 33) (.Name "way" (pa l 37)) (less l 38 (.Name "way" (pa l 40))) (pa l 41)) (pa l 42)
noncomputable def st5(l:List Pos):Stmt:=.Assign [sa l 43 "fresh"] (more l 45 (sa l 47 "fresh")) (pa l 49)
noncomputable def st6(l:List Pos):Stmt:=.Assign [sa l 50 "left"] (more l 52 (sa l 54 "left")) (pa l 56)
noncomputable def Sy(l:List Pos):List Stmt:=[st1 l,st2 l,st3 l,st4 l,st5 l,st6 l]
noncomputable def in1(l:List Pos)(i:Nat)(x:Str):Stmt:=.Assign [sa l i x] (.Name x (pa l (i+2))) (pa l (i+3))
noncomputable def in5(l:List Pos):Stmt:=.Assign [sa l 16 "left"] (.Call (.Name "len" (pa l 18)) [.Name "things" (pa l 19)] [] (pa l 20)) (pa l 21)
noncomputable def Lr(l:List Pos):List Stmt:=[in1 l 0 "things",in1 l 4 "turns",in1 l 8 "kind",in1 l 12 "fresh",in5 l]
set_option maxRecDepth 100000 in
theorem NV:∃l,XR 4=Sy l/\((pa l 15).endLine==(pa l 20).line)=true/\((pa l 24).endLine==(pa l 26).line)=true:=
 ⟨[_,_,_,_,_,_,_,_,_,_,_,_,_,_,_,_,_,_,_,_,_,_,_,_,_,_,_,_,_,_,_,_,_,_,_,_,_,_,_,_,_,_,_,_,_,_,_,_,_,_,_,_,_,_,_,_,_],rfl,rfl,rfl⟩
set_option maxRecDepth 100000 in
theorem Nw:∃l,XR 0=Lr l:=⟨[_,_,_,_,_,_,_,_,_,_,_,_,_,_,_,_,_,_,_,_,_,_],rfl⟩
noncomputable def AV(nm:Str):MethRec:=(AQ.meths.find? λr=>r.name==nm).getD ⟨"",⟨[],[],none,[],[],none,[]⟩,[],default⟩
set_option maxRecDepth 100000 in
theorem QS:AQ.meths.find? (λr=>r.name==("step" : Str))=some (AV "step"):=by kernel_rfl
set_option maxRecDepth 100000 in
theorem QV:(AV "step").body=XR 4:=by kernel_rfl
set_option maxRecDepth 100000 in
theorem Q3:AQ.meths.find? (λr=>r.name==("__init__" : Str))=some (AV "__init__"):=by kernel_rfl
set_option maxRecDepth 100000 in
theorem Q4:(AV "__init__").body=XR 0:=by kernel_rfl
theorem D1:∀{xs:List Str}{vs:List Value}{x:Str},xs.length=vs.length->x∈xs->((xs.zip vs).lookup x).isNone=false
 |[],_,_,_,h=>by cases h
 |y::ys,[],_,h,_=>by simp at h
 |y::ys,v::vs,x,hl,h=>by
  simp only[zip_cons_cons,lookup_cons];cases q:x==y with
  |true=>rfl
  |false=>
   rcases A0E.mp h with e|h
   ·rw[e] at q;simp at q
   ·exact D1 (by simpa using hl) h
theorem Ic{xs:List Str}{vs:List Value}(hl:xs.length=vs.length)(hn:xs.Nodup):(xs.filterMap λn=>((xs.zip vs).lookup n).map (n,·))=xs.zip vs:=by
 have key:∀(zs:List (Str×Value)),(∀p∈zs,(xs.zip vs).lookup p.1=some p.2)->((zs.map (·.1)).filterMap λn=>((xs.zip vs).lookup n).map (n,·))=zs:=by
  intro zs
  induction zs with
  |nil=>intro _;rfl
  |cons p zs ih=>
   intro h;refine zr A0Z (zr A1r (zr (h p d4) ?_));simp only[Option.map_some];exact zr (ih λq hq=>h q (kV _ hq)) rfl
 have h1:(xs.zip vs).map (·.1)=xs:=by rw[List.map_fst_zip];exact jl hl
 have:=key (xs.zip vs) λp hp=>DL (zr h1 hn) hp
 rw[h1] at this;exact this
theorem lS{σ δ α:Type}{a:σ}{b:δ}{c1 c2:σ->δ->Prop}[∀s d,Decidable (c1 s d)][∀s d,Decidable (c2 s d)]{A B r:σ->δ->Sem α}(h1:¬c1 a b)(h2:¬c2 a b):((pure a:Sem σ) >>= λs=>(pure b:Sem δ) >>= λd=>if c1 s d then A s d else if c2 s d then B s d else r s d)=r a b:=
 (Yf h1).trans (Yf h2)
theorem FL{fd:FuncData}{as:List Arg}{vals:List Value}(hp:fd.params=⟨[],as,none,[],[],none,[]⟩)(hd:fd.defaults=.none)(hl:vals.length=as.length)(hn:(as.map Arg.arg).Nodup):
  bindArgs fd ⟨vals,[]⟩=pure ((as.map Arg.arg).zip vals):=by
 obtain⟨_,_,_,_,_,_,_,_,_,_,_,_,_,_,_⟩:=fd;cases hp;cases hd
 have WD:(as.map Arg.arg).length=vals.length:=by exact zr (KK _) hl.symm
 have e:List.drop (((none:Option (Array Value)).getD #[]).toList.length-(as.map Arg.arg).length) ((none:Option (Array Value)).getD #[]).toList=[]:=drop_nil;refine(lS ?_ ?_).trans ?_
 ·show ¬(decide (vals.length>(as.map Arg.arg).length)&&true)=true;rw[WD,Bool.and_true,A0j];exact Nat.lt_irrefl _
 ·show ¬(!(((as.map Arg.arg).take ((as.map Arg.arg).length-(List.drop (((none:Option (Array Value)).getD #[]).toList.length-(as.map Arg.arg).length) ((none:Option (Array Value)).getD #[]).toList).length)).filter λn=>(((as.map Arg.arg).zip vals).lookup n).isNone).isEmpty)=true;refine zr e (zr (filter_eq_nil_iff.2 λx hx=>by refine zr (D1 WD (A1A hx)) ?_;exact A0O) ?_);exact A0O
 ·show(forIn (((as.map Arg.arg).drop ((as.map Arg.arg).length-(List.drop (((none:Option (Array Value)).getD #[]).toList.length-(as.map Arg.arg).length) ((none:Option (Array Value)).getD #[]).toList).length)).zip (List.drop (((none:Option (Array Value)).getD #[]).toList.length-(as.map Arg.arg).length) ((none:Option (Array Value)).getD #[]).toList)) _ _ >>= _)=_;refine zr e (zr zip_nil_right ?_);show(pure ((as.map Arg.arg++[]).filterMap λn=>(((as.map Arg.arg).zip vals).lookup n).map (n,·)):Sem _)=_;exact zr (A0k _) (zr (Ic WD hn) rfl)
set_option maxRecDepth 100000 in
theorem NW:(AV "step").params=⟨[],(AV "step").params.args,none,[],[],none,[]⟩/\(AV "step").params.args.map Arg.arg=(["self","gap","way"]:List Str)/\(AV "step").scope.names.all (λx=>x.2 != .cell)=true /\
  ((["self","gap","way","laid"]:List Str).all λx=>(AV "step").scope.names.lookup x==some .local)=true/\(AV "step").scope.isCoroutine=false/\(AV "step").scope.isGenerator=false/\(AV "step").scope.kind=.function:=by
 refine⟨?_,?_,?_,?_,?_,?_,?_⟩<;>kernel_rfl
structure Kl(env:Env)(L:Addr)(ns:List Str):Prop where
 kind:env.scope.kind=.function
 loc:env.locals=L
 ks:∀y∈ns,env.kindOf y=some .local
structure R3(x dx la t L:Addr):Prop where
 a1:x≠dx
 a2:x≠la
 a3:x≠t
 a4:x≠L
 a5:dx≠la
 a6:dx≠t
 a7:dx≠L
 a8:la≠t
 a9:la≠L
 a10:t≠L
structure HS(x dx la t L N:Addr)(mN m mL:Str->Option Value)(vs:Array Value)(n:Nat)(kvs:List (Int×Value))(h0 h:Heap):Prop where
 k:∀b o,b≠x->b≠dx->b≠la->b≠t->b≠L->h0.get? b=some o->h.get? b=some o
 hx:∃o,h.get? x=some o/\o.cls=.ref CA/\o.dict=some dx/\o.data=.plain
 ns:h.Ns1 dx m
 l:h.get? la=some { cls:=.type "list",dict:=none,data:=.seq vs n,slots:=#[] }
 d:h.DictOf (intKind prog w) t kvs
 fr:h.Ns L mL
section
variable {x dx la t L N:Addr}{mN m mL Zs m':Str->Option Value}{vs DQ:Array Value}{n n':Nat}{kvs eK:List (Int×Value)}{h0 h h':Heap}
theorem C2{a:Addr}(X:h.DictOf (intKind prog w) t kvs)(k:∀o,h.get? t=some o->h'.get? t=some o):h'.DictOf (intKind prog w) t kvs:=by
 obtain⟨o,es,ep,ho,r⟩:=X;exact⟨o,es,ep,k o ho,r⟩
theorem bj(X:h.Ns a mm)(k:∀o,h.get? a=some o->h'.get? a=some o):h'.Ns a mm:=by
 obtain⟨o,es,ep,ho,r⟩:=X;exact⟨o,es,ep,k o ho,r⟩
theorem HS.loc(D:R3 x dx la t L)(H:HS x dx la t L N mN m mL vs n kvs h0 h)(hs:Heap.SameBut L h h')(hn:h'.Ns L Zs):HS x dx la t L N mN m Zs vs n kvs h0 h' where
 k:=λb o h1 h2 h3 h4 h5 hb=>(hs.2 b h5).trans (H.k b o h1 h2 h3 h4 h5 hb)
 hx:=let ⟨o,ho,r⟩:=H.hx;⟨o,(hs.2 x D.a4).trans ho,r⟩
 ns:=H.ns.at λo ho=>(hs.2 dx D.a7).trans ho
 l:=(hs.2 la D.a9).trans H.l
 d:=C2 (a:=t) H.d λo ho=>(hs.2 t D.a10).trans ho
 fr:=hn
theorem HS.lst (D:R3 x dx la t L) (H:HS x dx la t L N mN m mL vs n kvs h0 h) (hs:Heap.SameBut la h h') (hl:h'.get? la=some { cls:=.type "list",dict:=none,data:=.seq DQ n',slots:=#[] }):HS x dx la t L N mN m mL DQ n' kvs h0 h' where
 k:=λb o h1 h2 h3 h4 h5 hb=>(hs.2 b h3).trans (H.k b o h1 h2 h3 h4 h5 hb)
 hx:=let ⟨o,ho,r⟩:=H.hx;⟨o,(hs.2 x D.a2).trans ho,r⟩
 ns:=H.ns.at λo ho=>(hs.2 dx D.a5).trans ho
 l:=hl
 d:=C2 (a:=t) H.d λo ho=>(hs.2 t D.a8.symm).trans ho
 fr:=bj H.fr λo ho=>(hs.2 L D.a9.symm).trans ho
theorem HS.pY(D:R3 x dx la t L)(H:HS x dx la t L N mN m mL vs n kvs h0 h)(hs:Heap.SameBut t h h')(hd:h'.DictOf (intKind prog w) t eK):HS x dx la t L N mN m mL vs n eK h0 h' where
 k:=λb o h1 h2 h3 h4 h5 hb=>(hs.2 b h4).trans (H.k b o h1 h2 h3 h4 h5 hb)
 hx:=let ⟨o,ho,r⟩:=H.hx;⟨o,(hs.2 x D.a3).trans ho,r⟩
 ns:=H.ns.at λo ho=>(hs.2 dx D.a6).trans ho
 l:=(hs.2 la D.a8).trans H.l
 d:=hd
 fr:=bj H.fr λo ho=>(hs.2 L D.a10.symm).trans ho
end
theorem Aw (ES:Kl env L names) (hn:s.heap.Ns L mL) (hy:y∈names) (hv:mL y=some v) (hd:(y==("__debug__" : Str))=false) (h:Q v s):wpAny Md A (eval (.Name y p) env) Q E s:=
 A0Y (A1V ES.kind (ES.ks y hy) (ES.loc▸hn) hv h) hd
theorem S1(ES:Kl env L names)(hn:s.heap.Ns L mL)(hy:y∈names)(h:∀h',h'.Ns L (λz=>if z=y then some v else mL z)->Heap.SameBut L s.heap h'->Q () { s with heap:=h',toks:=s.toks+1 }):wpAny Md A (storeName env y v) Q E s:=by
 obtain⟨e1,rfl,e3⟩:=ES;exact A1i (e3 y hy) hn h (zr e1 rfl)
theorem Cb (ES:Kl env L names) (eS:("self" : Str)∈names) (P:PlainAt s.heap AQ CA N mN) (H:HS x dx la t L N mN m mL vs n kvs h0 s.heap) (hs:mL ("self" : Str)=some (.ref x)) (hf:(nm,k)∈Bc) (hv:m nm=some v) (hh:handedOut v=pure v) (h:Q v { s with toks:=s.toks+1 }):
  wpAny Md A (eval (sa l i nm) env) Q E s:=
 Attribute_any_ (Aw ES H.fr eS hs (by decide +kernel) (Eo P (Cc H.hx H.ns) hf hv hh h)) rfl
theorem HS.att(D:R3 x dx la t L)(H:HS x dx la t L N mN m mL vs n kvs h0 h)(I:h'.Inst x CA m')(k:∀b o,b≠x->(∀Je d,h.get? x=some Je->Je.dict=some d->b≠d)->h.get? b=some o->h'.get? b=some o)
  (hs:∀Je,h.get? x=some Je->∃M9,h'.get? x=some M9/\M9.cls=Je.cls/\M9.data=Je.data/\M9.slots=Je.slots/\∀d,Je.dict=some d->M9.dict=some d):HS x dx la t L N mN m' mL vs n kvs h0 h':=by
 refine DU H.hx λo ho hc hd hp=>?_
 refine pp (hs o ho) λM9 e1 e2 e3 J e5=>?_
 have k':∀b o,b≠x->b≠dx->h.get? b=some o->h'.get? b=some o:=λb ob h1 h2 hb=>k b ob h1 (λJe d q1 q2=>by rw[ho] at q1;cases q1;rw[hd] at q2;refine CD q2 ?_;exact h2) hb
 refine⟨λb o h1 h2 h3 h4 h5 hb=>k' b o h1 h2 (H.k b o h1 h2 h3 h4 h5 hb),⟨M9,e1,e2.trans hc,e5 _ hd,e3.trans hp⟩,?_,k' la _ D.a2.symm D.a5.symm H.l,C2 (a:=t) H.d λo ho=>k' t o D.a3.symm D.a6.symm ho,bj H.fr λo ho=>k' L o D.a4.symm D.a7.symm ho⟩;obtain⟨o',e',_,_,Au⟩:=I;rw[e1] at e';cases e'
 rcases Au with⟨z8,_⟩|⟨d',Au,_,nV⟩
 ·rw[e5 _ hd] at z8;cases z8
 ·rw[e5 _ hd] at Au;cases Au;exact nV
theorem Cq(D:R3 x dx la t L)(P:PlainAt s.heap AQ CA N mN)(H:HS x dx la t L N mN m mL vs n kvs h0 s.heap)(hf:(nm,k)∈Bc)(hw:Within m ns)(EF:ns.length<=sizeLine)
  (h:∀h' tk,HS x dx la t L N mN (λy=>if y=nm then some v else m y) mL vs n kvs h0 h'->Q () (up s h' tk)):wpAny Md A (setAttr (.ref x) nm v) Q E s:=by
 obtain⟨hp,g,d,tt,os⟩:=s;obtain⟨yd,q,bs,sn,sub,col,dd,k0,k1,k2,k3,k5,hC⟩:=P.cls.obj;have hxC:x≠CA:=λe=>by
  refine DU H.hx λo ho J J hd=>?_
  rw[e,hC] at ho;cases ho;cases hd
 exact store_attr PySem.F.store_object hC P.cls.ns (Qb P) (Gf P hf) (Le hf) hxC (Cc H.hx H.ns) (λh' de I' hk eU=>h h' de (H.att D I' hk eU)) hw EF
theorem Qg (hu:A.units+200<cLine) (ES:Kl env L names) (eS:("self" : Str)∈names) (P:PlainAt s.heap AQ CA N mN) (H:HS x dx la t L N mN m mL vs n kvs h0 s.heap) (hs:mL ("self" : Str)=some (.ref x)) {tk:Tok} (hk:m ("kind" : Str)=some (.str kd tk)) (sk:PyData.strOk kd=true)
 (h:∀tk,Q (kd==over) { s with toks:=tk }):wpAny Md A (isTrue (PA l i) env whole) Q E s:=by
 refine wpAny_isTrue_Compare1 (Cb ES eS P H hs (k:=2) (by decide +kernel) hk rfl (wpAny_Constant_str ?_)) rfl;refine PySem.SeqAt.compareEq_reads (.str kd _) (.str _ _) sk (by decide +kernel) ?_ (A0h (h _));exact A0o (show A.units+min 0 0<=A.units+200 from A1L (by decide) _) hu
theorem PY (hu:A.units+200<cLine) (ES:Kl env L names) (eS:("self" : Str)∈names) (P:PlainAt s.heap AQ CA N mN) (H:HS x dx la t L N mN m mL vs n kvs h0 s.heap) (hs:mL ("self" : Str)=some (.ref x)) {tk:Tok} (hk:m ("kind" : Str)=some (.str kd tk)) (sk:PyData.strOk kd=true)
 (h1:∀tk (Q:Value->Shared->Prop),(∀u de,Q (.int a u) { s with toks:=de })->wpAny Md A (eval Dm env) Q E { s with toks:=tk }) (h2:∀tk (Q:Value->Shared->Prop),(∀u de,Q (.int a u) { s with toks:=de })->wpAny Md A (eval Dl env) Q E { s with toks:=tk })
 (h:∀u tk,Q (.int (if(kd==over)=true then a else 0-a) u) { s with toks:=tk }):wpAny Md A (eval (.IfExp (PA l i) Dm (less l j Dl) p) env) Q E s:=by
 refine wpAny_IfExp (Qg hu ES eS P H hs hk sk λtk=>?_);cases q:(kd==over) with
 |true=>rw[q] at h;exact h1 _ _ h
 |false=>rw[q] at h;exact wpAny_BinOp (A1g (h2 _ _ λu de=>PyProof.Rows.sub_int (h _ _)))
theorem JA(am:Eh m a t kd f l):Within m (["things","turns","kind","fresh","left"]:List Str):=λy hy=>A1E λq=>hy (am.no y q)
theorem Eh.fresh{kd:Str}(am:Eh m a t kd f l):Eh (λy=>if y=("fresh" : Str) then some (.int g u) else m y) a t kd g l where
 th:=(Yf (by decide +kernel)).trans am.th
 tu:=(Yf (by decide +kernel)).trans am.tu
 kd:=let ⟨k,h⟩:=am.kd;⟨k,(Yf (by decide +kernel)).trans h⟩
 fr:=⟨u,XL rfl⟩
 lf:=let ⟨k,h⟩:=am.lf;⟨k,(Yf (by decide +kernel)).trans h⟩
 no:=λx hx=>(Yf λe=>hx (by refine zr e ?_;decide +kernel)).trans (am.no x hx)
theorem Eh.left{kd:Str}(am:Eh m a t kd f l):Eh (λy=>if y=("left" : Str) then some (.int g u) else m y) a t kd f g where
 th:=(Yf (by decide +kernel)).trans am.th
 tu:=(Yf (by decide +kernel)).trans am.tu
 kd:=let ⟨k,h⟩:=am.kd;⟨k,(Yf (by decide +kernel)).trans h⟩
 fr:=let ⟨k,h⟩:=am.fr;⟨k,(Yf (by decide +kernel)).trans h⟩
 lf:=⟨u,XL rfl⟩
 no:=λx hx=>(Yf λe=>hx (by refine zr e ?_;decide +kernel)).trans (am.no x hx)
section
variable {A:Around}{E:Value->Shared->Prop}{s:Shared}{env:Env}{x dx la t L N:Addr}{mN m mL:Str->Option Value}{vs:Array Value}{n:Nat}{kvs:List (Int×Value)}{h0:Heap}{names:List Str}
theorem QZ(D:R3 x dx la t L)(P:PlainAt s.heap AQ CA N mN)(H:HS x dx la t L N mN m mL vs n kvs h0 s.heap)(am:Eh m la t kd f lf)
  (h:∀h' tk m',HS x dx la t L N mN m' mL vs n kvs h0 h'->Eh m' la t kd g lf->Q () (up s h' tk)):wpAny Md A (setAttr (.ref x) "fresh" (.int g u)) Q E s:=
 Cq D P H (k:=3) (by decide +kernel) (JA am) (by decide +kernel) λh' tk H'=>h h' tk _ H' am.fresh
theorem S6(D:R3 x dx la t L)(P:PlainAt s.heap AQ CA N mN)(H:HS x dx la t L N mN m mL vs n kvs h0 s.heap)(am:Eh m la t kd f lf)
  (h:∀h' tk m',HS x dx la t L N mN m' mL vs n kvs h0 h'->Eh m' la t kd f g->Q () (up s h' tk)):wpAny Md A (setAttr (.ref x) "left" (.int g u)) Q E s:=
 Cq D P H (k:=4) (by decide +kernel) (JA am) (by decide +kernel) λh' tk H'=>h h' tk _ H' am.left
theorem Xe:(if(kd==over)=true then f else 0-f)=Dq kd f:=rfl
theorem UO(h0:0<=g)(h:g.toNat<=vs.size):(have k:=if g<0 then(g+((vs.size:Nat):Int)).toNat else min g.toNat vs.size;(vs.extract 0 k).push y++vs.extract k).toList=vs.toList.take g.toNat++y::vs.toList.drop g.toNat:=by
 refine zr (Yf (A1I.mpr h0)) (zr (A1K h) ?_);simpa [Array.toList_append,Array.toList_extract,extract_eq_drop_take'] using (by exact zr (take_of_length_le (zr yc (A0I _))) rfl:List.drop g.toNat (List.take vs.size vs.toList)=List.drop g.toNat vs.toList)
theorem Mi (H:s.heap.get? l=some { cls:=.type "list",dict:=none,data:=.seq vs n,slots:=#[] }) (Rr:0<=g) (hg:g.toNat<=vs.size) (Zv:vs.size<1000)
  (h:∀h' DQ n',Heap.SameBut l s.heap h'->h'.get? l=some { cls:=.type "list",dict:=none,data:=.seq DQ n',slots:=#[] }->DQ.toList=vs.toList.take g.toNat++y::vs.toList.drop g.toNat->Q .none { s with heap:=h' }):
  wpAny Md A (call (.builtin "list.insert") [.ref l,.int g tg,y]) Q E s:=by
 have Jh:Builtin.List.listFitsIndex g=true:=by
  unfold Builtin.List.listFitsIndex;exact zr (A1Q _ _) (zr decide_eq_true_eq (zr decide_eq_true_eq ⟨ZI Rr,Pu (Int.toNat_le.1 hg) (mu (A0r Zv) (by decide))⟩))
 exact call_meets PySem.F.slot_list_insert ⟨_,H,rfl⟩ PySem.F.entry_list_insert (PySem.F.args_list_insert_3 _ _ _) (PySem.AutoSeq1.list_insert_list_int_val_1 l vs n g tg y (by refine zr Jh ?_;decide) (mu (A0r Zv) (by decide))) ⟨H,h _ _ _ (A0f ..) (PySem.IsL.update H _) (UO Rr hg)⟩
theorem Sx (e1:((pa l 15).endLine==(pa l 20).line)=true) (e2:((pa l 24).endLine==(pa l 26).line)=true) (hu:A.units+200<cLine) (hint:interactive env=false) (ES:Kl env L ["self","gap","way","laid"]) (D:R3 x dx la t L)
  (hP:∀h,(∀b o,b≠x->b≠dx->b≠la->b≠t->b≠L->h0.get? b=some o->h.get? b=some o)->PlainAt h AQ CA N mN) (H:HS x dx la t L N mN m mL vs n kvs h0 s.heap) (am:Eh m la t kd f lf) (sk:PyData.strOk kd=true) (Rr:0<=g) (hg:g.toNat<=vs.size) (Zv:vs.size<1000) (dw:kvs.length<1000)
  (h1:mL ("self" : Str)=some (.ref x)) (h2:mL ("gap" : Str)=some (.int g tg)) (h3:mL ("way" : Str)=some (.int wy tw))
  (hQ:∀h' tk m' Zs DQ n' u u1 u2,HS x dx la t L N mN m' Zs DQ n' (stored kvs f (.int (if(kd==over)=true then wy else 0-wy) u)) h0 h'->Eh m' la t kd (f+1) (lf+1)->DQ.toList=vs.toList.take g.toNat++.int (0-Dq kd f) u1::vs.toList.drop g.toNat++[.int (Dq kd f) u2]->Q .next (up s h' tk)):
  wpAny Md A (execs (Sy l) env) Q E s:=by
 obtain⟨tk1,Rq⟩:=am.kd;obtain⟨VW,E6⟩:=am.fr;obtain⟨yX,hlf⟩:=am.lf;have si:("self" : Str)∈(["self","gap","way","laid"]:List Str):=by decide +kernel
 refine A0W (A1p (PY hu ES si (hP _ H.k) H h1 Rq sk (a:=f) (λtk Q hq=>Cb (s:={ s with toks:=tk }) ES si (hP _ H.k) H h1 (k:=3) (by decide +kernel) E6 rfl (hq _ _)) (λtk Q hq=>Cb (s:={ s with toks:=tk }) ES si (hP _ H.k) H h1 (k:=3) (by decide +kernel) E6 rfl (hq _ _)) λu tk=>?_) rfl);refine zr Xe ?_;refine S1 (s:={ s with toks:=tk }) ES H.fr (by decide +kernel) λh' hn hs=>?_
 have H1:=H.loc D hs hn;have m1:(λz=>if z=("laid" : Str) then some (Value.int (Dq kd f) u) else mL z) "self" = some (.ref x):=(Yf (by decide +kernel)).trans h1;have m2:(λz=>if z=("laid" : Str) then some (Value.int (Dq kd f) u) else mL z) "gap" = some (.int g tg):=(Yf (by decide +kernel)).trans h2;have m3:(λz=>if z=("laid" : Str) then some (Value.int (Dq kd f) u) else mL z) "way" = some (.int wy tw):=(Yf (by decide +kernel)).trans h3;have m4:(λz=>if z=("laid" : Str) then some (Value.int (Dq kd f) u) else mL z) "laid" = some (.int (Dq kd f) u):=XL rfl;clear hs hn;generalize (λz=>if z=("laid" : Str) then some (Value.int (Dq kd f) u) else mL z)=mL1 at *;refine A0W (wpAny_Expr (A2A (T := "list") (id := "list.insert") rfl rfl e1 A1b PySem.F.slot_list_insert PySem.F.type_list_insert ?_) hint rfl);refine Cb ES si (hP _ H1.k) H1 m1 (k:=0) (by decide +kernel) am.th rfl ⟨⟨_,H1.l,rfl⟩,λa' q=>by injection q with q;subst q;exact⟨_,H1.l,rfl⟩,?_⟩;refine A1f rfl (AY rfl (by simp) ?_);refine A0G (Aw ES H1.fr (by decide +kernel) m2 (by decide +kernel) ?_) rfl;refine A0G (wpAny_BinOp (A1g (Aw ES H1.fr (by decide +kernel) m4 (by decide +kernel) (PyProof.Rows.sub_int (A0c ?_))))) rfl;refine Mi H1.l Rr hg Zv λdz yW n2 yY Mx eB=>?_
 have H2:=H1.lst D yY Mx;clear H1 yY Mx;have z2:yW.size=vs.size+1:=by
  refine zr yc.symm (zr eB (zr CZ (zr A0P (zr A0V (zr A0n (zr yc (zr (A1K hg) ?_)))))));exact A0U Nat.succ (add_sub_of_le hg)
 refine A0W (wpAny_Expr (A2A (T := "list") (id := "list.append") rfl rfl e2 A1b PySem.F.slot_list_append PySem.F.type_list_append ?_) hint rfl);refine Cb (s:={ s with heap:=dz,toks:=_ }) ES si (hP _ H2.k) H2 m1 (k:=0) (by decide +kernel) am.th rfl ⟨⟨_,H2.l,rfl⟩,λa' q=>by injection q with q;subst q;exact⟨_,H2.l,rfl⟩,?_⟩;refine P.append_list (Aw ES H2.fr (by decide +kernel) m4 (by decide +kernel) ⟨yW,n2,zr z2 (mu Zv (by decide)),H2.l,?_⟩);have H3:=H2.lst D (A0f dz la (Obj.mapSeq λxs=>xs.push (Value.int (Dq kd f) u))) (PySem.IsL.update H2.l _);clear H2;refine A0W (wpAny_Assign_Subscript (PY hu ES si (hP _ H3.k) H3 m1 Rq sk (a:=wy) (λtk Q hq=>Aw (s:={ s with heap:=_,toks:=tk }) ES H3.fr (by decide +kernel) m3 (by decide +kernel) (hq _ _)) (λtk Q hq=>Aw (s:={ s with heap:=_,toks:=tk }) ES H3.fr (by decide +kernel) m3 (by decide +kernel) (hq _ _)) λu3 yX=>?_) rfl);refine Cb ES si (hP _ H3.k) H3 m1 (k:=1) (by decide +kernel) am.tu rfl (Cb ES si (hP _ H3.k) H3 m1 (k:=3) (by decide +kernel) E6 rfl ?_);refine wpAny_setItem_pairs (Ci f _) H3.d (λh4 zJ Zx=>?_) (mu (A0r dw) (by decide));have H4:=H3.pY D Zx zJ;clear H3 zJ Zx;refine A0W (A0i (wpAny_BinOp (Cb ES si (hP _ H4.k) H4 m1 (k:=3) (by decide +kernel) E6 rfl (A1g (PyProof.Rows.add_int ?_)))) rfl);refine Aw ES H4.fr si m1 (by decide +kernel) (QZ D (hP _ H4.k) H4 am λh5 tk5 m5 H5 ze=>?_);clear H4;refine ze.lf.elim λtk7 nZ=>?_
 refine A0W (A0i (wpAny_BinOp (Cb ES si (hP _ H5.k) H5 m1 (k:=4) (by decide +kernel) nZ rfl (A1g (PyProof.Rows.add_int ?_)))) rfl);refine Aw ES H5.fr si m1 (by decide +kernel) (S6 D (hP _ H5.k) H5 ze λh6 tk6 m6 H6 am6=>?_);exact wpAny_execs_nil (hQ h6 tk6 _ _ _ _ _ _ _ H6 am6 ((Array.toList_push ..).trans (A0U (·++[Value.int (Dq kd f) u]) eB)))
end
theorem H8:∀{l:List PV},PV.Bm l=true↔∀x∈l,x.Ot=true
 |[]=>⟨λJ x hx=>(A0K hx).elim,λJ=>rfl⟩
 |y::l=>by
  rw[ZR,A1Q,H8];exact⟨λh x hx=>(A0E.1 hx).elim (λe=>e▸h.1) (h.2 x),λh=>⟨h y d4,λx hx=>h x (kV _ hx)⟩⟩
theorem UV(h:PV.Bm l=true):PV.Bm (l.take k++.int i::l.drop k++[.int j])=true:=by
 rw[H8] at h ⊢;intro x hx;rcases XP.1 hx with hx|hx
 ·rcases XP.1 hx with hx|hx
  ·exact h x (A1A hx)
  ·rcases A0E.1 hx with rfl|hx
   ·rfl
   ·exact h x (A1F hx)
 ·refine zr (YP.1 hx) ?_;rfl
theorem UU(h:PV.Bm (l.map (·.2))=true):PV.Bm ((Aj l k (.int j)).map (·.2))=true:=by
 rw[H8] at h ⊢;intro x hx;refine AE (Ya.1 hx) λp hp Av=>?_;subst Av
 unfold Aj at hp;split at hp
 ·refine AE (Ya.1 hp) λq hq Av=>?_;subst Av
  split
  ·rfl
  ·exact h _ (Ya.2 ⟨q,hq,rfl⟩)
 ·rcases XP.1 hp with hp|hp
  ·exact h _ (Ya.2 ⟨p,hp,rfl⟩)
  ·refine zr (YP.1 hp) ?_;rfl
section
variable {h:Heap}{x dx la t:Addr}{m:Str->Option Value}
theorem Uv (hx:∃o,h.get? x=some o/\o.cls=.ref CA/\o.dict=some dx/\o.data=.plain) (ns:h.Ns1 dx m) (hl:h.get? la=some { cls:=.type "list",dict:=none,data:=.seq vs n,slots:=#[] }) (hd:h.DictOf (intKind prog w) t kvs) (ne:dx≠t) (hL:h.get? L=none):R3 x dx la t L:=by
 refine DU hx λo ho J J hp=>?_
 obtain⟨o',_,_,Ah,Au,_⟩:=ns;obtain⟨o2,_,_,NF,_,Va,_⟩:=hd;refine⟨λe=>?_,λe=>?_,λe=>?_,λe=>?_,λe=>?_,ne,λe=>?_,λe=>?_,λe=>?_,λe=>?_⟩
 ·rw[e,Ah] at ho;cases ho;rw[Au] at hp;cases hp
 ·rw[e,hl] at ho;cases ho;cases hp
 ·rw[e,NF] at ho;cases ho;rw[Va] at hp;cases hp
 ·rw[e,hL] at ho;cases ho
 ·rw[e,hl] at Ah;cases Ah;cases Au
 ·rw[e,hL] at Ah;cases Ah
 ·rw[e,NF] at hl;cases hl;cases Va
 ·rw[e,hL] at hl;cases hl
 ·rw[e,hL] at NF;cases NF
end
inductive Zi:PV->PV->PV->PV->Prop where
 |mk (th:List PV) (tu:List (Key×PV)) (kd:Str) (f l g w:Int) (h0:0<=g) (h1:g<=th.length) (h2:th.length<1000) (h3:AR tu (.int 0)=true) (h4:tu.length<1000):Zi (.obj th tu kd f l) (.int g) (.int w) (stepO th tu kd f l g w)
theorem Sz(h:LS c x y=.ok d):Zi c x y d:=by
 cases c with
 |obj th tu kd f l=>
  refine Gq (B3 h) λg w Av EH h=>?_;subst Av;subst EH
  obtain⟨h1,h2⟩:=Bb h;refine At h2 ?_;simp only[Bool.and_eq_true,decide_eq_true_eq] at h1;exact .mk _ _ _ _ _ _ _ h1.1.1.1.1 h1.1.1.1.2 h1.1.1.2 h1.1.2 h1.2
 |_=>cases h
section
variable {f:EG}{cf:Nat->List PV->Res PV}{own:Addr->Option Nat}{ρ:AP}{s AG:Shared}{fr:Bool}
theorem Hm(P:PlainAt B AQ CA N mN)(hf:AQ.meths.find? (λr=>r.name==nm)=some (AV nm)):
  ∃a o pm cd doc,mN nm=some (.ref a)/\B.get? a=some o/\o.cls=.type "function" /\ o.data=.func (methDef (AV nm).name (AQ.name ++ "." ++ (AV nm).name) (AV nm).params (AV nm).body (AV nm).scope pm cd doc)/\B.CodeRec cd (AQ.name ++ "." ++ (AV nm).name):=by
 refine WK (P.meths _ (List.mem_of_find?_eq_some hf)) λa o pm cd doc h1 h2 h3 h4 h5=>?_
 exact⟨a,o,pm,cd,doc,(eq_of_beq (List.find?_some (p:=λr:MethRec=>r.name==nm) hf))▸h1,h2,h3,h4,h5⟩
theorem lk3(h1:(a==b)=false)(h2:(a==c)=false)(h3:(b==c)=false):
  ([(a,x),(b,y),(c,z)]:List (Str×Value)).reverse.lookup a=some x/\([(a,x),(b,y),(c,z)]:List (Str×Value)).reverse.lookup b=some y/\([(a,x),(b,y),(c,z)]:List (Str×Value)).reverse.lookup c=some z:=by
 show List.lookup a [(c,z),(b,y),(a,x)]=some x/\List.lookup b [(c,z),(b,y),(a,x)]=some y/\List.lookup c [(c,z),(b,y),(a,x)]=some z;simp[lookup_cons,h1,h2,h3]
theorem mh1(h:n<1000):min a n+(n-a+1)+1<=Ab:=mu (Nat.add_le_add (Nat.add_le_add (mu (Nat.min_le_right a n) (A0r h)) (mu (succ_le_succ (sub_le n a)) h)) (A0I 1)) (by decide)
theorem mh2(h:a+20*d+300<l):a+3+200<l:=A0o (show a+203<=_ from Nat.add_le_add (A1k a (20*d)) (by decide)) h
theorem QT(F:AL f)(x:St f.c own ρ s)(hm:(y,i)∈f.c.names)(hi:i∈f.c.mv)(hv:Ed s.heap f.c.env y (.ref xa))
 {kvs:List (Int×Value)} (ox:own xa=some i) (od:own dx=some i) (oa:own la=some i) (ot:own t=some i) (hx:∃o,s.heap.get? xa=some o/\o.cls=.ref CA/\o.dict=some dx/\o.data=.plain) (ns:s.heap.Ns1 dx m) (q:s.heap.get? la=some { cls:=.type "list",dict:=none,data:=.seq vs n,slots:=#[] }) (Kw:s.heap.DictOf (intKind prog w) t kvs)
  (sk:PyData.strOk kd=true) (ne:dx≠t) (im:PV.Bm th=true/\PV.Bm (tu.map (·.2))=true) (rr:Rds s.heap (Fz f.c own) th vs.toList) (n1:t≠1) (dr:RdKV s.heap (Fz f.c own) tu (kvs.map (·.2))) (e5:tu.map (·.1)=kvs.map (λp=>Key.int p.1)) (di:th.length<1000) (dh:tu.length<1000)
  {N L:Addr} {mN m' Zs:Str->Option Value} {DQ:Array Value} {n':Nat} {u u1 u2:Tok} {Bl h':Heap} {tk:Nat} (hL:s.heap.get? L=none) (CM:∀b o,s.heap.get? b=some o->Bl.get? b=some o)
  (H':HS xa dx la t L N mN m' Zs DQ n' (stored kvs ff (.int (if(kd==over)=true then wy else 0-wy) u)) Bl h') (eD:Eh m' la t kd (ff+1) (l+1)) (ev:DQ.toList=vs.toList.take g.toNat++.int (0-Dq kd ff) u1::vs.toList.drop g.toNat++[.int (Dq kd ff) u2]):
  St f.c own (ρ.set i (some (stepO th tu kd ff l g wy))) (up s h' tk)/\Cn f.c own own s (up s h' tk)/\∀b o,s.heap.get? b=some o->∃o',h'.get? b=some o':=by
 let W:Addr->Prop:=λb=>b=xa\/b=dx\/b=la\/b=t
 have hW:∀b,W b->∃o,s.heap.get? b=some o/\mW o:=λb hb=>by
  rcases hb with rfl|rfl|rfl|rfl
  ·refine DU hx λo ho J J hp=>?_;exact⟨o,ho,λJ J J q=>(by rw[hp] at q;cases q),λJ q=>(by rw[hp] at q;cases q)⟩
  ·obtain⟨o,_,_,ho,hp,_⟩:=ns;exact⟨o,ho,λJ J J q=>(by rw[hp] at q;cases q),λJ q=>(by rw[hp] at q;cases q)⟩
  ·exact⟨_,q,(C8.pX (.inl ⟨_,_,rfl,rfl⟩))⟩
  ·obtain⟨o,_,_,ho,_,hp,_⟩:=Kw;exact⟨o,ho,λJ J J q=>(by rw[hp] at q;cases q),λJ q=>(by rw[hp] at q;cases q)⟩
 have k:∀b o,¬W b->s.heap.get? b=some o->h'.get? b=some o:=λb o hb hs=>H'.k b o (λe=>hb (.inl e)) (λe=>hb (.inr (.inl e))) (λe=>hb (.inr (.inr (.inl e)))) (λe=>hb (.inr (.inr (.inr e)))) (λe=>by rw[e,hL] at hs;cases hs) (CM b o hs)
 have kp:Kp (λJ=>False) s.heap h':=HB hW k λJ J h=>h
 have yZ:Rds h' (Fz f.c own) th vs.toList:=Rds.Bj th im.1 (Rds.to kp th (Rds.Bj th im.1 rr));obtain⟨q1,q2⟩:=MO (d:=.int (if(kd==over)=true then wy else 0-wy)) (v:=.int (if(kd==over)=true then wy else 0-wy) u) ⟨u,rfl⟩ e5 (RdKV.Bj tu im.2 (RdKV.to kp tu (RdKV.Bj tu im.2 dr)):RdKV h' (Fz f.c own) tu (kvs.map (·.2)));refine x.mutates F.ok hi hm (λb hb=>?_) hv hW k (λb hb=>?_) ⟨xa,dx,la,t,m',DQ,_,rfl,ox,od,oa,ot,H'.hx,H'.ns,eD,sk,ne,⟨UV im.1,UU im.2⟩,⟨n',H'.l⟩,?_,?_,n1,?_,.inl ⟨_,H'.d,q1,rfl⟩,q2⟩
 ·rcases hb with rfl|rfl|rfl|rfl
  ·exact ox
  ·exact od
  ·exact oa
  ·exact ot
 ·rcases hb with rfl|rfl|rfl|rfl
  ·refine AE H'.hx λo ho J=>?_;exact⟨o,ho⟩
  ·obtain⟨o,_,_,ho,_⟩:=H'.ns;exact⟨o,ho⟩
  ·exact⟨_,H'.l⟩
  ·obtain⟨o,_,_,ho,_⟩:=H'.d;exact⟨o,ho⟩
 ·refine zr CZ (zr CZ (zr A0P (zr A0V (zr A0n (zr nP (mh1 di))))))
 ·exact zr ev (Rds.append (Rds.append (yZ.take _) ⟨_,_,rfl,⟨_,rfl⟩,yZ.drop _⟩) (Rds.one ⟨_,rfl⟩))
 ·exact mu (IK tu (.int ff) (.int (if(kd==over)=true then wy else 0-wy))) (mu dh (by decide))
set_option maxHeartbeats 1000000 in
theorem QU(F:AL f)(x:St f.c own ρ s)(hm:(y,i)∈f.c.names)(hi:i∈f.c.mv){ff l g wy:Int}(hv:Ed s.heap f.c.env y v)(r:DB s.heap f.c own i (.obj th tu kd ff l) v)
  (Rr:0<=g) (hg:g<=th.length) (di:th.length<1000) (Jh:AR tu (.int 0)=true) (dh:tu.length<1000) (arc:Zl f.fa f.B N mN) {fa:Addr} {o:Obj} {pm cd doc:Value} (ho:f.B.get? fa=some o) (hd:o.data=.func (methDef (AV "step").name (AQ.name ++ "." ++ (AV "step").name) (AV "step").params (AV "step").body (AV "step").scope pm cd doc)) (WG:f.B.CodeRec cd (AQ.name ++ "." ++ (AV "step").name))
  {Q:Value->Shared->Prop} {E:Value->Shared->Prop} (hQ:∀h' tk,St f.c own (ρ.set i (some (stepO th tu kd ff l g wy))) (up s h' tk)->Cn f.c own own s (up s h' tk)->(∀b o,s.heap.get? b=some o->∃o',h'.get? b=some o')->Q .none (up s h' tk)):
  wpAny Md f.c.A (call (.ref fa) [v,.int g tg,.int wy tw]) Q E s:=by
 have r:On s.heap (λa=>own a=some i) v th tu kd ff l (Rds s.heap (Fz f.c own) th) (RdKV s.heap (Fz f.c own) tu):=by
  unfold DB at r;rw[XL hi] at r;exact r
 obtain⟨xa,dx,la,t,m,vs,us,rfl,ox,od,oa,ot,hx,ns,am,sk,ne,im,⟨n,q⟩,ln,rr,n1,lt,dq,dr⟩:=r;refine Ca (dq.int Jh) λkvs Kw e5 EH=>?_;subst EH
 refine pt NW λf1 f2 f3 f4 f5 f6 f7=>?_
 have My:=x.B0 F;have LJ:bindArgs (methDef (AV "step").name (AQ.name ++ "." ++ (AV "step").name) (AV "step").params (AV "step").body (AV "step").scope pm cd doc) ⟨[.ref xa,.int g tg,.int wy tw],[]⟩=pure ([("self",.ref xa),("gap",.int g tg),("way",.int wy tw)]:List (Str×Value)):=by
  have:=FL (vals:=[.ref xa,.int g tg,.int wy tw]) (fd:=methDef (AV "step").name (AQ.name ++ "." ++ (AV "step").name) (AV "step").params (AV "step").body (AV "step").scope pm cd doc) f1 rfl (zr (KK (f:=Arg.arg)).symm (zr f2 (rfl:[Value.ref xa,.int g tg,.int wy tw].length=(AV "step").params.args.length))) (by refine zr f2 ?_;decide +kernel);rw[f2] at this;exact this
 refine wpAny_call (codeAny_call_def (body:=(AV "step").body) (lt_of_succ_lt (lA F.depth)) (My _ _ ho) hd (F.gnd.nolimit.keeps My) (WG.keeps My) rfl (.of_eq LJ) (λz hz=>?_) (λz hz=>?_) (λBl FQ CM=>?_) f5 f6 f7)
 ·have:=A0T.1 f3 z hz;exact λe=>by rw[e] at this;cases this
 ·have:=A0T.1 f4 z.1 (by
   simp only[mem_cons,not_mem_nil,or_false] at hz;rcases hz with rfl|rfl|rfl
   ·exact .head _
   ·exact .tail _ (.head _)
   ·exact .tail _ (.tail _ (.head _)))
  exact eq_of_beq this
 refine Ca NV λl0 aB e1 e2=>?_
 have hL:s.heap.get? s.heap.objs.size=none:=BI _;have Gp:∀{b},own b=some i->f.c.h0.get? b=none:=λh=>x.ownNew _ i h hi
 have hP:∀h,(∀b o,b≠xa->b≠dx->b≠la->b≠t->b≠s.heap.objs.size->Bl.get? b=some o->h.get? b=some o)->PlainAt h AQ CA N mN:=λh k=>arc.at_.keeps λb o hb=>by
  have h0:=(F.base b o hb).2;refine k b o (λe=>?_) (λe=>?_) (λe=>?_) (λe=>?_) (λe=>?_) (CM b o (My b o hb))
  ·rw[e,Gp ox] at h0;cases h0
  ·rw[e,Gp od] at h0;cases h0
  ·rw[e,Gp oa] at h0;cases h0
  ·rw[e,Gp ot] at h0;cases h0
  ·have:=My b o hb;rw[e,hL] at this;cases this
 have EF:vs.size=th.length:=Ft rr;have ES:Kl (callEnv (methDef (AV "step").name (AQ.name ++ "." ++ (AV "step").name) (AV "step").params (AV "step").body (AV "step").scope pm cd doc) s.heap.objs.size fa) s.heap.objs.size ["self","gap","way","laid"]:=⟨f7,rfl,λy hy=>eq_of_beq (A0T.1 f4 y hy)⟩;refine zr (QV.trans aB:(AV "step").body=Sy l0) ?_;obtain⟨k1,k2,k3⟩:=lk3 (x:=Value.ref xa) (z:=Value.int wy tw) (show(("self" : Str) == "gap")=false by decide +kernel) (show(("self" : Str) == "way")=false by decide +kernel) (show(("gap" : Str) == "way")=false by decide +kernel);refine Sx e1 e2 (mh2 F.units) (by unfold interactive;refine zr ES.kind ?_;rfl) ES (Uv hx ns q Kw ne hL:R3 xa dx la t s.heap.objs.size) hP (⟨λJ J J J J J J h=>h,let ⟨o,ho,r⟩:=hx;⟨o,CM _ _ ho,r⟩,ns.at λo ho=>CM _ _ ho,CM _ _ q,C2 (a:=t) Kw λo ho=>CM _ _ ho,FQ⟩:HS xa dx la t s.heap.objs.size N mN m (λx=>([("self",.ref xa),("gap",.int g tg),("way",.int wy tw)]:List (Str×Value)).reverse.lookup x) vs n kvs Bl Bl) am sk Rr (zr EF (Int.toNat_le.2 hg)) (zr EF di) (by refine zr (by have:=A0U List.length e5;simpa using this.symm:kvs.length=tu.length) ?_;exact dh) k1 k2 k3 λh' tk m' Zs DQ n' u u1 u2 H' eD ev=>?_
 obtain⟨a1,a2,a3⟩:=QT F x hm hi hv ox od oa ot hx ns q Kw sk ne im rr n1 dr e5 di dh (tk:=tk) hL CM H' eD ev;exact hQ h' tk a1 a2 a3
end
theorem NU (F:AL f) (hd:(y==("__debug__" : Str))=false) (hm:(y,i)∈f.c.names) (hi:i∈f.c.mv) (ha:AW f cf Dm a ka) (hb:AW f cf Dl b kb) (SE:AN Dm=false) (Ro:AN Dl=false)
  (DS:(apos.endLine==BQ.line)=true) (hint:interactive f.c.env=false):Dz f cf fr (.Expr (.Call (.Attribute (.Name y yp) "step" apos) [Dm,Dl] [] BQ) pos) (.step i a b):=by
 intro own ρ s o x he;refine AE (Ek (iU.symm.trans he)) λd0 SJ he=>?_
 refine AE (AD he) λd1 ea he=>?_
 refine AE (AD he) λd2 eb he=>?_
 refine AE (AD he) λd3 e3 he=>?_
 refine At he ?_;obtain⟨th,tu,kd,ff,lf,g,wy,Rr,hg,di,Jh,dh⟩:=Sz e3;refine wpAny_Expr (Hp .name (by simp[SE,Ro]) (show 2<30 by decide) DS (A0Y (x.I8 F.ok hm SJ λv hv hr pl=>?_) hd)) hint rfl;refine HU F.gnd.arc λN mN arc=>?_
 refine WK (Hm arc.at_ QS) λfa o pm cd doc hf ho hc mA WG=>?_
 have dk:On s.heap (λa=>own a=some i) v th tu kd ff lf (Rds s.heap (Fz f.c own) th) (RdKV s.heap (Fz f.c own) tu):=by
  unfold DB at hr;rw[XL hi] at hr;exact hr
 obtain⟨xa,dx,la,t,m,vs,us,rfl,ox,od,oa,ot,hx,ns,am,_⟩:=dk;refine PI (arc.at_.keeps (x.B0 F)) (Cc hx ns) hf (x.B0 F _ _ ho) hc XE (am.no _ (by decide +kernel)) ?_;refine callWith_meth mA ho ?_ (AJ SE);refine A0G (ha.int x ea λt1 AG g1=>?_) (AJ SE);have x1:=x.grow F.ok g1;refine A0G (hb.int x1 eb λt2 s₂ g2=>A0c ⟨(x1.grow F.ok g2).B0 F,?_⟩) (AJ Ro);have ZU:=g1.trans g2;refine QU F (x1.grow F.ok g2) hm hi (hv.grow ZU.h) (DB.grow F.ok x ZU hr) Rr hg di Jh dh arc ho mA WG λh' tk a1 a2 a3=>?_
 exact⟨_,rfl,own,a1,(Cn.grow ZU).trans a2 ZU.FO,λb o hb=>let ⟨o1,DR⟩:=ZU.FO b o hb;a3 b o1 DR⟩
set_option maxRecDepth 100000 in
theorem Ny:(AV "__init__").params=⟨[],(AV "__init__").params.args,none,[],[],none,[]⟩/\(AV "__init__").params.args.map Arg.arg=(["self","things","turns","kind","fresh"]:List Str)/\(AV "__init__").scope.names.all (λx=>x.2 != .cell)=true /\
  ((["self","things","turns","kind","fresh"]:List Str).all λx=>(AV "__init__").scope.names.lookup x==some .local)=true/\(AV "__init__").scope.isCoroutine=false/\(AV "__init__").scope.isGenerator=false/\(AV "__init__").scope.kind=.function/\(AV "__init__").scope.names.lookup ("len" : Str)=some .globalImplicit:=by
 refine⟨?_,?_,?_,?_,?_,?_,?_,?_⟩<;>kernel_rfl
theorem YS{u1 u2 u3:Tok}{m0:Str->Option Value}(h0:∀y,m0 y=none):Eh (λy=>if y=("left" : Str) then some (.int l u1) else(λy=>if y=("fresh" : Str) then some (.int f u2) else(λy=>if y=("kind" : Str) then some (.str kd u3) else(λy=>if y=("turns" : Str) then some (.ref t) else(λy=>if y=("things" : Str) then some (.ref la) else m0 y) y) y) y) y) la t kd f l where
 th:=(Yf (by decide +kernel)).trans ((Yf (by decide +kernel)).trans ((Yf (by decide +kernel)).trans ((Yf (by decide +kernel)).trans (XL rfl))))
 tu:=(Yf (by decide +kernel)).trans ((Yf (by decide +kernel)).trans ((Yf (by decide +kernel)).trans (XL rfl)))
 kd:=⟨u3,(Yf (by decide +kernel)).trans ((Yf (by decide +kernel)).trans (XL rfl))⟩
 fr:=⟨u2,(Yf (by decide +kernel)).trans (XL rfl)⟩
 lf:=⟨u1,XL rfl⟩
 no:=λx hx=>(Yf λe=>hx (by refine zr e ?_;decide +kernel)).trans ((Yf λe=>hx (by refine zr e ?_;decide +kernel)).trans ((Yf λe=>hx (by refine zr e ?_;decide +kernel)).trans ((Yf λe=>hx (by refine zr e ?_;decide +kernel)).trans ((Yf λe=>hx (by refine zr e ?_;decide +kernel)).trans (h0 x)))))
theorem UR (ES:Kl env L ["self","things","turns","kind","fresh"]) (D:R3 x dx la t L)
  (hP:∀h,(∀b o,b≠x->b≠dx->b≠la->b≠t->b≠L->h0.get? b=some o->h.get? b=some o)->PlainAt h AQ CA N mN) (hlen:∀(s':Shared)(p:Pos)(Q:Value->Shared->Prop),(∀b o,b≠x->b≠dx->b≠la->b≠t->b≠L->h0.get? b=some o->s'.heap.get? b=some o)->Q (.builtin "len") s'->wpAny Md A (eval (.Name "len" p) env) Q E s')
  (H:HS x dx la t L N mN (λJ=>none) mL vs n kvs h0 s.heap) (Zv:vs.size<=Ab)
  (h1:mL ("self" : Str)=some (.ref x)) (h2:mL ("things" : Str)=some (.ref la)) (h3:mL ("turns" : Str)=some (.ref t)) (h4:mL ("kind" : Str)=some (.str kd u1)) (h5:mL ("fresh" : Str)=some (.int f u2)) {Q:Flow->Shared->Prop}
  (hQ:∀h' tk m',HS x dx la t L N mN m' mL vs n kvs h0 h'->Eh m' la t kd f vs.size->Q .next (up s h' tk)):
  wpAny Md A (execs (Lr l) env) Q E s:=by
 have si:("self" : Str)∈(["self","things","turns","kind","fresh"]:List Str):=by decide +kernel
 refine A0W (A0i (Aw ES H.fr (by decide +kernel) h2 (by decide +kernel) (Aw ES H.fr si h1 (by decide +kernel) (Cq D (hP _ H.k) H (k:=0) (by decide +kernel) Within.nil (by decide +kernel) λg1 t1 H1=>?_))) rfl);refine A0W (A0i (Aw ES H1.fr (by decide +kernel) h3 (by decide +kernel) (Aw ES H1.fr si h1 (by decide +kernel) (Cq D (hP _ H1.k) H1 (k:=1) (by decide +kernel) (A1m _ _ Within.nil) (by decide +kernel) λg2 t2 H2=>?_))) rfl);clear H1;refine A0W (A0i (Aw ES H2.fr (by decide +kernel) h4 (by decide +kernel) (Aw ES H2.fr si h1 (by decide +kernel) (Cq D (hP _ H2.k) H2 (k:=2) (by decide +kernel) (A1m _ _ (A1m _ _ Within.nil)) (by decide +kernel) λg3 t3 H3=>?_))) rfl);clear H2;refine A0W (A0i (Aw ES H3.fr (by decide +kernel) h5 (by decide +kernel) (Aw ES H3.fr si h1 (by decide +kernel) (Cq D (hP _ H3.k) H3 (k:=3) (by decide +kernel) (A1m _ _ (A1m _ _ (A1m _ _ Within.nil))) (by decide +kernel) λg4 t4 H4=>?_))) rfl);clear H3;refine A0W (A0i (A0p (hlen _ _ _ H4.k ?_)) rfl);refine A1f rfl (AY rfl (by simp) (A0G (Aw ES H4.fr (by decide +kernel) h2 (by decide +kernel) (A0c ?_)) rfl));refine Calls.call_len_list ⟨_,H4.l,rfl,n,rfl⟩ (PM Zv) ?_;refine Aw ES H4.fr si h1 (by decide +kernel) (Cq (s:={ s with heap:=g4,toks:=_ }) D (hP _ H4.k) H4 (k:=4) (by decide +kernel) (A1m _ _ (A1m _ _ (A1m _ _ (A1m _ _ Within.nil)))) (by decide +kernel) λg5 t5 H5=>?_);exact wpAny_execs_nil (hQ g5 t5 _ H5 (YS λJ=>rfl))
theorem c6(h:mT x y z u=.ok d):∃l m k f,x=.list l/\y=.dict m/\z=.str k/\u=.int f/\AR m (.int 0)=true/\PV.Bm l=true/\PV.Bm (m.map (·.2))=true/\d=.obj l m k f l.length:=by
 refine AE (bR h) λl Vv h=>?_;subst Vv
 refine AE (bT h) λm Vv h=>?_;subst Vv
 refine AE (bQ h) λk Vv h=>?_;subst Vv
 refine AE (bS h) λf Vv h=>?_;subst Vv
 obtain⟨h1,h2⟩:=Bb h;refine At h2 ?_;simp only[Bool.and_eq_true] at h1;exact⟨l,m,k,f,rfl,rfl,rfl,rfl,h1.1.1,h1.1.2,h1.2,rfl⟩
theorem lk5(h1:(a==b)=false)(h2:(a==c)=false)(h3:(a==d)=false)(h4:(a==e)=false)(h5:(b==c)=false)(h6:(b==d)=false)(h7:(b==e)=false)(h8:(c==d)=false)(h9:(c==e)=false)(HQ:(d==e)=false):
  ([(a,x),(b,y),(c,z),(d,u),(e,v)]:List (Str×Value)).reverse.lookup a=some x/\([(a,x),(b,y),(c,z),(d,u),(e,v)]:List (Str×Value)).reverse.lookup b=some y/\([(a,x),(b,y),(c,z),(d,u),(e,v)]:List (Str×Value)).reverse.lookup c=some z/\([(a,x),(b,y),(c,z),(d,u),(e,v)]:List (Str×Value)).reverse.lookup d=some u/\([(a,x),(b,y),(c,z),(d,u),(e,v)]:List (Str×Value)).reverse.lookup e=some v:=by
 show List.lookup a [(e,v),(d,u),(c,z),(b,y),(a,x)]=some x/\List.lookup b [(e,v),(d,u),(c,z),(b,y),(a,x)]=some y/\List.lookup c [(e,v),(d,u),(c,z),(b,y),(a,x)]=some z/\List.lookup d [(e,v),(d,u),(c,z),(b,y),(a,x)]=some u/\List.lookup e [(e,v),(d,u),(c,z),(b,y),(a,x)]=some v;simp[lookup_cons,h1,h2,h3,h4,h5,h6,h7,h8,h9,HQ]
set_option maxHeartbeats 1000000 in
theorem Qr (F:AL f) (SH:f.t.G.lookup ("len" : Str)=none) (x:St f.c own ρ s) (du:f.c.h0.get? la=none) (ql:s.heap.get? la=some { cls:=.type "list",dict:=none,data:=.seq vs n,slots:=#[] })
  (rr:Rds s.heap P1 l vs.toList) (ln:l.length<=Ab) (ht:f.c.h0.get? t=none) (n1:t≠1) (lt:m.length<=Ab) (dq:Bi s.heap t (m.map (·.1)) us) (dr:RdKV s.heap P2 m us) (sk:PyData.strOk k=true) (Jh:AR m (.int 0)=true) (im:PV.Bm l=true/\PV.Bm (m.map (·.2))=true)
  (hQ:∀xa h' tk,Ap (frs f.c.A) f.c.h0 h'->CV h' (λb=>(f.c.P0 b\/f.c.h0.get? b=none)/\Value.ref xa≠.ref b) (λa=>f.c.h0.get? a=none) (.obj l m k ff l.length) (.ref xa)->Q (.ref xa) (up s h' tk)):
  wpAny Md f.c.A (call (.ref CA) [.ref la,.ref t,.str k u1,.int ff u2]) Q E s:=by
 refine HU F.gnd.arc λN mN arc=>?_
 have My:=x.B0 F;refine WK (Hm arc.at_ Q3) λfa o pm cd doc hf ho hc mA WG=>?_
 refine Ca (dq.int Jh) λkvs Kw e5 EH=>?_;subst EH
 refine pr Ny λf1 f2 f3 f4 f5 f6 f7 f8=>?_
 generalize hX:s.heap.objs.size+1=X;generalize aG:s.heap.objs.size=DX at hX;have mF:s.heap.get? X=none:=by
  cases q:s.heap.get? X with
  |none=>rfl
  |some o=>exact absurd (A0m q) (Nat.not_lt.mpr (zr aG (zr hX.symm (le_succ _))))
 have fe:s.heap.get? DX=none:=aG▸BI _;refine wpAny_call (T1 (arc.at_.keeps My) hf (My _ _ ho) hc ?_);have Kv:∀b o,s.heap.get? b=some o->((s.heap.push { cls:=.type "dict",data:=.dict #[] }).push { cls:=.ref CA,dict:=some s.heap.objs.size,data:=.plain }).get? b=some o:=λb o hb=>mi _ (mi _ hb)
 have zN:((s.heap.push { cls:=.type "dict",data:=.dict #[] }).push { cls:=.ref CA,dict:=some s.heap.objs.size,data:=.plain }).get? X=some { cls:=.ref CA,dict:=some DX,data:=.plain }:=by
  have:=A0L (s.heap.push { cls:=.type "dict",data:=.dict #[] }) (o:={ cls:=.ref CA,dict:=some s.heap.objs.size,data:=.plain }) rfl;rw[Heap.size_push,aG,hX] at this;exact zr aG this
 have mI:((s.heap.push { cls:=.type "dict",data:=.dict #[] }).push { cls:=.ref CA,dict:=some s.heap.objs.size,data:=.plain }).get? DX=some { cls:=.type "dict",data:=.dict #[] }:=by
  have:=A0L s.heap (o:={ cls:=.type "dict",data:=.dict #[] }) rfl;rw[aG] at this;exact mi _ this
 refine zr aG (zr hX ?_);rw[aG] at Kv zN mI;generalize (s.heap.push { cls:=.type "dict",data:=.dict #[] }).push { cls:=.ref CA,dict:=some DX,data:=.plain }=H0 at *;have fA:H0.Ns1 DX λJ=>none:=Heap.Ns1.of_empty ⟨_,#[],_,mI,rfl,λe he=>absurd he (by simp),λJ=>rfl⟩
 have LJ:bindArgs (methDef (AV "__init__").name (AQ.name ++ "." ++ (AV "__init__").name) (AV "__init__").params (AV "__init__").body (AV "__init__").scope pm cd doc) ⟨[.ref X,.ref la,.ref t,.str k u1,.int ff u2],[]⟩=pure ([("self",.ref X),("things",.ref la),("turns",.ref t),("kind",.str k u1),("fresh",.int ff u2)]:List (Str×Value)):=by
  have:=FL (vals:=[.ref X,.ref la,.ref t,.str k u1,.int ff u2]) (fd:=methDef (AV "__init__").name (AQ.name ++ "." ++ (AV "__init__").name) (AV "__init__").params (AV "__init__").body (AV "__init__").scope pm cd doc) f1 rfl (zr (KK (f:=Arg.arg)).symm (zr f2 (rfl:[Value.ref X,.ref la,.ref t,.str k u1,.int ff u2].length=(AV "__init__").params.args.length))) (by refine zr f2 ?_;decide +kernel);rw[f2] at this;exact this
 have QF:∀b o,f.B.get? b=some o->H0.get? b=some o:=λb o hb=>Kv b o (My b o hb)
 refine codeAny_call_def (s:={ s with heap:=H0 }) (body:=(AV "__init__").body) (lA F.depth) (QF _ _ ho) mA (F.gnd.nolimit.keeps QF) (WG.keeps QF) rfl (.of_eq LJ) (λz hz=>?_) (λz hz=>?_) (λBl FQ CM=>?_) f5 f6 f7
 ·have:=A0T.1 f3 z hz;exact λe=>by rw[e] at this;cases this
 ·have:=A0T.1 f4 z.1 (by
   simp only[mem_cons,not_mem_nil,or_false] at hz;rcases hz with rfl|rfl|rfl|rfl|rfl
   ·exact .head _
   ·exact .tail _ (.head _)
   ·exact .tail _ (.tail _ (.head _))
   ·exact .tail _ (.tail _ (.tail _ (.head _)))
   ·exact .tail _ (.tail _ (.tail _ (.tail _ (.head _)))))
  exact eq_of_beq this
 obtain⟨l0,aB⟩:=Nw;refine zr (Q4.trans aB:(AV "__init__").body=Lr l0) ?_;generalize hLL:H0.objs.size=L at *;have hL:H0.get? L=none:=hLL▸BI _;have yo:∃o,H0.get? X=some o/\o.cls=.ref CA/\o.dict=some DX/\o.data=.plain:=⟨_,zN,rfl,rfl,rfl⟩;obtain⟨ot,est,ept,lz,rt⟩:=id Kw
 have fP:H0.DictOf (intKind prog w) t kvs:=⟨ot,est,ept,Kv _ _ lz,rt⟩;have D:R3 X DX la t L:=Uv yo fA (Kv _ _ ql) fP (λe=>by rw[<-e,fe] at lz;cases lz) hL;have Vz:∀{b o},f.B.get? b=some o->b≠X/\b≠DX/\b≠la/\b≠t/\b≠L:=λ{b o}hb=>by
  have h0:=(F.base b o hb).2;have h2:=My b o hb;refine⟨λe=>?_,λe=>?_,λe=>?_,λe=>?_,λe=>?_⟩
  ·rw[e,mF] at h2;cases h2
  ·rw[e,fe] at h2;cases h2
  ·rw[e,du] at h0;cases h0
  ·rw[e,ht] at h0;cases h0
  ·have:=QF b o hb;rw[e,hL] at this;cases this
 have hP:∀h,(∀b o,b≠X->b≠DX->b≠la->b≠t->b≠L->Bl.get? b=some o->h.get? b=some o)->PlainAt h AQ CA N mN:=λh kk=>arc.at_.keeps λb o hb=>
  let ⟨q1,q2,q3,q4,q5⟩:=Vz hb;kk b o q1 q2 q3 q4 q5 (CM b o (QF b o hb))
 have ES:Kl (callEnv (methDef (AV "__init__").name (AQ.name ++ "." ++ (AV "__init__").name) (AV "__init__").params (Lr l0) (AV "__init__").scope pm cd doc) L fa) L ["self","things","turns","kind","fresh"]:=⟨f7,rfl,λy hy=>eq_of_beq (A0T.1 f4 y hy)⟩;obtain⟨k1,k2,k3,k4,k5⟩:=lk5 (x:=Value.ref X) (y:=Value.ref la) (z:=Value.ref t) (u:=Value.str k u1) (show(("self" : Str) == "things")=false by decide +kernel) (show(("self" : Str) == "turns")=false by decide +kernel) (show(("self" : Str) == "kind")=false by decide +kernel) (show(("self" : Str) == "fresh")=false by decide +kernel) (show(("things" : Str) == "turns")=false by decide +kernel) (show(("things" : Str) == "kind")=false by decide +kernel) (show(("things" : Str) == "fresh")=false by decide +kernel) (show(("turns" : Str) == "kind")=false by decide +kernel) (show(("turns" : Str) == "fresh")=false by decide +kernel) (show(("kind" : Str) == "fresh")=false by decide +kernel);have EF:vs.size=l.length:=Ft rr;refine UR ES D hP (λs' p Q kk hq=>A0Y ?_ (by decide +kernel)) (⟨λJ J J J J J J h=>h,let ⟨o,ho,r⟩:=yo;⟨o,CM _ _ ho,r⟩,fA.at λo ho=>CM _ _ ho,CM _ _ (Kv _ _ ql),C2 (a:=t) fP λo ho=>CM _ _ ho,FQ⟩:HS X DX la t L N mN (λJ=>none) (λx=>([("self",.ref X),("things",.ref la),("turns",.ref t),("kind",.str k u1),("fresh",.int ff u2)]:List (Str×Value)).reverse.lookup x) vs n kvs Bl Bl) (zr EF ln) k1 k2 k3 k4 k5 λh' tk m' H' eD=>⟨rfl,hQ X h' tk ?_ ?_⟩
 ·refine DU F.gnd.g λmg g1 J g2 J=>?_
  refine AE F.gnd.b λmb g3 g4=>?_
  have kb:∀b o,f.B.get? b=some o->s'.heap.get? b=some o:=λb o hb=>let ⟨q1,q2,q3,q4,q5⟩:=Vz hb;kk b o q1 q2 q3 q4 q5 (CM b o (QF b o hb))
  refine zr (loadName_read ES.kind (show(callEnv (methDef (AV "__init__").name (AQ.name ++ "." ++ (AV "__init__").name) (AV "__init__").params (Lr l0) (AV "__init__").scope pm cd doc) L fa).kindOf ("len" : Str)=some .globalImplicit from f8)) ?_;have hb:(("len" : Str),Value.builtin "len")∈Bg:=by decide +kernel
  exact Calls.loadGlobal_builtin (g1.keeps kb) (g2 _ _ hb SH) (g3.keeps kb) (g4 _ _ hb) hq
 ·intro b o hb;have kk:∀o',s.heap.get? b=some o'->h'.get? b=some o':=λo' hs=>H'.k b o' (λe=>by rw[e,mF] at hs;cases hs) (λe=>by rw[e,fe] at hs;cases hs) (λe=>by rw[e,du] at hb;cases hb) (λe=>by rw[e,ht] at hb;cases hb) (λe=>by have:=Kv b o' hs;rw[e,hL] at this;cases this) (CM b o' (Kv b o' hs))
  obtain⟨q1,sl,q2⟩:=x.base b o hb;exact⟨λhf=>kk _ (q1 hf),sl,kk _ q2⟩
 ·have kp:Kp (λJ=>False) s.heap h':=λb o hs hm=>by
   rcases hm with⟨_,_,hd,hc|⟨hp,_⟩⟩|⟨_,_,_,hp⟩|⟨_,hp⟩
   ·refine H'.k b o (λe=>by rw[e,mF] at hs;cases hs) (λe=>by rw[e,fe] at hs;cases hs) (λe=>?_) (λe=>?_) (λe=>by have:=Kv b o hs;rw[e,hL] at this;cases this) (CM b o (Kv b o hs))
    ·rw[e,ql] at hs;cases hs;simp at hc
    ·rw[e,lz] at hs;cases hs;rw[rt.1.1] at hc;simp at hc
   ·exact hp.elim
   ·exact hp.elim
   ·exact hp.elim
  rw[EF] at eD;exact⟨X,DX,la,t,m',vs,_,rfl,x.BS mF,x.BS fe,du,ht,H'.hx,H'.ns,eD,sk,D.a6,im,⟨n,H'.l⟩,ln,Rds.Bj l im.1 (Rds.to kp l (Rds.Bj l im.1 rr)),n1,lt,.inl ⟨kvs,H'.d,e5,rfl⟩,RdKV.Bj m im.2 (RdKV.to kp m (RdKV.Bj m im.2 dr))⟩
theorem TT(r:D9 c own B8 h k (.str x) v):PyData.strOk x=true/\∃t,v=.str x t:=by cases k<;>exact r
theorem XX (F:AL f) (x:St f.c own ρ s) (hg:f.t.glob ("Arc" : Str)=true) (h:Q (.ref CA) s):wpAny Md f.c.A (loadName f.c.env "Arc") Q E s:=by
 refine DU F.gnd.g λmg h1 J J h2=>?_
 have hk:f.c.env.kindOf ("Arc" : Str)=some .globalImplicit:=by
  show f.c.env.scope.names.lookup ("Arc" : Str)=_;exact zr F.scope (eq_of_beq hg)
 refine zr (loadName_read F.ok.kind hk) ?_;exact Calls.loadGlobal_global (zr F.gl (h1.keeps (x.B0 F))) h2 h
theorem LY (F:AL f) (E6:fr=true) (hz:z=("Arc" : Str)) (hg:f.t.glob ("Arc" : Str)=true) (SH:f.t.G.lookup ("len" : Str)=none) (hdb:(y==("__debug__" : Str))=false) (hm:(y,i)∈f.c.names) (hi:i∈f.c.mv)
  (hb:AW f cf Dm b .fresh) (hc:AW f cf Dl c kc) (hd:AW f cf LK d kd) (hs:[Dm,Dl,LK].any AN=false):Dz f cf fr (.Return (some (.Call (.Name z np) [.Name y yp,Dm,Dl,LK] [] BQ)) pos) (.retMk i b c d):=by
 subst hz E6;intro own ρ s o x he;refine AE (Ek (iT.symm.trans he)) λd0 SJ he=>?_
 refine AE (AD he) λd1 eb he=>?_
 refine AE (AD he) λd2 ec he=>?_
 refine AE (AD he) λd3 ed he=>?_
 refine AE (AD he) λd4 e4 he=>?_
 refine At he ?_;refine ph (c6 e4) λl m k ff mz my mw r8' Jh im1 im2 n4=>?_;subst mz;subst my;subst mw;subst r8';subst n4
 simp only[any_cons,any_nil,Bool.or_false,Bool.or_eq_false_iff] at hs;refine HU F.gnd.arc λN mN arc=>?_
 refine A19 (A0p (A0Y (XX F x hg ?_) (by decide +kernel)));refine callWith_cls arc.at_.cls ?_ rfl (A5 (by simp[hs.1,hs.2.1,hs.2.2]));refine A0G (A0Y (x.I8 F.ok hm SJ λv hv hr=>?_) hdb) rfl;refine A0G (hb.at F x eb λv1 AG g1 x1 r1=>?_) (AJ hs.1);refine A0G (hc.at F x1 ec λv2 s₂ g2 x2 r2=>?_) (AJ hs.2.1);refine A0G (hd.int x2 ed λt3 Bt g3=>A0c ⟨(x2.grow F.ok g3).B0 F,?_⟩) (AJ hs.2.2);have x3:=x2.grow F.ok g3;obtain⟨sk,u,rfl⟩:=TT r2;have om:=g2.trans g3;refine M7.el (Ff hi (DB.grow F.ok x (g1.trans om) hr)) λla vs oa n ql ln rr=>?_
 refine R4.el (r1.grow x g1 F.ok om) λt us ht n1 lt dq dr=>?_
 obtain⟨h3,yX,rfl,_⟩:=g1.trans om;exact Qr F SH x3 (x3.ownNew la i oa hi) ql rr ln (x.BS ht) n1 lt dq dr sk Jh ⟨im1,im2⟩ λxa h' tk gr rd=>⟨_,rfl,⟨h',tk,rfl⟩,gr,rd⟩
inductive F6:PE->Prop where
 |and (l:List PE):F6 (.and l)
 |or (l:List PE):F6 (.or l)
 |cmp (o:mX) (a b:PE):F6 (.cmp o a b)
 |not (a:PE):F6 (.not a)
 |const (d:PV) (h:d.Ot=true):F6 (.const d)
noncomputable def aj(p:PE):Option { _u:Unit // F6 p }:=match p with
 |.and l=>some ⟨(),.and l⟩
 |.or l=>some ⟨(),.or l⟩
 |.cmp o a b=>some ⟨(),.cmp o a b⟩
 |.not a=>some ⟨(),.not a⟩
 |.const d=>if h:d.Ot=true then some ⟨(),.const d h⟩ else none
 |_=>none
theorem Q5(hi:d.Ot=true)(r:D9 c own B8 h .safe d v):D9 c own B8 h .fresh d v:=
 N7 (λJ e=>by rw[e] at hi;cases hi) (λJ e=>by rw[e] at hi;cases hi) (λJ J J J J e=>by rw[e] at hi;cases hi) r
theorem RD(hp:F6 p)(h:ev cf ρ p=.ok d):d.Ot=true:=by
 cases hp with
 |const d' hp=>refine At h ?_;exact hp
 |and l=>obtain⟨b,h⟩:=Eu (Sn.symm.trans h);refine At h ?_;rfl
 |or l=>obtain⟨b,h⟩:=Eu (Sm.symm.trans h);refine At h ?_;rfl
 |cmp o a b=>
  obtain⟨x,h⟩:=Eu (Kz.symm.trans h);obtain⟨y,h⟩:=Eu h;obtain⟨r,h⟩:=Eu h;refine At h ?_;rfl
 |not a=>
  obtain⟨x,h⟩:=Eu (zu.symm.trans h);cases x with
  |bool b=>refine At h ?_;rfl
  |_=>exact Res.no h
theorem OA(h:AW f cf e p .safe)(hp:F6 p):AW f cf e p .fresh:=by
 intro own ρ s d x he;exact mj (h own ρ s d x he) (λv s' q=>q.casesOn λg r=>⟨g,Q5 (RD hp he) r⟩) λJ J q=>q.elim
theorem ci{vs:Array Value}(h:vs.toList=u::r):(vs.eraseIdxIfInBounds 0).toList=r:=by
 unfold Array.eraseIdxIfInBounds;refine zr (dif_pos (by refine zr yc.symm (zr h ?_);exact succ_pos _:0<vs.size)) (zr Array.toList_eraseIdx (zr h ?_));rfl
theorem Qe (F:AL f) {x y:Str} (hd:(x==("__debug__" : Str))=false) (hm:(x,i)∈f.c.names) (hi:i∈f.c.mv) (hy:(y,j)∈f.c.names) (hj:j∉f.c.mv) (DS:(apos.endLine==BQ.line)=true):
  Dz f cf fr (.Assign [.Name y yp] (.Call (.Attribute (.Name x xp) "pop" apos) [.Constant (.int 0) ck cp] [] BQ) pos) (.pop j i):=by
 intro own ρ s o st he;refine AE (Ek (sO.symm.trans he)) λd0 SJ he=>?_
 refine AE (AD he) λp e1 he=>?_
 refine At he ?_;have hl:∃d l,d0=.list (d::l)/\p=(d,.list l):=by
  cases d0 with
  |list l=>
   cases l with
   |nil=>exact Res.no e1
   |cons d l=>exact⟨d,l,rfl,(Lc e1).symm⟩
  |_=>exact Res.no e1
 obtain⟨d,l,rfl,rfl⟩:=hl;refine A1p (A2A (T := "list") (id := "list.pop") rfl rfl DS A1b PySem.F.slot_list_pop PySem.F.type_list_pop ?_) rfl;refine A0Y (st.I8 F.ok hm SJ λv hv hr=>?_) hd;obtain⟨ad,vs,rfl,DA,⟨n,hs⟩,hlen,yw⟩:=Ff hi hr;obtain⟨u,r,e,ru,rr⟩:=yw;refine⟨⟨_,hs,rfl⟩,λa' q=>by injection q with q;subst q;exact⟨_,hs,rfl⟩,?_⟩;have EF:vs.size=l.length+1:=zr yc.symm (zr e (zr A0P (zr (Rds.length rr) rfl)));refine zr (show starEach [.Constant (.int 0) ck cp] f.c.env=[(false,eval (.Constant (.int 0) ck cp) f.c.env)] from AJ rfl) ?_;refine P.pop_at_list (A1g (k:=ck) (pos:=cp) ⟨vs,n,0,_,0,u,?_,rfl,hs,by decide +kernel,?_,by refine zr A0z.symm (zr e ?_);rfl,?_⟩)
 ·exact zr EF (mu hlen (by decide))
 ·exact Fa (A1B 0) (zr EF (succ_pos _))
 have kk:∀b o,b≠ad->s.heap.get? b=some o->(s.heap.update ad (Obj.mapSeq λxs=>xs.eraseIdxIfInBounds 0)).get? b=some o:=λb o hb ho=>((A0f ..).2 b hb).trans ho
 have Ah:=A1S (Obj.mapSeq λxs=>xs.eraseIdxIfInBounds 0) hs rfl;have Vy:Kp (Fz f.c own) s.heap (s.heap.update ad (Obj.mapSeq λxs=>xs.eraseIdxIfInBounds 0)):=J5 hs (.inl ⟨_,_,rfl,rfl⟩) kk λh=>by rw[h.2] at DA;cases DA
 obtain⟨h1,h2,h3⟩:=st.Jj F.ok hi hm DA hv hs (.inl ⟨_,_,rfl,rfl⟩) (tk:=s.toks+1) kk ⟨_,Ah⟩ (d':=.list l) ⟨ad,vs.eraseIdxIfInBounds 0,rfl,DA,⟨_,Ah⟩,mu (le_succ _) hlen,by refine zr (ci e) ?_;exact Rds.to Vy l rr⟩;refine h1.store (N:=Di f.c) (λb h=>h.names) F.ok hy (by unfold DB;refine zr (Yf hj) ?_;exact Rd.to Vy d ru) λs' x' lg=>?_
 exact⟨_,rfl,own,x',h2.trans (Cn.stored h1 (λJ h=>h) lg) h3,λb o hb=>let ⟨o1,DR⟩:=h3 b o hb;lg.FO h1 x' (λJ h=>h) b o1 DR⟩
theorem Nh
  (E6:A.frames=some (env::outer)) (hl:s.heap.FunFrames base (env::outer)) (hf:env.frame=some L)
  (he:s.heap.get? e=some oe) (fH:base.StaysIn s.heap) (dy:base.get? e=none) (hd:oe.data=.fields vs) (h1:vs[1]?=some .none)
  (h:∀h',Heap.Left base (env::outer) e oe.cls s.heap h'->Q () { s with heap:=h' }):wpAny M A (noteFrame (.ref e) env) (λJ s'=>wpAny M A (setFlight (.ref e) none) Q E s') E s:=by
 unfold noteFrame;simp only[hf];refine Xt (A1j he hd h1 ?_);refine zr (Yf (by decide)) ?_;exact wpAny_newEntry E6 hl hf he fH dy hd (A1N.mp h1).1 h
theorem Qj
  (E6:A.frames=some (env::outer)) (hl:s.heap.FunFrames base (env::outer)) (hf:env.frame=some L) (ht:s.heap.Traced base e cls) (fH:base.StaysIn s.heap) (dy:base.get? e=none)
  (h:∀h',Heap.Left base (env::outer) e cls s.heap h'->Q () { s with heap:=h' }):wpAny M A (noteFrame (.ref e) env) (λJ s'=>wpAny M A (setFlight (.ref e) none) Q E s') E s:=by
 obtain⟨oe,vs,T,oT,ts,he,oL,hd,h1,hnT,hTe,hT,oE,h3⟩:=ht;subst oL;unfold noteFrame;simp only[hf];refine Xt (A1j he hd h1 ?_);refine zr (XL (show(Value.ref T != Value.none)=true from by simp)) ?_;refine Xt (A1j hT oE h3 ?_);refine zr (Yf (show ¬((Value.none==rawInt L)=true) from by simp[rawInt])) ?_;refine Xt (wpAny_setField hT oE (A1N.mp h3).1 ?_);have other:∀b,b≠T->(s.heap.update T (Obj.mapFields (·.setIfInBounds 3 Value.none))).get? b=s.heap.get? b:=λb hb=>Heap.get?_update_other _ _ (Ne.symm hb)
 have K6:∀b o,s.heap.get? b=some o->(∀vs,o.data≠.fields vs)->b≠T:=λb o hb SG q=>by
  rw[q,hT] at hb;injection hb with hb;subst hb;exact SG ts oE
 refine wpAny_newEntry E6 (hl.of_keeps λb o hb SG=>⟨o,(other b (K6 b o hb SG)).trans hb,rfl⟩) hf ((other e (Ne.symm hTe)).trans he)
  (λb o oP=>(other b λq=>by rw[q,hnT] at oP;cases oP).trans (fH b o oP)) dy hd (A1N.mp h1).1
  λh' ⟨x1,x2,x3,x4⟩=>h h' ⟨x1,x2,x3,λb o hb SG=>x4 b o ((other b (K6 b o hb SG)).trans hb) SG⟩
theorem KE{h base:Heap}:∀{l:List Env},(∀e∈l,e.scope.kind≠.module/\∃L,e.frame=some L)->(∀b∈l.filterMap (·.frame),∃m,h.Ns b m)->(∀b∈l.filterMap (·.frame),base.get? b=none)->h.FunFrames base l:=by
 intro l;induction l with
 |nil=>exact λ_ _ _=>trivial
 |cons e l ih=>
  intro h1 h2 h3;obtain⟨hk,L,hL⟩:=h1 e d4;have hm:L∈(e::l).filterMap (·.frame):=by exact zr A1r (zr hL d4)
  have ht:∀b∈l.filterMap (·.frame),b∈(e::l).filterMap (·.frame):=λb hb=>by exact zr A1r (zr hL (kV _ hb))
  obtain⟨m,hn⟩:=h2 L hm;exact Heap.FunFrames.cons hk hL hn (h3 L hm) (ih (λe' Rt=>h1 e' (kV _ Rt)) (λb hb=>h2 b (ht b hb)) λb hb=>h3 b (ht b hb))
structure Zh(f:EG)(C a:Addr)(s':Shared):Prop where
 g:Ap (frs f.c.A) f.c.h0 s'.heap
 hf:∀b∈frs f.c.A,∃m,s'.heap.Ns b m
 hn:f.c.h0.get? a=none
 ht:s'.heap.Traced f.c.h0 a (.ref C)\/∃oe vs,s'.heap.get? a=some oe/\oe.cls=.ref C/\oe.data=.fields vs/\vs[1]?=some .none
theorem Traced.back{B8 Bl h:Heap}(g:Ap l B8 Bl)(x:h.Traced Bl a c):h.Traced B8 a c:=by
 obtain⟨oe,vs,T,oT,ts,h1,h2,h3,h4,h5,r⟩:=x;exact⟨oe,vs,T,oT,ts,h1,h2,h3,h4,g.none h5,r⟩
theorem Zh.note(F:AL f)(E6:f.c.A.frames=some (f.c.env::outer))(hf:f.c.env.frame=some L)(u:Zh f C a s')
  (hQ:∀h',YX f C a h'->Q () { s' with heap:=h' }):
  wpAny Md f.c.A (noteFrame (.ref a) f.c.env) (λJ s₂=>wpAny Md f.c.A (setFlight (.ref a) none) Q E s₂) E s':=by
 obtain⟨hg,FQ,fB,hk⟩:=u;have NI:frs f.c.A=(f.c.env::outer).filterMap (·.frame):=by unfold frs;refine zr E6 ?_;rfl
 refine AE F.ok.frames λl hl Mx=>?_
 rw[E6] at hl;injection hl with hl;subst hl;let base:=W.hideAll f.c.h0 (frs f.c.A);have mD:∀b∈(f.c.env::outer).filterMap (·.frame),base.get? b=none:=λb hb=>W.hideAll_none _ (NI▸hb)
 have nu:s'.heap.FunFrames base (f.c.env::outer):=KE Mx (λb hb=>FQ b (NI▸hb)) mD;have ND:base.StaysIn s'.heap:=λb o hb=>by
  refine(hg b o (W.of_hideAll _ hb)).1 λhm=>?_
  rw[W.hideAll_none _ hm] at hb;cases hb
 have dy:base.get? a=none:=by
  cases q:base.get? a with
  |none=>rfl
  |some o=>rw[W.of_hideAll _ q] at fB;cases fB
 have done:∀h',Heap.Left base (f.c.env::outer) a (.ref C) s'.heap h'->Q () { s' with heap:=h' }:=λh' ⟨k1,k2,k3,k4⟩=>by
  refine hQ h' ⟨λb o hb=>?_,λb hb=>?_,fB,?_⟩
  ·by_cases hm:b∈frs f.c.A
   ·refine⟨λhn=>absurd hm hn,?_⟩;obtain⟨sl,h2⟩:=(hg b o hb).2;obtain⟨m,o',es,ep,Ah,Au,_⟩:=FQ b hm;rw[h2] at Ah;cases Ah
    obtain⟨Yd,h3⟩:=k4 b _ h2 λvs q=>by rw[Au] at q;cases q
    exact⟨Yd,h3⟩
   ·have:=k1 b o (W.hideAll_get _ hb hm);exact⟨λJ=>this,o.slots,this⟩
  ·obtain⟨m,o',es,ep,Ah,Au,r⟩:=FQ b hb;obtain⟨Yd,h3⟩:=k4 b _ Ah λvs q=>by rw[Au] at q;cases q
   exact⟨m,_,es,ep,h3,Au,r⟩
  ·obtain⟨oe,vs,T,oT,ts,q1,q2,q3,q4,q5,q6,q7,q8,q9⟩:=k3;refine⟨oe,vs,T,oT,ts,q1,q2,q3,q4,?_,q6,q7,q8,q9⟩;cases q:f.c.h0.get? T with
   |none=>rfl
   |some o=>
    by_cases hm:T∈frs f.c.A
    ·obtain⟨_,o',Ah,SG⟩:=k2.mem (NI▸hm);rw[q7] at Ah;cases Ah;exact absurd q8 (SG _)
    ·have:=W.hideAll_get _ q hm;rw[show(W.hideAll f.c.h0 (frs f.c.A)).get? T=none from q5] at this;cases this
 rcases hk with ht|⟨oe,vs,he,hc,hd,h1⟩
 ·refine Qj E6 nu hf ?_ ND dy done;obtain⟨oe,vs,T,oT,ts,q1,q2,q3,q4,q5,r⟩:=ht;refine⟨oe,vs,T,oT,ts,q1,q2,q3,q4,?_,r⟩;cases q:base.get? T with
  |none=>rfl
  |some o=>rw[W.of_hideAll _ q] at q5;cases q5
 ·exact Nh E6 nu hf he ND dy hd h1 λh' k=>done h' (hc▸k)
theorem Zh.leave(F:AL f)(E6:f.c.A.frames=some (f.c.env::outer))(hf:f.c.env.frame=some L)(u:Zh f C a s')
  (hQ:∀h',YX f C a h'->Q () { s' with heap:=h' }):
  wpAny Md f.c.A (leaving f.c.env (.ref a)) Q E s':=by
 unfold leaving;exact Xt (u.note F E6 hf hQ)
structure Zj(f:EG):Prop where
 frames:∃outer,f.c.A.frames=some (f.c.env::outer)
 frame:f.c.env.frame=some f.c.env.locals
theorem Zh.xu(F:AL f)(FK:Zj f){tk:Nat}(u:Zh f C a (up s h' tk))(o:Mu f.B c C)(e:R=.exc c):XU f R s (.ref a) (up s h' tk):=by
 obtain⟨outer,E6⟩:=FK.frames;exact u.leave F E6 FK.frame λh2 g=>⟨c,C,a,h2,tk,e,o,rfl,rfl,g⟩
theorem xy(F:AL f)(hB:∀b o,f.B.get? b=some o->s.heap.get? b=some o)(hg:f.t.glob y=true)(hm:f.B.Ns mainGlobals mg)(hv:mg y=some v)(h:Q v s):
  wpAny Md A (loadName f.c.env y) Q E s:=by
 have hk:f.c.env.kindOf y=some .globalImplicit:=by
  show f.c.env.scope.names.lookup y=_;exact zr F.scope (eq_of_beq hg)
 refine zr (loadName_read F.ok.kind hk) ?_;exact Calls.loadGlobal_global (zr F.gl (hm.keeps hB)) hv h
theorem ldB(F:AL f)(hB:∀b o,f.B.get? b=some o->s.heap.get? b=some o)(hg:f.t.glob y=true)(hn:f.t.G.lookup y=none)(hb:(y,v)∈Bg)(h:Q v s):
  wpAny Md A (loadName f.c.env y) Q E s:=by
 refine DU F.gnd.g λmg h1 J h2 J=>?_
 refine AE F.gnd.b λmb h3 h4=>?_
 have hk:f.c.env.kindOf y=some .globalImplicit:=by
  show f.c.env.scope.names.lookup y=_;exact zr F.scope (eq_of_beq hg)
 refine zr (loadName_read F.ok.kind hk) ?_;exact Calls.loadGlobal_builtin (zr F.gl (h1.keeps hB)) (h2 y v hb hn) (by refine zr F.bl ?_;exact h3.keeps hB) (h4 y v hb) h
theorem Lb (F:AL f) (FK:Zj f) (hg:f.t.glob x=true) (hx:BD[c]?=some x) (hd:(x==("__debug__" : Str))=false):
  Dz f cf fr (.Raise (some (.Call (.Name x xp) [.Constant (.str m) mk mp] [] BQ)) none pos) (.raise c):=by
 intro own ρ s o st he;refine At he ?_;obtain⟨C,xc,bm,newId,Bn,GB,mg,FQ,O,FB⟩:=F.gnd.x c x hx;obtain⟨tl,N,nm,q,bs,hdct,sn,sub,ab,col,dd,k0,k1,k2,k3,k5,mN,hC,hN,hni,T⟩:=O.own.obj;have hk:=st.B0 F;refine wpAny_Raise_call_subT (C:=C) (nm:=nm) (q:=q) (N:=N) (bs:=bs) (hdct:=hdct) (sn:=sn) (sub:=sub) (ab:=ab) (col:=col) (dd:=dd) (k0:=k0) (k1:=k1) (k2:=k2) (k3:=k3) (k5:=k5)
  FB (mN:=mN) (T.hasType FB.hasBase) F.ok.handled rfl hni ?_
 refine A0Y (xy F hk hg FQ O.bound ⟨rfl,?_⟩) hd;refine Calls.evalArgs_plain (A0G (wpAny_Constant_str (A0c ⟨rfl,by show 1<=sizeLine;decide,hk _ _ hC,hN.keeps hk,T.keeps hk,λh' e hm=>?_⟩)) rfl);refine Zh.xu F FK (c:=c) (C:=C) ⟨st.base.trans (.of_keeps hm.keeps),λb hb=>?_,st.BS hm.new,.inr ?_⟩ xc rfl
 ·obtain⟨_,m',Ks⟩:=st.fr b hb;exact⟨m',Ks.keeps hm.keeps⟩
 ·refine AE hm.there λt h1 J=>?_
  exact⟨_,_,h1,rfl,rfl,rfl⟩
inductive CX(f:EG)(r:PV)(s:Shared)(v:Value)(s':Shared):Prop where
 |mk (c:Nat) (C a:Addr) (h':Heap) (tk:Nat) (e:r=.int c) (o:Mu f.B c C) (ev:v=.ref a) (es:s'=up s h' tk) (u:Zh f C a s')
structure Kr(f:EG)(cf:Nat->List PV->Res PV)(g:Str)(es:List Expr)(l:List (PE×Cl))(i ar:Nat)(fr':Bool):Prop where
 gl:f.t.glob g=true
 hd:(g==("__debug__" : Str))=false
 lk:f.t.G.lookup g=some (.fn i ar fr')
 each:BF f cf es l
 st:es.any AN=false
 ne:es≠[]
 len:l.length=ar
 inn:(l.map (·.2)).all Cl.inner=true
theorem Gm(F:AL f)(C:CF f.B f.fa f.t.G cf f.D)(K:Kr f cf g es l i ar fr')(x:St f.c own ρ s)(h1:evs cf ρ (l.map (·.1))=.ok ds)(h2:cf (i+1000) ds=.ok d):
  wpAny Md f.c.A (eval (.Call (.Name g gp) es [] pos) f.c.env) Q (CX f d s) s:=by
 refine A0p (A0Y (Nm F x K.gl K.lk λv hv=>?_) K.hd);refine zr (show v=.ref (f.fa i) from hv) ?_;refine Gr (F.gnd.fn _ i ar fr' K.lk) λo fd ho Yn=>?_
 refine Calls.callWith_function (o:=o) (fd:=fd) (AY K.st K.ne ?_);refine mj (Dd F K.each K.st x h1) (λvs AG q=>?_) λJ J q=>q.elim
 obtain⟨g1,r⟩:=q;have x1:=x.grow F.ok g1;refine⟨⟨x1.B0 F _ _ ho,Yn⟩,?_⟩;have QG:ds.length=ar:=by
  rw[r.len,KK,K.len]
 refine wpAny_call (codeAny_mono (C.x f.c.A AG g i ar fr' ds vs (Fz f.c own) d K.lk QG (x1.here F) (λa ha hf=>Aq hf (x1.fr a ha).1) (r.aQ x K.inn) h2) λres s₂ z=>?_);cases res with
 |ok fl=>exact z.elim
 |error x'=>
  obtain⟨c,C',a,h2,t2,er,o,rfl,rfl,g2,fB,ht⟩:=z;obtain⟨h1,t1,rfl,_⟩:=id g1;exact⟨c,C',a,h2,t2,er,o,rfl,rfl,x1.base.trans g2,λb hb=>let ⟨_,m,hm⟩:=x1.fr b hb;⟨m,g2.ns hm⟩,x1.BS fB,.inl (Traced.back x1.base ht)⟩
inductive Eg:Stmt->Expr->Prop where
 |expr {g:Str} {gp cp pos:Pos} {es:List Expr}:Eg (.Expr (.Call (.Name g gp) es [] cp) pos) (.Call (.Name g gp) es [] cp)
 |asg {g y:Str} {py gp cp pos:Pos} {es:List Expr}:Eg (.Assign [.Name y py] (.Call (.Name g gp) es [] cp) pos) (.Call (.Name g gp) es [] cp)
 |ret {e:Expr} {pos:Pos}:Eg (.Return (some e) pos) e
 |retM {g m:Str} {gp cp apos BQ pos:Pos} {a:Expr} {es:List Expr} (hl:(apos.endLine==BQ.line)=true):Eg (.Return (some (.Call (.Attribute (.Call (.Name g gp) (a::es) [] cp) m apos) [] [] BQ)) pos) (.Call (.Name g gp) (a::es) [] cp)
theorem YQ{st:Stmt}(h:Eg st e)(hint:interactive env=false)(w:wpAny Md A (eval e env) (λJ J=>False) E s):wpAny (model prog Internal.w) A (exec st env) Q E s:=by
 cases h with
 |expr=>exact wpAny_Expr (mj w (λJ J q=>q.elim) λJ J q=>q) hint rfl
 |asg=>exact A1p (mj w (λJ J q=>q.elim) λJ J q=>q) rfl
 |ret=>exact A19 (mj w (λJ J q=>q.elim) λJ J q=>q)
 |retM hl=>exact A19 (Hp .call rfl (by decide) hl (mj w (λJ J q=>q.elim) λJ J q=>q))
theorem WS(F:AL f)(FK:Zj f)(C:CF f.B f.fa f.t.G cf f.D)(K:Kr f cf g es l i ar fr')(hint:interactive f.c.env=false){st:Stmt}{p:PS}(h:Dz f cf fr st p)(ha:Eg st (.Call (.Name g gp) es [] pos)):
  Dz f cf fr st (.x p i (l.map (·.1))):=by
 intro own ρ s o x he;rw[aW] at he;cases q:ex cf ρ p with
 |ok o'=>rw[q] at he;refine At he ?_;exact h own ρ s o' x q
 |stuck=>
  rw[q] at he;refine AE (AD he) λds h1 he=>?_
  refine AE (AD he) λd h2 he=>?_
  refine YQ ha hint (mj (Gm F C K x h1 h2) (λJ J q=>q) λv s' z=>?_);obtain⟨c,C',a,h',tk,rfl,o,rfl,rfl,u⟩:=z;exact u.xu F FK o (Lc he).symm
theorem Q9
  (h:wpAny Md (A.mark (some (.ref e))) (eval t env) (λc AG=>PySem.W.Looks Md AG.heap (excMatches (.ref e) c) true /\
   wpAny Md (A.mark (some (.ref e))) (setFlight (.ref e) none) (λJ s₂=>
     wpAny Md (A.mark (some (.ref e))) (storeName env n (.ref e)) (λJ Bt=>
      wpAny Md (A.mark (some (.ref e))) (execs (Ji::CK) env)
       (λf Jc=>wpAny Md A (do bindName env n .none;unbindBehindTheSuite env n pos) (λJ Vu=>Q f Vu) E Jc)
       (AsSuiteRaised Md (A.mark (some (.ref e))) env n pos (notedBy Md (A.mark (some (.ref e))) env (cameBackBy Md A env E))) Bt) (notedBy Md (A.mark (some (.ref e))) env (cameBackBy Md A env E)) s₂) (notedBy Md (A.mark (some (.ref e))) env (cameBackBy Md A env E)) AG) (notedBy Md (A.mark (some (.ref e))) env (cameBackBy Md A env E)) s):
  wpAny Md A (handleBy (.ref e) env (.ExceptHandler (some t) (some n) (Ji::CK) pos::rest)) Q E s:=
 wpAny_handleBy_cons (codeAny_handlers_test (mj h (λc AG Bl=>Bl.1.here (codeAny_handlers_suite_as Bl.2)) λJ J y=>y)) (by intro q;cases q)
inductive IY:Expr->Str->Str->Str->Prop where
 |mk {y u d:Str} {p0 p1 p2 p3:Pos}:IY (.Call (.Name y p0) [.Name u p1,.Name d p2] [] p3) y u d
theorem PX(F:AL f)(hB:∀b o,f.B.get? b=some o->s.heap.get? b=some o){K:PySem.W.Frag}(hK:K.In f.B)(ho:Gj K C=true)(ha:∃o,s.heap.get? a=some o/\o.cls=.ref C)(he:IY e y n d)(hm:s.heap.Ns f.c.env.locals m)(hmn:m n=some (.ref a))
  (hn:f.c.env.kindOf n=some .local) (Yj:(n==("__debug__" : Str))=false) (hy:f.t.bi y "isinstance" = true) (VZ:(d==("__debug__" : Str))=false) {c:Value} (hd:∀(A:Around)(Q:Value->Shared->Prop),Q c s->wpAny Md A (loadName f.c.env d) Q E s) {b:Bool} (hc:PySem.W.kitOne K (.ref C) c=some b) {Q:Value->Shared->Prop} (h:∀tk,Q (.bool b) { s with toks:=tk }):
  wpAny Md A (eval e f.c.env) Q E s:=by
 cases he
 obtain⟨rfl,hy⟩:=D8 hy;simp only[TC.bi,Bool.and_eq_true,Option.isNone_iff_eq_none] at hy;refine A0p (A0Y (ldB F hB hy.1.1 hy.1.2 (v:=.builtin "isinstance") (by decide +kernel) ?_) (by decide +kernel));refine A1f (A5 rfl) (AY rfl (by simp) ?_);refine A0G (A0Y (A1V F.ok.kind hn hm hmn ?_) Yj) (AJ rfl);refine A0G (A0Y (hd _ _ (A0c ?_)) VZ) (AJ rfl);exact PySem.W.kia_one (UG ho) (hK.keeps hB) ha hc (by intro q;cases q) h
inductive CT(t:TC)(n:Str)(e:Expr)(j:Nat):Prop where
 |mk (y:Str) (h:IY e y n (BD.getD j "")) (hy:t.bi y "isinstance" = true) (hg:t.glob (BD.getD j "")=true) (hj:j∈List.range 5)
inductive VT(t:TC)(n:Str)(e:Expr):Prop where
 |mk (y d:Str) (h:IY e y n d) (hy:t.bi y "isinstance" = true) (hd:t.bi d "ValueError" = true)
theorem IY.star(h:IY e y n d):AN e=false:=by cases h;rfl
inductive ClIs(t:TC)(n:Str):List Stmt->Prop where
 |mk {v:Str} {e0 e1 e2 e3 e4 e5:Expr} {p0 p1 p2 p3 p4 p5 p6 p7 p8 p9 ya:Pos} (hv:t.scope.lookup v=some .local) (hd:(v==("__debug__" : Str))=false) (hn:n≠v) (h0:CT t n e0 0) (h1:CT t n e1 1) (h2:CT t n e2 2) (h3:CT t n e3 3) (h4:CT t n e4 4) (h5:VT t n e5):
  ClIs t n [.Assign [.Name v p0] (.List [e0,e1,e2,e3] p1) p2,.Assign [.Name v p3] (.BinOp (.Name v p4) .Add (.List [e4,.UnaryOp .Not e5 p5] p6) p7) p8,.Return (some (.Name v p9)) ya]
structure CS(f:EG)(C a:Addr)(n:Str)(h:Heap)(m:Str->Option Value):Prop where
 b:∀b o,f.B.get? b=some o->h.get? b=some o
 x:∃o,h.get? a=some o/\o.cls=.ref C
 ns:h.Ns f.c.env.locals m
 mn:m n=some (.ref a)
 g:Ap (frs f.c.A) f.c.h0 h
 ne:a≠f.c.env.locals
 ln:f.c.h0.get? f.c.env.locals=none
theorem CS.push(c:CS f C a n h m)(o:Obj):CS f C a n (h.push o) m:=
 ⟨λb o hb=>mi _ (c.b b o hb),let ⟨o,h1,h2⟩:=c.x;⟨o,mi _ h1,h2⟩,c.ns.keeps λJ J e=>mi _ e,c.mn,c.g.trans (.of_keeps λJ J e=>mi _ e),c.ne,c.ln⟩
theorem CS.but(F:AL f)(c:CS f C a n h m)(hn:h'.Ns f.c.env.locals m')(hs:Heap.SameBut f.c.env.locals h h')(e:m' n=some (.ref a)):CS f C a n h' m':=by
 refine⟨λb o hb=>(hs.2 b λe=>?_).trans (c.b b o hb),let ⟨o,h1,h2⟩:=c.x;⟨o,(hs.2 a c.ne).trans h1,h2⟩,hn,e,λb o hb=>?_,c.ne,c.ln⟩
 ·have:=(F.base b o hb).2;rw[e,c.ln] at this;cases this
 ·have BG:b≠f.c.env.locals:=λe=>by rw[e,c.ln] at hb;cases hb
  obtain⟨k1,sl,k2⟩:=c.g b o hb;exact⟨λSI=>(hs.2 b BG).trans (k1 SI),sl,(hs.2 b BG).trans k2⟩
structure XF(f:EG)(c:Nat)(C:Addr)(K:PySem.W.Frag)(mg:Str->Option Value):Prop where
 ok:K.In f.B/\Gj K C=true
 g:f.B.Ns mainGlobals mg
 ref:∀x∈("RopeError" : Str)::BD,mg x=some (.ref (refOf mg x))
 kit:∀j∈List.range 5,PySem.W.kitOne K (.ref C) (.ref (xaOf mg j))=some (c==j)
 ve:PySem.W.kitOne K (.ref C) (.type "ValueError")=some true
 ex:PySem.W.exmOne K (.ref C) (.ref (refOf mg "RopeError"))=some true
theorem Mu.xf(x:Mu f.B c C):∃K mg,XF f c C K mg:=by
 obtain⟨lt,mg,fD,⟨hr,K,hK,Z1⟩,rfl⟩:=x;have h:=Z1 c lt;unfold aU at h;simp only[Bool.and_eq_true,beq_iff_eq,List.all_eq_true] at h;exact⟨K,mg,⟨hK,h.1.1.1⟩,fD,hr,h.1.1.2,h.1.2,h.2⟩
theorem SW:∀j∈List.range 5,((BD.getD j "")==("__debug__" : Str))=false/\BD.getD j "" ∈ ("RopeError" : Str)::BD:=by decide +kernel
theorem IO (F:AL f) {K:PySem.W.Frag} (X:XF f c C K mg) (cs:CS f C a n s.heap m) (hn:f.c.env.kindOf n=some .local) (nd:(n==("__debug__" : Str))=false) {e:Expr} {j:Nat} (h:CT f.t n e j) {Q:Value->Shared->Prop} (hQ:∀tk,Q (.bool (c==j)) { s with toks:=tk }):
  wpAny Md A (eval e f.c.env) Q E s:=by
 obtain⟨y,h,hy,hg,hj⟩:=h;obtain⟨q1,q2⟩:=SW j hj;exact PX F cs.b X.ok.1 X.ok.2 cs.x h cs.ns cs.mn hn nd hy q1 (λA Q q=>xy F cs.b hg X.g (X.ref _ q2) q) (X.kit j hj) hQ
theorem af (F:AL f) {c:Nat} {K:PySem.W.Frag} (X:XF f c C K mg) (cs:CS f C a n s.heap m) (hn:f.c.env.kindOf n=some .local) (nd:(n==("__debug__" : Str))=false) {e:Expr} (h:VT f.t n e) {Q:Value->Shared->Prop} (hQ:∀tk,Q (.bool true) { s with toks:=tk }):
  wpAny Md A (eval e f.c.env) Q E s:=by
 obtain⟨y,d,h,hy,hd⟩:=h;obtain⟨rfl,hd⟩:=D8 hd;simp only[TC.bi,Bool.and_eq_true,Option.isNone_iff_eq_none] at hd;exact PX F cs.b X.ok.1 X.ok.2 cs.x h cs.ns cs.mn hn nd hy (by decide +kernel) (λA Q q=>ldB F cs.b hd.1.1 hd.1.2 (by decide +kernel) q) X.ve hQ
set_option tactic.hygienic true in
theorem QR (F:AL f) {K:PySem.W.Frag} (X:XF f c C K mg) (cs:CS f C a n s.heap m) (hn:f.c.env.kindOf n=some .local) (nd:(n==("__debug__" : Str))=false) {CK:List Stmt} (h:ClIs f.t n CK) {Q:Flow->Shared->Prop}
  (hQ:∀h' tk m' L,CS f C a n h' m'->f.c.h0.get? L=none->h'.get? L=some { cls:=.type "list",data:=.seq #[.bool (c==0),.bool (c==1),.bool (c==2),.bool (c==3),.bool (c==4),.bool false] }->L≠f.c.env.locals->Q (.ret (.ref L)) { s with heap:=h',toks:=tk }):
  wpAny Md A (execs CK f.c.env) Q E s:=by
 obtain⟨hv,hd,Z3,c0,c1,c2,c3,c4,c5⟩:=h;rename_i v e0 e1 e2 e3 e4 e5 p0 p1 p2 p3 p4 p5 p6 p7 p8 p9 ya;have dw:f.c.env.kindOf v=some .local:=by show f.c.env.scope.names.lookup v=_;exact zr F.scope hv
 have hp:(f.c.env.scope.kind==.class||(f.c.env.scope.kind==.module&&f.c.env.locals != f.c.env.globals))=false:=zr F.ok.kind rfl;have st:∀{e j},CT f.t n e j->AN e=false:=λh=>let ⟨_,h,_,_,_⟩:=h;h.star
 refine A0W (A1p (wpAny_List (A0G (IO F X cs hn nd c0 λt0=>?_) (AJ (st c0)))) rfl);refine A0G (IO F X (s:={ s with toks:=t0 }) cs hn nd c1 λt1=>?_) (AJ (st c1));refine A0G (IO F X (s:={ s with toks:=t1 }) cs hn nd c2 λt2=>?_) (AJ (st c2));refine A0G (IO F X (s:={ s with toks:=t2 }) cs hn nd c3 λt3=>A0c ⟨by show 4<=sizeLine;decide,?_⟩) (AJ (st c3));have zb:=cs.push { cls:=.type "list",data:=.seq #[.bool (c==0),.bool (c==1),.bool (c==2),.bool (c==3)] };have ll:s.heap.objs.size≠f.c.env.locals:=λe=>by
  obtain⟨o,_,_,ho,_⟩:=cs.ns;rw[<-e,BI] at ho;cases ho
 refine A1i dw zb.ns (λh2 Z6 Ro=>?_) hp;have mP:=zb.but F Z6 Ro ((Yf Z3).trans cs.mn);have l2:=(Ro.2 _ ll).trans (A0L _ rfl:(s.heap.push { cls:=.type "list",data:=.seq #[.bool (c==0),.bool (c==1),.bool (c==2),.bool (c==3)] }).get? s.heap.objs.size=some { cls:=.type "list",data:=.seq #[.bool (c==0),.bool (c==1),.bool (c==2),.bool (c==3)] });refine A0W (A1p (wpAny_BinOp (A0Y (A1V F.ok.kind dw mP.ns (XL rfl) ?_) hd)) rfl);refine wpAny_List (A0G (IO F X mP hn nd c4 λt4=>?_) (AJ (st c4)));refine A0G ?_ rfl;refine wpAny_UnaryOp (af F X mP hn nd c5 λt5=>not_value (A0h (A0c ⟨by show 2<=sizeLine;decide,?_⟩)));have mO:=mP.push { cls:=.type "list",data:=.seq #[.bool (c==4),.bool false] };refine P.add_list (mi _ l2) (A0L _ rfl) ?_ (by show 4+2<=sizeLine;decide);have za:=mO.push { cls:=.type "list",data:=.seq #[.bool (c==0),.bool (c==1),.bool (c==2),.bool (c==3),.bool (c==4),.bool false] };refine A1i dw za.ns (λh3 z7 dj=>?_) hp;have l3:(h2.push { cls:=.type "list",data:=.seq #[.bool (c==4),.bool false] }).objs.size≠f.c.env.locals:=λe=>by
  obtain⟨o,_,_,ho,_⟩:=mO.ns;rw[<-e,BI] at ho;cases ho
 refine A0W (A19 (A0Y (A1V F.ok.kind dw z7 (XL rfl) ?_) hd));exact hQ h3 _ _ _ (za.but F z7 dj ((Yf Z3).trans mO.mn)) (mO.g.none (BI _)) ((dj.2 _ l3).trans (A0L _ rfl)) l3
theorem Ob (F:AL f) (FK:Zj f) (E6:f.c.A.frames=some (f.c.env::outer)) (gone:YX f C a h2) (xc:Mu f.B c C) (SH:f.c.h0.get? f.c.env.locals=none) (hx:x=("RopeError" : Str)) (nk:f.t.glob x=true) (hn:f.c.env.kindOf n=some .local) (nd:(n==("__debug__" : Str))=false) (K:ClIs f.t n (Ji::CK))
 (hQ:∀h5 tk L,Ap (frs f.c.A) f.c.h0 h5->f.c.h0.get? L=none->h5.get? L=some { cls:=.type "list",data:=.seq #[.bool (c==0),.bool (c==1),.bool (c==2),.bool (c==3),.bool (c==4),.bool false] }->Q (.ret (.ref L)) (up Dk h5 tk)):
  wpAny Md f.c.A (handleBy (.ref a) f.c.env [.ExceptHandler (some (.Name x xp)) (some n) (Ji::CK) hp]) Q E { Dk with heap:=h2 }:=by
 refine HU xc.xf λKK mg X=>?_
 have hB:∀b o,f.B.get? b=some o->h2.get? b=some o:=λb o hb=>(gone.g b o (F.base b o hb).2).1 (F.base b o hb).1
 obtain⟨oe,vs,T,oT,ts,p1,p2,p3,p4,p5,p6,p7,p8,p9⟩:=gone.ht;subst hx;have WC:f.c.env.locals∈frs f.c.A:=by
  unfold frs;refine zr E6 ?_;show f.c.env.locals∈(f.c.env::outer).filterMap (·.frame);exact zr A1r (zr FK.frame d4)
 have hp:(f.c.env.scope.kind==.class||(f.c.env.scope.kind==.module&&f.c.env.locals != f.c.env.globals))=false:=zr F.ok.kind rfl;refine Q9 (A0Y (xy F hB nk X.g (X.ref _ (.head _)) ⟨PySem.W.exm_one (X.ok.1.keeps hB) ((show oe.cls=.ref C from p2)▸(PySem.W.Looks.ld p1).andThen .now) X.ex,?_⟩) (by decide +kernel));refine wpAny_setFlight_none p1 p3 p4 p7 p8 (A1N.mp p9).1 ?_;have lh:∀b,b≠T->(h2.update T (Obj.mapFields (·.setIfInBounds 3 Value.none))).get? b=h2.get? b:=λb hb=>Heap.get?_update_other _ _ (Ne.symm hb)
 obtain⟨m,ol,pC,n0,WA,QG,rl⟩:=gone.hf _ WC;have hlT:f.c.env.locals≠T:=λe=>by rw[e,p7] at WA;cases WA;rw[p8] at QG;cases QG
 have Z2:=(lh _ (Ne.symm p6)).trans p1;have ez:=(lh _ hlT).trans WA;have aD:a≠f.c.env.locals:=λe=>by rw[e,ez] at Z2;cases Z2;rw[QG] at p3;cases p3
 have zG:Ap (frs f.c.A) f.c.h0 (h2.update T (Obj.mapFields (·.setIfInBounds 3 Value.none))):=λb o hb=>by
  have BG:b≠T:=λe=>by rw[e,p5] at hb;cases hb
  obtain⟨h3,sl,h4⟩:=gone.g b o hb;exact⟨λSI=>(lh b BG).trans (h3 SI),sl,(lh b BG).trans h4⟩
 have hB3:∀b o,f.B.get? b=some o->(h2.update T (Obj.mapFields (·.setIfInBounds 3 Value.none))).get? b=some o:=λb o hb=>(zG b o (F.base b o hb).2).1 (F.base b o hb).1
 have hmL:(h2.update T (Obj.mapFields (·.setIfInBounds 3 Value.none))).Ns f.c.env.locals m:=⟨ol,pC,n0,ez,QG,rl⟩;generalize h2.update T (Obj.mapFields (·.setIfInBounds 3 Value.none))=h3 at *;refine A1i hn hmL (λh4 hn4 Zx=>?_) hp;have cs:CS f C a n h4 (λx=>if x=n then some (Value.ref a) else m x):=by
  refine⟨λb o hb=>(Zx.2 b λe=>?_).trans (hB3 b o hb),⟨oe,(Zx.2 a aD).trans Z2,p2⟩,hn4,XL rfl,λb o hb=>?_,aD,SH⟩
  ·have:=(F.base b o hb).2;rw[e,SH] at this;cases this
  ·have BG:b≠f.c.env.locals:=λe=>by rw[e,SH] at hb;cases hb
   obtain⟨k1,sl,k2⟩:=zG b o hb;exact⟨λSI=>(Zx.2 b BG).trans (k1 SI),sl,(Zx.2 b BG).trans k2⟩
 refine QR F X cs hn nd K λh5 tk m5 L zZ l1 l2 l3=>?_
 refine wpAny_nameGoes hn zZ.ns hp λh6 m6 hn6 eV=>?_
 refine hQ h6 _ L (λb o hb=>?_) l1 ((eV.2 L l3).trans l2);have BG:b≠f.c.env.locals:=λe=>by rw[e,SH] at hb;cases hb
 obtain⟨k1,sl,k2⟩:=zZ.g b o hb;exact⟨λSI=>(eV.2 b BG).trans (k1 SI),sl,(eV.2 b BG).trans k2⟩
theorem NR(F:AL f)(FK:Zj f)(C:CF f.B f.fa f.t.G cf f.D)(K:Kr f cf g es l i ar fr')(HO:AW f cf (.Call (.Name g gp) es [] cp) (.call i false (l.map (·.1))) k)(hint:interactive f.c.env=false)
  (hx:x=("RopeError" : Str)) (nk:f.t.glob x=true) (nl:f.t.scope.lookup n=some .local) (nd:(n==("__debug__" : Str))=false) (cl:ClIs f.t n (Ji::CK)):
  Dz f cf false (.Try [.Expr (.Call (.Name g gp) es [] cp) ep] [.ExceptHandler (some (.Name x xp)) (some n) (Ji::CK) hp] [] [] pos) (.tryR i (l.map (·.1))):=by
 intro own ρ s o st he;refine AE (AD (aX.symm.trans he)) λds q1 he=>?_
 cases q2:cf i ds with
 |ok d=>
  rw[q2] at he;refine At he ?_;have he:ev cf ρ (.call i false (l.map (·.1)))=.ok d:=zr Jl (zr q1 (zr AM (zr q2 rfl)));refine wpAny_Try_except (A0W (wpAny_Expr_any (HO.at F st he λv AG g1 x1 _=>?_) hint rfl));show wpAny Md f.c.A (pure Flow.next) _ _ AG;refine ml ?_;show wpAny Md f.c.A (pure Flow.next) _ _ AG;exact ml ⟨ρ,rfl,own,x1,Cn.grow g1,g1.FO⟩
 |stuck=>
  rw[q2] at he;refine AE (AD he) λd h2 he=>?_
  obtain⟨outer,E6⟩:=FK.frames;refine wpAny_Try_except (A0W (wpAny_Expr (mj (Gm F C K st q1 h2 (Q:=λJ J=>False)) (λJ J q=>q.elim) λv AG q=>?_) hint rfl));obtain⟨c,C',a,h1,t1,rfl,o,rfl,rfl,u⟩:=q;refine u.note F E6 FK.frame λh2 gone=>?_
  refine Ob F FK E6 gone o st.locNew hx nk (by show f.c.env.scope.names.lookup n=_;refine zr F.scope ?_;exact nl:f.c.env.kindOf n=some .local) nd cl λh5 tk L g5 l1 l2=>?_
  refine⟨kinds c,(Lc he).symm,⟨_,_,rfl⟩,g5,L,_,rfl,.inr l1,⟨_,l2⟩,by show 6<=Ab;decide,?_⟩;exact⟨_,_,rfl,rfl,_,_,rfl,rfl,_,_,rfl,rfl,_,_,rfl,rfl,_,_,rfl,rfl,_,_,rfl,rfl,rfl⟩
section
set_option backward.eqns.nonrecursive false
theorem DZ(F:AL f):interactive f.c.env=false:=by unfold interactive;refine zr F.ok.kind ?_;rfl
theorem Ej(h:EN value=false):swapsWith value tg l env=pure false:=by
 cases value with
 |ListComp _ _ _ _=>cases h
 |SetComp _ _ _ _=>cases h
 |DictComp _ _ _ _ _=>cases h
 |_=>rfl
def C5(fr:Bool)(t:TC)(st:Stmt)(p:PS):Prop:=∀cf f,AL f->f.t=t->CF f.B f.fa f.t.G cf f.D->Zj f->Dz f cf fr st p
def Rj(fr:Bool)(t:TC)(ss:List Stmt)(ps:List PS):Prop:=∀cf f,AL f->f.t=t->CF f.B f.fa f.t.G cf f.D->Zj f->E4 f cf fr ss ps
def VQ(t:TC)(e:Expr)(tg:Py):Prop:=∀f,AL f->f.t=t->Ee f.c (Di f.c) e tg
theorem D3(F:AL f)(h:f.t.slot x=some i):(x,i)∈f.c.names:=by exact zr F.names (LU h)
theorem JE(F:AL f)(h:i∈f.t.mv):i∈f.c.mv:=by exact zr F.mv h
theorem NX(F:AL f)(h:i∉f.t.mv):i∉f.c.mv:=by exact zr F.mv h
theorem C5.asg{a:PE×Cl}(hs:t.slot x=some i)(ha:Ok t value a.1 a.2)(hk:Wf t i a.2=true)(hc:EN value=false):C5 fr t (.Assign [.Name x px] value pos) (.assign i a.1):=
 λJ J F q C K=>by subst q;exact F4 F (D3 F hs) (ha _ _ F rfl C).1 hk (Ej hc)
theorem C5.pZ(hs:t.slot x=some i)(h:Op t elt target Dj ifs scope r)(hk:Wf t i .fresh=true):C5 fr t (.Assign [.Name x px] (.ListComp elt [⟨target,Dj,ifs,0⟩] scope BQ) pos) (.assign i (r.pe t)):=
 λJ f F q C K=>by
  subst q;cases lu:(f.c.env.blockKind==.function&&f.c.env.kindOf x==some .local&&px.line==BQ.line&&!(scope.names.any λ(n,k)=>n==x&&(k==.local||k==.cell))) with
  |false=>exact F4 F (D3 F hs) (Ok.comp h _ _ F rfl C).1 hk (A0U (λb=>(pure b:Sem Bool)) lu)
  |true=>
   simp only[Bool.and_eq_true] at lu;exact F5 F h.kd h.tn (Cm h.ok) h.inr (λcl c HP=>(h.e _ (A6 f scope r.xs cl c) (C3 F h.kd (Cm h.ok) HP) rfl C).1) (λcl c HP=>h.c _ (A6 f scope r.xs cl c) (C3 F h.kd (Cm h.ok) HP) rfl C) (h.i _ _ F rfl C) (D3 F hs) (eq_of_beq lu.1.1.2)
    (A0U (λb=>(pure b:Sem Bool)) (show(f.c.env.blockKind==.function&&f.c.env.kindOf x==some .local&&px.line==BQ.line&&!(scope.names.any λ(n,k)=>n==x&&(k==.local||k==.cell)))=true by simp only[Bool.and_eq_true];exact lu))
theorem C5.unp{a:PE×Cl}(ht:VQ t (.Tuple es kd tp) (.many is))(ha:Ok t value a.1 a.2)(hk:a.2.inner=true)(hc:(EN value||HF value)=false):C5 fr t (.Assign [.Tuple es kd tp] value pos) (.unpack is a.1):=
 λJ J F q C K=>by
  rw[A1Y] at hc;refine Jn F (ht _ F q) (ha _ _ F q C).1 hk (by unfold swapsWithSole;exact Ej hc.1) ?_;cases value with
  |Tuple _ _ _=>cases hc.2
  |_=>rfl
theorem C5.sti {a b:PE×Cl} (hd:(x==("__debug__" : Str))=false) (hs:t.slot x=some j) (hm:j∈t.mv) (ha:Ok t value a.1 a.2) (hb:Ok t ix b.1 b.2) (hk:(a.2.inner&&b.2.inner)=true) (hc:EN value=false):C5 fr t (.Assign [.Subscript (.Name x xp) ix sp] value pos) (.setItem j b.1 a.1):=
 λJ J F q C K=>by subst q;exact Ie F hd (D3 F hs) (JE F hm) (ha _ _ F rfl C).1 (ra.1 hk).1 (hb _ _ F rfl C).1 (ra.1 hk).2 (Ej hc)
def Ho(e:Expr)(apos BQ:Pos):Bool:=!AN e&&(apos.endLine==BQ.line)
theorem C5.app {a:PE×Cl} (hm:m=("append" : Str)) (hd:(x==("__debug__" : Str))=false) (hs:t.slot x=some j) (hv:j∈t.mv) (ha:Ok t e a.1 a.2) (hk:a.2.inner=true) (hc:Ho e apos BQ=true):C5 fr t (.Expr (.Call (.Attribute (.Name x xp) m apos) [e] [] BQ) pos) (.append j a.1):=
 λJ J F q C K=>by subst q hm;simp only[Ho,Bool.and_eq_true,Bool.not_eq_true'] at hc;exact Kh F hd (D3 F hs) (JE F hv) (ha _ _ F rfl C).1 hk hc.1 hc.2 (DZ F)
theorem C5.upd {a:PE×Cl} (hm:m=("update" : Str)) (hd:(x==("__debug__" : Str))=false) (hs:t.slot x=some j) (hv:j∈t.mv) (ha:Ok t e a.1 a.2) (hk:a.2.inner=true) (hc:Ho e apos BQ=true):C5 fr t (.Expr (.Call (.Attribute (.Name x xp) m apos) [e] [] BQ) pos) (.update j a.1):=
 λJ J F q C K=>by subst q hm;simp only[Ho,Bool.and_eq_true,Bool.not_eq_true'] at hc;exact Jm F hd (D3 F hs) (JE F hv) (ha _ _ F rfl C).1 hk hc.1 hc.2 (DZ F)
theorem C5.ite{c:PE×Cl}(hc:Ok t test c.1 c.2)(ha:Rj fr t body a)(hb:Rj fr t orelse b):C5 fr t (.If test body orelse pos) (.ite c.1 a b):=λJ J F q C K=>Hw F (hc _ _ F q C).2 (ha _ _ F q C K) (hb _ _ F q C K)
theorem C5.for(ht:VQ t target tg)(hi:It t (HF target) Dj r)(hb:Rj fr t body b)(hc:r.2.2.inner=true):C5 fr t (.For target Dj body [] pos) (.for_ tg r.1 r.2.1 b):=
 λJ J F q C K=>RB F (λh=>Expr.Tuple.elim (motive_1:=λe=>∃a b c,e=.Tuple a b c) target (eq_of_beq_eq_true h) λa b c=>⟨a,b,c,rfl⟩) (hb _ _ F q C K) (ht _ F q) (hi _ _ F q C) hc
theorem C5.whl{c:PE×Cl}(hc:Ok t test c.1 c.2)(hb:Rj fr t body b):C5 fr t (.While test body [] pos) (.while_ c.1 b):=λJ J F q C K=>LN F (hc _ _ F q C).2 (hb _ _ F q C K)
theorem C5.ret{a:PE×Cl}(ha:Ok t e a.1 a.2)(hk:(!fr||a.2==.fresh||a.2==.own)=true):C5 fr t (.Return (some e) pos) (.ret a.1):=λJ J F q C K=>JG F (ha _ _ F q C).1 hk
theorem C5.exp{a:PE×Cl}(ha:Ok t e a.1 a.2)(hc:EN e=false):C5 fr t (.Expr e pos) (.expr a.1):=λJ J F q C K=>by
 intro own ρ s o x he;refine AE (AD (aY.symm.trans he)) λd e1 he=>?_
 obtain⟨rfl,he⟩:=XM he;refine At he ?_;refine wpAny_Expr ((ha _ _ F q C).1.at F x e1 λv AG g1 x1 r1=>?_) (DZ F) (Ej hc);obtain rfl:=XD r1;exact⟨ρ,rfl,own,x1,Cn.grow g1,g1.FO⟩
theorem C5.zh{st:Stmt}:C5 fr t st .halt:=λJ J J J J J J J J J J he=>Res.no he
theorem C5.step {a b:PE×Cl} (hm:m=("step" : Str)) (hd:(x==("__debug__" : Str))=false) (hs:t.slot x=some j) (hv:j∈t.mv) (ha:Ok t Dm a.1 a.2) (hb:Ok t Dl b.1 b.2) (hc:(!AN Dm&&!AN Dl&&(apos.endLine==BQ.line))=true):C5 fr t (.Expr (.Call (.Attribute (.Name x xp) m apos) [Dm,Dl] [] BQ) pos) (.step j a.1 b.1):=
 λJ J F q C K=>by subst q hm;simp only[Bool.and_eq_true,Bool.not_eq_true'] at hc;exact NU F hd (D3 F hs) (JE F hv) (ha _ _ F rfl C).1 (hb _ _ F rfl C).1 hc.1.1 hc.1.2 hc.2 (DZ F)
theorem C5.pop (h:m=("pop" : Str)/\z=0/\(x==("__debug__" : Str))=false/\(apos.endLine==BQ.line)=true) (hs:t.slot x=some i) (hv:i∈t.mv) (hy:t.slot y=some j) (hj:j∉t.mv):C5 fr t (.Assign [.Name y yp] (.Call (.Attribute (.Name x xp) m apos) [.Constant (.int z) ck cp] [] BQ) pos) (.pop j i):=
 λJ J F q C K=>by
  refine LL h λn7 Vv hd hl=>?_;subst n7;subst Vv
  subst q;exact Qe F hd (D3 F hs) (JE F hv) (D3 F hy) (NX F hj) hl
theorem C5.rai (h:t.glob x=true/\BD[c]?=some x/\(x==("__debug__" : Str))=false):C5 fr t (.Raise (some (.Call (.Name x xp) [.Constant (.str m) mk mp] [] BQ)) none pos) (.raise c):=
 λJ J F q C K=>by subst q;exact Lb F K h.1 h.2.1 h.2.2
structure IZ(t:TC)(g:Str)(es:List Expr)(q:Nat×Nat×Bool×List (PE×Cl)):Prop where
 ca:B7 g es=true
 gl:t.glob g=true
 lk:t.G.lookup g=some (.fn q.1 q.2.1 q.2.2.1)
 ea:Kn t es q.2.2.2
 le:q.2.2.2.length=q.2.1
 inn:(q.2.2.2.map (·.2)).all Cl.inner=true
theorem IZ.ok(h:IZ t g es q)(F:AL f)(e:f.t=t)(C:CF f.B f.fa f.t.G cf f.D):Kr f cf g es q.2.2.2 q.1 q.2.1 q.2.2.1:=by
 subst e;exact⟨h.gl,(Ao h.ca).1,h.lk,h.ea _ _ F rfl C,(Ao h.ca).2.1,(Ao h.ca).2.2,h.le,h.inn⟩
theorem C5.x{st:Stmt}{q:Nat×Nat×Bool×List (PE×Cl)}(h:C5 fr t st p)(k:IZ t g es q)(a:Eg st (.Call (.Name g gp) es [] cp)):C5 fr t st (.x p q.1 (q.2.2.2.map (·.1))):=
 λJ J F e C K=>WS F K C (k.ok F e C) (DZ F) (h _ _ F e C K) a
noncomputable def Ss(t:TC)(x n:Str):Bool:=x==("RopeError" : Str)&&t.glob x&&t.scope.lookup n==some .local&&!(n==("__debug__" : Str))
theorem C5.try{g x n:Str}{q:Nat×Nat×Bool×List (PE×Cl)}(hf:fr=false)(ht:Ss t x n=true)(k:IZ t g es q)(hc:ClIs t n (Ji::CK)):
  C5 fr t (.Try [.Expr (.Call (.Name g gp) es [] cp) ep] [.ExceptHandler (some (.Name x xp)) (some n) (Ji::CK) hp] [] [] pos) (.tryR q.1 (q.2.2.2.map (·.1))):=λJ f F e C K=>by
 have ko:=k.ok F e C;subst e hf;simp only[Ss,Bool.and_eq_true,beq_iff_eq,Bool.not_eq_true'] at ht;exact NR F K C ko (Ok.ms (clean:=false) k.ca k.gl k.lk k.ea k.le k.inn _ _ F rfl C).1 (DZ F) ht.1.1.1 ht.1.1.2 ht.1.2 ht.2 hc
def Y7(e:Expr):Option { q:Str×Str×Str // IY e q.1 q.2.1 q.2.2 }:=Ry e none λy p es q=>ag es none λa b=>vN a none λu _=>vN b none λd _=>some ⟨(y,u,d),.mk⟩
def Sv(t:TC)(n:Str)(e:Expr)(j:Nat):Option (PLift (CT t n e j)):=(Y7 e).bind λa=>
 iF (a.1.2=(n,BD.getD j "")/\t.bi a.1.1 "isinstance" = true/\t.glob (BD.getD j "")=true/\j∈List.range 5) λh=>some ⟨a.1.1,by have i:=a.2;rw[h.1] at i;exact i,h.2.1,h.2.2.1,h.2.2.2⟩
def ua(t:TC)(n:Str)(e:Expr):Option (PLift (VT t n e)):=(Y7 e).bind λa=>
 iF (a.1.2.1=n/\t.bi a.1.1 "isinstance" = true/\t.bi a.1.2.2 "ValueError" = true) λh=>some ⟨a.1.1,a.1.2.2,by have i:=a.2;rw[h.1] at i;exact i,h.2.1,h.2.2⟩
def uh(t:TC)(n:Str)(CK:List Stmt):Option (PLift (ClIs t n CK)):=
 uV CK none λa b c=>sA a none λl v _=>Ky l none λx=>vN x none λv0 _=>vL v none λl _=>zo l none λe0 e1 e2 e3=>
 sA b none λl v _=>Ky l none λx=>vN x none λv1 _=>vB v none λx o r _=>vN x none λv2 _=>vL r none λl _=>ag l none λe4 u=>vU u none λo' e5 _=>
 sQ c none λr _=>Vj r none λx=>vN x none λv3 _=>
  (Sv t n e0 0).bind λh0=>(Sv t n e1 1).bind λh1=>(Sv t n e2 2).bind λh2=>(Sv t n e3 3).bind λh3=>(Sv t n e4 4).bind λh4=>(ua t n e5).bind λh5=>
  iF (v1=v0/\v2=v0/\v3=v0/\o=.Add/\o'=.Not/\t.scope.lookup v0=some .local/\(v0==("__debug__" : Str))=false/\n≠v0) λh=>some ⟨by
   obtain⟨rfl,rfl,rfl,rfl,rfl,a1,a2,a3⟩:=h;exact .mk a1 a2 a3 h0.1 h1.1 h2.1 h3.1 h4.1 h5.1⟩
def jE(n:Nat)(t:TC)(g:Str)(es:List Expr):Option { q:Nat×Nat×Bool×List (PE×Cl) // IZ t g es q }:=oF t.G g λi ar fr hl=>(Y6 (EK n t) es).bind λl=>iF (B7 g es=true/\t.glob g=true/\l.1.length=ar/\(l.1.map (·.2)).all Cl.inner=true) λh=>some ⟨(i,ar,fr,l.1),h.1,h.2.1,hl,l.2,h.2.2.1,h.2.2.2⟩
noncomputable def sK:List Str:=["need_drawing","need_stretch","gone_along","joined","lay","back","steps","turned","mirrored","reckoned","fall","undone"]
def ui(st:Stmt):Option { q:Str×Pos×List Expr×Pos // Eg st (.Call (.Name q.1 q.2.1) q.2.2.1 [] q.2.2.2) }:=
 sE st (sA st (sQ st none λe pos=>Vj e none λe=>Ry e (lv e none λo m apos l BQ=>Rx l none (Ry o none λg gp es cp=>WY es none λa es=>iF ((apos.endLine==BQ.line)=true) λhl=>some ⟨(g,gp,a::es,cp),.retM hl⟩))
   λg gp es cp=>some ⟨(g,gp,es,cp),.ret⟩)
  λl v pos=>Ky l none λx=>vN x none λy py=>Ry v none λg gp es cp=>some ⟨(g,gp,es,cp),.asg⟩)
  λe pos=>Ry e none λg gp es cp=>some ⟨(g,gp,es,cp),.expr⟩
def Sb(fr:Bool)(n:Nat)(t:TC)(st:Stmt)(p:{ p:PS // C5 fr t st p }):Option { p:PS // C5 fr t st p }:=match ui st with
 |some q=>if sK.contains q.1.1 then(jE n t q.1.1 q.1.2.2.1).bind λk=>some ⟨_,.x p.2 k.2 q.2⟩ else some p
 |none=>some p
def bz(t:TC)(z y:Str)(es:List Expr):Bool:=z==("Arc" : Str)&&t.glob ("Arc" : Str)&&(t.G.lookup ("len" : Str)).isNone&&!(y==("__debug__" : Str))&&!es.any AN
theorem C5.mk{a b c:PE×Cl}(hr:fr=true)(ho:bz t z y [Dm,Dl,LK]=true)(hs:t.slot y=some i)(hm:i∈t.mv)(ha:Ok t Dm a.1 a.2)(hb:Ok t Dl b.1 b.2)(hc:Ok t LK c.1 c.2)(hf:a.2=.fresh):C5 fr t (.Return (some (.Call (.Name z np) [.Name y yp,Dm,Dl,LK] [] BQ)) pos) (.retMk i a.1 b.1 c.1):=
 λJ J F q C K=>by
  subst q;simp only[bz,Bool.and_eq_true,Bool.not_eq_true',Option.isNone_iff_eq_none] at ho;exact LY F hr (eq_of_beq ho.1.1.1.1) ho.1.1.1.2 ho.1.1.2 ho.1.2 (D3 F hs) (JE F hm) (hf▸(ha _ _ F rfl C).1) (hb _ _ F rfl C).1 (hc _ _ F rfl C).1 ho.2
theorem C5.nb{a:PE×Cl}(ha:Ok t e a.1 a.2)(hk:a.2=.safe)(hf:F6 a.1):C5 fr t (.Return (some e) pos) (.ret a.1):=λJ J F q C K=>by
 exact JG F (OA (hk▸(ha _ _ F q C).1) hf) (by cases fr<;>rfl)
noncomputable def Jp(t:TC):(es:List Expr)->Option { r:List (Str×Pos)×List Nat // es=r.1.map (λp=>.Name p.1 p.2)/\∀f,AL f->f.t=t->F7 f.c (Di f.c) r.1 r.2 }
 |[]=>some ⟨([],[]),rfl,λJ J J=>trivial⟩
 |e::es=>vN e none λx px=>oH (t.slot x) λi hs=>iF (i∉t.mv) λhm=>(Jp t es).bind λr=>some ⟨((x,px)::r.1.1,i::r.1.2),A0U (.Name x px::·) r.2.1,λf F q=>⟨⟨D3 F (q▸hs),NX F (q▸hm),λb hb=>hb.names⟩,r.2.2 f F q⟩⟩
theorem VQ.many(h:es=ps.map (λp=>.Name p.1 p.2))(ha:∀f,AL f->f.t=t->F7 f.c (Di f.c) ps is):VQ t (.Tuple es k tp) (.many is):=by
 subst h;exact λf F q=>.many (ha f F q)
def j8(t:TC)(e:Expr):Option { tg:Py // VQ t e tg }:=vN e (vT e none λes k tp=>(Jp t es).bind λr=>some ⟨.many r.1.2,.many r.2.1 r.2.2⟩)
 λx px=>oH (t.slot x) λi hs=>iF (i∉t.mv) λhm=>some ⟨.one i,λf F q=>.one (D3 F (q▸hs)) (NX F (q▸hm)) λb hb=>hb.names⟩
def uf(fr:Bool)(n:Nat)(t:TC)(e:Expr)(pos:Pos):Option { p:PS // C5 fr t (.Return (some e) pos) p }:=Ry e none λz np es BQ=>zo es none λy Dm Dl LK=>vN y none λy yp=>iF (bz t z y [Dm,Dl,LK]=true) λho=>
 oH (t.slot y) λi hs=>(EK n t Dm).bind λa=>(EK n t Dl).bind λb=>(EK n t LK).bind λc=>iF (i∈t.mv/\a.1.2=.fresh/\fr=true) λh=>some ⟨_,.mk h.2.2 ho hs h.1 a.2 b.2 c.2 h.2.1⟩
def j7(fr:Bool)(n:Nat)(t:TC)(body:List Stmt)(hs:List ExceptHandler)(pos:Pos):Option { p:PS // C5 fr t (.Try body hs [] [] pos) p }:=Ky body none λs=>sE s none λe ep=>Ry e none λg gp es cp=>Ky hs none λh=>ExceptHandler.casesOn (motive_4:=λh=>Option { p:PS // C5 fr t (.Try [.Expr (.Call (.Name g gp) es [] cp) ep] [h] [] [] pos) p }) h λty nm CK hp=>Vj ty none λty=>vN ty none λx xp=>Vj nm none λv=>WY CK none λJi CK=>
 iF (Ss t x v=true/\fr=false) λht=>(jE n t g es).bind λk=>(uh t v (Ji::CK)).bind λc=>some ⟨_,.try ht.2 ht.1 k.2 c.1⟩
def jB(fr:Bool)(t:TC)(y:Str)(yp:Pos)(value:Expr)(pos:Pos):Option { p:PS // C5 fr t (.Assign [.Name y yp] value pos) p }:=lv value none λo m apos es BQ=>vN o none λx xp=>Ky es none λe=>vK e none λc ck cp=>vcI c none λz=>
 oH (t.slot x) λi hs=>oH (t.slot y) λj hy=>iF ((m=("pop" : Str)/\z=0/\(x==("__debug__" : Str))=false/\(apos.endLine==BQ.line)=true)/\i∈t.mv/\j∉t.mv) λh=>some ⟨_,.pop h.1 hs h.2.1 hy h.2.2⟩
def ai(fr:Bool)(n:Nat)(t:TC)(x:Str)(xp:Pos)(m:Str)(apos:Pos)(es:List Expr)(BQ pos:Pos):Option { p:PS // C5 fr t (.Expr (.Call (.Attribute (.Name x xp) m apos) es [] BQ) pos) p }:=oH (t.slot x) λj hs=>
 Ky es (ag es none λDm Dl=>(EK n t Dm).bind λa=>(EK n t Dl).bind λb=>iF (m=("step" : Str)/\(x==("__debug__" : Str))=false/\j∈t.mv/\(!AN Dm&&!AN Dl&&(apos.endLine==BQ.line))=true) λh=>some ⟨_,.step h.1 h.2.1 hs h.2.2.1 a.2 b.2 h.2.2.2⟩)
  λe=>(EK n t e).bind λa=>iF ((x==("__debug__" : Str))=false/\j∈t.mv/\a.1.2.inner=true/\Ho e apos BQ=true) λh=>
   (iF (m=("append" : Str)) λhm=>some ⟨_,.app hm h.1 hs h.2.1 a.2 h.2.2.1 h.2.2.2⟩).or (iF (m=("update" : Str)) λhm=>some ⟨_,.upd hm h.1 hs h.2.1 a.2 h.2.2.1 h.2.2.2⟩)
abbrev TS(fr:Bool):Type:=((t:TC)->(st:Stmt)->Option { p:PS // C5 fr t st p })×((t:TC)->(ss:List Stmt)->Option { ps:List PS // Rj fr t ss ps })
def zx(fr:Bool)(n:Nat):TS fr:=Nat.rec (motive:=λ_=>TS fr) (λ_ _=>none,λ_ _=>none) (λn g=>(λt st=>
  sA st (sE st (sR st (sIf st (sF st (sW st (sT st (sQ st none
   λe pos=>Vj e none λe=>(uf fr n t e pos).or ((EK n t e).bind λa=>(iF ((!fr||a.1.2==.fresh||a.1.2==.own)=true) λh=>some ⟨_,.ret a.2 h⟩).or (iF (a.1.2=.safe) λh=>(aj a.1.1).bind λu=>some ⟨_,.nb a.2 h u.2⟩)))
   λbody hs a b pos=>Rx a none (Rx b none (j7 fr n t body hs pos)))
   λtest body a pos=>Rx a none ((EK n t test).bind λc=>(g.2 t body).bind λb=>some ⟨_,.whl c.2 b.2⟩))
   λtarget Dj body a pos=>Rx a none ((j8 t target).bind λtg=>(jD (EK n t) (HF target) Dj).bind λr=>(g.2 t body).bind λb=>iF (r.1.2.2.inner=true) λh=>some ⟨_,.for tg.2 r.2 b.2 h⟩))
   λtest body orelse pos=>(EK n t test).bind λc=>(g.2 t body).bind λa=>(g.2 t orelse).bind λb=>some ⟨_,.ite c.2 a.2 b.2⟩)
   λa b pos=>Vj a none λa=>ls b none (Ry a none λx xp es BQ=>Ky es none λe=>vK e none λc mk mp=>zq c none λm=>iF (t.glob x=true/\BD[BD.idxOf x]?=some x/\(x==("__debug__" : Str))=false) λh=>some ⟨_,.rai h⟩))
   λe pos=>lv e (Ry e none λg gp es cp=>(EK n t (.Call (.Name g gp) es [] cp)).bind λa=>some ⟨_,.exp a.2 rfl⟩) λo m apos es BQ=>vN o none λx xp=>ai fr n t x xp m apos es BQ pos)
   λl value pos=>Ky l none λy=>vN y (vS y (vT y none
    λes k tp=>(Jp t es).bind λr=>(EK n t value).bind λa=>iF (a.1.2.inner=true/\(EN value||HF value)=false) λh=>some ⟨_,.unp (.many r.2.1 r.2.2) a.2 h.1 h.2⟩)
    λo i sp=>vN o none λx xp=>oH (t.slot x) λj hs=>(EK n t value).bind λa=>(EK n t i).bind λb=>iF ((x==("__debug__" : Str))=false/\j∈t.mv/\(a.1.2.inner&&b.1.2.inner)=true/\EN value=false) λh=>some ⟨_,.sti h.1 hs h.2.1 a.2 b.2 h.2.2.1 h.2.2.2⟩)
    λx px=>Option.or (vG value none λelt l scope BQ=>zt l none λtarget Dj ifs=>oH (t.slot x) λi hs=>(Su (EK n) t elt target Dj ifs scope).bind λr=>iF (Wf t i .fresh=true) λhk=>some ⟨_,.pZ hs r.2 hk⟩)
     ((jB fr t x px value pos).or (oH (t.slot x) λi hs=>(EK n t value).bind λa=>iF (Wf t i a.1.2=true/\EN value=false) λh=>some ⟨_,.asg hs a.2 h.1 h.2⟩)),
 λt ss=>WY ss (Rx ss none (some ⟨[],λJ J F J J J=>Qn F⟩)) λst r=>(g.2 t r).bind λq=>some ⟨(((g.1 t st).bind (Sb fr n t st)).getD ⟨.halt,.zh⟩).1::q.1,λJ J F h C K=>IQ F ((((g.1 t st).bind (Sb fr n t st)).getD ⟨.halt,.zh⟩).2 _ _ F h C K) (q.2 _ _ F h C K)⟩)) n
def ah(fr:Bool)(n:Nat)(t:TC)(body:List Stmt):Option { ps:List PS // Rj fr t body ps }:=WY body none
 λst r=>(((zx fr n).1 t st).bind (Sb fr n t st)).bind λp=>some ⟨[p.1,.halt],λJ J F h C K=>IQ F (p.2 _ _ F h C K) λJ J J J J he=>Res.no he⟩
def RC(n:Nat)(os:List (Str×VS))(G:List (Str×GE))(d:Ko):Option Fn:=if(optOf os d.name).skip then some ⟨0,0,[]⟩ else(if(optOf os d.name).stub then ah (optOf os d.name).fr n (Wb os G d) d.body else(zx (optOf os d.name).fr n).2 (Wb os G d) d.body).map λb=>{ slots:=(slotsOf d).length+2,arity:=d.args.args.length,body:=b.1 }
end
theorem RZ:∀{binds:List (Str×Value)}{m:Str->Option Value}{x:Str}{v:Value},(binds.map (·.1)).Nodup->(x,v)∈binds->kd x=some .local->bindL kd binds m x=some v:=by
 intro binds;induction binds with
 |nil=>exact λ{_}{_}{_}_ h _=>by cases h
 |cons pq r HN=>
  intro m x v hn h hk;obtain⟨n,u⟩:=pq;simp only[map_cons,nodup_cons] at hn;have other:∀{r:List (Str×Value)}{m:Str->Option Value},x∉r.map (·.1)->bindL kd r m x=m x:=by
   intro r
   induction r with
   |nil=>intro m _;rfl
   |cons q r ih=>
    intro m hq;simp only[map_cons,mem_cons,not_or] at hq;rw[bindL,ih hq.2];split
    ·exact Yf hq.1
    ·rfl
  rcases A0E.mp h with e|hm
  ·cases e
   rw[bindL,other hn.1,XL hk,XL rfl]
  ·rw[bindL];exact HN hn.2 hm hk
theorem Ra:∀{binds:List (Str×Value)}{m:Str->Option Value}{x:Str}{v:Value},(binds.map (·.1)).Nodup->(x,v)∈binds->kd x≠some .local->bindC kd binds m x=some v:=by
 intro binds;induction binds with
 |nil=>exact λ{_}{_}{_}_ h _=>by cases h
 |cons pq r HN=>
  intro m x v hn h hk;obtain⟨n,u⟩:=pq;simp only[map_cons,nodup_cons] at hn;have other:∀{r:List (Str×Value)}{m:Str->Option Value},x∉r.map (·.1)->bindC kd r m x=m x:=by
   intro r
   induction r with
   |nil=>intro m _;rfl
   |cons q r ih=>
    intro m hq;simp only[map_cons,mem_cons,not_or] at hq;rw[bindC,ih hq.2];split
    ·rfl
    ·exact Yf hq.1
  rcases A0E.mp h with e|hm
  ·cases e
   rw[bindC,other hn.1,Yf hk,XL rfl]
  ·rw[bindC];exact HN hn.2 hm hk
theorem IT:∀{names:List (Str×NameKind)}{n:Nat}{acc:List (Str×Addr)}{x:Str},((x,NameKind.cell)∈names\/∃a,acc.lookup x=some a)->∃a,(cellsFrom n names acc).lookup x=some a:=by
 intro names;induction names with
 |nil=>
  intro n acc x h;rcases h with h|h
  ·cases h
  ·exact h
 |cons pq r ih=>
  intro n acc x h;obtain⟨y,k⟩:=pq;rw[cellsFrom];split
  ·rename_i hk;refine ih ?_;rcases h with h|⟨a,ha⟩
   ·rcases A0E.mp h with e|h
    ·cases e;exact .inr ⟨n,by simp⟩
    ·exact .inl h
   ·right
    refine zr lookup_cons ?_;split
    ·exact⟨_,rfl⟩
    ·exact⟨a,ha⟩
  ·rename_i hk;refine ih ?_;rcases h with h|h
   ·rcases A0E.mp h with e|h
    ·cases e;exact absurd rfl hk
    ·exact .inl h
   ·exact .inr h
def Pm(ou:List (Str×VS))(d:Ko):Bool:=
 d.args.posonlyargs.isEmpty&&d.args.vararg.isNone&&d.args.kwonlyargs.isEmpty&&d.args.kw_defaults.isEmpty&&d.args.kwarg.isNone&&d.args.defaults.isEmpty &&
 d.scope.kind==.function&&!d.scope.isCoroutine&&!d.scope.isGenerator&&decide ((slotsOf d).map (·.1)).Nodup &&
 (slotsOf d).all (λp=>(d.scope.names.lookup p.1==some .local||d.scope.names.lookup p.1==some .cell)&&!(p.1==("__debug__" : Str))) &&
 (Qp ou d).all (λi=>decide (d.args.args.length<=i))&&decide ((slotsOf d).length<1000)
structure VU(ou:List (Str×VS))(d:Ko):Prop where
 params:d.args=⟨[],d.args.args,none,[],[],none,[]⟩
 kind:d.scope.kind=.function
 co:d.scope.isCoroutine=false
 gen:d.scope.isGenerator=false
 nodup:((slotsOf d).map (·.1)).Nodup
 kinds:∀x i,(x,i)∈slotsOf d->(d.scope.names.lookup x=some .local\/d.scope.names.lookup x=some .cell)/\(x==("__debug__" : Str))=false
 mv:∀i∈Qp ou d,d.args.args.length<=i
 few:(slotsOf d).length<1000
theorem VF(h1:po.isEmpty=true)(h2:va.isNone=true)(h3:ko.isEmpty=true)(h4:kd.isEmpty=true)(h5:kw.isNone=true)(h6:df.isEmpty=true):Arguments.mk po as va ko kd kw df=⟨[],as,none,[],[],none,[]⟩:=by
 exact zr (List.isEmpty_iff.1 h1) (zr (Option.isNone_iff_eq_none.1 h2) (zr (List.isEmpty_iff.1 h3) (zr (List.isEmpty_iff.1 h4) (zr (Option.isNone_iff_eq_none.1 h5) (zr (List.isEmpty_iff.1 h6) rfl)))))
theorem Rc{a:Arguments}(h1:a.posonlyargs.isEmpty=true)(h2:a.vararg.isNone=true)(h3:a.kwonlyargs.isEmpty=true)(h4:a.kw_defaults.isEmpty=true)(h5:a.kwarg.isNone=true)(h6:a.defaults.isEmpty=true):a=⟨[],a.args,none,[],[],none,[]⟩:=by cases a;exact VF h1 h2 h3 h4 h5 h6
theorem Uw(h:Pm ou d=true):VU ou d:=by
 have a13:=ra.1 h;have a12:=ra.1 a13.1;have a11:=ra.1 a12.1;have a10:=ra.1 a11.1;have a9:=ra.1 a10.1;have a8:=ra.1 a9.1;have a7:=ra.1 a8.1;have a6:=ra.1 a7.1;have a5:=ra.1 a6.1;have a4:=ra.1 a5.1;have a3:=ra.1 a4.1;have a2:=ra.1 a3.1;refine⟨Rc a2.1 a2.2 a3.2 a4.2 a5.2 a6.2,eq_of_beq a7.2,(A2D _▸a8.2),(A2D _▸a9.2),A0N a10.2,λx i hm=>?_,λi hi=>A0N (A0T.1 a12.2 i hi),A0N a13.2⟩;have a:=ra.1 (A0T.1 a11.2 (x,i) hm);exact⟨(Bool.or_eq_true_iff.1 a.1).imp eq_of_beq eq_of_beq,(A2D _▸a.2)⟩
theorem QW(d:Ko):((slotsOf d).map (·.2)).Nodup:=by
 unfold slotsOf;exact zr (List.zipIdx_map_snd _ _) nodup_range'
theorem GL(h:(x,i)∈slotsOf d):(BH d.args++(d.scope.names.filter λp=>(p.2==.local||p.2==.cell)&&!(BH d.args).contains p.1).map (·.1))[i]?=some x:=by
 unfold slotsOf at h;rw[A1h] at h;exact h
theorem LT(h:(BH d.args)[i]?=some x):(x,i)∈slotsOf d:=by
 unfold slotsOf;rw[A1h];obtain⟨h1,h2⟩:=fR.mp h;show _=some x;refine zr (A0b h1) ?_;exact h
inductive lb(B:Heap)(a:Addr)(d:Ko):Prop where
 |mk (o:Obj) (fd:FuncData) (h0:B.get? a=some o) (h1:o.data=.func fd) (h2:fd.params=d.args) (h3:fd.body=.stmts d.body) (h4:fd.scope=d.scope) (h5:fd.globals=mainGlobals) (h6:fd.closure=[]) (h7:fd.defaults=.none) (h8:fd.builtins=builtinsNs) (h9:B.CodeRec fd.code fd.qualname)
structure lc(ou:List (Str×VS))(B:Heap)(a:Addr)(d:Ko):Prop where
 ok:VU ou d
 obj:lb B a d
structure Mt(N:Nat)(ou:List (Str×VS))(G:List (Str×GE))(fa:Nat->Addr)(B:Heap)(ds:List Ko)(fns:List Fn):Prop where
 fn:∀x i ar fr,YY G x i ar fr->∃d p,ds[i]?=some d/\fns[i]?=some p/\RC N ou G d=some p/\(optOf ou d.name).skip=false/\(optOf ou d.name).fr=fr/\ar=d.args.args.length/\lc ou B (fa i) d
 few:fns.length<=1000
 o:∀D m i ar fr,meths.lookup m=some (.fn i ar fr)->∀d,Ct d=true->AC fns D i [d]=.stuck
theorem N6(h:∃l,A.frames=some l/\∀e∈l,e.scope.kind≠.module/\∃L,e.frame=some L)(hf:env.frame=some L):frs (A.deeper env)=L::frs A:=by
 refine AE h λl hl J=>?_
 unfold frs;refine zr (Around.frames_deeper hl) (zr hl ?_);simp[hf]
theorem Wv(r:Rds h P ds vs){i:Nat}(hd:ds[i]?=some d):∃v,vs[i]?=some v/\Rd h P d v:=r.get hd
theorem Ly{d:Ko}(gnd:da G fa B)(ow:lc ou B (fa i) d){args:List PV}{vs:List Value}{P:Addr->Prop}
  (aD:args.length=d.args.args.length) (here:Rl B (D+1) A s.heap) (hP:∀a∈frs A,¬P a) (hr:Rds s.heap P args vs) {R:Result->Shared->Prop}
  (run:∀(fx:EG)(own:Addr->Option Nat)(AG:Shared),AL fx->fx.t=Wb ou G d->Zj fx->fx.B=B->fx.fa=fa->fx.D=D->fx.c.h0=s.heap->fx.c.P0=P->(∃h1 t1,AG=up s h1 t1) ->
   St fx.c own (args.map some++List.replicate ((slotsOf d).length+2-d.args.args.length) none) AG->(∀{h':Heap},Ap (frs fx.c.A) s.heap h'->Ap (frs A) s.heap h') ->
   wpAny Md fx.c.A (execs d.body fx.c.env) (λf s'=>R (.ok (.ret (match f with|.ret v=>v|_=>.none))) s')
    (λe s'=>wpAny Md fx.c.A (leaving fx.c.env e) (λJ M8=>R (.error e) M8) (λe' M8=>R (.error e') M8) s') AG):
  codeAny Md A (.call (.ref (fa i)) ⟨vs,[]⟩) R s:=by
 obtain⟨ok,o,fd,hob,fQ,nQ,fW,GC,fL,SK,oD,oN,fT⟩:=ow;have lq:vs.length=d.args.args.length:=zr hr.length (zr aD rfl);have My:∀b o,B.get? b=some o->s.heap.get? b=some o:=λb o h=>(here.base b o h).2
 have z6:(BH d.args).Nodup:=by
  have:=ok.nodup;unfold slotsOf at this;rw[List.zipIdx_map_fst] at this;exact(A0S.mp this).1
 have LJ:bindArgs fd ⟨vs,[]⟩=pure ((BH d.args).zip vs):=FL (nQ.trans ok.params) oD lq z6;have Zz:(BH d.args).length=vs.length:=by unfold BH;exact zr (KK _) (zr lq rfl)
 have mD:(((BH d.args).zip vs).map (·.1)).Nodup:=by exact zr (List.map_fst_zip (jl Zz)) z6
 have nB:∀{x v},(x,v)∈(BH d.args).zip vs->∃j,(BH d.args)[j]?=some x/\vs[j]?=some v:=λ{x v}hm=>by
  obtain⟨j,hj,e⟩:=List.mem_iff_getElem.mp hm;rw[List.getElem_zip] at e;rw[length_zip] at hj;refine⟨j,?_,?_⟩
  ·refine zr (TW (v7 hj)) ?_;exact A0U (some ·.1) e
  ·refine zr (TW (v6 hj)) ?_;exact A0U (some ·.2) e
 have NL:∀{x:Str}{n:Nat},d.scope.names.lookup x=some .cell->∃a,(cellsFrom n d.scope.names []).lookup x=some a:=λh=>IT (.inl (mem_of_lookup h))
 refine codeAny_call_cells (yH here.depth) (My _ _ hob) fQ (gnd.nolimit.keeps My) (fT.keeps My) fW LJ SK (λx hx=>?_) (λAG hin=>?_) (zr GC ok.co) (by refine zr GC ?_;exact ok.gen) (zr GC ok.kind)
 ·refine AE (nB hx) λj hj J=>?_
  refine zr GC ?_;rcases(ok.kinds x.1 j (LT hj)).1 with h|h
  ·exact .inl h
  ·refine .inr ⟨h,?_⟩;obtain⟨a,ha⟩:=NL h;refine zr ha ?_;rfl
 obtain⟨⟨⟨h1,t1,rfl⟩,FQ,LF,NJ⟩,LG,aC,aE⟩:=hin;dsimp only at FQ LF NJ LG;have I6:s.heap.get? s.heap.objs.size=none:=BI s.heap;generalize hL:s.heap.objs.size=L at *;let env:=callEnvC fd L (fa i);have WC:env.locals=L:=rfl;have lx:env.scope=d.scope:=GC;have SM:env.cells=cellsFrom (L+1) d.scope.names []:=by show cellsFrom (L+1) fd.scope.names []=_;exact zr GC rfl
 have Oq:∀x,env.kindOf x=d.scope.names.lookup x:=λx=>by show env.scope.names.lookup x=_;exact zr lx rfl
 let c:Cx:={ env:=env,A:=A.deeper env,h0:=s.heap,P0:=P,names:=slotsOf d,mv:=Qp ou d };have NI:frs (A.deeper env)=L::frs A:=N6 here.frames (rfl:env.frame=some L);have hLfr:L∉frs A:=λhm=>by
  obtain⟨m,o',_,_,Ah,_⟩:=here.fr L hm;rw[I6] at Ah;cases Ah
 have eJ:∀i∈Qp ou d,i<(slotsOf d).length:=λj hj=>by
  refine AE (List.mem_filterMap.mp hj) λq hq e=>?_
  split at e
  ·cases e
   unfold slotsOf;refine zr A13 ?_;exact(fR.mp (GL hq)).1
  ·cases e
 have zc:Ex c:={
  kind:=by show env.scope.kind=_;exact zr lx ok.kind
  nodupN:=ok.nodup
  nodupI:=QW d
  kinds:=λx j hm=>by
   rcases(ok.kinds x j hm).1 with h|h
   ·exact .inl ((Oq x).trans h)
   ·refine .inr ⟨(Oq x).trans h,?_⟩;show ∃a,env.cells.lookup x=some a;exact zr SM (NL h)
  debug:=λx j hm=>(ok.kinds x j hm).2
  apart:=aC
  handled:=here.handled
  dumNot:=λhm=>by
   have h1:=eJ _ hm;have h2:=ok.few;unfold EU at h1;exact(v4 h1 h2).elim
  units:=by show A.units+3+200<cLine;exact uz here.units
  frames:=by
   refine AE here.frames λl hl Mx=>?_
   refine⟨env::l,Around.frames_deeper hl,λe he=>?_⟩;rcases A0E.mp he with rfl|he
   ·exact⟨by(refine zr lx (zr ok.kind ?_);exact λq=>(by cases q)),L,rfl⟩
   ·exact Mx e he }
 let fx:EG:={ c:=c,t:=Wb ou G d,B:=B,fa:=fa,D:=D };have F:AL fx:={
  ok:=zc
  scope:=by show env.scope.names=_;refine zr lx ?_;rfl
  names:=rfl
  mv:=rfl
  gl:=fL
  bl:=oN
  gnd:=gnd
  base:=λb o hb=>⟨by
   show b∉frs (A.deeper env);refine zr NI ?_;intro hm;rcases A0E.mp hm with rfl|hm
   ·rw[My b o hb] at I6;cases I6
   ·exact(here.base b o hb).1 hm,My b o hb⟩
  depth:=yG here.depth
  units:=by show A.units+3+20*D+300<cLine;exact uy here.units
  cb:=λx j hm=>by
   show j<(slotsOf d).length;unfold slotsOf;refine zr A13 ?_;exact(fR.mp (GL hm)).1
  mvb:=eJ }
 let own:Addr->Option Nat:=λa=>if a=L\/a∈frs A then some EU else none
 have Ib:∀{j:Nat}{e:PV},(args.map some++List.replicate ((slotsOf d).length+2-d.args.args.length) none)[j]?=some (some e)->args[j]?=some e:=λ{j e}h=>by
  rcases Nat.lt_or_ge j args.length with hj|hj
  ·rw[A0b (by simpa using hj),A0Q] at h;cases q:args[j]? with
   |none=>rw[q] at h;cases h
   |some e'=>rw[q] at h;cases h;rfl
  ·rw[A0F (by simpa using hj),List.getElem?_replicate] at h;split at h<;>cases h
 have st:St c own (args.map some++List.replicate ((slotsOf d).length+2-d.args.args.length) none) (up s (h1) (t1)):=by
  refine⟨.of_keeps LF,λa ha=>?_,⟨XL (.inl rfl),_,FQ⟩,I6,λn a ha=>⟨_,LG n a ha⟩,λn a ha=>?_,λa ha=>?_,λa j ha hj=>?_,λx j e hm he=>?_⟩
  ·have aF:a∈L::frs A:=NI▸ha;rcases A0E.mp aF with rfl|hm
   ·exact⟨XL (.inl rfl),_,FQ⟩
   ·obtain⟨m,Ks⟩:=here.fr a hm;exact⟨XL (.inr hm),m,Ks.keeps LF⟩
  ·cases q:s.heap.get? a with
   |none=>rfl
   |some o'=>have h2:=A0m q;rw[hL] at h2;exact absurd h2 (Nat.not_lt.mpr (A0r (aE n a (mem_of_lookup ha))))
  ·by_cases q:a=L\/a∈frs A
   ·rcases q with rfl|q
    ·obtain⟨o',_,_,Ah,_⟩:=FQ;exact⟨o',Ah⟩
    ·obtain⟨m,o',_,_,Ah,_⟩:=here.fr a q;exact⟨o',LF _ _ Ah⟩
   ·exact absurd (Yf q) ha
  ·have:own a=some EU\/own a=none:=by
    by_cases q:a=L\/a∈frs A
    ·exact .inl (XL q)
    ·exact .inr (Yf q)
   rcases this with q|q
   ·rw[q] at ha;cases ha;exact absurd hj zc.dumNot
   ·rw[q] at ha;cases ha
  ·have Rt:=Ib he;refine AE (Wv hr Rt) λv hv eX=>?_
   have ng:j<args.length:=(fR.mp Rt).1;have hx:(BH d.args)[j]?=some x:=by
    have:=GL hm
    rwa [A0b (ux aD (rfl:d.args.args.length=d.args.args.length) lq Zz ng)] at this
   have ym:(x,v)∈(BH d.args).zip vs:=by
    obtain⟨h2,h3⟩:=fR.mp hx;obtain⟨h4,h5⟩:=fR.mp hv;refine List.mem_iff_getElem.mpr ⟨j,zr length_zip (uw aD (rfl:d.args.args.length=d.args.args.length) lq Zz ng),?_⟩;exact zr List.getElem_zip (zr h3 (zr h5 rfl))
   refine⟨v,?_,?_⟩
   ·rcases(ok.kinds x j hm).1 with h|h
    ·have hk:env.kindOf x=some .local:=(Oq x).trans h;exact .inl hk _ FQ (RZ mD ym hk)
    ·have hk:env.kindOf x=some .cell:=(Oq x).trans h;obtain⟨a,ha⟩:=NL h;have aF:env.cells.lookup x=some a:=by exact zr SM ha
     refine .inr hk a aF ?_;have:=LG x a aF
     rwa [Ra mD ym (by show env.kindOf x≠_;refine zr hk ?_;exact λq=>by cases q)] at this
   ·have hmv:j∉Qp ou d:=λhj=>by exact(uv aD (rfl:d.args.args.length=d.args.args.length) ng (ok.mv j hj)).elim
    unfold DB;refine zr (Yf (show j∉c.mv from hmv)) ?_;refine Rd.to (λa o ho J=>LF a o ho) e (Rd.imp (λa o ho J pa=>⟨.inl pa,Yf ?_⟩) e eX);rintro(rfl|Ks)
    ·rw[I6] at ho;cases ho
    ·exact hP a Ks pa
 have shrink:∀{h':Heap},Ap (frs (A.deeper env)) s.heap h'->Ap (frs A) s.heap h':=λ{h'}g b o hb=>by
  obtain⟨g1,g2⟩:=g b o hb;refine⟨λhf=>g1 λhm=>?_,g2⟩;rw[NI] at hm;rcases A0E.mp hm with rfl|hm
  ·rw[I6] at hb;cases hb
  ·exact hf hm
 exact run fx own _ F rfl ⟨let ⟨l,hl,_⟩:=here.frames;⟨l,Around.frames_deeper hl⟩,rfl⟩ rfl rfl rfl rfl rfl ⟨h1,t1,rfl⟩ st shrink
theorem Mj(K:Mt N ou G fa B ds fns)(gnd:da G fa B)(ih:CF B fa G (AC fns D) D){A:Around}{s:Shared}{f:Str}{i ar:Nat}{fr:Bool}{args:List PV}{vs:List Value}{P:Addr->Prop}{g:Out->Res PV}{r:PV}(hl:YY G f i ar fr)(hlen:args.length=ar)(here:Rl B (D+1) A s.heap)(hP:∀a∈frs A,¬P a)(hr:Rds s.heap P args vs)
  (he:∀p,fns[i]?=some p->DW g p (AC fns D) args=.ok r):codeAny Md A (.call (.ref (fa i)) ⟨vs,[]⟩) (λz s'=>match z with
   |.ok (.ret v)=>∃d,(g (.ret d)=.ok r\/(d=.none/\∃ρ,g (.next ρ)=.ok r))/\AX A s s'/\IX s.heap s'.heap P fr d v
   |.error x=>∃c:Nat,g (.exc c)=.ok r/\Fly B A s (.int c) x s'
   |_=>False) s:=by
 refine pn (K.fn f i ar fr hl) λd p hd hp nr hsk E6 har ow=>?_
 unfold RC at nr;rw[Yf (by refine zr hsk ?_;exact A0O)] at nr;refine AE (Option.map_eq_some_iff.mp nr) λGA J Av=>?_;obtain⟨b,hb⟩:=GA;subst Av
 refine AE (AD (Bb (he _ hp)).2) λo e1 hg=>?_
 refine Ly gnd ow (hlen.trans har) here hP hr λfx own AG F ht FK hB nx hD h0 hP0 hs st shrink=>?_
 refine HU hs λh1 t1 Av=>?_;subst Av
 refine mj ((show E4 fx (AC fns D) fr d.body b from(E6▸hb) _ fx F ht (zr hB (zr nx (zr hD (zr ht ih)))) FK) own _ _ o st e1) (λfl s' q=>?_) λx s' q=>?_
 ·cases fl with
  |next=>
   obtain⟨ρ',rfl,own',x',ev,_⟩:=q;obtain⟨⟨h2,t2,rfl⟩,_⟩:=ev;refine⟨.none,.inr ⟨rfl,_,hg⟩,⟨h2,t2,rfl,shrink (h0▸x'.base)⟩,?_⟩;unfold IX;split<;>rfl
  |ret v=>
   obtain⟨dv,rfl,⟨h2,t2,rfl⟩,g,rr⟩:=q;rw[h0] at g rr;rw[hP0] at rr;exact⟨dv,.inl hg,⟨h2,t2,rfl,shrink g⟩,rr⟩
  |brk=>exact q.elim
  |cont=>exact q.elim
 ·refine mj q (λJ s₂ z=>?_) λJ J z=>z.elim
  obtain⟨c,C,a,h',tk,rfl,o,rfl,rfl,g⟩:=z;obtain⟨g1,g2,g3,g4⟩:=g;rw[h0] at g1 g3 g4;exact⟨c,hg,c,C,a,h',tk,rfl,hB▸o,rfl,rfl,shrink g1,g3,g4⟩
theorem dJ(K:Mt N ou G fa B ds fns)(gnd:da G fa B)(ih:CF B fa G (AC fns D) D):CFv B fa G (AC fns (D+1)) (D+1):=
 λA s f i ar fr args vs P d hl hlen here hP hr he=>codeAny_mono (Mj (g:=FD) K gnd ih hl hlen here hP hr λp hp=>(IU hp).symm.trans he) λr s' q=>by
  cases r with
  |error x=>obtain⟨c,e,_⟩:=q;exact Res.no e
  |ok fl=>
   cases fl with
   |ret v=>
    obtain⟨d',e|⟨rfl,ρ,e⟩,r⟩:=q
    ·refine At e ?_;exact r
    ·refine At e ?_;exact r
   |_=>exact q
theorem dH(K:Mt N ou G fa B ds fns)(gnd:da G fa B)(ih:CF B fa G (AC fns D) D):CFx B fa G (AC fns (D+1)) (D+1):=
 λA s f i ar fr args vs P d hl hlen here hP hr he=>codeAny_mono (Mj (g:=J0) K gnd ih (.inl hl) hlen here hP hr λp hp=>(Za K.few hp).symm.trans he) λr s' q=>by
  cases r with
  |error x=>obtain⟨c,e,h⟩:=q;refine At e ?_;exact h
  |ok fl=>
   cases fl with
   |ret v=>obtain⟨d',e|⟨_,ρ,e⟩,r⟩:=q<;>exact Res.no e
   |_=>exact q
theorem Od(K:Mt N ou G fa B ds fns)(gnd:da G fa B)(D:Nat):CF B fa G (AC fns D) D:=by
 induction D with
 |zero=>exact⟨λA s f i ar fr args vs P d hl hlen here hP hr he=>Res.no he,K.o 0,λA s f i ar fr args vs P d hl hlen here hP hr he=>Res.no he⟩
 |succ D ih=>exact⟨dJ K gnd ih,K.o (D+1),dH K gnd ih⟩
section
set_option backward.eqns.nonrecursive false
noncomputable def bK(r:DefRec):Ko:=⟨r.name,r.params,r.body,r.scope⟩
abbrev CE(p:Program):List Ko:=(recsOf p).map bK
def DK(nm:Str):Ko:=⟨(AV nm).name,(AV nm).params,(AV nm).body,(AV nm).scope⟩
def PL:List Ko:=[DK "face",DK "able",DK "leads",DK "crossings",DK "drawing"]
abbrev IM(p:Program):List Ko:=CE p++PL
def ID(p:Program)(mg mN:Str->Option Value)(i:Nat):Addr:=match (CE p)[i]? with
 |some d=>refOf mg d.name
 |none=>(match meths.find? λq=>(match q.2 with|.fn j _ _=>j==i|_=>false) with
  |some q=>refOf mN q.1
  |none=>0)
def J6(p:Program):Str×GE->Prop
 |(x,.const (.int i))=>valOf p x=some (.int i)
 |_=>False
noncomputable def Jz(p:Program)(loose:List Str):Bool:=Bg.all λq=>!(startupNames.contains q.1)&&!(loose.contains q.1)&&!(((recsOf p).map (·.name)).contains q.1)&&!(((litsOf p).map (·.1)).contains q.1)&&!(((clssOf p loose).map (·.name)).contains q.1)
theorem YL:∀x v,(x,v)∈Bg->x≠("__name__" : Str)/\bootBuiltins x=some v:=by
 have h:∀q∈Bg,q.1≠("__name__" : Str)/\bootBuiltins q.1=some q.2:=by decide +kernel
 exact λx v hm=>h (x,v) hm
theorem J7{more:List (Str×GE)}(h:(Vo ou ds more).lookup x=some e):
  (∃i d,ds[i]?=some d/\d.name=x/\(optOf ou d.name).skip=false/\e=.fn i d.args.args.length (optOf ou d.name).fr)\/(x,e)∈more:=by
 have hm:=mem_of_lookup h;unfold Vo at hm;rcases XP.mp hm with hm|hm
 ·refine AE (Ya.mp hm) λq hq e'=>?_
  obtain⟨hq,hs⟩:=A0u.mp hq;obtain⟨d,i⟩:=q;cases e'
  rw[A1h] at hq;exact .inl ⟨i,d,hq,rfl,by simpa using hs,rfl⟩
 ·exact .inr hm
set_option maxRecDepth 100000 in
theorem RF:AQ.meths.find? (λr=>r.name==("face" : Str))=some (AV "face"):=by kernel_rfl
set_option maxRecDepth 100000 in
theorem Ri:AQ.meths.find? (λr=>r.name==("able" : Str))=some (AV "able"):=by kernel_rfl
set_option maxRecDepth 100000 in
theorem IP:AQ.meths.find? (λr=>r.name==("crossings" : Str))=some (AV "crossings"):=by kernel_rfl
set_option maxRecDepth 100000 in
theorem Np:AQ.meths.find? (λr=>r.name==("leads" : Str))=some (AV "leads"):=by kernel_rfl
set_option maxRecDepth 100000 in
theorem KW:AQ.meths.find? (λr=>r.name==("drawing" : Str))=some (AV "drawing"):=by kernel_rfl
theorem Hn(h:meths.lookup x=some (.fn i ar fr)):ar=1/\53<=i/\PL[i-53]?=some (DK x)/\AQ.meths.find? (λr=>r.name==x)=some (AV x)/\(meths.find? λq=>(match q.2 with|.fn j _ _=>j==i|_=>false))=some (x,.fn i ar fr):=by
 have hm:=mem_of_lookup h;simp only[meths,mem_cons,not_mem_nil,or_false,Prod.mk.injEq,GE.fn.injEq] at hm;rcases hm with⟨rfl,rfl,rfl,rfl⟩|⟨rfl,rfl,rfl,rfl⟩|⟨rfl,rfl,rfl,rfl⟩|⟨rfl,rfl,rfl,rfl⟩|⟨rfl,rfl,rfl,rfl⟩
 ·exact⟨rfl,by decide,rfl,RF,rfl⟩
 ·exact⟨rfl,by decide,rfl,Ri,rfl⟩
 ·exact⟨rfl,by decide,rfl,Np,rfl⟩
 ·exact⟨rfl,by decide,rfl,IP,rfl⟩
 ·exact⟨rfl,by decide,rfl,KW,rfl⟩
section
variable {p:Program}{loose:List Str}{NB:ExcName->Option Value}{mg mb mN:Str->Option Value}{h:Heap}{N:Addr}{more:List (Str×GE)}{newId Bn GB:String}{bm:List Value}
theorem Jo(T:Top p loose NB mg mb h)(hd:(CE p)[i]?=some d):∃o pm code doc,mg d.name=some (.ref (ID p mg mN i))/\h.get? (ID p mg mN i)=some o/\o.data=.func (PySem.Calls.docDef d.name d.args d.body d.scope pm code doc)/\h.CodeRec code d.name:=by
 refine AE (Ya.mp (A0C hd)) λr hr Av=>?_;subst Av
 refine pf (T.fn r hr) λa o pm code doc h1 h2 h3 h4=>?_
 have:ID p mg mN i=a:=by
  unfold ID;refine zr hd ?_;show refOf mg r.name=a;unfold refOf;exact zr h1 rfl
 exact zr this ⟨o,pm,code,doc,h1,h2,h3,h4⟩
theorem LP(hlen:(CE p).length=53)(P:PlainAt h AQ CA N mN)(hm:meths.lookup x=some (.fn i ar fr)):
  ∃o pm cd doc,mN x=some (.ref (ID p mg mN i))/\h.get? (ID p mg mN i)=some o/\o.cls=.type "function" /\ o.data=.func (methDef (AV x).name (AQ.name ++ "." ++ (AV x).name) (AV x).params (AV x).body (AV x).scope pm cd doc)/\h.CodeRec cd (AQ.name ++ "." ++ (AV x).name):=by
 refine g6 (Hn hm) λJ oj J hf hq=>?_
 refine WK (Hm P hf) λa o pm cd doc h1 h2 h3 h4 h5=>?_
 have:ID p mg mN i=a:=by
  unfold ID;refine zr (List.getElem?_eq_none (mu (Nat.le_of_eq hlen) oj)) ?_;dsimp only;refine zr hq ?_;show refOf mN x=a;unfold refOf;exact zr h1 rfl
 exact zr this ⟨o,pm,cd,doc,h1,h2,h3,h4,h5⟩
theorem N3 (T:Top p loose NB mg mb h) (X:XcAt mg h) (FB:ExcBaseFacts Bn newId GB bm) (nK:∀x∈BD,specOf p x=some (newId,bm)) (hA:mg ("Arc" : Str)=some (.ref CA)) (P:PlainAt h AQ CA N mN) (hlen:(CE p).length=53) (GZ:∀q∈more,J6 p q) (Zz:Jz p loose=true):da (Vo ou (CE p) more) (ID p mg mN) h where
 g:=by
  refine⟨mg,T.g,λx e hl=>?_,λx v hm hn=>?_,hA⟩
  ·rcases J7 hl with⟨i,d,hd,rfl,_,rfl⟩|hm
   ·obtain⟨o,pm,code,doc,h1,_⟩:=Jo T hd;exact⟨_,h1,rfl⟩
   ·have:=GZ _ hm;cases e with
    |fn _ _ _=>exact this.elim
    |const d=>
     cases d with
     |int i=>
      refine AE (T.const x (.int i) this) λv hv hr=>?_
      refine⟨v,hv,i,?_⟩;cases hr h with
      |int _ t=>exact⟨t,rfl,rfl⟩
     |_=>exact this.elim
  ·have:=A0T.mp Zz (x,v) hm;simp only[Bool.and_eq_true,Bool.not_eq_true',List.contains_eq_mem,decide_eq_false_iff_not] at this;obtain⟨⟨⟨⟨h1,h2⟩,h3⟩,h4⟩,h5⟩:=this;exact T.free x h1 h2 h3 h4 h5
 b:=⟨mb,T.b,λx v hm=>by
  obtain⟨h1,h2⟩:=YL x v hm;refine zr (T.builtins x h1) ?_;exact h2⟩
 nolimit:=T.nolimit
 fn:=λx i ar fr hl=>by
  rcases J7 hl with⟨j,d,hd,rfl,_,e⟩|hm
  ·cases e
   obtain⟨o,pm,code,doc,_,h2,h3,_⟩:=Jo T hd;exact⟨o,_,h2,h3⟩
  ·exact(GZ _ hm).elim
 arc:=⟨N,mN,P,λx i ar fr hm=>by
  obtain⟨o,pm,cd,doc,h1,h2,h3,h4,_⟩:=LP hlen P hm;exact⟨h1,o,_,h2,h3,h4⟩⟩
 x:=λc x hx=>by
  have hm:=A0C hx;refine AE (T.ownAt (nK x hm)) λC O J=>?_
  have e:=O.bound.symm.trans (X.ref x (.tail _ hm));injection e with e;injection e with e;subst e;refine⟨_,⟨A0M.2 (fR.mp hx).1,mg,T.g,X,?_⟩,bm,newId,Bn,GB,mg,T.g,O,FB⟩;unfold xaOf;refine zr A0x (zr hx ?_);rfl
theorem N8(T:Top p loose NB mg mb h)(P:PlainAt h AQ CA N mN)(hlen:(CE p).length=53)(GZ:∀q∈more,J6 p q){K:Nat}(few:fns.length<=1000)(Z1:((IM p).all λd=>(optOf ou d.name).skip||Pm ou d)=true)(hf:(IM p).map (RC K ou (Vo ou (CE p) more))=fns.map some)
  (nX:∀x i ar fr,meths.lookup x=some (.fn i ar fr)->(optOf ou (DK x).name).skip=false/\(optOf ou (DK x).name).fr=fr/\(DK x).args.args.length=1)
  (ho:∀D m i ar fr,meths.lookup m=some (.fn i ar fr)->∀d,Ct d=true->AC fns D i [d]=.stuck):Mt K ou (Vo ou (CE p) more) (ID p mg mN) h (IM p) fns where
 o:=ho
 few:=few
 fn:=λx i ar fr hl=>by
  have get:∀{d:Ko},(IM p)[i]?=some d->∃f,fns[i]?=some f/\RC K ou (Vo ou (CE p) more) d=some f:=λ{d}hd=>by
   have h5:=A0U (λl=>l[i]?) hf;rw[A0Q,A0Q,hd] at h5;cases q:fns[i]? with
   |none=>rw[q] at h5;cases h5
   |some f=>
    rw[q] at h5;exact⟨f,rfl,Option.some.inj h5⟩
  have yb:∀{d:Ko},(IM p)[i]?=some d->(optOf ou d.name).skip=false->VU ou d:=λ{d}hd hs=>by
   have:=A0T.mp Z1 d (A0C hd);rw[hs,Bool.false_or] at this;exact Uw this
  rcases hl with hl|hl
  ·rcases J7 hl with⟨j,d,hd,rfl,hs,e⟩|hm
   ·cases e
    obtain⟨o,pm,code,doc,h1,h2,h3,h4⟩:=Jo T hd;have Au:(IM p)[i]?=some d:=by
     show(CE p++PL)[i]?=some d;refine zr (A0b ((fR.mp hd).1)) ?_;exact hd
    refine AE (get Au) λf Z8 Z7=>?_
    exact⟨d,f,Au,Z8,Z7,hs,rfl,rfl,yb Au hs,o,_,h2,h3,rfl,rfl,rfl,rfl,rfl,rfl,rfl,h4⟩
   ·exact(GZ _ hm).elim
  ·refine g6 (Hn hl) λn7 oj hmd nu J=>?_;subst n7
   refine DI (nX _ _ _ _ hl) λs1 s2 s3=>?_
   obtain⟨o,pm,cd,doc,h1,h2,h3,h4,h5⟩:=LP hlen P hl;have Au:(IM p)[i]?=some (DK x):=by
    show(CE p++PL)[i]?=some (DK x);refine zr (A0F (mu (Nat.le_of_eq hlen) oj)) (zr hlen ?_);exact hmd
   refine AE (get Au) λf Z8 Z7=>?_
   exact⟨DK x,f,Au,Z8,Z7,s1,s2,s3.symm,yb Au s1,o,_,h2,h4,rfl,rfl,rfl,rfl,rfl,rfl,rfl,h5⟩
theorem La:∀{vs:List Value}{ns:List Int},IntsAre vs ns->Rds h P (ns.map .int) vs
 |_,_,.nil=>rfl
 |_,_,.cons n t r=>⟨_,_,rfl,⟨t,rfl⟩,La r⟩
theorem l5 (T:Top p loose NB mg mb AG.heap) (X:XcAt mg AG.heap) (FB:ExcBaseFacts Bn newId GB bm) (nK:∀x∈BD,specOf p x=some (newId,bm)) (hA:mg ("Arc" : Str)=some (.ref CA)) (P:PlainAt AG.heap AQ CA N mN) (hlen:(CE p).length=53) (GZ:∀q∈more,J6 p q) (Zz:Jz p loose=true) {K:Nat} (few:fns.length<=1000) (Z1:((IM p).all λd=>(optOf ou d.name).skip||Pm ou d)=true) (hf:(IM p).map (RC K ou (Vo ou (CE p) more))=fns.map some)
  (nX:∀x i ar fr,meths.lookup x=some (.fn i ar fr)->(optOf ou (DK x).name).skip=false/\(optOf ou (DK x).name).fr=fr/\(DK x).args.args.length=1)
  (ho:∀D m i ar fr,meths.lookup m=some (.fn i ar fr)->∀d,Ct d=true->AC fns D i [d]=.stuck)
 (hx:(Vo ou (CE p) more).lookup x=some (.fn i 1 false)) (nx:mg x=some (.ref fa)) (hL:AG.heap.get? a=some { cls:=.type "list",data:=.seq vs.toArray }) (hI:IntsAre vs ns) (hn:ns.length<=Ab)
  {D:Nat} (hD:D<=30) {d:PV} (hp:AC fns D i [.list (ns.map .int)]=.ok d):
  codeAny (model prog w) callerA (.call (.ref fa) ⟨[.ref a],[]⟩) (λr s'=>∃v,r=.ok (.ret v)/\Rd s'.heap (λJ=>True) d v/\(∀b o,AG.heap.get? b=some o->s'.heap.get? b=some o)/\∃h' tk,s'=(up AG (h') (tk))) AG:=by
 have nv:fa=ID p mg mN i:=by
  rcases J7 hx with⟨j,dd,VZ,hxn,_,e⟩|hm
  ·injection e with e _ _;subst e;obtain⟨o,pm,code,doc,h3,_⟩:=Jo (mN:=mN) T VZ;rw[hxn,nx] at h3;injection h3 with h3;injection h3
  ·exact(GZ _ hm).elim
 subst nv;have E6:frs callerA=[]:=rfl;have here:Rl AG.heap D callerA AG.heap:={
  handled:=rfl
  depth:=A0o (Nat.add_le_add_right (A1L hD (1+claimMargin)) 10) (by decide +kernel)
  units:=A0o (Nat.add_le_add_right (A1L (Nat.mul_le_mul_left 20 hD) 4) 300) (by decide +kernel)
  frames:=⟨[],rfl,λe he=>by cases he⟩
  fr:=λa ha=>by rw[E6] at ha;cases ha
  base:=λb o hb=>⟨by(refine zr E6 ?_;exact λq=>(by cases q)),hb⟩ }
 refine codeAny_mono ((Od (N8 T P hlen GZ few Z1 hf nX ho) (N3 (ou:=ou) T X FB nK hA P hlen GZ Zz) D).v callerA AG x i 1 false [.list (ns.map .int)] [.ref a] (λJ=>True) d (.inl hx) rfl here (λa ha=>by rw[E6] at ha;cases ha) ⟨.ref a,[],rfl,⟨a,vs.toArray,rfl,trivial,⟨0,hL⟩,zr (KK _) hn,by simpa using La hI⟩,rfl⟩ hp) λr s' q=>?_
 cases r with
 |ok f=>
  cases f with
  |ret v=>
   obtain⟨⟨h',tk,rfl,g'⟩,rr⟩:=q;exact⟨v,rfl,Rd.imp (λJ J J J J=>trivial) d rr,λb o hb=>(g' b o hb).1 (zr E6 (λq=>by cases q)),h',tk,rfl⟩
  |next=>exact q.elim
  |brk=>exact q.elim
  |cont=>exact q.elim
 |error x=>exact q.elim
end
end
noncomputable def itr{α:Type}(f:α->α):Nat->α->α
 |0,x=>x
 |k+1,x=>f (itr f k x)
theorem Nu{α:Type}{f:α->α}{x:α}:itr f 0 x=x:=rfl
theorem UL{α:Type}{f:α->α}{x:α}:itr f (k+1) x=f (itr f k x):=rfl
theorem HD{α:Type}(f:α->α)(a b:Nat)(x:α):itr f (a+b) x=itr f a (itr f b x):=by
 induction a with
 |zero=>simp[Nu]
 |succ a ih=>refine zr (show a+1+b=(a+b)+1 by exact o1) ?_;simp[UL,ih]
theorem PU{α:Type}(f:α->α)(m:Nat)(x:α)(h:itr f m x=x):∀k,itr f (k*m) x=x
 |0=>by simp[Nu]
 |k+1=>by rw[Nat.add_mul,Nat.one_mul,HD,h,PU f m x h k]
theorem BA{α:Type}[BEq α][LawfulBEq α]:∀{l m:List α},l.Nodup->(∀x∈l,x∈m)->l.length<=m.length:=by
 intro l;induction l with
 |nil=>exact λ{_}_ _=>by simp
 |cons a t ih=>
  intro m hn hs;have h1:=A1C.1 hn;have ha:=hs a (by simp);have:∀x∈t,x∈m.erase a:=λx hx=>(List.mem_erase_of_ne (by rintro rfl;exact h1.1 hx)).2 (hs x (by simp[hx]))
  have h2:=ih h1.2 this;rw[length_erase_of_mem ha] at h2;simp;exact o3 h2 (length_pos_of_mem ha:0<m.length)
def Reach{α:Type}(f:α->α)(x y:α):Prop:=∃k,itr f k x=y
section
variable {α:Type}[DecidableEq α]{f g:α->α}{S:List α}
theorem Reach.refl(x:α):Reach f x x:=⟨0,rfl⟩
theorem Reach.step(x:α):Reach f x (f x):=⟨1,rfl⟩
theorem Reach.trans{x y z:α}(a:Reach f x y)(b:Reach f y z):Reach f x z:=by
 obtain⟨i,rfl⟩:=a;obtain⟨j,rfl⟩:=b;exact⟨j+i,HD f j i x⟩
theorem Ep(hc:∀x∈S,f x∈S){x:α}(hx:x∈S):∀k,itr f k x∈S
 |0=>hx
 |k+1=>hc _ (Ep hc hx k)
theorem Reach.mem(hc:∀x∈S,f x∈S){x y:α}(hx:x∈S)(r:Reach f x y):y∈S:=by
 obtain⟨k,rfl⟩:=r;exact Ep hc hx k
theorem Lo(hc:∀x∈S,f x∈S)(hg:∀x∈S,g (f x)=x){x:α}(hx:x∈S):∀i d,itr f i x=itr f (i+d) x->x=itr f d x
 |0,d,h=>by simpa [Nu,UL] using h
 |i+1,d,h=>by
  rw[show i+1+d=(i+d)+1 by exact o1] at h;simp only[UL] at h;have:=A0U g h;rw[hg _ (Ep hc hx _),hg _ (Ep hc hx _)] at this;exact Lo hc hg hx i d this
theorem bP(hc:∀x∈S,f x∈S)(hg:∀x∈S,g (f x)=x){x:α}(hx:x∈S):∃m,0<m/\itr f m x=x:=by
 let l:=(List.range (S.length+1)).map λk=>itr f k x
 have Yj:¬l.Nodup:=λh=>by
  have:=BA h (λy hy=>by
   obtain⟨k,-,rfl⟩:=Ya.1 hy;exact Ep hc hx k)
  simp[l] at this;exact(o2 this).elim
 have:∃i j,i<j/\itr f i x=itr f j x:=A1E λhn=>Yj (by
  rw[List.Nodup,pairwise_iff_getElem];intro i j hi hj m8 e;simp[l] at e;exact hn ⟨i,j,m8,e⟩)
 refine Gr this λi j m8 e=>?_
 refine⟨j-i,by exact o5 m8,?_⟩;exact(Lo hc hg hx i (j-i) (by refine zr e ?_;congr 1;exact o6 m8)).symm
theorem Reach.symm(hc:∀x∈S,f x∈S)(hg:∀x∈S,g (f x)=x){x y:α}(hx:x∈S)(r:Reach f x y):Reach f y x:=by
 obtain⟨k,rfl⟩:=r;refine AE (bP hc hg hx) λm hm e=>?_
 refine⟨k*m-k,?_⟩;refine zr (HD _ _ _ _).symm ?_;exact zr (show k*m-k+k=k*m by exact o4 (Nat.le_mul_of_pos_right k hm:k<=k*m)) (PU f m x e k)
noncomputable def HV(f:α->α):Nat->List α->α->Option (List α)
 |0,_,_=>none
 |n+1,found,x=>if x∈found then some found else HV f n (found++[x]) (f x)
theorem Oz{f:α->α}{F:List α}{x:α}:HV f (n+1) F x=if x∈F then some F else HV f n (F++[x]) (f x):=rfl
theorem QL(hc:∀x∈S,f x∈S)(x0:α)(n:Nat):∀(found:List α)(x:α),found.Nodup->(∀y∈found,y∈S)->x∈S->(∀y∈found,f y∈found\/f y=x)->(∀y∈found,Reach f x0 y)->Reach f x0 x->(x0∈found\/x=x0)->S.length<n+found.length ->
  ∃F,HV f n found x=some F/\F.Nodup/\(∀y∈F,y∈S)/\∀y,y∈F↔Reach f x0 y:=by
 induction n with
 |zero=>
  intro found x h1 h2 h3 h4 h5 h6 h7 h8;exact(o7 h8 (BA h1 h2)).elim
 |succ n ih=>
  intro found x h1 h2 h3 h4 h5 h6 h7 h8;by_cases hx:x∈found
  ·refine⟨found,by simp[Oz,hx],h1,h2,λy=>⟨h5 y,λr=>?_⟩⟩;have h0:x0∈found:=by rcases h7 with h|rfl<;>assumption
   have HP:∀y∈found,f y∈found:=λy hy=>by rcases h4 y hy with h|h;exact h;exact zr h hx
   exact Reach.mem HP h0 r
  ·refine zr (by simp[Oz,hx]:HV f (n+1) found x=HV f n (found++[x]) (f x)) ?_;refine ih (found++[x]) (f x) ?_ ?_ (hc x h3) ?_ ?_ (h6.trans (.step x)) ?_ ?_
   ·rw[A0S];refine⟨h1,by simp,?_⟩;intro a ha b hb;simp at hb;subst hb;rintro rfl;exact hx ha
   ·intro y hy;simp at hy;rcases hy with h|rfl;exact h2 y h;exact h3
   ·intro y hy;simp at hy;rcases hy with h|rfl
    ·rcases h4 y h with h' | h'
     ·left;simp[h']
     ·left;simp[h']
    ·right;rfl
   ·intro y hy;simp at hy;rcases hy with h|rfl;exact h5 y h;exact h6
   ·left;rcases h7 with h|rfl<;>simp[*]
   ·simp;exact o8 h8
theorem QM(hc:∀x∈S,f x∈S){x0:α}(h:x0∈S)(hn:S.length<n):∃F,HV f n [] x0=some F/\F.Nodup/\(∀y∈F,y∈S)/\∀y,y∈F↔Reach f x0 y:=
 QL hc x0 n [] x0 (by simp) (by simp) h (by simp) (by simp) (.refl _) (.inr rfl) (by simpa using hn)
end
abbrev Sd:=Nat×Bool
noncomputable def rnx(L:List Int)(q:Int->Int):Sd->Sd
 |(g,true)=>match L[g]? with
  |none=>(g,false)
  |some v=>if v=0 then(g+1,true) else if q v=1 then(L.idxOf (-v)+1,true) else(L.idxOf (-v),false)
 |(0,false)=>(0,true)
 |(g+1,false)=>match L[g]? with
  |none=>(g+1,false)
  |some v=>if v=0 then(g,false) else if q v=1 then(L.idxOf (-v),false) else(L.idxOf (-v)+1,true)
noncomputable def mR(L:List Int)(q:Int->Int):Sd->Sd
 |(g,false)=>match L[g]? with
  |none=>(g,true)
  |some v=>if v=0 then(g+1,false) else if q (-v)=1 then(L.idxOf (-v)+1,false) else(L.idxOf (-v),true)
 |(0,true)=>(0,false)
 |(g+1,true)=>match L[g]? with
  |none=>(g+1,true)
  |some v=>if v=0 then(g,true) else if q (-v)=1 then(L.idxOf (-v),true) else(L.idxOf (-v)+1,false)
structure Row(L:List Int)(q:Int->Int):Prop where
 nd:L.Nodup
 neg:∀v∈L,-v∈L
 q1:∀v∈L,v≠0->q v=1\/q v=-1
 qn:∀v∈L,v≠0->q (-v)=- q v
noncomputable def BL(L:List Int):List Sd:=(List.range (L.length+1)).flatMap λg=>[(g,true),(g,false)]
theorem AU:x∈BL L↔x.1<L.length+1:=by
 obtain⟨g,b⟩:=x;unfold BL;rw[A1P];constructor
 ·rintro⟨a,h,h2⟩;rcases A0E.1 h2 with e|h2
  ·exact zr ((Prod.mk.inj e).1) (A0M.1 h)
  ·exact zr ((Prod.mk.inj (YP.1 h2)).1) (A0M.1 h)
 ·intro h;exact⟨g,A0M.2 h,by cases b;exact kV _ d4;exact d4⟩
theorem G9:(BL L).length=2*(L.length+1):=by
 unfold BL;generalize L.length+1=n
 induction n with
 |zero=>rfl
 |succ n ih=>refine zr List.range_succ (zr List.flatMap_append (zr CZ (zr ih ?_)));rfl
section
variable {L:List Int}{q:Int->Int}
theorem Fd(h:L[g]?=some v):rnx L q (g,true)=if v=0 then(g+1,true) else if q v=1 then(L.idxOf (-v)+1,true) else(L.idxOf (-v),false):=by
 show(match L[g]? with|none=>_|some v=>_)=_;exact zr h rfl
theorem D5(h:L[g]?=none):rnx L q (g,true)=(g,false):=by
 show(match L[g]? with|none=>_|some v=>_)=_;exact zr h rfl
theorem FC(h:L[g]?=some v):rnx L q (g+1,false)=if v=0 then(g,false) else if q v=1 then(L.idxOf (-v),false) else(L.idxOf (-v)+1,true):=by
 show(match L[g]? with|none=>_|some v=>_)=_;exact zr h rfl
theorem bE(h:L[g]?=some v):mR L q (g+1,true)=if v=0 then(g,true) else if q (-v)=1 then(L.idxOf (-v),true) else(L.idxOf (-v)+1,false):=by
 show(match L[g]? with|none=>_|some v=>_)=_;exact zr h rfl
theorem bF(h:L[g]?=some v):mR L q (g,false)=if v=0 then(g+1,false) else if q (-v)=1 then(L.idxOf (-v)+1,false) else(L.idxOf (-v),true):=by
 show(match L[g]? with|none=>_|some v=>_)=_;exact zr h rfl
theorem jU(h:L[g]?=none):mR L q (g,false)=(g,true):=by
 show(match L[g]? with|none=>_|some v=>_)=_;exact zr h rfl
theorem Pv(h:v∈L):L[L.idxOf v]?=some v:=by
 rw[TW (A1M h),getElem_idxOf]
theorem CP(nd:L.Nodup)(h:L[g]?=some v):L.idxOf v=g:=by
 obtain⟨h1,h2⟩:=fR.1 h;exact zr h2.symm (nd.idxOf_getElem g h1)
theorem Fb(o:Row L q):∀x∈BL L,rnx L q x∈BL L:=by
 rintro⟨g,b⟩ hx;have hx:=AU.1 hx;have m7:∀{v:Int},v∈L->(L.idxOf (-v)+1,true)∈BL L/\(L.idxOf (-v),false)∈BL L:=λhv=>by
  have:=A1M (o.neg _ hv);exact⟨AU.2 (succ_lt_succ this),AU.2 (lt_succ_of_lt this)⟩
 cases b with
 |true=>
  cases h:L[g]? with
  |none=>exact zr (D5 h) (AU.2 hx)
  |some v=>
   have hv:=A0C h;have hg:=(fR.1 h).1;refine zr (Fd h) ?_;split
   ·exact AU.2 (succ_lt_succ hg)
   ·split
    ·exact(m7 hv).1
    ·exact(m7 hv).2
 |false=>
  cases g with
  |zero=>exact AU.2 (succ_pos _)
  |succ g=>
   have hg:=A1H hx;have h:=TW hg;have hv:=A0C h;refine zr (FC h) ?_;split
   ·exact AU.2 (lt_succ_of_lt hg)
   ·split
    ·exact(m7 hv).2
    ·exact(m7 hv).1
theorem Wo(o:Row L q):∀x∈BL L,mR L q (rnx L q x)=x:=by
 rintro⟨g,b⟩ hx;have hx:=AU.1 hx;have nz:∀{v:Int},v≠0->-v≠0:=λh e=>h (Int.neg_eq_zero.1 e)
 cases b with
 |true=>
  cases h:L[g]? with
  |none=>exact zr (D5 h) (zr (jU h) rfl)
  |some v=>
   have hv:=A0C h;have ha:=Pv (o.neg v hv);have hi:=CP o.nd h;refine zr (Fd h) ?_;by_cases h0:v=0
   ·exact zr (XL h0) (zr (bE h) (zr (XL h0) rfl))
   ·refine zr (Yf h0) ?_;rcases o.q1 v hv h0 with e|e
    ·rw[XL e,bE ha,Yf (nz h0),A1U,XL e,hi]
    ·rw[Yf (by refine zr e ?_;decide),bF ha,Yf (nz h0),A1U,Yf (by refine zr e ?_;decide),hi]
 |false=>
  cases g with
  |zero=>rfl
  |succ g=>
   have h:=TW (A1H hx);generalize L[g]=v at h;have hv:=A0C h;have ha:=Pv (o.neg v hv);have hi:=CP o.nd h;refine zr (FC h) ?_;by_cases h0:v=0
   ·exact zr (XL h0) (zr (bF h) (zr (XL h0) rfl))
   ·refine zr (Yf h0) ?_;rcases o.q1 v hv h0 with e|e
    ·rw[XL e,bF ha,Yf (nz h0),A1U,XL e,hi]
    ·rw[Yf (by refine zr e ?_;decide),bE ha,Yf (nz h0),A1U,Yf (by refine zr e ?_;decide),hi]
theorem Ws(o:Row L q)(f0:∀v∈L,f v=0↔v=0)(fn:∀v∈L,f (-v)=-f v)(fi:∀u∈L,∀v∈L,f u=f v->u=v)(fq:∀v∈L,v≠0->q' (f v)=q v):rnx (L.map f) q'=rnx L q:=by
 have ix:∀{v:Int},v∈L->(L.map f).idxOf (-f v)=L.idxOf (-v):=λ{v}hv=>by
  refine zr (fn v hv).symm ?_;have h1:=Pv (o.neg v hv);have h2:(L.map f)[L.idxOf (-v)]?=some (f (-v)):=by refine zr A0Q (zr h1 ?_);rfl
  exact CP (pairwise_map.2 (o.nd.imp_of_mem λ{a b}ha hb Ve e=>Ve (fi a ha b hb e))) h2
 have eN:∀{v:Int},v∈L->(f v=0)=(v=0):=λhv=>propext (f0 _ hv)
 funext x;obtain⟨g,b⟩:=x;have key:∀g:Nat,((L.map f)[g]?=none/\L[g]?=none)\/∃v,v∈L/\L[g]?=some v/\(L.map f)[g]?=some (f v):=λg=>by
  refine zr A0Q ?_;cases h:L[g]? with
  |none=>exact .inl ⟨rfl,rfl⟩
  |some v=>exact .inr ⟨v,A0C h,rfl,rfl⟩
 cases b with
 |true=>
  rcases key g with⟨h1,h2⟩|⟨v,hv,h1,h2⟩
  ·exact zr (D5 h1) (zr (D5 h2) rfl)
  ·refine zr (Fd h1) (zr (Fd h2) (zr (ix hv) ?_));simp only[eN hv];by_cases h0:v=0
   ·exact zr (XL h0) (zr (XL h0) rfl)
   ·exact zr (fq v hv h0) rfl
 |false=>
  cases g with
  |zero=>rfl
  |succ g=>
   rcases key g with⟨h1,h2⟩|⟨v,hv,h1,h2⟩
   ·show(match (L.map f)[g]? with|none=>_|some v=>_)=(match L[g]? with|none=>_|some v=>_);exact zr h1 (zr h2 rfl)
   ·refine zr (FC h1) (zr (FC h2) (zr (ix hv) ?_));simp only[eN hv];by_cases h0:v=0
    ·exact zr (XL h0) (zr (XL h0) rfl)
    ·exact zr (fq v hv h0) rfl
def EC(L:List Int)(q:Int->Int)(x:Sd):List Sd:=(HV (rnx L q) 1000000 [] x).getD []
theorem Cr(o:Row L q)(hm:L.length<=1000)(hx:x∈BL L):HV (rnx L q) 1000000 [] x=some (EC L q x)/\(EC L q x).Nodup/\(∀y∈EC L q x,y∈BL L)/\∀y,y∈EC L q x↔Reach (rnx L q) x y:=by
 refine DU (QM (Fb o) hx (zr G9 (xo1 hm))) λF h1 h2 h3 h4=>?_
 refine zr (by unfold EC;refine zr h1 ?_;rfl:EC L q x=F) ?_;exact⟨h1,h2,h3,h4⟩
theorem DY(o:Row L q)(hx:x∈BL L)(r:Reach (rnx L q) x y):Reach (rnx L q) y x:=r.symm (Fb o) (Wo o) hx
end
def Fc(L:List Int)(q:Int->Int)(c:Nat):Prop:=∃rs:List Sd,rs.length=c/\(∀r∈rs,r∈BL L)/\rs.Pairwise (λa b=>¬Reach (rnx L q) a b)/\∀x∈BL L,∃r∈rs,Reach (rnx L q) r x
section
theorem ZV(o:Row L q):∃c,Fc L q c:=by
 have key:∀xs:List Sd,(∀x∈xs,x∈BL L)->∃rs:List Sd,(∀r∈rs,r∈BL L)/\rs.Pairwise (λa b=>¬Reach (rnx L q) a b)/\∀x∈xs,∃r∈rs,Reach (rnx L q) r x:=by
  intro xs
  induction xs with
  |nil=>intro _;exact⟨[],λJ h=>absurd h A0K,.nil,λJ h=>absurd h A0K⟩
  |cons x xs ih=>
   intro h;refine Ca (ih λy hy=>h y (kV _ hy)) λrs h1 h2 h3=>?_
   have hx:=h x d4;by_cases hr:∃r∈rs,Reach (rnx L q) r x
   ·exact⟨rs,h1,h2,λy hy=>(A0E.1 hy).elim (λe=>e▸hr) (h3 y)⟩
   ·refine⟨x::rs,λr hr=>(A0E.1 hr).elim (λe=>e▸hx) (h1 r),pairwise_cons.2 ⟨λb hb r=>hr ⟨b,hb,DY o hx r⟩,h2⟩,λy hy=>(A0E.1 hy).elim (λe=>⟨x,d4,zr e (.refl x)⟩) λhy=>?_⟩;refine AE (h3 y hy) λr hr e=>?_;exact⟨r,kV _ hr,e⟩
 refine Ca (key (BL L) λJ h=>h) λrs h1 h2 h3=>?_
 exact⟨rs.length,rs,rfl,h1,h2,h3⟩
theorem JQ{lab:Sd->Nat}(o:Row L q)(inv:∀x∈BL L,lab (rnx L q x)=lab x)(hx:x∈BL L)(r:Reach (rnx L q) x y):lab y=lab x:=by
 obtain⟨k,rfl⟩:=r
 induction k with
 |zero=>rfl
 |succ k ih=>exact(inv _ (Ep (Fb o) hx k)).trans ih
theorem L7(o:Row L q)(h:Fc L q c){lab:Sd->Nat}(inv:∀x∈BL L,lab (rnx L q x)=lab x){D:List Nat}(nd:D.Nodup)(hD:∀v∈D,∃x∈BL L,lab x=v):D.length<=c:=by
 obtain⟨rs,e,h1,_,h3⟩:=h;have:=BA nd λv hv=>by
  refine AE (hD v hv) λx hx e=>?_
  refine AE (h3 x hx) λr hr Yg=>?_
  exact Ya.2 ⟨r,hr,by refine zr e.symm ?_;exact(JQ o inv (h1 r hr) Yg).symm⟩
 rwa [KK,e] at this
open Classical in
theorem cY(o:Row L q)(h:Fc L q c):∃lab:Sd->Nat,(∀x∈BL L,lab (rnx L q x)=lab x)/\∀k<c,∃x∈BL L,lab x=k:=by
 obtain⟨rs,e,h1,h2,h3⟩:=h;refine⟨λx=>rs.findIdx λr=>decide (Reach (rnx L q) r x),λx hx=>?_,λk hk=>?_⟩
 ·show rs.findIdx _=rs.findIdx _
  congr 1;funext r
  refine decide_eq_decide.2 ⟨λh=>h.trans (DY o hx (.step x)),λh=>h.trans (.step x)⟩
 ·subst e;refine⟨rs[k],h1 _ (A0w hk),(List.findIdx_eq hk).2 ⟨ac (.refl _),λj hj=>dV ?_⟩⟩;exact pairwise_iff_getElem.1 h2 j k _ hk hj
theorem IC(o:Row L q)(o':Row L' q')(h:Fc L q c)(h':Fc L' q' c')(a b:Sd)(ha:a∈BL L)(ψ:Sd->Sd)
  (key:∀lab:Sd->Nat,(∀x∈BL L,lab (rnx L q x)=lab x)->lab a=lab b->(∀x∈BL L',lab (ψ (rnx L' q' x))=lab (ψ x))/\∀y∈BL L,∃x∈BL L',lab (ψ x)=lab y):c<=c'+1/\(Reach (rnx L q) a b->c<=c'):=by
 refine AE (cY o h) λlab h1 h2=>?_
 constructor
 ·have k:=key (λx=>if lab x=lab b then lab a else lab x) (λx hx=>by show(if lab (rnx L q x)=lab b then _ else _)=_;exact zr (h1 x hx) rfl) (by show(if lab a=lab b then _ else _)=(if lab b=lab b then _ else _);refine zr (XL rfl) ?_;split<;>rfl);have:=L7 o' h' (lab:=λx=>if lab (ψ x)=lab b then lab a else lab (ψ x)) k.1 (nodup_range.erase _:((List.range c).erase (lab b)).Nodup) λv hv=>by
   obtain⟨nH,nG⟩:=(List.Nodup.mem_erase_iff nodup_range).1 hv;refine AE (h2 v (A0M.1 nG)) λy hy e=>?_
   refine AE (k.2 y hy) λx hx e2=>?_
   exact⟨x,hx,by exact zr e2 (zr (Yf (by refine zr e ?_;exact nH)) (zr e rfl))⟩
  rw[length_erase,A0q] at this;split at this<;>(first|exact xp2 this|exact Ow this)
 ·intro r;have k:=key lab h1 (JQ o h1 ha r).symm;have:=L7 o' h' k.1 (D:=List.range c) nodup_range λv hv=>by
   refine AE (h2 v (A0M.1 hv)) λy hy e=>?_
   refine AE (k.2 y hy) λx hx e2=>?_
   exact⟨x,hx,e2.trans e⟩
  rwa [A0q] at this
theorem yE(o:Row L q)(o':Row L' q){e:Nat->Nat}(he:∀i w,L'[i]?=some w->L[e i]?=some w){lab:Sd->Nat}(inv:∀x∈BL L,lab (rnx L q x)=lab x)(h1:∀i,i<L'.length->∀b,lab (e i+1,b)=lab (e (i+1),b))(hx:x∈BL L')(n1:x≠(L'.length,true))(n2:x≠(0,false)):
  lab (e (rnx L' q x).1,(rnx L' q x).2)=lab (e x.1,x.2):=by
 obtain⟨g,b⟩:=x;have hx:=AU.1 hx;have ix:∀{w:Int},w∈L'->L.idxOf (-w)=e (L'.idxOf (-w))/\L'.idxOf (-w)<L'.length:=λhw=>⟨CP o.nd (he _ _ (Pv (o'.neg _ hw))),A1M (o'.neg _ hw)⟩
 have le:∀{i:Nat}{w:Int},L[i]?=some w->i<L.length:=λh=>(fR.1 h).1
 cases b with
 |true=>
  have hg:g<L'.length:=Nat.lt_of_le_of_ne (A14 hx) λe=>n1 (zr e rfl)
  have h:=TW hg;generalize L'[g]=w at h;have hw:=A0C h;have h':=he _ _ h;obtain⟨i1,i2⟩:=ix hw;refine zr (inv (e g,true) (AU.2 (lt_succ_of_lt (le h')))).symm (zr (Fd h) (zr (Fd h') (zr i1 ?_)));split
  ·exact(h1 g hg true).symm
  ·split
   ·exact(h1 _ i2 true).symm
   ·rfl
 |false=>
  cases g with
  |zero=>exact absurd rfl n2
  |succ g=>
   have hg:=A1H hx;have h:=TW hg;generalize L'[g]=w at h;have hw:=A0C h;have h':=he _ _ h;obtain⟨i1,i2⟩:=ix hw;show _=lab (e (g+1),false);refine zr (h1 g hg _).symm (zr (inv (e g+1,false) (AU.2 (succ_lt_succ (le h')))).symm (zr (FC h) (zr (FC h') (zr i1 ?_))));split
   ·rfl
   ·split
    ·rfl
    ·exact(h1 _ i2 true).symm
theorem emb(o:Row L q)(o':Row L' q){e:Nat->Nat}(he:∀i w,L'[i]?=some w->L[e i]?=some w){lab:Sd->Nat}(inv:∀x∈BL L,lab (rnx L q x)=lab x)(h1:∀i,i<L'.length->∀b,lab (e i+1,b)=lab (e (i+1),b))(h2:lab (e L'.length,true)=lab (e L'.length,false))(h3:lab (e 0,false)=lab (e 0,true)):
  ∀x∈BL L',lab (e (rnx L' q x).1,(rnx L' q x).2)=lab (e x.1,x.2):=by
 intro x hx;by_cases n1:x=(L'.length,true)
 ·subst n1;refine zr (D5 (List.getElem?_eq_none (A0I _))) ?_;exact h2.symm
 ·by_cases n2:x=(0,false)
  ·subst n2;exact h3.symm
  ·exact yE o o' he inv h1 hx n1 n2
end
noncomputable def gp(p g:Nat):Nat:=if g<p then g else g+1
theorem JS(h:g<p):gp p g=g:=XL h
theorem Gg(h:¬g<p):gp p g=g+1:=Yf h
theorem UP(i:Nat)(w:Int)(h:(A++B)[i]?=some w):(A++z::B++E)[gp A.length i]?=some w:=by
 have hl:=(fR.1 h).1;rw[CZ] at hl;by_cases hp:i<A.length
 ·rw[JS hp,on,A0b hp]
  rwa [A0b hp] at h
 ·rw[Gg hp,on,A0F (by exact xp4 hp),show i+1-A.length=(i-A.length)+1 by exact xp9 hp,cons_append,getElem?_cons_succ,A0b (by exact qw hl hp)]
  rwa [A0F (by exact u4 hp)] at h
theorem KC(o:Row (A++z::B++E) q)(o':Row (A++B) q){lab:Sd->Nat}(inv:∀x∈BL (A++z::B++E),lab (rnx (A++z::B++E) q x)=lab x)
  (h1:∀b,lab (A.length,b)=lab (A.length+1,b)) (h2:lab ((A++B).length+1,true)=lab ((A++B).length+1,false)) (h3:∀g,(A++B).length+1<g->(g<=(A++z::B++E).length)->∀b,∃y:Sd,y.1<=(A++B).length+1/\lab y=lab (g,b)):
  (∀x∈BL (A++B),lab (gp A.length (rnx (A++B) q x).1,(rnx (A++B) q x).2)=lab (gp A.length x.1,x.2))/\∀y∈BL (A++z::B++E),∃x∈BL (A++B),lab (gp A.length x.1,x.2)=lab y:=by
 have hl:(A++B).length=A.length+B.length:=CZ;constructor
 ·refine emb o o' UP inv (λi hi b=>?_) ?_ ?_
  ·by_cases hp:i+1<A.length
   ·exact zr (JS hp) (zr (JS (dl hp)) rfl)
   ·by_cases hq:i+1=A.length
    ·exact zr (JS (by exact xp8 hq)) (zr (Gg (by exact gS hp)) (zr hq (h1 b)))
    ·exact zr (Gg (qr hp hq)) (zr (Gg (gS hp)) rfl)
  ·exact zr (Gg (qp hl)) h2
  ·have h0:=inv (0,false) (AU.2 (succ_pos _));by_cases hp:0<A.length
   ·exact zr (JS hp) h0.symm
   ·refine zr (Gg hp) ?_;have hA:A.length=0:=qk hp;rw[hA] at h1;exact(h1 false).symm.trans (h0.symm.trans (h1 true))
 ·have low:∀y:Sd,y.1<=(A++B).length+1->∃x∈BL (A++B),lab (gp A.length x.1,x.2)=lab y:=by
   rintro⟨g,b⟩ hg;have hg:g<=(A++B).length+1:=hg;by_cases hp:g<A.length
   ·exact⟨(g,b),AU.2 (by show g<_;exact qh hl hp),by show lab (gp A.length g,b)=_;exact zr (JS hp) rfl⟩
   ·by_cases hq:g=A.length
    ·exact⟨(g,b),AU.2 (by show g<_;exact qe hl hq),by show lab (gp A.length g,b)=_;refine zr (Gg hp) (zr hq ?_);exact(h1 b).symm⟩
    ·refine⟨(g-1,b),AU.2 (by show g-1<_;exact qX hg),?_⟩;show lab (gp A.length (g-1),b)=_;exact zr (Gg (qV hp hq)) (zr (show g-1+1=g by exact qS hp hq) rfl)
  rintro⟨g,b⟩ hy;by_cases hg:g<=(A++B).length+1
  ·exact low (g,b) hg
  ·refine AE (h3 g (qR hg) (A14 (AU.1 hy)) b) λy h4 h5=>?_
   refine AE (low y h4) λx hx e=>?_
   exact⟨x,hx,e.trans h5⟩
theorem Row.less(o:Row (A++z::B++E) q)(hE:∀v∈E,-v=z)(hz:-z∈z::E):Row (A++B) q:=by
 have sub:∀v∈A++B,v∈A++z::B++E:=λv hv=>(XP.1 hv).elim (λh=>A0J _ (A0J _ h)) λh=>A0J _ (nf _ (kV _ h))
 have hn:=A0S.1 o.nd;have WB:=A0S.1 hn.1;have Z6:=A1C.1 WB.2.1;have nz:∀v∈A++B,v≠z:=λv hv e=>(XP.1 hv).elim (λh=>WB.2.2 v h z d4 e) λh=>Z6.1 (e▸h)
 have nE:∀v∈A++B,v∉E:=λv hv h=>(XP.1 hv).elim (λh'=>hn.2.2 v (A0J _ h') v h rfl) λh'=>hn.2.2 v (nf _ (kV _ h')) v h rfl
 refine⟨A0S.2 ⟨WB.1,Z6.2,λa ha b hb=>WB.2.2 a ha b (kV _ hb)⟩,λv hv=>?_,λv hv=>o.q1 v (sub v hv),λv hv=>o.qn v (sub v hv)⟩;have h:=o.neg v (sub v hv);have hnz:-v≠z:=λe=>by
  have:v=-z:=qx e;rcases A0E.1 hz with h' | h'
  ·exact nz v hv (this.trans h')
  ·exact nE v hv (this▸h')
 have hnE:-v∉E:=λh'=>nz v hv (by exact qu (hE _ h'))
 rcases XP.1 h with h|h
 ·rcases XP.1 h with h|h
  ·exact A0J _ h
  ·exact nf _ ((A0E.1 h).resolve_left hnz)
 ·exact absurd h hnE
theorem YN(hv:v≠0)(o:Row (A++-v::B++[v]) q)(o':Row (A++B) q)(h:Fc (A++-v::B++[v]) q c)(h':Fc (A++B) q c'):c<=c'+1:=by
 have hl:(A++B).length=A.length+B.length:=CZ;have hL:(A++-v::B++[v]).length=A.length+B.length+2:=by simp;exact xp6
 have a1:(A++-v::B++[v])[A.length]?=some (-v):=by rw[on,A0F (A0I _),A1w];rfl
 have a2:(A++-v::B++[v])[A.length+B.length+1]?=some v:=by
  refine zr (A0F (by simp;exact qv)) (zr (show A.length+B.length+1-(A++-v::B).length=0 by simp;exact qm) ?_);rfl
 have a3:(A++-v::B++[v])[A.length+B.length+2]?=none:=List.getElem?_eq_none (qi hL);have i1:=CP o.nd a1;have i2:=CP o.nd a2;have Z3:-v≠0:=λe=>hv (Int.neg_eq_zero.1 e)
 have qn:=o.qn v (A0C a2) hv;have nn:- -v=v:=A1U v;have m:∀{g:Nat}{b:Bool},g<=A.length+B.length+2->(g,b)∈BL (A++-v::B++[v]):=λh=>AU.2 (by show _<_;exact qZ hL h)
 rcases o.q1 v (A0C a2) hv with e|e
 ·rw[e] at qn;refine(IC o o' h h' (A.length,true) (A.length+1,true) (m WN) (λx=>(gp A.length x.1,x.2)) λlab inv Ve=>?_).1;have t1:=inv (A.length+1,false) (m gF);have t2:=inv (A.length+B.length+2,true) (m WM);have t3:=inv (A.length+B.length+2,false) (m WM);have t4:=inv (A.length+B.length+1,true) (m gE);have t5:=inv (A.length,true) (m WN);rw[FC a1,Yf Z3,qn,Yf (by decide),nn,i2] at t1;rw[D5 a3] at t2;rw[FC a2,Yf hv,e,XL rfl,i1] at t3;rw[Fd a2,Yf hv,e,XL rfl,i1] at t4;rw[Fd a1,Yf Z3,qn,Yf (by decide),nn,i2] at t5;have u:lab (A.length,false)=lab (A.length+1,false):=t3.trans (t2.trans t1);refine KC o o' inv (λb=>by cases b;exact u;exact Ve) ?_ λg h1 h2 b=>?_
  ·exact zr hl (t4.symm.trans (Ve.symm.trans t5.symm))
  ·have:g=A.length+B.length+2:=gD hl hL h1 h2;subst this;refine⟨(A.length,false),by show A.length<=_;exact qQ hl,?_⟩;cases b;exact t3;exact t3.trans t2
 ·rw[e] at qn;have qn:q (-v)=1:=qn;refine(IC o o' h h' (A.length,false) (A.length+1,false) (m WN) (λx=>(gp A.length x.1,x.2)) λlab inv Ve=>?_).1;have t1:=inv (A.length,true) (m WN);have t2:=inv (A.length+B.length+2,true) (m WM);have t3:=inv (A.length+B.length+2,false) (m WM);have t4:=inv (A.length+B.length+1,true) (m gE);have t5:=inv (A.length+1,false) (m gF);rw[Fd a1,Yf Z3,qn,XL rfl,nn,i2] at t1;rw[D5 a3] at t2;rw[FC a2,Yf hv,e,Yf (by decide),i1] at t3;rw[Fd a2,Yf hv,e,Yf (by decide),i1] at t4;rw[FC a1,Yf Z3,qn,XL rfl,nn,i2] at t5;have u:lab (A.length,true)=lab (A.length+1,true):=t1.symm.trans (t2.symm.trans t3.symm);refine KC o o' inv (λb=>by cases b;exact Ve;exact u) ?_ λg h1 h2 b=>?_
  ·exact zr hl (t4.symm.trans (Ve.trans t5.symm))
  ·have:g=A.length+B.length+2:=gD hl hL h1 h2;subst this;refine⟨(A.length+1,true),by show A.length+1<=_;exact qP hl,?_⟩;cases b;exact t3;exact t3.trans t2
theorem XV{A:List Int}(o:Row (A++[0]) q)(o':Row A q)(h:Fc (A++[0]) q c)(h':Fc A q c'):c<=c':=by
 have e1:A++[0]=A++(0:Int)::[]++[]:=by simp
 have e2:A=A++[]:=by simp
 have a1:(A++[0])[A.length]?=some 0:=by simp
 have a2:(A++[0])[A.length+1]?=none:=by simp
 have m:∀{g:Nat}{b:Bool},g<=A.length+1->(g,b)∈BL (A++[0]):=λh=>AU.2 (by show _<_;simp;exact Yy h)
 have key:∀lab:Sd->Nat,(∀x∈BL (A++[0]),lab (rnx (A++[0]) q x)=lab x)->(∀x∈BL A,lab (gp A.length (rnx A q x).1,(rnx A q x).2)=lab (gp A.length x.1,x.2))/\∀y∈BL (A++[0]),∃x∈BL A,lab (gp A.length x.1,x.2)=lab y:=by
  intro lab inv;have t1:=inv (A.length,true) (m aS);have t2:=inv (A.length+1,false) (m gG);have t3:=inv (A.length+1,true) (m gG);rw[Fd a1,XL rfl] at t1;rw[FC a1,XL rfl] at t2;rw[D5 a2] at t3;have k:=KC (zr e1.symm o) (by refine zr e2.symm ?_;exact o') (zr e1.symm inv) (λb=>by cases b;exact t2;exact t1.symm) (zr e2.symm t3.symm) (λg h1 h2 b=>by simp at h1 h2;exact(qj h1 h2).elim);rw[<-e1,<-e2] at k;exact k
 exact(IC o o' h h' (A.length,true) (A.length,true) (m aS) (λx=>(gp A.length x.1,x.2)) λlab inv J=>key lab inv).2 (.refl _)
theorem UX:∀(n:Nat){L:List Int}{c:Nat},L.length<=n->Row L q->Fc L q c->2*c<=L.length+(if(0:Int)∈L then 1 else 2):=by
 intro n
 induction n with
 |zero=>
  intro L c hn o h;have:L=[]:=eq_nil_of_length_eq_zero (xp7 hn);subst this;obtain⟨rs,e,h1,h2,h3⟩:=h;have all:∀a b:Sd,a∈BL []->b∈BL []->Reach (rnx [] q) a b:=by
   rintro⟨g,b⟩ ⟨g',b'⟩ ha hb;have hg:=lt_one_iff.1 (AU.1 ha);have hg':=lt_one_iff.1 (AU.1 hb);subst hg;subst hg';cases b<;>cases b'<;>first|exact .refl _|exact(⟨1,rfl⟩:Reach (rnx [] q) (0,true) (0,false))|exact(⟨1,rfl⟩:Reach (rnx [] q) (0,false) (0,true))
  rcases rs with _|⟨a,_|⟨b,rs⟩⟩
  ·subst e;simp
  ·subst e;simp
  ·exact absurd (all a b (h1 a d4) (h1 b (kV _ d4))) ((pairwise_cons.1 h2).1 b d4)
 |succ n ih=>
  intro L c hn o h;rcases L.eq_nil_or_concat with e|⟨A,v,e⟩
  ·subst e;exact ih (A1x _) o h
  ·rw[concat_eq_append] at e;subst e;rw[CZ] at hn;by_cases hv:v=0
   ·subst hv;have o':Row A q:=by
     have:=Row.less (by simpa using o) (λJ h=>absurd h A0K) d4;simpa using this
    obtain⟨c',h'⟩:=ZV o';have h1:=XV o o' h h';have h2:=ih (le_of_succ_le_succ hn) o' h';have h3:(0:Int)∉A:=λh=>(A0S.1 o.nd).2.2 0 h 0 d4 rfl
    rw[Yf h3] at h2;exact zr (XL (nf _ d4)) (zr CZ (qq h1 h2 (rfl:([0]:List Int).length=1)))
   ·have hm:-v∈A:=by
     rcases XP.1 (o.neg v (nf _ d4)) with h|h
     ·exact h
     ·exact(qo hv (YP.1 h)).elim
    refine HU (List.append_of_mem hm) λA B Av=>?_;subst Av
    have o':=o.less (λw hw=>by exact zr (YP.1 hw) rfl) (zr (A1U _) (kV _ d4));obtain⟨c',h'⟩:=ZV o';have h1:=YN hv o o' h h';have hl:(A++-v::B).length=(A++B).length+1:=by simp;exact qt
    have h2:=ih (qg hn hl) o' h';have h3:((0:Int)∈A++-v::B++[v])↔(0:Int)∈A++B:=by
     simp only[List.mem_append,mem_cons,not_mem_nil,or_false];have:(0:Int)≠-v:=qf hv;have:(0:Int)≠v:=qY hv;simp[*]
    refine zr CZ ?_;simp only[h3];generalize (if(0:Int)∈A++B then 1 else 2)=k at h2 ⊢;exact qW h1 hl (rfl:([v]:List Int).length=1) h2
section
set_option backward.eqns.nonrecursive false
noncomputable def N9(P:Nat->Bool):Nat->Nat->Option Nat
 |0,_=>none
 |k+1,l=>if P l then some l else N9 P k (l+1)
theorem cV:N9 P 0 l=none:=rfl
theorem L5:N9 P (k+1) l=if P l then some l else N9 P k (l+1):=rfl
def Oc(P:Nat->Bool)(n l:Nat):Nat:=match N9 P (n-l) l with
 |some b=>b
 |none=>(N9 P n 0).getD 0
theorem IS(h:l<n)(hp:P l=true):Oc P n l=l:=by
 unfold Oc;refine zr (show n-l=(n-l-1)+1 by exact o11 h) ?_;simp[L5,hp]
theorem Mg(h:l<n)(hp:P l=false):Oc P n l=Oc P n (l+1):=by
 unfold Oc;refine zr (show n-l=(n-(l+1))+1 by exact xX h) ?_;simp[L5,hp]
theorem Mf:Oc P n n=Oc P n 0:=by
 unfold Oc;simp[cV];cases N9 P n 0<;>simp
theorem L3:∀{k l b:Nat},N9 P k l=some b->l<=b/\b<l+k/\P b=true:=by
 intro k;induction k with
 |zero=>exact λ{_}{_}h=>by simp[cV] at h
 |succ k ih=>
  intro l b h;by_cases hp:P l=true
  ·simp[L5,hp] at h;subst h;exact⟨by exact o10,by exact o13,hp⟩
  ·simp[L5,hp] at h;have:=ih h;exact⟨by exact o14 this.1,by exact o8 this.2.1,this.2.2⟩
theorem L4:∀{k l:Nat},N9 P k l=none->∀b,l<=b->b<l+k->P b=false:=by
 intro k;induction k with
 |zero=>exact λ{_}_ b h1 h2=>by exact(o9 h1 h2).elim
 |succ k ih=>
  intro l h b h1 h2;by_cases hp:P l=true
  ·simp[L5,hp] at h
  ·simp[L5,hp] at h;by_cases e:b=l
   ·subst e;simpa using hp
   ·exact ih h b (o16 h1 e) (o17 h2)
theorem VB(he:∃k,k<n/\P k=true)(h:l<=n):Oc P n l<n/\P (Oc P n l)=true:=by
 unfold Oc;cases e:N9 P (n-l) l with
 |some b=>have:=L3 e;exact⟨by simp;exact o15 h this.2.1,this.2.2⟩
 |none=>
  cases e2:N9 P n 0 with
  |some b=>have:=L3 e2;exact⟨by simp;exact o18 this.2.1,this.2.2⟩
  |none=>
   refine AE he λk hk hp=>?_
   have:=L4 e2 k o19 (o20 hk);rw[this] at hp;cases hp
theorem Pb{α:Type}{rel:α->α->Prop}(rf:∀x,rel x x)(tr:∀{x y z},rel x y->rel y z->rel x z){h:Nat->α}:∀{k l:Nat},(∀i,l<=i->i<l+k->P i=false->rel (h i) (h (i+1))) ->
  match N9 P k l with
  |some b=>rel (h l) (h b)
  |none=>rel (h l) (h (l+k)):=by
 intro k;induction k with
 |zero=>exact λ{l}hs=>by simp[cV];exact rf _
 |succ k HN=>
  intro l hs;by_cases hp:P l=true
  ·simp[L5,hp];exact rf _
  ·have dn:P l=false:=by simpa using hp
   have ih:=HN (l:=l+1) (λi h1 h2=>hs i (o14 h1) (o8 h2));have h0:=hs l o10 o13 dn;simp only[L5,dn,Bool.false_eq_true,if_false];cases e:N9 P k (l+1) with
   |some b=>rw[e] at ih;exact tr h0 ih
   |none=>rw[e] at ih;have:=tr h0 ih;rw[show l+1+k=l+(k+1) by exact o22] at this;exact this
theorem YE{α:Type}{rel:α->α->Prop}(rf:∀x,rel x x)(tr:∀{x y z},rel x y->rel y z->rel x z)(he:∃k,k<n/\P k=true){h:Nat->α}(hs:∀i,i<n->P i=false->rel (h i) (h (i+1)))(hw:rel (h n) (h 0))(hl:l<=n):rel (h l) (h (Oc P n l)):=by
 have a:=Pb rf tr (k:=n-l) (l:=l) (h:=h) (λi h1 h2=>hs i (o15 hl h2));have b:=Pb rf tr (λi h1 h2=>hs i (o18 h2));unfold Oc;cases e:N9 P (n-l) l with
 |some b=>rw[e] at a;exact a
 |none=>
  rw[e] at a;rw[show l+(n-l)=n by exact o21 hl] at a;cases e2:N9 P n 0 with
  |some c=>rw[e2] at b;exact tr (tr a hw) b
  |none=>
   refine AE he λk hk hp=>?_
   have:=L4 e2 k o19 (o20 hk);rw[this] at hp;cases hp
noncomputable def col(w:List Nat)(l:Nat):Nat:=w.getD l 0
def NZ(s:Nat)(w:List Nat)(r l:Nat):Nat:=if r=0 then w.length else if r=s then w.length+1 else Oc (λk=>col w k+1==r) w.length l
def nt(w:List Nat)(p l:Nat):Nat:=Oc (λk=>col w k==p||col w k+1==p) w.length l
noncomputable def np(w:List Nat)(p l:Nat):Nat×Bool:=(nt w p l,col w (nt w p l)==p)
noncomputable def pA(w:List Nat)(x:Nat×Bool):Nat:=col w x.1+(if x.2 then 1 else 0)
noncomputable def pB(w:List Nat)(x:Nat×Bool):Nat:=col w x.1+(if x.2 then 0 else 1)
structure Bh(s:Nat)(w:List Nat)(R:List (Nat×Bool)):Prop where
 hs:2<=s
 hw:∀l,l<w.length->col w l+1<s
 hc:∀c,c+1<s->∃l,l<w.length/\col w l=c
 nd:R.Nodup
 mem:∀l b,(l,b)∈R↔l<w.length
 suc:∀g x,R[g]?=some x->R[(g+1)%R.length]?=some (np w (pA w x) (x.1+1))
section
variable {s:Nat}{w:List Nat}{R:List (Nat×Bool)}{r p l:Nat}
theorem TK(o:Bh s w R)(h:l<w.length):NZ s w (col w l+1) l=l:=by
 unfold NZ;refine zr (Yf o23) (zr (Yf (o24 (o.hw l h))) ?_);exact IS h (by simp)
theorem Hb(h:l<w.length)(hn:col w l+1≠r):NZ s w r l=NZ s w r (l+1):=by
 unfold NZ;split;rfl;split;rfl;exact Mg h (by simpa using hn)
theorem TJ:NZ s w r w.length=NZ s w r 0:=by
 unfold NZ;split;rfl;split;rfl;exact Mf
theorem Y5(o:Bh s w R)(hp:p<s):∃k,k<w.length/\(col w k==p||col w k+1==p)=true:=by
 by_cases h:p+1<s
 ·refine AE (o.hc p h) λk hk e=>?_;exact⟨k,hk,by simp[e]⟩
 ·refine AE (o.hc (p-1) (o31 hp o.hs)) λk hk e=>?_;exact⟨k,hk,by simp;exact o39 e⟩
theorem Tc(o:Bh s w R)(hp:p<s)(hl:l<=w.length):col w (nt w p l)=p\/col w (nt w p l)+1=p:=by
 simpa [nt] using ((VB (Y5 o hp) hl).2)
theorem jg(o:Bh s w R)(hp:p<s)(hl:l<=w.length):pB w (np w p l)=p:=by
 unfold pB np;by_cases e:col w (nt w p l)=p
 ·simp[e]
 ·simp[e];exact o35 (Tc o hp hl) e
theorem bI(o:Bh s w R)(hp:p<s)(hl:l<=w.length)(hr:r=p\/r=p+1):NZ s w r l=NZ s w r (nt w p l):=by
 refine YE (λJ=>rfl) (λa b=>a.trans b) (Y5 o hp) ?_ TJ hl;intro i hi hP;simp at hP;exact Hb hi (o38 hr hP.1 hP.2)
theorem W9:np w p w.length=np w p 0:=by unfold np nt;exact zr Mf rfl
theorem XA(h:l<w.length)(h1:col w l≠p)(h2:col w l+1≠p):np w p l=np w p (l+1):=by
 unfold np nt;exact zr (Mg h (by simp[h1,h2])) rfl
theorem Ti(h:l<w.length):np w (col w l) l=(l,true):=by
 unfold np nt;refine zr (IS h (by simp)) ?_;simp
theorem XB(h:l<w.length):np w (col w l+1) l=(l,false):=by
 unfold np nt;refine zr (IS h (by simp)) ?_;simp
end
end
section
set_option backward.eqns.nonrecursive false
section
variable {R:List (Nat×Bool)}
theorem dL(h:x∈R):R[R.idxOf x]?=some x:=by
 have h2:=idxOf_lt_length_iff.2 h;rw[TW h2,getElem_idxOf]
end
section
variable {s:Nat}{w:List Nat}{R:List (Nat×Bool)}
structure Code(n:Nat)(R:List (Nat×Bool)):Prop where
 nd:R.Nodup
 mem:∀l b,(l,b)∈R↔l<n
theorem Bh.code(o:Bh s w R):Code w.length R:=⟨o.nd,o.mem⟩
theorem Code.lt(o:Code n R)(h:R[g]?=some (l,b)):l<n/\g<R.length:=
 ⟨(o.mem l b).1 (A0C h),(fR.1 h).1⟩
theorem Code.at(o:Code n R)(h:l<n)(b:Bool):R[R.idxOf (l,b)]?=some (l,b):=dL ((o.mem l b).2 h)
theorem Code.fy(o:Code n R)(h:l<n)(b:Bool):R.idxOf (l,b)<R.length:=idxOf_lt_length_iff.2 ((o.mem l b).2 h)
theorem Bh.lt(o:Bh s w R)(h:R[g]?=some (l,b)):l<w.length/\g<R.length:=o.code.lt h
theorem Bh.at(o:Bh s w R)(h:l<w.length)(b:Bool):R[R.idxOf (l,b)]?=some (l,b):=o.code.at h b
theorem Bh.fy(o:Bh s w R)(h:l<w.length)(b:Bool):R.idxOf (l,b)<R.length:=o.code.fy h b
def cl(s:Nat)(w:List Nat)(R:List (Nat×Bool))(x:Nat×Bool):Nat:=
 let y:=(R[if x.1<R.length then x.1 else 0]?).getD (0,true)
 NZ s w (pB w y+(if x.2 then 1 else 0)) y.1
theorem Gl(e:R[g]?=some (l,c)):cl s w R (g,b)=NZ s w (pB w (l,c)+(if b then 1 else 0)) l:=by
 have:=(fR.1 e).1;simp only[cl,this,if_true,e,Option.getD_some]
theorem U9(e:R.length<=g):cl s w R (g,b)=cl s w R (0,b):=by
 have:¬g<R.length:=o43 e;simp[cl,this]
theorem jh(o:Bh s w R)(h:l<w.length)(b:Bool):pA w (l,b)<s:=by
 have:=o.hw l h;unfold pA;simp;split<;>(first|exact uu this|exact o45 this)
theorem F0(o:Bh s w R)(e:R[g]?=some (l,c)):cl s w R (g+1,b)=NZ s w (pA w (l,c)+(if b then 1 else 0)) (l+1):=by
 have h1:=o.lt e;have h2:=o.suc g _ e;have h3:=jh o h1.1 c;have h4:l+1<=w.length:=h1.1;have h5:cl s w R (g+1,b)=cl s w R ((g+1)%R.length,b):=by
  by_cases h:g+1<R.length
  ·exact zr (mod_eq_of_lt h) rfl
  ·have:g+1=R.length:=o51 h1.2 h;rw[this,mod_self];exact U9 (A0I _)
 refine zr h5 ?_;have h6:np w (pA w (l,c)) (l+1)=(nt w (pA w (l,c)) (l+1),col w (nt w (pA w (l,c)) (l+1))==pA w (l,c)):=rfl;simp only at h2;rw[h6] at h2;refine zr (Gl h2) (zr h6.symm (zr (jg o h3 h4) ?_));exact(bI o h3 h4 (by cases b<;>simp)).symm
theorem lI(o:Bh s w R)(e:R[g]?=some (l,c)):cl s w R (g,true)=if c then cl s w R (R.idxOf (l,!c),false) else cl s w R (R.idxOf (l,!c)+1,true):=by
 cases c with
 |true=>refine zr (XL rfl) (zr (Gl e) (zr (Gl (o.at (o.lt e).1 _)) ?_));simp[pB]
 |false=>
  refine zr (Yf A0O) (zr (Gl e) (zr (F0 o (o.at (o.lt e).1 _)) ?_));simp[pB,pA];exact Hb (o.lt e).1 o50
theorem lJ(o:Bh s w R)(e:R[g]?=some (l,c)):cl s w R (g+1,false)=if c then cl s w R (R.idxOf (l,!c)+1,true) else cl s w R (R.idxOf (l,!c),false):=by
 cases c with
 |true=>refine zr (XL rfl) (zr (F0 o e) (zr (F0 o (o.at (o.lt e).1 _)) ?_));simp[pA]
 |false=>
  refine zr (Yf A0O) (zr (F0 o e) (zr (Gl (o.at (o.lt e).1 _)) ?_));simp[pA,pB];exact(Hb (o.lt e).1 o61).symm
theorem Bh.pos(o:Bh s w R):0<R.length:=by
 obtain⟨l,hl,-⟩:=o.hc 0 (o48 o.hs);exact length_pos_of_mem ((o.mem l true).2 hl)
theorem Bh.head(o:Bh s w R):∃l b,R[0]?=some (l,b):=⟨R[0]'o.pos |>.1,R[0]'o.pos |>.2,by exact zr (TW o.pos) rfl⟩
noncomputable def E1(s:Nat)(w:List Nat)(R:List (Nat×Bool))(x:Nat×Bool):Nat:=
 if cl s w R x=cl s w R (0,false) then cl s w R (0,true) else cl s w R x
theorem PR:E1 s w R (0,false)=E1 s w R (0,true):=by
 unfold E1;refine zr (XL rfl) ?_;split<;>rfl
theorem PQ(e:R.length<=g):E1 s w R (g,b)=E1 s w R (0,b):=by unfold E1;exact zr (U9 e) rfl
theorem cG(o:Bh s w R)(e:R[g]?=some (l,c)):E1 s w R (g,true)=if c then E1 s w R (R.idxOf (l,!c),false) else E1 s w R (R.idxOf (l,!c)+1,true):=by
 unfold E1;refine zr (lI o e) ?_;cases c<;>rfl
theorem cH(o:Bh s w R)(e:R[g]?=some (l,c)):E1 s w R (g+1,false)=if c then E1 s w R (R.idxOf (l,!c)+1,true) else E1 s w R (R.idxOf (l,!c),false):=by
 unfold E1;refine zr (lJ o e) ?_;cases c<;>rfl
theorem Xd(o:Bh s w R)(h1:v<w.length+2)(h2:v≠cl s w R (0,false)):∃x:Nat×Bool,x.1<R.length/\E1 s w R x=v:=by
 have:∃x:Nat×Bool,x.1<R.length/\cl s w R x=v:=by
  have hs:=o.hs;by_cases a:v<w.length
  ·refine⟨(R.idxOf (v,true),true),o.fy a true,?_⟩;refine zr (Gl (o.at a true)) ?_;simp[pB];exact TK o a
  ·by_cases b:v=w.length
   ·refine AE (o.hc 0 (o48 hs)) λl hl e=>?_
    refine⟨(R.idxOf (l,true),false),o.fy hl true,?_⟩;refine zr (Gl (o.at hl true)) ?_;simp[pB,e,NZ,b]
   ·refine AE (o.hc (s-2) (o72 hs)) λl hl e=>?_
    refine⟨(R.idxOf (l,false),true),o.fy hl false,?_⟩;refine zr (Gl (o.at hl false)) ?_;simp[pB,e];refine zr (show s-2+1+1=s by exact o77 hs) ?_;unfold NZ;exact zr (Yf (o79 hs)) (zr (XL rfl) (xp1 h1 a b))
 refine AE this λx hx e=>?_
 refine⟨x,hx,?_⟩;unfold E1;exact zr (Yf (by refine zr e ?_;exact h2)) (zr e rfl)
theorem MY(o:Code m R):R.length=2*m:=by
 let A:List (Nat×Bool):=(List.range m).flatMap λl=>[(l,true),(l,false)]
 have hA:∀x,x∈A↔x.1<m:=by
  rintro⟨l,b⟩;simp[A];constructor
  ·rintro⟨a,h,⟨rfl,_⟩|⟨rfl,_⟩⟩<;>exact h
  ·intro h;exact⟨l,h,by cases b<;>simp⟩
 have hl:∀n,((List.range n).flatMap λl=>[((l:Nat),true),(l,false)]).length=2*n:=by
  intro n;induction n with
  |zero=>rfl
  |succ n ih=>refine zr List.range_succ (zr List.flatMap_append (zr CZ (zr ih ?_)));simp;exact o71
 have hn:∀n,((List.range n).flatMap λl=>[((l:Nat),true),(l,false)]).Nodup:=by
  intro n;induction n with
  |zero=>simp
  |succ n ih=>
   rw[List.range_succ,List.flatMap_append,A0S];refine⟨ih,by simp,?_⟩;intro a ha b hb e;subst e;simp at ha hb;refine AE ha λk hk h=>?_
   rcases hb with rfl|rfl<;>simp at h<;>exact o74 hk h
 have h2:=BA (hn m) (λx hx=>(o.mem x.1 x.2).2 ((hA x).1 hx));rw[hl] at h2;exact o76 (BA o.nd (λx hx=>(hA x).2 ((o.mem x.1 x.2).1 hx))) h2 (hl _:A.length=2*m)
theorem TG(o:Bh s w R):R.length=2*w.length:=MY o.code
end
end
section
variable {s:Nat}{w:List Nat}{R:List (Nat×Bool)}
theorem O3{α:Type}(R:List α)(k g:Nat)(hk:k<=R.length)(hg:g<R.length):(R.drop k++R.take k)[g]?=R[(g+k)%R.length]?:=by
 by_cases h:g<R.length-k
 ·rw[A0b (by simp;exact o81 h),getElem?_drop,mod_eq_of_lt (by exact o82 h),Nat.add_comm]
 ·refine zr (A0F (by simp;exact o83 h)) (zr A0n (zr getElem?_take (zr (XL (o87 hg h)) ?_)))
  congr 1
  exact zr (mod_eq_sub_mod (o83 h)) (zr (mod_eq_of_lt (show g+k-R.length<R.length from o92 hk hg)) (xk hk))
theorem Bh.rot(o:Bh s w R)(k:Nat)(hk:k<=R.length):Bh s w (R.drop k++R.take k) where
 hs:=o.hs
 hw:=o.hw
 hc:=o.hc
 nd:=by
  have:=o.nd;rw[<-A1O k R,A0S] at this;rw[A0S];exact⟨this.2.1,this.1,λa ha b hb e=>this.2.2 b hb a ha e.symm⟩
 mem:=λl b=>by
  rw[<-o.mem l b];have:(l,b)∈R↔(l,b)∈R.take k++R.drop k:=by rw[A1O]
  rw[this,XP,XP,Or.comm]
 suc:=λg x e=>by
  have hm:(R.drop k++R.take k).length=R.length:=by simp;exact o84
  have hg:g<R.length:=by refine zr hm.symm ?_;exact(fR.1 e).1
  refine zr hm (zr (O3 R k _ hk (mod_lt _ o.pos)) ?_);rw[O3 R k g hk hg] at e;refine zr (o.suc _ _ e).symm ?_
  congr 1
  rw[mod_add_mod,mod_add_mod];congr 1;exact o1
end
noncomputable def Gd(i p:Nat):Nat:=if p=i then i+1 else if p=i+1 then i else p
def fin:List Nat->Nat->Nat
 |[],p=>p
 |i::v,p=>fin v (Gd i p)
theorem OC:fin [] p=p:=rfl
theorem cX:fin (i::v) p=fin v (Gd i p):=rfl
def M1:List Nat->Nat->Nat->List (Nat×Bool)
 |[],_,_=>[]
 |i::v,l,p=>(if p=i then[(l,true)] else if p=i+1 then[(l,false)] else[])++M1 v (l+1) (Gd i p)
theorem Se:M1 [] l p=[]:=rfl
theorem WV:M1 (i::v) l p=(if p=i then[(l,true)] else if p=i+1 then[(l,false)] else[])++M1 v (l+1) (Gd i p):=rfl
def Ia(w:List Nat):Nat->Nat->List (Nat×Bool)
 |0,_=>[]
 |t+1,p=>M1 w 0 p++Ia w t (fin w p)
theorem Wu{w:List Nat}:Ia w 0 p=[]:=rfl
theorem bH{w:List Nat}:Ia w (t+1) p=M1 w 0 p++Ia w t (fin w p):=rfl
theorem Wc(h:Gd i p=Gd i q):p=q:=by
 unfold Gd at h;split at h<;>split at h<;>(try split at h)<;>(try split at h)<;>(first|exact o90 (by assumption) (by assumption)|exact o91 h|exact o93 (by assumption) h|exact o94 h|exact o97 (by assumption) (by assumption)|exact xm (by assumption) h|exact xl (by assumption) h|exact xi (by assumption) h|exact bg h)
theorem Pc:∀{v:List Nat}{p q:Nat},fin v p=fin v q->p=q:=by
 intro v;induction v with
 |nil=>exact λ{_}{_}h=>h
 |cons _ v ih=>exact λ{_}{_}h=>Wc (ih h)
theorem av(hi:i+1<s)(hp:p<s):Gd i p<s:=by
 unfold Gd;split;exact uu hi;split<;>(first|exact dl hi|exact ur hp)
theorem OB:∀{v:List Nat}{p:Nat},(∀i∈v,i+1<s)->p<s->fin v p<s:=by
 intro v;induction v with
 |nil=>exact λ{_}_ h=>h
 |cons i v ih=>exact λ{_}hi h=>ih (λj hj=>hi j (by simp[hj])) (av (hi i (by simp)) h)
def Ch(w:List Nat):Nat->Nat->List (Nat×Bool)->Nat->Prop
 |p,l,[],q=>np w p l=np w q 0
 |p,l,x::L,q=>x=np w p l/\Ch w (pA w x) (x.1+1) L q
theorem ChN{w:List Nat}:Ch w p l [] q=(np w p l=np w q 0):=rfl
theorem Ch.congr{w:List Nat}(e:np w p l=np w p' l')(h:Ch w p l L q):Ch w p' l' L q:=by
 cases L with
 |nil=>exact e.symm.trans h
 |cons x L=>exact⟨h.1.trans e,h.2⟩
theorem Ch.append{w:List Nat}(h':Ch w q 0 L' q'):∀{L:List (Nat×Bool)}{p l:Nat},Ch w p l L q->Ch w p l (L++L') q':=by
 intro L;induction L with
 |nil=>exact λ{_}{_}h=>Ch.congr h.symm h'
 |cons _ _ ih=>exact λ{_}{_}h=>⟨h.1,ih h.2⟩
theorem dC{w:List Nat}:∀(k:Nat){l p:Nat},w.length=l+k->Ch w p l (M1 (w.drop l) l p) (fin (w.drop l) p):=by
 intro k;induction k with
 |zero=>
  intro l p h;refine zr (drop_eq_nil_of_le (o86 h)) ?_;simp only[Se,OC,ChN];exact zr (show l=w.length by exact o96 h) W9
 |succ k HN=>
  intro l p h;have hl:l<w.length:=o98 h;have hd:w.drop l=col w l::w.drop (l+1):=by
   refine zr (drop_eq_getElem_cons hl) ?_;simp[col,List.getD,hl]
  refine zr hd ?_;simp only[WV,cX];have ih:=HN (p:=Gd (col w l) p) (kR h);by_cases h1:p=col w l
  ·refine zr (XL h1) ?_;subst h1;refine⟨(Ti hl).symm,?_⟩;have:Gd (col w l) (col w l)=pA w (l,true):=by simp[Gd,pA]
   rw[this] at ih ⊢;exact ih
  ·refine zr (Yf h1) ?_;by_cases h2:p=col w l+1
   ·refine zr (XL h2) ?_;subst h2;refine⟨(XB hl).symm,?_⟩;have:Gd (col w l) (col w l+1)=pA w (l,false):=by simp[Gd,pA]
    rw[this] at ih ⊢;exact ih
   ·refine zr (Yf h2) ?_;have:Gd (col w l) p=p:=by simp[Gd,h1,h2]
    rw[this] at ih ⊢;exact Ch.congr (XA hl (xd h1) (xV h2)).symm ih
theorem JO{α:Type}(f:α->α)(k:Nat)(x:α):itr f (k+1) x=itr f k (f x):=by
 simpa [Nu,UL] using (HD f k 1 x)
theorem dD{w:List Nat}:∀(t:Nat){p:Nat},Ch w p 0 (Ia w t p) (itr (fin w) t p):=by
 intro t;induction t with
 |zero=>exact λ{_}=>rfl
 |succ t ih=>
  intro p;refine zr (JO _ _ _) ?_;have:=dC (w:=w) w.length (l:=0) (p:=p) o89;simp only[drop_zero] at this;exact(ih).append this
theorem Ch.next{w:List Nat}:∀{L:List (Nat×Bool)}{p l:Nat},Ch w p l L q->∀g x,L[g]?=some x->(∀y,L[g+1]?=some y->y=np w (pA w x) (x.1+1))/\(L[g+1]?=none->np w (pA w x) (x.1+1)=np w q 0):=by
 intro L;induction L with
 |nil=>exact λ{_}{_}_ g x e=>by simp at e
 |cons z L ih=>
  intro p l h g x e;cases g with
  |succ g=>simpa using ih h.2 g x (by simpa using e)
  |zero=>
   simp at e;subst e;cases L with
   |nil=>exact⟨by simp,λJ=>h.2⟩
   |cons y L=>refine⟨λy' e=>?_,by simp⟩;simp at e;subst e;exact h.2.1
theorem au{w:List Nat}(h:Ch w 0 0 R 0)(g:Nat)(x:Nat×Bool)(e:R[g]?=some x):R[(g+1)%R.length]?=some (np w (pA w x) (x.1+1)):=by
 have hg:=(fR.1 e).1;have hn:=h.next g x e;by_cases h1:g+1<R.length
 ·refine zr (mod_eq_of_lt h1) (zr (TW h1) ?_);exact zr (hn.1 _ (TW h1)) rfl
 ·rw[show g+1=R.length by exact o51 hg h1,mod_self];refine zr (hn.2 (by rw[A0l];exact o95 h1)) ?_;cases R with
  |nil=>simp at hg
  |cons y R=>simp;exact h.1
theorem En:∀{v:List Nat}{l0 p:Nat},(l,b)∈M1 v l0 p↔∃k,l=l0+k/\k<v.length/\fin (v.take k) p=v.getD k 0+(if b then 0 else 1):=by
 intro v;induction v with
 |nil=>exact λ{l0}{p}=>by simp[Se]
 |cons i v ih=>
  intro l0 p;simp only[WV,List.mem_append];rw[ih];constructor
  ·rintro(h|⟨k,h1,h2,h3⟩)
   ·refine⟨0,?_,by simp,?_⟩
    ·split at h;simp at h;exact o99 h.1;split at h<;>simp at h;exact o99 h.1
    ·split at h
     ·simp at h;simp[OC,h];assumption
     ·split at h<;>simp at h
      simp[OC,h];assumption
   ·exact⟨k+1,by exact kQ h1,by simp;exact ur h2,by simpa [OC,cX] using h3⟩
  ·rintro⟨k,h1,h2,h3⟩;cases k with
   |zero=>
    left
    simp[OC] at h3;cases b with
    |true=>simp at h3;simp[h3];exact kP h1
    |false=>simp at h3;refine zr (Yf (xW h3)) (zr (XL h3) ?_);simp;exact kP h1
   |succ k=>right;exact⟨k,by exact kR h1,by simpa using h2,by simpa [OC,cX] using h3⟩
theorem bn:∀{v:List Nat}{l0 p:Nat},(M1 v l0 p).Nodup:=by
 intro v;induction v with
 |nil=>exact λ{_}{_}=>by simp[Se]
 |cons i v ih=>
  intro l0 p;simp only[WV];rw[A0S];refine⟨by split;simp;split<;>simp,ih,?_⟩;rintro⟨a,b⟩ ha ⟨c,d⟩ hb e;obtain⟨k,h1,-⟩:=En.1 hb;have:a=l0:=by split at ha;simp at ha;exact bg ha.1;split at ha<;>simp at ha;exact bg ha.1
  simp at e;exact(xg h1 this e.1).elim
theorem J8{w:List Nat}:∀{t p:Nat},x∈Ia w t p↔∃k,k<t/\x∈M1 w 0 (itr (fin w) k p):=by
 intro t;induction t with
 |zero=>exact λ{_}=>by simp[Wu]
 |succ t ih=>
  intro p;simp only[bH,List.mem_append];rw[ih];constructor
  ·rintro(h|⟨k,h1,h2⟩)
   ·exact⟨0,by exact kS,h⟩
   ·exact⟨k+1,by exact W5 h1,by refine zr (JO _ _ _) ?_;exact h2⟩
  ·rintro⟨k,h1,h2⟩;cases k with
   |zero=>left;exact h2
   |succ k=>right;exact⟨k,by exact xj h1,by rw[JO] at h2;exact h2⟩
theorem bp{w:List Nat}:∀{t p:Nat},(∀i j,i<j->j<t->itr (fin w) i p≠itr (fin w) j p)->(Ia w t p).Nodup:=by
 intro t;induction t with
 |zero=>exact λ{_}_=>by simp[Wu]
 |succ t ih=>
  intro p h;simp only[bH];rw[A0S];refine⟨bn,ih (λi j h1 h2=>?_),?_⟩
  ·have:=h (i+1) (j+1) (W5 h1) (W5 h2);rw[JO,JO] at this;exact this
  ·rintro⟨l,b⟩ ha y hb rfl;refine AE (J8.1 hb) λk hk hb=>?_
   obtain⟨i,e1,-,e2⟩:=En.1 ha;obtain⟨j,e3,-,e4⟩:=En.1 hb;have:i=j:=xY e1 e3;subst this;refine h 0 (k+1) kS (W5 hk) ?_;exact zr (JO _ _ _) (Pc (e2.trans e4.symm))
theorem ky{A:List Nat}(nd:A.Nodup)(h:∀x∈A,x<s)(hl:A.length=s)(hp:p<s):p∈A:=by
 apply A1E;intro hn;have:=BA (A1C.2 ⟨hn,nd⟩) (λx hx=>by
  rcases A0E.1 hx with rfl|h'
  ·exact A0M.2 hp
  ·exact A0M.2 (h x h'))
 simp at this;exact(xh hl this).elim
theorem Xx:∀{v:List Nat}{p:Nat},c∉v->p<=c->fin v p<=c:=by
 intro v;induction v with
 |nil=>exact λ{_}_ h=>h
 |cons i v ih=>
  intro p hv h;simp at hv;refine ih hv.2 ?_;unfold Gd;split;exact xe h hv.1 (by assumption);split<;>(first|exact xb h (by assumption)|exact ut h)
theorem Wq{s:Nat}{w:List Nat}(hs:2<=s)(hw:∀i∈w,i+1<s)(hd:((List.range s).map λk=>itr (fin w) k 0).Nodup)(h0:itr (fin w) s 0=0):Bh s w (Ia w s 0):=by
 have hlt:∀k,itr (fin w) k 0<s:=λk=>by
  induction k with
  |zero=>simp[Nu];exact bf hs
  |succ k ih=>exact OB hw ih
 have BG:∀i j,i<j->j<s->itr (fin w) i 0≠itr (fin w) j 0:=by
  intro i j h1 h2;rw[List.Nodup,pairwise_iff_getElem] at hd;have:=hd i j (by simp;exact xZ h1 h2) (by simp;exact ur h2) h1;simpa using this
 have fS:∀l,l<w.length->col w l∈w:=λl hl=>by simp[col,List.getD,hl]
 refine⟨hs,λl hl=>hw _ (fS l hl),?_,bp BG,?_,au (by have:=dD (w:=w) s (p:=0);rw[h0] at this;exact this)⟩
 ·intro c hc;have:c∈w:=by
   apply A1E;intro hn;have hle:∀k,itr (fin w) k 0<=c:=λk=>by
    induction k with
    |zero=>simp[Nu]
    |succ k ih=>exact Xx hn ih
   have:=ky hd (by simp;intro k _;exact hlt k) (by simp) hc;simp at this;obtain⟨k,-,e⟩:=this;have:=hle k;exact(xS e this).elim
  obtain⟨l,hl,e⟩:=List.getElem_of_mem this;exact⟨l,hl,by simp[col,List.getD,hl,e]⟩
 ·intro l b;rw[J8];constructor
  ·rintro⟨k,-,h⟩;obtain⟨i,e,h1,-⟩:=En.1 h;exact kN e h1
  ·intro hl;let A:=((List.range s).map λk=>itr (fin w) k 0).map (fin (w.take l));have hA:A.Nodup:=by
    rw[List.Nodup,pairwise_map];exact hd.imp λh e=>h (Pc e)
   have hA2:∀x∈A,x<s:=by
    intro x hx;simp[A] at hx;refine AE hx λk hk Av=>?_;subst Av
    exact OB (λi hi=>hw i (A1A hi)) (hlt k)
   have hp:col w l+(if b then 0 else 1)<s:=by
    have:=hw _ (fS l hl);split<;>(first|exact o45 this|exact uu this)
   have:=ky hA hA2 (by simp[A]) hp;simp[A] at this;refine AE this λk hk e=>?_
   exact⟨k,hk,En.2 ⟨l,by exact o89,hl,zr e rfl⟩⟩
noncomputable def sw(i:Nat)(at_:List Nat):List Nat:=at_.take i++[at_.getD (i+1) 0,at_.getD i 0]++at_.drop (i+2)
noncomputable def H9(s:Nat)(at_:List Nat):List Nat:=
 (List.range s).foldl (λhd pl=>hd.map λh=>if h=hd.getD (at_.getD pl 0) 0 then hd.getD pl 0 else h) (List.range s)
def RV(s:Nat):List Nat->List Nat->List Nat
 |[],_=>[]
 |k::ks,at_=>if(H9 s at_).getD k 0≠(H9 s at_).getD (k+1) 0 then k::RV s ks (sw k at_) else RV s ks at_
theorem lG:RV s [] a=[]:=rfl
theorem dB:RV s (k::ks) a=if(H9 s a).getD k 0≠(H9 s a).getD (k+1) 0 then k::RV s ks (sw k a) else RV s ks a:=rfl
noncomputable def swAll(at_:List Nat)(w:List Nat):List Nat:=w.foldl (λa i=>sw i a) at_
theorem NT(h:i+1<a.length):(sw i a).length=a.length:=by simp[sw];exact xT h
theorem aq(h:i+1<a.length):(sw i a)[Gd i p]?=a[p]?:=by
 unfold sw Gd;by_cases h1:p=i
 ·subst h1;simp;refine zr (A0F (by simp;exact xU)) ?_;simp[show min p a.length=p by exact kO h,List.getElem?_eq_getElem (show p<a.length by exact dl h)]
 ·refine zr (Yf h1) ?_;by_cases h2:p=i+1
  ·subst h2;simp;refine zr (A0F (by simp;exact bd)) ?_;simp[show min i a.length=i by exact kO h,List.getElem?_eq_getElem h]
  ·refine zr (Yf h2) ?_;by_cases h3:p<i
   ·exact zr (on _ _ _) (zr (A0b (by simp;exact xQ h h3)) (zr getElem?_take (zr (XL h3) rfl)))
   ·refine zr (A0F (by simp;exact xP h1 h2 h3)) (zr getElem?_drop ?_)
    congr 1;simp;exact xO h h1 h2 h3
theorem QQ:∀{w a:List Nat}{p:Nat},(∀i∈w,i+1<s)->a.length=s->(swAll a w)[fin w p]?=a[p]?:=by
 intro w;induction w with
 |nil=>exact λ{_}{_}_ _=>rfl
 |cons i w ih=>
  intro a p h hl;have hi:=h i (by simp);show(swAll (sw i a) w)[fin w (Gd i p)]?=_;refine zr (ih (p:=Gd i p) (λj hj=>h j (by simp[hj])) (zr (NT (W4 hl hi)) hl)) ?_;exact aq (W4 hl hi)
noncomputable def E0:Nat->List (List Nat)
 |1=>[[0]]
 |2=>[[0,1],[1,0]]
 |3=>[[0,1,2],[0,2,1],[1,0,2],[1,2,0],[2,0,1],[2,1,0]]
 |4=>[[0,1,2,3],[0,1,3,2],[0,2,1,3],[0,2,3,1],[0,3,1,2],[0,3,2,1],[1,0,2,3],[1,0,3,2],[1,2,0,3],[1,2,3,0],[1,3,0,2],[1,3,2,0],[2,0,1,3],[2,0,3,1],[2,1,0,3],[2,1,3,0],[2,3,0,1],[2,3,1,0],[3,0,1,2],[3,0,2,1],[3,1,0,2],[3,1,2,0],[3,2,0,1],[3,2,1,0]]
 |_=>[]
noncomputable def jV(s:Nat)(a:List Nat):Bool:=
 decide (((List.range s).map λk=>itr (λp=>a.idxOf p) k 0).Nodup)&&(itr (λp=>a.idxOf p) s 0==0)&&decide a.Nodup&&a.length==s
theorem TQ:∀s,s<5->∀a∈E0 s,∀i,i+1<s->sw i a∈E0 s:=by
 intro s hs a ha i hi;exact(by decide +kernel:∀s,s<5->∀a∈E0 s,∀i,i<4->i+1<s->sw i a∈E0 s) s hs a ha i (xM hs hi) hi
theorem Qf:∀s,s<5->∀a∈E0 s,jV s (swAll a (RV s (List.range (s-1)) a))=true:=by decide +kernel
theorem Ge:∀s,0<s->s<5->List.range s∈E0 s:=by
 exact λs h1 h2=>(by decide +kernel:∀s,s<5->0<s->List.range s∈E0 s) s h2 h1
theorem JJ(hs:s<5):∀{w a:List Nat},(∀i∈w,i+1<s)->a∈E0 s->swAll a w∈E0 s:=by
 intro w;induction w with
 |nil=>exact λ{_}_ h=>h
 |cons i w ih=>exact λ{a}hw h=>ih (λj hj=>hw j (by simp[hj])) (TQ s hs a h i (hw i (by simp)))
theorem d9:∀{ks a:List Nat},(∀k∈ks,k+1<s)->∀i∈RV s ks a,i+1<s:=by
 intro ks;induction ks with
 |nil=>exact λ{_}_ i h=>by simp[lG] at h
 |cons k ks ih=>
  intro a hk i h;simp only[dB] at h;split at h
  ·rcases A0E.1 h with rfl|h
   ·exact hk _ (by simp)
   ·exact ih (λj hj=>hk j (by simp[hj])) i h
  ·exact ih (λj hj=>hk j (by simp[hj])) i h
theorem MZ(h2:2<=s)(h5:s<5){w:List Nat}(hw:∀i∈w,i+1<s):
  Bh s (w++RV s (List.range (s-1)) (swAll (List.range s) w)) (Ia (w++RV s (List.range (s-1)) (swAll (List.range s) w)) s 0):=by
 have hc:=Qf s h5 _ (JJ h5 hw (Ge s (bf h2) h5));have hlt:=d9 (s:=s) (ks:=List.range (s-1)) (a:=swAll (List.range s) w) (by simp;intro k hk;exact xR hk);generalize RV s (List.range (s-1)) (swAll (List.range s) w)=c at *;have eP:∀i∈w++c,i+1<s:=by
  intro i hi;rcases XP.1 hi with h|h;exact hw i h;exact hlt i h
 have e:swAll (swAll (List.range s) w) c=swAll (List.range s) (w++c):=by simp[swAll]
 rw[e] at hc;simp[jV] at hc;obtain⟨⟨⟨h1,h0⟩,Yj⟩,hl⟩:=hc;have hf:∀p,p<s->fin (w++c) p=(swAll (List.range s) (w++c)).idxOf p:=by
  intro p hp;have:=QQ (w:=w++c) (a:=List.range s) (p:=p) eP (by simp);rw[List.getElem?_range hp] at this;obtain⟨hx,e⟩:=fR.1 this;have h:=Yj.idxOf_getElem _ hx;rw[e] at h;exact h.symm
 have F8:∀k,itr (fin (w++c)) k 0=itr (λp=>(swAll (List.range s) (w++c)).idxOf p) k 0/\itr (fin (w++c)) k 0<s:=by
  intro k
  induction k with
  |zero=>exact⟨rfl,by simp[Nu];exact bf h2⟩
  |succ k ih=>refine⟨?_,OB eP ih.2⟩;simp only[UL];exact zr (hf _ ih.2) (zr ih.1 rfl)
 refine Wq h2 eP ?_ ?_
 ·exact zr (List.map_congr_left λk J=>(F8 k).1:((List.range s).map λk=>itr (fin (w++c)) k 0)=(List.range s).map λk=>itr (λp=>(swAll (List.range s) (w++c)).idxOf p) k 0) h1
 ·exact zr ((F8 s).1) h0
noncomputable def rv(q:Nat->Nat)(sg:Nat->Int)(x:Nat×Bool):Int:=((q x.1:Int)+1)*(if x.2 then-sg x.1 else sg x.1)
def Sg(sg:Nat->Int):Prop:=∀l,sg l=1\/sg l=-1
noncomputable def absI(i:Int):Int:=if i<0 then -i else i
section
variable {q:Nat->Nat}{sg:Nat->Int}(CL:Sg sg){x y:Nat×Bool}
include CL
theorem DV:(rv q sg x=(q x.1:Int)+1/\(if x.2 then-sg x.1 else sg x.1)=1)\/(rv q sg x=-((q x.1:Int)+1)/\(if x.2 then-sg x.1 else sg x.1)=-1):=by
 unfold rv;have:(if x.2 then-sg x.1 else sg x.1)=1\/(if x.2 then-sg x.1 else sg x.1)=-1:=by
  rcases CL x.1 with h|h<;>cases x.2<;>simp[h]
 rcases this with h|h<;>refine zr h ?_
 ·exact .inl ⟨A1n _,rfl⟩
 ·exact .inr ⟨by rw[Int.mul_neg,A1n],rfl⟩
theorem FA:absI (rv q sg x)=(q x.1:Int)+1:=by
 unfold absI;rcases DV CL with⟨h,-⟩|⟨h,-⟩<;>refine zr h ?_<;>split<;>(first|exact xK (by assumption)|exact xJ|exact xG|exact xF (by assumption))
theorem TD:rv q sg x≠0:=by
 rcases DV CL with⟨h,-⟩|⟨h,-⟩<;>refine zr h ?_<;>(first|exact J1|exact xL)
omit CL in
theorem bC(l:Nat)(b:Bool):-(rv q sg (l,b))=rv q sg (l,!b):=by
 unfold rv;cases b<;>simp[Int.mul_neg]
theorem bD(h:rv q sg x=rv q sg y)(hq:q x.1=q y.1->x.1=y.1):x=y:=by
 have hy:=FA CL (q:=q) (x:=y);have hx:=FA CL (q:=q) (x:=x);rw[h,hy] at hx;have h1:=hq (xI hx);have h2:x.2=y.2:=by
  have a:=DV CL (q:=q) (x:=x);rw[h,h1] at a;have:(if x.2 then-sg y.1 else sg y.1)=(if y.2 then-sg y.1 else sg y.1):=xE a (DV CL (q:=q) (x:=y));rcases CL y.1 with e|e<;>rw[e] at this<;>cases hx2:x.2<;>cases hy2:y.2<;>simp[hx2,hy2] at this ⊢
 exact Prod.ext h1 h2
theorem Wm:(if rv q sg x<0 then-sg x.1 else sg x.1)=if x.2 then -1 else 1:=by
 rcases DV CL with⟨h,h2⟩|⟨h,h2⟩<;>refine zr h ?_
 ·refine zr (Yf kM) ?_;rcases CL x.1 with e|e<;>rw[e] at h2⊢<;> cases hx:x.2<;>simp[hx] at h2 ⊢
 ·refine zr (XL xH) ?_;rcases CL x.1 with e|e<;>rw[e] at h2⊢<;> cases hx:x.2<;>simp[hx] at h2 ⊢
end
noncomputable def Fh(o:List Nat)(R:List (Nat×Bool)):List Nat:=R.foldl (λo x=>if x.1∈o then o else o++[x.1]) o
def BC(R:List (Nat×Bool)):List Nat:=Fh [] R
theorem TX(o:List Nat)(R R':List (Nat×Bool)):Fh o (R++R')=Fh (Fh o R) R':=by simp[Fh]
theorem Tz:∀{R:List (Nat×Bool)}{o:List Nat},l∈Fh o R↔l∈o\/∃b,(l,b)∈R:=by
 intro R;induction R with
 |nil=>exact λ{o}=>by simp[Fh]
 |cons x R ih=>
  intro o;show l∈Fh (if x.1∈o then o else o++[x.1]) R↔_;rw[ih];constructor
  ·rintro(h|⟨b,h⟩)
   ·split at h
    ·exact .inl h
    ·simp at h;rcases h with h|h
     ·exact .inl h
     ·exact .inr ⟨x.2,by simp[h]⟩
   ·exact .inr ⟨b,by simp[h]⟩
  ·rintro(h|⟨b,h⟩)
   ·left;split<;>simp[h]
   ·simp at h;rcases h with h|h
    ·left;subst h;split<;>simp_all
    ·exact .inr ⟨b,h⟩
theorem XO:∀{R:List (Nat×Bool)}{o:List Nat},o.Nodup->(Fh o R).Nodup:=by
 intro R;induction R with
 |nil=>exact λ{_}h=>h
 |cons x R ih=>
  intro o h;show(Fh (if x.1∈o then o else o++[x.1]) R).Nodup;split
  ·exact ih h
  ·rename_i hn;refine ih ?_;rw[A0S];refine⟨h,by simp,?_⟩;intro a ha b hb;simp at hb;subst hb;rintro rfl;exact hn ha
theorem PF:(BC R).Nodup:=XO (by simp)
theorem BZ:l∈BC R↔∃b,(l,b)∈R:=by unfold BC;rw[Tz];simp
def qL(R:List (Nat×Bool))(l:Nat):Nat:=(BC R).idxOf l
theorem BU{o:List Nat}(h:l∈o):o.idxOf l<o.length:=idxOf_lt_length_iff.2 h
theorem TM{R:List (Nat×Bool)}(h:l∈BC R)(h':l'∈BC R)(e:qL R l=qL R l'):l=l':=by
 have a:(BC R)[qL R l]?=some l:=by unfold qL;refine zr (TW (BU h)) ?_;exact A0U some (getElem_idxOf _)
 have b:(BC R)[qL R l']?=some l':=by unfold qL;refine zr (TW (BU h')) ?_;exact A0U some (getElem_idxOf _)
 rw[e,b] at a;exact(Option.some.inj a).symm
noncomputable def Pl(R:List (Nat×Bool))(sg:Nat->Int):List Int:=R.map (rv (qL R) sg)
def Pj(R:List (Nat×Bool))(sg:Nat->Int):List Int:=(BC R).map sg
theorem N2{α:Type}[BEq α][LawfulBEq α]{f:α->Int}{x:α}:∀{R:List α},x∈R->(∀y∈R,f y=f x->y=x)->(R.map f++M).idxOf? (f x)=some (R.idxOf x):=by
 intro R;induction R with
 |nil=>exact λh _=>by simp at h
 |cons a R ih=>
  intro h hi;by_cases e:a=x
  ·subst e;simp[idxOf?_cons]
  ·have BG:f a≠f x:=λe'=>e (hi a (by simp) e')
   have:=ih (by simpa [show x≠a from λh=>e h.symm] using h:x∈R) (λy hy=>hi y (by simp[hy]));refine zr A0Z (zr cons_append (zr idxOf?_cons ?_));have e':(a==x)=false:=by simpa using e
   simp[BG,this,idxOf_cons,e']
noncomputable def B9(o:List Int)(i:Int):List Int:=if absI i∈o then o else o++[absI i]
noncomputable def G8(n:Nat):List Int:=(List.range n).map λ(k:Nat)=>(k:Int)+1
theorem PJ:i∈G8 n↔0<i/\i<=n:=by
 unfold G8;rw[Ya];constructor
 ·rintro⟨k,hk,rfl⟩;exact u66 (A0M.1 hk)
 ·intro h;exact⟨(i-1).toNat,A0M.2 (v42 h.1 h.2),by exact v43 h.1⟩
theorem LO(n:Nat):G8 (n+1)=G8 n++[(n:Int)+1]:=by unfold G8;refine zr List.range_succ (zr A0D ?_);rfl
theorem FS(n:Nat):(G8 n).length=n:=by unfold G8;exact zr (KK _) (zr A0q rfl)
theorem WZ(h:G8 n=G8 m):n=m:=by have:=A0U List.length h;rwa [FS,FS] at this
theorem YW(h:absI i=absI j):j=i\/j=-i:=by unfold absI at h;split at h<;>split at h<;>(first|exact u72 h|exact u74 h|exact u75 h|exact u76 h)
theorem Bv(i:Int):absI (-i)=absI i:=by unfold absI;split<;>split<;>(first|exact u68 (by assumption) (by assumption)|exact j4|exact u71|exact u73 (by assumption) (by assumption))
noncomputable def Vr(n m:Nat):List Int->List Int->Nat->Bool
 |[],_,met=>decide (m=2*n)&&decide (met=n)
 |i::r,seen,met=>if i=0\/(n:Int)<absI i\/i∈seen then false else if -i∈seen then Vr n m r (seen++[i]) met
  else if absI i=(met:Int)+1 then Vr n m r (seen++[i]) (met+1) else false
theorem apN{seen:List Int}:Vr n m [] seen met=(decide (m=2*n)&&decide (met=n)):=rfl
theorem apC{seen:List Int}:Vr n m (i::r) seen met=if i=0\/(n:Int)<absI i\/i∈seen then false else if -i∈seen then Vr n m r (seen++[i]) met
  else if absI i=(met:Int)+1 then Vr n m r (seen++[i]) (met+1) else false:=rfl
theorem TV:∀(is o:List Int),∃e,is.foldl B9 o=o++e:=by
 intro is;induction is with
 |nil=>exact λo=>⟨[],(A0k o).symm⟩
 |cons i is ih=>
  intro o;obtain⟨e,h⟩:=ih (B9 o i);refine zr A1u (zr h ?_);unfold B9;split
  ·exact⟨e,rfl⟩
  ·exact⟨absI i::e,zr (on _ _ _) rfl⟩
theorem dO{n m:Nat}(hm:m=2*n):∀{is seen:List Int}{met:Nat},(∀k:Int,k∈G8 met↔∃j∈seen,absI j=k) ->
  (seen++is).Nodup->(∀i∈is,i≠0/\absI i<=n)->is.foldl B9 (G8 met)=G8 n->Vr n m is seen met=true:=by
 intro is;induction is with
 |nil=>exact λ{seen}{met}_ _ _ h=>zr apN (zr (ac hm) (zr (ac (WZ h)) rfl))
 |cons i r ih=>
  intro seen met hk hn ho h;have ap:seen++i::r=seen++[i]++r:=zr (on _ _ _) rfl;have hi:=ho i d4;have Mz:i∉seen:=λh=>(A0S.1 hn).2.2 i h i d4 rfl
  rw[ap] at hn;have Ah:∀j∈r,j≠0/\absI j<=n:=λj hj=>ho j (kV _ hj)
  rw[A1u] at h;refine zr apC (zr (Yf λq=>q.elim hi.1 λq=>q.elim (A1I.2 hi.2) Mz) ?_);by_cases c2:-i∈seen
  ·have Ks:=(hk _).2 ⟨-i,c2,Bv i⟩;rw[show B9 (G8 met) i=G8 met from XL Ks] at h;refine zr (XL c2) ?_;refine ih (λk=>(hk k).trans ⟨λ⟨j,hj,e⟩=>⟨j,A0J _ hj,e⟩,λ⟨j,hj,e⟩=>?_⟩) hn Ah h;rcases XP.1 hj with h|h
   ·exact⟨j,h,e⟩
   ·rw[YP.1 h] at e;exact⟨-i,c2,(Bv i).trans e⟩
  ·have Ks:absI i∉G8 met:=λh=>by
    refine AE ((hk _).1 h) λj hj e=>?_
    rcases YW e with h|h
    ·exact Mz (h▸hj)
    ·exact c2 ((show -i=j by exact u78 h)▸hj)
   rw[show B9 (G8 met) i=G8 met++[absI i] from Yf Ks] at h;have c3:absI i=(met:Int)+1:=by
    obtain⟨e,he⟩:=TV r (G8 met++[absI i]);rw[he] at h;have h4:(G8 n)[met]?=some (absI i):=by
     rw[<-h,on,A0F (zr (FS _) (A0I _)),FS,A1w];rfl
    unfold G8 at h4;rw[A0Q] at h4;refine AE (Option.map_eq_some_iff.1 h4) λk VY e'=>?_
    have:=(fR.1 VY).2;rw[List.getElem_range] at this;exact zr e'.symm (zr this.symm rfl)
   rw[c3,<-LO] at h;refine zr (Yf c2) (zr (XL c3) ?_);refine ih (λk=>?_) hn Ah h;rw[LO,XP,hk k,YP];refine⟨λq=>q.elim (λ⟨j,hj,e⟩=>⟨j,A0J _ hj,e⟩) λe=>⟨i,nf _ (YP.2 rfl),c3.trans e.symm⟩,λ⟨j,hj,e⟩=>(XP.1 hj).imp (λh=>⟨j,h,e⟩) λh=>?_⟩;rw[YP.1 h] at e;exact e.symm.trans c3
structure Good(n:Nat)(is:List Int):Prop where
 nd:is.Nodup
 ok:∀i∈is,i≠0/\absI i<=n
 ord:is.foldl B9 []=G8 n
 len:is.length=2*n
theorem VH(h:Good n is):Vr n is.length is [] 0=true:=
 dO h.len (λk=>⟨λh=>absurd h A0K,λ⟨_,h,_⟩=>absurd h A0K⟩) h.nd h.ok h.ord
def mS(n:Nat):List Int:=G8 n++(G8 n).map λi=>-i
theorem Wx(n:Nat):(mS n).length=2*n:=by unfold mS;rw[CZ,KK,FS];exact u79
theorem PK{n:Nat}(h:i≠0)(h2:absI i<=n):i∈mS n:=by
 unfold mS;rw[XP];unfold absI at h2;by_cases q:i<0
 ·rw[XL q] at h2;exact .inr (Ya.2 ⟨-i,PJ.2 (u80 h2 q),by exact j4⟩)
 ·rw[Yf q] at h2;exact .inl (PJ.2 (u83 h h2 q))
theorem Good.mem{n:Nat}(g:Good n is)(h:i≠0)(h2:absI i<=n):i∈is:=
 A1E λq=>by
  have:=BA (A1C.2 ⟨q,g.nd⟩) λj hj=>(A0E.1 hj).elim (λe=>e▸PK h h2) λhj=>PK (g.ok j hj).1 (g.ok j hj).2
  rw[A0P,Wx,g.len] at this;exact(u81 this).elim
noncomputable def ee(p g:Nat):Nat:=if g<=p then g else g-1
theorem Pi:ee p (gp p j)=j:=by unfold ee gp;split<;>split<;>(first|exact gC|exact qN (by assumption) (by assumption)|exact qK (by assumption) (by assumption)|exact aR)
theorem OL:ee p (gp p j+1)=j+1:=by unfold ee gp;split<;>split<;>(first|exact qO|exact qM (by assumption) (by assumption)|exact qJ (by assumption) (by assumption)|exact qI)
section
variable {s:Nat}{w:List Nat}{R:List Sd}{p:Nat->Nat}{sg:Nat->Int}{q:Int->Int}
theorem Wr(o:Bh s w R)(zO:X++Y=R.map (rv p sg))(hq:∀x∈R,q (rv p sg x)=if x.2 then -1 else 1)(hr:Row (X++0::Y) q)(h:Fc (X++0::Y) q c):w.length+1<=c:=by
 have hl:X.length+Y.length=R.length:=by have:=A0U List.length zO;rwa [CZ,KK] at this
 have hL:(X++0::Y).length=R.length+1:=by exact zr CZ (zr A0P (qH hl))
 have mQ:∀{j:Nat}{x:Sd},R[j]?=some x->(X++0::Y)[gp X.length j]?=some (rv p sg x):=λ{j x}e=>by
  have:=UP (A:=X) (E:=[]) (z:=0) j (rv p sg x) (by refine zr zO (zr A0Q (zr e ?_));rfl)
  rwa [A0k] at this
 have pS:(X++0::Y)[X.length]?=some 0:=by rw[A0F (A0I _),A1w];rfl
 have back:∀{g:Nat}{v:Int},(X++0::Y)[g]?=some v->v≠0->∃j l b,g=gp X.length j/\R[j]?=some (l,b)/\v=rv p sg (l,b):=λ{g v}e hv=>by
  have hg:=(fR.1 e).1;have BG:g≠X.length:=λq=>hv (by rw[q,pS] at e;exact(Option.some.inj e).symm)
  have hj:ee X.length g<R.length:=by unfold ee;split<;>(first|exact qG hl BG (by assumption)|exact qF hl hL hg BG)
  have e1:gp X.length (ee X.length g)=g:=by unfold gp ee;split<;>split<;>(first|exact gC|exact qE BG (by assumption) (by assumption)|exact qD (by assumption) (by assumption)|exact qC (by assumption))
  have e2:=TW hj;refine⟨ee X.length g,R[ee X.length g].1,R[ee X.length g].2,e1.symm,e2,?_⟩;have:=mQ e2;rw[e1,e] at this;exact Option.some.inj this
 have ix:∀{l:Nat}{b:Bool},(l,b)∈R->(X++0::Y).idxOf (-(rv p sg (l,b)))=gp X.length (R.idxOf (l,!b)):=λ{l b}h=>by
  exact zr (bC _ _) (CP hr.nd (mQ (o.at ((o.mem l b).1 h) (!b))))
 have inv:∀x∈BL (X++0::Y),E1 s w R (ee X.length (rnx (X++0::Y) q x).1,(rnx (X++0::Y) q x).2)=E1 s w R (ee X.length x.1,x.2):=by
  rintro⟨g,b⟩ hx;have hx:=AU.1 hx;cases b with
  |true=>
   cases e:(X++0::Y)[g]? with
   |none=>
    have hg:=A0l.1 e;refine zr (D5 e) ?_;have:R.length<=ee X.length g:=by unfold ee;split<;>(first|exact qB hL hg|exact qA hL hg)
    show E1 s w R (ee X.length g,false)=E1 s w R (ee X.length g,true);rw[PQ this,PQ this];exact PR
   |some v=>
    rw[Fd e];by_cases hv:v=0
    ·rw[XL hv];have hg:g=X.length:=by
      have h1:=CP hr.nd e;rw[hv,CP hr.nd pS] at h1;exact h1.symm
     show E1 s w R (ee X.length (g+1),true)=E1 s w R (ee X.length g,true);rw[show ee X.length (g+1)=ee X.length g by unfold ee;split<;>split<;>(first|exact g9 hg (by assumption)|exact g8 hg (by assumption)|exact aR|exact g7 hg (by assumption))]
    ·rw[Yf hv];obtain⟨j,l,b,rfl,e2,rfl⟩:=back e hv;have hm:=A0C e2;rw[ix hm];show _=E1 s w R (ee X.length (gp X.length j),true);rw[Pi,cG o e2];cases b with
     |true=>rw[show q (rv p sg (l,true))=-1 from hq _ hm,Yf (by decide),XL rfl];show E1 s w R (ee X.length (gp _ _),false)=_;rw[Pi]
     |false=>rw[show q (rv p sg (l,false))=1 from hq _ hm,XL rfl,Yf (by decide)];show E1 s w R (ee X.length (gp _ _+1),true)=_;rw[OL]
  |false=>
   cases g with
   |zero=>exact PR.symm
   |succ g=>
    have hg:=A1H hx;have e:=TW hg;generalize (X++0::Y)[g]=v at e;rw[FC e];by_cases hv:v=0
    ·rw[XL hv];have hg:g=X.length:=by
      have h1:=CP hr.nd e;rw[hv,CP hr.nd pS] at h1;exact h1.symm
     show E1 s w R (ee X.length g,false)=E1 s w R (ee X.length (g+1),false);rw[show ee X.length (g+1)=ee X.length g by unfold ee;split<;>split<;>(first|exact g9 hg (by assumption)|exact g8 hg (by assumption)|exact aR|exact g7 hg (by assumption))]
    ·rw[Yf hv];obtain⟨j,l,b,rfl,e2,rfl⟩:=back e hv;have hm:=A0C e2;rw[ix hm];show _=E1 s w R (ee X.length (gp X.length j+1),false);rw[OL,cH o e2];cases b with
     |true=>rw[show q (rv p sg (l,true))=-1 from hq _ hm,Yf (by decide),XL rfl];show E1 s w R (ee X.length (gp _ _+1),true)=_;rw[OL]
     |false=>rw[show q (rv p sg (l,false))=1 from hq _ hm,XL rfl,Yf (by decide)];show E1 s w R (ee X.length (gp _ _),false)=_;rw[Pi]
 have k:=L7 hr h (lab:=λx=>E1 s w R (ee X.length x.1,x.2)) inv (D:=(List.range (w.length+2)).erase (cl s w R (0,false))) (nodup_range.erase _) λv hv=>by
  obtain⟨nH,nG⟩:=(List.Nodup.mem_erase_iff nodup_range).1 hv;obtain⟨⟨g,b⟩,hx,e⟩:=Xd o (A0M.1 nG) nH;have hx:=hx;refine⟨(gp X.length g,b),AU.2 ?_,?_⟩
  ·show gp X.length g<_;unfold gp;split<;>(first|exact pz hL hx|exact pw hL hx)
  ·show E1 s w R (ee X.length (gp X.length g),b)=_;rw[Pi];exact e
 rw[length_erase,A0q] at k;split at k<;>(first|exact gU k|exact gT k)
noncomputable def qU(us:List Int)(v:Int):Int:=if v<0 then -(us.getD (absI v-1).toNat 0) else us.getD (absI v-1).toNat 0
theorem bL(h:v≠0):qU us (-v)=- qU us v:=by
 unfold qU;refine zr (Bv _) ?_;by_cases q:v<0
 ·rw[XL q,Yf (by exact gB q),A1U]
 ·exact zr (Yf q) (zr (XL (gA h q)) rfl)
structure YZ(ps us:List Int):Prop where
 good:Good us.length ps
 tn:∀t∈us,t=1\/t=-1
 n40:us.length<=40
theorem YZ.row(d:YZ ps us):Row (ps++[0]) (qU us):=by
 have z:∀v∈ps,v≠0:=λv hv=>(d.good.ok v hv).1
 have m:∀v∈ps++[0],v≠0->v∈ps:=λv hv h=>(XP.1 hv).resolve_right λq=>h (YP.1 q)
 refine⟨A0S.2 ⟨d.good.nd,A1C.2 ⟨A0K,A1d⟩,λa ha b hb e=>z a ha (e.trans (YP.1 hb))⟩,λv hv=>?_,λv hv h=>?_,λv J h=>bL h⟩
 ·by_cases h:v=0
  ·subst h;exact hv
  ·exact A0J _ (d.good.mem (WO h) (zr (Bv _) ((d.good.ok v (m v hv h)).2)))
 ·have h2:0<absI v:=by unfold absI;split<;>(first|exact WQ (by assumption)|exact WP h (by assumption))
  have h3:=tn3 h2 ((d.good.ok v (m v hv h)).2);have h5:=d.tn _ (A0w h3);unfold qU;refine zr (by refine zr A0x (zr (TW h3) ?_);rfl:us.getD (absI v-1).toNat 0=us[(absI v-1).toNat]) ?_;generalize us[(absI v-1).toNat]=t at h5;rcases h5 with rfl|rfl<;>split<;>decide
theorem uq(o:Bh s w R)(hl:l<w.length):(Pj R sg)[qL R l]?=some (sg l):=by
 have h:=BZ.2 ⟨true,(o.mem l true).2 hl⟩;unfold Pj qL;rw[A0Q,TW (BU h),getElem_idxOf];rfl
theorem jb(o:Bh s w R)(CL:Sg sg):∀x∈R,qU (Pj R sg) (rv (qL R) sg x)=if x.2 then -1 else 1:=by
 rintro⟨l,b⟩ hx;unfold qU;refine zr (FA CL) (zr (show((qL R l:Int)+1-1).toNat=qL R l from zy) (zr A0x (zr (uq o ((o.mem l b).1 hx)) ?_)));exact Wm CL
theorem TH(o:Bh s w R)(CL:Sg sg)(d:YZ (Pl R sg) (Pj R sg))(hc:Fc (Pl R sg++[0]) (qU (Pj R sg)) c):c=w.length+1:=by
 have hg:=UX _ (A0I _) d.row hc;have WD:(Pl R sg++[0]).length=2*w.length+1:=by unfold Pl;rw[CZ,KK,TG o];rfl
 rw[XL (nf _ d4),WD] at hg;exact ib hg (Wr o (A0k _) (jb o CL) d.row hc)
end
abbrev V0:PE:=.var 0
abbrev V1:PE:=.var 1
abbrev V2:PE:=.var 2
abbrev V3:PE:=.var 3
abbrev V4:PE:=.var 4
abbrev V5:PE:=.var 5
abbrev V6:PE:=.var 6
abbrev V7:PE:=.var 7
abbrev V8:PE:=.var 8
abbrev V9:PE:=.var 9
abbrev Ki:PE:=.var 10
abbrev Ol:PE:=.var 11
abbrev HM:PE:=.var 12
abbrev VN:PE:=.var 13
abbrev Px:PE:=.var 14
abbrev yR:PE:=.var 15
abbrev Km:PE:=(.neg (.const (.int 1)))
abbrev K1:PE:=(.const (.int 1))
abbrev K0:PE:=(.const (.int 0))
abbrev K2:PE:=(.const (.int 2))
abbrev K4:PE:=(.const (.int 4))
abbrev K7:PE:=(.const (.int 7))
abbrev K5:PE:=(.const (.int 5))
abbrev KF:PE:=(.const (.bool false))
abbrev KT:PE:=(.const (.bool true))
abbrev KU:PE:=(.const (.str "under"))
abbrev KO:PE:=(.const (.str "over"))
abbrev KN:PE:=(.const .none)
abbrev Ls:PE:=.lst [K1,Km]
abbrev ln(e:PE):PE:=.prim .len [e]
abbrev ab(e:PE):PE:=.prim .abs [e]
noncomputable def C0:Fn:=⟨10,3,[
 (.unpack [3,4] V2),
 (.ite (.or [(.and [(.cmp .eq V4 K1),(.cmp .eq V3 (ln V0))]),(.and [(.cmp .eq V4 Km),(.cmp .eq V3 K0)])]) [(.ret (.tup [V3,(.bin .sub K0 V4)]))] []),
 (.assign 5 (.ite (.cmp .eq V4 K1) (.idx V0 V3) (.idx V0 (.bin .sub V3 K1)))),
 (.ite (.cmp .eq V5 K0) [(.ret (.tup [(.bin .add V3 V4),V4]))] []),
 (.assign 6 (.bin .mul V4 (.idx V1 (ab V5)))),
 (.ite (.cmp .lt V5 K0) [(.assign 6 (.bin .sub K0 V6))] []),
 (.assign 7 (.index V0 (.bin .sub K0 V5))),
 (.ite (.cmp .eq V6 K1) [(.ret (.tup [(.bin .add V7 K1),K1]))] []),
 (.ret (.tup [V7,Km]))]⟩
noncomputable def OI:Fn:=⟨6,3,[
 (.assign 3 .dct0),
 (.while_ (.cmp .notIn V2 V3) [(.setItem 3 V2 KT),(.assign 2 (.call 0 false [V0,V1,V2]))]),
 (.ret V3)]⟩
noncomputable def Iq:Fn:=⟨8,2,[
 (.assign 2 .dct0),
 (.assign 3 K0),
 (.for_ (.one 4) .range1 [(.bin .add (ln V0) K1)] [(.for_ (.one 5) .seq [(.tup [K1,Km])] [(.ite (.cmp .notIn (.tup [V4,V5]) V2) [(.update 2 (.call 1 false [V0,V1,(.tup [V4,V5])])),(.assign 3 (.bin .add V3 K1))] [])])]),
 (.ret V3)]⟩
noncomputable def ME:Fn:=⟨7,2,[
 (.assign 2 .dct0),
 (.for_ (.one 3) .seq [V0] [(.ite (.cmp .notIn (ab V3) V2) [(.setItem 2 (ab V3) (.bin .add (ln V2) K1))] [])]),
 (.assign 4 (.lst [])),
 (.for_ (.one 3) .seq [V0] [(.append 4 (.ite (.cmp .gt V3 K0) (.idx V2 (ab V3)) (.bin .sub K0 (.idx V2 (ab V3)))))]),
 (.ret (.tup [(.prim .tupleOf [V4]),(.prim .tupleOf [(.comp (.idx V1 V5) (.one 5) .seq [V2] [])])]))]⟩
noncomputable def KL:Fn:=⟨3,1,[
 (.ret (.and [(.prim (.isi .int) [V0]),(.not (.prim (.isi .bool) [V0]))]))]⟩
noncomputable def MB:Fn:=⟨6,1,[
 (.assign 1 .dct0),
 (.for_ (.many [2,3]) .enum [(.idx V0 K1)] [(.setItem 1 (.bin .add V2 K1) V3)]),
 (.ret V1)]⟩
noncomputable def Ir:Fn:=⟨7,2,[
 (.assign 2 K0),
 (.assign 3 .dct0),
 (.for_ (.one 4) .seq [V0] [(.ite (.or [(.not (.call 4 false [V4])),(.cmp .eq V4 K0),(.cmp .gt (ab V4) V1),(.cmp .isIn V4 V3)]) [(.ret KF)] []),(.ite (.cmp .notIn (.bin .sub K0 V4) V3) [(.assign 2 (.bin .add V2 K1)),(.ite (.cmp .ne (ab V4) V2) [(.ret KF)] [])] []),(.setItem 3 V4 KT)]),
 (.ret (.and [(.cmp .eq (ln V0) (.bin .mul K2 V1)),(.cmp .eq V2 V1)]))]⟩
noncomputable def Io:Fn:=⟨5,1,[
 (.ite (.or [(.not (.prim (.isi .tuple) [V0])),(.cmp .ne (ln V0) K2)]) [(.ret KF)] []),
 (.unpack [1,2] V0),
 (.ite (.or [(.not (.prim (.isi .tuple) [V1])),(.not (.prim (.isi .tuple) [V2])),(.cmp .gt (ln V2) (.const (.int 40)))]) [(.ret KF)] []),
 (.ite (.not (.prim .all [(.comp (.and [(.call 4 false [V3]),(.or [(.cmp .eq V3 K1),(.cmp .eq V3 Km)])]) (.one 3) .seq [V2] [])])) [(.ret KF)] []),
 (.ite (.or [(.cmp .ne (ln V1) (.bin .mul K2 (ln V2))),(.not (.call 6 false [V1,(ln V2)]))]) [(.ret KF)] []),
 (.ret (.cmp .eq (.call 2 false [(.bin .add (.prim .listOf [V1]) (.lst [K0])),(.call 5 false [V0])]) (.bin .add (ln V2) K1)))]⟩
noncomputable def Gy:Fn:=⟨3,1,[
 (.ite (.not (.call 7 false [V0])) [(.raise 0)] [])]⟩
noncomputable def RH:Fn:=⟨5,2,[
 (.x (.expr (.call 8 false [V0])) 8 [V0]),
 .halt]⟩
noncomputable def MF:Fn:=⟨3,1,[
 (.x (.expr (.call 8 false [V0])) 8 [V0]),
 .halt]⟩
noncomputable def Im:Fn:=⟨4,2,[
 (.ret (.ite (.cmp .eq V1 KO) (.cmp .gt V0 K0) (.cmp .lt V0 K0)))]⟩
noncomputable def D7:Fn:=⟨7,4,[
 (.x (.expr (.call 8 false [V0])) 8 [V0]),
 (.assign 4 (.idx V0 K0)),
 (.ite (.or [(.not (.call 4 false [V1])),(.not (.call 4 false [V2])),(.not (.chain K0 V1 V2 (ln V4)))]) [(.raise 1)] []),
 (.ite (.or [(.not (.prim (.isi .str) [V3])),(.cmp .notIn V3 (.tup [KO,KU]))]) [(.raise 1)] []),
 (.ite (.not (.prim .all [(.comp (.call 11 false [V5,V3]) (.one 5) .seq [(.slLH V4 V1 V2)] [])])) [(.raise 1)] [])]⟩
noncomputable def OF:Fn:=⟨5,3,[
 (.ret (.bin .add (.bin .add (.prim .listOf [(.slL (.idx V0 K0) V2)]) (.lst [K0])) (.prim .listOf [(.slH (.idx V0 K0) V1)])))]⟩
noncomputable def RL:Fn:=⟨8,4,[
 (.assign 4 (.comp (ab V6) (.one 6) .seq [(.slLH (.idx V0 K0) V1 V2)] [])),
 (.assign 5 (.comp V6 (.one 6) .seq [(.call 13 false [V0,V1,V2])] [(.cmp .notIn (ab V6) V4)])),
 (.retMk 5 (.call 5 false [V0]) V3 (.bin .add (.prim .len [(.idx V0 K1)]) K1))]⟩
noncomputable def OG:Fn:=⟨4,2,[
 (.ite (.or [(.not (.prim (.isi .tuple) [V1])),(.cmp .ne (ln V1) K2)]) [(.ret KF)] []),
 (.ret (.and [(.call 4 false [(.idx V1 K0)]),(.call 4 false [(.idx V1 K1)]),(.cmp .isIn V1 (.call 54 false [V0]))]))]⟩
noncomputable def E2:Fn:=⟨9,5,[
 (.x (.expr (.call 12 false [V0,V1,V2,V3])) 12 [V0,V1,V2,V3]),
 (.assign 5 (.call 14 false [V0,V1,V2,V3])),
 (.ite (.not (.prim (.isi .seq) [V4])) [(.raise 2)] []),
 (.for_ (.one 6) .seq [V4] [(.ite (.not (.call 15 true [V5,V6])) [(.raise 2)] []),(.step 5 (.idx V6 K0) (.idx V6 K1)),(.ite (.cmp .gt (.call 56 true [V5]) (.const (.int 40))) [(.raise 4)] [])]),
 (.ret V5)]⟩
noncomputable def JU:Fn:=⟨8,5,[
 (.x (.assign 5 (.call 16 false [V0,V1,V2,V3,V4])) 16 [V0,V1,V2,V3,V4]),
 (.ite (.not (.call 55 false [V5])) [(.raise 2)] []),
 (.ret V5)]⟩
noncomputable def Ul:Fn:=⟨8,5,[
 (.x (.assign 5 (.call 16 false [V0,V1,V2,V3,V4])) 16 [V0,V1,V2,V3,V4]),
 (.ret (.tup [(.call 54 false [V5]),(.call 55 false [V5])]))]⟩
noncomputable def ce:Fn:=⟨7,5,[
 (.x (.ret (.call 57 false [(.call 17 false [V0,V1,V2,V3,V4])])) 17 [V0,V1,V2,V3,V4])]⟩
noncomputable def MA:Fn:=⟨14,4,[
 (.assign 4 (.call 5 false [V0])),
 (.assign 5 (.call 13 false [V0,V1,V2])),
 (.assign 6 (.comp (.bin .sub K0 HM) (.one 12) .seq [(.slLH (.idx V0 K0) V1 V2)] [])),
 (.assign 7 (.lst [])),
 (.while_ (.cmp .gt (ln V6) K0) [(.pop 8 6),(.assign 9 (.slH V5 (.index V5 V8))),(.assign 10 (.prim .len [(.comp HM (.one 12) .seq [V9] [(.cmp .notIn HM V6)])])),(.assign 11 (.idx V4 (ab V8))),(.append 7 (.tup [Ki,(.ite (.cmp .eq V3 KO) Ol (.bin .sub K0 Ol))]))]),
 (.ret (.prim .tupleOf [V7]))]⟩
noncomputable def X0:Fn:=⟨9,5,[
 (.x (.assign 5 (.call 17 false [V0,V1,V2,V3,V4])) 17 [V0,V1,V2,V3,V4]),
 (.assign 6 (.bin .sub (.bin .sub (.attr V5 4) (.index (.attr V5 0) K0)) K1)),
 (.ret (.tup [V6,(.bin .add V6 (ln V4)),V3,(.call 20 false [V0,V1,V2,V3])]))]⟩
noncomputable def OH:Fn:=⟨0,0,[]⟩
noncomputable def MH:Fn:=⟨0,0,[]⟩
noncomputable def MG:Fn:=⟨0,0,[]⟩
noncomputable def MD:Fn:=⟨0,0,[]⟩
noncomputable def RJ:Fn:=⟨0,0,[]⟩
noncomputable def MC:Fn:=⟨12,1,[
 (.x (.expr (.call 8 false [V0])) 8 [V0]),
 .halt]⟩
noncomputable def Xy:Fn:=⟨6,1,[
 (.x (.expr (.call 8 false [V0])) 8 [V0]),
 .halt]⟩
noncomputable def Ip:Fn:=⟨0,0,[]⟩
noncomputable def RG:Fn:=⟨7,1,[
 (.x (.assign 1 (.call 28 false [V0])) 28 [V0]),
 .halt]⟩
noncomputable def CQ:Fn:=⟨4,2,[
 (.ite (.cmp .lt V1 (ln V0)) [(.ret (.idx V0 V1))] []),
 (.ret K0)]⟩
noncomputable def IE:Fn:=⟨7,2,[
 (.assign 2 (.lst [])),
 (.assign 3 (.bin .add (.bin .mod V0 (.const (.int 2147483647))) (.const (.int 48271)))),
 (.for_ (.one 4) .range1 [(.bin .add V1 K1)] [(.assign 3 (.bin .mod (.bin .add (.bin .add (.bin .mul V3 V3) (.bin .mul (.const (.int 48271)) V3)) V4) (.const (.int 2147483647)))),(.append 2 V3)]),
 (.ret (.slL V2 K1))]⟩
noncomputable def B5:Fn:=⟨9,5,[
 (.assign 5 (.bin .sub V3 (.prim .intOf [(.cmp .eq V4 Km)]))),
 (.ite (.or [(.cmp .lt V5 K0),(.cmp .eq V5 (ln V0))]) [(.ret (.tup [V3,(.neg V4)]))] []),
 (.assign 6 (.idx V0 V5)),
 (.ite (.cmp .eq V6 K0) [(.ret (.tup [(.bin .add V3 V4),V4]))] []),
 (.ite (.cmp .eq (.bin .mul (.bin .mul V4 (.idx V2 (ab V6))) (.idx Ls (.prim .intOf [(.cmp .lt V6 K0)]))) K1) [(.ret (.tup [(.bin .add (.idx V1 (.neg V6)) K1),K1]))] []),
 (.ret (.tup [(.idx V1 (.neg V6)),Km]))]⟩
noncomputable def Iu:Fn:=⟨11,2,[
 (.assign 2 .dct0),
 (.for_ (.one 3) .range1 [(ln V0)] [(.setItem 2 (.idx V0 V3) V3)]),
 (.assign 4 .dct0),
 (.assign 5 K0),
 (.for_ (.one 6) .range1 [(.bin .add (ln V0) K1)] [(.for_ (.one 7) .seq [Ls] [(.assign 8 (.tup [V6,V7])),(.ite (.cmp .notIn V8 V4) [(.assign 5 (.bin .add V5 K1))] []),(.while_ (.cmp .notIn V8 V4) [(.setItem 4 V8 V5),(.assign 8 (.call 33 true [V0,V2,V1,(.idx V8 K0),(.idx V8 K1)]))])])]),
 (.ret V4)]⟩
noncomputable def GV:Fn:=⟨7,2,[
 (.assign 2 (.lst [])),
 (.for_ (.one 3) .seq [V0] [(.ite (.cmp .notIn (ab V3) V2) [(.append 2 (ab V3))] [])]),
 (.assign 4 (.comp (.bin .mul (.bin .add (.index V2 (ab V5)) K1) (.idx Ls (.prim .intOf [(.cmp .lt V5 K0)]))) (.one 5) .seq [V0] [])),
 (.ret (.tup [(.prim .tupleOf [V4]),(.prim .tupleOf [(.comp (.idx V1 V5) (.one 5) .seq [V2] [])])]))]⟩
noncomputable def II:Fn:=⟨10,2,[
 (.assign 2 (.prim .listRange [V0])),
 (.for_ (.many [3,4]) .seq [V1] [(.assign 2 (.bin .add (.bin .add (.slH V2 V3) (.lst [(.idx V2 (.bin .add V3 K1)),(.idx V2 V3)])) (.slL V2 (.bin .add V3 K2))))]),
 (.assign 5 (.prim .listRange [V0])),
 (.for_ (.one 6) .range1 [V0] [(.assign 7 (.idx V5 (.idx V2 V6))),(.assign 5 (.comp (.ite (.cmp .eq V8 V7) (.idx V5 V6) V8) (.one 8) .seq [V5] []))]),
 (.ret V5)]⟩
noncomputable def Iw:Fn:=⟨9,2,[
 (.assign 2 (.call 32 false [V0,(.bin .add K2 V1)])),
 (.assign 3 (.bin .add K1 (.bin .mod (.idx V2 K0) K4))),
 (.assign 4 (.lst [])),
 (.for_ (.one 5) .range1 [(.bin .mul (.bin .mod (.idx V2 K1) (.bin .add V1 K1)) (.prim .intOf [(.cmp .gt V3 K1)]))] [(.append 4 (.tup [(.bin .mod (.idx V2 (.bin .add K2 V5)) (.prim .max2 [K1,(.bin .sub V3 K1)])),(.idx Ls (.bin .mod (.bin .fdiv (.idx V2 (.bin .add K2 V5)) K7) K2))]))]),
 (.for_ (.one 5) .range1 [(.bin .sub V3 K1)] [(.assign 6 (.call 36 true [V3,V4])),(.ite (.cmp .ne (.idx V6 V5) (.idx V6 (.bin .add V5 K1))) [(.append 4 (.tup [V5,(.idx Ls (.bin .mod (.bin .fdiv (.bin .fdiv (.idx V2 K1) (.const (.int 16))) (.bin .add V5 K1)) K2))]))] [])]),
 (.ret (.tup [V3,V4]))]⟩
noncomputable def Iv:Fn:=⟨13,2,[
 (.unpack [2,3] (.call 37 false [V0,V1])),
 (.assign 4 (.lst [])),
 (.assign 5 K0),
 (.for_ (.one 6) .range1 [V2] [(.for_ (.one 7) .range1 [(ln V3)] [(.unpack [8,9] (.idx V3 V7)),(.ite (.cmp .eq V5 V8) [(.append 4 (.bin .mul (.bin .add V7 K1) (.neg V9))),(.assign 5 (.bin .add V8 K1))] [(.ite (.cmp .eq V5 (.bin .add V8 K1)) [(.append 4 (.bin .mul (.bin .add V7 K1) V9)),(.assign 5 V8)] [])])])]),
 (.assign 10 (.bin .mod (.bin .mod V0 (.const (.int 1009))) (.prim .max2 [K1,(ln V4)]))),
 (.ret (.call 35 false [(.bin .add (.slL V4 Ki) (.slH V4 Ki)),(.bin .add (.lst [K0]) (.comp HM (.many [11,12]) .seq [V3] []))]))]⟩
noncomputable def IG:Fn:=⟨11,3,[
 (.unpack [3,4] V0),
 (.assign 5 (.comp (ab V9) (.one 9) .seq [(.slLH V3 V1 V2)] [])),
 (.assign 6 (.bin .add (.bin .add (.prim .listOf [(.slL V3 V2)]) (.lst [K0])) (.prim .listOf [(.slH V3 V1)]))),
 (.assign 6 (.comp V9 (.one 9) .seq [V6] [(.cmp .notIn (ab V9) V5)])),
 (.assign 7 .dct0),
 (.for_ (.one 8) .range1 [(ln V4)] [(.ite (.cmp .notIn (.bin .add V8 K1) V5) [(.setItem 7 (.bin .add V8 K1) (.idx V4 V8))] [])]),
 (.ret (.tup [V6,V7]))]⟩
noncomputable def KQ:Fn:=⟨9,3,[
 (.assign 3 (.call 34 false [V0,V1])),
 (.assign 4 (.idx V3 (.tup [(ln V0),K1]))),
 (.assign 5 (.lst [])),
 (.for_ (.one 6) .range1 [(.bin .add V2 K1)] [(.assign 5 (.bin .add V5 (.comp (.tup [V6,V7]) (.one 7) .seq [Ls] [(.cmp .eq (.idx V3 (.tup [V6,V7])) V4)])))]),
 (.ret (.tup [V5,(.cmp .eq V4 (.idx V3 (.tup [K0,Km])))]))]⟩
noncomputable def G0:Fn:=⟨9,4,[
 (.assign 4 (.bin .add K1 (.prim .maxL [(.bin .add (.lst [K0]) (.prim .listOf [V1]))]))),
 (.assign 5 (.prim .dictOf [V1])),
 (.setItem 5 V4 (.bin .mul V3 (.idx V2 K1))),
 (.assign 6 (.bin .add (.bin .add (.slH V0 (.idx V2 K0)) (.lst [(.bin .mul (.neg V3) V4)])) (.slL V0 (.idx V2 K0)))),
 (.ret (.tup [(.bin .add V6 (.lst [(.bin .mul V3 V4)])),V5]))]⟩
noncomputable def IH:Fn:=⟨0,0,[]⟩
noncomputable def Gz:Fn:=⟨9,2,[
 (.assign 2 (.call 32 false [V0,K4])),
 (.assign 3 (.bin .mod (.idx V2 K0) (.bin .add (ln V1) K1))),
 (.assign 4 V3),
 (.assign 5 (.prim .min2 [(ln V1),(.bin .add V3 (.bin .mod (.idx V2 K1) K5))])),
 (.while_ (.and [(.cmp .lt V4 V5),(.cmp .gt (.bin .mul (.idx V1 V4) (.idx V1 V3)) K0)]) [(.assign 4 (.bin .add V4 K1))]),
 (.assign 6 (.idx (.lst [KO,KU]) (.bin .mod (.idx V2 K2) K2))),
 (.ite (.cmp .gt V4 V3) [(.assign 6 (.idx (.lst [KO,KU]) (.prim .intOf [(.cmp .lt (.idx V1 V3) K0)])))] []),
 (.ret (.tup [V3,V4,V6]))]⟩
noncomputable def Gi:Fn:=⟨16,5,[
 (.assign 5 (.call 32 false [V0,(.const (.int 8))])),
 (.unpack [6,7] (.call 39 false [V1,V2,V3])),
 (.assign 8 (ln V6)),
 (.assign 9 (.lst [])),
 (.for_ (.one 10) .range1 [K7] [(.unpack [11,12] (.call 40 false [V6,V7,(.bin .add V8 (ln V9))])),(.ite (.and [HM,(.cmp .ge Ki (.bin .mod (.idx V5 K7) K4))]) [(.ret (.prim .tupleOf [V9]))] []),(.ite (.and [(.cmp .lt (ln V7) (.const (.int 9))),(.cmp .lt Ki (.const (.int 6)))]) [(.assign 13 (.idx Ol (.bin .mod (.idx V5 Ki) (ln Ol)))),(.append 9 VN),(.unpack [6,7] (.call 41 false [V6,V7,VN,(.idx Ls (.prim .intOf [(.cmp .eq V4 KU)]))]))] [])]),
 (.ret KN)]⟩
noncomputable def KR:Fn:=⟨8,6,[
 (.ite (.cmp .eq V0 K0) [(.x (.ret (.call 19 false [V1,V2,V3,V4,V5])) 19 [V1,V2,V3,V4,V5])] []),
 (.ite (.cmp .eq V0 K1) [(.x (.ret (.call 21 false [V1,V2,V3,V4,V5])) 21 [V1,V2,V3,V4,V5])] []),
 (.ite (.cmp .eq V0 K2) [(.x (.ret (.call 18 false [V1,V2,V3,V4,V5])) 18 [V1,V2,V3,V4,V5])] []),
 (.ite (.cmp .eq V0 (.const (.int 3))) [(.x (.ret (.call 9 false [V1,V2])) 9 [V1,V2])] []),
 (.ite (.cmp .eq V0 K4) [(.x (.ret (.call 10 false [V1])) 10 [V1])] []),
 (.ite (.cmp .eq V0 K5) [(.x (.ret (.call 27 false [V1])) 27 [V1])] []),
 (.ite (.cmp .eq V0 (.const (.int 6))) [(.x (.ret (.call 28 false [V1])) 28 [V1])] []),
 (.x (.ret (.call 30 false [V1])) 30 [V1])]⟩
noncomputable def KP:Fn:=⟨10,6,[
 (.tryR 45 [V0,V1,V2,V3,V4,V5]),
 (.ret (.lst []))]⟩
noncomputable def FI:Fn:=⟨7,2,[
 (.unpack [2,3] V1),
 (.assign 4 (.lst [(.tup [(.bin .add V2 (.tup [K1])),V3]),(.tup [V2,(.bin .add V3 (.tup [K1]))]),KN,(.lst [V2,V3]),V2,(.tup [(.prim .listOf [V2]),V3])])),
 (.ret (.idx (.bin .add V4 (.lst [(.tup [V2,(.prim .listOf [V3])]),(.tup [(.tup [K1,Km]),(.tup [K0])]),(.tup [(.tup [K1,K2,Km,(.neg K2)]),(.tup [K1,K1])])])) (.bin .mod V0 (.const (.int 9)))))]⟩
noncomputable def Bx:Fn:=⟨11,5,[
 (.assign 5 (ln V1)),
 (.assign 7 (.comp V9 (.one 9) .range1 [(.bin .sub V5 K1)] [(.cmp .lt (.bin .mul (.idx V1 V9) (.idx V1 (.bin .add V9 K1))) K0)])),
 (.assign 8 (.lst [(.tup [Km,V3,V4]),(.tup [V2,(.bin .add V5 K1),V4]),(.tup [(.bin .add V3 K1),V3,V4]),(.tup [V2,V3,(.const (.str "none"))]),(.tup [KT,V5,V4])])),
 (.assign 8 (.bin .add V8 (.lst [(.tup [V2,KN,V4]),(.tup [V2,V3,KN]),(.tup [V2,V3,K1]),(.tup [KN,V3,V4]),(.tup [V2,V3,(.const (.str "Over"))])]))),
 (.ite (.and [(.cmp .ne V7 (.lst [])),(.cmp .eq (.bin .mod (.bin .fdiv V0 (.const (.int 64))) K2) K0)]) [(.assign 6 (.idx V7 (.bin .mod (.bin .fdiv V0 (.const (.int 128))) (ln V7)))),(.assign 8 (.lst [(.tup [V6,(.bin .add V6 K2),KO]),(.tup [V6,(.bin .add V6 K2),KU]),(.tup [V6,(.bin .add V6 K1),(.idx (.lst [KO,KU]) (.prim .intOf [(.cmp .gt (.idx V1 V6) K0)]))])])),(.assign 8 (.bin .add V8 (.lst [(.tup [(.prim .max2 [K0,(.bin .sub V6 K2)]),(.prim .min2 [V5,(.bin .add V6 K4)]),KO]),(.tup [(.prim .max2 [K0,(.bin .sub V6 K2)]),(.prim .min2 [V5,(.bin .add V6 K4)]),KU])])))] []),
 (.ret (.idx V8 (.bin .mod V0 (ln V8))))]⟩
noncomputable def IF:Fn:=⟨16,6,[
 (.unpack [6,7] (.call 39 false [V1,V2,V3])),
 (.assign 8 (ln V6)),
 (.assign 9 (.bin .mod V0 (.bin .add (ln V5) K1))),
 (.for_ (.one 10) .seq [(.slH V5 V9)] [(.unpack [6,7] (.call 41 false [V6,V7,Ki,(.idx Ls (.prim .intOf [(.cmp .eq V4 KU)]))]))]),
 (.assign 11 (.idx (.call 40 false [V6,V7,(.bin .add V8 V9)]) K0)),
 (.assign 12 (.lst [])),
 (.for_ (.one 13) .range1 [(.bin .add (ln V6) K1)] [(.assign 12 (.bin .add HM (.comp (.tup [VN,Px]) (.one 14) .seq [Ls] [(.cmp .notIn (.tup [VN,Px]) Ol)])))]),
 (.ite (.and [(.cmp .gt V9 K0),(.cmp .lt (.bin .mod V0 K5) K2)]) [(.assign 12 (.comp (.tup [Px,yR]) (.many [14,15]) .seq [HM] [(.cmp .gt Px (.bin .add V8 V9))]))] []),
 (.assign 12 (.bin .add HM (.lst [(.tup [Km,K1]),(.tup [(.bin .add (ln V6) K1),K1]),(.tup [K0,K0]),(.tup [K0,K2]),(.tup [K0]),KN,(.tup [K0,K1,K1]),(.const (.str "01"))]))),
 (.ret (.bin .add (.bin .add (.slH V5 V9) (.tup [(.idx HM (.bin .mod (.bin .fdiv V0 (.const (.int 8))) (ln HM)))])) (.slL V5 V9)))]⟩
noncomputable def Fx:Fn:=⟨11,5,[
 (.unpack [5,6] (.call 39 false [V0,V1,V2])),
 (.assign 7 (ln V5)),
 (.for_ (.one 8) .range1 [(ln V4)] [(.unpack [5,6] (.call 41 false [V5,V6,(.idx V4 V8),(.idx Ls (.prim .intOf [(.cmp .eq V3 KU)]))]))]),
 (.ret (.not (.idx (.call 40 false [V5,V6,(.bin .add V7 (ln V4))]) K1)))]⟩
noncomputable def GW:Fn:=⟨12,4,[
 (.assign 4 (.bin .mul (.tup [(.tup [K0,K1])]) (.const (.int 41)))),
 (.ite (.cmp .ne (.call 46 false [V0,(.tup [(.tup []),(.tup [])]),K0,K0,V1,V4]) (.lst [KF,KF,KF,KF,KT,KF])) [(.ret KF)] []),
 (.assign 4 (.bin .add (.bin .add (.slH V4 (.bin .mod V2 (.const (.int 41)))) (.tup [(.tup [(.const (.int 1000000)),K1])])) V4)),
 (.ite (.cmp .ne (.call 46 false [V0,(.tup [(.tup []),(.tup [])]),K0,K0,V1,V4]) (.lst [KF,KF,KT,KF,KF,KF])) [(.ret KF)] []),
 (.assign 5 (.idx Ls (.prim .intOf [(.cmp .eq V1 KU)]))),
 (.assign 6 (.tup [])),
 (.for_ (.one 7) .range2 [K1,(.const (.int 41))] [(.assign 6 (.bin .add V6 (.tup [(.bin .mul V5 V7),(.bin .mul (.neg V5) V7)])))]),
 (.assign 8 (.tup [V6,(.bin .mul (.tup [V3]) (.const (.int 40)))])),
 (.ite (.or [(.cmp .ne (.call 19 false [V8,K0,K1,V1,(.tup [(.tup [K0,(.bin .mul V5 V3)])])]) V8),(.cmp .isNot (.idx (.call 18 false [V8,K0,K0,V1,(.tup [])]) K1) KT)]) [(.ret KF)] []),
 (.assign 9 (.idx (.idx (.call 18 false [V8,K1,K1,V1,(.tup [])]) K0) K0)),
 (.ret (.cmp .eq (.call 46 false [V0,V8,K1,K1,V1,(.tup [V9])]) (.lst [KF,KF,KF,KF,KT,KF])))]⟩
noncomputable def KJ:Fn:=⟨14,1,[
 (.assign 1 (.call 38 false [(.call 31 false [V0,K0]),K7])),
 (.unpack [2,3,4] (.call 43 false [(.call 31 false [V0,K1]),(.idx V1 K0)])),
 (.assign 5 (.call 44 false [(.call 31 false [V0,K2]),V1,V2,V3,V4])),
 (.ite (.cmp .is_ V5 KN) [(.assign 5 (.tup []))] []),
 (.assign 6 (.call 32 false [(.call 31 false [V0,(.const (.int 3))]),(.const (.int 6))])),
 (.assign 7 (.bin .mod (.idx V6 K0) (.const (.int 8)))),
 (.ite (.or [(.cmp .eq (.bin .mod (.idx V6 K1) K4) K0),(.cmp .gt V7 K2)]) [(.assign 8 (.call 47 false [(.idx V6 K2),V1])),(.ret (.cmp .eq (.call 46 false [V7,V8,Km,KN,(.const (.str "none")),(.tup [(.tup [K0,K0])])]) (.lst [KT,KF,KF,KF,KF,KF])))] []),
 (.ite (.cmp .eq (.bin .mod (.idx V6 K1) K4) K1) [(.unpack [2,3,4] (.call 48 false [(.idx V6 K2),(.idx V1 K0),V2,V3,V4])),(.ret (.cmp .eq (.call 46 false [V7,V1,V2,V3,V4,(.tup [(.tup [K0,K0])])]) (.lst [KF,KT,KF,KF,KF,KF])))] []),
 (.ite (.cmp .eq (.bin .mod (.idx V6 K1) K4) K2) [(.assign 9 (.call 49 false [(.idx V6 K2),V1,V2,V3,V4,V5])),(.ret (.cmp .eq (.call 46 false [V7,V1,V2,V3,V4,V9]) (.lst [KF,KF,KT,KF,KF,KF])))] []),
 (.ite (.cmp .eq (.bin .mod (.idx V6 K2) K4) K0) [(.ret (.call 51 false [V7,V4,(.idx V6 (.const (.int 3))),(.idx Ls (.bin .mod (.idx V6 K4) K2))]))] []),
 (.assign 10 (.slH V5 (.bin .sub (ln V5) K1))),
 (.assign 11 (.lst [])),
 (.ite (.and [(.cmp .lt V7 K2),(.call 50 false [V1,V2,V3,V4,Ki])]) [(.assign 11 (.lst [KF,KF,KT,KF,KF,KF]))] []),
 (.ret (.cmp .eq (.call 46 false [V7,V1,V2,V3,V4,Ki]) Ol))]⟩
noncomputable def Xz:Fn:=⟨3,1,[
 (.ret (.call 1 false [(.attr V0 0),(.attr V0 1),(.tup [(.prim .len [(.attr V0 0)]),K1])]))]⟩
noncomputable def X1:Fn:=⟨7,1,[
 (.assign 1 (.call 53 false [V0])),
 (.assign 2 (.lst [])),
 (.for_ (.one 3) .range1 [(.bin .add (.attr V0 4) K1)] [(.for_ (.one 4) .seq [(.tup [K1,Km])] [(.ite (.cmp .isIn (.tup [V3,V4]) V1) [(.append 2 (.tup [V3,V4]))] [])])]),
 (.ret V2)]⟩
noncomputable def Um:Fn:=⟨3,1,[
 (.ret (.cmp .isIn (.tup [K0,Km]) (.call 53 false [V0])))]⟩
noncomputable def KM:Fn:=⟨3,1,[
 (.ret (.bin .fdiv (.prim .len [(.attr V0 0)]) K2))]⟩
noncomputable def OJ:Fn:=⟨4,1,[
 (.assign 1 (.index (.attr V0 0) K0)),
 (.ret (.call 3 false [(.bin .add (.slL (.attr V0 0) (.bin .add V1 K1)) (.slH (.attr V0 0) V1)),(.attr V0 1)]))]⟩
def AA:List Fn:=[C0,OI,Iq,ME,KL,MB,Ir,Io,Gy,RH,MF,Im,D7,OF,RL,OG,E2,JU,Ul,ce,MA,X0,OH,MH,MG,MD,RJ,MC,Xy,Ip,RG,CQ,IE,B5,Iu,GV,II,Iw,Iv,IG,KQ,G0,IH,Gz,Gi,KR,KP,FI,Bx,IF,Fx,GW,KJ,Xz,X1,Um,KM,OJ]
theorem c2(h:AA[f]?=some fn):AC AA (n+1) f args=DW FD fn (AC AA n) args:=IU h
theorem Al(ha:args.length=fn.arity)(Ib:args.map some++List.replicate (fn.slots-fn.arity) none=ρ)(h:exs cf ρ fn.body=.ok o):DW g fn cf args=g o:=by
 unfold DW;refine zr (XL ha) (zr Ib (zr h ?_));rfl
theorem AB(h:ex cf ρ p=.ok (.next ρ')):exs cf ρ (p::r)=exs cf ρ' r:=by
 simp only[EO,h,AM]
theorem AS(h:ex cf ρ p=.ok (.ret d)):exs cf ρ (p::r)=.ok (.ret d):=by
 simp only[EO,h,AM]
theorem Dc(h:ex cf ρ p=.ok o)(hn:∀ρ',o≠.next ρ'):exs cf ρ (p::r)=.ok o:=by
 refine zr EO (zr h (zr AM ?_));cases o with
 |next ρ'=>exact absurd rfl (hn ρ')
 |_=>rfl
noncomputable def yO(cf:Nat->List PV->Res PV)(r:List PS):Out->Res Out
 |.next ρ'=>exs cf ρ' r
 |.ret d=>.ok (.ret d)
 |.exc c=>.ok (.exc c)
theorem Un(h:ex cf ρ p=.ok o):exs cf ρ (p::r)=yO cf r o:=by
 refine zr EO (zr h ?_);cases o<;>rfl
theorem Ae:exs cf ρ []=.ok (.next ρ):=by simp only[G4]
theorem EP(h:Bw (λρ'=>ev cf ρ' c) (λρ'=>exs cf ρ' body) Lx ρ=.ok o):ex cf ρ (.while_ c body)=.ok o:=iV.trans h
theorem As(hs:evs cf ρ src=.ok xs)(hi:items k xs=.ok ds)(h:An (λρ'=>exs cf ρ' body) t ds ρ=.ok o):ex cf ρ (.for_ t k src body)=.ok o:=by
 exact zr zk (zr hs (zr AM (zr hi h)))
theorem Aa(h1:CO t d ρ=.ok ρ1)(h2:body ρ1=.ok (.next ρ2)):An body t (d::ds) ρ=An body t ds ρ2:=by
 simp only[Ue,h1,AM,h2]
theorem Cj(h0:slot ρ i=.ok (.list l))(h1:ev cf ρ e=.ok d)(h2:l.length<Ab):ex cf ρ (.append i e)=.ok (.next (ρ.set i (some (.list (l++[d]))))):=by
 refine zr aV (zr h0 ?_);show(ev cf ρ e).bind _=_;refine zr h1 ?_;show(if decide (l.length<Ab)=true then _ else _)=_;exact zr (XL (ac h2)) rfl
theorem CU(h1:ev cf ρ a=.ok (.int x))(h2:ev cf ρ b=.ok (.int y))(hx:big x=false)(hy:big y=false):ev cf ρ (.bin .mul a b)=.ok (.int (x*y)):=by
 refine zr Gs (zr h1 ?_);show(ev cf ρ b).bind _=_;refine zr h2 ?_;show(if(big x||big y)=true then _ else _)=_;refine zr hx (zr hy ?_);rfl
theorem Ai(h:ev cf ρ c=.ok (.bool t)):ex cf ρ (.ite c a b)=if t=true then exs cf ρ a else exs cf ρ b:=by
 refine zr Vi (zr h ?_);rfl
theorem AH(h1:evs cf ρ l=.ok xs)(h2:cf f xs=.ok d):ev cf ρ (.call f false l)=.ok d:=by
 refine zr Jl (zr h1 ?_);show(cf f xs).bind _=_;refine zr h2 ?_;rfl
theorem AF(h:ev cf ρ e=.ok d):ex cf ρ (.assign i e)=.ok (.next (ρ.set i (some d))):=by
 refine zr Kx (zr h ?_);rfl
theorem RM(h0:slot ρ i=.ok (.dict l))(h1:ev cf ρ e=.ok (.dict m))(hc:(AR l (.tup [])&&AR m (.tup [])&&decide (l.length+m.length<Ab)&&(!l.isEmpty||decide ((m.map λp=>Cv p.1).Nodup)))=true):
  ex cf ρ (.update i e)=.ok (.next (ρ.set i (some (.dict (GX l m))))):=by
 refine zr zl (zr h0 ?_);show(ev cf ρ e).bind _=_;exact zr h1 (XL hc)
theorem DE(n:Int):items .range1 [.int n]=(if(decide (0<=n)&&decide (n<=(Ab:Nat)))=true then Res.ok (EB 0 n) else if n=-1 then .ok [] else .stuck):=rfl
theorem AI(h:ev cf ρ c=.ok (.bool false)):ex cf ρ (.ite c a [])=.ok (.next ρ):=by
 refine zr Vi (zr h ?_);rfl
theorem By(h0:slot ρ i=.ok (.dict l))(hv:ev cf ρ v=.ok d)(hk:ev cf ρ k=.ok kk)(Yl:kk.GF=some key)(hf:AR l key=true)(hl:l.length<Ab):ex cf ρ (.setItem i k v)=.ok (.next (ρ.set i (some (.dict (Aj l key d))))):=by
 refine zr sM (zr hv ?_);show(slot ρ i).bind _=_;refine zr h0 ?_;show(ev cf ρ k).bind _=_;refine zr hk ?_;show(match kk.GF with|some k=>if(AR l k&&decide (l.length<Ab))=true then _ else _|none=>_)=_;refine zr Yl ?_;show(if(AR l key&&decide (l.length<Ab))=true then _ else _)=_;refine zr hf (zr (ac hl) ?_);rfl
theorem Hy(h:AR l (.int i)=true):CG (.int i) (.dict l)=.ok (Bs l (.int i)):=XL h
def DG(n f:Nat)(xs:List PV)(c:Nat):Prop:=AC AA n f xs=.stuck/\AC AA n (f+1000) xs=.ok (.int c)
theorem B1(h:AA[f]?=some fn)(ha:args.length=fn.arity)(Ib:args.map some++List.replicate (fn.slots-fn.arity) none=ρ)(he:exs (AC AA n) ρ fn.body=.ok (.exc c)):DG (n+1) f args c:=by
 refine⟨(c2 h).trans (Al ha Ib he),?_⟩;exact(Za (by decide) h).trans (Al ha Ib he)
theorem MJ(h:ex cf ρ p=.ok o):ex cf ρ (.x p f l)=.ok o:=zr aW (zr h rfl)
theorem kz(h1:evs cf ρ l=.ok xs)(h2:cf f xs=.stuck):ev cf ρ (.call f b l)=.stuck:=zr Jl (zr h1 (zr AM (zr h2 rfl)))
theorem MI(h1:evs (AC AA n) ρ l=.ok xs)(h2:DG n f xs c)(hp:ev (AC AA n) ρ (.call f false l)=.stuck->ex (AC AA n) ρ p=.stuck):ex (AC AA n) ρ (.x p f l)=.ok (.exc c):=by
 refine zr aW (zr (hp (kz h1 h2.1)) (zr h1 (zr AM (zr h2.2 ?_))));rfl
noncomputable def sI(x:Nat×Bool):PV:=.tuple [.int x.1,.int (if x.2 then 1 else -1)]
noncomputable def dT(ts:List Int):List (Key×PV):=ts.zipIdx.map λp=>(Key.int ((p.2:Int)+1),PV.int p.1)
theorem HI{n k:Nat}(ns:List Int):∃x,AC AA (n+1) 31 [.list (ns.map .int),.int k]=.ok (.int x):=by
 refine zr (c2 (by rfl)) ?_;by_cases h:k<ns.length
 ·refine⟨ns[k],?_⟩;simp[DW,CQ,G4,EO,Vi,E8,Bp,F9,Kz,EJ,Bo,CC,AO,slot,AM,BR,Po,BR,Hh,O9,No,BM,jk,h]
 ·refine⟨0,?_⟩;simp[DW,CQ,G4,EO,Vi,E8,Bp,F9,Kz,EJ,Bo,CC,AO,slot,AM,BR,Po,BR,Hh,O9,No,BM,jk,h]
theorem Db:∀(l:List Int),PV.Bu (l.map PV.int)=some l:=by
 intro l;induction l with
 |nil=>exact  rfl
 |cons i l ih=>exact  by simp[ZQ,ih]
theorem Et:AR (dT ts) (.int i)=true:=by
 simp[AR,dT,Jv]
theorem ZY:∀{ts:List Int}{k j:Nat},ts[k]?=some t->((ts.zipIdx j).map λp=>(Key.int ((p.2:Int)+1),PV.int p.1)).find? (λp=>p.1=Key.int ((j:Int)+k+1))=some (Key.int ((j:Int)+k+1),PV.int t)
 |[],_,_,h=>by simp at h
 |a::ts,0,j,h=>by simp at h;subst h;simp
 |a::ts,k+1,j,h=>by
  have:=ZY (ts:=ts) (k:=k) (j:=j+1) (by simpa using h);simp only[zipIdx_cons,map_cons,find?_cons];have BG:¬(Key.int ((j:Int)+1)=Key.int ((j:Int)+((k+1:Nat):Int)+1)):=by simp;exact xD
  simp only[decide_eq_false BG];have e:((j+1:Nat):Int)+k+1=(j:Int)+((k+1:Nat):Int)+1:=xC;rw[e] at this;exact this
theorem OV{k:Nat}(h:ts[k]?=some t):Am (dT ts) (.int ((k:Int)+1))=some (.int t):=by
 have:=ZY (j:=0) h;simp only[Int.natCast_zero,Int.zero_add] at this;unfold Am dT;refine zr this ?_;rfl
noncomputable def lw:List PS:=C0.body.drop 3
theorem LX{L:List Int}{g w v:Int}
  (hc:ev cf [some (.list (L.map .int)),some (.dict T),some (.tuple [.int g,.int w]),some (.int g),some (.int w),none,none,none,none,none] a=.ok (.bool false))
  (hb:ev cf [some (.list (L.map .int)),some (.dict T),some (.tuple [.int g,.int w]),some (.int g),some (.int w),none,none,none,none,none] b=.ok (.int v)):
  exs cf [some (.list (L.map .int)),some (.dict T),some (.tuple [.int g,.int w]),none,none,none,none,none,none,none] (.unpack [3,4] V2::.ite a x []::.assign 5 b::r) =
  exs cf [some (.list (L.map .int)),some (.dict T),some (.tuple [.int g,.int w]),some (.int g),some (.int w),some (.int v),none,none,none,none] r:=by
 refine(AB rfl).trans ((AB (zr Vi (zr hc rfl))).trans (AB ?_));exact zr Kx (A0U (λr=>Res.bind r _) hb)
theorem LW{g w:Int}:exs cf [A,B,C,some (.int g),some (.int w),some (.int 0),none,none,none,none] lw=.ok (.ret (.tuple [.int (g+w),.int w])):=rfl
theorem O2{L:List Int}{g w v t:Int}(hw:w=1\/w=-1)(hv:v≠0)(ht:t=1\/t=-1)(hf:AR T (.int (absI v))=true)(hd:Am T (.int (absI v))=some (.int t))(hi:L.idxOf? (-v)=some k):
  exs cf [some (.list (L.map .int)),some (.dict T),C,some (.int g),some (.int w),some (.int v),none,none,none,none] lw=.ok (.ret (if w*(if v<0 then -t else t)=1 then .tuple [.int (k+1),.int 1] else .tuple [.int k,.int (-1)])):=by
 have e1:ev cf [some (.list (L.map .int)),some (.dict T),C,some (.int g),some (.int w),some (.int v),none,none,none,none] (.bin .mul V4 (.idx V1 (ab V5)))=.ok (.int (w*t)):=by
  show(if AR T (.int (absI v))=true then(match Am T (.int (absI v)) with|some d=>Res.ok d|none=>.stuck) else .stuck).bind (λy=>EZ .mul (.int w) y)=_;refine zr (XL hf) (zr hd ?_);rcases hw with rfl|rfl<;>rcases ht with rfl|rfl<;>rfl
 have e2:∀x,ev cf [some (.list (L.map .int)),some (.dict T),C,some (.int g),some (.int w),some (.int v),x,none,none,none] (.index V0 (.bin .sub K0 V5))=.ok (.int k):=by
  intro x;exact(by simp only[Ay,Db,Int.zero_sub,hi]:Ay (L.map .int) (.int (0-v))=.ok (.int k))
 refine(AB (ρ':=[some (.list (L.map .int)),some (.dict T),C,some (.int g),some (.int w),some (.int v),none,none,none,none]) ?_).trans ?_
 ·show(if(v==0)=true then _ else _)=_;refine zr (by simpa using hv:(v==0)=false) ?_;rfl
 refine(AB (ρ':=[some (.list (L.map .int)),some (.dict T),C,some (.int g),some (.int w),some (.int v),some (.int (w*t)),none,none,none]) ?_).trans ?_
 ·refine zr Kx (zr e1 ?_);rfl
 refine(AB (ρ':=[some (.list (L.map .int)),some (.dict T),C,some (.int g),some (.int w),some (.int v),some (.int (w*(if v<0 then -t else t))),none,none,none]) ?_).trans ?_
 ·show(if decide (v<0)=true then _ else _)=_;by_cases hn:v<0
  ·rw[XL (ac hn),XL hn,Int.mul_neg,<-Int.zero_sub];rfl
  ·refine zr (Yf (by simpa using hn)) (zr (Yf hn) ?_);rfl
 generalize w*(if v<0 then -t else t)=u;refine(AB (ρ':=[some (.list (L.map .int)),some (.dict T),C,some (.int g),some (.int w),some (.int v),some (.int u),some (.int k),none,none]) ?_).trans ?_
 ·rw[Kx,e2];rfl
 by_cases hu:u=1
 ·subst hu;exact AS rfl
 ·refine zr (Yf hu) ?_;refine(AB (ρ':=[some (.list (L.map .int)),some (.dict T),C,some (.int g),some (.int w),some (.int v),some (.int u),some (.int k),none,none]) ?_).trans (AS rfl);show(if(u==1)=true then _ else _)=_;refine zr (show(u==1)=false by simpa using hu) ?_;rfl
theorem Ju(ha:A.length=3)(h:exs (AC AA n) (A.map some++[none,none,none,none,none,none,none]) C0.body=.ok (.ret d)):AC AA (n+1) 0 A=.ok d:=by
 refine zr (c2 (by rfl)) ?_;exact Al (o:=.ret d) ha rfl h
theorem jR{L:List Int}{g:Nat}(h:L[g]?=some v)(hr:∀cf,exs cf [some (.list (L.map .int)),some (.dict T),some (.tuple [.int g,.int 1]),some (.int g),some (.int 1),some (.int v),none,none,none,none] lw=.ok (.ret d)):
  AC AA (n+1) 0 [.list (L.map .int),.dict T,.tuple [.int g,.int 1]]=.ok d:=by
 refine Ju rfl (A1X (LX ?_ ?_) (hr _))
 ·have h1:¬((g:Int)=L.length):=kL ((fR.1 h).1);simp[Bp,F9,Y3,Kz,Sn,Sm,Bo,CC,AO,BO,KS,ER,E3,slot,AM,RS,Hh,O9,No,G5,Gh,OR,h1]
 ·show(if(0:Int)<=g then(match (L.map PV.int)[(g:Int).toNat]? with|some d=>Res.ok d|none=>.stuck) else .stuck)=_;rw[XL (A0H g),A0R,A0Q,h];rfl
theorem jS{L:List Int}{g:Nat}(h:L[g]?=some v)(hr:∀cf,exs cf [some (.list (L.map .int)),some (.dict T),some (.tuple [.int (g+1),.int (-1)]),some (.int (g+1)),some (.int (-1)),some (.int v),none,none,none,none] lw=.ok (.ret d)):
  AC AA (n+1) 0 [.list (L.map .int),.dict T,.tuple [.int (g+1),.int (-1)]]=.ok d:=by
 refine Ju rfl (A1X (LX ?_ ?_) (hr _))
 ·have h1:¬((g:Int)+1=0):=J1;simp[Bp,F9,Y3,Kz,Sn,Sm,Bo,CC,AO,BO,KS,ER,E3,slot,AM,RS,Hh,O9,No,G5,Gh,OR,h1]
 ·show(if(0:Int)<=(g:Int)+1-1 then(match (L.map PV.int)[((g:Int)+1-1).toNat]? with|some d=>Res.ok d|none=>.stuck) else .stuck)=_;rw[show(g:Int)+1-1=g by exact xA,XL (A0H g),A0R,A0Q,h];rfl
theorem b8{L:List Int}:AC AA (n+1) 0 [.list (L.map .int),.dict T,.tuple [.int L.length,.int 1]]=.ok (.tuple [.int L.length,.int (-1)]):=by
 refine Ju rfl ((AB rfl).trans (AS ?_));simp[G4,EO,Vi,E8,Bp,F9,JB,Gs,Y3,Kz,Sn,Sm,Bo,CC,AO,BO,KS,ER,E3,slot,AM,YI,BR,RS,Hh,O9,No,G5,Gh,OR,PH,Ab]
theorem S7{L:List Int}:AC AA (n+1) 0 [.list (L.map .int),.dict T,.tuple [.int 0,.int (-1)]]=.ok (.tuple [.int 0,.int 1]):=Ju rfl rfl
theorem Wj{n g:Nat}{L:List Int}(h:L[g]?=some 0):AC AA (n+1) 0 [.list (L.map .int),.dict T,.tuple [.int g,.int 1]]=.ok (.tuple [.int (g+1),.int 1]):=jR h λJ=>LW
theorem S8{n g:Nat}{L:List Int}(h:L[g]?=some 0):AC AA (n+1) 0 [.list (L.map .int),.dict T,.tuple [.int (g+1),.int (-1)]]=.ok (.tuple [.int g,.int (-1)]):=by
 have:=jS (n:=n) (T:=T) h λJ=>LW
 rwa [show(g:Int)+1+-1=g by exact xB] at this
theorem b7{n g k:Nat}{v t:Int}{L:List Int}{T:List (Key×PV)}(h:L[g]?=some v)(hv:v≠0)(ht:t=1\/t=-1)(hf:AR T (.int (absI v))=true)(hd:Am T (.int (absI v))=some (.int t))(hi:L.idxOf? (-v)=some k):
  AC AA (n+1) 0 [.list (L.map .int),.dict T,.tuple [.int g,.int 1]]=.ok (if(if v<0 then -t else t)=1 then .tuple [.int (k+1),.int 1] else .tuple [.int k,.int (-1)]):=by
 have:=jR (n:=n) h λJ=>O2 (.inl rfl) hv ht hf hd hi
 rwa [A1T] at this
theorem b9{n g k:Nat}{v t:Int}{L:List Int}{T:List (Key×PV)}(h:L[g]?=some v)(hv:v≠0)(ht:t=1\/t=-1)(hf:AR T (.int (absI v))=true)(hd:Am T (.int (absI v))=some (.int t))(hi:L.idxOf? (-v)=some k):
  AC AA (n+1) 0 [.list (L.map .int),.dict T,.tuple [.int (g+1),.int (-1)]]=.ok (if(if v<0 then -t else t)=1 then .tuple [.int k,.int (-1)] else .tuple [.int (k+1),.int 1]):=by
 refine zr (jS (n:=n) h λJ=>O2 (.inr rfl) hv ht hf hd hi) ?_;have hu:(if v<0 then -t else t)=1\/(if v<0 then -t else t)=-1:=by rcases ht with rfl|rfl<;>split<;>simp
 rcases hu with h|h<;>refine zr h ?_<;>rfl
noncomputable def kI(x:Nat×Bool):Key:=.tup [(x.1:Int),if x.2 then 1 else -1]
noncomputable def dF(F:List (Nat×Bool)):List (Key×PV):=F.map λy=>(kI y,PV.bool true)
theorem Nt{x y:Nat×Bool}(h:kI x=kI y):x=y:=by
 obtain⟨a,b⟩:=x;obtain⟨c,d⟩:=y;simp[kI] at h;cases b<;>cases d<;>simp at h⊢<;> exact kK h
theorem Ha(x:Nat×Bool):(sI x).GF=some (kI x):=by
 simp[sI,kI,y5,km,ZQ]
theorem Ka:AR (dF F) (.tup l)=true:=by
 simp[AR,dF,S9,kI]
theorem MS:AR (dF F) (kI x)=true:=Ka
theorem U5:Bs (dF F) (kI x)=decide (x∈F):=by
 rw[A1G];unfold Bs dF;rw[A1J,A0j];constructor
 ·rintro⟨p,hp,e⟩;refine AE (Ya.1 hp) λy hy Av=>?_;subst Av
  exact zr (Nt (A0N e)).symm hy
 ·intro h;exact⟨(kI x,.bool true),Ya.2 ⟨x,h,rfl⟩,by simp⟩
theorem U4(h:x∉F):Aj (dF F) (kI x) (.bool true)=dF (F++[x]):=by
 unfold Aj;refine zr U5 ?_;simp[h,dF]
theorem U3{G:List (Nat×Bool)}:∀{F:List (Nat×Bool)},F.Nodup->(∀x∈F,x∉G)->GX (dF G) (dF F)=dF (G++F)
 |[],_,_=>by simp[GX,dF]
 |x::F,hn,hd=>by
  have h1:=A1C.1 hn;have:GX (dF (G++[x])) (dF F)=dF (G++[x]++F):=U3 h1.2 (λy hy=>by
   simp;exact⟨hd y (by simp[hy]),by rintro rfl;exact h1.1 hy⟩)
  rw[on] at this;show GX (Aj (dF G) (kI x) (.bool true)) (dF F)=_;refine zr (U4 (hd x (by simp))) (zr this ?_);rfl
theorem HE:CG (sI x) (.dict (dF F))=.ok (decide (x∈F)):=by
 simp[CG,Ha,MS,U5]
theorem Ei(h1:test ρ=.ok (.bool true))(h2:body ρ=.ok (.next ρ')):Bw test body (k+1) ρ=Bw test body k ρ':=by
 show(test ρ).bind _=_;refine zr h1 ?_;show(body ρ).bind _=_;refine zr h2 ?_;rfl
theorem Ce(h1:test ρ=.ok (.bool false)):Bw test body (k+1) ρ=.ok (.next ρ):=by
 show(test ρ).bind _=_;refine zr h1 ?_;rfl
theorem FE{α:Type}{l:List α}{x:α}(h:l.Nodup)(hx:x∉l):(l++[x]).Nodup:=
 A0S.2 ⟨h,A1C.2 ⟨A0K,A1d⟩,λa ha b hb e=>hx (zr (YP.1 hb).symm (zr e.symm ha))⟩
theorem Dt{L:List Int}(h:k∈L):L.idxOf? k=some (L.idxOf k):=by
 cases e:L.idxOf? k with
 |none=>rw[List.idxOf?_eq_none_iff] at e;exact absurd h e
 |some a=>
  have h2:=e;rw[List.idxOf?,List.findIdx?_eq_some_iff_getElem] at h2;refine AE h2 λha hk hj=>?_
  rcases Nat.lt_trichotomy (L.idxOf k) a with q|q|q
  ·exact absurd (hj _ q) (by refine zr (getElem_idxOf (A1M h)) ?_;simp)
  ·exact zr q rfl
  ·exact absurd hk (by simpa using (List.not_of_lt_findIdx q))
structure Go(L:List Int)(T:List (Key×PV))(q:Int->Int):Prop where
 nd:L.Nodup
 neg:∀v∈L,-v∈L
 fits:∀i,AR T (.int i)=true
 tn:∀v∈L,v≠0->∃t:Int,(t=1\/t=-1)/\Am T (.int (absI v))=some (.int t)/\q v=if v<0 then -t else t
theorem Go.row(o:Go L T q):Row L q:=⟨o.nd,o.neg,λv hv h0=>by
 refine Ca (o.tn v hv h0) λt ht J e=>?_
 refine zr e ?_;rcases ht with rfl|rfl<;>split<;>first|exact .inl rfl|exact .inr rfl,λv hv h0=>by
 refine Ca (o.tn v hv h0) λt J e1 e=>?_
 refine Ca (o.tn (-v) (o.neg v hv) (WO h0)) λu J e2 e'=>?_
 rw[Bv,e1] at e2;cases e2
 refine zr e (zr e' ?_);by_cases q:v<0
 ·rw[XL q,Yf (by exact gB q),A1U]
 ·exact zr (Yf q) (zr (XL (gA h0 q)) rfl)⟩
theorem Go.ix(o:Go L T q){v:Int}(hv:v∈L):L.idxOf? (-v)=some (L.idxOf (-v)):=Dt (o.neg v hv)
theorem S4(o:Go L T q)(hx:x∈BL L):AC AA (n+1) 0 [.list (L.map .int),.dict T,sI x]=.ok (sI (rnx L q x)):=by
 obtain⟨g,b⟩:=x;have hx:=AU.1 hx;cases b with
 |true=>
  cases h:L[g]? with
  |none=>
   refine zr (D5 h) (zr (Nat.le_antisymm (A14 hx) (A0l.1 h):g=L.length) ?_);exact b8
  |some v=>
   have hv:=A0C h;refine zr (Fd h) ?_;by_cases h0:v=0
   ·subst h0;exact zr (XL rfl) (Wj h)
   ·refine Ca (o.tn v hv h0) λt ht hd e=>?_
    refine zr (Yf h0) (zr e ?_);refine(b7 h h0 ht (o.fits _) hd (o.ix hv)).trans ?_;generalize (if v<0 then -t else t)=u;by_cases hu:u=1
    ·refine zr (XL hu) (zr (XL hu) ?_);rfl
    ·refine zr (Yf hu) (zr (Yf hu) ?_);rfl
 |false=>
  cases g with
  |zero=>exact S7
  |succ g=>
   have h:=TW (A1H hx);generalize L[g]'(A1H hx)=v at h;have hv:=A0C h;refine zr (FC h) ?_;by_cases h0:v=0
   ·subst h0;exact zr (XL rfl) (S8 h)
   ·refine Ca (o.tn v hv h0) λt ht hd e=>?_
    refine zr (Yf h0) (zr e ?_);refine(b9 h h0 ht (o.fits _) hd (o.ix hv)).trans ?_;generalize (if v<0 then -t else t)=u;by_cases hu:u=1
    ·refine zr (XL hu) (zr (XL hu) ?_);rfl
    ·refine zr (Yf hu) (zr (Yf hu) ?_);rfl
theorem L8(o:Go L T q)(hm:L.length<=1000){n:Nat}:∀{k:Nat}{F:List Sd}{x:Sd},x∈BL L->F.Nodup->(∀y∈F,y∈BL L)->HV (rnx L q) k F x=some F' ->
  ∃y,Bw (λρ'=>ev (AC AA (n+1)) ρ' (.cmp .notIn V2 V3)) (λρ'=>exs (AC AA (n+1)) ρ' [(.setItem 3 V2 KT),(.assign 2 (.call 0 false [V0,V1,V2]))]) k
   [some (.list (L.map .int)),some (.dict T),some (sI x),some (.dict (dF F)),none,none]=.ok (.next [some (.list (L.map .int)),some (.dict T),y,some (.dict (dF F')),none,none]):=by
 intro k;induction k with
 |zero=>exact λ{F}{x}hx hn hF h=>by cases h
 |succ k ih=>
  intro F x hx hn hF h;have ht:∀b,decide (x∈F)=b->ev (AC AA (n+1)) [some (.list (L.map .int)),some (.dict T),some (sI x),some (.dict (dF F)),none,none] (.cmp .notIn V2 V3)=.ok (.bool (!b)):=λb hb=>by
   show(((CG (sI x) (.dict (dF F))).bind _).bind _)=_;refine zr HE (zr hb ?_);rfl
  rw[Oz] at h;by_cases QC:x∈F
  ·rw[XL QC] at h;cases h
   exact⟨some (sI x),Ce (ht true (ac QC))⟩
  ·rw[Yf QC] at h;obtain⟨y,hy⟩:=ih (Fb o.row x hx) (FE hn QC) (λy hy=>(XP.1 hy).elim (hF y) λh=>zr (YP.1 h) hx) h;refine⟨y,A1X (Ei (ht false (dV QC)) ?_) hy⟩;have hl:=BA hn hF;rw[G9] at hl;refine(AB (By rfl rfl rfl (Ha x) MS (by rw[dF,KK,Ab];exact sJ hm hl:(dF F).length<Ab))).trans ((AB (AF (AH rfl (S4 o hx)))).trans ?_);refine zr Ae (zr (U4 QC) ?_);rfl
theorem L9(o:Go L T q)(hm:L.length<=1000)(hx:x∈BL L):AC AA (n+2) 1 [.list (L.map .int),.dict T,sI x]=.ok (.dict (dF (EC L q x))):=by
 obtain⟨y,hy⟩:=L8 o hm hx A1d (λJ h=>absurd h A0K) (Cr o.row hm hx).1;refine zr (c2 (by rfl)) ?_;refine Al (o:=.ret _) rfl rfl ?_;exact(AB rfl).trans ((AB (EP hy)).trans (AS rfl))
theorem Q8{S:List (Nat×Bool)}{eR:Key->Int}(h:∀y∈S,∀z∈S,eR (kI y)=eR (kI z)->y=z):∀{F:List (Nat×Bool)},F.Nodup->(∀y∈F,y∈S)->((dF F).map λp=>eR p.1).Nodup:=by
 intro F;induction F with
 |nil=>exact λ_ _=>by simp[dF]
 |cons x F ih=>
  intro hn hF;have h1:=A1C.1 hn;show(eR (kI x)::(dF F).map λp=>eR p.1).Nodup;refine A1C.2 ⟨?_,ih h1.2 (λy hy=>hF y (by simp[hy]))⟩;intro hm;simp only[dF,List.map_map] at hm;refine AE (Ya.1 hm) λy hy e=>?_
  have:=h y (hF y (by simp[hy])) x (hF x (by simp)) e;subst this;exact h1.1 hy
structure RI(L:List Int)(q:Int->Int)(G:List Sd)(c:Nat):Prop where
 nd:G.Nodup
 sub:∀y∈G,y∈BL L
 rs:∃rs:List Sd,rs.length=c/\(∀r∈rs,r∈BL L)/\rs.Pairwise (λa b=>¬Reach (rnx L q) a b)/\∀y,y∈G↔∃r∈rs,Reach (rnx L q) r y
theorem RI.nil:RI L q [] 0:=⟨A1d,λJ h=>absurd h A0K,[],rfl,λJ h=>absurd h A0K,.nil,λJ=>⟨λh=>absurd h A0K,λ⟨_,h,_⟩=>absurd h A0K⟩⟩
theorem RI.apart(o:Row L q)(hm:L.length<=1000)(I:RI L q G c)(hx:x∈BL L)(hG:x∉G):∀y∈EC L q x,y∉G:=λy hy hyG=>by
 refine DU I.rs λrs J J J h4=>?_
 refine AE ((h4 y).1 hyG) λr hr e=>?_
 exact hG ((h4 x).2 ⟨r,hr,e.trans (DY o hx (((Cr o hm hx).2.2.2 y).1 hy))⟩)
theorem RI.step(o:Row L q)(hm:L.length<=1000)(I:RI L q G c)(hx:x∈BL L)(hG:x∉G):RI L q (G++EC L q x) (c+1):=by
 refine LL (Cr o hm hx) λJ h2 h3 h4=>?_
 refine DU I.rs λrs k1 k2 k3 k4=>?_
 refine⟨A0S.2 ⟨I.nd,h2,λa ha b hb e=>(I.apart o hm hx hG) b hb (e▸ha)⟩,λy hy=>(XP.1 hy).elim (I.sub y) (h3 y),rs++[x],zr CZ (zr k1 rfl),λr hr=>(XP.1 hr).elim (k2 r) λh=>YP.1 h▸hx,?_,λy=>?_⟩
 ·refine pairwise_append.2 ⟨k3,pairwise_cons.2 ⟨λJ h=>absurd h A0K,.nil⟩,λr hr b hb e=>hG ((k4 x).2 ⟨r,hr,YP.1 hb▸e⟩)⟩
 ·rw[XP,k4,h4];exact⟨λh=>h.elim (λ⟨r,hr,e⟩=>⟨r,A0J _ hr,e⟩) λe=>⟨x,nf _ (YP.2 rfl),e⟩,λ⟨r,hr,e⟩=>(XP.1 hr).imp (λh=>⟨r,h,e⟩) λh=>by rw[YP.1 h] at e;exact e⟩
noncomputable def fcB:List PS:=[(.ite (.cmp .notIn (.tup [V4,V5]) V2) [(.update 2 (.call 1 false [V0,V1,(.tup [V4,V5])])),(.assign 3 (.bin .add V3 K1))] [])]
noncomputable def eE(L:List Int)(T:List (Key×PV))(G:List Sd)(c:Nat)(g v:Option PV):AP:=[some (.list (L.map .int)),some (.dict T),some (.dict (dF G)),some (.int c),g,v,none,none]
theorem Pd(o:Go L T q)(hm:L.length<=1000)(hh:∀y∈BL L,∀z∈BL L,Cv (kI y)=Cv (kI z)->y=z){n:Nat}{G:List Sd}(I:RI L q G c)(hx:x∈BL L):
  ∃G' c',RI L q G' c'/\x∈G'/\(∀y∈G,y∈G')/\exs (AC AA (n+2)) (eE L T G c (some (.int x.1)) (some (.int (if x.2 then 1 else -1)))) fcB=.ok (.next (eE L T G' c' (some (.int x.1)) (some (.int (if x.2 then 1 else -1))))):=by
 have e1:CG (.tuple [.int x.1,.int (if x.2 then 1 else -1)]) (.dict (dF G))=.ok (decide (x∈G)):=HE;by_cases hG:x∈G
 ·refine⟨G,c,I,hG,λJ h=>h,(AB (AI ?_)).trans Ae⟩;show(((CG (.tuple [.int x.1,.int (if x.2 then 1 else -1)]) (.dict (dF G))).bind _).bind _)=_;refine zr e1 (zr (ac hG) ?_);rfl
 ·refine LL (Cr o.row hm hx) λJ h2 h3 h4=>?_
  refine⟨G++EC L q x,c+1,I.step o.row hm hx hG,nf _ ((h4 x).2 (.refl x)),λy hy=>A0J _ hy,?_⟩;have Kt:=BA I.nd I.sub;have Mx:=BA h2 h3;rw[G9] at Kt Mx;have h5:(dF G).length+(dF (EC L q x)).length<Ab:=by rw[dF,dF,KK,KK,Ab];exact gQ hm Kt Mx
  have hc:(AR (dF G) (.tup [])&&AR (dF (EC L q x)) (.tup [])&&decide ((dF G).length+(dF (EC L q x)).length<Ab)&&(!(dF G).isEmpty||decide (((dF (EC L q x)).map λp=>Cv p.1).Nodup)))=true:=by
   rw[Ka,Ka,ac h5,ac (Q8 hh h2 h3),Bool.or_true];rfl
  refine(AB ?_).trans Ae;have c':ev (AC AA (n+2)) (eE L T G c (some (.int x.1)) (some (.int (if x.2 then 1 else -1)))) (.cmp .notIn (.tup [V4,V5]) V2)=.ok (.bool true):=by
   show(((CG (.tuple [.int x.1,.int (if x.2 then 1 else -1)]) (.dict (dF G))).bind _).bind _)=_;refine zr e1 (zr (dV hG) ?_);rfl
  refine zr (Ai c') (zr (XL rfl) ?_);refine(AB (RM rfl (AH rfl (L9 o hm hx:AC AA (n+2) 1 [.list (L.map .int),.dict T,.tuple [.int x.1,.int (if x.2 then 1 else -1)]]=.ok (.dict (dF (EC L q x))))) hc)).trans ((AB rfl).trans ?_);refine zr Ae (zr (U3 h2 (I.apart o.row hm hx hG)) ?_);rfl
noncomputable def fcO:List PS:=[(.for_ (.one 5) .seq [(.tup [K1,Km])] fcB)]
theorem Uj(o:Go L T q)(hm:L.length<=1000)(hh:∀y∈BL L,∀z∈BL L,Cv (kI y)=Cv (kI z)->y=z){n:Nat}:∀{gs:List Nat}{G:List Sd}{c:Nat}{u v:Option PV},RI L q G c->(∀g∈gs,g<L.length+1) ->
  ∃G' c' u' v',RI L q G' c'/\(∀g∈gs,∀b,(g,b)∈G')/\(∀y∈G,y∈G')/\An (λρ'=>exs (AC AA (n+2)) ρ' fcO) (.one 4) (gs.map λ(g:Nat)=>PV.int (0+(g:Int))) (eE L T G c u v)=.ok (.next (eE L T G' c' u' v')):=by
 intro gs;induction gs with
 |nil=>exact λ{G}{c}{u}{v}I _=>⟨G,c,u,v,I,λJ h=>absurd h A0K,λJ h=>h,rfl⟩
 |cons g gs ih=>
  intro G c u v I hg;have hx:∀b,(g,b)∈BL L:=λb=>AU.2 (hg g d4)
  obtain⟨G1,c1,I1,m1,s1,e1⟩:=Pd o hm hh I (hx true);obtain⟨G2,c2,I2,m2,s2,e2⟩:=Pd o hm hh I1 (hx false);obtain⟨G3,c3,u3,v3,I3,m3,s3,e3⟩:=ih I2 (λx hx=>hg x (kV _ hx));refine⟨G3,c3,u3,v3,I3,λg' h b=>?_,λy hy=>s3 y (s2 y (s1 y hy)),?_⟩
  ·rcases A0E.1 h with rfl|h
   ·cases b
    ·exact s3 _ m2
    ·exact s3 _ (s2 _ m1)
   ·exact m3 g' h b
  ·refine zr A0Z ?_;refine(Aa (by refine zr (A0y _) ?_;rfl) ?_).trans e3;unfold fcO;refine(AB (As rfl rfl ?_)).trans Ae;exact(Aa (ρ1:=eE L T G c (some (.int g)) (some (.int 1))) rfl e1).trans (Aa rfl e2)
theorem OE(o:Go L T q)(hm:L.length<=1000)(hh:∀y∈BL L,∀z∈BL L,Cv (kI y)=Cv (kI z)->y=z){n:Nat}:∃c,Fc L q c/\AC AA (n+3) 2 [.list (L.map .int),.dict T]=.ok (.int c):=by
 obtain⟨G,c,u,v,I,hG,_,e⟩:=Uj o hm hh RI.nil (λg hg=>A0M.1 hg);refine DU I.rs λrs k1 k2 k3 k4=>?_
 refine⟨c,⟨rs,k1,k2,k3,λx hx=>(k4 x).1 (hG x.1 (A0M.2 (AU.1 hx)) x.2)⟩,?_⟩;refine zr (c2 (by rfl)) ?_;refine Al (o:=.ret _) rfl rfl ?_;refine(AB rfl).trans ?_;refine(AB rfl).trans ?_;refine(AB (As (xs:=[.int (L.length+1)]) ?_ ?_ e)).trans ?_
 ·show Res.ok [PV.int (((L.map PV.int).length:Nat)+1)]=_;exact zr (KK _) rfl
 ·have:((L.length:Int)+1).toNat=L.length+1:=rfl;have h3:(L.length:Int)+1<=(Ab:Nat):=by unfold Ab;exact gP hm
  have h4:(0:Int)<=(L.length:Int)+1:=W2;rw[DE,ac h4,ac h3,XL (show(true&&true)=true from rfl),EB,Int.sub_zero,this]
 ·exact AS rfl
section
set_option backward.eqns.nonrecursive false
noncomputable def tI(l:List Int):PV:=.tuple (l.map .int)
noncomputable def dI(p:List Int×List Int):PV:=.tuple [tI p.1,tI p.2]
theorem Cg(i:Int):AC AA (n+1) 4 [.int i]=.ok (.bool true):=by
 refine zr (c2 (by rfl)) ?_;rfl
theorem Af(h1:ev cf ρ a=.ok x)(h2:ev cf ρ b=.ok y)(h:EZ o x y=.ok d):ev cf ρ (.bin o a b)=.ok d:=by exact zr Gs (zr h1 (zr AM (zr h2 h)))
theorem Ag(h1:ev cf ρ a=.ok x)(h2:ev cf ρ b=.ok y)(h:EX o x y=.ok r):ev cf ρ (.cmp o a b)=.ok (.bool r):=zr Kz (zr h1 (zr AM (zr h2 (zr AM (zr h rfl)))))
theorem BT(h:ev cf ρ e=.ok (.bool false)):evOr cf ρ (e::r)=evOr cf ρ r:=zr E3 (zr h rfl)
theorem EQ(h:evOr cf ρ l=.ok b):ev cf ρ (.or l)=.ok (.bool b):=zr Sm (zr h rfl)
theorem BE(h:ev cf ρ e=.ok (.bool b)):ev cf ρ (.not e)=.ok (.bool (!b)):=zr zu (zr h rfl)
theorem Ak(h:ev cf ρ e=.ok (.bool b)):evAnd cf ρ (e::r)=if b then evAnd cf ρ r else .ok false:=zr KS (zr h rfl)
theorem C1(h:evAnd cf ρ l=.ok b):ev cf ρ (.and l)=.ok (.bool b):=zr Sn (zr h rfl)
theorem Ax(h:ev cf ρ e=.ok d):ex cf ρ (.ret e)=.ok (.ret d):=zr E8 (zr h rfl)
section
variable {w:Nat}{R:List Sd}{sg:Nat->Int}
theorem Fg(o:Code w R):(BC R).length=w:=by
 have h1:=BA PF (λl hl=>by
  obtain⟨b,h⟩:=BZ.1 hl;exact A0M.2 ((o.mem l b).1 h))
 have h2:=BA nodup_range (λl hl=>BZ.2 ⟨true,(o.mem l true).2 (A0M.1 hl)⟩);rw[A0q] at h1 h2;exact uZ h1 h2
theorem Xw(CL:Sg sg){S:Nat->Prop}(hq:∀k l,S k->S l->q k=q l->k=l):∀{R2:List Sd}{o:List Nat},(∀x∈R2,S x.1)->(∀l∈o,S l)->(R2.map (rv q sg)).foldl B9 (o.map λl=>(q l:Int)+1)=(Fh o R2).map λl=>(q l:Int)+1:=by
 intro R2;induction R2 with
 |nil=>exact λ{_}_ _=>rfl
 |cons x R2 ih=>
  intro o h1 h2;have hx:=h1 x d4;have step:B9 (o.map λl=>(q l:Int)+1) (rv q sg x)=(if x.1∈o then o else o++[x.1]).map λl=>(q l:Int)+1:=by
   unfold B9;refine zr (FA CL) ?_;have:((q x.1:Int)+1)∈(o.map λl=>(q l:Int)+1)↔x.1∈o:=by
    rw[Ya];exact⟨λ⟨l,hl,e⟩=>by refine zr (hq l x.1 (h2 l hl) hx (kF e)).symm ?_;exact hl,λh=>⟨_,h,rfl⟩⟩
   by_cases c:x.1∈o
   ·exact zr (XL (this.2 c)) (zr (XL c) rfl)
   ·refine zr (Yf λz=>c (this.1 z)) (zr (Yf c) (zr A0D ?_));rfl
  refine zr A0Z (zr A1u (zr step ?_));refine ih (λy hy=>h1 y (kV _ hy)) λl hl=>?_
  split at hl
  ·exact h2 l hl
  ·rcases XP.1 hl with h|h
   ·exact h2 l h
   ·exact zr (YP.1 h) hx
theorem Wn(o:Code w R)(CL:Sg sg)(hx:x∈R)(hy:y∈R)(e:rv (qL R) sg x=rv (qL R) sg y):x=y:=
 bD CL e λh=>TM (BZ.2 ⟨x.2,hx⟩) (BZ.2 ⟨y.2,hy⟩) h
theorem RO(o:Code w R)(CL:Sg sg):(Pl R sg).Nodup:=by
 have key:∀{S:List Sd},S.Nodup->(∀x∈S,x∈R)->(S.map (rv (qL R) sg)).Nodup:=by
  intro S
  induction S with
  |nil=>intro _ _;exact A1d
  |cons x S ih=>
   intro hn hs;obtain⟨h1,h2⟩:=A1C.1 hn;refine A1C.2 ⟨λq=>?_,ih h2 λy hy=>hs y (kV _ hy)⟩;refine AE (Ya.1 q) λy hy e=>?_
   exact h1 (Wn o CL (hs y (kV _ hy)) (hs x d4) e▸hy)
 exact key o.nd λJ h=>h
theorem MP(o:Code w R)(CL:Sg sg):Good w (Pl R sg):=by
 have hm:∀x∈R,x.1∈BC R:=λx hx=>BZ.2 ⟨x.2,hx⟩
 have hq:∀l∈BC R,qL R l<w:=λl hl=>by exact zr (Fg o).symm (BU hl)
 refine⟨RO o CL,λi hi=>?_,?_,by rw[Pl,KK,MY o]⟩
 ·refine AE (Ya.1 hi) λx hx Av=>?_;subst Av
  refine⟨TD CL,?_⟩;exact zr (FA CL) (u88 (hq _ (hm x hx)))
 ·have:=Xw CL (λk l hk hl e=>TM hk hl e) hm λl hl=>absurd hl A0K
  rw[map_nil] at this;unfold Pl;refine zr this ?_;show(BC R).map _=_;refine List.ext_getElem? λk=>?_
  unfold G8;refine zr A0Q (zr A0Q ?_);by_cases h:k<w
  ·have hk:k<(BC R).length:=by exact zr (Fg o) h
   refine zr (TW hk) (zr (List.getElem?_range h) ?_);refine A0U some ?_;show(((BC R).idxOf (BC R)[k]:Nat):Int)+1=(k:Int)+1;exact zr (PF.idxOf_getElem k hk) rfl
  ·refine zr (A0l.2 (zr (Fg o) (u4 h))) (zr (A0l.2 (by refine zr A0q ?_;exact u4 h)) ?_);rfl
theorem cn(CL:Sg sg):∀t∈Pj R sg,t=1\/t=-1:=λt ht=>by
 refine AE (Ya.1 ht) λl J Av=>?_;subst Av;exact CL l
theorem HG(o:Code w R):(Pj R sg).length=w:=by unfold Pj;exact zr (KK _) (Fg o)
end
noncomputable def dE(l:List Int):List (Key×PV):=l.map λi=>(Key.int i,PV.bool true)
theorem Kb:AR (dE l) (.int i)=true:=by simp[AR,dE,Jv]
theorem OW:Bs (dE l) (.int i)=decide (i∈l):=by
 rw[A1G];unfold Bs dE;rw[A1J,A0j];constructor
 ·rintro⟨p,hp,e⟩;refine AE (Ya.1 hp) λy hy Av=>?_;subst Av
  exact zr (Key.int.inj (A0N e)).symm hy
 ·intro h;exact⟨(.int i,.bool true),Ya.2 ⟨i,h,rfl⟩,ac rfl⟩
theorem d6(h:i∉l):Aj (dE l) (.int i) (.bool true)=dE (l++[i]):=by
 unfold Aj;refine zr OW (zr (dV h) (zr (Yf A0O) ?_));unfold dE;refine zr A0D ?_;rfl
noncomputable def R0(P:PV)(n met:Nat)(seen:List Int)(u:Option PV):AP:=[some P,some (.int n),some (.int met),some (.dict (dE seen)),u,none,none]
noncomputable def yM:List PS:=[(.ite (.or [(.not (.call 4 false [V4])),(.cmp .eq V4 K0),(.cmp .gt (ab V4) V1),(.cmp .isIn V4 V3)]) [(.ret KF)] []),(.ite (.cmp .notIn (.bin .sub K0 V4) V3) [(.assign 2 (.bin .add V2 K1)),(.ite (.cmp .ne (ab V4) V2) [(.ret KF)] [])] []),(.setItem 3 V4 KT)]
section
variable {cf:Nat->List PV->Res PV}{P:PV}{n met:Nat}{seen:List Int}{i:Int}
theorem lU(SF:∀i:Int,cf 4 [.int i]=.ok (.bool true))(c:¬(i=0\/(n:Int)<absI i\/i∈seen)):ev cf (R0 P n met seen (some (.int i))) (.or [(.not (.call 4 false [V4])),(.cmp .eq V4 K0),(.cmp .gt (ab V4) V1),(.cmp .isIn V4 V3)])=.ok (.bool false):=by
 refine EQ ((BT (BE (AH rfl (SF _)))).trans ?_);refine(BT ((beq_eq_false_iff_ne.2 λh=>c (.inl h))▸rfl)).trans ((BT ((dV λh=>c (.inr (.inl h)))▸rfl)).trans ((BT ?_).trans ER));show((CG (.int i) (.dict (dE seen))).bind _)=_;refine zr (Hy Kb) (zr OW (zr (dV λh=>c (.inr (.inr h))) ?_));rfl
theorem VG(h:decide (-i∈seen)=b):ev cf (R0 P n met seen (some (.int i))) (.cmp .notIn (.bin .sub K0 V4) V3)=.ok (.bool (!b)):=by
 show(((CG (.int (0-i)) (.dict (dE seen))).bind _).bind _)=_;rw[Hy Kb,OW,Int.zero_sub,h];rfl
theorem YR(SF:∀i:Int,cf 4 [.int i]=.ok (.bool true))(hl:seen.length<Ab)(c1:¬(i=0\/(n:Int)<absI i\/i∈seen))(c2:if -i∈seen then K8=met else absI i=(met:Int)+1/\K8=met+1):
  exs cf (R0 P n met seen (some (.int i))) yM=.ok (.next (R0 P n K8 (seen++[i]) (some (.int i)))):=by
 have Mz:i∉seen:=λh=>c1 (.inr (.inr h))
 refine(AB (AI (lU SF c1))).trans ?_;have eT:exs cf (R0 P n K8 seen (some (.int i))) [.setItem 3 V4 KT]=.ok (.next (R0 P n K8 (seen++[i]) (some (.int i)))):=by
  refine(AB ((By rfl rfl rfl rfl Kb (by unfold dE;refine zr (KK _) ?_;exact hl)).trans ?_)).trans Ae;refine zr (d6 Mz) ?_;rfl
 by_cases q:-i∈seen
 ·rw[XL q] at c2;subst c2;exact(AB (AI (VG (ac q)))).trans eT
 ·rw[Yf q] at c2;obtain⟨c3,rfl⟩:=c2;refine(AB ?_).trans eT;refine zr (Ai (VG (dV q))) ?_;refine(AB rfl).trans ((AB (AI ?_)).trans Ae);show Res.ok (PV.bool (!(absI i==((met:Int)+1))))=_;rw[c3,A0v];rfl
theorem lV(SF:∀i:Int,cf 4 [.int i]=.ok (.bool true)):∀{is seen:List Int}{met:Nat}{u:Option PV},seen.length+is.length<Ab->Vr n m is seen met=true ->
  ∃I4 u',An (λρ'=>exs cf ρ' yM) (.one 4) (is.map .int) (R0 P n met seen u)=.ok (.next (R0 P n n I4 u')):=by
 intro is;induction is with
 |nil=>
  intro seen met u _ h;rw[apN,A1Q] at h;exact⟨seen,u,zr (A0N h.2) rfl⟩
 |cons i is ih=>
  intro seen met u hl h;rw[A0P] at hl;rw[apC] at h;by_cases c1:i=0\/(n:Int)<absI i\/i∈seen
  ·rw[XL c1] at h;cases h
  ·rw[Yf c1] at h;have go:∀{K8:Nat},(if -i∈seen then K8=met else absI i=(met:Int)+1/\K8=met+1)->Vr n m is (seen++[i]) K8=true->∃I4 u',An (λρ'=>exs cf ρ' yM) (.one 4) ((i::is).map .int) (R0 P n met seen u)=.ok (.next (R0 P n n I4 u')):=λc2 h=>by
    obtain⟨s',u',e⟩:=ih (zr CZ (zr nP (uX hl))) h;exact⟨s',u',(Aa rfl (YR SF (uY hl) c1 c2)).trans e⟩
   by_cases c2:-i∈seen
   ·rw[XL c2] at h;exact go (zr (XL c2) rfl) h
   ·rw[Yf c2] at h;by_cases c3:absI i=(met:Int)+1
    ·rw[XL c3] at h;exact go (zr (Yf c2) ⟨c3,rfl⟩) h
    ·rw[Yf c3] at h;cases h
end
theorem Og(g:Good n is)(hn:n<=40):AC AA (k+2) 6 [tI is,.int n]=.ok (.bool true):=by
 have hl:=g.len;refine zr (c2 (by rfl)) ?_;obtain⟨I4,u',e⟩:=lV (λi=>Cg i) (by refine zr A1t ?_;unfold Ab;exact uU hn hl) (VH g);refine Al (o:=.ret _) rfl rfl ?_;refine(AB rfl).trans ((AB rfl).trans ((AB (As rfl rfl e)).trans (AS (Ax (C1 ?_)))));have e3:ev (AC AA (k+1)) (R0 (tI is) n n I4 u') (.cmp .eq (ln V0) (.bin .mul K2 V1))=.ok (.bool true):=by
  refine zr Kz (zr (show ev (AC AA (k+1)) (R0 (tI is) n n I4 u') (.bin .mul K2 V1)=.ok (.int (2*n)) from CU rfl rfl (by decide) (by unfold big;simp;exact j1 hn)) ?_);show Res.ok (PV.bool ((((is.map PV.int).length:Nat):Int)==2*(n:Int)))=_;exact zr (KK _) (zr hl (zr (show(((2*n:Nat):Int)==2*(n:Int))=true from A0v _) rfl))
 refine(Ak e3).trans ((XL rfl).trans ((Ak (b:=true) ?_).trans rfl));show Res.ok (PV.bool ((n:Int)==(n:Int)))=_;exact zr (A0v _) rfl
theorem Er:∀(l:List Int),PV.Bk (l.map .int)=true:=by
 intro l;induction l with
 |nil=>exact  rfl
 |cons _ l ih=>exact  ih
end
section
set_option backward.eqns.nonrecursive false
theorem MW{cond:AP->Res Bool}:∀{ds:List PV}{ρ:AP},(∀d∈ds,cond (ρ.set i (some d))=.ok true/\elt (ρ.set i (some d))=.ok (f d))->A8 elt cond (.one i) ds ρ=.ok (ds.map f):=by
 intro ds;induction ds with
 |nil=>exact λ{_}_=>rfl
 |cons d ds ih=>
  intro ρ h;have h1:=h d (by simp);have:=ih (ρ:=ρ.set i (some d)) (λd' hd=>by
   refine zr (List.set_set _) ?_;exact h d' (by simp[hd]))
  simp[IR,HY,AM,h1,this]
theorem BN(hs:evs cf ρ src=.ok xs)(hi:items k xs=.ok ds)(h:A8 (λρ'=>ev cf ρ' elt) (λρ'=>evAnd cf ρ' conds) t ds (Pq t ρ)=.ok ys)(hl:ys.length<=Ab):ev cf ρ (.comp elt t k src conds)=.ok (.list ys):=by
 refine zr j2 ?_;simp only[hs,AM,hi,h,Hk,FP,hl,if_true]
theorem U0(a:List Int)(t:Int):dT (a++[t])=dT a++[(.int ((a.length:Int)+1),.int t)]:=by
 simp[dT,List.zipIdx_append]
theorem OU{k:Nat}(h:a.length<=k):Bs (dT a) (.int ((k:Int)+1))=false:=by
 rw[Bool.eq_false_iff];intro hh;unfold Bs dT at hh;rw[A1J] at hh;refine AE hh λp hp e=>?_
 refine AE (Ya.1 hp) λGA hy Av=>?_;obtain⟨v,j⟩:=GA;subst Av
 have e:=A0N e;simp at e;exact(wz h (List.mem_zipIdx hy).2.1 e).elim
theorem cv{t:Int}:Aj (dT a) (.int ((a.length:Int)+1)) (.int t)=dT (a++[t]):=by
 unfold Aj;rw[OU (A0I _),U0];simp
theorem j6:∀{ts a:List Int}{u v:Option PV},a.length+ts.length<1000 ->
  ∃u' v',An (λρ'=>exs (AC AA n) ρ' [(.setItem 1 (.bin .add V2 K1) V3)]) (.many [2,3]) (((ts.map PV.int).zipIdx a.length).map λp=>PV.tuple [.int p.2,p.1]) [some D,some (.dict (dT a)),u,v,none,none]=.ok (.next [some D,some (.dict (dT (a++ts))),u',v',none,none]):=by
 intro ts;induction ts with
 |nil=>exact λ{a}{u}{v}_=>⟨u,v,by simp[KG]⟩
 |cons t ts ih=>
  intro a u v h;obtain⟨u',v',e⟩:=ih (a:=a++[t]) (u:=some (.int a.length)) (v:=some (.int t)) (by simp at h ⊢;exact Ng h);refine⟨u',v',?_⟩;have e2:a++[t]++ts=a++t::ts:=by simp
  rw[e2,CZ,nP] at e;refine A1X ?_ e;rw[A0Z,zipIdx_cons,A0Z];refine Aa (ρ1:=[some D,some (.dict (dT a)),some (.int a.length),some (.int t),none,none]) (by simp[Wa]) ?_;have hl:(dT a).length<16777216:=by simp[dT] at h ⊢;exact W3 h
  simp[G4,EO,sM,Bp,F9,Gs,slot,AM,G6,Ea,Ab,y6,Et,hl,cv]
theorem HX(h:p.2.length<1000):AC AA (n+1) 5 [dI p]=.ok (.dict (dT p.2)):=by
 obtain⟨u,v,e⟩:=j6 (D:=dI p) (ts:=p.2) (a:=[]) (u:=none) (v:=none) (by simpa using h);refine zr (c2 (by rfl)) ?_;refine Al (o:=.ret _) rfl rfl ?_;refine(AB rfl).trans ?_;exact(AB (As rfl rfl e)).trans (AS rfl)
theorem yB:((BL (List.replicate 81 0)).map λy=>Cv (kI y)).Nodup:=by decide +kernel
theorem Ql{α β:Type}{f:α->β}:∀{l:List α},(l.map f).Nodup->∀y∈l,∀z∈l,f y=f z->y=z:=by
 intro l;induction l with
 |nil=>exact λ_ y hy _ _ _=>absurd hy A0K
 |cons a l ih=>
  intro h y hy z hz e;rw[A0Z,A1C] at h;rcases A0E.1 hy with h1|h1<;>rcases A0E.1 hz with h2|h2
  ·exact zr h1 (zr h2 rfl)
  ·exact absurd (Ya.2 ⟨z,h2,by exact zr e.symm (zr h1 rfl)⟩) h.1
  ·exact absurd (Ya.2 ⟨y,h1,by exact zr e (zr h2 rfl)⟩) h.1
  ·exact ih h.2 y h1 z h2 e
theorem kr{L:List Int}(h:L.length<=81):∀y∈BL L,∀z∈BL L,Cv (kI y)=Cv (kI z)->y=z:=λy hy z hz e=>
 Ql yB y (AU.2 (zr length_replicate (zm h (AU.1 hy)))) z (AU.2 (by refine zr length_replicate ?_;exact zm h (AU.1 hz))) e
def Dr(ps us:List Int):Prop:=YZ ps us/\∀c,Fc (ps++[0]) (qU us) c->c=us.length+1
theorem YZ.rok(d:YZ ps us):Go (ps++[0]) (dT us) (qU us):=⟨d.row.nd,d.row.neg,λJ=>Et,λv hv h0=>by
 have h2:0<absI v:=by unfold absI;split<;>(first|exact WQ (by assumption)|exact WP h0 (by assumption))
 obtain⟨j,hj⟩:∃j:Nat,absI v=(j:Int)+1:=⟨(absI v-1).toNat,(jF h2).symm⟩;have h3:=gR ((d.good.ok v ((XP.1 hv).resolve_right λq=>h0 (YP.1 q))).2) hj;refine⟨us[j],d.tn _ (A0w h3),?_,?_⟩
 ·refine zr hj ?_;exact OV (TW h3)
 ·unfold qU;refine zr hj (zr (show((j:Int)+1-1).toNat=j from zy) (zr A0x (zr (TW h3) ?_)));rfl⟩
theorem YK{α:Type}:∀(l:List α),Dx (l.map λJ=>PV.bool true)=some (l.map λJ=>true):=by
 intro l;induction l with
 |nil=>exact  rfl
 |cons d l ih=>exact  by rw[A0Z,Dx,ih];rfl
noncomputable def cO(ps us:List Int):AP:=[some (dI (ps,us)),some (tI ps),some (tI us),none,none]
theorem MM(hu:∀t∈us,t=1\/t=-1)(hl:us.length<=40):ev (AC AA (k+1)) (cO ps us) (.not (.prim .all [(.comp (.and [(.call 4 false [V3]),(.or [(.cmp .eq V3 K1),(.cmp .eq V3 Km)])]) (.one 3) .seq [V2] [])]))=.ok (.bool false):=by
 refine BE (b:=true) ?_;have hc:ev (AC AA (k+1)) (cO ps us) (.comp (.and [(.call 4 false [V3]),(.or [(.cmp .eq V3 K1),(.cmp .eq V3 Km)])]) (.one 3) .seq [V2] [])=.ok (.list ((us.map PV.int).map λJ=>.bool true)):=by
  refine BN (xs:=[tI us]) rfl rfl (MW λd hd=>⟨rfl,C1 ?_⟩) (by rw[KK,KK];unfold Ab;exact uT hl);refine AE (Ya.1 hd) λt ht Av=>?_;subst Av
  refine(Ak (b:=true) (AH (xs:=[.int t]) rfl (Cg t))).trans ?_;rcases hu t ht with rfl|rfl<;>rfl
 refine zr Bo (zr AO (zr hc ?_));show Mo ((us.map PV.int).map λJ=>.bool true)=_;unfold Mo;refine zr (YK _) ?_;show Res.ok (PV.bool (((us.map PV.int).map λJ=>true).all id))=_;exact zr List.all_map (A0U (λb=>Res.ok (PV.bool b)) (A0T.2 λJ J=>rfl))
theorem kh(h:Dr ps us):AC AA (k+4) 7 [dI (ps,us)]=.ok (.bool true):=by
 obtain⟨d,hF⟩:=h;have g:=d.good;have hw:=d.n40;obtain⟨w,hl⟩:∃w,us.length=w:=⟨_,rfl⟩;rw[hl] at g hw hF;obtain⟨c,hc,f1⟩:=OE d.rok (zr CZ (zr g.len (zr nP (ww2 hw)))) (kr (by refine zr CZ (zr g.len (zr nP ?_));exact ww3 hw));have:=hF c hc;subst this;have f2:=HX (n:=k+2) (p:=(ps,us)) (show us.length<1000 by exact ae hw hl);have f5:=Og (k:=k+1) g hw;refine zr (c2 (by rfl)) ?_;have f3:=MM (k:=k+2) (ps:=ps) d.tn (uS hw hl);generalize AC AA (k+3)=cf at *;refine Al (o:=.ret _) rfl rfl ?_;refine(AB rfl).trans ((AB rfl).trans ?_);have l2:ev cf (cO ps us) (ln V2)=.ok (.int w):=by
  show Res.ok (PV.int ((us.map PV.int).length:Nat))=_;exact zr (KK _) (zr hl rfl)
 refine(AB (AI (EQ ((BT (BE (b:=true) rfl)).trans ((BT (BE (b:=true) rfl)).trans ((BT ?_).trans ER)))))).trans ?_
 ·refine zr (Ag l2 rfl rfl) ?_;show Res.ok (PV.bool (decide ((w:Int)>40)))=_;exact zr (dV (by exact j0 hw)) rfl
 refine(AB (AI f3)).trans ?_;refine(AB (AI (EQ ((BT ?_).trans ((BT (BE (AH ?_ f5))).trans ER))))).trans ?_
 ·rw[Ag (x:=.int ((2*w:Nat):Int)) (r:=!(((2*w:Nat):Int)==2*(w:Int))) ?_ (CU rfl l2 (by decide) (by unfold big;simp;exact j1 hw)) rfl,show(((2*w:Nat):Int)==2*(w:Int))=true from A0v _]
  ·rfl
  ·show Res.ok (PV.int ((ps.map PV.int).length:Nat))=_;exact zr (KK _) (zr g.len rfl)
 ·refine zr AO (zr AO (zr l2 ?_));rfl
 refine AS (Ax ?_);refine(Ag (y:=.int ((w:Int)+1)) (r:=((w+1:Nat):Int)==(w:Int)+1) (AH (xs:=[.list ((ps++[0]).map .int),.dict (dT us)]) ?_ f1) (Af (x:=.int w) (y:=.int 1) l2 rfl rfl) rfl).trans ?_
 ·have g1:ev cf (cO ps us) (.bin .add (.prim .listOf [V1]) (.lst [K0]))=.ok (.list ((ps++[0]).map .int)):=by
   refine zr A0D ?_;show(if(ps.map PV.int++[PV.int 0]).length<=Ab then Res.ok (PV.list (ps.map PV.int++[PV.int 0])) else .stuck)=_;refine zr (XL (by rw[CZ,nP,KK,g.len];unfold Ab;exact uR hw)) ?_;rfl
  refine zr AO (zr g1 (zr AM (zr AO (zr (AH (xs:=[dI (ps,us)]) rfl f2) ?_))));rfl
 ·exact zr (show(((w+1:Nat):Int)==(w:Int)+1)=true from A0v _) rfl
end
theorem Ck{α:Type}{cond:AP->Res Bool}{a b:α->PV}:∀{os:List α}{ρ:AP},(∀x∈os,cond (ρ.set i (some (a x)))=.ok true/\elt (ρ.set i (some (a x)))=.ok (b x))->A8 elt cond (.one i) (os.map a) ρ=.ok (os.map b):=by
 intro os;induction os with
 |nil=>exact λ{_}_=>rfl
 |cons x os ih=>
  intro ρ h;have h1:=h x (by simp);have:=ih (ρ:=ρ.set i (some (a x))) (λd' hd=>by
   refine zr (List.set_set _) ?_;exact h d' (by simp[hd]))
  simp[IR,HY,AM,h1,this]
def QI(q:Nat->Nat)(R:List (Nat×Bool)):Prop:=∀k∈BC R,∀l∈BC R,q k=q l->k=l
theorem TU(R1:List (Nat×Bool))(l:Nat)(b:Bool):BC (R1++[(l,b)])=if l∈BC R1 then BC R1 else BC R1++[l]:=by
 unfold BC;refine zr (TX _ _ _) ?_;rfl
theorem Wy(h:l∈BC R1):l∈BC (R1++R2):=by
 obtain⟨b,hb⟩:=BZ.1 h;exact BZ.2 ⟨b,by simp[hb]⟩
theorem PC(R:List (Nat×Bool)):(BC R).length<=R.length:=by
 have:∀(R:List (Nat×Bool))(o:List Nat),(Fh o R).length<=o.length+R.length:=by
  intro R;induction R with
  |nil=>intro o;simp[Fh]
  |cons x R ih=>
   intro o;have:=ih (if x.1∈o then o else o++[x.1]);show(Fh (if x.1∈o then o else o++[x.1]) R).length<=_;split at this<;>rename_i h<;>simp[h] at this⊢<;> (first|exact kH this|exact kG this)
 simpa [BC] using this R []
theorem bB(CL:Sg sg)(x:Nat×Bool):rv q' sg x=if 0<rv q sg x then(q' x.1:Int)+1 else -((q' x.1:Int)+1):=by
 rcases DV CL (q:=q) with⟨h,h2⟩|⟨h,h2⟩<;>refine zr h ?_
 ·refine zr (XL Qi) ?_;unfold rv;exact zr h2 v80
 ·refine zr (Yf wx) ?_;unfold rv;exact zr h2 v81
noncomputable def oI(q:Nat->Nat)(o:List Nat):List PV:=o.map λl=>PV.int ((q l:Int)+1)
theorem Uh:∀(o:List Nat),PV.Bk (oI q o)=true:=by
 intro o;induction o with
 |nil=>exact  rfl
 |cons _ o ih=>exact  by simpa [oI,cW,KI,Gh] using ih
theorem dQ(hq:∀k∈o,q k=q l->k=l):(oI q o).any (λy=>PV.eq y (.int ((q l:Int)+1)))=decide (l∈o):=by
 rw[A1G,A1J,A0j];constructor
 ·rintro⟨p,hp,e⟩;refine AE (Ya.1 hp) λk hk Av=>?_;subst Av
  simp[G5] at e;exact zr (hq k hk (kK e)).symm hk
 ·intro h;exact⟨_,Ya.2 ⟨l,h,rfl⟩,by simp[G5]⟩
theorem Xj(hq:∀k∈o,q k=q l->k=l):CG (.int ((q l:Int)+1)) (.list (oI q o))=.ok (decide (l∈o)):=by
 simp only[CG,Uh,Gh,OR,dQ hq];simp
theorem US(h:l∈o)(hq:∀k∈o,q k=q l->k=l):Ay (oI q o) (.int ((q l:Int)+1))=.ok (.int (o.idxOf l)):=by
 have e:oI q o=(o.map λl=>((q l:Int)+1)).map PV.int:=by simp[oI]
 have:=N2 (f:=λl=>((q l:Int)+1)) (M:=[]) h (λk hk e=>hq k hk (kF e));rw[A0k] at this;simp only[Ay,e,Db,this]
noncomputable def xt:List PS:=[(.ite (.cmp .notIn (ab V3) V2) [(.append 2 (ab V3))] [])]
theorem c9(CL:Sg sg)(hq:QI q R)(hm:R.length<=1000):∀{R2 R1:List (Nat×Bool)}{u:Option PV},R=R1++R2 ->
  ∃u',An (λρ'=>exs cf ρ' xt) (.one 3) (R2.map λx=>PV.int (rv q sg x)) [some P,some T,some (.list (oI q (BC R1))),u,none,none,none]=.ok (.next [some P,some T,some (.list (oI q (BC R))),u',none,none,none]):=by
 intro R2;induction R2 with
 |nil=>exact λ{R1}{u}h=>⟨u,by simp at h;subst h;simp[KG]⟩
 |cons pq R2 ih=>
  intro R1 u h;obtain⟨l,b⟩:=pq;obtain⟨u',e⟩:=ih (R1:=R1++[(l,b)]) (u:=some (.int (rv q sg (l,b)))) (by simp[h]:R=(R1++[(l,b)])++R2);refine⟨u',?_⟩;refine A1X ?_ e;refine zr A0Z ?_;refine Aa (ρ1:=[some P,some T,some (.list (oI q (BC R1))),some (.int (rv q sg (l,b))),none,none,none]) (by simp[HY]) ?_;have hs:∀k∈BC R1,k∈BC R:=λk hk=>by exact zr h (Wy hk)
  have Yh:∀k∈BC R1,q k=q l->k=l:=λk hk e=>hq k (hs k hk) l (BZ.2 ⟨b,by refine zr h ?_;simp⟩:l∈BC R) e
  have k1:(if rv q sg (l,b)<0 then -rv q sg (l,b) else rv q sg (l,b))=(q l:Int)+1:=FA CL (x:=(l,b));have k2:=Xj Yh;have k5:(oI q (BC R1)).length<16777216:=by rw[oI,KK];exact wv (PC R1) (by rw[h] at hm;simp at hm;exact ww hm:R1.length<=1000)
  have k6:oI q (BC R1++[l])=oI q (BC R1)++[.int ((q l:Int)+1)]:=by simp[oI]
  refine zr (TU _ _ _) ?_;by_cases hb:l∈BC R1
  ·simp[xt,G4,EO,aV,Vi,Bp,Kz,Bo,CC,AO,slot,AM,JX,O8,O9,YV,Ab,k1,k2,hb]
  ·simp[xt,G4,EO,aV,Vi,Bp,Kz,Bo,CC,AO,slot,AM,JX,O8,O9,YV,Ab,k1,k2,hb,k5,k6]
theorem KA(CL:Sg sg)(hq:QI q R)(hm:R.length<=1000){P T:PV}(hP:items .seq [P]=.ok (R.map λx=>PV.int (rv q sg x)))(hT:∀l∈BC R,CI T (.int ((q l:Int)+1))=.ok (.int (sg l))):
  AC AA (n+1) 35 [P,T]=.ok (dI (Pl R sg,Pj R sg)):=by
 refine zr (c2 (by rfl)) ?_;generalize AC AA n=cf;obtain⟨u1,e1⟩:=c9 (cf:=cf) CL hq hm (T:=T) (R2:=R) (R1:=[]) (u:=none) rfl;refine Al (o:=.ret _) (ρ:=[some P,some T,none,none,none,none,none]) rfl rfl ?_;refine(AB (ρ':=[some P,some T,some (.list (oI q (BC []))),none,none,none,none]) (by rfl)).trans ?_;refine(AB (As (xs:=[P]) (by rfl) hP e1)).trans ?_;have hle:=PC R;have cm0:ev cf [some P,some T,some (.list (oI q (BC R))),u1,none,none,none] (.comp (.bin .mul (.bin .add (.index V2 (ab V5)) K1) (.idx Ls (.prim .intOf [(.cmp .lt V5 K0)]))) (.one 5) .seq [V0] [])=.ok (.list (R.map λx=>PV.int (rv (qL R) sg x))):=by
  refine BN (ds:=R.map λx=>PV.int (rv q sg x)) (by rfl) hP ?_ (by rw[KK,Ab];exact Ta hm);refine Ck ?_;rintro⟨l,b⟩ hx;have hl:=BZ.2 ⟨b,hx⟩;have k1:(if rv q sg (l,b)<0 then -rv q sg (l,b) else rv q sg (l,b))=(q l:Int)+1:=FA CL (x:=(l,b));have k2:=US (q:=q) hl (λk hk e=>hq k hk l hl e);have k6:(BC R).idxOf l=qL R l:=rfl;rw[k6] at k2;have k5:=bB (q:=q) CL (q':=qL R) (l,b);have k8:=TD CL (q:=q) (x:=(l,b));have k9:big ((qL R l:Int)+1)=false:=by simp[big];exact v82 hm hle (BU hl)
  have eM:FP [PV.int 1,PV.int (-1)]=.ok (.list [PV.int 1,PV.int (-1)]):=rfl;have k11:big 1=false:=by decide
  have k12:big (-1)=false:=by decide
  by_cases hp:rv q sg (l,b)<0
  ·rw[Yf (by exact kE hp)] at k5;rw[XL hp] at k1;refine zr k5 ?_;simp[Bp,F9,Vk,Gs,Y3,Kz,EJ,Bo,j3,ixL,CC,AO,BO,slot,AM,G6,YJ,PG,Ea,BR,Po,BR,O8,TO,O9,YV,cQ,BM,Oa,hp,k1,k2,k9,eM,k12]
  ·rw[XL (Int.lt_iff_le_and_ne.2 ⟨A1I.1 hp,(TD CL).symm⟩)] at k5;rw[Yf hp] at k1;refine zr k5 ?_;have dn:¬((q l:Int)+1<0):=kM;simp[Bp,F9,Vk,Gs,Y3,Kz,EJ,Bo,j3,ixL,CC,AO,BO,slot,AM,G6,YJ,PG,Ea,BR,Po,BR,O8,TO,O9,YV,cQ,BM,Oa,dn,k1,k2,k9,eM,k11]
 refine(AB (ρ':=[some P,some T,some (.list (oI q (BC R))),u1,some (.list (R.map λx=>PV.int (rv (qL R) sg x))),none,none]) (by
  simp only[Kx,cm0,AM];rfl)).trans ?_
 have cm:ev cf [some P,some T,some (.list (oI q (BC R))),u1,some (.list (R.map λx=>.int (rv (qL R) sg x))),none,none] (.comp (.idx V1 V5) (.one 5) .seq [V2] [])=.ok (.list ((BC R).map λl=>PV.int (sg l))):=by
  refine BN (ds:=(BC R).map λl=>PV.int ((q l:Int)+1)) (by rfl) rfl ?_ (by rw[KK,Ab];exact wu hm hle);refine Ck ?_;intro l hl;have:=hT l hl;simp only[Oa,BO,EJ,Bp,slot];simp[AM,this]
 refine AS ?_;simp only[E8,JB,Bo,Bp,CC,AO,cm,AM,jc,O9,j5];simp[slot,PH,Ab,tI,dI,Pl,Pj,AM,O9,j5]
section
variable {s:Nat}{w:List Nat}{R:List (Nat×Bool)}{sg:Nat->Int}
noncomputable def Ig{α:Type}(k:Nat)(R:List α):List α:=R.drop k++R.take k
theorem Wp{α β:Type}(f:α->β)(k:Nat)(R:List α):Ig k (R.map f)=(Ig k R).map f:=by simp[Ig,map_drop,map_take]
theorem Pr(h:k<=n):Dw n (k:Int)=k:=by unfold Dw;refine zr (Yf wt) ?_;simp;exact wq h
theorem Kc{k:Nat}(h:k<=l.length):Kd l (Dw l.length k) l.length=l.drop k:=by refine zr (Pr h) ?_;simp[Kd]
theorem OX{k:Nat}(h:k<=l.length):Kd l 0 (Dw l.length k)=l.take k:=by refine zr (Pr h) ?_;simp[Kd]
end
theorem AZ(a:Int)(h:0<m):0<=Int.fmod a m/\Int.fmod a m<m:=by
 exact zr (Int.fmod_eq_emod_of_nonneg a (wp h)) ⟨Int.emod_nonneg a (kB h),Int.emod_lt_of_pos a h⟩
noncomputable def zz:List PS:=[(.assign 3 (.bin .mod (.bin .add (.bin .add (.bin .mul V3 V3) (.bin .mul (.const (.int 48271)) V3)) V4) (.const (.int 2147483647)))),(.append 2 V3)]
def InR(x:Int):Prop:=0<=x/\x<2147483647
theorem jO:∀{ks acc:List Int}{num:Int}{u:Option PV},0<=num->num<2147531918->acc.length+ks.length<1000 ->
  ∃ys Vx u',ys.length=ks.length/\(∀y∈ys,InR y)/\An (λρ'=>exs cf ρ' zz) (.one 4) (ks.map PV.int) [some A,some B,some (.list (acc.map .int)),some (.int num),u,none,none]=.ok (.next [some A,some B,some (.list ((acc++ys).map .int)),some (.int Vx),u',none,none]):=by
 intro ks;induction ks with
 |nil=>exact λ{acc}{num}{u}_ _ _=>⟨[],num,u,rfl,by simp,by simp[KG]⟩
 |cons k ks ih=>
  intro acc num u h0 h1 hl;have hr:=AZ (num*num+48271*num+k) (m:=2147483647) (by decide);obtain⟨ys,Vx,u',e1,e2,e3⟩:=ih (acc:=acc++[Int.fmod (num*num+48271*num+k) 2147483647]) (num:=Int.fmod (num*num+48271*num+k) 2147483647) (u:=some (.int k)) hr.1 (wm hr.2) (by simp at hl ⊢;exact Ng hl);refine⟨Int.fmod (num*num+48271*num+k) 2147483647::ys,Vx,u',by simp[e1],?_,?_⟩
  ·intro y hy;rcases A0E.1 hy with rfl|h
   ·exact hr
   ·exact e2 y h
  ·rw[on] at e3;refine A1X ?_ e3;refine zr A0Z ?_;refine Aa (ρ1:=[some A,some B,some (.list (acc.map .int)),some (.int num),some (.int k),none,none]) (by simp[HY]) ?_;have b1:big num=false:=by simp[big];exact v85 h0 h1
   have b2:big 48271=false:=by decide
   have l1:acc.length<16777216:=by simp at hl;exact W3 hl
   simp[zz,G4,EO,Kx,aV,Bp,F9,Gs,slot,AM,G6,YJ,PG,Oe,Ea,BR,BR,Ab,b1,b2,l1]
theorem Y4(n:Nat):EB 0 (n:Int)=(List.range n).map λ(k:Nat)=>PV.int (k:Int):=by
 simp[EB]
theorem Ba{n:Nat}(h:n<=1000):items .range1 [.int (n:Int)]=.ok ((List.range n).map λ(k:Nat)=>PV.int (k:Int)):=by
 have h1:(0:Int)<=n:=kC;have h2:(n:Int)<=(Ab:Nat):=by rw[Ab];exact kA h
 rw[DE,ac h1,ac h2,XL (show(true&&true)=true from rfl),Y4]
theorem rn1{n:Nat}(h:n<=1000):l1 Jy [.int (n:Int)]=.ok ((List.range n).map λ(k:Nat)=>PV.int (k:Int)):=by
 have h1:(0:Int)<=n:=kC;have h2:(n:Int)<=(Ab:Nat):=by rw[Ab];exact kA h
 show(if decide ((0:Int)<=n)&&decide ((n:Int)<=(Ab:Nat)) then Res.ok (EB 0 n) else .stuck)=_;rw[ac h1,ac h2,XL (show(true&&true)=true from rfl),Y4]
theorem Jr(c:Int)(hm:many<=20):∃xs:List Int,xs.length=many/\(∀x∈xs,InR x)/\AC AA (n+1) 32 [.int c,.int many]=.ok (.list (xs.map .int)):=by
 have hr:=AZ c (m:=2147483647) (by decide);refine zr (c2 (by rfl)) ?_;generalize AC AA n=cf;obtain⟨ys,Vx,u',e1,e2,e3⟩:=jO (cf:=cf) (B:=.int many) (ks:=(List.range (many+1)).map λ(k:Nat)=>(k:Int)) (acc:=[]) (num:=Int.fmod c 2147483647+48271) (u:=none) (wo hr.1) (wn hr.2) (by simp;exact wl hm);refine⟨ys.drop 1,by simp[e1],λx hx=>e2 x (A1F hx),?_⟩;refine Al (o:=.ret _) rfl rfl ?_;refine(AB (ρ':=[some (.int c),some (.int many),some (.list (([]:List Int).map .int)),none,none,none,none]) (by rfl)).trans ?_;refine(AB (ρ':=[some (.int c),some (.int many),some (.list (([]:List Int).map .int)),some (.int (Int.fmod c 2147483647+48271)),none,none,none]) (by rfl)).trans ?_;have e4:(List.map PV.int (List.map (λ(k:Nat)=>(k:Int)) (List.range (many+1))))=(List.range (many+1)).map λ(k:Nat)=>PV.int (k:Int):=zr A0g rfl
 rw[e4] at e3;refine(AB (As (xs:=[.int ((many+1:Nat):Int)]) (by rfl) (Ba (wi hm)) e3)).trans ?_;refine AS ?_;have hc:=Kc (l:=ys.map PV.int) (k:=1) (wg (by simp[e1]:(ys.map PV.int).length=many+1));simp only[Int.natCast_one] at hc;simp only[E8,Sk,Bp,F9,slot];simp[AM,FX];simp at hc;exact hc
noncomputable def aI(a:List Nat):List PV:=a.map λ(x:Nat)=>PV.int (x:Int)
noncomputable def wI(wd:List (Nat×Int)):List PV:=wd.map λp=>PV.tuple [.int (p.1:Int),.int p.2]
theorem FN(h:k<a.length):(aI a)[k]?=some (.int ((a.getD k 0:Nat):Int)):=by
 simp[aI,List.getD,h]
theorem GY:(aI a).length=a.length:=by simp[aI]
noncomputable def yI:List PS:=[(.assign 2 (.bin .add (.bin .add (.slH V2 V3) (.lst [(.idx V2 (.bin .add V3 K1)),(.idx V2 V3)])) (.slL V2 (.bin .add V3 K2))))]
theorem X9{i:Nat}(h:i+1<a.length)(hl:a.length<=10):
  exs cf [A,B,some (.list (aI a)),some (.int i),u,v,none,none,none,none] yI=.ok (.next [A,B,some (.list (aI (sw i a))),some (.int i),u,v,none,none,none,none]):=by
 have g1:=FN (a:=a) (k:=i) (dl h);have g2:=FN (a:=a) (k:=i+1) h;have c1:=OX (l:=aI a) (k:=i) (zr GY (wk h));have c2:=Kc (l:=aI a) (k:=i+2) (zr GY (wj h));have t1:((i:Int)+1).toNat=i+1:=uW;have t2:(0:Int)<=(i:Int)+1:=W2;have m1:FP [PV.int ((a.getD (i+1) 0:Nat):Int),PV.int ((a.getD i 0:Nat):Int)]=.ok (.list [PV.int ((a.getD (i+1) 0:Nat):Int),PV.int ((a.getD i 0:Nat):Int)]):=rfl;have m2:FP ((aI a).take i++[PV.int ((a.getD (i+1) 0:Nat):Int),PV.int ((a.getD i 0:Nat):Int)])=.ok (.list ((aI a).take i++[PV.int ((a.getD (i+1) 0:Nat):Int),PV.int ((a.getD i 0:Nat):Int)])):=by
  have:((aI a).take i++[PV.int ((a.getD (i+1) 0:Nat):Int),PV.int ((a.getD i 0:Nat):Int)]).length<=Ab:=by
   rw[CZ,A0V,GY,Ab];simp;exact wf hl
  unfold FP;exact zr (XL this) rfl
 have e:aI (sw i a)=(aI a).take i++[PV.int ((a.getD (i+1) 0:Nat):Int),PV.int ((a.getD i 0:Nat):Int)]++(aI a).drop (i+2):=by
  simp[aI,sw,map_take,map_drop]
 have m3:FP ((aI a).take i++[PV.int ((a.getD (i+1) 0:Nat):Int),PV.int ((a.getD i 0:Nat):Int)]++(aI a).drop (i+2))=.ok (.list (aI (sw i a))):=by
  refine zr e.symm ?_;unfold FP;exact zr (XL (by rw[GY,NT h,Ab];exact bc hl:(aI (sw i a)).length<=Ab)) rfl
 generalize a.getD (i+1) 0=y at *;generalize a.getD i 0=z at *;have e2:((i:Int)+2)=((i+2:Nat):Int):=we;simp only[yI,G4,EO,Kx,Bp,F9,Vk,Gs,EJ,Sk,Sj,CC,AO,slot];simp only[getElem?_cons_succ,getElem?_cons_zero,AM,FX,FY,c1,G6,Ea,Zg,BM,t1,t2,if_true,g1,g2,m1,m2,e2,c2,m3,Int.toNat_natCast,Int.natCast_nonneg];rfl
theorem lE(hs:s<=10):∀{wd:List (Nat×Int)}{a:List Nat}{u v:Option PV},a.length=s->(∀p∈wd,p.1+1<s) ->
  ∃u' v',An (λρ'=>exs cf ρ' yI) (.many [3,4]) (wI wd) [A,B,some (.list (aI a)),u,v,none,none,none,none,none]=.ok (.next [A,B,some (.list (aI (swAll a (wd.map (·.1))))),u',v',none,none,none,none,none]):=by
 intro wd;induction wd with
 |nil=>exact λ{a}{u}{v}_ _=>⟨u,v,by simp[KG,wI,swAll]⟩
 |cons pq wd ih=>
  intro a u v ha h;obtain⟨i,t⟩:=pq;have hi:=h (i,t) (by simp);simp at hi;obtain⟨u',v',e⟩:=ih (a:=sw i a) (u:=some (.int i)) (v:=some (.int t)) (zr (NT (W4 ha hi)) ha) (λp hp=>h p (by simp[hp]));refine⟨u',v',?_⟩;refine A1X ?_ e;show An _ _ (PV.tuple [.int (i:Int),.int t]::wI wd) _=_;exact Aa (ρ1:=[A,B,some (.list (aI a)),some (.int i),some (.int t),none,none,none,none,none]) (by simp[Wa]) (X9 (W4 ha hi) (k7 hs ha))
noncomputable def Vp(a hd:List Nat)(pl:Nat):List Nat:=hd.map λh=>if h=hd.getD (a.getD pl 0) 0 then hd.getD pl 0 else h
noncomputable def yK:List PS:=[(.assign 7 (.idx V5 (.idx V2 V6))),(.assign 5 (.comp (.ite (.cmp .eq V8 V7) (.idx V5 V6) V8) (.one 8) .seq [V5] []))]
theorem YD{pl:Nat}(h1:pl<hd.length)(h2:pl<a.length)(h3:a.getD pl 0<hd.length)(hl:hd.length<=10):
  ∃K3,exs cf [A,B,some (.list (aI a)),u,v,some (.list (aI hd)),some (.int pl),x7,none,none] yK=.ok (.next [A,B,some (.list (aI a)),u,v,some (.list (aI (Vp a hd pl))),some (.int pl),K3,none,none]):=by
 have g1:=FN h1;have g2:=FN h2;have g3:=FN h3;generalize hy:a.getD pl 0=y at *;generalize hz:hd.getD y 0=z at *;generalize hx:hd.getD pl 0=x at *;refine⟨some (.int z),?_⟩;unfold yK;refine(AB (ρ':=[A,B,some (.list (aI a)),u,v,some (.list (aI hd)),some (.int pl),some (.int z),none,none]) (by
  simp only[Kx,EJ,Bp,slot];simp[AM,BM,g2,g3])).trans ?_
 have cm:ev cf [A,B,some (.list (aI a)),u,v,some (.list (aI hd)),some (.int pl),some (.int z),none,none] (.comp (.ite (.cmp .eq V8 V7) (.idx V5 V6) V8) (.one 8) .seq [V5] [])=.ok (.list (aI (Vp a hd pl))):=by
  refine BN (xs:=[.list (aI hd)]) (by rfl) rfl ?_ (by rw[GY,Vp,KK,Ab];exact bc hl);have e:aI (Vp a hd pl)=hd.map λh=>PV.int ((if h=z then x else h:Nat):Int):=by
   rw[aI,Vp,hy,hz,hx,A0g];rfl
  refine zr e ?_;refine Ck ?_;intro h hh;by_cases he:h=z
  ·subst he;simp[Bp,Kz,Sl,EJ,BO,slot,AM,RS,BM,G5,Gh,OR,Oa,g1]
  ·have Rt:¬((h:Int)=(z:Int)):=bY he;simp[Bp,Kz,Sl,EJ,BO,slot,AM,RS,BM,G5,Gh,OR,Oa,g1,he,Rt]
 refine(AB ?_).trans Ae;simp only[Kx,cm,AM];rfl
theorem PZ:(Vp a hd pl).length=hd.length:=by simp[Vp]
theorem lK(hs:s<=10){a:List Nat}(ha:a.length=s)(hA:∀k,k<s->a.getD k 0<s):∀{pls hd:List Nat}{x6 x7:Option PV},hd.length=s->(∀p∈pls,p<s) ->
  ∃Zn K3,An (λρ'=>exs cf ρ' yK) (.one 6) (pls.map λ(k:Nat)=>PV.int (k:Int)) [A,B,some (.list (aI a)),u,v,some (.list (aI hd)),x6,x7,none,none]=.ok (.next [A,B,some (.list (aI a)),u,v,some (.list (aI (pls.foldl (Vp a) hd))),Zn,K3,none,none]):=by
 intro pls;induction pls with
 |nil=>exact λ{hd}{x6}{x7}_ _=>⟨x6,x7,by simp[KG]⟩
 |cons p pls ih=>
  intro hd x6 x7 hh hp;have dm:=hp p (by simp);obtain⟨y7,e0⟩:=YD (A:=A) (B:=B) (u:=u) (v:=v) (x7:=x7) (a:=a) (hd:=hd) (pl:=p) (ba hh dm) (ba ha dm) (by exact ba hh (hA p dm)) (k7 hs hh);obtain⟨Zn,K3,e⟩:=ih (hd:=Vp a hd p) (x6:=some (.int p)) (x7:=y7) (zr PZ hh) (λk hk=>hp k (by simp[hk]));refine⟨Zn,K3,?_⟩;refine A1X ?_ e;exact zr A0Z (Aa (ρ1:=[A,B,some (.list (aI a)),u,v,some (.list (aI hd)),some (.int p),x7,none,none]) (by simp[HY]) e0)
theorem TR:∀s,s<5->∀a∈E0 s,a.length=s/\∀k,k<s->a.getD k 0<s:=by decide +kernel
theorem listRange{s:Nat}(hs:s<5)(h:slot ρ 0=.ok (.int s)):ev cf ρ (.prim .listRange [V0])=.ok (.list (aI (List.range s))):=by
 have h2:=rn1 (n:=s) (bZ hs);simp only[Bo,Bp,CC,AO,h,AM,jd,h2];exact XL (by rw[GY,A0q,Ab];exact wh hs:(aI (List.range s)).length<=Ab)
theorem d7(h0:0<s)(hs:s<5){wd:List (Nat×Int)}(hw:∀p∈wd,p.1+1<s):AC AA (n+1) 36 [.int s,.list (wI wd)]=.ok (.list (aI (H9 s (swAll (List.range s) (wd.map (·.1)))))):=by
 have hp:=TR s hs _ (JJ hs (w:=wd.map (·.1)) (by simpa using hw) (Ge s h0 hs));refine zr (c2 (by rfl)) ?_;generalize AC AA n=cf;obtain⟨u,v,e1⟩:=lE (cf:=cf) (s:=s) (jz hs) (B:=some (.list (wI wd))) (wd:=wd) (a:=List.range s) (u:=none) (v:=none) (by simp) hw;obtain⟨x6,x7,e2⟩:=lK (cf:=cf) (s:=s) (jz hs) (B:=some (.list (wI wd))) (u:=u) (v:=v) hp.1 hp.2 (pls:=List.range s) (hd:=List.range s) (x6:=none) (x7:=none) (by simp) (by simp);refine Al (o:=.ret _) rfl rfl ?_;refine(AB (ρ':=[some (.int s),some (.list (wI wd)),some (.list (aI (List.range s))),none,none,none,none,none,none,none]) (by
  refine zr Kx (zr (listRange hs rfl) ?_);rfl)).trans ?_
 refine(AB (As (xs:=[.list (wI wd)]) (by rfl) rfl e1)).trans ?_;refine(AB (ρ':=[some (.int s),some (.list (wI wd)),some (.list (aI (swAll (List.range s) (wd.map (·.1))))),u,v,some (.list (aI (List.range s))),none,none,none,none]) (by
  refine zr Kx (zr (listRange hs rfl) ?_);rfl)).trans ?_
 refine(AB (As (xs:=[.int s]) (by rfl) (Ba (bZ hs)) e2)).trans ?_;exact AS (by simp only[E8,Bp];rfl)
noncomputable def pm(v:Int):Int:=if Int.fmod v 2=0 then 1 else -1
theorem ZF(v:Int):pm v=1\/pm v=-1:=by unfold pm;split<;>simp
theorem ZW(h:ev cf ρ e=.ok (.int v)):ev cf ρ (.idx Ls (.bin .mod e K2))=.ok (.int (pm v)):=by
 have hr:=AZ v (m:=2) (by decide);have eM:FP [PV.int 1,PV.int (-1)]=.ok (.list [PV.int 1,PV.int (-1)]):=rfl;unfold pm;by_cases h0:Int.fmod v 2=0
 ·simp[F9,Vk,Gs,Y3,EJ,CC,AO,AM,Oe,BR,BR,BM,h,eM,h0]
 ·have h1:Int.fmod v 2=1:=wa hr.1 hr.2 h0;simp[F9,Vk,Gs,Y3,EJ,CC,AO,AM,Oe,BR,BR,BM,h,eM,h1]
theorem GH{xs:List Int}(h:k<xs.length):(xs.map PV.int)[k]?=some (.int (xs.getD k 0)):=by simp[List.getD,h]
def Pw(s:Nat)(wd:List (Nat×Int)):Prop:=∀p∈wd,p.1+1<s/\(p.2=1\/p.2=-1)
theorem Si(wd:List (Nat×Int))(p:Nat×Int):wI (wd++[p])=wI wd++[PV.tuple [.int (p.1:Int),.int p.2]]:=by simp[wI]
theorem NP(wd:List (Nat×Int)):(wI wd).length=wd.length:=by simp[wI]
noncomputable def yL:List PS:=[(.append 4 (.tup [(.bin .mod (.idx V2 (.bin .add K2 V5)) (.prim .max2 [K1,(.bin .sub V3 K1)])),(.idx Ls (.bin .mod (.bin .fdiv (.idx V2 (.bin .add K2 V5)) K7) K2))]))]
theorem YH{cf:Nat->List PV->Res PV}{xs:List Int}(hs:2<=s)(hk:k+2<xs.length)(hw:Pw s wd)(hl:wd.length<100):
  ∃p,Pw s (wd++[p])/\exs cf [A,B,some (.list (xs.map .int)),some (.int s),some (.list (wI wd)),some (.int k),u,none,none] yL=.ok (.next [A,B,some (.list (xs.map .int)),some (.int s),some (.list (wI (wd++[p]))),some (.int k),u,none,none]):=by
 have g:=GH hk;generalize xs.getD (k+2) 0=v at g;have hr:=AZ v (wb hs);have t1:((2:Int)+k).toNat=k+2:=v50;have t2:(0:Int)<=2+k:=wZ;have a1:ev cf [A,B,some (.list (xs.map .int)),some (.int s),some (.list (wI wd)),some (.int k),u,none,none] (.idx V2 (.bin .add K2 V5))=.ok (.int v):=by
  simp only[EJ,Bp,F9,Gs,slot];simp only[getElem?_cons_succ,getElem?_cons_zero,AM,G6,Ea,BM,t1,t2,if_true,g]
 have a2:ev cf [A,B,some (.list (xs.map .int)),some (.int s),some (.list (wI wd)),some (.int k),u,none,none] (.bin .mod (.idx V2 (.bin .add K2 V5)) (.prim .max2 [K1,(.bin .sub V3 K1)]))=.ok (.int (Int.fmod v ((s:Int)-1))):=by
  refine zr Gs (zr a1 ?_);have h1:(if(1:Int)<(s:Int)-1 then(s:Int)-1 else 1)=(s:Int)-1:=by split<;>(first|exact wY|exact wX hs (by assumption))
  have h2:¬((s:Int)-1=0):=wW hs;simp only[Bo,Bp,F9,Gs,CC,AO,slot,getElem?_cons_succ,getElem?_cons_zero,AM,YI,Oe,BR,ZE,p2K,h1,h2,if_false]
 have a3:ev cf [A,B,some (.list (xs.map .int)),some (.int s),some (.list (wI wd)),some (.int k),u,none,none] (.bin .fdiv (.idx V2 (.bin .add K2 V5)) K7)=.ok (.int (Int.fdiv v 7)):=by
  refine zr Gs (zr a1 ?_);simp[AM,F9,lQ,BR]
 have a4:=ZW a3;refine⟨((Int.fmod v ((s:Int)-1)).toNat,pm (Int.fdiv v 7)),?_,?_⟩
 ·intro p hp;rcases XP.1 hp with h|h
  ·exact hw p h
  ·simp at h;subst h;exact⟨by simp;exact v54 hs hr.2,ZF _⟩
 ·refine zr (Si _ _) ?_;simp only;refine zr (zv hr.1:((Int.fmod v ((s:Int)-1)).toNat:Int)=Int.fmod v ((s:Int)-1)) ?_;have Mx:(wI wd).length<Ab:=by rw[NP,Ab];exact jw hl
  have m2:∀a b:PV,PH [a,b]=.ok (.tuple [a,b]):=λa b=>rfl
  simp only[yL,G4,EO,aV,JB,CC,AO,a2,a4,AM,slot,getElem?_cons_succ,getElem?_cons_zero,m2,Mx,decide_true,if_true];rfl
theorem lO{xs:List Int}(hs:2<=s):∀{ks:List Nat}{wd:List (Nat×Int)}{x5:Option PV},(∀k∈ks,k+2<xs.length)->Pw s wd->wd.length+ks.length<100 ->
  ∃Mv VV,Pw s Mv/\Mv.length=wd.length+ks.length/\An (λρ'=>exs cf ρ' yL) (.one 5) (ks.map λ(k:Nat)=>PV.int (k:Int)) [A,B,some (.list (xs.map .int)),some (.int s),some (.list (wI wd)),x5,u,none,none]=.ok (.next [A,B,some (.list (xs.map .int)),some (.int s),some (.list (wI Mv)),VV,u,none,none]):=by
 intro ks;induction ks with
 |nil=>exact λ{wd}{x5}_ hw _=>⟨wd,x5,hw,rfl,rfl⟩
 |cons k ks ih=>
  intro wd x5 hk hw hl;simp at hl;obtain⟨p,hp,e0⟩:=YH hs (hk k (by simp)) hw (jy hl);obtain⟨Mv,VV,h1,h2,e⟩:=ih (wd:=wd++[p]) (x5:=some (.int k)) (λk' VY=>hk k' (by simp[VY])) hp (by simp;exact jx hl);refine⟨Mv,VV,h1,by simp at h2 ⊢;exact kQ h2,?_⟩;refine A1X ?_ e;exact zr A0Z (Aa rfl e0)
noncomputable def bcB:List PS:=[(.assign 6 (.call 36 true [V3,V4])),(.ite (.cmp .ne (.idx V6 V5) (.idx V6 (.bin .add V5 K1))) [(.append 4 (.tup [V5,(.idx Ls (.bin .mod (.bin .fdiv (.bin .fdiv (.idx V2 K1) (.const (.int 16))) (.bin .add V5 K1)) K2))]))] [])]
theorem Xs:∀(a:List Nat),PV.Bm (aI a)=true:=by
 intro a;induction a with
 |nil=>exact  rfl
 |cons _ a ih=>exact  by simpa [aI,kq,ZR,yA,y9] using ih
theorem UW(s:Nat)(a:List Nat):(H9 s a).length=s:=by
 have:∀(pls hd:List Nat),(pls.foldl (Vp a) hd).length=hd.length:=by
  intro pls;induction pls with
  |nil=>intro hd;rfl
  |cons p pls ih=>intro hd;rw[A1u,ih,PZ]
 have h:=this (List.range s) (List.range s);rw[A0q] at h;exact h
theorem YM{cf:Nat->List PV->Res PV}{xs:List Int}{hd:List Nat}(hx:1<xs.length)(hk:k+1<hd.length)(hl:hd.length<=10)(QD:wd.length<100)
  (fg:cf 36 [.int s,.list (wI wd)]=.ok (.list (aI hd))):
  ∃t u',(t=1\/t=-1)/\exs cf [A,B,some (.list (xs.map .int)),some (.int s),some (.list (wI wd)),some (.int k),u,none,none] bcB=.ok (.next [A,B,some (.list (xs.map .int)),some (.int s),some (.list (wI (if hd.getD k 0≠hd.getD (k+1) 0 then wd++[(k,t)] else wd))),some (.int k),u',none,none]):=by
 have g1:=FN (a:=hd) (k:=k) (dl hk);have g2:=FN (a:=hd) (k:=k+1) hk;have g3:=GH (xs:=xs) (k:=1) hx;generalize hd.getD k 0=y at g1 ⊢;generalize hd.getD (k+1) 0=z at g2 ⊢;generalize xs.getD 1 0=v at g3;have t1:((k:Int)+1).toNat=k+1:=uW;have t2:(0:Int)<=(k:Int)+1:=W2;have cl:(PV.list (aI hd)).clean=true:=Xs hd;refine⟨pm (Int.fdiv (Int.fdiv v 16) ((k:Int)+1)),some (.list (aI hd)),ZF _,?_⟩;refine(AB (ρ':=[A,B,some (.list (xs.map .int)),some (.int s),some (.list (wI wd)),some (.int k),some (.list (aI hd)),none,none]) (by
  simp only[Kx,Jl,Bp,CC,AO,slot,getElem?_cons_succ,getElem?_cons_zero,AM,fg,cl,Bool.or_true,if_true];rfl)).trans ?_
 refine(AB ?_).trans Ae;have a1:ev cf [A,B,some (.list (xs.map .int)),some (.int s),some (.list (wI wd)),some (.int k),some (.list (aI hd)),none,none] (.cmp .ne (.idx V6 V5) (.idx V6 (.bin .add V5 K1)))=.ok (.bool (decide (y≠z))):=by
  simp only[Kz,EJ,Gs,Bp,F9,slot,getElem?_cons_succ,getElem?_cons_zero,AM,BM,Int.natCast_nonneg,if_true,Int.toNat_natCast,g1,G6,Ea,t1,t2,g2,YA,Gh,OR,G5];by_cases h:y=z
  ·subst h;simp[AM]
  ·have h':¬((y:Int)=z):=bY h;simp[h,h',AM]
 have a2:ev cf [A,B,some (.list (xs.map .int)),some (.int s),some (.list (wI wd)),some (.int k),some (.list (aI hd)),none,none] (.bin .fdiv (.bin .fdiv (.idx V2 K1) (.const (.int 16))) (.bin .add V5 K1))=.ok (.int (Int.fdiv (Int.fdiv v 16) ((k:Int)+1))):=by
  have h1:¬((k:Int)+1=0):=J1;have h2:¬(1073741824<=((k:Int)+1).natAbs):=v52 hk hl;have h3:(xs.map PV.int)[(1:Int).toNat]?=some (.int v):=g3;have h4:((16:Int)=0)=False:=by simp
  have h5:(1073741824<=(16:Int).natAbs)=False:=by simp
  have h6:((0:Int)<=1)=True:=by simp
  simp only[EJ,Gs,Bp,F9,slot,getElem?_cons_succ,getElem?_cons_zero,AM,BM,h6,if_true,h3,G6,lQ,Ea,BR,h1,h2,h4,h5,decide_false,Bool.or_false,Bool.false_eq_true,if_false]
 have a3:=ZW a2;refine zr Vi (zr a1 ?_);by_cases h:y=z
 ·subst h;simp[AM,G4,EO]
 ·have Mx:(wI wd).length<Ab:=by rw[NP,Ab];exact jw QD
  have m2:∀a b:PV,PH [a,b]=.ok (.tuple [a,b]):=λa b=>rfl
  simp only[AM,ne_eq,h,not_false_eq_true,decide_true,if_true,G4,EO,aV,JB,Bp,CC,AO,a3,slot,getElem?_cons_succ,getElem?_cons_zero,m2,Mx,Si];rfl
theorem lT{xs:List Int}(hs:2<=s)(h5:s<5)(hx:1<xs.length)(fg:∀{wd:List (Nat×Int)},(∀p∈wd,p.1+1<s)->cf 36 [.int s,.list (wI wd)]=.ok (.list (aI (H9 s (swAll (List.range s) (wd.map (·.1))))))):∀{ks:List Nat}{wd:List (Nat×Int)}{x5 u:Option PV},(∀k∈ks,k+1<s)->Pw s wd->wd.length+ks.length<100 ->
  ∃Mv VV u',Pw s Mv/\Mv.map (·.1)=wd.map (·.1)++RV s ks (swAll (List.range s) (wd.map (·.1)))/\Mv.length<=wd.length+ks.length/\An (λρ'=>exs cf ρ' bcB) (.one 5) (ks.map λ(k:Nat)=>PV.int (k:Int)) [A,B,some (.list (xs.map .int)),some (.int s),some (.list (wI wd)),x5,u,none,none]=.ok (.next [A,B,some (.list (xs.map .int)),some (.int s),some (.list (wI Mv)),VV,u',none,none]):=by
 intro ks;induction ks with
 |nil=>exact λ{wd}{x5}{u}_ hw _=>⟨wd,x5,u,hw,by simp[lG],by simp,rfl⟩
 |cons k ks ih=>
  intro wd x5 u hk hw hl;simp at hl;have Kv:=hk k (by simp);have SH:=UW s (swAll (List.range s) (wd.map (·.1)));obtain⟨t,u1,ht,e0⟩:=YM (A:=A) (B:=B) (u:=u) (s:=s) (k:=k) (hd:=H9 s (swAll (List.range s) (wd.map (·.1)))) hx (by exact wV Kv SH) (by exact wU h5 SH) (wd:=wd) (by exact jy hl) (fg λp hp=>(hw p hp).1);by_cases hc:(H9 s (swAll (List.range s) (wd.map (·.1)))).getD k 0≠(H9 s (swAll (List.range s) (wd.map (·.1)))).getD (k+1) 0
  ·rw[XL hc] at e0;have lp:Pw s (wd++[(k,t)]):=by
    intro p hp;rcases XP.1 hp with h|h
    ·exact hw p h
    ·simp at h;subst h;exact⟨Kv,ht⟩
   obtain⟨Mv,VV,u',h1,h2,h3,e⟩:=ih (wd:=wd++[(k,t)]) (x5:=some (.int k)) (u:=u1) (λk' VY=>hk k' (by simp[VY])) lp (by simp;exact jx hl);refine⟨Mv,VV,u',h1,?_,by simp at h3 ⊢;exact kG h3,?_⟩
   ·refine zr h2 ?_;simp only[dB];refine zr (XL hc) ?_;simp[swAll]
   ·refine A1X ?_ e;exact zr A0Z (Aa (ρ1:=[A,B,some (.list (xs.map .int)),some (.int s),some (.list (wI wd)),some (.int k),u,none,none]) rfl e0)
  ·rw[Yf hc] at e0;obtain⟨Mv,VV,u',h1,h2,h3,e⟩:=ih (λk' VY=>hk k' (by simp[VY])) hw (wT hl);refine⟨Mv,VV,u',h1,?_,by simp;exact kH h3,?_⟩
   ·refine zr h2 ?_;simp only[dB];exact zr (Yf hc) rfl
   ·refine A1X ?_ e;exact zr A0Z (Aa rfl e0)
structure Zk(s:Nat)(wd:List (Nat×Int)):Prop where
 h0:0<s
 h5:s<5
 ok:Pw s wd
 len:wd.length<=10
 one:s=1->wd=[]
 more:2<=s->∃w0:List Nat,(∀i∈w0,i+1<s)/\wd.map (·.1)=w0++RV s (List.range (s-1)) (swAll (List.range s) w0)
theorem lP{xs:List Int}(h:1<xs.length)(hs:(s:Int)=1+Int.fmod (xs.getD 0 0) 4):
  ex cf [A,B,some (.list (xs.map .int)),none,none,none,none,none,none] (.assign 3 (.bin .add K1 (.bin .mod (.idx V2 K0) K4)))=.ok (.next [A,B,some (.list (xs.map .int)),some (.int s),none,none,none,none,none]):=by
 have g:=GH (k:=0) (wR h);generalize xs.getD 0 0=v at g hs;have g':(xs.map PV.int)[(0:Int).toNat]?=some (.int v):=g;have h4:((4:Int)=0)=False:=by simp
 have h6:((0:Int)<=0)=True:=by simp
 refine zr hs ?_;simp only[Kx,Gs,EJ,Bp,F9,slot,getElem?_cons_succ,getElem?_cons_zero,AM,BM,g',h6,if_true,G6,Oe,Ea,BR,h4,if_false];rfl
theorem VC{xs:List Int}(h:1<xs.length){s c:Nat}(hc:(c:Int)=Int.fmod (xs.getD 1 0) 8*(if 1<s then 1 else 0)):
  evs cf [A,some (.int 7),some (.list (xs.map .int)),some (.int s),some W,none,none,none,none] [(.bin .mul (.bin .mod (.idx V2 K1) (.bin .add V1 K1)) (.prim .intOf [(.cmp .gt V3 K1)]))]=.ok [.int c]:=by
 have g:=GH (xs:=xs) (k:=1) (wQ h);generalize xs.getD 1 0=v at g hc;have hr:=AZ v (m:=8) (by decide);have g':(xs.map PV.int)[(1:Int).toNat]?=some (.int v):=g;have h4:((7:Int)+1)=8:=rfl;have h5:((8:Int)=0)=False:=by simp
 have h6:((0:Int)<=1)=True:=by simp
 have b1:big (Int.fmod v 8)=false:=dV (Nat.not_le.2 (Nat.lt_trans (show(Int.fmod v 8).natAbs<8 from Int.ofNat_lt.1 (zr (Int.natAbs_of_nonneg hr.1) hr.2)) (by decide)));have b2:big 1=false:=by decide
 have b3:big 0=false:=by decide
 simp only[Gs,Kz,EJ,Bo,Bp,F9,CC,AO,slot,getElem?_cons_succ,getElem?_cons_zero,AM,BM,g',h6,if_true,G6,YJ,PG,Oe,Ea,BR,h4,h5,if_false,lF,BR,TO,O9,cQ];by_cases hs:1<s
 ·have h1:((s:Int)>1)=True:=by simp;exact wP hs
  rw[XL hs] at hc;simp[h1,b1,b2,hc,AM]
 ·have h1:((s:Int)>1)=False:=by simp;exact wO hs
  rw[Yf hs] at hc;simp[h1,b1,b3,hc,AM]
theorem lN(x:Int):∃s wd,Zk s wd/\AC AA (n+2) 37 [.int x,.int 7]=.ok (.tuple [.int (s:Nat),.list (wI wd)]):=by
 obtain⟨xs,hl,hr,pQ⟩:=Jr (n:=n) x xo2;have pP:AC AA (n+1) 32 [.int x,.int 9]=.ok (.list (xs.map .int)):=pQ;have r4:=AZ (xs.getD 0 0) (m:=4) (by decide);have r8:=AZ (xs.getD 1 0) (m:=8) (by decide);obtain⟨s,hs⟩:∃s:Nat,(s:Int)=1+Int.fmod (xs.getD 0 0) 4:=⟨(1+Int.fmod (xs.getD 0 0) 4).toNat,by exact v58 r4.1⟩;obtain⟨c,hc⟩:∃c:Nat,(c:Int)=Int.fmod (xs.getD 1 0) 8*(if 1<s then 1 else 0):=⟨(Int.fmod (xs.getD 1 0) 8*(if 1<s then 1 else 0)).toNat,by split<;>(first|exact v59 r8.1|exact v60)⟩;have fU:c<=7:=by
  refine A0e.1 (zr hc ?_);split
  ·exact zr (A1n _) (Int.le_of_lt_add_one r8.2)
  ·exact zr (Int.mul_zero _) (by decide)
 have fg:∀{wd:List (Nat×Int)},(∀p∈wd,p.1+1<s)->AC AA (n+1) 36 [.int s,.list (wI wd)]=.ok (.list (aI (H9 s (swAll (List.range s) (wd.map (·.1)))))):=λh=>d7 (bX r4.1 hs) (W1 r4.2 hs) h
 refine zr (c2 (by rfl)) ?_;generalize AC AA (n+1)=cf at *;have head:∀r,exs cf [some (.int x),some (.int 7),none,none,none,none,none,none,none] ((.assign 2 (.call 32 false [V0,(.bin .add K2 V1)]))::(.assign 3 (.bin .add K1 (.bin .mod (.idx V2 K0) K4)))::(.assign 4 (.lst []))::r)=exs cf [some (.int x),some (.int 7),some (.list (xs.map .int)),some (.int s),some (.list (wI [])),none,none,none,none] r:=by
  intro r;refine(AB (ρ':=[some (.int x),some (.int 7),some (.list (xs.map .int)),none,none,none,none,none,none]) (by first|rfl|simp[Kx,Bp,F9,Gs,Jl,CC,AO,slot,AM,G6,Ea,pP])).trans ?_;exact(AB (lP (li hl) hs)).trans (AB (by rfl))
 by_cases h2:2<=s
 ·obtain⟨wd,x5,k1,k2,e1⟩:=lO (A:=some (.int x)) (B:=some (.int 7)) (u:=none) (xs:=xs) h2 (ks:=List.range c) (wd:=[]) (x5:=none) (by simp;intro k hk;exact xo4 hl fU hk) (by simp[Pw]) (by simp;exact xo5 fU);obtain⟨Mv,VV,u',k3,k4,k5,e2⟩:=lT (A:=some (.int x)) (B:=some (.int 7)) (xs:=xs) h2 (W1 r4.2 hs) (li hl) fg (ks:=List.range (s-1)) (wd:=wd) (x5:=x5) (u:=none) (by simp;exact λk hk=>add_lt_of_lt_sub hk) k1 (by simp at k2 ⊢;exact xo6 r4.2 hs fU k2);simp at k2 k5;refine⟨s,Mv,⟨by exact bX r4.1 hs,by exact W1 r4.2 hs,k3,by exact xo7 r4.2 hs fU k2 k5,by intro e;exact absurd (e▸h2) (by decide),λJ=>⟨wd.map (·.1),λi hi=>by refine AE (Ya.1 hi) λp hp Av=>?_;subst Av;exact(k1 p hp).1,k4⟩⟩,?_⟩;refine Al (o:=.ret _) rfl rfl ?_;refine(head _).trans ?_;refine(AB (As (VC (li hl) hc) (Ba (zj fU)) e1)).trans ?_;have e3:((s:Int)-1)=((s-1:Nat):Int):=wM r4.1 hs;refine(AB (As (xs:=[.int ((s-1:Nat):Int)]) (by refine zr e3.symm ?_;simp[Bp,F9,Gs,CC,AO,slot,AM,YI,BR,BR]) (Ba (wL r4.2 hs)) e2)).trans ?_;exact AS (by rfl)
 ·have SE:s=1:=wK r4.1 hs h2;have mC:c=0:=by rw[Yf (by exact wJ h2)] at hc;exact v66 hc
  subst mC;refine⟨s,[],⟨by exact bX r4.1 hs,by exact W1 r4.2 hs,by simp[Pw],by simp,λJ=>rfl,λh=>by exact(wH h2 h).elim⟩,?_⟩;refine Al (o:=.ret _) rfl rfl ?_;refine(head _).trans ?_;refine(AB (ρ':=[some (.int x),some (.int 7),some (.list (xs.map .int)),some (.int s),some (.list (wI [])),none,none,none,none]) (As (VC (li hl) hc) (Ba jv) rfl)).trans ?_;exact(AB (As (xs:=[.int ((0:Nat):Int)]) (by subst SE;simp[Bp,F9,Gs,CC,AO,slot,AM,YI,BR,BR]) (Ba jv) rfl)).trans (AS (by rfl))
noncomputable def D4(wd:List (Nat×Int)):Nat->Int:=λl=>(wd.map (·.2)).getD l 1
theorem S5(h:Pw s wd):Sg (D4 wd):=by
 intro l;unfold D4;by_cases hl:l<wd.length
 ·exact zr (by simp[List.getD,hl]:(wd.map (·.2)).getD l 1=wd[l].2) ((h _ (A0w hl)).2)
 ·refine zr (by simp[List.getD,hl]:(wd.map (·.2)).getD l 1=1) ?_;simp
noncomputable def rI(sg:Nat->Int)(R:List (Nat×Bool)):List PV:=R.map λx=>PV.int (rv id sg x)
noncomputable def yF:List PS:=[(.unpack [8,9] (.idx V3 V7)),(.ite (.cmp .eq V5 V8) [(.append 4 (.bin .mul (.bin .add V7 K1) (.neg V9))),(.assign 5 (.bin .add V8 K1))] [(.ite (.cmp .eq V5 (.bin .add V8 K1)) [(.append 4 (.bin .mul (.bin .add V7 K1) V9)),(.assign 5 V8)] [])])]
def ON(a b c:Option PV)(wd:List (Nat×Int))(acc:List (Nat×Bool))(p:Nat)(x6 x7 x8 x9:Option PV):AP:=[a,b,c,some (.list (wI wd)),some (.list (rI (D4 wd) acc)),some (.int p),x6,x7,x8,x9,none,none,none]
theorem un(CL:D4 wd l=t):rI (D4 wd) (acc++[(l,true)])=rI (D4 wd) acc++[.int (((l:Int)+1)*-t)]:=by simp[rI,rv,CL]
theorem uo(CL:D4 wd l=t):rI (D4 wd) (acc++[(l,false)])=rI (D4 wd) acc++[.int (((l:Int)+1)*t)]:=by simp[rI,rv,CL]
theorem X4{p l i:Nat}(h:wd[l]?=some (i,t))(ht:t=1\/t=-1)(hl:l<1000)(ha:acc.length<1000):
  ∃QB QA,exs cf (ON a b c wd acc p x6 (some (.int l)) x8 x9) yF=.ok (.next (ON a b c wd (acc++(if p=i then[(l,true)] else if p=i+1 then[(l,false)] else[])) (Gd i p) x6 (some (.int l)) QB QA)):=by
 have g:(wI wd)[l]?=some (.tuple [.int (i:Int),.int t]):=by simp[wI,h]
 have CL:D4 wd l=t:=by simp[D4,List.getD,h]
 have la:(rI (D4 wd) acc).length<Ab:=by rw[rI,KK,Ab];exact jt ha
 have b1:big ((l:Int)+1)=false:=by unfold big;exact dV (v67 hl)
 have b2:big t=false:=by rcases ht with rfl|rfl<;>decide
 have b3:big (-t)=false:=by rcases ht with rfl|rfl<;>decide
 refine⟨some (.int i),some (.int t),?_⟩;refine(AB (ρ':=ON a b c wd acc p x6 (some (.int l)) (some (.int i)) (some (.int t))) ?_).trans ?_
 ·have e0:ev cf (ON a b c wd acc p x6 (some (.int l)) x8 x9) (.idx V3 V7)=.ok (.tuple [.int i,.int t]):=by
   show(if(0:Int)<=l then(match (wI wd)[(l:Int).toNat]? with|some d=>Res.ok d|none=>.stuck) else .stuck)=_;rw[XL (A0H l),A0R,g]
  refine zr Rs (zr e0 ?_);rfl
 unfold Gd;refine(AB ?_).trans Ae;refine zr (Ai (t:=((p:Int)==(i:Int))) rfl) ?_;by_cases h1:p=i
 ·subst h1;refine zr (XL (A0v _)) (zr (XL rfl) (zr (XL rfl) ?_));refine(AB (Cj (l:=rI (D4 wd) acc) rfl (CU (y:=-t) rfl rfl b1 b3) la)).trans ((AB rfl).trans ?_);refine zr Ae ?_;unfold ON;refine zr (un CL) ?_;rfl
 ·refine zr (A1l (bY h1)) (zr (Yf (by decide)) (zr (Yf h1) (zr (Yf h1) ?_)));refine(AB ?_).trans Ae;refine zr (Ai (t:=((p:Int)==(i:Int)+1)) rfl) ?_;by_cases h2:p=i+1
  ·have dz:((p:Int)==(i:Int)+1)=true:=by exact zr h2 (A0v _)
   refine zr dz (zr (XL rfl) (zr (XL h2) (zr (XL h2) ?_)));refine(AB (Cj (l:=rI (D4 wd) acc) rfl (CU (y:=t) rfl rfl b1 b2) la)).trans ((AB rfl).trans ?_);refine zr Ae ?_;unfold ON;refine zr (uo CL) ?_;rfl
  ·have dz:((p:Int)==(i:Int)+1)=false:=A1l (wD h2);rw[dz,Yf (by decide),Yf h2,Yf h2,A0k];exact Ae
theorem Oy:∀{v:List Nat}{l p:Nat},(M1 v l p).length<=v.length:=by
 intro v;induction v with
 |nil=>exact λ{_}{_}=>by simp[Se]
 |cons i v ih=>
  intro l p;have:=ih (l:=l+1) (p:=Gd i p);simp only[WV,length_append,length_cons];split;simp;exact ju this;split<;>simp<;>(first|exact ju this|exact o53 this)
theorem cr(hw:Pw s wd)(hl:wd.length<=10):∀{v pre:List (Nat×Int)}{acc:List (Nat×Bool)}{p:Nat}{x7 x8 x9:Option PV},wd=pre++v->acc.length+v.length<1000 ->
  ∃K3 QB QA,An (λρ'=>exs cf ρ' yF) (.one 7) ((List.range' pre.length v.length).map λ(k:Nat)=>PV.int (k:Int)) (ON a b c wd acc p x6 x7 x8 x9)=.ok (.next (ON a b c wd (acc++M1 (v.map (·.1)) pre.length p) (fin (v.map (·.1)) p) x6 K3 QB QA)):=by
 intro v;induction v with
 |nil=>exact λ{pre}{acc}{p}{x7}{x8}{x9}_ _=>⟨x7,x8,x9,by simp[KG,Se,OC]⟩
 |cons pq v ih=>
  intro pre acc p x7 x8 x9 h hn;obtain⟨i,t⟩:=pq;obtain⟨Ta,J1,e0⟩:=X4 (by refine zr h ?_;simp:wd[pre.length]?=some (i,t)) ((hw (i,t) (by refine zr h ?_;simp)).2) (by rw[h] at hl;simp at hl;exact wF hl:pre.length<1000) (wE hn);obtain⟨K3,QB,QA,e⟩:=ih (pre:=pre++[(i,t)]) (acc:=acc++(if p=i then[(pre.length,true)] else if p=i+1 then[(pre.length,false)] else[])) (p:=Gd i p) (x7:=some (.int pre.length)) (x8:=Ta) (x9:=J1) (by simp[h]) (by
   simp at hn ⊢;split;simp;exact Ng hn;split<;>simp<;>(first|exact Ng hn|exact js hn))
  refine⟨K3,QB,QA,?_⟩;rw[CZ,nP] at e;have e':M1 (((i,t)::v).map (·.1)) pre.length p=(if p=i then[(pre.length,true)] else if p=i+1 then[(pre.length,false)] else[])++M1 (v.map (·.1)) (pre.length+1) (Gd i p):=rfl;rw[e',<-on];refine A1X ?_ e;exact zr A0P (zr A1e (zr A0Z (Aa rfl e0)))
def drO:List PS:=[(.for_ (.one 7) .range1 [(ln V3)] yF)]
theorem X3(hw:Pw s wd)(hl:wd.length<=10)(ha:acc.length+wd.length<1000):
  ∃K3 QB QA,exs cf (ON a b c wd acc p x6 x7 x8 x9) drO=.ok (.next (ON a b c wd (acc++M1 (wd.map (·.1)) 0 p) (fin (wd.map (·.1)) p) x6 K3 QB QA)):=by
 obtain⟨K3,QB,QA,e⟩:=cr (a:=a) (b:=b) (c:=c) (x6:=x6) (x7:=x7) (x8:=x8) (x9:=x9) hw hl (v:=wd) (pre:=[]) (acc:=acc) (p:=p) rfl ha;refine⟨K3,QB,QA,?_⟩;rw[A1t,<-A1W] at e;refine(AB (As (xs:=[.int (wd.length:Nat)]) (by first|rfl|simp[Bp,Bo,CC,AO,slot,AM,Hh,O9,No,ON,NP]) (Ba (wG hl)) e)).trans Ae
theorem cq(hw:Pw s wd)(hl:wd.length<=10):∀{ts:List Nat}{acc:List (Nat×Bool)}{p:Nat}{x6 x7 x8 x9:Option PV},acc.length+ts.length*10<500 ->
  ∃Zn K3 QB QA p',An (λρ'=>exs cf ρ' drO) (.one 6) (ts.map λ(k:Nat)=>PV.int (k:Int)) (ON a b c wd acc p x6 x7 x8 x9)=.ok (.next (ON a b c wd (acc++Ia (wd.map (·.1)) ts.length p) p' Zn K3 QB QA)):=by
 intro ts;induction ts with
 |nil=>exact λ{acc}{p}{x6}{x7}{x8}{x9}_=>⟨x6,x7,x8,x9,p,by simp[KG,Wu]⟩
 |cons k ts ih=>
  intro acc p x6 x7 x8 x9 hn;simp at hn;have QD:=Oy (v:=wd.map (·.1)) (l:=0) (p:=p);rw[KK] at QD;obtain⟨y7,Ta,J1,e0⟩:=X3 (cf:=cf) (b:=b) (c:=c) (x6:=some (.int k)) (x7:=x7) (x8:=x8) (x9:=x9) hw hl (acc:=acc) (p:=p) (v68 hl hn);obtain⟨Zn,K3,QB,QA,p',e⟩:=ih (acc:=acc++M1 (wd.map (·.1)) 0 p) (p:=fin (wd.map (·.1)) p) (x6:=some (.int k)) (x7:=y7) (x8:=Ta) (x9:=J1) (by simp;exact v69 hl hn QD);refine⟨Zn,K3,QB,QA,p',?_⟩;rw[on] at e;refine A1X ?_ e;exact zr A0Z (Aa rfl e0)
theorem Tt{a:Int}:0<(if 1<a then a else 1):=by split<;>first|exact Int.lt_trans (show(0:Int)<1 by decide) (by assumption)|decide
theorem X5:∀{wd:List (Nat×Int)}{u v:Option PV},
  A8 (λρ'=>ev cf ρ' HM) (λρ'=>evAnd cf ρ' []) (.many [11,12]) (wI wd) [a0,a1,a2,a3,a4,a5,a6,a7,a8,a9,a10,u,v]=.ok (wd.map λp=>PV.int p.2):=by
 intro wd;induction wd with
 |nil=>exact λ{u}{v}=>rfl
 |cons pq wd ih=>
  intro u v;obtain⟨i,t⟩:=pq;have:=ih (u:=some (.int i)) (v:=some (.int t));show A8 _ _ _ (PV.tuple [.int (i:Int),.int t]::wI wd) _=_;simp only[Bp,BO,slot] at this ⊢;simp[IR,Wa,AM,this]
theorem ct{p k:Nat}(hk:k<=R.length)(hR:R.length<500)(hw:wd.length<=10)
  (h13:cf 35 [.list (Ig k (rI (D4 wd) R)),.list (.int 0::wd.map λp=>PV.int p.2)]=.ok X):
  ex cf [some (.int x),a1,a2,some (.list (wI wd)),some (.list (rI (D4 wd) R)),some (.int p),x6,x7,x8,x9,some (.int k),none,none] (.ret (.call 35 false [(.bin .add (.slL V4 Ki) (.slH V4 Ki)),(.bin .add (.lst [K0]) (.comp HM (.many [11,12]) .seq [V3] []))]))=.ok (.ret X):=by
 have hl:(rI (D4 wd) R).length=R.length:=by simp[rI]
 have c1:=Kc (k:=k) (jr hk hl);have c2:=OX (k:=k) (jr hk hl);have m1:FP ((rI (D4 wd) R).drop k++(rI (D4 wd) R).take k)=.ok (.list (Ig k (rI (D4 wd) R))):=by
  unfold FP;refine zr (XL (by rw[CZ,A0n,A0V,hl,Ab];exact wA hR:((rI (D4 wd) R).drop k++(rI (D4 wd) R).take k).length<=Ab)) ?_;rfl
 have m2:FP [PV.int 0]=.ok (.list [.int 0]):=rfl;have m3:FP ([PV.int 0]++wd.map λp=>PV.int p.2)=.ok (.list (.int 0::wd.map λp=>PV.int p.2)):=by
  unfold FP;refine zr (XL (by rw[CZ,KK,nP,Ab];exact w9 hw:([PV.int 0]++wd.map λp=>PV.int p.2).length<=Ab)) ?_;rfl
 have cm:ev cf [some (.int x),a1,a2,some (.list (wI wd)),some (.list (rI (D4 wd) R)),some (.int p),x6,x7,x8,x9,some (.int k),none,none] (.comp HM (.many [11,12]) .seq [V3] [])=.ok (.list (wd.map λp=>PV.int p.2)):=by
  refine BN (ds:=wI wd) (by rfl) rfl ?_ (by rw[KK,Ab];exact bc hw);exact X5
 simp only[E8,Jl,Gs,Sk,Sj,Vk,Bp,F9,CC,AO,cm,slot,getElem?_cons_succ,getElem?_cons_zero,AM,FX,FY,c1,c2,G6,Zg,m1,m2,m3,h13,Bool.not_false,Bool.true_or,if_true]
theorem Wt{w:List Nat}:∀{t p:Nat},(Ia w t p).length<=t*w.length:=by
 intro t;induction t with
 |zero=>exact λ{_}=>by simp[Wu]
 |succ t ih=>
  intro p;rw[bH,CZ,Nat.add_mul];exact wC (Oy (v:=w) (l:=0) (p:=p)) (ih (p:=fin w p))
theorem l8{n:Nat}(x:Int):∃s wd k,Zk s wd/\k<=(Ia (wd.map (·.1)) s 0).length/\AC AA (n+3) 38 [.int x,.int 7]=.ok (dI (Pl (Ig k (Ia (wd.map (·.1)) s 0)) (D4 wd),Pj (Ig k (Ia (wd.map (·.1)) s 0)) (D4 wd))):=by
 obtain⟨s,wd,B,e15⟩:=lN (n:=n) x;have QD:wd.length<=10:=mu B.len (by decide);have h5:=B.h5;have yy:=Wt (w:=wd.map (·.1)) (t:=s) (p:=0);rw[KK] at yy;have eZ:(Ia (wd.map (·.1)) s 0).length<=40:=mu yy (Nat.mul_le_mul (show s<=4 by exact wB h5) QD);have nc:∀{l:Nat}{b:Bool},(l,b)∈Ia (wd.map (·.1)) s 0->l<wd.length:=by
  intro l b h;obtain⟨t,-,h⟩:=J8.1 h;obtain⟨i,e,h1,-⟩:=En.1 h;rw[KK] at h1;exact kN e h1
 generalize hR:Ia (wd.map (·.1)) s 0=R at *;have hr:=AZ (Int.fmod x 1009) (Tt:(0:Int)<(if(1:Int)<(R.length:Int) then(R.length:Int) else 1));obtain⟨k,hk⟩:∃k:Nat,(k:Int)=Int.fmod (Int.fmod x 1009) (if(1:Int)<(R.length:Int) then(R.length:Int) else 1):=⟨(Int.fmod (Int.fmod x 1009) (if(1:Int)<(R.length:Int) then(R.length:Int) else 1)).toNat,by exact zv hr.1⟩;have I7:k<=R.length:=by
  by_cases h:(1:Int)<(R.length:Int)
  ·rw[XL h] at hr hk;exact w8 hr.2 hk
  ·rw[Yf h] at hr hk;exact w7 hr.2 hk
 refine⟨s,wd,k,B,zr hR I7,?_⟩;refine zr hR ?_;have aP:=KA (n:=n+1) (S5 B.ok) (q:=id) (R:=Ig k R) (λa J b J e=>e) (by simp[Ig];exact w6 eZ) (P:=.list (Ig k (rI (D4 wd) R))) (T:=.list (.int 0::wd.map λp=>PV.int p.2)) (by
  rw[rI,Wp];rfl) (by
  intro l hl;obtain⟨b,hb⟩:=BZ.1 hl;have hm:(l,b)∈R:=by
   unfold Ig at hb;rcases XP.1 hb with h|h
   ·exact A1F h
   ·exact A1A h
  have hlt:=nc hm;have t1:((l:Int)+1).toNat=l+1:=uW;have t2:(0:Int)<=(l:Int)+1:=W2;have g:(PV.int 0::wd.map λp=>PV.int p.2)[l+1]?=some (.int (D4 wd l)):=by
   simp[D4,List.getD,hlt]
  simp only[BM,id,t1,t2,if_true,g])
 have pO:AC AA (n+2) 35 [.list (Ig k (rI (D4 wd) R)),.list (.int 0::wd.map λp=>PV.int p.2)]=.ok (dI (Pl (Ig k R) (D4 wd),Pj (Ig k R) (D4 wd))):=aP;clear aP;refine zr (c2 (by rfl)) ?_;generalize AC AA (n+2)=cf at *;obtain⟨x6,x7,x8,x9,p,e⟩:=cq (cf:=cf) (a:=some (.int x)) (c:=some (.int s)) B.ok QD (ts:=List.range s) (acc:=[]) (p:=0) (x6:=none) (x7:=none) (x8:=none) (x9:=none) (by simp;exact v70 h5);rw[A0q,nil_append,hR] at e;refine Al (o:=.ret _) (ρ:=[some (.int x),some (.int 7),none,none,none,none,none,none,none,none,none,none,none]) rfl rfl ?_;refine(AB (ρ':=[some (.int x),some (.int 7),some (.int s),some (.list (wI wd)),none,none,none,none,none,none,none,none,none]) (by first|rfl|simp[Rs,Bp,Jl,CC,AO,slot,Wa,AM,e15])).trans ?_;refine(AB (ρ':=[some (.int x),some (.int 7),some (.int s),some (.list (wI wd)),some (.list (rI (D4 wd) [])),none,none,none,none,none,none,none,none]) (by rfl)).trans ?_;refine(AB (ρ':=ON (some (.int x)) (some (.int 7)) (some (.int s)) wd [] 0 none none none none) (by rfl)).trans ?_;refine(AB (As (xs:=[.int s]) (by rfl) (Ba (bZ h5)) e)).trans ?_;refine(AB (ρ':=[some (.int x),some (.int 7),some (.int s),some (.list (wI wd)),some (.list (rI (D4 wd) R)),some (.int p),x6,x7,x8,x9,some (.int k),none,none]) ?_).trans ?_
 ·have hl:(rI (D4 wd) R).length=R.length:=by simp[rI]
  have h1:((1009:Int)=0)=False:=by simp
  have h2:((if(1:Int)<(R.length:Int) then(R.length:Int) else 1)=0)=False:=eq_false (Int.ne_of_gt Tt);refine zr hk ?_;simp only[ON,Kx,Gs,Bo,Bp,F9,CC,AO,slot,getElem?_cons_succ,getElem?_cons_zero,AM,Oe,BR,Hh,ZE,O9,p2K,No,h1,if_false,hl,h2];rfl
 ·exact AS (ct I7 (w5 eZ) QD pO)
theorem GS(ha:A.length=5)(h:exs (AC AA n) (A.map some++[none,none,none,none]) B5.body=.ok (.ret d)):AC AA (n+1) 33 A=.ok d:=by
 refine zr (c2 (by rfl)) ?_;exact Al (o:=.ret d) ha rfl h
noncomputable def xz:List PS:=B5.body.drop 3
section
variable {cf:Nat->List PV->Res PV}{L:List Int}{P T:List (Key×PV)}{gp w v t:Int}{k j:Nat}
noncomputable def Qt(L:List Int)(P T:List (Key×PV))(gp w:Int)(a b:Option PV):AP:=[some (.list (L.map .int)),some (.dict P),some (.dict T),some (.int gp),some (.int w),a,b,none,none]
theorem ZM(hw:w=1\/w=-1):ex cf (Qt L P T gp w none none) (.assign 5 (.bin .sub V3 (.prim .intOf [(.cmp .eq V4 Km)])))=.ok (.next (Qt L P T gp w (some (.int (gp-(if w=-1 then 1 else 0)))) none)):=by
 rcases hw with rfl|rfl<;>rfl
theorem Fu(hw:w=1\/w=-1)(hk:gp-(if w=-1 then 1 else 0)=k)(h:L[k]?=some v):
  exs cf (Qt L P T gp w none none) B5.body=exs cf (Qt L P T gp w (some (.int k)) (some (.int v))) xz:=by
 refine(AB (ZM hw)).trans ?_;refine zr hk ?_;refine(AB (AI ?_)).trans ((AB (AF ?_)).trans rfl)
 ·have h2:((k:Int)==((L.map PV.int).length:Nat))=false:=by refine zr (KK _) ?_;simp;exact kL ((fR.1 h).1)
  show(if decide ((k:Int)<0)=true then Res.ok true else _).bind _=_;refine zr (dV (A1I.2 (A0H k))) ?_;show(if((k:Int)==((L.map PV.int).length:Nat))=true then Res.ok true else Res.ok false).bind _=_;refine zr h2 ?_;rfl
 ·show(if(0:Int)<=k then(match (L.map PV.int)[(k:Int).toNat]? with|some d=>Res.ok d|none=>.stuck) else .stuck)=_;rw[XL (A0H k),A0R,A0Q,h];rfl
theorem Lk:exs cf (Qt L P T gp w (some (.int k)) (some (.int 0))) xz=.ok (.ret (.tuple [.int (gp+w),.int w])):=rfl
theorem PO(hw:w=1\/w=-1)(hv:v≠0)(ht:t=1\/t=-1)(hf:AR T (.int (absI v))=true)(hd:Am T (.int (absI v))=some (.int t))(SI:AR P (.int (-v))=true)(Au:Am P (.int (-v))=some (.int j)):
  exs cf (Qt L P T gp w (some (.int k)) (some (.int v))) xz=.ok (.ret (if w*(if v<0 then -t else t)=1 then .tuple [.int (j+1),.int 1] else .tuple [.int j,.int (-1)])):=by
 have e1:ev cf (Qt L P T gp w (some (.int k)) (some (.int v))) (.bin .mul V4 (.idx V2 (ab V6)))=.ok (.int (w*t)):=by
  show(if AR T (.int (absI v))=true then(match Am T (.int (absI v)) with|some d=>Res.ok d|none=>.stuck) else .stuck).bind (λy=>EZ .mul (.int w) y)=_;refine zr (XL hf) (zr hd ?_);rcases hw with rfl|rfl<;>rcases ht with rfl|rfl<;>rfl
 have e2:ev cf (Qt L P T gp w (some (.int k)) (some (.int v))) (.idx Ls (.prim .intOf [(.cmp .lt V6 K0)]))=.ok (.int (if v<0 then -1 else 1)):=by
  show CI (.list [.int 1,.int (-1)]) (.int (if decide (v<0)=true then 1 else 0))=_;by_cases q:v<0
  ·refine zr (XL (ac q)) (zr (XL q) ?_);rfl
  ·refine zr (Yf (by simpa using q)) (zr (Yf q) ?_);rfl
 have e3:ev cf (Qt L P T gp w (some (.int k)) (some (.int v))) (.idx V1 (.neg V6))=.ok (.int j):=by
  show(if AR P (.int (-v))=true then(match Am P (.int (-v)) with|some d=>Res.ok d|none=>.stuck) else .stuck)=_;exact zr (XL SI) (zr Au rfl)
 have e4:ev cf (Qt L P T gp w (some (.int k)) (some (.int v))) (.cmp .eq (.bin .mul (.bin .mul V4 (.idx V2 (ab V6))) (.idx Ls (.prim .intOf [(.cmp .lt V6 K0)]))) K1)=.ok (.bool (w*(if v<0 then -t else t)==1)):=by
  refine zr Kz (zr (CU (cf:=cf) e1 e2 (by rcases hw with rfl|rfl<;>rcases ht with rfl|rfl<;>decide) (by split<;>decide)) ?_);show Res.ok (PV.bool (w*t*(if v<0 then -1 else 1)==1))=_
  congr 3
  by_cases q:v<0
  ·rw[XL q,XL q,Int.mul_neg,A1n,Int.mul_neg]
  ·rw[Yf q,Yf q,A1n]
 refine(AB (ρ':=Qt L P T gp w (some (.int k)) (some (.int v))) ?_).trans ?_
 ·show(if(v==0)=true then _ else _)=_;refine zr (by simpa using hv:(v==0)=false) ?_;rfl
 by_cases hu:w*(if v<0 then -t else t)=1
 ·refine zr (XL hu) ?_;refine AS ?_;refine zr (Ai e4) (zr (XL (zr hu rfl)) ?_);refine AS ?_;refine zr E8 (zr JB (zr AO (zr Gs (zr e3 ?_))));rfl
 ·refine zr (Yf hu) ?_;refine(AB (ρ':=Qt L P T gp w (some (.int k)) (some (.int v))) ?_).trans (AS ?_)
  ·refine zr (Ai e4) (zr (Yf (by simpa using hu)) ?_);rfl
  ·refine zr E8 (zr JB (zr AO (zr e3 ?_)));rfl
end
noncomputable def MR(L:List Int):List (Key×PV):=L.zipIdx.map λp=>(Key.int p.1,PV.int p.2)
theorem cw:∀{L:List Int}{j:Nat},((L.zipIdx j).map λp=>(Key.int p.1,PV.int p.2)).find? (λp=>p.1=Key.int v)=(L.idxOf? v).map λk=>(Key.int v,PV.int ((j+k:Nat):Int)):=by
 intro L;induction L with
 |nil=>exact λ{_}=>rfl
 |cons a L ih=>
  intro j;refine zr zipIdx_cons (zr A0Z (zr A2B (zr idxOf?_cons ?_)));by_cases e:a=v
  ·subst e;rw[ac rfl,A0v];rfl
  ·have h1:=dV λq=>e (Key.int.inj q)
   have h2:=A1l e;simp only[h1,h2];refine zr (ih) ?_;cases L.idxOf? v with
   |none=>rfl
   |some k=>show some (Key.int v,PV.int ((j+1+k:Nat):Int))=some (Key.int v,PV.int ((j+(k+1):Nat):Int));rw[Nat.add_right_comm,Nat.add_assoc]
theorem Pn{k:Nat}(h:L.idxOf? v=some k):Am (MR L) (.int v)=some (.int k):=by
 unfold Am MR;rw[cw,h,Option.map_some,Option.map_some,A1v]
theorem IN:AR (MR L) (.int i)=true:=by simp[AR,MR,Jv]
theorem Nr(o:Go L T q)(hx:x∈BL L):
  AC AA (n+1) 33 [.list (L.map .int),.dict (MR L),.dict T,.int x.1,.int (if x.2 then 1 else -1)]=.ok (sI (rnx L q x)):=by
 obtain⟨g,b⟩:=x;have hx:=AU.1 hx;cases b with
 |true=>
  have hk:(g:Int)-(if(1:Int)=-1 then 1 else 0)=g:=by rw[Yf (by decide),Int.sub_zero]
  cases h:L[g]? with
  |none=>
   refine zr (D5 h) ?_;refine GS rfl ((AB (ZM (.inl rfl))).trans (AS ?_));refine zr hk ?_;have h3:((g:Int)==((L.map PV.int).length:Nat))=true:=by refine zr (KK _) (zr (Nat.le_antisymm (A14 hx) (A0l.1 h):g=L.length) ?_);exact A0v _
   have hc:ev (AC AA n) (Qt L (MR L) T g 1 (some (.int g)) none) (.or [(.cmp .lt V5 K0),(.cmp .eq V5 (ln V0))])=.ok (.bool true):=by
    show(if decide ((g:Int)<0)=true then Res.ok true else _).bind _=_;refine zr (dV (A1I.2 (A0H g))) ?_;show(if((g:Int)==((L.map PV.int).length:Nat))=true then Res.ok true else Res.ok false).bind _=_;refine zr h3 ?_;rfl
   refine zr (Ai hc) ?_;rfl
  |some v=>
   have hv:=A0C h;refine zr (Fd h) ?_;by_cases h0:v=0
   ·subst h0;refine zr (XL rfl) ?_;exact GS rfl ((Fu (.inl rfl) hk h).trans (Lk.trans rfl))
   ·refine Ca (o.tn v hv h0) λt ht hd e=>?_
    refine zr (Yf h0) (zr e ?_);refine GS rfl ((Fu (.inl rfl) hk h).trans ((PO (.inl rfl) h0 ht (o.fits _) hd IN (Pn (o.ix hv))).trans ?_));refine zr (A1T _) ?_;generalize (if v<0 then -t else t)=u;by_cases hu:u=1
    ·refine zr (XL hu) (zr (XL hu) ?_);rfl
    ·refine zr (Yf hu) (zr (Yf hu) ?_);rfl
 |false=>
  cases g with
  |zero=>exact GS rfl rfl
  |succ g=>
   have hk:(((g+1:Nat):Int))-(if(-1:Int)=-1 then 1 else 0)=g:=by exact zr (XL rfl) iI
   have h:=TW (A1H hx);generalize L[g]'(A1H hx)=v at h;have hv:=A0C h;refine zr (FC h) ?_;by_cases h0:v=0
   ·subst h0;refine zr (XL rfl) ?_;refine GS rfl ((Fu (.inr rfl) hk h).trans (Lk.trans ?_));refine zr (show(((g+1:Nat):Int))+-1=g by exact sH) ?_;rfl
   ·refine Ca (o.tn v hv h0) λt ht hd e=>?_
    refine zr (Yf h0) (zr e ?_);refine GS rfl ((Fu (.inr rfl) hk h).trans ((PO (.inr rfl) h0 ht (o.fits _) hd IN (Pn (o.ix hv))).trans ?_));have hu:(if v<0 then -t else t)=1\/(if v<0 then -t else t)=-1:=by rcases ht with rfl|rfl<;>split<;>first|exact .inl rfl|exact .inr rfl
    rcases hu with h|h<;>refine zr h ?_<;>rfl
noncomputable def dW(G:List (Sd×Nat)):List (Key×PV):=G.map λy=>(kI y.1,PV.int y.2)
theorem KZ:AR (dW G) (.tup l)=true:=by simp[AR,dW,S9,kI]
theorem Ux:Bs (dW G) (kI x)=decide (x∈G.map (·.1)):=by
 rw[A1G];unfold Bs dW;rw[A1J,A0j];constructor
 ·rintro⟨p,hp,e⟩;refine AE (Ya.1 hp) λy hy Av=>?_;subst Av
  exact Ya.2 ⟨y,hy,Nt (A0N e)⟩
 ·intro h;refine AE (Ya.1 h) λy hy Av=>?_;subst Av
  exact⟨(kI y.1,.int y.2),Ya.2 ⟨y,hy,rfl⟩,ac rfl⟩
theorem cu{c:Nat}(h:x∉G.map (·.1)):Aj (dW G) (kI x) (.int c)=dW (G++[(x,c)]):=by
 unfold Aj;refine zr Ux (zr (dV h) (zr (Yf A0O) ?_));unfold dW;refine zr A0D ?_;rfl
theorem Xk:CG (sI x) (.dict (dW G))=.ok (decide (x∈G.map (·.1))):=by
 simp[CG,Ha,kI,KZ];exact Ux
theorem RQ(hn:(L++v::M).Nodup):Bs (MR L) (.int v)=false:=by
 unfold Bs MR;rw[A2C];intro p hp q;refine AE (Ya.1 hp) λy hy Av=>?_;subst Av
 exact(A0S.1 hn).2.2 y.1 (List.fst_mem_of_mem_zipIdx hy) v d4 (Key.int.inj (A0N q))
theorem X7(hn:(L++v::M).Nodup):Aj (MR L) (.int v) (.int L.length)=MR (L++[v]):=by
 unfold Aj;refine zr (RQ hn) (zr (Yf A0O) ?_);unfold MR;rw[List.zipIdx_append,A0D,A1v];rfl
structure LI(L:List Int)(q:Int->Int)(a:List (Sd×Nat)×Nat):Prop where
 nd:(a.1.map (·.1)).Nodup
 sub:∀y∈a.1.map (·.1),y∈BL L
 cl:∀y∈a.1.map (·.1),rnx L q y∈a.1.map (·.1)
 le:∀p∈a.1,p.2<=a.2
 same:∀p∈a.1,∀r∈a.1,p.2=r.2↔Reach (rnx L q) p.1 r.1
def M2(L:List Int)(q:Int->Int)(a:List (Sd×Nat)×Nat)(x:Sd):List (Sd×Nat)×Nat:=if x∈a.1.map (·.1) then a else(a.1++(EC L q x).map (λy=>(y,a.2+1)),a.2+1)
theorem Fp{F:List Sd}{c:Nat}:(F.map λy=>(y,c)).map (·.1)=F:=by
 rw[A0g,show((λp:Sd×Nat=>p.1)∘λy=>(y,c))=id from rfl,List.map_id]
theorem LI.reach(I:LI L q a)(hx:x∈a.1.map (·.1))(r:Reach (rnx L q) x y):y∈a.1.map (·.1):=Reach.mem I.cl hx r
theorem LI.apart(o:Row L q)(I:LI L q a)(hx:x∈BL L)(hG:x∉a.1.map (·.1))(r:Reach (rnx L q) x y):y∉a.1.map (·.1):=λhy=>hG (I.reach hy (DY o hx r))
theorem LI.step(o:Row L q)(hm:L.length<=1000){a:List (Sd×Nat)×Nat}(I:LI L q a){x:Sd}(hx:x∈BL L):LI L q (M2 L q a x):=by
 by_cases h:x∈a.1.map (·.1)
 ·exact zr (show M2 L q a x=a from XL h) I
 ·refine zr (show M2 L q a x=_ from Yf h) ?_;refine LL (Cr o hm hx) λJ h2 h3 h4=>?_
  have sym:∀y∈EC L q x,Reach (rnx L q) y x:=λy hy=>DY o hx ((h4 y).1 hy)
  refine⟨?_,λy hy=>?_,λy hy=>?_,λp hp=>?_,λp hp r hr=>?_⟩
  ·exact zr A0D (zr Fp (A0S.2 ⟨I.nd,h2,λu hu v hv e=>I.apart o hx h ((h4 v).1 hv) (e▸hu)⟩))
  ·rw[A0D,Fp] at hy;exact(XP.1 hy).elim (I.sub y) (h3 y)
  ·rw[A0D,Fp] at hy ⊢;exact(XP.1 hy).elim (λh=>A0J _ (I.cl y h)) λh=>nf _ ((h4 _).2 (((h4 y).1 h).trans (.step y)))
  ·rcases XP.1 hp with u|u
   ·exact le_succ_of_le (I.le p u)
   ·refine AE (Ya.1 u) λy J Av=>?_;subst Av;exact A0I _
  ·rcases XP.1 hp with u|u<;>rcases XP.1 hr with v|v
   ·exact I.same p u r v
   ·refine AE (Ya.1 v) λy hy Av=>?_;subst Av
    refine⟨λe=>absurd (I.le p u) (zr (show p.2=a.2+1 from e) (not_succ_le_self _)),λz=>?_⟩;exact absurd (I.reach (Ya.2 ⟨p,u,rfl⟩) z) (I.apart o hx h ((h4 y).1 hy))
   ·refine AE (Ya.1 u) λy hy Av=>?_;subst Av
    refine⟨λe=>absurd (I.le r v) (zr (show a.2+1=r.2 from e).symm (not_succ_le_self _)),λz=>?_⟩;exact absurd (I.reach (Ya.2 ⟨r,v,rfl⟩) (DY o (h3 y hy) z)) (I.apart o hx h ((h4 y).1 hy))
   ·refine AE (Ya.1 u) λy hy Av=>?_;subst Av
    refine AE (Ya.1 v) λz hz Av=>?_;subst Av
    exact⟨λJ=>(sym y hy).trans ((h4 z).1 hz),λJ=>rfl⟩
theorem FV(o:Row L q)(hm:L.length<=1000){a:List (Sd×Nat)×Nat}{x y:Sd}(hx:x∈BL L)(h:y=x\/y∈a.1.map (·.1)):y∈(M2 L q a x).1.map (·.1):=by
 by_cases hG:x∈a.1.map (·.1)
 ·refine zr (show M2 L q a x=a from XL hG) ?_;rcases h with rfl|h
  ·exact hG
  ·exact h
 ·refine zr (show M2 L q a x=_ from Yf hG) (zr A0D (zr Fp ?_));rcases h with rfl|h
  ·exact nf _ (((Cr o hm hx).2.2.2 y).2 (.refl y))
  ·exact A0J _ h
def XZ(L:List Int)(T:List (Key×PV))(k:Option PV)(G:List (Sd×Nat))(c:Nat)(g v h:Option PV):AP:=[some (.list (L.map .int)),some (.dict T),some (.dict (MR L)),k,some (.dict (dW G)),some (.int c),g,v,h,none,none]
noncomputable def lfW:List PS:=[(.setItem 4 V8 V5),(.assign 8 (.call 33 true [V0,V2,V1,(.idx V8 K0),(.idx V8 K1)]))]
theorem Fs(hb:decide (x∈G.map (·.1))=b):ev cf (XZ L T k G c g v (some (sI x))) (.cmp .notIn V8 V4)=.ok (.bool (!b)):=by
 show(((CG (sI x) (.dict (dW G))).bind _).bind _)=_;refine zr Xk (zr hb ?_);rfl
theorem T2(o:Go L T q)(hm:L.length<=1000)(hB:(B.map (·.1)).Nodup)(hBs:∀y∈B.map (·.1),y∈BL L):∀{m:Nat}{F:List Sd}{x:Sd},x∈BL L->(∀y,Reach (rnx L q) x y->y∉B.map (·.1))->F.Nodup->(∀y∈F,y∈BL L)->HV (rnx L q) m F x=some F' ->
  ∃y,Bw (λρ'=>ev (AC AA (n+1)) ρ' (.cmp .notIn V8 V4)) (λρ'=>exs (AC AA (n+1)) ρ' lfW) m (XZ L T k (B++F.map λy=>(y,c)) c g v (some (sI x)))=.ok (.next (XZ L T k (B++F'.map λy=>(y,c)) c g v y)):=by
 intro m;induction m with
 |zero=>exact λ{F}{x}_ _ _ _ h=>by cases h
 |succ m ih=>
  intro F x hx hr hn hF h;have hin:x∈(B++F.map λy=>(y,c)).map (·.1)↔x∈F:=by
   rw[A0D,XP,Fp];exact⟨λq=>q.elim (λq=>absurd q (hr x (.refl x))) id,.inr⟩
  rw[Oz] at h;by_cases QC:x∈F
  ·rw[XL QC] at h;cases h
   exact⟨some (sI x),Ce (Fs (ac (hin.2 QC)))⟩
  ·rw[Yf QC] at h;obtain⟨y,hy⟩:=ih (Fb o.row x hx) (λy q=>hr y ((Reach.step x).trans q)) (FE hn QC) (λy hy=>(XP.1 hy).elim (hF y) λh=>zr (YP.1 h) hx) h;refine⟨y,A1X (Ei (Fs (dV λq=>QC (hin.1 q))) ?_) hy⟩;have hl:=BA hn hF;have Kt:=BA hB hBs;rw[G9] at hl Kt;have Mx:(dW (B++F.map λy=>(y,c))).length<Ab:=by
    rw[KK] at Kt;rw[dW,KK,CZ,KK,Ab];exact sC hm hl Kt
   refine(AB (By rfl rfl rfl (Ha x) KZ Mx)).trans ?_;refine zr (cu λq=>QC (hin.1 q)) ?_;refine(AB ?_).trans Ae;refine zr (by rw[A0D,on];rfl:B++(F++[x]).map (λy=>(y,c))=B++F.map (λy=>(y,c))++[(x,c)]) ?_;refine AF ?_;show(AC AA (n+1) 33 [.list (L.map .int),.dict (MR L),.dict T,.int x.1,.int (if x.2 then 1 else -1)]).bind _=_;refine zr (Nr o hx:AC AA (n+1) 33 [.list (L.map .int),.dict (MR L),.dict T,.int x.1,.int (if x.2 then 1 else -1)]=.ok (sI (rnx L q x))) ?_;rfl
noncomputable def lfB:List PS:=[(.assign 8 (.tup [V6,V7])),(.ite (.cmp .notIn V8 V4) [(.assign 5 (.bin .add V5 K1))] []),(.while_ (.cmp .notIn V8 V4) lfW)]
theorem PN(o:Go L T q)(hm:L.length<=1000)(I:LI L q a)(hx:x∈BL L):
  ∃h',exs (AC AA (n+1)) (XZ L T k a.1 a.2 (some (.int x.1)) (some (.int (if x.2 then 1 else -1))) h) lfB=.ok (.next (XZ L T k (M2 L q a x).1 (M2 L q a x).2 (some (.int x.1)) (some (.int (if x.2 then 1 else -1))) h')):=by
 by_cases hG:x∈a.1.map (·.1)
 ·refine zr (show M2 L q a x=a from XL hG) ?_;refine⟨some (sI x),(AB rfl).trans ((AB (AI (Fs (ac hG)))).trans ((AB (EP ?_)).trans Ae))⟩;exact Ce (Fs (ac hG))
 ·refine zr (show M2 L q a x=(a.1++(EC L q x).map (λy=>(y,a.2+1)),a.2+1) from Yf hG) ?_;refine LL (Cr o.row hm hx) λh1 J J h4=>?_
  obtain⟨y,hy⟩:=T2 o hm I.nd I.sub hx (λy hr=>I.apart o.row hx hG hr) A1d (λJ h=>absurd h A0K) h1;rw[map_nil,A0k] at hy;refine⟨y,(AB rfl).trans ((AB ?_).trans ((AB (EP hy)).trans Ae))⟩;refine zr (Ai (Fs (dV hG))) ?_;rfl
noncomputable def xx:List PS:=[(.for_ (.one 7) .seq [Ls] lfB)]
theorem T4(o:Go L T q)(hm:L.length<=1000)(I:LI L q a)(hg:g<L.length+1):
  LI L q (M2 L q (M2 L q a (g,true)) (g,false))/\∃h',exs (AC AA (n+1)) (XZ L T k a.1 a.2 (some (.int g)) v h) xx=.ok (.next (XZ L T k (M2 L q (M2 L q a (g,true)) (g,false)).1 (M2 L q (M2 L q a (g,true)) (g,false)).2 (some (.int g)) (some (.int (-1))) h')):=by
 have m1:((g,true):Sd)∈BL L:=AU.2 hg;have m2:((g,false):Sd)∈BL L:=AU.2 hg;obtain⟨h1,e1⟩:=PN o hm I m1;have I1:=I.step o.row hm m1;obtain⟨h2,e2⟩:=PN o hm I1 m2;refine⟨I1.step o.row hm m2,h2,?_⟩;unfold xx;refine(AB (As rfl rfl ?_)).trans Ae;exact(Aa rfl e1).trans (Aa rfl e2)
theorem T3(o:Go L T q)(hm:L.length<=1000):∀{gs:List Nat}{a:List (Sd×Nat)×Nat}{u v h:Option PV},LI L q a->(∀g∈gs,g<L.length+1) ->
  ∃a' u' v' h',LI L q a'/\(∀y:Sd,(y.1∈gs\/y∈a.1.map (·.1))->y∈a'.1.map (·.1))/\An (λρ'=>exs (AC AA (n+1)) ρ' xx) (.one 6) (gs.map λ(g:Nat)=>PV.int (0+(g:Int))) (XZ L T k a.1 a.2 u v h)=.ok (.next (XZ L T k a'.1 a'.2 u' v' h')):=by
 intro gs;induction gs with
 |nil=>exact λ{a}{u}{v}{h}I _=>⟨a,u,v,h,I,λy q=>q.elim (λq=>absurd q A0K) id,rfl⟩
 |cons g gs ih=>
  intro a u v h I hg;have Rr:=hg g d4;obtain⟨I1,h1,e1⟩:=T4 o hm I Rr;obtain⟨a2,u2,v2,h2,I2,ea,e2⟩:=ih I1 (λx hx=>hg x (kV _ hx));refine⟨a2,u2,v2,h2,I2,λy hy=>ea y ?_,?_⟩
  ·have m1:((g,true):Sd)∈BL L:=AU.2 Rr;have m2:((g,false):Sd)∈BL L:=AU.2 Rr;rcases hy with hy|hy
   ·rcases A0E.1 hy with e|hy
    ·refine .inr ?_;obtain⟨y1,y2⟩:=y;dsimp only at e;subst e;cases y2 with
     |true=>exact FV o.row hm m2 (.inr (FV o.row hm m1 (.inl rfl)))
     |false=>exact FV o.row hm m2 (.inl rfl)
    ·exact .inl hy
   ·exact .inr (FV o.row hm m2 (.inr (FV o.row hm m1 (.inr hy))))
  refine zr A0Z ?_;exact(Aa (by refine zr (A0y _) ?_;rfl) e1).trans e2
def A04(L0:List Int)(T:List (Key×PV))(L:List Int)(k:Option PV):AP:=[some (.list (L0.map .int)),some (.dict T),some (.dict (MR L)),k,none,none,none,none,none,none,none]
theorem jf(hm:L0.length<=1000):∀{M L:List Int}{k:Option PV},L++M=L0->(L++M).Nodup ->
  ∃k',An (λρ'=>exs cf ρ' [(.setItem 2 (.idx V0 V3) V3)]) (.one 3) ((List.range' L.length M.length).map λ(i:Nat)=>PV.int (0+(i:Int))) (A04 L0 T L k)=.ok (.next (A04 L0 T (L++M) k')):=by
 intro M;induction M with
 |nil=>exact λ{L}{k}_ _=>⟨k,zr (A0k _) rfl⟩
 |cons v M HN=>
  intro L k he hn;have e2:L++[v]++M=L0:=by exact zr (on _ _ _) he
  obtain⟨k',ih⟩:=HN e2 (zr e2 (zr he.symm hn));refine⟨k',?_⟩;rw[on] at ih;refine zr A0P (zr A1e (zr A0Z ?_));have hlen:L.length<Ab:=by
   have:=A0U List.length he;rw[CZ] at this;unfold Ab;exact sG hm this
  have Vd:L0[L.length]?=some v:=by rw[<-he,A0F (A0I _),A1w];rfl
  rw[CZ] at ih;refine(Aa (by refine zr (A0y _) ?_;rfl) ?_).trans ih;refine(AB (By (kk:=.int v) (l:=MR L) rfl rfl ?_ rfl IN (by unfold MR;refine zr (KK _) (zr A13 ?_);exact hlen))).trans ?_
  ·show(if(0:Int)<=L.length then(match (L0.map PV.int)[(L.length:Int).toNat]? with|some d=>Res.ok d|none=>.stuck) else .stuck)=_;rw[XL (A0H _),A0R,A0Q,Vd];rfl
  ·rw[Ae,X7 hn];rfl
theorem Qu(o:Go L T q)(hm:L.length<=1000):∃G c,LI L q (G,c)/\(∀y∈BL L,y∈G.map (·.1))/\AC AA (n+2) 34 [.list (L.map .int),.dict T]=.ok (.dict (dW G)):=by
 obtain⟨k,e0⟩:=jf (T:=T) hm (M:=L) (L:=[]) (k:=none) rfl o.nd;rw[nil_append,A1t] at e0;obtain⟨a,u,v,h,I,ea,e⟩:=T3 o hm (k:=k) (gs:=List.range (L.length+1)) (a:=([],0)) (u:=none) (v:=none) (h:=none) ⟨A1d,λy h=>absurd h A0K,λy h=>absurd h A0K,λp hp=>absurd hp A0K,λp hp=>absurd hp A0K⟩ (λg hg=>A0M.1 hg);refine⟨a.1,a.2,I,λy hy=>ea y (.inl (A0M.2 (AU.1 hy))),?_⟩;have hi:∀m:Nat,m<=L.length+1->items .range1 [.int (m:Int)]=.ok ((List.range m).map λ(g:Nat)=>PV.int (0+(g:Int))):=λm Ks=>by
  have h3:(m:Int)<=(Ab:Nat):=by simp[Ab];exact sD hm Ks
  rw[DE,ac (A0H m),ac h3,XL (show(true&&true)=true from rfl),EB,Int.sub_zero,A0R]
 have hl:∀(ρ:AP),slot ρ 0=.ok (.list (L.map .int))->ev (AC AA (n+1)) ρ (ln V0)=.ok (.int (L.length:Nat)):=λρ q=>by
  refine zr Bo (zr AO (zr Bp (zr q ?_)));show Res.ok (PV.int (((L.map PV.int).length:Nat):Int))=_;exact zr (KK _) rfl
 refine zr (c2 (by rfl)) ?_;refine Al (o:=.ret _) rfl rfl ?_;refine(AB rfl).trans ?_;refine(AB (As ?_ (hi _ (le_succ _)) (zr A1W e0))).trans ?_
 ·refine zr AO (zr (hl _ rfl) ?_);rfl
 refine(AB rfl).trans ((AB rfl).trans ?_);refine(AB (As ?_ (hi _ (A0I _)) e)).trans (AS rfl);refine zr AO (zr Gs (zr (hl _ rfl) ?_));rfl
theorem Uy:∀{G:List (Sd×Nat)},(G.map (·.1)).Nodup->(x,i)∈G->Am (dW G) (kI x)=some (.int i)
 |p::G,hn,h=>by
  rw[A0Z,A1C] at hn;unfold Am dW;refine zr A0Z (zr A2B ?_);rcases A0E.1 h with e|h
  ·subst e;simp
  ·have:¬(kI p.1=kI x):=λe=>hn.1 (zr (Nt e) (Ya.2 ⟨_,h,rfl⟩))
   simp only[decide_eq_false this];have ih:=Uy hn.2 h;unfold Am dW at ih;exact ih
noncomputable def Iy(F:List Sd)(gs:List Nat):List Sd:=gs.flatMap λg=>(if(g,true)∈F then[(g,true)] else[])++(if(g,false)∈F then[(g,false)] else[])
theorem HL:∀{gs:List Nat},(Iy F gs).length<=2*gs.length
 |[]=>A0I _
 |g::gs=>by
  have:=HL (F:=F) (gs:=gs);unfold Iy at this ⊢;refine zr flatMap_cons (zr CZ (zr CZ (zr A0P ?_)));have h:∀{c:Prop}[Decidable c]{x:Sd},(if c then[x] else[]).length<=1:=by
   intro c _ x;split<;>first|exact A0I _|exact A1x _
  exact sB this (h (c:=(g,true)∈F) (x:=(g,true))) (h (c:=(g,false)∈F) (x:=(g,false)))
theorem Mr:Iy F (gs++[g])=Iy F gs++((if(g,true)∈F then[(g,true)] else[])++(if(g,false)∈F then[(g,false)] else[])):=by
 unfold Iy;rw[List.flatMap_append,flatMap_cons,flatMap_nil,A0k]
theorem DD:x∈Iy F gs↔x.1∈gs/\x∈F:=by
 unfold Iy;rw[A1P];obtain⟨g,b⟩:=x;constructor
 ·rintro⟨k,hk,h⟩;have:(g,b)∈F/\g=k:=by
   rcases XP.1 h with h|h
   ·split at h
    ·rename_i q;have e:=YP.1 h;exact⟨by refine zr e ?_;exact q,(Prod.mk.inj e).1⟩
    ·exact absurd h A0K
   ·split at h
    ·rename_i q;have e:=YP.1 h;exact⟨by refine zr e ?_;exact q,(Prod.mk.inj e).1⟩
    ·exact absurd h A0K
  exact⟨this.2▸hk,this.1⟩
 ·rintro⟨hk,h⟩;refine⟨g,hk,?_⟩;cases b with
  |true=>exact A0J _ (zr (XL h) d4)
  |false=>exact nf _ (zr (XL h) d4)
noncomputable def sL(F:List Sd):List PV:=F.map sI
theorem GN:sL (F++G)=sL F++sL G:=A0D
theorem Y8[Decidable c]:sL (if c then[x] else[])=if decide c then[sI x] else[]:=by
 by_cases h:c
 ·refine zr (XL h) (zr (ac h) ?_);rfl
 ·refine zr (Yf h) (zr (dV h) ?_);rfl
theorem ZO(hn:(G.map (·.1)).Nodup){i:Nat}(h:(x,i)∈G):CI (.dict (dW G)) (sI x)=.ok (.int i):=by
 show(match (sI x).GF with|some k=>if AR (dW G) k=true then(match Am (dW G) k with|some d=>Res.ok d|none=>.stuck) else .stuck|none=>.stuck)=_;refine zr (Ha _) ?_;show(if AR (dW G) (kI x)=true then(match Am (dW G) (kI x) with|some d=>Res.ok d|none=>.stuck) else .stuck)=_;exact zr (XL (show AR (dW G) (kI x)=true from KZ)) (zr (Uy hn h) rfl)
theorem MU{cond:AP->Res Bool}{c1 c2:Bool}(h1:cond (ρ.set i (some d1))=.ok c1)(g1:elt (ρ.set i (some d1))=.ok e1)(h2:cond (ρ.set i (some d2))=.ok c2)(g2:elt (ρ.set i (some d2))=.ok e2):
  A8 elt cond (.one i) [d1,d2] ρ=.ok ((if c1 then[e1] else[])++(if c2 then[e2] else[])):=by
 have t:A8 elt cond (.one i) [d2] (ρ.set i (some d1))=.ok (if c2 then[e2] else[]):=by
  rw[IR,HY,AM,List.set_set,h2,AM,g2];cases c2<;>rfl
 refine zr IR (zr HY (zr AM (zr h1 (zr AM (zr g1 (zr t ?_))))));cases c1<;>rfl
noncomputable def Rz(L:List Int)(T:List (Key×PV))(m:Nat)(G:List (Sd×Nat))(i:Nat)(A:List Sd)(g:Option PV):AP:=[some (.list (L.map .int)),some (.dict T),some (.int m),some (.dict (dW G)),some (.int i),some (.list (sL A)),g,none,none]
noncomputable def loB:List PS:=[(.assign 5 (.bin .add V5 (.comp (.tup [V6,V7]) (.one 7) .seq [Ls] [(.cmp .eq (.idx V3 (.tup [V6,V7])) V4)])))]
theorem XY{T:List (Key×PV)}{m g:Nat}{A F:List Sd}(h:∀b,∃j,ev cf ((Rz L T m G i A (some (.int g))).set 7 (some (.int (if b then 1 else -1)))) (.idx V3 (.tup [V6,V7]))=.ok (.int (j:Nat))/\(j=i↔(g,b)∈F))(hA:A.length<10000):
  exs cf (Rz L T m G i A (some (.int g))) loB=.ok (.next (Rz L T m G i (A++((if(g,true)∈F then[(g,true)] else[])++(if(g,false)∈F then[(g,false)] else[]))) (some (.int g)))):=by
 have WI:∀b,evAnd cf ((Rz L T m G i A (some (.int g))).set 7 (some (.int (if b then 1 else -1)))) [(.cmp .eq (.idx V3 (.tup [V6,V7])) V4)]=.ok (decide ((g,b)∈F)):=λb=>by
  refine AE (h b) λj e hj=>?_
  refine(Ak (Ag (x:=.int (j:Nat)) (y:=.int (i:Nat)) (r:=((j:Int)==(i:Int))) e rfl rfl)).trans ?_;refine zr (show((j:Int)==(i:Int))=decide ((g,b)∈F) by rw[A1G,beq_iff_eq,A0j,<-hj];exact A16) ?_;cases decide ((g,b)∈F)<;>rfl
 have hc:ev cf (Rz L T m G i A (some (.int g))) (.comp (.tup [V6,V7]) (.one 7) .seq [Ls] [(.cmp .eq (.idx V3 (.tup [V6,V7])) V4)])=.ok (.list (sL ((if(g,true)∈F then[(g,true)] else[])++(if(g,false)∈F then[(g,false)] else[])))):=by
  refine BN (xs:=[.list [.int 1,.int (-1)]]) (ds:=[.int 1,.int (-1)]) rfl rfl ?_ ?_
  ·exact zr GN (zr Y8 (zr Y8 (MU (ρ:=Rz L T m G i A (some (.int g))) (WI true) rfl (WI false) rfl)))
  ·rw[sL,KK,CZ];have hh:∀{c:Prop}[Decidable c]{x:Sd},(if c then[x] else[]).length<=1:=by intro c _ x;split<;>first|exact A0I _|exact A1x _
   have h1:=hh (c:=(g,true)∈F) (x:=(g,true));have h2:=hh (c:=(g,false)∈F) (x:=(g,false));unfold Ab;exact s7 h1 h2
 refine(AB (ρ':=Rz L T m G i (A++_) (some (.int g))) (AF (Af (x:=.list (sL A)) rfl hc ?_))).trans Ae;show FP (sL A++sL _)=_;refine zr GN.symm ?_;refine XL ?_;rw[sL,KK,CZ,CZ];have hh:∀{c:Prop}[Decidable c]{x:Sd},(if c then[x] else[]).length<=1:=by intro c _ x;split<;>first|exact A0I _|exact A1x _
 have h1:=hh (c:=(g,true)∈F) (x:=(g,true));have h2:=hh (c:=(g,false)∈F) (x:=(g,false));unfold Ab;exact rq hA h1 h2
theorem kZ{F:List Sd}:∀{gs hs:List Nat}{u:Option PV},(∀g∈gs,∀b,∃j:Nat,CI (.dict (dW G)) (sI (g,b))=.ok (.int j)/\(j=i↔(g,b)∈F))->2*(hs.length+gs.length)<10000 ->
  ∃u',An (λρ'=>exs cf ρ' loB) (.one 6) (gs.map λ(k:Nat)=>PV.int (0+(k:Int))) (Rz L T m G i (Iy F hs) u)=.ok (.next (Rz L T m G i (Iy F (hs++gs)) u')):=by
 intro gs;induction gs with
 |nil=>exact λ{hs}{u}_ _=>⟨u,zr (A0k _) rfl⟩
 |cons g gs ih=>
  intro hs u h hl;rw[A0P] at hl;obtain⟨u',e⟩:=ih (hs:=hs++[g]) (u:=some (.int g)) (λk hk=>h k (kV _ hk)) (zr CZ (zr nP (s8 hl)));refine⟨u',?_⟩;rw[on,Mr] at e;rw[A0Z,A0y];refine(Aa rfl (XY (F:=F) (λb=>?_) (by exact rh hl (HL (F:=F) (gs:=hs))))).trans e;refine AE (h g d4 b) λj e1 e2=>?_
  exact⟨j,e1,e2⟩
theorem Fv{m:Nat}(h:m<=100000):items .range1 [.int (m:Int)]=.ok ((List.range m).map λ(g:Nat)=>PV.int (0+(g:Int))):=by
 have h3:(m:Int)<=(Ab:Nat):=by simp[Ab];exact s9 h
 rw[DE,ac (A0H m),ac h3,XL (show(true&&true)=true from rfl),EB,Int.sub_zero,A0R]
theorem Es:((L.length,true):Sd)∈BL L:=AU.2 (lt_succ_self _)
theorem T8(o:Go L T q)(hm:L.length<=1000){n m:Nat}(VX:m<=L.length):AC AA (n+3) 40 [.list (L.map .int),.dict T,.int m]=.ok (.tuple [.list (sL (Iy (EC L q (L.length,true)) (List.range (m+1)))),.bool (decide ((0,false)∈EC L q (L.length,true)))]):=by
 obtain⟨G,c,I,all,fk⟩:=Qu o hm (n:=n);have lab:∀y∈BL L,∃i,(y,i)∈G:=λy hy=>by
  refine AE (Ya.1 (all y hy)) λp hp e=>?_
  exact⟨p.2,by refine zr e.symm ?_;exact hp⟩
 obtain⟨i,hi⟩:=lab _ (Es (L:=L));have h4:=(Cr o.row hm (Es (L:=L))).2.2.2;have key:∀y∈BL L,∃j:Nat,CI (.dict (dW G)) (sI y)=.ok (.int j)/\(j=i↔y∈EC L q (L.length,true)):=λy hy=>by
  obtain⟨j,hj⟩:=lab y hy;refine⟨j,ZO I.nd hj,?_⟩;rw[h4 y,<-I.same _ hi _ hj];exact⟨Eq.symm,Eq.symm⟩
 refine zr (c2 (by rfl)) ?_;generalize AC AA (n+2)=cf at *;refine Al (o:=.ret _) (ρ:=[some (.list (L.map .int)),some (.dict T),some (.int m),none,none,none,none,none,none]) rfl rfl ?_;refine(AB (ρ':=[some (.list (L.map .int)),some (.dict T),some (.int m),some (.dict (dW G)),none,none,none,none,none]) (AF (AH rfl fk))).trans ?_;refine(AB (ρ':=[some (.list (L.map .int)),some (.dict T),some (.int m),some (.dict (dW G)),some (.int i),none,none,none,none]) (AF ?_)).trans ?_
 ·show CI (.dict (dW G)) (.tuple [.int ((L.map PV.int).length:Nat),.int 1])=_;exact zr (KK _) (ZO I.nd hi)
 refine(AB (ρ':=Rz L T m G i (Iy (EC L q (L.length,true)) []) none) rfl).trans ?_;obtain⟨u,e⟩:=kZ (L:=L) (T:=T) (m:=m) (G:=G) (i:=i) (F:=EC L q (L.length,true)) (gs:=List.range (m+1)) (hs:=[]) (u:=none) (λg hg b=>key (g,b) (AU.2 (by show g<L.length+1;exact ro VX (A0M.1 hg)))) (zr A0q (zr A1t (ri hm VX)));rw[nil_append] at e;refine(AB (As (xs:=[.int ((m+1:Nat):Int)]) rfl (Fv (rg hm VX)) e)).trans (AS (Ax ?_));refine AE (key (0,false) (AU.2 (succ_pos _))) λj hj hji=>?_
 rw[JB,AO,show ev cf (Rz L T m G i (Iy (EC L q (L.length,true)) (List.range (m+1))) u) V5=.ok (.list (sL (Iy (EC L q (L.length,true)) (List.range (m+1))))) from rfl,AM,AO,Ag (y:=.int (j:Nat)) (r:=((i:Int)==(j:Int))) rfl (show ev cf (Rz L T m G i (Iy (EC L q (L.length,true)) (List.range (m+1))) u) (.idx V3 (.tup [K0,Km]))=_ from hj) rfl,
  show((i:Int)==(j:Int))=decide ((0,false)∈EC L q (L.length,true)) by rw[A1G,beq_iff_eq,A0j,<-hji];exact A16.trans ⟨Eq.symm,Eq.symm⟩]
 rfl
noncomputable def aO(L:List Int)(T:List (Key×PV))(kd:Str)(f:Int)(l:Nat):PV:=.obj (L.map .int) T kd f l
theorem Mm(o:Go L T q)(hm:L.length<=1000):AC AA (n+3) 53 [aO L T kd f l]=.ok (.dict (dF (EC L q (L.length,true)))):=by
 have e:=L9 o hm (n:=n) (Es);refine zr (c2 (by rfl)) ?_;generalize AC AA (n+2)=cf at *;refine Al (o:=.ret _) rfl rfl (AS (Ax (AH (xs:=[.list (L.map .int),.dict T,sI (L.length,true)]) ?_ e)));refine zr (show sI (L.length,true)=.tuple [.int ((L.map PV.int).length:Nat),.int 1] by refine zr (KK _) ?_;rfl) ?_;rfl
noncomputable def VK(A:PV)(F B:List Sd)(g v:Option PV):AP:=[some A,some (.dict (dF F)),some (.list (sL B)),g,v,none,none]
noncomputable def abB:List PS:=[(.ite (.cmp .isIn (.tup [V3,V4]) V1) [(.append 2 (.tup [V3,V4]))] [])]
noncomputable def yP:List PS:=[(.for_ (.one 4) .seq [(.tup [K1,Km])] abB)]
theorem VM{g:Nat}(hB:B.length<10000):exs cf (VK A F B (some (.int g)) (some (.int (if b then 1 else -1)))) abB=.ok (.next (VK A F (B++if(g,b)∈F then[(g,b)] else[]) (some (.int g)) (some (.int (if b then 1 else -1))))):=by
 have hc:ev cf (VK A F B (some (.int g)) (some (.int (if b then 1 else -1)))) (.cmp .isIn (.tup [V3,V4]) V1)=.ok (.bool (decide ((g,b)∈F))):=by
  show((CG (sI (g,b)) (.dict (dF F))).bind _)=_;refine zr HE ?_;rfl
 by_cases h:(g,b)∈F
 ·refine zr (XL h) ?_;rw[ac h] at hc;refine(AB ?_).trans Ae;refine zr (Ai hc) (zr (XL rfl) ?_);refine(AB (Cj rfl (d:=sI (g,b)) rfl (by rw[sL,KK];unfold Ab;exact s6 hB))).trans ?_;refine zr Ae ?_;unfold VK;refine zr GN ?_;rfl
 ·rw[Yf h,A0k];rw[dV h] at hc;exact(AB (AI hc)).trans Ae
theorem dU{g:Nat}(hB:B.length<9000):exs cf (VK A F B (some (.int g)) v) yP=.ok (.next (VK A F (B++((if(g,true)∈F then[(g,true)] else[])++(if(g,false)∈F then[(g,false)] else[]))) (some (.int g)) (some (.int (-1))))):=by
 unfold yP;have h:(if(g,true)∈F then[((g,true):Sd)] else[]).length<=1:=by split<;>first|exact A0I _|exact A1x _
 refine(AB (As rfl rfl ?_)).trans Ae;refine(Aa rfl (VM (b:=true) (ry hB))).trans ((Aa (ρ1:=VK A F (B++if(g,true)∈F then[(g,true)] else[]) (some (.int g)) (some (.int (-1)))) rfl (VM (b:=false) (zr CZ (rx hB h)))).trans ?_);refine zr (on _ _ _) ?_;rfl
theorem lX:∀{gs hs:List Nat}{u v:Option PV},2*(hs.length+gs.length)<9000 ->
  ∃u' v',An (λρ'=>exs cf ρ' yP) (.one 3) (gs.map λ(k:Nat)=>PV.int (0+(k:Int))) (VK A F (Iy F hs) u v)=.ok (.next (VK A F (Iy F (hs++gs)) u' v')):=by
 intro gs;induction gs with
 |nil=>exact λ{hs}{u}{v}_=>⟨u,v,zr (A0k _) rfl⟩
 |cons g gs ih=>
  intro hs u v hl;rw[A0P] at hl;obtain⟨u',v',e⟩:=ih (hs:=hs++[g]) (v:=some (.int (-1))) (zr CZ (zr nP (rz hl)));refine⟨u',v',?_⟩;rw[on,Mr] at e;rw[A0Z,A0y];exact(Aa (ρ1:=VK A F (Iy F hs) (some (.int g)) v) rfl (dU (by exact rm hl (HL (F:=F) (gs:=hs))))).trans e
theorem Mn(o:Go L T q)(hm:L.length<=1000)(hl:l<=1000):AC AA (n+4) 54 [aO L T kd f l]=.ok (.list (sL (Iy (EC L q (L.length,true)) (List.range (l+1))))):=by
 have e:=Mm o hm (n:=n) (l:=l) (kd:=kd) (f:=f);refine zr (c2 (by rfl)) ?_;generalize AC AA (n+3)=cf at *;refine Al (o:=.ret _) (ρ:=[some (aO L T kd f l),none,none,none,none,none,none]) rfl rfl ?_;refine(AB (ρ':=[some (aO L T kd f l),some (.dict (dF (EC L q (L.length,true)))),none,none,none,none,none]) (AF (AH (xs:=[aO L T kd f l]) rfl e))).trans ?_;refine(AB (ρ':=VK (aO L T kd f l) (EC L q (L.length,true)) (Iy (EC L q (L.length,true)) []) none none) rfl).trans ?_;obtain⟨u,v,e2⟩:=lX (cf:=cf) (A:=aO L T kd f l) (F:=EC L q (L.length,true)) (gs:=List.range (l+1)) (hs:=[]) (u:=none) (v:=none) (zr A0q (zr A1t (rn hl)));rw[nil_append] at e2;exact(AB (As (xs:=[.int ((l+1:Nat):Int)]) rfl (Fv (rj hl)) e2)).trans (AS rfl)
theorem Rf(o:Go L T q)(hm:L.length<=1000):AC AA (n+4) 55 [aO L T kd f l]=.ok (.bool (decide ((0,false)∈EC L q (L.length,true)))):=by
 have e:=Mm o hm (n:=n) (l:=l) (kd:=kd) (f:=f);refine zr (c2 (by rfl)) ?_;generalize AC AA (n+3)=cf at *;refine Al (o:=.ret _) rfl rfl (AS (Ax ?_));exact Ag (x:=sI (0,false)) rfl (AH rfl e) HE
theorem Ix:AC AA (n+1) 56 [aO L T kd f l]=.ok (.int (Int.fdiv (L.length:Nat) 2)):=by
 refine zr (c2 (by rfl)) ?_;refine Al (o:=.ret _) rfl rfl (AS (Ax ?_));show Res.ok (PV.int (Int.fdiv ((L.map PV.int).length:Nat) 2))=_;exact zr (KK _) rfl
def qT(T:List (Key×PV))(v:Int):Int:=match Am T (.int (absI v)) with
 |some (.int t)=>if v<0 then -t else t
 |_=>0
theorem Fe(h:Am T (.int (absI v))=some (.int t)):qT T v=if v<0 then -t else t:=by
 unfold qT;exact zr h rfl
theorem KY(h:k'≠k):Am (Aj T k d) k'=Am T k':=by
 unfold Am
 congr 1
 unfold Aj;by_cases q:Bs T k
 ·refine zr (XL q) ?_;clear q
  induction T with
  |nil=>rfl
  |cons p T ih=>
   refine zr A0Z (zr A2B (zr A2B (zr ih ?_)));by_cases e:p.1=k
   ·refine zr (XL e) ?_;have h1:decide (p.1=k')=false:=dV λz=>h (z.symm.trans e)
    simp only[h1]
   ·exact zr (Yf e) rfl
 ·refine zr (Yf q) (zr List.find?_append ?_);have:[(k,d)].find? (λp=>decide (p.1=k'))=none:=by
   refine zr A2B (zr (dV λz:k=k'=>h z.symm) ?_);rfl
  exact zr this (zr Option.or_none rfl)
theorem IL(h:Bs T k=false):Am (Aj T k d) k=some d:=by
 unfold Am Aj;refine zr h (zr (Yf A0O) (zr List.find?_append ?_));have:T.find? (λp=>decide (p.1=k))=none:=by
  rw[List.find?_eq_none];intro p hp;unfold Bs at h;rw[A2C] at h;exact h p hp
 refine zr this ?_;simp
theorem Ui(h:∀j,AR T (.int j)=true)(j:Int):AR (Aj T (.int i) d) (.int j)=true:=by
 have h:=h j;unfold AR Aj at *;rw[A0T] at h ⊢;intro p hp;split at hp
 ·refine AE (Ya.1 hp) λr hr e=>?_
  split at e<;>refine zr e.symm ?_<;>exact h r hr
 ·rcases XP.1 hp with hp|hp
  ·exact h p hp
  ·refine zr (YP.1 hp) ?_;rfl
noncomputable def CH(L:List Int)(p:Nat)(d:Int):List Int:=L.take p++(-d)::L.drop p++[d]
theorem CN:v∈CH L p d↔v∈L\/v=d\/v=-d:=by
 unfold CH;rw[XP,XP,A0E,YP];constructor
 ·rintro((h|h|h)|h)
  ·exact .inl (A1A h)
  ·exact .inr (.inr h)
  ·exact .inl (A1F h)
  ·exact .inr (.inl h)
 ·rintro(h|h|h)
  ·rw[<-A1O p L,XP] at h;exact .inl (h.imp id .inr)
  ·exact .inr h
  ·exact .inl (.inr (.inl h))
theorem B4:(CH L p d).length=L.length+2:=by
 unfold CH;exact zr CZ (zr CZ (zr A0P (zr nP (re (by rw[<-CZ,A1O]:(L.take p).length+(L.drop p).length=L.length)))))
theorem Xq(nd:L.Nodup)(h0:d≠0)(h1:d∉L)(h2:-d∉L):(CH L p d).Nodup:=by
 have hp:=A1C.2 ⟨by refine zr (A1O _ _) ?_;exact h2,(by refine zr (A1O _ _) ?_;exact nd:(L.take p++L.drop p).Nodup)⟩;unfold CH;refine FE ((perm_middle.nodup_iff).2 hp) λz=>?_
 rcases XP.1 z with z|z
 ·exact h1 (A1A z)
 ·rcases A0E.1 z with z|z
  ·exact rc h0 z
  ·exact h1 (A1F z)
theorem UQ(h1:f d=e)(h2:f (-d)=-e):(CH L p d).map f=CH (L.map f) p e:=by
 unfold CH;exact zr A0D (zr A0D (zr A0Z (zr map_take (zr map_drop (zr h2 (zr List.map_singleton (zr h1 rfl)))))))
structure RK(L:List Int)(T:List (Key×PV))(N:Int):Prop where
 ok:Go L T (qT T)
 lt:∀v∈L,absI v<N
 nw:∀k:Int,N<=k->Bs T (.int k)=false
 pos:0<N
 z:(0:Int)∈L
theorem HK(hs:s=1\/s=-1)(hN:0<N):absI (s*N)=N/\absI (-(s*N))=N/\s*N≠0/\((s*N<0)↔s=-1):=by
 rcases hs with rfl|rfl
 ·refine zr (A1T _) ?_;unfold absI;refine⟨Yf (NO hN),?_,by exact kB hN,iff_of_false (NO hN) (by decide)⟩;exact zr (XL (NN hN)) j4
 ·rw[Int.neg_mul,A1T];unfold absI;refine⟨?_,?_,by exact rX hN,iff_of_true (NN hN) rfl⟩
  ·exact zr (XL (NN hN)) j4
  ·exact zr (Yf (rW hN)) j4
theorem Oj(v:Int):v=absI v\/v=-absI v:=by unfold absI;split<;>(first|exact rZ|exact rY)
theorem RK.Ys(o:RK L T N)(h:absI v=N):v∉L:=λhv=>by exact(rb h (o.lt v hv)).elim
theorem RK.ins(o:RK L T N)(hs:s=1\/s=-1)(ht:t=1\/t=-1):RK (CH L p (s*N)) (Aj T (.int N) (.int t)) (N+1):=by
 refine LL (HK hs o.pos) λa1 a2 a3 J=>?_
 have hold:∀v∈L,Am (Aj T (.int N) (.int t)) (.int (absI v))=Am T (.int (absI v)):=λv hv=>KY λe=>Int.ne_of_lt (o.lt v hv) (Key.int.inj e)
 have Gp:∀v,absI v=N->Am (Aj T (.int N) (.int t)) (.int (absI v))=some (.int t):=λv hv=>by exact zr hv (IL (o.nw N (A1B _)))
 refine⟨⟨Xq o.ok.nd a3 (o.Ys a1) (o.Ys a2),λv hv=>?_,Ui o.ok.fits,λv hv h0=>?_⟩,λv hv=>?_,λk hk=>?_,by exact rV o.pos,CN.2 (.inl o.z)⟩
 ·rcases CN.1 hv with h|h|h
  ·exact CN.2 (.inl (o.ok.neg v h))
  ·exact CN.2 (.inr (.inr (zr h rfl)))
  ·exact CN.2 (.inr (.inl (by rw[h,A1U])))
 ·rcases CN.1 hv with h|h|h
  ·refine Ca (o.ok.tn v h h0) λu hu hd J=>?_
   exact⟨u,hu,(hold v h).trans hd,Fe ((hold v h).trans hd)⟩
  ·exact⟨t,ht,Gp v (zr h a1),Fe (Gp v (by refine zr h ?_;exact a1))⟩
  ·exact⟨t,ht,Gp v (zr h a2),Fe (Gp v (by refine zr h ?_;exact a2))⟩
 ·rcases CN.1 hv with h|h|h
  ·exact rU (o.lt v h)
  ·exact zr h (zr a1 gi)
  ·exact zr h (zr a2 gi)
 ·have hn:=o.nw k (rT hk);unfold Bs Aj at *;refine zr (o.nw N (A1B _) |> (λz=>z:Bs T (.int N)=false->T.any (λp=>decide (p.1=Key.int N))=false)) (zr (Yf A0O) (zr List.any_append (zr hn ?_)));simp;exact rS hk
structure dX(f:Int->Int)(L:List Int)(T:List (Key×PV))(L':List Int)(T':List (Key×PV)):Prop where
 e:L'=L.map f
 z:∀v∈L,f v=0↔v=0
 neg:∀v∈L,f (-v)=-f v
 inj:∀u∈L,∀v∈L,f u=f v->u=v
 q:∀v∈L,v≠0->qT T' (f v)=qT T v
theorem dX.rnx(o:RK L T N)(r:dX f L T L' T'):rnx L' (qT T')=rnx L (qT T):=by
 exact zr r.e (Ws o.ok.row r.z r.neg r.inj r.q)
noncomputable def ext(f:Int->Int)(N M:Int)(v:Int):Int:=if v=N then M else if v=-N then -M else f v
theorem dX.ins(o:RK L T N)(o':RK L' T' M)(r:dX f L T L' T')(hs:s=1\/s=-1)(ht:t=1\/t=-1):
  dX (ext f N M) (CH L p (s*N)) (Aj T (.int N) (.int t)) (CH L' p (s*M)) (Aj T' (.int M) (.int t)):=by
 have hN:=o.pos;have hM:=o'.pos;have xN:ext f N M N=M:=XL rfl;have xn:ext f N M (-N)=-M:=(Yf (rR hN)).trans (XL rfl);have aN:absI N=N/\absI (-N)=N:=by have:=HK (.inl rfl) hN;rw[A1T] at this;exact⟨this.1,this.2.1⟩
 have old:∀v∈L,ext f N M v=f v:=λv hv=>by
  have:=o.lt v hv;have h1:v≠N:=λh=>by rw[h,aN.1] at this;exact gh this
  have h2:v≠-N:=λh=>by rw[h,aN.2] at this;exact gh this
  unfold ext;exact zr (Yf h1) (zr (Yf h2) rfl)
 have fl:∀v∈L,absI (f v)<M:=λv hv=>o'.lt _ (zr r.e (List.mem_map_of_mem hv))
 have sN:∀v,(v=s*N\/v=-(s*N))↔(v=N\/v=-N):=λv=>by rcases hs with rfl|rfl;rw[A1T];rw[Int.neg_mul,A1T,A1U,or_comm]
 have mem:∀v,v∈CH L p (s*N)↔v∈L\/v=N\/v=-N:=λv=>by rw[CN,sN]
 have aM:absI M=M/\absI (-M)=M:=by have:=HK (.inl rfl) hM;rw[A1T] at this;exact⟨this.1,this.2.1⟩
 refine⟨?_,λv hv=>?_,λv hv=>?_,λu hu v hv e=>?_,λv hv h0=>?_⟩
 ·have h1:ext f N M (s*N)=s*M:=by rcases hs with rfl|rfl<;>simp only[Int.one_mul,Int.neg_mul]<;>assumption
  have h2:ext f N M (-(s*N))=-(s*M):=by rcases hs with rfl|rfl<;>simp only[Int.one_mul,Int.neg_mul,Int.neg_neg]<;>assumption
  refine zr (UQ h1 h2) (zr r.e ?_)
  congr 1
  exact List.map_congr_left λv hv=>(old v hv).symm
 ·rcases(mem v).1 hv with h|h|h
  ·exact zr (old v h) (r.z v h)
  ·exact zr h (zr xN (iff_of_false (Int.ne_of_gt hM) (Int.ne_of_gt hN)))
  ·exact zr h (zr xn (iff_of_false (Int.ne_of_lt (NN hM)) (Int.ne_of_lt (NN hN))))
 ·rcases(mem v).1 hv with h|h|h
  ·exact zr (old v h) (zr (old _ (o.ok.neg v h)) (r.neg v h))
  ·exact zr h (zr xN (zr xn rfl))
  ·rw[h,A1U,xN,xn,A1U]
 ·rcases(mem u).1 hu with h|h|h<;>rcases(mem v).1 hv with g|g|g
  ·rw[old u h,old v g] at e;exact r.inj u h v g e
  ·rw[old u h,g,xN] at e;have:=fl u h;rw[e,aM.1] at this;exact WR this
  ·rw[old u h,g,xn] at e;have:=fl u h;rw[e,aM.2] at this;exact WR this
  ·rw[old v g,h,xN] at e;have:=fl v g;rw[<-e,aM.1] at this;exact WR this
  ·exact zr h (zr g rfl)
  ·rw[h,g,xN,xn] at e;exact rQ hM e
  ·rw[old v g,h,xn] at e;have:=fl v g;rw[<-e,aM.2] at this;exact WR this
  ·rw[h,g,xN,xn] at e;exact rP hM e
  ·exact zr h (zr g rfl)
 ·have nT:∀u,absI u=N->Am (Aj T (.int N) (.int t)) (.int (absI u))=some (.int t):=λu hu=>by exact zr hu (IL (o.nw N (A1B _)))
  have yf:∀u,absI u=M->Am (Aj T' (.int M) (.int t)) (.int (absI u))=some (.int t):=λu hu=>by exact zr hu (IL (o'.nw M (A1B _)))
  rcases(mem v).1 hv with h|h|h
  ·refine zr (old v h) ?_;have e1:qT (Aj T' (.int M) (.int t)) (f v)=qT T' (f v):=by
    unfold qT;exact zr (KY λe=>Int.ne_of_lt (fl v h) (Key.int.inj e)) rfl
   have e2:qT (Aj T (.int N) (.int t)) v=qT T v:=by
    unfold qT;exact zr (KY λe=>Int.ne_of_lt (o.lt v h) (Key.int.inj e)) rfl
   exact zr e1 (zr e2 (r.q v h h0))
  ·exact zr h (zr xN (zr (Fe (yf M aM.1)) (zr (Fe (nT N aN.1)) (zr (Yf (NO hM)) (zr (Yf (NO hN)) rfl)))))
  ·exact zr h (zr xn (zr (Fe (yf (-M) aM.2)) (zr (Fe (nT (-N) aN.2)) (zr (XL (NN hM)) (zr (XL (NN hN)) rfl)))))
noncomputable def wy(x:Sd):Int:=if x.2 then 1 else -1
theorem LM(x:Sd):wy x=1\/wy x=-1:=by unfold wy;split;exact .inl rfl;exact .inr rfl
noncomputable def sgK(kd:Str):Int:=if kd==over then 1 else -1
theorem A9(kd:Str):sgK kd=1\/sgK kd=-1:=by unfold sgK;split;exact .inl rfl;exact .inr rfl
structure Ar where
 L:List Int
 T:List (Key×PV)
 N:Int
 l:Nat
def Ar.F(a:Ar):List Sd:=EC a.L (qT a.T) (a.L.length,true)
def Ar.can(a:Ar):List Sd:=Iy a.F (List.range (a.l+1))
def Ar.go(s:Int)(a:Ar)(x:Sd):Ar:=⟨CH a.L x.1 (s*a.N),Aj a.T (.int a.N) (.int (s*wy x)),a.N+1,a.l+1⟩
noncomputable def Ar.pv(a:Ar)(kd:Str):PV:=aO a.L a.T kd a.N a.l
structure D0(a:Ar)(m:Nat):Prop where
 rk:RK a.L a.T a.N
 le:a.l<=a.L.length
 s1:a.L.length+2*m<=83
 s2:a.T.length+m<=83
theorem Pk:(Aj T k d).length<=T.length+1:=by
 unfold Aj;split
 ·exact zr (KK _) (le_succ _)
 ·exact zr CZ (A0I _)
theorem D0.go(o:D0 a (m+1))(hs:s=1\/s=-1)(x:Sd):D0 (a.go s x) m:=by
 have ht:s*wy x=1\/s*wy x=-1:=by rcases hs with rfl|rfl<;>rcases LM x with h|h<;>refine zr h ?_<;>decide
 have h3:=o.s2;refine⟨o.rk.ins hs ht,?_,?_,?_⟩
 ·show a.l+1<=(CH ..).length;exact zr B4 (rO o.le)
 ·show(CH ..).length+_<=_;exact zr B4 (gf o.s1)
 ·show(Aj ..).length+_<=_;exact gc h3 (Pk (T:=a.T) (k:=.int a.N) (d:=.int (s*wy x)))
def Kq(s:Int):Ar->List Sd->Prop
 |_,[]=>True
 |a,x::ws=>x∈a.can/\Kq s (a.go s x) ws
theorem Mh:∀{ws:List Sd}{a:Ar},Kq s a ws->x∈(ws.foldl (Ar.go s) a).can->Kq s a (ws++[x]):=by
 intro ws;induction ws with
 |nil=>exact λ{_}_ h=>⟨h,trivial⟩
 |cons _ _ ih=>exact λ{_}c h=>⟨c.1,ih c.2 h⟩
theorem Ug:∀{ws:List Sd}{a:Ar},(ws.foldl (Ar.go s) a).L.length=a.L.length+2*ws.length:=by
 intro ws;induction ws with
 |nil=>exact λ{_}=>rfl
 |cons x ws ih=>
  intro a;exact zr A1u (zr ih (zr (show(a.go s x).L.length=a.L.length+2 from B4) (zr A0P ww4)))
theorem D0.fold(hs:s=1\/s=-1):∀{ws:List Sd}{a:Ar}{m:Nat},D0 a (ws.length+m)->D0 (ws.foldl (Ar.go s) a) m:=by
 intro ws;induction ws with
 |nil=>exact λ{a}{m}o=>by rw[A1t,A1v] at o;exact o
 |cons x ws ih=>
  intro a m o;rw[A0P,Nat.add_right_comm] at o;exact ih (o.go hs x)
theorem GM:∀{F:List Sd},PV.Bk (sL F)=true:=by
 intro F;induction F with
 |nil=>exact  rfl
 |cons _ F ih=>exact  ih
theorem TB:PV.eq (sI y) (sI x)=decide (y=x):=by
 show(((y.1:Nat):Int)==((x.1:Nat):Int)&&((if y.2 then(1:Int) else -1)==(if x.2 then(1:Int) else -1)&&true))=_;obtain⟨a,b⟩:=x;obtain⟨c,d⟩:=y;rw[A1G,A1Q,beq_iff_eq,A0j,Prod.mk.injEq,Bool.and_true];refine and_congr A16 ?_;dsimp only;cases b<;>cases d<;>simp
theorem PW:CG (sI x) (.list (sL F))=.ok (decide (x∈F)):=by
 show(if(PV.Bk (sL F)&&PV.flat (sI x)&&decide (PV.depth (sI x)<=60))=true then Res.ok ((sL F).any λy=>PV.eq y (sI x)) else .stuck)=_;refine zr GM (zr (XL (by rfl)) ?_)
 congr 1
 rw[A1G,A1J,A0j];constructor
 ·rintro⟨d,hd,e⟩;refine AE (Ya.1 hd) λy hy Av=>?_;subst Av
  rw[TB,A0j] at e;exact zr e.symm hy
 ·intro h;exact⟨sI x,Ya.2 ⟨x,h,rfl⟩,by refine zr TB ?_;exact ac rfl⟩
theorem IJ(h1:evs cf ρ l=.ok xs)(h2:cf f xs=.ok d)(hc:d.clean=true):ev cf ρ (.call f true l)=.ok d:=by
 refine zr Jl (zr h1 ?_);show(cf f xs).bind _=_;refine zr h2 ?_;show(if(!true||d.clean)=true then _ else _)=_;refine zr hc ?_;rfl
theorem Lq(o:D0 a m){g w:Int}:AC AA (n+5) 15 [a.pv kd,.tuple [.int g,.int w]]=(CG (.tuple [.int g,.int w]) (.list (sL a.can))).bind λr=>.ok (.bool r):=by
 have hm:a.L.length<=1000:=by exact SR o.s1
 have e:=Mn o.rk.ok hm (n:=n) (by have:=o.le;exact gg hm this) (kd:=kd) (f:=a.N);have e4:=Cg (n:=n+3) g;have e5:=Cg (n:=n+3) w;have ei:∃r,CG (.tuple [.int g,.int w]) (.list (sL a.can))=.ok r:=⟨_,by
  show(if(PV.Bk (sL a.can)&&true&&true)=true then Res.ok _ else .stuck)=_;refine zr GM ?_;rfl⟩
 obtain⟨r,ei⟩:=ei;refine zr ei (zr (c2 (by rfl)) ?_);generalize AC AA (n+4)=cf at *;refine Al (o:=.ret _) rfl rfl ?_;refine(AB (ρ':=[some (a.pv kd),some (.tuple [.int g,.int w]),none,none]) rfl).trans (AS (Ax (C1 ?_)));refine(Ak (AH (xs:=[.int g]) rfl e4)).trans ((XL rfl).trans ((Ak (b:=true) (AH (xs:=[.int w]) rfl e5)).trans ((XL rfl).trans ?_)));refine(Ak (Ag (o:=.isIn) (x:=.tuple [.int g,.int w]) (y:=.list (sL a.can)) rfl (AH (xs:=[a.pv kd]) rfl e) ei)).trans ?_;refine zr BO ?_;cases r<;>rfl
theorem Xn(o:D0 a m):AC AA (n+5) 15 [a.pv kd,sI x]=.ok (.bool (decide (x∈a.can))):=by
 refine(Lq o).trans ?_;refine zr (show PV.tuple [.int (x.1:Nat),.int (if x.2 then 1 else -1)]=sI x from rfl) (zr PW ?_);rfl
inductive Eb(a:Ar):PV->Prop where
 |wI {g w:Int} (h:∀x∈a.can,¬((x.1:Int)=g/\wy x=w)):Eb a (.tuple [.int g,.int w])
 |w1 {d:PV}:Eb a (.tuple [d])
 |w3 {d e f:PV}:Eb a (.tuple [d,e,f])
 |wN:Eb a .none
 |wS {x:Str}:Eb a (.str x)
set_option tactic.hygienic true in
theorem Tl(o:D0 a m)(h:Eb a d):AC AA (n+5) 15 [a.pv kd,d]=.ok (.bool false):=by
 cases h with
 |wI h=>
  rename_i g w;refine(Lq o).trans ?_;show(if(PV.Bk (sL a.can)&&true&&true)=true then Res.ok ((sL a.can).any λy=>PV.eq y (.tuple [.int g,.int w])) else .stuck).bind _=_;refine zr GM (zr (XL (by rfl)) ?_);show Res.ok (PV.bool _)=_
  congr 2
  rw[A2C];intro y hy e;refine AE (Ya.1 hy) λx hx Av=>?_;subst Av
  have e:(((x.1:Nat):Int)==g&&((wy x)==w&&true))=true:=e;simp only[Bool.and_eq_true,beq_iff_eq,Bool.and_true] at e;exact h x hx e
 |w1=>exact zr (c2 (by rfl)) (Al (o:=.ret _) rfl rfl (AS rfl))
 |w3=>exact zr (c2 (by rfl)) (Al (o:=.ret _) rfl rfl (AS rfl))
 |wN=>exact zr (c2 (by rfl)) (Al (o:=.ret _) rfl rfl (AS rfl))
 |wS=>exact zr (c2 (by rfl)) (Al (o:=.ret _) rfl rfl (AS rfl))
theorem Wd(o:D0 a m)(hx:x∈a.can):LS (a.pv kd) (.int x.1) (.int (wy x))=.ok ((a.go (sgK kd) x).pv kd):=by
 have h2:=o.s2;have e1:Dq kd a.N=sgK kd*a.N:=by
  unfold Dq sgK;cases kd==over
  ·show 0-a.N=(-1)*a.N;exact gd
  ·show a.N=1*a.N;exact gb
 have e2:(if kd==over then wy x else 0-wy x)=sgK kd*wy x:=by
  unfold sgK;cases kd==over
  ·show 0-wy x=(-1)*wy x;exact gd
  ·show wy x=1*wy x;exact gb
 show(if(decide ((0:Int)<=x.1)&&decide ((x.1:Int)<=(a.L.map PV.int).length)&&decide ((a.L.map PV.int).length<1000)&&AR a.T (.int 0)&&decide (a.T.length<1000))=true then Res.ok (stepO (a.L.map .int) a.T kd a.N a.l x.1 (wy x)) else .stuck)=_;refine zr (KK _) (zr (ac (A0H _)) (zr (ac (by exact SQ (mu (A14 (A0M.1 (DD.1 hx).1)) o.le:x.1<=a.L.length))) (zr (ac (by exact rM o.s1)) (zr (o.rk.ok.fits 0) (zr (ac (by exact gZ h2)) (zr (XL (show(true&&true&&true&&true&&true)=true from rfl)) ?_))))));show Res.ok (PV.obj ((a.L.map PV.int).take ((x.1:Int)).toNat++PV.int (0-Dq kd a.N)::(a.L.map PV.int).drop ((x.1:Int)).toNat++[PV.int (Dq kd a.N)]) (Aj a.T (.int a.N) (.int (if kd==over then wy x else 0-wy x))) kd (a.N+1) ((a.l:Int)+1))=_;rw[e1,e2,A0R,Int.zero_sub,<-map_take,<-map_drop,<-A0Z,<-A0D,<-List.map_singleton,<-A0D];rfl
noncomputable def Vq(D b e k W:PV)(A:PV)(u:Option PV):AP:=[some D,some b,some e,some k,some W,some A,u,none,none]
noncomputable def kt:List PS:=[(.ite (.not (.call 15 true [V5,V6])) [(.raise 2)] []),(.step 5 (.idx V6 K0) (.idx V6 K1)),(.ite (.cmp .gt (.call 56 true [V5]) (.const (.int 40))) [(.raise 4)] [])]
theorem hlf{n:Nat}:(n:Int)/2>40↔81<n:=⟨λg=>A0e.1 ((Int.le_ediv_iff_mul_le (by decide)).1 g),λq=>(Int.le_ediv_iff_mul_le (by decide)).2 (A0e.2 q)⟩
theorem Pa(o:D0 a (m+1))(hx:x∈a.can):exs (AC AA (n+5)) (Vq D b e k W (a.pv kd) (some (sI x))) kt=if 81<a.L.length+2 then .ok (.exc 4) else .ok (.next (Vq D b e k W ((a.go (sgK kd) x).pv kd) (some (sI x)))):=by
 have aP:=Xn (kd:=kd) (n:=n) o (x:=x);rw[ac hx] at aP;have zX:=Ix (n:=n+4) (L:=(a.go (sgK kd) x).L) (T:=(a.go (sgK kd) x).T) (l:=(a.go (sgK kd) x).l) (kd:=kd) (f:=(a.go (sgK kd) x).N);refine(AB (AI (BE (b:=true) (IJ (xs:=[a.pv kd,sI x]) rfl aP rfl)))).trans ?_;refine(AB (ρ':=Vq D b e k W ((a.go (sgK kd) x).pv kd) (some (sI x))) ?_).trans ?_
 ·refine zr iU ?_;show((LS (a.pv kd) (.int x.1) (.int (wy x))).bind λd=>Res.ok (Out.next ((Vq D b e k W (a.pv kd) (some (sI x))).set 5 (some d))))=_;refine zr (Wd o hx) ?_;rfl
 have hl:(a.go (sgK kd) x).L.length=a.L.length+2:=B4;rw[hl] at zX;have hc:=Ag (o:=.gt) (b:=.const (.int 40)) (x:=.int (Int.fdiv ((a.L.length+2:Nat):Int) 2)) (y:=.int 40) (r:=decide (Int.fdiv ((a.L.length+2:Nat):Int) 2>40)) (IJ (ρ:=Vq D b e k W ((a.go (sgK kd) x).pv kd) (some (sI x))) (l:=[.var 5]) (xs:=[(a.go (sgK kd) x).pv kd]) rfl zX rfl) rfl rfl;rw[Int.fdiv_eq_ediv_of_nonneg _ (by decide)] at hc;by_cases q:81<a.L.length+2
 ·rw[ac (hlf.2 q)] at hc;refine zr (XL q) ?_;exact Dc (zr (Ai hc) rfl) λJ h=>by cases h
 ·rw[dV (mt hlf.1 q)] at hc;exact zr (Yf q) ((AB (AI hc)).trans Ae)
theorem UY(o:D0 a m)(hd:Eb a d):exs (AC AA (n+5)) (Vq D b e k W (a.pv kd) (some d)) kt=.ok (.exc 2):=by
 exact Dc (zr (Ai (BE (IJ rfl (Tl (kd:=kd) (n:=n) o hd) rfl))) rfl) λJ h=>by cases h
theorem UZ:∀{ws:List Sd}{a:Ar}{u:Option PV},D0 a ws.length->a.L.length+2*ws.length<=81->Kq (sgK kd) a ws ->
  ∃u',An (λρ'=>exs (AC AA (n+5)) ρ' kt) (.one 6) (sL ws++r) (Vq D b e k W (a.pv kd) u)=An (λρ'=>exs (AC AA (n+5)) ρ' kt) (.one 6) r (Vq D b e k W ((ws.foldl (Ar.go (sgK kd)) a).pv kd) u'):=by
 intro ws;induction ws with
 |nil=>exact λ{a}{u}_ _ _=>⟨u,rfl⟩
 |cons x ws HN=>
  intro a u o h c;rw[A0P] at o h;obtain⟨u',ih⟩:=HN (o.go (A9 kd) x) (zr (B4:(a.go (sgK kd) x).L.length=a.L.length+2) (ww5 h)) c.2;refine⟨u',(Aa rfl ?_).trans ih⟩;exact zr (Pa o c.1) (zr (Yf (ww6 h)) rfl)
noncomputable def under:Str := "under"
noncomputable def BY(ps:List Int)(b e:Nat):List Int:=((ps.take e).drop b).map absI
def lftL(ps:List Int)(b e:Nat):List Int:=(ps.drop e++0::ps.take b).filter λv=>!decide (absI v∈BY ps b e)
structure BV(ps us:List Int)(n b e:Nat)(kd:Str):Prop where
 good:Good n ps
 len:us.length=n
 ok:∀t∈us,t=1\/t=-1
 dr:Dr ps us
 n40:n<=40
 be:b<=e
 el:e<=ps.length
 knd:kd=over\/kd=under
 all:∀v∈(ps.take e).drop b,if kd==over then 0<v else v<0
theorem C4(h:i<=n):Dw n (i:Int)=i:=by
 unfold Dw;rw[Yf (A1I.2 (A0H i)),A0R,A1K h]
theorem O1{b e:Nat}(hb:b<=l.length)(he:e<=l.length):JF (some (.int b)) (some (.int e)) (.tuple l)=.ok (.tuple ((l.take e).drop b)):=by
 show Res.ok (PV.tuple (Kd l (Dw l.length b) (Dw l.length e)))=_;refine zr (C4 hb) (zr (C4 he) ?_);rfl
theorem b6{e:Nat}(he:e<=l.length):JF (some (.int e)) Option.none (.tuple l)=.ok (.tuple (l.drop e)):=by
 show Res.ok (PV.tuple (Kd l (Dw l.length e) l.length))=_;refine zr (C4 he) ?_;unfold Kd;exact zr take_length rfl
theorem Wh{b:Nat}(hb:b<=l.length):JF Option.none (some (.int b)) (.tuple l)=.ok (.tuple (l.take b)):=by
 show Res.ok (PV.tuple (Kd l 0 (Dw l.length b)))=_;refine zr (C4 hb) ?_;rfl
theorem GU{l:List Int}:CG (.int i) (.list (l.map .int))=.ok (decide (i∈l)):=by
 show(if(PV.Bk (l.map .int)&&true&&decide (0<=60))=true then Res.ok ((l.map PV.int).any λy=>PV.eq y (.int i)) else .stuck)=_;refine(XL (zr (Er _) rfl)).trans ?_
 congr 1
 rw[A1G,A1J,A0j];constructor
 ·rintro⟨d,hd,e⟩;refine AE (Ya.1 hd) λy hy Av=>?_;subst Av
  rw[G5,beq_iff_eq] at e;exact zr e.symm hy
 ·intro h;exact⟨.int i,Ya.2 ⟨i,h,rfl⟩,by refine zr G5 ?_;exact A0v _⟩
theorem Cu(h:l.length<=Ab):FP l=.ok (.list l):=XL h
theorem EV{cond:AP->Res Bool}:∀{ds:List PV}{ρ:AP},(∀d∈ds,cond (ρ.set i (some d))=.ok (p d)/\elt (ρ.set i (some d))=.ok (f d))->A8 elt cond (.one i) ds ρ=.ok ((ds.filter p).map f):=by
 intro ds;induction ds with
 |nil=>exact λ{_}_=>rfl
 |cons d ds HN=>
  intro ρ h;have h1:=h d d4;have ih:=HN (ρ:=ρ.set i (some d)) (λd' hd=>by
   refine zr (List.set_set _) ?_;exact h d' (kV _ hd))
  refine zr IR (zr HY (zr AM (zr h1.1 (zr AM (zr h1.2 (zr ih (zr filter_cons ?_)))))));cases p d<;>rfl
theorem BV.NE(h:BV ps us n b e kd):ps.length<=80:=by exact zr h.good.len (SO h.n40)
theorem J4(h:Dr ps us):AC AA (k+5) 8 [dI (ps,us)]=.ok .none:=by
 refine zr (c2 (by rfl)) ?_;have e:=kh (k:=k) h;generalize AC AA (k+4)=cf at e;refine Al (o:=.next [some (dI (ps,us)),none,none]) rfl rfl ?_;exact(AB (AI (BE (b:=true) (AH rfl e)))).trans Ae
theorem OK:EX .eq (.str x) (.str y)=.ok (x==y):=rfl
noncomputable def kn(kd:Str)(v:Int):Bool:=if kd==over then decide (v>0) else decide (v<0)
theorem W0:AC AA (k+1) 11 [.int v,.str kd]=.ok (.bool (kn kd v)):=by
 refine zr (c2 (by rfl)) ?_;refine Al (o:=.ret _) rfl rfl (AS (Ax ?_));refine zr Sl (zr (Ag rfl rfl OK) ?_);show(if(kd==over)=true then Res.ok (PV.bool (decide (v>0))) else Res.ok (PV.bool (decide (v<0))))=_;unfold kn;cases kd==over<;>rfl
theorem Ph{e:PE}(h:ev cf ρ e=.ok .none):ex cf ρ (.expr e)=.ok (.next ρ):=zr aY (zr h rfl)
noncomputable def Td(ps us:List Int)(b e kd:PV):AP:=[some (dI (ps,us)),some b,some e,some kd,some (tI ps),none,none]
noncomputable def Th:PE:=(.or [(.not (.call 4 false [V1])),(.not (.call 4 false [V2])),(.not (.chain K0 V1 V2 (ln V4)))])
noncomputable def Tg:PE:=(.or [(.not (.prim (.isi .str) [V3])),(.cmp .notIn V3 (.tup [KO,KU]))])
noncomputable def W8:PE:=(.not (.prim .all [(.comp (.call 11 false [V5,V3]) (.one 5) .seq [(.slLH V4 V1 V2)] [])]))
theorem Te(h:Dr ps us){b e kd:PV}:exs (AC AA (k+5)) [some (dI (ps,us)),some b,some e,some kd,none,none,none] D7.body=exs (AC AA (k+5)) (Td ps us b e kd) [.ite Th [.raise 1] [],.ite Tg [.raise 1] [],.ite W8 [.raise 1] []]:=
 (AB (MJ (Ph (AH rfl (J4 (k:=k) h))))).trans (AB rfl)
theorem Ld{b e:Int}{kd:PV}:ev (AC AA (k+5)) (Td ps us (.int b) (.int e) kd) Th=.ok (.bool (!(decide (0<=b)&&decide (b<=e)&&decide (e<=(ps.length:Nat))))):=by
 have e4:∀i:Int,AC AA (k+5) 4 [.int i]=.ok (.bool true):=λi=>Cg i
 refine EQ ((BT (BE (AH (xs:=[.int b]) rfl (e4 _)))).trans ((BT (BE (b:=true) (AH (xs:=[.int e]) rfl (e4 _)))).trans ?_));rw[E3,BE (b:=decide (0<=b)&&decide (b<=e)&&decide (e<=(ps.length:Nat))) ?_,AM,ER]
 ·cases (decide (0<=b)&&decide (b<=e)&&decide (e<=(ps.length:Nat)))<;>rfl
 ·show Res.ok (PV.bool (decide (0<=b)&&decide (b<=e)&&decide (e<=((ps.map PV.int).length:Nat))))=_;exact zr (KK _) rfl
theorem PD{b e:PV}:ev (AC AA (k+5)) (Td ps us b e (.str kd)) Tg=.ok (.bool (!((over==kd)||(under==kd)))):=by
 refine EQ ((BT (BE (b:=true) rfl)).trans ?_);rw[E3,Ag (x:=.str kd) (y:=.tuple [.str over,.str under]) (r:=!((over==kd)||((under==kd)||false))) rfl rfl rfl,AM,ER,Bool.or_false];cases ((over==kd)||(under==kd))<;>rfl
theorem RY{α:Type}{f:α->Bool}:∀(l:List α),Dx (l.map λx=>PV.bool (f x))=some (l.map f):=by
 intro l;induction l with
 |nil=>exact  rfl
 |cons d l ih=>exact  by rw[A0Z,Dx,ih];rfl
theorem ZH(hl:ps.length<=80){b e:Nat}(h1:b<=e)(h2:e<=ps.length):ev (AC AA (k+5)) (Td ps us (.int b) (.int e) (.str kd)) W8=.ok (.bool (!(((ps.take e).drop b).all (kn kd)))):=by
 have e9:∀v:Int,AC AA (k+5) 11 [.int v,.str kd]=.ok (.bool (kn kd v)):=λv=>W0
 generalize AC AA (k+5)=cf at *;refine BE ?_;have hc:ev cf (Td ps us (.int b) (.int e) (.str kd)) (.comp (.call 11 false [V5,V3]) (.one 5) .seq [(.slLH V4 V1 V2)] [])=.ok (.list (((ps.take e).drop b).map λv=>.bool (kn kd v))):=by
  have e1:((ps.map PV.int).take e).drop b=((ps.take e).drop b).map PV.int:=zr map_drop (zr map_take rfl);have sl:=O1 (l:=ps.map PV.int) (b:=b) (e:=e) (zr (KK _) (QH h1 h2)) (by refine zr (KK _) ?_;exact QJ h2);rw[e1] at sl;refine BN (xs:=[.tuple (((ps.take e).drop b).map PV.int)]) ?_ rfl (Ck λv J=>⟨rfl,AH (xs:=[.int v,.str kd]) rfl (e9 v)⟩) ?_
  ·refine zr AO (zr (show ev cf (Td ps us (.int b) (.int e) (.str kd)) (.slLH V4 V1 V2)=_ from sl) ?_);rfl
  ·refine zr (KK _) (zr A0n (zr A0V ?_));unfold Ab;exact aT hl
 refine zr Bo (zr AO (zr hc ?_));show Mo _=_;unfold Mo;refine zr (RY _) ?_;exact A0U (λb=>Res.ok (PV.bool b)) (zr List.all_map rfl)
inductive C7(ps:List Int):PV->PV->PV->Prop where
 |b0 {e kd:PV}:C7 ps .none e kd
 |b1 {t:Bool} {e kd:PV}:C7 ps (.bool t) e kd
 |e0 {b:Int} {kd:PV}:C7 ps (.int b) .none kd
 |ch {b e:Int} {kd:PV} (h:(decide (0<=b)&&decide (b<=e)&&decide (e<=(ps.length:Nat)))=false):C7 ps (.int b) (.int e) kd
 |k0 {b e:Int}:C7 ps (.int b) (.int e) .none
 |k1 {b e i:Int}:C7 ps (.int b) (.int e) (.int i)
 |k2 {b e:Int} {kd:Str} (h:((over==kd)||(under==kd))=false):C7 ps (.int b) (.int e) (.str kd)
 |al {b e:Nat} {kd:Str} (h1:b<=e) (h2:e<=ps.length) (h:((ps.take e).drop b).all (kn kd)=false):C7 ps (.int b) (.int e) (.str kd)
set_option tactic.hygienic true in
theorem bh(h:Dr ps us){b e kd:PV}(q:C7 ps b e kd):DG (k+6) 12 [dI (ps,us),b,e,kd] 1:=by
 refine B1 rfl rfl rfl (A1X (Te h) ?_);have r1:∀{b e kd:PV},ev (AC AA (k+5)) (Td ps us b e kd) Th=.ok (.bool true)->exs (AC AA (k+5)) (Td ps us b e kd) [.ite Th [.raise 1] [],.ite Tg [.raise 1] [],.ite W8 [.raise 1] []]=.ok (.exc 1):=λh=>Dc (zr (Ai h) rfl) λJ h=>by cases h
 have r2:∀{b e:Int}{kd:PV},ev (AC AA (k+5)) (Td ps us (.int b) (.int e) kd) Tg=.ok (.bool true)->exs (AC AA (k+5)) (Td ps us (.int b) (.int e) kd) [.ite Th [.raise 1] [],.ite Tg [.raise 1] [],.ite W8 [.raise 1] []]=.ok (.exc 1):=λ{b e kd}h=>by
  cases hc:(decide (0<=b)&&decide (b<=e)&&decide (e<=(ps.length:Nat))) with
  |false=>exact r1 (zr Ld (zr hc rfl))
  |true=>exact(AB (AI (zr Ld (zr hc rfl)))).trans (Dc (zr (Ai h) rfl) λJ h=>by cases h)
 cases q with
 |b0=>exact r1 rfl
 |b1=>exact r1 rfl
 |e0=>exact r1 (EQ ((BT (BE (AH rfl (Cg _)))).trans rfl))
 |ch h=>exact r1 (zr Ld (zr h rfl))
 |k0=>exact r2 rfl
 |k1=>exact r2 rfl
 |k2 h=>exact r2 (zr PD (zr h rfl))
 |al h1 h2 h3=>
  rename_i b e kd;cases hk:((over==kd)||(under==kd)) with
  |false=>exact r2 (zr PD (zr hk rfl))
  |true=>
   refine(AB (AI ?_)).trans ((AB (AI (zr PD (zr hk rfl)))).trans (Dc (by refine zr (Ai (ZH (zr h.1.good.len (SO h.1.n40)) h1 h2)) (zr h3 ?_);rfl) λJ h=>by cases h));refine zr Ld (zr (ac (A0H _)) (zr (ac (by exact SQ h1)) (zr (ac (by exact SQ h2)) ?_)));rfl
theorem J3(h:BV ps us n b e kd):AC AA (k+6) 12 [dI (ps,us),.int b,.int e,.str kd]=.ok .none:=by
 have h1:=h.be;have h2:=h.el;refine zr (c2 (by rfl)) ?_;refine Al (o:=.next (Td ps us (.int b) (.int e) (.str kd))) rfl rfl (A1X (Te h.dr) ?_);refine(AB (AI ?_)).trans ((AB (AI ?_)).trans ((AB (AI ?_)).trans Ae))
 ·refine zr Ld (zr (ac (A0H _)) (zr (ac (by exact SQ h1)) (zr (ac (by exact SQ h2)) ?_)));rfl
 ·refine zr PD ?_;rcases h.knd with q|q<;>subst q<;>rfl
 ·rw[ZH h.NE h1 h2,show((ps.take e).drop b).all (kn kd)=true from A0T.2 λv hv=>?_];rfl;have:=h.all v hv;unfold kn;cases q:kd==over with
  |true=>rw[q,XL rfl] at this;exact ac this
  |false=>rw[q,Yf A0O] at this;exact ac this
theorem O4(h:BV ps us n b e kd):AC AA (k+1) 13 [dI (ps,us),.int b,.int e]=.ok (.list ((ps.drop e++0::ps.take b).map .int)):=by
 have hl:=h.NE;have h2:=h.el;refine zr (c2 (by rfl)) ?_;generalize AC AA k=cf;refine Al (o:=.ret _) rfl rfl (AS (Ax ?_));have g1:ev cf [some (dI (ps,us)),some (.int b),some (.int e),none,none] (.prim .listOf [(.slL (.idx V0 K0) V2)])=.ok (.list ((ps.map PV.int).drop e)):=by
  refine zr Bo (zr AO (zr (show ev cf [some (dI (ps,us)),some (.int b),some (.int e),none,none] (.slL (.idx V0 K0) V2)=.ok (.tuple ((ps.map PV.int).drop e)) from b6 (zr (KK _) (QJ h2))) ?_));rfl
 have g2:ev cf [some (dI (ps,us)),some (.int b),some (.int e),none,none] (.prim .listOf [(.slH (.idx V0 K0) V1)])=.ok (.list ((ps.map PV.int).take b)):=by
  refine zr Bo (zr AO (zr (show ev cf [some (dI (ps,us)),some (.int b),some (.int e),none,none] (.slH (.idx V0 K0) V1)=.ok (.tuple ((ps.map PV.int).take b)) from Wh (zr (KK _) (QH h.be h2))) ?_));rfl
 refine Af (Af g1 rfl (Cu (by rw[CZ,A0n,KK,nP];unfold Ab;exact gY hl):FP ((ps.map PV.int).drop e++[PV.int 0])=.ok (.list ((ps.map PV.int).drop e++[PV.int 0])))) g2 ?_;show FP ((ps.map PV.int).drop e++[.int 0]++(ps.map PV.int).take b)=_;rw[<-map_drop,<-map_take,show[PV.int 0]=[(0:Int)].map PV.int from rfl,<-A0D,<-A0D,on];refine(Cu ?_).trans ?_
 ·refine zr (KK _) (zr CZ (zr CZ (zr A0n (zr A0V ?_))));unfold Ab;simp;exact gX hl
 ·rfl
theorem L6:∀{l:List Int},((l.map PV.int).filter λd=>match d with|.int v=>p v|_=>false)=(l.filter p).map PV.int
 |[]=>rfl
 |v::l=>by
  refine zr A0Z (zr filter_cons (zr filter_cons (zr L6 ?_)));show(if p v=true then _ else _)=_;cases p v<;>rfl
noncomputable def ar0(ps us:List Int)(b e:Nat):Ar:=⟨lftL ps b e,dT us,(us.length:Int)+1,(lftL ps b e).length⟩
theorem Fq(h:BV ps us n b e kd):(lftL ps b e).length<=ps.length+1:=by
 unfold lftL;refine mu (length_filter_le _ _) ?_;exact zr CZ (zr A0P (zr A0n (zr A0V (ww8 h.be))))
theorem Xb(h:BV ps us n b e kd):(lftL ps b e).length<=81:=by
 have h1:=h.be;unfold lftL;refine mu (length_filter_le _ _) ?_;exact zr CZ (zr A0P (zr A0n (zr A0V (rL h.NE h1))))
theorem Lw(h:BV ps us n b e kd)(ha:ev cf ρ a=.ok (.tuple (((ps.map PV.int).take e).drop b)))(hs:∀d,slot ((ρ.set i none).set i (some d)) i=.ok d):ev cf ρ (.comp (.prim .abs [(.var i)]) (.one i) .seq [a] [])=.ok (.list ((BY ps b e).map .int)):=by
 have e1:((ps.map PV.int).take e).drop b=((ps.take e).drop b).map PV.int:=zr map_drop (zr map_take rfl);rw[e1] at ha;refine BN (zr AO (zr ha rfl)) rfl ?_ ?_
 ·have:=MW (elt:=λρ'=>ev cf ρ' (.prim .abs [(.var i)])) (cond:=λρ'=>evAnd cf ρ' []) (f:=λd=>match d with|.int v=>.int (absI v)|d=>d) (ds:=((ps.take e).drop b).map PV.int) (ρ:=Pq (.one i) ρ) (λd hd=>⟨rfl,by
   refine AE (Ya.1 hd) λv J Av=>?_;subst Av
   rw[Oa,Bo,AO,Bp,hs];rfl⟩)
  refine zr this (zr A0g ?_);unfold BY;refine zr A0g ?_;rfl
 ·refine zr (KK _) ?_;unfold BY;refine zr (KK _) (zr A0n (zr A0V ?_));unfold Ab;exact aT h.NE
theorem Li{cf:Nat->List PV->Res PV}{ρ:AP}(h:BV ps us n b e kd)(ha:ev cf ρ a=.ok (.list ((ps.drop e++0::ps.take b).map .int)))(hs:∀d,slot ((ρ.set i none).set i (some d)) i=.ok d)(hj:∀d,slot ((ρ.set i none).set i (some d)) j=.ok (.list ((BY ps b e).map .int))):
  ev cf ρ (.comp (.var i) (.one i) .seq [a] [(.cmp .notIn (.prim .abs [(.var i)]) (.var j))])=.ok (.list ((lftL ps b e).map .int)):=by
 refine BN (ds:=(ps.drop e++0::ps.take b).map .int) (ys:=(lftL ps b e).map .int) (zr AO (zr ha rfl)) rfl ?_ (by refine zr (KK _) ?_;unfold Ab;exact rK (Xb h));have:=EV (elt:=λρ'=>ev cf ρ' (.var i)) (cond:=λρ'=>evAnd cf ρ' [(.cmp .notIn (.prim .abs [(.var i)]) (.var j))]) (p:=λd=>match d with|.int v=>!decide (absI v∈BY ps b e)|_=>false) (f:=id) (ds:=(ps.drop e++0::ps.take b).map .int) (ρ:=Pq (.one i) ρ) (λd hd=>by
  refine AE (Ya.1 hd) λv J Av=>?_;subst Av
  refine zr Oa ?_;refine⟨?_,(Bp.trans (hs _))⟩;refine(Ak (Ag (o:=.notIn) (x:=.int (absI v)) (y:=.list ((BY ps b e).map .int)) (by rw[Bo,AO,Bp,hs];rfl:ev cf ((ρ.set i none).set i (some (.int v))) (.prim .abs [(.var i)])=.ok (.int (absI v))) (Bp.trans (hj _)) (zr JX (zr GU rfl)))).trans ?_;refine zr BO ?_;show(if(!decide (absI v∈BY ps b e))=true then Res.ok true else Res.ok false)=Res.ok (!decide (absI v∈BY ps b e));cases decide (absI v∈BY ps b e)<;>rfl)
 rw[this,L6,List.map_id];rfl
theorem JR:∀l:List Int,PV.Bm (l.map .int)=true
 |[]=>rfl
 |i::l=>JR l
theorem UT:∀(us:List Int)(j:Nat),PV.Bm (((us.zipIdx j).map λp=>(Key.int ((p.2:Int)+1),PV.int p.1)).map (·.2))=true:=by
 intro us;induction us with
 |nil=>exact λ_=>rfl
 |cons _ us ih=>exact λj=>ih (j+1)
theorem Xr:PV.Bm ((dT us).map (·.2))=true:=UT us 0
theorem Uo{b c d:PE}(h0:slot ρ i=.ok x)(h1:ev cf ρ b=.ok y)(h2:ev cf ρ c=.ok z)(h3:ev cf ρ d=.ok u)(h:mT x y z u=.ok r):ex cf ρ (.retMk i b c d)=.ok (.ret r):=by
 refine zr iT (zr h0 (zr AM (zr h1 (zr AM (zr h2 (zr AM (zr h3 (zr AM (zr h ?_)))))))));rfl
theorem cA(h:BV ps us n b e kd):AC AA (k+2) 14 [dI (ps,us),.int b,.int e,.str kd]=.ok ((ar0 ps us b e).pv kd):=by
 have hl:=h.NE;have h2:=h.el;have h4:=h.len;have fm:=O4 (k:=k) h;have e5:=HX (n:=k) (p:=(ps,us)) (by show us.length<1000;exact ae h.n40 h4);refine zr (c2 (by rfl)) ?_;generalize AC AA (k+1)=cf at *;refine Al (o:=.ret _) (ρ:=[some (dI (ps,us)),some (.int b),some (.int e),some (.str kd),none,none,none,none]) rfl rfl ?_;refine(AB (ρ':=[some (dI (ps,us)),some (.int b),some (.int e),some (.str kd),some (.list ((BY ps b e).map .int)),none,none,none]) (AF (Lw h ?_ λd=>rfl))).trans ?_
 ·exact O1 (l:=ps.map PV.int) (b:=b) (e:=e) (zr (KK _) (QH h.be h2)) (by refine zr (KK _) ?_;exact QJ h2)
 refine(AB (ρ':=[some (dI (ps,us)),some (.int b),some (.int e),some (.str kd),some (.list ((BY ps b e).map .int)),some (.list ((lftL ps b e).map .int)),none,none]) (AF (Li h (AH (xs:=[dI (ps,us),.int b,.int e]) rfl fm) (λd=>rfl) λd=>rfl))).trans ?_;refine AS (Uo (x:=.list ((lftL ps b e).map .int)) (y:=.dict (dT us)) (z:=.str kd) (u:=.int ((us.length:Int)+1)) rfl (AH (xs:=[dI (ps,us)]) rfl e5) rfl ?_ ?_)
 ·refine Af (x:=.int (us.length:Nat)) (y:=.int 1) ?_ rfl rfl;show Res.ok (PV.int ((us.map PV.int).length:Nat))=_;exact zr (KK _) rfl
 ·show(if(AR (dT us) (.int 0)&&PV.Bm ((lftL ps b e).map .int)&&PV.Bm ((dT us).map (·.2)))=true then Res.ok (PV.obj ((lftL ps b e).map .int) (dT us) kd ((us.length:Int)+1) (((lftL ps b e).map PV.int).length:Nat)) else .stuck)=_;rw[Et,JR,Xr,XL (show(true&&true&&true)=true from rfl),KK];rfl
theorem Fl:v∈lftL ps b e↔(v∈ps.drop e\/v=0\/v∈ps.take b)/\absI v∉BY ps b e:=by
 unfold lftL;rw[A0u,XP,A0E,A2D,decide_eq_false_iff_not]
theorem lW:absI 0=0:=rfl
theorem cS(h:BV ps us n b e kd):(0:Int)∉BY ps b e:=λq=>by
 refine AE (Ya.1 q) λv hv e1=>?_
 have h1:=h.good.ok v (A1A (A1F hv));rcases Oj v with e2|e2<;>(first|exact(rJ e1 h1.1 e2).elim|exact(rH e1 h1.1 e2).elim)
theorem Nn(h:BV ps us n b e kd)(hv:v∈lftL ps b e)(h0:v≠0):v∈ps/\absI v<=n/\0<absI v:=by
 have hp:v∈ps:=by
  rcases(Fl.1 hv).1 with q|q|q
  ·exact A1F q
  ·exact absurd q h0
  ·exact A1A q
 refine⟨hp,(h.good.ok v hp).2,?_⟩;unfold absI;split<;>(first|exact WQ (by assumption)|exact WP h0 (by assumption))
theorem Na(h:BV ps us n b e kd):ps=ps.take b++((ps.take e).drop b++ps.drop e):=by
 have h1:(ps.take e).drop b++ps.drop e=ps.drop b:=by
  refine zr drop_take ?_;have:ps.drop e=(ps.drop b).drop (e-b):=zr drop_drop (zr (Nat.add_sub_cancel' h.be) rfl);rw[this,A1O]
 rw[h1,A1O]
theorem cB(h:BV ps us n b e kd):(lftL ps b e).Nodup:=by
 refine List.Pairwise.filter _ ?_;have hn:=h.good.nd;rw[Na h] at hn;refine DI (A0S.1 hn) λn1 n2 n3=>?_
 refine DI (A0S.1 n2) λm1 m2 m3=>?_
 have z:∀v∈ps,v≠0:=λv hv=>(h.good.ok v hv).1
 refine A0S.2 ⟨m2,A1C.2 ⟨λq=>z 0 (A1A q) rfl,n1⟩,λa ha c hc e1=>?_⟩;rcases A0E.1 hc with q|q
 ·exact z a (A1F ha) (e1.trans q)
 ·exact n3 c q a (nf _ ha) e1.symm
theorem Xa(h:BV ps us n b e kd)(hv:v∈lftL ps b e):-v∈lftL ps b e:=by
 by_cases h0:v=0
 ·rw[h0] at hv ⊢;exact hv
 ·refine DI (Nn h hv h0) λJ h2 J=>?_
  have hg:=(Fl.1 hv).2;have hm:=h.good.mem (WO h0) (zr (Bv _) h2);refine Fl.2 ⟨?_,by refine zr (Bv _) ?_;exact hg⟩;rw[Na h] at hm;rcases XP.1 hm with q|q
  ·exact .inr (.inr q)
  ·rcases XP.1 q with q|q
   ·exact absurd (Ya.2 ⟨-v,q,Bv v⟩) hg
   ·exact .inl q
theorem ZL(h:BV ps us n b e kd):(0:Int)∈lftL ps b e:=Fl.2 ⟨.inr (.inl rfl),cS h⟩
theorem ZZ(h:BV ps us n b e kd)(hv:v∈lftL ps b e)(h0:v≠0):∃t:Int,(t=1\/t=-1)/\Am (dT us) (.int (absI v))=some (.int t):=by
 refine DI (Nn h hv h0) λJ h2 h3=>?_
 obtain⟨j,hj⟩:∃j:Nat,absI v=(j:Int)+1:=⟨_,(jF h3).symm⟩;have zC:=rE h2 hj h.len;refine⟨us[j],h.ok _ (A0w zC),?_⟩;refine zr hj ?_;exact OV (TW zC)
theorem TF(h:BV ps us n b e kd)(hf:∀i,AR T (.int i)=true)(hT:∀v∈lftL ps b e,v≠0->Am T (.int (absI v))=Am (dT us) (.int (absI v))):Go (lftL ps b e) T (qT T):=
 ⟨cB h,λJ=>Xa h,hf,λv hv h0=>by
  refine AE (ZZ h hv h0) λt ht hd=>?_
  have Au:=(hT v hv h0).trans hd;exact⟨t,ht,Au,Fe Au⟩⟩
theorem rk0(h:BV ps us n b e kd):RK (lftL ps b e) (dT us) ((us.length:Int)+1):=by
 refine⟨TF h (λJ=>Et) λJ J J=>rfl,λv hv=>?_,λj hj=>?_,by exact Qi,ZL h⟩
 ·by_cases h0:v=0
  ·exact zr h0 (zr lW Qi)
  ·exact rG h.len ((Nn h hv h0).2.1)
 ·obtain⟨m,rfl⟩:∃m:Nat,j=(m:Int)+1:=⟨_,(jF (Int.lt_of_lt_of_le Qi hj)).symm⟩;exact OU (rF hj)
theorem Uz:(dT us).length=us.length:=by unfold dT;exact zr (KK _) (zr A13 rfl)
theorem VI(h:BV ps us n b e kd)(h1:(lftL ps b e).length+2*m<=83)(h2:us.length+m<=83):D0 (ar0 ps us b e) m:=by
 refine⟨rk0 h,A0I _,h1,?_⟩;show(dT us).length+m<=83;exact zr Uz h2
theorem N4(h:BV ps us n b e kd)(hf:An (λρ'=>exs (AC AA (k+6)) ρ' kt) (.one 6) ds (Vq (dI (ps,us)) (.int b) (.int e) (.str kd) (.tuple ds) ((ar0 ps us b e).pv kd) none)=.ok o):
  exs (AC AA (k+6)) [some (dI (ps,us)),some (.int b),some (.int e),some (.str kd),some (.tuple ds),none,none,none,none] E2.body=yO (AC AA (k+6)) [.ret V5] o:=by
 have pR:=J3 (k:=k) h;have pQ:=cA (k:=k+4) h;generalize AC AA (k+6)=cf at *;refine(AB (MJ (Ph (AH (xs:=[dI (ps,us),.int b,.int e,.str kd]) rfl pR)))).trans ?_;refine(AB (ρ':=Vq (dI (ps,us)) (.int b) (.int e) (.str kd) (.tuple ds) ((ar0 ps us b e).pv kd) none) (AF (AH rfl pQ))).trans ?_;exact(AB (AI (BE (b:=true) rfl))).trans (Un (As (xs:=[.tuple ds]) rfl rfl hf))
theorem IB(h:BV ps us n b e kd)(o:D0 (ar0 ps us b e) ws.length)(hl:(lftL ps b e).length+2*ws.length<=81)(c:Kq (sgK kd) (ar0 ps us b e) ws):AC AA (k+7) 16 [dI (ps,us),.int b,.int e,.str kd,.tuple (sL ws)]=.ok ((ws.foldl (Ar.go (sgK kd)) (ar0 ps us b e)).pv kd):=by
 obtain⟨u,e5⟩:=UZ o hl c;rw[A0k] at e5;exact zr (c2 (by rfl)) (Al (o:=.ret _) rfl rfl ((N4 h (e5.trans KG)).trans (AS rfl)))
theorem IA(h:BV ps us n b e kd)(o:D0 (ar0 ps us b e) (ws.length+0))(hl:(lftL ps b e).length+2*ws.length<=81)(c:Kq (sgK kd) (ar0 ps us b e) ws)(hd:Eb (ws.foldl (Ar.go (sgK kd)) (ar0 ps us b e)) d):DG (k+7) 16 [dI (ps,us),.int b,.int e,.str kd,.tuple (sL ws++d::r)] 2:=by
 obtain⟨u,e5⟩:=UZ o hl c;refine B1 rfl rfl rfl ((N4 h (o:=.exc 2) (e5.trans ?_)).trans rfl);exact zr Ue (zr HY (zr AM ((A0U (λx=>Res.bind x _) (UY (D0.fold (A9 kd) o) hd)).trans rfl)))
theorem JT(h:BV ps us n b e kd)(o:D0 (ar0 ps us b e) (ws.length+1))(hl:(lftL ps b e).length+2*ws.length=81)(c:Kq (sgK kd) (ar0 ps us b e) ws)(hx:x∈(ws.foldl (Ar.go (sgK kd)) (ar0 ps us b e)).can):DG (k+7) 16 [dI (ps,us),.int b,.int e,.str kd,.tuple (sL ws++sI x::r)] 4:=by
 obtain⟨u,e5⟩:=UZ (⟨o.rk,o.le,by have:=o.s1;exact ST this,by have:=o.s2;exact SS this⟩:D0 (ar0 ps us b e) ws.length) (Nat.le_of_eq hl) c;refine B1 rfl rfl rfl ((N4 h (o:=.exc 4) (e5.trans ?_)).trans rfl);refine zr Ue (zr HY (zr AM ?_));refine(A0U (λx=>Res.bind x _) (Pa (D0.fold (A9 kd) o) hx)).trans ?_;refine zr (hl▸Ug:(ws.foldl (Ar.go (sgK kd)) (ar0 ps us b e)).L.length=81) (zr (XL (by decide)) ?_);rfl
theorem Lj(o:D0 a m):AC AA (k+4) 55 [a.pv kd]=.ok (.bool (decide ((0,false)∈a.F))):=
 Rf o.rk.ok (by exact SR o.s1) (l:=a.l) (kd:=kd) (f:=a.N)
theorem Sw(h:BV ps us n b e kd)(o:D0 (ar0 ps us b e) (ws.length+0))(hl:(lftL ps b e).length+2*ws.length<=81)(c:Kq (sgK kd) (ar0 ps us b e) ws):AC AA (k+8) 18 [dI (ps,us),.int b,.int e,.str kd,.tuple (sL ws)]=.ok (.tuple [.list (sL (ws.foldl (Ar.go (sgK kd)) (ar0 ps us b e)).can),.bool (decide ((0,false)∈(ws.foldl (Ar.go (sgK kd)) (ar0 ps us b e)).F))]):=by
 have e14:=IB (k:=k) h o hl c;have o:=D0.fold (A9 kd) o;generalize ws.foldl (Ar.go (sgK kd)) (ar0 ps us b e)=a at *;have hm:a.L.length<=1000:=by exact gW o.s1
 have e34:AC AA (k+7) 54 [a.pv kd]=.ok (.list (sL a.can)):=Mn o.rk.ok hm (by exact gg hm o.le);have e35:AC AA (k+7) 55 [a.pv kd]=.ok (.bool (decide ((0,false)∈a.F))):=Lj o;refine zr (c2 (by rfl)) ?_;generalize AC AA (k+7)=cf at *;refine Al (o:=.ret _) rfl rfl ?_;refine(AB (MJ (AF (AH rfl e14)))).trans (AS (Ax ?_));rw[JB,AO,AH rfl e34,AM,AO,AH rfl e35];rfl
noncomputable def FH(us:List Int)(gl:List Int):List (Key×PV):=(dT us).filter λp=>!decide (p.1.i∈gl)
theorem UD{gl:List Int}(hi:i∉gl):∀{l:List (Key×PV)},Am (l.filter λp=>!decide (p.1.i∈gl)) (.int i)=Am l (.int i)
 |[]=>rfl
 |p::l=>by
  have ih:=UD hi (l:=l);unfold Am at ih ⊢;refine zr filter_cons ?_;by_cases q:p.1.i∈gl
  ·refine zr (ac q) (zr (Yf (by decide)) (zr ih (zr A2B ?_)));have:decide (p.1=Key.int i)=false:=dV λz=>hi (by rw[z] at q;exact q)
   simp only[this]
  ·refine zr (dV q) (zr (XL (by decide)) (zr A2B (zr A2B ?_)));cases decide (p.1=Key.int i) with
   |true=>rfl
   |false=>exact ih
theorem PT:AR (FH us gl) (.int i)=true:=by
 have:=Et (ts:=us) (i:=i);unfold AR FH at *;rw[A0T] at this ⊢;exact λp hp=>this p (A0u.1 hp).1
theorem cI:Bs (FH a gl) (.int ((a.length:Int)+1))=false:=by
 have:=OU (k:=a.length) (A0I _);unfold Bs FH at *;rw[A2C] at this ⊢;exact λp hp=>this p (A0u.1 hp).1
theorem Xf:FH (a++[t]) gl=if((a.length:Int)+1)∈gl then FH a gl else Aj (FH a gl) (.int ((a.length:Int)+1)) (.int t):=by
 unfold FH;rw[U0,List.filter_append,filter_cons];show _++(if(!decide (((a.length:Int)+1)∈gl))=true then _ else _)=_;by_cases q:((a.length:Int)+1)∈gl
 ·exact zr (ac q) (zr (XL q) (zr (Yf (by decide)) (A0k _)))
 ·refine zr (dV q) (zr (Yf q) (zr (XL (by decide)) ?_));unfold Aj;refine zr (show Bs ((dT a).filter λp=>!decide (p.1.i∈gl)) (.int ((a.length:Int)+1))=false from cI) (zr (Yf A0O) ?_);rfl
noncomputable def xw(D P U:PV)(b e:PV)(gl:List Int)(L:List Int)(K:List (Key×PV))(u:Option PV):AP:=[some D,some b,some e,some P,some U,some (.list (gl.map .int)),some (.list (L.map .int)),some (.dict K),u,none,none]
noncomputable def llB:List PS:=[(.ite (.cmp .notIn (.bin .add V8 K1) V5) [(.setItem 7 (.bin .add V8 K1) (.idx V4 V8))] [])]
theorem UC:(FH a gl).length<=a.length:=by unfold FH;exact mu (length_filter_le _ _) (zr Uz (A0I _))
theorem ke(hu:us.length<=1000):∀{m a:List Int}{u:Option PV},a++m=us ->
  ∃u',An (λρ'=>exs cf ρ' llB) (.one 8) ((List.range' a.length m.length).map λ(i:Nat)=>PV.int (0+(i:Int))) (xw D P (tI us) B E gl L (FH a gl) u)=.ok (.next (xw D P (tI us) B E gl L (FH us gl) u')):=by
 intro m;induction m with
 |nil=>exact λ{a}{u}he=>⟨u,by rw[A0k] at he;refine zr he ?_;rfl⟩
 |cons t m HN=>
  intro a u he;obtain⟨u',ih⟩:=HN (by refine zr (on _ _ _) ?_;exact he:a++[t]++m=us);refine⟨u',?_⟩;refine zr A0P (zr A1e (zr A0Z ?_));rw[CZ,Xf] at ih;refine(Aa (by refine zr (A0y _) ?_;rfl) ?_).trans ih;have hc:ev cf (xw D P (tI us) B E gl L (FH a gl) (some (.int a.length))) (.cmp .notIn (.bin .add V8 K1) V5)=.ok (.bool (!decide (((a.length:Int)+1)∈gl))):=by
   refine Ag rfl rfl ?_;refine zr JX (zr GU ?_);rfl
  by_cases q:((a.length:Int)+1)∈gl
  ·refine zr (XL q) ?_;rw[ac q] at hc;exact(AB (AI hc)).trans Ae
  ·refine zr (Yf q) ?_;rw[dV q] at hc;refine(AB ?_).trans Ae;refine zr (Ai hc) (zr (XL (by decide)) ?_);have Vd:us[a.length]?=some t:=by rw[<-he,A0F (A0I _),A1w];rfl
   refine(AB (By (l:=FH a gl) (kk:=.int ((a.length:Int)+1)) (key:=.int ((a.length:Int)+1)) rfl ?_ rfl rfl PT (by unfold Ab;exact rC hu (by refine zr he.symm (zr CZ ?_);exact rD:a.length<=us.length) (UC (gl:=gl) (a:=a))))).trans Ae;show(if(0:Int)<=a.length then(match (us.map PV.int)[(a.length:Int).toNat]? with|some d=>Res.ok d|none=>.stuck) else .stuck)=_;rw[XL (A0H _),A0R,A0Q,Vd];rfl
theorem FG(h:BV ps us n b e kd):AC AA (k+1) 39 [dI (ps,us),.int b,.int e]=.ok (.tuple [.list ((lftL ps b e).map .int),.dict (FH us (BY ps b e))]):=by
 have hl:=h.NE;have h1:=h.be;have h2:=h.el;have h3:=h.n40;have h4:=h.len;refine zr (c2 (by rfl)) ?_;generalize AC AA k=cf;refine Al (o:=.ret _) rfl rfl ?_;refine(AB rfl).trans ?_;refine(AB (ρ':=[some (dI (ps,us)),some (.int b),some (.int e),some (tI ps),some (tI us),some (.list ((BY ps b e).map .int)),none,none,none,none,none]) (AF (Lw h ?_ λd=>rfl))).trans ?_
 ·exact O1 (l:=ps.map PV.int) (b:=b) (e:=e) (zr (KK _) (QH h1 h2)) (by refine zr (KK _) ?_;exact QJ h2)
 refine(AB (ρ':=[some (dI (ps,us)),some (.int b),some (.int e),some (tI ps),some (tI us),some (.list ((BY ps b e).map .int)),some (.list ((ps.drop e++0::ps.take b).map .int)),none,none,none,none]) (AF ?_)).trans ?_
 ·generalize Ib:([some (dI (ps,us)),some (.int b),some (.int e),some (tI ps),some (tI us),some (.list ((BY ps b e).map .int)),none,none,none,none,none]:AP)=ρ;have s1:slot ρ 1=.ok (.int b):=zr Ib.symm rfl;have s2:slot ρ 2=.ok (.int e):=zr Ib.symm rfl;have s3:slot ρ 3=.ok (tI ps):=zr Ib.symm rfl;have g1:ev cf ρ (.prim .listOf [(.slL V3 V2)])=.ok (.list ((ps.map PV.int).drop e)):=by
   rw[Bo,AO,Sk,Bp,s3,AM,Bp,s2,AM,show JF (some (.int e)) Option.none (tI ps)=.ok (.tuple ((ps.map PV.int).drop e)) from b6 (l:=ps.map PV.int) (e:=e) (zr (KK _) (QJ h2))];rfl
  have g2:ev cf ρ (.prim .listOf [(.slH V3 V1)])=.ok (.list ((ps.map PV.int).take b)):=by
   rw[Bo,AO,Sj,Bp,s3,AM,Bp,s1,AM,show JF Option.none (some (.int b)) (tI ps)=.ok (.tuple ((ps.map PV.int).take b)) from Wh (l:=ps.map PV.int) (b:=b) (zr (KK _) (QH h1 h2))];rfl
  refine Af (x:=.list ((ps.map PV.int).drop e++[PV.int 0])) (Af (x:=.list ((ps.map PV.int).drop e)) (y:=.list [PV.int 0]) g1 rfl (Cu (by rw[CZ,A0n,KK,nP];unfold Ab;exact gY hl):FP ((ps.map PV.int).drop e++[PV.int 0])=.ok (.list ((ps.map PV.int).drop e++[PV.int 0])))) g2 ?_;show FP ((ps.map PV.int).drop e++[.int 0]++(ps.map PV.int).take b)=_;rw[<-map_drop,<-map_take,show[PV.int 0]=[(0:Int)].map PV.int from rfl,<-A0D,<-A0D,on];refine(Cu ?_).trans ?_
  ·refine zr (KK _) (zr CZ (zr CZ (zr A0n (zr A0V ?_))));unfold Ab;simp;exact gX hl
  ·rfl
 refine(AB (AF (Li h rfl (λd=>rfl) λd=>rfl))).trans ?_;refine(AB rfl).trans ?_;obtain⟨u,e1⟩:=ke (us:=us) (D:=dI (ps,us)) (P:=tI ps) (B:=.int b) (E:=.int e) (gl:=BY ps b e) (L:=lftL ps b e) (rB h3 h4) (m:=us) (a:=[]) (u:=none) rfl;rw[A1t] at e1;refine(AB (As ?_ (Fv (rA h3 h4)) (zr A1W e1))).trans (AS rfl);show Res.ok [PV.int ((us.map PV.int).length:Nat)]=_;exact zr (KK _) rfl
theorem Bq(h1:ev cf ρ a=.ok x)(h2:ev cf ρ b=.ok y)(h:CI x y=.ok d):ev cf ρ (.idx a b)=.ok d:=by exact zr EJ (zr h1 (zr AM (zr h2 h)))
theorem IV(h:i.natAbs<=4000000000000000000):big i=false:=by unfold big;exact dV (Nat.not_le.2 (A0o h (by decide)))
def maxK(T:List (Key×PV)):Int:=Hr (0::T.map λp=>p.1.i)
theorem Fo:∀{l:List Int}{i x:Int},x∈i::l->x<=Hr (i::l):=by
 intro l;induction l with
 |nil=>exact λ{i}{x}h=>by exact zr (YP.1 h) (A1B _)
 |cons j l HN=>
  intro i x h;show x<=l.foldl _ (if i<j then j else i);have ih:=HN (i:=if i<j then j else i) (x:=if x∈l then x else if i<j then j else i);by_cases q:x∈l
  ·rw[XL q] at ih;exact ih (kV _ q)
  ·rw[Yf q] at ih;have hx:x<=if i<j then j else i:=by
    rcases A0E.1 h with e|h
    ·refine zr e ?_;split<;>(first|exact r9 (by assumption)|exact gV)
    ·rcases A0E.1 h with e|h
     ·refine zr e ?_;split<;>(first|exact gV|exact r7 (by assumption))
     ·exact absurd h q
   exact A0s hx (ih d4)
theorem Lh:∀{l:List Int}{i:Int},Hr (i::l)∈i::l:=by
 intro l;induction l with
 |nil=>exact λ{i}=>d4
 |cons j l HN=>
  intro i;show l.foldl _ (if i<j then j else i)∈_;rcases A0E.1 (HN (i:=if i<j then j else i)) with e|h
  ·have e:l.foldl (λa b=>if a<b then b else a) (if i<j then j else i)=if i<j then j else i:=e
   refine zr e ?_;split
   ·exact kV _ d4
   ·exact d4
  ·exact kV _ (kV _ h)
structure dZ(L:List Int)(T:List (Key×PV))(m:Nat):Prop where
 rk:RK L T (maxK T+1)
 s1:L.length+2*m<=83
 s2:T.length+m<=83
 s3:maxK T+m<=83
theorem Lg(h:Bs T (.int (maxK T+1))=false):maxK (Aj T (.int (maxK T+1)) d)=maxK T+1:=by
 have e:Aj T (.int (maxK T+1)) d=T++[(.int (maxK T+1),d)]:=by unfold Aj;exact zr h (zr (Yf A0O) rfl)
 generalize hm:maxK T=M at e;refine zr e ?_;unfold maxK at hm ⊢;refine zr A0D (zr List.map_singleton ?_);have h1:Hr (0::(T.map (λp=>p.1.i)++[M+1]))<=M+1:=by
  rcases A0E.1 (Lh (l:=T.map (λp=>p.1.i)++[M+1]) (i:=0)) with q|q
  ·refine zr q ?_;have:=Fo (l:=T.map λp=>p.1.i) (i:=0) (x:=0) d4;exact qz hm this
  ·rcases XP.1 q with q|q
   ·exact qy hm (Fo (l:=T.map λp=>p.1.i) (i:=0) (kV _ q))
   ·exact zr (YP.1 q) (A1B _)
 exact Int.le_antisymm h1 (Fo (l:=T.map (λp=>p.1.i)++[M+1]) (i:=0) (x:=M+1) (kV _ (nf _ d4)))
theorem dZ.go(o:dZ L T (m+1))(hs:s=1\/s=-1)(ht:t=1\/t=-1):dZ (CH L p (s*(maxK T+1))) (Aj T (.int (maxK T+1)) (.int t)) m:=by
 have hn:=o.rk.nw _ (A1B _);have h3:=o.s3;refine⟨zr (Lg hn) (o.rk.ins hs ht),by refine zr B4 ?_;exact gf o.s1,?_,by refine zr (Lg hn) ?_;exact r6 h3⟩;exact gc o.s2 (Pk (T:=T) (k:=.int (maxK T+1)) (d:=.int t))
theorem c8:kX (.list (PV.int 0::T.map λp:Key×PV=>PV.int p.1.i))=.ok (.int (maxK T)):=by
 have:PV.Bu (PV.int 0::T.map λp:Key×PV=>PV.int p.1.i)=some (0::T.map λp=>p.1.i):=by
  have:=Db (0::T.map λp=>p.1.i);rw[A0Z,A0g] at this;exact this
 show(match PV.Bu (PV.int 0::T.map λp:Key×PV=>PV.int p.1.i) with|some (i::is)=>Res.ok (PV.int (Hr (i::is)))|_=>.stuck)=_;refine zr this ?_;rfl
theorem EL(o:dZ L T m)(hs:s=1\/s=-1)(hx:x.1<=L.length):AC AA (n+1) 41 [.list (L.map .int),.dict T,sI x,.int s]=.ok (.tuple [.list ((CH L x.1 (s*(maxK T+1))).map .int),.dict (Aj T (.int (maxK T+1)) (.int (s*wy x)))]):=by
 have h1:=o.s1;have h2:=o.s2;have h3:=o.s3;have hp:=o.rk.pos;have hf:=o.rk.ok.fits 0;refine zr (c2 (by rfl)) ?_;generalize AC AA n=cf;have bs:big s=false:=by rcases hs with rfl|rfl<;>decide
 have bs':big (-s)=false:=by rcases hs with rfl|rfl<;>decide
 have bw:big (wy x)=false:=by rcases LM x with h|h<;>refine zr h ?_<;>decide
 have bN:big (maxK T+1)=false:=IV (A0e.1 (zr (Int.natAbs_of_nonneg (A1o hp)) (A0s (Int.add_le_add_right (A0s (Int.le_add_of_nonneg_right (A0H m)) h3) 1) (by decide))));generalize hN:maxK T+1=N at *;refine Al (o:=.ret _) (ρ:=[some (.list (L.map .int)),some (.dict T),some (sI x),some (.int s),none,none,none,none,none]) rfl rfl ?_;refine(AB (ρ':=[some (.list (L.map .int)),some (.dict T),some (sI x),some (.int s),some (.int N),none,none,none,none]) (AF ?_)).trans ?_
 ·have g1:ev cf [some (.list (L.map .int)),some (.dict T),some (sI x),some (.int s),none,none,none,none,none] (.prim .listOf [V1])=.ok (.list (T.map λp:Key×PV=>PV.int p.1.i)):=by
   show(if AR T (.int 0)=true then Res.ok (PV.list (T.map λp:Key×PV=>PV.int p.1.i)) else .stuck)=_;exact zr (XL hf) rfl
  have g2:ev cf [some (.list (L.map .int)),some (.dict T),some (sI x),some (.int s),none,none,none,none,none] (.bin .add (.lst [K0]) (.prim .listOf [V1]))=.ok (.list (PV.int 0::T.map λp:Key×PV=>PV.int p.1.i)):=
   Af (o:=.add) rfl g1 (Cu (l:=PV.int 0::T.map λp:Key×PV=>PV.int p.1.i) (by rw[A0P,KK];unfold Ab;exact iS h2))
  refine(Af (x:=.int 1) (y:=.int (maxK T)) (d:=.int (1+maxK T)) rfl ?_ rfl).trans (zr (Int.add_comm _ _) (zr hN rfl));exact zr Bo (zr AO (zr g2 c8))
 refine(AB (ρ':=[some (.list (L.map .int)),some (.dict T),some (sI x),some (.int s),some (.int N),some (.dict T),none,none,none]) (AF ?_)).trans ?_
 ·show(if(AR T (.int 0)&&decide (T.length<1000))=true then Res.ok (PV.dict T) else .stuck)=_;refine zr hf (zr (ac (by exact gZ h2)) ?_);rfl
 refine(AB (By (l:=T) (kk:=.int N) (key:=.int N) rfl (CU (x:=s) (y:=wy x) rfl rfl bs bw) rfl rfl (o.rk.ok.fits N) (by unfold Ab;exact iR h2))).trans ?_;refine(AB (ρ':=[some (.list (L.map .int)),some (.dict T),some (sI x),some (.int s),some (.int N),some (.dict (Aj T (.int N) (.int (s*wy x)))),some (.list (((L.take x.1)++(-(s*N))::L.drop x.1).map .int)),none,none]) (AF ?_)).trans ?_
 ·generalize Ib:([some (.list (L.map .int)),some (.dict T),some (sI x),some (.int s),some (.int N),some (.dict T),none,none,none]:AP).set 5 (some (.dict (Aj T (.int N) (.int (s*wy x)))))=ρ;have s0:slot ρ 0=.ok (.list (L.map .int)):=zr Ib.symm rfl;have s3:slot ρ 3=.ok (.int s):=zr Ib.symm rfl;have s4:slot ρ 4=.ok (.int N):=zr Ib.symm rfl;have i0:ev cf ρ (.idx V2 K0)=.ok (.int (x.1:Nat)):=Bq (x:=sI x) (by refine zr Ib.symm ?_;rfl:slot ρ 2=.ok (sI x)) rfl rfl;have lm:(L.map PV.int).length=L.length:=KK ..;have a1:ev cf ρ (.slH V0 (.idx V2 K0))=.ok (.list ((L.map PV.int).take x.1)):=by
   exact zr Sj (zr Bp (zr s0 (zr AM (zr i0 (zr AM (zr FY (zr (OX (l:=L.map PV.int) (zr lm hx)) rfl)))))))
  have a2:ev cf ρ (.slL V0 (.idx V2 K0))=.ok (.list ((L.map PV.int).drop x.1)):=by
   exact zr Sk (zr Bp (zr s0 (zr AM (zr i0 (zr AM (zr FX (zr (Kc (l:=L.map PV.int) (zr lm hx)) rfl)))))))
  have a3:ev cf ρ (.lst [(.bin .mul (.neg V3) V4)])=.ok (.list [PV.int (-(s*N))]):=by
   rw[Vk,AO,CU (x:=-s) (zr Y3 (zr Bp (zr s3 rfl))) (Bp.trans s4) bs' bN,Int.neg_mul];rfl
  refine(Af (o:=.add) (Af (o:=.add) a1 a3 (Cu (l:=(L.map PV.int).take x.1++[PV.int (-(s*N))]) (by refine zr CZ (zr A0V (zr lm (zr nP ?_)));unfold Ab;exact iQ h1))) a2 (Cu (l:=(L.map PV.int).take x.1++[PV.int (-(s*N))]++(L.map PV.int).drop x.1) (by refine zr CZ (zr CZ (zr A0V (zr A0n (zr lm (zr nP ?_)))));unfold Ab;exact iP h1))).trans ?_;refine zr (on _ _ _) (zr map_take.symm (zr map_drop.symm (zr A0D ?_)));rfl
 refine AS (Ax ?_);rw[JB,AO,Af (x:=.list (((L.take x.1)++(-(s*N))::L.drop x.1).map .int)) (d:=.list ((CH L x.1 (s*N)).map .int)) rfl (zr Vk (zr AO (zr (CU (x:=s) (y:=N) rfl rfl bs bN) rfl))) ?_]
 ·rfl
 ·show FP (((L.take x.1)++(-(s*N))::L.drop x.1).map PV.int++[PV.int (s*N)])=_;refine zr (Cu (l:=(CH L x.1 (s*N)).map PV.int) (by refine zr (KK _) (zr B4 ?_);unfold Ab;exact iO h1)).symm ?_;unfold CH;refine zr (A0D (l₂:=[s*N])) ?_;rfl
theorem Wk:∀{F:List Sd},PV.eqs (sL F) (sL F)=true
 |[]=>rfl
 |x::F=>by
  show(PV.eq (sI x) (sI x)&&PV.eqs (sL F) (sL F))=true;refine zr Wk (zr TB (zr (ac rfl) ?_));rfl
theorem bA:∀{F:List Sd},PV.EI (sL F)<=1
 |[]=>A1x _
 |x::F=>by
  show max (max 0 (max 0 0)+1) (PV.EI (sL F))<=1;exact Nat.max_le.2 ⟨by decide,bA⟩
section
variable {ps:List Int}{n b e:Nat}
noncomputable def Jq(x:Int)(ps xs:List Int)(b e l:Nat)(kd:Option PV):AP:=[some (.int x),some (tI ps),some (.list (xs.map .int)),some (.int b),some (.int e),some (.int l),kd,none,none]
theorem GJ(h1:ev cf ρ a=.ok (tI ps))(h2:ev cf ρ i=.ok (.int (j:Nat)))(hj:j<ps.length):ev cf ρ (.idx a i)=.ok (.int (ps.getD j 0)):=by
 refine Bq h1 h2 ?_;show(if(0:Int)<=j then(match (ps.map PV.int)[(j:Int).toNat]? with|some d=>Res.ok d|none=>.stuck) else .stuck)=_;rw[XL (A0H _),A0R,GH hj]
theorem FF{xs:List Int}(h1:ev cf ρ a=.ok (.list (xs.map .int)))(h2:ev cf ρ i=.ok (.int (j:Nat)))(hj:j<xs.length):ev cf ρ (.idx a i)=.ok (.int (xs.getD j 0)):=by
 refine Bq h1 h2 ?_;show(if(0:Int)<=j then(match (xs.map PV.int)[(j:Int).toNat]? with|some d=>Res.ok d|none=>.stuck) else .stuck)=_;rw[XL (A0H _),A0R,GH hj]
theorem VL(v:Int):absI v=v.natAbs:=by
 unfold absI;by_cases h:v<0
 ·exact zr (XL h) (Int.ofNat_natAbs_of_nonpos (A1o h)).symm
 ·exact zr (Yf h) (Int.natAbs_of_nonneg (A1I.1 h)).symm
theorem He(hg:Good n ps)(hn:n<=40)(hj:j<ps.length):(ps.getD j 0).natAbs<=40:=by
 have:=(hg.ok _ (by refine zr A0x (zr (TW hj) ?_);exact A0w hj:ps.getD j 0∈ps)).2;exact A0e.1 (zr (VL _).symm (A0s this (A0e.2 hn)))
noncomputable def stT:PE:=(.and [(.cmp .lt V4 V5),(.cmp .gt (.bin .mul (.idx V1 V4) (.idx V1 V3)) K0)])
theorem QP(hbe:b<=e)(he:e<ps.length):(ps.take (e+1)).drop b=(ps.take e).drop b++[ps.getD e 0]:=by
 refine zr take_succ (zr (drop_append_of_le_length (zr A0V (iN hbe he))) (zr A0x (zr (TW he) ?_)));rfl
theorem S0(hg:Good n ps)(hn:n<=40)(hl:l<=ps.length):∀{j e:Nat},e+j=l->b<=e->(∀v∈(ps.take e).drop b,0<v*ps.getD b 0) ->
  ∃e',b<=e'/\e'<=l/\(∀v∈(ps.take e').drop b,0<v*ps.getD b 0)/\Bw (λρ'=>ev cf ρ' stT) (λρ'=>exs cf ρ' [(.assign 4 (.bin .add V4 K1))]) (j+1+r) (Jq x ps xs b e l none)=.ok (.next (Jq x ps xs b e' l none)):=by
 intro j;induction j with
 |zero=>
  intro e he hb inv;refine⟨e,hb,by exact iM he,inv,?_⟩;rw[A1v,Nat.add_comm];refine Ce (C1 ?_);exact(Ak rfl).trans (by refine zr (dV (by exact iL he)) ?_;rfl)
 |succ j ih=>
  intro e he hb inv;have hlt:e<ps.length:=iK hl he;have c1:(evAnd cf (Jq x ps xs b e l none) [(.cmp .lt V4 V5),(.cmp .gt (.bin .mul (.idx V1 V4) (.idx V1 V3)) K0)])=.ok (decide (ps.getD e 0*ps.getD b 0>0)):=by
   refine(Ak rfl).trans ?_;refine zr (ac (by exact iJ he)) (zr (XL rfl) ?_);refine(Ak (Ag (CU (cf:=cf) (ρ:=Jq x ps xs b e l none) (a:=.idx V1 V4) (b:=.idx V1 V3) (GJ rfl rfl hlt) (GJ (j:=b) rfl rfl (Y1 hl he hb)) (IV (mu (He hg hn hlt) (by decide))) (IV (mu (He hg hn (Y1 hl he hb)) (by decide)))) rfl rfl)).trans ?_;refine zr BO ?_;cases decide (ps.getD e 0*ps.getD b 0>0)<;>rfl
  by_cases q:ps.getD e 0*ps.getD b 0>0
  ·rw[ac q] at c1;obtain⟨e',h1,h2,h3,h4⟩:=ih (e:=e+1) (iH he) (Ow hb) (λv hv=>by
    rw[QP hb hlt] at hv;rcases XP.1 hv with hv|hv
    ·exact inv v hv
    ·refine zr (YP.1 hv) ?_;exact q)
   refine⟨e',h1,h2,h3,?_⟩;exact zr (show j+1+1+r=(j+1+r)+1 by exact SV) ((Ei (C1 c1) ((AB rfl).trans Ae)).trans h4)
  ·rw[dV q] at c1;refine⟨e,hb,by exact iE he,inv,?_⟩;exact zr (show j+1+1+r=(j+1+r)+1 by exact SV) (Ce (C1 c1))
theorem Em(h:ev cf ρ i=.ok (.int j))(hj:j=0\/j=1):ev cf ρ (.idx (.lst [KO,KU]) i)=.ok (.str (if j=0 then over else under)):=by
 refine Bq rfl h ?_;rcases hj with rfl|rfl<;>rfl
theorem bv{v w:Int}(h:0<v*w):(0<w->0<v)/\(w<0->v<0):=⟨λhw=>Int.not_le.1 λhv=>A1I.2 (Int.mul_nonpos_of_nonpos_of_nonneg hv (A1o hw)) h,λhw=>Int.not_le.1 λhv=>A1I.2 (Int.mul_nonpos_of_nonneg_of_nonpos hv (A1o hw)) h⟩
theorem Ll(hg:Good n ps)(hn:n<=40)(x:Int):∃b e kd,b<=e/\e<=ps.length/\(kd=over\/kd=under)/\(∀v∈(ps.take e).drop b,if kd==over then 0<v else v<0)/\AC AA (k+2) 43 [.int x,tI ps]=.ok (.tuple [.int (b:Nat),.int (e:Nat),.str kd]):=by
 obtain⟨xs,hl,hr,Vh⟩:=Jr (n:=k) x (many:=4) (by decide);have hp:ps.length<=80:=by exact zr hg.len (SO hn)
 have r0:=AZ (xs.getD 0 0) (m:=(ps.length:Int)+1) Qi;have r2:=AZ (xs.getD 2 0) (m:=2) (by decide);obtain⟨b,hb⟩:∃b:Nat,(b:Int)=Int.fmod (xs.getD 0 0) ((ps.length:Int)+1):=⟨_,A0X r0.1⟩;obtain⟨c,hc⟩:∃c:Nat,(c:Int)=Int.fmod (xs.getD 1 0) 5:=⟨_,A0X (AZ (xs.getD 1 0) (m:=5) (by decide)).1⟩;have zL:=Y0 r0.2 hb;have Vh:=Vh;refine zr (c2 (by rfl)) ?_;generalize AC AA (k+1)=cf at *;obtain⟨e,h1,h2,h3,h4⟩:=S0 (b:=b) (r:=999999-(min ps.length (b+c)-b)) hg hn (x:=x) (xs:=xs) (l:=min ps.length (b+c)) (Nat.min_le_left _ _) (j:=min ps.length (b+c)-b) (e:=b) (iG r0.2 hb) (A0I _) (λv hv=>by
  have:(ps.take b).drop b=[]:=drop_eq_nil_of_le (zr A0V bd);rw[this] at hv;exact absurd hv A0K)
 rw[show min ps.length (b+c)-b+1+(999999-(min ps.length (b+c)-b))=Lx by unfold Lx;exact iD hp] at h4;have main:∀Zt:Str,(Zt=over\/Zt=under)->∃kd,(kd=over\/kd=under)/\(∀v∈(ps.take e).drop b,if kd==over then 0<v else v<0)/\ex cf (Jq x ps xs b e (min ps.length (b+c)) (some (.str Zt))) (.ite (.cmp .gt V4 V3) [(.assign 6 (.idx (.lst [KO,KU]) (.prim .intOf [(.cmp .lt (.idx V1 V3) K0)])))] [])=.ok (.next (Jq x ps xs b e (min ps.length (b+c)) (some (.str kd)))):=λZt Kv=>by
  have Yo:ev cf (Jq x ps xs b e (min ps.length (b+c)) (some (.str Zt))) (.cmp .gt V4 V3)=.ok (.bool (decide ((e:Int)>(b:Int)))):=rfl;by_cases q:b<e
  ·rw[ac (by exact iC q)] at Yo;have aA:=iB h2 q;have hi:ev cf (Jq x ps xs b e (min ps.length (b+c)) (some (.str Zt))) (.prim .intOf [(.cmp .lt (.idx V1 V3) K0)])=.ok (.int (if ps.getD b 0<0 then 1 else 0)):=by
    refine zr Bo (zr AO (zr (Ag (x:=.int (ps.getD b 0)) (y:=.int 0) (r:=decide (ps.getD b 0<0)) (GJ (j:=b) rfl rfl aA) rfl rfl) ?_));show Res.ok (PV.int (if decide (ps.getD b 0<0)=true then 1 else 0))=_;by_cases z:ps.getD b 0<0
    ·refine zr (XL z) (zr (ac z) ?_);rfl
    ·refine zr (Yf z) (zr (dV z) ?_);rfl
   refine⟨if ps.getD b 0<0 then under else over,by split;exact .inr rfl;exact .inl rfl,λv hv=>?_,?_⟩
   ·have:=bv (h3 v hv);by_cases z:ps.getD b 0<0
    ·refine zr (XL z) (zr (Yf (by decide)) (this.2 z))
    ·refine zr (Yf z) (zr (XL (by decide)) ?_);have aB:ps.getD b 0≠0:=by
      have hv:ps.getD b 0∈ps:=by refine zr A0x (zr (TW aA) ?_);exact A0w aA
      exact(hg.ok _ hv).1
     exact this.1 (Int.lt_iff_le_and_ne.2 ⟨A1I.1 z,aB.symm⟩)
   ·refine zr (Ai Yo) (zr (XL rfl) ?_);refine(AB (AF (Em hi (by split;exact .inr rfl;exact .inl rfl)))).trans ?_;refine zr Ae ?_;by_cases z:ps.getD b 0<0
    ·refine zr (XL z) (zr (XL z) ?_);rfl
    ·refine zr (Yf z) (zr (Yf z) ?_);rfl
  ·rw[dV (by exact iA q)] at Yo;refine⟨Zt,Kv,λv hv=>?_,AI Yo⟩;have:(ps.take e).drop b=[]:=drop_eq_nil_of_le (zr A0V (i9 q));rw[this] at hv;exact absurd hv A0K
 have Kv:=Yz r2.1 r2.2;refine Ca (main (if Int.fmod (xs.getD 2 0) 2=0 then over else under) (by split;exact .inl rfl;exact .inr rfl)) λkd m1 m2 m3=>?_
 refine⟨b,e,kd,h1,(mu h2 (Nat.min_le_left _ _):e<=ps.length),m1,m2,?_⟩;refine Al (o:=.ret _) rfl rfl ?_;refine(AB (AF (AH (xs:=[.int x,.int 4]) rfl Vh))).trans ?_;refine(AB (ρ':=[some (.int x),some (tI ps),some (.list (xs.map .int)),some (.int b),none,none,none,none,none]) (AF ?_)).trans ?_
 ·refine Af (x:=.int (xs.getD 0 0)) (y:=.int ((ps.length:Int)+1)) (FF (j:=0) rfl rfl (i8 hl)) ?_ ?_
  ·show Res.ok (PV.int (((ps.map PV.int).length:Nat)+1))=_;exact zr (KK _) rfl
  ·show(if((ps.length:Int)+1)=0 then Res.stuck else Res.ok (PV.int (Int.fmod (xs.getD 0 0) ((ps.length:Int)+1))))=_;exact zr (Yf J1) (zr hb rfl)
 refine(AB (ρ':=[some (.int x),some (tI ps),some (.list (xs.map .int)),some (.int b),some (.int b),none,none,none,none]) rfl).trans ?_;refine(AB (AF (d:=.int ((min ps.length (b+c):Nat):Int)) ?_)).trans ?_
 ·have a1:ev cf [some (.int x),some (tI ps),some (.list (xs.map .int)),some (.int b),some (.int b),none,none,none,none] (.bin .mod (.idx V2 K1) K5)=.ok (.int c):=
   Af (x:=.int (xs.getD 1 0)) (y:=.int 5) (FF (j:=1) rfl rfl (i6 hl)) rfl (zr hc rfl)
  rw[Bo,AO,show ev cf [some (.int x),some (tI ps),some (.list (xs.map .int)),some (.int b),some (.int b),none,none,none,none] (ln V1)=.ok (.int ((ps.map PV.int).length:Nat)) from rfl,AM,AO,(Af (x:=.int b) rfl a1 rfl:ev cf [some (.int x),some (tI ps),some (.list (xs.map .int)),some (.int b),some (.int b),none,none,none,none] (.bin .add V3 (.bin .mod (.idx V2 K1) K5))=.ok (.int ((b:Int)+c))),KK];show Res.ok (PV.int (if((b:Int)+c)<(ps.length:Nat) then((b:Int)+c) else(ps.length:Nat)))=_
  congr 2
  split<;>(first|exact i5 (by assumption)|exact i3 (by assumption))
 refine(AB (EP h4)).trans ?_;refine(AB (ρ':=Jq x ps xs b e (min ps.length (b+c)) (some (.str (if Int.fmod (xs.getD 2 0) 2=0 then over else under)))) (AF (Em ?_ Kv))).trans ?_
 ·exact Af (x:=.int (xs.getD 2 0)) (y:=.int 2) (FF (j:=2) rfl rfl (hZ hl)) rfl rfl
 exact(AB m3).trans (AS rfl)
end
theorem Ps(o:D0 a m)(h:a.l=a.L.length):∃x,x∈a.can:=by
 refine⟨(a.L.length,true),DD.2 ⟨A0M.2 (by show a.L.length<a.l+1;exact hV h),?_⟩⟩;exact((Cr o.rk.ok.row (by have:=o.s1;exact SR this:a.L.length<=1000) (Es)).2.2.2 _).2 (.refl _)
theorem dG(o:D0 a (m+1))(hs:s=1\/s=-1)(hx:x.1<=a.l):∃y,y∈(a.go s x).can:=by
 have o':=o.go hs x;have hr:=o'.rk.ok.row;have hp:x.1<=a.L.length:=mu hx o.le;have eL:(a.go s x).L=CH a.L x.1 (s*a.N):=rfl;refine LL (HK hs o.rk.pos) λJ J d0 J=>?_
 generalize s*a.N=d at d0 eL;have mQ:(a.go s x).L[a.L.length+1]?=some d:=by
  have h1:(a.L.take x.1++(-d)::a.L.drop x.1).length=a.L.length+1:=by
   have:=B4 (L:=a.L) (p:=x.1) (d:=d);unfold CH at this;rw[CZ,nP] at this;exact hU this
  refine zr eL ?_;unfold CH;rw[A0F (by exact hJ h1),h1,A1w];rfl
 have at2:(a.go s x).L[x.1]?=some (-d):=by
  refine zr eL ?_;unfold CH;rw[A0b (by refine zr CZ (zr A0V (zr A0P ?_));exact hH hp),A0F (by refine zr A0V ?_;exact bd),A0V,A1K hp,A1w];rfl
 have i2:=CP hr.nd at2;have s2:rnx (a.go s x).L (qT (a.go s x).T) ((a.go s x).L.length,false)=if d=0 then(a.L.length+1,false) else if qT (a.go s x).T d=1 then(x.1,false) else(x.1+1,true):=by
  have:=FC (q:=qT (a.go s x).T) mQ;rw[i2] at this;exact zr (zr eL (zr B4 rfl):(a.go s x).L.length=a.L.length+2) this
 rw[Yf d0] at s2;have reach:∀y,rnx (a.go s x).L (qT (a.go s x).T) ((a.go s x).L.length,false)=y->y.1<=a.l+1->∃y,y∈(a.go s x).can:=λy e hy=>by
  refine⟨y,DD.2 ⟨A0M.2 (by show y.1<a.l+1+1;exact Yy hy),?_⟩⟩;exact((Cr hr (by have:=o'.s1;exact SR this:(a.go s x).L.length<=1000) (Es)).2.2.2 _).2 (Reach.trans ⟨1,(D5 (A0l.2 (A0I _)):rnx (a.go s x).L (qT (a.go s x).T) ((a.go s x).L.length,true)=((a.go s x).L.length,false))⟩ ⟨1,e⟩)
 by_cases q:qT (a.go s x).T d=1
 ·rw[XL q] at s2;exact reach _ s2 (by show x.1<=_;exact Ow hx)
 ·rw[Yf q] at s2;exact reach _ s2 (by show x.1+1<=_;exact gz hx)
structure CW(ps us:List Int)(b e:Nat)(kd:Str)(ws:List Sd)(L:List Int)(T:List (Key×PV))(m:Nat):Prop where
 lo:dZ L T m
 can:Kq (sgK kd) (ar0 ps us b e) ws
 ao:D0 (ws.foldl (Ar.go (sgK kd)) (ar0 ps us b e)) m
 ren:∃f,dX f L T (ws.foldl (Ar.go (sgK kd)) (ar0 ps us b e)).L (ws.foldl (Ar.go (sgK kd)) (ar0 ps us b e)).T
 l:(ws.foldl (Ar.go (sgK kd)) (ar0 ps us b e)).l=(lftL ps b e).length+ws.length
 ne:∃x,x∈(ws.foldl (Ar.go (sgK kd)) (ar0 ps us b e)).can
theorem CW.len(B:CW ps us b e kd ws L T m):(ws.foldl (Ar.go (sgK kd)) (ar0 ps us b e)).L.length=L.length:=by
 obtain⟨f,r⟩:=B.ren;rw[r.e,KK]
theorem CW.face(B:CW ps us b e kd ws L T m):EC L (qT T) (L.length,true)=(ws.foldl (Ar.go (sgK kd)) (ar0 ps us b e)).F:=by
 obtain⟨f,r⟩:=B.ren;unfold Ar.F EC;exact zr (r.rnx B.lo.rk) (zr B.len rfl)
theorem CW.open(B:CW ps us b e kd ws L T m):AC AA (k+3) 40 [.list (L.map .int),.dict T,.int (((lftL ps b e).length+ws.length:Nat):Int)]=.ok (.tuple [.list (sL (ws.foldl (Ar.go (sgK kd)) (ar0 ps us b e)).can),.bool (decide ((0,false)∈(ws.foldl (Ar.go (sgK kd)) (ar0 ps us b e)).F))]):=by
 have h2:=B.ao.le;rw[B.l,B.len] at h2;have:=T8 B.lo.rk.ok (SR B.lo.s1) (n:=k) h2;refine zr this (zr B.face ?_);unfold Ar.can;exact zr B.l rfl
theorem CW.go(B:CW ps us b e kd ws L T (m+1))(hx:x∈(ws.foldl (Ar.go (sgK kd)) (ar0 ps us b e)).can):CW ps us b e kd (ws++[x]) (CH L x.1 (sgK kd*(maxK T+1))) (Aj T (.int (maxK T+1)) (.int (sgK kd*wy x))) m:=by
 have ht:sgK kd*wy x=1\/sgK kd*wy x=-1:=by rcases A9 kd with h|h<;>rcases LM x with g|g<;>refine zr h (zr g ?_)<;>decide
 have hs:=A9 kd;have ef:(ws++[x]).foldl (Ar.go (sgK kd)) (ar0 ps us b e)=(ws.foldl (Ar.go (sgK kd)) (ar0 ps us b e)).go (sgK kd) x:=zr List.foldl_append rfl;obtain⟨f,r⟩:=B.ren;refine⟨B.lo.go hs ht,Mh B.can hx,zr ef (B.ao.go hs x),?_,?_,by refine zr ef ?_;exact dG B.ao hs (A14 (A0M.1 (DD.1 hx).1):x.1<=(ws.foldl (Ar.go (sgK kd)) (ar0 ps us b e)).l)⟩
 ·exact zr ef ⟨_,dX.ins B.lo.rk B.ao.rk r hs ht⟩
 ·rw[ef,CZ,nP,<-Nat.add_assoc,<-B.l];rfl
theorem VD(h:BV ps us n b e kd)(h2:n<=10):CW ps us b e kd [] (lftL ps b e) (FH us (BY ps b e)) 7:=by
 have h3:=h.len;have h1:(lftL ps b e).length<=21:=by have:=Fq h;rw[h.good.len] at this;exact ww9 h2 this
 have hg:∀v∈lftL ps b e,Am (FH us (BY ps b e)) (.int (absI v))=Am (dT us) (.int (absI v)):=λv hv=>UD (Fl.1 hv).2
 have key:∀p∈FH us (BY ps b e),∃j:Nat,j<us.length/\p.1=.int ((j:Int)+1):=λp hp=>by
  have hp:=(A0u.1 hp).1;unfold dT at hp;refine AE (Ya.1 hp) λy hy Av=>?_;subst Av
  exact⟨y.2,List.snd_lt_of_mem_zipIdx hy,rfl⟩
 have yg:∀p∈FH us (BY ps b e),p.1.i<=maxK (FH us (BY ps b e)):=λp hp=>Fo (kV _ (Ya.2 ⟨p,hp,rfl⟩))
 have m0:0<=maxK (FH us (BY ps b e)):=Fo d4;have mn:maxK (FH us (BY ps b e))<=10:=by
  rcases A0E.1 (Lh) with q|q
  ·show Hr _<=_;refine zr q ?_;decide
  ·refine AE (Ya.1 q) λp hp e1=>?_
   refine AE (key p hp) λj hj e2=>?_
   show Hr _<=_;refine zr e1.symm (zr e2 ?_);show(j:Int)+1<=10;exact gy h2 h3 hj
 refine⟨⟨⟨TF h (λJ=>PT) λv hv J=>hg v hv,λv hv=>?_,λi hi=>?_,by exact Yx m0,ZL h⟩,by exact SU h1,?_,by exact gx mn⟩,trivial,VI h (SU h1) (iy h2 h3),⟨id,?_⟩,rfl,Ps (VI h (SU h1) (iy h2 h3)) rfl⟩
 ·by_cases h0:v=0
  ·exact zr h0 (zr lW (Yx m0))
  ·refine AE (ZZ h hv h0) λt J hd=>?_
   rw[<-hg v hv] at hd;unfold Am at hd;refine AE (Option.map_eq_some_iff.1 hd) λp hp J=>?_
   have:=yg p (List.mem_of_find?_eq_some hp);have z:=List.find?_some hp;have e1:=A0N z;rw[e1] at this;show absI v<_;exact gw (this:absI v<=maxK (FH us (BY ps b e)))
 ·unfold Bs;rw[A2C];intro p hp q;have e1:=A0N q;have:=yg p hp;rw[e1] at this;exact(gv hi (this:i<=maxK (FH us (BY ps b e)))).elim
 ·exact gu h2 h3 (UC (gl:=BY ps b e) (a:=us))
 ·refine⟨by show lftL ps b e=_;exact zr (List.map_id _) rfl,λv J=>Iff.rfl,λJ J=>rfl,λJ J J J e=>e,λv hv h0=>?_⟩;show qT (dT us) v=_;unfold qT;exact zr (hg v hv) rfl
theorem BW:(sL ws).length=ws.length:=KK ..
theorem Js(hk:kd=over\/kd=under)(h:slot ρ i=.ok (.str kd)):ev cf ρ (.idx Ls (.prim .intOf [(.cmp .eq (.var i) KU)]))=.ok (.int (sgK kd)):=by
 have h1:ev cf ρ (.prim .intOf [(.cmp .eq (.var i) KU)])=.ok (.int (if(kd==under)=true then 1 else 0)):=by
  refine zr Bo (zr AO (zr (Ag (Bp.trans h) rfl OK) ?_));rfl
 refine Bq rfl h1 ?_;rcases hk with rfl|rfl<;>rfl
noncomputable def M4(x:Int)(ps us:List Int)(b e:Nat)(kd:Str)(xs:List Int)(L:List Int)(T:List (Key×PV))(ws:List Sd)(u10 u11 u12 u13:Option PV):AP:=[some (.int x),some (dI (ps,us)),some (.int b),some (.int e),some (.str kd),some (.list (xs.map .int)),some (.list (L.map .int)),some (.dict T),some (.int ((lftL ps b e).length:Nat)),some (.list (sL ws)),u10,u11,u12,u13,none,none]
noncomputable def lwC:List PS:=[(.assign 13 (.idx Ol (.bin .mod (.idx V5 Ki) (ln Ol)))),(.append 9 VN),(.unpack [6,7] (.call 41 false [V6,V7,VN,(.idx Ls (.prim .intOf [(.cmp .eq V4 KU)]))]))]
noncomputable def xr:List PS:=[(.unpack [11,12] (.call 40 false [V6,V7,(.bin .add V8 (ln V9))])),(.ite (.and [HM,(.cmp .ge Ki (.bin .mod (.idx V5 K7) K4))]) [(.ret (.prim .tupleOf [V9]))] []),(.ite (.and [(.cmp .lt (ln V7) (.const (.int 9))),(.cmp .lt Ki (.const (.int 6)))]) lwC [])]
theorem CW.less(B:CW ps us b e kd ws L T (m+1)):CW ps us b e kd ws L T m:=⟨⟨B.lo.rk,by exact ST B.lo.s1,by exact SS B.lo.s2,by exact gk B.lo.s3⟩,B.can,⟨B.ao.rk,B.ao.le,by exact ST B.ao.s1,by exact SS B.ao.s2⟩,B.ren,B.l,B.ne⟩
theorem CW.mo(B:CW ps us b e kd ws L T m)(hx:x∈(ws.foldl (Ar.go (sgK kd)) (ar0 ps us b e)).can):x.1<=L.length:=by
 have h2:=B.ao.le;rw[B.len] at h2;exact rN (A0M.1 (DD.1 hx).1) h2
theorem XW(hk:kd=over\/kd=under){j m:Nat}(hj:j<xs.length)(h7:7<xs.length)(B:CW ps us b e kd ws L T (m+1))(hws:ws.length<=7):
  exs (AC AA (k+3)) (M4 x0 ps us b e kd xs L T ws (some (.int j)) u11 u12 u13) xr=.ok (.ret (.tuple (sL ws))) \/
  ∃Yb L' T' mh mf me,CW ps us b e kd Yb L' T' m/\Yb.length<=ws.length+1/\exs (AC AA (k+3)) (M4 x0 ps us b e kd xs L T ws (some (.int j)) u11 u12 u13) xr=.ok (.next (M4 x0 ps us b e kd xs L' T' Yb (some (.int j)) mh mf me)):=by
 have e26:=B.open (k:=k);have e27:∀x:Sd,x.1<=L.length->AC AA (k+3) 41 [.list (L.map .int),.dict T,sI x,.int (sgK kd)]=_:=λx hx=>EL (n:=k+2) B.lo (A9 kd) hx
 have Bgo:∀x∈(ws.foldl (Ar.go (sgK kd)) (ar0 ps us b e)).can,_:=λx hx=>B.go hx
 have hle:∀x∈(ws.foldl (Ar.go (sgK kd)) (ar0 ps us b e)).can,x.1<=L.length:=λx=>B.mo
 obtain⟨y0,hy0⟩:=B.ne;generalize ws.foldl (Ar.go (sgK kd)) (ar0 ps us b e)=a at *;generalize decide ((0,false)∈a.F)=d at *;generalize AC AA (k+3)=cf at *;have t1:ex cf (M4 x0 ps us b e kd xs L T ws (some (.int j)) u11 u12 u13) (.unpack [11,12] (.call 40 false [V6,V7,(.bin .add V8 (ln V9))]))=.ok (.next (M4 x0 ps us b e kd xs L T ws (some (.int j)) (some (.list (sL a.can))) (some (.bool d)) u13)):=by
  rw[Rs,AH (xs:=[.list (L.map .int),.dict T,.int (((lftL ps b e).length+ws.length:Nat):Int)]) ?_ e26]
  ·rfl
  ·show Res.ok [PV.list (L.map .int),PV.dict T,PV.int ((((lftL ps b e).length:Nat):Int)+(((sL ws).length:Nat):Int))]=_;refine zr BW ?_;rfl
 have i7:ev cf (M4 x0 ps us b e kd xs L T ws (some (.int j)) (some (.list (sL a.can))) (some (.bool d)) u13) (.bin .mod (.idx V5 K7) K4)=.ok (.int (Int.fmod (xs.getD 7 0) 4)):=Af (o:=.mod) (y:=.int 4) (FF (j:=7) rfl rfl h7) rfl rfl;have c1:∃t,ev cf (M4 x0 ps us b e kd xs L T ws (some (.int j)) (some (.list (sL a.can))) (some (.bool d)) u13) (.and [HM,(.cmp .ge Ki (.bin .mod (.idx V5 K7) K4))])=.ok (.bool t):=by
  cases d with
  |false=>exact⟨false,rfl⟩
  |true=>
   refine⟨decide ((j:Int)≥Int.fmod (xs.getD 7 0) 4),C1 ((Ak (b:=true) rfl).trans ((XL rfl).trans ((Ak (Ag (x:=.int j) rfl i7 rfl)).trans ?_)))⟩;refine zr BO ?_;cases decide ((j:Int)≥Int.fmod (xs.getD 7 0) 4)<;>rfl
 obtain⟨t,c1⟩:=c1;cases t with
 |true=>
  refine .inl ((AB t1).trans (AS ?_));exact zr (Ai c1) (zr (XL rfl) (AS rfl))
 |false=>
 refine .inr ?_;have l7:ev cf (M4 x0 ps us b e kd xs L T ws (some (.int j)) (some (.list (sL a.can))) (some (.bool d)) u13) (ln V7)=.ok (.int (T.length:Nat)):=by
  show(if AR T (.int 0)=true then Res.ok (PV.int (T.length:Nat)) else .stuck)=_;exact zr (XL (B.lo.rk.ok.fits 0)) rfl
 have c2:∃t,ev cf (M4 x0 ps us b e kd xs L T ws (some (.int j)) (some (.list (sL a.can))) (some (.bool d)) u13) (.and [(.cmp .lt (ln V7) (.const (.int 9))),(.cmp .lt Ki (.const (.int 6)))])=.ok (.bool t):=by
  refine⟨decide ((T.length:Int)<9)&&decide ((j:Int)<6),C1 ((Ak (Ag (o:=.lt) l7 rfl rfl)).trans ?_)⟩;refine zr (Ak (b:=decide ((j:Int)<6)) rfl) (zr BO ?_);cases decide ((T.length:Int)<9)<;>cases decide ((j:Int)<6)<;>rfl
 obtain⟨t,c2⟩:=c2;cases t with
 |true=>
  have en:=length_pos_of_mem hy0;have rr:=AZ (xs.getD j 0) (m:=(a.can.length:Int)) (Yv en);obtain⟨i,hi⟩:∃i:Nat,(i:Int)=Int.fmod (xs.getD j 0) (a.can.length:Int):=⟨_,A0X rr.1⟩;have zD:i<a.can.length:=Yu rr.2 hi;have hx:a.can[i]∈a.can:=A0w zD;generalize hxe:a.can[i]=x at hx;refine⟨ws++[x],_,_,some (.list (sL a.can)),some (.bool d),some (sI x),Bgo x hx,zr CZ (zr nP (A0I _)),?_⟩;refine(AB t1).trans ((AB (AI c1)).trans ((AB ?_).trans Ae));refine zr (Ai c2) (zr (XL rfl) ?_);refine(AB (ρ':=M4 x0 ps us b e kd xs L T ws (some (.int j)) (some (.list (sL a.can))) (some (.bool d)) (some (sI x))) (AF ?_)).trans ?_
  ·refine Bq (x:=.list (sL a.can)) (y:=.int (i:Nat)) rfl ?_ ?_
   ·refine Af (o:=.mod) (y:=.int (a.can.length:Nat)) (FF (j:=j) rfl rfl hj) ?_ ?_
    ·show Res.ok (PV.int ((sL a.can).length:Nat))=_;exact zr BW rfl
    ·show(if((a.can.length:Nat):Int)=0 then Res.stuck else Res.ok (PV.int (Int.fmod (xs.getD j 0) (a.can.length:Nat))))=_;exact zr (Yf (y7 en)) (zr hi rfl)
   ·show(if(0:Int)<=i then(match (sL a.can)[(i:Int).toNat]? with|some d=>Res.ok d|none=>.stuck) else .stuck)=_;rw[XL (A0H _),A0R];unfold sL;refine zr A0Q (zr (TW zD) (zr hxe ?_));rfl
  refine(AB (ρ':=M4 x0 ps us b e kd xs L T (ws++[x]) (some (.int j)) (some (.list (sL a.can))) (some (.bool d)) (some (sI x))) ?_).trans ?_
  ·refine(Cj (l:=sL ws) rfl rfl (by refine zr BW ?_;unfold Ab;exact gj hws)).trans ?_;unfold M4;refine zr GN ?_;rfl
  refine(AB ?_).trans Ae;rw[Rs,AH (xs:=[.list (L.map .int),.dict T,sI x,.int (sgK kd)]) ?_ (e27 x (hle x hx))]
  ·rfl
  ·refine zr AO (zr Bp (zr AO (zr Bp (zr AO (zr Bp (zr AO (zr (Js (cf:=cf) (i:=4) (ρ:=M4 x0 ps us b e kd xs L T (ws++[x]) (some (.int j)) (some (.list (sL a.can))) (some (.bool d)) (some (sI x))) hk rfl) ?_)))))));rfl
 |false=>exact⟨ws,L,T,_,_,_,B.less,le_succ _,(AB t1).trans ((AB (AI c1)).trans ((AB (AI c2)).trans Ae))⟩
def Ec(ps us:List Int)(b e:Nat)(kd:Str)(ws:List Sd):Prop:=Kq (sgK kd) (ar0 ps us b e) ws/\ws.length<=7
theorem kY(hk:kd=over\/kd=under)(Zu:xs.length=8){k:Nat}:∀{m j:Nat}{ws:List Sd}{L:List Int}{T:List (Key×PV)}{u10 u11 u12 u13:Option PV},j+m=7->CW ps us b e kd ws L T m->ws.length<=j ->
  ∃o,An (λρ'=>exs (AC AA (k+3)) ρ' xr) (.one 10) ((List.range' j m).map λ(i:Nat)=>PV.int (i:Int)) (M4 x0 ps us b e kd xs L T ws u10 u11 u12 u13)=.ok o/\((∃ρ',o=.next ρ')\/∃Yb,Ec ps us b e kd Yb/\o=.ret (.tuple (sL Yb))):=by
 intro m;induction m with
 |zero=>exact λ{j}{ws}{L}{T}{u10}{u11}{u12}{u13}_ _ _=>⟨_,rfl,.inl ⟨_,rfl⟩⟩
 |succ m ih=>
  intro j ws L T u10 u11 u12 u13 hj B hw;refine zr A1e (zr A0Z (zr Ue (zr HY (zr AM ?_))));refine zr (rfl:(M4 x0 ps us b e kd xs L T ws u10 u11 u12 u13).set 10 (some (.int j))=M4 x0 ps us b e kd xs L T ws (some (.int j)) u11 u12 u13) ?_;rcases XW hk (uQ Zu hj) (uP Zu) B (Yw hj hw) with e1|⟨Yb,L',T',Vl,v12,v13,B',eP,e1⟩
  ·exact⟨_,zr e1 rfl,.inr ⟨ws,⟨B.can,by exact Yw hj hw⟩,rfl⟩⟩
  ·obtain⟨o,e2,h2⟩:=ih (j:=j+1) (ws:=Yb) (L:=L') (T:=T') (u10:=some (.int j)) (u11:=Vl) (u12:=v12) (u13:=v13) (gn hj) B' (gm hw eP);exact⟨o,by refine zr e1 ?_;exact e2,h2⟩
theorem Xc(h:BV ps us n b e kd)(HQ:n<=10)(x:Int):∃r,AC AA (k+4) 44 [.int x,dI (ps,us),.int b,.int e,.str kd]=.ok r/\(r=.none\/∃ws,Ec ps us b e kd ws/\r=.tuple (sL ws)):=by
 obtain⟨xs,Zu,_,Vh⟩:=Jr x (many:=8) (by decide);have pN:=FG (k:=k+2) h;obtain⟨o,eg,ho⟩:=kY h.knd (x0:=x) Zu (m:=7) (j:=0) (ws:=[]) (u10:=none) (u11:=none) (u12:=none) (u13:=none) rfl (VD h HQ) (A0I _);have Vh:=Vh;have pN:=pN;have key:exs (AC AA (k+3)) [some (.int x),some (dI (ps,us)),some (.int b),some (.int e),some (.str kd),none,none,none,none,none,none,none,none,none,none,none] Gi.body=yO (AC AA (k+3)) [.ret KN] o:=by
  generalize AC AA (k+3)=cf at *;refine(AB (AF (AH rfl Vh))).trans ?_;refine(AB (ρ':=[some (.int x),some (dI (ps,us)),some (.int b),some (.int e),some (.str kd),some (.list (xs.map .int)),some (.list ((lftL ps b e).map .int)),some (.dict (FH us (BY ps b e))),none,none,none,none,none,none,none,none]) ?_).trans ?_
  ·refine zr Rs (zr (AH rfl pN) ?_);rfl
  refine(AB (ρ':=[some (.int x),some (dI (ps,us)),some (.int b),some (.int e),some (.str kd),some (.list (xs.map .int)),some (.list ((lftL ps b e).map .int)),some (.dict (FH us (BY ps b e))),some (.int ((lftL ps b e).length:Nat)),none,none,none,none,none,none,none]) (AF ?_)).trans ?_
  ·show Res.ok (PV.int (((lftL ps b e).map PV.int).length:Nat))=_;exact zr (KK _) rfl
  refine(AB rfl).trans ?_;exact Un (As rfl (Ba (by decide)) (zr A1W eg))
 refine zr (c2 (by rfl)) ?_;rcases ho with⟨ρ',rfl⟩|⟨ws,hw,rfl⟩
 ·exact⟨.none,Al (o:=.ret .none) rfl rfl (key.trans (AS rfl)),.inl rfl⟩
 ·exact⟨_,Al (o:=.ret _) rfl rfl key,.inr ⟨ws,hw,rfl⟩⟩
section
variable {n c:Nat}{t b e kd w:PV}
theorem um(h:AC AA n 7 [t]=.ok (.bool false)):DG (n+1) 8 [t] 0:=
 B1 rfl rfl rfl (Dc (zr (Ai (BE (AH rfl h))) rfl) λJ h=>by cases h)
theorem JH(hg:AA[g]?=some fn)(ha:args.length=fn.arity)(Ib:args.map some++List.replicate (fn.slots-fn.arity) none=ρ)(hb:fn.body=.x (.expr (.call f false l)) f l::r)(hl:evs (AC AA n) ρ l=.ok xs)(h:DG n f xs c):DG (n+1) g args c:=
 B1 hg ha Ib (by refine zr hb ?_;exact Dc (MI hl h λq=>by refine zr aY (zr q ?_);rfl) λJ h=>by cases h)
theorem O6(hg:AA[g]?=some fn)(ha:args.length=fn.arity)(Ib:args.map some++List.replicate (fn.slots-fn.arity) none=ρ)(hb:fn.body=.x (.assign i (.call f false l)) f l::r)(hl:evs (AC AA n) ρ l=.ok xs)(h:DG n f xs c):DG (n+1) g args c:=
 B1 hg ha Ib (by refine zr hb ?_;exact Dc (MI hl h λq=>by refine zr Kx (zr q ?_);rfl) λJ h=>by cases h)
theorem jZ(h:DG n 8 [t] c):DG (n+1) 12 [t,b,e,kd] c:=JH rfl rfl rfl rfl rfl h
theorem ul(h:DG n 8 [t] c):DG (n+1) 9 [t,b] c:=JH rfl rfl rfl rfl rfl h
theorem ja(h:DG n 8 [t] c):DG (n+1) 10 [t] c:=JH rfl rfl rfl rfl rfl h
theorem jX(h:DG n 8 [t] c):DG (n+1) 27 [t] c:=JH rfl rfl rfl rfl rfl h
theorem Y9(h:DG n 8 [t] c):DG (n+1) 28 [t] c:=JH rfl rfl rfl rfl rfl h
theorem ZD(h:DG n 12 [t,b,e,kd] c):DG (n+1) 16 [t,b,e,kd,w] c:=JH rfl rfl rfl rfl rfl h
theorem jW(h:DG n 28 [t] c):DG (n+1) 30 [t] c:=O6 rfl rfl rfl rfl rfl h
theorem ZC(h:DG n 16 [t,b,e,kd,w] c):DG (n+1) 17 [t,b,e,kd,w] c:=O6 rfl rfl rfl rfl rfl h
theorem jY(h:DG n 16 [t,b,e,kd,w] c):DG (n+1) 18 [t,b,e,kd,w] c:=O6 rfl rfl rfl rfl rfl h
theorem ZA(h:DG n 17 [t,b,e,kd,w] c):DG (n+1) 21 [t,b,e,kd,w] c:=O6 rfl rfl rfl rfl rfl h
theorem ZB(h:DG n 17 [t,b,e,kd,w] c):DG (n+1) 19 [t,b,e,kd,w] c:=
 B1 rfl rfl rfl (Dc (MI rfl h λq=>zr E8 (zr Jl (zr AO (zr q rfl)))) λJ h=>by cases h)
theorem Dv(hc:ev (AC AA n) ρ WI=.ok (.bool true))(hl:evs (AC AA n) ρ l=.ok xs)(h:DG n f xs c):exs (AC AA n) ρ (.ite WI [.x (.ret (.call f false l)) f l] []::r)=.ok (.exc c):=
 Dc (by refine zr (Ai hc) (zr (XL rfl) ?_);exact Dc (MI hl h λq=>by refine zr E8 (zr q ?_);rfl) λJ h=>by cases h) λJ h=>by cases h
theorem KX(hc:ev (AC AA n) ρ WI=.ok (.bool true))(hl:evs (AC AA n) ρ l=.ok xs)(h:AC AA n f xs=.ok d):exs (AC AA n) ρ (.ite WI [.x (.ret (.call f false l)) f l] []::r)=.ok (.ret d):=
 AS (zr (Ai hc) (zr (XL rfl) (AS (MJ (Ax (AH hl h))))))
theorem De{q:Nat}(hq:q<3)(h:∀k,DG (k+7) 16 [t,b,e,kd,w] c):DG (k+10) 45 [.int q,t,b,e,kd,w] c:=by
 refine B1 rfl rfl rfl ?_;rcases q with _|_|_|q
 ·exact Dv rfl rfl (ZB (ZC (h k)))
 ·exact(AB (AI rfl)).trans (Dv rfl rfl (ZA (ZC (h k))))
 ·exact(AB (AI rfl)).trans ((AB (AI rfl)).trans (Dv rfl rfl (jY (h (k+1)))))
 ·exact(ia hq).elim
theorem RP{q:Nat}(hq:q<2)(h:∀k,DG (k+8) 17 [t,b,e,kd,w] c):DG (k+10) 45 [.int q,t,b,e,kd,w] c:=by
 refine B1 rfl rfl rfl ?_;rcases q with _|_|q
 ·exact Dv rfl rfl (ZB (h k))
 ·exact(AB (AI rfl)).trans (Dv rfl rfl (ZA (h k)))
 ·exact(uL hq).elim
theorem X6{q:Nat}(hq:q<8)(h:∀k,AC AA (k+4) 7 [t]=.ok (.bool false)):DG (k+10) 45 [.int q,t,b,e,kd,w] 0:=by
 have h8:∀k,DG (k+5) 8 [t] 0:=λk=>um (h k)
 rcases Nat.lt_or_ge q 3 with h3|h3
 ·exact De h3 λk=>ZD (jZ (h8 k))
 refine B1 rfl rfl rfl ?_;rcases q with _|_|_|_|_|_|_|_|q
 ·exact(uO h3).elim
 ·exact(uN h3).elim
 ·exact(uM h3).elim
 ·exact(AB (AI rfl)).trans ((AB (AI rfl)).trans ((AB (AI rfl)).trans (Dv rfl rfl (ul (h8 (k+3))))))
 ·exact(AB (AI rfl)).trans ((AB (AI rfl)).trans ((AB (AI rfl)).trans ((AB (AI rfl)).trans (Dv rfl rfl (ja (h8 (k+3)))))))
 ·exact(AB (AI rfl)).trans ((AB (AI rfl)).trans ((AB (AI rfl)).trans ((AB (AI rfl)).trans ((AB (AI rfl)).trans (Dv rfl rfl (jX (h8 (k+3))))))))
 ·exact(AB (AI rfl)).trans ((AB (AI rfl)).trans ((AB (AI rfl)).trans ((AB (AI rfl)).trans ((AB (AI rfl)).trans ((AB (AI rfl)).trans (Dv rfl rfl (Y9 (h8 (k+3)))))))))
 ·exact(AB (AI rfl)).trans ((AB (AI rfl)).trans ((AB (AI rfl)).trans ((AB (AI rfl)).trans ((AB (AI rfl)).trans ((AB (AI rfl)).trans ((AB (AI rfl)).trans (Dc (MI rfl (jW (Y9 (h8 (k+2)))) λq=>zr E8 (zr q rfl)) λJ h=>by cases h)))))))
 ·exact(uK hq).elim
theorem Cp(h:DG n 45 [q,t,b,e,kd,w] c):AC AA (n+1) 46 [q,t,b,e,kd,w]=.ok (kinds c):=by
 refine zr (c2 (by rfl)) ?_;refine Al (o:=.ret _) rfl rfl (AS ?_);refine zr aX ?_;show db ((AC AA n 45 [q,t,b,e,kd,w]).bind _) (ug (AC AA n (45+1000) [q,t,b,e,kd,w]))=_;refine zr h.1 (zr h.2 ?_);rfl
theorem Ox(h:AC AA n 45 [q,t,b,e,kd,w]=.ok d):AC AA (n+1) 46 [q,t,b,e,kd,w]=.ok (.list []):=by
 refine zr (c2 (by rfl)) ?_;refine Al (o:=.ret _) rfl rfl ((AB (ρ':=[some q,some t,some b,some e,some kd,some w,none,none,none,none]) ?_).trans (AS rfl));refine zr aX ?_;show db ((AC AA n 45 [q,t,b,e,kd,w]).bind _) _=_;refine zr h ?_;rfl
end
theorem Tr(hu:∀t∈us,t=1\/t=-1)(hl:us.length<=40)(hp:ps.length<=100)(hn:ps.length≠2*us.length):AC AA (k+4) 7 [dI (ps,us)]=.ok (.bool false):=by
 have f3:=MM (k:=k+2) (ps:=ps) hu hl;refine zr (c2 (by rfl)) ?_;generalize AC AA (k+3)=cf at *;refine Al (o:=.ret _) (ρ:=[some (dI (ps,us)),none,none,none,none]) rfl rfl ?_;refine(AB (ρ':=[some (dI (ps,us)),none,none,none,none]) rfl).trans ((AB (ρ':=cO ps us) rfl).trans ?_);have l2:ev cf (cO ps us) (ln V2)=.ok (.int (us.length:Nat)):=by
  show Res.ok (PV.int ((us.map PV.int).length:Nat))=_;exact zr (KK _) rfl
 have l1:ev cf (cO ps us) (ln V1)=.ok (.int (ps.length:Nat)):=by
  show Res.ok (PV.int ((ps.map PV.int).length:Nat))=_;exact zr (KK _) rfl
 refine(AB (AI (EQ ((BT (BE (b:=true) rfl)).trans ((BT (BE (b:=true) rfl)).trans ((BT ?_).trans ER)))))).trans ?_
 ·refine zr (Ag l2 (y:=.int 40) rfl rfl) ?_;show Res.ok (PV.bool (decide (((us.length:Nat):Int)>40)))=_;exact zr (dV (by exact j0 hl)) rfl
 refine(AB (AI f3)).trans (AS ?_);have hc:=Ag (o:=.ne) l1 (CU (a:=.const (.int 2)) rfl l2 (by decide) (IV (mu hl (by decide)))) rfl;rw[show(!(PV.eq (.int (ps.length:Nat)) (.int (2*((us.length:Nat):Int)))))=true by rw[G5,A2D];exact A1l (uF hn)] at hc;rw[Ai (t:=true) (EQ ?_),XL rfl]
 ·exact AS rfl
 ·refine zr E3 (zr hc ?_);rfl
theorem bo:∀{ps:List Int},AC AA (k+4) 7 [tI ps]=.ok (.bool false)
 |[]=>rfl
 |[_]=>rfl
 |[_,_]=>rfl
 |a::b::c::ps=>by
  refine zr (c2 (by rfl)) ?_;refine Al (o:=.ret _) rfl rfl (AS ?_);have hc:ev (AC AA (k+3)) [some (tI (a::b::c::ps)),none,none,none,none] (.cmp .ne (ln V0) K2)=.ok (.bool true):=by
   refine(Ag (x:=.int ((ps.length+3:Nat):Int)) (y:=.int 2) ?_ rfl rfl).trans ?_
   ·show Res.ok (PV.int (((a::b::c::ps).map PV.int).length:Nat))=_;refine zr (KK _) ?_;rfl
   ·refine zr (show PV.eq (.int ((ps.length+3:Nat):Int)) (.int 2)=false by refine zr G5 ?_;exact A1l uH) ?_;rfl
  rw[Ai (EQ ((BT (BE (b:=true) rfl)).trans ?_)),XL rfl]
  ·exact AS rfl
  ·refine zr E3 (zr hc ?_);rfl
theorem Nj:AC AA (k+4) 7 [dI ([1,2,-1,-2],[1,1])]=.ok (.bool false):=by kernel_rfl
theorem cF(h:Dr ps us)(HQ:us.length<=10)(x:Int):∃t,AC AA (n+1) 47 [.int x,dI (ps,us)]=.ok t/\∀k,AC AA (k+4) 7 [t]=.ok (.bool false):=by
 have hl:=h.1.good.len;have m1:PH (ps.map PV.int++[PV.int 1])=.ok (tI (ps++[1])):=by
  unfold PH tI;refine zr A0D ?_;exact XL (by rw[CZ,KK,nP];unfold Ab;exact uJ HQ hl)
 have m2:PH (us.map PV.int++[PV.int 1])=.ok (tI (us++[1])):=by
  unfold PH tI;refine zr A0D ?_;exact XL (by rw[CZ,KK,nP];unfold Ab;exact uI HQ)
 obtain⟨A,hA⟩:∃A:List PV,A=[dI (ps++[1],us),dI (ps,us++[1]),.none,.list [tI ps,tI us],tI ps,.tuple [.list (ps.map .int),tI us],.tuple [tI ps,.list (us.map .int)],dI ([1,-1],[0]),dI ([1,2,-1,-2],[1,1])]:=⟨_,rfl⟩;have rr:=AZ x (m:=9) (by decide);obtain⟨i,hi⟩:∃i:Nat,(i:Int)=Int.fmod x 9:=⟨_,A0X rr.1⟩;have zF:i<A.length:=by refine zr hA ?_;show i<9;exact uG rr.2 hi
 refine⟨A[i],?_,λk=>?_⟩
 ·refine zr (c2 (by rfl)) ?_;generalize AC AA n=cf;refine Al (o:=.ret _) rfl rfl ?_;refine(AB (ρ':=[some (.int x),some (dI (ps,us)),some (tI ps),some (tI us),none,none,none]) rfl).trans ?_;refine(AB (ρ':=[some (.int x),some (dI (ps,us)),some (tI ps),some (tI us),some (.list (A.take 6)),none,none]) (AF ?_)).trans (AS (Ax ?_))
  ·have b1:ev cf [some (.int x),some (dI (ps,us)),some (tI ps),some (tI us),none,none,none] (.bin .add V2 (.tup [K1]))=.ok (tI (ps++[1])):=m1;have b2:ev cf [some (.int x),some (dI (ps,us)),some (tI ps),some (tI us),none,none,none] (.bin .add V3 (.tup [K1]))=.ok (tI (us++[1])):=m2;rw[Vk,AO,JB,AO,b1,AM,AO,Bp];show(((evs cf _ [(.tup [V2,(.bin .add V3 (.tup [K1]))]),_,_,_,_]).bind _).bind _)=_;refine zr AO (zr JB (zr AO (zr Bp ?_)));show((((((evs cf _ [(.bin .add V3 (.tup [K1]))]).bind _).bind _).bind _).bind _).bind _)=_;refine zr AO (zr b2 (zr hA ?_));rfl
  ·refine Bq (x:=.list A) (y:=.int (i:Nat)) ?_ ?_ ?_
   ·refine zr hA ?_;rfl
   ·refine zr hi ?_;rfl
   ·show(if(0:Int)<=i then(match A[(i:Int).toNat]? with|some d=>Res.ok d|none=>.stuck) else .stuck)=_;rw[XL (A0H _),A0R,TW zF]
 ·have ok1:∀t∈us++[1],t=1\/t=-1:=λt ht=>(XP.1 ht).elim (h.1.tn t) λq=>.inl (YP.1 q)
  have oS:∀t∈A,AC AA (k+4) 7 [t]=.ok (.bool false):=by
   refine zr hA ?_;intro t ht;rcases A0E.1 ht with rfl|ht
   ·exact Tr h.1.tn h.1.n40 (zr CZ (zr nP (uE HQ hl))) (by refine zr CZ (zr nP ?_);exact uD hl)
   rcases A0E.1 ht with rfl|ht
   ·exact Tr ok1 (zr CZ (zr nP (uC HQ))) (uB HQ hl) (by refine zr CZ (zr nP ?_);exact uA hl)
   rcases A0E.1 ht with rfl|ht
   ·rfl
   rcases A0E.1 ht with rfl|ht
   ·rfl
   rcases A0E.1 ht with rfl|ht
   ·exact bo
   rcases A0E.1 ht with rfl|ht
   ·rfl
   rcases A0E.1 ht with rfl|ht
   ·rfl
   rcases A0E.1 ht with rfl|ht
   ·rfl
   exact zr (YP.1 ht) Nj
  exact oS _ (A0w zF)
section
variable {ps:List Int}{n b e:Nat}{kd:Str}
noncomputable def t3(p:PV×PV×PV):PV:=.tuple [p.1,p.2.1,p.2.2]
structure yS(ps:List Int)(i:Nat):Prop where
 lt:i+1<ps.length
 neg:ps.getD i 0*ps.getD (i+1) 0<0
theorem Tu{v w:Int}(h:v*w<0):(0<v/\w<0)\/(v<0/\0<w):=by
 rcases Int.lt_trichotomy v 0 with hv|hv|hv<;>rcases Int.lt_trichotomy w 0 with hw|hw|hw
 ·exact iZ h (Int.mul_pos_of_neg_of_neg hv hw)
 ·rw[hw,Int.mul_zero] at h;exact SX h
 ·exact .inr ⟨hv,hw⟩
 ·rw[hv,Int.zero_mul] at h;exact SX h
 ·rw[hv,Int.zero_mul] at h;exact SX h
 ·rw[hv,Int.zero_mul] at h;exact SX h
 ·exact .inl ⟨hv,hw⟩
 ·rw[hw,Int.mul_zero] at h;exact SX h
 ·exact iZ h (Int.mul_pos hv hw)
theorem J9(h1:b<=i)(h2:i<e)(h3:i<ps.length):ps.getD i 0∈(ps.take e).drop b:=by
 refine zr A0x (zr (TW h3) ?_);refine A0C (i:=i-b) ?_;refine zr getElem?_drop (zr getElem?_take (zr (XL (u0 h1 h2)) (zr (show b+(i-b)=i by exact wa3 h1) (zr (TW h3) ?_))));rfl
theorem JN{l:List Int}(hv:v∈l)(h:kn kd v=false):l.all (kn kd)=false:=by
 rw[Bool.eq_false_iff];intro q;rw[A0T] at q;rw[q v hv] at h;cases h
theorem KB(h:v<0):kn over v=false:=dV (kE h)
theorem Ht(h:0<v):kn under v=false:=dV (NO h)
theorem yS.no{i:Nat}(m:yS ps i)(h1:b<=i)(h2:i+2<=e)(h3:e<=ps.length):C7 ps (.int b) (.int e) (.str over)/\C7 ps (.int b) (.int e) (.str under):=by
 have m1:=J9 h1 (tz h2) (tx h2 h3);have m2:=J9 (Ow h1) (tv h2) m.lt;rcases Tu m.neg with⟨h4,h5⟩|⟨h4,h5⟩
 ·exact⟨.al (WU h1 h2) h3 (JN m2 (KB h5)),.al (WU h1 h2) h3 (JN m1 (Ht h4))⟩
 ·exact⟨.al (WU h1 h2) h3 (JN m1 (KB h4)),.al (WU h1 h2) h3 (JN m2 (Ht h5))⟩
noncomputable def M3(x:Int)(ps:List Int)(b e:Nat)(kd:Str)(u6 u7 u8:Option PV):AP:=[some (.int x),some (tI ps),some (.int b),some (.int e),some (.str kd),some (.int (ps.length:Nat)),u6,u7,u8,none,none]
theorem Tv(hg:Good n ps)(hn:n<=40):∃M:List Nat,(∀i∈M,yS ps i) /\
  ev cf (M3 x ps b e kd none none none) (.comp V9 (.one 9) .range1 [(.bin .sub V5 K1)] [(.cmp .lt (.bin .mul (.idx V1 V9) (.idx V1 (.bin .add V9 K1))) K0)])=.ok (.list (M.map λ(i:Nat)=>.int (i:Int))):=by
 have hp:ps.length<=80:=by exact zr hg.len (SO hn)
 cases hm:ps.length with
 |zero=>
  refine⟨[],λJ h=>absurd h A0K,BN (xs:=[.int (-1)]) ?_ rfl rfl (A1x _)⟩;show Res.ok [PV.int (((ps.length:Nat):Int)-1)]=_;refine zr hm ?_;rfl
 |succ m=>
  have sm:∀i,i<ps.length->big (ps.getD i 0)=false:=λi hi=>IV (mu (He hg hn hi) (by decide))
  refine⟨(List.range m).filter λi=>decide (ps.getD i 0*ps.getD (i+1) 0<0),λi hi=>?_,?_⟩
  ·obtain⟨h1,h2⟩:=A0u.1 hi;exact⟨by exact iY hm (A0M.1 h1),A0N h2⟩
  refine BN (ds:=(List.range m).map λ(g:Nat)=>PV.int (g:Int)) ?_ (Ba (tq hp hm)) ?_ ?_
  ·show Res.ok [PV.int (((ps.length:Nat):Int)-1)]=_;exact zr hm (zr (show((m+1:Nat):Int)-1=(m:Int) by exact iI) rfl)
  ·have:=EV (elt:=λρ'=>ev cf ρ' V9) (cond:=λρ'=>evAnd cf ρ' [(.cmp .lt (.bin .mul (.idx V1 V9) (.idx V1 (.bin .add V9 K1))) K0)]) (i:=9) (p:=λd=>match d with|.int v=>decide (ps.getD v.toNat 0*ps.getD (v.toNat+1) 0<0)|_=>false) (f:=id) (ds:=(List.range m).map λ(g:Nat)=>PV.int (g:Int)) (ρ:=Pq (.one 9) (M3 x ps b e kd none none none)) (λd hd=>by
    refine AE (Ya.1 hd) λi hi Av=>?_;subst Av
    have hi:=A0M.1 hi;refine⟨?_,rfl⟩;have i1:=iY hm hi;refine(Ak (Ag (o:=.lt) (y:=.int 0) (r:=decide (ps.getD i 0*ps.getD (i+1) 0<0)) (CU (GJ (j:=i) rfl rfl (iW hm hi)) (GJ (j:=i+1) rfl rfl i1) (sm _ (iW hm hi)) (sm _ i1)) rfl rfl)).trans ?_;refine zr BO ?_;show(if decide (ps.getD i 0*ps.getD (i+1) 0<0)=true then Res.ok true else Res.ok false)=Res.ok (decide (ps.getD i 0*ps.getD (i+1) 0<0));cases decide (ps.getD i 0*ps.getD (i+1) 0<0)<;>rfl)
   rw[this,List.map_id,List.filter_map];rfl
  ·refine zr (KK _) ?_;refine mu (length_filter_le _ _) ?_;refine zr A0q ?_;unfold Ab;exact tm hp hm
theorem pick(hA:ev cf ρ a=.ok (.list A))(hi:ev cf ρ i=.ok (.int x))(h:A≠[]):∃d∈A,ev cf ρ (.idx a (.bin .mod i (ln a)))=.ok d:=by
 have hp:=length_pos_iff.2 h;have rr:=AZ x (m:=(A.length:Int)) (Yv hp);obtain⟨j,hj⟩:∃j:Nat,(j:Int)=Int.fmod x (A.length:Int):=⟨_,A0X rr.1⟩;have hl:j<A.length:=Yu rr.2 hj;refine⟨A[j],A0w hl,Bq (x:=.list A) (y:=.int (j:Nat)) hA ?_ ?_⟩
 ·refine Af (o:=.mod) (x:=.int x) hi (zr Bo (zr AO (zr hA rfl))) ?_;show(if((A.length:Nat):Int)=0 then Res.stuck else Res.ok (PV.int (Int.fmod x (A.length:Nat))))=_;exact zr (Yf (y7 hp)) (zr hj rfl)
 ·show(if(0:Int)<=j then(match A[(j:Int).toNat]? with|some d=>Res.ok d|none=>.stuck) else .stuck)=_;rw[XL (A0H _),A0R,TW hl]
theorem cE(hg:Good n ps)(hn:n<=40)(he:e<=ps.length)(x:Int){k:Nat}:∃p:PV×PV×PV,AC AA (k+1) 48 [.int x,tI ps,.int b,.int e,.str kd]=.ok (t3 p)/\C7 ps p.1 p.2.1 p.2.2:=by
 have hp:ps.length<=80:=by exact zr hg.len (SO hn)
 obtain⟨M,hM,em⟩:=Tv (cf:=AC AA k) (x:=x) (b:=b) (e:=e) (kd:=kd) hg hn;refine zr (c2 (by rfl)) ?_;generalize AC AA k=cf at *;generalize fC:PV.list (M.map λ(i:Nat)=>PV.int (i:Int))=mx at *;have key:∃B:List (PV×PV×PV),B≠[]/\(∀p∈B,C7 ps p.1 p.2.1 p.2.2)/\∃u6,exs cf (M3 x ps b e kd none none none) (Bx.body.drop 1)=exs cf (M3 x ps b e kd u6 (some mx) (some (.list (B.map t3)))) [.ret (.idx V8 (.bin .mod V0 (ln V8)))]:=by
  obtain⟨A,hA⟩:∃A:List (PV×PV×PV),A=[(.int (-1),.int e,.str kd),(.int b,.int ((ps.length:Nat)+1),.str kd),(.int (e+1),.int e,.str kd),(.int b,.int e,.str "none"),(.bool true,.int (ps.length:Nat),.str kd),(.int b,.none,.str kd),(.int b,.int e,.none),(.int b,.int e,.int 1),(.none,.int e,.str kd),(.int b,.int e,.str "Over")]:=⟨_,rfl⟩;have hAn:∀p∈A,C7 ps p.1 p.2.1 p.2.2:=by
   refine zr hA ?_;intro p hp;rcases A0E.1 hp with rfl|hp
   ·exact .ch rfl
   rcases A0E.1 hp with rfl|hp
   ·refine .ch ?_;show(_&&decide (((ps.length:Nat):Int)+1<=(ps.length:Nat)))=false;rw[dV (show ¬((((ps.length:Nat):Int)+1<=(ps.length:Nat))) by exact iX),Bool.and_false]
   rcases A0E.1 hp with rfl|hp
   ·refine .ch ?_;show(_&&decide ((e:Int)+1<=e)&&_)=false;rw[dV (show ¬((e:Int)+1<=e) by exact iX),Bool.and_false,Bool.false_and]
   rcases A0E.1 hp with rfl|hp
   ·exact .k2 rfl
   rcases A0E.1 hp with rfl|hp
   ·exact .b1
   rcases A0E.1 hp with rfl|hp
   ·exact .e0
   rcases A0E.1 hp with rfl|hp
   ·exact .k0
   rcases A0E.1 hp with rfl|hp
   ·exact .k1
   rcases A0E.1 hp with rfl|hp
   ·exact .b0
   exact zr (YP.1 hp) (.k2 rfl)
  have s1:∀r,exs cf (M3 x ps b e kd none none none) ((Bx.body.drop 1).take 3++r)=exs cf (M3 x ps b e kd none (some mx) (some (.list (A.map t3)))) r:=λr=>by
   refine(AB (ρ':=M3 x ps b e kd none (some mx) none) (AF em)).trans ?_;exact zr hA ((AB rfl).trans (AB rfl))
  have hc:∃t,(t=true->M≠[])/\ev cf (M3 x ps b e kd none (some mx) (some (.list (A.map t3)))) (.and [(.cmp .ne V7 (.lst [])),(.cmp .eq (.bin .mod (.bin .fdiv V0 (.const (.int 64))) K2) K0)])=.ok (.bool t):=by
   have c2:ev cf (M3 x ps b e kd none (some mx) (some (.list (A.map t3)))) (.cmp .eq (.bin .mod (.bin .fdiv V0 (.const (.int 64))) K2) K0)=.ok (.bool (Int.fmod (Int.fdiv x 64) 2==0)):=rfl;cases M with
   |nil=>subst fC;exact⟨false,(λq=>by cases q),rfl⟩
   |cons i M=>
    have c3:(if(Int.fmod (Int.fdiv x 64) 2==0)=true then Res.ok true else Res.ok false)=Res.ok (Int.fmod (Int.fdiv x 64) 2==0):=by cases (Int.fmod (Int.fdiv x 64) 2==0)<;>rfl
    refine⟨Int.fmod (Int.fdiv x 64) 2==0,(λJ q=>by cases q),C1 ((Ak (b:=true) ?_).trans ((XL rfl).trans ((Ak c2).trans c3)))⟩;refine(Ag (o:=.ne) (x:=mx) (y:=.list []) (r:=true) rfl rfl ?_);subst fC;refine zr YA ?_;have f1:PV.flat (.list ((i::M).map λ(i:Nat)=>PV.int (i:Int)))=true:=by
     have:=Er ((i::M).map λ(i:Nat)=>(i:Int));rw[A0g] at this;exact this
    have f2:PV.depth (.list ((i::M).map λ(i:Nat)=>PV.int (i:Int)))=1:=by
     show PV.EI _+1=1;generalize i::M=N;clear hM em f1
     induction N with
     |nil=>rfl
     |cons a N ih=>exact zr A0Z ih
    refine zr f1 (zr f2 ?_);rfl
  refine AE hc λt ht hc=>?_
  cases t with
  |false=>exact⟨A,(by refine zr hA ?_;intro q;cases q),hAn,none,(s1 _).trans (AB (AI hc))⟩
  |true=>
   obtain⟨d,hd,ep⟩:=pick (cf:=cf) (ρ:=M3 x ps b e kd none (some mx) (some (.list (A.map t3)))) (a:=.var 7) (i:=.bin .fdiv V0 (.const (.int 128))) (x:=Int.fdiv x 128) (A:=M.map λ(i:Nat)=>PV.int (i:Int)) (zr fC rfl) rfl (λq=>ht rfl (map_eq_nil_iff.1 q));refine AE (Ya.1 hd) λi hi Av=>?_;subst Av
   have m:=hM i hi;obtain⟨kk,Yl,ekk⟩:∃kk:Str,C7 ps (.int i) (.int ((i:Int)+1)) (.str kk)/\ev cf (M3 x ps b e kd (some (.int i)) (some mx) (some (.list (A.map t3)))) (.idx (.lst [KO,KU]) (.prim .intOf [(.cmp .gt (.idx V1 V6) K0)]))=.ok (.str kk):=by
    have i1:i<ps.length:=by exact dl m.lt
    have eg:ev cf (M3 x ps b e kd (some (.int i)) (some mx) (some (.list (A.map t3)))) (.prim .intOf [(.cmp .gt (.idx V1 V6) K0)])=.ok (.int (if decide (ps.getD i 0>0)=true then 1 else 0)):=by
     refine zr Bo (zr AO (zr (Ag (o:=.gt) (x:=.int (ps.getD i 0)) (y:=.int 0) (r:=decide (ps.getD i 0>0)) (GJ (j:=i) rfl rfl i1) rfl rfl) ?_));rfl
    have mm:=J9 (ps:=ps) (b:=i) (e:=i+1) (i:=i) (A0I _) (lt_succ_self _) i1;by_cases q:ps.getD i 0>0
    ·refine⟨under,.al (b:=i) (e:=i+1) (le_succ _) (A0r m.lt) (JN mm (Ht q)),?_⟩;rw[ac q,XL rfl] at eg;exact Em eg (.inr rfl)
    ·refine⟨over,.al (b:=i) (e:=i+1) (le_succ _) (A0r m.lt) (JN mm (KB ?_)),?_⟩
     ·rcases Tu m.neg with⟨h4,_⟩|⟨h4,_⟩<;>(first|exact tj q h4|exact ti h4)
     ·rw[dV q,Yf A0O] at eg;exact Em eg (.inl rfl)
   obtain⟨lo,nY,elo⟩:∃lo:Nat,lo<=i/\((lo:Nat):Int)=if(0:Int)<(i:Int)-2 then(i:Int)-2 else 0:=⟨i-2,by exact te,by split<;>(first|exact td (by assumption)|exact tc (by assumption))⟩
   obtain⟨M0,hhi,hhl,ehi⟩:∃M0:Nat,i+2<=M0/\M0<=ps.length/\((M0:Nat):Int)=if(i:Int)+4<(ps.length:Nat) then(i:Int)+4 else(ps.length:Nat):=⟨min ps.length (i+4),by exact tb m.lt,by exact ta,by have:=m.lt;split<;>(first|exact tZ (by assumption)|exact tY (by assumption))⟩
   have n1:=m.no (b:=i) (e:=i+2) (A0I _) (A0I _) m.lt;have n2:=m.no (b:=lo) (e:=M0) nY hhi hhl;refine⟨[(.int i,.int ((i:Int)+2),.str over),(.int i,.int ((i:Int)+2),.str under),(.int i,.int ((i:Int)+1),.str kk),(.int lo,.int M0,.str over),(.int lo,.int M0,.str under)],(by intro q;cases q),?_,some (.int i),(s1 _).trans (AB ?_)⟩
   ·intro p hp;rcases A0E.1 hp with rfl|hp
    ·exact n1.1
    rcases A0E.1 hp with rfl|hp
    ·exact n1.2
    rcases A0E.1 hp with rfl|hp
    ·exact Yl
    rcases A0E.1 hp with rfl|hp
    ·exact n2.1
    exact zr (YP.1 hp) n2.2
   ·refine zr (Ai hc) (zr (XL rfl) ?_);refine(AB (ρ':=M3 x ps b e kd (some (.int i)) (some mx) (some (.list (A.map t3)))) (AF ep)).trans ?_;refine(AB (ρ':=M3 x ps b e kd (some (.int i)) (some mx) (some (.list [t3 (.int i,.int ((i:Int)+2),.str over),t3 (.int i,.int ((i:Int)+2),.str under),t3 (.int i,.int ((i:Int)+1),.str kk)]))) (AF ?_)).trans ((AB (AF ?_)).trans Ae)
    ·refine zr Vk (zr AO (zr AO (zr AO (zr JB (zr JB (zr JB (zr AO (zr AO (zr AO (zr AO (zr AO (zr AO (zr AO (zr AO (zr AO (zr ekk ?_))))))))))))))));rfl
    ·refine zr elo (zr ehi ?_);rfl
 obtain⟨B,hB0,hB,u6,hk⟩:=key;obtain⟨d,hd,ed⟩:=pick (cf:=cf) (ρ:=M3 x ps b e kd u6 (some mx) (some (.list (B.map t3)))) (a:=.var 8) (i:=.var 0) (x:=x) (A:=B.map t3) rfl rfl (λq=>hB0 (map_eq_nil_iff.1 q));refine AE (Ya.1 hd) λp hpB Av=>?_;subst Av
 refine⟨p,Al (o:=.ret _) (ρ:=[some (.int x),some (tI ps),some (.int b),some (.int e),some (.str kd),none,none,none,none,none,none]) rfl rfl ?_,hB p hpB⟩;refine(AB (ρ':=M3 x ps b e kd none none none) (AF ?_)).trans (hk.trans (AS (Ax ed)));show Res.ok (PV.int ((ps.map PV.int).length:Nat))=_;exact zr (KK _) rfl
end
theorem F1:∀{ws:List Sd}{a:Ar}{i:Nat},Kq s a ws->Kq s a (ws.take i)
 |[],_,_,_=>by refine zr take_nil ?_;trivial
 |_::_,_,0,_=>trivial
 |_::_,_,_+1,c=>⟨c.1,F1 c.2⟩
theorem CW.all:∀{ws2 ws1:List Sd}{L:List Int}{T:List (Key×PV)}{m:Nat},CW ps us b e kd ws1 L T m->Kq (sgK kd) (ws1.foldl (Ar.go (sgK kd)) (ar0 ps us b e)) ws2->ws2.length<=m->∃L' T',CW ps us b e kd (ws1++ws2) L' T' (m-ws2.length)
 |[],ws1,L,T,m,B,_,_=>⟨L,T,by refine zr (A0k _) ?_;exact B⟩
 |x::ws2,ws1,L,T,0,B,_,h=>absurd h (not_succ_le_zero _)
 |x::ws2,ws1,L,T,m+1,B,c,h=>by
  refine HU ((B.go c.1).all (zr List.foldl_append c.2) (le_of_succ_le_succ h)) λL' T' B'=>?_
  exact⟨L',T',by rw[on] at B';rw[A0P,succ_sub_succ];exact B'⟩
theorem bG{R:List Int->List (Key×PV)->AP->Prop}(oh:∀{L:List Int}{T:List (Key×PV)}{m:Nat}{x:Sd},dZ L T m->x.1<=L.length->cf 41 [.list (L.map .int),.dict T,sI x,.int (sgK kd)]=.ok (.tuple [.list ((CH L x.1 (sgK kd*(maxK T+1))).map .int),.dict (Aj T (.int (maxK T+1)) (.int (sgK kd*wy x)))]))
  (hb:∀{L:List Int}{T:List (Key×PV)}{L':List Int}{T':List (Key×PV)}{ρ:AP}{x:Sd},R L T ρ->cf 41 [.list (L.map .int),.dict T,sI x,.int (sgK kd)]=.ok (.tuple [.list (L'.map .int),.dict T'])->∃ρ1 ρ2,CO t (f x) ρ=.ok ρ1/\exs cf ρ1 body=.ok (.next ρ2)/\R L' T' ρ2):∀{ws2 ws1:List Sd}{L:List Int}{T:List (Key×PV)}{m:Nat}{ρ:AP},CW ps us b e kd ws1 L T m->Kq (sgK kd) (ws1.foldl (Ar.go (sgK kd)) (ar0 ps us b e)) ws2->ws2.length<=m->R L T ρ->∃L' T' ρ',CW ps us b e kd (ws1++ws2) L' T' (m-ws2.length)/\R L' T' ρ'/\An (λρ'=>exs cf ρ' body) t (ws2.map f) ρ=.ok (.next ρ'):=by
 intro ws2;induction ws2 with
 |nil=>exact λ{ws1}{L}{T}{m}{ρ}B _ _ r=>⟨L,T,ρ,by refine zr (A0k _) ?_;exact B,r,rfl⟩
 |cons x ws2 ih=>
  intro ws1 L T m ρ B c h r;cases m with
  |zero=>exact absurd h (not_succ_le_zero _)
  |succ m=>
   refine Gq (hb r (oh B.lo (B.mo c.1))) λρ1 ρ2 e1 e2 r2=>?_
   obtain⟨L',T',ρ',B',r',e3⟩:=ih (B.go c.1) (zr List.foldl_append c.2) (le_of_succ_le_succ h) r2;refine⟨L',T',ρ',by rw[on] at B';rw[A0P,succ_sub_succ];exact B',r',?_⟩;exact zr A0Z ((Aa e1 e2).trans e3)
theorem YF(o:D0 a m):a.can.length<=1000:=by
 have h1:=HL (F:=a.F) (gs:=List.range (a.l+1));rw[A0q] at h1;have h3:=o.s1;show(Iy _ _).length<=1000;exact tX h1 o.le h3
noncomputable def Gw(x:Int)(ps us:List Int)(b e:Nat)(kd:Str)(W:PV)(L:List Int)(T:List (Key×PV))(u8 u9 u10 u11 u12 u13:Option PV):AP:=[some (.int x),some (dI (ps,us)),some (.int b),some (.int e),some (.str kd),some W,some (.list (L.map .int)),some (.dict T),u8,u9,u10,u11,u12,u13,none,none]
noncomputable def Y2(F:List Sd)(g:Nat):List Sd:=(if(g,true)∈F then[] else[(g,true)])++(if(g,false)∈F then[] else[(g,false)])
theorem TA[Decidable c]:sL (if c then[] else[x])=if !decide c then[sI x] else[]:=by
 by_cases h:c
 ·refine zr (XL h) (zr (ac h) ?_);rfl
 ·refine zr (Yf h) (zr (dV h) ?_);rfl
theorem Jk:(Y2 F g).length<=2:=by
 unfold Y2;refine zr CZ ?_;have h:∀{c:Prop}[Decidable c]{x:Sd},(if c then[] else[x]).length<=1:=by intro c _ x;split<;>first|exact A0I _|exact A1x _
 exact tW (h (c:=(g,true)∈F) (x:=(g,true))) (h (c:=(g,false)∈F) (x:=(g,false)))
theorem aa(h:y∈Y2 F g):y∉F:=by
 unfold Y2 at h;rcases XP.1 h with h|h<;>split at h
 ·exact absurd h A0K
 ·refine zr (YP.1 h) ?_;assumption
 ·exact absurd h A0K
 ·refine zr (YP.1 h) ?_;assumption
noncomputable def nwB:List PS:=[(.assign 12 (.bin .add HM (.comp (.tup [VN,Px]) (.one 14) .seq [Ls] [(.cmp .notIn (.tup [VN,Px]) Ol)])))]
theorem W6{u8 u9 u10:Option PV}{g:Nat}(hA:A.length<10000):exs cf (Gw x ps us b e kd W L T u8 u9 u10 (some (.list (sL F))) (some (.list (sL A))) (some (.int g))) nwB=.ok (.next (Gw x ps us b e kd W L T u8 u9 u10 (some (.list (sL F))) (some (.list (sL (A++Y2 F g)))) (some (.int g)))):=by
 have WI:∀b0:Bool,evAnd cf ((Gw x ps us b e kd W L T u8 u9 u10 (some (.list (sL F))) (some (.list (sL A))) (some (.int g))).set 14 (some (.int (if b0 then 1 else -1)))) [(.cmp .notIn (.tup [VN,Px]) Ol)]=.ok (!decide ((g,b0)∈F)):=λb0=>by
  refine(Ak (Ag (o:=.notIn) (x:=sI (g,b0)) (r:=!decide ((g,b0)∈F)) rfl rfl (zr JX (zr PW rfl)))).trans ?_;refine zr BO ?_;cases decide ((g,b0)∈F)<;>rfl
 have hc:ev cf (Gw x ps us b e kd W L T u8 u9 u10 (some (.list (sL F))) (some (.list (sL A))) (some (.int g))) (.comp (.tup [VN,Px]) (.one 14) .seq [Ls] [(.cmp .notIn (.tup [VN,Px]) Ol)])=.ok (.list (sL (Y2 F g))):=by
  refine BN (ds:=[.int 1,.int (-1)]) rfl rfl ?_ ?_
  ·unfold Y2;refine zr GN (zr TA (zr TA ?_));exact MU (ρ:=Gw x ps us b e kd W L T u8 u9 u10 (some (.list (sL F))) (some (.list (sL A))) (some (.int g))) (WI true) rfl (WI false) rfl
  ·refine zr BW ?_;unfold Ab;exact tU (Jk (F:=F) (g:=g))
 refine(AB (AF (Af (x:=.list (sL A)) rfl hc ?_))).trans Ae;show FP (sL A++sL _)=_;refine zr GN.symm ?_;exact Cu (by refine zr BW (zr CZ ?_);unfold Ab;exact tT hA (Jk (F:=F) (g:=g)))
theorem kT{u8 u9 u10:Option PV}:∀{gs:List Nat}{A:List Sd}{u:Option PV},(∀y∈A,y∉F)->A.length+2*gs.length<10000 ->
  ∃A' u',(∀y∈A',y∉F)/\A'.length<10000/\An (λρ'=>exs cf ρ' nwB) (.one 13) (gs.map λ(k:Nat)=>PV.int (0+(k:Int))) (Gw x ps us b e kd W L T u8 u9 u10 (some (.list (sL F))) (some (.list (sL A))) u)=.ok (.next (Gw x ps us b e kd W L T u8 u9 u10 (some (.list (sL F))) (some (.list (sL A'))) u')):=by
 intro gs;induction gs with
 |nil=>exact λ{A}{u}h hl=>⟨A,u,h,hl,rfl⟩
 |cons g gs ih=>
  intro A u h hl;rw[A0P] at hl;obtain⟨A',u',h',WD,e1⟩:=ih (A:=A++Y2 F g) (u:=some (.int g)) (λy hy=>(XP.1 hy).elim (h y) aa) (zr CZ (tV hl (Jk (F:=F) (g:=g))));refine⟨A',u',h',WD,?_⟩;rw[A0Z,A0y];exact(Aa (ρ1:=Gw x ps us b e kd W L T u8 u9 u10 (some (.list (sL F))) (some (.list (sL A))) (some (.int g))) rfl (W6 (tS hl))).trans e1
theorem W7:∀{A:List Sd}{u v:Option PV},∃A',(∀y∈A',y∈A)/\A'.length<=A.length /\
  A8 (λρ'=>ev cf ρ' (.tup [Px,yR])) (λρ'=>evAnd cf ρ' [(.cmp .gt Px (.bin .add V8 V9))]) (.many [14,15]) (sL A) [a0,a1,a2,a3,a4,a5,a6,a7,some (.int p),some (.int q),a10,a11,a12,a13,u,v]=.ok (sL A'):=by
 intro A;induction A with
 |nil=>exact λ{u}{v}=>⟨[],λJ h=>h,A0I _,rfl⟩
 |cons y A ih=>
  intro u v;obtain⟨A',h1,h2,e1⟩:=ih;have hc:evAnd cf [a0,a1,a2,a3,a4,a5,a6,a7,some (.int p),some (.int q),a10,a11,a12,a13,some (.int y.1),some (.int (if y.2 then 1 else -1))] [(.cmp .gt Px (.bin .add V8 V9))]=.ok (decide ((y.1:Int)>p+q)):=by
   refine(Ak rfl).trans ?_;refine zr BO ?_;cases decide ((y.1:Int)>p+q)<;>rfl
  refine⟨if decide ((y.1:Int)>p+q) then y::A' else A',λz hz=>?_,?_,?_⟩
  ·split at hz
   ·rcases A0E.1 hz with rfl|hz
    ·exact d4
    ·exact kV _ (h1 z hz)
   ·exact kV _ (h1 z hz)
  ·split
   ·exact succ_le_succ h2
   ·exact le_succ_of_le h2
  ·show A8 _ _ _ (sI y::sL A) _=_;refine zr IR (zr (rfl:CO (.many [14,15]) (sI y) [a0,a1,a2,a3,a4,a5,a6,a7,some (.int p),some (.int q),a10,a11,a12,a13,u,v]=.ok [a0,a1,a2,a3,a4,a5,a6,a7,some (.int p),some (.int q),a10,a11,a12,a13,some (.int y.1),some (.int (if y.2 then 1 else -1))]) (zr AM (zr hc (zr AM (zr e1 ?_)))));cases decide ((y.1:Int)>p+q)<;>rfl
theorem Sa(h:y∉a.can):Eb a (sI y):=.wI λx hx ⟨h1,h2⟩=>h (by
 have e2:x.2=y.2:=by
  have h2:(if x.2 then(1:Int) else -1)=if y.2 then 1 else -1:=h2
  cases q1:x.2<;>cases q2:y.2<;>rw[q1,q2] at h2<;>first|rfl|exact absurd h2 (by decide)
 have:x=y:=Prod.ext (A16.1 h1) e2;refine zr this.symm ?_;exact hx)
theorem Jw:(sL ws).take i=sL (ws.take i):=by unfold sL;exact zr map_take rfl
theorem Wl:(sL ws).drop i=sL (ws.drop i):=by unfold sL;exact zr map_drop rfl
theorem Qh (o:D0 a m) (h:d∈[PV.tuple [.int (-1),.int 1],.tuple [.int ((a.L.length:Nat)+1),.int 1],.tuple [.int 0,.int 0],.tuple [.int 0,.int 2],.tuple [.int 0],.none,.tuple [.int 0,.int 1,.int 1],.str "01"]):Eb a d:=by
 rcases A0E.1 h with rfl|h
 ·exact .wI λx J h=>by have:=h.1;exact(tR h.1).elim
 rcases A0E.1 h with rfl|h
 ·refine .wI λx hx h=>?_
  have h1:=A0M.1 (DD.1 hx).1;exact absurd (A16.1 (show(x.1:Int)=((a.L.length+1:Nat):Int) from h.1)) (A1D (A15 h1 (succ_le_succ o.le)))
 rcases A0E.1 h with rfl|h
 ·exact .wI λx J h=>by have:=h.2;rcases LM x with q|q<;>(first|exact(tQ h.2 q).elim|exact(tP h.2 q).elim)
 rcases A0E.1 h with rfl|h
 ·exact .wI λx J h=>by have:=h.2;rcases LM x with q|q<;>(first|exact(tO h.2 q).elim|exact(tN h.2 q).elim)
 rcases A0E.1 h with rfl|h
 ·exact .w1
 rcases A0E.1 h with rfl|h
 ·exact .wN
 rcases A0E.1 h with rfl|h
 ·exact .w3
 exact zr (YP.1 h) .wS
theorem cD(h:BV ps us n b e kd)(HQ:n<=10)(hw:Ec ps us b e kd ws)(x:Int):∃ws1 d r,AC AA (k+4) 49 [.int x,dI (ps,us),.int b,.int e,.str kd,.tuple (sL ws)]=.ok (.tuple (sL ws1++d::r))/\Ec ps us b e kd ws1/\Eb (ws1.foldl (Ar.go (sgK kd)) (ar0 ps us b e)) d:=by
 refine zr (c2 (n:=k+3) (f:=49) (by rfl)) ?_;have rr:=AZ x (m:=((ws.length:Int)+1)) Qi;obtain⟨at',Vd⟩:∃j:Nat,(j:Int)=Int.fmod x ((ws.length:Int)+1):=⟨_,A0X rr.1⟩;have hle:at'<=ws.length:=Y0 rr.2 Vd;have lj:=hw.2;have hlen:(ws.take at').length=at':=by exact zr A0V (tM rr.2 Vd)
 have pL:AC AA (k+3) 39 [dI (ps,us),.int b,.int e]=_:=FG (k:=k+2) h;have oh:∀{L:List Int}{T:List (Key×PV)}{m:Nat}{x:Sd},dZ L T m->x.1<=L.length->AC AA (k+3) 41 [.list (L.map .int),.dict T,sI x,.int (sgK kd)]=_:=λo hx=>EL (n:=k+2) o (A9 kd) hx
 obtain⟨L,T,ρ',B,⟨u10,Ib⟩,pD⟩:=bG (cf:=AC AA (k+3)) (body:=[(.unpack [6,7] (.call 41 false [V6,V7,Ki,(.idx Ls (.prim .intOf [(.cmp .eq V4 KU)]))]))]) (t:=.one 10) (f:=sI) (R:=λL T ρ=>∃u10,ρ=Gw x ps us b e kd (.tuple (sL ws)) L T (some (.int ((lftL ps b e).length:Nat))) (some (.int at')) u10 none none none) oh (λ{L T L' T' ρ y}r pK=>by
  obtain⟨u10,rfl⟩:=r;refine⟨_,Gw x ps us b e kd (.tuple (sL ws)) L' T' (some (.int ((lftL ps b e).length:Nat))) (some (.int at')) (some (sI y)) none none none,rfl,?_,_,rfl⟩;refine(AB (p:=.unpack [6,7] _) (ρ:=Gw x ps us b e kd (.tuple (sL ws)) L T (some (.int ((lftL ps b e).length:Nat))) (some (.int at')) (some (sI y)) none none none) ?_).trans Ae;rw[Rs,AH (xs:=[.list (L.map .int),.dict T,sI y,.int (sgK kd)]) ?_ pK]
  ·rfl
  ·refine zr AO (zr Bp (zr AO (zr Bp (zr AO (zr Bp (zr AO (zr (Js (cf:=AC AA (k+3)) (i:=4) (ρ:=Gw x ps us b e kd (.tuple (sL ws)) L T (some (.int ((lftL ps b e).length:Nat))) (some (.int at')) (some (sI y)) none none none) h.knd rfl) ?_)))))));rfl) (VD h HQ) (F1 hw.1) (zr hlen (aZ rr.2 Vd lj)) ⟨none,rfl⟩ (ws2:=ws.take at')
 rw[nil_append] at B;have mM:=B.open (k:=k);rw[hlen] at mM;have HP:=YF B.ao;have zL:=B.len;have SE:=B.lo.s1;have ao:=B.ao;generalize nC:(ws.take at').foldl (Ar.go (sgK kd)) (ar0 ps us b e)=a at *;generalize decide ((0,false)∈a.F)=d0 at *;generalize AC AA (k+3)=cf at *;obtain⟨A,u13,hA,og,eA⟩:=kT (cf:=cf) (ps:=ps) (us:=us) (b:=b) (e:=e) (kd:=kd) (x:=x) (W:=.tuple (sL ws)) (L:=L) (T:=T) (u9:=some (.int at')) (u10:=u10) (F:=a.can) (gs:=List.range (L.length+1)) (A:=[]) (u:=none) (λJ h=>absurd h A0K) (zr A0q (zr A1t (tL SE)));obtain⟨A',hA',oZ,eF⟩:∃A':List Sd,(∀y∈A',y∉a.can)/\A'.length<10000/\ex cf (Gw x ps us b e kd (.tuple (sL ws)) L T (some (.int ((lftL ps b e).length:Nat))) (some (.int at')) u10 (some (.list (sL a.can))) (some (.list (sL A))) u13) (.ite (.and [(.cmp .gt V9 K0),(.cmp .lt (.bin .mod V0 K5) K2)]) [(.assign 12 (.comp (.tup [Px,yR]) (.many [14,15]) .seq [HM] [(.cmp .gt Px (.bin .add V8 V9))]))] [])=.ok (.next (Gw x ps us b e kd (.tuple (sL ws)) L T (some (.int ((lftL ps b e).length:Nat))) (some (.int at')) u10 (some (.list (sL a.can))) (some (.list (sL A'))) u13)):=by
  have hc:ev cf (Gw x ps us b e kd (.tuple (sL ws)) L T (some (.int ((lftL ps b e).length:Nat))) (some (.int at')) u10 (some (.list (sL a.can))) (some (.list (sL A))) u13) (.and [(.cmp .gt V9 K0),(.cmp .lt (.bin .mod V0 K5) K2)])=.ok (.bool (decide ((at':Int)>0)&&decide (Int.fmod x 5<2))):=by
   refine C1 ((Ak (b:=decide ((at':Int)>0)) rfl).trans ?_);refine zr (Ak (b:=decide (Int.fmod x 5<2)) rfl) (zr BO ?_);cases decide ((at':Int)>0)<;>cases decide (Int.fmod x 5<2)<;>rfl
  cases q:(decide ((at':Int)>0)&&decide (Int.fmod x 5<2)) with
  |false=>rw[q] at hc;exact⟨A,hA,og,AI hc⟩
  |true=>
   rw[q] at hc;obtain⟨A',h1,h2,e1⟩:=W7 (cf:=cf) (a0:=some (.int x)) (a1:=some (dI (ps,us))) (a2:=some (.int b)) (a3:=some (.int e)) (a4:=some (.str kd)) (a5:=some (.tuple (sL ws))) (a6:=some (.list (L.map .int))) (a7:=some (.dict T)) (p:=((lftL ps b e).length:Nat)) (a10:=u10) (a11:=some (.list (sL a.can))) (a12:=some (.list (sL A))) (a13:=u13) (A:=A) (u:=none) (v:=none);refine⟨A',λy hy=>hA y (h1 y hy),by exact tK og h2,?_⟩;refine zr (Ai hc) (zr (XL rfl) ?_);exact(AB (AF (BN (xs:=[.list (sL A)]) (ds:=sL A) rfl rfl e1 (by refine zr BW ?_;unfold Ab;exact tJ og h2)))).trans Ae
 obtain⟨O,hO⟩:∃O:List PV,O=[PV.tuple [.int (-1),.int 1],.tuple [.int ((a.L.length:Nat)+1),.int 1],.tuple [.int 0,.int 0],.tuple [.int 0,.int 2],.tuple [.int 0],.none,.tuple [.int 0,.int 1,.int 1],.str "01"]:=⟨_,rfl⟩;have eO:ex cf (Gw x ps us b e kd (.tuple (sL ws)) L T (some (.int ((lftL ps b e).length:Nat))) (some (.int at')) u10 (some (.list (sL a.can))) (some (.list (sL A'))) u13) (.assign 12 (.bin .add HM (.lst [(.tup [Km,K1]),(.tup [(.bin .add (ln V6) K1),K1]),(.tup [K0,K0]),(.tup [K0,K2]),(.tup [K0]),KN,(.tup [K0,K1,K1]),(.const (.str "01"))])))=.ok (.next (Gw x ps us b e kd (.tuple (sL ws)) L T (some (.int ((lftL ps b e).length:Nat))) (some (.int at')) u10 (some (.list (sL a.can))) (some (.list (sL A'++O))) u13)):=by
  refine AF (Af (o:=.add) (x:=.list (sL A')) (y:=.list O) rfl ?_ (Cu (l:=sL A'++O) (by refine zr CZ (zr BW (zr hO ?_));show A'.length+8<=Ab;unfold Ab;exact tH oZ)));refine zr hO (zr zL (zr (show(L.length:Int)=((L.map PV.int).length:Nat) by exact zr (KK _) rfl) ?_));rfl
 obtain⟨d,hd,ed⟩:=pick (cf:=cf) (ρ:=Gw x ps us b e kd (.tuple (sL ws)) L T (some (.int ((lftL ps b e).length:Nat))) (some (.int at')) u10 (some (.list (sL a.can))) (some (.list (sL A'++O))) u13) (a:=.var 12) (i:=.bin .fdiv V0 (.const (.int 8))) (x:=Int.fdiv x 8) (A:=sL A'++O) rfl rfl (by refine zr hO ?_;intro q;have:=(append_eq_nil_iff.1 q).2;cases this);refine⟨ws.take at',d,sL (ws.drop at'),?_,⟨(F1 hw.1:Kq (sgK kd) (ar0 ps us b e) (ws.take at')),zr hlen (aZ rr.2 Vd lj)⟩,?_⟩
 ·refine Al (o:=.ret _) (ρ:=[some (.int x),some (dI (ps,us)),some (.int b),some (.int e),some (.str kd),some (.tuple (sL ws)),none,none,none,none,none,none,none,none,none,none]) rfl rfl ?_;refine(AB (ρ':=Gw x ps us b e kd (.tuple (sL ws)) (lftL ps b e) (FH us (BY ps b e)) none none none none none none) ?_).trans ?_
  ·refine zr Rs (zr (AH (xs:=[dI (ps,us),.int b,.int e]) rfl pL) ?_);rfl
  refine(AB (ρ':=Gw x ps us b e kd (.tuple (sL ws)) (lftL ps b e) (FH us (BY ps b e)) (some (.int ((lftL ps b e).length:Nat))) none none none none none) (AF ?_)).trans ?_
  ·show Res.ok (PV.int (((lftL ps b e).map PV.int).length:Nat))=_;exact zr (KK _) rfl
  refine(AB (ρ':=Gw x ps us b e kd (.tuple (sL ws)) (lftL ps b e) (FH us (BY ps b e)) (some (.int ((lftL ps b e).length:Nat))) (some (.int at')) none none none none) (AF ?_)).trans ?_
  ·refine Af (o:=.mod) (x:=.int x) (y:=.int ((ws.length:Int)+1)) rfl ?_ ?_
   ·show Res.ok (PV.int (((sL ws).length:Nat)+1))=_;exact zr BW rfl
   ·show(if((ws.length:Int)+1)=0 then Res.stuck else Res.ok (PV.int (Int.fmod x ((ws.length:Int)+1))))=_;exact zr (Yf J1) (zr Vd rfl)
  have sh:∀{L:List Int}{T:List (Key×PV)}{u10 u11 u12 u13:Option PV},ev cf (Gw x ps us b e kd (.tuple (sL ws)) L T (some (.int ((lftL ps b e).length:Nat))) (some (.int at')) u10 u11 u12 u13) (.slH V5 V9)=.ok (.tuple (sL (ws.take at'))):=λ{L T u10 u11 u12 u13}=>by
   refine zr Jw.symm ?_;exact Wh (l:=sL ws) (b:=at') (zr BW hle)
  refine(AB (As (xs:=[.tuple (sL (ws.take at'))]) (ds:=sL (ws.take at')) (zr AO (zr sh rfl)) rfl pD)).trans ?_;refine zr Ib ?_;refine(AB (ρ':=Gw x ps us b e kd (.tuple (sL ws)) L T (some (.int ((lftL ps b e).length:Nat))) (some (.int at')) u10 (some (.list (sL a.can))) none none) (AF (Bq (x:=.tuple [.list (sL a.can),.bool d0]) (y:=.int 0) (AH (xs:=[.list (L.map .int),.dict T,.int (((lftL ps b e).length+at':Nat):Int)]) rfl mM) rfl rfl))).trans ?_;refine(AB (ρ':=Gw x ps us b e kd (.tuple (sL ws)) L T (some (.int ((lftL ps b e).length:Nat))) (some (.int at')) u10 (some (.list (sL a.can))) (some (.list (sL []))) none) rfl).trans ?_;refine(AB (As (xs:=[.int ((L.length+1:Nat):Int)]) ?_ (Fv (tG SE)) eA)).trans ?_
  ·show Res.ok [PV.int (((L.map PV.int).length:Nat)+1)]=_;refine zr (KK _) ?_;rfl
  refine(AB eF).trans ((AB eO).trans (AS (Ax ?_)));have sl:ev cf (Gw x ps us b e kd (.tuple (sL ws)) L T (some (.int ((lftL ps b e).length:Nat))) (some (.int at')) u10 (some (.list (sL a.can))) (some (.list (sL A'++O))) u13) (.slL V5 V9)=.ok (.tuple (sL (ws.drop at'))):=by
   refine zr Wl.symm ?_;exact b6 (l:=sL ws) (e:=at') (zr BW hle)
  have Kt:(sL (ws.take at')).length<=7:=by exact zr BW (zr hlen (aZ rr.2 Vd lj))
  refine Af (o:=.add) (x:=.tuple (sL (ws.take at')++[d])) (Af (o:=.add) (y:=.tuple [d]) sh (zr JB (zr AO (zr ed rfl))) (XL (by refine zr CZ (zr nP ?_);unfold Ab;exact tE Kt):PH (sL (ws.take at')++[d])=.ok (.tuple (sL (ws.take at')++[d])))) sl ?_;show PH (sL (ws.take at')++[d]++sL (ws.drop at'))=_;refine zr (on _ _ _) ?_;exact XL (by refine zr CZ (zr CZ (zr nP ?_));unfold Ab;exact tD Kt (by refine zr BW (zr A0n ?_);exact tF lj:(sL (ws.drop at')).length<=7))
 ·refine zr nC ?_;rcases XP.1 hd with q|q
  ·refine AE (Ya.1 q) λy hy Av=>?_;subst Av
   exact Sa (hA' y hy)
  ·rw[hO] at q;exact Qh ao q
noncomputable def cj(ps us:List Int)(b e:Nat)(kd:Str)(W:PV)(L:List Int)(T:List (Key×PV))(u7 u8:Option PV):AP:=[some (dI (ps,us)),some (.int b),some (.int e),some (.str kd),some W,some (.list (L.map .int)),some (.dict T),u7,u8,none,none]
noncomputable def elB:List PS:=[(.unpack [5,6] (.call 41 false [V5,V6,(.idx V4 V8),(.idx Ls (.prim .intOf [(.cmp .eq V3 KU)]))]))]
theorem jT(h:ws[i]?=some x):CI (.tuple (sL ws)) (.int (i:Nat))=.ok (sI x):=by
 show(if(0:Int)<=i then(match (sL ws)[(i:Int).toNat]? with|some d=>Res.ok d|none=>.stuck) else .stuck)=_;unfold sL;rw[XL (A0H _),A0R,A0Q,h];rfl
theorem l6(hk:kd=over\/kd=under):∀{ws2 ws1:List Sd}{L:List Int}{T:List (Key×PV)}{m:Nat}{u8:Option PV},ws1++ws2=ws->CW ps us b e kd ws1 L T m->Kq (sgK kd) (ws1.foldl (Ar.go (sgK kd)) (ar0 ps us b e)) ws2->ws2.length<=m ->
  ∃L' T' mc,CW ps us b e kd ws L' T' (m-ws2.length)/\An (λρ'=>exs (AC AA (k+3)) ρ' elB) (.one 8) ((List.range' ws1.length ws2.length).map λ(i:Nat)=>PV.int (i:Int)) (cj ps us b e kd (.tuple (sL ws)) L T u7 u8)=.ok (.next (cj ps us b e kd (.tuple (sL ws)) L' T' u7 mc)):=by
 intro ws2;induction ws2 with
 |nil=>exact λ{ws1}{L}{T}{m}{u8}hw B _ _=>⟨L,T,u8,by rw[<-hw,A0k];exact B,rfl⟩
 |cons x ws2 ih=>
  intro ws1 L T m u8 hw B c h;cases m with
  |zero=>exact absurd h (not_succ_le_zero _)
  |succ m=>
   obtain⟨L',T',mc,B',e3⟩:=ih (u8:=some (.int ws1.length)) (ws1:=ws1++[x]) (zr (on _ _ _) hw) (B.go c.1) (by refine zr List.foldl_append ?_;exact c.2) (le_of_succ_le_succ h);refine⟨L',T',mc,by rw[A0P,succ_sub_succ];exact B',?_⟩;rw[CZ,nP] at e3;refine zr A0P (zr A1e (zr A0Z ?_));have pK:=EL (n:=k+2) B.lo (A9 kd) (B.mo c.1);generalize AC AA (k+3)=cf at *;refine(Aa (ρ1:=cj ps us b e kd (.tuple (sL ws)) L T u7 (some (.int ws1.length))) rfl ?_).trans e3;have sg:=Js (cf:=cf) (i:=3) (ρ:=cj ps us b e kd (.tuple (sL ws)) L T u7 (some (.int ws1.length))) hk rfl;have ix:=Bq (cf:=cf) (ρ:=cj ps us b e kd (.tuple (sL ws)) L T u7 (some (.int ws1.length))) (a:=.var 4) (b:=.var 8) rfl rfl (jT (by rw[<-hw,A0F (A0I _),A1w];rfl:ws[ws1.length]?=some x));refine(AB (p:=.unpack [5,6] _) ?_).trans Ae;rw[Rs,AH (xs:=[.list (L.map .int),.dict T,sI x,.int (sgK kd)]) ?_ pK]
   ·rfl
   ·rw[AO,Bp,AO,Bp,AO,ix,AM,AO,sg];rfl
theorem T9(h:BV ps us n b e kd)(HQ:n<=10)(hw:Ec ps us b e kd ws):AC AA (k+4) 50 [dI (ps,us),.int b,.int e,.str kd,.tuple (sL ws)]=.ok (.bool (!decide ((0,false)∈(ws.foldl (Ar.go (sgK kd)) (ar0 ps us b e)).F))):=by
 have pL:=FG (k:=k+2) h;obtain⟨L,T,u8,B,pD⟩:=l6 h.knd (u7:=some (.int ((lftL ps b e).length:Nat))) (u8:=none) (ws:=ws) (ws2:=ws) (ws1:=[]) rfl (VD h HQ) hw.1 hw.2;have mM:=B.open (k:=k);refine zr (c2 (by rfl)) ?_;generalize AC AA (k+3)=cf at *;refine Al (o:=.ret _) rfl rfl ?_;refine(AB (ρ':=cj ps us b e kd (.tuple (sL ws)) (lftL ps b e) (FH us (BY ps b e)) none none) ?_).trans ?_
 ·refine zr Rs (zr (AH rfl pL) ?_);rfl
 refine(AB (ρ':=cj ps us b e kd (.tuple (sL ws)) (lftL ps b e) (FH us (BY ps b e)) (some (.int ((lftL ps b e).length:Nat))) none) (AF ?_)).trans ?_
 ·show Res.ok (PV.int (((lftL ps b e).map PV.int).length:Nat))=_;exact zr (KK _) rfl
 refine(AB (As ?_ (Ba (zj hw.2)) (zr A1W pD))).trans (AS (Ax (BE (Bq (AH ?_ mM) rfl rfl))))
 ·show Res.ok [PV.int ((sL ws).length:Nat)]=_;exact zr BW rfl
 ·show Res.ok [PV.list (L.map .int),PV.dict T,PV.int ((((lftL ps b e).length:Nat):Int)+(((sL ws).length:Nat):Int))]=_;refine zr BW ?_;rfl
theorem Mq(h:v≠0):0<absI v:=by unfold absI;split<;>(first|exact WQ (by assumption)|exact WP h (by assumption))
noncomputable def TI(o:List Int)(v:Int):Int:=if 0<v then(o.idxOf (absI v):Int)+1 else -((o.idxOf (absI v):Int)+1)
theorem Tx:∀{l o:List Int},a∈l.foldl B9 o↔a∈o\/∃v∈l,absI v=a:=by
 intro l;induction l with
 |nil=>exact λ{o}=>by simp
 |cons v l ih=>
  intro o;rw[A1u,ih];unfold B9;constructor
  ·rintro(h|⟨w,hw,e⟩)
   ·split at h
    ·exact .inl h
    ·rcases XP.1 h with h|h
     ·exact .inl h
     ·exact .inr ⟨v,d4,(YP.1 h).symm⟩
   ·exact .inr ⟨w,kV _ hw,e⟩
  ·rintro(h|⟨w,hw,e⟩)
   ·left;split
    ·exact h
    ·exact A0J _ h
   ·rcases A0E.1 hw with rfl|hw
    ·left;subst e;split
     ·assumption
     ·exact nf _ d4
    ·exact .inr ⟨w,hw,e⟩
theorem XN:∀{l o:List Int},o.Nodup->(l.foldl B9 o).Nodup:=by
 intro l;induction l with
 |nil=>exact λ{_}h=>h
 |cons v l ih=>
  intro o h;refine zr A1u ?_;refine ih ?_;unfold B9;split
  ·exact h
  ·rename_i hn;exact A0S.2 ⟨h,A1C.2 ⟨A0K,A1d⟩,λa ha b hb e=>hn (zr (YP.1 hb).symm (zr e.symm ha))⟩
noncomputable def dN(o:List Int):List (Key×PV):=o.zipIdx.map λp=>(Key.int p.1,PV.int ((p.2:Int)+1))
theorem Fy:AR (dN o) (.int i)=true:=by simp[AR,dN,Jv]
theorem U1:(dN o).length=o.length:=by unfold dN;exact zr (KK _) (zr A13 rfl)
theorem d5(o:List Int)(a:Int):dN (o++[a])=dN o++[(.int a,.int ((o.length:Int)+1))]:=by
 simp[dN,List.zipIdx_append]
theorem X8:(dN o).map (λp=>p.1.pv)=o.map .int:=by
 unfold dN;refine zr A0g ?_;have:∀(o:List Int)(k:Nat),(o.zipIdx k).map ((λ(p:Key×PV)=>p.1.pv)∘λp=>(Key.int p.1,PV.int ((p.2:Int)+1)))=o.map .int:=by
  intro o;induction o with
  |nil=>intro k;rfl
  |cons a o ih=>intro k;rw[zipIdx_cons,A0Z,ih];rfl
 exact this o 0
theorem U2:Bs (dN o) (.int a)=decide (a∈o):=by
 rw[A1G];unfold Bs dN;rw[A1J,A0j];constructor
 ·rintro⟨p,hp,e⟩;refine AE (Ya.1 hp) λy hy Av=>?_;subst Av
  exact zr (Key.int.inj (A0N e)).symm (List.fst_mem_of_mem_zipIdx hy)
 ·intro h;obtain⟨j,hj,e⟩:=List.getElem_of_mem h;refine⟨(.int a,.int ((j:Int)+1)),Ya.2 ⟨(a,j),?_,rfl⟩,ac rfl⟩;rw[List.mk_mem_zipIdx_iff_getElem?,TW hj,e]
theorem cx(hn:a∉o):Aj (dN o) (.int a) (.int ((o.length:Int)+1))=dN (o++[a]):=by
 unfold Aj;rw[U2,d5,dV hn,Yf A0O]
theorem lD:∀{o:List Int}{j:Nat},a∈o->((o.zipIdx j).map λp=>(Key.int p.1,PV.int ((p.2:Int)+1))).find? (λp=>p.1=Key.int a)=some (Key.int a,PV.int ((j:Int)+(o.idxOf a:Int)+1)):=by
 intro o;induction o with
 |nil=>exact λ{_}h=>absurd h A0K
 |cons c o ih=>
  intro j h;refine zr zipIdx_cons (zr A0Z (zr A2B ?_));by_cases e:c=a
  ·subst e;simp
  ·have BG:=dV λq=>e (Key.int.inj q)
   simp only[BG];refine zr (ih ((A0E.1 h).resolve_left λq=>e q.symm)) (zr idxOf_cons (zr (A1l e) ?_));simp;exact gO
theorem cy(h:a∈o):Am (dN o) (.int a)=some (.int ((o.idxOf a:Int)+1)):=by
 have:=lD (j:=0) h;simp only[Int.natCast_zero,Int.zero_add] at this;unfold Am dN;refine zr this ?_;rfl
noncomputable def nb1:List PS:=[(.ite (.cmp .notIn (ab V3) V2) [(.setItem 2 (ab V3) (.bin .add (ln V2) K1))] [])]
noncomputable def nb2:List PS:=[(.append 4 (.ite (.cmp .gt V3 K0) (.idx V2 (ab V3)) (.bin .sub K0 (.idx V2 (ab V3)))))]
noncomputable def Vn(P T:PV)(o:List Int)(u v:Option PV):AP:=[some P,some T,some (.dict (dN o)),u,v,none,none]
theorem bu:∀{ns o:List Int}{u:Option PV},o.length+ns.length<1000->∃u',An (λρ'=>exs cf ρ' nb1) (.one 3) (ns.map .int) (Vn P T o u none)=.ok (.next (Vn P T (ns.foldl B9 o) u' none)):=by
 intro ns;induction ns with
 |nil=>exact λ{o}{u}_=>⟨u,rfl⟩
 |cons v ns ih=>
  intro o u h;rw[A0P] at h;obtain⟨u',e⟩:=ih (by unfold B9;split;exact js h;refine zr CZ (zr nP ?_);exact Ng h:(B9 o v).length+ns.length<1000);refine⟨u',?_⟩;refine zr A0Z (zr A1u ?_);refine(Aa rfl ?_).trans e;have hc:ev cf (Vn P T o (some (.int v)) none) (.cmp .notIn (ab V3) V2)=.ok (.bool (!decide (absI v∈o))):=by
   show(((CG (.int (absI v)) (.dict (dN o))).bind _).bind _)=_;refine zr (Hy Fy) (zr U2 ?_);rfl
  by_cases hm:absI v∈o
  ·rw[ac hm] at hc;exact zr (show B9 o v=o from XL hm) ((AB (AI hc)).trans Ae)
  ·rw[dV hm] at hc;refine zr (show B9 o v=o++[absI v] from Yf hm) ?_;refine(AB ?_).trans Ae;refine zr (Ai hc) ?_;refine(AB (By (kk:=.int (absI v)) (d:=.int ((o.length:Int)+1)) rfl ?_ rfl rfl Fy (by refine zr U1 ?_;unfold Ab;exact W3 h))).trans ?_
   ·refine Af (x:=.int (o.length:Nat)) ?_ rfl rfl;show(if AR (dN o) (.int 0)=true then Res.ok (PV.int ((dN o).length:Nat)) else .stuck)=_;exact zr (XL Fy) (zr U1 rfl)
   ·refine zr Ae (zr (cx hm) ?_);rfl
theorem bq:∀{ns a:List Int}{u:Option PV},a.length+ns.length<1000->(∀v∈ns,absI v∈o)->∃u',An (λρ'=>exs cf ρ' nb2) (.one 3) (ns.map .int) (Vn P T o u (some (.list (a.map .int))))=.ok (.next (Vn P T o u' (some (.list ((a++ns.map (TI o)).map .int))))):=by
 intro ns;induction ns with
 |nil=>exact λ{a}{u}_ _=>⟨u,by rw[map_nil,map_nil,A0k];rfl⟩
 |cons v ns ih=>
  intro a u h hm;rw[A0P] at h;obtain⟨u',e⟩:=ih (a:=a++[TI o v]) (zr CZ (zr nP (Ng h))) λw hw=>hm w (kV _ hw)
  refine⟨u',?_⟩;rw[on] at e;refine(Aa (ρ1:=Vn P T o (some (.int v)) (some (.list (a.map .int)))) (ρ2:=Vn P T o (some (.int v)) (some (.list ((a++[TI o v]).map .int)))) rfl ?_).trans e;have hg:ev cf (Vn P T o (some (.int v)) (some (.list (a.map .int)))) (.idx V2 (ab V3))=.ok (.int ((o.idxOf (absI v):Int)+1)):=by
   show(if AR (dN o) (.int (absI v))=true then(match Am (dN o) (.int (absI v)) with|some d=>Res.ok d|none=>.stuck) else .stuck)=_;exact zr (XL Fy) (zr (cy (hm v d4)) rfl)
  refine(AB (Cj (l:=a.map .int) (d:=.int (TI o v)) rfl ?_ (by refine zr (KK _) ?_;unfold Ab;exact W3 h))).trans ?_
  ·show(if decide (v>0)=true then _ else _)=_;unfold TI;by_cases q:0<v
   ·exact zr (XL (ac q)) (zr (XL q) hg)
   ·refine zr (Yf (by refine zr (dV q) ?_;exact A0O)) (zr (Yf q) ?_);refine Af (x:=.int 0) rfl hg ?_;show Res.ok (PV.int (0-((o.idxOf (absI v):Int)+1)))=_;exact zr (Int.zero_sub _) rfl
  ·refine zr Ae (zr A0D ?_);rfl
theorem Tb{ns:List Int}(hl:ns.length<1000)(hf:∀i,AR T (.int i)=true)(hu:∀v∈ns,Am T (.int (absI v))=some (.int (tf (absI v)))):
  AC AA (n+1) 3 [.list (ns.map .int),.dict T]=.ok (dI (ns.map (TI (ns.foldl B9 [])),(ns.foldl B9 []).map tf)):=by
 refine zr (c2 (by rfl)) ?_;generalize AC AA n=cf;obtain⟨u1,e1⟩:=bu (P:=.list (ns.map .int)) (T:=.dict T) (ns:=ns) (o:=[]) (u:=none) (by simpa using hl);have hm:∀a,a∈ns.foldl B9 []↔∃v∈ns,absI v=a:=λa=>by rw[Tx];exact⟨λh=>h.resolve_left A0K,.inr⟩
 have WA:(ns.foldl B9 []).length<=ns.length:=by
  have:=BA (XN A1d) λa ha=>Ya.2 ((hm a).1 ha)
  rwa [KK] at this
 generalize ns.foldl B9 []=o at *;obtain⟨u2,e2⟩:=bq (P:=.list (ns.map .int)) (T:=.dict T) (o:=o) (ns:=ns) (a:=[]) (u:=u1) (by simpa using hl) λv hv=>(hm _).2 ⟨v,hv,rfl⟩
 refine Al (o:=.ret _) rfl rfl ?_;refine(AB rfl).trans ?_;refine(AB (As rfl rfl e1)).trans ?_;refine(AB rfl).trans ?_;refine(AB (As rfl rfl e2)).trans ?_;refine zr (nil_append _) ?_;have cm:ev cf (Vn (.list (ns.map .int)) (.dict T) o u2 (some (.list ((ns.map (TI o)).map .int)))) (.comp (.idx V1 V5) (.one 5) .seq [V2] [])=.ok (.list ((o.map tf).map .int)):=by
  refine BN (ds:=o.map .int) rfl ?_ ?_ (by rw[KK,KK];unfold Ab;exact gM hl WA)
  ·show(if AR (dN o) (.int 0)=true then Res.ok ((dN o).map λp=>p.1.pv) else .stuck)=_;exact zr (XL Fy) (zr X8 rfl)
  ·refine zr (show(o.map tf).map PV.int=o.map (PV.int∘tf) from A0g) ?_;refine Ck λa ha=>⟨rfl,?_⟩
   refine AE ((hm a).1 ha) λv hv Av=>?_;subst Av
   show(if AR T (.int (absI v))=true then(match Am T (.int (absI v)) with|some d=>Res.ok d|none=>.stuck) else .stuck)=_;refine zr (XL (hf _)) (zr (hu v hv) ?_);rfl
 refine AS (Ax ?_);refine zr JB (zr AO (zr AO (zr Bo (zr AO (zr (show ev cf (Vn (.list (ns.map .int)) (.dict T) o u2 (some (.list ((ns.map (TI o)).map .int)))) V4=.ok (.list ((ns.map (TI o)).map .int)) from rfl) (zr Bo (zr AO (zr cm ?_))))))));rfl
theorem bM(o:Go L T q)(hv:v∈L)(h0:v≠0):Am T (.int (absI v))=some (.int (qT T (absI v))):=by
 refine Ca (o.tn v hv h0) λt J hd J=>?_
 have hp:=Mq h0;exact zr hd (zr (Fe (zr (show absI (absI v)=absI v from Yf (by exact NO hp)) hd)) (zr (Yf (by exact NO hp)) rfl))
theorem Gn(o:Go (B++0::A) T q)(hl:(B++0::A).length<=900):AC AA (n+2) 57 [aO (B++0::A) T kd f l]=.ok (dI ((A++B).map (TI ((A++B).foldl B9 [])),((A++B).foldl B9 []).map (qT T))):=by
 rw[CZ,A0P] at hl;have h0:∀v∈A++B,v≠0:=λv hv e=>by
  subst e;refine DI (A0S.1 o.nd) λJ n2 n3=>?_
  rcases XP.1 hv with h|h
  ·exact(A1C.1 n2).1 h
  ·exact n3 0 h 0 d4 rfl
 have hm:∀v∈A++B,v∈B++0::A:=λv hv=>(XP.1 hv).elim (λh=>nf _ (kV _ h)) λh=>A0J _ h
 have e:=Tb (n:=n) (ns:=A++B) (tf:=qT T) (zr CZ (gN hl)) o.fits (λv hv=>bM o (hm v hv) (h0 v hv));refine zr (c2 (by rfl)) ?_;generalize AC AA (n+1)=cf at *;have hix:((B++0::A).idxOf? 0)=some B.length:=by
  refine zr (Dt (nf _ d4)) ?_
  congr 1
  rw[List.idxOf_append,Yf λq=>h0 0 (nf _ q) rfl,idxOf_cons_self,A1v]
 refine Al (o:=.ret _) (ρ:=[some (aO (B++0::A) T kd f l),none,none,none]) rfl rfl ?_;refine(AB (ρ':=[some (aO (B++0::A) T kd f l),some (.int B.length),none,none]) (AF ?_)).trans (AS (Ax (AH (xs:=[.list ((A++B).map .int),.dict T]) ?_ e)))
 ·show Ay ((B++0::A).map .int) (.int 0)=_;unfold Ay;refine zr (Db _) ?_;simp only[hix]
 ·have e1:ev cf [some (aO (B++0::A) T kd f l),some (.int B.length),none,none] (.slL (.attr V0 0) (.bin .add V1 K1))=.ok (.list (A.map .int)):=by
   show JF (some (.int ((B.length:Int)+1))) Option.none (.list ((B++0::A).map .int))=_;rw[FX,KK,CZ,A0P,show(B.length:Int)+1=((B.length+1:Nat):Int) from rfl,C4 (by exact gL)];unfold Kd;rw[take_of_length_le (by refine zr (KK _) (zr CZ (zr A0P ?_));exact gK),<-map_drop,drop_append,drop_eq_nil_of_le (by exact aS),nil_append,show B.length+1-B.length=1 by exact gJ];rfl
  have e2:ev cf [some (aO (B++0::A) T kd f l),some (.int B.length),none,none] (.slH (.attr V0 0) V1)=.ok (.list (B.map .int)):=by
   show JF Option.none (some (.int (B.length:Int))) (.list ((B++0::A).map .int))=_;rw[FY,KK,CZ,A0P,C4 (by exact gI)];unfold Kd;refine zr map_take.symm (zr take_left ?_);rfl
  have e3:ev cf [some (aO (B++0::A) T kd f l),some (.int B.length),none,none] (.bin .add (.slL (.attr V0 0) (.bin .add V1 K1)) (.slH (.attr V0 0) V1))=.ok (.list ((A++B).map .int)):=by
   refine Af e1 e2 ?_;refine zr A0D ?_;exact Cu (by rw[CZ,KK,KK];unfold Ab;exact gH hl)
  refine zr AO (zr e3 ?_);rfl
theorem UH(h:BV ps us n b e kd)(o:D0 (ar0 ps us b e) (ws.length+0))(hl:(lftL ps b e).length+2*ws.length<=81)(c:Kq (sgK kd) (ar0 ps us b e) ws):
  ((0,false)∈(ws.foldl (Ar.go (sgK kd)) (ar0 ps us b e)).F->AC AA (k+8) 17 [dI (ps,us),.int b,.int e,.str kd,.tuple (sL ws)]=.ok ((ws.foldl (Ar.go (sgK kd)) (ar0 ps us b e)).pv kd)) /\
  ((0,false)∉(ws.foldl (Ar.go (sgK kd)) (ar0 ps us b e)).F->DG (k+8) 17 [dI (ps,us),.int b,.int e,.str kd,.tuple (sL ws)] 2):=by
 have zY:=IB (k:=k) h o hl c;have mK:=Lj (k:=k+3) (kd:=kd) (D0.fold (A9 kd) (ws:=ws) (m:=0) o);generalize ws.foldl (Ar.go (sgK kd)) (ar0 ps us b e)=a at *;refine⟨λhF=>?_,λhF=>?_⟩
 ·rw[ac hF] at mK;refine zr (c2 (by rfl)) ?_;refine Al (o:=.ret _) rfl rfl ?_;exact(AB (ρ':=[some (dI (ps,us)),some (.int b),some (.int e),some (.str kd),some (.tuple (sL ws)),some (a.pv kd),none,none]) (MJ (AF (AH (xs:=[dI (ps,us),.int b,.int e,.str kd,.tuple (sL ws)]) rfl zY)))).trans ((AB (AI (BE (b:=true) (AH rfl mK)))).trans (AS rfl))
 ·rw[dV hF] at mK;refine B1 (fn:=JU) rfl rfl rfl ?_;exact(AB (ρ':=[some (dI (ps,us)),some (.int b),some (.int e),some (.str kd),some (.tuple (sL ws)),some (a.pv kd),none,none]) (MJ (AF (AH (xs:=[dI (ps,us),.int b,.int e,.str kd,.tuple (sL ws)]) rfl zY)))).trans (Dc (zr (Ai (BE (b:=false) (AH rfl mK))) rfl) λJ h=>by cases h)
theorem T5{t b e kd w d v:PV}(h1:AC AA n 17 [t,b,e,kd,w]=.ok d)(h2:AC AA n 57 [d]=.ok v):AC AA (n+1) 19 [t,b,e,kd,w]=.ok v:=by
 refine zr (c2 (by rfl)) ?_;exact Al (o:=.ret _) rfl rfl (AS (MJ (Ax (AH (zr AO (zr (AH (xs:=[t,b,e,kd,w]) rfl h1) rfl)) h2))))
noncomputable def QK(ps us:List Int)(b e:Nat)(kd:Str)(R W:List Int)(F:List PV)(u8 u9 u10 u11:Option PV):AP:=[some (dI (ps,us)),some (.int b),some (.int e),some (.str kd),some (.dict (dT us)),some (.list (R.map .int)),some (.list (W.map .int)),some (.list F),u8,u9,u10,u11,none,none]
noncomputable def wbT:PE:=(.cmp .gt (ln V6) K0)
noncomputable def zn:List PS:=[(.pop 8 6),(.assign 9 (.slH V5 (.index V5 V8))),(.assign 10 (.prim .len [(.comp HM (.one 12) .seq [V9] [(.cmp .notIn HM V6)])])),(.assign 11 (.idx V4 (ab V8))),(.append 7 (.tup [Ki,(.ite (.cmp .eq V3 KO) Ol (.bin .sub K0 Ol))]))]
theorem WW{w t:Int}{u8 u9 u10 u11:Option PV}(hR:R.length<=1000)(hw:w∈R)(ht:Am (dT us) (.int (absI w))=some (.int t))(hF:F.length<1000):
  ∃d v8 v9 v10 Vl,exs cf (QK ps us b e kd R (w::W) F u8 u9 u10 u11) zn=.ok (.next (QK ps us b e kd R W (F++[d]) v8 v9 v10 Vl)):=by
 have hi:=A1M hw;have e9:ev cf (QK ps us b e kd R W F (some (.int w)) u9 u10 u11) (.slH V5 (.index V5 V8))=.ok (.list ((R.take (R.idxOf w)).map .int)):=by
  have ix:ev cf (QK ps us b e kd R W F (some (.int w)) u9 u10 u11) (.index V5 V8)=.ok (.int (R.idxOf w:Nat)):=by
   show Ay (R.map .int) (.int w)=_;unfold Ay;refine zr (Db _) ?_;simp only[Dt hw]
  refine zr Sj (zr ix ?_);show JF Option.none (some (.int (R.idxOf w:Nat))) (.list (R.map .int))=_;rw[FY,KK,C4 (A0r hi)];unfold Kd;refine zr map_take.symm ?_;rfl
 have ec:∃Y:List PV,ev cf (QK ps us b e kd R W F (some (.int w)) (some (.list ((R.take (R.idxOf w)).map .int))) u10 u11) (.comp HM (.one 12) .seq [V9] [(.cmp .notIn HM V6)])=.ok (.list Y):=by
  have:=EV (elt:=λρ'=>ev cf ρ' HM) (cond:=λρ'=>evAnd cf ρ' [(.cmp .notIn HM V6)]) (i:=12) (p:=λd=>match d with|.int v=>!decide (v∈W)|_=>false) (f:=id) (ds:=(R.take (R.idxOf w)).map .int) (ρ:=Pq (.one 12) (QK ps us b e kd R W F (some (.int w)) (some (.list ((R.take (R.idxOf w)).map .int))) u10 u11)) (λd hd=>by
   refine AE (Ya.1 hd) λv J Av=>?_;subst Av
   refine⟨?_,rfl⟩;refine(Ak (b:=!decide (v∈W)) (Ag (o:=.notIn) (x:=.int v) (y:=.list (W.map .int)) rfl rfl (zr JX (zr GU rfl)))).trans ?_;refine zr BO ?_;show(if(!decide (v∈W))=true then Res.ok true else Res.ok false)=Res.ok (!decide (v∈W));cases decide (v∈W)<;>rfl)
  refine⟨_,BN (ds:=(R.take (R.idxOf w)).map .int) rfl rfl this ?_⟩;refine zr (KK _) ?_;refine mu (length_filter_le _ _) ?_;refine zr (KK _) (zr A0V ?_);unfold Ab;exact tB hR
 obtain⟨Y,ec⟩:=ec;refine⟨.tuple [.int (Y.length:Nat),.int (if kd==over then t else 0-t)],some (.int w),some (.list ((R.take (R.idxOf w)).map .int)),some (.int (Y.length:Nat)),some (.int t),?_⟩;refine(AB (ρ':=QK ps us b e kd R W F (some (.int w)) u9 u10 u11) rfl).trans ?_;refine(AB (ρ':=QK ps us b e kd R W F (some (.int w)) (some (.list ((R.take (R.idxOf w)).map .int))) u10 u11) (AF e9)).trans ?_;refine(AB (ρ':=QK ps us b e kd R W F (some (.int w)) (some (.list ((R.take (R.idxOf w)).map .int))) (some (.int (Y.length:Nat))) u11) (AF (zr Bo (zr AO (zr ec rfl))))).trans ?_;refine(AB (ρ':=QK ps us b e kd R W F (some (.int w)) (some (.list ((R.take (R.idxOf w)).map .int))) (some (.int (Y.length:Nat))) (some (.int t))) (AF ?_)).trans ?_
 ·show(if AR (dT us) (.int (absI w))=true then(match Am (dT us) (.int (absI w)) with|some d=>Res.ok d|none=>.stuck) else .stuck)=_;exact zr (XL Et) (zr ht rfl)
 refine(AB (Cj (l:=F) rfl ?_ (by unfold Ab;exact jt hF))).trans Ae;have ei:ev cf (QK ps us b e kd R W F (some (.int w)) (some (.list ((R.take (R.idxOf w)).map .int))) (some (.int (Y.length:Nat))) (some (.int t))) (.ite (.cmp .eq V3 KO) Ol (.bin .sub K0 Ol))=.ok (.int (if kd==over then t else 0-t)):=by
  refine zr Sl (zr (Ag (x:=.str kd) (y:=.str over) rfl rfl OK) ?_);show(if(kd==over)=true then Res.ok (PV.int t) else Res.ok (PV.int (0-t)))=_;cases kd==over<;>rfl
 refine zr JB (zr AO (zr Bp (zr AO (zr ei ?_))));rfl
theorem iz(hR:R.length<=1000):∀{W:List Int}{F:List PV}{u8 u9 u10 u11:Option PV},(∀w∈W,w∈R/\∃t,Am (dT us) (.int (absI w))=some (.int t))->F.length+W.length<1000 ->
  ∃F' v8 v9 v10 Vl,Bw (λρ'=>ev cf ρ' wbT) (λρ'=>exs cf ρ' zn) (W.length+1+r) (QK ps us b e kd R W F u8 u9 u10 u11)=.ok (.next (QK ps us b e kd R [] F' v8 v9 v10 Vl)):=by
 intro W;induction W with
 |nil=>exact λ{F}{u8}{u9}{u10}{u11}_ _=>⟨F,u8,u9,u10,u11,by rw[A1t,A1v,Nat.add_comm];exact Ce rfl⟩
 |cons w W ih=>
  intro F u8 u9 u10 u11 h hl;rw[A0P] at hl;obtain⟨h1,t,h2⟩:=h w d4;obtain⟨d,v8,v9,v10,Vl,e1⟩:=WW (ps:=ps) (b:=b) (e:=e) (kd:=kd) (W:=W) (F:=F) (u8:=u8) (u9:=u9) (u10:=u10) (u11:=u11) hR h1 h2 (tC hl);obtain⟨F',x8,x9,x10,x11,e2⟩:=ih (F:=F++[d]) (u8:=v8) (u9:=v9) (u10:=v10) (u11:=Vl) (λw hw=>h w (kV _ hw)) (zr CZ (zr nP (Ng hl)));refine⟨F',x8,x9,x10,x11,?_⟩;refine zr A0P (zr (show W.length+1+1+r=(W.length+1+r)+1 by exact SV) ?_);refine(Ei ?_ e1).trans e2;show Res.ok (PV.bool (decide ((((w::W).map PV.int).length:Nat)>(0:Int))))=_;exact zr (ac (zr (KK _) (zr A0P t9))) rfl
theorem Sh(h:BV ps us n b e kd):∃v,AC AA (k+2) 20 [dI (ps,us),.int b,.int e,.str kd]=.ok v:=by
 have hl:=h.NE;have h2:=h.el;have h4:=h.len;have aP:=O4 (k:=k) h;have e5:=HX (n:=k) (p:=(ps,us)) (by show us.length<1000;exact ae h.n40 h4);have good:∀w∈((ps.take e).drop b).map (0 - ·),w∈ps.drop e++0::ps.take b/\∃t,Am (dT us) (.int (absI w))=some (.int t):=λw hw=>by
  refine AE (Ya.1 hw) λv hv Av=>?_;subst Av
  have hg:=h.good.ok v (A1A (A1F hv));have hm:=h.good.mem (by have:=hg.1;exact WO hg.1) (zr (Bv _) hg.2);have ha:=Mq hg.1;refine zr (Int.zero_sub _) ?_;refine⟨?_,?_⟩
  ·rw[Na h] at hm;rcases XP.1 hm with q|q
   ·exact nf _ (kV _ q)
   ·rcases XP.1 q with q|q
    ·have k1:=h.all v hv;have k2:=h.all _ q;cases q0:kd==over with
     |true=>rw[q0,XL rfl] at k1 k2;exact(tA k1 k2).elim
     |false=>rw[q0,Yf A0O] at k1 k2;exact(t8 k1 k2).elim
    ·exact A0J _ q
  ·refine zr (Bv _) ?_;obtain⟨j,hj⟩:∃j:Nat,absI v=(j:Int)+1:=⟨_,(jF ha).symm⟩;exact⟨us[j],by refine zr hj ?_;exact OV (TW (by have:=hg.2;exact t7 h4 hg.2 hj:j<us.length))⟩
 have zP:(((ps.take e).drop b).map (0 - ·)).length<=80:=by exact zr (KK _) (zr A0n (zr A0V (t6 hl)))
 obtain⟨F,v8,v9,v10,Vl,eg⟩:=iz (cf:=AC AA (k+1)) (ps:=ps) (b:=b) (e:=e) (kd:=kd) (by refine zr CZ (zr A0P (zr A0n (zr A0V ?_)));exact sz hl:(ps.drop e++0::ps.take b).length<=1000) (F:=[]) (u8:=none) (u9:=none) (u10:=none) (u11:=none) good (by refine zr A1t ?_;exact sy zP);rw[show(((ps.take e).drop b).map (0 - ·)).length+1+(999999-(((ps.take e).drop b).map (0 - ·)).length)=Lx by unfold Lx;exact sx zP] at eg;refine⟨.tuple F,?_⟩;refine zr (c2 (by rfl)) ?_;generalize AC AA (k+1)=cf at *;refine Al (o:=.ret _) rfl rfl ?_;refine(AB (AF (AH rfl e5))).trans ?_;refine(AB (AF (AH rfl aP))).trans ?_;refine(AB (ρ':=[some (dI (ps,us)),some (.int b),some (.int e),some (.str kd),some (.dict (dT us)),some (.list ((ps.drop e++0::ps.take b).map .int)),some (.list ((((ps.take e).drop b).map (0 - ·)).map .int)),none,none,none,none,none,none,none]) (AF ?_)).trans ?_
 ·have e1:((ps.map PV.int).take e).drop b=((ps.take e).drop b).map PV.int:=zr map_drop (zr map_take rfl);have sl:=O1 (l:=ps.map PV.int) (b:=b) (e:=e) (zr (KK _) (QH h.be h2)) (by refine zr (KK _) ?_;exact QJ h2);rw[e1] at sl;refine zr A0g ?_;refine BN (xs:=[.tuple (((ps.take e).drop b).map PV.int)]) ?_ rfl (Ck λv J=>⟨rfl,rfl⟩) ?_
  ·refine zr AO (zr (show ev cf [some (dI (ps,us)),some (.int b),some (.int e),some (.str kd),some (.dict (dT us)),some (.list ((ps.drop e++0::ps.take b).map .int)),none,none,none,none,none,none,none,none] (.slLH (.idx V0 K0) V1 V2)=_ from sl) ?_);rfl
  ·refine zr (KK _) (zr A0n (zr A0V ?_));unfold Ab;exact aT hl
 exact(AB rfl).trans ((AB (EP eg)).trans (AS rfl))
theorem YO(h:BV ps us n b e kd)(o:D0 a m)(hj:AC AA (k+8) 17 [dI (ps,us),.int b,.int e,.str kd,.tuple (sL ws)]=.ok (a.pv kd)):∃v,AC AA (k+9) 21 [dI (ps,us),.int b,.int e,.str kd,.tuple (sL ws)]=.ok v:=by
 obtain⟨v,fk⟩:=Sh (k:=k+6) h;have fk:=fk;refine⟨.tuple [.int ((a.l:Int)-(a.L.idxOf 0:Nat)-1),.int ((a.l:Int)-(a.L.idxOf 0:Nat)-1+((sL ws).length:Nat)),.str kd,v],?_⟩;refine zr (c2 (by rfl)) ?_;generalize AC AA (k+8)=cf at *;refine Al (o:=.ret _) (ρ:=[some (dI (ps,us)),some (.int b),some (.int e),some (.str kd),some (.tuple (sL ws)),none,none,none,none]) rfl rfl ?_;refine(AB (ρ':=[some (dI (ps,us)),some (.int b),some (.int e),some (.str kd),some (.tuple (sL ws)),some (a.pv kd),none,none,none]) (MJ (AF (AH rfl hj)))).trans ?_;refine(AB (ρ':=[some (dI (ps,us)),some (.int b),some (.int e),some (.str kd),some (.tuple (sL ws)),some (a.pv kd),some (.int ((a.l:Int)-(a.L.idxOf 0:Nat)-1)),none,none]) (AF ?_)).trans (AS (Ax ?_))
 ·have ix:ev cf [some (dI (ps,us)),some (.int b),some (.int e),some (.str kd),some (.tuple (sL ws)),some (a.pv kd),none,none,none] (.index (.attr V5 0) K0)=.ok (.int (a.L.idxOf 0:Nat)):=by
   show Ay (a.L.map .int) (.int 0)=_;unfold Ay;refine zr (Db _) ?_;simp only[Dt o.rk.z]
  exact Af (x:=.int ((a.l:Int)-(a.L.idxOf 0:Nat))) (y:=.int 1) (Af (o:=.sub) (x:=.int a.l) rfl ix rfl) rfl rfl
 ·refine zr JB (zr AO (zr Bp (zr AO (zr AO (zr Bp (zr AO (zr (AH (xs:=[dI (ps,us),.int b,.int e,.str kd]) rfl fk) ?_)))))));rfl
theorem b5(h:(0:Int)∈L):∃B A,L=B++0::A:=List.append_of_mem h
theorem Sc(h:BV ps us n b e kd)(o:D0 (ar0 ps us b e) (ws.length+0))(hl:(lftL ps b e).length+2*ws.length<=81)(c:Kq (sgK kd) (ar0 ps us b e) ws){q:Nat}(hq:q<3):
  AC AA (k+11) 46 [.int q,dI (ps,us),.int b,.int e,.str kd,.tuple (sL ws)]=.ok (if q<2/\(0,false)∉(ws.foldl (Ar.go (sgK kd)) (ar0 ps us b e)).F then kinds 2 else .list []):=by
 have hj:=λk=>UH (k:=k) h o hl c
 have hs:=Sw (k:=k+1) h o hl c;have ao:=D0.fold (A9 kd) (ws:=ws) o;generalize ws.foldl (Ar.go (sgK kd)) (ar0 ps us b e)=a at *;by_cases hF:(0,false)∈a.F
 ·refine zr (Yf λq=>q.2 hF) ?_;have hd:∃v,AC AA (k+10) 45 [.int q,dI (ps,us),.int b,.int e,.str kd,.tuple (sL ws)]=.ok v:=by
   refine HU (b5 ao.rk.z) λB A oY=>?_
   have pE:∃v,AC AA (k+8) 57 [a.pv kd]=.ok v:=by
    have hd:=Gn (n:=k+6) (l:=a.l) (kd:=kd) (f:=a.N) (oY▸ao.rk.ok) (by have:=ao.s1;rw[oY] at this;exact sv this);rw[<-oY] at hd;exact⟨_,hd⟩
   obtain⟨v,pE⟩:=pE;have Vh:=(hj k).1 hF;obtain⟨w,e21⟩:=YO h ao Vh;rcases q with _|_|_|q
   ·exact⟨v,(c2 (by rfl)).trans (Al (o:=.ret _) rfl rfl (KX rfl rfl (T5 Vh pE)))⟩
   ·exact⟨w,(c2 (by rfl)).trans (Al (o:=.ret _) rfl rfl ((AB (AI rfl)).trans (KX rfl rfl e21)))⟩
   ·exact⟨_,(c2 (by rfl)).trans (Al (o:=.ret _) rfl rfl ((AB (AI rfl)).trans ((AB (AI rfl)).trans (KX rfl rfl hs))))⟩
   ·exact(ia hq).elim
  obtain⟨v,hd⟩:=hd;exact Ox hd
 ·by_cases h2:q<2
  ·exact zr (XL ⟨h2,hF⟩) (Cp (RP h2 λk=>(hj k).2 hF))
  ·refine zr (Yf λq=>h2 q.1) ?_;obtain rfl:q=2:=su hq h2;exact Ox ((c2 (by rfl)).trans (Al (o:=.ret _) rfl rfl ((AB (AI rfl)).trans ((AB (AI rfl)).trans (KX rfl rfl hs)))))
noncomputable def DP(s:Int):List Int:=(List.range 40).flatMap λ(i:Nat)=>[s*((i:Int)+1),-(s*((i:Int)+1))]
noncomputable def GT(t:Int):List Int:=List.replicate 40 t
noncomputable def y4(b0:Bool)(x:Sd):Nat:=if x.1%2=1/\x.1<80/\x.2=b0 then x.1/2+1 else 0
theorem Xh(hs:s=1\/s=-1):Good 40 (DP s):=by
 rcases hs with rfl|rfl<;>exact⟨by decide +kernel,by decide +kernel,by decide +kernel,by decide +kernel⟩
theorem cK(hs:s=1\/s=-1)(ht:t=1\/t=-1):∀x∈BL (DP s++[0]),y4 (decide (s*t=-1)) (rnx (DP s++[0]) (qU (GT t)) x)=y4 (decide (s*t=-1)) x:=by
 rcases hs with rfl|rfl<;>rcases ht with rfl|rfl<;>decide +kernel
theorem cM(hs:s=1\/s=-1)(b0:Bool):∀v∈List.range 41,∃x∈BL (DP s++[0]),y4 b0 x=v:=by
 rcases hs with rfl|rfl<;>cases b0<;>decide +kernel
theorem ZN(hs:s=1\/s=-1)(ht:t=1\/t=-1):Dr (DP s) (GT t):=by
 have d:YZ (DP s) (GT t):=⟨Xh hs,λu hu=>by refine zr (List.eq_of_mem_replicate hu) ?_;exact ht,A0I 40⟩;refine⟨d,λc hc=>?_⟩;have g:=UX _ (A0I _) d.row hc;have hl:(DP s++[0]).length=81:=by rcases hs with rfl|rfl<;>rfl
 rw[XL (nf _ d4),hl] at g;have l:=L7 d.row hc (cK hs ht) (by decide +kernel) (cM hs _);rw[A0q] at l;show c=40+1;exact sq g l
theorem WX:Ec ps us b e kd []:=⟨trivial,A1x _⟩
theorem Sf(h:BV ps us n b e kd)(HQ:n<=10)(hw:Ec ps us b e kd ws):D0 (ar0 ps us b e) (ws.length+0)/\(lftL ps b e).length+2*ws.length<=81:=by
 have h1:=Fq h;rw[h.good.len] at h1;have h2:=hw.2;have h3:=h.len;exact⟨VI h (so HQ h1 h2) (sj HQ h2 h3),by exact se HQ h1 h2⟩
noncomputable def Nq(S:PV)(ps us:List Int)(b e kd W:PV)(xs:List Int)(q:Nat)(u8 u9 u10 u11:Option PV):AP:=[some S,some (dI (ps,us)),some b,some e,some kd,some W,some (.list (xs.map .int)),some (.int q),u8,u9,u10,u11,none,none]
theorem EM(h:ev cf ρ a=.ok (kinds c))(hl:ev cf ρ l=.ok (kinds c)):ev cf ρ (.cmp .eq a l)=.ok (.bool true):=by
 refine Ag h hl ?_;refine zr RS ?_;have:PV.eq (kinds c) (kinds c)=true:=by
  show(((c==0)==(c==0))&&(((c==1)==(c==1))&&(((c==2)==(c==2))&&(((c==3)==(c==3))&&(((c==4)==(c==4))&&true)))))=true;simp
 refine zr this ?_;rfl
theorem lH:Dw n ((n:Int)-1)=n-1:=by
 cases n with
 |zero=>rfl
 |succ m=>exact zr (show((m+1:Nat):Int)-1=m from Int.add_sub_cancel (m:Int) 1) ((Yf (A1I.2 (A0H m))).trans (A1K (le_succ m)))
theorem T7(h:BV ps us n b e kd)(HQ:n<=10)(hw:Ec ps us b e kd ws)(hx:xs.length=6)(hq:q<8)
  (mJ:∀(q:Nat)(x t:Int),q<3->(t=1\/t=-1)->AC AA (k+12) 51 [.int q,.str kd,.int x,.int t]=.ok (.bool true)):
  exs (AC AA (k+12)) (Nq S ps us (.int b) (.int e) (.str kd) (.tuple (sL ws)) xs q none none none none) (KJ.body.drop 6)=.ok (.ret (.bool true)):=by
 have i1:∀(j:Nat)(c:Int){b' e' k' u8 u9 u10 u11},c=j->j<xs.length->ev (AC AA (k+12)) (Nq S ps us b' e' k' (.tuple (sL ws)) xs q u8 u9 u10 u11) (.idx V6 (.const (.int c)))=.ok (.int (xs.getD j 0)):=λj c b' e' k' u8 u9 u10 u11 hc hj=>FF rfl (zr hc rfl) hj
 obtain⟨r,hr⟩:∃r:Int,Int.fmod (xs.getD 1 0) 4=r:=⟨_,rfl⟩;have m1:∀{u8 u9 u10 u11}{c:Int},ev (AC AA (k+12)) (Nq S ps us (.int b) (.int e) (.str kd) (.tuple (sL ws)) xs q u8 u9 u10 u11) (.cmp .eq (.bin .mod (.idx V6 K1) K4) (.const (.int c)))=.ok (.bool (r==c)):=λ{u8 u9 u10 u11 c}=>by
  exact zr (Ag (o:=.eq) (x:=.int r) (r:=(r==c)) (Af (o:=.mod) (x:=.int (xs.getD 1 0)) (y:=.int 4) (i1 1 1 rfl (sf hx)) rfl (zr hr.symm rfl)) rfl rfl) rfl
 have c1:ev (AC AA (k+12)) (Nq S ps us (.int b) (.int e) (.str kd) (.tuple (sL ws)) xs q none none none none) (.or [(.cmp .eq (.bin .mod (.idx V6 K1) K4) K0),(.cmp .gt V7 K2)])=.ok (.bool ((r==0)||decide ((q:Int)>2))):=by
  refine EQ ?_;refine zr E3 (zr m1 (zr AM (zr E3 (zr (show ev (AC AA (k+12)) (Nq S ps us (.int b) (.int e) (.str kd) (.tuple (sL ws)) xs q none none none none) (.cmp .gt V7 K2)=.ok (.bool (decide ((q:Int)>2))) from rfl) (zr AM (zr ER ?_))))));cases (r==0)<;>cases decide ((q:Int)>2)<;>rfl
 by_cases z1:((r==0)||decide ((q:Int)>2))=true
 ·
  rw[z1] at c1;obtain⟨t,pH,Yj⟩:=cF h.dr (zr h.len HQ) (xs.getD 2 0) (n:=k+11);have pH:=pH;have Vg:=Cp (b:=.int (-1)) (e:=.none) (kd:=.str "none") (w:=.tuple [.tuple [.int 0,.int 0]]) (X6 hq Yj (k:=k+1));refine AS ?_;refine zr (Ai c1) (zr (XL rfl) ?_);refine(AB (ρ':=Nq S ps us (.int b) (.int e) (.str kd) (.tuple (sL ws)) xs q (some t) none none none) (AF (AH ?_ pH))).trans (AS (Ax (EM (c:=0) (AH (xs:=[.int q,t,.int (-1),.none,.str "none",.tuple [.tuple [.int 0,.int 0]]]) rfl Vg) rfl)));refine zr AO (zr (i1 2 2 rfl (WT hx)) ?_);rfl
 rw[Bool.not_eq_true] at z1;rw[z1] at c1;obtain⟨_,z2⟩:=A1Y.1 z1;have ly:q<3:=by have:=of_decide_eq_false z2;exact sd this
 refine(AB (AI c1)).trans ?_;by_cases y1:(r==1)=true
 ·
  have WJ:=m1 (u8:=none) (u9:=none) (u10:=none) (u11:=none) (c:=1);rw[y1] at WJ;obtain⟨⟨pb,pe,pk⟩,pG,FQ⟩:=cE (b:=b) (kd:=kd) h.good h.n40 h.el (xs.getD 2 0) (k:=k+11);have pG:=pG;have Vg:=Cp (De (w:=.tuple [.tuple [.int 0,.int 0]]) ly (λk=>ZD (bh h.dr FQ)) (k:=k+1));refine AS ?_;refine zr (Ai WJ) (zr (XL rfl) ?_);refine(AB (ρ':=Nq S ps us pb pe pk (.tuple (sL ws)) xs q none none none none) ?_).trans (AS (Ax (EM (AH (xs:=[.int q,dI (ps,us),pb,pe,pk,.tuple [.tuple [.int 0,.int 0]]]) rfl Vg) rfl)));refine zr Rs (zr (AH (xs:=[.int (xs.getD 2 0),tI ps,.int b,.int e,.str kd]) (zr AO (zr (i1 2 2 rfl (WT hx)) rfl)) pG) ?_);rfl
 rw[Bool.not_eq_true] at y1;refine(AB (AI (y1▸m1 (c:=1)))).trans ?_;by_cases y2:(r==2)=true
 ·
  have c3:=m1 (u8:=none) (u9:=none) (u10:=none) (u11:=none) (c:=2);rw[y2] at c3;obtain⟨ws1,d,rr,pF,lp,I5⟩:=cD h HQ hw (xs.getD 2 0) (k:=k+8);obtain⟨o1,l1⟩:=Sf h HQ lp;have pF:=pF;have Vg:=Cp (De ly (λk=>IA (k:=k) (r:=rr) h o1 l1 lp.1 I5) (k:=k+1));refine AS ?_;refine zr (Ai c3) (zr (XL rfl) ?_);refine(AB (ρ':=Nq S ps us (.int b) (.int e) (.str kd) (.tuple (sL ws)) xs q none (some (.tuple (sL ws1++d::rr))) none none) (AF (AH (zr AO (zr (i1 2 2 rfl (WT hx)) rfl)) pF))).trans (AS (Ax (EM (c:=2) (AH (xs:=[.int q,dI (ps,us),.int b,.int e,.str kd,.tuple (sL ws1++d::rr)]) rfl Vg) rfl)))
 rw[Bool.not_eq_true] at y2;refine(AB (AI (y2▸m1 (c:=2)))).trans ?_;have m2:ev (AC AA (k+12)) (Nq S ps us (.int b) (.int e) (.str kd) (.tuple (sL ws)) xs q none none none none) (.cmp .eq (.bin .mod (.idx V6 K2) K4) K0)=.ok (.bool (Int.fmod (xs.getD 2 0) 4==0)):=
  Ag (o:=.eq) (y:=.int 0) (Af (x:=.int (xs.getD 2 0)) (y:=.int 4) (i1 2 2 rfl (WT hx)) rfl rfl) rfl rfl
 by_cases y3:(Int.fmod (xs.getD 2 0) 4==0)=true
 ·
  rw[y3] at m2;have r4:=AZ (xs.getD 4 0) (m:=2) (by decide);obtain⟨t,ht,et⟩:∃t:Int,(t=1\/t=-1)/\ev (AC AA (k+12)) (Nq S ps us (.int b) (.int e) (.str kd) (.tuple (sL ws)) xs q none none none none) (.idx Ls (.bin .mod (.idx V6 K4) K2))=.ok (.int t):=by
   have i4:ev (AC AA (k+12)) (Nq S ps us (.int b) (.int e) (.str kd) (.tuple (sL ws)) xs q none none none none) (.bin .mod (.idx V6 K4) K2)=.ok (.int (Int.fmod (xs.getD 4 0) 2)):=Af (o:=.mod) (y:=.int 2) (i1 4 4 rfl (sc hx)) rfl rfl;generalize Int.fmod (xs.getD 4 0) 2=z at *;have:z=0\/z=1:=Yz r4.1 r4.2;rcases this with rfl|rfl
   ·exact⟨1,.inl rfl,Bq (x:=.list [.int 1,.int (-1)]) rfl i4 rfl⟩
   ·exact⟨-1,.inr rfl,Bq (x:=.list [.int 1,.int (-1)]) rfl i4 rfl⟩
  refine AS ?_;refine zr (Ai m2) (zr (XL rfl) ?_);refine AS (Ax (AH (xs:=[.int q,.str kd,.int (xs.getD 3 0),.int t]) ?_ (mJ q _ t ly ht)));rw[AO,Bp,AO,Bp,AO,i1 3 3 rfl (sZ hx),AM,AO,et];rfl
 rw[Bool.not_eq_true] at y3;refine(AB (AI (y3▸m2))).trans ?_;obtain⟨w2,yq⟩:∃w2,w2=ws.take (ws.length-1):=⟨_,rfl⟩;have hy:Ec ps us b e kd w2:=by refine zr yq ?_;exact⟨F1 hw.1,by refine zr A0V ?_;exact sY hw.2⟩
 obtain⟨o2,l2⟩:=Sf h HQ hy;have Vg:=Sc (k:=k+1) h o2 l2 hy.1 ly;have e50:=T9 (k:=k+8) h HQ hy;generalize w2.foldl (Ar.go (sgK kd)) (ar0 ps us b e)=a at *;generalize AC AA (k+12)=cf at *;refine(AB (ρ':=Nq S ps us (.int b) (.int e) (.str kd) (.tuple (sL ws)) xs q none none (some (.tuple (sL w2))) none) (AF ?_)).trans ((AB rfl).trans ?_)
 ·show Res.ok (PV.tuple (Kd (sL ws) 0 (Dw (sL ws).length (((sL ws).length:Nat)-1))))=_;have:Dw (sL ws).length ((((sL ws).length:Nat):Int)-1)=ws.length-1:=by
   exact zr BW lH
  refine zr this (zr yq (zr Jw.symm ?_));rfl
 have cc:ev cf (Nq S ps us (.int b) (.int e) (.str kd) (.tuple (sL ws)) xs q none none (some (.tuple (sL w2))) (some (.list []))) (.and [(.cmp .lt V7 K2),(.call 50 false [V1,V2,V3,V4,Ki])])=.ok (.bool (decide ((q:Int)<2)&&!decide ((0,false)∈a.F))):=by
  refine C1 ((Ak (b:=decide ((q:Int)<2)) rfl).trans ?_);refine zr (Ak (AH (xs:=[dI (ps,us),.int b,.int e,.str kd,.tuple (sL w2)]) rfl e50)) (zr BO ?_);cases decide ((q:Int)<2)<;>cases decide ((0,false)∈a.F)<;>rfl
 by_cases hz:q<2/\(0,false)∉a.F
 ·rw[XL hz] at Vg;rw[ac (show(q:Int)<2 by exact sX hz.1),dV hz.2] at cc;refine(AB (ρ':=Nq S ps us (.int b) (.int e) (.str kd) (.tuple (sL ws)) xs q none none (some (.tuple (sL w2))) (some (kinds 2))) (zr (Ai cc) rfl)).trans (AS (Ax (EM (AH (xs:=[.int q,dI (ps,us),.int b,.int e,.str kd,.tuple (sL w2)]) rfl Vg) rfl)))
 ·rw[Yf hz] at Vg;have cz:(decide ((q:Int)<2)&&!decide ((0,false)∈a.F))=false:=by
   rw[Bool.eq_false_iff];intro q0;simp only[Bool.and_eq_true,decide_eq_true_eq,Bool.not_eq_true',decide_eq_false_iff_not] at q0;exact hz ⟨by exact sV q0.1,q0.2⟩
  rw[cz] at cc;exact(AB (AI cc)).trans (AS (Ax (Ag (o:=.eq) (y:=.list []) (r:=true) (AH (xs:=[.int q,dI (ps,us),.int b,.int e,.str kd,.tuple (sL w2)]) rfl Vg) rfl rfl)))
theorem UA(hg:Good n ps)(hu:us.length=n)(hd:Dr ps us)(hn:n<=10)(f0:AC AA (k+12) 31 [S,.int 0]=.ok (.int c0))(f1:AC AA (k+12) 31 [S,.int 1]=.ok (.int c1))(f2:AC AA (k+12) 31 [S,.int 2]=.ok (.int WJ))(f3:AC AA (k+12) 31 [S,.int 3]=.ok (.int c3))(aJ:AC AA (k+12) 38 [.int c0,.int 7]=.ok (dI (ps,us)))
  (mJ:∀(kd:Str)(q:Nat)(x t:Int),(kd=over\/kd=under)->q<3->(t=1\/t=-1)->AC AA (k+12) 51 [.int q,.str kd,.int x,.int t]=.ok (.bool true)):
  exs (AC AA (k+12)) [some S,none,none,none,none,none,none,none,none,none,none,none,none,none] KJ.body=.ok (.ret (.bool true)):=by
 obtain⟨b,e,kd,h1,h2,h3,h4,pJ⟩:=Ll hg (SL hn:n<=40) c1 (k:=k+10);have h:BV ps us n b e kd:=⟨hg,hu,hd.1.tn,hd,by exact SL hn,h1,h2,h3,h4⟩;obtain⟨r,pI,hr⟩:=Xc h hn WJ (k:=k+8);obtain⟨xs,Zu,_,pM⟩:=Jr (n:=k+11) c3 (many:=6) (by decide);have r0:=AZ (xs.getD 0 0) (m:=8) (by decide);obtain⟨q,hq⟩:∃q:Nat,(q:Int)=Int.fmod (xs.getD 0 0) 8:=⟨_,A0X r0.1⟩;have fin:∀ws,Ec ps us b e kd ws->_:=λws hw=>T7 (S:=S) h hn hw Zu (q:=q) (sU r0.2 hq) (λq x t=>mJ kd q x t h3)
 have pJ:AC AA (k+12) 43 [.int c1,tI ps]=_:=pJ;have pI:AC AA (k+12) 44 [.int WJ,dI (ps,us),.int b,.int e,.str kd]=_:=pI;have pM:AC AA (k+12) 32 [.int c3,.int 6]=_:=pM;clear mJ;generalize AC AA (k+12)=cf at *;refine(AB (AF (AH (xs:=[.int c0,.int 7]) ?_ aJ))).trans ?_
 ·refine zr AO (zr (AH (xs:=[S,.int 0]) rfl f0) ?_);rfl
 refine(AB (ρ':=[some S,some (dI (ps,us)),some (.int b),some (.int e),some (.str kd),none,none,none,none,none,none,none,none,none]) ?_).trans ?_
 ·rw[Rs,AH (xs:=[.int c1,tI ps]) ?_ pJ]
  ·rfl
  ·refine zr AO (zr (AH (xs:=[S,.int 1]) rfl f1) ?_);rfl
 refine(AB (AF (AH (xs:=[.int WJ,dI (ps,us),.int b,.int e,.str kd]) ?_ pI))).trans ?_
 ·refine zr AO (zr (AH (xs:=[S,.int 2]) rfl f2) ?_);rfl
 have way:∃ws,Ec ps us b e kd ws/\ex cf [some S,some (dI (ps,us)),some (.int b),some (.int e),some (.str kd),some r,none,none,none,none,none,none,none,none] (.ite (.cmp .is_ V5 KN) [(.assign 5 (.tup []))] [])=.ok (.next [some S,some (dI (ps,us)),some (.int b),some (.int e),some (.str kd),some (.tuple (sL ws)),none,none,none,none,none,none,none,none]):=by
  rcases hr with rfl|⟨ws,hw,rfl⟩
  ·exact⟨[],WX,rfl⟩
  ·exact⟨ws,hw,rfl⟩
 refine AE way λws hw ew=>?_
 refine(AB ew).trans ?_;refine(AB (AF (AH (xs:=[.int c3,.int 6]) ?_ pM))).trans ?_
 ·refine zr AO (zr (AH (xs:=[S,.int 3]) rfl f3) ?_);rfl
 refine(AB (ρ':=Nq S ps us (.int b) (.int e) (.str kd) (.tuple (sL ws)) xs q none none none none) (AF ?_)).trans (fin ws hw);exact Af (x:=.int (xs.getD 0 0)) (y:=.int 8) (FF (j:=0) rfl rfl (sS Zu)) rfl (zr hq rfl)
theorem Us:Dr [] []:=by
 have d:YZ [] []:=⟨⟨A1d,λi hi=>absurd hi A0K,rfl,rfl⟩,λt ht=>absurd ht A0K,A1x _⟩;refine⟨d,λc hc=>?_⟩;have g:=UX _ (A0I _) d.row hc;rw[XL (nf _ d4)] at g;have l:=L7 d.row hc (lab:=λJ=>0) (λJ J=>rfl) (by decide) (λv hv=>⟨(0,true),AU.2 (succ_pos _),(YP.1 hv).symm⟩);have g:2*c<=1+1:=g;have l:1<=c:=l;show c=0+1;exact il g l
theorem Ur(hk:kd=over\/kd=under):BV [] [] 0 0 0 kd:=⟨Us.1.good,rfl,Us.1.tn,Us,A1x _,A0I _,A0I _,hk,λv hv=>absurd hv A0K⟩
noncomputable def D6(m:Nat):List Sd:=List.replicate m (0,true)
theorem cZ(hs:s=1\/s=-1):∀m<41,let a:=(D6 m).foldl (Ar.go s) (ar0 [] [] 0 0);rnx a.L (qT a.T) (rnx a.L (qT a.T) (rnx a.L (qT a.T) (a.L.length,true)))=(0,true):=by
 rcases hs with rfl|rfl<;>decide +kernel
theorem dP(hk:kd=over\/kd=under)(h:m<=41):D0 (ar0 [] [] 0 0) m:=VI (Ur hk) (by show 1+2*m<=83;exact iw h) (by show 0+m<=83;exact iv h)
theorem Pe(hk:kd=over\/kd=under)(hs:s=1\/s=-1)(h:m<41):(0,true)∈((D6 m).foldl (Ar.go s) (ar0 [] [] 0 0)).can:=by
 have o:=D0.fold hs (ws:=D6 m) (dP hk (m:=(D6 m).length+0) (by unfold D6;refine zr length_replicate ?_;exact sP h));have hm:=cZ hs m h;dsimp only at hm;generalize (D6 m).foldl (Ar.go s) (ar0 [] [] 0 0)=a at *;exact DD.2 ⟨A0M.2 (succ_pos _),((Cr o.rk.ok.row (by have:=o.s1;exact gW this:a.L.length<=1000) Es).2.2.2 _).2 ⟨3,hm⟩⟩
theorem Pf(hk:kd=over\/kd=under)(hs:s=1\/s=-1):∀{m:Nat},m<=41->Kq s (ar0 [] [] 0 0) (D6 m):=by
 intro m;induction m with
 |zero=>exact λ_=>trivial
 |succ m ih=>
  intro h;have:D6 (m+1)=D6 m++[(0,true)]:=List.replicate_succ';exact zr this (Mh (ih (iq h)) (Pe hk hs (io h)))
theorem Du:(D6 m).length=m:=length_replicate
theorem Uk(hk:kd=over\/kd=under):DG (k+7) 16 [dI ([],[]),.int (0:Nat),.int (0:Nat),.str kd,.tuple (sL (D6 41))] 4:=by
 exact JT (k:=k) (r:=[]) (ws:=D6 40) (Ur hk) (dP hk (zr Du (A0I _))) (by refine zr Du ?_;rfl) (Pf hk (A9 kd) (by decide)) (Pe hk (A9 kd) (by decide))
theorem RE(hk:kd=over\/kd=under)(hi:i<=40):DG (k+7) 16 [dI ([],[]),.int (0:Nat),.int (0:Nat),.str kd,.tuple (sL (D6 i)++.tuple [.int 1000000,.int 1]::r)] 2:=by
 have o:=dP hk (m:=(D6 i).length+0) (zr Du (iu hi));refine IA (Ur hk) o (by refine zr Du ?_;show 1+2*i<=81;exact ir hi) (Pf hk (A9 kd) (ip hi)) (.wI λx hx h=>?_);have o2:=D0.fold (A9 kd) o;have h1:=A0M.1 (DD.1 hx).1;exact absurd (h.1▸A0e.2 (mu (A14 h1) (mu o2.le (mu (A1k _ _) o2.s1)))) (show ¬(1000000:Int)<=(83:Nat) by decide)
section
variable {s t:Int}
noncomputable def kx(s t:Int):Sd:=(0,decide (s*t=1))
theorem kg(hs:s=1\/s=-1)(ht:t=1\/t=-1):kx s t∈(ar0 (DP s) (GT t) 0 1).can:=by
 rcases hs with rfl|rfl<;>rcases ht with rfl|rfl<;>decide +kernel
theorem UF(hs:s=1\/s=-1)(ht:t=1\/t=-1):(0,false)∈((ar0 (DP s) (GT t) 0 1).go s (kx s t)).F:=by
 rcases hs with rfl|rfl<;>rcases ht with rfl|rfl<;>decide +kernel
theorem Qw(hs:s=1\/s=-1)(ht:t=1\/t=-1):(0,false)∈(ar0 (DP s) (GT t) 0 0).F:=by
 rcases hs with rfl|rfl<;>rcases ht with rfl|rfl<;>decide +kernel
end
theorem Hu(hk:kd=over\/kd=under)(ht:t=1\/t=-1)(hb:b<=e)(he:e<=1):BV (DP (sgK kd)) (GT t) 40 b e kd:=by
 have hs:=A9 kd;have d:=ZN hs ht;have g:=d.1.good;refine⟨g,rfl,d.1.tn,d,A0I _,hb,zr g.len (ik he),hk,λv hv=>?_⟩;have hv:v∈((DP (sgK kd)).take 1):=by
  have:=A1F hv;have h2:(DP (sgK kd)).take e=((DP (sgK kd)).take 1).take e:=zr take_take (zr (A1K he) rfl);rw[h2] at this;exact A1A this
 have e1:(DP (sgK kd)).take 1=[sgK kd*1]:=by rcases hs with h|h<;>refine zr h ?_<;>rfl
 rw[e1,A1n] at hv;refine zr (YP.1 hv) ?_;rcases hk with rfl|rfl<;>decide
theorem Hv(hk:kd=over\/kd=under)(ht:t=1\/t=-1)(hb:b<=e)(he:e<=1)(hm:m<=1):D0 (ar0 (DP (sgK kd)) (GT t) b e) m:=by
 have h:=Hu hk ht hb he;have h1:=Fq h;rw[h.good.len] at h1;exact VI h (ij hm h1) (by show 40+m<=83;exact ii hm)
def M5(s t:Int):Ar:=(ar0 (DP s) (GT t) 0 1).go s (kx s t)
theorem cL(hs:s=1\/s=-1)(ht:t=1\/t=-1):(M5 s t).L=(M5 s t).L.take 79++0::(M5 s t).L.drop 80:=by
 rcases hs with rfl|rfl<;>rcases ht with rfl|rfl<;>decide +kernel
theorem UE(hs:s=1\/s=-1)(ht:t=1\/t=-1):((M5 s t).L.drop 80++(M5 s t).L.take 79).map (TI (((M5 s t).L.drop 80++(M5 s t).L.take 79).foldl B9 []))=DP s/\(((M5 s t).L.drop 80++(M5 s t).L.take 79).foldl B9 []).map (qT (M5 s t).T)=GT t:=by
 rcases hs with rfl|rfl<;>rcases ht with rfl|rfl<;>decide +kernel
theorem cJ(hk:kd=over\/kd=under)(ht:t=1\/t=-1):AC AA (k+9) 19 [dI (DP (sgK kd),GT t),.int (0:Nat),.int (1:Nat),.str kd,.tuple (sL [kx (sgK kd) t])]=.ok (dI (DP (sgK kd),GT t)):=by
 have hs:=A9 kd;have h:=Hu hk ht (b:=0) Ga D2;have o:=Hv hk ht (b:=0) (m:=1) Ga D2 D2;have hl:(lftL (DP (sgK kd)) 0 1).length=79:=by rcases hs with h|h<;>refine zr h ?_<;>decide +kernel
 have ao:=D0.fold (A9 kd) (ws:=[kx (sgK kd) t]) (m:=0) o;refine T5 ((UH (k:=k) (ws:=[kx (sgK kd) t]) h o (zr hl (A0I 81)) ⟨kg hs ht,trivial⟩).1 (UF hs ht)) ?_;have c:=cL hs ht;have hd:=Gn (n:=k+6) (l:=(M5 (sgK kd) t).l) (kd:=kd) (f:=(M5 (sgK kd) t).N) (by refine zr c.symm ?_;exact ao.rk.ok:Go ((M5 (sgK kd) t).L.take 79++0::(M5 (sgK kd) t).L.drop 80) (M5 (sgK kd) t).T (qT (M5 (sgK kd) t).T)) (by refine zr c.symm ?_;exact mu (mu (A1k _ _) ao.s1) (by decide));rw[<-c,(UE hs ht).1,(UE hs ht).2] at hd;exact hd
theorem Qv(hk:kd=over\/kd=under)(ht:t=1\/t=-1):∃d,AC AA (k+8) 18 [dI (DP (sgK kd),GT t),.int (0:Nat),.int (0:Nat),.str kd,.tuple []]=.ok (.tuple [d,.bool true]):=by
 have hs:=A9 kd;have SN:=Sw (k:=k) (ws:=[]) (Hu hk ht (b:=0) (e:=0) SZ Ga) (Hv hk ht SZ Ga Ga) (by have:=Fq (Hu hk ht (b:=0) (e:=0) SZ Ga);rw[(ZN hs ht).1.good.len] at this;exact this) trivial;rw[ac (show(0,false)∈(([]:List Sd).foldl (Ar.go (sgK kd)) (ar0 (DP (sgK kd)) (GT t) 0 0)).F from Qw hs ht)] at SN;exact⟨_,SN⟩
theorem Xg(hk:kd=over\/kd=under)(ht:t=1\/t=-1):∃x:Sd,∃l d,AC AA (k+8) 18 [dI (DP (sgK kd),GT t),.int (1:Nat),.int (1:Nat),.str kd,.tuple []]=.ok (.tuple [.list (sI x::l),d])/\∀k,DG (k+7) 16 [dI (DP (sgK kd),GT t),.int (1:Nat),.int (1:Nat),.str kd,.tuple [sI x]] 4:=by
 have hs:=A9 kd;have h:=Hu hk ht D2 D2;have hl:(lftL (DP (sgK kd)) 1 1).length=81:=by rcases hs with h|h<;>refine zr h ?_<;>decide +kernel
 have SN:=Sw (k:=k) (ws:=[]) h (Hv hk ht D2 D2 Ga) (by refine zr hl ?_;decide) trivial;obtain⟨y,hy⟩:=Ps (Hv hk ht (b:=1) (e:=1) D2 D2 Ga) rfl;cases hc:(ar0 (DP (sgK kd)) (GT t) 1 1).can with
 |nil=>rw[hc] at hy;exact absurd hy A0K
 |cons x l=>
  have SN:AC AA (k+8) 18 _=.ok (.tuple [.list (sL (ar0 (DP (sgK kd)) (GT t) 1 1).can),_]):=SN;rw[hc] at SN;refine⟨x,sL l,_,SN,λk=>?_⟩;exact JT (r:=[]) (ws:=[]) (x:=x) h (Hv hk ht (m:=1) D2 D2 D2) (zr hl rfl) trivial (by show x∈(ar0 (DP (sgK kd)) (GT t) 1 1).can;refine zr hc ?_;exact d4)
section
variable {t:Int}{kd:Str}{k q:Nat}{x:Int}
noncomputable def Uc(q:Nat)(kd:Str)(x t:Int)(u4 u5 u6 u7 u8 u9:Option PV):AP:=[some (.int q),some (.str kd),some (.int x),some (.int t),u4,u5,u6,u7,u8,u9,none,none]
noncomputable def kkR(s:Int)(m:Nat):List Int:=(List.range m).flatMap λ(i:Nat)=>[s*((i:Int)+1),-(s*((i:Int)+1))]
theorem Lm(h:ev cf ρ a=.ok (kinds c))(hl:ev cf ρ l=.ok (kinds c)):ev cf ρ (.cmp .ne a l)=.ok (.bool false):=by
 refine Ag h hl ?_;refine zr YA ?_;have:PV.eq (kinds c) (kinds c)=true:=by
  show(((c==0)==(c==0))&&(((c==1)==(c==1))&&(((c==2)==(c==2))&&(((c==3)==(c==3))&&(((c==4)==(c==4))&&true)))))=true;simp
 refine zr this ?_;rfl
theorem cU(hk:kd=over\/kd=under){u4:Option PV}:∃u7,exs cf (Uc q kd x t u4 (some (.int (sgK kd))) none none none none) [(.assign 6 (.tup [])),(.for_ (.one 7) .range2 [K1,(.const (.int 41))] [(.assign 6 (.bin .add V6 (.tup [(.bin .mul V5 V7),(.bin .mul (.neg V5) V7)])))])]=.ok (.next (Uc q kd x t u4 (some (.int (sgK kd))) (some (tI (DP (sgK kd)))) u7 none none)):=by
 rcases hk with rfl|rfl
 ·exact⟨some (.int 40),by kernel_rfl⟩
 ·exact⟨some (.int 40),by kernel_rfl⟩
theorem Pg:∀{p r:List PS},exs cf ρ p=.ok (.next ρ')->exs cf ρ (p++r)=exs cf ρ' r
 |[],r,h=>by rw[Ae] at h;cases h;rfl
 |p::ps,r,h=>by
  refine zr cons_append ?_;cases e:ex cf ρ p with
  |stuck=>rw[EO,e] at h;cases h
  |ok o=>
   rw[Un e] at h ⊢;cases o with
   |next ρ1=>exact Pg h
   |ret d=>cases h
   |exc c=>cases h
theorem VE(hk:kd=over\/kd=under)(ht:t=1\/t=-1)(hq:q<3):AC AA (k+12) 51 [.int q,.str kd,.int x,.int t]=.ok (.bool true):=by
 have rr:=AZ x (m:=41) (by decide);obtain⟨i,hi⟩:∃i:Nat,(i:Int)=Int.fmod x 41:=⟨_,A0X rr.1⟩;have w1:=Cp (De hq (λk=>Uk hk (k:=k)) (k:=k));have w2:=Cp (De hq (λk=>RE hk (i:=i) (ig rr.2 hi) (r:=sL (D6 41)) (k:=k)) (k:=k));have e19:=cJ hk ht (k:=k+2);obtain⟨d0,SN⟩:=Qv hk ht (k:=k+3);have SN:=SN;obtain⟨y,l,d1,aL,hr⟩:=Xg hk ht (k:=k+3);have aL:=aL;have w3:=Cp (De hq hr (k:=k));refine zr (c2 (by rfl)) ?_;generalize AC AA (k+11)=cf at *;obtain⟨u7,er⟩:=cU (cf:=cf) (q:=q) (x:=x) (t:=t) hk (u4:=some (.tuple (sL (D6 i)++.tuple [.int 1000000,.int 1]::sL (D6 41))));refine Al (o:=.ret _) (ρ:=Uc q kd x t none none none none none none) rfl rfl ?_;refine(AB (ρ':=Uc q kd x t (some (.tuple (sL (D6 41)))) none none none none none) rfl).trans ?_;refine(AB (AI (Lm (c:=4) (AH (xs:=[.int q,dI ([],[]),.int (0:Nat),.int (0:Nat),.str kd,.tuple (sL (D6 41))]) rfl w1) rfl))).trans ?_;refine(AB (ρ':=Uc q kd x t (some (.tuple (sL (D6 i)++.tuple [.int 1000000,.int 1]::sL (D6 41)))) none none none none none) (AF ?_)).trans ?_
 ·have sh:ev cf (Uc q kd x t (some (.tuple (sL (D6 41)))) none none none none none) (.slH V4 (.bin .mod V2 (.const (.int 41))))=.ok (.tuple (sL (D6 i))):=by
   show JF Option.none (some (.int (Int.fmod x 41))) (.tuple (sL (D6 41)))=_;refine zr hi.symm (zr (Wh (l:=sL (D6 41)) (b:=i) (zr BW (zr Du (SY rr.2 hi)))) (zr Jw ?_));unfold D6;exact zr take_replicate (zr (A1K (SY rr.2 hi)) rfl)
  have hl:(sL (D6 i)).length<=41:=by exact zr BW (zr Du (SY rr.2 hi))
  refine Af (o:=.add) (x:=.tuple (sL (D6 i)++[.tuple [.int 1000000,.int 1]])) (y:=.tuple (sL (D6 41))) (Af (o:=.add) (y:=.tuple [.tuple [.int 1000000,.int 1]]) sh rfl ?_) rfl ?_
  ·exact XL (by refine zr CZ (zr nP ?_);unfold Ab;exact ie hl)
  ·show PH (sL (D6 i)++[.tuple [.int 1000000,.int 1]]++sL (D6 41))=_;refine zr (on _ _ _) ?_;exact XL (by refine zr CZ (zr CZ (zr nP ?_));unfold Ab;exact ic hl (zr BW (zr Du rfl):(sL (D6 41)).length=41))
 refine(AB (AI (Lm (c:=2) (AH (xs:=[.int q,dI ([],[]),.int (0:Nat),.int (0:Nat),.str kd,.tuple (sL (D6 i)++.tuple [.int 1000000,.int 1]::sL (D6 41))]) rfl w2) rfl))).trans ?_;refine(AB (ρ':=Uc q kd x t (some (.tuple (sL (D6 i)++.tuple [.int 1000000,.int 1]::sL (D6 41)))) (some (.int (sgK kd))) none none none none) (AF (Js (i:=1) hk rfl))).trans ?_;refine(Pg er (r:=_)).trans ?_;generalize some (PV.tuple (sL (D6 i)++.tuple [.int 1000000,.int 1]::sL (D6 41)))=u4;refine(AB (ρ':=Uc q kd x t u4 (some (.int (sgK kd))) (some (tI (DP (sgK kd)))) u7 (some (dI (DP (sgK kd),GT t))) none) rfl).trans ?_;have bs:big (sgK kd)=false:=by rcases A9 kd with h|h<;>refine zr h ?_<;>decide
 have bt:big t=false:=by rcases ht with h|h<;>refine zr h ?_<;>decide
 have ex1:PV.tuple [.tuple [.int 0,.int (sgK kd*t)]]=.tuple (sL [kx (sgK kd) t]):=by
  rcases A9 kd with h|h<;>rcases ht with h' | h'<;>refine zr h (zr h' ?_)<;>rfl
 have fl:PV.flat (dI (DP (sgK kd),GT t))=true:=by
  show(PV.Bk ((DP (sgK kd)).map .int)&&(PV.Bk ((GT t).map .int)&&true))=true;rw[Er,Er];rfl
 have c1:ev cf (Uc q kd x t u4 (some (.int (sgK kd))) (some (tI (DP (sgK kd)))) u7 (some (dI (DP (sgK kd),GT t))) none) (.cmp .ne (.call 19 false [V8,K0,K1,V1,(.tup [(.tup [K0,(.bin .mul V5 V3)])])]) V8)=.ok (.bool false):=by
  refine Ag (o:=.ne) (AH (xs:=[dI (DP (sgK kd),GT t),.int (0:Nat),.int (1:Nat),.str kd,.tuple (sL [kx (sgK kd) t])]) ?_ e19) rfl ?_
  ·refine zr ex1.symm (zr AO (zr Bp (zr AO (zr F9 (zr AO (zr F9 (zr AO (zr Bp (zr AO (zr JB (zr AO (zr JB (zr AO (zr F9 (zr AO (zr (CU (x:=sgK kd) (y:=t) rfl rfl bs bt) ?_))))))))))))))));rfl
  ·refine zr YA ?_;rcases A9 kd with h|h<;>rcases ht with h' | h'<;>refine zr h (zr h' ?_)<;>kernel_rfl
 have WJ:ev cf (Uc q kd x t u4 (some (.int (sgK kd))) (some (tI (DP (sgK kd)))) u7 (some (dI (DP (sgK kd),GT t))) none) (.cmp .isNot (.idx (.call 18 false [V8,K0,K0,V1,(.tup [])]) K1) KT)=.ok (.bool false):=
  Ag (o:=.isNot) (x:=.bool true) (y:=.bool true) (Bq (x:=.tuple [d0,.bool true]) (y:=.int 1) (AH rfl SN) rfl rfl) rfl rfl
 refine(AB (AI (EQ ((BT c1).trans ((BT WJ).trans ER))))).trans ?_;exact(AB (ρ':=Uc q kd x t u4 (some (.int (sgK kd))) (some (tI (DP (sgK kd)))) u7 (some (dI (DP (sgK kd),GT t))) (some (sI y))) (AF (Bq (x:=.list (sI y::l)) (y:=.int 0) (Bq (x:=.tuple [.list (sI y::l),d1]) (y:=.int 0) (AH rfl aL) rfl rfl) rfl rfl))).trans (AS (Ax (EM (c:=4) (AH (xs:=[.int q,dI (DP (sgK kd),GT t),.int (1:Nat),.int (1:Nat),.str kd,.tuple [sI y]]) rfl w3) rfl)))
end
theorem T6(ns:List Int):AC AA 14 52 [.list (ns.map .int)]=.ok (.bool true):=by
 obtain⟨c0,f0⟩:=HI ns;obtain⟨c1,f1⟩:=HI ns;obtain⟨WJ,f2⟩:=HI ns;obtain⟨c3,f3⟩:=HI ns;obtain⟨s,wd,k0,B,Kv,aJ⟩:=l8 c0;have CL:=S5 B.ok;refine zr (c2 (by rfl)) ?_;refine Al (o:=.ret _) rfl rfl ?_;have fin:∀{ps us:List Int}{n:Nat},Good n ps->us.length=n->Dr ps us->n<=10->AC AA 13 38 [.int c0,.int 7]=.ok (dI (ps,us))->exs (AC AA 13) [some (.list (ns.map .int)),none,none,none,none,none,none,none,none,none,none,none,none,none] KJ.body=.ok (.ret (.bool true)):=λhg hu hd hn aJ=>UA hg hu hd hn f0 f1 f2 f3 aJ (λkd q x t hk hq ht=>VE hk ht hq)
 by_cases h2:2<=s
 ·refine AE (B.more h2) λw0 hw0 hw=>?_
  have o0:=MZ h2 B.h5 hw0;rw[<-hw] at o0;have o:=o0.rot k0 Kv;have QD:(wd.map (·.1)).length<=10:=by exact zr (KK _) B.len
  have d:YZ (Pl (Ig k0 (Ia (wd.map (·.1)) s 0)) (D4 wd)) (Pj (Ig k0 (Ia (wd.map (·.1)) s 0)) (D4 wd)):=⟨zr (HG o.code) (MP o.code CL),cn CL,by refine zr (HG o.code) ?_;exact SL QD⟩;exact fin (MP o.code CL) (HG o.code) ⟨d,λc hc=>by refine zr (HG o.code) ?_;exact TH o CL d hc⟩ QD aJ
 ·have SE:s=1:=by exact gq h2 B.h0
  have nC:=B.one SE;subst nC;subst SE;have hE:dI (Pl (Ig k0 (Ia (([]:List (Nat×Int)).map (·.1)) 1 0)) (D4 []),Pj (Ig k0 (Ia (([]:List (Nat×Int)).map (·.1)) 1 0)) (D4 []))=dI ([],[]):=by
   have:Ig k0 (Ia (([]:List (Nat×Int)).map (·.1)) 1 0)=[]:=by
    show Ig k0 ([]:List Sd)=[];simp[Ig]
   refine zr this ?_;rfl
  rw[hE] at aJ;exact fin Us.1.good rfl Us (by decide) aJ
section
open PySem.W
noncomputable def Vm:List (Str×VS):=List.append [("_law_cycles",{fr:=true,own:=["_law_heads"]}),("_law_beyond",{fr:=true}),("lifted",{fr:=true,own:=["things"]}),("turns_of",{fr:=true,own:=["found"]}),("face_of",{fr:=true,own:=["found"]}),("is_able",{fr:=true}),("face",{fr:=true}),("able",{fr:=true,own:=["found"]}),("crossings",{fr:=true}),
 ("face_count",{own:=["seen"]}),("numbered",{own:=["names","found"]}),("are_passes",{own:=["seen"]}),("gone_along",{own:=["arc"]}),("way_back",{own:=["waiting","found"]}),("_law_stream",{own:=["_law_found"]}),("_law_faces",{own:=["_law_places","_law_found"]}),("_law_numbered",{own:=["_law_order"]}),("_law_braid",{own:=["_law_word_here"]}),("_law_drawn",{own:=["_law_row"]}),("_law_lifted",{own:=["_law_kept"]}),("_law_crossed",{own:=["_law_more"]}),("_law_way",{own:=["_law_way_here"]})]
 [("turned",{stub:=true}),("mirrored",{stub:=true}),("reckoned",{stub:=true}),("fall",{stub:=true}),("undone",{stub:=true}),
 ("gaps_at",{skip:=true}),("joins_of",{skip:=true}),("loops_of",{skip:=true}),("openings",{skip:=true}),("spread",{skip:=true}),("first_loop",{skip:=true}),("_law_joined",{skip:=true})]
noncomputable def Lf:List (Str×GE):=[("MARK",.const (.int 0)),("MOST",.const (.int 40)),("MOST_OPENED",.const (.int 10))]
noncomputable def zp:List Value:=[.type "ValueError",.type "Exception",.type "BaseException",.type "object"]
set_option maxRecDepth 100000
theorem aw:(CE view2).length=53:=by kernel_rfl
theorem ay:((IM view2).all λd=>(optOf Vm d.name).skip||Pm Vm d)=true:=by kernel_rfl
theorem ax:Jz view2 (looseW view2 [])=true:=by kernel_rfl
theorem jL:(Vo Vm (CE view2) Lf).lookup ("law" : Str)=some (.fn 52 1 false):=by kernel_rfl
theorem jJ:valOf view2 ("MARK" : Str)=some (.int 0):=by kernel_rfl
theorem jI:valOf view2 ("MOST" : Str)=some (.int 40):=by kernel_rfl
theorem jH:valOf view2 ("MOST_OPENED" : Str)=some (.int 10):=by kernel_rfl
theorem jP:BD.map (specOf view2)=BD.map λJ=>some ("ValueError.__new__",zp):=by kernel_rfl
theorem jQ:∀x∈BD,specOf view2 x=some ("ValueError.__new__",zp):=λx hx=>List.map_inj_left.1 jP x hx
theorem b4:AA.length<=1000:=by decide
end
section
open PySem.W
set_option maxRecDepth 100000
theorem jN:(IM view2).map (RC 200 Vm (Vo Vm (CE view2) Lf))=AA.map some:=by kernel_rfl
end
section
open PySem.W
theorem xq(D:Nat){d:PV}(h:Ct d=true):AC AA D 53 [d]=.stuck:=by
 cases D with
 |zero=>rfl
 |succ D=>
  refine zr (IU rfl) ?_;cases d with
  |obj _ _ _ _ _=>cases h
  |_=>rfl
theorem m56(D:Nat){d:PV}(h:Ct d=true):AC AA D 56 [d]=.stuck:=by
 cases D with
 |zero=>rfl
 |succ D=>
  refine zr (IU rfl) ?_;cases d with
  |obj _ _ _ _ _=>cases h
  |_=>rfl
theorem m57(D:Nat){d:PV}(h:Ct d=true):AC AA D 57 [d]=.stuck:=by
 cases D with
 |zero=>rfl
 |succ D=>
  refine zr (IU rfl) ?_;cases d with
  |obj _ _ _ _ _=>cases h
  |_=>rfl
theorem m54(D:Nat){d:PV}(h:Ct d=true):AC AA D 54 [d]=.stuck:=by
 cases D with
 |zero=>rfl
 |succ D=>
  have e:=xq D h;refine zr (IU rfl) ?_;generalize AC AA D=cf at e;show(((ev cf _ (.call 53 false [V0])).bind _).bind _).bind _=_;rw[show ev cf _ (.call 53 false [.var 0])=.stuck by show(cf 53 [d]).bind _=_;refine zr e ?_;rfl];rfl
theorem m55(D:Nat){d:PV}(h:Ct d=true):AC AA D 55 [d]=.stuck:=by
 cases D with
 |zero=>rfl
 |succ D=>
  refine zr (IU rfl) ?_;have e:=xq D h;generalize AC AA D=cf at e;show((ex cf (some d::List.replicate 2 none) (.ret (.cmp .isIn (.tup [K0,Km]) (.call 53 false [V0])))).bind _).bind _=_;rw[E8,Kz,show ev cf (some d::List.replicate 2 none) (.call 53 false [.var 0])=.stuck by show(cf 53 [d]).bind _=_;refine zr e ?_;rfl];rfl
theorem jM:∀D m i ar fr,meths.lookup m=some (.fn i ar fr)->∀d,Ct d=true->AC AA D i [d]=.stuck:=by
 intro D m i ar fr hm d hd;have hm:=mem_of_lookup hm;simp only[meths,mem_cons,not_mem_nil,or_false,Prod.mk.injEq,GE.fn.injEq] at hm;rcases hm with⟨rfl,rfl,rfl,rfl⟩|⟨rfl,rfl,rfl,rfl⟩|⟨rfl,rfl,rfl,rfl⟩|⟨rfl,rfl,rfl,rfl⟩|⟨rfl,rfl,rfl,rfl⟩
 ·exact xq D hd
 ·exact m54 D hd
 ·exact m55 D hd
 ·exact m56 D hd
 ·exact m57 D hd
set_option maxRecDepth 100000 in
theorem jK:(["face","able","leads","crossings","drawing"]:List Str).map (λx=>((optOf Vm (DK x).name).skip,(optOf Vm (DK x).name).fr,(DK x).args.args.length))=[(false,true,1),(false,true,1),(false,false,1),(false,true,1),(false,false,1)]:=by kernel_rfl
theorem az:∀x i ar fr,meths.lookup x=some (.fn i ar fr)->(optOf Vm (DK x).name).skip=false/\(optOf Vm (DK x).name).fr=fr/\(DK x).args.args.length=1:=by
 intro x i ar fr hm;have hm:=mem_of_lookup hm;have q:=jK;simp only[map_cons,map_nil,List.cons.injEq,Prod.mk.injEq,and_true] at q;simp only[meths,mem_cons,not_mem_nil,or_false,Prod.mk.injEq,GE.fn.injEq] at hm;rcases hm with⟨rfl,rfl,rfl,rfl⟩|⟨rfl,rfl,rfl,rfl⟩|⟨rfl,rfl,rfl,rfl⟩|⟨rfl,rfl,rfl,rfl⟩|⟨rfl,rfl,rfl,rfl⟩
 ·exact q.1
 ·exact q.2.1
 ·exact q.2.2.1
 ·exact q.2.2.2.1
 ·exact q.2.2.2.2
theorem We:∀q∈Lf,J6 view2 q:=by
 intro q hq;simp only[Lf,mem_cons,not_mem_nil,or_false] at hq;rcases hq with rfl|rfl|rfl
 ·exact jJ
 ·exact jI
 ·exact jH
end
section
open PySem.W
def ArcSays(_:World)(h:Heap):Prop:=∃mg C N mN,h.Ns mainGlobals mg/\mg AQ.name=some (.ref C)/\PlainAt h AQ C N mN
theorem arc_of(w:World)(s:Shared)(e:arcSeen s=arcGood w):ArcSays w s.heap:=by
 have e1:s.heap.plainShapeAt AQ=some AQ.plainShape:=A0U Prod.fst e;have e2:s.heap.isNs mainGlobals=true:=A0U Prod.snd e;obtain⟨C,N,h1,P⟩:=plainAt_of_shape e1;exact⟨_,C,N,_,.of_isNs e2,h1,P⟩
theorem arc_keeps(w:World)(h h':Heap)(x:ArcSays w h)(k:∀b o,h.get? b=some o->h'.get? b=some o):ArcSays w h':=by
 obtain⟨mg,C,N,mN,h1,h2,P⟩:=x;exact⟨mg,C,N,mN,h1.keeps k,h2,P.keeps k⟩
theorem ns_same{h:Heap}{a:Addr}{m m':Str->Option Value}(x:h.Ns a m)(y:h.Ns a m')(n:Str):m n=m' n:=by
 obtain⟨o,es,ep,ho,hd,_,hf⟩:=x;obtain⟨o',es',zW,Ah,Au,_,SI⟩:=y;rw[ho] at Ah;cases Ah
 rw[hd] at Au;cases Au
 exact zr (hf _).symm (zr (SI _) rfl)
set_option maxRecDepth 100000 in
theorem arc_name:AQ.name=("Arc" : Str):=by kernel_rfl
noncomputable def d3:DefRec×List (Str×PySem.Expr):=(defOf view2 ("law" : Str)).getD (⟨"",default,[],default,default⟩,[])
theorem d3_def:defOf view2 PySem.Challenge.rw_uf030002_06.row.name=some (d3.1,d3.2):=by kernel_rfl
theorem d3_the:PySem.Challenge.rw_uf030002_06.row.prog.theDef PySem.Challenge.rw_uf030002_06.row.name=some (d3.1.params,d3.1.body,d3.1.scope):=by kernel_rfl
theorem d3_kw:kwWritten? d3.1.params.kwonlyargs d3.1.params.kw_defaults=some d3.2:=by kernel_rfl
theorem pp_w:PP wc:=λAG NB mg mb fa a vs ns T X XC fD hx hI hlen=>by
 obtain⟨hA,N,mN,P⟩:=X;exact codeAny_mono (l5 (ou:=Vm) (more:=Lf) (K:=200) (fns:=AA) T XC PySem.F.excBase_ValueError jQ hA P aw We ax b4 ay jN az jM jL fD hx hI (mu hlen (by decide)) (D:=14) (by decide) (T6 ns)) λr s' h=>by
  obtain⟨v,rfl,hv,hk,h',tk,rfl⟩:=h;have hv':v=.bool true:=hv;exact⟨by exact zr hv' rfl,hk,h',tk,rfl⟩
theorem Id{P:Params}{h:Heap}{a:Addr}{xs:List WData}(W:Well P h (.ref a) (.list xs)):∃vs:List Value,h.get? a=some { cls:=.type "list",data:=.seq vs.toArray }:=by
 cases W with
 |list e _=>exact⟨_,e⟩
theorem list_exact{P:Params}{h:Heap}{a:Addr}{vs:List Value}{xs:List PyData}(W:Well P h (.ref a) (ofPy (.list xs)))(L:h.IsList a vs.toArray):h.get? a=some { cls:=.type "list",data:=.seq vs.toArray }:=by
 have e0:ofPy (.list xs)=.list (ofPys xs):=by simp[ofPy]
 rw[e0] at W;obtain⟨us,e⟩:=Id W;obtain⟨o,ho,hc,n,hd⟩:=L;rw[e] at ho;cases ho
 simp only[Data.seq.injEq] at hd;exact zr e (zr hd.1 rfl)
end
end Mine.Internal
end
open PySem PySem.W PyProof.Rows
set_option tactic.hygienic true
set_option maxRecDepth 100000 in
set_option maxHeartbeats 8000000 in
theorem PySem.Challenge.cw_uf030002_06_holds : PySem.Challenge.rw_uf030002_06.Holds := by
 refine holds_law Mine.Internal.wsaid0 λsaid=>?_
 refine holds_open (q:=Mine.Internal.view2) (loose:=[]) (Xt:=λs=>xlAt Mine.Internal.view2 [] s&&recOk (RowW.records PySem.Challenge.rw_uf030002_06.row.toRowW) s&&Mine.Internal.xcAt s) (XP:=λmg h=>XL Mine.Internal.view2 [] mg h/\Mine.Internal.XcAt mg h) (Yf:=Mine.Internal.arcSeen) (Ya:=Mine.Internal.arcGood) (YP:=Mine.Internal.ArcSays) (N:=4000) (d:=Mine.Internal.d3.1) (kwd:=Mine.Internal.d3.2)
  Mine.Internal.left3 Mine.Internal.arc_of Mine.Internal.arc_keeps (λs e=>⟨xl_of s (Bool.and_eq_true_iff.mp (Bool.and_eq_true_iff.mp e).1).1,Mine.Internal.xc_of s (Bool.and_eq_true_iff.mp e).2⟩) (λmg h h' x k=>⟨XL.keeps mg h h' x.1 k,x.2.keeps k⟩) Mine.Internal.d3_def Mine.Internal.d3_the Mine.Internal.d3_kw (λs e=>recFacts_of (Bool.and_eq_true_iff.mp (Bool.and_eq_true_iff.mp e).1).2) (by decide +kernel) said (by decide +kernel) ⟨rfl,rfl,rfl,rfl,rfl,by decide +kernel⟩ ?hw ?hc
 case hw=>w_witness2
 intro w s₀ s₁ mg mb G Y fa o pm cd doc dV kV ho hd hcd hD hmg hg args vals as hpre hlay hrd hwl hlo;have XC:=G.X.2;refine Ground.open G ?_;intro T B D TE TW;have X:∃C,Mine.Internal.ArcAt mg s₁.heap C:=by
  obtain⟨mg',C,N,mN,h1,h2,P⟩:=Y;exact⟨C,(Mine.Internal.ns_same T.g h1 _).trans (Mine.Internal.arc_name▸h2),N,mN,P⟩
 obtain⟨C,X⟩:=X;clear D B TE TW hd hcd hD ho Y
 wrow_args hpre hlay hrd hwl hlo
 all_goals (first|refine callC_kw (enter_call ?_)|refine enter_call ?_|refine callC_kw (enter_callW ?_)|refine enter_callW ?_|w_how;w_top on)
 rename_i nsv hs hlay0 hL1 hr1 hl2 as1 as2 a vs as3 hL ra W r0 hI hr hcond hcond2;have hx:=Mine.Internal.list_exact W hL;have hlen:nsv.length<=63:=by
  exact Int.ofNat_le.1 (Int.not_lt.1 hcond)
 refine codeAny_mono (Mine.Internal.pp_all Mine.Internal.pp_w (w,C) s₁ _ mg mb fa a vs nsv T X XC hmg hx hI hlen) ?_;rintro r s' ⟨rfl,hk,h',tk,rfl⟩;refine GoodW.toG ⟨.inl ⟨_,.bool true,[],rfl,?_,.bool true,?_,?_⟩,hk,rfl,hg⟩
 ·intro cls;rfl
 ·wrow_post
 ·intro _;exact⟨List.nodup_nil,λa ha=>by cases ha⟩
