import GoSem.Core.World
import Derived.KernelRfl
import Derived.Below
import Derived.Control
set_option linter.all false
def Eq.tn:=@Eq.trans
def Iff.tn:=@Iff.trans
def Go.RowKit.Below.tn:=@Go.RowKit.Below.trans
def Go.Steps.tn:=@Go.Steps.trans
def List.IsPrefix.tn:=@List.IsPrefix.trans
def Relation.TransGen.tn:=@Relation.TransGen.trans
open Go
instance:Coe World Nat:=⟨fun w=>w.heap.size⟩
instance(a b:Nat):CoeDep (Nat×Nat) (a,b) Addr:=⟨⟨a,b,none⟩⟩
instance(a b:Nat):CoeDep (Nat×Nat) (a,b) Value:=⟨.pointer (some ⟨a,b,none⟩)⟩
instance:Coe Int Value:=⟨fun n=>.int .i64 n⟩
instance:Coe Nat Value:=⟨fun n=>.int .i64 n⟩
instance:Coe Bool Value:=⟨fun n=>.bool n⟩
instance:CoeFun World (fun _=>Addr->Option Value):=⟨fun w=>w.cell?⟩
def dk:List Nat->Code->Code|[],c=>c|0::l,.seq a _=>dk l a|1::l,.seq _ b=>dk l b|2::l,.block _ c=>dk l c|3::l,.loop c=>dk l c|4::l,.cond _ a _=>dk l a|5::l,.cond _ _ b=>dk l b|_,c=>c
def br(l:List Nat)(c:Code):Array Oper:=match dk l c with|.region _ o _=>o|_=> #[]
def zE:=And.intro @List.getElem_toArray.{0} (And.intro @List.getElem_cons_zero.{0} @List.getElem_cons_succ.{0})
def zM:=And.intro @List.map_toArray.{0,0} (And.intro @List.map_cons.{0,0} @List.map_nil.{0,0})
def zQ:=And.intro @List.getElem?_toArray.{0} (And.intro @List.getElem?_cons_zero.{0} (And.intro @List.getElem?_cons_succ.{0} (And.intro @Array.getD_eq_getD_getElem?.{0} @Option.getD_some.{0})))
def zS:=And.intro @List.setIfInBounds_toArray.{0} (And.intro @List.set_cons_zero.{0} @List.set_cons_succ.{0})
def zR:=And.intro @Array.replicate_succ.{0} (And.intro @Array.replicate_zero.{0} (And.intro @List.push_toArray.{0} (And.intro @List.append_toArray.{0} (And.intro @List.nil_append.{0} @List.cons_append.{0}))))
def qN:=@Nat.le_refl
def qO:=@Nat.le_trans
def qP:=@Nat.lt_of_lt_of_le
def qT:=@Nat.zero_le
def dj:=@Nat.lt_irrefl
def ec:=@Array.getElem?_eq_some_iff
def iv:=@List.getElem?_eq_getElem
def fi:=@Array.getElem?_eq_getElem
def kq:=@Array.mem_of_getElem?
def du:=@Bool.and_eq_true
def fg:=@Option.some.injEq
def km:=@Option.some.inj
def il:=@Iff.rfl
def ed:=@List.length_cons
def fp:=@List.not_mem_nil
def jx:=@Array.getElem?_setIfInBounds_ne
def dq:=@List.mem_cons
def fx:=@List.drop_eq_getElem_cons
def hZ:=@List.mem_toArray
def lO:=@Bool.false_eq_true
def fc:=@Array.getElem?_setIfInBounds
def lL:=@Value.slice.injEq
def kj:=@Array.all_eq_true_iff_forall_mem
def kx:=@Nat.zero_add
def ma:=@List.drop_eq_nil_of_le
def lA:=@List.length_nil
def nn:=@List.length_filter_le
def kl:=@List.length_append
def lv:=@List.flatMap_cons
def ky:=@Option.map_some
def ln:=@Nat.eq_zero_or_pos
def lh:=@List.take_succ_eq_append_getElem
def la:=@Nat.le_add_right
def mc:=@Nat.lt_of_le_of_lt
def q5A:=@Nat.le_of_lt
def q6A:=@Nat.le_of_not_lt
def q7A:=@Nat.lt_succ_self
def q8A:=@List.mem_singleton
def q9A:=@Array.mem_append
def mr:=@List.map_append
def qBB:=@List.filter_append
def ib:=@Bool.or_eq_true
def mf:=@Array.getElem?_map
def nc:=@Array.getElem?_modify
def np:=@List.cons.injEq
def nd:=@beq_iff_eq
def mn:=@Array.size_setIfInBounds
def ml:=@List.append_assoc
def ll:=@Int.toNat_natCast
def lj:=@List.length_map
def qLB:=@Bool.not_eq_true
def nh:=@List.find?_append
def qPB:=@Array.getElem?_push
def qQB:=@Array.size_push
def qRB:=@Array.getElem?_append_left
def qSB:=@Array.getElem?_append_right
def nm:=@List.mem_append
def qUB:=@Array.size_append
def qVB:=@if_neg
def qWB:=@if_pos
def mi:=@absurd
def qYB:=@trivial
def cd:=@congrArg
theorem zz {p : Prop} (h : p := by omega) : p := h
theorem kr {p : Prop} (h : p := by kernel_rfl) : p := h
theorem dd {p : Prop} (h : p := by decide) : p := h
theorem ss {p : Prop} (h : p := by simp) : p := h
theorem so {p : Prop} (h : p := by (simp; omega)) : p := h
theorem QQ {p : Prop} (h : p := by grind) : p := h
theorem ns {p : Prop} (h : p := by repeat' (first | assumption | exact trivial | exact E7 trivial | exact iW _ trivial | (simp; done) | apply bL | apply fK | intro _ | apply iL | apply ig | apply ij | apply kZ | apply je | dsimp only | split)) : p := h
theorem bt {p : Prop} (h : p := by ((repeat (first | with_reducible exact Below.refl _ _ | ((with_reducible refine jH ?_ ?_ _); rotate_left; (first | omega | (simp; done) | (simp; omega))) | ((with_reducible refine aP ?_ ?_ _); rotate_left; (first | with_reducible exact Nat.le_refl _ | (rw [aa]; with_reducible exact Nat.le_refl _) | omega)) | with_reducible refine below_drewN ?_ _ | with_reducible refine lH ?_)); try first | with_reducible assumption | exact bT (by with_reducible assumption))) : p := h
theorem bf {p : Prop} (h : p := by (first | with_reducible assumption | exact bt)) : p := h
theorem wa {p : Prop} (h : p := by with_reducible assumption) : p := h
theorem sb {p : Prop} (h : p := by simp [bs]) : p := h
theorem ekk {p : Prop} (h : p := by first | (refine ft ?_; (repeat (first | exact au _ _ _ | assumption | refine ndd ?_)); done) | exact rfl) : p := h
theorem wkk {p : Prop} (h : p := by first | exact bY rfl | (refine az rfl rfl ?_ ?_; omega; (repeat (first | exact au _ _ _ | assumption | refine ndd ?_)); done)) : p := h
structure Qq (q : Prop) : Prop where h : q
theorem wss {p q : Prop} (hq : q) (h : Qq q -> p := by intro hqq; ((repeat (first | (refine WalkE.av ?_ rfl (.inl rfl) ?_ rfl ?_ ?_ ?_ ?_; rotate_left; (first | focus (refine ft ?_; (repeat (first | exact au _ _ _ | assumption | refine ndd ?_)); done) | exact rfl); omega; (first | exact bY rfl | focus (refine az rfl rfl ?_ ?_; omega; (repeat (first | exact au _ _ _ | assumption | refine ndd ?_)); done)); assumption) | (refine WalkE.av ?_ rfl (.inr rfl) ?_ rfl ?_ ?_ ?_ ?_; rotate_left; (first | focus (refine ft ?_; (repeat (first | exact au _ _ _ | assumption | refine ndd ?_)); done) | exact rfl); omega; (first | exact bY rfl | focus (refine az rfl rfl ?_ ?_; omega; (repeat (first | exact au _ _ _ | assumption | refine ndd ?_)); done)); assumption) | (refine WalkE.cj (a := false) ?_ rfl rfl ?_ ((if_neg Bool.false_ne_true).trans ?_) rfl ?_ ?_ ?_ ?_; rotate_left; (first | focus (refine ft ?_; (repeat (first | exact au _ _ _ | assumption | refine ndd ?_)); done) | exact rfl); (first | focus (refine ft ?_; (repeat (first | exact au _ _ _ | assumption | refine ndd ?_)); done) | exact rfl); omega; (first | exact bY rfl | focus (refine az rfl rfl ?_ ?_; omega; (repeat (first | exact au _ _ _ | assumption | refine ndd ?_)); done)); assumption) | (refine WalkE.cj (a := true) ?_ rfl rfl ?_ ((if_pos rfl).trans ?_) rfl ?_ ?_ ?_ ?_; rotate_left; (first | focus (refine ft ?_; (repeat (first | exact au _ _ _ | assumption | refine ndd ?_)); done) | exact rfl); (first | focus (refine ft ?_; (repeat (first | exact au _ _ _ | assumption | refine ndd ?_)); done) | exact rfl); omega; (first | exact bY rfl | focus (refine az rfl rfl ?_ ?_; omega; (repeat (first | exact au _ _ _ | assumption | refine ndd ?_)); done)); assumption) | (refine WalkE.ack (vs := ?_) ?_ rfl rfl ?_ ?_ rfl ?_ ?_ ?_ ?_; rotate_left 2; (first | focus (refine ft ?_; (repeat (first | exact au _ _ _ | assumption | refine ndd ?_)); done) | exact rfl); exact rfl; omega; (first | exact bY rfl | focus (refine az rfl rfl ?_ ?_; omega; (repeat (first | exact au _ _ _ | assumption | refine ndd ?_)); done)); assumption) | (refine WalkE.Xb (A := ?_) (m := ?_) (c := ?_) rfl rfl ?_ rfl rfl ?_ ?_ ?_ ?_; rotate_left 3; (first | focus (refine ft ?_; (repeat (first | exact au _ _ _ | assumption | refine ndd ?_)); done) | exact rfl); omega; (first | exact bY rfl | focus (refine az rfl rfl ?_ ?_; omega; (repeat (first | exact au _ _ _ | assumption | refine ndd ?_)); done)); assumption) | (refine WalkE.iA (a := ?_) (c := ?_) false rfl rfl ?_ ?_ ?_ rfl ?_ ?_ ?_ ?_; rotate_left 2; (first | focus (refine ft ?_; (repeat (first | exact au _ _ _ | assumption | refine ndd ?_)); done) | exact rfl); (first | focus (refine ft ?_; (repeat (first | exact au _ _ _ | assumption | refine ndd ?_)); done) | exact rfl); (first | exact rfl | (simp; done)); omega; (first | exact bY rfl | focus (refine az rfl rfl ?_ ?_; omega; (repeat (first | exact au _ _ _ | assumption | refine ndd ?_)); done)); assumption) | (refine WalkE.iA (a := ?_) (c := ?_) true rfl rfl ?_ ?_ ?_ rfl ?_ ?_ ?_ ?_; rotate_left 2; (first | focus (refine ft ?_; (repeat (first | exact au _ _ _ | assumption | refine ndd ?_)); done) | exact rfl); (first | focus (refine ft ?_; (repeat (first | exact au _ _ _ | assumption | refine ndd ?_)); done) | exact rfl); (first | exact rfl | (simp; done)); omega; (first | exact bY rfl | focus (refine az rfl rfl ?_ ?_; omega; (repeat (first | exact au _ _ _ | assumption | refine ndd ?_)); done)); assumption) | (refine WalkE.Xa (a := ?_) (c := ?_) false rfl rfl ?_ ?_ ?_ rfl ?_ ?_ ?_ ?_; rotate_left 2; (first | focus (refine ft ?_; (repeat (first | exact au _ _ _ | assumption | refine ndd ?_)); done) | exact rfl); (first | focus (refine ft ?_; (repeat (first | exact au _ _ _ | assumption | refine ndd ?_)); done) | exact rfl); (first | exact rfl | (simp; done)); omega; (first | exact bY rfl | focus (refine az rfl rfl ?_ ?_; omega; (repeat (first | exact au _ _ _ | assumption | refine ndd ?_)); done)); assumption) | (refine WalkE.Xa (a := ?_) (c := ?_) true rfl rfl ?_ ?_ ?_ rfl ?_ ?_ ?_ ?_; rotate_left 2; (first | focus (refine ft ?_; (repeat (first | exact au _ _ _ | assumption | refine ndd ?_)); done) | exact rfl); (first | focus (refine ft ?_; (repeat (first | exact au _ _ _ | assumption | refine ndd ?_)); done) | exact rfl); (first | exact rfl | (simp; done)); omega; (first | exact bY rfl | focus (refine az rfl rfl ?_ ?_; omega; (repeat (first | exact au _ _ _ | assumption | refine ndd ?_)); done)); assumption) | (refine WalkE.Hr (a := ?_) (c := ?_) false rfl rfl ?_ ?_ ?_ rfl ?_ ?_ ?_ ?_; rotate_left 2; (first | focus (refine ft ?_; (repeat (first | exact au _ _ _ | assumption | refine ndd ?_)); done) | exact rfl); (first | focus (refine ft ?_; (repeat (first | exact au _ _ _ | assumption | refine ndd ?_)); done) | exact rfl); (first | exact rfl | (simp; done)); omega; (first | exact bY rfl | focus (refine az rfl rfl ?_ ?_; omega; (repeat (first | exact au _ _ _ | assumption | refine ndd ?_)); done)); assumption) | (refine WalkE.Hr (a := ?_) (c := ?_) true rfl rfl ?_ ?_ ?_ rfl ?_ ?_ ?_ ?_; rotate_left 2; (first | focus (refine ft ?_; (repeat (first | exact au _ _ _ | assumption | refine ndd ?_)); done) | exact rfl); (first | focus (refine ft ?_; (repeat (first | exact au _ _ _ | assumption | refine ndd ?_)); done) | exact rfl); (first | exact rfl | (simp; done)); omega; (first | exact bY rfl | focus (refine az rfl rfl ?_ ?_; omega; (repeat (first | exact au _ _ _ | assumption | refine ndd ?_)); done)); assumption) | (refine WalkE.pEqlB (a := ?_) (c := ?_) false rfl rfl ?_ ?_ ?_ rfl ?_ ?_ ?_ ?_; rotate_left 2; (first | focus (refine ft ?_; (repeat (first | exact au _ _ _ | assumption | refine ndd ?_)); done) | exact rfl); (first | focus (refine ft ?_; (repeat (first | exact au _ _ _ | assumption | refine ndd ?_)); done) | exact rfl); (first | exact rfl | (simp; done)); omega; (first | exact bY rfl | focus (refine az rfl rfl ?_ ?_; omega; (repeat (first | exact au _ _ _ | assumption | refine ndd ?_)); done)); assumption) | (refine WalkE.pEqlB (a := ?_) (c := ?_) true rfl rfl ?_ ?_ ?_ rfl ?_ ?_ ?_ ?_; rotate_left 2; (first | focus (refine ft ?_; (repeat (first | exact au _ _ _ | assumption | refine ndd ?_)); done) | exact rfl); (first | focus (refine ft ?_; (repeat (first | exact au _ _ _ | assumption | refine ndd ?_)); done) | exact rfl); (first | exact rfl | (simp; done)); omega; (first | exact bY rfl | focus (refine az rfl rfl ?_ ?_; omega; (repeat (first | exact au _ _ _ | assumption | refine ndd ?_)); done)); assumption) | (refine WalkE.BS (a := ?_) false rfl rfl ?_ ?_ rfl ?_ ?_ ?_ ?_; rotate_left; (first | focus (refine ft ?_; (repeat (first | exact au _ _ _ | assumption | refine ndd ?_)); done) | exact rfl); exact rfl; omega; (first | exact bY rfl | focus (refine az rfl rfl ?_ ?_; omega; (repeat (first | exact au _ _ _ | assumption | refine ndd ?_)); done)); assumption) | (refine WalkE.BS (a := ?_) true rfl rfl ?_ ?_ rfl ?_ ?_ ?_ ?_; rotate_left; (first | focus (refine ft ?_; (repeat (first | exact au _ _ _ | assumption | refine ndd ?_)); done) | exact rfl); exact rfl; omega; (first | exact bY rfl | focus (refine az rfl rfl ?_ ?_; omega; (repeat (first | exact au _ _ _ | assumption | refine ndd ?_)); done)); assumption)))); exact hqq.h) : p := h ⟨hq⟩
