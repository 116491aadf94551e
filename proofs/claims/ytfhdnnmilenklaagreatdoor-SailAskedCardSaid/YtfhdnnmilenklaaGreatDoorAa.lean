import GoSem.Core.World
import Derived.KernelRfl
import Derived.Below
import Derived.Control
set_option linter.all false
def Eq.tn:=@Eq.trans
def Iff.tn:=@Iff.trans
def Go.RowKit.Below.tn:=@Go.RowKit.Below.trans
def Go.Steps.tn:=@Go.Steps.trans
def List.IsPrefix.tn:=@List.IsPrefix.trans
def Relation.TransGen.tn:=@Relation.TransGen.trans
open Go
instance:Coe World Nat:=⟨fun w=>w.heap.size⟩
instance(a b:Nat):CoeDep (Nat×Nat) (a,b) Addr:=⟨⟨a,b,none⟩⟩
instance(a b:Nat):CoeDep (Nat×Nat) (a,b) Value:=⟨.pointer (some ⟨a,b,none⟩)⟩
instance:Coe Int Value:=⟨fun n=>.int .i64 n⟩
instance:Coe Nat Value:=⟨fun n=>.int .i64 n⟩
instance:Coe Bool Value:=⟨fun n=>.bool n⟩
instance:CoeFun World (fun _=>Addr->Option Value):=⟨fun w=>w.cell?⟩
def dk:List Nat->Code->Code|[],c=>c|0::l,.seq a _=>dk l a|1::l,.seq _ b=>dk l b|2::l,.block _ c=>dk l c|3::l,.loop c=>dk l c|4::l,.cond _ a _=>dk l a|5::l,.cond _ _ b=>dk l b|_,c=>c
def br(l:List Nat)(c:Code):Array Oper:=match dk l c with|.region _ o _=>o|_=> #[]
def zE:=And.intro @List.getElem_toArray.{0} (And.intro @List.getElem_cons_zero.{0} @List.getElem_cons_succ.{0})
def zM:=And.intro @List.map_toArray.{0,0} (And.intro @List.map_cons.{0,0} @List.map_nil.{0,0})
def zQ:=And.intro @List.getElem?_toArray.{0} (And.intro @List.getElem?_cons_zero.{0} (And.intro @List.getElem?_cons_succ.{0} (And.intro @Array.getD_eq_getD_getElem?.{0} @Option.getD_some.{0})))
def zS:=And.intro @List.setIfInBounds_toArray.{0} (And.intro @List.set_cons_zero.{0} @List.set_cons_succ.{0})
def zR:=And.intro @Array.replicate_succ.{0} (And.intro @Array.replicate_zero.{0} (And.intro @List.push_toArray.{0} (And.intro @List.append_toArray.{0} (And.intro @List.nil_append.{0} @List.cons_append.{0}))))
def qT:=@Nat.le_refl
def dj:=@Nat.le_trans
def ec:=@Nat.lt_of_lt_of_le
def iv:=@Nat.zero_le
def fi:=@Nat.lt_irrefl
def kq:=@Array.getElem?_eq_some_iff
def du:=@List.getElem?_eq_getElem
def fg:=@Array.getElem?_eq_getElem
def km:=@Array.mem_of_getElem?
def il:=@Bool.and_eq_true
def ed:=@Option.some.injEq
def fp:=@Option.some.inj
def jx:=@Iff.rfl
def dq:=@List.length_cons
def fx:=@List.not_mem_nil
def hZ:=@Array.getElem?_setIfInBounds_ne
def lO:=@List.mem_cons
def fc:=@List.drop_eq_getElem_cons
def lL:=@List.mem_toArray
def kj:=@Bool.false_eq_true
def kx:=@Array.getElem?_setIfInBounds
def ma:=@Value.slice.injEq
def lA:=@Array.all_eq_true_iff_forall_mem
def nn:=@Nat.zero_add
def kl:=@List.drop_eq_nil_of_le
def lv:=@List.length_nil
def ky:=@List.length_filter_le
def ln:=@List.length_append
def lh:=@List.flatMap_cons
def la:=@Option.map_some
def mc:=@Nat.eq_zero_or_pos
def mT:=@List.take_succ_eq_append_getElem
def q5A:=@Nat.le_add_right
def q6A:=@Nat.lt_of_le_of_lt
def q8A:=@Nat.le_of_lt
def q9A:=@Nat.le_of_not_lt
def mr:=@Nat.lt_succ_self
def qBB:=@List.mem_singleton
def ib:=@Array.mem_append
def mf:=@List.map_append
def nc:=@List.filter_append
def np:=@Bool.or_eq_true
def nd:=@Array.getElem?_map
def mn:=@Array.getElem?_modify
def ml:=@List.cons.injEq
def ll:=@beq_iff_eq
def lj:=@Array.size_setIfInBounds
def qLB:=@List.append_assoc
def nh:=@Int.toNat_natCast
def qNB:=@List.length_map
def my:=@Bool.not_eq_true
def qPB:=@List.find?_append
def qSB:=@Array.getElem?_push
def nm:=@Array.size_push
def qUB:=@Array.getElem?_append_left
def qVB:=@Array.getElem?_append_right
def qWB:=@List.mem_append
def mi:=@Array.size_append
def qYB:=@if_neg
def cd:=@if_pos
def dE:=@absurd
def dC:=@trivial
def db:=@congrArg
theorem zz {p : Prop} (h : p := by omega) : p := h
theorem kr {p : Prop} (h : p := by kernel_rfl) : p := h
theorem dd {p : Prop} (h : p := by decide) : p := h
theorem ss {p : Prop} (h : p := by simp) : p := h
theorem so {p : Prop} (h : p := by (simp; omega)) : p := h
theorem QQ {p : Prop} (h : p := by grind) : p := h
theorem ns {p : Prop} (h : p := by repeat' (first | assumption | exact trivial | exact m9 trivial | exact iW _ trivial | (simp; done) | apply bL | apply fK | intro _ | apply iL | apply ig | apply ij | apply kZ | apply je | dsimp only | split)) : p := h
theorem bt {p : Prop} (h : p := by ((repeat (first | with_reducible exact Below.refl _ _ | ((with_reducible refine jH ?_ ?_ _); rotate_left; (first | omega | (simp; done) | (simp; omega))) | ((with_reducible refine aP ?_ ?_ _); rotate_left; (first | with_reducible exact Nat.le_refl _ | (rw [aa]; with_reducible exact Nat.le_refl _) | omega)) | with_reducible refine below_drewN ?_ _ | with_reducible refine lH ?_)); try first | with_reducible assumption | exact bT (by with_reducible assumption))) : p := h
theorem bf {p : Prop} (h : p := by (first | with_reducible assumption | exact bt)) : p := h
theorem wa {p : Prop} (h : p := by with_reducible assumption) : p := h
theorem sb {p : Prop} (h : p := by simp [bs]) : p := h
theorem ekk {p : Prop} (h : p := by first | (refine ft ?_; (repeat (first | exact au _ _ _ | assumption | refine ndd ?_)); done) | exact rfl) : p := h
theorem wkk {p : Prop} (h : p := by first | exact bY rfl | (refine az rfl rfl ?_ ?_; omega; (repeat (first | exact au _ _ _ | assumption | refine ndd ?_)); done)) : p := h
structure Qq (q : Prop) : Prop where h : q
theorem wss {p q : Prop} (hq : q) (h : Qq q -> p := by intro hqq; ((repeat (first | (refine WalkE.av ?_ rfl (.inl rfl) ?_ rfl ?_ ?_ ?_ ?_; rotate_left; (first | focus (refine ft ?_; (repeat (first | exact au _ _ _ | assumption | refine ndd ?_)); done) | exact rfl); omega; (first | exact bY rfl | focus (refine az rfl rfl ?_ ?_; omega; (repeat (first | exact au _ _ _ | assumption | refine ndd ?_)); done)); assumption) | (refine WalkE.av ?_ rfl (.inr rfl) ?_ rfl ?_ ?_ ?_ ?_; rotate_left; (first | focus (refine ft ?_; (repeat (first | exact au _ _ _ | assumption | refine ndd ?_)); done) | exact rfl); omega; (first | exact bY rfl | focus (refine az rfl rfl ?_ ?_; omega; (repeat (first | exact au _ _ _ | assumption | refine ndd ?_)); done)); assumption) | (refine WalkE.cj (a := false) ?_ rfl rfl ?_ ((if_neg Bool.false_ne_true).trans ?_) rfl ?_ ?_ ?_ ?_; rotate_left; (first | focus (refine ft ?_; (repeat (first | exact au _ _ _ | assumption | refine ndd ?_)); done) | exact rfl); (first | focus (refine ft ?_; (repeat (first | exact au _ _ _ | assumption | refine ndd ?_)); done) | exact rfl); omega; (first | exact bY rfl | focus (refine az rfl rfl ?_ ?_; omega; (repeat (first | exact au _ _ _ | assumption | refine ndd ?_)); done)); assumption) | (refine WalkE.cj (a := true) ?_ rfl rfl ?_ ((if_pos rfl).trans ?_) rfl ?_ ?_ ?_ ?_; rotate_left; (first | focus (refine ft ?_; (repeat (first | exact au _ _ _ | assumption | refine ndd ?_)); done) | exact rfl); (first | focus (refine ft ?_; (repeat (first | exact au _ _ _ | assumption | refine ndd ?_)); done) | exact rfl); omega; (first | exact bY rfl | focus (refine az rfl rfl ?_ ?_; omega; (repeat (first | exact au _ _ _ | assumption | refine ndd ?_)); done)); assumption) | (refine WalkE.dA (vs := ?_) ?_ rfl rfl ?_ ?_ rfl ?_ ?_ ?_ ?_; rotate_left 2; (first | focus (refine ft ?_; (repeat (first | exact au _ _ _ | assumption | refine ndd ?_)); done) | exact rfl); exact rfl; omega; (first | exact bY rfl | focus (refine az rfl rfl ?_ ?_; omega; (repeat (first | exact au _ _ _ | assumption | refine ndd ?_)); done)); assumption) | (refine WalkE.Xb (A := ?_) (m := ?_) (c := ?_) rfl rfl ?_ rfl rfl ?_ ?_ ?_ ?_; rotate_left 3; (first | focus (refine ft ?_; (repeat (first | exact au _ _ _ | assumption | refine ndd ?_)); done) | exact rfl); omega; (first | exact bY rfl | focus (refine az rfl rfl ?_ ?_; omega; (repeat (first | exact au _ _ _ | assumption | refine ndd ?_)); done)); assumption) | (refine WalkE.iA (a := ?_) (c := ?_) false rfl rfl ?_ ?_ ?_ rfl ?_ ?_ ?_ ?_; rotate_left 2; (first | focus (refine ft ?_; (repeat (first | exact au _ _ _ | assumption | refine ndd ?_)); done) | exact rfl); (first | focus (refine ft ?_; (repeat (first | exact au _ _ _ | assumption | refine ndd ?_)); done) | exact rfl); (first | exact rfl | (simp; done)); omega; (first | exact bY rfl | focus (refine az rfl rfl ?_ ?_; omega; (repeat (first | exact au _ _ _ | assumption | refine ndd ?_)); done)); assumption) | (refine WalkE.iA (a := ?_) (c := ?_) true rfl rfl ?_ ?_ ?_ rfl ?_ ?_ ?_ ?_; rotate_left 2; (first | focus (refine ft ?_; (repeat (first | exact au _ _ _ | assumption | refine ndd ?_)); done) | exact rfl); (first | focus (refine ft ?_; (repeat (first | exact au _ _ _ | assumption | refine ndd ?_)); done) | exact rfl); (first | exact rfl | (simp; done)); omega; (first | exact bY rfl | focus (refine az rfl rfl ?_ ?_; omega; (repeat (first | exact au _ _ _ | assumption | refine ndd ?_)); done)); assumption) | (refine WalkE.Xa (a := ?_) (c := ?_) false rfl rfl ?_ ?_ ?_ rfl ?_ ?_ ?_ ?_; rotate_left 2; (first | focus (refine ft ?_; (repeat (first | exact au _ _ _ | assumption | refine ndd ?_)); done) | exact rfl); (first | focus (refine ft ?_; (repeat (first | exact au _ _ _ | assumption | refine ndd ?_)); done) | exact rfl); (first | exact rfl | (simp; done)); omega; (first | exact bY rfl | focus (refine az rfl rfl ?_ ?_; omega; (repeat (first | exact au _ _ _ | assumption | refine ndd ?_)); done)); assumption) | (refine WalkE.Xa (a := ?_) (c := ?_) true rfl rfl ?_ ?_ ?_ rfl ?_ ?_ ?_ ?_; rotate_left 2; (first | focus (refine ft ?_; (repeat (first | exact au _ _ _ | assumption | refine ndd ?_)); done) | exact rfl); (first | focus (refine ft ?_; (repeat (first | exact au _ _ _ | assumption | refine ndd ?_)); done) | exact rfl); (first | exact rfl | (simp; done)); omega; (first | exact bY rfl | focus (refine az rfl rfl ?_ ?_; omega; (repeat (first | exact au _ _ _ | assumption | refine ndd ?_)); done)); assumption) | (refine WalkE.Hr (a := ?_) (c := ?_) false rfl rfl ?_ ?_ ?_ rfl ?_ ?_ ?_ ?_; rotate_left 2; (first | focus (refine ft ?_; (repeat (first | exact au _ _ _ | assumption | refine ndd ?_)); done) | exact rfl); (first | focus (refine ft ?_; (repeat (first | exact au _ _ _ | assumption | refine ndd ?_)); done) | exact rfl); (first | exact rfl | (simp; done)); omega; (first | exact bY rfl | focus (refine az rfl rfl ?_ ?_; omega; (repeat (first | exact au _ _ _ | assumption | refine ndd ?_)); done)); assumption) | (refine WalkE.Hr (a := ?_) (c := ?_) true rfl rfl ?_ ?_ ?_ rfl ?_ ?_ ?_ ?_; rotate_left 2; (first | focus (refine ft ?_; (repeat (first | exact au _ _ _ | assumption | refine ndd ?_)); done) | exact rfl); (first | focus (refine ft ?_; (repeat (first | exact au _ _ _ | assumption | refine ndd ?_)); done) | exact rfl); (first | exact rfl | (simp; done)); omega; (first | exact bY rfl | focus (refine az rfl rfl ?_ ?_; omega; (repeat (first | exact au _ _ _ | assumption | refine ndd ?_)); done)); assumption) | (refine WalkE.pEqlB (a := ?_) (c := ?_) false rfl rfl ?_ ?_ ?_ rfl ?_ ?_ ?_ ?_; rotate_left 2; (first | focus (refine ft ?_; (repeat (first | exact au _ _ _ | assumption | refine ndd ?_)); done) | exact rfl); (first | focus (refine ft ?_; (repeat (first | exact au _ _ _ | assumption | refine ndd ?_)); done) | exact rfl); (first | exact rfl | (simp; done)); omega; (first | exact bY rfl | focus (refine az rfl rfl ?_ ?_; omega; (repeat (first | exact au _ _ _ | assumption | refine ndd ?_)); done)); assumption) | (refine WalkE.pEqlB (a := ?_) (c := ?_) true rfl rfl ?_ ?_ ?_ rfl ?_ ?_ ?_ ?_; rotate_left 2; (first | focus (refine ft ?_; (repeat (first | exact au _ _ _ | assumption | refine ndd ?_)); done) | exact rfl); (first | focus (refine ft ?_; (repeat (first | exact au _ _ _ | assumption | refine ndd ?_)); done) | exact rfl); (first | exact rfl | (simp; done)); omega; (first | exact bY rfl | focus (refine az rfl rfl ?_ ?_; omega; (repeat (first | exact au _ _ _ | assumption | refine ndd ?_)); done)); assumption) | (refine WalkE.BS (a := ?_) false rfl rfl ?_ ?_ rfl ?_ ?_ ?_ ?_; rotate_left; (first | focus (refine ft ?_; (repeat (first | exact au _ _ _ | assumption | refine ndd ?_)); done) | exact rfl); exact rfl; omega; (first | exact bY rfl | focus (refine az rfl rfl ?_ ?_; omega; (repeat (first | exact au _ _ _ | assumption | refine ndd ?_)); done)); assumption) | (refine WalkE.BS (a := ?_) true rfl rfl ?_ ?_ rfl ?_ ?_ ?_ ?_; rotate_left; (first | focus (refine ft ?_; (repeat (first | exact au _ _ _ | assumption | refine ndd ?_)); done) | exact rfl); exact rfl; omega; (first | exact bY rfl | focus (refine az rfl rfl ?_ ?_; omega; (repeat (first | exact au _ _ _ | assumption | refine ndd ?_)); done)); assumption)))); exact hqq.h) : p := h ⟨hq⟩
