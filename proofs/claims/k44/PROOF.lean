import PyProof.Rows.All
import Wide.All
import OpenK.AllK
import Wide.FinOn
import HandS.ForMost
import HandS.ForExc
import HandS.IsInst
import HandS.WideBits
import HandS.More
import HandS.Evl
import HandS.TupAny
import HandS.ExcCtx
import HandS.ExcIs
import HandS.TryMany
import KE.KRevIter
import KE.GoesZip
import PyProof.Draws
import KE.IntBitsLaws
import KE.KBits
import KE.DataMinMax
import HandS.SortKw
import HandS.SortRule
import HandS.SortInts
import HandS.Deep
import HandS.SetFor
import HandS.Strs
import HandS.SuiteRaise
import HandS.TryOnly
import HandS.HotCalls
import HandS.Flow
import HandS.ExcInit
import HandS.ExcField
import PyProof.EqAt
import PyProof.EqKinds
import PyProof.TupleCall
import PyProof.StrOps2
import KE.KTryMore
import PyProof.LongRange
import KE.GoesComp
import KE.KAsSuite
import KE.KIntText
import PySem.Challenge.RW_seekpress_k44_turned_bits_refused
set_option Elab.async false
set_option linter.all false
set_option maxRecDepth 100000
set_option maxHeartbeats 4000000
/-! Sk: readings walked over what one owns. SI B L H: the heap H is the base B and, apart from it, the objects of L. -/
namespace Sk
open PySem PySem.Spec PyProof.Rows L2

abbrev St := L2.St
abbrev Own := List (Addr × HO)
structure SI (B : Hp) (L : Own) (H : Hp) : Prop where
  ext : Same B H
  own : ∀ q ∈ L, B q.1 = none ∧ H q.1 = some q.2
  nd : (L.map (·.1)).Nodup
section
variable {B H H' : Hp} {L L' Lr Lin Lout : Own} {p : Addr} {o o' : HO} {i : Nat}
theorem SI.refl (H : Hp) : SI H [] H := ⟨Same.refl H, by simp, by simp⟩
theorem SI.at (h : SI B L H) (hi : L[i]? = some (p, o)) : H p = some o := (h.own _ (List.mem_of_getElem? hi)).2
theorem SI.free (h : SI B L H) (hi : L[i]? = some (p, o)) : B p = none := (h.own _ (List.mem_of_getElem? hi)).1
theorem SI.new (h : SI B L H) (hp : H p = none) : SI B ((p, o) :: L) (upd H p o) where
  ext := fun b u e => by rw [upd_ne (ne_of_none (h.ext b u e) hp)]; exact h.ext b u e
  own := fun q hq => by
    rcases List.mem_cons.mp hq with rfl | hq
    · exact ⟨h.ext.free hp, upd_same⟩
    · obtain ⟨a, b⟩ := h.own q hq
      exact ⟨a, by rw [upd_ne (ne_of_none b hp)]; exact b⟩
  nd := by
    rw [List.map_cons, List.nodup_cons]
    refine ⟨fun hm => ?_, h.nd⟩
    obtain ⟨q, hq, e⟩ := List.mem_map.mp hm
    have := (h.own q hq).2
    rw [show q.1 = p from e, hp] at this
    cases this
theorem SI.set (h : SI B L H) (hi : L[i]? = some (p, o)) : SI B (L.set i (p, o')) (upd H p o') where
  ext := fun b u e => by
    rw [upd_ne (ne_of_none e (h.free hi))]
    exact h.ext b u e
  own := fun q hq => by
    obtain ⟨j, hj, e⟩ := List.mem_iff_getElem.mp hq
    rw [List.length_set] at hj
    rw [List.getElem_set] at e
    split at e
    · subst e
      exact ⟨h.free hi, upd_same⟩
    · rename_i hij
      subst e
      obtain ⟨a, b⟩ := h.own L[j] (List.getElem_mem _)
      refine ⟨a, ?_⟩
      have hne : L[j].1 ≠ p := fun e => by
        obtain ⟨hi', ei⟩ := List.getElem?_eq_some_iff.mp hi
        have hi2 : i < (L.map (·.1)).length := by rw [List.length_map]; exact hi'
        have hj2 : j < (L.map (·.1)).length := by rw [List.length_map]; exact hj
        have q : (L.map (·.1))[i] = (L.map (·.1))[j] := by
          rw [List.getElem_map, List.getElem_map, ei, e]
        exact hij ((List.getElem_inj h.nd).mp q)
      rw [upd_ne hne]
      exact b
  nd := by
    have e : (L.set i (p, o')).map (·.1) = L.map (·.1) := by
      rw [List.map_set]
      obtain ⟨hi', ei⟩ := List.getElem?_eq_some_iff.mp hi
      apply List.ext_getElem
      · simp
      · intro n h1 h2
        rw [List.getElem_set]
        split
        · rename_i e; subst e
          rw [List.getElem_map, ei]
        · rfl
    rw [e]
    exact h.nd
theorem SI.sub (h : SI B L H) (s : L'.Sublist L) : SI B L' H :=
  ⟨h.ext, fun q hq => h.own q (s.subset hq), h.nd.sublist (s.map _)⟩
theorem SI.perm (h : SI B L H) (s : L.Perm L') : SI B L' H :=
  ⟨h.ext, fun q hq => h.own q (s.mem_iff.mpr hq), (s.map _).nodup_iff.mp h.nd⟩
theorem SI.trans (h : SI B L H) (h' : SI H L' H') : SI B (L' ++ L) H' where
  ext := h.ext.trans h'.ext
  own := fun q hq => by
    rcases List.mem_append.mp hq with hq | hq
    · obtain ⟨a, b⟩ := h'.own q hq
      exact ⟨h.ext.free a, b⟩
    · obtain ⟨a, b⟩ := h.own q hq
      exact ⟨a, h'.ext _ _ b⟩
  nd := by
    rw [List.map_append, List.nodup_append]
    refine ⟨h'.nd, h.nd, fun a ha b hb e => ?_⟩
    obtain ⟨q, hq, rfl⟩ := List.mem_map.mp ha
    obtain ⟨r, hr, rfl⟩ := List.mem_map.mp hb
    have x := (h'.own q hq).1
    rw [e, (h.own r hr).2] at x
    cases x
/-- the heap without some addresses -/
def del (H : Hp) (ps : List Addr) : Hp := fun a => if a ∈ ps then none else H a
theorem del_in {ps : List Addr} (h : p ∈ ps) : del H ps p = none := by unfold del; rw [if_pos h]
theorem del_out {ps : List Addr} (h : p ∉ ps) : del H ps p = H p := by unfold del; rw [if_neg h]
/-- what is lent: the objects of Lin; the rest stands in the base -/
theorem SI.lend (h : SI B (Lin ++ Lr) H) : SI (del H (Lin.map (·.1))) Lin H where
  ext := fun b u e => by
    unfold del at e
    split at e
    · cases e
    · exact e
  own := fun q hq => ⟨del_in (List.mem_map.mpr ⟨q, hq, rfl⟩), (h.own q (List.mem_append_left _ hq)).2⟩
  nd := by
    have n := h.nd
    rw [List.map_append] at n
    exact (List.nodup_append.mp n).1
/-- what is given back -/
theorem SI.back (h : SI B (Lin ++ Lr) H) (h' : SI (del H (Lin.map (·.1))) Lout H') : SI B (Lout ++ Lr) H' where
  ext := fun b u e => by
    refine h'.ext b u ?_
    rw [del_out fun hm => ?_]
    · exact h.ext b u e
    · obtain ⟨q, hq, rfl⟩ := List.mem_map.mp hm
      rw [(h.own q (List.mem_append_left _ hq)).1] at e
      cases e
  own := fun q hq => by
    rcases List.mem_append.mp hq with hq | hq
    · obtain ⟨a, b⟩ := h'.own q hq
      refine ⟨?_, b⟩
      by_cases hm : q.1 ∈ Lin.map (·.1)
      · obtain ⟨r, hr, e⟩ := List.mem_map.mp hm
        rw [← e]
        exact (h.own r (List.mem_append_left _ hr)).1
      · rw [del_out hm] at a
        exact h.ext.free a
    · obtain ⟨a, b⟩ := h.own q (List.mem_append_right _ hq)
      refine ⟨a, h'.ext _ _ ?_⟩
      rw [del_out fun hm => ?_]
      · exact b
      · have n := h.nd
        rw [List.map_append, List.nodup_append] at n
        exact n.2.2 _ hm _ (List.mem_map.mpr ⟨q, hq, rfl⟩) rfl
  nd := by
    have n := h.nd
    rw [List.map_append, List.nodup_append] at n
    rw [List.map_append, List.nodup_append]
    refine ⟨h'.nd, n.2.1, fun a ha b hb e => ?_⟩
    obtain ⟨q, hq, rfl⟩ := List.mem_map.mp ha
    obtain ⟨r, hr, rfl⟩ := List.mem_map.mp hb
    have x := (h'.own q hq).1
    rw [e, del_out fun hm => n.2.2 _ hm _ (List.mem_map.mpr ⟨r, hr, rfl⟩) rfl, (h.own r (List.mem_append_right _ hr)).2] at x
    cases x
end

/-! ### ends -/
def onE (D : Ends) (n : St → Hp → Prop) : Ends := { D with nx := n }
def loE (D : Ends) (n : St → Hp → Prop) : Ends := { D with nx := n, ct := n, bk := D.nx }
def endE (Q : VK) : Ends := { nx := fun _ H' => Q .non H', rt := Q }
theorem onE_nx {D : Ends} {n : St → Hp → Prop} : (onE D n).nx = n := rfl
theorem onE_rt {D : Ends} {n : St → Hp → Prop} : (onE D n).rt = D.rt := rfl
theorem onE_bk {D : Ends} {n : St → Hp → Prop} : (onE D n).bk = D.bk := rfl
theorem onE_ct {D : Ends} {n : St → Hp → Prop} : (onE D n).ct = D.ct := rfl
theorem loE_nx {D : Ends} {n : St → Hp → Prop} : (loE D n).nx = n := rfl
theorem loE_rt {D : Ends} {n : St → Hp → Prop} : (loE D n).rt = D.rt := rfl
theorem loE_bk {D : Ends} {n : St → Hp → Prop} : (loE D n).bk = D.nx := rfl
theorem loE_ct {D : Ends} {n : St → Hp → Prop} : (loE D n).ct = n := rfl
theorem endE_rt {Q : VK} : (endE Q).rt = Q := rfl
theorem endE_nx {Q : VK} : (endE Q).nx = fun _ H' => Q .non H' := rfl

/-! ### the goal's form -/
def N (B : Hp) (L : Own) (k : Hp → Prop) : Prop := ∀ H, SI B L H → k H
/-- behind a turn: what is owned, by a word -/
def KI (B : Hp) (P : St → Own → Prop) : St → Hp → Prop := fun σ H => ∃ L, SI B L H ∧ P σ L
def KW (B : Hp) (P : Nat → St → Own → Prop) (m : Nat) : St → Hp → Prop := fun σ H => ∃ m' L, m' < m ∧ SI B L H ∧ P m' σ L
def Sq (K : PySem.W.Frag) (B : Hp) (L : Own) (a : Addr) (xs : List V) : Prop := ∀ H, SI B L H → SqL K H a xs
def Tp (K : PySem.W.Frag) (B : Hp) (L : Own) (a : Addr) (xs : List V) : Prop := ∀ H, SI B L H → SqT K H a xs
def Is (B : Hp) (L : Own) (a : Addr) (o : HO) : Prop := ∀ H, SI B L H → H a = some o
theorem same_tup {K : PySem.W.Frag} {H H' : Hp} {a : Addr} {xs : List V} (e : Same H H') (h : SqT K H a xs) : SqT K H' a xs := by
  rcases h with (h | ⟨o, h⟩) | h
  · exact .inl (.inl (e _ _ h))
  · exact .inl (.inr ⟨o, e _ _ h⟩)
  · exact .inr h
section
variable {K : PySem.W.Frag} {B : Hp} {L L' : Own} {a p : Addr} {o : HO} {xs ys : List V} {k : Hp → Prop}
theorem sq_own (i : Nat) (h : L[i]? = some (a, .lst xs)) : Sq K B L a xs := fun _ s => SqL.of (s.at h)
theorem sq_old (h : SqL K B a xs) : Sq K B L a xs := fun _ s => s.ext.seq h
theorem tp_own (i : Nat) (h : L[i]? = some (a, .tup xs)) : Tp K B L a xs := fun _ s => SqT.of (s.at h)
theorem tp_old (h : SqT K B a xs) : Tp K B L a xs := fun _ s => same_tup s.ext h
theorem is_own (i : Nat) (h : L[i]? = some (a, o)) : Is B L a o := fun _ s => s.at h
theorem is_old (h : B a = some o) : Is B L a o := fun _ s => s.ext _ _ h
theorem is_sq (h : Is B L a (.lst xs)) : Sq K B L a xs := fun H s => SqL.of (h H s)
theorem Is.sub (h : Is B L a o) (s : L.Sublist L') : Is B L' a o := fun H x => h H (x.sub s)
theorem Sq.sub (h : Sq K B L a xs) (s : L.Sublist L') : Sq K B L' a xs := fun H x => h H (x.sub s)
theorem Sq.app (h : Sq K B L a xs) : Sq K B (L' ++ L) a xs := h.sub (List.sublist_append_right L' L)
theorem n_sub (s : L'.Sublist L) (h : N B L' k) : N B L k := fun H x => h H (x.sub s)
theorem n_perm (s : L.Perm L') (h : N B L' k) : N B L k := fun H x => h H (x.perm s)
theorem n_own {L'' : Own} (e : L = L'') (h : N B L'' k) : N B L k := by rw [e]; exact h
theorem n_of (h : ∀ H, SI B L H → k H) : N B L k := h

/-! ### operators of any kind -/
def rStrAdd : R2 := fun x y H Q => ∃ i j, x = .str i ∧ y = .str j ∧ i.length + j.length ≤ sizeLine ∧ Q (.str (i ++ j)) H
def uAdd (K : PySem.W.Frag) : R2 := fun x y H Q => (rI0 (fun i j => .int (i + j)) x y H Q ∨ rStrAdd x y H Q) ∨ (rCat x y H Q ∨ rCatA K x y H Q)
def uSub : R2 := rI0 fun i j => .int (i - j)
def uMul : R2 := fun x y H Q => (rI CMul (fun i j => .int (i * j)) x y H Q ∨ rI CMulW (fun i j => .int (i * j)) x y H Q) ∨ rRep x y H Q
def uDiv : R2 := fun x y H Q => rI CDiv (fun i j => .int (i / j)) x y H Q ∨ rI CDivW (fun i j => .int (i / j)) x y H Q
def uMod : R2 := rI (fun _ j => 0 < j) fun i j => .int (i % j)
def uPow : R2 := rI CPow fun i j => .int (i ^ j.toNat)
def uShl : R2 := fun x y H Q => rI CPow (fun i j => .int (i * 2 ^ j.toNat)) x y H Q ∨ rI CShl (fun i j => .int (i * 2 ^ j.toNat)) x y H Q
def uShr : R2 := rI (fun _ j => 0 ≤ j) fun i j => .int (i / 2 ^ j.toNat)
def uAnd : R2 := rI0 fun i j => .int (Builtin.bitAnd i j)
def uOr : R2 := rI0 fun i j => .int (Builtin.bitOr i j)
def uXor : R2 := rI0 fun i j => .int (Builtin.bitXor i j)
def uEq (K : PySem.W.Frag) : R2 := fun x y H Q => rEq x y H Q ∨ rEqD K x y H Q
def uNe (K : PySem.W.Frag) : R2 := fun x y H Q => rNe x y H Q ∨ rNeD K x y H Q
def uLt : R2 := rI0 fun i j => .bl (decide (i < j))
def uLe : R2 := rI0 fun i j => .bl (decide (i ≤ j))
def uGt : R2 := rI0 fun i j => .bl (decide (j < i))
def uGe : R2 := rI0 fun i j => .bl (decide (j ≤ i))
def uIsN : R2 := fun x y H Q => y = .non ∧ Q (.bl (decide (x = .non))) H
def uNotN : R2 := fun x y H Q => y = .non ∧ Q (.bl (!decide (x = .non))) H
def uLen (K : PySem.W.Frag) : List V → Hp → VK → Prop := fun xs H Q => ∃ p ys, xs = [.ref p] ∧ (SqL K H p ys ∨ SqT K H p ys) ∧ Q (.int ys.length) H
def uListOf (K : PySem.W.Frag) : List V → Hp → VK → Prop := fun xs H Q => ∃ p ys, xs = [.ref p] ∧ (SqL K H p ys ∨ SqT K H p ys) ∧ ∀ l, H l = none → Q (.ref l) (upd H l (.lst ys))
def rInsert : V → List V → Hp → VK → Prop := fun x vs H Q => ∃ (l : Addr) (xs : List V) (i : Int) (y : V), x = .ref l ∧ vs = [.int i, y] ∧ H l = some (.lst xs) ∧ xs.length < sizeLine ∧ 0 ≤ i ∧ i < 2 ^ 63 ∧
    Q .non (upd H l (.lst (xs.take i.toNat ++ [y] ++ xs.drop i.toNat)))
section
variable {X : Cx}
theorem op_uAdd : OpR X (binaryOp .Add) (uAdd X.K) := (op_add.or op_add_str).or (op_cat.or op_catA)
theorem op_uSub : OpR X (binaryOp .Sub) uSub := op_sub
theorem op_uMul : OpR X (binaryOp .Mult) uMul := (op_mul.or op_mulW).or op_rep
theorem op_uDiv : OpR X (binaryOp .FloorDiv) uDiv := op_fdiv.or op_fdivW
theorem op_uMod : OpR X (binaryOp .Mod) uMod := op_mod
theorem op_uPow : OpR X (binaryOp .Pow) uPow := op_pow
theorem op_uShl : OpR X (binaryOp .LShift) uShl := op_shl.or op_shlW
theorem op_uShr : OpR X (binaryOp .RShift) uShr := op_shr
theorem op_uAnd : OpR X (binaryOp .BitAnd) uAnd := op_and
theorem op_uOr : OpR X (binaryOp .BitOr) uOr := op_or
theorem op_uXor : OpR X (binaryOp .BitXor) uXor := op_xor
theorem op_uEq (hu : X.A.units + 64 < cLine) : OpR X (compareOp .Eq) (uEq X.K) := op_eq.or (op_eqD hu)
theorem op_uNe (hu : X.A.units + 64 < cLine) : OpR X (compareOp .NotEq) (uNe X.K) := op_ne.or (op_neD hu)
theorem op_uLt : OpR X (compareOp .Lt) uLt := op_lt
theorem op_uLe : OpR X (compareOp .LtE) uLe := op_le
theorem op_uGt : OpR X (compareOp .Gt) uGt := op_gt
theorem op_uGe : OpR X (compareOp .GtE) uGe := op_ge
theorem op_uIsN : OpR X (compareOp .Is) uIsN := op_isN
theorem op_uNotN : OpR X (compareOp .IsNot) uNotN := op_notN
theorem call_uLen : CallR X (.builtin "len") (uLen X.K) := call_len_seq
theorem call_uList : CallR X (.type "list") (uListOf X.K) := call_list_of
theorem mt_uInsert : MtM X "list.insert" rInsert := mt_insert
end

/-! ### expressions -/
variable {σ : St} {Q : VK} {v x y : V} {ta tb te : TE} {t u : TT} {b : Bool} {QB : Bool → Hp → Prop}
theorem n_var {i : Nat} (h : σ[i]? = some (some v)) (q : N B L (Q v)) : N B L (fun H => tVar i σ H Q) := fun H s => ⟨v, h, q H s⟩
theorem n_c (q : N B L (Q v)) : N B L (fun H => tC v σ H Q) := q
theorem n_op {r : R2} (q : N B L (fun H => ta σ H fun x H1 => tb σ H1 fun y H2 => r x y H2 Q)) : N B L (fun H => tOp r ta tb σ H Q) := q
theorem n_un {r : V → Hp → VK → Prop} (q : N B L (fun H => ta σ H fun x H1 => r x H1 Q)) : N B L (fun H => tUn r ta σ H Q) := q
theorem n_nil {QA : List V → Hp → Prop} (q : N B L (QA [])) : N B L (fun H => tNil σ H QA) := q
theorem n_cons {tr : TA} {QA : List V → Hp → Prop} (q : N B L (fun H => ta σ H fun x H1 => tr σ H1 fun xs H2 => QA (x :: xs) H2)) : N B L (fun H => tCons ta tr σ H QA) := q
theorem n_cb {r : List V → Hp → VK → Prop} {tr : TA} (q : N B L (fun H => tr σ H fun vs H1 => r vs H1 Q)) : N B L (fun H => tCB r tr σ H Q) := q
theorem n_call {sp : Sp} {dvs : List V} {E : XK} {tr : TA} (q : N B L (fun H => tr σ H fun vs H1 => sp (vs ++ dvs) H1 Q E)) : N B L (fun H => tCall sp dvs E tr σ H Q) := q
theorem n_test (q : N B L (fun H => te σ H fun x H' => ∃ k, x = .bl k ∧ QB k H')) : N B L (fun H => tTest te σ H QB) := q
theorem n_tB (q : N B L (fun H => te σ H fun x H' => ∃ k, x = .bl k ∧ QB k H')) : N B L (fun H => tB te σ H QB) := q
theorem n_bl (q : N B L (QB b)) : N B L (fun H => ∃ k, V.bl b = V.bl k ∧ QB k H) := fun H s => ⟨b, rfl, q H s⟩
theorem n_blV (q : N B L (Q (.bl b))) : N B L (fun H => Q (.bl b) H) := q
/-- a test's answer, told once for whatever follows -/
def ET (B : Hp) (L : Own) (t : TT) (σ : St) (b : Bool) : Prop := ∀ QB : Bool → Hp → Prop, N B L (QB b) → N B L (fun H => t σ H QB)
def EV (B : Hp) (L : Own) (t : TE) (σ : St) (v : V) : Prop := ∀ Q : VK, N B L (Q v) → N B L (fun H => t σ H Q)
theorem n_and {a c : Bool} (h1 : ET B L t σ a) (h2 : a = true → ET B L u σ c) (q : N B L (QB (a && c))) : N B L (fun H => tAnd t u σ H QB) := by
  refine h1 (fun c H1 => if c = true then u σ H1 QB else QB false H1) fun H s => ?_
  cases a with
  | true => exact h2 rfl QB q H s
  | false => exact q H s
theorem n_or {a c : Bool} (h1 : ET B L t σ a) (h2 : a = false → ET B L u σ c) (q : N B L (QB (a || c))) : N B L (fun H => tOr t u σ H QB) := by
  refine h1 (fun c H1 => if c = true then QB true H1 else u σ H1 QB) fun H s => ?_
  cases a with
  | true => exact q H s
  | false => exact h2 rfl QB q H s
theorem n_not (q : N B L (fun H => t σ H fun c H1 => QB (!c) H1)) : N B L (fun H => tNot t σ H QB) := q
theorem n_andV {a c : Bool} (h1 : EV B L ta σ (.bl a)) (h2 : a = true → EV B L tb σ (.bl c)) (q : N B L (Q (.bl (a && c)))) : N B L (fun H => tAndV ta tb σ H Q) := by
  refine h1 (fun x H1 => ∃ c, x = .bl c ∧ if c = true then tb σ H1 Q else Q (.bl false) H1) fun H s => ⟨a, rfl, ?_⟩
  cases a with
  | true => exact h2 rfl Q q H s
  | false => exact q H s
theorem n_orV {a c : Bool} (h1 : EV B L ta σ (.bl a)) (h2 : a = false → EV B L tb σ (.bl c)) (q : N B L (Q (.bl (a || c)))) : N B L (fun H => tOrV ta tb σ H Q) := by
  refine h1 (fun x H1 => ∃ c, x = .bl c ∧ if c = true then Q (.bl true) H1 else tb σ H1 Q) fun H s => ⟨a, rfl, ?_⟩
  cases a with
  | true => exact q H s
  | false => exact h2 rfl Q q H s
theorem n_notV (q : N B L (fun H => ta σ H fun x H1 => ∃ c, x = .bl c ∧ Q (.bl (!c)) H1)) : N B L (fun H => tNotV ta σ H Q) := q
theorem n_ifE (q : N B L (fun H => t σ H fun c H1 => if c = true then ta σ H1 Q else tb σ H1 Q)) : N B L (fun H => tIf t ta tb σ H Q) := q
theorem n_chain {r r' : R2} {tc : TE} (q : N B L (fun H => ta σ H fun x H1 => tb σ H1 fun y H2 => r x y H2 fun z H3 => ∃ k, z = .bl k ∧ (if k = true then tc σ H3 fun w' H4 => r' y w' H4 Q else Q (.bl false) H3))) : N B L (fun H => tChain r r' ta tb tc σ H Q) := q
/-- the chain's second half, where the value is a truth -/
theorem n_chain2 {r' : R2} {tc : TE} {c : Bool} (h2 : b = true → ∀ Q' : VK, N B L (Q' (.bl c)) → N B L (fun H => tc σ H fun w' H4 => r' y w' H4 Q')) (q : N B L (Q (.bl (b && c)))) :
    N B L (fun H3 => ∃ k, V.bl b = V.bl k ∧ (if k = true then tc σ H3 fun w' H4 => r' y w' H4 Q else Q (.bl false) H3)) := fun H s => ⟨b, rfl, by
  cases b with
  | true => exact h2 rfl Q q H s
  | false => exact q H s⟩
theorem n_ite {k1 k2 : Hp → Prop} (h1 : b = true → N B L k1) (h2 : b = false → N B L k2) : N B L (fun H => if b = true then k1 H else k2 H) := fun H s => by
  cases b with
  | true => exact h1 rfl H s
  | false => exact h2 rfl H s
theorem n_iteD {c : Prop} [Decidable c] {k1 k2 : Hp → Prop} (h1 : c → N B L k1) (h2 : ¬ c → N B L k2) : N B L (fun H => if decide c = true then k1 H else k2 H) :=
  n_ite (fun h => h1 (of_decide_eq_true h)) (fun h => h2 (of_decide_eq_false h))
theorem n_iteND {c : Prop} [Decidable c] {k1 k2 : Hp → Prop} (h1 : ¬ c → N B L k1) (h2 : c → N B L k2) : N B L (fun H => if (!decide c) = true then k1 H else k2 H) :=
  n_ite (fun h => h1 (fun hc => by rw [decide_eq_true hc] at h; cases h)) (fun h => h2 (Classical.byContradiction fun hc => by rw [decide_eq_false hc] at h; cases h))
theorem n_iteT {k1 k2 : Hp → Prop} (h1 : N B L k1) : N B L (fun H => if true = true then k1 H else k2 H) := n_ite (fun _ => h1) (fun h => nomatch h)
theorem n_iteF {k1 k2 : Hp → Prop} (h1 : N B L k2) : N B L (fun H => if false = true then k1 H else k2 H) := n_ite (fun h => nomatch h) (fun _ => h1)

/-! ### operators -/
variable {i j : Int} {s1 s2 : Str}
theorem n_rI {C : Int → Int → Prop} {g : Int → Int → V} (h : C i j) (q : N B L (Q (g i j))) : N B L (fun H => rI C g (.int i) (.int j) H Q) := fun H s => ⟨i, j, rfl, rfl, h, q H s⟩
theorem n_rI0 {g : Int → Int → V} (q : N B L (Q (g i j))) : N B L (fun H => rI0 g (.int i) (.int j) H Q) := fun H s => ⟨i, j, rfl, rfl, q H s⟩
theorem n_add (q : N B L (Q (.int (i + j)))) : N B L (fun H => uAdd K (.int i) (.int j) H Q) := fun H s => .inl (.inl ⟨i, j, rfl, rfl, q H s⟩)
theorem n_addS (h : s1.length + s2.length ≤ sizeLine) (q : N B L (Q (.str (s1 ++ s2)))) : N B L (fun H => uAdd K (.str s1) (.str s2) H Q) := fun H s => .inl (.inr ⟨s1, s2, rfl, rfl, h, q H s⟩)
theorem n_sub_ (q : N B L (Q (.int (i - j)))) : N B L (fun H => uSub (.int i) (.int j) H Q) := fun H s => ⟨i, j, rfl, rfl, q H s⟩
theorem n_mul (h : CMul i j) (q : N B L (Q (.int (i * j)))) : N B L (fun H => uMul (.int i) (.int j) H Q) := fun H s => .inl (.inl ⟨i, j, rfl, rfl, h, q H s⟩)
theorem n_mulW (h : CMulW i j) (q : N B L (Q (.int (i * j)))) : N B L (fun H => uMul (.int i) (.int j) H Q) := fun H s => .inl (.inr ⟨i, j, rfl, rfl, h, q H s⟩)
theorem n_div (h0 : 0 < j) (h1 : j < 1073741824) (q : N B L (Q (.int (i / j)))) : N B L (fun H => uDiv (.int i) (.int j) H Q) := fun H s => .inl ⟨i, j, rfl, rfl, ⟨h0, h1⟩, q H s⟩
theorem n_divW (h : CDivW i j) (q : N B L (Q (.int (i / j)))) : N B L (fun H => uDiv (.int i) (.int j) H Q) := fun H s => .inr ⟨i, j, rfl, rfl, h, q H s⟩
theorem n_mod (h0 : 0 < j) (q : N B L (Q (.int (i % j)))) : N B L (fun H => uMod (.int i) (.int j) H Q) := fun H s => ⟨i, j, rfl, rfl, h0, q H s⟩
theorem n_pow (h : CPow i j) (q : N B L (Q (.int (i ^ j.toNat)))) : N B L (fun H => uPow (.int i) (.int j) H Q) := fun H s => ⟨i, j, rfl, rfl, h, q H s⟩
theorem n_shl (h : CPow i j) (q : N B L (Q (.int (i * 2 ^ j.toNat)))) : N B L (fun H => uShl (.int i) (.int j) H Q) := fun H s => .inl ⟨i, j, rfl, rfl, h, q H s⟩
theorem n_shlW (h : CShl i j) (q : N B L (Q (.int (i * 2 ^ j.toNat)))) : N B L (fun H => uShl (.int i) (.int j) H Q) := fun H s => .inr ⟨i, j, rfl, rfl, h, q H s⟩
theorem n_shr (h : 0 ≤ j) (q : N B L (Q (.int (i / 2 ^ j.toNat)))) : N B L (fun H => uShr (.int i) (.int j) H Q) := fun H s => ⟨i, j, rfl, rfl, h, q H s⟩
theorem n_and_ (q : N B L (Q (.int (Builtin.bitAnd i j)))) : N B L (fun H => uAnd (.int i) (.int j) H Q) := fun H s => ⟨i, j, rfl, rfl, q H s⟩
theorem n_or_ (q : N B L (Q (.int (Builtin.bitOr i j)))) : N B L (fun H => uOr (.int i) (.int j) H Q) := fun H s => ⟨i, j, rfl, rfl, q H s⟩
theorem dec_int : decide (V.int i = V.int j) = decide (i = j) := by
  by_cases h : i = j
  · rw [decide_eq_true h, decide_eq_true (by rw [h])]
  · rw [decide_eq_false h, decide_eq_false (fun e => h (V.int.inj e))]
theorem dec_str : decide (V.str s1 = V.str s2) = decide (s1 = s2) := by
  by_cases h : s1 = s2
  · rw [decide_eq_true h, decide_eq_true (by rw [h])]
  · rw [decide_eq_false h, decide_eq_false (fun e => h (V.str.inj e))]
theorem n_eq (q : N B L (Q (.bl (decide (i = j))))) : N B L (fun H => uEq K (.int i) (.int j) H Q) := fun H s => .inl ⟨rfl, by rw [dec_int]; exact q H s⟩
theorem n_ne (q : N B L (Q (.bl (!decide (i = j))))) : N B L (fun H => uNe K (.int i) (.int j) H Q) := fun H s => .inl ⟨rfl, by rw [dec_int]; exact q H s⟩
theorem n_eqS (q : N B L (Q (.bl (decide (s1 = s2))))) : N B L (fun H => uEq K (.str s1) (.str s2) H Q) := fun H s => .inl ⟨rfl, by rw [dec_str]; exact q H s⟩
theorem n_neS (q : N B L (Q (.bl (!decide (s1 = s2))))) : N B L (fun H => uNe K (.str s1) (.str s2) H Q) := fun H s => .inl ⟨rfl, by rw [dec_str]; exact q H s⟩
theorem n_eqB {a c : Bool} (q : N B L (Q (.bl (a == c)))) : N B L (fun H => uEq K (.bl a) (.bl c) H Q) := fun H s => .inl ⟨rfl, by
  have e : decide (V.bl a = V.bl c) = (a == c) := by cases a <;> cases c <;> rfl
  rw [e]; exact q H s⟩
theorem n_neB {a c : Bool} (q : N B L (Q (.bl (a != c)))) : N B L (fun H => uNe K (.bl a) (.bl c) H Q) := fun H s => .inl ⟨rfl, by
  have e : (!decide (V.bl a = V.bl c)) = (a != c) := by cases a <;> cases c <;> rfl
  rw [e]; exact q H s⟩
theorem n_lt (q : N B L (Q (.bl (decide (i < j))))) : N B L (fun H => uLt (.int i) (.int j) H Q) := fun H s => ⟨i, j, rfl, rfl, q H s⟩
theorem n_le (q : N B L (Q (.bl (decide (i ≤ j))))) : N B L (fun H => uLe (.int i) (.int j) H Q) := fun H s => ⟨i, j, rfl, rfl, q H s⟩
theorem n_gt (q : N B L (Q (.bl (decide (j < i))))) : N B L (fun H => uGt (.int i) (.int j) H Q) := fun H s => ⟨i, j, rfl, rfl, q H s⟩
theorem n_ge (q : N B L (Q (.bl (decide (j ≤ i))))) : N B L (fun H => uGe (.int i) (.int j) H Q) := fun H s => ⟨i, j, rfl, rfl, q H s⟩
theorem n_neg {g : Int → V} (q : N B L (Q (g i))) : N B L (fun H => rU g (.int i) H Q) := fun H s => ⟨i, rfl, q H s⟩
theorem n_isN (q : N B L (Q (.bl (decide (x = .non))))) : N B L (fun H => uIsN x .non H Q) := fun H s => ⟨rfl, q H s⟩
theorem n_notN (q : N B L (Q (.bl (!decide (x = .non))))) : N B L (fun H => uNotN x .non H Q) := fun H s => ⟨rfl, q H s⟩
theorem n_cat {zs : List V} {l c : Addr} (hl : Is B L l (.lst xs)) (hc : Is B L c (.lst zs)) (hn : xs.length + zs.length ≤ sizeLine) (q : ∀ p, N B ((p, .lst (xs ++ zs)) :: L) (Q (.ref p))) : N B L (fun H => uAdd K (.ref l) (.ref c) H Q) :=
  fun H s => .inr (.inl ⟨l, c, xs, zs, rfl, rfl, hl H s, hc H s, hn, fun p hp => q p _ (s.new hp)⟩)
theorem n_rep {l : Addr} (hl : Is B L l (.lst xs)) (h0 : -(2 ^ 63) ≤ j) (h1 : j < 2 ^ 63) (hn : xs.length * j.toNat ≤ sizeLine) (q : ∀ p, N B ((p, .lst (List.replicate j.toNat xs).flatten) :: L) (Q (.ref p))) : N B L (fun H => uMul (.ref l) (.int j) H Q) :=
  fun H s => .inr ⟨l, j, xs, rfl, rfl, hl H s, h0, h1, hn, fun p hp => q p _ (s.new hp)⟩
theorem n_len (h : Sq K B L a xs) (q : N B L (Q (.int xs.length))) : N B L (fun H => uLen K [.ref a] H Q) := fun H s => ⟨a, xs, rfl, .inl (h H s), q H s⟩
theorem n_lenT (h : Tp K B L a xs) (q : N B L (Q (.int xs.length))) : N B L (fun H => uLen K [.ref a] H Q) := fun H s => ⟨a, xs, rfl, .inr (h H s), q H s⟩
theorem n_listOf (h : Sq K B L a xs) (q : ∀ p, N B ((p, .lst xs) :: L) (Q (.ref p))) : N B L (fun H => uListOf K [.ref a] H Q) := fun H s => ⟨a, xs, rfl, .inl (h H s), fun p hp => q p _ (s.new hp)⟩
theorem n_listOfT (h : Tp K B L a xs) (q : ∀ p, N B ((p, .lst xs) :: L) (Q (.ref p))) : N B L (fun H => uListOf K [.ref a] H Q) := fun H s => ⟨a, xs, rfl, .inr (h H s), fun p hp => q p _ (s.new hp)⟩
def LstK (Q : VK) (xs : List V) (H1 : Hp) : Prop := xs.length ≤ sizeLine ∧ ∀ p, H1 p = none → Q (.ref p) (upd H1 p (.lst xs))
def TupK (Q : VK) (xs : List V) (H1 : Hp) : Prop := xs.length ≤ sizeLine ∧ ∀ p, H1 p = none → Q (.ref p) (upd H1 p (.tup xs))
theorem n_lst {tr : TA} (q : N B L (fun H => tr σ H (LstK Q))) : N B L (fun H => tLst tr σ H Q) := q
theorem n_lst2 (hn : xs.length ≤ sizeLine) (q : ∀ p, N B ((p, .lst xs) :: L) (Q (.ref p))) : N B L (fun H1 => LstK Q xs H1) := fun H s => ⟨hn, fun p hp => q p _ (s.new hp)⟩
theorem n_tup {tr : TA} (q : N B L (fun H => tr σ H (TupK Q))) : N B L (fun H => tTup tr σ H Q) := q
theorem n_tup2 (hn : xs.length ≤ sizeLine) (q : ∀ p, N B ((p, .tup xs) :: L) (Q (.ref p))) : N B L (fun H1 => TupK Q xs H1) := fun H s => ⟨hn, fun p hp => q p _ (s.new hp)⟩
theorem n_ixL (hs : Sq K B L a xs) (h : atI xs i = some v) (q : N B L (Q v)) : N B L (fun H => rIx K (.ref a) (.int i) H Q) := fun H s => .inl ⟨a, xs, i, v, rfl, rfl, hs H s, h, q H s⟩
theorem n_ixT (hs : Tp K B L a xs) (h : atI xs i = some v) (q : N B L (Q v)) : N B L (fun H => rIx K (.ref a) (.int i) H Q) := fun H s => .inr (.inl ⟨a, xs, i, v, rfl, rfl, hs H s, h, q H s⟩)
theorem n_sl {r : V → Option Int → Option Int → Hp → VK → Prop} {tl th : TO} (q : N B L (fun H => te σ H fun x H1 => tl σ H1 fun l H2 => th σ H2 fun u H3 => r x l u H3 Q)) : N B L (fun H => tSl r te tl th σ H Q) := q
theorem n_noPart {QO : Option Int → Hp → Prop} (q : N B L (QO none)) : N B L (fun H => tNoPart σ H QO) := q
def PartK (QO : Option Int → Hp → Prop) (x : V) (H1 : Hp) : Prop := ∃ i, x = .int i ∧ QO (some i) H1
theorem n_part {QO : Option Int → Hp → Prop} (q : N B L (fun H => te σ H (PartK QO))) : N B L (fun H => tPart te σ H QO) := q
theorem n_int {QO : Option Int → Hp → Prop} (q : N B L (QO (some i))) : N B L (fun H => PartK QO (.int i) H) := fun H s => ⟨i, rfl, q H s⟩
theorem n_slL {lo hi : Option Int} (hs : Sq K B L a xs) (q : ∀ p, N B ((p, .lst (cutV xs lo hi)) :: L) (Q (.ref p))) : N B L (fun H => rSlL K (.ref a) lo hi H Q) := fun H s => ⟨a, xs, rfl, hs H s, fun p hp => q p _ (s.new hp)⟩

/-! ### statements -/
variable {D : Ends} {ts tz tw : TS}
theorem n_next (q : N B L (D.nx σ)) : N B L (fun H => tNext D σ H) := q
theorem n_brk (q : N B L (D.bk σ)) : N B L (fun H => tBreak D σ H) := q
theorem n_cont (q : N B L (D.ct σ)) : N B L (fun H => tCont D σ H) := q
theorem n_asg {n : Nat} (q : N B L (fun H => te σ H fun x H1 => tz D (σ.set n (some x)) H1)) : N B L (fun H => tSeq (tAsg te (gName n)) tz D σ H) := q
theorem n_asgT {n : Nat} {gs : TGs} (q : N B L (fun H => te σ H fun x H1 => gTup K n gs x σ H1 (tz D))) : N B L (fun H => tSeq (tAsg te (gTup K n gs)) tz D σ H) := q
theorem n_asgS {to ti : TE} {se : TSet} (q : N B L (fun H => te σ H fun x H1 => to σ H1 fun o H2 => ti σ H2 fun n H3 => se o n x H3 (tz D σ))) : N B L (fun H => tSeq (tAsg te (gSub to ti se)) tz D σ H) := q
theorem n_gTup {n : Nat} {gs : TGs} {k : St → Hp → Prop} (hs : Tp K B L a xs) (hl : xs.length = n) (q : N B L (fun H => gs xs σ H k)) : N B L (fun H => gTup K n gs (.ref a) σ H k) := fun H s => ⟨a, xs, rfl, hs H s, hl, q H s⟩
theorem n_gName {n : Nat} {k : St → Hp → Prop} (q : N B L (k (σ.set n (some v)))) : N B L (fun H => gName n v σ H k) := q
theorem n_gCons {n : Nat} {gs : TGs} {k : St → Hp → Prop} (q : N B L (fun H => gs xs (σ.set n (some v)) H k)) : N B L (fun H => gCons (gName n) gs (v :: xs) σ H k) := fun H s => ⟨v, xs, rfl, q H s⟩
theorem n_gNil {k : St → Hp → Prop} (q : N B L (k σ)) : N B L (fun H => gNil [] σ H k) := fun H s => ⟨rfl, q H s⟩
theorem n_drop (q : N B L (fun H => te σ H fun _ H1 => tz D σ H1)) : N B L (fun H => tSeq (tDrop te) tz D σ H) := q
theorem n_ret (q : N B L (fun H => te σ H D.rt)) : N B L (fun H => tSeq (tRet te) tz D σ H) := q
theorem n_retN (q : N B L (D.rt .non)) : N B L (fun H => tSeq tRetN tz D σ H) := q
theorem n_seqBrk (q : N B L (D.bk σ)) : N B L (fun H => tSeq tBreak tz D σ H) := q
theorem n_seqCont (q : N B L (D.ct σ)) : N B L (fun H => tSeq tCont tz D σ H) := q
theorem n_seqNext (q : N B L (fun H => tz D σ H)) : N B L (fun H => tSeq tNext tz D σ H) := q
theorem n_if (q : N B L (fun H => t σ H fun b H1 => if b = true then ts (onE D (tz D)) σ H1 else tw (onE D (tz D)) σ H1)) : N B L (fun H => tSeq (tIfS t ts tw) tz D σ H) := q
theorem n_aug {n : Nat} {f : Int → Int → Int} {c : Int} (h : σ[n]? = some (some (.int c))) (q : N B L (fun H => te σ H fun y H1 => ipI f (.int c) y H1 fun z H2 => tz D (σ.set n (some z)) H2)) : N B L (fun H => tSeq (tAug n te (ipI f)) tz D σ H) := fun H s => ⟨_, h, q H s⟩
theorem n_ip {f : Int → Int → Int} (q : N B L (Q (.int (f i j)))) : N B L (fun H => ipI f (.int i) (.int j) H Q) := fun H s => ⟨i, j, rfl, rfl, q H s⟩
theorem n_cut {D : Ends} (M : St → Own → Prop) (h : N B L (fun H => tSeq ts tNext (onE D (KI B M)) σ H)) (k : ∀ σ' L', M σ' L' → N B L' (fun H => tz D σ' H)) : N B L (fun H => Evl.tCut ts tz D σ H) :=
  fun H s => ⟨KI B M, h H s, fun σ' H' ⟨L', s', m⟩ => k σ' L' m H' s'⟩
/-- behind a turn -/
theorem n_ki {P : St → Own → Prop} (h : P σ L') (s : L'.Sublist L) : N B L (KI B P σ) := fun H x => ⟨L', x.sub s, h⟩
theorem n_kiP {P : St → Own → Prop} {L'' : Own} (h : P σ L'') (s : L'.Sublist L) (e : L'.Perm L'') : N B L (KI B P σ) := fun H x => ⟨L'', (x.sub s).perm e, h⟩
theorem n_kw {P : Nat → St → Own → Prop} {m m' : Nat} (h : P m' σ L') (lt : m' < m) (s : L'.Sublist L) : N B L (KW B P m σ) := fun H x => ⟨m', L', lt, x.sub s, h⟩

/-! ### methods of lists -/
theorem n_bm {T : String} {r : V → List V → Hp → VK → Prop} {tr : TA} (q : N B L (fun H => te σ H fun x H1 => tyV K T x H1 ∧ tr σ H1 fun xs H2 => r x xs H2 Q)) : N B L (fun H => tBM K T r te tr σ H Q) := q
theorem n_bm0 {T : String} {r : V → List V → Hp → VK → Prop} (q : N B L (fun H => te σ H fun x H1 => tyV K T x H1 ∧ r x [] H1 Q)) : N B L (fun H => tBM0 K T r te σ H Q) := q
theorem n_tyL {k : Hp → Prop} (hs : Sq K B L a xs) (q : N B L k) : N B L (fun H => tyV K "list" (.ref a) H ∧ k H) := fun H s => ⟨.inl ⟨rfl, xs, hs H s⟩, q H s⟩
theorem n_append {n : Nat} {l : Addr} (hi : L[n]? = some (l, .lst xs)) (hz : xs.length < sizeLine) (q : N B (L.set n (l, .lst (xs ++ [v]))) (Q .non)) : N B L (fun H => rAppend (.ref l) [v] H Q) :=
  fun H s => ⟨l, xs, v, rfl, rfl, s.at hi, hz, q _ (s.set hi)⟩
theorem n_extend {n : Nat} {l c : Addr} (hi : L[n]? = some (l, .lst xs)) (hc : Is B L c (.lst ys)) (hz : xs.length + ys.length ≤ sizeLine) (q : N B (L.set n (l, .lst (xs ++ ys))) (Q .non)) : N B L (fun H => rExtend (.ref l) [.ref c] H Q) :=
  fun H s => ⟨l, c, xs, ys, rfl, rfl, s.at hi, hc H s, hz, q _ (s.set hi)⟩
theorem n_insert {n : Nat} {l : Addr} (hi : L[n]? = some (l, .lst xs)) (hz : xs.length < sizeLine) (h0 : 0 ≤ i) (h1 : i < 2 ^ 63) (q : N B (L.set n (l, .lst (xs.take i.toNat ++ [v] ++ xs.drop i.toNat))) (Q .non)) : N B L (fun H => rInsert (.ref l) [.int i, v] H Q) :=
  fun H s => ⟨l, xs, i, v, rfl, rfl, s.at hi, hz, h0, h1, q _ (s.set hi)⟩
theorem n_setL {n m : Nat} {l : Addr} {k : Hp → Prop} (hi : L[n]? = some (l, .lst xs)) (hj : ixN xs.length i = some m) (q : N B (L.set n (l, .lst (xs.set m v))) k) : N B L (fun H => rSetL (.ref l) (.int i) v H k) :=
  fun H s => ⟨l, xs, i, m, rfl, rfl, s.at hi, hj, q _ (s.set hi)⟩

/-! ### loops -/
/-- a for's question behind what it walks -/
def Lp (g : TG) (tb : TS) (D : Ends) (σ : St) (J : It) (H1 : Hp) : Prop := ∃ W : Nat → Nat → St → Hp → Prop, (∃ m, W 0 m σ H1) ∧ ∀ i m σ H, W i m σ H →
  (J.stop i H ∧ D.nx σ H) ∨ (J.go i H ∧ ∃ N : St → Hp → Prop, (∀ σ' H', N σ' H' → ∃ m', m' < m ∧ W (i + 1) m' σ' H') ∧ ∀ x H', J.yld i H x H' → g x σ H' fun σ2 H2 => tb { D with nx := N, ct := N, bk := D.nx } σ2 H2)
variable {g : TG} {tb' : TS}
theorem n_for {wi : TI} (q : N B L (fun H => wi σ H (Lp g ts (onE D (tz D)) σ))) : N B L (fun H => tSeq (tFor wi g ts) tz D σ H) := q
def IL (K : PySem.W.Frag) (R : It → Hp → Prop) (x : V) (H1 : Hp) : Prop := ∃ a, x = .ref a ∧ (∃ xs, SqL K H1 a xs) ∧ R (Itl K a) H1
def ILT (K : PySem.W.Frag) (R : It → Hp → Prop) (x : V) (H1 : Hp) : Prop := ∃ a, x = .ref a ∧ (∃ xs, SqT K H1 a xs) ∧ R (Itt K a) H1
theorem n_iList {tl : TE} {R : It → Hp → Prop} (q : N B L (fun H => tl σ H (IL K R))) : N B L (fun H => iList K tl σ H R) := q
theorem n_iTup {tl : TE} {R : It → Hp → Prop} (q : N B L (fun H => tl σ H (ILT K R))) : N B L (fun H => iTup K tl σ H R) := q
/-- the turns of a walk that yields xs one by one and changes nothing -/
theorem lp_core {J : It} (n : Nat) (yl : Nat → V) (Pv : Nat → St → Own → Prop)
    (hgo : ∀ i σ L H, Pv i σ L → i < n → SI B L H → J.go i H) (hst : ∀ σ L H, Pv n σ L → SI B L H → J.stop n H) (hy : ∀ i σ L H x H', Pv i σ L → i < n → SI B L H → J.yld i H x H' → H' = H ∧ x = yl i)
    (h0 : Pv 0 σ L) (hs : ∀ i σ L, i < n → Pv i σ L → N B L (fun H => g (yl i) σ H fun σ2 H2 => ts (loE D (KI B (Pv (i + 1)))) σ2 H2))
    (hd : ∀ σ L, Pv n σ L → N B L (D.nx σ)) : N B L (fun H => Lp g ts D σ J H) := by
  intro H s
  refine ⟨fun i m σ H => m = n - i ∧ i ≤ n ∧ ∃ L, SI B L H ∧ Pv i σ L, ⟨n, by omega, Nat.zero_le _, L, s, h0⟩, ?_⟩
  rintro i m σ H ⟨rfl, hi, L, s, p⟩
  by_cases hlt : i < n
  · refine .inr ⟨hgo i σ L H p hlt s, KI B (Pv (i + 1)), fun σ' H' ⟨L', s', p'⟩ => ⟨n - (i + 1), by omega, rfl, hlt, L', s', p'⟩, fun x H' hx => ?_⟩
    obtain ⟨rfl, rfl⟩ := hy i σ L H x H' p hlt s hx
    exact hs i σ L hlt p _ s
  · have e : i = n := by omega
    subst e
    exact .inl ⟨hst σ L H p s, hd σ L p H s⟩
theorem n_lpL (Pv : Nat → St → Own → Prop) (hq : ∀ i σ L, i ≤ xs.length → Pv i σ L → Sq K B L a xs) (h0 : Pv 0 σ L)
    (hs : ∀ i σ L (hi : i < xs.length), Pv i σ L → N B L (fun H => g xs[i] σ H fun σ2 H2 => ts (loE D (KI B (Pv (i + 1)))) σ2 H2))
    (hd : ∀ σ L, Pv xs.length σ L → N B L (D.nx σ)) : N B L (fun H => IL K (Lp g ts D σ) (.ref a) H) := by
  intro H s
  refine ⟨a, rfl, ⟨xs, hq 0 σ L (Nat.zero_le _) h0 H s⟩, ?_⟩
  refine lp_core (J := Itl K a) xs.length (fun i => xs.getD i .non) Pv (fun i σ L H p hi s => ⟨xs, xs[i], hq i σ L (Nat.le_of_lt hi) p H s, List.getElem?_eq_getElem hi⟩) (fun σ L H p s => ⟨xs, hq _ σ L (Nat.le_refl _) p H s, Nat.le_refl _⟩) ?_ h0 ?_ hd H s
  · rintro i σ L H x H' p hi s ⟨e, hx⟩
    have := hx xs (hq i σ L (Nat.le_of_lt hi) p H s)
    refine ⟨e, ?_⟩
    rw [List.getElem?_eq_getElem hi] at this
    show x = xs.getD i .non
    rw [List.getD_eq_getElem?_getD, List.getElem?_eq_getElem hi]
    exact (Option.some.inj this).symm
  · intro i σ L hi p
    have e : xs.getD i .non = xs[i] := by rw [List.getD_eq_getElem?_getD, List.getElem?_eq_getElem hi]; rfl
    show N B L (fun H => g (xs.getD i .non) σ H _)
    rw [e]
    exact hs i σ L hi p
theorem n_lpT (Pv : Nat → St → Own → Prop) (hq : ∀ i σ L, i ≤ xs.length → Pv i σ L → Tp K B L a xs) (h0 : Pv 0 σ L)
    (hs : ∀ i σ L (hi : i < xs.length), Pv i σ L → N B L (fun H => g xs[i] σ H fun σ2 H2 => ts (loE D (KI B (Pv (i + 1)))) σ2 H2))
    (hd : ∀ σ L, Pv xs.length σ L → N B L (D.nx σ)) : N B L (fun H => ILT K (Lp g ts D σ) (.ref a) H) := by
  intro H s
  refine ⟨a, rfl, ⟨xs, hq 0 σ L (Nat.zero_le _) h0 H s⟩, ?_⟩
  refine lp_core (J := Itt K a) xs.length (fun i => xs.getD i .non) Pv (fun i σ L H p hi s => ⟨xs, xs[i], hq i σ L (Nat.le_of_lt hi) p H s, List.getElem?_eq_getElem hi⟩) (fun σ L H p s => ⟨xs, hq _ σ L (Nat.le_refl _) p H s, Nat.le_refl _⟩) ?_ h0 ?_ hd H s
  · rintro i σ L H x H' p hi s ⟨e, hx⟩
    have := hx xs (hq i σ L (Nat.le_of_lt hi) p H s)
    refine ⟨e, ?_⟩
    rw [List.getElem?_eq_getElem hi] at this
    show x = xs.getD i .non
    rw [List.getD_eq_getElem?_getD, List.getElem?_eq_getElem hi]
    exact (Option.some.inj this).symm
  · intro i σ L hi p
    have e : xs.getD i .non = xs[i] := by rw [List.getD_eq_getElem?_getD, List.getElem?_eq_getElem hi]; rfl
    show N B L (fun H => g (xs.getD i .non) σ H _)
    rw [e]
    exact hs i σ L hi p
/-- range -/
def IR1 (R : It → Hp → Prop) (vs : List V) (H1 : Hp) : Prop := ∃ j : Int, vs = [.int j] ∧ -(2 ^ 62) ≤ j ∧ j < 2 ^ 62 ∧ R (Itr 0 j.toNat) H1
def IR2 (R : It → Hp → Prop) (vs : List V) (H1 : Hp) : Prop := ∃ i j : Int, vs = [.int i, .int j] ∧ (-(2 ^ 62) ≤ i ∧ i < 2 ^ 62 ∧ -(2 ^ 62) ≤ j ∧ j < 2 ^ 62) ∧ R (Itr i (j - i).toNat) H1
theorem n_iR1 {tr : TA} {R : It → Hp → Prop} (q : N B L (fun H => tr σ H (IR1 R))) : N B L (fun H => iRng1 tr σ H R) := q
theorem n_iR2 {tr : TA} {R : It → Hp → Prop} (q : N B L (fun H => tr σ H (IR2 R))) : N B L (fun H => iRng2 tr σ H R) := q
theorem n_lpR {lo : Int} {n : Nat} (Pv : Nat → St → Own → Prop) (h0 : Pv 0 σ L)
    (hs : ∀ i σ L, i < n → Pv i σ L → N B L (fun H => g (.int (lo + i)) σ H fun σ2 H2 => ts (loE D (KI B (Pv (i + 1)))) σ2 H2))
    (hd : ∀ σ L, Pv n σ L → N B L (D.nx σ)) : N B L (fun H => Lp g ts D σ (Itr lo n) H) :=
  lp_core (J := Itr lo n) n (fun i => .int (lo + i)) Pv (fun i σ L H p hi s => hi) (fun σ L H p s => Nat.le_refl _) (fun i σ L H x H' p hi s h => h) h0 hs hd
theorem n_lpR1 (Pv : Nat → St → Own → Prop) (hb : -(2 ^ 62) ≤ j ∧ j < 2 ^ 62) (h0 : Pv 0 σ L)
    (hs : ∀ (i : Nat) σ L, (i : Int) < j → Pv i σ L → N B L (fun H => g (.int i) σ H fun σ2 H2 => ts (loE D (KI B (Pv (i + 1)))) σ2 H2))
    (hd : ∀ σ L, Pv j.toNat σ L → N B L (D.nx σ)) : N B L (fun H => IR1 (Lp g ts D σ) [.int j] H) := fun H s => ⟨j, rfl, hb.1, hb.2,
  n_lpR (lo := 0) (n := j.toNat) Pv h0 (fun i σ L hi p => by rw [Int.zero_add]; exact hs i σ L (by omega) p) hd H s⟩
theorem n_lpR2 (Pv : Nat → St → Own → Prop) (hb : -(2 ^ 62) ≤ i ∧ i < 2 ^ 62 ∧ -(2 ^ 62) ≤ j ∧ j < 2 ^ 62) (h0 : Pv 0 σ L)
    (hs : ∀ (n : Nat) σ L, i + (n : Int) < j → Pv n σ L → N B L (fun H => g (.int (i + n)) σ H fun σ2 H2 => ts (loE D (KI B (Pv (n + 1)))) σ2 H2))
    (hd : ∀ σ L, Pv (j - i).toNat σ L → N B L (D.nx σ)) : N B L (fun H => IR2 (Lp g ts D σ) [.int i, .int j] H) := fun H s => ⟨i, j, rfl, hb,
  n_lpR (lo := i) (n := (j - i).toNat) Pv h0 (fun n σ L hi p => hs n σ L (by omega) p) hd H s⟩
/-- reversed -/
def IV (K : PySem.W.Frag) (R : It → Hp → Prop) (vs : List V) (H1 : Hp) : Prop := ∃ (a : Addr) (xs : List V), vs = [.ref a] ∧ SqL K H1 a xs ∧ R (Itv K a xs.length) H1
theorem n_iV {tr : TA} {R : It → Hp → Prop} (q : N B L (fun H => tr σ H (IV K R))) : N B L (fun H => iRev K tr σ H R) := q
theorem n_lpV (Pv : Nat → St → Own → Prop) (hq : ∀ i σ L, i ≤ xs.length → Pv i σ L → Sq K B L a xs) (h0 : Pv 0 σ L)
    (hs : ∀ i σ L (hi : i < xs.length), Pv i σ L → N B L (fun H => g (xs[xs.length - 1 - i]'(by omega)) σ H fun σ2 H2 => ts (loE D (KI B (Pv (i + 1)))) σ2 H2))
    (hd : ∀ σ L, Pv xs.length σ L → N B L (D.nx σ)) : N B L (fun H => IV K (Lp g ts D σ) [.ref a] H) := by
  intro H s
  refine ⟨a, xs, rfl, hq 0 σ L (Nat.zero_le _) h0 H s, ?_⟩
  refine lp_core (J := Itv K a xs.length) xs.length (fun i => xs.getD (xs.length - 1 - i) .non) Pv (fun i σ L H p hi s => ⟨hi, xs, xs[xs.length - 1 - i]'(by omega), hq i σ L (Nat.le_of_lt hi) p H s, List.getElem?_eq_getElem (by omega)⟩) (fun σ L H p s => Nat.le_refl _) ?_ h0 ?_ hd H s
  · rintro i σ L H x H' p hi s ⟨e, hx⟩
    have := hx xs (hq i σ L (Nat.le_of_lt hi) p H s)
    refine ⟨e, ?_⟩
    have hlt : xs.length - 1 - i < xs.length := by omega
    rw [List.getElem?_eq_getElem hlt] at this
    show x = xs.getD (xs.length - 1 - i) .non
    rw [List.getD_eq_getElem?_getD, List.getElem?_eq_getElem hlt]
    exact (Option.some.inj this).symm
  · intro i σ L hi p
    have hlt : xs.length - 1 - i < xs.length := by omega
    have e : xs.getD (xs.length - 1 - i) .non = xs[xs.length - 1 - i] := by rw [List.getD_eq_getElem?_getD, List.getElem?_eq_getElem hlt]; rfl
    show N B L (fun H => g (xs.getD (xs.length - 1 - i) .non) σ H _)
    rw [e]
    exact hs i σ L hi p
/-- enumerate, to two names -/
def IE (K : PySem.W.Frag) (R : It → Hp → Prop) (vs : List V) (H1 : Hp) : Prop := ∃ a xs, vs = [.ref a] ∧ SqL K H1 a xs ∧ R (Ite K a) H1
theorem n_iE {tr : TA} {R : It → Hp → Prop} (q : N B L (fun H => tr σ H (IE K R))) : N B L (fun H => iEnum K tr σ H R) := q
theorem n_lpE {n m : Nat} (Pv : Nat → St → Own → Prop) (hq : ∀ i σ L, i ≤ xs.length → Pv i σ L → Sq K B L a xs) (h0 : Pv 0 σ L)
    (hs : ∀ i σ L (hi : i < xs.length), Pv i σ L → N B L (fun H => ts (loE D (KI B (Pv (i + 1)))) ((σ.set n (some (.int i))).set m (some xs[i])) H))
    (hd : ∀ σ L, Pv xs.length σ L → N B L (D.nx σ)) : N B L (fun H => IE K (Lp (gTup K 2 (gCons (gName n) (gCons (gName m) gNil))) ts D σ) [.ref a] H) := by
  intro H s
  refine ⟨a, xs, rfl, hq 0 σ L (Nat.zero_le _) h0 H s, ?_⟩
  refine ⟨fun i m σ H => m = xs.length - i ∧ i ≤ xs.length ∧ ∃ L, SI B L H ∧ Pv i σ L, ⟨xs.length, by omega, Nat.zero_le _, L, s, h0⟩, ?_⟩
  rintro i m' σ H ⟨rfl, hi, L, s, p⟩
  have hsq := hq i σ L hi p H s
  by_cases hlt : i < xs.length
  · refine .inr ⟨⟨xs, xs[i], hsq, List.getElem?_eq_getElem hlt⟩, KI B (Pv (i + 1)), fun σ' H' ⟨L', s', p'⟩ => ⟨xs.length - (i + 1), by omega, rfl, hlt, L', s', p'⟩, fun v H' hx => ?_⟩
    obtain ⟨T, x, rfl, nT, rfl, hx⟩ := hx
    have := hx xs hsq
    rw [List.getElem?_eq_getElem hlt] at this
    cases this
    have s2 : SI B ((T, .tup [.int i, xs[i]]) :: L) (upd H T (.tup [.int i, xs[i]])) := s.new nT
    refine ⟨T, [.int i, xs[i]], rfl, SqT.of upd_same, rfl, _, _, rfl, _, _, rfl, rfl, ?_⟩
    exact n_sub (L' := L) (List.sublist_cons_self _ _) (hs i σ L hlt p) _ s2
  · have e : i = xs.length := by omega
    subst e
    exact .inl ⟨⟨xs, hsq, Nat.le_refl _⟩, hd σ L p H s⟩
/-- zip of two lists, to two names -/
def IZ (K : PySem.W.Frag) (R : It → Hp → Prop) (vs : List V) (H1 : Hp) : Prop := ∃ a b xs ys, vs = [.ref a, .ref b] ∧ SqL K H1 a xs ∧ SqL K H1 b ys ∧ R (Itz K a b) H1
theorem n_iZ {tr : TA} {R : It → Hp → Prop} (q : N B L (fun H => tr σ H (IZ K R))) : N B L (fun H => iZip K tr σ H R) := q
theorem n_lpZ {n m : Nat} {c : Addr} (Pv : Nat → St → Own → Prop) (hq : ∀ i σ L, i ≤ min xs.length ys.length → Pv i σ L → Sq K B L a xs ∧ Sq K B L c ys) (h0 : Pv 0 σ L)
    (hs : ∀ i σ L (hi : i < xs.length) (hj : i < ys.length), Pv i σ L → N B L (fun H => ts (loE D (KI B (Pv (i + 1)))) ((σ.set n (some xs[i])).set m (some ys[i])) H))
    (hd : ∀ σ L, Pv (min xs.length ys.length) σ L → N B L (D.nx σ)) : N B L (fun H => IZ K (Lp (gTup K 2 (gCons (gName n) (gCons (gName m) gNil))) ts D σ) [.ref a, .ref c] H) := by
  intro H s
  obtain ⟨q1, q2⟩ := hq 0 σ L (Nat.zero_le _) h0
  refine ⟨a, c, xs, ys, rfl, q1 H s, q2 H s, ?_⟩
  refine ⟨fun i m σ H => m = min xs.length ys.length - i ∧ i ≤ min xs.length ys.length ∧ ∃ L, SI B L H ∧ Pv i σ L, ⟨min xs.length ys.length, by omega, Nat.zero_le _, L, s, h0⟩, ?_⟩
  rintro i m' σ H ⟨rfl, hi, L, s, p⟩
  obtain ⟨q1, q2⟩ := hq i σ L hi p
  by_cases hlt : i < min xs.length ys.length
  · have hx1 : i < xs.length := by omega
    have hy1 : i < ys.length := by omega
    refine .inr ⟨⟨xs, ys, xs[i], ys[i], q1 H s, q2 H s, List.getElem?_eq_getElem hx1, List.getElem?_eq_getElem hy1⟩, KI B (Pv (i + 1)), fun σ' H' ⟨L', s', p'⟩ => ⟨min xs.length ys.length - (i + 1), by omega, rfl, hlt, L', s', p'⟩, fun v H' hx => ?_⟩
    obtain ⟨T, x, y, rfl, nT, rfl, hx, hy⟩ := hx
    have e1 := hx xs (q1 H s)
    have e2 := hy ys (q2 H s)
    rw [List.getElem?_eq_getElem hx1] at e1
    rw [List.getElem?_eq_getElem hy1] at e2
    cases e1; cases e2
    have s2 : SI B ((T, .tup [xs[i], ys[i]]) :: L) (upd H T (.tup [xs[i], ys[i]])) := s.new nT
    refine ⟨T, [xs[i], ys[i]], rfl, SqT.of upd_same, rfl, _, _, rfl, _, _, rfl, rfl, ?_⟩
    exact n_sub (L' := L) (List.sublist_cons_self _ _) (hs i σ L hx1 hy1 p) _ s2
  · have e : i = min xs.length ys.length := by omega
    subst e
    refine .inl ⟨⟨xs, ys, q1 H s, q2 H s, ?_⟩, hd σ L p H s⟩
    omega
/-- while -/
def WK (B : Hp) (Pv : Nat → St → Own → Prop) (m : Nat) (tb : TS) (D : Ends) (σ : St) (H1 : Hp) : Prop := ∃ N : St → Hp → Prop, (∀ σ' H', N σ' H' → ∃ m', m' < m ∧ KI B (Pv m') σ' H') ∧ tb { D with nx := N, ct := N, bk := D.nx } σ H1
theorem n_wk {Pv : Nat → St → Own → Prop} {m : Nat} (q : N B L (fun H => ts (loE D (KW B Pv m)) σ H)) : N B L (fun H => WK B Pv m ts D σ H) :=
  fun H s => ⟨KW B Pv m, fun σ' H' ⟨m', L', lt, s', p⟩ => ⟨m', lt, L', s', p⟩, q H s⟩
theorem n_while (Pv : Nat → St → Own → Prop) (m0 : Nat) (h0 : Pv m0 σ L)
    (hs : ∀ m σ L, Pv m σ L → N B L (fun H => t σ H fun b H1 => if b = true then WK B Pv m ts (onE D (tz D)) σ H1 else tz D σ H1)) : N B L (fun H => tSeq (tWhile t ts) tz D σ H) := by
  intro H s
  refine ⟨fun m σ H => KI B (Pv m) σ H, ⟨m0, L, s, h0⟩, ?_⟩
  rintro m σ H ⟨L, s, p⟩
  exact hs m σ L p H s

/-! ### comprehensions -/
/-- a comprehension's question behind what it walks -/
def Lc (g : TG) (tt : TT) (te : TE) (vs : List Nat) (σ : St) (Q : VK) (J : It) (H1 : Hp) : Prop := ∀ D, H1 D = none → ∃ W : Nat → Nat → Hp → Prop, (∃ m, W 0 m (upd H1 D (.lst []))) ∧ ∀ i m H, W i m H →
  (J.stop i H ∧ Q (.ref D) H) ∨ (J.go i H ∧ ∃ Nx : Hp → Prop, (∀ H', Nx H' → ∃ m', m' < m ∧ W (i + 1) m' H') ∧ ∀ x H', J.yld i H x H' → g x (wipe σ vs) H' fun σ2 H2 => wipe σ2 vs = wipe σ vs ∧ tt σ2 H2 fun b H3 =>
    if b = true then te σ2 H3 fun y H4 => ∃ acc, H4 D = some (.lst acc) ∧ acc.length < sizeLine ∧ Nx (upd H4 D (.lst (acc ++ [y]))) else Nx H3)
variable {tt : TT} {vs : List Nat}
theorem n_lc {wi : TI} (q : N B L (fun H => wi σ H (Lc g tt te vs σ Q))) : N B L (fun H => tLc wi g tt te vs σ H Q) := q
/-- behind an element: it is put to the list at D (the last of what is owned by the comprehension) -/
def Put (B : Hp) (D : Addr) (acc : List V) (P : List V → Own → Prop) (y : V) (H4 : Hp) : Prop := ∃ Lm L4, SI B (Lm ++ (D, .lst acc) :: L4) H4 ∧ acc.length < sizeLine ∧ P (acc ++ [y]) (Lm ++ L4)
/-- no element -/
def NoPut (B : Hp) (D : Addr) (acc : List V) (P : List V → Own → Prop) (H3 : Hp) : Prop := ∃ Lm L4, SI B (Lm ++ (D, .lst acc) :: L4) H3 ∧ P acc (Lm ++ L4)
theorem put_upd {D : Addr} {acc : List V} {Lm L4 : Own} {H4 : Hp} (s : SI B (Lm ++ (D, .lst acc) :: L4) H4) : H4 D = some (.lst acc) ∧ SI B ((D, .lst (acc ++ [y])) :: (Lm ++ L4)) (upd H4 D (.lst (acc ++ [y]))) := by
  have s2 : SI B ((D, .lst acc) :: (Lm ++ L4)) H4 := s.perm List.perm_middle
  exact ⟨s2.at (i := 0) rfl, s2.set (i := 0) rfl⟩
/-- behind an element's value -/
theorem lc_core {J : It} (n : Nat) (yl : Nat → V) (Pv : Nat → List V → Own → Prop)
    (hgo : ∀ i acc L H, Pv i acc L → i < n → SI B L H → J.go i H) (hst : ∀ acc L H, Pv n acc L → SI B L H → J.stop n H) (hy : ∀ i acc L H x H', Pv i acc L → i < n → SI B L H → J.yld i H x H' → H' = H ∧ x = yl i)
    (h0 : Pv 0 [] L) (hs : ∀ i acc L D, i < n → Pv i acc L → N B ((D, .lst acc) :: L) (fun H => g (yl i) (wipe σ vs) H fun σ2 H2 => wipe σ2 vs = wipe σ vs ∧ tt σ2 H2 fun b H3 =>
      if b = true then te σ2 H3 (fun y H4 => ∃ acc, H4 D = some (.lst acc) ∧ acc.length < sizeLine ∧ (∃ L, SI B L (upd H4 D (.lst (acc ++ [y]))) ∧ ∃ a L', L = (D, .lst a) :: L' ∧ Pv (i + 1) a L')) else (∃ L, SI B L H3 ∧ ∃ a L', L = (D, .lst a) :: L' ∧ Pv (i + 1) a L')))
    (hd : ∀ acc L D, Pv n acc L → N B ((D, .lst acc) :: L) (Q (.ref D))) : N B L (fun H => Lc g tt te vs σ Q J H) := by
  intro H s D hD
  have e0 : ∀ {a : List V} {L : Own} {H : Hp}, SI B ((D, .lst a) :: L) H → SI B L H := fun s => s.sub (List.sublist_cons_self _ _)
  refine ⟨fun i m H => m = n - i ∧ i ≤ n ∧ ∃ L, SI B L H ∧ ∃ a L', L = (D, .lst a) :: L' ∧ Pv i a L', ⟨n, by omega, Nat.zero_le _, _, s.new hD, [], L, rfl, h0⟩, ?_⟩
  rintro i m H ⟨rfl, hi, _, s, acc, L', rfl, p⟩
  by_cases hlt : i < n
  · refine .inr ⟨hgo i acc L' H p hlt (e0 s), fun H' => ∃ L, SI B L H' ∧ ∃ a L', L = (D, .lst a) :: L' ∧ Pv (i + 1) a L', fun H' h => ⟨n - (i + 1), by omega, rfl, hlt, h⟩, fun x H' hx => ?_⟩
    obtain ⟨rfl, rfl⟩ := hy i acc L' H x H' p hlt (e0 s) hx
    exact hs i acc L' D hlt p _ s
  · have e : i = n := by omega
    subst e
    exact .inl ⟨hst acc L' H p (e0 s), hd acc L' D p H s⟩
/-- the element's end -/
theorem n_put {D : Addr} {acc : List V} {L4 : Own} {P : List V → Own → Prop} (Lm : Own) (e : L = Lm ++ (D, .lst acc) :: L4) (hz : acc.length < sizeLine) (h : P (acc ++ [y]) L') (s : L'.Sublist (Lm ++ L4)) :
    N B L (fun H4 => ∃ acc, H4 D = some (.lst acc) ∧ acc.length < sizeLine ∧ (∃ L, SI B L (upd H4 D (.lst (acc ++ [y]))) ∧ ∃ a L', L = (D, .lst a) :: L' ∧ P a L')) := by
  subst e
  intro H x
  obtain ⟨a, b⟩ := put_upd (y := y) x
  exact ⟨acc, a, hz, _, b.sub (s.cons₂ _), _, _, rfl, h⟩
theorem n_noput {D : Addr} {acc : List V} {L4 : Own} {P : List V → Own → Prop} (Lm : Own) (e : L = Lm ++ (D, .lst acc) :: L4) (h : P acc L') (s : L'.Sublist (Lm ++ L4)) :
    N B L (fun H3 => ∃ L, SI B L H3 ∧ ∃ a L', L = (D, .lst a) :: L' ∧ P a L') := by
  subst e
  intro H x
  have s2 : SI B ((D, .lst acc) :: (Lm ++ L4)) H := x.perm List.perm_middle
  exact ⟨_, s2.sub (s.cons₂ _), _, _, rfl, h⟩
theorem n_wiped {k : Hp → Prop} {σ' : St} (e : wipe σ' vs = wipe σ vs) (q : N B L k) : N B L (fun H => wipe σ' vs = wipe σ vs ∧ k H) := fun H s => ⟨e, q H s⟩
theorem n_yes {QB : Bool → Hp → Prop} (q : N B L (QB true)) : N B L (fun H => tYes σ H QB) := q
theorem n_lcL (Pv : Nat → List V → Own → Prop) (hq : ∀ i acc L, i ≤ xs.length → Pv i acc L → Sq K B L a xs) (h0 : Pv 0 [] L)
    (hs : ∀ i acc L D (hi : i < xs.length), Pv i acc L → N B ((D, .lst acc) :: L) (fun H => g xs[i] (wipe σ vs) H fun σ2 H2 => wipe σ2 vs = wipe σ vs ∧ tt σ2 H2 fun b H3 =>
      if b = true then te σ2 H3 (fun y H4 => ∃ acc, H4 D = some (.lst acc) ∧ acc.length < sizeLine ∧ (∃ L, SI B L (upd H4 D (.lst (acc ++ [y]))) ∧ ∃ a L', L = (D, .lst a) :: L' ∧ Pv (i + 1) a L')) else (∃ L, SI B L H3 ∧ ∃ a L', L = (D, .lst a) :: L' ∧ Pv (i + 1) a L')))
    (hd : ∀ acc L D, Pv xs.length acc L → N B ((D, .lst acc) :: L) (Q (.ref D))) : N B L (fun H => IL K (Lc g tt te vs σ Q) (.ref a) H) := by
  intro H s
  refine ⟨a, rfl, ⟨xs, hq 0 [] L (Nat.zero_le _) h0 H s⟩, ?_⟩
  refine lc_core (J := Itl K a) xs.length (fun i => xs.getD i .non) Pv (fun i σ L H p hi s => ⟨xs, xs[i], hq i σ L (Nat.le_of_lt hi) p H s, List.getElem?_eq_getElem hi⟩) (fun σ L H p s => ⟨xs, hq _ σ L (Nat.le_refl _) p H s, Nat.le_refl _⟩) ?_ h0 ?_ hd H s
  · rintro i σ L H x H' p hi s ⟨e, hx⟩
    have := hx xs (hq i σ L (Nat.le_of_lt hi) p H s)
    refine ⟨e, ?_⟩
    rw [List.getElem?_eq_getElem hi] at this
    show x = xs.getD i .non
    rw [List.getD_eq_getElem?_getD, List.getElem?_eq_getElem hi]
    exact (Option.some.inj this).symm
  · intro i acc L D hi p
    have e : xs.getD i .non = xs[i] := by rw [List.getD_eq_getElem?_getD, List.getElem?_eq_getElem hi]; rfl
    show N B _ (fun H => g (xs.getD i .non) (wipe σ vs) H _)
    rw [e]
    exact hs i acc L D hi p
theorem n_lcR {lo : Int} {n : Nat} (Pv : Nat → List V → Own → Prop) (h0 : Pv 0 [] L)
    (hs : ∀ i acc L D, i < n → Pv i acc L → N B ((D, .lst acc) :: L) (fun H => g (.int (lo + i)) (wipe σ vs) H fun σ2 H2 => wipe σ2 vs = wipe σ vs ∧ tt σ2 H2 fun b H3 =>
      if b = true then te σ2 H3 (fun y H4 => ∃ acc, H4 D = some (.lst acc) ∧ acc.length < sizeLine ∧ (∃ L, SI B L (upd H4 D (.lst (acc ++ [y]))) ∧ ∃ a L', L = (D, .lst a) :: L' ∧ Pv (i + 1) a L')) else (∃ L, SI B L H3 ∧ ∃ a L', L = (D, .lst a) :: L' ∧ Pv (i + 1) a L')))
    (hd : ∀ acc L D, Pv n acc L → N B ((D, .lst acc) :: L) (Q (.ref D))) : N B L (fun H => Lc g tt te vs σ Q (Itr lo n) H) :=
  lc_core (J := Itr lo n) n (fun i => .int (lo + i)) Pv (fun i σ L H p hi s => hi) (fun σ L H p s => Nat.le_refl _) (fun i σ L H x H' p hi s h => h) h0 hs hd
theorem n_lcR1 (Pv : Nat → List V → Own → Prop) (hb : -(2 ^ 62) ≤ j ∧ j < 2 ^ 62) (h0 : Pv 0 [] L)
    (hs : ∀ (i : Nat) acc L D, (i : Int) < j → Pv i acc L → N B ((D, .lst acc) :: L) (fun H => g (.int i) (wipe σ vs) H fun σ2 H2 => wipe σ2 vs = wipe σ vs ∧ tt σ2 H2 fun b H3 =>
      if b = true then te σ2 H3 (fun y H4 => ∃ acc, H4 D = some (.lst acc) ∧ acc.length < sizeLine ∧ (∃ L, SI B L (upd H4 D (.lst (acc ++ [y]))) ∧ ∃ a L', L = (D, .lst a) :: L' ∧ Pv (i + 1) a L')) else (∃ L, SI B L H3 ∧ ∃ a L', L = (D, .lst a) :: L' ∧ Pv (i + 1) a L')))
    (hd : ∀ acc L D, Pv j.toNat acc L → N B ((D, .lst acc) :: L) (Q (.ref D))) : N B L (fun H => IR1 (Lc g tt te vs σ Q) [.int j] H) := fun H s => ⟨j, rfl, hb.1, hb.2,
  n_lcR (lo := 0) (n := j.toNat) Pv h0 (fun i acc L D hi p => by rw [Int.zero_add]; exact hs i acc L D (by omega) p) hd H s⟩
end
end Sk
namespace Sk
open PySem PySem.Spec PyProof.Rows L2
/-! ### defs -/
structure Ok (P : Program) (w : World) (K : PySem.W.Frag) (mg : Str → Option Value) (base : Heap) (k : Nat) (x : Str) (ps : List Str) (sp : Sp) : Prop where
  ex : ∃ f fd, FnOk P w K mg base CX0 k f fd ps sp ∧ mg x = some (.ref f) ∧ PySem.W.keepIn K (.ref f) = true ∧ Binds K fd ps []
theorem Ok.intro {P : Program} {w : World} {K : PySem.W.Frag} {mg : Str → Option Value} {base : Heap} {k : Nat} {x : Str} {ps : List Str} {sp : Sp} {f : Addr} {fd : FuncData} (F : FnOk P w K mg base CX0 k f fd ps sp) (g : mg x = some (.ref f)) (kp : PySem.W.keepIn K (.ref f) = true) (b : Binds K fd ps []) : Ok P w K mg base k x ps sp := ⟨⟨f, fd, F, g, kp, b⟩⟩
section
variable {X : Cx} {k : Nat} {x : Str} {ps : List Str} {sp : Sp} {p pos : Pos} {e : Expr} {es : List Expr} {t : TA}
theorem pe_ok (O : Ok X.prog X.w X.K X.mg X.base k x ps sp) (hr : Room k X.A) (hg : Gl X x) (ha : PA X (e :: es) t) (hdb : (x == ("__debug__" : Str)) = false := by decide)
    (he : starEach (e :: es) X.env = (false, eval e X.env) :: starEach es X.env := by rfl) (hpl : (backTo pos (starEach es X.env)).any (·.1) = false := by rfl) : PE X (.Call (.Name x p) (e :: es) [] pos) (tCall sp [] E0 t) := by
  obtain ⟨f, fd, F, g, kp, b⟩ := O.ex
  exact pe_call F hr hg g kp b .nil pass0 ha hdb he hpl
end
/-! ### more values -/
section
variable {K : PySem.W.Frag} {B : Hp} {L : Own} {Q : VK} {i : Int} {b : Bool} {s : Str}
theorem n_isi_int {T : String} (h : kitB "int" T = some b) (q : N B L (Q (.bl b))) : N B L (fun H => rIsi K [.int i, .ty T] H Q) := fun H s => ⟨_, _, _, _, b, rfl, .ty T, .base (.int i), kit_ty h, q H s⟩
theorem n_isi_bl {T : String} {c : Bool} (h : kitB "bool" T = some b) (q : N B L (Q (.bl b))) : N B L (fun H => rIsi K [.bl c, .ty T] H Q) := fun H s => ⟨_, _, _, _, b, rfl, .ty T, .base (.bl c), kit_ty h, q H s⟩
theorem n_isi_str {T : String} (h : kitB "str" T = some b) (q : N B L (Q (.bl b))) : N B L (fun H => rIsi K [.str s, .ty T] H Q) := fun H x => ⟨_, _, _, _, b, rfl, .ty T, .base (.str s), kit_ty h, q H x⟩
theorem n_isi_non {T : String} (h : kitB "NoneType" T = some b) (q : N B L (Q (.bl b))) : N B L (fun H => rIsi K [.non, .ty T] H Q) := fun H x => ⟨_, _, _, _, b, rfl, .ty T, .base .non, kit_ty h, q H x⟩
theorem n_isi_lst {T : String} {a : Addr} {xs : List V} (hs : Is B L a (.lst xs)) (h : kitB "list" T = some b) (q : N B L (Q (.bl b))) : N B L (fun H => rIsi K [.ref a, .ty T] H Q) := fun H x => ⟨_, _, _, _, b, rfl, .ty T, .base (.lst (hs H x)), kit_ty h, q H x⟩
theorem n_isi_tup {T : String} {a : Addr} {xs : List V} (hs : Is B L a (.tup xs)) (h : kitB "tuple" T = some b) (q : N B L (Q (.bl b))) : N B L (fun H => rIsi K [.ref a, .ty T] H Q) := fun H x => ⟨_, _, _, _, b, rfl, .ty T, .base (.tup (hs H x)), kit_ty h, q H x⟩
end
/-! ### data at any depth -/
section
variable {K : PySem.W.Frag} {B : Hp} {L L' : Own} {Q : VK} {i : Int} {b : Bool} {a c p : Addr} {v x y : V} {d e : PyData} {ns ms : List Int} {xs : List V} {k : Hp → Prop}
def Da (K : PySem.W.Frag) (B : Hp) (L : Own) (v : V) (d : PyData) : Prop := ∀ H, SI B L H → Dp K H v d
theorem n_eqD (h1 : Da K B L x d) (h2 : Da K B L y e) (s1 : SeqAt.shaped d = true) (s2 : SeqAt.shaped e = true) (q : N B L (Q (.bl (PyData.eqv d e)))) : N B L (fun H => uEq K x y H Q) := fun H s => .inr ⟨d, e, h1 H s, h2 H s, s1, s2, q H s⟩
theorem n_neD (h1 : Da K B L x d) (h2 : Da K B L y e) (s1 : SeqAt.shaped d = true) (s2 : SeqAt.shaped e = true) (q : N B L (Q (.bl (!PyData.eqv d e)))) : N B L (fun H => uNe K x y H Q) := fun H s => .inr ⟨d, e, h1 H s, h2 H s, s1, s2, q H s⟩
theorem dpAll_ints {H : Hp} : ∀ ns : List Int, DpAll K H (ns.map V.int) (ns.map PyData.int)
  | [] => .nil
  | n :: r => .cons (.int n) (dpAll_ints r)
theorem da_ints (h : Sq K B L a (ns.map V.int)) : Da K B L (.ref a) (.list (ns.map PyData.int)) := fun H s => .lst (h H s) (dpAll_ints ns)
theorem da_intsT (h : Tp K B L a (ns.map V.int)) : Da K B L (.ref a) (.tuple (ns.map PyData.int)) := fun H s => .tup (h H s) (dpAll_ints ns)
theorem da_int : Da K B L (.int i) (.int i) := fun _ _ => .int i
theorem can_ints : ∀ ns : List Int, PyData.canLayAll0 (ns.map PyData.int) = true ∧ PyData.depthAll (ns.map PyData.int) = 0
  | [] => ⟨rfl, rfl⟩
  | n :: r => by
    obtain ⟨h1, h2⟩ := can_ints r
    refine ⟨?_, ?_⟩
    · show (true && PyData.canLayAll0 (r.map PyData.int)) = true
      rw [h1]; rfl
    · show max 0 (PyData.depthAll (r.map PyData.int)) = 0
      rw [h2]; rfl
theorem shaped_ints (ns : List Int) : SeqAt.shaped (.list (ns.map PyData.int)) = true := by
  obtain ⟨h1, h2⟩ := can_ints ns
  show (PyData.canLayAll0 (ns.map PyData.int) && decide (PyData.depthAll (ns.map PyData.int) + 1 ≤ 64)) = true
  rw [h1, h2]; rfl
theorem shaped_intsT (ns : List Int) : SeqAt.shaped (.tuple (ns.map PyData.int)) = true := shaped_ints ns
theorem eqvAll_ints : ∀ ns ms : List Int, PyData.eqvAll (ns.map PyData.int) (ms.map PyData.int) = decide (ns = ms)
  | [], [] => rfl
  | [], m :: r => by
    rw [decide_eq_false (fun e => nomatch e)]
    exact PyData.eqvAll.eq_3 _ _
  | n :: r, [] => by
    rw [decide_eq_false (fun e => nomatch e)]
    exact PyData.eqvAll.eq_4 _ _
  | n :: r, m :: r' => by
    rw [List.map_cons, List.map_cons, PyData.eqvAll, eqvAll_ints r r', PyData.eqv]
    by_cases h1 : n = m
    · subst h1
      by_cases h2 : r = r'
      · subst h2; simp
      · rw [decide_eq_false h2, decide_eq_false (fun e => h2 (List.cons.inj e).2)]; simp
    · rw [decide_eq_false (fun e => h1 (List.cons.inj e).1), beq_eq_false_iff_ne.mpr h1]; rfl
theorem eqv_ints (ns ms : List Int) : PyData.eqv (.list (ns.map PyData.int)) (.list (ms.map PyData.int)) = decide (ns = ms) := by
  rw [PyData.eqv]; exact eqvAll_ints ns ms
theorem n_eqLi (h1 : Sq K B L a (ns.map V.int)) (h2 : Sq K B L c (ms.map V.int)) (q : N B L (Q (.bl (decide (ns = ms))))) : N B L (fun H => uEq K (.ref a) (.ref c) H Q) :=
  n_eqD (da_ints h1) (da_ints h2) (shaped_ints _) (shaped_ints _) (by rw [eqv_ints]; exact q)
theorem n_neLi (h1 : Sq K B L a (ns.map V.int)) (h2 : Sq K B L c (ms.map V.int)) (q : N B L (Q (.bl (!decide (ns = ms))))) : N B L (fun H => uNe K (.ref a) (.ref c) H Q) :=
  n_neD (da_ints h1) (da_ints h2) (shaped_ints _) (shaped_ints _) (by rw [eqv_ints]; exact q)
/-! ### lists of ints -/
theorem at_ints {z : Int} (h0 : 0 ≤ z) (h1 : z < ns.length) : atI (ns.map V.int) z = some (.int (ns.getD z.toNat 0)) := by
  obtain ⟨n, rfl⟩ := Int.eq_ofNat_of_zero_le h0
  refine atI_nat ?_
  have h : n < ns.length := by omega
  rw [List.getElem?_map, Int.toNat_natCast, List.getD_eq_getElem?_getD, List.getElem?_eq_getElem h]
  rfl
theorem n_ixLi (hs : Sq K B L a (ns.map V.int)) (h0 : 0 ≤ i) (h1 : i < ns.length) (q : N B L (Q (.int (ns.getD i.toNat 0)))) : N B L (fun H => rIx K (.ref a) (.int i) H Q) := n_ixL hs (at_ints h0 h1) q
variable {D : Ends} {ts : TS} {σ : St} {g : TG}
theorem n_lpLi (ns : List Int) (Pv : Nat → St → Own → Prop) (hq : ∀ i σ L, i ≤ ns.length → Pv i σ L → Sq K B L a (ns.map V.int)) (h0 : Pv 0 σ L)
    (hs : ∀ i σ L (hi : i < ns.length), Pv i σ L → N B L (fun H => g (.int ns[i]) σ H fun σ2 H2 => ts (loE D (KI B (Pv (i + 1)))) σ2 H2))
    (hd : ∀ σ L, Pv ns.length σ L → N B L (D.nx σ)) : N B L (fun H => IL K (Lp g ts D σ) (.ref a) H) := by
  have e : (ns.map V.int).length = ns.length := List.length_map _
  refine n_lpL (xs := ns.map V.int) Pv (fun i σ L h p => hq i σ L (by omega) p) h0 (fun i σ L h p => ?_) (fun σ L p => hd σ L (by rw [← e]; exact p))
  have q := hs i σ L (by omega) p
  rw [List.getElem_map]
  exact q
theorem n_lpVi (ns : List Int) (Pv : Nat → St → Own → Prop) (hq : ∀ i σ L, i ≤ ns.length → Pv i σ L → Sq K B L a (ns.map V.int)) (h0 : Pv 0 σ L)
    (hs : ∀ i σ L (hi : i < ns.length), Pv i σ L → N B L (fun H => g (.int (ns[ns.length - 1 - i]'(by omega))) σ H fun σ2 H2 => ts (loE D (KI B (Pv (i + 1)))) σ2 H2))
    (hd : ∀ σ L, Pv ns.length σ L → N B L (D.nx σ)) : N B L (fun H => IV K (Lp g ts D σ) [.ref a] H) := by
  have e : (ns.map V.int).length = ns.length := List.length_map _
  refine n_lpV (xs := ns.map V.int) Pv (fun i σ L h p => hq i σ L (by omega) p) h0 (fun i σ L h p => ?_) (fun σ L p => hd σ L (by rw [← e]; exact p))
  have q := hs i σ L (by omega) p
  rw [List.getElem_map]
  simp only [e]
  exact q
theorem n_lpEi {n m : Nat} (ns : List Int) (Pv : Nat → St → Own → Prop) (hq : ∀ i σ L, i ≤ ns.length → Pv i σ L → Sq K B L a (ns.map V.int)) (h0 : Pv 0 σ L)
    (hs : ∀ (i : Nat) σ L (hi : i < ns.length), Pv i σ L → N B L (fun H => ts (loE D (KI B (Pv (i + 1)))) ((σ.set n (some (.int i))).set m (some (.int ns[i]))) H))
    (hd : ∀ σ L, Pv ns.length σ L → N B L (D.nx σ)) : N B L (fun H => IE K (Lp (gTup K 2 (gCons (gName n) (gCons (gName m) gNil))) ts D σ) [.ref a] H) := by
  have e : (ns.map V.int).length = ns.length := List.length_map _
  refine n_lpE (xs := ns.map V.int) Pv (fun i σ L h p => hq i σ L (by omega) p) h0 (fun i σ L h p => ?_) (fun σ L p => hd σ L (by rw [← e]; exact p))
  have q := hs i σ L (by omega) p
  rw [List.getElem_map]
  exact q
theorem N.go {B : Hp} {k : Hp → Prop} (h : N B [] k) : k B := h B (SI.refl B)
theorem take_step {α : Type} {xs : List α} {i : Nat} (h : i < xs.length) : xs.take (i + 1) = xs.take i ++ [xs[i]] := by
  rw [List.take_add_one, List.getElem?_eq_getElem h]; rfl
end
/-! ### lending one object -/
section
variable {K : PySem.W.Frag} {B : Hp} {L L' : Own} {Q : VK} {p a : Addr} {o : HO} {i : Nat} {H : Hp}
theorem perm_at {α : Type} : ∀ {L : List α} {i : Nat} {x : α}, L[i]? = some x → L.Perm (x :: L.eraseIdx i)
  | [], i, x, h => by simp at h
  | y :: r, 0, x, h => by
    have e : y = x := Option.some.inj h
    subst e
    exact .refl _
  | y :: r, i + 1, x, h => (List.Perm.cons y (perm_at (L := r) (i := i) (x := x) h)).trans (List.Perm.swap x y _)
theorem perm_set {α : Type} : ∀ {L : List α} {i : Nat} {x : α} (y : α), L[i]? = some x → (y :: L.eraseIdx i).Perm (L.set i y)
  | [], i, x, y, h => by simp at h
  | z :: r, 0, x, y, h => .refl _
  | z :: r, i + 1, x, y, h => (List.Perm.swap z y _).trans (List.Perm.cons z (perm_set (L := r) (i := i) (x := x) y h))
theorem lend1 (s : SI B L H) (hi : L[i]? = some (p, o)) : ∃ B', SI B' [(p, o)] H ∧ ∀ o' Ln H', SI B' (Ln ++ [(p, o')]) H' → SI B (Ln ++ L.set i (p, o')) H' := by
  have s2 : SI B ([(p, o)] ++ L.eraseIdx i) H := s.perm (perm_at hi)
  refine ⟨_, s2.lend, fun o' Ln H' h => ?_⟩
  have s3 : SI B ((Ln ++ [(p, o')]) ++ L.eraseIdx i) H' := s2.back h
  rw [List.append_assoc] at s3
  exact s3.perm (List.Perm.append_left Ln (perm_set (p, o') hi))
/-- the element's end, its new objects put behind the others -/
theorem n_putA {y : V} {D : Addr} {acc : List V} {L4 : Own} {P : List V → Own → Prop} (Lm : Own) (e : L = Lm ++ (D, .lst acc) :: L4) (hz : acc.length < sizeLine) (h : P (acc ++ [y]) L') (s : L'.Sublist (L4 ++ Lm)) :
    N B L (fun H4 => ∃ acc, H4 D = some (.lst acc) ∧ acc.length < sizeLine ∧ (∃ L, SI B L (upd H4 D (.lst (acc ++ [y]))) ∧ ∃ a L', L = (D, .lst a) :: L' ∧ P a L')) := by
  subst e
  intro H x
  obtain ⟨a, b⟩ := put_upd (y := y) x
  exact ⟨acc, a, hz, _, (b.perm (List.Perm.cons _ List.perm_append_comm)).sub (s.cons₂ _), _, _, rfl, h⟩
def cutI (xs : List Int) (lo hi : Option Int) : List Int := (xs.drop (HT.sIx xs.length 0 lo)).take (HT.sIx xs.length xs.length hi - HT.sIx xs.length 0 lo)
theorem cutV_ints (xs : List Int) (lo hi : Option Int) : cutV (xs.map V.int) lo hi = (cutI xs lo hi).map V.int := by
  unfold cutV cutI
  rw [List.length_map, List.map_take, List.map_drop]
theorem n_slLi {ns : List Int} {lo hi : Option Int} (hs : Sq K B L a (ns.map V.int)) (q : ∀ p, N B ((p, .lst ((cutI ns lo hi).map V.int)) :: L) (Q (.ref p))) : N B L (fun H => rSlL K (.ref a) lo hi H Q) :=
  n_slL hs (by rw [cutV_ints]; exact q)
theorem cutI_len (xs : List Int) (lo hi : Option Int) : (cutI xs lo hi).length ≤ xs.length := by
  unfold cutI
  rw [List.length_take, List.length_drop]
  omega
theorem cutI_nat (xs : List Int) (a b : Nat) : cutI xs (some (a : Int)) (some (b : Int)) = (xs.drop a).take (b - a) := by
  unfold cutI
  rw [HT.sIx_nat, HT.sIx_nat]
  by_cases h : a ≤ xs.length
  · rw [Nat.min_eq_left h]
    by_cases h2 : b ≤ xs.length
    · rw [Nat.min_eq_left h2]
    · rw [Nat.min_eq_right (by omega), List.take_of_length_le (by rw [List.length_drop]; exact Nat.le_refl _), List.take_of_length_le (by rw [List.length_drop]; omega)]
  · have e1 : xs.drop (min a xs.length) = [] := List.drop_eq_nil_of_le (by omega)
    have e2 : xs.drop a = [] := List.drop_eq_nil_of_le (by omega)
    rw [e1, e2, List.take_nil, List.take_nil]
theorem cutI_to (xs : List Int) (b : Nat) : cutI xs none (some (b : Int)) = xs.take b := by
  have := cutI_nat xs 0 b
  simpa [cutI, HT.sIx] using this
theorem cutI_from (xs : List Int) (a : Nat) : cutI xs (some (a : Int)) none = xs.drop a := by
  unfold cutI
  rw [HT.sIx_nat, HT.sIx_none]
  by_cases h : a ≤ xs.length
  · rw [Nat.min_eq_left h, List.take_of_length_le (by rw [List.length_drop]; exact Nat.le_refl _)]
  · have e1 : xs.drop (min a xs.length) = [] := List.drop_eq_nil_of_le (by omega)
    have e2 : xs.drop a = [] := List.drop_eq_nil_of_le (by omega)
    rw [e1, e2, List.take_nil]
theorem pool_set {pool : Own} {j : Nat} {q : Addr × HO} (o : HO) (h : pool[j]? = some q) {α : Type} (f : Addr → α) : (pool.set j (q.1, o)).map (fun x => f x.1) = pool.map (fun x => f x.1) := by
  apply List.ext_getElem?
  intro n
  rw [List.getElem?_map, List.getElem?_map, List.getElem?_set]
  split
  · rename_i e; subst e
    obtain ⟨hj, e⟩ := List.getElem?_eq_some_iff.mp h
    rw [if_pos hj, List.getElem?_eq_getElem hj, e]; rfl
  · rfl
theorem pool_all {P : Addr × HO → Prop} {pool : Own} {j : Nat} {q : Addr × HO} (h : ∀ x ∈ pool, P x) (hq : P q) : ∀ x ∈ pool.set j q, P x := fun x hx => by
  rcases List.mem_or_eq_of_mem_set hx with h2 | rfl
  · exact h x h2
  · exact hq
end
theorem sz_ok {n : Nat} (h : n ≤ 10000000) : n ≤ sizeLine := Nat.le_trans h (by decide)
theorem sz_lt {n : Nat} (h : n < 10000000) : n < sizeLine := Nat.lt_of_lt_of_le h (by decide)
theorem own_ix {L : Own} {x : Addr × HO} (n : Nat) (h : L[n]? = some x) : L[n]? = some x := h
theorem set_app {α : Type} (x : α) (pool : List α) (j : Nat) : ∀ pre : List α, (pre ++ pool).set (pre.length + j) x = pre ++ pool.set j x
  | [] => by simp
  | a :: r => by
    have e : (a :: r).length + j = (r.length + j) + 1 := by rw [List.length_cons]; omega
    rw [e]
    show a :: (r ++ pool).set (r.length + j) x = a :: (r ++ pool.set j x)
    rw [set_app x pool j r]
theorem get_app {α : Type} (pool : List α) (j : Nat) : ∀ pre : List α, (pre ++ pool)[pre.length + j]? = pool[j]?
  | [] => by simp
  | a :: r => by
    have e : (a :: r).length + j = (r.length + j) + 1 := by rw [List.length_cons]; omega
    rw [e]
    show (r ++ pool)[r.length + j]? = pool[j]?
    exact get_app pool j r
theorem set_at {α : Type} {pool : List α} {j : Nat} {q x : α} (h : pool[j]? = some q) : (pool.set j x)[j]? = some x := by
  rw [List.getElem?_set_self (List.getElem?_eq_some_iff.mp h).1]
section
variable {K : PySem.W.Frag} {B : Hp} {L : Own} {Q : VK} {l c : Addr} {ns ms : List Int} {i v : Int} {n : Nat} {k : Hp → Prop}
theorem n_catLi (hl : Is B L l (.lst (ns.map V.int))) (hc : Is B L c (.lst (ms.map V.int))) (hn : ns.length + ms.length ≤ sizeLine) (q : ∀ p, N B ((p, .lst ((ns ++ ms).map V.int)) :: L) (Q (.ref p))) : N B L (fun H => uAdd K (.ref l) (.ref c) H Q) :=
  n_cat hl hc (by rw [List.length_map, List.length_map]; exact hn) (by rw [← List.map_append]; exact q)
theorem n_appendLi (hi : L[n]? = some (l, .lst (ns.map V.int))) (hz : ns.length < sizeLine) (q : N B (L.set n (l, .lst ((ns ++ [v]).map V.int))) (Q .non)) : N B L (fun H => rAppend (.ref l) [.int v] H Q) :=
  n_append hi (by rw [List.length_map]; exact hz) (by rw [List.map_append] at q; exact q)
theorem ixN_nat (h0 : 0 ≤ i) (h1 : i < n) : ixN n i = some i.toNat := by
  unfold ixN
  rw [if_pos h0, if_pos h1]
theorem n_setLi (hi : L[n]? = some (l, .lst (ns.map V.int))) (h0 : 0 ≤ i) (h1 : i < ns.length) (q : N B (L.set n (l, .lst ((ns.set i.toNat v).map V.int))) k) : N B L (fun H => rSetL (.ref l) (.int i) (.int v) H k) :=
  n_setL (m := i.toNat) hi (ixN_nat h0 (by rw [List.length_map]; exact h1)) (by rw [← List.map_set]; exact q)
end
/-! ### promises used -/
section
variable {B : Hp} {L L' : Own} {H : Hp} {k : Hp → Prop} {p : Addr} {o o' : HO} {i : Nat}
theorem N.lift (s : SI B L H) (h : N B (L' ++ L) k) : N H L' k := fun H' s' => h H' (s.trans s')
/-- one object handed in is changed; Ln are new -/
def NO (B : Hp) (p : Addr) (Ln : Own) (o : HO) (k : Hp → Prop) : Prop := N B (Ln ++ [(p, o)]) k
/-- the same for whoever calls: p stands at place i -/
def NC (B : Hp) (L : Own) (i : Nat) (p : Addr) (Ln : Own) (o : HO) (k : Hp → Prop) : Prop := N B (Ln ++ L.set i (p, o)) k
theorem NO.lift {B' : Hp} (s : ∀ o' Ln H', SI B' (Ln ++ [(p, o')]) H' → SI B (Ln ++ L.set i (p, o')) H') {Ln : Own} (h : NC B L i p Ln o' k) : NO B' p Ln o' k := fun H' s' => h H' (s _ _ _ s')
theorem N.go1 (s : SI B [(p, o)] H) (h : N B [(p, o)] k) : k H := h H s
end
/-! ### numbers -/
section
variable {K : PySem.W.Frag} {B : Hp} {L : Own} {Q : VK} {i j : Int} {σ : St} {te : TE} {vs : List Nat} {m : Nat} {a : Addr}
theorem n_and1 (q : N B L (Q (.int (i % 2)))) : N B L (fun H => uAnd (.int i) (.int 1) H Q) := n_and_ (by
  have e := PySem.W.kbt_mask i 1
  rw [show ((2 : Int) ^ 1 - 1) = 1 by decide, show ((2 : Int) ^ 1) = 2 by decide] at e
  rw [e]; exact q)
theorem n_and127 (q : N B L (Q (.int (i % 128)))) : N B L (fun H => uAnd (.int i) (.int 127) H Q) := n_and_ (by
  have e := PySem.W.kbt_mask i 7
  rw [show ((2 : Int) ^ 7 - 1) = 127 by decide, show ((2 : Int) ^ 7) = 128 by decide] at e
  rw [e]; exact q)
theorem n_orL {k : Nat} (h0 : 0 ≤ i) (h1 : 0 ≤ j) (h2 : j < 2 ^ k) (q : N B L (Q (.int (i * 2 ^ k + j)))) : N B L (fun H => uOr (.int (i * 2 ^ k)) (.int j) H Q) := n_or_ (by rw [or_low h0 h1 h2]; exact q)
def BitsK (Q : VK) (x : V) (H1 : Hp) : Prop := ∃ i, x = .int i ∧ Q (.int (Builtin.Int.intBits i : Nat)) H1
theorem n_bits (q : N B L (fun H => te σ H (BitsK Q))) : N B L (fun H => tBits te σ H Q) := q
theorem n_bits2 (q : N B L (Q (.int (Builtin.Int.intBits i : Nat)))) : N B L (fun H => BitsK Q (.int i) H) := fun H s => ⟨i, rfl, q H s⟩
theorem pow_lt_of {w n : Int} {k : Nat} (h : 1 * 2 ^ w.toNat ≤ n) (hn : n < 2 ^ k) : w < k := by
  have h1 : ((2 : Int) ^ w.toNat) < 2 ^ k := by omega
  have h2 : (2 : Nat) ^ w.toNat < 2 ^ k := by
    have e1 : ((2 : Int) ^ w.toNat) = ((2 ^ w.toNat : Nat) : Int) := by push_cast; rfl
    have e2 : ((2 : Int) ^ k) = ((2 ^ k : Nat) : Int) := by push_cast; rfl
    rw [e1, e2] at h1
    exact Int.ofNat_lt.mp h1
  have h3 := (Nat.pow_lt_pow_iff_right (by decide : 1 < 2)).mp h2
  omega
theorem cpow1 {w : Int} (h0 : 0 ≤ w) (h1 : w ≤ 1000000) : CPow 1 w := ⟨h0, h1, by decide⟩
theorem intBits_lt {n : Int} {k : Nat} (h0 : 0 ≤ n) (h : n < 2 ^ k) : Builtin.Int.intBits n ≤ k := by
  rw [PySem.intBits_le_iff]
  have e2 : ((2 : Int) ^ k) = ((2 ^ k : Nat) : Int) := by push_cast; rfl
  rw [e2] at h
  omega
theorem cshl7 {n : Int} {k : Nat} {j : Int} (h0 : 0 ≤ n) (h : n < 2 ^ k) (j0 : 0 ≤ j) (hk : (k : Int) + j ≤ 134217728) : CShl n j := ⟨j0, by have := intBits_lt h0 h; omega⟩
/-- a comprehension over range whose element is an int told by its turn -/
theorem n_lcMap (f : Nat → Int) (hb : j ≤ 100000) (hj : 0 ≤ j) (hw : ∀ x, wipe ((wipe σ vs).set m x) vs = wipe σ vs)
    (he : ∀ (i : Nat) D acc (Q' : VK), (i : Int) < j → N B ((D, .lst acc) :: L) (Q' (.int (f i))) → N B ((D, .lst acc) :: L) (fun H => te ((wipe σ vs).set m (some (.int i))) H Q'))
    (hd : ∀ D, N B ((D, .lst (((List.range j.toNat).map f).map V.int)) :: L) (Q (.ref D))) : N B L (fun H => IR1 (Lc (gName m) tYes te vs σ Q) [.int j] H) := by
  refine n_lcR1 (fun i acc L' => acc = ((List.range i).map f).map V.int ∧ L' = L) ⟨by omega, by omega⟩ ⟨rfl, rfl⟩ ?_ ?_
  · rintro i acc L' D hi ⟨rfl, rfl⟩
    refine n_gName ?_
    refine n_wiped (hw _) ?_
    refine n_yes ?_
    refine n_iteT ?_
    refine he i D _ _ hi ?_
    refine n_put [] rfl ?_ ⟨?_, rfl⟩ (List.Sublist.refl _)
    · rw [List.length_map, List.length_map, List.length_range]
      exact sz_lt (by omega)
    · rw [List.range_succ, List.map_append, List.map_append]; rfl
  · rintro acc L' D ⟨rfl, rfl⟩
    exact hd D
/-- .. over a list of ints -/
theorem n_lcMapL (ns : List Int) (f : Int → Int) (hb : ns.length ≤ 100000) (hq : Sq K B L a (ns.map V.int)) (hw : ∀ x, wipe ((wipe σ vs).set m x) vs = wipe σ vs)
    (he : ∀ (x : Int) D acc (Q' : VK), x ∈ ns → N B ((D, .lst acc) :: L) (Q' (.int (f x))) → N B ((D, .lst acc) :: L) (fun H => te ((wipe σ vs).set m (some (.int x))) H Q'))
    (hd : ∀ D, N B ((D, .lst ((ns.map f).map V.int)) :: L) (Q (.ref D))) : N B L (fun H => IL K (Lc (gName m) tYes te vs σ Q) (.ref a) H) := by
  refine n_lcL (xs := ns.map V.int) (fun i acc L' => acc = ((ns.take i).map f).map V.int ∧ L' = L) (fun i acc L' _ p => by rw [p.2]; exact hq) ⟨rfl, rfl⟩ ?_ ?_
  · rintro i acc L' D hi ⟨rfl, rfl⟩
    have hi' : i < ns.length := by rw [List.length_map] at hi; exact hi
    rw [List.getElem_map]
    refine n_gName ?_
    refine n_wiped (hw _) ?_
    refine n_yes ?_
    refine n_iteT ?_
    refine he ns[i] D _ _ (List.getElem_mem hi') ?_
    refine n_put [] rfl ?_ ⟨?_, rfl⟩ (List.Sublist.refl _)
    · rw [List.length_map, List.length_map, List.length_take]
      exact sz_lt (by omega)
    · rw [take_step hi', List.map_append, List.map_append]; rfl
  · rintro acc L' D ⟨rfl, rfl⟩
    rw [List.length_map, List.take_length]
    exact hd D
theorem n_repLi {l : Addr} {ns : List Int} (hl : Is B L l (.lst (ns.map V.int))) (h0 : 0 ≤ j) (h1 : j ≤ 1000000) (hn : ns.length * j.toNat ≤ sizeLine) (q : ∀ p, N B ((p, .lst ((List.replicate j.toNat ns).flatten.map V.int)) :: L) (Q (.ref p))) : N B L (fun H => uMul (.ref l) (.int j) H Q) :=
  n_rep hl (by omega) (by omega) (by rw [List.length_map]; exact hn) (by
    have e : (List.replicate j.toNat (ns.map V.int)).flatten = (List.replicate j.toNat ns).flatten.map V.int := by rw [List.map_flatten, List.map_replicate]
    rw [e]; exact q)
end
theorem n_iteFe {B : Hp} {L : Own} {b : Bool} {k1 k2 : Hp → Prop} (e : b = false) (h : N B L k2) : N B L (fun H => if b = true then k1 H else k2 H) := by subst e; exact n_iteF h
theorem n_iteTe {B : Hp} {L : Own} {b : Bool} {k1 k2 : Hp → Prop} (e : b = true) (h : N B L k1) : N B L (fun H => if b = true then k1 H else k2 H) := by subst e; exact n_iteT h
section
variable {B : Hp} {L : Own} {t u : TT} {ta tb : TE} {σ : St} {QB : Bool → Hp → Prop} {Q : VK} {b : Bool}
theorem n_orC (q : N B L (fun H => t σ H fun c H1 => if c = true then QB true H1 else u σ H1 QB)) : N B L (fun H => tOr t u σ H QB) := q
theorem n_andC (q : N B L (fun H => t σ H fun c H1 => if c = true then u σ H1 QB else QB false H1)) : N B L (fun H => tAnd t u σ H QB) := q
def OrK (tb : TE) (σ : St) (Q : VK) (x : V) (H1 : Hp) : Prop := ∃ c, x = .bl c ∧ if c = true then Q (.bl true) H1 else tb σ H1 Q
def AndK (tb : TE) (σ : St) (Q : VK) (x : V) (H1 : Hp) : Prop := ∃ c, x = .bl c ∧ if c = true then tb σ H1 Q else Q (.bl false) H1
theorem n_orCV (q : N B L (fun H => ta σ H (OrK tb σ Q))) : N B L (fun H => tOrV ta tb σ H Q) := q
theorem n_andCV (q : N B L (fun H => ta σ H (AndK tb σ Q))) : N B L (fun H => tAndV ta tb σ H Q) := q
theorem n_orK (q : N B L (fun H => if b = true then Q (.bl true) H else tb σ H Q)) : N B L (fun H => OrK tb σ Q (.bl b) H) := fun H s => ⟨b, rfl, q H s⟩
theorem n_andK (q : N B L (fun H => if b = true then tb σ H Q else Q (.bl false) H)) : N B L (fun H => AndK tb σ Q (.bl b) H) := fun H s => ⟨b, rfl, q H s⟩
end
end Sk
namespace Sk
open PySem PySem.Spec PyProof.Rows L2
/-! ### the base grows -/
section
variable {B B' B0 H H' : Hp} {L L' : Own} {p a : Addr} {o : HO} {i : Nat} {K : PySem.W.Frag} {xs : List V} {v : V} {d : PyData} {k : Hp → Prop}
theorem SI.put (s : SI B L H) (hi : L[i]? = some (p, o)) : SI (upd B p o) (L.eraseIdx i) H := by
  have s2 : SI B ((p, o) :: L.eraseIdx i) H := s.perm (perm_at hi)
  have hp := (s2.own _ (List.mem_cons_self)).1
  have nd := s2.nd
  rw [List.map_cons, List.nodup_cons] at nd
  refine ⟨fun b u e => ?_, fun q hq => ?_, nd.2⟩
  · by_cases hb : b = p
    · subst hb
      rw [upd_same] at e
      cases e
      exact (s2.own _ (List.mem_cons_self)).2
    · rw [upd_ne hb] at e
      exact s2.ext _ _ e
  · obtain ⟨h1, h2⟩ := s2.own q (List.mem_cons_of_mem _ hq)
    refine ⟨?_, h2⟩
    rw [upd_ne (fun e => nd.1 (List.mem_map.mpr ⟨q, hq, e⟩))]
    exact h1
theorem same_put (hp : B p = none) : Same B (upd B p o) := fun b u e => by rw [upd_ne (ne_of_none e hp)]; exact e
theorem SI.mono (s : Same B B') (h : SI B' L H) : SI B L H := ⟨s.trans h.ext, fun q hq => ⟨s.free (h.own q hq).1, (h.own q hq).2⟩, h.nd⟩
/-- an object that is changed no more -/
theorem n_freeze (i : Nat) (hi : L[i]? = some (p, o)) (q : ∀ B', Same B B' → B' p = some o → N B' (L.eraseIdx i) k) : N B L k := fun H s =>
  q _ (same_put (s.free hi)) upd_same H (s.put hi)
theorem Sq.mono (s : Same B B') (h : Sq K B L a xs) : Sq K B' L a xs := fun H x => h H (x.mono s)
theorem Tp.mono (s : Same B B') (h : Tp K B L a xs) : Tp K B' L a xs := fun H x => h H (x.mono s)
theorem Is.mono (s : Same B B') (h : Is B L a o) : Is B' L a o := fun H x => h H (x.mono s)
theorem Da.mono (s : Same B B') (h : Da K B L v d) : Da K B' L v d := fun H x => h H (x.mono s)
theorem Tp.sub (h : Tp K B L a xs) (s : L.Sublist L') : Tp K B L' a xs := fun H x => h H (x.sub s)
theorem Da.sub (h : Da K B L v d) (s : L.Sublist L') : Da K B L' v d := fun H x => h H (x.sub s)
theorem Sq.nil (h : Sq K B [] a xs) : Sq K B L a xs := h.sub (List.nil_sublist _)
theorem Tp.nil (h : Tp K B [] a xs) : Tp K B L a xs := h.sub (List.nil_sublist _)
theorem Is.nil (h : Is B [] a o) : Is B L a o := h.sub (List.nil_sublist _)
theorem Da.nil (h : Da K B [] v d) : Da K B L v d := h.sub (List.nil_sublist _)
theorem is_in (h : B p = some o) : Is B [] p o := is_old h
theorem n_tup2F {Q : VK} (hn : xs.length ≤ sizeLine) (q : ∀ p B', Same B B' → B' p = some (.tup xs) → N B' L (Q (.ref p))) : N B L (fun H1 => TupK Q xs H1) :=
  n_tup2 hn fun p => n_freeze 0 rfl (q p)
/-- behind a turn, the base grown -/
def KG (B : Hp) (P : Hp → St → Own → Prop) : St → Hp → Prop := fun σ H => ∃ B' L, Same B B' ∧ SI B' L H ∧ P B' σ L
def KGW (B : Hp) (P : Nat → Hp → St → Own → Prop) (m : Nat) : St → Hp → Prop := fun σ H => ∃ B' m' L, Same B B' ∧ m' < m ∧ SI B' L H ∧ P m' B' σ L
variable {σ : St} {D : Ends} {ts tz : TS} {t : TT} {g : TG} {ns : List Int} {j lo : Int}
theorem n_kg {P : Hp → St → Own → Prop} (sm : Same B0 B) (h : P B σ L') (s : L'.Sublist L) : N B L (KG B0 P σ) := fun H x => ⟨B, L', sm, x.sub s, h⟩
theorem n_kgw {P : Nat → Hp → St → Own → Prop} {m m' : Nat} (sm : Same B0 B) (h : P m' B σ L') (lt : m' < m) (s : L'.Sublist L) : N B L (KGW B0 P m σ) := fun H x => ⟨B, m', L', sm, lt, x.sub s, h⟩
theorem lp_coreB {J : It} (n : Nat) (yl : Nat → V) (Pv : Nat → Hp → St → Own → Prop)
    (hgo : ∀ i B' σ L H, Same B B' → Pv i B' σ L → i < n → SI B' L H → J.go i H) (hst : ∀ B' σ L H, Same B B' → Pv n B' σ L → SI B' L H → J.stop n H)
    (hy : ∀ i B' σ L H x H', Same B B' → Pv i B' σ L → i < n → SI B' L H → J.yld i H x H' → H' = H ∧ x = yl i)
    (h0 : Pv 0 B σ L) (hs : ∀ i B' σ L, Same B B' → i < n → Pv i B' σ L → N B' L (fun H => g (yl i) σ H fun σ2 H2 => ts (loE D (KG B' (Pv (i + 1)))) σ2 H2))
    (hd : ∀ B' σ L, Same B B' → Pv n B' σ L → N B' L (D.nx σ)) : N B L (fun H => Lp g ts D σ J H) := by
  intro H s
  refine ⟨fun i m σ H => m = n - i ∧ i ≤ n ∧ ∃ B' L, Same B B' ∧ SI B' L H ∧ Pv i B' σ L, ⟨n, by omega, Nat.zero_le _, B, L, (Same.refl _), s, h0⟩, ?_⟩
  rintro i m σ H ⟨rfl, hi, B', L, sm, s, p⟩
  by_cases hlt : i < n
  · refine .inr ⟨hgo i B' σ L H sm p hlt s, KG B' (Pv (i + 1)), fun σ' H' ⟨B2, L', sm2, s', p'⟩ => ⟨n - (i + 1), by omega, rfl, hlt, B2, L', sm.trans sm2, s', p'⟩, fun x H' hx => ?_⟩
    obtain ⟨rfl, rfl⟩ := hy i B' σ L H x H' sm p hlt s hx
    exact hs i B' σ L sm hlt p _ s
  · have e : i = n := by omega
    subst e
    exact .inl ⟨hst B' σ L H sm p s, hd B' σ L sm p H s⟩
theorem n_lpLB (xs : List V) (Pv : Nat → Hp → St → Own → Prop) (hq : ∀ i B' σ L, Same B B' → i ≤ xs.length → Pv i B' σ L → Sq K B' L a xs) (h0 : Pv 0 B σ L)
    (hs : ∀ i B' σ L (hi : i < xs.length), Same B B' → Pv i B' σ L → N B' L (fun H => g xs[i] σ H fun σ2 H2 => ts (loE D (KG B' (Pv (i + 1)))) σ2 H2))
    (hd : ∀ B' σ L, Same B B' → Pv xs.length B' σ L → N B' L (D.nx σ)) : N B L (fun H => IL K (Lp g ts D σ) (.ref a) H) := by
  intro H s
  refine ⟨a, rfl, ⟨xs, hq 0 B σ L (Same.refl _) (Nat.zero_le _) h0 H s⟩, ?_⟩
  refine lp_coreB (J := Itl K a) xs.length (fun i => xs.getD i .non) Pv (fun i B' σ L H sm p hi s => ⟨xs, xs[i], hq i B' σ L sm (Nat.le_of_lt hi) p H s, List.getElem?_eq_getElem hi⟩) (fun B' σ L H sm p s => ⟨xs, hq _ B' σ L sm (Nat.le_refl _) p H s, Nat.le_refl _⟩) ?_ h0 ?_ hd H s
  · rintro i B' σ L H x H' sm p hi s ⟨e, hx⟩
    have := hx xs (hq i B' σ L sm (Nat.le_of_lt hi) p H s)
    refine ⟨e, ?_⟩
    rw [List.getElem?_eq_getElem hi] at this
    show x = xs.getD i .non
    rw [List.getD_eq_getElem?_getD, List.getElem?_eq_getElem hi]
    exact (Option.some.inj this).symm
  · intro i B' σ L sm hi p
    have e : xs.getD i .non = xs[i] := by rw [List.getD_eq_getElem?_getD, List.getElem?_eq_getElem hi]; rfl
    show N B' L (fun H => g (xs.getD i .non) σ H _)
    rw [e]
    exact hs i B' σ L hi sm p
theorem n_lpTB (xs : List V) (Pv : Nat → Hp → St → Own → Prop) (hq : ∀ i B' σ L, Same B B' → i ≤ xs.length → Pv i B' σ L → Tp K B' L a xs) (h0 : Pv 0 B σ L)
    (hs : ∀ i B' σ L (hi : i < xs.length), Same B B' → Pv i B' σ L → N B' L (fun H => g xs[i] σ H fun σ2 H2 => ts (loE D (KG B' (Pv (i + 1)))) σ2 H2))
    (hd : ∀ B' σ L, Same B B' → Pv xs.length B' σ L → N B' L (D.nx σ)) : N B L (fun H => ILT K (Lp g ts D σ) (.ref a) H) := by
  intro H s
  refine ⟨a, rfl, ⟨xs, hq 0 B σ L (Same.refl _) (Nat.zero_le _) h0 H s⟩, ?_⟩
  refine lp_coreB (J := Itt K a) xs.length (fun i => xs.getD i .non) Pv (fun i B' σ L H sm p hi s => ⟨xs, xs[i], hq i B' σ L sm (Nat.le_of_lt hi) p H s, List.getElem?_eq_getElem hi⟩) (fun B' σ L H sm p s => ⟨xs, hq _ B' σ L sm (Nat.le_refl _) p H s, Nat.le_refl _⟩) ?_ h0 ?_ hd H s
  · rintro i B' σ L H x H' sm p hi s ⟨e, hx⟩
    have := hx xs (hq i B' σ L sm (Nat.le_of_lt hi) p H s)
    refine ⟨e, ?_⟩
    rw [List.getElem?_eq_getElem hi] at this
    show x = xs.getD i .non
    rw [List.getD_eq_getElem?_getD, List.getElem?_eq_getElem hi]
    exact (Option.some.inj this).symm
  · intro i B' σ L sm hi p
    have e : xs.getD i .non = xs[i] := by rw [List.getD_eq_getElem?_getD, List.getElem?_eq_getElem hi]; rfl
    show N B' L (fun H => g (xs.getD i .non) σ H _)
    rw [e]
    exact hs i B' σ L hi sm p
theorem n_lpLiB (ns : List Int) (Pv : Nat → Hp → St → Own → Prop) (hq : ∀ i B' σ L, Same B B' → i ≤ ns.length → Pv i B' σ L → Sq K B' L a (ns.map V.int)) (h0 : Pv 0 B σ L)
    (hs : ∀ i B' σ L (hi : i < ns.length), Same B B' → Pv i B' σ L → N B' L (fun H => g (.int ns[i]) σ H fun σ2 H2 => ts (loE D (KG B' (Pv (i + 1)))) σ2 H2))
    (hd : ∀ B' σ L, Same B B' → Pv ns.length B' σ L → N B' L (D.nx σ)) : N B L (fun H => IL K (Lp g ts D σ) (.ref a) H) := by
  have e : (ns.map V.int).length = ns.length := List.length_map _
  refine n_lpLB (ns.map V.int) Pv (fun i B' σ L sm h p => hq i B' σ L sm (by omega) p) h0 (fun i B' σ L h sm p => ?_) (fun B' σ L sm p => hd B' σ L sm (by rw [← e]; exact p))
  have q := hs i B' σ L (by omega) sm p
  rw [List.getElem_map]
  exact q
theorem n_lpRB {n : Nat} (Pv : Nat → Hp → St → Own → Prop) (h0 : Pv 0 B σ L)
    (hs : ∀ i B' σ L, Same B B' → i < n → Pv i B' σ L → N B' L (fun H => g (.int (lo + i)) σ H fun σ2 H2 => ts (loE D (KG B' (Pv (i + 1)))) σ2 H2))
    (hd : ∀ B' σ L, Same B B' → Pv n B' σ L → N B' L (D.nx σ)) : N B L (fun H => Lp g ts D σ (Itr lo n) H) :=
  lp_coreB (J := Itr lo n) n (fun i => .int (lo + i)) Pv (fun i B' σ L H sm p hi s => hi) (fun B' σ L H sm p s => Nat.le_refl _) (fun i B' σ L H x H' sm p hi s h => h) h0 hs hd
theorem n_lpR1B (Pv : Nat → Hp → St → Own → Prop) (hb : -(2 ^ 62) ≤ j ∧ j < 2 ^ 62) (h0 : Pv 0 B σ L)
    (hs : ∀ (i : Nat) B' σ L, Same B B' → (i : Int) < j → Pv i B' σ L → N B' L (fun H => g (.int i) σ H fun σ2 H2 => ts (loE D (KG B' (Pv (i + 1)))) σ2 H2))
    (hd : ∀ B' σ L, Same B B' → Pv j.toNat B' σ L → N B' L (D.nx σ)) : N B L (fun H => IR1 (Lp g ts D σ) [.int j] H) := fun H s => ⟨j, rfl, hb.1, hb.2,
  n_lpRB (lo := 0) (n := j.toNat) Pv h0 (fun i B' σ L sm hi p => by rw [Int.zero_add]; exact hs i B' σ L sm (by omega) p) hd H s⟩
theorem n_lpR2B {i0 : Int} (Pv : Nat → Hp → St → Own → Prop) (hb : -(2 ^ 62) ≤ i0 ∧ i0 < 2 ^ 62 ∧ -(2 ^ 62) ≤ j ∧ j < 2 ^ 62) (h0 : Pv 0 B σ L)
    (hs : ∀ (n : Nat) B' σ L, Same B B' → i0 + (n : Int) < j → Pv n B' σ L → N B' L (fun H => g (.int (i0 + n)) σ H fun σ2 H2 => ts (loE D (KG B' (Pv (n + 1)))) σ2 H2))
    (hd : ∀ B' σ L, Same B B' → Pv (j - i0).toNat B' σ L → N B' L (D.nx σ)) : N B L (fun H => IR2 (Lp g ts D σ) [.int i0, .int j] H) := fun H s => ⟨i0, j, rfl, hb,
  n_lpRB (lo := i0) (n := (j - i0).toNat) Pv h0 (fun n B' σ L sm hi p => hs n B' σ L sm (by omega) p) hd H s⟩
theorem n_lpEB {n m : Nat} (xs : List V) (Pv : Nat → Hp → St → Own → Prop) (hq : ∀ i B' σ L, Same B B' → i ≤ xs.length → Pv i B' σ L → Sq K B' L a xs) (h0 : Pv 0 B σ L)
    (hs : ∀ (i : Nat) B' σ L (hi : i < xs.length), Same B B' → Pv i B' σ L → N B' L (fun H => ts (loE D (KG B' (Pv (i + 1)))) ((σ.set n (some (.int i))).set m (some xs[i])) H))
    (hd : ∀ B' σ L, Same B B' → Pv xs.length B' σ L → N B' L (D.nx σ)) : N B L (fun H => IE K (Lp (gTup K 2 (gCons (gName n) (gCons (gName m) gNil))) ts D σ) [.ref a] H) := by
  intro H s
  refine ⟨a, xs, rfl, hq 0 B σ L (Same.refl _) (Nat.zero_le _) h0 H s, ?_⟩
  refine ⟨fun i m σ H => m = xs.length - i ∧ i ≤ xs.length ∧ ∃ B' L, Same B B' ∧ SI B' L H ∧ Pv i B' σ L, ⟨xs.length, by omega, Nat.zero_le _, B, L, (Same.refl _), s, h0⟩, ?_⟩
  rintro i m' σ H ⟨rfl, hi, B', L, sm, s, p⟩
  have hsq := hq i B' σ L sm hi p H s
  by_cases hlt : i < xs.length
  · refine .inr ⟨⟨xs, xs[i], hsq, List.getElem?_eq_getElem hlt⟩, KG B' (Pv (i + 1)), fun σ' H' ⟨B2, L', sm2, s', p'⟩ => ⟨xs.length - (i + 1), by omega, rfl, hlt, B2, L', sm.trans sm2, s', p'⟩, fun v H' hx => ?_⟩
    obtain ⟨T, x, rfl, nT, rfl, hx⟩ := hx
    have := hx xs hsq
    rw [List.getElem?_eq_getElem hlt] at this
    cases this
    have s2 : SI B' ((T, .tup [.int i, xs[i]]) :: L) (upd H T (.tup [.int i, xs[i]])) := s.new nT
    refine ⟨T, [.int i, xs[i]], rfl, SqT.of upd_same, rfl, _, _, rfl, _, _, rfl, rfl, ?_⟩
    exact n_sub (L' := L) (List.sublist_cons_self _ _) (hs i B' σ L hlt sm p) _ s2
  · have e : i = xs.length := by omega
    subst e
    exact .inl ⟨⟨xs, hsq, Nat.le_refl _⟩, hd B' σ L sm p H s⟩
theorem n_wkB {Pv : Nat → Hp → St → Own → Prop} {m : Nat} (q : N B L (fun H => ts (loE D (KGW B Pv m)) σ H)) : N B L (fun H => ∃ N : St → Hp → Prop, (∀ σ' H', N σ' H' → ∃ m', m' < m ∧ KG B (Pv m') σ' H') ∧ ts { D with nx := N, ct := N, bk := D.nx } σ H) :=
  fun H s => ⟨KGW B Pv m, fun σ' H' ⟨B', m', L', sm, lt, s', p⟩ => ⟨m', lt, B', L', sm, s', p⟩, q H s⟩
def WKB (B : Hp) (Pv : Nat → Hp → St → Own → Prop) (m : Nat) (tb : TS) (D : Ends) (σ : St) (H1 : Hp) : Prop := ∃ N : St → Hp → Prop, (∀ σ' H', N σ' H' → ∃ m', m' < m ∧ KG B (Pv m') σ' H') ∧ tb { D with nx := N, ct := N, bk := D.nx } σ H1
theorem n_wkG {B2 : Hp} {Pv : Nat → Hp → St → Own → Prop} {m : Nat} (sm : Same B B2) (q : N B2 L (fun H => ts (loE D (KGW B Pv m)) σ H)) : N B2 L (fun H => WKB B Pv m ts D σ H) :=
  fun H s => ⟨KGW B Pv m, fun σ' H' ⟨B', m', L', sm, lt, s', p⟩ => ⟨m', lt, B', L', sm, s', p⟩, q H s⟩
theorem n_whileB (Pv : Nat → Hp → St → Own → Prop) (m0 : Nat) (h0 : Pv m0 B σ L)
    (hs : ∀ m B' σ L, Same B B' → Pv m B' σ L → N B' L (fun H => t σ H fun b H1 => if b = true then WKB B Pv m ts (onE D (tz D)) σ H1 else tz D σ H1)) : N B L (fun H => tSeq (tWhile t ts) tz D σ H) := by
  intro H s
  refine ⟨fun m σ H => KG B (Pv m) σ H, ⟨m0, B, L, (Same.refl _), s, h0⟩, ?_⟩
  rintro m σ H ⟨B', L, sm, s, p⟩
  exact hs m B' σ L sm p H s
theorem n_cutB {D : Ends} (M : Hp → St → Own → Prop) (h : N B L (fun H => tSeq ts tNext (onE D (KG B M)) σ H)) (q : ∀ B' σ' L', Same B B' → M B' σ' L' → N B' L' (fun H => tz D σ' H)) : N B L (fun H => Evl.tCut ts tz D σ H) :=
  fun H s => ⟨KG B M, h H s, fun σ' H' ⟨B', L', sm, s', m⟩ => q B' σ' L' sm m H' s'⟩
end
/-! ### calls, whatever is raised -/
def tCl (sp : Sp) (E : St → XK) (t : TA) : TE := fun σ H Q => t σ H fun vs H1 => sp vs H1 Q (E σ)
def MtK (C : Addr) (m : Str) (sp : Sp) (E : St → XK) (t : TA) (σ : St) (Q : VK) (x : V) (H1 : Hp) : Prop := ∃ a dx fs, x = .ref a ∧ H1 a = some (.ins C dx fs) ∧ fs.lookup m = none ∧ t σ H1 fun vs H2 => sp (x :: vs) H2 Q (E σ)
def tMt (C : Addr) (m : Str) (sp : Sp) (E : St → XK) (ta : TE) (t : TA) : TE := fun σ H Q => ta σ H (MtK C m sp E t σ Q)
def MkK (C : Addr) (sp : Sp) (E : XK) (Q : VK) (vs : List V) (H1 : Hp) : Prop := ∀ x dx, H1 x = none → H1 dx = none → dx ≠ x →
  sp (.ref x :: vs) (upd (upd H1 dx (.own x)) x (.ins C dx [])) (fun v H2 => v = .non ∧ Q (.ref x) H2) E
def tMkk (C : Addr) (sp : Sp) (E : St → XK) (t : TA) : TE := fun σ H Q => t σ H (MkK C sp (E σ) Q)
structure OkC (P : Program) (w : World) (K : PySem.W.Frag) (mg : Str → Option Value) (base : Heap) (CX : CXT) (k : Nat) (x : Str) (ps : List Str) (sp : Sp) : Prop where
  ex : ∃ f fd, FnOk P w K mg base CX k f fd ps sp ∧ mg x = some (.ref f) ∧ PySem.W.keepIn K (.ref f) = true ∧ Binds K fd ps []
structure OkM (P : Program) (w : World) (K : PySem.W.Frag) (mg : Str → Option Value) (base : Heap) (CX : CXT) (k : Nat) (C : Addr) (m : Str) (ps : List Str) (sp : Sp) : Prop where
  ex : ∃ f fd, FnOk P w K mg base CX k f fd ps sp ∧ Meth K C m f ∧ Binds K fd ps []
  cl : Cls K C
structure OkI (P : Program) (w : World) (K : PySem.W.Frag) (mg : Str → Option Value) (base : Heap) (CX : CXT) (k : Nat) (x : Str) (C : Addr) (ps : List Str) (sp : Sp) : Prop where
  ex : ∃ f fd, FnOk P w K mg base CX k f fd ps sp ∧ Mk K C f ∧ mg x = some (.ref C) ∧ Binds K fd ps []
section
variable {X : Cx} {CX : CXT} {k : Nat} {x m : Str} {ps : List Str} {sp : Sp} {p pos apos : Pos} {e o : Expr} {es : List Expr} {t : TA} {ta : TE} {E : St → XK} {C f : Addr} {fd : FuncData}
theorem run_make' {pins : List (Addr × Obj)} {σ : St} {H : Hp} {s : Shared} {Q : VK} {us : List Value} {vs : List V} (M : Mk X.K C f) (F : FnOk X.prog X.w X.K X.mg X.base CX k f fd ps sp) (hr : Room (k + 1) X.A) (hb : Binds X.K fd ps [])
    (hx : PassesAt CX X σ (E σ)) (I : Inv X pins σ H s) (r : Vals vs us) (h : MkK C sp (E σ) Q vs H) : wpAny (model X.prog X.w) X.A (call (.ref C) us) (EP X pins σ Q) X.xe s := by
  have hq := h (s.heap.objs.size + 1) s.heap.objs.size (I.hok.fresh (Nat.le_succ _)) (I.hok.fresh (Nat.le_refl _)) (Nat.ne_of_lt (Nat.lt_succ_self _))
  have I2 := Inv.made (C := C) I
  have r2 : Vals (V.ref (s.heap.objs.size + 1) :: vs) (Value.ref (s.heap.objs.size + 1) :: us) := .cons rfl r
  have hl : (Value.ref (s.heap.objs.size + 1) :: us).length = ps.length := by rw [← r2.length]; exact F.len _ _ _ _ hq
  have b := hb _ (Value.ref (s.heap.objs.size + 1) :: us) I2.kIn (by rw [List.append_nil]; exact hl)
  rw [List.append_nil] at b
  refine wpAny_call (make_map (f := f) I.kIn M.makes M.init (beq_iff_eq.mp M.fn) (codeAny_mono (F.run _ X.stack _ _ ⟨Value.ref (s.heap.objs.size + 1) :: us, []⟩ (Value.ref (s.heap.objs.size + 1) :: us) _ _ (E σ) (hr.make C us [])
    (I2.env0.make C us []) b r2 hq) fun r s' hq' => ?_))
  cases r with
  | error e => exact hx pins _ _ e s' I2 hq'
  | ok fl =>
    cases fl with
    | ret u =>
      obtain ⟨v, H', I3, rv, ev, q3⟩ := I2.after hq'
      subst ev
      exact ⟨rv, ⟨V.ref (s.heap.objs.size + 1), H', I3, rfl, q3⟩⟩
    | next => exact False.elim hq'
    | brk => exact False.elim hq'
    | cont => exact False.elim hq'
theorem pe_cl (O : OkC X.prog X.w X.K X.mg X.base CX k x ps sp) (hr : Room k X.A) (hg : Gl X x) (hx : ∀ σ, PassesAt CX X σ (E σ)) (ha : PA X (e :: es) t) (hdb : (x == ("__debug__" : Str)) = false := by decide)
    (he : starEach (e :: es) X.env = (false, eval e X.env) :: starEach es X.env := by rfl) (hpl : (backTo pos (starEach es X.env)).any (·.1) = false := by rfl) : PE X (.Call (.Name x p) (e :: es) [] pos) (tCl sp E t) := by
  obtain ⟨f, fd, F, g, kp, b⟩ := O.ex
  exact pe_callS F hr hg g kp b hx ha hdb he hpl
theorem pe_cl0 (O : OkC X.prog X.w X.K X.mg X.base CX k x ps sp) (hr : Room k X.A) (hg : Gl X x) (hx : ∀ σ, PassesAt CX X σ (E σ)) (hdb : (x == ("__debug__" : Str)) = false := by decide) : PE X (.Call (.Name x p) [] [] pos) (tCl sp E tNil) := by
  obtain ⟨f, fd, F, g, kp, b⟩ := O.ex
  refine ⟨fun pins s σ H Q I h => ?_⟩
  refine wpAny_Call_Name_kw (ld_glob I hg g ?_ hdb)
  exact PySem.W.callWith_K0 (first := []) I.kIn kp (run_fnS (us := []) (vs := []) F hr b (hx σ) I .nil h)
theorem pe_mt {pl : Sem Bool} (O : OkM X.prog X.w X.K X.mg X.base CX k C m ps sp) (he : PE X o ta) (hr : Room k X.A) (hx : ∀ σ, PassesAt CX X σ (E σ)) (ha : PA X (e :: es) t)
    (hst : starEach (e :: es) X.env = (false, eval e X.env) :: starEach es X.env := by rfl) (hpl : (backTo pos (starEach es X.env)).any (·.1) = false := by rfl)
    (ht : eval (.Call (.Attribute o m apos) (e :: es) [] pos) X.env = (do
      let ov ← eval o X.env
      standAt apos.atName
      let (f, first) ← holding [ov] (getMethod ov m pl)
      callWith pos f first (backTo pos (starEach (e :: es) X.env)) (backToKw pos (keywordEach [] X.env))) := by rfl) :
    PE X (.Call (.Attribute o m apos) (e :: es) [] pos) (tMt C m sp E ta t) := by
  obtain ⟨f, fd, F, hm, hb⟩ := O.ex
  refine ⟨fun pins s σ H Q I h => ?_⟩
  refine PySem.W.methodCall_KW (pl := pl) (thn (he.run pins s σ H _ I h) fun u s1 ⟨x, H1, I1, rx, a, dx, fs, ex, ea, l, q⟩ => ?_) ht
  subst ex
  obtain rfl : u = Value.ref a := rx
  refine getmeth_ok I1 ea O.cl hm l ?_
  refine PySem.W.callWith_K (first := [.ref a]) (h₀ := X.base) I1.ok.mod.kin hm.kp (thn (ha.run pos pins s1 σ H1 _ I1 q) fun us s2 ⟨vs, H2, I2, r, q2⟩ => ⟨I2.kIn, ?_⟩) hst hpl
  exact run_fnS (us := .ref a :: us) (vs := .ref a :: vs) F hr hb (hx σ) I2 (.cons rfl r) q2
theorem pe_mt0 {pl : Sem Bool} (O : OkM X.prog X.w X.K X.mg X.base CX k C m ps sp) (he : PE X o ta) (hr : Room k X.A) (hx : ∀ σ, PassesAt CX X σ (E σ))
    (ht : eval (.Call (.Attribute o m apos) [] [] pos) X.env = (do
      let ov ← eval o X.env
      standAt apos.atName
      let (f, first) ← holding [ov] (getMethod ov m pl)
      callWith pos f first (backTo pos (starEach [] X.env)) (backToKw pos (keywordEach [] X.env))) := by rfl) :
    PE X (.Call (.Attribute o m apos) [] [] pos) (tMt C m sp E ta tNil) := by
  obtain ⟨f, fd, F, hm, hb⟩ := O.ex
  refine ⟨fun pins s σ H Q I h => ?_⟩
  refine PySem.W.methodCall_KW (pl := pl) (thn (he.run pins s σ H _ I h) fun u s1 ⟨x, H1, I1, rx, a, dx, fs, ex, ea, l, q⟩ => ?_) ht
  subst ex
  obtain rfl : u = Value.ref a := rx
  refine getmeth_ok I1 ea O.cl hm l ?_
  exact PySem.W.callWith_K0 (first := [.ref a]) I1.kIn hm.kp (run_fnS (us := [.ref a]) (vs := [.ref a]) F hr hb (hx σ) I1 (.cons rfl .nil) q)
theorem pe_mkk (O : OkI X.prog X.w X.K X.mg X.base CX k x C ps sp) (hr : Room (k + 1) X.A) (hg : Gl X x) (hx : ∀ σ, PassesAt CX X σ (E σ)) (ha : PA X (e :: es) t) (hdb : (x == ("__debug__" : Str)) = false := by decide)
    (he : starEach (e :: es) X.env = (false, eval e X.env) :: starEach es X.env := by rfl) (hpl : (backTo pos (starEach es X.env)).any (·.1) = false := by rfl) : PE X (.Call (.Name x p) (e :: es) [] pos) (tMkk C sp E t) := by
  obtain ⟨f, fd, F, M, g, b⟩ := O.ex
  refine ⟨fun pins s σ H Q I h => ?_⟩
  refine wpAny_Call_Name_kw (ld_glob I hg g ?_ hdb)
  refine PySem.W.callWith_K (h₀ := X.base) I.ok.mod.kin M.kp (thn (ha.run pos pins s σ H _ I h) fun us s1 ⟨vs, H1, I1, r, q⟩ => ⟨I1.kIn, ?_⟩) he hpl
  exact run_make' M F hr b (hx σ) I1 r q
theorem pe_mkk0 (O : OkI X.prog X.w X.K X.mg X.base CX k x C ps sp) (hr : Room (k + 1) X.A) (hg : Gl X x) (hx : ∀ σ, PassesAt CX X σ (E σ)) (hdb : (x == ("__debug__" : Str)) = false := by decide) : PE X (.Call (.Name x p) [] [] pos) (tMkk C sp E tNil) := by
  obtain ⟨f, fd, F, M, g, b⟩ := O.ex
  refine ⟨fun pins s σ H Q I h => ?_⟩
  refine wpAny_Call_Name_kw (ld_glob I hg g ?_ hdb)
  exact PySem.W.callWith_K0 (first := []) I.kIn M.kp (run_make' (us := []) (vs := []) M F hr b (hx σ) I .nil h)
/-! what is let out -/
abbrev W0 : WX := fun _ _ _ _ => False
abbrev CXN := L2N.CX
theorem tk0 : L2N.Takes X W0 := fun _ _ x => by
  obtain ⟨_, _, _, _, _, _, _, _, _, _, _, _, _, _, _, _, z⟩ := x
  exact z.elim
theorem pass00 {W : WX} : ∀ σ, PassesAt CX0 X σ (WE W σ) := fun _ _ _ _ _ _ _ h => h.elim
theorem passN {W : WX} (tk : L2N.Takes X W) : ∀ σ, PassesAt (CXN X.prog X.w) X σ (WE W σ) := fun σ => L2N.passAt tk σ
end
section
variable {P : Program} {w : World} {K : PySem.W.Frag} {mg : Str → Option Value} {base : Heap}
theorem okN {x qual : Str} {st : Stmt} {f : Addr} {fd : FuncData} {N ps : List Str} {k : Nat} {sp : Sp} (F : Fun K x qual st f fd) (S : FnScope N ps (defScope st)) (len : ∀ vs H Q E, sp vs H Q E → vs.length = ps.length)
    (hbody : ∀ (cdv : Value) (A : Around) (outer : List Env) (s : Shared) (H : Hp) (vs : List V) (Q : VK) (E : XK), Room k (A.deeper (envOfC qual (defScope st) s.heap.objs.size f cdv)) → sp vs H Q E →
      ∃ t, PSs (cxOf (CXN P w) P w K mg base N qual (defScope st) f cdv A outer s H E) (defBody st) t ∧ t { nx := fun _ H' => Q .non H', rt := Q } (start N vs) H) : FnOk P w K mg base (CXN P w) (k + 1) f fd ps sp := by
  obtain ⟨oc, od, kV, doc, pm, an, cdv, ct, osl, rfl, lk, hcd⟩ := F.ex
  exact fn_of lk hcd S len fun A outer s H vs Q E hr hsp => hbody cdv A outer s H vs Q E hr hsp
end
/-! readings -/
def tRs (C : Addr) (W : WX) : TS := fun _ σ H => W (.ref C) none σ H
section
variable {K : PySem.W.Frag} {B : Hp} {L : Own} {Q : VK} {σ : St} {ta te to : TE} {t : TA} {sp : Sp} {E : St → XK} {C a : Addr} {m f : Str} {v y : V} {vs : List V} {fs fs' r r' : List (Str × V)} {dx : Addr} {D : Ends} {tz : TS} {W : WX} {E' : XK} {g : Str} {k : Hp → Prop} {n : Nat}
theorem n_cl (q : N B L (fun H => t σ H fun vs H1 => sp vs H1 Q (E σ))) : N B L (fun H => tCl sp E t σ H Q) := q
theorem n_mt (q : N B L (fun H => ta σ H (MtK C m sp E t σ Q))) : N B L (fun H => tMt C m sp E ta t σ H Q) := q
theorem n_mtK (h : Is B L a (.ins C dx fs)) (l : fs.lookup m = none) (q : N B L (fun H => t σ H fun vs H2 => sp (.ref a :: vs) H2 Q (E σ))) : N B L (fun H => MtK C m sp E t σ Q (.ref a) H) :=
  fun H s => ⟨a, dx, fs, rfl, h H s, l, q H s⟩
theorem n_mkk (q : N B L (fun H => t σ H (MkK C sp (E σ) Q))) : N B L (fun H => tMkk C sp E t σ H Q) := q
theorem n_mkK (q : ∀ x dx, N B ((x, .ins C dx []) :: L) (fun H => sp (.ref x :: vs) H (fun v H2 => v = .non ∧ Q (.ref x) H2) E')) : N B L (fun H => MkK C sp E' Q vs H) := fun H s x dx hx hd ne =>
  q x dx _ (((s.new (o := .own x) hd).new (p := x) (by rw [upd_ne (fun e => ne e.symm)]; exact hx)).sub (.cons₂ _ (.cons _ (.refl _))))
theorem n_nonA {x : V} (q : N B L k) (e : x = .non) : N B L (fun H => x = .non ∧ k H) := fun H s => ⟨e, q H s⟩
theorem n_rs (q : N B L (W (.ref C) none σ)) : N B L (fun H => tSeq (tRs C W) tz D σ H) := q
/-! fields -/
theorem lk_hit : List.lookup f ((f, v) :: r) = some v := by simp [List.lookup]
theorem lk_miss (h : (f == g) = false) : List.lookup f ((g, v) :: r) = List.lookup f r := by simp [List.lookup, h]
theorem lk_nil : List.lookup f ([] : List (Str × V)) = none := rfl
theorem pf_nil : putF f y [] = [(f, y)] := rfl
theorem pf_hit : putF f y ((f, v) :: r) = (f, y) :: r := by
  show (if f = f then _ else _) = _
  rw [if_pos rfl]
theorem pf_miss (h : ¬ g = f) (e : putF f y r = r') : putF f y ((g, v) :: r) = (g, v) :: r' := by
  show (if g = f then _ else _) = _
  rw [if_neg h, e]
def FldK (K : PySem.W.Frag) (f : Str) (Q : VK) (x : V) (H1 : Hp) : Prop := ∃ a C dx fs v, x = .ref a ∧ H1 a = some (.ins C dx fs) ∧ Cls K C ∧ NoAttr K C f ∧ fs.lookup f = some v ∧ Q v H1
theorem n_fld (q : N B L (fun H => ta σ H (FldK K f Q))) : N B L (fun H => tFld K ta f σ H Q) := q
theorem n_fldK (h : Is B L a (.ins C dx fs)) (c : Cls K C) (na : NoAttr K C f) (l : fs.lookup f = some v) (q : N B L (Q v)) : N B L (fun H => FldK K f Q (.ref a) H) := fun H s => ⟨a, C, dx, fs, v, rfl, h H s, c, na, l, q H s⟩
def SfK (K : PySem.W.Frag) (f : Str) (y : V) (k : Hp → Prop) (x : V) (H2 : Hp) : Prop := ∃ a C dx fs, x = .ref a ∧ H2 a = some (.ins C dx fs) ∧ Cls K C ∧ NoAttr K C f ∧ fs.length < 1000 ∧ k (upd H2 a (.ins C dx (putF f y fs)))
theorem n_asgF (q : N B L (fun H => te σ H fun y H1 => ta σ H1 (SfK K f y (tz D σ)))) : N B L (fun H => tSeq (sFld K ta te f) tz D σ H) := q
theorem n_sfK (hi : L[n]? = some (a, .ins C dx fs)) (c : Cls K C) (na : NoAttr K C f) (hl : fs.length < 1000) (e : putF f y fs = fs') (q : N B (L.set n (a, .ins C dx fs')) k) : N B L (fun H => SfK K f y k (.ref a) H) := fun H s =>
  ⟨a, C, dx, fs, rfl, s.at hi, c, na, hl, by rw [e]; exact q _ (s.set hi)⟩
def Fa2 (C a : Addr) (f : Str) (k : Hp → Prop) (z : V) (H3 : Hp) : Prop := ∃ dx' fs', H3 a = some (.ins C dx' fs') ∧ fs'.length < 1000 ∧ k (upd H3 a (.ins C dx' (putF f z fs')))
def FaK (K : PySem.W.Frag) (f : Str) (te : TE) (rd : V → V → Hp → VK → Prop) (σ : St) (k : Hp → Prop) (x : V) (H1 : Hp) : Prop := ∃ a C dx fs v, x = .ref a ∧ H1 a = some (.ins C dx fs) ∧ Cls K C ∧ NoAttr K C f ∧ fs.lookup f = some v ∧ te σ H1 fun y H2 => rd v y H2 (Fa2 C a f k)
theorem n_asgFa {rd : V → V → Hp → VK → Prop} (q : N B L (fun H => ta σ H (FaK K f te rd σ (tz D σ)))) : N B L (fun H => tSeq (sFldAug K ta te rd f) tz D σ H) := q
theorem n_faK {rd : V → V → Hp → VK → Prop} (h : Is B L a (.ins C dx fs)) (c : Cls K C) (na : NoAttr K C f) (l : fs.lookup f = some v) (q : N B L (fun H => te σ H fun y H2 => rd v y H2 (Fa2 C a f k))) : N B L (fun H => FaK K f te rd σ k (.ref a) H) :=
  fun H s => ⟨a, C, dx, fs, v, rfl, h H s, c, na, l, q H s⟩
theorem n_fa2 (hi : L[n]? = some (a, .ins C dx fs)) (hl : fs.length < 1000) (e : putF f y fs = fs') (q : N B (L.set n (a, .ins C dx fs')) k) : N B L (fun H => Fa2 C a f k y H) := fun H s =>
  ⟨dx, fs, s.at hi, hl, by rw [e]; exact q _ (s.set hi)⟩
end
/-! one object lent -/
section
variable {B : Hp} {L L' : Own} {k : Hp → Prop} {p : Addr} {o o' : HO} {i : Nat}
/-- one object handed in is changed; Ln are new; G the rest -/
abbrev NP (B : Hp) (Ln : Own) (p : Addr) (o : HO) (G : Own) (k : Hp → Prop) : Prop := N B (Ln ++ (p, o) :: G) k
abbrev NQ (B : Hp) (Ln : Own) (p : Addr) (o : HO) (L : Own) (i : Nat) (k : Hp → Prop) : Prop := N B (Ln ++ L.set i (p, o)) k
theorem NP.of {Ln : Own} (hi : L[i]? = some (p, o)) (h : NQ B Ln p o' L i k) : NP B Ln p o' (L.eraseIdx i) k := n_perm (List.Perm.append_left Ln (perm_set (p, o') hi)) h
theorem SI.front {H : Hp} (s : SI B L H) (hi : L[i]? = some (p, o)) : SI B ((p, o) :: L.eraseIdx i) H := s.perm (perm_at hi)
end
end Sk
namespace Sk
open PySem PySem.Spec PyProof.Rows L2
section
variable {B B' : Hp} {L L' : Own} {p a c : Addr} {o : HO} {K : PySem.W.Frag} {xs ys : List V} {os : List HO} {v : V} {k : Hp → Prop} {Q : VK} {σ : St} {D : Ends} {ts : TS} {g : TG} {ns ms : List Int} {i j lo : Int} {n : Nat} {tr : TA}
/-! range with a step -/
def IR3 (R : It → Hp → Prop) (vs : List V) (H1 : Hp) : Prop := ∃ (i j c : Int) (n : Nat), vs = [.int i, .int j, .int c] ∧ RgC i j c n ∧ R (Itc i c n) H1
theorem n_iR3 {R : It → Hp → Prop} (q : N B L (fun H => tr σ H (IR3 R))) : N B L (fun H => iRng3 tr σ H R) := q
theorem rgc_up {c : Int} (hc : 1 ≤ c) (hc2 : c < 1073741824) (h0 : 0 ≤ j) (h1 : j < 2 ^ 61) : RgC 0 j c ((j + c - 1) / c).toNat := by
  have q0 : 0 ≤ (j + c - 1) / c := Int.ediv_nonneg (by omega) (by omega)
  have q1 : (j + c - 1) / c ≤ j + c - 1 := Int.ediv_le_self _ (by omega)
  refine ⟨by omega, by omega, ?_, ?_⟩
  · unfold Builtin.Range.small
    rw [rangeSize_pos hc h0]
    simp only [Builtin.Range.rangeFitsLong, Bool.and_eq_true, Bool.or_eq_true, decide_eq_true_eq, beq_iff_eq, if_pos (show c > 0 by omega)]
    omega
  · rw [rangeSize_pos hc h0]
    omega
theorem n_lpR3 {c : Int} (Pv : Nat → St → Own → Prop) (hc : 1 ≤ c) (hc2 : c < 1073741824) (hj0 : 0 ≤ j) (hj1 : j < 2 ^ 61) (h0 : Pv 0 σ L)
    (hs : ∀ (i : Nat) σ L, (i : Int) < (j + c - 1) / c → Pv i σ L → N B L (fun H => g (.int (i * c)) σ H fun σ2 H2 => ts (loE D (KI B (Pv (i + 1)))) σ2 H2))
    (hd : ∀ σ L, Pv ((j + c - 1) / c).toNat σ L → N B L (D.nx σ)) : N B L (fun H => IR3 (Lp g ts D σ) [.int 0, .int j, .int c] H) := fun H s => ⟨0, j, c, _, rfl, rgc_up hc hc2 hj0 hj1,
  lp_core (J := Itc 0 c _) _ (fun i => .int (0 + (i : Nat) * c)) Pv (fun i σ L H p hi s => hi) (fun σ L H p s => Nat.le_refl _) (fun i σ L H x H' p hi s h => h) h0 (fun i σ L hi p => by
    have hi' : (i : Int) < (j + c - 1) / c := by omega
    rw [Int.zero_add]; exact hs i σ L hi' p) hd H s⟩
theorem n_extendLi {m : Nat} {l c : Addr} (hi : L[m]? = some (l, .lst (ns.map V.int))) (hc : Is B L c (.lst (ms.map V.int))) (hz : ns.length + ms.length ≤ sizeLine) (q : N B (L.set m (l, .lst ((ns ++ ms).map V.int))) (Q .non)) : N B L (fun H => rExtend (.ref l) [.ref c] H Q) :=
  n_extend hi hc (by rw [List.length_map, List.length_map]; exact hz) (by rw [← List.map_append]; exact q)
/-! objects that stand -/
def Objs (B : Hp) (vs : List V) (os : List HO) : Prop := ∃ ps : List Addr, vs = ps.map V.ref ∧ ps.length = os.length ∧ ∀ (i : Nat) p o, ps[i]? = some p → os[i]? = some o → B p = some o
theorem Objs.nil : Objs B [] [] := ⟨[], rfl, rfl, fun i p o h => by simp at h⟩
theorem Objs.mono (s : Same B B') (h : Objs B xs os) : Objs B' xs os := by
  obtain ⟨ps, h1, h2, h3⟩ := h
  exact ⟨ps, h1, h2, fun i p o a b => s _ _ (h3 i p o a b)⟩
theorem Objs.len (h : Objs B xs os) : xs.length = os.length := by
  obtain ⟨ps, rfl, h2, h3⟩ := h
  rw [List.length_map, h2]
theorem Objs.snoc (h : Objs B xs os) (hp : B p = some o) : Objs B (xs ++ [.ref p]) (os ++ [o]) := by
  obtain ⟨ps, rfl, h2, h3⟩ := h
  refine ⟨ps ++ [p], by rw [List.map_append]; rfl, by rw [List.length_append, List.length_append, h2]; rfl, fun i q o' a b => ?_⟩
  rw [List.getElem?_append] at a b
  rw [h2] at a
  split at a
  · rename_i hlt
    rw [if_pos hlt] at b
    exact h3 i q o' a b
  · rename_i hge
    rw [if_neg hge] at b
    have e : i - os.length = 0 := by
      by_cases hz : i - os.length = 0
      · exact hz
      · obtain ⟨m, hm⟩ := Nat.exists_eq_succ_of_ne_zero hz
        rw [hm] at a; simp at a
    rw [e] at a b
    cases a; cases b
    exact hp
theorem Objs.cons (hp : B p = some o) (h : Objs B xs os) : Objs B (.ref p :: xs) (o :: os) := by
  obtain ⟨ps, rfl, h2, h3⟩ := h
  refine ⟨p :: ps, rfl, by rw [List.length_cons, List.length_cons, h2], fun i q o' a b => ?_⟩
  cases i with
  | zero => cases a; cases b; exact hp
  | succ i => exact h3 i q o' a b
theorem Objs.at (h : Objs B xs os) {i : Nat} (hi : i < os.length) : ∃ p, xs[i]? = some (.ref p) ∧ B p = some os[i] := by
  obtain ⟨ps, rfl, h2, h3⟩ := h
  have hi' : i < ps.length := by omega
  exact ⟨ps[i], by rw [List.getElem?_map, List.getElem?_eq_getElem hi']; rfl, h3 i _ _ (List.getElem?_eq_getElem hi') (List.getElem?_eq_getElem hi)⟩
theorem Objs.drop (h : Objs B xs os) (m : Nat) : Objs B (xs.drop m) (os.drop m) := by
  obtain ⟨ps, rfl, h2, h3⟩ := h
  refine ⟨ps.drop m, by rw [List.map_drop], by rw [List.length_drop, List.length_drop, h2], fun i p o a b => ?_⟩
  rw [List.getElem?_drop] at a b
  exact h3 _ p o a b
theorem Objs.take (h : Objs B xs os) (m : Nat) : Objs B (xs.take m) (os.take m) := by
  obtain ⟨ps, rfl, h2, h3⟩ := h
  refine ⟨ps.take m, by rw [List.map_take], by rw [List.length_take, List.length_take, h2], fun i p o a b => ?_⟩
  rw [List.getElem?_take] at a b
  split at a
  · rename_i hlt
    rw [if_pos hlt] at b
    exact h3 _ p o a b
  · cases a
theorem Objs.app {ys : List V} {os' : List HO} (h : Objs B xs os) (h' : Objs B ys os') : Objs B (xs ++ ys) (os ++ os') := by
  obtain ⟨ps, rfl, h2, h3⟩ := h
  obtain ⟨qs, rfl, h4, h5⟩ := h'
  refine ⟨ps ++ qs, by rw [List.map_append], by rw [List.length_append, List.length_append, h2, h4], fun i q o' a b => ?_⟩
  rw [List.getElem?_append] at a b
  rw [h2] at a
  split at a
  · rename_i hlt
    rw [if_pos hlt] at b
    exact h3 i q o' a b
  · rename_i hge
    rw [if_neg hge] at b
    exact h5 _ q o' a b
/-- a list of objects that stand, walked -/
theorem n_lpOB (os : List HO) (Pv : Nat → Hp → St → Own → Prop) (ho : Objs B xs os) (hq : ∀ i B' σ L, Same B B' → i ≤ os.length → Pv i B' σ L → Sq K B' L a xs) (h0 : Pv 0 B σ L)
    (hs : ∀ i B' σ L p (hi : i < os.length), Same B B' → Pv i B' σ L → B' p = some os[i] → N B' L (fun H => g (.ref p) σ H fun σ2 H2 => ts (loE D (KG B' (Pv (i + 1)))) σ2 H2))
    (hd : ∀ B' σ L, Same B B' → Pv os.length B' σ L → N B' L (D.nx σ)) : N B L (fun H => IL K (Lp g ts D σ) (.ref a) H) := by
  have e := ho.len
  refine n_lpLB xs Pv (fun i B' σ L sm h p => hq i B' σ L sm (by omega) p) h0 (fun i B' σ L hi sm p => ?_) (fun B' σ L sm p => hd B' σ L sm (by rw [← e]; exact p))
  obtain ⟨q, e1, e2⟩ := ho.at (i := i) (by omega)
  rw [List.getElem?_eq_getElem hi] at e1
  rw [Option.some.inj e1]
  exact hs i B' σ L q (by omega) sm p (sm _ _ e2)
theorem n_lpOm {α : Type} (f : α → HO) (ds : List α) (Pv : Nat → Hp → St → Own → Prop) (ho : Objs B xs (ds.map f)) (hq : ∀ i B' σ L, Same B B' → i ≤ ds.length → Pv i B' σ L → Sq K B' L a xs) (h0 : Pv 0 B σ L)
    (hs : ∀ i B' σ L p (hi : i < ds.length), Same B B' → Pv i B' σ L → B' p = some (f ds[i]) → N B' L (fun H => g (.ref p) σ H fun σ2 H2 => ts (loE D (KG B' (Pv (i + 1)))) σ2 H2))
    (hd : ∀ B' σ L, Same B B' → Pv ds.length B' σ L → N B' L (D.nx σ)) : N B L (fun H => IL K (Lp g ts D σ) (.ref a) H) := by
  have e : (ds.map f).length = ds.length := List.length_map _
  refine n_lpOB (ds.map f) Pv ho (fun i B' σ L sm h p => hq i B' σ L sm (by omega) p) h0 (fun i B' σ L p hi sm q hp => ?_) (fun B' σ L sm p => hd B' σ L sm (by rw [← e]; exact p))
  rw [List.getElem_map] at hp
  exact hs i B' σ L p (by omega) sm q hp
theorem n_lpEiB {n m : Nat} (ns : List Int) (Pv : Nat → Hp → St → Own → Prop) (hq : ∀ i B' σ L, Same B B' → i ≤ ns.length → Pv i B' σ L → Sq K B' L a (ns.map V.int)) (h0 : Pv 0 B σ L)
    (hs : ∀ (i : Nat) B' σ L (hi : i < ns.length), Same B B' → Pv i B' σ L → N B' L (fun H => ts (loE D (KG B' (Pv (i + 1)))) ((σ.set n (some (.int i))).set m (some (.int ns[i]))) H))
    (hd : ∀ B' σ L, Same B B' → Pv ns.length B' σ L → N B' L (D.nx σ)) : N B L (fun H => IE K (Lp (gTup K 2 (gCons (gName n) (gCons (gName m) gNil))) ts D σ) [.ref a] H) := by
  have e : (ns.map V.int).length = ns.length := List.length_map _
  refine n_lpEB (ns.map V.int) Pv (fun i B' σ L sm h p => hq i B' σ L sm (by omega) p) h0 (fun i B' σ L h sm p => ?_) (fun B' σ L sm p => hd B' σ L sm (by rw [← e]; exact p))
  have q := hs i B' σ L (by omega) sm p
  rw [List.getElem_map]
  exact q
theorem pow2_mono {a b : Nat} (h : a ≤ b) : (2 : Int) ^ a ≤ 2 ^ b := by
  have e1 : ((2 : Int) ^ a) = ((2 ^ a : Nat) : Int) := by push_cast; rfl
  have e2 : ((2 : Int) ^ b) = ((2 ^ b : Nat) : Int) := by push_cast; rfl
  rw [e1, e2]
  exact Int.ofNat_le.mpr (Nat.pow_le_pow_right (by decide) h)
theorem rep_flat (n : Nat) (x : Int) : (List.replicate n [x]).flatten = List.replicate n x := by
  induction n with
  | zero => rfl
  | succ n ih => rw [List.replicate_succ, List.flatten_cons, ih]; rfl
theorem n_tl {x : Addr × HO} (q : N B L k) : N B (x :: L) k := n_sub (List.sublist_cons_self _ _) q
theorem n_appendR {l : Addr} {m : Nat} (hi : L[m]? = some (l, .lst xs)) (hz : xs.length < sizeLine) (q : N B (L.set m (l, .lst (xs ++ [v]))) (Q .non)) : N B L (fun H => rAppend (.ref l) [v] H Q) := n_append hi hz q
end
end Sk
namespace Sk
open PySem PySem.Spec PyProof.Rows L2
/-! ### an exception held -/
def asE (D : Ends) (i : Nat) : Ends := { nx := fun σ' H' => D.nx (σ'.set i none) H', rt := D.rt, bk := fun σ' H' => D.bk (σ'.set i none) H', ct := fun σ' H' => D.ct (σ'.set i none) H' }
theorem asE_nx {D : Ends} {i : Nat} {σ : St} : (asE D i).nx σ = D.nx (σ.set i none) := rfl
theorem asE_rt {D : Ends} {i : Nat} : (asE D i).rt = D.rt := rfl
theorem asE_bk {D : Ends} {i : Nat} {σ : St} : (asE D i).bk σ = D.bk (σ.set i none) := rfl
theorem asE_ct {D : Ends} {i : Nat} {σ : St} : (asE D i).ct σ = D.ct (σ.set i none) := rfl
def tTryAs (K : PySem.W.Frag) (c : Value) (i : Nat) (tb : WX → TS) (ts : Addr → Value → Option Addr → TS) (Wout : WX) : TS := fun D σ H => tb (wAs K c i ts Wout D) D σ H
def tTryOn (K : PySem.W.Frag) (c : Value) (tb : WX → TS) (ts : Addr → Value → Option Addr → TS) (Wout : WX) : TS := fun D σ H => tb (wOnly K c ts Wout D) D σ H
/-- isinstance(e, c) or isinstance(e, (c, ..)), e held at a -/
def rIsX (K : PySem.W.Frag) (a : Addr) (cls : Value) (d : Option Addr) : List V → Hp → VK → Prop := fun xs H Q => ∃ (D : Addr) (c : V), cls = .ref D ∧ d = none ∧ ExcC K D ∧ xs = [.ref a, c] ∧
  ((∃ cv b, (∀ u, RelV c u → u = cv) ∧ PySem.W.kitOne K (.ref D) cv = some b ∧ Q (.bl b) H) ∨ ∃ tp cs us b, c = .ref tp ∧ H tp = some (.tup cs) ∧ Paired ClsV cs us ∧ PySem.W.kitAny K (.ref D) us = some b ∧ Q (.bl b) H)
theorem call_isX {X : Cx} {a : Addr} {oe : Obj} {pn : List (Addr × Obj)} {cls : Value} {d : Option Addr} (hz : Zc cls d oe) (hf : ∃ vs, oe.data = .fields vs) : CallR (X.suite a ((a, oe) :: pn)) (.builtin "isinstance") (rIsX X.K a cls d) := by
  intro pins s σ H xs us Q I r h
  obtain ⟨D, c, rfl, rfl, C, rfl, h⟩ := h
  cases r with
  | cons rx rr =>
    cases rr with
    | cons rt rr =>
      cases rr
      cases rx
      obtain ⟨hget, _⟩ := I.pin (a, oe) (List.mem_append.mpr (.inl List.mem_cons_self))
      obtain ⟨vs, hv⟩ := hf
      have J : PySem.W.InstAt s.heap a oe D none := by
        obtain ⟨oc, od, oda, osl⟩ := oe
        obtain ⟨h1, h2⟩ := hz
        dsimp only at h1 h2 hv
        subst h1 h2 hv
        exact ⟨hget, rfl, rfl, trivial⟩
      rcases h with ⟨cv, b, hcv, e, q⟩ | ⟨tp, cs, us, b, rfl, hT, k, e, q⟩
      · have ec := hcv _ rt
        subst ec
        exact PySem.W.kia_one (PySem.W.handS_kitx_exc C.hg C.hk C.hs C.hd C.ha C.hn C.ht C.hm) I.kIn J e (fun z => nomatch z) fun tk => ⟨.bl b, H, I.kept (t' := tk) fun _ _ z => z, rfl, q⟩
      · cases rt
        obtain ⟨_, its, rv, o, h1, h2, n, h3⟩ := (show ObjOk X.prog X.w H s.heap tp (.tup cs) from I.hok tp _ hT)
        have e3 := ClsV.all k rv
        subst e3
        obtain ⟨oc, od, dt, sl⟩ := o
        simp only at h2 h3
        subst h2 h3
        exact PySem.W.kia_tup (PySem.W.handS_kitx_exc C.hg C.hk C.hs C.hd C.ha C.hn C.ht C.hm) I.kIn J h1 e (fun z => nomatch z) fun tk => ⟨.bl b, H, I.tok tk, rfl, q⟩
section
variable {K : PySem.W.Frag} {B : Hp} {L : Own} {Q : VK} {σ : St} {D : Ends} {tz : TS} {tb : WX → TS} {ts : Addr → Value → Option Addr → TS} {W : WX} {c cls : Value} {d : Option Addr} {i : Nat} {a C tp : Addr} {b : Bool} {cs : List V} {us : List Value}
theorem n_tryAs (q : N B L (fun H => tb (wAs K c i ts W (onE D (tz D))) (onE D (tz D)) σ H)) : N B L (fun H => tSeq (tTryAs K c i tb ts W) tz D σ H) := q
theorem n_tryOn (q : N B L (fun H => tb (wOnly K c ts W (onE D (tz D))) (onE D (tz D)) σ H)) : N B L (fun H => tSeq (tTryOn K c tb ts W) tz D σ H) := q
theorem n_wAs (em : PySem.W.exmOne K cls c = some true) (q : ∀ a, N B L (fun H => ts a cls d (asE D i) (σ.set i (some (.ref a))) H)) : N B L (fun H => wAs K c i ts W D cls d σ H) := fun H s => ⟨true, em, fun _ a _ => q a H s, fun h => nomatch h⟩
theorem n_wOn (em : PySem.W.exmOne K cls c = some true) (q : ∀ a, N B L (fun H => ts a cls d D σ H)) : N B L (fun H => wOnly K c ts W D cls d σ H) := fun H s => ⟨true, em, fun _ a _ => q a H s, fun h => nomatch h⟩
theorem n_isX1 {D : Addr} (X : ExcC K D) (h : PySem.W.kitOne K (.ref D) (.ref C) = some b) (q : N B L (Q (.bl b))) : N B L (fun H => rIsX K a (.ref D) none [.ref a, .ref C] H Q) := fun H s => ⟨D, _, rfl, rfl, X, rfl, .inl ⟨_, b, fun _ r => r, h, q H s⟩⟩
theorem n_isX2 {D : Addr} {T : String} (X : ExcC K D) (h : PySem.W.kitOne K (.ref D) (.type T) = some b) (q : N B L (Q (.bl b))) : N B L (fun H => rIsX K a (.ref D) none [.ref a, .ty T] H Q) := fun H s => ⟨D, _, rfl, rfl, X, rfl, .inl ⟨_, b, fun _ r => r, h, q H s⟩⟩
theorem n_isXT {D : Addr} (X : ExcC K D) (ht : Is B L tp (.tup cs)) (hp : Paired ClsV cs us) (h : PySem.W.kitAny K (.ref D) us = some b) (q : N B L (Q (.bl b))) : N B L (fun H => rIsX K a (.ref D) none [.ref a, .ref tp] H Q) :=
  fun H s => ⟨D, _, rfl, rfl, X, rfl, .inr ⟨tp, cs, us, b, rfl, ht H s, hp, h, q H s⟩⟩
end
def uMax2 : List V → Hp → VK → Prop := fun xs H Q => ∃ i j, xs = [.int i, .int j] ∧ Q (.int (if j > i then j else i)) H
def uMin2 : List V → Hp → VK → Prop := fun xs H Q => ∃ i j, xs = [.int i, .int j] ∧ Q (.int (if j < i then j else i)) H
def uAbs : List V → Hp → VK → Prop := fun xs H Q => ∃ i, xs = [.int i] ∧ Q (.int (if i < 0 then -i else i)) H
def uInt : List V → Hp → VK → Prop := fun xs H Q => ((∃ i, xs = [.int i] ∧ Q (.int i) H) ∨ ∃ k, xs = [.bl k] ∧ Q (.int (if k then 1 else 0)) H) ∨ ∃ a n, xs = [.str a] ∧ PySem.intText? a = some n ∧ a.length ≤ 640 ∧ Q (.int n) H
theorem call_uInt {X : Cx} : CallR X (.type "int") uInt := call_int1.or call_int_str
section
variable {K : PySem.W.Frag} {B : Hp} {L : Own} {Q : VK} {i j : Int} {b : Bool}
theorem n_max2 (q : N B L (Q (.int (max i j)))) : N B L (fun H => uMax2 [.int i, .int j] H Q) := fun H s => ⟨i, j, rfl, by
  have e : (if j > i then j else i) = max i j := by omega
  rw [e]; exact q H s⟩
theorem n_min2 (q : N B L (Q (.int (min i j)))) : N B L (fun H => uMin2 [.int i, .int j] H Q) := fun H s => ⟨i, j, rfl, by
  have e : (if j < i then j else i) = min i j := by omega
  rw [e]; exact q H s⟩
theorem n_intI (q : N B L (Q (.int i))) : N B L (fun H => uInt [.int i] H Q) := fun H s => .inl (.inl ⟨i, rfl, q H s⟩)
theorem n_intB (q : N B L (Q (.int (if b then 1 else 0)))) : N B L (fun H => uInt [.bl b] H Q) := fun H s => .inl (.inr ⟨b, rfl, q H s⟩)
end
section
variable {K : PySem.W.Frag} {B : Hp} {L : Own} {Q : VK} {s1 s2 : Str} {v : V} {p : Addr} {xs : List V} {ds : List PyData}
theorem n_eqSt (h : s1 = s2) (q : N B L (Q (.bl true))) : N B L (fun H => uEq K (.str s1) (.str s2) H Q) := n_eqS (by rw [decide_eq_true h]; exact q)
theorem n_eqSf (h : ¬ s1 = s2) (q : N B L (Q (.bl false))) : N B L (fun H => uEq K (.str s1) (.str s2) H Q) := n_eqS (by rw [decide_eq_false h]; exact q)
theorem n_neSt (h : ¬ s1 = s2) (q : N B L (Q (.bl true))) : N B L (fun H => uNe K (.str s1) (.str s2) H Q) := n_neS (by rw [decide_eq_false h]; exact q)
theorem n_neSf (h : s1 = s2) (q : N B L (Q (.bl false))) : N B L (fun H => uNe K (.str s1) (.str s2) H Q) := n_neS (by rw [decide_eq_true h]; exact q)
def DaA (K : PySem.W.Frag) (B : Hp) (L : Own) (xs : List V) (ds : List PyData) : Prop := ∀ H, SI B L H → DpAll K H xs ds
theorem da_str : Da K B L (.str s1) (.str s1) := fun _ _ => .str s1
theorem da_bl {b : Bool} : Da K B L (.bl b) (.bool b) := fun _ _ => .bl b
theorem da_non : Da K B L .non .none := fun _ _ => .non
theorem da_tup (h : Tp K B L p xs) (a : DaA K B L xs ds) : Da K B L (.ref p) (.tuple ds) := fun H s => .tup (h H s) (a H s)
theorem da_lst (h : Sq K B L p xs) (a : DaA K B L xs ds) : Da K B L (.ref p) (.list ds) := fun H s => .lst (h H s) (a H s)
theorem daA_nil : DaA K B L [] [] := fun _ _ => .nil
theorem daA_cons {d : PyData} (h : Da K B L v d) (a : DaA K B L xs ds) : DaA K B L (v :: xs) (d :: ds) := fun H s => .cons (h H s) (a H s)
theorem getD_all {α : Type} {P : α → Prop} {l : List α} {i : Nat} {z : α} (h : ∀ x ∈ l, P x) (h0 : P z) : P (l.getD i z) := by
  rw [List.getD_eq_getElem?_getD]
  by_cases hi : i < l.length
  · rw [List.getElem?_eq_getElem hi]; exact h _ (List.getElem_mem hi)
  · rw [List.getElem?_eq_none (by omega)]; exact h0
end
theorem n_lenLi {K : PySem.W.Frag} {B : Hp} {L : Own} {Q : VK} {a : Addr} {ns : List Int} (h : Sq K B L a (ns.map V.int)) (q : N B L (Q (.int ns.length))) : N B L (fun H => uLen K [.ref a] H Q) := n_len h (by rw [List.length_map]; exact q)
theorem n_front {B : Hp} {L : Own} {k : Hp → Prop} {x : Addr × HO} (i : Nat) (hi : L[i]? = some x) (q : N B (x :: L.eraseIdx i) k) : N B L k := n_perm (perm_at hi) q
end Sk
namespace Sk
open PySem PySem.Spec PyProof.Rows L2
/-! ### lists side by side -/
def All2 {α β : Type} (R : α → β → Prop) (xs : List α) (ys : List β) : Prop := xs.length = ys.length ∧ ∀ (i : Nat) x y, xs[i]? = some x → ys[i]? = some y → R x y
section
variable {α β : Type} {R R' : α → β → Prop} {xs xs' : List α} {ys ys' : List β} {x : α} {y : β}
theorem All2.nil : All2 R [] [] := ⟨rfl, fun i x y h => by simp at h⟩
theorem All2.imp (f : ∀ x y, R x y → R' x y) (h : All2 R xs ys) : All2 R' xs ys := ⟨h.1, fun i x y a b => f _ _ (h.2 i x y a b)⟩
theorem All2.len (h : All2 R xs ys) : xs.length = ys.length := h.1
theorem All2.cons (hp : R x y) (h : All2 R xs ys) : All2 R (x :: xs) (y :: ys) := by
  refine ⟨by rw [List.length_cons, List.length_cons, h.1], fun i a b e f => ?_⟩
  cases i with
  | zero => cases e; cases f; exact hp
  | succ i => exact h.2 i a b e f
theorem All2.app (h : All2 R xs ys) (h' : All2 R xs' ys') : All2 R (xs ++ xs') (ys ++ ys') := by
  refine ⟨by rw [List.length_append, List.length_append, h.1, h'.1], fun i a b e f => ?_⟩
  rw [List.getElem?_append] at e f
  rw [h.1] at e
  split at e
  · rename_i hlt
    rw [if_pos hlt] at f
    exact h.2 i a b e f
  · rename_i hge
    rw [if_neg hge] at f
    exact h'.2 _ a b e f
theorem All2.snoc (h : All2 R xs ys) (hp : R x y) : All2 R (xs ++ [x]) (ys ++ [y]) := h.app (.cons hp .nil)
theorem All2.at (h : All2 R xs ys) {i : Nat} (hi : i < ys.length) : ∃ x, xs[i]? = some x ∧ R x ys[i] := by
  have hi' : i < xs.length := by rw [h.1]; exact hi
  exact ⟨xs[i], List.getElem?_eq_getElem hi', h.2 i _ _ (List.getElem?_eq_getElem hi') (List.getElem?_eq_getElem hi)⟩
theorem All2.drop (h : All2 R xs ys) (m : Nat) : All2 R (xs.drop m) (ys.drop m) := by
  refine ⟨by rw [List.length_drop, List.length_drop, h.1], fun i a b e f => ?_⟩
  rw [List.getElem?_drop] at e f
  exact h.2 _ a b e f
theorem All2.take (h : All2 R xs ys) (m : Nat) : All2 R (xs.take m) (ys.take m) := by
  refine ⟨by rw [List.length_take, List.length_take, h.1], fun i a b e f => ?_⟩
  rw [List.getElem?_take] at e f
  split at e
  · rename_i hlt
    rw [if_pos hlt] at f
    exact h.2 _ a b e f
  · cases e
theorem All2.map {γ : Type} {S : α → γ → Prop} (f : β → γ) (g : ∀ x y, R x y → S x (f y)) (h : All2 R xs ys) : All2 S xs (ys.map f) := by
  refine ⟨by rw [List.length_map, h.1], fun i a b e1 e2 => ?_⟩
  rw [List.getElem?_map] at e2
  cases e3 : ys[i]? with
  | none => rw [e3] at e2; cases e2
  | some y => rw [e3] at e2; cases e2; exact g _ _ (h.2 i a y e1 e3)
end
section
variable {B B' : Hp} {L L' : Own} {p a c : Addr} {o : HO} {K : PySem.W.Frag} {xs ys : List V} {v : V} {k : Hp → Prop} {Q : VK} {σ : St} {D : Ends} {ts : TS} {g : TG} {ns : List Int} {i j : Int} {n : Nat}
/-- a list of values of one kind, walked -/
theorem n_lpA {α : Type} {R : Hp → V → α → Prop} (ds : List α) (Pv : Nat → Hp → St → Own → Prop) (mono : ∀ B B' v d, Same B B' → R B v d → R B' v d) (ho : All2 (R B) xs ds) (hq : ∀ i B' σ L, Same B B' → i ≤ ds.length → Pv i B' σ L → Sq K B' L a xs) (h0 : Pv 0 B σ L)
    (hs : ∀ i B' σ L v (hi : i < ds.length), Same B B' → Pv i B' σ L → R B' v ds[i] → N B' L (fun H => g v σ H fun σ2 H2 => ts (loE D (KG B' (Pv (i + 1)))) σ2 H2))
    (hd : ∀ B' σ L, Same B B' → Pv ds.length B' σ L → N B' L (D.nx σ)) : N B L (fun H => IL K (Lp g ts D σ) (.ref a) H) := by
  have e := ho.len
  refine n_lpLB xs Pv (fun i B' σ L sm h p => hq i B' σ L sm (by omega) p) h0 (fun i B' σ L hi sm p => ?_) (fun B' σ L sm p => hd B' σ L sm (by rw [← e]; exact p))
  obtain ⟨q, e1, e2⟩ := ho.at (i := i) (by omega)
  rw [List.getElem?_eq_getElem hi] at e1
  rw [Option.some.inj e1]
  exact hs i B' σ L q (by omega) sm p (mono _ _ _ _ sm e2)
/-- an item from the end -/
theorem n_ixLiN (hs : Sq K B L a (ns.map V.int)) (h0 : 0 < j) (h1 : j ≤ ns.length) (q : N B L (Q (.int (ns.getD (ns.length - j.toNat) 0)))) : N B L (fun H => rIx K (.ref a) (.int (-j)) H Q) := by
  refine n_ixL hs ?_ q
  unfold atI ixN
  rw [if_neg (by omega), List.length_map, if_pos (by omega)]
  show (ns.map V.int)[(-j + ns.length).toNat]? = _
  rw [show (-j + (ns.length : Int)).toNat = ns.length - j.toNat by omega, List.getElem?_map, List.getD_eq_getElem?_getD, List.getElem?_eq_getElem (show ns.length - j.toNat < ns.length by omega)]
  rfl
end
/-! ### data that is compared -/
def rank : PyData → Nat
  | .list xs | .tuple xs => PyData.depthAll xs + 1
  | _ => 0
mutual
theorem eqv_self : ∀ d : PyData, d.canLay0 = true → PyData.eqv d d = true
  | .none, _ => by simp [PyData.eqv]
  | .bool b, _ => by simp [PyData.eqv]
  | .int i, _ => by simp [PyData.eqv]
  | .str x, _ => by simp [PyData.eqv]
  | .list xs, h => by
    simp only [PyData.canLay0] at h
    simp only [PyData.eqv]
    exact eqvAll_self xs h
  | .tuple xs, h => by
    simp only [PyData.canLay0] at h
    simp only [PyData.eqv]
    exact eqvAll_self xs h
  | .dict kvs, h => by simp [PyData.canLay0] at h
theorem eqvAll_self : ∀ ds : List PyData, PyData.canLayAll0 ds = true → PyData.eqvAll ds ds = true
  | [], _ => by simp [PyData.eqvAll]
  | d :: r, h => by
    simp only [PyData.canLayAll0, Bool.and_eq_true] at h
    simp only [PyData.eqvAll, eqv_self d h.1, eqvAll_self r h.2, Bool.and_self]
end
/-- may be compared: no dict, not deep -/
def Cmp (k : Nat) (d : PyData) : Prop := d.canLay0 = true ∧ d.depth ≤ k
theorem Cmp.shaped {k : Nat} {d : PyData} (h : Cmp k d) (hk : k ≤ 64) : SeqAt.shaped d = true := by
  show (d.canLay0 && decide (d.depth ≤ 64)) = true
  rw [h.1, decide_eq_true (Nat.le_trans h.2 hk)]; rfl
theorem Cmp.int {k : Nat} {i : Int} : Cmp k (.int i) := ⟨rfl, Nat.zero_le _⟩
theorem Cmp.bool {k : Nat} {b : Bool} : Cmp k (.bool b) := ⟨rfl, Nat.zero_le _⟩
theorem Cmp.all {k : Nat} : ∀ {ds : List PyData}, (∀ d ∈ ds, Cmp k d) → PyData.canLayAll0 ds = true ∧ PyData.depthAll ds ≤ k
  | [], _ => ⟨rfl, Nat.zero_le _⟩
  | d :: r, h => by
    obtain ⟨h1, h2⟩ := h d (List.mem_cons_self)
    obtain ⟨h3, h4⟩ := Cmp.all (ds := r) fun x hx => h x (List.mem_cons_of_mem _ hx)
    refine ⟨?_, ?_⟩
    · show (d.canLay0 && PyData.canLayAll0 r) = true
      rw [h1, h3]; rfl
    · show max d.depth (PyData.depthAll r) ≤ k
      omega
theorem Cmp.list {k : Nat} {ds : List PyData} (h : ∀ d ∈ ds, Cmp k d) : Cmp (k + 1) (.list ds) := by
  obtain ⟨h1, h2⟩ := Cmp.all h
  exact ⟨h1, Nat.succ_le_succ h2⟩
theorem Cmp.tuple {k : Nat} {ds : List PyData} (h : ∀ d ∈ ds, Cmp k d) : Cmp (k + 1) (.tuple ds) := by
  obtain ⟨h1, h2⟩ := Cmp.all h
  exact ⟨h1, Nat.succ_le_succ h2⟩
theorem Cmp.map {α : Type} {k : Nat} {xs : List α} {f : α → PyData} (h : ∀ x ∈ xs, Cmp k (f x)) : ∀ d ∈ xs.map f, Cmp k d := by
  intro d hd
  obtain ⟨x, hx, rfl⟩ := List.mem_map.mp hd
  exact h x hx
section
variable {K : PySem.W.Frag} {B : Hp} {L : Own} {Q : VK} {x y : V} {d : PyData} {k : Nat} {xs : List V} {ds : List PyData}
theorem n_eqSelf (h1 : Da K B L x d) (h2 : Da K B L y d) (c : Cmp k d) (hk : k ≤ 64) (q : N B L (Q (.bl true))) : N B L (fun H => uEq K x y H Q) := n_eqD h1 h2 (c.shaped hk) (c.shaped hk) (by rw [eqv_self d c.1]; exact q)
theorem n_neSelf (h1 : Da K B L x d) (h2 : Da K B L y d) (c : Cmp k d) (hk : k ≤ 64) (q : N B L (Q (.bl false))) : N B L (fun H => uNe K x y H Q) := n_neD h1 h2 (c.shaped hk) (c.shaped hk) (by rw [eqv_self d c.1]; exact q)
theorem daA_of : ∀ {xs : List V} {ds : List PyData}, All2 (Da K B L) xs ds → DaA K B L xs ds
  | [], [], _ => daA_nil
  | [], d :: r, h => by have := h.1; simp at this
  | x :: xs, [], h => by have := h.1; simp at this
  | x :: xs, d :: ds, h => daA_cons (h.2 0 x d rfl rfl) (daA_of ⟨Nat.succ.inj h.1, fun i a b e f => h.2 (i + 1) a b e f⟩)
end
section
variable {K : PySem.W.Frag} {B : Hp} {L : Own} {Q : VK} {a c : Addr} {ns : List Int} {xs : List V}
theorem n_eqNil (h1 : Sq K B L a (ns.map V.int)) (h2 : Is B L c (.lst [])) (q : N B L (Q (.bl (decide (ns = []))))) : N B L (fun H => uEq K (.ref a) (.ref c) H Q) := n_eqLi (ms := []) h1 (is_sq h2) q
theorem n_neNil (h1 : Sq K B L a (ns.map V.int)) (h2 : Is B L c (.lst [])) (q : N B L (Q (.bl (!decide (ns = []))))) : N B L (fun H => uNe K (.ref a) (.ref c) H Q) := n_neLi (ms := []) h1 (is_sq h2) q
end
section
variable {B : Hp} {L : Own} {Q : VK} {a : Addr} {i : Int}
theorem n_isN0 (q : N B L (Q (.bl true))) : N B L (fun H => uIsN .non .non H Q) := n_isN (by rw [decide_eq_true rfl]; exact q)
theorem n_isNr (q : N B L (Q (.bl false))) : N B L (fun H => uIsN (.ref a) .non H Q) := n_isN (by rw [decide_eq_false (fun h => nomatch h)]; exact q)
theorem n_isNi (q : N B L (Q (.bl false))) : N B L (fun H => uIsN (.int i) .non H Q) := n_isN (by rw [decide_eq_false (fun h => nomatch h)]; exact q)
theorem n_notN0 (q : N B L (Q (.bl false))) : N B L (fun H => uNotN .non .non H Q) := n_notN (by rw [decide_eq_true rfl]; exact q)
theorem n_notNr (q : N B L (Q (.bl true))) : N B L (fun H => uNotN (.ref a) .non H Q) := n_notN (by rw [decide_eq_false (fun h => nomatch h)]; exact q)
theorem n_notNi (q : N B L (Q (.bl true))) : N B L (fun H => uNotN (.int i) .non H Q) := n_notN (by rw [decide_eq_false (fun h => nomatch h)]; exact q)
end
theorem n_base {B B' : Hp} {L : Own} {k : Hp → Prop} (sm : Same B B') (h : N B L k) : N B' L k := fun H s => h H (s.mono sm)
theorem at_last {α : Type} (xs : List α) (x : α) : atI (xs ++ [x]) (-1) = some x := by
  unfold atI ixN
  rw [if_neg (by decide), List.length_append, if_pos (by show -((xs.length + 1 : Nat) : Int) ≤ -1; omega)]
  show (xs ++ [x])[(-1 + ((xs.length + 1 : Nat) : Int)).toNat]? = _
  rw [show (-1 + ((xs.length + 1 : Nat) : Int)).toNat = xs.length by omega, List.getElem?_append_right (Nat.le_refl _), Nat.sub_self]
  rfl
end Sk
namespace Sk
open PySem PySem.Spec PyProof.Rows L2
/-! ### a chain of three comparisons -/
def tChain3 (r r' r'' : R2) (ta tb tc td : TE) : TE := fun σ H Q => ta σ H fun x H1 => tb σ H1 fun y H2 => r x y H2 fun z H3 => ∃ k, z = .bl k ∧
  (if k = true then tc σ H3 fun w' H4 => r' y w' H4 fun z2 H5 => ∃ k2, z2 = .bl k2 ∧ (if k2 = true then td σ H5 fun v' H6 => r'' w' v' H6 Q else Q (.bl false) H5) else Q (.bl false) H3)
section
variable {X : Cx} {a b c d : Expr} {ta tb tc td : TE} {pos : Pos} {op op' op'' : CmpOp} {r r' r'' : R2}
theorem pe_chain3 (ho : OpR X (compareOp op) r) (ho' : OpR X (compareOp op') r') (ho'' : OpR X (compareOp op'') r'') (ha : PE X a ta) (hb : PE X b tb) (hc : PE X c tc) (hd : PE X d td)
    (hm : lastMarks [op, op', op''] [b, c, d] = false := by with_unfolding_all rfl) : PE X (.Compare a [op, op', op''] [b, c, d] pos) (tChain3 r r' r'' ta tb tc td) := by
  refine ⟨fun pins s σ H Q I h => ?_⟩
  refine Compare_chain (thn (ha.run pins s σ H _ I h) fun v s1 ⟨x, H1, I1, r1, q1⟩ => chain_link (thn (hb.run pins s1 σ H1 _ I1 q1) fun u s2 ⟨y, H2, I2, r2, q2⟩ =>
    thn (ho pins s2 σ H2 x y v u _ I2 r1 r2 q2) fun d1 s3 ⟨z, H3, I3, r3, k, e, q3⟩ => ?_)) hm
  subst e
  cases r3
  refine wpAny_truthy_bool ?_
  cases k with
  | false => exact ite_ff ⟨.bl false, H3, I3, rfl, q3⟩
  | true =>
    refine ite_tt (chain_link (thn (hc.run pins s3 σ H3 _ I3 q3) fun w' s4 ⟨z', H4, I4, r4, q4⟩ => thn (ho' pins s4 σ H4 y z' u w' _ I4 r2 r4 q4) fun d2 s5 ⟨z2, H5, I5, r5, k2, e2, q5⟩ => ?_))
    subst e2
    cases r5
    refine wpAny_truthy_bool ?_
    cases k2 with
    | false => exact ite_ff ⟨.bl false, H5, I5, rfl, q5⟩
    | true => exact ite_tt (chain_last (thn (hd.run pins s5 σ H5 _ I5 q5) fun v' s6 ⟨z3, H6, I6, r6, q6⟩ => ho'' pins s6 σ H6 z' z3 w' v' Q I6 r4 r6 q6))
theorem pt_chain3 (ho : OpR X (compareOp op) r) (ho' : OpR X (compareOp op') r') (ho'' : OpR X (compareOp op'') r'') (ha : PE X a ta) (hb : PE X b tb) (hc : PE X c tc) (hd : PE X d td)
    (hm : lastMarks [op, op', op''] [b, c, d] = false := by with_unfolding_all rfl) : PT X (.Compare a [op, op', op''] [b, c, d] pos) (tTest (tChain3 r r' r'' ta tb tc td)) := by
  refine ⟨fun pins s σ H Q I h => ?_⟩
  refine isTrue_chain (thn (ha.run pins s σ H _ I h) fun v s1 ⟨x, H1, I1, r1, q1⟩ => test_link (thn (hb.run pins s1 σ H1 _ I1 q1) fun u s2 ⟨y, H2, I2, r2, q2⟩ =>
    thn (ho pins s2 σ H2 x y v u _ I2 r1 r2 q2) fun d1 s3 ⟨z, H3, I3, r3, k, e, q3⟩ => ?_)) hm
  subst e
  cases r3
  refine wpAny_truthy_bool ?_
  cases k with
  | false =>
    obtain ⟨k', e', q'⟩ := q3
    cases e'
    exact ite_ff ⟨H3, I3, q'⟩
  | true =>
    refine ite_tt (test_link (thn (hc.run pins s3 σ H3 _ I3 q3) fun w' s4 ⟨z', H4, I4, r4, q4⟩ => thn (ho' pins s4 σ H4 y z' u w' _ I4 r2 r4 q4) fun d2 s5 ⟨z2, H5, I5, r5, k2, e2, q5⟩ => ?_))
    subst e2
    cases r5
    refine wpAny_truthy_bool ?_
    cases k2 with
    | false =>
      obtain ⟨k', e', q'⟩ := q5
      cases e'
      exact ite_ff ⟨H5, I5, q'⟩
    | true =>
      refine ite_tt (test_last (thn (hd.run pins s5 σ H5 _ I5 q5) fun v' s6 ⟨z3, H6, I6, r6, q6⟩ => thn (ho'' pins s6 σ H6 z' z3 w' v' _ I6 r4 r6 q6) fun d3 s7 ⟨z4, H7, I7, r7, k3, e3, q7⟩ => ?_))
      subst e3
      cases r7
      exact wpAny_truthy_bool ⟨H7, I7, q7⟩
end
theorem n_chain3 {B : Hp} {L : Own} {r r' r'' : R2} {ta tb tc td : TE} {σ : St} {Q : VK} (q : N B L (fun H => ta σ H fun x H1 => tb σ H1 fun y H2 => r x y H2 fun z H3 => ∃ k, z = .bl k ∧
  (if k = true then tc σ H3 fun w' H4 => r' y w' H4 fun z2 H5 => ∃ k2, z2 = .bl k2 ∧ (if k2 = true then td σ H5 fun v' H6 => r'' w' v' H6 Q else Q (.bl false) H5) else Q (.bl false) H3))) : N B L (fun H => tChain3 r r' r'' ta tb tc td σ H Q) := q
/-- zip of two lists, any target: each turn's pair is new -/
theorem n_lpZg {K : PySem.W.Frag} {B : Hp} {L : Own} {a c : Addr} {xs ys : List V} {g : TG} {ts : TS} {D : Ends} {σ : St} (Pv : Nat → St → Own → Prop) (hq : ∀ i σ L, i ≤ min xs.length ys.length → Pv i σ L → Sq K B L a xs ∧ Sq K B L c ys) (h0 : Pv 0 σ L)
    (hs : ∀ i σ L T (hi : i < xs.length) (hj : i < ys.length), Pv i σ L → N B ((T, .tup [xs[i], ys[i]]) :: L) (fun H => g (.ref T) σ H fun σ2 H2 => ts (loE D (KI B (Pv (i + 1)))) σ2 H2))
    (hd : ∀ σ L, Pv (min xs.length ys.length) σ L → N B L (D.nx σ)) : N B L (fun H => IZ K (Lp g ts D σ) [.ref a, .ref c] H) := by
  intro H s
  obtain ⟨q1, q2⟩ := hq 0 σ L (Nat.zero_le _) h0
  refine ⟨a, c, xs, ys, rfl, q1 H s, q2 H s, ?_⟩
  refine ⟨fun i m σ H => m = min xs.length ys.length - i ∧ i ≤ min xs.length ys.length ∧ ∃ L, SI B L H ∧ Pv i σ L, ⟨min xs.length ys.length, by omega, Nat.zero_le _, L, s, h0⟩, ?_⟩
  rintro i m' σ H ⟨rfl, hi, L, s, p⟩
  obtain ⟨q1, q2⟩ := hq i σ L hi p
  by_cases hlt : i < min xs.length ys.length
  · have hx1 : i < xs.length := by omega
    have hy1 : i < ys.length := by omega
    refine .inr ⟨⟨xs, ys, xs[i], ys[i], q1 H s, q2 H s, List.getElem?_eq_getElem hx1, List.getElem?_eq_getElem hy1⟩, KI B (Pv (i + 1)), fun σ' H' ⟨L', s', p'⟩ => ⟨min xs.length ys.length - (i + 1), by omega, rfl, hlt, L', s', p'⟩, fun v H' hx => ?_⟩
    obtain ⟨T, x, y, rfl, nT, rfl, hx, hy⟩ := hx
    have e1 := hx xs (q1 H s)
    have e2 := hy ys (q2 H s)
    rw [List.getElem?_eq_getElem hx1] at e1
    rw [List.getElem?_eq_getElem hy1] at e2
    cases e1; cases e2
    exact hs i σ L T hx1 hy1 p _ (s.new nT)
  · have e : i = min xs.length ys.length := by omega
    subst e
    refine .inl ⟨⟨xs, ys, q1 H s, q2 H s, ?_⟩, hd σ L p H s⟩
    omega
theorem getD_drop' (bs : List Int) (m i : Nat) : (bs.drop m).getD i 0 = bs.getD (m + i) 0 := by
  rw [List.getD_eq_getElem?_getD, List.getD_eq_getElem?_getD, List.getElem?_drop]
theorem n_gConsT {B : Hp} {L : Own} {g : TG} {gs : TGs} {v : V} {xs : List V} {σ : St} {k : St → Hp → Prop} (q : N B L (fun H => g v σ H fun σ2 H2 => gs xs σ2 H2 k)) : N B L (fun H => gCons g gs (v :: xs) σ H k) := fun H s => ⟨v, xs, rfl, q H s⟩
end Sk
/-! ### zip of a list and a reversed list -/
namespace Sk
open PySem PySem.Spec PyProof.Rows L2
section
variable {prog : Program} {w : World} {A : Around} {E : Value → Shared → Prop} {s : Shared}
theorem drawRev_item {it l : Addr} {i : Nat} {items : Array Value} {x : Value} {Q : Value → Shared → Prop} (hit : s.heap.IsRevIter it l (i : Int)) (hl : s.heap.IsList l items) (hx : items[i]? = some x)
    (hQ : ∀ h', h'.IsRevIter it l ((i : Int) - 1) → Heap.SameBut it s.heap h' → Q x { s with heap := h' }) : wpAny (model prog w) A (Builtin.SmallTypes.nextOf (.ref it)) Q E s := by
  obtain ⟨o, ho, hc, hd⟩ := id hit
  obtain ⟨ol, hol, _, nl, hdl⟩ := hl
  unfold Builtin.SmallTypes.nextOf
  refine wpAny_bind (wpAny_callSpecial?_slot (name := Str.ofString "__next__") hit.typeIs F.slot_lri_next (wpAny_call_entry F.slot_lri_next hit.typeIs F.entry_lri_next ?_ (F.args_lri_next_1 _)))
  unfold Builtin.«list_reverseiterator.__next__»
  refine wpAny_bind (wpAny_of_eq (a := (Value.ref it, [])) rfl ?_)
  try dsimp only
  refine wpAny_bind (wpAny_field ho hd (x := rawInt (i : Int)) rfl ?_)
  show wpAny _ _ (if (i : Int) < 0 then _ else _) _ _ s
  rw [if_neg (by omega)]
  show wpAny _ _ (field (.ref it) 0 >>= _) _ _ s
  refine wpAny_bind (wpAny_field ho hd (x := .ref l) rfl ?_)
  show wpAny _ _ (seqItems? (.ref l) >>= _) _ _ s
  refine wpAny_bind (wpAny_seqItems hol hdl ?_)
  simp only [Int.toNat_natCast, hx]
  refine wpAny_bind (wpAny_setField ho hd (by simp) ?_)
  first
  | refine wpAny_pure ⟨x, rfl, wpAny_pure (hQ _ ?_ (Heap.SameBut.update ..))⟩
  | refine wpAny_bind (wpAny_pure (wpAny_pure ⟨x, rfl, wpAny_pure (hQ _ ?_ (Heap.SameBut.update ..))⟩))
  exact ⟨_, Heap.get?_update_self _ ho (Obj.isFreed_of_fields (Obj.data_mapFields hd _)), (Obj.cls_mapFields ..).trans hc, by
    rw [Obj.data_mapFields hd]; simp⟩
theorem drawRev_end {it l : Addr} {Q : Value → Shared → Prop} (hh : A.handled = none) (hit : s.heap.IsRevIter it l (-1))
    (hE : ∀ h' e, Heap.ExtBut it s.heap h' → (∃ o, h'.get? e = some o ∧ o.cls = .type "StopIteration") → E (.ref e) { s with heap := h' }) : wpAny (model prog w) A (Builtin.SmallTypes.nextOf (.ref it)) Q E s := by
  obtain ⟨o, ho, hc, hd⟩ := id hit
  unfold Builtin.SmallTypes.nextOf
  refine wpAny_bind (wpAny_callSpecial?_slot (name := Str.ofString "__next__") hit.typeIs F.slot_lri_next (wpAny_call_entry F.slot_lri_next hit.typeIs F.entry_lri_next ?_ (F.args_lri_next_1 _)))
  unfold Builtin.«list_reverseiterator.__next__»
  refine wpAny_bind (wpAny_of_eq (a := (Value.ref it, [])) rfl ?_)
  try dsimp only
  refine wpAny_bind (wpAny_field ho hd (x := rawInt (-1)) rfl ?_)
  show wpAny _ _ (if (-1 : Int) < 0 then _ else _) _ _ s
  rw [if_pos (by decide)]
  refine wpAny_bind (wpAny_rule ?_)
  first
  | show wpAny _ _ (newExc (.type "StopIteration") [] >>= _) _ _ _
  | (refine wpAny_bind ?_; show wpAny _ _ (newExc (.type "StopIteration") [] >>= _) _ _ _)
  refine wpAny_bind ?_
  simp only [newExc, newTuple]
  refine wpAny_bind (wpAny_newObj_type ?_ (by size_fits))
  refine wpAny_bind (m := firstArgMember _ _) (wpAny_of_eq (a := Value.none) (by first | rfl | (simp only [firstArgMember]; rfl)) ?_)
  refine wpAny_newObj_type ?_ (by size_fits)
  simp only [raiseNew]
  refine wpAny_bind (wpAny_handled ?_)
  first | rw [show A.in1.handled = none from hh] | rw [hh]
  refine wpAny_bind (wpAny_pure (wpAny_throw ?_))
  exact hE _ _ (((Heap.ExtBut.refl _ _).push _).push _) ⟨_, Heap.get?_push_size _ rfl, rfl⟩
theorem draws_rev (hh : A.handled = none) (it l : Addr) (hne : l ≠ it) (items : Array Value) :
    Draws prog w A it [it, l] items.size (fun i v => items[items.size - 1 - i]? = some v) (fun i h => i ≤ items.size ∧ h.IsRevIter it l ((items.size : Int) - 1 - (i : Int)) ∧ h.IsList l items) where
  live := fun i h st => by obtain ⟨_, ⟨o, e, _⟩, _⟩ := st; exact ⟨o, e⟩
  frame := fun i h h' st k => ⟨st.1, st.2.1.at fun o e => k it (by simp) o e, st.2.2.at fun o e => k l (by simp) o e⟩
  item := fun i s Q E hi st hQ => by
    obtain ⟨h1, h2, h3⟩ := st
    have e1 : (items.size : Int) - 1 - (i : Int) = ((items.size - 1 - i : Nat) : Int) := by omega
    rw [e1] at h2
    have hx : items[items.size - 1 - i]? = some items[items.size - 1 - i] := Array.getElem?_eq_getElem (by omega)
    refine drawRev_item h2 h3 hx fun h' st' sb => hQ _ h' s.toks hx ⟨hi, ?_, h3.at fun o e => (sb.2 l hne).trans e⟩ sb
    have e2 : (items.size : Int) - 1 - ((i + 1 : Nat) : Int) = ((items.size - 1 - i : Nat) : Int) - 1 := by omega
    rw [e2]
    exact st'
  done := fun s Q E st hE => by
    obtain ⟨h1, h2, h3⟩ := st
    have e1 : (items.size : Int) - 1 - (items.size : Int) = -1 := by omega
    rw [e1] at h2
    exact drawRev_end hh h2 hE
abbrev zr1 (h : Heap) (l1 : Addr) : Heap := h.push { cls := .type "list_iterator", data := .fields #[.ref l1, .int 0 0] }
abbrev zr2 (h : Heap) (l1 it : Addr) : Heap := (zr1 h l1).push { cls := .type "tuple", data := .seq #[.ref h.objs.size, .ref it] }
abbrev zr3 (h : Heap) (l1 it : Addr) : Heap := (zr2 h l1 it).push { cls := .type "tuple", data := .seq #[.none, .none] }
abbrev zr4 (h : Heap) (l1 it : Addr) : Heap := (zr3 h l1 it).push { cls := .type "zip", data := .fields #[.none, .bool false, .bool false, .ref (zr1 h l1).objs.size, .ref (zr2 h l1 it).objs.size] }
theorem meets_zipR (l1 it l2 : Addr) (xs : Array Value) (i : Int) :
    Meets (Builtin.«zip.__new__» ⟨[.type "zip", .ref l1, .ref it], []⟩) (fun _ R s => s.heap.IsList l1 xs ∧ s.heap.IsRevIter it l2 i ∧
      R (.ok (.ret (.ref (zr3 s.heap l1 it).objs.size))) { s with heap := zr4 s.heap l1 it }) :=
  .of_wp fun prog w A R s h => by
    obtain ⟨hp, g, d, tk, os⟩ := s; obtain ⟨hl1, hl2, h⟩ := h
    have hsub := sub_zip
    have hL1 : Heap.IsList (Shared.heap ⟨hp, g, d, tk, os⟩) l1 xs := hl1
    have hL2 : Heap.IsRevIter (Shared.heap ⟨hp.push { cls := .type "list_iterator", data := .fields #[.ref l1, .int 0 0] }, g, d, tk, os⟩) it l2 i := hl2.at fun o e => Heap.get?_push_of_some _ e
    wp_walk using wpAny_pyIter_list hL1, wpAny_pyIter_revIter hL2
    exact ⟨_, rfl, h⟩
theorem call_zipR {l1 it l2 : Addr} {xs : Array Value} {i : Int} {Q : Value → Shared → Prop} (hl1 : s.heap.IsList l1 xs) (hl2 : s.heap.IsRevIter it l2 i)
    (h : ∀ h', IsZip h' (s.heap.objs.size + 3) (s.heap.objs.size + 1) (s.heap.objs.size + 2) .none → IsTupOf2 h' (s.heap.objs.size + 1) (.ref s.heap.objs.size) (.ref it) →
      IsTupOf2 h' (s.heap.objs.size + 2) .none .none → h'.IsListIter s.heap.objs.size l1 0 → (∀ c o, s.heap.get? c = some o → h'.get? c = some o) → Q (.ref (s.heap.objs.size + 3)) { s with heap := h' }) :
    wpAny (model prog w) A (call (.type "zip") [.ref l1, .ref it]) Q E s := by
  refine callType_new F.called_zip (by decide) (F.typeCall_zip_2 _ _) (F.newCall_zip_2 _ _) (fun obj => F.args_object_init_3 obj _ _) F.entry_zip_new (meets_zipR l1 it l2 xs i) ⟨hl1, hl2, ?_⟩
  have z1 : (zr1 s.heap l1).objs.size = s.heap.objs.size + 1 := Heap.size_push ..
  have z2 : (zr2 s.heap l1 it).objs.size = s.heap.objs.size + 2 := by rw [Heap.size_push, z1]
  have z3 : (zr3 s.heap l1 it).objs.size = s.heap.objs.size + 3 := by rw [Heap.size_push, z2]
  have g4 : (zr4 s.heap l1 it).get? (zr3 s.heap l1 it).objs.size = some _ := Heap.get?_push_size _ rfl
  have g3 : (zr4 s.heap l1 it).get? (zr2 s.heap l1 it).objs.size = some _ := Heap.get?_push_of_some _ (Heap.get?_push_size _ rfl)
  have g2 : (zr4 s.heap l1 it).get? (zr1 s.heap l1).objs.size = some _ := Heap.get?_push_of_some _ (Heap.get?_push_of_some _ (Heap.get?_push_size _ rfl))
  have g1 : (zr4 s.heap l1 it).get? s.heap.objs.size = some _ := Heap.get?_push_of_some _ (Heap.get?_push_of_some _ (Heap.get?_push_of_some _ (Heap.get?_push_size _ rfl)))
  show _ ∧ _
  rw [z1, z2, z3] at g4
  rw [z2] at g3
  rw [z1] at g2
  rw [z3]
  exact ⟨⟨_, g4, rfl⟩, h _ g4 g2 g3 ⟨_, g1, rfl, rfl⟩ fun c o x => Heap.get?_push_of_some _ (Heap.get?_push_of_some _ (Heap.get?_push_of_some _ (Heap.get?_push_of_some _ x)))⟩
end
/-- a list at a and, from its end on, the list at b (of n items) -/
def Itzr (K : PySem.W.Frag) (a b : Addr) (n : Nat) : It :=
  ⟨fun i H => i < n ∧ ∃ (xs ys : List V) (x y : V), SqL K H a xs ∧ SqL K H b ys ∧ xs[i]? = some x ∧ ys.length = n ∧ ys[n - 1 - i]? = some y,
    fun i H v H' => ∃ T x y, v = .ref T ∧ H T = none ∧ H' = upd H T (.tup [x, y]) ∧ (∀ xs, SqL K H a xs → xs[i]? = some x) ∧ ∀ ys, SqL K H b ys → ys[n - 1 - i]? = some y,
    fun i H => ∃ xs ys : List V, SqL K H a xs ∧ SqL K H b ys ∧ ys.length = n ∧ i ≤ xs.length ∧ i ≤ n ∧ (xs.length = i ∨ n = i)⟩
theorem turn_zipR {P : Program} {w : World} {K : PySem.W.Frag} {elts : List Expr} {kk : Nat} {tpos : Pos} {a b z TI TO i1 i2 : Addr} (n : Nat) (S : ZipSep2 z TI TO i1 i2 [i1, a] [i2, b]) (hai : a ≠ i1) (hbi : b ≠ i2) :
    Turn P w K (.Tuple elts kk tpos) (Itzr K a b n) [z, TI, TO, i1, i2] z (fun i h => IsZip h z TI TO .none ∧ IsTupOf2 h TI (.ref i1) (.ref i2) ∧ (∃ x y, IsTupOf2 h TO x y) ∧ h.IsListIter i1 a i ∧ i ≤ n ∧ h.IsRevIter i2 b ((n : Int) - 1 - (i : Int))) where
  mem := by simp
  obj := fun i h st c hc => by
    obtain ⟨hz, hTI, ⟨x, y, hTO⟩, ⟨o1, e1, _, d1⟩, _, ⟨o2, e2, _, d2⟩⟩ := st
    have e' : c = z ∨ c = TI ∨ c = TO ∨ c = i1 ∨ c = i2 := by simpa using hc
    rcases e' with q | q | q | q | q
    · rw [q]; exact ⟨_, hz, fun v q => nomatch q⟩
    · rw [q]; exact ⟨_, hTI, fun v q => nomatch q⟩
    · rw [q]; exact ⟨_, hTO, fun v q => nomatch q⟩
    · rw [q]; exact ⟨o1, e1, fun v q => by rw [d1] at q; cases q⟩
    · rw [q]; exact ⟨o2, e2, fun v q => by rw [d2] at q; cases q⟩
  keep := fun i h h' st k => by
    obtain ⟨hz, hTI, ⟨x, y, hTO⟩, h1, hi, h2⟩ := st
    exact ⟨k z (by simp) _ hz, k TI (by simp) _ hTI, ⟨x, y, k TO (by simp) _ hTO⟩, h1.at fun o q => k i1 (by simp) o q, hi, h2.at fun o q => k i2 (by simp) o q⟩
  item := by
    intro X hP hw hK hc i pins s σ H E I hf st hg
    subst hP hw hK
    obtain ⟨hz, hTI, ⟨x0, y0, hTO⟩, h1, hin, h2⟩ := st
    obtain ⟨hlt, xs, ys, x, y, hqx, hqy, hx, hyn, hy⟩ := hg
    obtain ⟨its, rv, p, _⟩ := I.list hqx
    obtain ⟨its2, rv2, p2, _⟩ := I.list hqy
    obtain ⟨u, hu, ru⟩ := rv.get hx
    obtain ⟨u2, hu2, ru2⟩ := rv2.get hy
    have l1 := rv.length
    have l2 := rv2.length
    have hzl : z < s.heap.objs.size := Heap.lt_size hz
    have hsz2 : its2.toArray.size = n := by simp only [List.size_toArray]; omega
    have hxl : i < its.toArray.size := by
      obtain ⟨hh, _⟩ := List.getElem?_eq_some_iff.mp hu
      simpa using hh
    have hcalm : X.A.in1.handled = none := I.ok.hd hc
    refine wpAny_pyNext_zipD2_item S (Draws.list hcalm i1 a hai its.toArray) (draws_rev hcalm i2 b hbi its2.toArray) hz hTI hTO (i := i) ⟨h1, p.isList⟩ ⟨by omega, by rw [hsz2]; exact h2, p2.isList⟩ hxl (by omega) fun v1 v2 h' tk y1 y2 z' TO' d1 d2 hT hsz hk => ?_
    have ev1 : v1 = u := by
      have : its.toArray[i]? = some u := by simpa using hu
      rw [this] at y1
      exact (Option.some.inj y1).symm
    have ev2 : v2 = u2 := by
      have : its2.toArray[its2.toArray.size - 1 - i]? = some u2 := by rw [hsz2]; simpa using hu2
      rw [this] at y2
      exact (Option.some.inj y2).symm
    subst ev1 ev2
    refine ⟨_, rfl, wpAny_letOwnedTupleGo_zip (s := { s with heap := h', toks := tk }) z' fun h'' z'' sb => ?_⟩
    have hT2 : h''.get? s.heap.objs.size = some { cls := .type "tuple", data := .seq #[v1, v2] } := (sb.2 _ (Nat.ne_of_gt hzl)).trans hT
    have new : ObjOk X.prog X.w (upd H s.heap.objs.size (.tup [x, y])) h'' s.heap.objs.size (.tup [x, y]) :=
      ⟨by show 2 ≤ sizeLine; decide, [v1, v2], .cons ru (.cons ru2 .nil), ⟨_, hT2, rfl, _, rfl⟩⟩
    have I1 : Inv X pins σ (upd H s.heap.objs.size (.tup [x, y])) { s with heap := h'', toks := tk } :=
      I.turnedNew (t' := tk) (ch := [z, TI, TO, i1, i2]) (fun c o hb q => (sb.2 c (fun q' => hb (by simp [q']))).trans (hk c o (fun q' => hb (by simp [q'])) (fun q' => hb (by simp [q'])) (fun q' => hb (by simp [q'])) (fun q' => hb (by simp [q'])) q)) hf (Nat.le_refl _) new
    obtain ⟨d1, _⟩ := d1
    obtain ⟨d3, d2, _⟩ := d2
    rw [hsz2] at d2 d3
    refine ⟨.ref s.heap.objs.size, _, I1, rfl, ⟨_, x, y, rfl, I.hok.fresh (Nat.le_refl _), rfl, fun l hl => by rw [I.list_inj hl hqx]; exact hx, fun l hl => by rw [I.list_inj hl hqy]; exact hy⟩, ⟨z'', ?_, ⟨v1, v2, ?_⟩, ?_, d3, ?_⟩, fun c hcm => ?_⟩
    · exact (sb.2 _ S.TIz).trans (hk _ _ S.TIz S.TITO S.TIi1 S.TIi2 hTI)
    · exact (sb.2 _ S.TOz).trans TO'
    · exact d1.at fun o q => (sb.2 _ S.zi1.symm).trans q
    · exact d2.at fun o q => (sb.2 _ S.zi2.symm).trans q
    · have hlt : c < s.heap.objs.size := by
        have e' : c = z ∨ c = TI ∨ c = TO ∨ c = i1 ∨ c = i2 := by simpa using hcm
        rcases e' with q | q | q | q | q
        · rw [q]; exact hzl
        · rw [q]; exact Heap.lt_size hTI
        · rw [q]; exact Heap.lt_size hTO
        · rw [q]; obtain ⟨_, e1, _⟩ := h1; exact Heap.lt_size e1
        · rw [q]; obtain ⟨_, e2, _⟩ := h2; exact Heap.lt_size e2
      rw [upd_ne (Nat.ne_of_lt hlt)]
      exact (hf c hcm).1
  done := by
    intro X hP hw hK hc i pins s σ H E I hf st hg
    subst hP hw hK
    obtain ⟨hz, hTI, ⟨x0, y0, hTO⟩, h1, hin, h2⟩ := st
    obtain ⟨xs, ys, hqx, hqy, hyn, hxl, hyl, hend⟩ := hg
    obtain ⟨its, rv, p, _⟩ := I.list hqx
    obtain ⟨its2, rv2, p2, _⟩ := I.list hqy
    have l1 := rv.length
    have l2 := rv2.length
    have hsz1 : its.toArray.size = xs.length := by simp only [List.size_toArray]; omega
    have hsz2 : its2.toArray.size = n := by simp only [List.size_toArray]; omega
    have hcalm : X.A.in1.handled = none := I.ok.hd hc
    exact wpAny_pyNext_zipD2_end S (Draws.list hcalm i1 a hai its.toArray) (draws_rev hcalm i2 b hbi its2.toArray) hz hTI hTO (i := i) ⟨h1, p.isList⟩ ⟨by omega, by rw [hsz2]; exact h2, p2.isList⟩ (by omega) (by omega) (by omega) fun h' tk hk => ⟨rfl, I.turnedL (t' := tk) (ch := [z, TI, TO, i1, i2]) (fun c o hb q =>
      hk c o (fun q' => hb (by simp [q'])) (fun q' => hb (by simp [q'])) (fun q' => hb (by simp [q'])) (fun q' => hb (by simp [q'])) q) hf⟩
  self := fun A i s Q E st h => wpAny_pyIter_zip st.1 h
def iZipR (K : PySem.W.Frag) (t1 t2 : TE) : TI := fun σ H R => t1 σ H fun x H1 => t2 σ H1 fun y H2 => ∃ a b xs ys, x = .ref a ∧ y = .ref b ∧ SqL K H2 a xs ∧ SqL K H2 b ys ∧ R (Itzr K a b ys.length) H2
theorem zsep (M a b : Nat) (ha : a < M) (hb : b < M) : ZipSep2 (M + 1 + 3) (M + 1 + 1) (M + 1 + 2) (M + 1) M [M + 1, a] [M, b] := by
  constructor <;> first
    | (refine PySem.W.neN ?_; omega)
    | (intro hm; rcases List.mem_cons.mp hm with hm | hm <;> first | (exact absurd hm (PySem.W.neN (by omega))) | (rcases List.mem_cons.mp hm with hm | hm <;> first | (exact absurd hm (PySem.W.neN (by omega))) | exact absurd hm List.not_mem_nil))
    | simp
theorem pi_zipR {X : Cx} {e e2 : Expr} {t1 t2 : TE} {p pr pos posr tpos : Pos} {elts : List Expr} {kk : Nat} (hg : Gl X "zip") (hm : X.mg "zip" = none) (hgr : Gl X "reversed") (hmr : X.mg "reversed" = none) (h1 : PE X e t1) (h2 : PE X e2 t2)
    (hs : starEach [e, .Call (.Name "reversed" pr) [e2] [] posr] X.env = (false, eval e X.env) :: starEach [.Call (.Name "reversed" pr) [e2] [] posr] X.env := by rfl)
    (hs2 : starEach [.Call (.Name "reversed" pr) [e2] [] posr] X.env = [(false, eval (.Call (.Name "reversed" pr) [e2] [] posr) X.env)] := by rfl) (hs3 : starEach [e2] X.env = [(false, eval e2 X.env)] := by rfl)
    (hpl : (backTo pos (starEach [.Call (.Name "reversed" pr) [e2] [] posr] X.env)).any (·.1) = false := by rfl) :
    PI X (.Tuple elts kk tpos) (.Call (.Name "zip" p) [e, .Call (.Name "reversed" pr) [e2] [] posr] [] pos) (iZipR X.K t1 t2) := by
  refine ⟨fun pins s σ H R I h => ?_⟩
  refine Call_ (ld_blt I hg hm PyProof.Rows.boot_zip (PyProof.Rows.callWith_type1 ?_ hs hpl))
  rw [hs]
  show wpAny _ _ (spliced ((false, eval e X.env) :: backTo pos (starEach [.Call (.Name "reversed" pr) [e2] [] posr] X.env))) _ _ s
  refine Calls.spliced_cons (thn (h1.run pins s σ H _ I h) fun u1 s1 ⟨x, H1, I1, r1, q1⟩ => ?_)
  rw [hs2]
  show wpAny _ _ (spliced [(false, eval (.Call (.Name "reversed" pr) [e2] [] posr) X.env)]) _ _ s1
  refine Calls.spliced_cons ?_
  refine Call_ (ld_blt I1 hgr hmr PyProof.Rows.boot_reversed (PyProof.Rows.callWith_type1 (thn ((pa_cons h2 pa_nil hs3).run posr pins s1 σ H1 (fun vs H2 => match vs with
    | [y] => ∃ a b xs ys, x = .ref a ∧ y = .ref b ∧ SqL X.K H2 a xs ∧ SqL X.K H2 b ys ∧ R (Itzr X.K a b ys.length) H2
    | _ => False) I1 q1) fun us s2 ⟨vs, H2, I2, r2, q2⟩ => ?_) hs3 rfl))
  cases r2 with
  | nil => exact q2.elim
  | cons r rr =>
    cases rr with
    | cons r' rr' => exact q2.elim
    | nil =>
    obtain ⟨a, b, xs, ys, ex, ey, hqx, hqy, q⟩ := q2
    subst ex
    subst ey
    cases r
    cases r1
    obtain ⟨its, rv, p1, _⟩ := I2.list hqx
    obtain ⟨its2, rv2, p2, _⟩ := I2.list hqy
    have l2 := rv2.length
    have la : a < s2.heap.objs.size := p1.lt
    have lb : b < s2.heap.objs.size := p2.lt
    refine call_reversed_list p2.isList (Calls.spliced_nil ?_)
    have kp : ∀ c o, s2.heap.get? c = some o → (s2.heap.push (revObj b ((its2.toArray.size : Int) - 1))).get? c = some o := fun c o e => Heap.get?_push_of_some _ e
    have hrev : (s2.heap.push (revObj b ((its2.toArray.size : Int) - 1))).IsRevIter s2.heap.objs.size b ((its2.toArray.size : Int) - 1) := ⟨_, Heap.get?_push_size _ rfl, rfl, rfl⟩
    have hM : (s2.heap.push (revObj b ((its2.toArray.size : Int) - 1))).objs.size = s2.heap.objs.size + 1 := Heap.size_push ..
    refine call_zipR (s := { s2 with heap := s2.heap.push (revObj b ((its2.toArray.size : Int) - 1)) }) (p1.isList.at fun o e => kp a o e) hrev fun h' hz hTI hTO hi1 hk => wpAny_pyIter_zip hz ?_
    have hk2 : ∀ c o, s2.heap.get? c = some o → h'.get? c = some o := fun c o e => hk c o (kp c o e)
    have I3 : Inv X pins σ H2 { s2 with heap := h' } := I2.kept (t' := s2.toks) hk2
    simp only [hM] at hz hTI hTO hi1
    have hrev' := hrev.at fun o e => hk _ o e
    have hn : (its2.toArray.size : Int) - 1 = (ys.length : Int) - 1 - ((0 : Nat) : Int) := by simp only [List.size_toArray]; omega
    rw [hn] at hrev'
    have S := zsep s2.heap.objs.size a b la lb
    refine ⟨s2.heap.objs.size + 1 + 3, [s2.heap.objs.size + 1 + 3, s2.heap.objs.size + 1 + 1, s2.heap.objs.size + 1 + 2, s2.heap.objs.size + 1, s2.heap.objs.size], _, _, H2, congrArg (fun n : Nat => Value.ref (n + 3)) hM, I3, turn_zipR ys.length S (Nat.ne_of_lt (Nat.lt_succ_of_lt la)) (Nat.ne_of_lt lb), ⟨hz, hTI, ⟨_, _, hTO⟩, hi1, Nat.zero_le _, hrev'⟩, fun c hcm => ?_, q⟩
    have e' : c = s2.heap.objs.size + 1 + 3 ∨ c = s2.heap.objs.size + 1 + 1 ∨ c = s2.heap.objs.size + 1 + 2 ∨ c = s2.heap.objs.size + 1 ∨ c = s2.heap.objs.size := by simpa using hcm
    have hle : s2.heap.objs.size ≤ c := by
      rcases e' with z | z | z | z | z <;> rw [z]
      · exact Nat.le_add_right _ 4
      · exact Nat.le_add_right _ 2
      · exact Nat.le_add_right _ 3
      · exact Nat.le_add_right _ 1
      · exact Nat.le_refl _
    exact I2.fpOk hle (I2.hok.fresh hle)
def IZR (K : PySem.W.Frag) (R : It → Hp → Prop) (x y : V) (H2 : Hp) : Prop := ∃ a b xs ys, x = .ref a ∧ y = .ref b ∧ SqL K H2 a xs ∧ SqL K H2 b ys ∧ R (Itzr K a b ys.length) H2
theorem n_iZR {K : PySem.W.Frag} {B : Hp} {L : Own} {t1 t2 : TE} {R : It → Hp → Prop} {σ : St} (q : N B L (fun H => t1 σ H fun x H1 => t2 σ H1 fun y H2 => IZR K R x y H2)) : N B L (fun H => iZipR K t1 t2 σ H R) := q
/-- zip of a list and a reversed list: each turn's pair is new -/
theorem n_lpZr {K : PySem.W.Frag} {B : Hp} {L : Own} {a c : Addr} {xs ys : List V} {g : TG} {ts : TS} {D : Ends} {σ : St} (Pv : Nat → St → Own → Prop) (hq : ∀ i σ L, i ≤ min xs.length ys.length → Pv i σ L → Sq K B L a xs ∧ Sq K B L c ys) (h0 : Pv 0 σ L)
    (hs : ∀ i σ L T (hi : i < xs.length) (hj : i < ys.length), Pv i σ L → N B ((T, .tup [xs[i], ys[ys.length - 1 - i]]) :: L) (fun H => g (.ref T) σ H fun σ2 H2 => ts (loE D (KI B (Pv (i + 1)))) σ2 H2))
    (hd : ∀ σ L, Pv (min xs.length ys.length) σ L → N B L (D.nx σ)) : N B L (fun H => IZR K (Lp g ts D σ) (.ref a) (.ref c) H) := by
  intro H s
  obtain ⟨q1, q2⟩ := hq 0 σ L (Nat.zero_le _) h0
  refine ⟨a, c, xs, ys, rfl, rfl, q1 H s, q2 H s, ?_⟩
  refine ⟨fun i m σ H => m = min xs.length ys.length - i ∧ i ≤ min xs.length ys.length ∧ ∃ L, SI B L H ∧ Pv i σ L, ⟨min xs.length ys.length, by omega, Nat.zero_le _, L, s, h0⟩, ?_⟩
  rintro i m' σ H ⟨rfl, hi, L, s, p⟩
  obtain ⟨q1, q2⟩ := hq i σ L hi p
  by_cases hlt : i < min xs.length ys.length
  · have hx1 : i < xs.length := by omega
    have hy1 : i < ys.length := by omega
    have hy2 : ys.length - 1 - i < ys.length := by omega
    refine .inr ⟨⟨hy1, xs, ys, xs[i], ys[ys.length - 1 - i], q1 H s, q2 H s, List.getElem?_eq_getElem hx1, rfl, List.getElem?_eq_getElem hy2⟩, KI B (Pv (i + 1)), fun σ' H' ⟨L', s', p'⟩ => ⟨min xs.length ys.length - (i + 1), by omega, rfl, hlt, L', s', p'⟩, fun v H' hx => ?_⟩
    obtain ⟨T, x, y, rfl, nT, rfl, hx, hy⟩ := hx
    have e1 := hx xs (q1 H s)
    have e2 := hy ys (q2 H s)
    rw [List.getElem?_eq_getElem hx1] at e1
    rw [List.getElem?_eq_getElem hy2] at e2
    cases e1; cases e2
    exact hs i σ L T hx1 hy1 p _ (s.new nT)
  · have e : i = min xs.length ys.length := by omega
    subst e
    refine .inl ⟨⟨xs, ys, q1 H s, q2 H s, rfl, ?_, ?_, ?_⟩, hd σ L p H s⟩ <;> omega
end Sk
namespace Sk
open PySem PySem.Spec PyProof.Rows L2
/-! ### lists of lists -/
section
variable {B B' : Hp} {L L' G : Own} {p a c l : Addr} {o : HO} {K : PySem.W.Frag} {xs ys : List V} {v : V} {k : Hp → Prop} {Q : VK} {σ : St} {D : Ends} {ts : TS} {g : TG} {ns : List Int} {i j : Int} {n : Nat}
theorem is_mem (h : (a, o) ∈ L) : Is B L a o := fun _ s => (s.own _ h).2
theorem sq_mem (h : (a, .lst xs) ∈ L) : Sq K B L a xs := is_sq (is_mem h)
/-- new lists of ints -/
def pool (ps : List Addr) (bs : List (List Int)) : Own := List.zipWith (fun p b => (p, HO.lst (b.map V.int))) ps bs
theorem pool_len (ps : List Addr) (bs : List (List Int)) : (pool ps bs).length = min ps.length bs.length := List.length_zipWith
theorem pool_at {ps : List Addr} {bs : List (List Int)} {i : Nat} {b : List Int} (h1 : ps[i]? = some p) (h2 : bs[i]? = some b) : (pool ps bs)[i]? = some (p, .lst (b.map V.int)) := by
  unfold pool
  rw [List.getElem?_zipWith, h1, h2]
theorem pool_snoc {ps : List Addr} {bs : List (List Int)} (p : Addr) (b : List Int) (h : ps.length = bs.length) : pool (ps ++ [p]) (bs ++ [b]) = pool ps bs ++ [(p, .lst (b.map V.int))] := by
  unfold pool
  rw [List.zipWith_append h]; rfl
theorem pool_put (p : Addr) (b : List Int) : ∀ (ps : List Addr) (bs : List (List Int)) (i : Nat), ps[i]? = some p → (pool ps bs).set i (p, .lst (b.map V.int)) = pool ps (bs.set i b)
  | [], bs, i, h => by simp at h
  | q :: ps, [], i, h => by simp [pool]
  | q :: ps, b' :: bs, 0, h => by
    have e : q = p := Option.some.inj h
    subst e
    rfl
  | q :: ps, b' :: bs, i + 1, h => by
    have := pool_put p b ps bs i h
    unfold pool at this ⊢
    rw [List.zipWith_cons_cons, List.set_cons_succ, this, List.set_cons_succ, List.zipWith_cons_cons]
theorem flat_step {bs : List (List Int)} {i : Nat} (h : i < bs.length) : (bs.take (i + 1)).flatten = (bs.take i).flatten ++ bs[i] := by
  rw [take_step h, List.flatten_append, List.flatten_cons, List.flatten_nil, List.append_nil]
theorem flat_le (bs : List (List Int)) (i : Nat) : (bs.take i).flatten.length ≤ bs.flatten.length := by
  have h1 : bs.flatten = (bs.take i).flatten ++ (bs.drop i).flatten := by rw [← List.flatten_append, List.take_append_drop]
  rw [h1, List.length_append]; omega
/-- a value that is a list of ints -/
def LiAt (B : Hp) (L : Own) (v : V) (b : List Int) : Prop := ∃ p, v = .ref p ∧ Is B L p (.lst (b.map V.int))
theorem LiAt.sub {b : List Int} (h : LiAt B L v b) (s : L.Sublist L') : LiAt B L' v b := by
  obtain ⟨p, e, h⟩ := h
  exact ⟨p, e, h.sub s⟩
theorem LiAt.mono {b : List Int} (h : LiAt B L v b) (s : Same B B') : LiAt B' L v b := by
  obtain ⟨p, e, h⟩ := h
  exact ⟨p, e, h.mono s⟩
theorem LiAt.da {b : List Int} (h : LiAt B L v b) : Da K B L v (.list (b.map PyData.int)) := by
  obtain ⟨p, rfl, h⟩ := h
  exact da_ints (is_sq h)
abbrev Lis (B : Hp) (L : Own) (vs : List V) (bs : List (List Int)) : Prop := All2 (LiAt B L) vs bs
theorem Lis.sub {bs : List (List Int)} (h : Lis B L xs bs) (s : L.Sublist L') : Lis B L' xs bs := h.imp fun _ _ x => x.sub s
theorem Lis.mono {bs : List (List Int)} (h : Lis B L xs bs) (s : Same B B') : Lis B' L xs bs := h.imp fun _ _ x => x.mono s
theorem lis_pool {ps : List Addr} {bs : List (List Int)} (e : ps.length = bs.length) : Lis B (L' ++ (pool ps bs ++ L)) (ps.map V.ref) bs := by
  refine ⟨by rw [List.length_map, e], fun i x b h1 h2 => ?_⟩
  rw [List.getElem?_map] at h1
  cases h3 : ps[i]? with
  | none => rw [h3] at h1; cases h1
  | some p =>
    rw [h3] at h1
    cases h1
    exact ⟨p, rfl, is_mem (List.mem_append_right _ (List.mem_append_left _ (List.mem_of_getElem? (pool_at h3 h2))))⟩
theorem lis_pool0 {ps : List Addr} {bs : List (List Int)} (e : ps.length = bs.length) : Lis B (pool ps bs ++ L) (ps.map V.ref) bs := lis_pool (L' := []) e
theorem pool_mem {ps : List Addr} {bs : List (List Int)} {b : List Int} (i : Nat) (S : Own) (h1 : ps[i]? = some p) (h2 : bs[i]? = some b) : Is B (S ++ (pool ps bs ++ G)) p (.lst (b.map V.int)) :=
  is_mem (List.mem_append_right _ (List.mem_append_left _ (List.mem_of_getElem? (pool_at h1 h2))))
/-- new lists that are changed no more -/
theorem n_freezeAll : ∀ (ps : List Addr) (bs : List (List Int)) {B : Hp} (e : ps.length = bs.length) (_ : ∀ B', Same B B' → Lis B' [] (ps.map V.ref) bs → N B' L k), N B (pool ps bs ++ L) k
  | [], [], B, e, q => q B (Same.refl _) .nil
  | [], b :: bs, B, e, q => by simp at e
  | p :: ps, [], B, e, q => by simp at e
  | p :: ps, b :: bs, B, e, q => by
    refine n_freeze 0 rfl fun B1 sm1 h1 => ?_
    refine n_freezeAll ps bs (Nat.succ.inj e) fun B2 sm2 h2 => q B2 (sm1.trans sm2) (.cons ⟨p, rfl, is_old (sm2 _ _ h1)⟩ h2)
def dLi (b : List Int) : PyData := .list (b.map PyData.int)
def dLis (bs : List (List Int)) : PyData := .list (bs.map dLi)
theorem da_lis {bs : List (List Int)} (h : Sq K B L a xs) (hv : Lis B L xs bs) : Da K B L (.ref a) (dLis bs) := da_lst h (daA_of (hv.map dLi fun _ _ x => x.da))
theorem cmp_li (b : List Int) : Cmp 1 (dLi b) := Cmp.list (Cmp.map fun _ _ => Cmp.int)
theorem cmp_lis (bs : List (List Int)) : Cmp 2 (dLis bs) := Cmp.list (Cmp.map fun b _ => cmp_li b)
/-- a list of values of one kind, walked; nothing of them is changed -/
theorem n_lpP {α : Type} {R : V → α → Prop} (ds : List α) (Pv : Nat → St → Own → Prop) (ho : All2 R xs ds) (hq : ∀ i σ L, i ≤ ds.length → Pv i σ L → Sq K B L a xs) (h0 : Pv 0 σ L)
    (hs : ∀ i σ L v (hi : i < ds.length), Pv i σ L → R v ds[i] → N B L (fun H => g v σ H fun σ2 H2 => ts (loE D (KI B (Pv (i + 1)))) σ2 H2))
    (hd : ∀ σ L, Pv ds.length σ L → N B L (D.nx σ)) : N B L (fun H => IL K (Lp g ts D σ) (.ref a) H) := by
  have e := ho.len
  refine n_lpL (xs := xs) Pv (fun i σ L h p => hq i σ L (by omega) p) h0 (fun i σ L hi p => ?_) (fun σ L p => hd σ L (by rw [← e]; exact p))
  obtain ⟨q, e1, e2⟩ := ho.at (i := i) (by omega)
  rw [List.getElem?_eq_getElem hi] at e1
  rw [Option.some.inj e1]
  exact hs i σ L q (by omega) p e2
theorem n_lpEP {α : Type} {R : V → α → Prop} {n m : Nat} (ds : List α) (Pv : Nat → St → Own → Prop) (ho : All2 R xs ds) (hq : ∀ i σ L, i ≤ ds.length → Pv i σ L → Sq K B L a xs) (h0 : Pv 0 σ L)
    (hs : ∀ (i : Nat) σ L v (hi : i < ds.length), Pv i σ L → R v ds[i] → N B L (fun H => ts (loE D (KI B (Pv (i + 1)))) ((σ.set n (some (.int i))).set m (some v)) H))
    (hd : ∀ σ L, Pv ds.length σ L → N B L (D.nx σ)) : N B L (fun H => IE K (Lp (gTup K 2 (gCons (gName n) (gCons (gName m) gNil))) ts D σ) [.ref a] H) := by
  have e := ho.len
  refine n_lpE (xs := xs) Pv (fun i σ L h p => hq i σ L (by omega) p) h0 (fun i σ L hi p => ?_) (fun σ L p => hd σ L (by rw [← e]; exact p))
  obtain ⟨q, e1, e2⟩ := ho.at (i := i) (by omega)
  rw [List.getElem?_eq_getElem hi] at e1
  rw [Option.some.inj e1]
  exact hs i σ L q (by omega) p e2
theorem mix_at {α : Type} (f : α → α) {bs : List α} {i : Nat} (h : i < bs.length) : ((bs.take i).map f ++ bs.drop i)[i]? = some bs[i] := by
  have hl : ((bs.take i).map f).length = i := by rw [List.length_map, List.length_take]; omega
  rw [List.getElem?_append_right (by omega), hl, Nat.sub_self, List.drop_eq_getElem_cons h]; rfl
theorem mix_set {α : Type} (f : α → α) {bs : List α} {i : Nat} (h : i < bs.length) : ((bs.take i).map f ++ bs.drop i).set i (f bs[i]) = (bs.take (i + 1)).map f ++ bs.drop (i + 1) := by
  have hl : ((bs.take i).map f).length = i := by rw [List.length_map, List.length_take]; omega
  rw [List.set_append_right _ _ (by omega), hl, Nat.sub_self, List.drop_eq_getElem_cons h, List.set_cons_zero, take_step h, List.map_append, List.append_assoc]; rfl
/-- one of many new lists grows -/
theorem n_appendP {ps : List Addr} {bs : List (List Int)} {b : List Int} (i : Nat) (S : Own) (h1 : ps[i]? = some l) (h2 : bs[i]? = some b) (hz : b.length < sizeLine) (q : N B (S ++ (pool ps (bs.set i (b ++ [j])) ++ G)) (Q .non)) :
    N B (S ++ (pool ps bs ++ G)) (fun H => rAppend (.ref l) [.int j] H Q) := by
  have hp := pool_at (p := l) h1 h2
  have hlt := (List.getElem?_eq_some_iff.mp hp).1
  refine n_appendLi (n := S.length + i) ((get_app _ _ S).trans ?_) hz ?_
  · rw [List.getElem?_append_left hlt]; exact hp
  · rw [set_app, List.set_append_left _ _ hlt, pool_put l (b ++ [j]) ps bs i h1]
    exact q
end
/-! ### comprehensions, the base grown -/
section
variable {B B' B0 H H' : Hp} {L L' : Own} {p a : Addr} {o : HO} {i : Nat} {K : PySem.W.Frag} {xs : List V} {v y : V} {d : PyData} {k : Hp → Prop} {σ : St} {D : Ends} {t : TT} {g : TG} {ns : List Int} {j lo : Int} {tt : TT} {te : TE} {vs : List Nat} {Q : VK}
/-- behind an element: what is put, or nothing -/
def PutB (B : Hp) (D : Addr) (P : Hp → List V → Own → Prop) (y : V) (H4 : Hp) : Prop := ∃ acc, H4 D = some (.lst acc) ∧ acc.length < sizeLine ∧ ∃ B2 L, Same B B2 ∧ SI B2 L (upd H4 D (.lst (acc ++ [y]))) ∧ ∃ a L', L = (D, .lst a) :: L' ∧ P B2 a L'
def NoPutB (B : Hp) (D : Addr) (P : Hp → List V → Own → Prop) (H3 : Hp) : Prop := ∃ B2 L, Same B B2 ∧ SI B2 L H3 ∧ ∃ a L', L = (D, .lst a) :: L' ∧ P B2 a L'
theorem lc_coreB {J : It} (n : Nat) (yl : Nat → V) (Pv : Nat → Hp → List V → Own → Prop)
    (hgo : ∀ i B' acc L H, Same B B' → Pv i B' acc L → i < n → SI B' L H → J.go i H) (hst : ∀ B' acc L H, Same B B' → Pv n B' acc L → SI B' L H → J.stop n H) (hy : ∀ i B' acc L H x H', Same B B' → Pv i B' acc L → i < n → SI B' L H → J.yld i H x H' → H' = H ∧ x = yl i)
    (h0 : Pv 0 B [] L) (hs : ∀ i B' acc L D, Same B B' → i < n → Pv i B' acc L → N B' ((D, .lst acc) :: L) (fun H => g (yl i) (wipe σ vs) H fun σ2 H2 => wipe σ2 vs = wipe σ vs ∧ tt σ2 H2 fun b H3 =>
      if b = true then te σ2 H3 (PutB B' D (Pv (i + 1))) else NoPutB B' D (Pv (i + 1)) H3))
    (hd : ∀ B' acc L D, Same B B' → Pv n B' acc L → N B' ((D, .lst acc) :: L) (Q (.ref D))) : N B L (fun H => Lc g tt te vs σ Q J H) := by
  intro H s D hD
  have e0 : ∀ {B : Hp} {a : List V} {L : Own} {H : Hp}, SI B ((D, .lst a) :: L) H → SI B L H := fun s => s.sub (List.sublist_cons_self _ _)
  refine ⟨fun i m H => m = n - i ∧ i ≤ n ∧ ∃ B' L, Same B B' ∧ SI B' L H ∧ ∃ a L', L = (D, .lst a) :: L' ∧ Pv i B' a L', ⟨n, by omega, Nat.zero_le _, B, _, Same.refl _, s.new hD, [], L, rfl, h0⟩, ?_⟩
  rintro i m H ⟨rfl, hi, B', _, sm, s, acc, L', rfl, p⟩
  by_cases hlt : i < n
  · refine .inr ⟨hgo i B' acc L' H sm p hlt (e0 s), fun H' => ∃ B2 L, Same B' B2 ∧ SI B2 L H' ∧ ∃ a L', L = (D, .lst a) :: L' ∧ Pv (i + 1) B2 a L', fun H' ⟨B2, L2, sm2, s2, r⟩ => ⟨n - (i + 1), by omega, rfl, hlt, B2, L2, sm.trans sm2, s2, r⟩, fun x H' hx => ?_⟩
    obtain ⟨rfl, rfl⟩ := hy i B' acc L' H x H' sm p hlt (e0 s) hx
    exact hs i B' acc L' D sm hlt p _ s
  · have e : i = n := by omega
    subst e
    exact .inl ⟨hst B' acc L' H sm p (e0 s), hd B' acc L' D sm p H s⟩
theorem n_putB {D : Addr} {acc : List V} {L4 : Own} {P : Hp → List V → Own → Prop} (sm : Same B0 B) (Lm : Own) (e : L = Lm ++ (D, .lst acc) :: L4) (hz : acc.length < sizeLine) (h : P B (acc ++ [y]) L') (s : L'.Sublist (Lm ++ L4)) : N B L (PutB B0 D P y) := by
  subst e
  intro H x
  obtain ⟨a, b⟩ := put_upd (y := y) x
  exact ⟨acc, a, hz, B, _, sm, b.sub (s.cons₂ _), _, _, rfl, h⟩
theorem n_noputB {D : Addr} {acc : List V} {L4 : Own} {P : Hp → List V → Own → Prop} (sm : Same B0 B) (Lm : Own) (e : L = Lm ++ (D, .lst acc) :: L4) (h : P B acc L') (s : L'.Sublist (Lm ++ L4)) : N B L (NoPutB B0 D P) := by
  subst e
  intro H x
  have s2 : SI B ((D, .lst acc) :: (Lm ++ L4)) H := x.perm List.perm_middle
  exact ⟨B, _, sm, s2.sub (s.cons₂ _), _, _, rfl, h⟩
theorem n_lcLB (xs : List V) (Pv : Nat → Hp → List V → Own → Prop) (hq : ∀ i B' acc L, Same B B' → i ≤ xs.length → Pv i B' acc L → Sq K B' L a xs) (h0 : Pv 0 B [] L)
    (hs : ∀ i B' acc L D (hi : i < xs.length), Same B B' → Pv i B' acc L → N B' ((D, .lst acc) :: L) (fun H => g xs[i] (wipe σ vs) H fun σ2 H2 => wipe σ2 vs = wipe σ vs ∧ tt σ2 H2 fun b H3 =>
      if b = true then te σ2 H3 (PutB B' D (Pv (i + 1))) else NoPutB B' D (Pv (i + 1)) H3))
    (hd : ∀ B' acc L D, Same B B' → Pv xs.length B' acc L → N B' ((D, .lst acc) :: L) (Q (.ref D))) : N B L (fun H => IL K (Lc g tt te vs σ Q) (.ref a) H) := by
  intro H s
  refine ⟨a, rfl, ⟨xs, hq 0 B [] L (Same.refl _) (Nat.zero_le _) h0 H s⟩, ?_⟩
  refine lc_coreB (J := Itl K a) xs.length (fun i => xs.getD i .non) Pv (fun i B' σ L H sm p hi s => ⟨xs, xs[i], hq i B' σ L sm (Nat.le_of_lt hi) p H s, List.getElem?_eq_getElem hi⟩) (fun B' σ L H sm p s => ⟨xs, hq _ B' σ L sm (Nat.le_refl _) p H s, Nat.le_refl _⟩) ?_ h0 ?_ hd H s
  · rintro i B' σ L H x H' sm p hi s ⟨e, hx⟩
    have := hx xs (hq i B' σ L sm (Nat.le_of_lt hi) p H s)
    refine ⟨e, ?_⟩
    rw [List.getElem?_eq_getElem hi] at this
    show x = xs.getD i .non
    rw [List.getD_eq_getElem?_getD, List.getElem?_eq_getElem hi]
    exact (Option.some.inj this).symm
  · intro i B' acc L D sm hi p
    have e : xs.getD i .non = xs[i] := by rw [List.getD_eq_getElem?_getD, List.getElem?_eq_getElem hi]; rfl
    show N B' _ (fun H => g (xs.getD i .non) (wipe σ vs) H _)
    rw [e]
    exact hs i B' acc L D hi sm p
/-- .. over a list of values of one kind -/
theorem n_lcPB {α : Type} {R : V → α → Prop} (ds : List α) (Pv : Nat → Hp → List V → Own → Prop) (ho : All2 R xs ds) (hq : ∀ i B' acc L, Same B B' → i ≤ ds.length → Pv i B' acc L → Sq K B' L a xs) (h0 : Pv 0 B [] L)
    (hs : ∀ i B' acc L D v (hi : i < ds.length), Same B B' → Pv i B' acc L → R v ds[i] → N B' ((D, .lst acc) :: L) (fun H => g v (wipe σ vs) H fun σ2 H2 => wipe σ2 vs = wipe σ vs ∧ tt σ2 H2 fun b H3 =>
      if b = true then te σ2 H3 (PutB B' D (Pv (i + 1))) else NoPutB B' D (Pv (i + 1)) H3))
    (hd : ∀ B' acc L D, Same B B' → Pv ds.length B' acc L → N B' ((D, .lst acc) :: L) (Q (.ref D))) : N B L (fun H => IL K (Lc g tt te vs σ Q) (.ref a) H) := by
  have e := ho.len
  refine n_lcLB xs Pv (fun i B' acc L sm h p => hq i B' acc L sm (by omega) p) h0 (fun i B' acc L D hi sm p => ?_) (fun B' acc L D sm p => hd B' acc L D sm (by rw [← e]; exact p))
  obtain ⟨q, e1, e2⟩ := ho.at (i := i) (by omega)
  rw [List.getElem?_eq_getElem hi] at e1
  rw [Option.some.inj e1]
  exact hs i B' acc L D q (by omega) sm p e2
theorem n_lcRB {lo : Int} {n : Nat} (Pv : Nat → Hp → List V → Own → Prop) (h0 : Pv 0 B [] L)
    (hs : ∀ i B' acc L D, Same B B' → i < n → Pv i B' acc L → N B' ((D, .lst acc) :: L) (fun H => g (.int (lo + i)) (wipe σ vs) H fun σ2 H2 => wipe σ2 vs = wipe σ vs ∧ tt σ2 H2 fun b H3 =>
      if b = true then te σ2 H3 (PutB B' D (Pv (i + 1))) else NoPutB B' D (Pv (i + 1)) H3))
    (hd : ∀ B' acc L D, Same B B' → Pv n B' acc L → N B' ((D, .lst acc) :: L) (Q (.ref D))) : N B L (fun H => Lc g tt te vs σ Q (Itr lo n) H) :=
  lc_coreB (J := Itr lo n) n (fun i => .int (lo + i)) Pv (fun i B' σ L H sm p hi s => hi) (fun B' σ L H sm p s => Nat.le_refl _) (fun i B' σ L H x H' sm p hi s h => h) h0 hs hd
theorem n_lcR1B (Pv : Nat → Hp → List V → Own → Prop) (hb : -(2 ^ 62) ≤ j ∧ j < 2 ^ 62) (h0 : Pv 0 B [] L)
    (hs : ∀ (i : Nat) B' acc L D, Same B B' → (i : Int) < j → Pv i B' acc L → N B' ((D, .lst acc) :: L) (fun H => g (.int i) (wipe σ vs) H fun σ2 H2 => wipe σ2 vs = wipe σ vs ∧ tt σ2 H2 fun b H3 =>
      if b = true then te σ2 H3 (PutB B' D (Pv (i + 1))) else NoPutB B' D (Pv (i + 1)) H3))
    (hd : ∀ B' acc L D, Same B B' → Pv j.toNat B' acc L → N B' ((D, .lst acc) :: L) (Q (.ref D))) : N B L (fun H => IR1 (Lc g tt te vs σ Q) [.int j] H) := fun H s => ⟨j, rfl, hb.1, hb.2,
  n_lcRB (lo := 0) (n := j.toNat) Pv h0 (fun i B' acc L D sm hi p => by rw [Int.zero_add]; exact hs i B' acc L D sm (by omega) p) hd H s⟩
end
end Sk
namespace Sk
open PySem PySem.Spec PyProof.Rows L2
/-! ### max(.., default=), list.index, list.pop(i) -/
/-- max(ns, default=n) -/
def mxD (n : Int) : List Int → Int
  | [] => n
  | x :: r => r.foldl max x
theorem foldl_max_spec : ∀ (r : List Int) (x : Int), (r.foldl max x ∈ x :: r) ∧ ∀ y ∈ x :: r, y ≤ r.foldl max x
  | [], x => ⟨List.mem_cons_self, fun y h => by rcases List.mem_cons.mp h with rfl | h; exact Int.le_refl _; cases h⟩
  | y :: r, x => by
    obtain ⟨h1, h2⟩ := foldl_max_spec r (max x y)
    rw [List.foldl_cons]
    refine ⟨?_, fun z hz => ?_⟩
    · rcases List.mem_cons.mp h1 with h | h
      · rw [h]
        by_cases e : x ≤ y
        · rw [show max x y = y by omega]; exact List.mem_cons_of_mem _ List.mem_cons_self
        · rw [show max x y = x by omega]; exact List.mem_cons_self
      · exact List.mem_cons_of_mem _ (List.mem_cons_of_mem _ h)
    · have h3 := h2 (max x y) List.mem_cons_self
      rcases List.mem_cons.mp hz with rfl | hz
      · omega
      · rcases List.mem_cons.mp hz with rfl | hz
        · omega
        · exact h2 z (List.mem_cons_of_mem _ hz)
theorem mxD_spec {ns : List Int} {n : Int} (h : ns ≠ []) : mxD n ns ∈ ns ∧ ∀ y ∈ ns, y ≤ mxD n ns := by
  cases ns with
  | nil => exact absurd rfl h
  | cons x r => exact foldl_max_spec r x
def rMaxDf (K : PySem.W.Frag) : List V → List V → Hp → VK → Prop := fun vs zs H Q => ∃ (a : Addr) (ns : List Int) (n : Int), vs = [V.ref a] ∧ zs = [.int n] ∧ SqL K H a (ns.map V.int) ∧ Q (.int (mxD n ns)) H
theorem depthAll_ints : ∀ ns : List Int, PyData.depthAll (ns.map PyData.int) ≤ 1
  | [] => by simp [PyData.depthAll]
  | n :: r => by
    have := depthAll_ints r
    simp only [List.map_cons, PyData.depthAll, PyData.depth]
    omega
theorem alikeAll_ints (ns : List Int) : PySem.W.AlikeAll (ns.map PyData.int) := by
  refine ⟨fun x hx y hy => ?_, fun x hx => ?_⟩
  · obtain ⟨i, _, rfl⟩ := List.mem_map.mp hx
    obtain ⟨j, _, rfl⟩ := List.mem_map.mp hy
    simp [PySem.W.alike]
  · obtain ⟨i, _, rfl⟩ := List.mem_map.mp hx
    intro h
    cases h
theorem cr_maxDf {X : Cx} (hc : X.calm = true) (hu : X.A.units + 64 < cLine) : CallRK X (.builtin "max") [Str.ofString "default"] (rMaxDf X.K) := by
  intro pins s σ H vs zs us ws Q I r rz h
  obtain ⟨a, ns, n, rfl, rfl, hs, q⟩ := h
  obtain rfl := Vals.ref1 r
  obtain ⟨w1, rfl, t, rfl⟩ := vals1 rz
  obtain ⟨its, rv, hl, hz⟩ := I.list hs
  obtain ⟨as, hr⟩ := Dp.readsAll I _ _ its (dpAll_ints ns) rv
  have hd := depthAll_ints ns
  show wpAny _ _ (call (.builtin "max") [.ref a] [(Str.ofString "default", Value.int n t)]) _ _ _
  refine PySem.W.max_list_default (I.ok.hd hc) hl.isList hr (alikeAll_ints ns) (by omega) (fun h0 h' tk k => ?_) (fun y ys i v h' tk bs e hv r k => ?_)
  · obtain rfl := List.map_eq_nil_iff.mp h0
    exact ⟨.int _, H, I.kept k, ⟨_, rfl⟩, q⟩
  · cases ns with
    | nil => cases e
    | cons m r' =>
      cases e
      rw [PySem.W.maxD_ints] at r
      cases r
      exact ⟨.int _, H, I.kept k, ⟨_, rfl⟩, q⟩
section
variable {B : Hp} {L : Own} {K : PySem.W.Frag} {a l : Addr} {xs : List V} {v : V} {ns : List Int} {i n : Int} {σ : St} {Q : VK} {m : Nat}
theorem n_ckw {r : List V → List V → Hp → VK → Prop} {t tk : TA} (q : N B L (fun H => t σ H fun vs H1 => tk σ H1 fun zs H2 => r vs zs H2 Q)) : N B L (fun H => tCKw r t tk σ H Q) := q
theorem n_maxDf (h : Sq K B L a (ns.map V.int)) (q : N B L (Q (.int (mxD n ns)))) : N B L (fun H => rMaxDf K [.ref a] [.int n] H Q) := fun H s => ⟨a, ns, n, rfl, rfl, h H s, q H s⟩
/-- the first place of an int that is there -/
theorem n_indexI (h : Sq K B L a (ns.map V.int)) (hm : i ∈ ns) (q : N B L (Q (.int (ns.idxOf i : Nat)))) : N B L (fun H => rIndex K (.ref a) [.int i] H Q) := by
  intro H s
  have hi := List.idxOf_lt_length_iff.mpr hm
  refine ⟨a, ns.map V.int, .int i, ns.idxOf i, .int i, rfl, rfl, h H s, rfl, ?_, ?_, ?_, fun k z' hk hz => ?_, q H s⟩
  · rw [List.all_map]
    exact List.all_eq_true.mpr fun x _ => rfl
  · rw [List.getElem?_map, List.getElem?_eq_getElem hi, List.getElem_idxOf hi]; rfl
  · simp [eqV]
  · rw [List.getElem?_map] at hz
    have hkl : k < ns.length := by omega
    rw [List.getElem?_eq_getElem hkl] at hz
    obtain rfl := Option.some.inj hz
    have := List.not_of_lt_findIdx (p := (· == i)) (xs := ns) (i := k) hk
    simpa [eqV] using this
theorem n_popAt {k : Nat} {j : Int} (hi : L[m]? = some (l, .lst xs)) (h0 : 0 ≤ j) (h1 : j < xs.length) (hz : xs.length ≤ 2 ^ 62) (hk : xs[j.toNat]? = some v) (q : N B (L.set m (l, .lst (xs.eraseIdx j.toNat))) (Q v)) : N B L (fun H => rPopAt (.ref l) [.int j] H Q) :=
  fun H s => ⟨l, xs, j, j.toNat, v, rfl, rfl, s.at hi, by omega, by omega, by unfold seqIndex?; simp; omega, hk, q _ (s.set hi)⟩
end
end Sk
namespace Sk
open PySem PySem.Spec PyProof.Rows L2
/-! ### texts -/
abbrev strI (i : Int) : Str := toString i
def rLenS : List V → Hp → VK → Prop := fun xs H Q => ∃ z : Str, xs = [.str z] ∧ z.length ≤ sizeLine ∧ Q (.int z.length) H
def rIntS : List V → Hp → VK → Prop := fun xs H Q => ∃ (a : Str) (n : Int), xs = [.str a] ∧ PySem.intText? a = some n ∧ a.length ≤ 640 ∧ Q (.int n) H
def rStrI : List V → Hp → VK → Prop := fun xs H Q => ∃ i : Int, xs = [.int i] ∧ i.natAbs.log2 < 1920 ∧ Q (.str (strI i)) H
def rInSg : R2 := fun x y H Q => ∃ (c : Nat) (z : Str), x = .str ⟨#[c]⟩ ∧ y = .str z ∧ Q (.bl (decide (c ∈ z.cps.toList))) H
def rNiSg : R2 := fun x y H Q => ∃ (c : Nat) (z : Str), x = .str ⟨#[c]⟩ ∧ y = .str z ∧ Q (.bl (!decide (c ∈ z.cps.toList))) H
def rSplit : V → List V → Hp → VK → Prop := fun x xs H Q => ∃ (a b : Str), x = .str a ∧ xs = [.str b] ∧ (b.length == 0) = false ∧ a.length + 2 ≤ sizeLine ∧ rNewStrs (Txt.split a b) H Q
def rJoin (K : PySem.W.Frag) : V → List V → Hp → VK → Prop := fun x xs H Q => ∃ (a : Str) (p : Addr), ∃ ys : List Str, x = .str a ∧ xs = [.ref p] ∧ (SqL K H p (ys.map V.str) ∨ SqT K H p (ys.map V.str)) ∧ (ys.map (·.length)).sum + ys.length * a.length ≤ 16777216 ∧ Q (.str (Txt.join a ys)) H
section
variable {X : Cx}
theorem cr_lenS : CallR X (.builtin "len") rLenS := call_len_str
theorem cr_intS : CallR X (.type "int") rIntS := call_int_str
theorem cr_strI : CallR X (.type "str") rStrI := call_str_int
theorem op_inSg : OpR X (compareOp .In) rInSg := op_in_sign
theorem op_niSg : OpR X (compareOp .NotIn) rNiSg := op_notIn_sign
theorem mr_split : MtR X "str.split" rSplit := mt_split
theorem mr_join : MtR X "str.join" (rJoin X.K) := mt_join
end
section
variable {B : Hp} {L : Own} {K : PySem.W.Frag} {p : Addr} {a b z : Str} {ys : List Str} {i : Int} {n : Nat} {σ : St} {Q : VK} {k : Hp → Prop} {D : Ends} {ts : TS} {g : TG} {c : Nat}
theorem n_m1 {r : V → List V → Hp → VK → Prop} {to te : TE} (q : N B L (fun H => to σ H fun x H1 => (∃ a, x = .str a) ∧ te σ H1 fun y H2 => r x [y] H2 Q)) : N B L (fun H => tM1 r to te σ H Q) := q
theorem n_isS (q : N B L k) : N B L (fun H => (∃ a, V.str z = .str a) ∧ k H) := fun H s => ⟨⟨z, rfl⟩, q H s⟩
theorem n_lenS (hz : z.length ≤ sizeLine) (q : N B L (Q (.int z.length))) : N B L (fun H => rLenS [.str z] H Q) := fun H s => ⟨z, rfl, hz, q H s⟩
theorem n_intS (hi : PySem.intText? a = some i) (hz : a.length ≤ 640) (q : N B L (Q (.int i))) : N B L (fun H => rIntS [.str a] H Q) := fun H s => ⟨a, i, rfl, hi, hz, q H s⟩
theorem n_strI (hz : i.natAbs.log2 < 1920) (q : N B L (Q (.str (strI i)))) : N B L (fun H => rStrI [.int i] H Q) := fun H s => ⟨i, rfl, hz, q H s⟩
theorem n_inSg (q : N B L (Q (.bl (decide (c ∈ z.cps.toList))))) : N B L (fun H => rInSg (.str ⟨#[c]⟩) (.str z) H Q) := fun H s => ⟨c, z, rfl, rfl, q H s⟩
theorem n_niSg (q : N B L (Q (.bl (!decide (c ∈ z.cps.toList))))) : N B L (fun H => rNiSg (.str ⟨#[c]⟩) (.str z) H Q) := fun H s => ⟨c, z, rfl, rfl, q H s⟩
theorem n_split (hb : (b.length == 0) = false) (hz : a.length + 2 ≤ sizeLine) (q : ∀ p, N B ((p, .lst ((Txt.split a b).map V.str)) :: L) (Q (.ref p))) : N B L (fun H => rSplit (.str a) [.str b] H Q) :=
  fun H s => ⟨a, b, rfl, rfl, hb, hz, fun p hp => q p _ (s.new hp)⟩
theorem n_join (h : Sq K B L p (ys.map V.str)) (hz : (ys.map (·.length)).sum + ys.length * a.length ≤ 16777216) (q : N B L (Q (.str (Txt.join a ys)))) : N B L (fun H => rJoin K (.str a) [.ref p] H Q) :=
  fun H s => ⟨a, p, ys, rfl, rfl, .inl (h H s), hz, q H s⟩
theorem n_ixS (hz : z.length ≤ sizeLine) (hc : atI z.cps.toList i = some c) (q : N B L (Q (.str ⟨#[c]⟩))) : N B L (fun H => rIx K (.str z) (.int i) H Q) := fun H s => .inr (.inr ⟨z, i, c, rfl, rfl, hz, hc, q H s⟩)
theorem n_iStr {te : TE} {R : It → Hp → Prop} (q : N B L (fun H => te σ H fun v H1 => ∃ x, v = .str x ∧ R (Its x) H1)) : N B L (fun H => iStr te σ H R) := q
/-- a text walked, sign by sign -/
theorem n_lpS (Pv : Nat → St → Own → Prop) (h0 : Pv 0 σ L)
    (hs : ∀ i σ L (hi : i < z.cps.toList.length), Pv i σ L → N B L (fun H => g (.str ⟨#[z.cps.toList[i]]⟩) σ H fun σ2 H2 => ts (loE D (KI B (Pv (i + 1)))) σ2 H2))
    (hd : ∀ σ L, Pv z.cps.toList.length σ L → N B L (D.nx σ)) : N B L (fun H => ∃ x, V.str z = .str x ∧ Lp g ts D σ (Its x) H) := by
  intro H s
  refine ⟨z, rfl, ?_⟩
  refine lp_core (J := Its z) z.cps.toList.length (fun i => .str ⟨#[z.cps.toList.getD i 0]⟩) Pv (fun i σ L H p hi s => ?_) (fun σ L H p s => ?_) (fun i σ L H x H' p hi s h => ?_) h0 (fun i σ L hi p => ?_) hd H s
  · show i < z.cps.size
    rwa [← Array.length_toList]
  · show z.cps.size ≤ _
    rw [← Array.length_toList]; exact Nat.le_refl _
  · obtain ⟨e, c, hc, hx⟩ := h
    refine ⟨e, ?_⟩
    rw [hx, List.getD_eq_getElem?_getD, Array.getElem?_toList, hc]; rfl
  · have e : z.cps.toList.getD i 0 = z.cps.toList[i] := by rw [List.getD_eq_getElem?_getD, List.getElem?_eq_getElem hi]; rfl
    show N B L (fun H => g (.str ⟨#[z.cps.toList.getD i 0]⟩) σ H _)
    rw [e]
    exact hs i σ L hi p
theorem n_strIs (h0 : 0 ≤ i) (h1 : i < 2 ^ 62) (q : N B L (Q (.str (strI i)))) : N B L (fun H => rStrI [.int i] H Q) := n_strI (by
  have h2 : i.natAbs < 2 ^ 62 := by omega
  by_cases e : i.natAbs = 0
  · rw [e]; decide
  · have := (Nat.log2_lt e).mpr h2
    omega) q
theorem strs_len {b : Nat} : ∀ {ys : List Str}, (∀ y ∈ ys, y.length ≤ b) → (ys.map (·.length)).sum ≤ b * ys.length
  | [], _ => Nat.le_refl _
  | y :: ys, h => by
    have h1 := h y List.mem_cons_self
    have h2 := strs_len (ys := ys) fun z hz => h z (List.mem_cons_of_mem _ hz)
    rw [List.map_cons, List.sum_cons, List.length_cons, Nat.mul_add]
    omega
end
section
variable {B : Hp} {L : Own} {K : PySem.W.Frag} {a : Addr} {σ : St} {Q : VK} {te : TE} {vs : List Nat} {m : Nat}
/-- [e for x in xs], nothing else changed -/
theorem n_lcG (xs ys : List V) (e : xs.length = ys.length) (hb : xs.length ≤ 100000) (hq : Sq K B L a xs) (hw : ∀ x, wipe ((wipe σ vs).set m x) vs = wipe σ vs)
    (he : ∀ (i : Nat) D acc (Q' : VK) (h1 : i < xs.length) (h2 : i < ys.length), N B ((D, .lst acc) :: L) (Q' ys[i]) → N B ((D, .lst acc) :: L) (fun H => te ((wipe σ vs).set m (some xs[i])) H Q'))
    (hd : ∀ D, N B ((D, .lst ys) :: L) (Q (.ref D))) : N B L (fun H => IL K (Lc (gName m) tYes te vs σ Q) (.ref a) H) := by
  refine n_lcL (xs := xs) (fun i acc L' => acc = ys.take i ∧ L' = L) (fun i acc L' _ p => by rw [p.2]; exact hq) ⟨rfl, rfl⟩ ?_ ?_
  · rintro i acc L' D hi ⟨rfl, rfl⟩
    have h2 : i < ys.length := by omega
    refine n_gName ?_
    refine n_wiped (hw _) ?_
    refine n_yes ?_
    refine he i D _ _ hi h2 ?_
    refine n_put [] rfl (by rw [List.length_take, sizeLine_eq]; omega) ⟨?_, rfl⟩ (.refl _)
    rw [take_step h2]
  · rintro acc L' D ⟨rfl, rfl⟩
    rw [e, List.take_length]
    exact hd D
end
end Sk
namespace Sk
open PySem PySem.Spec PyProof.Rows L2
/-! ### dicts -/
def DgK (Q : VK) (x y : V) (H : Hp) : Prop := ∃ a v, x = .ref a ∧ DGet H a y (some v) ∧ Q v H
def DinK (Q : VK) (y x : V) (H : Hp) : Prop := ∃ a o, x = .ref a ∧ DGet H a y o ∧ Q (.bl o.isSome) H
def DniK (Q : VK) (y x : V) (H : Hp) : Prop := ∃ a o, x = .ref a ∧ DGet H a y o ∧ Q (.bl (!o.isSome)) H
def DpK (v : V) (k : Hp → Prop) (x y : V) (H : Hp) : Prop := ∃ a H4, x = .ref a ∧ DPut H a y v H4 ∧ k H4
def Da2 (a : Addr) (y : V) (k : Hp → Prop) (z : V) (H4 : Hp) : Prop := ∃ H5, DPut H4 a y z H5 ∧ k H5
def DaK (tv : TE) (rd : V → V → Hp → VK → Prop) (σ : St) (k : Hp → Prop) (x y : V) (H : Hp) : Prop := ∃ a v, x = .ref a ∧ DGet H a y (some v) ∧ tv σ H fun y2 H3 => rd v y2 H3 (Da2 a y k)
def Dg1 (ty : TE) (σ : St) (Q : VK) (x : V) (H1 : Hp) : Prop := ∃ a, x = .ref a ∧ IsD H1 a ∧ ty σ H1 fun y H2 => ∃ o, DGet H2 a y o ∧ Q (o.getD .non) H2
def Dg2b (a : Addr) (Q : VK) (y z : V) (H3 : Hp) : Prop := ∃ o, DGet H3 a y o ∧ Q (o.getD z) H3
def Dg2 (ty tx : TE) (σ : St) (Q : VK) (x : V) (H1 : Hp) : Prop := ∃ a, x = .ref a ∧ IsD H1 a ∧ ty σ H1 fun y H2 => tx σ H2 fun z H3 => Dg2b a Q y z H3
def Dp1b (a : Addr) (Q : VK) (y : V) (H2 : Hp) : Prop := ∃ kvs k v, H2 a = some (.dK kvs) ∧ y = kV k ∧ valV kvs k = some v ∧ Q v (upd H2 a (.dK (dropK kvs k)))
def Dp1 (ty : TE) (σ : St) (Q : VK) (x : V) (H1 : Hp) : Prop := ∃ a, x = .ref a ∧ IsD H1 a ∧ ty σ H1 (Dp1b a Q)
section
variable {B : Hp} {L : Own} {σ : St} {Q : VK} {td ty tv tx : TE} {d p : Addr} {kvs : List (Key × V)} {tvs : List (List Key × V)} {i : Int} {s : Str} {v x y z : V} {k : Hp → Prop} {D : Ends} {tz : TS} {n : Nat} {rd : V → V → Hp → VK → Prop} {ks : List Key} {o : Option V} {b : Bool}
theorem n_dnew (q : ∀ p, N B ((p, .dK []) :: L) (Q (.ref p))) : N B L (fun H => tDNewK σ H Q) := fun H s p hp => q p _ (s.new hp)
theorem n_dnewT (q : ∀ p, N B ((p, .dT []) :: L) (Q (.ref p))) : N B L (fun H => tDNewT σ H Q) := fun H s p hp => q p _ (s.new hp)
theorem n_dget (q : N B L (fun H => td σ H fun x H1 => ty σ H1 fun y H2 => DgK Q x y H2)) : N B L (fun H => tDGet td ty σ H Q) := q
theorem n_din (q : N B L (fun H => ty σ H fun y H1 => td σ H1 fun x H2 => DinK Q y x H2)) : N B L (fun H => tDIn ty td σ H Q) := q
theorem n_dni (q : N B L (fun H => ty σ H fun y H1 => td σ H1 fun x H2 => DniK Q y x H2)) : N B L (fun H => tDNotIn ty td σ H Q) := q
theorem n_asgD (q : N B L (fun H => tv σ H fun v H1 => td σ H1 fun x H2 => ty σ H2 fun y H3 => DpK v (tz D σ) x y H3)) : N B L (fun H => tSeq (sDPut td ty tv) tz D σ H) := q
theorem n_asgDa (q : N B L (fun H => td σ H fun x H1 => ty σ H1 fun y H2 => DaK tv rd σ (tz D σ) x y H2)) : N B L (fun H => tSeq (sDAug td ty tv rd) tz D σ H) := q
theorem n_dg1 (q : N B L (fun H => td σ H (Dg1 ty σ Q))) : N B L (fun H => tDGet1 td ty σ H Q) := q
theorem n_dg2 (q : N B L (fun H => td σ H (Dg2 ty tx σ Q))) : N B L (fun H => tDGet2 td ty tx σ H Q) := q
theorem n_dp1 (q : N B L (fun H => td σ H (Dp1 ty σ Q))) : N B L (fun H => tDPop1 td ty σ H Q) := q
/-! int keys -/
theorem dget_i {H : Hp} (h : H d = some (.dK kvs)) : DGet H d (.int i) (valV kvs (Sum.inl i)) := DGet.k (k := Sum.inl i) h
theorem n_dgI (h : Is B L d (.dK kvs)) (e : valV kvs (Sum.inl i) = some v) (q : N B L (Q v)) : N B L (fun H => DgK Q (.ref d) (.int i) H) := fun H s => ⟨d, v, rfl, by rw [← e]; exact dget_i (h H s), q H s⟩
theorem n_dinI (h : Is B L d (.dK kvs)) (q : N B L (Q (.bl (valV kvs (Sum.inl i)).isSome))) : N B L (fun H => DinK Q (.int i) (.ref d) H) := fun H s => ⟨d, _, rfl, dget_i (h H s), q H s⟩
theorem n_dniI (h : Is B L d (.dK kvs)) (q : N B L (Q (.bl (!(valV kvs (Sum.inl i)).isSome)))) : N B L (fun H => DniK Q (.int i) (.ref d) H) := fun H s => ⟨d, _, rfl, dget_i (h H s), q H s⟩
theorem n_dpI (hi : L[n]? = some (d, .dK kvs)) (hl : kvs.length < sizeLine) (q : N B (L.set n (d, .dK (putK kvs (Sum.inl i) v))) k) : N B L (fun H => DpK v k (.ref d) (.int i) H) :=
  fun H s => ⟨d, _, rfl, DPut.k (k := Sum.inl i) (s.at hi) hl, q _ (s.set hi)⟩
theorem n_daI (h : Is B L d (.dK kvs)) (e : valV kvs (Sum.inl i) = some v) (q : N B L (fun H => tv σ H fun y2 H3 => rd v y2 H3 (Da2 d (.int i) k))) : N B L (fun H => DaK tv rd σ k (.ref d) (.int i) H) := fun H s => ⟨d, v, rfl, by rw [← e]; exact dget_i (h H s), q H s⟩
theorem n_da2I (hi : L[n]? = some (d, .dK kvs)) (hl : kvs.length < sizeLine) (q : N B (L.set n (d, .dK (putK kvs (Sum.inl i) v))) k) : N B L (fun H => Da2 d (.int i) k v H) :=
  fun H s => ⟨_, DPut.k (k := Sum.inl i) (s.at hi) hl, q _ (s.set hi)⟩
theorem n_dg1K (h : Is B L d (.dK kvs)) (q : N B L (fun H => ty σ H fun y H2 => ∃ o, DGet H2 d y o ∧ Q (o.getD .non) H2)) : N B L (fun H => Dg1 ty σ Q (.ref d) H) := fun H s => ⟨d, rfl, .inl ⟨_, .inl (h H s)⟩, q H s⟩
theorem n_dg1I (h : Is B L d (.dK kvs)) (q : N B L (Q ((valV kvs (Sum.inl i)).getD .non))) : N B L (fun H => ∃ o, DGet H d (.int i) o ∧ Q (o.getD .non) H) := fun H s => ⟨_, dget_i (h H s), q H s⟩
theorem n_dg2K (h : Is B L d (.dK kvs)) (q : N B L (fun H => ty σ H fun y H2 => tx σ H2 fun z H3 => Dg2b d Q y z H3)) : N B L (fun H => Dg2 ty tx σ Q (.ref d) H) := fun H s => ⟨d, rfl, .inl ⟨_, .inl (h H s)⟩, q H s⟩
theorem n_dg2I (h : Is B L d (.dK kvs)) (q : N B L (Q ((valV kvs (Sum.inl i)).getD z))) : N B L (fun H => Dg2b d Q (.int i) z H) := fun H s => ⟨_, dget_i (h H s), q H s⟩
theorem n_dp1K (h : Is B L d (.dK kvs)) (q : N B L (fun H => ty σ H (Dp1b d Q))) : N B L (fun H => Dp1 ty σ Q (.ref d) H) := fun H s => ⟨d, rfl, .inl ⟨_, .inl (h H s)⟩, q H s⟩
theorem n_dp1I (hi : L[n]? = some (d, .dK kvs)) (e : valV kvs (Sum.inl i) = some v) (q : N B (L.set n (d, .dK (dropK kvs (Sum.inl i)))) (Q v)) : N B L (fun H => Dp1b d Q (.int i) H) := fun H s => ⟨kvs, Sum.inl i, v, s.at hi, rfl, e, q _ (s.set hi)⟩
/-! text keys -/
theorem dget_s {H : Hp} (h : H d = some (.dK kvs)) : DGet H d (.str s) (valV kvs (Sum.inr s)) := DGet.k (k := Sum.inr s) h
theorem n_dgS (h : Is B L d (.dK kvs)) (e : valV kvs (Sum.inr s) = some v) (q : N B L (Q v)) : N B L (fun H => DgK Q (.ref d) (.str s) H) := fun H x => ⟨d, v, rfl, by rw [← e]; exact dget_s (h H x), q H x⟩
theorem n_dinS (h : Is B L d (.dK kvs)) (q : N B L (Q (.bl (valV kvs (Sum.inr s)).isSome))) : N B L (fun H => DinK Q (.str s) (.ref d) H) := fun H x => ⟨d, _, rfl, dget_s (h H x), q H x⟩
theorem n_dniS (h : Is B L d (.dK kvs)) (q : N B L (Q (.bl (!(valV kvs (Sum.inr s)).isSome)))) : N B L (fun H => DniK Q (.str s) (.ref d) H) := fun H x => ⟨d, _, rfl, dget_s (h H x), q H x⟩
theorem n_dpS (hi : L[n]? = some (d, .dK kvs)) (hl : kvs.length < sizeLine) (q : N B (L.set n (d, .dK (putK kvs (Sum.inr s) v))) k) : N B L (fun H => DpK v k (.ref d) (.str s) H) :=
  fun H x => ⟨d, _, rfl, DPut.k (k := Sum.inr s) (x.at hi) hl, q _ (x.set hi)⟩
theorem n_dg1S (h : Is B L d (.dK kvs)) (q : N B L (Q ((valV kvs (Sum.inr s)).getD .non))) : N B L (fun H => ∃ o, DGet H d (.str s) o ∧ Q (o.getD .non) H) := fun H x => ⟨_, dget_s (h H x), q H x⟩
theorem n_dg2S (h : Is B L d (.dK kvs)) (q : N B L (Q ((valV kvs (Sum.inr s)).getD z))) : N B L (fun H => Dg2b d Q (.str s) z H) := fun H x => ⟨_, dget_s (h H x), q H x⟩
theorem n_dp1S (hi : L[n]? = some (d, .dK kvs)) (e : valV kvs (Sum.inr s) = some v) (q : N B (L.set n (d, .dK (dropK kvs (Sum.inr s)))) (Q v)) : N B L (fun H => Dp1b d Q (.str s) H) := fun H x => ⟨kvs, Sum.inr s, v, x.at hi, rfl, e, q _ (x.set hi)⟩
/-! tuple keys: the tuple at p tells the ints ns -/
abbrev ksI (ns : List Int) : List Key := ns.map Sum.inl
theorem ksI_v (ns : List Int) : (ksI ns).map kV = ns.map V.int := by
  rw [List.map_map]; rfl
variable {ns : List Int}
theorem dget_t {H : Hp} (h : H d = some (.dT tvs)) (hp : H p = some (.tup (ns.map V.int))) : DGet H d (.ref p) (valV tvs (ksI ns)) := DGet.t h (by rw [ksI_v]; exact hp)
theorem n_dgT (h : Is B L d (.dT tvs)) (hp : Is B L p (.tup (ns.map V.int))) (e : valV tvs (ksI ns) = some v) (q : N B L (Q v)) : N B L (fun H => DgK Q (.ref d) (.ref p) H) := fun H s => ⟨d, v, rfl, by rw [← e]; exact dget_t (h H s) (hp H s), q H s⟩
theorem n_dinT (h : Is B L d (.dT tvs)) (hp : Is B L p (.tup (ns.map V.int))) (q : N B L (Q (.bl (valV tvs (ksI ns)).isSome))) : N B L (fun H => DinK Q (.ref p) (.ref d) H) := fun H s => ⟨d, _, rfl, dget_t (h H s) (hp H s), q H s⟩
theorem n_dniT (h : Is B L d (.dT tvs)) (hp : Is B L p (.tup (ns.map V.int))) (q : N B L (Q (.bl (!(valV tvs (ksI ns)).isSome)))) : N B L (fun H => DniK Q (.ref p) (.ref d) H) := fun H s => ⟨d, _, rfl, dget_t (h H s) (hp H s), q H s⟩
theorem n_dpT (hi : L[n]? = some (d, .dT tvs)) (hp : Is B L p (.tup (ns.map V.int))) (hl : tvs.length < sizeLine) (q : N B (L.set n (d, .dT (putK tvs (ksI ns) v))) k) : N B L (fun H => DpK v k (.ref d) (.ref p) H) :=
  fun H s => ⟨d, _, rfl, DPut.t (s.at hi) (by rw [ksI_v]; exact hp H s) hl, q _ (s.set hi)⟩
end
theorem n_rAdd {B : Hp} {L : Own} {Q : VK} {i j : Int} (q : N B L (Q (.int (i + j)))) : N B L (fun H => rAdd (.int i) (.int j) H Q) := fun H s => ⟨i, j, rfl, rfl, q H s⟩
theorem n_rSub {B : Hp} {L : Own} {Q : VK} {i j : Int} (q : N B L (Q (.int (i - j)))) : N B L (fun H => rSub (.int i) (.int j) H Q) := fun H s => ⟨i, j, rfl, rfl, q H s⟩
/-! dicts of ints -/
abbrev dI (ms : List (Int × V)) : List (Key × V) := ms.map fun p => (Sum.inl p.1, p.2)
def getI (ms : List (Int × V)) (k : Int) : Option V := (ms.find? fun p => decide (p.1 = k)).map (·.2)
def putI (ms : List (Int × V)) (k : Int) (v : V) : List (Int × V) := if (ms.any fun p => decide (p.1 = k)) = true then ms.map (fun p => if p.1 = k then (p.1, v) else p) else ms ++ [(k, v)]
theorem dec_inl {i j : Int} : decide ((Sum.inl i : Key) = Sum.inl j) = decide (i = j) := by
  by_cases h : i = j
  · rw [decide_eq_true h, decide_eq_true (by rw [h])]
  · rw [decide_eq_false h, decide_eq_false (fun e => h (Sum.inl.inj e))]
theorem valV_dI (k : Int) : ∀ ms : List (Int × V), valV (dI ms) (Sum.inl k) = getI ms k
  | [] => rfl
  | p :: r => by
    have ih := valV_dI k r
    unfold valV getI at ih ⊢
    rw [show dI (p :: r) = (Sum.inl p.1, p.2) :: dI r from rfl, List.find?_cons, List.find?_cons]
    show Option.map _ (match decide ((Sum.inl p.1 : Key) = Sum.inl k) with | true => _ | false => _) = _
    rw [dec_inl]
    cases decide (p.1 = k)
    · exact ih
    · rfl
theorem any_dI (k : Int) : ∀ ms : List (Int × V), ((dI ms).any fun kv => decide (kv.1 = Sum.inl k)) = ms.any fun p => decide (p.1 = k)
  | [] => rfl
  | p :: r => by
    rw [show dI (p :: r) = (Sum.inl p.1, p.2) :: dI r from rfl, List.any_cons, List.any_cons, any_dI k r]
    show (decide ((Sum.inl p.1 : Key) = Sum.inl k) || _) = _
    rw [dec_inl]
theorem putK_dI (ms : List (Int × V)) (k : Int) (v : V) : putK (dI ms) (Sum.inl k) v = dI (putI ms k v) := by
  unfold putK putI
  rw [any_dI]
  split
  · show List.map _ (List.map _ ms) = List.map _ (List.map _ ms)
    rw [List.map_map, List.map_map]
    refine List.map_congr_left fun p _ => ?_
    show (if (Sum.inl p.1 : Key) = Sum.inl k then _ else _) = ((fun p : Int × V => ((Sum.inl p.1 : Key), p.2)) (if p.1 = k then _ else _))
    by_cases h : p.1 = k
    · rw [if_pos h, if_pos (by rw [h])]
    · rw [if_neg h, if_neg (fun e => h (Sum.inl.inj e))]
  · show _ = List.map _ (ms ++ _)
    rw [List.map_append]; rfl
theorem putI_new {ms : List (Int × V)} {k : Int} {v : V} (h : ¬ k ∈ ms.map (·.1)) : putI ms k v = ms ++ [(k, v)] := by
  unfold putI
  rw [if_neg]
  intro hh
  obtain ⟨p, hp, e⟩ := List.any_eq_true.mp hh
  exact h (List.mem_map.mpr ⟨p, hp, of_decide_eq_true e⟩)
theorem getI_mem {ms : List (Int × V)} (hn : (ms.map (·.1)).Nodup) {k : Int} {v : V} (h : (k, v) ∈ ms) : getI ms k = some v := by
  induction ms with
  | nil => cases h
  | cons p r ih =>
    rw [List.map_cons, List.nodup_cons] at hn
    unfold getI at ih ⊢
    rw [List.find?_cons]
    rcases List.mem_cons.mp h with e | h
    · subst e
      rw [decide_eq_true rfl]; rfl
    · have : ¬ p.1 = k := fun e => hn.1 (by rw [e]; exact List.mem_map.mpr ⟨_, h, rfl⟩)
      rw [decide_eq_false this]
      exact ih hn.2 h
theorem getI_none {ms : List (Int × V)} {k : Int} (h : ¬ k ∈ ms.map (·.1)) : getI ms k = none := by
  unfold getI
  rw [List.find?_eq_none.mpr fun p hp => by
    intro e
    exact h (List.mem_map.mpr ⟨p, hp, of_decide_eq_true e⟩)]; rfl
section
variable {B : Hp} {L : Own} {K : PySem.W.Frag} {a l : Addr} {xs : List V} {v : V} {ns : List Int} {Q : VK} {m : Nat}
theorem n_sum (h : Sq K B L a (ns.map V.int)) (q : N B L (Q (.int ns.sum))) : N B L (fun H => rSum K [.ref a] H Q) := fun H s => ⟨a, ns, rfl, h H s, q H s⟩
theorem n_maxL (h : Sq K B L a (ns.map V.int)) (hn : 0 < ns.length) (q : ∀ m, m ∈ ns → (∀ y ∈ ns, y ≤ m) → N B L (Q (.int m))) : N B L (fun H => rMax K [.ref a] H Q) := fun H s => ⟨a, ns, rfl, h H s, hn, fun m h1 h2 => q m h1 h2 H s⟩
theorem n_minL (h : Sq K B L a (ns.map V.int)) (hn : 0 < ns.length) (q : ∀ m, m ∈ ns → (∀ y ∈ ns, m ≤ y) → N B L (Q (.int m))) : N B L (fun H => rMin K [.ref a] H Q) := fun H s => ⟨a, ns, rfl, h H s, hn, fun m h1 h2 => q m h1 h2 H s⟩
theorem n_popL (hi : L[m]? = some (l, .lst (xs ++ [v]))) (q : N B (L.set m (l, .lst xs)) (Q v)) : N B L (fun H => rPop (.ref l) [] H Q) := fun H s => ⟨l, _, v, rfl, rfl, s.at hi, by
  rw [List.length_append, List.getElem?_append_right (by show xs.length ≤ xs.length + 1 - 1; omega)]
  show [v][xs.length + 1 - 1 - xs.length]? = some v
  rw [show xs.length + 1 - 1 - xs.length = 0 by omega]; rfl, by rw [List.dropLast_concat]; exact q _ (s.set hi)⟩
end
theorem All2.erase {α β : Type} {R : α → β → Prop} {xs : List α} {ys : List β} (h : All2 R xs ys) (i : Nat) : All2 R (xs.eraseIdx i) (ys.eraseIdx i) := by
  rw [List.eraseIdx_eq_take_drop_succ, List.eraseIdx_eq_take_drop_succ]
  exact (h.take i).app (h.drop (i + 1))
theorem All2.getD {α β : Type} {R : α → β → Prop} {xs : List α} {ys : List β} (h : All2 R xs ys) {i : Nat} (a : α) (b : β) (hi : i < ys.length) : R (xs.getD i a) (ys.getD i b) := by
  obtain ⟨x, e, r⟩ := h.at hi
  rw [List.getD_eq_getElem?_getD, e, List.getD_eq_getElem?_getD, List.getElem?_eq_getElem hi]
  exact r
theorem n_ixP {B : Hp} {L : Own} {K : PySem.W.Frag} {Q : VK} {a : Addr} {i : Int} {ns : List Int} {P : Int → Prop} (hP : ∀ x ∈ ns, P x) (hs : Sq K B L a (ns.map V.int)) (h0 : 0 ≤ i) (h1 : i < ns.length) (q : ∀ d, P d → N B L (Q (.int d))) : N B L (fun H => rIx K (.ref a) (.int i) H Q) :=
  n_ixLi hs h0 h1 (q _ (by
    rw [List.getD_eq_getElem?_getD, List.getElem?_eq_getElem (show i.toNat < ns.length by omega)]
    exact hP _ (List.getElem_mem _)))
theorem mul_bd {a b x y : Int} (h0 : 0 ≤ a) (h1 : a ≤ x) (h2 : 0 ≤ b) (h3 : b ≤ y) : 0 ≤ a * b ∧ a * b ≤ x * y := ⟨Int.mul_nonneg h0 h2, Int.mul_le_mul h1 h3 h2 (Int.le_trans h0 h1)⟩
theorem n_ixLast {B : Hp} {L : Own} {K : PySem.W.Frag} {Q : VK} {a : Addr} {z : Int} {ns : List Int} (hs : Sq K B L a ((ns ++ [z]).map V.int)) (q : N B L (Q (.int z))) : N B L (fun H => rIx K (.ref a) (.int (-1)) H Q) :=
  n_ixL hs (by rw [List.map_append]; exact at_last _ _) q
theorem all2_two {α β : Type} {R : α → β → Prop} {xs : List α} {b c : β} (h : All2 R xs [b, c]) : ∃ x y, xs = [x, y] ∧ R x b ∧ R y c := by
  obtain ⟨h1, h2⟩ := h
  match xs, h1, h2 with
  | [x, y], _, h2 => exact ⟨x, y, rfl, h2 0 x b rfl rfl, h2 1 y c rfl rfl⟩
end Sk
namespace Sk
open PySem PySem.Spec PyProof.Rows L2
/-! ### pairs of ints; what is sorted -/
/-- a value that is a pair of ints, in the base -/
def PairAt (B : Hp) (v : V) (t : Int × Int) : Prop := ∃ p, v = .ref p ∧ B p = some (.tup [.int t.1, .int t.2])
theorem PairAt.mono {B B' : Hp} {v : V} {t : Int × Int} (h : PairAt B v t) (s : Same B B') : PairAt B' v t := by
  obtain ⟨p, e, h⟩ := h
  exact ⟨p, e, s _ _ h⟩
theorem pairs_mono {B B' : Hp} {vs : List V} {cs : List (Int × Int)} (h : All2 (PairAt B) vs cs) (s : Same B B') : All2 (PairAt B') vs cs := h.imp fun _ _ x => x.mono s
def dPair (t : Int × Int) : PyData := .tuple [.int t.1, .int t.2]
def dPairs (cs : List (Int × Int)) : PyData := .list (cs.map dPair)
theorem PairAt.da {K : PySem.W.Frag} {B : Hp} {L : Own} {v : V} {t : Int × Int} (h : PairAt B v t) : Da K B L v (dPair t) := by
  obtain ⟨p, rfl, hp⟩ := h
  exact da_tup (tp_old (SqT.of hp)) (daA_cons da_int (daA_cons da_int daA_nil))
theorem pairs_da {K : PySem.W.Frag} {B : Hp} {L : Own} {a : Addr} {vs : List V} {cs : List (Int × Int)} (h : Sq K B L a vs) (hv : All2 (PairAt B) vs cs) : Da K B L (.ref a) (dPairs cs) := da_lst h (daA_of (hv.map dPair fun _ _ x => x.da))
theorem pairs_cmp (cs : List (Int × Int)) : Cmp 2 (dPairs cs) := Cmp.list (Cmp.map fun t _ => Cmp.tuple (k := 0) (fun d hd => by
  rcases List.mem_cons.mp hd with rfl | hd
  · exact Cmp.int
  · rw [List.mem_singleton] at hd; subst hd; exact Cmp.int))
theorem atI_of {xs : List V} {v : V} {z : Int} {i : Nat} (e : z = i) (h : xs[i]? = some v) : atI xs z = some v := by
  subst e
  exact atI_nat h

theorem PairAt.inj {B : Hp} {v : V} {s t : Int × Int} (h : PairAt B v s) (h' : PairAt B v t) : s = t := by
  obtain ⟨p, rfl, h⟩ := h
  obtain ⟨q, e, h'⟩ := h'
  cases e
  rw [h] at h'
  have e2 := Option.some.inj h'
  injection e2 with e3
  have e4 := (List.cons.inj e3).1
  have e5 := (List.cons.inj (List.cons.inj e3).2).1
  exact Prod.ext (V.int.inj e4) (V.int.inj e5)
open Classical in
noncomputable def keyP (B : Hp) (v : V) : Int × Int := if h : ∃ t, PairAt B v t then h.choose else (0, 0)
theorem keyP_eq {B : Hp} {v : V} {t : Int × Int} (h : PairAt B v t) : keyP B v = t := by
  unfold keyP
  rw [dif_pos ⟨t, h⟩]
  exact (⟨t, h⟩ : ∃ t, PairAt B v t).choose_spec.inj h
theorem keyP_map {B : Hp} : ∀ {vs : List V} {cs : List (Int × Int)}, All2 (PairAt B) vs cs → vs.map (keyP B) = cs
  | [], [], _ => rfl
  | [], c :: cs, h => by have := h.1; simp at this
  | v :: vs, [], h => by have := h.1; simp at this
  | v :: vs, c :: cs, h => by
    rw [List.map_cons, keyP_eq (h.2 0 v c rfl rfl), keyP_map (vs := vs) (cs := cs) ⟨Nat.succ.inj h.1, fun i x y a b => h.2 (i + 1) x y a b⟩]
abbrev leP (p q : Int × Int) : Bool := decide (p.1 < q.1 ∨ (p.1 = q.1 ∧ p.2 ≤ q.2))
def sortP (cs : List (Int × Int)) : List (Int × Int) := cs.mergeSort leP
theorem sortP_perm (cs : List (Int × Int)) : (sortP cs).Perm cs := List.mergeSort_perm cs leP
theorem sortP_srt (cs : List (Int × Int)) : (sortP cs).Pairwise fun p q => leP p q = true :=
  List.pairwise_mergeSort (le := leP) (fun a b c h1 h2 => by
    have h1 := of_decide_eq_true h1
    have h2 := of_decide_eq_true h2
    exact decide_eq_true (by omega)) (fun a b => by
    unfold leP
    rw [Bool.or_eq_true, decide_eq_true_eq, decide_eq_true_eq]
    omega) cs
theorem sort_uniq {α : Type} {le : α → α → Bool} (anti : ∀ a b, le a b = true → le b a = true → a = b) : ∀ {l m : List α}, l.Perm m → l.Pairwise (fun a b => le a b = true) → m.Pairwise (fun a b => le a b = true) → l = m
  | [], m, p, _, _ => (List.Perm.nil_eq p)
  | a :: l, [], p, _, _ => (List.not_perm_nil_cons _ _ p.symm).elim
  | a :: l, b :: m, p, h1, h2 => by
    have e : a = b := by
      rcases List.mem_cons.mp (p.mem_iff.mp List.mem_cons_self) with e | ha
      · exact e
      · rcases List.mem_cons.mp (p.mem_iff.mpr List.mem_cons_self) with e | hb
        · exact e.symm
        · exact anti _ _ ((List.pairwise_cons.mp h1).1 _ hb) ((List.pairwise_cons.mp h2).1 _ ha)
    subst e
    rw [sort_uniq anti (List.Perm.cons_inv p) (List.pairwise_cons.mp h1).2 (List.pairwise_cons.mp h2).2]
theorem leP_anti (a b : Int × Int) (h1 : leP a b = true) (h2 : leP b a = true) : a = b := by
  have h1 := of_decide_eq_true h1
  have h2 := of_decide_eq_true h2
  exact Prod.ext (by omega) (by omega)
theorem all2_perm {α β : Type} {R : α → β → Prop} {k : α → β} {xs ys : List α} (hx : ∀ x ∈ xs, R x (k x)) (p : ys.Perm xs) : All2 R ys (ys.map k) := by
  refine ⟨(List.length_map _).symm, fun i x y h1 h2 => ?_⟩
  rw [List.getElem?_map, h1] at h2
  cases h2
  exact hx x (p.mem_iff.mp (List.mem_of_getElem? h1))
theorem all2_mem {α β : Type} {R : α → β → Prop} {xs : List α} {ys : List β} (h : All2 R xs ys) {x : α} (hx : x ∈ xs) : ∃ y ∈ ys, R x y := by
  obtain ⟨i, hi⟩ := List.mem_iff_getElem?.mp hx
  have hlt : i < ys.length := by rw [← h.1]; exact (List.getElem?_eq_some_iff.mp hi).1
  exact ⟨ys[i], List.getElem_mem hlt, h.2 i x _ hi (List.getElem?_eq_getElem hlt)⟩
/-- sorted(a list of pairs of ints) -/
theorem n_sortP {B : Hp} {L : Own} {K : PySem.W.Frag} {Q : VK} {a : Addr} {vs : List V} {cs : List (Int × Int)} (h : Sq K B L a vs) (hv : All2 (PairAt B) vs cs) (q : ∀ p ys, All2 (PairAt B) ys (sortP cs) → N B ((p, .lst ys) :: L) (Q (.ref p))) : N B L (fun H => rSortedPO K [.ref a] H Q) := by
  intro H s
  have hk := keyP_map hv
  have hx : ∀ x ∈ vs, PairAt B x (keyP B x) := fun x hx => by
    obtain ⟨y, _, r⟩ := all2_mem hv hx
    rw [keyP_eq r]; exact r
  refine ⟨a, vs, keyP B, rfl, h H s, fun x hm => ?_, fun ys p hs hb hp => ?_⟩
  · obtain ⟨t, e, ht⟩ := hx x hm
    exact ⟨t, e, s.ext _ _ ht⟩
  · refine q p ys ?_ _ (s.new hp)
    have e : ys.map (keyP B) = sortP cs := by
      refine sort_uniq leP_anti ?_ ?_ (sortP_srt cs)
      · refine (hb.perm.map _).trans ?_
        rw [hk]
        exact (sortP_perm cs).symm
      · refine List.pairwise_map.mpr (hs.imp fun {x y} hxy => ?_)
        have := SrtO.lexB_no.mp hxy
        exact decide_eq_true (by omega)
    rw [← e]
    exact all2_perm hx hb.perm
def sortI (ns : List Int) : List Int := ns.mergeSort (fun a b => decide (a ≤ b))
theorem sortI_perm (ns : List Int) : (sortI ns).Perm ns := List.mergeSort_perm ns _
theorem sortI_srt (ns : List Int) : (sortI ns).Pairwise (· ≤ ·) :=
  (List.pairwise_mergeSort (le := fun a b : Int => decide (a ≤ b)) (fun a b c h1 h2 => by
    have h1 := of_decide_eq_true h1
    have h2 := of_decide_eq_true h2
    exact decide_eq_true (by omega)) (fun a b => by
    rw [Bool.or_eq_true, decide_eq_true_eq, decide_eq_true_eq]
    omega) ns).imp fun h => of_decide_eq_true h
theorem sortI_uniq {ns ms : List Int} (p : ns.Perm ms) (h : ns.Pairwise (· ≤ ·)) : ns = sortI ms :=
  sort_uniq (le := fun a b : Int => decide (a ≤ b)) (fun a b h1 h2 => by
    have h1 := of_decide_eq_true h1
    have h2 := of_decide_eq_true h2
    omega) (p.trans (sortI_perm ms).symm) (h.imp fun h => decide_eq_true h) ((sortI_srt ms).imp fun h => decide_eq_true h)
theorem n_sortI {B : Hp} {L : Own} {K : PySem.W.Frag} {Q : VK} {a : Addr} {ns : List Int} (h : Sq K B L a (ns.map V.int)) (q : ∀ p, N B ((p, .lst ((sortI ns).map V.int)) :: L) (Q (.ref p))) : N B L (fun H => rSortedI K [.ref a] H Q) := fun H s =>
  ⟨a, ns, rfl, h H s, fun ns' p hp hs hn => by
    rw [sortI_uniq hp hs]
    exact q p _ (s.new hn)⟩
end Sk
/-! ### triples of ints, sorted -/
namespace SrtO3
open PySem PySem.Spec PyProof.Rows SrtO
abbrev I3 := Int × Int × Int
def lex3 (p q : I3) : Bool := if p.1 = q.1 then (if p.2.1 = q.2.1 then decide (p.2.2 < q.2.2) else decide (p.2.1 < q.2.1)) else decide (p.1 < q.1)
theorem lex3_iff {p q : I3} : lex3 p q = true ↔ p.1 < q.1 ∨ (p.1 = q.1 ∧ (p.2.1 < q.2.1 ∨ (p.2.1 = q.2.1 ∧ p.2.2 < q.2.2))) := by
  unfold lex3
  by_cases e : p.1 = q.1
  · rw [if_pos e]
    by_cases e2 : p.2.1 = q.2.1
    · rw [if_pos e2, decide_eq_true_eq]; omega
    · rw [if_neg e2, decide_eq_true_eq]; omega
  · rw [if_neg e, decide_eq_true_eq]; omega
theorem lex3_no {p q : I3} : lex3 p q = false ↔ ¬ (p.1 < q.1 ∨ (p.1 = q.1 ∧ (p.2.1 < q.2.1 ∨ (p.2.1 = q.2.1 ∧ p.2.2 < q.2.2)))) := by
  rw [← lex3_iff]
  cases lex3 p q <;> simp
theorem swo3 {α : Type} (k : α → I3) : Swo fun v u => lex3 (k v) (k u) := by
  refine ⟨fun x y h => ?_, fun x y z h1 h2 => ?_⟩
  · have a := lex3_iff.mp h
    refine lex3_no.mpr ?_
    omega
  · have a := lex3_no.mp h1
    have b := lex3_no.mp h2
    refine lex3_no.mpr ?_
    omega
def IsTri (h : Heap) (v : Value) (x y z : Int) : Prop := ∃ a o t u r n, v = .ref a ∧ h.get? a = some o ∧ o.cls = .type "tuple" ∧ o.data = .seq #[.int x t, .int y u, .int z r] n
theorem IsTri.keeps {h h' : Heap} {v : Value} {x y z : Int} (p : IsTri h v x y z) (k : ∀ b o, h.get? b = some o → o.cls = .type "tuple" → h'.get? b = some o) : IsTri h' v x y z := by
  obtain ⟨a, o, t, u, r, n, e, ho, hc, hd⟩ := p
  exact ⟨a, o, t, u, r, n, e, k _ _ ho hc, hc, hd⟩
theorem firsts3 {h : Heap} : ∀ {vs : List Value}, (∀ v ∈ vs, ∃ x y z, IsTri h v x y z) → ∃ fs : List Value, PySem.W.KatTups h vs fs ∧ fs.length = vs.length ∧ ∀ f ∈ fs, ∃ x t, f = Value.int x t
  | [], _ => ⟨[], PySem.W.KatTups.nil, rfl, fun _ hm => by simp at hm⟩
  | v :: vs, hp => by
    obtain ⟨fs, h1, h2, h3⟩ := firsts3 (vs := vs) fun v' hm => hp v' (List.mem_cons_of_mem _ hm)
    obtain ⟨x, y, z, a, o, t, u, r, n, e, ho, hc, hd⟩ := hp v (List.mem_cons_self ..)
    subst e
    refine ⟨.int x t :: fs, PySem.W.KatTups.cons ho hc hd rfl h1, by rw [List.length_cons, List.length_cons, h2], fun f hm => ?_⟩
    rcases List.mem_cons.mp hm with rfl | hm
    · exact ⟨x, t, rfl⟩
    · exact h3 f hm
section
variable {prog : Program} {w : World} {A : Around} {s : Shared} {E : Value → Shared → Prop}
theorem tri_cmp {vs : List Value} {k : Value → I3} (hp : ∀ v ∈ vs, IsTri s.heap v (k v).1 (k v).2.1 (k v).2.2) : SrtO.Cmp prog w A s (tuples' true) (fun p => p.1 ∈ vs) (lt2 fun v u => lex3 (k v) (k u)) := by
  intro p q hm hm'
  have h1 := hp _ hm
  have h2 := hp _ hm'
  show wpAny (model prog w) A (keyLt' (tuples' true) p.1 q.1) (fun r s' => s' = s ∧ r = lex3 (k p.1) (k q.1)) (fun _ _ => False) s
  unfold lex3
  generalize (k p.1).1 = x at h1 ⊢
  generalize (k p.1).2.1 = y at h1 ⊢
  generalize (k p.1).2.2 = z at h1 ⊢
  generalize (k q.1).1 = x' at h2 ⊢
  generalize (k q.1).2.1 = y' at h2 ⊢
  generalize (k q.1).2.2 = z' at h2 ⊢
  obtain ⟨a, o, t, u, r, n, e, ho, hc, hd⟩ := h1
  obtain ⟨a', o', t', u', r', n', e', ho', hc', hd'⟩ := h2
  rw [e, e']
  refine PySem.W.kat_lt ho hd ho' hd' ?_
  show PySem.W.KatLex prog w A true (decide (3 < 3)) _ [(.int x t, .int x' t'), (.int y u, .int y' u'), (.int z r, .int z' r')] 0 s
  refine PySem.W.kat_cons (SeqAt.EqAt.int_int x t x' t' prog w _ _ ?_)
  refine PySem.W.kat_go (fun e1 => ?_) (fun e1 => ?_)
  · have ex : x = x' := by simpa using e1
    rw [if_pos ex]
    refine PySem.W.kat_yes (PySem.W.kat_cons (SeqAt.EqAt.int_int y u y' u' prog w _ _ ?_))
    refine PySem.W.kat_go (fun e2 => ?_) (fun e2 => ?_)
    · have ey : y = y' := by simpa using e2
      rw [if_pos ey]
      refine PySem.W.kat_yes (PySem.W.kat_cons (SeqAt.EqAt.int_int z r z' r' prog w _ _ ?_))
      refine PySem.W.kat_go (fun e4 => ?_) (fun e4 => ?_)
      · have ez : z = z' := by simpa using e4
        have e3 : decide (z < z') = false := by
          rw [ez]
          exact decide_eq_false (Int.lt_irrefl _)
        exact PySem.W.kat_yes (PySem.W.kat_nil ⟨rfl, e3.symm⟩)
      · refine PySem.W.kat_no (PySem.W.kat_one _ _ (PyProof.Rows.lt_int ?_))
        exact (show s = s ∧ decide (z < z') = decide (z < z') from ⟨rfl, rfl⟩)
    · have ey : ¬ y = y' := by simpa using e2
      rw [if_neg ey]
      refine PySem.W.kat_no (PySem.W.kat_one _ _ (PyProof.Rows.lt_int ?_))
      exact (show s = s ∧ decide (y < y') = decide (y < y') from ⟨rfl, rfl⟩)
  · have ex : ¬ x = x' := by simpa using e1
    rw [if_neg ex]
    exact PySem.W.kat_no (oneLt_int ⟨rfl, rfl⟩)
theorem tri_sortable {a : Addr} {vs : List Value} {k : Value → I3} (h0 : 0 < vs.length) (hp : ∀ v ∈ vs, IsTri s.heap v (k v).1 (k v).2.1 (k v).2.2) (ha : ∀ o, s.heap.get? a = some o → o.cls ≠ .type "tuple") : SortableO prog w A s a vs fun v u => lex3 (k v) (k u) := by
  intro h' keep
  have hp' : ∀ v ∈ vs, IsTri h' v (k v).1 (k v).2.1 (k v).2.2 := fun v hm => (hp v hm).keeps fun b o e c => keep b o (fun z => by subst z; exact ha o e c) e
  obtain ⟨fs, h1, h2, h3⟩ := firsts3 fun v hm => ⟨_, _, _, hp' v hm⟩
  refine ⟨tuples' true, fun Q E hq => ?_, tri_cmp hp'⟩
  refine PySem.W.kat_kind (T := .type "int") h1 (by omega) (fun f hm => ?_) (by rfl) ?_
  · obtain ⟨x, t, rfl⟩ := h3 f hm
    exact PySem.W.Looks.now
  · have e : (Value.type "int" != Value.type "tuple") = true := by first | decide +kernel | rfl | decide
    rw [e]
    exact hq
theorem sorted_tri {l : Addr} {vs : List Value} {k : Value → I3} {Q : Value → Shared → Prop} (hl : s.heap.IsList l vs.toArray) (hz : vs.length ≤ sizeLine) (hp : ∀ v ∈ vs, IsTri s.heap v (k v).1 (k v).2.1 (k v).2.2)
    (h : ∀ (h' : Heap) (d : Addr) (out : List Value), Srtd (fun v u => lex3 (k v) (k u)) out → Stb (fun v u => lex3 (k v) (k u)) out vs → (∀ b o, s.heap.get? b = some o → h'.get? b = some o) → s.heap.objs.size ≤ d → (∃ n, h'.get? d = some (seqObj "list" out.toArray n)) → Q (.ref d) { s with heap := h' }) :
    wpAny (model prog w) A (call (.builtin "sorted") [.ref l]) Q E s := by
  refine sorted_ord (swo3 k) hl hz (fun h2 h₁ a ha kk => ?_) fun out hs hb => ?_
  · refine tri_sortable (s := { s with heap := h₁ }) (by omega) (fun v hm => (hp v hm).keeps fun b o e _ => (kk b o e).2) fun o e => ?_
    have e' : some o = some (seqObj "list" vs.toArray 0) := e.symm.trans ha
    cases e'
    intro c
    exact absurd (Value.type.inj c) (by decide)
  · exact h _ _ out hs hb (fun b o e => sortedAll_old e) (Nat.le_succ _) (sortedAll_at s.heap vs out.toArray)
end
end SrtO3
namespace Sk
open PySem PySem.Spec PyProof.Rows L2
abbrev I3 := SrtO3.I3
def rSorted3 (K : PySem.W.Frag) : List V → Hp → VK → Prop := fun vs H Q => ∃ (a : Addr) (xs : List V) (k : V → I3), vs = [V.ref a] ∧ SqL K H a xs ∧ (∀ x ∈ xs, ∃ t, x = V.ref t ∧ H t = some (.tup [.int (k x).1, .int (k x).2.1, .int (k x).2.2])) ∧
  ∀ ys p, SrtO.Srtd (fun x y => SrtO3.lex3 (k x) (k y)) ys → SrtO.Stb (fun x y => SrtO3.lex3 (k x) (k y)) ys xs → H p = none → Q (.ref p) (upd H p (.lst ys))
theorem vals3' {x y z : V} {us : List Value} (r : Vals [x, y, z] us) : ∃ u w' t', us = [u, w', t'] ∧ RelV x u ∧ RelV y w' ∧ RelV z t' := by
  cases r with
  | cons a r =>
    cases r with
    | cons b r =>
      cases r with
      | cons c r =>
        cases r
        exact ⟨_, _, _, rfl, a, b, c⟩
theorem cr_sorted3 {X : Cx} : CallR X (.builtin "sorted") (rSorted3 X.K) := by
  intro pins s σ H vs us Q I r h
  obtain ⟨a, xs, k, rfl, hs, hx, q⟩ := h
  obtain ⟨its, rv, hl, hz⟩ := I.list hs
  obtain ⟨u, rfl, ru⟩ := vals1 r
  obtain rfl : u = Value.ref a := ru
  obtain ⟨e1, e2⟩ := refs_back rv fun x m => by
    obtain ⟨t, e, _⟩ := hx x m
    exact ⟨t, e⟩
  refine SrtO3.sorted_tri (k := fun u => k (backV u)) hl.isList (by rw [← rv.length]; exact hz) (fun v hv => ?_) fun h' d out h1 h2 kp hd hn => ?_
  · obtain ⟨t, rfl⟩ := e2 v hv
    have hm : V.ref t ∈ xs := by rw [e1]; exact List.mem_map.mpr ⟨_, hv, rfl⟩
    obtain ⟨t', e, ht⟩ := hx _ hm
    cases e
    obtain ⟨_, its2, r2, o, ho, hc, n, hd⟩ := I.hok _ _ ht
    obtain ⟨u1, u2, u3, rfl, ri, rj, rk⟩ := vals3' r2
    obtain ⟨t1, rfl⟩ := ri
    obtain ⟨t2, rfl⟩ := rj
    obtain ⟨t3, rfl⟩ := rk
    exact ⟨t, o, t1, t2, t3, n, rfl, ho, hc, hd⟩
  · have h3 : ∀ u ∈ out, ∃ a, u = Value.ref a := fun u hu => e2 u (h2.perm.mem_iff.mp hu)
    obtain ⟨n, hn⟩ := hn
    have hb : SrtO.Stb (fun x y => SrtO3.lex3 (k x) (k y)) (out.map backV) xs := by
      rw [e1]
      exact SrtO.Stb.map (SrtO3.swo3 k) backV h2
    refine ⟨.ref d, upd H d (.lst (out.map backV)), I.laid (t' := s.toks) kp hd ⟨?_, out, n, vals_back h3, hn⟩, rfl, q _ d (SrtO.srtd_map h1) hb (I.hok.fresh hd)⟩
    rw [List.length_map, h2.perm.length_eq, ← rv.length]
    exact hz
def TriAt (B : Hp) (v : V) (t : I3) : Prop := ∃ p, v = .ref p ∧ B p = some (.tup [.int t.1, .int t.2.1, .int t.2.2])
theorem TriAt.mono {B B' : Hp} {v : V} {t : I3} (h : TriAt B v t) (s : Same B B') : TriAt B' v t := by
  obtain ⟨p, e, h⟩ := h
  exact ⟨p, e, s _ _ h⟩
theorem TriAt.inj {B : Hp} {v : V} {s t : I3} (h : TriAt B v s) (h' : TriAt B v t) : s = t := by
  obtain ⟨p, rfl, h⟩ := h
  obtain ⟨q, e, h'⟩ := h'
  cases e
  rw [h] at h'
  have e2 := Option.some.inj h'
  injection e2 with e3
  have e4 := (List.cons.inj e3).1
  have e5 := (List.cons.inj (List.cons.inj e3).2).1
  have e6 := (List.cons.inj (List.cons.inj (List.cons.inj e3).2).2).1
  exact Prod.ext (V.int.inj e4) (Prod.ext (V.int.inj e5) (V.int.inj e6))
open Classical in
noncomputable def key3 (B : Hp) (v : V) : I3 := if h : ∃ t, TriAt B v t then h.choose else (0, 0, 0)
theorem key3_eq {B : Hp} {v : V} {t : I3} (h : TriAt B v t) : key3 B v = t := by
  unfold key3
  rw [dif_pos ⟨t, h⟩]
  exact (⟨t, h⟩ : ∃ t, TriAt B v t).choose_spec.inj h
theorem key3_map {B : Hp} : ∀ {vs : List V} {cs : List I3}, All2 (TriAt B) vs cs → vs.map (key3 B) = cs
  | [], [], _ => rfl
  | [], c :: cs, h => by have := h.1; simp at this
  | v :: vs, [], h => by have := h.1; simp at this
  | v :: vs, c :: cs, h => by
    rw [List.map_cons, key3_eq (h.2 0 v c rfl rfl), key3_map (vs := vs) (cs := cs) ⟨Nat.succ.inj h.1, fun i x y a b => h.2 (i + 1) x y a b⟩]
/-- sorted(a list of triples of ints): some order of them, rising -/
theorem n_sort3 {B : Hp} {L : Own} {K : PySem.W.Frag} {Q : VK} {a : Addr} {vs : List V} {cs : List I3} (h : Sq K B L a vs) (hv : All2 (TriAt B) vs cs)
    (q : ∀ p ys ds, All2 (TriAt B) ys ds → ds.Perm cs → ds.Pairwise (fun x y => SrtO3.lex3 y x = false) → N B ((p, .lst ys) :: L) (Q (.ref p))) : N B L (fun H => rSorted3 K [.ref a] H Q) := by
  intro H s
  have hk := key3_map hv
  have hx : ∀ x ∈ vs, TriAt B x (key3 B x) := fun x hx => by
    obtain ⟨y, _, r⟩ := all2_mem hv hx
    rw [key3_eq r]; exact r
  refine ⟨a, vs, key3 B, rfl, h H s, fun x hm => ?_, fun ys p hs hb hp => ?_⟩
  · obtain ⟨t, e, ht⟩ := hx x hm
    exact ⟨t, e, s.ext _ _ ht⟩
  · exact q p ys (ys.map (key3 B)) (all2_perm hx hb.perm) (by rw [← hk]; exact hb.perm.map _) (List.pairwise_map.mpr hs) _ (s.new hp)
end Sk
namespace Sk
open PySem PySem.Spec PyProof.Rows L2
section
variable {B : Hp} {L : Own} {K : PySem.W.Frag} {a : Addr} {σ : St} {Q : VK} {te : TE} {vs' : List Nat} {m n : Nat}
/-- [e for x, y in pairs], nothing else changed -/
theorem n_lcPairs {vs : List V} {cs : List (Int × Int)} (f : Int × Int → V) (hv : All2 (PairAt B) vs cs) (hb : cs.length ≤ 100000) (hq : Sq K B L a vs) (hw : ∀ x y, wipe (((wipe σ vs').set n x).set m y) vs' = wipe σ vs')
    (he : ∀ c ∈ cs, ∀ D acc (Q' : VK), N B ((D, .lst acc) :: L) (Q' (f c)) → N B ((D, .lst acc) :: L) (fun H => te (((wipe σ vs').set n (some (.int c.1))).set m (some (.int c.2))) H Q'))
    (hd : ∀ D, N B ((D, .lst (cs.map f)) :: L) (Q (.ref D))) : N B L (fun H => IL K (Lc (gTup K 2 (gCons (gName n) (gCons (gName m) gNil))) tYes te vs' σ Q) (.ref a) H) := by
  have hl := hv.len
  refine n_lcL (xs := vs) (fun i acc L' => acc = (cs.take i).map f ∧ L' = L) (fun i acc L' _ p => by rw [p.2]; exact hq) ⟨rfl, rfl⟩ ?_ ?_
  · rintro i acc L' D hi ⟨rfl, rfl⟩
    have hi2 : i < cs.length := by omega
    obtain ⟨v, e, pp, rfl, hp⟩ := hv.at hi2
    rw [List.getElem?_eq_getElem hi] at e
    rw [Option.some.inj e]
    refine n_gTup (tp_old (SqT.of hp)) rfl ?_
    refine n_gCons (n_gCons (n_gNil ?_))
    refine n_wiped (hw _ _) ?_
    refine n_yes ?_
    refine n_iteT ?_
    refine he _ (List.getElem_mem hi2) D _ _ ?_
    refine n_put [] rfl (by rw [List.length_map, List.length_take, sizeLine_eq]; omega) ⟨?_, rfl⟩ (.refl _)
    rw [take_step hi2, List.map_append]; rfl
  · rintro acc L' D ⟨rfl, rfl⟩
    rw [hl, List.take_length]
    exact hd D
end
theorem All2.set {α β : Type} {R : α → β → Prop} {xs : List α} {ys : List β} {i : Nat} {x : α} {y : β} (h : All2 R xs ys) (r : R x y) : All2 R (xs.set i x) (ys.set i y) := by
  refine ⟨by rw [List.length_set, List.length_set, h.1], fun j a b e1 e2 => ?_⟩
  rw [List.getElem?_set] at e1 e2
  rw [← h.1] at e2
  split at e1
  · rename_i hij
    rw [if_pos hij] at e2
    split at e1
    · rename_i hlt
      rw [if_pos hlt] at e2
      cases e1; cases e2
      exact r
    · cases e1
  · rename_i hij
    rw [if_neg hij] at e2
    exact h.2 j a b e1 e2
theorem getD_lt {α : Type} {xs : List α} {d : α} {i : Nat} (h : i < xs.length) : xs.getD i d = xs[i] := by
  rw [List.getD_eq_getElem?_getD, List.getElem?_eq_getElem h]; rfl
end Sk
namespace Sk
open PySem PySem.Spec PyProof.Rows L2
/-! ### calls of a local that is one of several defs -/
structure Alt (X : Cx) (k : Nat) (E : St → XK) (p : Addr × Sp) : Prop where
  ex : ∃ (CX : CXT) (k' : Nat) (fd : FuncData) (ps : List Str), k' ≤ k ∧ FnOk X.prog X.w X.K X.mg X.base CX k' p.1 fd ps p.2 ∧ PySem.W.keepIn X.K (.ref p.1) = true ∧ Binds X.K fd ps [] ∧ ∀ σ, PassesAt CX X σ (E σ)
theorem OkC.alt {X : Cx} {CX : CXT} {k k' : Nat} {x : Str} {ps : List Str} {sp : Sp} {E : St → XK} {f0 : Addr} (O : OkC X.prog X.w X.K X.mg X.base CX k' x ps sp) (hm : X.mg x = some (.ref f0)) (hk : k' ≤ k) (hx : ∀ σ, PassesAt CX X σ (E σ)) : Alt X k E (f0, sp) := by
  obtain ⟨f, fd, F, g, kp, b⟩ := O.ex
  rw [hm] at g
  cases g
  exact ⟨⟨CX, k', fd, ps, hk, F, kp, b, hx⟩⟩
theorem altN {X : Cx} {k : Nat} {E : St → XK} : ∀ p ∈ ([] : List (Addr × Sp)), Alt X k E p := fun p h => nomatch h
theorem altC {X : Cx} {k : Nat} {E : St → XK} {p : Addr × Sp} {S : List (Addr × Sp)} (h : Alt X k E p) (hs : ∀ p ∈ S, Alt X k E p) : ∀ q ∈ p :: S, Alt X k E q := fun q hq => by
  rcases List.mem_cons.mp hq with rfl | hq
  · exact h
  · exact hs q hq
def tClV (i : Nat) (S : List (Addr × Sp)) (E : St → XK) (t : TA) : TE := fun σ H Q => ∃ p ∈ S, σ[i]? = some (some (.ref p.1)) ∧ t σ H fun vs H1 => p.2 vs H1 Q (E σ)
theorem pe_clV {X : Cx} {k i : Nat} {S : List (Addr × Sp)} {E : St → XK} {x : Str} {p pos : Pos} {e : Expr} {es : List Expr} {t : TA} (A : ∀ q ∈ S, Alt X k E q) (hr : Room k X.A) (hN : X.N[i]? = some x) (hv : Vis X.env.scope x) (ha : PA X (e :: es) t)
    (hdb : (x == ("__debug__" : Str)) = false := by decide) (hcd : (x == ("__classdict__" : Str)) = false := by decide)
    (he : starEach (e :: es) X.env = (false, eval e X.env) :: starEach es X.env := by rfl) (hpl : (backTo pos (starEach es X.env)).any (·.1) = false := by rfl) : PE X (.Call (.Name x p) (e :: es) [] pos) (tClV i S E t) := by
  refine ⟨fun pins s σ H Q I h => ?_⟩
  obtain ⟨⟨f, sp⟩, hp, hs, ht⟩ := h
  obtain ⟨CX, k', fd, ps, hk, F, kp, b, hx⟩ := (A _ hp).ex
  refine wpAny_Call_Name_kw (thn ((pe_var (pos := p) hN hv hdb hcd).run pins s σ H (fun v H1 => v = .ref f ∧ H1 = H) I ⟨.ref f, hs, rfl, rfl⟩) fun u s1 ⟨v, H1, I1, r1, q1⟩ => ?_)
  obtain ⟨rfl, rfl⟩ := q1
  cases r1
  refine PySem.W.callWith_K (h₀ := X.base) I.ok.mod.kin kp (thn (ha.run pos pins s1 σ _ _ I1 ht) fun us s2 ⟨vs, H2, I2, r, q⟩ => ⟨I2.kIn, ?_⟩) he hpl
  exact run_fnS F (hr.mono hk) b (hx σ) I2 r q
theorem n_clV {B : Hp} {L : Own} {i : Nat} {S : List (Addr × Sp)} {E : St → XK} {t : TA} {σ : St} {Q : VK} {f : Addr} {sp : Sp} (hp : (f, sp) ∈ S) (hs : σ[i]? = some (some (.ref f))) (q : N B L (fun H => t σ H fun vs H1 => sp vs H1 Q (E σ))) : N B L (fun H => tClV i S E t σ H Q) := fun H s => ⟨(f, sp), hp, hs, q H s⟩
/-- a named block of a reading -/
class Unf (t : TS) (t' : outParam TS) : Prop where
  eq : t = t'
theorem n_unf {B : Hp} {L : Own} {t t' : TS} [h : Unf t t'] {D : Ends} {σ : L2.St} (q : N B L (fun H => t' D σ H)) : N B L (fun H => t D σ H) := by
  rw [h.eq]; exact q
def rSortedDI : List V → Hp → VK → Prop := fun xs H Q => ∃ (a : Addr) (kvs : List (Key × V)) (ks : List Int), xs = [.ref a] ∧ Rd H a (.dK kvs) ∧ kvs.map (·.1) = ks.map Sum.inl ∧ ks.length < 64 ∧
    ∀ (ys : List Int) (p : Addr), ys.Perm ks → ys.Pairwise (· ≤ ·) → H p = none → Q (.ref p) (upd H p (.lst (ys.map V.int)))
theorem cr_sortedDI {X : Cx} (hc : X.calm = true) : CallR X (.builtin "sorted") rSortedDI := call_sortedDI hc
theorem n_sortDI {B : Hp} {L : Own} {Q : VK} {a : Addr} {ms : List (Int × V)} (h : Is B L a (.dK (dI ms))) (hl : ms.length < 64) (q : ∀ p, N B ((p, .lst ((sortI (ms.map (·.1))).map V.int)) :: L) (Q (.ref p))) : N B L (fun H => rSortedDI [.ref a] H Q) := fun H s =>
  ⟨a, _, ms.map (·.1), rfl, .inl (h H s), by rw [List.map_map, List.map_map]; rfl, by rw [List.length_map]; exact hl, fun ys p hp hs hn => by
    rw [sortI_uniq hp hs]
    exact q p _ (s.new hn)⟩
theorem n_dg2D {B : Hp} {L : Own} {Q : VK} {d : Addr} {ms : List (Int × V)} {i : Int} {z : V} (h : Is B L d (.dK (dI ms))) (q : N B L (Q ((getI ms i).getD z))) : N B L (fun H => Dg2b d Q (.int i) z H) := n_dg2I h (by rw [valV_dI]; exact q)
/-- many new objects that are changed no more -/
theorem n_freezeMap {α : Type} {L : Own} {k : Hp → Prop} (g : α → Addr) (o : α → HO) : ∀ (cs : List α) {B : Hp} (_ : ∀ B', Same B B' → (∀ c ∈ cs, B' (g c) = some (o c)) → N B' L k), N B (cs.map (fun c => (g c, o c)) ++ L) k
  | [], B, q => q B (Same.refl _) fun c h => nomatch h
  | c :: cs, B, q => by
    refine n_freeze 0 rfl fun B1 sm1 h1 => ?_
    refine n_freezeMap g o cs fun B2 sm2 h2 => q B2 (sm1.trans sm2) fun d hd => ?_
    rcases List.mem_cons.mp hd with rfl | hd
    · exact sm2 _ _ h1
    · exact h2 d hd
end Sk
/-! ### set(list of ints) -/
namespace SetL
open PySem PySem.Spec PyProof.Rows L2
section
variable {P : Program} {w : World} {A : Around} {E : Value → Shared → Prop} {s : Shared}
abbrev newSet (w : World) : Obj := { cls := .type "set", dict := none, data := .set #[] 0 (.fresh 0 0 (!w.params.followText "set-order")) }
set_option maxRecDepth 100000 in
set_option maxHeartbeats 3200000 in
theorem set_of_list {l : Addr} {xs : Array Value} (ns : List Int) {Q : Value → Shared → Prop} (calm : A.handled = none) (isl : s.heap.IsList l xs) (hin : IntsAre xs.toList ns) (few : ns.length + 1 < scanBound)
    (q : ∀ (h2 : Heap) (tk c : Nat), SetR w h2 s.heap.objs.size (fun j => decide (j ∈ ns)) c → c ≤ ns.length → (∀ b o, s.heap.get? b = some o → h2.get? b = some o) → Q (.ref s.heap.objs.size) { s with heap := h2, toks := tk }) :
    wpAny (model P w) A (call (.type "set") [.ref l]) Q E s := by
  have sz : xs.size = ns.length := by have z := IntsAre.length hin; rw [Array.length_toList] at z; exact z
  obtain ⟨_, _, hmro⟩ := F.called_set.mro
  have hmade := F.called_set.made
  have hsub := F.called_set.sub
  refine wpAny_call (codeAny_of_tree ?_)
  show wpAny _ _ (callAny (.type "set") _) _ _ _
  refine wpAny_pure ⟨Code.quiet_builtin _ (by decide +kernel), codeAny_builtin F.entry_type_call ?_⟩
  rw [Around.under_plain (weight_type_call_type "set" [.ref l] []) rfl]
  have h1 := F.called_set.notType
  have h2 := F.called_set.canCreate
  have h3 := F.typeCall_set_1 (.ref l)
  repeat (any_goals first | assumption | wp_step)
  refine codeAny_mono (code_set_led1 (.ref l) (E := E) (Q₁ := fun v t => v = .ref s.heap.objs.size ∧ t = { s with heap := s.heap.push (newSet w) }) ⟨rfl, rfl⟩) fun r t hr => ?_
  match r, hr with
  | .error _, hr => exact hr
  | .ok .next, hr => exact hr.elim
  | .ok .brk, hr => exact hr.elim
  | .ok .cont, hr => exact hr.elim
  | .ok (.ret v), hr =>
  obtain ⟨rfl, rfl⟩ := hr
  have at0 : (s.heap.push (newSet w)).get? s.heap.objs.size = some (newSet w) := Heap.get?_push_size _ rfl
  have ty0 : Shared.TypeIs { s with heap := s.heap.push (newSet w) } (.ref s.heap.objs.size) "set" := ⟨_, at0, rfl⟩
  have hli := F.called_set.init.lookup
  have hbi := F.called_set.init.bind (.ref s.heap.objs.size)
  repeat (any_goals first | assumption | wp_step)
  refine codeAny_mono (codeAny_call_builtin (R := wants (fun v t => v = .none ∧ ∃ g tk c, t = { s with heap := g, toks := tk } ∧ SetR w g s.heap.objs.size (fun j => decide (j ∈ ns)) c ∧ c ≤ ns.length ∧ (∀ b o, s.heap.get? b = some o → g.get? b = some o)) E)
    F.called_set.init.plain F.entry_set_init (check_set_init_1 ty0 ?_)) fun r t hr => ?_
  · obtain ⟨⟨oc, od, dt, sl⟩, hol, hoc, nl, hdt⟩ := isl
    simp only at hoc hdt
    subst hoc hdt
    have hol1 : (s.heap.push (newSet w)).get? l = some { cls := .type "list", dict := od, data := .seq xs nl, slots := sl } := Heap.get?_push_of_some _ hol
    have e1 := F.sub_list_set
    have e2 := F.sub_list_frozenset
    have e3 : (Value.type "list" == Value.type "dict") = false := by decide
    have isl1 : (s.heap.push (newSet w)).IsList l xs := ⟨_, hol1, rfl, nl, rfl⟩
    unfold Builtin.«set.__init__» noKeywords Builtin.Frozenset.updateFrom
    generalize eI : pyIter = PI
    wp_walk
    subst eI
    refine wpAny_pyIter_list isl1 (wpAny_bind (wpAny_runValue ?_))
    have llt : l < s.heap.objs.size := Heap.lt_size hol
    have sz1 : (s.heap.push (newSet w)).objs.size = s.heap.objs.size + 1 := Heap.size_push ..
    have ne1 : l ≠ (s.heap.push (newSet w)).objs.size := by rw [sz1]; exact Nat.ne_of_lt (Nat.lt_succ_of_lt llt)
    have nin : s.heap.objs.size ∉ [(s.heap.push (newSet w)).objs.size, l] := by
      rw [sz1]
      intro hm
      rcases List.mem_cons.mp hm with e | hm
      · exact absurd e (Nat.ne_of_lt (Nat.lt_succ_self _))
      · exact absurd (List.mem_singleton.mp hm) (Nat.ne_of_gt llt)
    have vals : ∀ (i : Nat) (v : Value), xs[i]? = some v → ∃ k t, ns[i]? = some k ∧ v = .int k t := fun i v hv => by
      have hi : i < ns.length := by rw [← sz]; exact (Array.getElem?_eq_some_iff.mp hv).1
      obtain ⟨t, e⟩ := IntsAre.int_at hin i v (by rw [Array.getElem?_toList]; exact hv)
      exact ⟨ns[i], t, List.getElem?_eq_getElem hi, by rw [e, List.getD_eq_getElem?_getD, List.getElem?_eq_getElem hi]; rfl⟩
    have at1 : ((s.heap.push (newSet w)).push { cls := .type "list_iterator", data := .fields #[.ref l, .int 0 0] }).get? s.heap.objs.size = some (newSet w) := Heap.get?_push_of_some _ at0
    refine set_update_ints ((Walks.list (by simp [calm]) _ l ne1 xs).toS) s.heap.objs.size nin ns sz few vals (xs.size - 0) 0 _ (by omega) (Nat.zero_le _) ⟨⟨_, Heap.get?_push_size _ rfl, rfl, rfl⟩, isl1.push _⟩ ⟨0, Nat.le_refl 0, setR_new_at at1⟩ ?_
    rintro ⟨g, g2, d2, tk2, os2⟩ c mv hc hR
    obtain rfl : g2 = s.gens := mv.gens
    obtain rfl : d2 = s.drawn := mv.drawn
    obtain rfl : os2 = s.os := mv.os
    show wpAny _ _ _ _ _ _
    refine wpAny_pure ?_
    show wpAny _ _ (ret Value.none) _ _ _
    refine wpAny_pure ⟨rfl, g, tk2, c, rfl, hR, by omega, fun b o e => ?_⟩
    have b0 : b < s.heap.objs.size := Heap.lt_size e
    refine mv.heap b o (fun hm => ?_) (Heap.get?_push_of_some _ (Heap.get?_push_of_some _ e))
    rcases List.mem_cons.mp hm with z | hm
    · exact absurd z (Nat.ne_of_lt b0)
    · have z := List.mem_singleton.mp hm
      rw [sz1] at z
      exact absurd z (Nat.ne_of_lt (Nat.lt_succ_of_lt b0))
  · match r, hr with
    | .error _, hr => exact hr
    | .ok .next, hr => exact hr.elim
    | .ok .brk, hr => exact hr.elim
    | .ok .cont, hr => exact hr.elim
    | .ok (.ret v), hr =>
    obtain ⟨rfl, g, tk, c, rfl, hR, hc, hk⟩ := hr
    repeat (any_goals first | assumption | wp_step)
    exact q _ _ _ hR hc hk
end
end SetL
namespace Sk
open PySem PySem.Spec PyProof.Rows L2
section
variable {B : Hp} {L : Own} {σ : St} {Q : VK} {g : TG} {tt : TT} {te : TE} {vs : List Nat} {i0 j : Int} {K : PySem.W.Frag} {w : World} {a : Addr} {ns : List Int} {i : Int}
theorem n_lcR2B (Pv : Nat → Hp → List V → Own → Prop) (hb : -(2 ^ 62) ≤ i0 ∧ i0 < 2 ^ 62 ∧ -(2 ^ 62) ≤ j ∧ j < 2 ^ 62) (h0 : Pv 0 B [] L)
    (hs : ∀ (n : Nat) B' acc L D, Same B B' → i0 + (n : Int) < j → Pv n B' acc L → N B' ((D, .lst acc) :: L) (fun H => g (.int (i0 + n)) (wipe σ vs) H fun σ2 H2 => wipe σ2 vs = wipe σ vs ∧ tt σ2 H2 fun b H3 =>
      if b = true then te σ2 H3 (PutB B' D (Pv (n + 1))) else NoPutB B' D (Pv (n + 1)) H3))
    (hd : ∀ B' acc L D, Same B B' → Pv (j - i0).toNat B' acc L → N B' ((D, .lst acc) :: L) (Q (.ref D))) : N B L (fun H => IR2 (Lc g tt te vs σ Q) [.int i0, .int j] H) := fun H s => ⟨i0, j, rfl, hb,
  n_lcRB (lo := i0) (n := (j - i0).toNat) Pv h0 (fun n B' acc L D sm hi p => hs n B' acc L D sm (by omega) p) hd H s⟩
/-- set(xs), and sorted(set(xs)) -/
def rSetLi (K : PySem.W.Frag) (w : World) : List V → Hp → VK → Prop := fun xs H Q => ∃ (a : Addr) (ns : List Int), xs = [.ref a] ∧ SqL K H a (ns.map V.int) ∧ ns.length ≤ 1000 ∧ ∀ p c, c ≤ ns.length → H p = none → Q (.ref p) (upd H p (SetO w p (fun j => decide (j ∈ ns)) c))
theorem cr_setLi {X : Cx} (hc : X.calm = true) : CallR X (.type "set") (rSetLi X.K X.w) := by
  intro pins s σ H xs us Q I r h
  obtain ⟨a, ns, rfl, hq, hl, q⟩ := h
  obtain ⟨u, rfl, ru⟩ := vals1 r
  obtain rfl : u = Value.ref a := ru
  obtain ⟨its, rv, pl, hz⟩ := I.list hq
  refine SetL.set_of_list ns (I.ok.hd hc) pl.isList (ints_of_vals rv) (by unfold scanBound; omega) fun h2 tk c R hcn k => ?_
  exact ⟨.ref _, upd H s.heap.objs.size (SetO X.w s.heap.objs.size (fun j => decide (j ∈ ns)) c), I.laid (t' := tk) (fun b u e => k b u e) (Nat.le_refl _) (setO_new R), rfl, q _ c hcn (I.hok.fresh (Nat.le_refl _))⟩
theorem cr_setLiW {X : Cx} {w : World} (h : w = X.w) (hc : X.calm = true) : CallR X (.type "set") (rSetLi X.K w) := by subst h; exact cr_setLi hc
theorem cr_sortedSetW {X : Cx} {w : World} (h : w = X.w) (hc : X.calm = true) : CallR X (.builtin "sorted") (rSortedSet w) := by subst h; exact cr_sortedSet hc
theorem n_setLi' (h : Sq K B L a (ns.map V.int)) (hl : ns.length ≤ 1000) (q : ∀ p c, c ≤ ns.length → N B ((p, SetO w p (fun j => decide (j ∈ ns)) c) :: L) (Q (.ref p))) : N B L (fun H => rSetLi K w [.ref a] H Q) := fun H s =>
  ⟨a, ns, rfl, h H s, hl, fun p c hc hp => q p c hc _ (s.new hp)⟩
theorem n_sortSet {S : Int → Bool} {c : Nat} (h : Is B L a (SetO w a S c)) (hc : c < 64) (q : ∀ p (ks : List Int), ks.Pairwise (· < ·) → (∀ k : Int, k ∈ ks ↔ S k = true) → N B ((p, .lst (ks.map V.int)) :: L) (Q (.ref p))) : N B L (fun H => rSortedSet w [.ref a] H Q) := fun H s =>
  ⟨a, S, c, rfl, h H s, hc, fun ks p h1 h2 _ hp => q p ks h1 h2 _ (s.new hp)⟩
theorem n_count (h : Sq K B L a (ns.map V.int)) (q : N B L (Q (.int (ns.count i : Nat)))) : N B L (fun H => rCntI K (.ref a) [.int i] H Q) := fun H s => ⟨a, ns, i, rfl, rfl, h H s, q H s⟩
end
end Sk
namespace Sk
open PySem PySem.Spec PyProof.Rows L2
section
variable {K : PySem.W.Frag} {B : Hp} {L : Own} {a : Addr} {ns : List Int} {i : Int} {Q : VK}
theorem inV_ints (ns : List Int) (i : Int) : inV (.int i) (ns.map V.int) = decide (i ∈ ns) := by
  rw [Bool.eq_iff_iff, decide_eq_true_iff]
  simp [inV, eqV]
theorem n_inLi (hs : Sq K B L a (ns.map V.int)) (q : N B L (Q (.bl (decide (i ∈ ns))))) : N B L (fun H => rIn K false (.int i) (.ref a) H Q) := fun H s =>
  ⟨a, ns.map V.int, rfl, .inl (hs H s), rfl, by rw [List.all_map]; exact List.all_eq_true.mpr fun x _ => rfl, by rw [if_neg (by decide), inV_ints]; exact q H s⟩
theorem n_niLi (hs : Sq K B L a (ns.map V.int)) (q : N B L (Q (.bl (!decide (i ∈ ns))))) : N B L (fun H => rIn K true (.int i) (.ref a) H Q) := fun H s =>
  ⟨a, ns.map V.int, rfl, .inl (hs H s), rfl, by rw [List.all_map]; exact List.all_eq_true.mpr fun x _ => rfl, by rw [if_pos rfl, inV_ints]; exact q H s⟩
theorem n_inTi (hs : Tp K B L a (ns.map V.int)) (q : N B L (Q (.bl (decide (i ∈ ns))))) : N B L (fun H => rIn K false (.int i) (.ref a) H Q) := fun H s =>
  ⟨a, ns.map V.int, rfl, .inr (hs H s), rfl, by rw [List.all_map]; exact List.all_eq_true.mpr fun x _ => rfl, by rw [if_neg (by decide), inV_ints]; exact q H s⟩
theorem n_niTi (hs : Tp K B L a (ns.map V.int)) (q : N B L (Q (.bl (!decide (i ∈ ns))))) : N B L (fun H => rIn K true (.int i) (.ref a) H Q) := fun H s =>
  ⟨a, ns.map V.int, rfl, .inr (hs H s), rfl, by rw [List.all_map]; exact List.all_eq_true.mpr fun x _ => rfl, by rw [if_pos rfl, inV_ints]; exact q H s⟩
end
end Sk
/-! ### try .. except (A, B, C): suite that raises -/
namespace TryT
open PySem PySem.Spec PyProof.Rows L2 L2H HotX
theorem takesN_of {X : Cx} {W : WX} (t : L2.Takes X W) : L2N.Takes X W := fun u s' ⟨a, B, sI, pn, σ, H, cls, d, e, J, nb, up, sky, r⟩ =>
  t u s' ⟨a, B, sI, pn, σ, H, cls, d, e, J, nb, up, by
    rcases sky with ⟨h1, h2, h3, oe, vs, he, hz, r⟩ | h | h
    · exact .inl ⟨h1, h2, h3, oe, vs, he, hz.zc, r⟩
    · exact .inr (.inl (flyingZ_imp (fun o z => z.zc) h))
    · exact .inr (.inr ⟨h.1, h.2.1, h.2.2.1, tracedZ_imp (fun o z => z.zc) h.2.2.2⟩), r⟩
theorem flying_on {B h g : Heap} {l : List Env} {a : Addr} {Z : Obj → Prop} (x : HandSPX.FlyingZ B l a Z h) (k : ∀ b o, h.get? b = some o → g.get? b = some o) : HandSPX.FlyingZ B l a Z g := by
  obtain ⟨st, ne, ff, oe, vs, T, oT, ts, q1, q2, q3, q4, q5, q6, q7, q8, q9⟩ := x
  exact ⟨fun b o e => k b o (st b o e), ne, ff.of_keeps fun b o e _ => ⟨o, k b o e, rfl⟩, oe, vs, T, oT, ts, k _ _ q1, q2, q3, q4, q5, q6, k _ _ q7, q8, q9⟩
/-- a clause's test: of an exception of class cls it answers b -/
def ClT (X : Cx) (te : Expr) (xm : Value → Bool → Prop) : Prop :=
  ∀ (a : Addr) (oe : Obj) (pn pins : List (Addr × Obj)) (σ : L2.St) (H : Hp) (s : Shared) (cls : Value) (b : Bool) (Q : Bool → Shared → Prop) (E : Value → Shared → Prop), Inv (X.suite a ((a, oe) :: pn)) pins σ H s → s.heap.get? a = some oe → oe.cls = cls → xm cls b →
    (∀ g, (∀ q o, s.heap.get? q = some o → g.get? q = some o) → Q b { s with heap := g }) → wpAny (model X.prog X.w) (X.A.mark (some (.ref a))) (eval te X.env) (fun c s1 => wpAny (model X.prog X.w) (X.A.mark (some (.ref a))) (excMatches (.ref a) c) Q E s1) E s
theorem looks_cls {X : Cx} {s : Shared} {a : Addr} {oe : Obj} {cls : Value} (e : s.heap.get? a = some oe) (c : oe.cls = cls) : PySem.W.Looks (model X.prog X.w) s.heap (typeOf (.ref a)) cls := fun A Q E s' k q => wpAny_typeOf_ref (k _ _ e) (by rw [c]; exact q)
theorem read_name {X : Cx} {x : Str} {c : Value} {np : Pos} {a : Addr} {oe : Obj} {pn pins : List (Addr × Obj)} {σ : L2.St} {H : Hp} {s : Shared} {Q : Value → Shared → Prop} {E : Value → Shared → Prop} (hc : Names X x c) (J : Inv (X.suite a ((a, oe) :: pn)) pins σ H s) (q : Q c s) :
    wpAny (model X.prog X.w) (X.A.mark (some (.ref a))) (eval (.Name x np) X.env) Q E s := by
  obtain ⟨hg, hd, hm | ⟨hm, hv, hn⟩⟩ := hc
  · exact ld_glob (X := X.suite a ((a, oe) :: pn)) J hg hm q hd
  · exact ld_blt (X := X.suite a ((a, oe) :: pn)) J hg hm hv q hn hd
theorem clt_name {X : Cx} {x : Str} {c : Value} {np : Pos} (hc : Names X x c) : ClT X (.Name x np) (fun cls b => PySem.W.exmOne X.K cls c = some b) := fun a oe pn pins σ H s cls b Q E J he hcl hx q =>
  read_name hc J ((PySem.W.exm_one (M := model X.prog X.w) J.kIn (looks_cls he hcl) hx).here (q s.heap fun _ _ z => z))
theorem clt_tup3 {X : Cx} {x1 x2 x3 : Str} {c1 c2 c3 : Value} {p1 p2 p3 tp : Pos} {kk : Nat} (n1 : Names X x1 c1) (n2 : Names X x2 c2) (n3 : Names X x3 c3) :
    ClT X (.Tuple [.Name x1 p1, .Name x2 p2, .Name x3 p3] kk tp) (fun cls b => PySem.W.exmAny X.K cls [c1, c2, c3] = some b) := fun a oe pn pins σ H s cls b Q E J he hcl hx q => by
  have kp : ∀ q o, s.heap.get? q = some o → (s.heap.push { cls := .type "tuple", data := .seq [c1, c2, c3].toArray }).get? q = some o := fun _ _ z => Heap.get?_push_of_some _ z
  refine wpAny_Tuple (wpAny_items_cons (read_name n1 J (wpAny_items_cons (read_name n2 J (wpAny_items_cons (read_name n3 J (wpAny_items_nil ⟨by size_fits, ?_⟩)))))))
  exact (PySem.W.exm_tup3 (M := model X.prog X.w) (J.kIn.keeps kp) ((looks_cls he hcl).keeps kp) (Heap.get?_push_size s.heap rfl) hx).here (q _ kp)
/-- what such a clause wishes of an exception of the body -/
def wCl (xm : Value → Bool → Prop) (ts : Addr → Value → Option Addr → TS) (Wo : WX) (D : Ends) : WX := fun cls d σ H => ∃ b, xm cls b ∧ (b = true → ∀ a, H a = none → ts a cls d D σ H) ∧ (b = false → Wo cls d σ H)
section
variable {X : Cx} {te : Expr} {xm : Value → Bool → Prop} {bd su : List Stmt} {b₀ : Stmt} {p0 p1 : Pos} {tb : WX → TS} {ts : Addr → Value → Option Addr → TS} {Wo : WX}
theorem ps_tryT (hs : X.stack = X.env :: X.outer) (hf : X.env.frame = some X.env.locals) (ct : ClT X te xm) (pa : ∀ hd : Option Value, PassesOwnAt (model X.prog X.w) (X.A.mark hd) X.A X.env X.xe) (tk : L2.Takes X Wo)
    (hb : ∀ (W : WX) (pn : List (Addr × Obj)) (xe : Value → Shared → Prop), L2N.Takes (X.tr pn xe) W → PassesOwn (model X.prog X.w) X.A X.env xe → PSs (X.tr pn xe) bd (tb W))
    (hsu : ∀ (a : Addr) (oe : Obj) (cls : Value) (d : Option Addr) (pn : List (Addr × Obj)), L2N.Zn cls d oe → (∃ vs, oe.data = .fields vs) → L2.Takes (suiteX X a ((a, oe) :: pn)) Wo → HotC (suiteX X a ((a, oe) :: pn)) →
      PSs (suiteX X a ((a, oe) :: pn)) (b₀ :: su) (ts a cls d)) :
    PS X (.Try bd [.ExceptHandler (some te) none (b₀ :: su) p1] [] [] p0) (fun D σ H => tb (wCl xm ts Wo D) D σ H) := by
  refine ⟨fun pins s σ H D I h => ?_⟩
  have ok := I.ok
  have fr : X.A.frames = some (X.env :: X.outer) := by rw [ok.frames, hs]
  refine wpAny_Try_except ?_
  refine wpAny_mono ((hb (wCl xm ts Wo D) (X.pn ++ pins) (fun e s₁ => wpAny (model X.prog X.w) X.A (noteFrame e X.env) (fun _ s₂ => wpAny (model X.prog X.w) X.A (setFlight e none) (fun _ s₃ =>
    wpAny (model X.prog X.w) X.A (handleBy e X.env [.ExceptHandler (some te) none (b₀ :: su) p1]) (SP X pins D) X.xe s₃) X.xe s₂) X.xe s₁) (fun u t x => ?_) PassesOwn.looking).run [] s σ H D (I.toTry _) h) (fun f t x => ?_) (fun _ _ z => z)
  · obtain ⟨a, B, sI, pn', σ', H', cls, d, rfl, J', nb, up, sky, na, os, ag, b, hx, hyes, hno⟩ := x
    have J : Inv X pins σ' H' sI := J'.ofTry ok
    show wpAny (model X.prog X.w) X.A (noteFrame (.ref a) X.env) _ _ _
    refine L2N.Sky.land L2N.Zn.steady fr hf (B := B) (a := a) (Z := L2N.Zn cls d) (L := X.env.locals) (by rw [← hs]; exact sky) fun h3 fl up3 => ?_
    have J3 : Inv X pins σ' H' { t with heap := h3 } := J.landed nb fl.1 (up.trans up3) os ag
    obtain ⟨oe, vs, he, hz, hd⟩ := fl.there
    have far : a ∉ frs (X.env :: X.outer) := fun hm => by
      obtain ⟨_, o2, e2, no⟩ := fl.2.2.1.mem hm
      rw [he] at e2
      cases e2
      exact no _ hd
    have nL : a ≠ X.env.locals := fun z => far (List.mem_filterMap.mpr ⟨X.env, List.mem_cons_self, by rw [hf, z]⟩)
    have nF : a ∉ X.fs := fun hm => by
      obtain ⟨e, m, q⟩ := List.mem_filterMap.mp hm
      exact far (List.mem_filterMap.mpr ⟨e, List.mem_cons_of_mem _ m, q⟩)
    refine wpAny_handleBy_cons (codeAny_handlers_test ?_) (fun z => nomatch z)
    refine ct a oe _ _ _ _ _ _ _ _ _ (J3.suite he hd na nL nF) he hz.1 hx fun g kg => ?_
    have fg := flying_on fl kg
    have ug : t.heap.UpToSlots g := up3.trans (Heap.UpToSlots.of_keeps kg)
    cases b with
    | true =>
      refine codeAny_handlers_suite ?_
      refine HandSPX.lands_againZ (s := { t with heap := g }) fg fun h4 f4 u4 => ?_
      have J4 : Inv X pins σ' H' { t with heap := h4 } := J.landed nb f4.1 ((up.trans ug).trans u4) os ag
      obtain ⟨o4, v4, he4, hz4, hd4⟩ := f4.there
      refine wpAny_mono ((hsu a o4 cls d (X.pn ++ pins) hz4 ⟨_, hd4⟩ (fun u2 s2 x2 => ?_) ⟨(a, o4), ⟨rfl, v4, hd4, hz4.2.2 v4 hd4⟩, List.mem_cons_self⟩).run [] _ _ H' _ (suiteX_of (J4.suite he4 hd4 na nL nF)) (hyes rfl a na)) (fun f s6 x6 => ?_) (fun e6 s6 z => pa (some (.ref a)) e6 s6 z)
      · obtain ⟨a2, B2, sI2, pn2, σ2, H2, cls2, d2, e2, I2, r2⟩ := x2
        exact tk u2 s2 ⟨a2, B2, sI2, pins, σ2, H2, cls2, d2, e2, unsuiteX I2 ok, r2⟩
      · match f, x6 with
        | .next, ⟨_, _, S6, q6⟩ => exact ⟨_, _, unsuiteX S6 ok, q6⟩
        | .brk, ⟨_, _, S6, q6⟩ => exact ⟨_, _, unsuiteX S6 ok, q6⟩
        | .cont, ⟨_, _, S6, q6⟩ => exact ⟨_, _, unsuiteX S6 ok, q6⟩
        | .ret _, ⟨_, _, _, S6, r6, q6⟩ => exact ⟨_, _, _, unsuiteX S6 ok, r6, q6⟩
    | false =>
      show wpAny _ X.A (handleBy (.ref a) X.env []) _ _ _
      refine wpAny_handleBy_nil ?_
      obtain ⟨_, _, _, o5, v5, T, oT, t5, he5, hz5, hd5, h15, _⟩ := id fg
      unfold PySem.passOn
      refine wpAny_bind (wpAny_field (s := { t with heap := g }) he5 hd5 h15 ?_)
      rw [if_neg (show ¬ ((Value.ref T == Value.none) = true) from by simp)]
      have fin : wpAny (model X.prog X.w) X.A (setFlight (.ref a) X.env.frame) (fun _ s4 => wpAny (model X.prog X.w) X.A (throw (.ref a) : Sem Flow) (SP X pins D) X.xe s4) X.xe { t with heap := g } := by
        rw [hf]
        refine HandSPX.setFlight_upZ (s := { t with heap := g }) (flyingZ_imp (fun o z => z.zc) fg) fun h4 hh u4 => wpAny_throw (tk _ _ ?_)
        exact ⟨a, B, sI, pins, σ', H', cls, d, rfl, J, nb, (up.trans ug).trans u4, .inr (.inr (by rw [hs]; exact hh)), na, os, ag, hno rfl⟩
      first | exact wpAny_bind (wpAny_pure (wpAny_bind fin)) | exact wpAny_bind fin
  · match f, x with
    | .next, ⟨σ', H', J', q⟩ => exact wpAny_execs_nil ⟨σ', H', J'.ofTry ok, q⟩
    | .brk, ⟨σ', H', J', q⟩ => exact ⟨σ', H', J'.ofTry ok, q⟩
    | .cont, ⟨σ', H', J', q⟩ => exact ⟨σ', H', J'.ofTry ok, q⟩
    | .ret _, ⟨v, σ', H', J', r, q⟩ => exact ⟨v, σ', H', J'.ofTry ok, r, q⟩
end
/-! ### range of any length -/
theorem turn_long {P : Program} {w : World} {K : PySem.W.Frag} {tg : Expr} (it : Addr) (lo : Int) (n : Nat) : Turn P w K tg (Itr lo n) [it] it (fun i h => IsLongIter h it (lo + (i : Nat) * 1) ((n : Int) - (i : Nat)) 1) where
  mem := List.mem_singleton.mpr rfl
  obj := fun i h st b hb => by
    obtain rfl := List.mem_singleton.mp hb
    exact ⟨_, st, fun v z => Data.noConfusion (show Data.fields _ = Data.cell v from z)⟩
  keep := fun i h g st k => k it (List.mem_singleton.mpr rfl) _ st
  item := by
    intro X hP hw hK hc i pins s σ H E I hf st hg
    subst hP hw hK
    obtain ⟨f0, f1, f2, f3, f4, f5⟩ := hf it (List.mem_singleton.mpr rfl)
    refine (Walks.longrange (prog := X.prog) (w := X.w) (I.ok.hd hc) it lo 1 n).item i s _ _ hg st fun v g tk hv st2 kk => ?_
    obtain ⟨t, rfl⟩ := hv
    have J : Inv X pins σ H { s with heap := g, toks := tk } := I.turned (fun b o hb e => kk b o (fun z => hb (List.mem_singleton.mp z)) e) f0 f1 f3 f4 f5
    refine ⟨_, rfl, go_of (s := { s with heap := g, toks := tk }) (n := "longrange_iterator") st2 rfl rfl (by decide) ⟨.int (lo + i), H, J, ⟨t, by rw [Int.mul_one]⟩, ⟨rfl, rfl⟩, st2, fun b hb => (hf b hb).1⟩⟩
  done := by
    intro X hP hw hK hc i pins s σ H E I hf st hg
    subst hP hw hK
    obtain ⟨f0, f1, f2, f3, f4, f5⟩ := hf it (List.mem_singleton.mpr rfl)
    have hg2 : n ≤ i := hg
    exact wpAny_pyNext_long_end (I.ok.hd hc) st (by omega) fun g eb => ⟨rfl, I.turned (t' := s.toks) (fun b o hb e => eb b o hb e) f0 f1 f3 f4 f5⟩
  self := fun _ _ _ _ _ st h => wpAny_pyIter_longiter st h
def iRngL (ta : TA) : TI := fun σ H R => ta σ H fun vs H1 => ∃ j : Int, vs = [.int j] ∧ 0 ≤ j ∧ R (Itr 0 j.toNat) H1
theorem pi_rangeL {X : Cx} {tg a : Expr} {ta : TA} {p pos : Pos} (hg : Gl X "range") (hm : X.mg "range" = none) (ha : PA X [a] ta) (hs : starEach [a] X.env = [(false, eval a X.env)] := by rfl) : PI X tg (.Call (.Name "range" p) [a] [] pos) (iRngL ta) := by
  refine ⟨fun pins s σ H R I h => ?_⟩
  refine Call_ (ld_blt I hg hm boot_range (PyProof.Rows.callWith_type1 (thn (ha.run pos pins s σ H _ I h) fun us s1 ⟨vs, H1, I1, r1, j, e, j0, q⟩ => ?_) hs rfl))
  subst e
  cases r1 with
  | cons r rr =>
  cases rr
  obtain ⟨t, rfl⟩ := r
  by_cases hj : j < 2 ^ 62
  · exact call_range_1 (range_it I1 (by omega) (by omega) (by omega) hj (by simpa using q))
  refine call_range_1 ?_
  cases hsm : Builtin.Range.small 0 j 1 with
  | true =>
    refine wpAny_pyIter_range (IsRange.new ..) hsm ?_
    refine ⟨_, [_], _, _, H1, rfl, I1.kept (t' := _) fun b o e => Heap.get?_push_of_some _ (Heap.get?_push_of_some _ e), turn_range _ 0 j.toNat, ?_, fun b hb => ?_, q⟩
    · have e2 : ((j.toNat : Nat) : Int) - ((0 : Nat) : Int) = Builtin.Range.rangeSize 0 j 1 := by rw [rangeSize_one]; split <;> omega
      show IsRangeIter _ _ (0 + ((0 : Nat) : Int) * 1) (((j.toNat : Nat) : Int) - ((0 : Nat) : Int)) 1
      rw [show (0 : Int) + ((0 : Nat) : Int) * 1 = 0 by simp, e2]
      exact Heap.get?_push_size _ rfl
    · obtain rfl := List.mem_singleton.mp hb
      exact (I1.kept (t' := s1.toks) fun b o e => Heap.get?_push_of_some _ e).fpOk (Nat.le_refl _) ((I1.kept (t' := s1.toks) fun b o e => Heap.get?_push_of_some _ e).hok.fresh (Nat.le_refl _))
  | false =>
    refine wpAny_pyIter_longrange (IsRange.new ..) hsm ?_
    refine ⟨_, [_], _, _, H1, rfl, I1.kept (t' := _) fun b o e => Heap.get?_push_of_some _ (Heap.get?_push_of_some _ e), turn_long _ 0 j.toNat, ?_, fun b hb => ?_, q⟩
    · have e2 : ((j.toNat : Nat) : Int) - ((0 : Nat) : Int) = Builtin.Range.rangeSize 0 j 1 := by rw [rangeSize_one]; split <;> omega
      show IsLongIter _ _ (0 + ((0 : Nat) : Int) * 1) (((j.toNat : Nat) : Int) - ((0 : Nat) : Int)) 1
      rw [show (0 : Int) + ((0 : Nat) : Int) * 1 = 0 by simp, e2]
      exact Heap.get?_push_size _ rfl
    · obtain rfl := List.mem_singleton.mp hb
      exact (I1.kept (t' := s1.toks) fun b o e => Heap.get?_push_of_some _ e).fpOk (Nat.le_refl _) ((I1.kept (t' := s1.toks) fun b o e => Heap.get?_push_of_some _ e).hok.fresh (Nat.le_refl _))
end TryT
namespace Sk
open PySem PySem.Spec PyProof.Rows L2
abbrev CXL := L2.CX
theorem tk02 {X : Cx} : L2.Takes X W0 := fun _ _ ⟨_, _, _, _, _, _, _, _, _, _, _, _, _, _, _, _, z⟩ => z.elim
theorem passL {X : Cx} {W : WX} (tk : L2.Takes X W) : ∀ σ, PassesAt (CXL X.prog X.w) X σ (WE W σ) := fun σ => L2.passAt tk σ
theorem okL {P : Program} {w : World} {K : PySem.W.Frag} {mg : Str → Option Value} {base : Heap} {x qual : Str} {st : Stmt} {f : Addr} {fd : FuncData} {N ps : List Str} {k : Nat} {sp : Sp} (F : Fun K x qual st f fd) (S : FnScope N ps (defScope st)) (len : ∀ vs H Q E, sp vs H Q E → vs.length = ps.length)
    (hbody : ∀ (cdv : Value) (A : Around) (outer : List Env) (s : Shared) (H : Hp) (vs : List V) (Q : VK) (E : XK), Room k (A.deeper (envOfC qual (defScope st) s.heap.objs.size f cdv)) → sp vs H Q E →
      ∃ t, PSs (cxOf (CXL P w) P w K mg base N qual (defScope st) f cdv A outer s H E) (defBody st) t ∧ t { nx := fun _ H' => Q .non H', rt := Q } (start N vs) H) : FnOk P w K mg base (CXL P w) (k + 1) f fd ps sp := by
  obtain ⟨oc, od, kV, doc, pm, an, cdv, ct, osl, rfl, lk, hcd⟩ := F.ex
  exact fn_of lk hcd S len fun A outer s H vs Q E hr hsp => hbody cdv A outer s H vs Q E hr hsp
abbrev xmN (K : PySem.W.Frag) (c : Value) : Value → Bool → Prop := fun cls b => PySem.W.exmOne K cls c = some b
abbrev xmT (K : PySem.W.Frag) (cs : List Value) : Value → Bool → Prop := fun cls b => PySem.W.exmAny K cls cs = some b
theorem exmAny3 {K : PySem.W.Frag} {cls c1 c2 c3 : Value} {b1 b2 b3 : Bool} (h1 : PySem.W.exmOne K cls c1 = some b1) (h2 : PySem.W.exmOne K cls c2 = some b2) (h3 : PySem.W.exmOne K cls c3 = some b3) : PySem.W.exmAny K cls [c1, c2, c3] = some (b1 || (b2 || (b3 || false))) := by
  unfold PySem.W.exmAny
  rw [h1]
  unfold PySem.W.exmAny
  rw [h2]
  unfold PySem.W.exmAny
  rw [h3]
  unfold PySem.W.exmAny
  rfl
def tTryT (xm : Value → Bool → Prop) (tb : WX → TS) (ts : Addr → Value → Option Addr → TS) (Wout : WX) : TS := fun D σ H => tb (TryT.wCl xm ts Wout D) D σ H
def rTupOf (K : PySem.W.Frag) : List V → Hp → VK → Prop := fun xs H Q => ∃ p ys, xs = [.ref p] ∧ ((SqL K H p ys ∧ ∀ l, H l = none → Q (.ref l) (upd H l (.tup ys))) ∨ (SqT K H p ys ∧ Q (.ref p) H))
theorem cr_tupOf {X : Cx} : CallR X (.type "tuple") (rTupOf X.K) := call_tuple_of
section
variable {K : PySem.W.Frag} {B : Hp} {L : Own} {Q : VK} {σ : St} {D : Ends} {tz ts : TS} {tb : WX → TS} {su : Addr → Value → Option Addr → TS} {W : WX} {cls : Value} {d : Option Addr} {a c : Addr} {b : Bool} {xm : Value → Bool → Prop} {xs ys : List V} {ns ms : List Int} {tr : TA} {g : TG} {j : Int}
theorem n_tryT (q : N B L (fun H => tb (TryT.wCl xm su W (onE D (tz D))) (onE D (tz D)) σ H)) : N B L (fun H => tSeq (tTryT xm tb su W) tz D σ H) := q
theorem n_wCl (em : xm cls true) (q : ∀ a, N B L (fun H => su a cls d D σ H)) : N B L (fun H => TryT.wCl xm su W D cls d σ H) := fun H s => ⟨true, em, fun _ a _ => q a H s, fun h => nomatch h⟩
theorem n_wClF (em : xm cls false) (q : N B L (fun H => W cls d σ H)) : N B L (fun H => TryT.wCl xm su W D cls d σ H) := fun H s => ⟨false, em, (fun h => nomatch h), fun _ => q H s⟩
theorem n_wAsF {i : Nat} {cv : Value} (em : PySem.W.exmOne K cls cv = some false) (q : N B L (fun H => W cls d σ H)) : N B L (fun H => wAs K cv i su W D cls d σ H) := fun H s => ⟨false, em, (fun h => nomatch h), fun _ => q H s⟩
theorem n_wOnF {cv : Value} (em : PySem.W.exmOne K cls cv = some false) (q : N B L (fun H => W cls d σ H)) : N B L (fun H => wOnly K cv su W D cls d σ H) := fun H s => ⟨false, em, (fun h => nomatch h), fun _ => q H s⟩
theorem n_tupOf (h : Sq K B L a xs) (q : ∀ p, N B ((p, .tup xs) :: L) (Q (.ref p))) : N B L (fun H => rTupOf K [.ref a] H Q) := fun H s => ⟨a, xs, rfl, .inl ⟨h H s, fun p hp => q p _ (s.new hp)⟩⟩
theorem n_catT (hl : Tp K B L a xs) (hc : Tp K B L c ys) (hx : xs ≠ []) (hy : ys ≠ []) (hn : xs.length + ys.length ≤ sizeLine) (q : ∀ p, N B ((p, .tup (xs ++ ys)) :: L) (Q (.ref p))) : N B L (fun H => uAdd K (.ref a) (.ref c) H Q) :=
  fun H s => .inr (.inr ⟨a, c, xs, ys, rfl, rfl, hl H s, hc H s, hn, fun e => absurd e hx, fun _ e => absurd e hy, fun _ _ p hp => q p _ (s.new hp)⟩)
/-- range of any length -/
def IRL (R : It → Hp → Prop) (vs : List V) (H1 : Hp) : Prop := ∃ j : Int, vs = [.int j] ∧ 0 ≤ j ∧ R (Itr 0 j.toNat) H1
theorem n_iRL {R : It → Hp → Prop} (q : N B L (fun H => tr σ H (IRL R))) : N B L (fun H => TryT.iRngL tr σ H R) := q
theorem n_lpRL (Pv : Nat → Hp → St → Own → Prop) (hj : 0 ≤ j) (h0 : Pv 0 B σ L)
    (hs : ∀ (i : Nat) B' σ L, Same B B' → (i : Int) < j → Pv i B' σ L → N B' L (fun H => g (.int i) σ H fun σ2 H2 => ts (loE D (KG B' (Pv (i + 1)))) σ2 H2))
    (hd : ∀ B' σ L, Same B B' → Pv j.toNat B' σ L → N B' L (D.nx σ)) : N B L (fun H => IRL (Lp g ts D σ) [.int j] H) := fun H s => ⟨j, rfl, hj,
  n_lpRB (lo := 0) (n := j.toNat) Pv h0 (fun i B' σ L sm hi p => by rw [Int.zero_add]; exact hs i B' σ L sm (by omega) p) hd H s⟩
end
end Sk
/-! ### a comprehension whose element may raise -/
namespace CompX
open PySem PySem.Spec PyProof.Rows L2
theorem hide_one (h : Heap) (C : Addr) : ∃ G : Heap, (∀ b, b ≠ C → G.get? b = h.get? b) ∧ G.get? C = none := by
  obtain ⟨G, g1, g2⟩ := restrict h fun b => decide (b ≠ C)
  exact ⟨G, fun b hb => g1 b (decide_eq_true hb), g2 C (decide_eq_false fun z => z rfl)⟩
section
variable {X : Cx} {W : WX} {pins : List (Addr × Obj)} {σ : L2.St} {H3 : Hp} {s3 : Shared} {scope : Scope} {ce : Env} {fp : List Addr}
/-- what a call within the block lets out goes on in the def -/
theorem goes_out (hs : X.stack = X.env :: X.outer) (hf : X.env.frame = some X.env.locals) (tk : L2N.Takes X W) (I3 : Inv X pins σ H3 s3) (f3 : ∀ b ∈ fp, FpOk X pins H3 b ∧ b < s3.heap.objs.size) (eL : ce.locals = s3.heap.objs.size) (eF : ce.frame = X.env.frame) (pn : List (Addr × Obj)) (σ' : L2.St) :
    PassesAt (L2N.CX X.prog X.w) ((X.blk s3 H3 scope ce fp).tr pn (notedBy (model X.prog X.w) X.A ce (CompFails (model X.prog X.w) X.A X.xe ce))) σ' (WE (fun cls d _ H => W cls d σ H) σ') := by
  intro pins' H1 s1 e s' J c
  obtain ⟨a, B, H', cls, d, rfl, fl, hok, ub, na, os, ag, w⟩ := c
  have fr : X.A.frames = some (X.env :: X.outer) := by rw [I3.ok.frames, hs]
  have fl : HandSPX.FlyingZ B (X.env :: X.outer) a (L2N.Zn cls d) s'.heap := by rw [← hs]; exact fl
  have ub : UB (frs X.stack) H1 H' s1.heap B s'.heap := ub
  have ba : Un (frs X.stack) fp H3 H1 s3.heap s1.heap := J.base
  obtain ⟨m, nm, _⟩ := J.loc
  have nm : s1.heap.Ns ce.locals m := nm
  have C1 : H1 ce.locals = none := J.free
  have C3 : s3.heap.get? ce.locals = none := by
    cases q : s3.heap.get? ce.locals with
    | none => rfl
    | some o => exact absurd (Heap.lt_size q) (by rw [eL]; exact Nat.lt_irrefl _)
  have Cf : ce.locals ∉ frs X.stack := fun hm => by
    obtain ⟨_, o, e, _⟩ := I3.stack.mem hm
    rw [C3] at e
    cases e
  obtain ⟨oC, es, ep, eC, dC⟩ := id nm
  have bC : B.get? ce.locals = some oC := ub.keep _ _ eC C1 Cf
  have C2 : H' ce.locals = none := ub.free _ _ eC C1
  have bF : ∀ b ∈ frs X.stack, B.get? b = none := fun b hb => by
    rw [hs] at hb
    exact (fl.2.2.1.mem hb).1
  have en : noteFrame (.ref a) ce = noteFrame (.ref a) X.env := by unfold noteFrame PySem.frameOf; rw [eF]
  show wpAny _ _ (noteFrame (.ref a) ce) _ _ s'
  rw [en]
  refine PXN.looks_onZ L2N.Zn.steady fr hf fl fun h1 hd1 u1 => ?_
  have nm1 : h1.Ns ce.locals m := ⟨oC, es, ep, hd1.1 _ _ bC, dC⟩
  refine ⟨m, nm1, fun g m' ng sb => ?_⟩
  -- the ground without the block
  obtain ⟨B2, b1, b2⟩ := hide_one B ce.locals
  obtain ⟨G, g1, g2⟩ := restrict s'.heap fun b => decide (b ≠ ce.locals) && ((B.get? b).isSome || decide (b ∈ frs X.stack))
  have gB : ∀ b o, b ≠ ce.locals → B.get? b = some o → G.get? b = some o := fun b o nb e => by
    rw [g1 b (by simp [e, nb])]
    exact fl.1 b o e
  have gF : ∀ b, b ∈ frs X.stack → G.get? b = s'.heap.get? b := fun b hb => g1 b (by
    have : b ≠ ce.locals := fun z => Cf (z ▸ hb)
    simp [hb, this])
  have og : ∀ b o, G.get? b = some o → b ≠ ce.locals ∧ s'.heap.get? b = some o ∧ ((B.get? b).isSome = true ∨ b ∈ frs X.stack) := fun b o e => by
    cases q : (decide (b ≠ ce.locals) && ((B.get? b).isSome || decide (b ∈ frs X.stack))) with
    | false => rw [g2 b q] at e; cases e
    | true =>
      rw [g1 b q] at e
      simp only [Bool.and_eq_true, Bool.or_eq_true, decide_eq_true_eq] at q
      exact ⟨q.1, e, q.2⟩
  have hd2 : HandSPX.HeldZ B2 (X.env :: X.outer) a (L2N.Zn cls d) X.env.locals g := by
    obtain ⟨st, ne, ff, oe, vs, T, oT, ts, q1, q2, q3, q4, q5, q6, q7, q8, q9⟩ := hd1
    have aC : a ≠ ce.locals := fun z => by
      rw [z, st _ _ bC] at q1
      cases q1
      rw [dC.1] at q3
      cases q3
    have tC : T ≠ ce.locals := fun z => by
      rw [z, st _ _ bC] at q7
      cases q7
      rw [dC.1] at q8
      cases q8
    refine ⟨fun b o e => ?_, ?_, ?_, oe, vs, T, oT, ts, (sb.2 _ aC).trans q1, q2, q3, q4, ?_, q6, (sb.2 _ tC).trans q7, q8, q9⟩
    · have nb : b ≠ ce.locals := fun z => by rw [z, b2] at e; cases e
      rw [b1 b nb] at e
      exact (sb.2 b nb).trans (st b o e)
    · rw [b1 a aC]; exact ne
    · refine funFrames_none (Heap.FunFrames.sameBut sb ng ff) fun b hb => ?_
      have hb' : b ∈ frs X.stack := by rw [hs]; exact hb
      rw [b1 b (fun z => Cf (z ▸ hb'))]
      exact bF b hb'
    · rw [b1 T tC]; exact q5
  obtain ⟨_, _, _, oe, vs, T, oT, ts, q1, q2, q3, q4, _⟩ := id hd2
  unfold PySem.passOn
  refine wpAny_bind (wpAny_field (s := { s' with heap := g }) q1 q3 q4 ?_)
  rw [if_neg (show ¬ ((Value.ref T == Value.none) = true) from by simp)]
  have fin : wpAny (model X.prog X.w) X.A (setFlight (.ref a) ce.frame) (fun _ s4 => wpAny (model X.prog X.w) X.A (throw (.ref a) : Sem Value) (fun _ _ => False) X.xe s4) X.xe { s' with heap := g } := by
    rw [eF, hf]
    refine HandSPX.setFlight_onZ (s := { s' with heap := g }) hd2 fun h4 hd4 u4 => wpAny_throw (tk _ _ ?_)
    refine ⟨a, B2, { s3 with heap := G, gens := s'.gens, drawn := s'.drawn, toks := s'.toks }, pins, σ, H', cls, d, rfl, ?_, fun b o e hb => ?_, fun b o e hn => ?_, .inr (.inr (by rw [hs]; exact hd4)), na, (os.trans J.os), ag, w⟩
    · refine I3.call (ch := fp) ⟨fun b o e n hb hx => ?_, fun b o e n hb hx => ?_, fun b o e n hx => ?_, fun b o e hx => ?_, fun b xs e => ub.tups _ _ (ba.tups _ _ e), fun b o u e => ub.frzs _ _ _ (ba.frzs _ _ _ e), fun b ps e => ?_⟩ (fun b ob e => ?_) ag fun b hb => ⟨(f3 b hb).1.2.2.2.1, (f3 b hb).1.2.1, (f3 b hb).1.2.2.2.2.1, (f3 b hb).1.2.2.2.2.2⟩
      · exact gB b o (fun z => by rw [z, C3] at e; cases e) (ub.keep b o (ba.keep b o e n hb hx) (ba.free b o e n hx) hb)
      · obtain ⟨sl, e1⟩ := ba.slot b o e n hb hx
        obtain ⟨sl2, e2⟩ := ub.slot b _ e1 hb
        exact ⟨sl2, by rw [gF b hb]; exact e2⟩
      · obtain ⟨o1, e1⟩ := ba.there b o e hx
        exact ub.free b o1 e1 (ba.free b o e n hx)
      · obtain ⟨o1, e1⟩ := ba.there b o e hx
        by_cases hb : b ∈ frs X.stack
        · obtain ⟨sl, e2⟩ := ub.slot b _ e1 hb
          exact ⟨_, by rw [gF b hb]; exact e2⟩
        · obtain ⟨o2, e2⟩ := ub.there b o1 e1 hb
          exact ⟨o2, gB b o2 (fun z => by rw [z, C3] at e; cases e) e2⟩
      · obtain ⟨m1, e1⟩ := ba.tbls b ps e
        obtain ⟨m2, e2⟩ := ub.tbls b _ e1
        exact ⟨m1 ++ m2, by rw [e2, Array.append_assoc]⟩
      · refine (hok b ob e).stay (fun c u hc q => gB c u (fun z => ?_) q) (fun _ q => q) fun _ _ q => q
        subst z
        rcases hc with hc | hc
        · rw [← hc, C2] at e; cases e
        · rw [C2] at hc; cases hc
    · obtain ⟨nb, e1, hor⟩ := og b o e
      rcases hor with hor | hor
      · obtain ⟨o', q⟩ := Option.isSome_iff_exists.mp hor
        have z := fl.1 b o' q
        rw [e1] at z
        cases z
        rw [b1 b nb]; exact q
      · exact absurd hor hb
    · obtain ⟨nb, e1, _⟩ := og b o e
      obtain ⟨sl, e2⟩ := u1 b o e1 hn
      obtain ⟨sl2, e3⟩ := u4 b _ ((sb.2 b nb).trans e2) hn
      exact ⟨sl2, e3⟩
  first | exact wpAny_bind (wpAny_pure (wpAny_bind fin)) | exact wpAny_bind fin
end
theorem ends_out {M : Model} {A : Around} {E : Value → Shared → Prop} {use : Option (Value → Sem Unit)} {Q : Value → Shared → Prop} {acc x : Value} {ce : Env} {s' : Shared} (h : CompFails M A E ce x s') : compEnds M A E use Q acc ce (.error x) s' := by
  cases use <;> exact h
theorem noted_out {M : Model} {A : Around} {E : Value → Shared → Prop} {use : Option (Value → Sem Unit)} {Q : Value → Shared → Prop} {acc x : Value} {ce : Env} {s' : Shared} (h : notedBy M A ce (CompFails M A E ce) x s') : notedBy M A ce (fun e s2 => compEnds M A E use Q acc ce (.error e) s2) x s' :=
  wpAny_mono h (fun _ _ c => ends_out c) fun _ _ c => ends_out c
def tLcX (wi : TI) (g : TG) (tt : TT) (te : WX → TE) (vs : List Nat) (W : WX) : TE := fun σ H Q => tLc wi g tt (te fun cls d _ H' => W cls d σ H') vs σ H Q
/-- the element's premise -/
abbrev EltOk (X : Cx) (scope : Scope) (elt : Expr) (te : WX → TE) : Prop := ∀ (s : Shared) (H : Hp) (C : Addr) (cl : List (Str × Addr)) (fp : List Addr) (pn : List (Addr × Obj)) (xe : Value → Shared → Prop) (V : WX),
  (∀ σ', PassesAt (L2N.CX X.prog X.w) ((X.blk s H scope (compEnvC scope cl C X.env) fp).tr pn xe) σ' (WE V σ')) → PE ((X.blk s H scope (compEnvC scope cl C X.env) fp).tr pn xe) elt (te V)
section
variable {X : Cx} {W : WX}
theorem lc_out {pins : List (Addr × Obj)} {s : Shared} {σ : L2.St} {H : Hp} {Q : VK} {elt tg iter : Expr} {ifs : List Expr} {scope : Scope} {own : List (Str × Nat)} {pos pos' : Pos} {wi : TI} {g : TG} {tt : TT} {te : WX → TE} {use : Option (Value → Sem Unit)} {Qf : Value → Shared → Prop}
    (hs' : X.stack = X.env :: X.outer) (hf : X.env.frame = some X.env.locals) (tk : L2N.Takes X W) (hc : X.calm = true) (hN : X.N.Nodup) (I : Inv X pins σ H s) (hi : PI X tg iter wi) (ok : BlkOk X.N X.env.scope scope own)
    (hg : ∀ (z : Shared) (Hz : Hp) (C : Addr) (cl : List (Str × Addr)) (fp : List Addr), PG (X.blk z Hz scope (compEnvC scope cl C X.env) fp) tg g)
    (ht : ∀ (z : Shared) (Hz : Hp) (C : Addr) (cl : List (Str × Addr)) (fp : List Addr), PTs (X.blk z Hz scope (compEnvC scope cl C X.env) fp) ifs tt)
    (he : EltOk X scope elt te) (hfold : ∀ x, foldedSetIterable iter X.env x = pure x) (h : tLcX wi g tt te (own.map (·.2)) W σ H Q)
    (hEnd : ∀ D (ce : Env) s9 m H9, Inv X pins σ H9 s9 → Q (.ref D) H9 → s9.heap.Ns ce.locals m → FpOk X pins H9 ce.locals → compEnds (model X.prog X.w) X.A X.xe use Qf (.ref D) ce (.ok .next) s9) :
    wpAny (model X.prog X.w) X.A (comprehension (.ListComp elt [⟨tg, iter, ifs, 0⟩] scope pos) scope X.env pos' (newList []) false (eval iter X.env) use) Qf X.xe s := by
  have free : ∀ z ∈ scope.names, z.2 = .free → ∃ c, X.env.cells.lookup z.1 = some c := fun z hz e => (ok.free z hz e).elim (fun k => I.ok.has _ (.inl k)) fun k => I.ok.has _ (.inr k)
  refine comprehension_at (use := use) rfl hfold (closure_ok free) ok.kind (fun z hz e => by rw [ok.uniq z hz, e]) (thn (hi.run pins s σ H _ I h) fun xv s1 hx => thn hx fun itv s2 h2 => ?_)
  obtain ⟨it, fp, tn, J, H2, rfl, I2, T, st2, f2, q⟩ := h2
  refine wpAny_newObj_type (newEnv_comp ?_) (by show 0 ≤ sizeLine; decide)
  generalize eD : s2.heap.objs.size = D
  have nD : H2 D = none := I2.hok.fresh (Nat.le_of_eq eD)
  obtain ⟨Wm, ⟨m0, w0⟩, turn⟩ := q D nD
  generalize e3 : ({ s2 with heap := s2.heap.push { cls := .type "list", data := .seq ([] : List Value).toArray } } : Shared) = s3
  have I3 : Inv X pins σ (upd H2 D (.lst [])) s3 := by
    rw [← e3]
    exact I2.laid (t' := s2.toks) (fun b o e => Heap.get?_push_of_some _ e) (Nat.le_of_eq eD) ⟨Nat.zero_le _, [], 0, .nil, by rw [← eD]; exact Heap.get?_push_size _ rfl⟩
  have hp3 : s3.heap = s2.heap.push { cls := .type "list", data := .seq ([] : List Value).toArray } := by rw [← e3]
  have f3 : ∀ b ∈ fp, FpOk X pins (upd H2 D (.lst [])) b ∧ b < s3.heap.objs.size := fun b hb => by
    obtain ⟨o, eo, _⟩ := T.obj _ _ st2 b hb
    have lt := Heap.lt_size eo
    exact ⟨⟨by rw [upd_ne (by rw [← eD]; exact Nat.ne_of_lt lt)]; exact (f2 b hb).1, (f2 b hb).2⟩, by rw [hp3, Heap.size_push]; exact Nat.lt_succ_of_lt lt⟩
  have st3 : tn 0 s3.heap := T.keep _ _ _ st2 fun b _ o e => by rw [hp3]; exact Heap.get?_push_of_some _ e
  have I4 := block_start I3 ok hN f3
  generalize ecl : cellsFrom (s3.heap.objs.size + 1) scope.names (cloFrom X.env.cells scope.names []) = cl at I4
  have pg := hg s3 (upd H2 D (.lst [])) s3.heap.objs.size cl fp
  have pt := ht s3 (upd H2 D (.lst [])) s3.heap.objs.size cl fp
  have pe := he s3 (upd H2 D (.lst [])) s3.heap.objs.size cl fp
  show codeAny _ _ (.compStart (.ListComp elt [⟨tg, iter, ifs, 0⟩] scope pos) 0 (.ref it) (.ref D) (compEnvC scope cl s3.heap.objs.size X.env))
    (compEnds (model X.prog X.w) X.A X.xe use Qf (.ref D) (compEnvC scope cl s3.heap.objs.size X.env)) { s3 with heap := pushCells (s3.heap.push { cls := .type "dict", data := .dict #[] }) scope.names }
  have nfp : ∀ b ∈ fp, (upd H2 D (.lst [])) b = none := fun b hb => (f3 b hb).1.1
  generalize ece : compEnvC scope cl s3.heap.objs.size X.env = ce at I4 pg pt pe ⊢
  have cL : ce.locals = s3.heap.objs.size := by subst ece; rfl
  have cF : ce.frame = X.env.frame := by subst ece; rfl
  generalize eH : upd H2 D (.lst []) = H3 at I3 I4 pg pt pe w0 nfp f3
  have out := fun pn σ' => goes_out (scope := scope) (ce := ce) hs' hf tk I3 f3 cL cF pn σ'
  generalize e4 : ({ s3 with heap := pushCells (s3.heap.push { cls := .type "dict", data := .dict #[] }) scope.names } : Shared) = s4 at I4 ⊢
  have st4 : tn 0 s4.heap := T.keep _ _ _ st3 fun b _ o e => by rw [← e4]; exact pushCells_keeps _ _ _ _ (Heap.get?_push_of_some _ e)
  have foot : ∀ {σ' : L2.St} {H' : Hp} {z : Shared}, Inv (X.blk s3 H3 scope ce fp) [] σ' H' z → (∀ b ∈ fp, H' b = none) → ∀ b ∈ fp, FpOk (X.blk s3 H3 scope ce fp) [] H' b := fun {σ' H' z} I' hn b hb =>
    ⟨hn b hb, (I'.ok.exf b hb).1, I'.ok.exfs b hb, .inl hb, fun x c e => (I'.ok.exf b hb).2 x c e, fun p hp => absurd (show p ∈ ([] : List (Addr × Obj)) ++ [] from hp) (by simp)⟩
  have loop : codeAny (model X.prog X.w) X.A (.compLoop (.ListComp elt [⟨tg, iter, ifs, 0⟩] scope pos) 0 (.ref it) (.ref D) ce) (compEnds (model X.prog X.w) X.A X.xe use Qf (.ref D) ce) s4 := by
    refine compLoop_any (fun n z => ∃ i Hz, Inv (X.blk s3 H3 scope ce fp) [] (wipe σ (own.map (·.2))) Hz z ∧ tn i z.heap ∧ (∀ b ∈ fp, Hz b = none) ∧ Wm i n Hz) ?_ m0 ⟨0, H3, I4, st4, nfp, w0⟩
    rintro n s5 ⟨i, H5, I5, st5, n5, w5⟩
    rcases turn i n H5 w5 with ⟨stop, qq⟩ | ⟨go, Nx, hNx, step⟩
    · refine thnF (T.done (X.blk s3 H3 scope ce fp) rfl rfl rfl hc i [] s5 _ H5 (fun _ _ => False) I5 (foot I5 n5) st5 stop) fun r s6 ⟨hr, I6⟩ => ?_
      subst hr
      have I7 : Inv X pins σ H5 s6 := I3.call' (ch := fp) I6.os I6.base I6.hok I6.bare fun b hb => ⟨(f3 b hb).1.2.2.2.1, (f3 b hb).1.2.1, (f3 b hb).1.2.2.2.2.1, (f3 b hb).1.2.2.2.2.2⟩
      have nC : H5 ce.locals = none := I6.free
      obtain ⟨m, hn, _⟩ := I6.loc
      exact hEnd D ce s6 m H5 I7 qq hn (I3.fpOk (Nat.le_of_eq cL.symm) nC)
    · refine thnF (T.item (X.blk s3 H3 scope ce fp) rfl rfl rfl hc i [] s5 _ H5 (fun _ _ => False) I5 (foot I5 n5) st5 go) fun r s6 ⟨u, hr, h6⟩ => ?_
      subst hr
      refine thnF h6 fun _ s7 ⟨x, H7, I7, r7, y7, st7, n7⟩ => ?_
      refine thnF (pg.run _ s7 _ H7 x u _ (I7.pinned (foot I7 n7) (T.obj _ _ st7)) r7 (step x H7 y7)) fun _ s8 ⟨σ8, H8, I8, hw8, q8⟩ => ?_
      refine thnF (pt.run _ s8 σ8 H8 _ I8 q8) fun b s9 ⟨H9, I9, q9⟩ => ?_
      have fin : ∀ {z : Shared} {Hz : Hp}, Inv (X.blk s3 H3 scope ce fp) ([] ++ pinsAt fp s7.heap) σ8 Hz z → Nx Hz → ∃ m, m < n ∧ ∃ i Hz, Inv (X.blk s3 H3 scope ce fp) [] (wipe σ (own.map (·.2))) Hz z ∧ tn i z.heap ∧ (∀ b ∈ fp, Hz b = none) ∧ Wm i m Hz := fun {z Hz} Iz nx => by
        obtain ⟨m1, lt1, w1⟩ := hNx Hz nx
        have still : ∀ b ∈ fp, ∀ o, s7.heap.get? b = some o → z.heap.get? b = some o ∧ Hz b = none := fun b hb o e =>
          let t := Iz.pin (b, o) (List.mem_append_right _ (List.mem_append_right _ (mem_pinsAt hb e)))
          ⟨t.1, t.2.1⟩
        refine ⟨m1, lt1, i + 1, Hz, (Iz.unpinned (pins := [])).weak (by rw [← hw8, wipe_length]) (fun j v e => ?_), T.keep _ _ _ st7 fun b hb o e => (still b hb o e).1, fun b hb => ?_, w1⟩
        · rw [← hw8] at e
          exact (wipe_some e).1
        · obtain ⟨o, e, _⟩ := T.obj _ _ st7 b hb
          exact (still b hb o e).2
      cases b with
      | false =>
        simp only [Bool.false_eq_true, if_false] at q9 ⊢
        exact fin I9 q9
      | true =>
        simp only [if_true] at q9 ⊢
        have okB := I9.ok
        refine wpAny_mono ((pe _ _ _ fun σ' => out ((X.blk s3 H3 scope ce fp).pn ++ ([] ++ pinsAt fp s7.heap)) σ').run [] s9 σ8 H9 _ (I9.toTry _) q9) (fun v s10 z10 => ?_) (fun _ _ z => noted_out z)
        obtain ⟨yv, H10, I10, r10, acc, hD10, hz10, nx⟩ := z10
        exact app_ok (X := X.blk s3 H3 scope ce fp) (I10.ofTry okB) hD10 hz10 r10 fun s11 I11 => fin I11 nx
  exact codeAny_compStart_list loop (T.self X.A 0 _ _ _ st4 loop)
theorem pe_lcX {elt tg iter : Expr} {ifs : List Expr} {scope : Scope} {own : List (Str × Nat)} {pos : Pos} {wi : TI} {g : TG} {tt : TT} {te : WX → TE} (hs' : X.stack = X.env :: X.outer) (hf : X.env.frame = some X.env.locals) (tk : L2N.Takes X W) (hc : X.calm = true) (hN : X.N.Nodup) (hi : PI X tg iter wi) (ok : BlkOk X.N X.env.scope scope own)
    (hg : ∀ (z : Shared) (Hz : Hp) (C : Addr) (cl : List (Str × Addr)) (fp : List Addr), PG (X.blk z Hz scope (compEnvC scope cl C X.env) fp) tg g)
    (ht : ∀ (z : Shared) (Hz : Hp) (C : Addr) (cl : List (Str × Addr)) (fp : List Addr), PTs (X.blk z Hz scope (compEnvC scope cl C X.env) fp) ifs tt)
    (he : EltOk X scope elt te) (hfold : ∀ x, foldedSetIterable iter X.env x = pure x := by intro _; rfl) : PE X (.ListComp elt [⟨tg, iter, ifs, 0⟩] scope pos) (tLcX wi g tt te (own.map (·.2)) W) := by
  refine ⟨fun pins s σ H Q I h => ?_⟩
  rw [eval_ListComp]
  refine lc_out hs' hf tk hc hN I hi ok hg ht he hfold h fun D ce s9 m H9 I9 q hn f => ⟨m, hn, fun h2 sb => ?_⟩
  obtain ⟨f0, f1, f2, f3, f4, f5⟩ := f
  exact ⟨.ref D, H9, I9.turned (t' := s9.toks) (fun b o hb e => (sb.2 b hb).trans e) f0 f1 f3 f4 f5, rfl, q⟩
theorem ps_setLcX {i : Nat} {y : Str} {py : Pos} {elt tg iter : Expr} {ifs : List Expr} {scope : Scope} {own : List (Str × Nat)} {pos spos : Pos} {wi : TI} {g : TG} {tt : TT} {te : WX → TE} (hs' : X.stack = X.env :: X.outer) (hf : X.env.frame = some X.env.locals) (tk : L2N.Takes X W) (hc : X.calm = true) (hN : X.N.Nodup) (hy : X.N[i]? = some y) (hyl : X.env.scope.names.lookup y = some .local)
    (hsw : swapsWith (.ListComp elt [⟨tg, iter, ifs, 0⟩] scope pos) (some (.Name y py)) spos.line X.env = pure true) (hi : PI X tg iter wi) (ok : BlkOk X.N X.env.scope scope own)
    (hg : ∀ (z : Shared) (Hz : Hp) (C : Addr) (cl : List (Str × Addr)) (fp : List Addr), PG (X.blk z Hz scope (compEnvC scope cl C X.env) fp) tg g)
    (ht : ∀ (z : Shared) (Hz : Hp) (C : Addr) (cl : List (Str × Addr)) (fp : List Addr), PTs (X.blk z Hz scope (compEnvC scope cl C X.env) fp) ifs tt)
    (he : EltOk X scope elt te) (hfold : ∀ x, foldedSetIterable iter X.env x = pure x := by intro _; rfl) : PS X (.Assign [.Name y py] (.ListComp elt [⟨tg, iter, ifs, 0⟩] scope pos) spos) (tAsg (tLcX wi g tt te (own.map (·.2)) W) (gName i)) := by
  refine ⟨fun pins s σ H D I h => ?_⟩
  rw [exec_Assign_Name_used _ _ _ _ hsw]
  refine wpAny_bind (wpAny_standAt (wpAny_bind ?_))
  show wpAny _ X.A (do let _ ← comprehension (.ListComp elt [⟨tg, iter, ifs, 0⟩] scope pos) scope X.env (firstIterPos [⟨tg, iter, ifs, 0⟩] pos) (newList []) false (eval iter X.env) (some (assign (.Name y py) X.env))) _ _ s
  have h : tLcX wi g tt te (own.map (·.2)) W σ H (fun x H1 => gName i x σ H1 D.nx) := h
  refine wpAny_bind (thn (lc_out (Qf := fun _ z => SP X pins D .next z) hs' hf tk hc hN I hi ok hg ht he hfold h fun Ls ce s9 m H9 I9 q hn f => ?_) fun _ _ hq => wpAny_pure (wpAny_pure hq))
  show wpAny _ _ (assign (.Name y py) X.env (.ref Ls)) _ _ _
  refine wpAny_assign_Name (store_ok2 (v := V.ref Ls) I9 hN hy (.inl hyl) rfl (fun s10 I10 ⟨a, sb, ha⟩ => ?_) (.inr hyl))
  obtain ⟨f0, f1, f2, f3, f4, f5⟩ := f
  have nCa : ce.locals ≠ a := ha.elim (fun z => by rw [z]; exact f1) fun z e => f4 y a z e.symm
  exact ⟨m, hn.sameBut sb nCa, fun h11 sb2 => ⟨_, H9, I10.turned (t' := s10.toks) (fun b o hb e => (sb2.2 b hb).trans e) f0 f1 f3 f4 f5, q⟩⟩
end
end CompX
namespace Sk
open PySem PySem.Spec PyProof.Rows L2
theorem n_lcX {B : Hp} {L : Own} {Q : VK} {σ : St} {wi : TI} {g : TG} {tt : TT} {te : WX → TE} {vs : List Nat} {W : WX} (q : N B L (fun H => wi σ H (Lc g tt (te fun cls d _ H' => W cls d σ H') vs σ Q))) : N B L (fun H => CompX.tLcX wi g tt te vs W σ H Q) := q
end Sk
/-! ### more of texts: repeated, x or y, walked by a comprehension -/
namespace Sk
open PySem PySem.Spec PyProof.Rows L2
def repS (z : Str) (n : Nat) : Str := ⟨(List.replicate n z.cps).foldl (· ++ ·) #[]⟩
def rMulS : R2 := fun x y H Q => ∃ (z : Str) (n : Nat), x = .str z ∧ y = .int n ∧ (1 < n ∧ n < 2 ^ 30) ∧ (0 < z.length ∧ z.length < 2 ^ 20) ∧ (Builtin.Str.tooLong (z.length * n) = false ∧ (repS z n).length ≤ sizeLine) ∧ Q (.str (repS z n)) H
theorem op_mulS {X : Cx} : OpR X (binaryOp .Mult) rMulS := by
  intro pins s σ H x y v u Q I rx ry h
  obtain ⟨z, n, rfl, rfl, ⟨h1, h2⟩, ⟨h3, h4⟩, ⟨h5, h6⟩, q⟩ := h
  obtain ⟨t, rfl⟩ := rx
  obtain ⟨t', rfl⟩ := ry
  have e1 : ¬ (n : Int) < 1 := by omega
  have e2 : ((n : Int) == 1 || z.length == 0) = false := by
    rw [Bool.or_eq_false_iff]
    exact ⟨by simpa using by omega, by simpa using by omega⟩
  refine P.mul_str ?_ (fun _ _ => ?_) (fun _ _ => by rw [Int.toNat_natCast]; exact h5) ?_
  · rw [Bool.or_eq_false_iff]
    exact ⟨decide_eq_false (by omega), decide_eq_false (by omega)⟩
  · have h7 : (2 ^ 20 : Int) ≤ (2 ^ 63 - 1) / (n : Int) := Int.le_ediv_of_mul_le (by omega) (by omega)
    omega
  · rw [if_neg e1, e2, Int.toNat_natCast]
    exact ⟨h6, .str (repS z n), H, I.tok _, ⟨_, rfl⟩, q⟩
section
variable {B : Hp} {L : Own} {K : PySem.W.Frag} {σ : St} {Q : VK} {z : Str} {n : Nat} {ta tb : TE}
theorem n_mulS (h1 : 1 < n ∧ n < 2 ^ 30) (h2 : 0 < z.length ∧ z.length < 2 ^ 20) (h3 : Builtin.Str.tooLong (z.length * n) = false ∧ (repS z n).length ≤ sizeLine) (q : N B L (Q (.str (repS z n)))) : N B L (fun H => rMulS (.str z) (.int n) H Q) := fun H s => ⟨z, n, rfl, rfl, h1, h2, h3, q H s⟩
theorem n_orT (q : N B L (fun H => ta σ H fun x H1 => ∃ k, TruV K x H1 k ∧ if k = true then Q x H1 else tb σ H1 Q)) : N B L (fun H => tOrT K ta tb σ H Q) := q
theorem n_orS {k : Str → Hp → Prop} {k2 : Hp → Prop} (hz : z.length ≤ sizeLine) (q1 : z.length ≠ 0 → N B L (k z)) (q2 : z.length = 0 → N B L k2) : N B L (fun H => ∃ c, TruV K (.str z) H c ∧ if c = true then k z H else k2 H) := by
  intro H s
  by_cases h : z.length = 0
  · exact ⟨false, ⟨hz, by rw [h]; rfl⟩, q2 h H s⟩
  · refine ⟨true, ⟨hz, ?_⟩, q1 h H s⟩
    symm
    simpa using h
variable {g : TG} {tt : TT} {te : TE} {vs : List Nat}
/-- [e for sign in text if t] -/
theorem n_lcS (Pv : Nat → List V → Own → Prop) (h0 : Pv 0 [] L)
    (hs : ∀ i acc L D (hi : i < z.cps.toList.length), Pv i acc L → N B ((D, .lst acc) :: L) (fun H => g (.str ⟨#[z.cps.toList[i]]⟩) (wipe σ vs) H fun σ2 H2 => wipe σ2 vs = wipe σ vs ∧ tt σ2 H2 fun b H3 =>
      if b = true then te σ2 H3 (fun y H4 => ∃ acc, H4 D = some (.lst acc) ∧ acc.length < sizeLine ∧ (∃ L, SI B L (upd H4 D (.lst (acc ++ [y]))) ∧ ∃ a L', L = (D, .lst a) :: L' ∧ Pv (i + 1) a L')) else (∃ L, SI B L H3 ∧ ∃ a L', L = (D, .lst a) :: L' ∧ Pv (i + 1) a L')))
    (hd : ∀ acc L D, Pv z.cps.toList.length acc L → N B ((D, .lst acc) :: L) (Q (.ref D))) : N B L (fun H => ∃ x, V.str z = .str x ∧ Lc g tt te vs σ Q (Its x) H) := by
  intro H s
  refine ⟨z, rfl, ?_⟩
  refine lc_core (J := Its z) z.cps.toList.length (fun i => .str ⟨#[z.cps.toList.getD i 0]⟩) Pv (fun i acc L H p hi s => ?_) (fun acc L H p s => ?_) (fun i acc L H x H' p hi s h => ?_) h0 (fun i acc L D hi p => ?_) hd H s
  · show i < z.cps.size
    rwa [← Array.length_toList]
  · show z.cps.size ≤ _
    rw [← Array.length_toList]; exact Nat.le_refl _
  · obtain ⟨e, c, hc, hx⟩ := h
    refine ⟨e, ?_⟩
    rw [hx, List.getD_eq_getElem?_getD, Array.getElem?_toList, hc]; rfl
  · have e : z.cps.toList.getD i 0 = z.cps.toList[i] := by rw [List.getD_eq_getElem?_getD, List.getElem?_eq_getElem hi]; rfl
    show N B _ (fun H => g (.str ⟨#[z.cps.toList.getD i 0]⟩) (wipe σ vs) H _)
    rw [e]
    exact hs i acc L D hi p
end
end Sk
namespace Sk
open PySem PySem.Spec PyProof.Rows L2
section
variable {B : Hp} {L : Own} {K : PySem.W.Frag} {σ : St} {Q : VK} {z : Str}
theorem n_slS {lo hi : Option Int} (hz : z.length ≤ sizeLine) (q : N B L (Q (.str (cutS z lo hi)))) : N B L (fun H => rSlS (.str z) lo hi H Q) := fun H s => ⟨z, rfl, hz, q H s⟩
end
end Sk
/-! ### an own exception with a field: Broken(place); the making of it follows the guide's worked own error -/
namespace PySem
namespace BrkX
open PySem.W PySem.Calls PyProof.Rows PySem.HandSPX
/-! ### the text of __init__ -/
def iA (p1 p2 : Pos) : Arguments := { posonlyargs := [], args := [{ arg := "self", annotation := none, pos := p1 }, { arg := "place", annotation := none, pos := p2 }], vararg := none, kwonlyargs := [], kw_defaults := [], kwarg := none, defaults := [] }
def iB (q1 q2 q3 q4 : Pos) : List Stmt := [.Assign [.Attribute (.Name "self" q1) "place" q2] (.Name "place" q3) q4]
def iS : Scope := { kind := .function, names := [(PySem.Str.ofString "self", .local), (PySem.Str.ofString "place", .local)], isGenerator := false, isCoroutine := false, more := [] }
structure BrkTxt (K : Frag) (mg : Str → Option Value) (C fI : Addr) : Prop where
  gC : mg "Broken" = some (.ref C)
  cls : ∃ nm q N bs bm sn sub ab col dd k0 k1 k2 k3 k5, K.lookup C = some (excClassObj nm q C N bs bm true sn sub ab col dd k0 k1 k2 k3 k5 "ValueError.__new__") ∧ refsVE bm = true
  sa : findIn K (.ref C) "__setattr__" = some (some (.builtin "object.__setattr__"))
  ga : findIn K (.ref C) "__getattribute__" = some (some (.builtin "BaseException.__getattribute__"))
  gg : findIn K (.ref C) "__getattr__" = some none
  noN : findIn K (.ref C) "place" = some none
  iC : findIn K (.ref C) "__init__" = some (some (.ref fI))
  tC : typeIn K (.ref fI) = some (.type "function")
  kC : keepIn K (.ref C) = true
  exC : subIn K (.ref C) (.type "BaseException") = some true
  tyC : typeIn K (.ref C) = some (.type "type")
  hdC : hasDictIn K C = true
  fn : ∃ (oc : Value) (od : Option Addr) (doc pm : Value) (an : Option Addr) (cdv ct : Value) (osl : Array (Option Value)) (p1 p2 q1 q2 q3 q4 : Pos),
    K.lookup fI = some ⟨oc, od, .func (fnOf "__init__" "Broken.__init__" (iA p1 p2) (iB q1 q2 q3 q4) iS .none .none doc pm an cdv ct), osl⟩ ∧ codeIn K cdv "Broken.__init__" = true
theorem one_size (v : Value) : [v].length ≤ sizeLine := by
  rw [sizeLine_eq]
  exact (by decide : 1 ≤ 16777216)
theorem kept_but {K : Frag} {h h' : Heap} {x : Addr} (X : K.In h) (hx : K.lookup x = none) (k : ∀ b o, b ≠ x → h.get? b = some o → h'.get? b = some o) : K.In h' := fun a o e =>
  k a o (fun z => by rw [z, hx] at e; cases e) (X a o e)
theorem ldC {M : Model} {s : Shared} {name : Str} {scope : Scope} {L a : Addr} {cd : Value} {m : Str → Option Value} {x : Str} {pos : Pos} {v : Value} {Q : Value → Shared → Prop} {A : Around} {E : Value → Shared → Prop} (hn : s.heap.Ns L m) (hv : m x = some v) (h : Q v s)
    (hk : scope.kind = .function := by rfl) (hl : (envOfC name scope L a cd).kindOf x = some .local := by rfl) (hd : (x == ("__debug__" : Str)) = false := by decide) :
    wpAny M A (eval (.Name x pos) (envOfC name scope L a cd)) Q E s := wpAny_Name (wpAny_loadName_local hk hl hn hv h) hd
/-- what __init__ leaves of a fresh exception at x -/
structure InitEnd (h h' : Heap) (x C dx t1 : Addr) (v : Value) : Prop where
  keep : ∀ b o, b ≠ x → h.get? b = some o → h'.get? b = some o
  obj : h'.get? x = some { cls := .ref C, dict := some dx, data := .fields #[.ref t1, .none, .none, .none, .bool false, .none] }
  dbig : h.objs.size ≤ dx
  dne : dx ≠ x
  ns : h'.Ns1 dx (fun y => if y = "place" then some v else none)
/-- a made exception -/
structure OwnMade (h h' : Heap) (e C d : Addr) (v : Value) : Prop where
  keep : ∀ b o, h.get? b = some o → h'.get? b = some o
  new : h.objs.size ≤ e
  obj : ∃ t1 : Addr, h'.get? e = some { cls := .ref C, dict := some d, data := .fields #[.ref t1, .none, .none, .none, .bool false, .none] }
  dbig : h.objs.size ≤ d
  dne : d ≠ e
  ns : h'.Ns1 d (fun y => if y = "place" then some v else none)
section
variable {prog : Program} {w : World} {A : Around} {E : Value → Shared → Prop} {R : Result → Shared → Prop} {s : Shared} {K : Frag} {mg : Str → Option Value} {C fI : Addr}
theorem brk_init (T : BrkTxt K mg C fI) {x t0 : Addr} {v : Value} (X : K.In s.heap) (hlim : s.heap.NoLimit) (hx : s.heap.get? x = some (excO C t0)) (hnx : K.lookup x = none) (hroom : A.depth < recursionLimit)
    (hq : ∀ h' tk dx, InitEnd s.heap h' x C dx t0 v → R (.ok (.ret .none)) { s with heap := h', toks := tk }) :
    codeAny (model prog w) A (.call (.ref fI) ⟨[.ref x, v], []⟩) R s := by
  obtain ⟨oc, od, doc, pm, an, cdv, ct, osl, p1, p2, q1, q2, q3, q4, ho, hcd⟩ := T.fn
  obtain ⟨nm, q, N, bs, bm, sn, sub, ab, col, dd, k0, k1, k2, k3, k5, hC, hbm⟩ := T.cls
  have hcl : clsIn K C = some { name := nm, bases := bs, mro := .ref C :: bm, ns := N, qualname := q, hasDict := true, slotNames := sn, subclasses := sub, abstract := ab, collection := col, hasDel := false } := by unfold clsIn; rw [hC] <;> rfl
  refine Att.call_fn (binds := [("self", .ref x), ("place", v)]) X hlim ho hcd hroom (BindsTo.of_eq (by first | rfl | with_unfolding_all rfl)) (by first | rfl | decide | with_unfolding_all rfl) (fun s₁ IC => ?_) rfl rfl rfl
  obtain ⟨h₁, tk₁, rfl⟩ := IC.toInCall.same
  have k : ∀ b o, s.heap.get? b = some o → h₁.get? b = some o := IC.toInCall.keep
  have hn := IC.toInCall.ns
  have hxL : s.heap.objs.size ≠ x := Nat.ne_of_gt (Heap.lt_size hx)
  have X₁ : K.In h₁ := X.keeps k
  have hx₁ := k _ _ hx
  -- self.by = by
  show wpAny _ _ (execs _ _) _ _ _
  refine wpAny_execs_cons (plainObj_wpAny_Assign_Attribute ?_)
  refine ldC (v := v) hn (by first | rfl | with_unfolding_all rfl | kernel_rfl) (ldC (v := .ref x) hn (by first | rfl | with_unfolding_all rfl | kernel_rfl) ?_)
  refine set_plain X₁ (ox := excO C t0) (od := none) ⟨hx₁, rfl, rfl, trivial⟩ T.sa ?_
  refine exc_osa X₁ hx₁ hcl (show refsVE (.ref C :: bm) = true from hbm) rfl T.noN (fun h₃ tk₃ dx k₃ dn dne hx₃ hn₃ => ?_)
  show wpAny _ _ (execs _ _) _ _ _
  have z : s.heap.objs.size < h₁.objs.size := hn.lt
  exact wpAny_execs_nil (hq h₃ tk₃ dx ⟨fun b o hb e => k₃ b o hb (k b o e), hx₃, Nat.le_of_lt (Nat.lt_of_lt_of_le z dn), dne, hn₃⟩)
theorem brk_made (T : BrkTxt K mg C fI) {v : Value} (X : K.In s.heap) (hlim : s.heap.NoLimit) (hroom : A.depth + 1 < recursionLimit)
    (hq : ∀ h' tk e d, OwnMade s.heap h' e C d v → R (.ok (.ret (.ref e))) { s with heap := h', toks := tk }) :
    codeAny (model prog w) A (.call (.ref C) ⟨[v], []⟩) R s := by
  obtain ⟨nm, q, N, bs, bm, sn, sub, ab, col, dd, k0, k1, k2, k3, k5, hC, hbm⟩ := T.cls
  obtain ⟨hp, g, dr, tk, os⟩ := s
  have k : ∀ b o, hp.get? b = some o → ((hp.push (kdv_tup [v])).push (excO C hp.objs.size)).get? b = some o := fun b o e => Heap.get?_push_of_some _ (Heap.get?_push_of_some _ e)
  have hget : ((hp.push (kdv_tup [v])).push (excO C hp.objs.size)).get? (hp.objs.size + 1) = some (excO C hp.objs.size) := by heap_get
  have hnx : K.lookup (hp.objs.size + 1) = none := by
    cases e : K.lookup (hp.objs.size + 1) with
    | none => rfl
    | some o =>
      have z : hp.get? (hp.objs.size + 1) = some o := X _ _ e
      exact absurd (Nat.lt_of_succ_lt (Heap.lt_size z)) (Nat.lt_irrefl _)
  refine call_own F.excBase_ValueError (fun X => refsVE_contains X bm hbm) (X _ _ hC) (looks_findIn X T.iC) (fun self => bind_fn X self T.tC) (one_size v) ?_
  refine brk_init (s := ⟨(hp.push (kdv_tup [v])).push (excO C hp.objs.size), g, dr, tk, os⟩) T (X.keeps k) (hlim.keeps k) hget hnx ?_ fun h' tk' dx ⟨k', hx, dn, dne, hns⟩ => ?_
  · show A.depth + 1 < recursionLimit
    exact hroom
  · have old : ∀ b o, hp.get? b = some o → h'.get? b = some o := fun b o e => k' b o (Nat.ne_of_lt (Nat.lt_succ_of_lt (Heap.lt_size e))) (k b o e)
    have z : hp.objs.size + 1 + 1 ≤ dx := by
      first
        | (simpa only [Heap.size_push] using dn)
        | exact dn
        | (have q := dn; rw [Heap.size_push, Heap.size_push] at q; exact q)
    exact ⟨rfl, hq h' tk' (hp.objs.size + 1) dx ⟨old, Nat.le_succ _, ⟨_, hx⟩, Nat.le_trans (Nat.le_trans (Nat.le_succ _) (Nat.le_succ _)) z, dne, hns⟩⟩
end
end BrkX
end PySem
namespace L2
open PySem PySem.Spec PyProof.Rows
theorem relO_brk {v : V} {v' : Value} (r : RelV v v') (f : Str) : RelO (List.lookup f [(("place" : Str), v)]) (if f = "place" then some v' else none) := by
  by_cases hw : f = "place"
  · subst hw
    rw [if_pos rfl]
    have q : List.lookup ("place" : Str) [(("place" : Str), v)] = some v := by simp [List.lookup]
    rw [q]
    exact r
  · rw [if_neg hw]
    have qw : (f == ("place" : Str)) = false := by simpa using hw
    have q2 : List.lookup f [(("place" : Str), v)] = none := by simp [List.lookup, qw]
    rw [q2]
    trivial
section
variable {X : Cx} {C fI : Addr}
/-- Low(e) -/
def tMkBrk (C : Addr) (ta : TA) : St → Hp → XK → Prop := fun σ H Q => ta σ H fun vs H1 => ∃ v, vs = [v] ∧ ∀ d, H1 d = none → Q (.ref C) (some d) (upd H1 d (.xd [(("place" : Str), v)]))
theorem pmk_brk {a : Expr} {ta : TA} {p pos : Pos} {k : Nat} (T : PySem.BrkX.BrkTxt X.K X.mg C fI) (hr : Room k X.A) (ha : PA X [a] ta) (hg : Gl X "Broken" := by rfl)
    (he : starEach (a :: []) X.env = (false, eval a X.env) :: starEach [] X.env := by rfl) (hpl : (backTo pos (starEach [] X.env)).any (·.1) = false := by rfl) :
    L2N.PMk X (.Call (.Name "Broken" p) [a] [] pos) (tMkBrk C ta) := by
  intro pins s σ H Q I h
  refine wpAny_Call_Name_kw (ld_glob I hg T.gC ?_)
  refine PySem.W.callWith_K (h₀ := X.base) I.ok.mod.kin T.kC (thn (ha.run pos pins s σ H _ I h) fun us s1 hh => ?_) he hpl
  obtain ⟨vs, H1, I1, r1, v, ev, q1⟩ := hh
  subst ev
  refine ⟨I1.kIn, ?_⟩
  cases r1 with
  | cons rv rn =>
    rename_i v' us'
    cases rn
    show wpAny _ _ (call (.ref C) [v']) _ _ _
    have hlim := I1.nolimit
    obtain ⟨hp, g, dr, tk, os⟩ := s1
    refine wpAny_call (PySem.BrkX.brk_made T I1.kIn hlim (by have := hr.dp; omega) fun h' tk' e d M => ?_)
    show L2N.MkP X pins σ Q (.ref e) ⟨h', g, dr, tk', os⟩
    obtain ⟨t1, hoe⟩ := M.obj
    have hns := M.ns
    obtain ⟨G', g1, g2⟩ := restrict h' fun b => decide (b ≠ e)
    have gk : ∀ b, b ≠ e → G'.get? b = h'.get? b := fun b hb => g1 b (decide_eq_true hb)
    have ge : G'.get? e = none := g2 e (by simp)
    have old : ∀ b o, hp.get? b = some o → G'.get? b = some o := fun b o q => (gk b (Nat.ne_of_lt (Nat.lt_of_lt_of_le (Heap.lt_size q) M.new))).trans (M.keep b o q)
    have ob : ObjOk X.prog X.w (upd H1 d (.xd [(("place" : Str), v)])) G' d (.xd [(("place" : Str), v)]) :=
      ⟨_, hns.at (fun o q => (gk d M.dne).trans q), fun f => relO_brk rv f⟩
    have J : Inv X pins σ (upd H1 d (.xd [(("place" : Str), v)])) ⟨G', g, dr, tk', os⟩ := I1.laid (t' := tk') old M.dbig ob
    refine ⟨e, _, _, ⟨G', g, dr, tk', os⟩, _, .ref C, some d, rfl, J, fun b o q => ?_, ge, hoe, ⟨rfl, rfl, fun vs e => by cases e; rfl⟩, rfl, rfl, ?_, rfl, I1.bare, raises_own T.exC T.tyC, q1 d (I1.hok.fresh M.dbig)⟩
    · by_cases hb : b = e
      · have q' : G'.get? b = some o := q
        rw [hb, ge] at q'; cases q'
      · exact (gk b hb).symm.trans q
    · rw [upd_ne (Ne.symm M.dne)]
      exact I1.hok.fresh M.new
end
end L2
namespace PySem.W
open PySem PySem.Spec PySem.Calls PyProof.Rows
section
variable {prog : Program} {w : World} {A : Around} {E : Value → Shared → Prop} {s : Shared} {K : Frag} {x D : Addr} {ox : Obj} {od : Option Obj}
theorem brk_dataN {C : Addr} {name : Str} {a g : Value} (hc : (clsIn K C).isSome = true) (ha : findIn K (.ref C) name = some (some a)) (hg : specialIn K a "__get__" = some (some g)) (ht : takesIn K a = some true) : findObj K C od name = some (.bind g a) := by
  obtain ⟨cd, hc⟩ := Option.isSome_iff_exists.mp hc
  unfold findObj
  rw [hc, Option.bind_some, ha, Option.bind_some]
  simp [hg, ht]
theorem brk_classE {Q : Option Value → Shared → Prop} (hga : findIn K (.ref D) "__getattribute__" = some (some (.builtin "BaseException.__getattribute__"))) (hgt : findIn K (.ref D) "__getattr__" = some none) (hsub : subIn K (.ref D) (.type "BaseException") = some true)
    (hdct : hasDictIn K D = true) (ha : findIn K (.ref D) "__class__" = some (some (.builtin "object.__class__")))
    (hn : specialIn K (.builtin "object.__class__") "__get__" = some (some (.builtin "getset_descriptor.__get__"))) (htk : takesIn K (.builtin "object.__class__") = some true) (hm : mroIn K D (.type "object") = some true)
    (X : K.In s.heap) (I : InstAt s.heap x ox D od) (h : Q (some (.ref D)) { s with toks := s.toks + 1 }) : wpAny (model prog w) A (getAttr? (.ref x) "__class__") Q E s := by
  have hf : findObj K D od "__class__" = some (.bind (.builtin "getset_descriptor.__get__") (.builtin "object.__class__")) := brk_dataN (by obtain ⟨cd, hc, _⟩ := any_some hdct; rw [hc]; rfl) ha hn htk
  obtain ⟨hp, g, d, t, os⟩ := s
  have L0 := I.type (M := model prog w)
  have L1 := looks_findIn (M := model prog w) X hga
  have L2 := looks_findIn (M := model prog w) X hgt
  have L3 := looks_find (M := model prog w) X I hf
  have sub : Looks (model prog w) hp (isInstance (.ref x) (.type "BaseException")) true := L0.andThen (looks_subIn X hsub)
  have hx0 : (false && onTheHeap (Value.builtin "BaseException.__getattribute__")) = false := rfl
  have hx2 : (Value.builtin "BaseException.__getattribute__" == Value.builtin "object.__getattribute__") = false := by decide +kernel
  have hx1 : (onTheHeap (Value.ref D) && Value.builtin "BaseException.__getattribute__" == Value.builtin "object.__getattribute__") = false := by rw [hx2]; rfl
  unfold getAttr? getAttrBy? getAttrBy
  refine wpAny_bind (wpAny_mkText (wpAny_bind (wpAny_attempt (wpAny_holding (wpAny_bind (L0.at (wpAny_bind (L1.at ?_))))))))
  show wpAny _ _ (if (onTheHeap (Value.ref D) && Value.builtin "BaseException.__getattribute__" == Value.builtin "object.__getattribute__") = true then _ else _) _ _ _
  rw [hx1, if_neg Bool.false_ne_true]
  unfold getAttrByItsOwn hookBefore
  refine wpAny_bind ?_
  rw [if_pos (show onTheHeap (Value.ref D) = true from rfl)]
  refine L2.at ?_
  refine wpAny_bind (wpAny_attempt (wpAny_holding ?_))
  unfold callGetattribute
  rw [hx0, if_neg Bool.false_ne_true]
  unfold boundAndCalled
  rw [PySem.F.excAttr_ValueError.ga.bind (.ref x)]
  refine wpAny_bind (wpAny_pure ?_)
  show wpAny _ _ (call (.builtin "BaseException.__getattribute__") [.ref x, .str "__class__" t]) _ _ _
  refine wpAny_call (codeAny_call_builtin PySem.F.excAttr_ValueError.ga.plain PySem.F.entry_bexc_ga ?_)
  refine @check_slot (model prog w) _ _ ⟨hp, g, d, t + 1, os⟩ "BaseException.__getattribute__" "BaseException" "__getattribute__" (.ref x) [.str "__class__" t] [] _ (by decide +kernel) (by decide +kernel) sub (PySem.F.args_bexc_ga (.ref x) (.str "__class__" t)) ?_
  unfold Builtin.«object.__getattribute__»
  refine wpAny_bind (wpAny_of_eq (a := ((Value.ref x : Value), [Value.str "__class__" t])) (by first | rfl | (simp only [slotArgs]; rfl)) ?_)
  refine wpAny_bind (wpAny_pure (wpAny_bind (L0.at (wpAny_bind (L3.at ?_)))))
  show wpAny _ _ (holding [Value.builtin "object.__class__"] (call (.builtin "getset_descriptor.__get__") [.builtin "object.__class__", .ref x, .ref D]) >>= ret) _ _ _
  refine wpAny_bind (wpAny_holding (wpAny_call (class_get (s := ⟨hp, g, d, t + 1, os⟩) (ox := ox) (od := od) X I hm ?_)))
  refine wpAny_pure ?_
  show wpAny _ _ (handedOut (.ref D)) _ _ _
  rw [handedOut_of (v := .ref D) rfl]
  first
    | exact wpAny_pure (wpAny_pure h)
    | exact wpAny_pure h
    | exact wpAny_pure (wpAny_bind (wpAny_pure (wpAny_pure h)))
theorem brk_kitx (hga : findIn K (.ref D) "__getattribute__" = some (some (.builtin "BaseException.__getattribute__"))) (hgt : findIn K (.ref D) "__getattr__" = some none) (hsub : subIn K (.ref D) (.type "BaseException") = some true) (hdct : hasDictIn K D = true) (ha : findIn K (.ref D) "__class__" = some (some (.builtin "object.__class__")))
    (hn : specialIn K (.builtin "object.__class__") "__get__" = some (some (.builtin "getset_descriptor.__get__"))) (htk : takesIn K (.builtin "object.__class__") = some true) (hm : mroIn K D (.type "object") = some true) :
    KitX K (.ref x) (.ref D) (fun h => ∃ od, InstAt h x ox D od) where
  ty := fun _ _ _ ⟨_, I⟩ => I.type
  it := fun _ _ X _ => by
    obtain ⟨cdD, hcD, _⟩ := any_some hdct
    unfold clsIn at hcD
    split at hcD
    · rename_i c' d' cd' sl' ho
      intro A' Q' E' s' k q
      unfold isType loadHead
      exact wpAny_bind (wpAny_loadPart (k _ _ (X _ _ ho)) (wpAny_pure q))
    · cases hcD
  ne := fun h tp dd its n sl X htp => by
    obtain ⟨cdD, hcD, _⟩ := any_some hdct
    refine Bool.eq_false_iff.mpr fun q => ?_
    have e : D = tp := Value.ref.inj (beq_iff_eq.mp q)
    subst e
    unfold clsIn at hcD
    split at hcD
    · rename_i c' d' cd' sl' ho
      have z := (X _ _ ho).symm.trans htp
      cases z
    · cases hcD
  ca := fun X ⟨_, I⟩ k => brk_classE hga hgt hsub hdct ha hn htk hm X I k
end
end PySem.W
namespace Sk
open PySem PySem.Spec PyProof.Rows L2
/-! ### an exception with a field, its dict at d -/
/-- isinstance(e, c) or isinstance(e, (c, ..)), e held at a, its dict at d -/
def rIsXd (K : PySem.W.Frag) (a : Addr) (cls : Value) (d : Option Addr) : List V → Hp → VK → Prop := fun xs H Q => ∃ (D dd : Addr) (fs : List (Str × V)) (c : V), cls = .ref D ∧ d = some dd ∧ H dd = some (.xd fs) ∧ ExcC K D ∧ xs = [.ref a, c] ∧
  ((∃ cv b, (∀ u, RelV c u → u = cv) ∧ PySem.W.kitOne K (.ref D) cv = some b ∧ Q (.bl b) H) ∨ ∃ tp cs us b, c = .ref tp ∧ H tp = some (.tup cs) ∧ Paired ClsV cs us ∧ PySem.W.kitAny K (.ref D) us = some b ∧ Q (.bl b) H)
theorem call_isXd {X : Cx} {a : Addr} {oe : Obj} {pn : List (Addr × Obj)} {cls : Value} {d : Option Addr} (hz : Zc cls d oe) (hf : ∃ vs, oe.data = .fields vs) : CallR (X.suite a ((a, oe) :: pn)) (.builtin "isinstance") (rIsXd X.K a cls d) := by
  intro pins s σ H xs us Q I r h
  obtain ⟨D, dd, fs, c, rfl, rfl, hdd, C, rfl, h⟩ := h
  cases r with
  | cons rx rr =>
    cases rr with
    | cons rt rr =>
      cases rr
      cases rx
      obtain ⟨hget, _⟩ := I.pin (a, oe) (List.mem_append.mpr (.inl List.mem_cons_self))
      obtain ⟨vs, hv⟩ := hf
      have hx : ObjOk X.prog X.w H s.heap dd (.xd fs) := I.hok dd _ hdd
      obtain ⟨mA, hns, _⟩ := hx
      obtain ⟨od, ho, _⟩ := lookIn_ns hns
      have J : PySem.W.InstAt s.heap a oe D (some od) := ⟨hget, hz.1, by unfold PySem.W.notCls; rw [hv] <;> rfl, by rw [hz.2]; exact ho⟩
      rcases h with ⟨cv, b, hcv, e, q⟩ | ⟨tp, cs, us, b, rfl, hT, k, e, q⟩
      · have ec := hcv _ rt
        subst ec
        exact PySem.W.kia_one (PySem.W.brk_kitx C.hg C.hk C.hs C.hd C.ha C.hn C.ht C.hm) I.kIn ⟨_, J⟩ e (fun z => nomatch z) fun tk => ⟨.bl b, H, I.kept (t' := tk) fun _ _ z => z, rfl, q⟩
      · cases rt
        obtain ⟨_, its, rv, o, h1, h2, n, h3⟩ := (show ObjOk X.prog X.w H s.heap tp (.tup cs) from I.hok tp _ hT)
        have e3 := ClsV.all k rv
        subst e3
        obtain ⟨oc, od, dt, sl⟩ := o
        simp only at h2 h3
        subst h2 h3
        exact PySem.W.kia_tup (PySem.W.brk_kitx C.hg C.hk C.hs C.hd C.ha C.hn C.ht C.hm) I.kIn ⟨_, J⟩ h1 e (fun z => nomatch z) fun tk => ⟨.bl b, H, I.tok tk, rfl, q⟩
/-- .. with a dict or without -/
def rIsXa (K : PySem.W.Frag) (a : Addr) (cls : Value) (d : Option Addr) : List V → Hp → VK → Prop := fun xs H Q => rIsX K a cls d xs H Q ∨ rIsXd K a cls d xs H Q
theorem call_isXa {X : Cx} {a : Addr} {oe : Obj} {pn : List (Addr × Obj)} {cls : Value} {d : Option Addr} (hz : Zc cls d oe) (hf : ∃ vs, oe.data = .fields vs) : CallR (X.suite a ((a, oe) :: pn)) (.builtin "isinstance") (rIsXa X.K a cls d) := (call_isX hz hf).or (call_isXd hz hf)
section
variable {K : PySem.W.Frag} {B : Hp} {L : Own} {Q : VK} {σ : St} {a C D tp dd : Addr} {b : Bool} {cs : List V} {us : List Value} {fs : List (Str × V)} {v : V} {xs : List V}
theorem n_isXn {d : Option Addr} {cls : Value} (q : N B L (fun H => rIsX K a cls d xs H Q)) : N B L (fun H => rIsXa K a cls d xs H Q) := fun H s => .inl (q H s)
theorem n_isXd1 (X : ExcC K D) (hd : Is B L dd (.xd fs)) (h : PySem.W.kitOne K (.ref D) (.ref C) = some b) (q : N B L (Q (.bl b))) : N B L (fun H => rIsXa K a (.ref D) (some dd) [.ref a, .ref C] H Q) := fun H s => .inr ⟨D, dd, fs, _, rfl, rfl, hd H s, X, rfl, .inl ⟨_, b, fun _ r => r, h, q H s⟩⟩
theorem n_isXd2 {T : String} (X : ExcC K D) (hd : Is B L dd (.xd fs)) (h : PySem.W.kitOne K (.ref D) (.type T) = some b) (q : N B L (Q (.bl b))) : N B L (fun H => rIsXa K a (.ref D) (some dd) [.ref a, .ty T] H Q) := fun H s => .inr ⟨D, dd, fs, _, rfl, rfl, hd H s, X, rfl, .inl ⟨_, b, fun _ r => r, h, q H s⟩⟩
theorem n_isXdT (X : ExcC K D) (hd : Is B L dd (.xd fs)) (ht : Is B L tp (.tup cs)) (hp : Paired ClsV cs us) (h : PySem.W.kitAny K (.ref D) us = some b) (q : N B L (Q (.bl b))) : N B L (fun H => rIsXa K a (.ref D) (some dd) [.ref a, .ref tp] H Q) :=
  fun H s => .inr ⟨D, dd, fs, _, rfl, rfl, hd H s, X, rfl, .inr ⟨tp, cs, us, b, rfl, ht H s, hp, h, q H s⟩⟩
/-- raise Broken(e) -/
def tRsB (C : Addr) (W : WX) (ta : TA) : TS := fun _ σ H => tMkBrk C ta σ H fun cls d H' => W cls d σ H'
theorem ps_rsB {X : Cx} {C fI : Addr} {e : Expr} {ta : TA} {W : WX} {p pos pos2 : Pos} {k : Nat} (hc : X.calm = true) (T : PySem.BrkX.BrkTxt X.K X.mg C fI) (hr : Room k X.A) (tk : L2N.Takes X W) (ha : PA X [e] ta) (hg : Gl X "Broken" := by rfl)
    (he : starEach (e :: []) X.env = (false, eval e X.env) :: starEach [] X.env := by rfl) (hpl : (backTo pos (starEach [] X.env)).any (·.1) = false := by rfl) :
    PS X (.Raise (some (.Call (.Name "Broken" p) [e] [] pos)) none pos2) (tRsB C W ta) := L2N.ps_raise hc tk (pmk_brk T hr ha hg he hpl)
theorem n_rsB {W : WX} {ta : TA} {D : Ends} (q : N B L (fun H => ta σ H fun vs H1 => ∃ v, vs = [v] ∧ ∀ d, H1 d = none → W (.ref C) (some d) σ (upd H1 d (.xd [(("place" : Str), v)])))) : N B L (fun H => tRsB C W ta D σ H) := q
theorem n_mkB {W : WX} (q : ∀ d, N B ((d, .xd [(("place" : Str), v)]) :: L) (fun H => W (.ref C) (some d) σ H)) : N B L (fun H => ∃ v', [v] = [v'] ∧ ∀ d, H d = none → W (.ref C) (some d) σ (upd H d (.xd [(("place" : Str), v')]))) := fun H s => ⟨v, rfl, fun d hd => q d _ (s.new hd)⟩
theorem n_xf {f : Str} {te : TE} (q : N B L (fun H => te σ H fun x H1 => x = .ref a ∧ Value.ref C = .ref C ∧ ∃ (e : Addr) (fs : List (Str × V)) (v : V), some dd = some e ∧ H1 e = some (.xd fs) ∧ fs.lookup f = some v ∧ Q v H1)) : N B L (fun H => tXf a (.ref C) (some dd) C f te σ H Q) := q
theorem n_xfE {f : Str} (hd : Is B L dd (.xd fs)) (hl : fs.lookup f = some v) (q : N B L (Q v)) : N B L (fun H => V.ref a = .ref a ∧ Value.ref C = .ref C ∧ ∃ (e : Addr) (fs : List (Str × V)) (v : V), some dd = some e ∧ H e = some (.xd fs) ∧ fs.lookup f = some v ∧ Q v H) := fun H s => ⟨rfl, rfl, dd, fs, v, rfl, hd H s, hl, q H s⟩
end
end Sk
namespace Sk
open PySem PySem.Spec PyProof.Rows L2
/-! ### defs called within an except suite -/
structure OkH (P : Program) (w : World) (K : PySem.W.Frag) (mg : Str → Option Value) (base : Heap) (CX : CXT) (k : Nat) (x : Str) (ps : List Str) (sp : Sp) : Prop where
  ex : ∃ f fd, L2H.FnH P w K mg base CX k f fd ps sp ∧ mg x = some (.ref f) ∧ PySem.W.keepIn K (.ref f) = true ∧ Binds K fd ps []
theorem pe_clH {X : Cx} {CX : CXT} {k : Nat} {x : Str} {ps : List Str} {sp : Sp} {p pos : Pos} {e : Expr} {es : List Expr} {t : TA} {E : St → XK} (O : OkH X.prog X.w X.K X.mg X.base CX k x ps sp) (hr : L2H.RoomH k X.A) (hc : L2H.HotC X) (hg : Gl X x) (hx : ∀ σ, PassesAt CX X σ (E σ)) (ha : PA X (e :: es) t) (hdb : (x == ("__debug__" : Str)) = false := by decide)
    (he : starEach (e :: es) X.env = (false, eval e X.env) :: starEach es X.env := by rfl) (hpl : (backTo pos (starEach es X.env)).any (·.1) = false := by rfl) : PE X (.Call (.Name x p) (e :: es) [] pos) (tCl sp E t) := by
  obtain ⟨f, fd, F, g, kp, b⟩ := O.ex
  exact L2H.pe_callH F hr hc hg g kp b hx ha hdb he hpl
theorem okH {P : Program} {w : World} {K : PySem.W.Frag} {mg : Str → Option Value} {base : Heap} {x qual : Str} {st : Stmt} {f : Addr} {fd : FuncData} {N ps : List Str} {k : Nat} {sp : Sp} (F : Fun K x qual st f fd) (S : FnScope N ps (defScope st)) (len : ∀ vs H Q E, sp vs H Q E → vs.length = ps.length)
    (hbody : ∀ (cdv : Value) (A : Around) (outer : List Env) (s : Shared) (H : Hp) (vs : List V) (Q : VK) (E : XK) (p : Addr × Obj), L2H.Hot1 A p → L2H.RoomH k (A.deeper (envOfC qual (defScope st) s.heap.objs.size f cdv)) → sp vs H Q E →
      ∃ t, PSs (L2H.cxH CX0 P w K mg base N qual (defScope st) f cdv A outer s H E p) (defBody st) t ∧ t { nx := fun _ H' => Q .non H', rt := Q } (start N vs) H) : L2H.FnH P w K mg base CX0 (k + 1) f fd ps sp := by
  obtain ⟨oc, od, kV, doc, pm, an, cdv, ct, osl, rfl, lk, hcd⟩ := F.ex
  exact L2H.fn_ofH lk hcd S len fun A outer s H vs Q E p hot hr hsp => hbody cdv A outer s H vs Q E p hot hr hsp
theorem hot_of {X : Cx} {a : Addr} {oe : Obj} {pn : List (Addr × Obj)} {cls : Value} {d : Option Addr} (hz : L2N.Zn cls d oe) (hf : ∃ vs, oe.data = .fields vs) : L2H.HotC (X.suite a ((a, oe) :: pn)) := by
  obtain ⟨vs, hd⟩ := hf
  exact ⟨(a, oe), ⟨rfl, vs, hd, hz.2.2 vs hd⟩, List.mem_cons_self⟩
end Sk
namespace Gk44
open PySem PySem.Spec PyProof.Rows L2 Sk
local macro_rules | `(tactic| walk_at "sk bs") => `(tactic| (simp only [Bool.not_true, Bool.not_false, Bool.or_false, Bool.false_or, Bool.or_true, Bool.true_or, Bool.and_true, Bool.true_and, Bool.and_false, Bool.false_and, Bool.or_self, Bool.and_self, decide_true, decide_false, eq_self, bne_self_eq_false, beq_self_eq_true]))
local macro_rules | `(tactic| walk_at "sk om") => `(tactic| ((try simp only [Bool.not_eq_false', Bool.not_eq_true', Bool.and_eq_true, Bool.or_eq_true, Bool.and_eq_false_iff, Bool.or_eq_false_iff, decide_eq_true_eq, decide_eq_false_iff_not, Bool.not_true, Bool.not_false, Bool.false_or, Bool.true_and, Bool.and_true, Bool.or_false, List.length_map, eq_self, Decidable.not_not, true_and, and_true, Bool.true_eq_false, Bool.false_eq_true, false_or, or_false]); all_goals omega))
local macro_rules | `(tactic| walk_at "sk ix") => `(tactic| first | exact own_ix 0 rfl | exact own_ix 1 rfl | exact own_ix 2 rfl | exact own_ix 3 rfl | exact own_ix 4 rfl | exact own_ix 5 rfl | exact own_ix 6 rfl | exact own_ix 7 rfl | exact own_ix 8 rfl | exact own_ix 9 rfl | exact own_ix 10 rfl | exact own_ix 11 rfl | fail "sk")
local macro_rules | `(tactic| walk_at "sk len") => `(tactic| ((first | refine sz_ok ?_ | refine sz_lt ?_ | skip); first | assumption | omega | ((try simp only [List.length_cons, List.length_nil, List.length_append, List.length_map, List.length_set, List.length_replicate, List.length_take, List.length_range, List.length_drop, List.length_reverse, List.length_tail]); first | done | omega)))
local macro_rules | `(tactic| walk_at "sk sd") => `(tactic| first | with_reducible assumption | omega | (simp only [Int.toNat_natCast]; first | omega | exact Or.inr ⟨by omega, by omega⟩ | exact Or.inl ⟨by omega, by omega⟩) | exact cpow1 (by omega) (by omega) | exact ⟨by omega, by omega⟩ | assumption | decide | exact rfl | exact Or.inl ⟨by omega, by omega⟩ | exact Or.inr ⟨by omega, by omega⟩ | exact ⟨by omega, by omega⟩ | fail "sk")
local macro_rules | `(tactic| walk_at "sk sq") => `(tactic| first | exact sq_own 0 rfl | exact sq_own 1 rfl | exact sq_own 2 rfl | exact sq_own 3 rfl | exact sq_own 4 rfl | exact sq_own 5 rfl | exact sq_own 6 rfl | exact sq_own 7 rfl | exact sq_own 8 rfl | exact sq_own 9 rfl | exact sq_own 10 rfl | exact sq_own 11 rfl | assumption | (apply sq_old; assumption) | (apply sq_old; apply SqL.of; assumption) | (apply is_sq; assumption) | (apply Sq.sub; (next => assumption); (next => walk_at "sk sub")) | (apply is_sq; apply Is.sub; (next => assumption); (next => walk_at "sk sub")) | (apply Sq.mono; (next => assumption); walk_at "sk sq") | fail "sk")
local macro_rules | `(tactic| walk_at "sk tp") => `(tactic| first | exact tp_own 0 rfl | exact tp_own 1 rfl | exact tp_own 2 rfl | exact tp_own 3 rfl | exact tp_own 4 rfl | exact tp_own 5 rfl | exact tp_own 6 rfl | exact tp_own 7 rfl | exact tp_own 8 rfl | exact tp_own 9 rfl | exact tp_own 10 rfl | exact tp_own 11 rfl | assumption | (apply tp_old; assumption) | (apply tp_old; apply SqT.of; assumption) | (apply Tp.sub; (next => assumption); (next => walk_at "sk sub")) | (apply Tp.mono; (next => assumption); walk_at "sk tp") | fail "sk")
local macro_rules | `(tactic| walk_at "sk is") => `(tactic| first | exact is_own 0 rfl | exact is_own 1 rfl | exact is_own 2 rfl | exact is_own 3 rfl | exact is_own 4 rfl | exact is_own 5 rfl | exact is_own 6 rfl | exact is_own 7 rfl | exact is_own 8 rfl | exact is_own 9 rfl | exact is_own 10 rfl | exact is_own 11 rfl | assumption | (apply is_old; assumption) | (apply Is.sub; (next => assumption); (next => walk_at "sk sub")) | (apply Is.mono; (next => assumption); walk_at "sk is") | fail "sk")
local macro_rules | `(tactic| walk_at "sk da") => `(tactic| first | assumption | exact da_int | exact da_str | exact da_bl | exact da_non | exact Da.nil (by assumption) | (apply Da.sub; (next => assumption); (next => walk_at "sk sub")) | (apply da_ints; walk_at "sk sq") | (apply Da.mono; (next => assumption); walk_at "sk da") | fail "sk")
local macro_rules | `(tactic| walk_at "sk sm") => `(tactic| first | assumption | exact (Same.refl _) | (refine Same.trans ?_ (by assumption); walk_at "sk sm") | fail "sk")
local macro_rules | `(tactic| walk_at "sk lk") => `(tactic| first | exact lk_hit | exact lk_nil | (refine (lk_miss (by decide +kernel)).trans ?_; walk_at "sk lk") | fail "sk")
local macro_rules | `(tactic| walk_at "sk pf") => `(tactic| first | exact pf_nil | exact pf_hit | (apply pf_miss; (next => decide +kernel); walk_at "sk pf") | fail "sk")
local macro_rules | `(tactic| walk_at "sk dd") => `(tactic| first | walk_at "sk da" | (apply da_tup; (next => walk_at "sk tp"); repeat (first | exact daA_nil | (apply daA_cons; (next => walk_at "sk dd")))) | (apply da_lst; (next => walk_at "sk sq"); repeat (first | exact daA_nil | (apply daA_cons; (next => walk_at "sk dd")))) | fail "sk")
local macro_rules | `(tactic| walk_at "sk pd") => `(tactic| first | exact Paired.nil | (apply Paired.cons; (next => first | exact ClsV.own _ | exact ClsV.ty _); walk_at "sk pd") | fail "sk")
local macro_rules | `(tactic| walk_at "sk sub") => `(tactic| first | exact List.Sublist.refl _ | exact List.nil_sublist _ | (refine List.Sublist.cons₂ _ ?_; walk_at "sk sub") | (refine List.Sublist.cons _ ?_; walk_at "sk sub") | fail "sk")
local macro_rules | `(tactic| walk_at "sk st") => `(tactic| with_reducible first
  | (apply n_chain2; (next => (with_unfolding_all intro hb Qb qb; (try simp only [decide_eq_true_eq, decide_eq_false_iff_not, Bool.not_eq_true', Bool.and_eq_true, Bool.or_eq_true] at hb); walk_at "sk stp"; with_unfolding_all exact qb)))
  | (refine n_c ?_) | (apply n_var; (next => with_unfolding_all exact rfl)) | (refine n_op ?_)
  | (refine n_asg ?_) | (refine n_cons ?_) | (refine n_nil ?_) | (refine n_test ?_) | (refine n_tB ?_) | (refine n_bl ?_) | (refine n_cb ?_) | (refine n_call ?_)
  | (refine n_add ?_) | (refine n_sub_ ?_)
  | (apply n_mod; (next => with_unfolding_all walk_at "sk sd")) | (apply n_div; (next => with_unfolding_all walk_at "sk sd"); (next => with_unfolding_all walk_at "sk sd"))
  | (apply n_mul; (next => with_unfolding_all walk_at "sk sd")) | (apply n_pow; (next => with_unfolding_all walk_at "sk sd"); (try simp only [Int.reduceToNat, Int.reducePow])) | (apply n_shl; (next => with_unfolding_all walk_at "sk sd")) | (apply n_shr; (next => with_unfolding_all walk_at "sk sd"))
  | (refine n_and1 ?_) | (refine n_and127 ?_) | (refine n_and_ ?_) | (refine n_bits ?_) | (refine n_bits2 ?_)
  | (apply n_eqSt; (next => with_unfolding_all exact rfl)) | (apply n_eqSf; (next => decide +kernel)) | (apply n_neSf; (next => with_unfolding_all exact rfl)) | (apply n_neSt; (next => decide +kernel))
  | (refine n_eq ?_) | (refine n_ne ?_) | (refine n_lt ?_) | (refine n_le ?_) | (refine n_gt ?_) | (refine n_ge ?_) | (refine n_eqS ?_) | (refine n_neS ?_) | (refine n_eqB ?_) | (refine n_neB ?_) | (refine n_isN0 ?_) | (refine n_isNr ?_) | (refine n_isNi ?_) | (refine n_notN0 ?_) | (refine n_notNr ?_) | (refine n_notNi ?_)
  | (refine n_un ?_) | (refine n_neg ?_) | (refine n_not ?_) | (refine n_notV ?_) | (refine n_chain ?_) | (refine n_chain3 ?_)
  | (refine n_lst ?_) | (refine n_tup ?_) | (apply n_lst2; (next => with_unfolding_all walk_at "sk len"); intro p) | (apply n_tup2; (next => with_unfolding_all walk_at "sk len"); intro p)
  | (apply n_lenLi; (next => with_unfolding_all walk_at "sk sq")) | (apply n_len; (next => with_unfolding_all walk_at "sk sq")) | (apply n_lenT; (next => with_unfolding_all walk_at "sk tp"))
  | (apply n_listOf; (next => with_unfolding_all walk_at "sk sq"); intro p)
  | (apply n_ixL; (next => with_unfolding_all walk_at "sk sq"); (next => with_unfolding_all exact rfl))
  | (apply n_ixT; (next => with_unfolding_all walk_at "sk tp"); (next => with_unfolding_all exact rfl))
  | (apply n_ixLast; (next => with_unfolding_all walk_at "sk sq"))
  | (apply n_ixLiN; (next => with_unfolding_all walk_at "sk sq"); (next => with_unfolding_all walk_at "sk sd"); (next => with_unfolding_all walk_at "sk sd"))
  | (apply n_ixLi; (next => with_unfolding_all walk_at "sk sq"); (next => with_unfolding_all walk_at "sk sd"); (next => with_unfolding_all walk_at "sk sd"))
  | (refine n_sl ?_) | (refine n_noPart ?_) | (refine n_part ?_) | (refine n_int ?_) | (apply n_slLi; (next => with_unfolding_all walk_at "sk sq"); intro p) | (apply n_slL; (next => with_unfolding_all walk_at "sk sq"); intro p)
  | (apply n_eqNil; (next => with_unfolding_all walk_at "sk sq"); (next => with_unfolding_all walk_at "sk is")) | (apply n_neNil; (next => with_unfolding_all walk_at "sk sq"); (next => with_unfolding_all walk_at "sk is"))
  | (apply n_eqLi; (next => with_unfolding_all walk_at "sk sq"); (next => with_unfolding_all walk_at "sk sq"))
  | (apply n_neLi; (next => with_unfolding_all walk_at "sk sq"); (next => with_unfolding_all walk_at "sk sq"))
  | (apply n_isi_int (b := true); (next => with_unfolding_all exact rfl)) | (apply n_isi_int (b := false); (next => with_unfolding_all exact rfl)) | (apply n_isi_bl (b := true); (next => with_unfolding_all exact rfl)) | (apply n_isi_bl (b := false); (next => with_unfolding_all exact rfl)) | (apply n_isi_str (b := true); (next => with_unfolding_all exact rfl)) | (apply n_isi_str (b := false); (next => with_unfolding_all exact rfl)) | (apply n_isi_non (b := true); (next => with_unfolding_all exact rfl)) | (apply n_isi_non (b := false); (next => with_unfolding_all exact rfl))
  | (apply n_isi_lst (b := true); (next => with_unfolding_all walk_at "sk is"); (next => with_unfolding_all exact rfl)) | (apply n_isi_lst (b := false); (next => with_unfolding_all walk_at "sk is"); (next => with_unfolding_all exact rfl)) | (apply n_isi_tup (b := true); (next => with_unfolding_all walk_at "sk is"); (next => with_unfolding_all exact rfl)) | (apply n_isi_tup (b := false); (next => with_unfolding_all walk_at "sk is"); (next => with_unfolding_all exact rfl))
  | (refine n_unf ?_)
  | (refine n_next ?_; try dsimp only [onE_nx, onE_rt, onE_bk, onE_ct, loE_nx, loE_rt, loE_bk, loE_ct, endE_rt, endE_nx, asE_nx, asE_rt, asE_bk, asE_ct]) | (refine n_ret ?_; try dsimp only [onE_nx, onE_rt, onE_bk, onE_ct, loE_nx, loE_rt, loE_bk, loE_ct, endE_rt, endE_nx, asE_nx, asE_rt, asE_bk, asE_ct]) | (refine n_retN ?_; try dsimp only [onE_nx, onE_rt, onE_bk, onE_ct, loE_nx, loE_rt, loE_bk, loE_ct, endE_rt, endE_nx, asE_nx, asE_rt, asE_bk, asE_ct]) | (refine n_if ?_) | (refine n_drop ?_) | (refine n_seqNext ?_) | (refine n_seqBrk ?_; try dsimp only [onE_nx, onE_rt, onE_bk, onE_ct, loE_nx, loE_rt, loE_bk, loE_ct, endE_rt, endE_nx, asE_nx, asE_rt, asE_bk, asE_ct]) | (refine n_seqCont ?_; try dsimp only [onE_nx, onE_rt, onE_bk, onE_ct, loE_nx, loE_rt, loE_bk, loE_ct, endE_rt, endE_nx, asE_nx, asE_rt, asE_bk, asE_ct])
  | (apply n_aug; (next => with_unfolding_all exact rfl)) | (refine n_ip ?_)
  | (refine n_asgS ?_) | (refine n_asgT ?_) | (refine n_gCons ?_) | (refine n_gConsT ?_) | (refine n_gNil ?_) | (refine n_gName ?_) | (apply n_gTup; (next => with_unfolding_all walk_at "sk tp"); (next => with_unfolding_all exact rfl))
  | (refine n_bm ?_) | (apply n_tyL; (next => with_unfolding_all walk_at "sk sq"))
  | (apply n_appendLi; (next => with_unfolding_all walk_at "sk ix"); (next => with_unfolding_all walk_at "sk len"))
  | (apply n_setLi; (next => with_unfolding_all walk_at "sk ix"); (next => with_unfolding_all walk_at "sk sd"); (next => with_unfolding_all walk_at "sk sd"))
  | (apply n_extendLi; (next => with_unfolding_all walk_at "sk ix"); (next => with_unfolding_all walk_at "sk is"); (next => with_unfolding_all walk_at "sk len")) | (refine n_iR3 ?_)
  | (apply n_catLi; (next => with_unfolding_all walk_at "sk is"); (next => with_unfolding_all walk_at "sk is"); (next => with_unfolding_all walk_at "sk len"); intro p)
  | (apply n_cat; (next => with_unfolding_all walk_at "sk is"); (next => with_unfolding_all walk_at "sk is"); (next => with_unfolding_all walk_at "sk len"); intro p)
  | (apply n_append; (next => with_unfolding_all walk_at "sk ix"); (next => with_unfolding_all walk_at "sk len"))
  | (apply n_setL; (next => with_unfolding_all walk_at "sk ix"); (next => with_unfolding_all exact rfl))
  | (refine n_for ?_) | (refine n_iList ?_) | (refine n_iTup ?_) | (refine n_iR1 ?_) | (refine n_iR2 ?_) | (refine n_iE ?_) | (refine n_iV ?_) | (refine n_iZ ?_) | (refine n_iZR ?_) | (refine n_lc ?_) | (refine n_lcX ?_) | (refine n_yes ?_) | (apply n_wiped; (next => with_unfolding_all exact rfl))
  | (apply n_inLi; (next => with_unfolding_all walk_at "sk sq")) | (apply n_niLi; (next => with_unfolding_all walk_at "sk sq")) | (apply n_count; (next => with_unfolding_all walk_at "sk sq"))
  | (refine n_iteT ?_) | (refine n_iteF ?_) | (apply n_iteFe; (next => with_unfolding_all exact rfl)) | (apply n_iteTe; (next => with_unfolding_all exact rfl))
  | (apply n_and; (next => (with_unfolding_all intro Qb qb; walk_at "sk stp"; with_unfolding_all exact qb)); (next => (with_unfolding_all intro hb Qb qb; (try simp only [decide_eq_true_eq, decide_eq_false_iff_not, Bool.not_eq_true', Bool.and_eq_true, Bool.or_eq_true] at hb); walk_at "sk stp"; with_unfolding_all exact qb)))
  | (apply n_or; (next => (with_unfolding_all intro Qb qb; walk_at "sk stp"; with_unfolding_all exact qb)); (next => (with_unfolding_all intro hb Qb qb; (try simp only [decide_eq_true_eq, decide_eq_false_iff_not, Bool.not_eq_false', Bool.and_eq_true, Bool.or_eq_true] at hb); walk_at "sk stp"; with_unfolding_all exact qb)))
  | (apply n_andV; (next => (with_unfolding_all intro Qb qb; walk_at "sk stp"; with_unfolding_all exact qb)); (next => (with_unfolding_all intro hb Qb qb; (try simp only [decide_eq_true_eq, decide_eq_false_iff_not, Bool.not_eq_true', Bool.and_eq_true, Bool.or_eq_true] at hb); walk_at "sk stp"; with_unfolding_all exact qb)))
  | (apply n_orV; (next => (with_unfolding_all intro Qb qb; walk_at "sk stp"; with_unfolding_all exact qb)); (next => (with_unfolding_all intro hb Qb qb; (try simp only [decide_eq_true_eq, decide_eq_false_iff_not, Bool.not_eq_false', Bool.and_eq_true, Bool.or_eq_true] at hb); walk_at "sk stp"; with_unfolding_all exact qb)))
  | (refine n_cl ?_) | (refine n_mt ?_) | (refine n_mkk ?_) | (refine n_mkK ?_; intro x dx) | (apply n_mtK; (next => with_unfolding_all walk_at "sk is"); (next => with_unfolding_all walk_at "sk lk"))
  | (refine n_fld ?_) | (apply n_fldK; (next => with_unfolding_all walk_at "sk is"); (next => with_unfolding_all walk_at "sk cl"); (next => with_unfolding_all walk_at "sk na"); (next => with_unfolding_all walk_at "sk lk"))
  | (refine n_asgF ?_) | (apply n_sfK; (next => with_unfolding_all walk_at "sk ix"); (next => with_unfolding_all walk_at "sk cl"); (next => with_unfolding_all walk_at "sk na"); (next => with_unfolding_all walk_at "sk len"); (next => with_unfolding_all walk_at "sk pf"))
  | (refine n_asgFa ?_) | (apply n_faK; (next => with_unfolding_all walk_at "sk is"); (next => with_unfolding_all walk_at "sk cl"); (next => with_unfolding_all walk_at "sk na"); (next => with_unfolding_all walk_at "sk lk"))
  | (apply n_fa2; (next => with_unfolding_all walk_at "sk ix"); (next => with_unfolding_all walk_at "sk len"); (next => with_unfolding_all walk_at "sk pf"))
  | (refine n_tryT ?_) | (apply n_wCl; (next => with_unfolding_all walk_at "sk em"); intro ea) | (apply n_wClF; (next => with_unfolding_all walk_at "sk em")) | (refine n_iRL ?_) | (apply n_tupOf; (next => with_unfolding_all walk_at "sk sq"); intro p) | (apply n_dgT; (next => with_unfolding_all walk_at "sk is"); (next => with_unfolding_all walk_at "sk is"); (next => assumption))
  | (refine n_tryAs ?_) | (refine n_tryOn ?_) | (apply n_wAs; (next => with_unfolding_all walk_at "sk em"); intro ea) | (apply n_wOn; (next => with_unfolding_all walk_at "sk em"); intro ea)
  | (apply n_isX1; (next => with_unfolding_all walk_at "sk kx"); (next => with_unfolding_all walk_at "sk kit")) | (apply n_isX2; (next => with_unfolding_all walk_at "sk kx"); (next => with_unfolding_all walk_at "sk kit"))
  | (apply n_isXd1; (next => with_unfolding_all walk_at "sk kx"); (next => with_unfolding_all walk_at "sk is"); (next => with_unfolding_all walk_at "sk kit")) | (apply n_isXd2; (next => with_unfolding_all walk_at "sk kx"); (next => with_unfolding_all walk_at "sk is"); (next => with_unfolding_all walk_at "sk kit"))
  | (apply n_isXdT; (next => with_unfolding_all walk_at "sk kx"); (next => with_unfolding_all walk_at "sk is"); (next => with_unfolding_all walk_at "sk is"); (next => with_unfolding_all walk_at "sk pd"); (next => with_unfolding_all walk_at "sk kit"))
  | (refine n_isXn ?_) | (refine n_xf ?_) | (apply n_xfE; (next => with_unfolding_all walk_at "sk is"); (next => with_unfolding_all walk_at "sk lk"))
  | (apply n_isXT; (next => with_unfolding_all walk_at "sk kx"); (next => with_unfolding_all walk_at "sk is"); (next => with_unfolding_all walk_at "sk pd"); (next => with_unfolding_all walk_at "sk kit"))
  | (apply n_ixS; (next => with_unfolding_all walk_at "sk len"); (next => assumption))
  | (apply n_intS; (next => assumption); (next => with_unfolding_all walk_at "sk sd"))
  | (refine n_ckw ?_) | (apply n_maxDf; (next => with_unfolding_all walk_at "sk sq")) | (refine n_m1 ?_) | (refine n_isS ?_) | (refine n_inSg ?_) | (refine n_niSg ?_) | (refine n_iStr ?_) | (apply n_lenS; (next => with_unfolding_all walk_at "sk len")) | (apply n_strIs; (next => with_unfolding_all walk_at "sk sd"); (next => with_unfolding_all walk_at "sk sd"))
  | (apply n_dnew; intro p) | (apply n_dnewT; intro p) | (refine n_dget ?_) | (refine n_din ?_) | (refine n_dni ?_) | (refine n_asgD ?_) | (refine n_asgDa ?_) | (refine n_dg1 ?_) | (refine n_dg2 ?_) | (refine n_dp1 ?_)
  | (apply n_dgI; (next => with_unfolding_all walk_at "sk is"); (next => assumption)) | (apply n_dgS; (next => with_unfolding_all walk_at "sk is"); (next => assumption)) | (apply n_dgT; (next => with_unfolding_all walk_at "sk is"); (next => with_unfolding_all walk_at "sk is"); (next => assumption))
  | (apply n_dinI; (next => with_unfolding_all walk_at "sk is")) | (apply n_dinS; (next => with_unfolding_all walk_at "sk is")) | (apply n_dinT; (next => with_unfolding_all walk_at "sk is"); (next => with_unfolding_all walk_at "sk is"))
  | (apply n_dniI; (next => with_unfolding_all walk_at "sk is")) | (apply n_dniS; (next => with_unfolding_all walk_at "sk is")) | (apply n_dniT; (next => with_unfolding_all walk_at "sk is"); (next => with_unfolding_all walk_at "sk is"))
  | (apply n_dpI; (next => with_unfolding_all walk_at "sk ix"); (next => with_unfolding_all walk_at "sk len")) | (apply n_dpS; (next => with_unfolding_all walk_at "sk ix"); (next => with_unfolding_all walk_at "sk len")) | (apply n_dpT; (next => with_unfolding_all walk_at "sk ix"); (next => with_unfolding_all walk_at "sk is"); (next => with_unfolding_all walk_at "sk len"))
  | (refine n_rAdd ?_) | (refine n_rSub ?_) | (apply n_daI; (next => with_unfolding_all walk_at "sk is"); (next => assumption)) | (apply n_da2I; (next => with_unfolding_all walk_at "sk ix"); (next => with_unfolding_all walk_at "sk len"))
  | (apply n_dg1K; (next => with_unfolding_all walk_at "sk is")) | (refine n_dg1I (by walk_at "sk is") ?_) | (refine n_dg1S (by walk_at "sk is") ?_) | (apply n_dg2K; (next => with_unfolding_all walk_at "sk is")) | (apply n_dg2I; (next => with_unfolding_all walk_at "sk is")) | (apply n_dg2S; (next => with_unfolding_all walk_at "sk is"))
  | (apply n_dp1K; (next => with_unfolding_all walk_at "sk is")) | (apply n_dp1I; (next => with_unfolding_all walk_at "sk ix"); (next => assumption)) | (apply n_dp1S; (next => with_unfolding_all walk_at "sk ix"); (next => assumption))
  | (apply n_sortI; (next => with_unfolding_all walk_at "sk sq"); intro p) | (apply n_sum; (next => with_unfolding_all walk_at "sk sq")) | (refine n_bm0 ?_) | (apply n_popL; (next => with_unfolding_all walk_at "sk ix"))
  | (refine n_max2 ?_) | (refine n_min2 ?_) | (refine n_intI ?_) | (refine n_intB ?_)
  | (refine n_rs ?_) | (refine n_nonA ?_ rfl)
  | (refine n_orC ?_) | (refine n_andC ?_) | (refine n_orCV ?_) | (refine n_andCV ?_) | (refine n_orK ?_) | (refine n_andK ?_)
  | (apply n_iteFe; (next => walk_at "sk bs")) | (apply n_iteTe; (next => walk_at "sk bs")) | (apply n_iteFe; (next => with_unfolding_all walk_at "sk om")) | (apply n_iteTe; (next => with_unfolding_all walk_at "sk om"))
  | (dsimp only [onE_nx, onE_rt, onE_bk, onE_ct, loE_nx, loE_rt, loE_bk, loE_ct, endE_rt, endE_nx, asE_nx, asE_rt, asE_bk, asE_ct]))
local macro_rules | `(tactic| walk_at "sk mulW") => `(tactic| (with_reducible apply n_mulW; (next => (unfold CMulW; decide +kernel)); (try simp only [Int.reduceMul])))
local macro_rules | `(tactic| walk_at "sk stp") => `(tactic| repeat walk_at "sk st")
def topS (i : Nat) : Stmt := PySem.Challenge.pw_seekpress_k44_turned_bits_refused.main.body.getD i (.Pass ⟨0, 0, 0, 0⟩)
structure Ads where
  c_Bits : Addr
  c_NoBits : Addr
  c_NoBlock : Addr
  c_Heap : Addr
  c_NoCode : Addr
  c_NoRepeat : Addr
  c_Broken : Addr
  c_PressError : Addr
  c_NoText : Addr
  c_NoPlace : Addr
  a_KINDS : Addr
  i_Broken : Addr
structure Fct (K : PySem.W.Frag) (A : Ads) : Prop where
  cl_Bits : Cls K A.c_Bits
  n_Bits_at : NoAttr K A.c_Bits "at"
  n_Bits_row : NoAttr K A.c_Bits "row"
  cl_Heap : Cls K A.c_Heap
  n_Heap_deep : NoAttr K A.c_Heap "deep"
  n_Heap_things : NoAttr K A.c_Heap "things"
  e_NoBits : ExcC K A.c_NoBits
  m_NoBits_NoBits : PySem.W.exmOne K (.ref A.c_NoBits) (.ref A.c_NoBits) = some true
  m_NoBits_NoCode : PySem.W.exmOne K (.ref A.c_NoBits) (.ref A.c_NoCode) = some false
  m_NoBits_NoRepeat : PySem.W.exmOne K (.ref A.c_NoBits) (.ref A.c_NoRepeat) = some false
  m_NoBits_NoBlock : PySem.W.exmOne K (.ref A.c_NoBits) (.ref A.c_NoBlock) = some false
  m_NoBits_PressError : PySem.W.exmOne K (.ref A.c_NoBits) (.ref A.c_PressError) = some true
  mt_NoBits_0 : PySem.W.exmAny K (.ref A.c_NoBits) [(.ref A.c_NoBits), (.ref A.c_NoCode), (.ref A.c_NoRepeat)] = some true
  kk_NoBits_0 : PySem.W.kitOne K (.ref A.c_NoBits) (.ref A.c_Broken) = some false
  kk_NoBits_1 : PySem.W.kitAny K (.ref A.c_NoBits) [(.ref A.c_NoBlock), (.ref A.c_NoPlace), (.ref A.c_NoText)] = some false
  kk_NoBits_2 : PySem.W.kitOne K (.ref A.c_NoBits) (.type "ValueError") = some true
  e_NoBlock : ExcC K A.c_NoBlock
  m_NoBlock_NoBits : PySem.W.exmOne K (.ref A.c_NoBlock) (.ref A.c_NoBits) = some false
  m_NoBlock_NoCode : PySem.W.exmOne K (.ref A.c_NoBlock) (.ref A.c_NoCode) = some false
  m_NoBlock_NoRepeat : PySem.W.exmOne K (.ref A.c_NoBlock) (.ref A.c_NoRepeat) = some false
  m_NoBlock_NoBlock : PySem.W.exmOne K (.ref A.c_NoBlock) (.ref A.c_NoBlock) = some true
  m_NoBlock_PressError : PySem.W.exmOne K (.ref A.c_NoBlock) (.ref A.c_PressError) = some true
  mt_NoBlock_0 : PySem.W.exmAny K (.ref A.c_NoBlock) [(.ref A.c_NoBits), (.ref A.c_NoCode), (.ref A.c_NoRepeat)] = some false
  kk_NoBlock_0 : PySem.W.kitOne K (.ref A.c_NoBlock) (.ref A.c_Broken) = some false
  kk_NoBlock_1 : PySem.W.kitAny K (.ref A.c_NoBlock) [(.ref A.c_NoBlock), (.ref A.c_NoPlace), (.ref A.c_NoText)] = some true
  kk_NoBlock_2 : PySem.W.kitOne K (.ref A.c_NoBlock) (.type "ValueError") = some true
  e_NoCode : ExcC K A.c_NoCode
  m_NoCode_NoBits : PySem.W.exmOne K (.ref A.c_NoCode) (.ref A.c_NoBits) = some false
  m_NoCode_NoCode : PySem.W.exmOne K (.ref A.c_NoCode) (.ref A.c_NoCode) = some true
  m_NoCode_NoRepeat : PySem.W.exmOne K (.ref A.c_NoCode) (.ref A.c_NoRepeat) = some false
  m_NoCode_NoBlock : PySem.W.exmOne K (.ref A.c_NoCode) (.ref A.c_NoBlock) = some false
  m_NoCode_PressError : PySem.W.exmOne K (.ref A.c_NoCode) (.ref A.c_PressError) = some true
  mt_NoCode_0 : PySem.W.exmAny K (.ref A.c_NoCode) [(.ref A.c_NoBits), (.ref A.c_NoCode), (.ref A.c_NoRepeat)] = some true
  kk_NoCode_0 : PySem.W.kitOne K (.ref A.c_NoCode) (.ref A.c_Broken) = some false
  kk_NoCode_1 : PySem.W.kitAny K (.ref A.c_NoCode) [(.ref A.c_NoBlock), (.ref A.c_NoPlace), (.ref A.c_NoText)] = some false
  kk_NoCode_2 : PySem.W.kitOne K (.ref A.c_NoCode) (.type "ValueError") = some true
  e_NoRepeat : ExcC K A.c_NoRepeat
  m_NoRepeat_NoBits : PySem.W.exmOne K (.ref A.c_NoRepeat) (.ref A.c_NoBits) = some false
  m_NoRepeat_NoCode : PySem.W.exmOne K (.ref A.c_NoRepeat) (.ref A.c_NoCode) = some false
  m_NoRepeat_NoRepeat : PySem.W.exmOne K (.ref A.c_NoRepeat) (.ref A.c_NoRepeat) = some true
  m_NoRepeat_NoBlock : PySem.W.exmOne K (.ref A.c_NoRepeat) (.ref A.c_NoBlock) = some false
  m_NoRepeat_PressError : PySem.W.exmOne K (.ref A.c_NoRepeat) (.ref A.c_PressError) = some true
  mt_NoRepeat_0 : PySem.W.exmAny K (.ref A.c_NoRepeat) [(.ref A.c_NoBits), (.ref A.c_NoCode), (.ref A.c_NoRepeat)] = some true
  kk_NoRepeat_0 : PySem.W.kitOne K (.ref A.c_NoRepeat) (.ref A.c_Broken) = some false
  kk_NoRepeat_1 : PySem.W.kitAny K (.ref A.c_NoRepeat) [(.ref A.c_NoBlock), (.ref A.c_NoPlace), (.ref A.c_NoText)] = some false
  kk_NoRepeat_2 : PySem.W.kitOne K (.ref A.c_NoRepeat) (.type "ValueError") = some true
  e_Broken : ExcC K A.c_Broken
  m_Broken_NoBits : PySem.W.exmOne K (.ref A.c_Broken) (.ref A.c_NoBits) = some false
  m_Broken_NoCode : PySem.W.exmOne K (.ref A.c_Broken) (.ref A.c_NoCode) = some false
  m_Broken_NoRepeat : PySem.W.exmOne K (.ref A.c_Broken) (.ref A.c_NoRepeat) = some false
  m_Broken_NoBlock : PySem.W.exmOne K (.ref A.c_Broken) (.ref A.c_NoBlock) = some false
  m_Broken_PressError : PySem.W.exmOne K (.ref A.c_Broken) (.ref A.c_PressError) = some true
  mt_Broken_0 : PySem.W.exmAny K (.ref A.c_Broken) [(.ref A.c_NoBits), (.ref A.c_NoCode), (.ref A.c_NoRepeat)] = some false
  kk_Broken_0 : PySem.W.kitOne K (.ref A.c_Broken) (.ref A.c_Broken) = some true
  kk_Broken_1 : PySem.W.kitAny K (.ref A.c_Broken) [(.ref A.c_NoBlock), (.ref A.c_NoPlace), (.ref A.c_NoText)] = some false
  kk_Broken_2 : PySem.W.kitOne K (.ref A.c_Broken) (.type "ValueError") = some true
  v_KINDS : ∀ H, SqT K H A.a_KINDS [(.int (128)), (.int (129)), (.int (130)), (.int (131))]
local macro_rules | `(tactic| walk_at "sk cl") => `(tactic| first | exact (‹Fct _ _›).cl_Bits | exact (‹Fct _ _›).cl_Heap)
local macro_rules | `(tactic| walk_at "sk na") => `(tactic| first | exact (‹Fct _ _›).n_Bits_at | exact (‹Fct _ _›).n_Bits_row | exact (‹Fct _ _›).n_Heap_deep | exact (‹Fct _ _›).n_Heap_things)
local macro_rules | `(tactic| walk_at "sk kx") => `(tactic| first | exact (‹Fct _ _›).e_NoBits | exact (‹Fct _ _›).e_NoBlock | exact (‹Fct _ _›).e_NoCode | exact (‹Fct _ _›).e_NoRepeat | exact (‹Fct _ _›).e_Broken)
local macro_rules | `(tactic| walk_at "sk em") => `(tactic| first | exact (‹Fct _ _›).m_NoBits_NoBits | exact (‹Fct _ _›).m_NoBits_NoCode | exact (‹Fct _ _›).m_NoBits_NoRepeat | exact (‹Fct _ _›).m_NoBits_NoBlock | exact (‹Fct _ _›).m_NoBits_PressError | exact (‹Fct _ _›).mt_NoBits_0 | exact (‹Fct _ _›).m_NoBlock_NoBits | exact (‹Fct _ _›).m_NoBlock_NoCode | exact (‹Fct _ _›).m_NoBlock_NoRepeat | exact (‹Fct _ _›).m_NoBlock_NoBlock | exact (‹Fct _ _›).m_NoBlock_PressError | exact (‹Fct _ _›).mt_NoBlock_0 | exact (‹Fct _ _›).m_NoCode_NoBits | exact (‹Fct _ _›).m_NoCode_NoCode | exact (‹Fct _ _›).m_NoCode_NoRepeat | exact (‹Fct _ _›).m_NoCode_NoBlock | exact (‹Fct _ _›).m_NoCode_PressError | exact (‹Fct _ _›).mt_NoCode_0 | exact (‹Fct _ _›).m_NoRepeat_NoBits | exact (‹Fct _ _›).m_NoRepeat_NoCode | exact (‹Fct _ _›).m_NoRepeat_NoRepeat | exact (‹Fct _ _›).m_NoRepeat_NoBlock | exact (‹Fct _ _›).m_NoRepeat_PressError | exact (‹Fct _ _›).mt_NoRepeat_0 | exact (‹Fct _ _›).m_Broken_NoBits | exact (‹Fct _ _›).m_Broken_NoCode | exact (‹Fct _ _›).m_Broken_NoRepeat | exact (‹Fct _ _›).m_Broken_NoBlock | exact (‹Fct _ _›).m_Broken_PressError | exact (‹Fct _ _›).mt_Broken_0)
local macro_rules | `(tactic| walk_at "sk kit") => `(tactic| first | exact (‹Fct _ _›).kk_NoBits_0 | exact (‹Fct _ _›).kk_NoBits_1 | exact (‹Fct _ _›).kk_NoBits_2 | exact (‹Fct _ _›).kk_NoBlock_0 | exact (‹Fct _ _›).kk_NoBlock_1 | exact (‹Fct _ _›).kk_NoBlock_2 | exact (‹Fct _ _›).kk_NoCode_0 | exact (‹Fct _ _›).kk_NoCode_1 | exact (‹Fct _ _›).kk_NoCode_2 | exact (‹Fct _ _›).kk_NoRepeat_0 | exact (‹Fct _ _›).kk_NoRepeat_1 | exact (‹Fct _ _›).kk_NoRepeat_2 | exact (‹Fct _ _›).kk_Broken_0 | exact (‹Fct _ _›).kk_Broken_1 | exact (‹Fct _ _›).kk_Broken_2)
local macro_rules | `(tactic| walk_at "sk tp") => `(tactic| first | exact tp_old ((‹Fct _ _›).v_KINDS _) | fail "sk")
structure Txt (K : PySem.W.Frag) (mg : Str → Option Value) (A : Ads) : Prop where
  fct : Fct K A
  b_ValueError : mg "ValueError" = none
  b_bool : mg "bool" = none
  b_enumerate : mg "enumerate" = none
  b_int : mg "int" = none
  b_isinstance : mg "isinstance" = none
  b_len : mg "len" = none
  b_list : mg "list" = none
  b_max : mg "max" = none
  b_range : mg "range" = none
  b_sorted : mg "sorted" = none
  b_tuple : mg "tuple" = none
  c_AGAIN : ∃ u, mg "AGAIN" = some u ∧ RelV (.int (129)) u
  c_AROUND : ∃ u, mg "AROUND" = some u ∧ RelV (.int (7)) u
  c_BACK_BITS : ∃ u, mg "BACK_BITS" = some u ∧ RelV (.int (6)) u
  c_BLOCK : ∃ u, mg "BLOCK" = some u ∧ RelV (.int (128)) u
  c_END : ∃ u, mg "END" = some u ∧ RelV (.int (131)) u
  c_HEAD : ∃ u, mg "HEAD" = some u ∧ RelV (.int (5)) u
  c_KID : ∃ u, mg "KID" = some u ∧ RelV (.int (6)) u
  c_KINDS : mg "KINDS" = some (.ref A.a_KINDS)
  c_LONGER : ∃ u, mg "LONGER" = some u ∧ RelV (.int (253)) u
  c_LONGEST : ∃ u, mg "LONGEST" = some u ∧ RelV (.int (60)) u
  c_MOST_MARKS : ∃ u, mg "MOST_MARKS" = some u ∧ RelV (.int (48)) u
  c_MOST_SYMBOL : ∃ u, mg "MOST_SYMBOL" = some u ∧ RelV (.int (300)) u
  c_PRIME : ∃ u, mg "PRIME" = some u ∧ RelV (.int (16381)) u
  c_SHORTEST : ∃ u, mg "SHORTEST" = some u ∧ RelV (.int (3)) u
  c_WIDE : ∃ u, mg "WIDE" = some u ∧ RelV (.int (7)) u
  g_Bits : mg "Bits" = some (.ref A.c_Bits)
  g_NoBits : mg "NoBits" = some (.ref A.c_NoBits)
  g_NoBlock : mg "NoBlock" = some (.ref A.c_NoBlock)
  g_Heap : mg "Heap" = some (.ref A.c_Heap)
  g_NoCode : mg "NoCode" = some (.ref A.c_NoCode)
  g_NoRepeat : mg "NoRepeat" = some (.ref A.c_NoRepeat)
  g_Broken : mg "Broken" = some (.ref A.c_Broken)
  g_PressError : mg "PressError" = some (.ref A.c_PressError)
  g_NoText : mg "NoText" = some (.ref A.c_NoText)
  g_NoPlace : mg "NoPlace" = some (.ref A.c_NoPlace)
  x_NoBits : PySem.W.excIn K A.c_NoBits [.type "ValueError", .type "Exception", .type "BaseException", .type "object"] "ValueError.__new__" = true
  k_NoBits : PySem.W.keepIn K (.ref A.c_NoBits) = true
  s_NoBits : PySem.W.subIn K (.ref A.c_NoBits) (.type "BaseException") = some true
  t_NoBits : PySem.W.typeIn K (.ref A.c_NoBits) = some (.type "type")
  x_NoBlock : PySem.W.excIn K A.c_NoBlock [.type "ValueError", .type "Exception", .type "BaseException", .type "object"] "ValueError.__new__" = true
  k_NoBlock : PySem.W.keepIn K (.ref A.c_NoBlock) = true
  s_NoBlock : PySem.W.subIn K (.ref A.c_NoBlock) (.type "BaseException") = some true
  t_NoBlock : PySem.W.typeIn K (.ref A.c_NoBlock) = some (.type "type")
  x_NoCode : PySem.W.excIn K A.c_NoCode [.type "ValueError", .type "Exception", .type "BaseException", .type "object"] "ValueError.__new__" = true
  k_NoCode : PySem.W.keepIn K (.ref A.c_NoCode) = true
  s_NoCode : PySem.W.subIn K (.ref A.c_NoCode) (.type "BaseException") = some true
  t_NoCode : PySem.W.typeIn K (.ref A.c_NoCode) = some (.type "type")
  x_NoRepeat : PySem.W.excIn K A.c_NoRepeat [.type "ValueError", .type "Exception", .type "BaseException", .type "object"] "ValueError.__new__" = true
  k_NoRepeat : PySem.W.keepIn K (.ref A.c_NoRepeat) = true
  s_NoRepeat : PySem.W.subIn K (.ref A.c_NoRepeat) (.type "BaseException") = some true
  t_NoRepeat : PySem.W.typeIn K (.ref A.c_NoRepeat) = some (.type "type")
  bt_Broken : PySem.BrkX.BrkTxt K mg A.c_Broken A.i_Broken
  xf_Broken : XfC K A.c_Broken
  xn_Broken : PySem.W.findIn K (.ref A.c_Broken) "place" = some none
abbrev s_w_cell : Stmt := topS 70
abbrev N_w_cell : List Str := ["_law_script", "_law_k"]
theorem sc_w_cell : FnScope N_w_cell ["_law_script", "_law_k"] (defScope s_w_cell) := ⟨rfl, rfl, rfl, by decide +kernel, rfl, by decide +kernel, by decide +kernel⟩






def sp_w_cell (K : PySem.W.Frag) (A : Ads) : Sp := fun zvs zH Q E => ∃ (B : Hp) (G : Own) (a : Addr) (ns : List Int) (k0 : Int), zvs = [.ref a, .int k0] ∧ SI B G zH ∧ (Sq K B G a (ns.map V.int)) ∧ (0 ≤ k0) ∧ (N B G (Q (.int (ns.getD k0.toNat 0))))
theorem len_w_cell {K : PySem.W.Frag} {A : Ads} : ∀ vs H Q E, sp_w_cell K A vs H Q E → vs.length = 2 := by
  intro vs H Q E h
  obtain ⟨_, _, _, _, _, rfl, _⟩ := h
  rfl
def t_w_cell (K : PySem.W.Frag) (A : Ads) (E : XK) : TS :=
  (tSeq (tIfS (tTest (tOp uLt (tVar 1) (tCB (uLen K) (tCons (tVar 0) tNil))))
    (tSeq (tRet (tOp (rIx K) (tVar 0) (tVar 1)))
    tNext)
    tNext)
    (tSeq (tRet (tC (.int (0))))
    tNext))
theorem pure_w_cell {K : PySem.W.Frag} {A : Ads} (T : Fct K A) (vs : List V) (H : Hp) (Q : VK) (E : XK) (h : sp_w_cell K A vs H Q E) : t_w_cell K A E (endE Q) (L2.start N_w_cell vs) H := by
  obtain ⟨B, G, a, ns, k0, rfl, zs, hs, h0, k⟩ := h
  refine (?_ : N B G (fun H => t_w_cell K A E (endE Q) (L2.start N_w_cell [.ref a, .int k0]) H)) H zs
  clear zs
  unfold t_w_cell

  walk_at "sk stp"
  try rw [List.length_map]
  refine n_iteD (fun hb => ?_) (fun hb => ?_)
  · walk_at "sk stp"
    exact k
  · walk_at "sk stp"
    have e : ns.getD k0.toNat 0 = 0 := by rw [List.getD_eq_getElem?_getD, List.getElem?_eq_none (by omega)]; rfl
    rw [e] at k
    exact k
theorem raw_w_cell {P : Program} {w : World} {K : PySem.W.Frag} {mg : Str → Option Value} {base : Heap} {A : Ads} {f : Addr} {fd : FuncData} (F : Fun K "_law_cell" "_law_cell" s_w_cell f fd) (T : Txt K mg A) : FnOk P w K mg base CX0 1 f fd ["_law_script", "_law_k"] (sp_w_cell K A) := by
  refine F.ok sc_w_cell (fun vs H Q E h => len_w_cell vs H Q E h) (fun cdv Ar outer s H vs Q E hr h => ⟨t_w_cell K A E, PSs.nox ?_, pure_w_cell T.fct vs H Q E h⟩)
  have nd := sc_w_cell.nd
  exact (pss_cons (ps_if (pt_cmpR op_uLt (pv 1) (pe_callB call_uLen (by rfl) T.b_len boot_len (pa_cons (pv 0) pa_nil)) (nomark _)) (pss_cons (ps_ret (pe_ix ix_seq (pv 0) (pv 1) (fun _ _ => rfl)))
    pss_nil) pss_nil)
    (pss_cons (ps_ret pe_int)
    pss_nil))
theorem use_w_cell {K : PySem.W.Frag} {A : Ads} {B : Hp} {G : Own} {Q : VK} {E : XK} {a : Addr} {ns : List Int} {k0 : Int} (hs : Sq K B G a (ns.map V.int)) (h0 : 0 ≤ k0) (zq : N B G (Q (.int (ns.getD k0.toNat 0)))) : N B G (fun H => sp_w_cell K A [.ref a, .int k0] H Q E) := fun zH zs => ⟨B, _, _, _, _, rfl, zs, hs, h0, zq⟩
local macro_rules | `(tactic| walk_at "sk st") => `(tactic| with_reducible (apply use_w_cell; (next => with_unfolding_all walk_at "sk sq"); (next => with_unfolding_all walk_at "sk sd"); (skip)))

def Purse (o : HO) : Prop := ∃ x f : Int, o = .lst [.int x, .int f] ∧ 0 ≤ x ∧ (f = 0 ∨ f = 1)
abbrev s_w_purse : Stmt := topS 72
abbrev N_w_purse : List Str := ["_law_cell_here", "_law_way", "_law_large"]
theorem sc_w_purse : FnScope N_w_purse ["_law_cell_here", "_law_way"] (defScope s_w_purse) := ⟨rfl, rfl, rfl, by decide +kernel, rfl, by decide +kernel, by decide +kernel⟩





def sp_w_purse (K : PySem.W.Frag) (A : Ads) : Sp := fun zvs zH Q E => ∃ (B : Hp) (G : Own) (c w : Int), zvs = [.int c, .int w] ∧ SI B G zH ∧ (0 ≤ w ∧ w ≤ 1000) ∧ (∀ p o, Purse o → N B ((p, o) :: G) (Q (.ref p)))
theorem len_w_purse {K : PySem.W.Frag} {A : Ads} : ∀ vs H Q E, sp_w_purse K A vs H Q E → vs.length = 2 := by
  intro vs H Q E h
  obtain ⟨_, _, _, _, rfl, _⟩ := h
  rfl
def x_w_purse_0 (K : PySem.W.Frag) (A : Ads) (E : XK) : TS :=
  (tSeq (tRet (tLst (tCons (tOp (uAdd K) (tOp uMod (tVar 0) (tC (.int (2147483647)))) (tOp uMul (tOp uMul (tC (.int (7919))) (tVar 1)) (tVar 1))) (tCons (tC (.int (1))) tNil))))
    tNext)
instance {K : PySem.W.Frag} {A : Ads} {E : XK} : Unf (x_w_purse_0 K A E) (
  (tSeq (tRet (tLst (tCons (tOp (uAdd K) (tOp uMod (tVar 0) (tC (.int (2147483647)))) (tOp uMul (tOp uMul (tC (.int (7919))) (tVar 1)) (tVar 1))) (tCons (tC (.int (1))) tNil))))
    tNext)) := ⟨rfl⟩
def x_w_purse_1 (K : PySem.W.Frag) (A : Ads) (E : XK) : TS :=
  (tSeq (tIfS (tTest (tOp uGe (tVar 2) (tOp uPow (tC (.int (10))) (tC (.int (18))))))
    (tSeq (tRet (tLst (tCons (tVar 2) (tCons (tC (.int (0))) tNil))))
    tNext)
    tNext)
    (x_w_purse_0 K A E))
instance {K : PySem.W.Frag} {A : Ads} {E : XK} : Unf (x_w_purse_1 K A E) (
  (tSeq (tIfS (tTest (tOp uGe (tVar 2) (tOp uPow (tC (.int (10))) (tC (.int (18))))))
    (tSeq (tRet (tLst (tCons (tVar 2) (tCons (tC (.int (0))) tNil))))
    tNext)
    tNext)
    (x_w_purse_0 K A E))) := ⟨rfl⟩
def t_w_purse (K : PySem.W.Frag) (A : Ads) (E : XK) : TS :=
  (tSeq (tAsg (tOp uMod (tVar 0) (tOp uMul (tOp uPow (tC (.int (10))) (tC (.int (60)))) (tOp uPow (tC (.int (10))) (tC (.int (60)))))) (gName 2))
    (x_w_purse_1 K A E))
theorem pure_w_purse {K : PySem.W.Frag} {A : Ads} (T : Fct K A) (vs : List V) (H : Hp) (Q : VK) (E : XK) (h : sp_w_purse K A vs H Q E) : t_w_purse K A E (endE Q) (L2.start N_w_purse vs) H := by
  obtain ⟨B, G, c, w, rfl, zs, hw, k⟩ := h
  refine (?_ : N B G (fun H => t_w_purse K A E (endE Q) (L2.start N_w_purse [.int c, .int w]) H)) H zs
  clear zs
  unfold t_w_purse

  walk_at "sk stp"
  walk_at "sk mulW"
  walk_at "sk stp"
  refine n_iteD (fun hb => ?_) (fun hb => ?_)
  · walk_at "sk stp"
    exact k _ _ ⟨_, _, rfl, by omega, .inl rfl⟩
  · walk_at "sk stp"
    refine k _ _ ⟨_, _, rfl, ?_, .inr rfl⟩
    have h1 : 0 ≤ 7919 * w * w := Int.mul_nonneg (by omega) hw.1
    omega
theorem raw_w_purse {P : Program} {w : World} {K : PySem.W.Frag} {mg : Str → Option Value} {base : Heap} {A : Ads} {f : Addr} {fd : FuncData} (F : Fun K "_law_purse" "_law_purse" s_w_purse f fd) (T : Txt K mg A) : FnOk P w K mg base CX0 1 f fd ["_law_cell_here", "_law_way"] (sp_w_purse K A) := by
  refine F.ok sc_w_purse (fun vs H Q E h => len_w_purse vs H Q E h) (fun cdv Ar outer s H vs Q E hr h => ⟨t_w_purse K A E, PSs.nox ?_, pure_w_purse T.fct vs H Q E h⟩)
  have nd := sc_w_purse.nd
  exact (pss_cons (ps_set (i := 2) nd rfl (Or.inl rfl) (pe_op op_uMod (pv 0) (pe_op op_uMul (pe_op op_uPow pe_int pe_int) (pe_op op_uPow pe_int pe_int))))
    (pss_cons (ps_if (pt_cmpR op_uGe (pv 2) (pe_op op_uPow pe_int pe_int) (nomark _)) (pss_cons (ps_ret (pe_lst (pa_cons (pv 2) (pa_cons pe_int pa_nil))))
    pss_nil) pss_nil)
    (pss_cons (ps_ret (pe_lst (pa_cons (pe_op op_uAdd (pe_op op_uMod (pv 0) pe_int) (pe_op op_uMul (pe_op op_uMul pe_int (pv 1)) (pv 1))) (pa_cons pe_int pa_nil))))
    pss_nil)))
theorem use_w_purse {K : PySem.W.Frag} {A : Ads} {B : Hp} {G : Own} {Q : VK} {E : XK} {c w : Int} (hw : 0 ≤ w ∧ w ≤ 1000) (zq : ∀ p o, Purse o → N B ((p, o) :: G) (Q (.ref p))) : N B G (fun H => sp_w_purse K A [.int c, .int w] H Q E) := fun zH zs => ⟨B, _, _, _, rfl, zs, hw, zq⟩

abbrev s_w_take : Stmt := topS 73
abbrev N_w_take : List Str := ["_law_purse_here", "_law_many", "_law_digit"]
theorem sc_w_take : FnScope N_w_take ["_law_purse_here", "_law_many"] (defScope s_w_take) := ⟨rfl, rfl, rfl, by decide +kernel, rfl, by decide +kernel, by decide +kernel⟩







def sp_w_take (K : PySem.W.Frag) (A : Ads) : Sp := fun zvs zH Q E => ∃ (B : Hp) (G : Own) (p : Addr) (o : HO) (m : Int), zvs = [.ref p, .int m] ∧ SI B ((p, o) :: G) zH ∧ (Purse o) ∧ (0 < m ∧ m < 1073741824) ∧ (∀ o' d, Purse o' → 0 ≤ d → d < m → NP B [] p o' G (Q (.int d)))
theorem len_w_take {K : PySem.W.Frag} {A : Ads} : ∀ vs H Q E, sp_w_take K A vs H Q E → vs.length = 2 := by
  intro vs H Q E h
  obtain ⟨_, _, _, _, _, rfl, _⟩ := h
  rfl
def x_w_take_0 (K : PySem.W.Frag) (A : Ads) (E : XK) : TS :=
  (tSeq (tRet (tOp uMod (tOp uDiv (tOp uMod (tOp uMul (tOp (rIx K) (tVar 0) (tC (.int (0)))) (tC (.int (69621)))) (tC (.int (2147483629)))) (tC (.int (5)))) (tVar 1)))
    tNext)
instance {K : PySem.W.Frag} {A : Ads} {E : XK} : Unf (x_w_take_0 K A E) (
  (tSeq (tRet (tOp uMod (tOp uDiv (tOp uMod (tOp uMul (tOp (rIx K) (tVar 0) (tC (.int (0)))) (tC (.int (69621)))) (tC (.int (2147483629)))) (tC (.int (5)))) (tVar 1)))
    tNext)) := ⟨rfl⟩
def x_w_take_1 (K : PySem.W.Frag) (A : Ads) (E : XK) : TS :=
  (tSeq (tAsg (tOp uDiv (tOp (rIx K) (tVar 0) (tC (.int (0)))) (tVar 1)) (gSub (tVar 0) (tC (.int (0))) rSetL))
    (tSeq (tRet (tVar 2))
    tNext))
instance {K : PySem.W.Frag} {A : Ads} {E : XK} : Unf (x_w_take_1 K A E) (
  (tSeq (tAsg (tOp uDiv (tOp (rIx K) (tVar 0) (tC (.int (0)))) (tVar 1)) (gSub (tVar 0) (tC (.int (0))) rSetL))
    (tSeq (tRet (tVar 2))
    tNext))) := ⟨rfl⟩
def x_w_take_2 (K : PySem.W.Frag) (A : Ads) (E : XK) : TS :=
  (tSeq (tAsg (tOp uMod (tOp (uAdd K) (tOp uMul (tOp (rIx K) (tVar 0) (tC (.int (0)))) (tC (.int (48271)))) (tC (.int (12345)))) (tC (.int (2147483647)))) (gSub (tVar 0) (tC (.int (0))) rSetL))
    (x_w_take_0 K A E))
instance {K : PySem.W.Frag} {A : Ads} {E : XK} : Unf (x_w_take_2 K A E) (
  (tSeq (tAsg (tOp uMod (tOp (uAdd K) (tOp uMul (tOp (rIx K) (tVar 0) (tC (.int (0)))) (tC (.int (48271)))) (tC (.int (12345)))) (tC (.int (2147483647)))) (gSub (tVar 0) (tC (.int (0))) rSetL))
    (x_w_take_0 K A E))) := ⟨rfl⟩
def t_w_take (K : PySem.W.Frag) (A : Ads) (E : XK) : TS :=
  (tSeq (tIfS (tTest (tOp (uEq K) (tOp (rIx K) (tVar 0) (tC (.int (1)))) (tC (.int (0)))))
    (tSeq (tAsg (tOp uMod (tOp (rIx K) (tVar 0) (tC (.int (0)))) (tVar 1)) (gName 2))
    (x_w_take_1 K A E))
    tNext)
    (x_w_take_2 K A E))
theorem pure_w_take {K : PySem.W.Frag} {A : Ads} (T : Fct K A) (vs : List V) (H : Hp) (Q : VK) (E : XK) (h : sp_w_take K A vs H Q E) : t_w_take K A E (endE Q) (L2.start N_w_take vs) H := by
  obtain ⟨B, G, p, o, m, rfl, zs, ho, hm, k⟩ := h
  refine (?_ : N B ((p, o) :: G) (fun H => t_w_take K A E (endE Q) (L2.start N_w_take [.ref p, .int m]) H)) H zs
  clear zs
  unfold t_w_take

  obtain ⟨x, f, rfl, hx, hf⟩ := ho
  obtain ⟨m0, m1⟩ := hm
  walk_at "sk stp"
  refine n_iteD (fun hb => ?_) (fun hb => ?_)
  · walk_at "sk stp"
    exact k _ _ ⟨_, _, rfl, Int.ediv_nonneg hx (by omega), hf⟩ (Int.emod_nonneg _ (by omega)) (Int.emod_lt_of_pos _ m0)
  · walk_at "sk stp"
    exact k _ _ ⟨_, _, rfl, Int.emod_nonneg _ (by omega), hf⟩ (Int.emod_nonneg _ (by omega)) (Int.emod_lt_of_pos _ m0)
theorem raw_w_take {P : Program} {w : World} {K : PySem.W.Frag} {mg : Str → Option Value} {base : Heap} {A : Ads} {f : Addr} {fd : FuncData} (F : Fun K "_law_take" "_law_take" s_w_take f fd) (T : Txt K mg A) : FnOk P w K mg base CX0 1 f fd ["_law_purse_here", "_law_many"] (sp_w_take K A) := by
  refine F.ok sc_w_take (fun vs H Q E h => len_w_take vs H Q E h) (fun cdv Ar outer s H vs Q E hr h => ⟨t_w_take K A E, PSs.nox ?_, pure_w_take T.fct vs H Q E h⟩)
  have nd := sc_w_take.nd
  exact (pss_cons (ps_if (pt_cmpR (op_uEq hr.units) (pe_ix ix_seq (pv 0) pe_int (fun _ _ => rfl)) pe_int (nomark _)) (pss_cons (ps_set (i := 2) nd rfl (Or.inl rfl) (pe_op op_uMod (pe_ix ix_seq (pv 0) pe_int (fun _ _ => rfl)) (pv 1)))
    (pss_cons (ps_asg (pe_op op_uDiv (pe_ix ix_seq (pv 0) pe_int (fun _ _ => rfl)) (pv 1)) (pg_sub (pv 0) pe_int set_list))
    (pss_cons (ps_ret (pv 2))
    pss_nil))) pss_nil)
    (pss_cons (ps_asg (pe_op op_uMod (pe_op op_uAdd (pe_op op_uMul (pe_ix ix_seq (pv 0) pe_int (fun _ _ => rfl)) pe_int) pe_int) pe_int) (pg_sub (pv 0) pe_int set_list))
    (pss_cons (ps_ret (pe_op op_uMod (pe_op op_uDiv (pe_op op_uMod (pe_op op_uMul (pe_ix ix_seq (pv 0) pe_int (fun _ _ => rfl)) pe_int) pe_int) pe_int) (pv 1)))
    pss_nil)))
theorem use_w_take {K : PySem.W.Frag} {A : Ads} {B : Hp} {L : Own} {Q : VK} {E : XK} {p : Addr} {o : HO} {m : Int} (i : Nat) (hi : L[i]? = some (p, o)) (ho : Purse o) (hm : 0 < m ∧ m < 1073741824) (zq : ∀ o' d, Purse o' → 0 ≤ d → d < m → NQ B [] p o' L i (Q (.int d))) : N B L (fun H => sp_w_take K A [.ref p, .int m] H Q E) := fun zH zs => ⟨B, _, _, _, _, rfl, zs.front hi, ho, hm, by (intros; first | (refine NP.of hi ?_; apply zq <;> assumption) | (apply zq <;> assumption))⟩

def IsText (ds : List Int) : Prop := ∀ d ∈ ds, 0 ≤ d ∧ d < 256
theorem IsText.getD {ds : List Int} (h : IsText ds) (i : Nat) : 0 ≤ ds.getD i 0 ∧ ds.getD i 0 < 256 := getD_all (P := fun d => 0 ≤ d ∧ d < 256) h (by decide)
abbrev s_w_whole : Stmt := topS 71
abbrev N_w_whole : List Str := ["_law_found"]
theorem sc_w_whole : FnScope N_w_whole ["_law_found"] (defScope s_w_whole) := ⟨rfl, rfl, rfl, by decide +kernel, rfl, by decide +kernel, by decide +kernel⟩




def sp_w_whole (K : PySem.W.Frag) (A : Ads) : Sp := fun zvs zH Q E => ∃ (B : Hp) (G : Own) (i : Int), zvs = [.int i] ∧ SI B G zH ∧ (N B G (Q (.bl true)))
theorem len_w_whole {K : PySem.W.Frag} {A : Ads} : ∀ vs H Q E, sp_w_whole K A vs H Q E → vs.length = 1 := by
  intro vs H Q E h
  obtain ⟨_, _, _, rfl, _⟩ := h
  rfl
def t_w_whole (K : PySem.W.Frag) (A : Ads) (E : XK) : TS :=
  (tSeq (tRet (tAndV (tCB (rIsi K) (tCons (tVar 0) (tCons (tC (.ty "int")) tNil))) (tNotV (tCB (rIsi K) (tCons (tVar 0) (tCons (tC (.ty "bool")) tNil))))))
    tNext)
theorem pure_w_whole {K : PySem.W.Frag} {A : Ads} (T : Fct K A) (vs : List V) (H : Hp) (Q : VK) (E : XK) (h : sp_w_whole K A vs H Q E) : t_w_whole K A E (endE Q) (L2.start N_w_whole vs) H := by
  obtain ⟨B, G, i, rfl, zs, k⟩ := h
  refine (?_ : N B G (fun H => t_w_whole K A E (endE Q) (L2.start N_w_whole [.int i]) H)) H zs
  clear zs
  unfold t_w_whole

  walk_at "sk stp"
  exact k
theorem raw_w_whole {P : Program} {w : World} {K : PySem.W.Frag} {mg : Str → Option Value} {base : Heap} {A : Ads} {f : Addr} {fd : FuncData} (F : Fun K "_law_whole" "_law_whole" s_w_whole f fd) (T : Txt K mg A) : FnOk P w K mg base CX0 1 f fd ["_law_found"] (sp_w_whole K A) := by
  refine F.ok sc_w_whole (fun vs H Q E h => len_w_whole vs H Q E h) (fun cdv Ar outer s H vs Q E hr h => ⟨t_w_whole K A E, PSs.nox ?_, pure_w_whole T.fct vs H Q E h⟩)
  have nd := sc_w_whole.nd
  exact (pss_cons (ps_ret (pe_and (pe_callB call_isi (by rfl) T.b_isinstance boot_isinstance (pa_cons (pv 0) (pa_cons (pe_bltn (v := .ty "int") (by rfl) T.b_int boot_int rfl) pa_nil))) (pe_one (pe_not (pe_callB call_isi (by rfl) T.b_isinstance boot_isinstance (pa_cons (pv 0) (pa_cons (pe_bltn (v := .ty "bool") (by rfl) T.b_bool boot_bool rfl) pa_nil)))))))
    pss_nil)
theorem rawH_w_whole {P : Program} {w : World} {K : PySem.W.Frag} {mg : Str → Option Value} {base : Heap} {A : Ads} {f : Addr} {fd : FuncData} (F : Fun K "_law_whole" "_law_whole" s_w_whole f fd) (T : Txt K mg A) : L2H.FnH P w K mg base CX0 1 f fd ["_law_found"] (sp_w_whole K A) := by
  refine okH F sc_w_whole (fun vs H Q E h => len_w_whole vs H Q E h) (fun cdv Ar outer s H vs Q E pz hot hr h => ⟨t_w_whole K A E, PSs.nox ?_, pure_w_whole T.fct vs H Q E h⟩)
  have nd := sc_w_whole.nd
  exact (pss_cons (ps_ret (pe_and (pe_callB call_isi (by rfl) T.b_isinstance boot_isinstance (pa_cons (pv 0) (pa_cons (pe_bltn (v := .ty "int") (by rfl) T.b_int boot_int rfl) pa_nil))) (pe_one (pe_not (pe_callB call_isi (by rfl) T.b_isinstance boot_isinstance (pa_cons (pv 0) (pa_cons (pe_bltn (v := .ty "bool") (by rfl) T.b_bool boot_bool rfl) pa_nil)))))))
    pss_nil)
theorem use_w_whole {K : PySem.W.Frag} {A : Ads} {B : Hp} {G : Own} {Q : VK} {E : XK} {i : Int} (zq : N B G (Q (.bl true))) : N B G (fun H => sp_w_whole K A [.int i] H Q E) := fun zH zs => ⟨B, _, _, rfl, zs, zq⟩
local macro_rules | `(tactic| walk_at "sk st") => `(tactic| with_reducible (apply use_w_whole; (skip)))

abbrev s_is_whole : Stmt := topS 25
abbrev N_is_whole : List Str := ["thing"]
theorem sc_is_whole : FnScope N_is_whole ["thing"] (defScope s_is_whole) := ⟨rfl, rfl, rfl, by decide +kernel, rfl, by decide +kernel, by decide +kernel⟩




def sp_is_whole (K : PySem.W.Frag) (A : Ads) : Sp := fun zvs zH Q E => ∃ (B : Hp) (G : Own) (i : Int), zvs = [.int i] ∧ SI B G zH ∧ (N B G (Q (.bl true)))
theorem len_is_whole {K : PySem.W.Frag} {A : Ads} : ∀ vs H Q E, sp_is_whole K A vs H Q E → vs.length = 1 := by
  intro vs H Q E h
  obtain ⟨_, _, _, rfl, _⟩ := h
  rfl
def t_is_whole (K : PySem.W.Frag) (A : Ads) (E : XK) : TS :=
  (tSeq (tRet (tAndV (tCB (rIsi K) (tCons (tVar 0) (tCons (tC (.ty "int")) tNil))) (tNotV (tCB (rIsi K) (tCons (tVar 0) (tCons (tC (.ty "bool")) tNil))))))
    tNext)
theorem pure_is_whole {K : PySem.W.Frag} {A : Ads} (T : Fct K A) (vs : List V) (H : Hp) (Q : VK) (E : XK) (h : sp_is_whole K A vs H Q E) : t_is_whole K A E (endE Q) (L2.start N_is_whole vs) H := by
  obtain ⟨B, G, i, rfl, zs, k⟩ := h
  refine (?_ : N B G (fun H => t_is_whole K A E (endE Q) (L2.start N_is_whole [.int i]) H)) H zs
  clear zs
  unfold t_is_whole

  walk_at "sk stp"
  exact k
theorem raw_is_whole {P : Program} {w : World} {K : PySem.W.Frag} {mg : Str → Option Value} {base : Heap} {A : Ads} {f : Addr} {fd : FuncData} (F : Fun K "is_whole" "is_whole" s_is_whole f fd) (T : Txt K mg A) : FnOk P w K mg base CX0 1 f fd ["thing"] (sp_is_whole K A) := by
  refine F.ok sc_is_whole (fun vs H Q E h => len_is_whole vs H Q E h) (fun cdv Ar outer s H vs Q E hr h => ⟨t_is_whole K A E, PSs.nox ?_, pure_is_whole T.fct vs H Q E h⟩)
  have nd := sc_is_whole.nd
  exact (pss_cons (ps_ret (pe_and (pe_callB call_isi (by rfl) T.b_isinstance boot_isinstance (pa_cons (pv 0) (pa_cons (pe_bltn (v := .ty "int") (by rfl) T.b_int boot_int rfl) pa_nil))) (pe_one (pe_not (pe_callB call_isi (by rfl) T.b_isinstance boot_isinstance (pa_cons (pv 0) (pa_cons (pe_bltn (v := .ty "bool") (by rfl) T.b_bool boot_bool rfl) pa_nil)))))))
    pss_nil)
theorem use_is_whole {K : PySem.W.Frag} {A : Ads} {B : Hp} {G : Own} {Q : VK} {E : XK} {i : Int} (zq : N B G (Q (.bl true))) : N B G (fun H => sp_is_whole K A [.int i] H Q E) := fun zH zs => ⟨B, _, _, rfl, zs, zq⟩
local macro_rules | `(tactic| walk_at "sk st") => `(tactic| with_reducible (apply use_is_whole; (skip)))

abbrev s_is_mark : Stmt := topS 26
abbrev N_is_mark : List Str := ["thing"]
theorem sc_is_mark : FnScope N_is_mark ["thing"] (defScope s_is_mark) := ⟨rfl, rfl, rfl, by decide +kernel, rfl, by decide +kernel, by decide +kernel⟩




def sp_is_mark (K : PySem.W.Frag) (A : Ads) : Sp := fun zvs zH Q E => ∃ (B : Hp) (G : Own) (i : Int), zvs = [.int i] ∧ SI B G zH ∧ (N B G (Q (.bl (decide (0 ≤ i) && decide (i ≤ 255)))))
theorem len_is_mark {K : PySem.W.Frag} {A : Ads} : ∀ vs H Q E, sp_is_mark K A vs H Q E → vs.length = 1 := by
  intro vs H Q E h
  obtain ⟨_, _, _, rfl, _⟩ := h
  rfl
def t_is_mark (K : PySem.W.Frag) (A : Ads) (E : XK) : TS :=
  (tSeq (tRet (tAndV (tCl (sp_is_whole K A) (WE W0) (tCons (tVar 0) tNil)) (tChain uLe uLe (tC (.int (0))) (tVar 0) (tC (.int (255))))))
    tNext)
theorem pure_is_mark {K : PySem.W.Frag} {A : Ads} (T : Fct K A) (vs : List V) (H : Hp) (Q : VK) (E : XK) (h : sp_is_mark K A vs H Q E) : t_is_mark K A E (endE Q) (L2.start N_is_mark vs) H := by
  obtain ⟨B, G, i, rfl, zs, k⟩ := h
  refine (?_ : N B G (fun H => t_is_mark K A E (endE Q) (L2.start N_is_mark [.int i]) H)) H zs
  clear zs
  unfold t_is_mark

  walk_at "sk stp"
  rw [Bool.true_and]
  exact k
theorem raw_is_mark {P : Program} {w : World} {K : PySem.W.Frag} {mg : Str → Option Value} {base : Heap} {A : Ads} {f : Addr} {fd : FuncData} (F : Fun K "is_mark" "is_mark" s_is_mark f fd) (T : Txt K mg A) (O_is_whole : OkC P w K mg base CX0 1 "is_whole" ["thing"] (sp_is_whole K A)) : FnOk P w K mg base CX0 2 f fd ["thing"] (sp_is_mark K A) := by
  refine F.ok sc_is_mark (fun vs H Q E h => len_is_mark vs H Q E h) (fun cdv Ar outer s H vs Q E hr h => ⟨t_is_mark K A E, PSs.nox ?_, pure_is_mark T.fct vs H Q E h⟩)
  have nd := sc_is_mark.nd
  exact (pss_cons (ps_ret (pe_and (pe_cl (E := WE W0) O_is_whole (hr.mono (by decide)) (by rfl) pass00 (pa_cons (pv 0) pa_nil)) (pe_one (pe_chain op_uLe op_uLe pe_int (pv 0) pe_int))))
    pss_nil)
theorem use_is_mark {K : PySem.W.Frag} {A : Ads} {B : Hp} {G : Own} {Q : VK} {E : XK} {i : Int} (zq : N B G (Q (.bl (decide (0 ≤ i) && decide (i ≤ 255))))) : N B G (fun H => sp_is_mark K A [.int i] H Q E) := fun zH zs => ⟨B, _, _, rfl, zs, zq⟩
local macro_rules | `(tactic| walk_at "sk st") => `(tactic| with_reducible (apply use_is_mark; (skip)))

def isT (xs : List Int) : Bool := xs.all fun d => decide (0 ≤ d) && decide (d ≤ 255)
theorem isT_iff {xs : List Int} : isT xs = true ↔ ∀ d ∈ xs, 0 ≤ d ∧ d ≤ 255 := by
  unfold isT
  rw [List.all_eq_true]
  refine ⟨fun h d hd => ?_, fun h d hd => ?_⟩
  · have := h d hd
    rw [Bool.and_eq_true, decide_eq_true_eq, decide_eq_true_eq] at this
    exact this
  · rw [Bool.and_eq_true, decide_eq_true_eq, decide_eq_true_eq]
    exact h d hd
abbrev s_is_text : Stmt := topS 27
abbrev N_is_text : List Str := ["thing", "mark"]
theorem sc_is_text : FnScope N_is_text ["thing"] (defScope s_is_text) := ⟨rfl, rfl, rfl, by decide +kernel, rfl, by decide +kernel, by decide +kernel⟩





def sp_is_text (K : PySem.W.Frag) (A : Ads) : Sp := fun zvs zH Q E => ∃ (B : Hp) (G : Own) (a : Addr) (xs : List Int), zvs = [.ref a] ∧ SI B G zH ∧ (Is B G a (.lst (xs.map V.int))) ∧ (N B G (Q (.bl (isT xs))))
theorem len_is_text {K : PySem.W.Frag} {A : Ads} : ∀ vs H Q E, sp_is_text K A vs H Q E → vs.length = 1 := by
  intro vs H Q E h
  obtain ⟨_, _, _, _, rfl, _⟩ := h
  rfl
def x_is_text_0 (K : PySem.W.Frag) (A : Ads) (E : XK) : TS :=
  (tSeq (tFor (iList K (tVar 0)) (gName 1)
    (tSeq (tIfS (tNot (tB (tCl (sp_is_mark K A) (WE W0) (tCons (tVar 1) tNil))))
    (tSeq (tRet (tC (.bl false)))
    tNext)
    tNext)
    tNext))
    (tSeq (tRet (tC (.bl true)))
    tNext))
instance {K : PySem.W.Frag} {A : Ads} {E : XK} : Unf (x_is_text_0 K A E) (
  (tSeq (tFor (iList K (tVar 0)) (gName 1)
    (tSeq (tIfS (tNot (tB (tCl (sp_is_mark K A) (WE W0) (tCons (tVar 1) tNil))))
    (tSeq (tRet (tC (.bl false)))
    tNext)
    tNext)
    tNext))
    (tSeq (tRet (tC (.bl true)))
    tNext))) := ⟨rfl⟩
def t_is_text (K : PySem.W.Frag) (A : Ads) (E : XK) : TS :=
  (tSeq (tIfS (tNot (tB (tCB (rIsi K) (tCons (tVar 0) (tCons (tC (.ty "list")) tNil)))))
    (tSeq (tRet (tC (.bl false)))
    tNext)
    tNext)
    (x_is_text_0 K A E))
theorem pure_is_text {K : PySem.W.Frag} {A : Ads} (T : Fct K A) (vs : List V) (H : Hp) (Q : VK) (E : XK) (h : sp_is_text K A vs H Q E) : t_is_text K A E (endE Q) (L2.start N_is_text vs) H := by
  obtain ⟨B, G, a, xs, rfl, zs, ha, k⟩ := h
  refine (?_ : N B G (fun H => t_is_text K A E (endE Q) (L2.start N_is_text [.ref a]) H)) H zs
  clear zs
  unfold t_is_text

  walk_at "sk stp"
  refine n_lpLi xs (fun i σ L => ∃ (y : Option V), σ = [some (.ref a), y] ∧ G = L ∧ isT xs = isT (xs.drop i)) ?_ ⟨_, rfl, rfl, rfl⟩ ?_ ?_
  · rintro i σ L _ ⟨y, rfl, rfl, _⟩
    walk_at "sk sq"
  · rintro i σ L hi ⟨y, rfl, rfl, h⟩
    rw [List.drop_eq_getElem_cons hi] at h
    have h' : isT xs = ((decide (0 ≤ xs[i]) && decide (xs[i] ≤ 255)) && isT (xs.drop (i + 1))) := h
    generalize xs[i] = z at *
    walk_at "sk stp"
    refine n_ite (fun hb => ?_) (fun hb => ?_)
    · have hb' : (decide (0 ≤ z) && decide (z ≤ 255)) = false := by
        cases hh : (decide (0 ≤ z) && decide (z ≤ 255)) with
        | false => rfl
        | true => rw [hh] at hb; cases hb
      rw [hb', Bool.false_and] at h'
      rw [h'] at k
      walk_at "sk stp"
      exact k
    · have hb' : (decide (0 ≤ z) && decide (z ≤ 255)) = true := by
        cases hh : (decide (0 ≤ z) && decide (z ≤ 255)) with
        | true => rfl
        | false => rw [hh] at hb; cases hb
      rw [hb', Bool.true_and] at h'
      walk_at "sk stp"
      exact n_ki ⟨_, rfl, rfl, h'⟩ (.refl _)
  · rintro σ L ⟨y, rfl, rfl, h⟩
    rw [List.drop_length] at h
    rw [show isT xs = true from h] at k
    walk_at "sk stp"
    exact k
theorem raw_is_text {P : Program} {w : World} {K : PySem.W.Frag} {mg : Str → Option Value} {base : Heap} {A : Ads} {f : Addr} {fd : FuncData} (F : Fun K "is_text" "is_text" s_is_text f fd) (T : Txt K mg A) (O_is_mark : OkC P w K mg base CX0 2 "is_mark" ["thing"] (sp_is_mark K A)) : FnOk P w K mg base CX0 3 f fd ["thing"] (sp_is_text K A) := by
  refine F.ok sc_is_text (fun vs H Q E h => len_is_text vs H Q E h) (fun cdv Ar outer s H vs Q E hr h => ⟨t_is_text K A E, PSs.nox ?_, pure_is_text T.fct vs H Q E h⟩)
  have nd := sc_is_text.nd
  exact (pss_cons (ps_if (pt_not (pt_val (pe_callB call_isi (by rfl) T.b_isinstance boot_isinstance (pa_cons (pv 0) (pa_cons (pe_bltn (v := .ty "list") (by rfl) T.b_list boot_list rfl) pa_nil))))) (pss_cons (ps_ret pe_bl)
    pss_nil) pss_nil)
    (pss_cons (ps_for PassesOwn.never rfl (pi_list (pv 0)) (pg_name (i := 1) nd rfl (Or.inl rfl))
    (pss_cons (ps_if (pt_not (pt_val (pe_cl (E := WE W0) O_is_mark (hr.mono (by decide)) (by rfl) pass00 (pa_cons (pv 1) pa_nil)))) (pss_cons (ps_ret pe_bl)
    pss_nil) pss_nil)
    pss_nil))
    (pss_cons (ps_ret pe_bl)
    pss_nil)))
theorem use_is_text {K : PySem.W.Frag} {A : Ads} {B : Hp} {G : Own} {Q : VK} {E : XK} {a : Addr} {xs : List Int} (ha : Is B G a (.lst (xs.map V.int))) (zq : N B G (Q (.bl (isT xs)))) : N B G (fun H => sp_is_text K A [.ref a] H Q E) := fun zH zs => ⟨B, _, _, _, rfl, zs, ha, zq⟩
local macro_rules | `(tactic| walk_at "sk st") => `(tactic| with_reducible (apply use_is_text; (next => with_unfolding_all walk_at "sk is"); (skip)))

def bitsN (n : Int) : Nat → List Int
  | 0 => []
  | w + 1 => (n / 2 ^ w % 2) :: bitsN n w
theorem bitsN_len (n : Int) : ∀ w, (bitsN n w).length = w
  | 0 => rfl
  | w + 1 => by rw [bitsN, List.length_cons, bitsN_len n w]
theorem bitsN_map (n : Int) : ∀ w : Nat, (List.range w).map (fun k : Nat => n / 2 ^ ((w : Int) - 1 - k).toNat % 2) = bitsN n w
  | 0 => rfl
  | w + 1 => by
    rw [List.range_succ_eq_map, List.map_cons, List.map_map, bitsN, ← bitsN_map n w]
    congr 1
    · rw [show (((w + 1 : Nat) : Int) - 1 - ((0 : Nat) : Int)).toNat = w by omega]
    · apply List.map_congr_left
      intro k _
      show n / 2 ^ (((w + 1 : Nat) : Int) - 1 - ((k + 1 : Nat) : Int)).toNat % 2 = _
      rw [show (((w + 1 : Nat) : Int) - 1 - ((k + 1 : Nat) : Int)).toNat = ((w : Int) - 1 - k).toNat by omega]
theorem bitsN_range (n : Int) : ∀ w, ∀ b ∈ bitsN n w, b = 0 ∨ b = 1
  | 0, b, h => by cases h
  | w + 1, b, h => by
    rcases List.mem_cons.mp h with rfl | h
    · omega
    · exact bitsN_range n w b h
/-- a number by halves -/
def halvesN (n : Int) (w : Nat) : List Int := List.replicate (w - 1) 0 ++ bitsN (n + 1) w
/-- what bits write, behind a number -/
def valB (acc : Int) (bs : List Int) : Int := bs.foldl (fun a b => 2 * a + b) acc
theorem valB_snoc (acc : Int) (bs : List Int) (b : Int) : valB acc (bs ++ [b]) = 2 * valB acc bs + b := by
  unfold valB; rw [List.foldl_append]; rfl
theorem valB_acc : ∀ (bs : List Int) (acc : Int), valB acc bs = acc * 2 ^ bs.length + valB 0 bs
  | [], acc => by show acc = acc * 1 + 0; omega
  | b :: r, acc => by
    show valB (2 * acc + b) r = acc * 2 ^ (r.length + 1) + valB (2 * 0 + b) r
    rw [valB_acc r (2 * acc + b), valB_acc r (2 * 0 + b), Int.pow_succ, Int.add_mul, Int.mul_comm 2 acc, Int.mul_assoc acc 2, Int.mul_comm 2 (2 ^ r.length), Int.mul_zero, Int.zero_add]
    omega
def IsBits (bs : List Int) : Prop := ∀ b ∈ bs, b = 0 ∨ b = 1
theorem valB_range : ∀ {bs : List Int}, IsBits bs → 0 ≤ valB 0 bs ∧ valB 0 bs < 2 ^ bs.length
  | [], _ => ⟨by decide, by decide⟩
  | b :: r, h => by
    have hr : IsBits r := fun x hx => h x (List.mem_cons_of_mem _ hx)
    obtain ⟨h1, h2⟩ := valB_range hr
    have hb := h b (List.mem_cons_self)
    have e : valB 0 (b :: r) = b * 2 ^ r.length + valB 0 r := by
      show valB (2 * 0 + b) r = _
      rw [valB_acc, Int.mul_zero, Int.zero_add]
    have e2 : ((2 : Int) ^ (b :: r).length) = 2 ^ r.length * 2 := by rw [List.length_cons, Int.pow_succ]
    rw [e, e2]
    rcases hb with rfl | rfl
    · omega
    · omega
theorem bitsN_congr : ∀ (w : Nat) {a b : Int}, a % 2 ^ w = b % 2 ^ w → bitsN a w = bitsN b w
  | 0, a, b, _ => rfl
  | w + 1, a, b, h => by
    have hp : (0 : Int) < 2 ^ w := Int.pow_pos (by decide)
    have e : (2 : Int) ^ (w + 1) = 2 ^ w * 2 := Int.pow_succ ..
    have split : ∀ n : Int, n % (2 ^ w * 2) = 2 ^ w * (n / 2 ^ w % 2) + n % 2 ^ w := fun n => by
      have h1 := Int.mul_ediv_add_emod n (2 ^ w)
      have h2 := Int.mul_ediv_add_emod (n / 2 ^ w) 2
      have h3 := Int.mul_ediv_add_emod n (2 ^ w * 2)
      rw [← Int.ediv_ediv_of_nonneg (Int.le_of_lt hp)] at h3
      have e5 : n = 2 ^ w * (2 * (n / 2 ^ w / 2) + n / 2 ^ w % 2) + n % 2 ^ w := by rw [h2]; exact h1.symm
      rw [Int.mul_add, ← Int.mul_assoc] at e5
      omega
    rw [e] at h
    have sa := split a
    have sb := split b
    rw [h] at sa
    have ma := Int.emod_nonneg a (Int.ne_of_gt hp)
    have mb := Int.emod_nonneg b (Int.ne_of_gt hp)
    have la := Int.emod_lt_of_pos a hp
    have lb := Int.emod_lt_of_pos b hp
    have hm : a % 2 ^ w = b % 2 ^ w ∧ a / 2 ^ w % 2 = b / 2 ^ w % 2 := by
      generalize (2 : Int) ^ w = p at *
      have xa : a / p % 2 = 0 ∨ a / p % 2 = 1 := by omega
      have xb : b / p % 2 = 0 ∨ b / p % 2 = 1 := by omega
      rcases xa with xa | xa <;> rcases xb with xb | xb <;> rw [xa] at sa <;> rw [xb] at sb <;> rw [xa, xb] <;> omega
    rw [bitsN, bitsN, hm.2, bitsN_congr w hm.1]
theorem bitsN_valB : ∀ {bs : List Int}, IsBits bs → bitsN (valB 0 bs) bs.length = bs
  | [], _ => rfl
  | b :: r, h => by
    have hr : IsBits r := fun x hx => h x (List.mem_cons_of_mem _ hx)
    obtain ⟨h1, h2⟩ := valB_range hr
    have hb := h b (List.mem_cons_self)
    have e : valB 0 (b :: r) = b * 2 ^ r.length + valB 0 r := by
      show valB (2 * 0 + b) r = _
      rw [valB_acc, Int.mul_zero, Int.zero_add]
    have hp : (0 : Int) < 2 ^ r.length := Int.pow_pos (by decide)
    rw [List.length_cons, bitsN, e]
    have e1 : (b * 2 ^ r.length + valB 0 r) / 2 ^ r.length = b := by
      rw [Int.add_comm, Int.add_mul_ediv_right _ _ (Int.ne_of_gt hp), Int.ediv_eq_zero_of_lt h1 h2, Int.zero_add]
    have e2 : bitsN (b * 2 ^ r.length + valB 0 r) r.length = bitsN (valB 0 r) r.length := bitsN_congr _ (by rw [Int.add_comm, Int.add_mul_emod_self_right])
    rw [e1, e2, bitsN_valB hr]
    congr 1
    omega
theorem valB_bitsN {n : Int} (h0 : 0 ≤ n) : ∀ {w : Nat}, n < 2 ^ w → valB 0 (bitsN n w) = n := by
  have key : ∀ (w : Nat) (n : Int), valB 0 (bitsN n w) = n % 2 ^ w := by
    intro w
    induction w with
    | zero => intro n; show (0 : Int) = n % 1; omega
    | succ w ih =>
      intro n
      have hp : (0 : Int) < 2 ^ w := Int.pow_pos (by decide)
      rw [bitsN]
      show valB (2 * 0 + n / 2 ^ w % 2) (bitsN n w) = _
      rw [valB_acc, ih, bitsN_len, Int.mul_zero, Int.zero_add, show (2 : Int) ^ (w + 1) = 2 ^ w * 2 from Int.pow_succ ..]
      generalize (2 : Int) ^ w = p at hp ⊢
      have h1 := Int.mul_ediv_add_emod n p
      have h2 := Int.mul_ediv_add_emod (n / p) 2
      have h3 := Int.mul_ediv_add_emod n (p * 2)
      rw [← Int.ediv_ediv_of_nonneg (Int.le_of_lt hp)] at h3
      have e5 : n = p * (2 * (n / p / 2) + n / p % 2) + n % p := by rw [h2]; exact h1.symm
      rw [Int.mul_add, ← Int.mul_assoc] at e5
      rw [Int.mul_comm (n / p % 2) p]
      omega
  intro w h
  rw [key, Int.emod_eq_of_lt h0 h]
/-- bits in low bytes -/
def chunk (bs : List Int) (i : Nat) : Int := valB 0 ((List.range 7).map fun k => bs.getD (7 * i + k) 0)
def laidL (bs : List Int) : List Int := (List.range ((bs.length + 6) / 7)).map (chunk bs)
theorem laidL_len (bs : List Int) : (laidL bs).length = (bs.length + 6) / 7 := by unfold laidL; rw [List.length_map, List.length_range]
theorem getD_bits {bs : List Int} (h : IsBits bs) (j : Nat) : bs.getD j 0 = 0 ∨ bs.getD j 0 = 1 := by
  rw [List.getD_eq_getElem?_getD]
  by_cases hj : j < bs.length
  · rw [List.getElem?_eq_getElem hj]; exact h _ (List.getElem_mem hj)
  · rw [List.getElem?_eq_none (by omega)]; exact .inl rfl
theorem chunk_bits {bs : List Int} (h : IsBits bs) (i : Nat) : IsBits ((List.range 7).map fun k => bs.getD (7 * i + k) 0) := by
  intro b hb
  obtain ⟨k, _, rfl⟩ := List.mem_map.mp hb
  exact getD_bits h _
theorem laidL_low {bs : List Int} (h : IsBits bs) : ∀ d ∈ laidL bs, 0 ≤ d ∧ d < 128 := by
  intro d hd
  obtain ⟨i, _, rfl⟩ := List.mem_map.mp hd
  have := valB_range (chunk_bits h i)
  rw [List.length_map, List.length_range] at this
  exact this
/-- all bits of low bytes -/
def rowB (ds : List Int) : List Int := ds.flatMap fun d => bitsN d 7
theorem rowB_len : ∀ ds : List Int, (rowB ds).length = 7 * ds.length
  | [] => rfl
  | d :: r => by
    show (bitsN d 7 ++ rowB r).length = _
    rw [List.length_append, rowB_len r, bitsN_len, List.length_cons]; omega
theorem rowB_snoc (ds : List Int) (d : Int) : rowB (ds ++ [d]) = rowB ds ++ bitsN d 7 := by
  unfold rowB; rw [List.flatMap_append, List.flatMap_singleton]
theorem rowB_bits (ds : List Int) : IsBits (rowB ds) := by
  intro b hb
  obtain ⟨d, _, h⟩ := List.mem_flatMap.mp hb
  exact bitsN_range d 7 b h
theorem range_seven (f : Nat → Int) : ∀ m : Nat, (List.range (7 * (m + 1))).map f = (List.range (7 * m)).map f ++ (List.range 7).map fun k => f (7 * m + k) := by
  intro m
  rw [show 7 * (m + 1) = 7 * m + 7 by omega, List.range_add, List.map_append, List.map_map]
  rfl
theorem rowB_laidL {bs : List Int} (h : IsBits bs) : rowB (laidL bs) = bs ++ List.replicate (7 * ((bs.length + 6) / 7) - bs.length) 0 := by
  have key : ∀ m : Nat, rowB ((List.range m).map (chunk bs)) = (List.range (7 * m)).map fun j => bs.getD j 0 := by
    intro m
    induction m with
    | zero => rfl
    | succ m ih =>
      rw [List.range_succ, List.map_append, List.map_cons, List.map_nil, rowB_snoc, ih, range_seven]
      congr 1
      have e := bitsN_valB (chunk_bits h m)
      rw [List.length_map, List.length_range] at e
      exact e
  unfold laidL
  rw [key]
  apply List.ext_getElem?
  intro j
  rw [List.getElem?_map, List.getElem?_append]
  by_cases hj : j < bs.length
  · rw [if_pos hj, List.getElem?_range (by omega), Option.map_some, List.getD_eq_getElem?_getD, List.getElem?_eq_getElem hj]; rfl
  · rw [if_neg hj]
    by_cases h2 : j < 7 * ((bs.length + 6) / 7)
    · rw [List.getElem?_range h2, Option.map_some, List.getD_eq_getElem?_getD, List.getElem?_eq_none (by omega), List.getElem?_replicate, if_pos (by omega)]; rfl
    · rw [List.getElem?_eq_none (by rw [List.length_range]; omega), List.getElem?_replicate, if_neg (by omega)]; rfl
abbrev s_bits_of : Stmt := topS 11
abbrev N_bits_of : List Str := ["number", "width", "k"]
theorem sc_bits_of : FnScope N_bits_of ["number", "width"] (defScope s_bits_of) := ⟨rfl, rfl, rfl, by decide +kernel, rfl, by decide +kernel, by decide +kernel⟩





def sp_bits_of (K : PySem.W.Frag) (A : Ads) : Sp := fun zvs zH Q E => ∃ (B : Hp) (G : Own) (n w : Int), zvs = [.int n, .int w] ∧ SI B G zH ∧ (0 ≤ w ∧ w ≤ 100000) ∧ (∀ p, N B ((p, .lst ((bitsN n w.toNat).map V.int)) :: G) (Q (.ref p)))
theorem len_bits_of {K : PySem.W.Frag} {A : Ads} : ∀ vs H Q E, sp_bits_of K A vs H Q E → vs.length = 2 := by
  intro vs H Q E h
  obtain ⟨_, _, _, _, rfl, _⟩ := h
  rfl
def t_bits_of (K : PySem.W.Frag) (A : Ads) (E : XK) : TS :=
  (tSeq (tRet (tLc (iRng1 (tCons (tVar 1) tNil)) (gName 2) tYes (tOp uAnd (tOp uShr (tVar 0) (tOp uSub (tOp uSub (tVar 1) (tC (.int (1)))) (tVar 2))) (tC (.int (1)))) [2]))
    tNext)
theorem pure_bits_of {K : PySem.W.Frag} {A : Ads} (T : Fct K A) (vs : List V) (H : Hp) (Q : VK) (E : XK) (h : sp_bits_of K A vs H Q E) : t_bits_of K A E (endE Q) (L2.start N_bits_of vs) H := by
  obtain ⟨B, G, n, w, rfl, zs, hw, k⟩ := h
  refine (?_ : N B G (fun H => t_bits_of K A E (endE Q) (L2.start N_bits_of [.int n, .int w]) H)) H zs
  clear zs
  unfold t_bits_of

  walk_at "sk stp"
  refine n_lcMap (fun k : Nat => n / 2 ^ (w - 1 - k).toNat % 2) (by omega) (by omega) (fun x => rfl) ?_ ?_
  · intro i D acc Q' hi q
    walk_at "sk stp"
    exact q
  · intro D
    have e := bitsN_map n w.toNat
    rw [Int.toNat_of_nonneg hw.1] at e
    rw [e]
    exact k D
theorem raw_bits_of {P : Program} {w : World} {K : PySem.W.Frag} {mg : Str → Option Value} {base : Heap} {A : Ads} {f : Addr} {fd : FuncData} (F : Fun K "bits_of" "bits_of" s_bits_of f fd) (T : Txt K mg A) : FnOk P w K mg base CX0 1 f fd ["number", "width"] (sp_bits_of K A) := by
  refine F.ok sc_bits_of (fun vs H Q E h => len_bits_of vs H Q E h) (fun cdv Ar outer s H vs Q E hr h => ⟨t_bits_of K A E, PSs.nox ?_, pure_bits_of T.fct vs H Q E h⟩)
  have nd := sc_bits_of.nd
  exact (pss_cons (ps_ret (pe_lc (own := [("k", 2)]) (by rfl) nd (pi_range1 (by rfl) T.b_range (pa_cons (pv 1) pa_nil)) (blkOk_by (N := N_bits_of) (sc := defScope s_bits_of) (own := [("k", 2)]) (by decide +kernel)) (fun _ _ _ _ _ => (pg_name (i := 2) nd rfl (Or.inl rfl))) (fun _ _ _ _ _ => pts_nil) (fun _ _ _ _ _ => (pe_op op_uAnd (pe_op op_uShr (pv 0) (pe_op op_uSub (pe_op op_uSub (pv 1) pe_int) (pv 2))) pe_int))))
    pss_nil)
theorem use_bits_of {K : PySem.W.Frag} {A : Ads} {B : Hp} {G : Own} {Q : VK} {E : XK} {n w : Int} (hw : 0 ≤ w ∧ w ≤ 100000) (zq : ∀ p, N B ((p, .lst ((bitsN n w.toNat).map V.int)) :: G) (Q (.ref p))) : N B G (fun H => sp_bits_of K A [.int n, .int w] H Q E) := fun zH zs => ⟨B, _, _, _, rfl, zs, hw, zq⟩

theorem bits_pos {n : Int} (h : 0 < n) : 0 < Builtin.Int.intBits n := by
  unfold Builtin.Int.intBits
  rw [if_neg (by simp; omega)]
  omega
abbrev s_halves : Stmt := topS 12
abbrev N_halves : List Str := ["number", "width", "k"]
theorem sc_halves : FnScope N_halves ["number"] (defScope s_halves) := ⟨rfl, rfl, rfl, by decide +kernel, rfl, by decide +kernel, by decide +kernel⟩





def sp_halves (K : PySem.W.Frag) (A : Ads) : Sp := fun zvs zH Q E => ∃ (B : Hp) (G : Own) (n : Int), zvs = [.int n] ∧ SI B G zH ∧ (0 ≤ n ∧ n < 10 ^ 41) ∧ (∀ p, N B ((p, .lst ((halvesN n (Builtin.Int.intBits (n + 1))).map V.int)) :: G) (Q (.ref p)))
theorem len_halves {K : PySem.W.Frag} {A : Ads} : ∀ vs H Q E, sp_halves K A vs H Q E → vs.length = 1 := by
  intro vs H Q E h
  obtain ⟨_, _, _, rfl, _⟩ := h
  rfl
def x_halves_0 (K : PySem.W.Frag) (A : Ads) (E : XK) : TS :=
  (tSeq (tRet (tOp (uAdd K) (tLc (iRng1 (tCons (tOp uSub (tVar 1) (tC (.int (1)))) tNil)) (gName 2) tYes (tC (.int (0))) [2]) (tCl (sp_bits_of K A) (WE W0) (tCons (tOp (uAdd K) (tVar 0) (tC (.int (1)))) (tCons (tVar 1) tNil)))))
    tNext)
instance {K : PySem.W.Frag} {A : Ads} {E : XK} : Unf (x_halves_0 K A E) (
  (tSeq (tRet (tOp (uAdd K) (tLc (iRng1 (tCons (tOp uSub (tVar 1) (tC (.int (1)))) tNil)) (gName 2) tYes (tC (.int (0))) [2]) (tCl (sp_bits_of K A) (WE W0) (tCons (tOp (uAdd K) (tVar 0) (tC (.int (1)))) (tCons (tVar 1) tNil)))))
    tNext)) := ⟨rfl⟩
def t_halves (K : PySem.W.Frag) (A : Ads) (E : XK) : TS :=
  (tSeq (tAsg (tBits (tOp (uAdd K) (tVar 0) (tC (.int (1))))) (gName 1))
    (x_halves_0 K A E))
theorem pure_halves {K : PySem.W.Frag} {A : Ads} (T : Fct K A) (vs : List V) (H : Hp) (Q : VK) (E : XK) (h : sp_halves K A vs H Q E) : t_halves K A E (endE Q) (L2.start N_halves vs) H := by
  obtain ⟨B, G, n, rfl, zs, hn, k⟩ := h
  refine (?_ : N B G (fun H => t_halves K A E (endE Q) (L2.start N_halves [.int n]) H)) H zs
  clear zs
  unfold t_halves

  have hb : Builtin.Int.intBits (n + 1) ≤ 137 := intBits_lt (by omega) (by omega)
  have hp : 0 < Builtin.Int.intBits (n + 1) := bits_pos (by omega)
  generalize hw : Builtin.Int.intBits (n + 1) = w at hb hp k
  walk_at "sk stp"
  rw [hw]
  refine n_lcMap (fun _ => 0) (by omega) (by omega) (fun x => rfl) ?_ ?_
  · intro i D acc Q' hi q
    walk_at "sk stp"
    exact q
  · intro D
    walk_at "sk stp"
    refine use_bits_of (by omega) fun p => ?_
    have e1 : (List.range ((w : Int) - 1).toNat).map (fun _ : Nat => (0 : Int)) = List.replicate (w - 1) 0 := by
      rw [List.map_const', List.length_range, show ((w : Int) - 1).toNat = w - 1 by omega]
    rw [e1, Int.toNat_natCast]
    have e2 := bitsN_len (n + 1) w
    walk_at "sk stp"
    exact n_sub (by walk_at "sk sub") (k _)
theorem raw_halves {P : Program} {w : World} {K : PySem.W.Frag} {mg : Str → Option Value} {base : Heap} {A : Ads} {f : Addr} {fd : FuncData} (F : Fun K "halves" "halves" s_halves f fd) (T : Txt K mg A) (O_bits_of : OkC P w K mg base CX0 1 "bits_of" ["number", "width"] (sp_bits_of K A)) : FnOk P w K mg base CX0 2 f fd ["number"] (sp_halves K A) := by
  refine F.ok sc_halves (fun vs H Q E h => len_halves vs H Q E h) (fun cdv Ar outer s H vs Q E hr h => ⟨t_halves K A E, PSs.nox ?_, pure_halves T.fct vs H Q E h⟩)
  have nd := sc_halves.nd
  exact (pss_cons (ps_set (i := 1) nd rfl (Or.inl rfl) (pe_bits (pe_op op_uAdd (pv 0) pe_int)))
    (pss_cons (ps_ret (pe_op op_uAdd (pe_lc (own := [("k", 2)]) (by rfl) nd (pi_range1 (by rfl) T.b_range (pa_cons (pe_op op_uSub (pv 1) pe_int) pa_nil)) (blkOk_by (N := N_halves) (sc := defScope s_halves) (own := [("k", 2)]) (by decide +kernel)) (fun _ _ _ _ _ => (pg_name (i := 2) nd rfl (Or.inl rfl))) (fun _ _ _ _ _ => pts_nil) (fun _ _ _ _ _ => pe_int)) (pe_cl (E := WE W0) O_bits_of (hr.mono (by decide)) (by rfl) pass00 (pa_cons (pe_op op_uAdd (pv 0) pe_int) (pa_cons (pv 1) pa_nil)))))
    pss_nil))
theorem use_halves {K : PySem.W.Frag} {A : Ads} {B : Hp} {G : Own} {Q : VK} {E : XK} {n : Int} (hn : 0 ≤ n ∧ n < 10 ^ 41) (zq : ∀ p, N B ((p, .lst ((halvesN n (Builtin.Int.intBits (n + 1))).map V.int)) :: G) (Q (.ref p))) : N B G (fun H => sp_halves K A [.int n] H Q E) := fun zH zs => ⟨B, _, _, rfl, zs, hn, zq⟩

abbrev s_laid : Stmt := topS 13
abbrev N_laid : List Str := ["bits", "data", "at", "byte", "k"]
theorem sc_laid : FnScope N_laid ["bits"] (defScope s_laid) := ⟨rfl, rfl, rfl, by decide +kernel, rfl, by decide +kernel, by decide +kernel⟩






def sp_laid (K : PySem.W.Frag) (A : Ads) : Sp := fun zvs zH Q E => ∃ (B : Hp) (G : Own) (a : Addr) (bs : List Int), zvs = [.ref a] ∧ SI B G zH ∧ (Sq K B G a (bs.map V.int)) ∧ (bs.length ≤ 100000) ∧ (∀ p, N B ((p, .lst ((laidL bs).map V.int)) :: G) (Q (.ref p)))
theorem len_laid {K : PySem.W.Frag} {A : Ads} : ∀ vs H Q E, sp_laid K A vs H Q E → vs.length = 1 := by
  intro vs H Q E h
  obtain ⟨_, _, _, _, rfl, _⟩ := h
  rfl
def x_laid_0 (K : PySem.W.Frag) (A : Ads) (E : XK) : TS :=
  (tSeq (tIfS (tTest (tOp uLt (tVar 4) (tCB (uLen K) (tCons (tVar 0) tNil))))
    (tSeq (tAug 3 (tOp (rIx K) (tVar 0) (tVar 4)) (ipI fun i j => i + j))
    tNext)
    tNext)
    tNext)
instance {K : PySem.W.Frag} {A : Ads} {E : XK} : Unf (x_laid_0 K A E) (
  (tSeq (tIfS (tTest (tOp uLt (tVar 4) (tCB (uLen K) (tCons (tVar 0) tNil))))
    (tSeq (tAug 3 (tOp (rIx K) (tVar 0) (tVar 4)) (ipI fun i j => i + j))
    tNext)
    tNext)
    tNext)) := ⟨rfl⟩
def x_laid_1 (K : PySem.W.Frag) (A : Ads) (E : XK) : TS :=
  (tSeq (tFor (iRng2 (tCons (tVar 2) (tCons (tOp (uAdd K) (tVar 2) (tC (.int (7)))) tNil))) (gName 4)
    (tSeq (tAsg (tOp uMul (tC (.int (2))) (tVar 3)) (gName 3))
    (x_laid_0 K A E)))
    (tSeq (tDrop (tBM K "list" rAppend (tVar 1) (tCons (tVar 3) tNil)))
    tNext))
instance {K : PySem.W.Frag} {A : Ads} {E : XK} : Unf (x_laid_1 K A E) (
  (tSeq (tFor (iRng2 (tCons (tVar 2) (tCons (tOp (uAdd K) (tVar 2) (tC (.int (7)))) tNil))) (gName 4)
    (tSeq (tAsg (tOp uMul (tC (.int (2))) (tVar 3)) (gName 3))
    (x_laid_0 K A E)))
    (tSeq (tDrop (tBM K "list" rAppend (tVar 1) (tCons (tVar 3) tNil)))
    tNext))) := ⟨rfl⟩
def x_laid_2 (K : PySem.W.Frag) (A : Ads) (E : XK) : TS :=
  (tSeq (tFor (iRng3 (tCons (tC (.int (0))) (tCons (tCB (uLen K) (tCons (tVar 0) tNil)) (tCons (tC (.int (7))) tNil)))) (gName 2)
    (tSeq (tAsg (tC (.int (0))) (gName 3))
    (x_laid_1 K A E)))
    (tSeq (tRet (tVar 1))
    tNext))
instance {K : PySem.W.Frag} {A : Ads} {E : XK} : Unf (x_laid_2 K A E) (
  (tSeq (tFor (iRng3 (tCons (tC (.int (0))) (tCons (tCB (uLen K) (tCons (tVar 0) tNil)) (tCons (tC (.int (7))) tNil)))) (gName 2)
    (tSeq (tAsg (tC (.int (0))) (gName 3))
    (x_laid_1 K A E)))
    (tSeq (tRet (tVar 1))
    tNext))) := ⟨rfl⟩
def t_laid (K : PySem.W.Frag) (A : Ads) (E : XK) : TS :=
  (tSeq (tAsg (tLst tNil) (gName 1))
    (x_laid_2 K A E))
theorem pure_laid {K : PySem.W.Frag} {A : Ads} (T : Fct K A) (vs : List V) (H : Hp) (Q : VK) (E : XK) (h : sp_laid K A vs H Q E) : t_laid K A E (endE Q) (L2.start N_laid vs) H := by
  obtain ⟨B, G, a, bs, rfl, zs, hs, hl, k⟩ := h
  refine (?_ : N B G (fun H => t_laid K A E (endE Q) (L2.start N_laid [.ref a]) H)) H zs
  clear zs
  unfold t_laid

  walk_at "sk stp"
  rename_i p
  try rw [List.length_map]
  refine n_lpR3 (fun i σ L => ∃ x3 x4 x5 : Option V, σ = [some (.ref a), some (.ref p), x3, x4, x5] ∧ L = (p, .lst (((List.range i).map (chunk bs)).map V.int)) :: G) (by decide) (by decide) (by omega) (by omega) ⟨_, _, _, rfl, rfl⟩ ?_ ?_
  · rintro i σ L hi ⟨x3, x4, x5, rfl, rfl⟩
    walk_at "sk stp"
    refine n_lpR2 (fun t σ L => ∃ (v : Int) (x5 : Option V), σ = [some (.ref a), some (.ref p), some (.int (i * 7)), some (.int v), x5] ∧ L = (p, .lst (((List.range i).map (chunk bs)).map V.int)) :: G ∧ v = valB 0 ((List.range t).map fun k => bs.getD (7 * i + k) 0)) (by omega) ⟨_, _, rfl, rfl, rfl⟩ ?_ ?_
    · rintro t σ L ht ⟨v, x5, rfl, rfl, rfl⟩
      walk_at "sk stp"
      try rw [List.length_map]
      have e : valB 0 ((List.range (t + 1)).map fun k => bs.getD (7 * i + k) 0) = 2 * valB 0 ((List.range t).map fun k => bs.getD (7 * i + k) 0) + bs.getD (7 * i + t) 0 := by
        rw [List.range_succ, List.map_append, List.map_cons, List.map_nil, valB_snoc]
      refine n_iteD (fun hb => ?_) (fun hb => ?_)
      · walk_at "sk stp"
        refine n_ki ⟨_, _, rfl, rfl, ?_⟩ (.refl _)
        rw [e, show ((i : Int) * 7 + t).toNat = 7 * i + t by omega]
      · walk_at "sk stp"
        refine n_ki ⟨_, _, rfl, rfl, ?_⟩ (.refl _)
        rw [e, show bs.getD (7 * i + t) 0 = 0 by rw [List.getD_eq_getElem?_getD, List.getElem?_eq_none (by omega)]; rfl]
        skip
        omega
    · rintro σ L ⟨v, x5, rfl, rfl, rfl⟩
      rw [show ((i : Int) * 7 + 7 - i * 7).toNat = 7 by omega]
      walk_at "sk stp"
      refine n_ki ⟨_, _, _, rfl, ?_⟩ (.refl _)
      rw [List.range_succ (n := i)]
      simp only [List.map_append, List.set_cons_zero]
      rfl
  · rintro σ L ⟨x3, x4, x5, rfl, rfl⟩
    rw [show (((bs.length : Nat) : Int) + 7 - 1) / 7 = (((bs.length + 6) / 7 : Nat) : Int) by omega, Int.toNat_natCast]
    walk_at "sk stp"
    exact k p
theorem raw_laid {P : Program} {w : World} {K : PySem.W.Frag} {mg : Str → Option Value} {base : Heap} {A : Ads} {f : Addr} {fd : FuncData} (F : Fun K "laid" "laid" s_laid f fd) (T : Txt K mg A) : FnOk P w K mg base CX0 1 f fd ["bits"] (sp_laid K A) := by
  refine F.ok sc_laid (fun vs H Q E h => len_laid vs H Q E h) (fun cdv Ar outer s H vs Q E hr h => ⟨t_laid K A E, PSs.nox ?_, pure_laid T.fct vs H Q E h⟩)
  have nd := sc_laid.nd
  exact (pss_cons (ps_set (i := 1) nd rfl (Or.inl rfl) (pe_lst pa_nil))
    (pss_cons (ps_for PassesOwn.never rfl (pi_range3 (by rfl) T.b_range (pa_cons pe_int (pa_cons (pe_callB call_uLen (by rfl) T.b_len boot_len (pa_cons (pv 0) pa_nil)) (pa_cons (pe_glob (by rfl) T.c_WIDE.choose_spec.1 T.c_WIDE.choose_spec.2) pa_nil)))) (pg_name (i := 2) nd rfl (Or.inl rfl))
    (pss_cons (ps_set (i := 3) nd rfl (Or.inl rfl) pe_int)
    (pss_cons (ps_for PassesOwn.never rfl (pi_range2 (by rfl) T.b_range (pa_cons (pv 2) (pa_cons (pe_op op_uAdd (pv 2) (pe_glob (by rfl) T.c_WIDE.choose_spec.1 T.c_WIDE.choose_spec.2)) pa_nil))) (pg_name (i := 4) nd rfl (Or.inl rfl))
    (pss_cons (ps_set (i := 3) nd rfl (Or.inl rfl) (pe_op op_uMul pe_int (pv 3)))
    (pss_cons (ps_if (pt_cmpR op_uLt (pv 4) (pe_callB call_uLen (by rfl) T.b_len boot_len (pa_cons (pv 0) pa_nil)) (nomark _)) (pss_cons (ps_aug (i := 3) nd rfl (Or.inl rfl) (pe_ix ix_seq (pv 0) (pv 4) (fun _ _ => rfl)) ip_add)
    pss_nil) pss_nil)
    pss_nil)))
    (pss_cons (ps_expr (pe_bm PySem.F.plainAttrs_list PySem.F.slot_list_append PySem.F.type_list_append mt_append (pv 1) (pa_cons (pv 3) pa_nil)))
    pss_nil))))
    (pss_cons (ps_ret (pv 1))
    pss_nil)))
theorem use_laid {K : PySem.W.Frag} {A : Ads} {B : Hp} {G : Own} {Q : VK} {E : XK} {a : Addr} {bs : List Int} (hs : Sq K B G a (bs.map V.int)) (hl : bs.length ≤ 100000) (zq : ∀ p, N B ((p, .lst ((laidL bs).map V.int)) :: G) (Q (.ref p))) : N B G (fun H => sp_laid K A [.ref a] H Q E) := fun zH zs => ⟨B, _, _, _, rfl, zs, hs, hl, zq⟩

abbrev s_Bits___init__ : Stmt := inClass (topS 15) 0
abbrev N_Bits___init__ : List Str := ["self", "data", "byte"]
theorem sc_Bits___init__ : FnScope N_Bits___init__ ["self", "data"] (defScope s_Bits___init__) := ⟨rfl, rfl, rfl, by decide +kernel, rfl, by decide +kernel, by decide +kernel⟩







def sp_Bits___init__ (K : PySem.W.Frag) (A : Ads) : Sp := fun zvs zH Q E => ∃ (B : Hp) (G : Own) (p a dx : Addr) (ns : List Int), zvs = [.ref p, .ref a] ∧ SI B ((p, .ins A.c_Bits dx []) :: G) zH ∧ (Sq K B G a (ns.map V.int)) ∧ (ns.length ≤ 10000) ∧ (∀ r, NP B [(r, .lst ((rowB ns).map V.int))] p (.ins A.c_Bits dx [("row", .ref r), ("at", .int 0)]) G (Q .non))
theorem len_Bits___init__ {K : PySem.W.Frag} {A : Ads} : ∀ vs H Q E, sp_Bits___init__ K A vs H Q E → vs.length = 2 := by
  intro vs H Q E h
  obtain ⟨_, _, _, _, _, _, rfl, _⟩ := h
  rfl
def x_Bits___init___0 (K : PySem.W.Frag) (A : Ads) (E : XK) : TS :=
  (tSeq (tFor (iList K (tVar 1)) (gName 2)
    (tSeq (tDrop (tBM K "list" rExtend (tFld K (tVar 0) "row") (tCons (tCl (sp_bits_of K A) (WE W0) (tCons (tVar 2) (tCons (tC (.int (7))) tNil))) tNil)))
    tNext))
    (tSeq (sFld K (tVar 0) (tC (.int (0))) "at")
    tNext))
instance {K : PySem.W.Frag} {A : Ads} {E : XK} : Unf (x_Bits___init___0 K A E) (
  (tSeq (tFor (iList K (tVar 1)) (gName 2)
    (tSeq (tDrop (tBM K "list" rExtend (tFld K (tVar 0) "row") (tCons (tCl (sp_bits_of K A) (WE W0) (tCons (tVar 2) (tCons (tC (.int (7))) tNil))) tNil)))
    tNext))
    (tSeq (sFld K (tVar 0) (tC (.int (0))) "at")
    tNext))) := ⟨rfl⟩
def t_Bits___init__ (K : PySem.W.Frag) (A : Ads) (E : XK) : TS :=
  (tSeq (sFld K (tVar 0) (tLst tNil) "row")
    (x_Bits___init___0 K A E))
theorem pure_Bits___init__ {K : PySem.W.Frag} {A : Ads} (T : Fct K A) (vs : List V) (H : Hp) (Q : VK) (E : XK) (h : sp_Bits___init__ K A vs H Q E) : t_Bits___init__ K A E (endE Q) (L2.start N_Bits___init__ vs) H := by
  obtain ⟨B, G, p, a, dx, ns, rfl, zs, hs, hl, k⟩ := h
  refine (?_ : N B ((p, .ins A.c_Bits dx []) :: G) (fun H => t_Bits___init__ K A E (endE Q) (L2.start N_Bits___init__ [.ref p, .ref a]) H)) H zs
  clear zs
  unfold t_Bits___init__

  walk_at "sk stp"
  rename_i r
  refine n_lpLi ns (fun i σ L => ∃ x2 : Option V, σ = [some (.ref p), some (.ref a), x2] ∧ L = (r, .lst ((rowB (ns.take i)).map V.int)) :: (p, .ins A.c_Bits dx [("row", .ref r)]) :: G) ?_ ⟨_, rfl, rfl⟩ ?_ ?_
  · rintro i σ L _ ⟨x2, rfl, rfl⟩
    walk_at "sk sq"
  · rintro i σ L hi ⟨x2, rfl, rfl⟩
    walk_at "sk stp"
    refine use_bits_of (by decide) fun p2 => ?_
    have e1 := rowB_len (ns.take i)
    have e2 : (ns.take i).length = i := List.length_take_of_le (by omega)
    have e3 : (bitsN ns[i] (Int.toNat 7)).length = 7 := bitsN_len _ _
    walk_at "sk stp"
    refine n_ki (L' := (r, _) :: (p, _) :: G) ⟨_, rfl, ?_⟩ (by walk_at "sk sub")
    rw [take_step hi, rowB_snoc]
    rfl
  · rintro σ L ⟨x2, rfl, rfl⟩
    rw [List.take_length]
    walk_at "sk stp"
    exact k r
theorem raw_Bits___init__ {P : Program} {w : World} {K : PySem.W.Frag} {mg : Str → Option Value} {base : Heap} {A : Ads} {f : Addr} {fd : FuncData} (F : Fun K "__init__" "Bits.__init__" s_Bits___init__ f fd) (T : Txt K mg A) (O_bits_of : OkC P w K mg base CX0 1 "bits_of" ["number", "width"] (sp_bits_of K A)) : FnOk P w K mg base CX0 2 f fd ["self", "data"] (sp_Bits___init__ K A) := by
  refine F.ok sc_Bits___init__ (fun vs H Q E h => len_Bits___init__ vs H Q E h) (fun cdv Ar outer s H vs Q E hr h => ⟨t_Bits___init__ K A E, PSs.nox ?_, pure_Bits___init__ T.fct vs H Q E h⟩)
  have nd := sc_Bits___init__.nd
  exact (pss_cons (ps_fld (pv 0) (pe_lst pa_nil) rfl)
    (pss_cons (ps_for PassesOwn.never rfl (pi_list (pv 1)) (pg_name (i := 2) nd rfl (Or.inl rfl))
    (pss_cons (ps_expr (pe_bm PySem.F.plainAttrs_list PySem.F.slot_list_extend PySem.F.type_list_extend mt_extend (pe_fld (pv 0) rfl) (pa_cons (pe_cl (E := WE W0) O_bits_of (hr.mono (by decide)) (by rfl) pass00 (pa_cons (pv 2) (pa_cons (pe_glob (by rfl) T.c_WIDE.choose_spec.1 T.c_WIDE.choose_spec.2) pa_nil))) pa_nil)))
    pss_nil))
    (pss_cons (ps_fld (pv 0) pe_int rfl)
    pss_nil)))
theorem use_Bits___init__ {K : PySem.W.Frag} {A : Ads} {B : Hp} {L : Own} {Q : VK} {E : XK} {p a dx : Addr} {ns : List Int} (i : Nat) (hi : L[i]? = some (p, .ins A.c_Bits dx [])) (hs : Sq K B (L.eraseIdx i) a (ns.map V.int)) (hl : ns.length ≤ 10000) (zq : ∀ r, NQ B [(r, .lst ((rowB ns).map V.int))] p (.ins A.c_Bits dx [("row", .ref r), ("at", .int 0)]) L i (Q .non)) : N B L (fun H => sp_Bits___init__ K A [.ref p, .ref a] H Q E) := fun zH zs => ⟨B, _, _, _, _, _, rfl, zs.front hi, hs, hl, by (intros; first | (refine NP.of hi ?_; apply zq <;> assumption) | (apply zq <;> assumption))⟩

abbrev s_Bits_left : Stmt := inClass (topS 15) 1
abbrev N_Bits_left : List Str := ["self"]
theorem sc_Bits_left : FnScope N_Bits_left ["self"] (defScope s_Bits_left) := ⟨rfl, rfl, rfl, by decide +kernel, rfl, by decide +kernel, by decide +kernel⟩






def sp_Bits_left (K : PySem.W.Frag) (A : Ads) : Sp := fun zvs zH Q E => ∃ (B : Hp) (G : Own) (p r dx : Addr) (rs : List Int) (at' : Int), zvs = [.ref p] ∧ SI B G zH ∧ (Is B G p (.ins A.c_Bits dx [("row", .ref r), ("at", .int at')])) ∧ (Sq K B G r (rs.map V.int)) ∧ (N B G (Q (.int (rs.length - at'))))
theorem len_Bits_left {K : PySem.W.Frag} {A : Ads} : ∀ vs H Q E, sp_Bits_left K A vs H Q E → vs.length = 1 := by
  intro vs H Q E h
  obtain ⟨_, _, _, _, _, _, _, rfl, _⟩ := h
  rfl
def t_Bits_left (K : PySem.W.Frag) (A : Ads) (E : XK) : TS :=
  (tSeq (tRet (tOp uSub (tCB (uLen K) (tCons (tFld K (tVar 0) "row") tNil)) (tFld K (tVar 0) "at")))
    tNext)
theorem pure_Bits_left {K : PySem.W.Frag} {A : Ads} (T : Fct K A) (vs : List V) (H : Hp) (Q : VK) (E : XK) (h : sp_Bits_left K A vs H Q E) : t_Bits_left K A E (endE Q) (L2.start N_Bits_left vs) H := by
  obtain ⟨B, G, p, r, dx, rs, at', rfl, zs, hp, hr, k⟩ := h
  refine (?_ : N B G (fun H => t_Bits_left K A E (endE Q) (L2.start N_Bits_left [.ref p]) H)) H zs
  clear zs
  unfold t_Bits_left

  walk_at "sk stp"
  try rw [List.length_map]
  exact k
theorem raw_Bits_left {P : Program} {w : World} {K : PySem.W.Frag} {mg : Str → Option Value} {base : Heap} {A : Ads} {f : Addr} {fd : FuncData} (F : Fun K "left" "Bits.left" s_Bits_left f fd) (T : Txt K mg A) : FnOk P w K mg base CX0 1 f fd ["self"] (sp_Bits_left K A) := by
  refine F.ok sc_Bits_left (fun vs H Q E h => len_Bits_left vs H Q E h) (fun cdv Ar outer s H vs Q E hr h => ⟨t_Bits_left K A E, PSs.nox ?_, pure_Bits_left T.fct vs H Q E h⟩)
  have nd := sc_Bits_left.nd
  exact (pss_cons (ps_ret (pe_op op_uSub (pe_callB call_uLen (by rfl) T.b_len boot_len (pa_cons (pe_fld (pv 0) rfl) pa_nil)) (pe_fld (pv 0) rfl)))
    pss_nil)
theorem use_Bits_left {K : PySem.W.Frag} {A : Ads} {B : Hp} {G : Own} {Q : VK} {E : XK} {p r dx : Addr} {rs : List Int} {at' : Int} (hp : Is B G p (.ins A.c_Bits dx [("row", .ref r), ("at", .int at')])) (hr : Sq K B G r (rs.map V.int)) (zq : N B G (Q (.int (rs.length - at')))) : N B G (fun H => sp_Bits_left K A [.ref p] H Q E) := fun zH zs => ⟨B, _, _, _, _, _, _, rfl, zs, hp, hr, zq⟩
local macro_rules | `(tactic| walk_at "sk st") => `(tactic| with_reducible (apply use_Bits_left; (next => with_unfolding_all walk_at "sk is"); (next => with_unfolding_all walk_at "sk sq"); (skip)))

abbrev s_Bits_take : Stmt := inClass (topS 15) 2
abbrev N_Bits_take : List Str := ["self", "width", "number", "bit"]
theorem sc_Bits_take : FnScope N_Bits_take ["self", "width"] (defScope s_Bits_take) := ⟨rfl, rfl, rfl, by decide +kernel, rfl, by decide +kernel, by decide +kernel⟩









def sp_Bits_take (K : PySem.W.Frag) (A : Ads) : Sp := fun zvs zH Q E => ∃ (B : Hp) (G : Own) (p r dx : Addr) (rs : List Int) (at' w : Nat), zvs = [.ref p, .int w] ∧ SI B ((p, .ins A.c_Bits dx [("row", .ref r), ("at", .int at')]) :: G) zH ∧ (Sq K B G r (rs.map V.int)) ∧ (rs.length ≤ 100000) ∧ (at' ≤ rs.length) ∧ (at' + w ≤ rs.length → NP B [] p (.ins A.c_Bits dx [("row", .ref r), ("at", .int ((at' + w : Nat) : Int))]) G (Q (.int (valB 0 ((rs.drop at').take w))))) ∧ (rs.length < at' + w → NP B [] p (.ins A.c_Bits dx [("row", .ref r), ("at", .int at')]) G (fun H => E (.ref A.c_NoBits) none H))
theorem len_Bits_take {K : PySem.W.Frag} {A : Ads} : ∀ vs H Q E, sp_Bits_take K A vs H Q E → vs.length = 2 := by
  intro vs H Q E h
  obtain ⟨_, _, _, _, _, _, _, _, rfl, _⟩ := h
  rfl
def x_Bits_take_0 (K : PySem.W.Frag) (A : Ads) (E : XK) : TS :=
  (tSeq (tFor (iList K (tSl (rSlL K) (tFld K (tVar 0) "row") (tPart (tFld K (tVar 0) "at")) (tPart (tOp (uAdd K) (tFld K (tVar 0) "at") (tVar 1))))) (gName 3)
    (tSeq (tAsg (tOp (uAdd K) (tOp uMul (tC (.int (2))) (tVar 2)) (tVar 3)) (gName 2))
    tNext))
    (tSeq (sFldAug K (tVar 0) (tVar 1) (ipI fun i j => i + j) "at")
    (tSeq (tRet (tVar 2))
    tNext)))
instance {K : PySem.W.Frag} {A : Ads} {E : XK} : Unf (x_Bits_take_0 K A E) (
  (tSeq (tFor (iList K (tSl (rSlL K) (tFld K (tVar 0) "row") (tPart (tFld K (tVar 0) "at")) (tPart (tOp (uAdd K) (tFld K (tVar 0) "at") (tVar 1))))) (gName 3)
    (tSeq (tAsg (tOp (uAdd K) (tOp uMul (tC (.int (2))) (tVar 2)) (tVar 3)) (gName 2))
    tNext))
    (tSeq (sFldAug K (tVar 0) (tVar 1) (ipI fun i j => i + j) "at")
    (tSeq (tRet (tVar 2))
    tNext)))) := ⟨rfl⟩
def t_Bits_take (K : PySem.W.Frag) (A : Ads) (E : XK) : TS :=
  (tSeq (tIfS (tTest (tOp uLt (tMt A.c_Bits "left" (sp_Bits_left K A) (WE (fun cls d _ H => E cls d H)) (tVar 0) tNil) (tVar 1)))
    (tSeq (tRs A.c_NoBits (fun cls d _ H => E cls d H))
    tNext)
    tNext)
    (tSeq (tAsg (tC (.int (0))) (gName 2))
    (x_Bits_take_0 K A E)))
theorem pure_Bits_take {K : PySem.W.Frag} {A : Ads} (T : Fct K A) (vs : List V) (H : Hp) (Q : VK) (E : XK) (h : sp_Bits_take K A vs H Q E) : t_Bits_take K A E (endE Q) (L2.start N_Bits_take vs) H := by
  obtain ⟨B, G, p, r, dx, rs, at', w, rfl, zs, hr, hl, ha, k, k2⟩ := h
  refine (?_ : N B ((p, .ins A.c_Bits dx [("row", .ref r), ("at", .int at')]) :: G) (fun H => t_Bits_take K A E (endE Q) (L2.start N_Bits_take [.ref p, .int w]) H)) H zs
  clear zs
  unfold t_Bits_take

  walk_at "sk stp"
  refine n_iteD (fun hb => ?_) (fun hb => ?_)
  · walk_at "sk stp"
    exact k2 (by omega)
  · walk_at "sk stp"
    rename_i q
    rw [show ((at' : Int) + w) = ((at' + w : Nat) : Int) by omega, cutI_nat, show at' + w - at' = w by omega]
    generalize hb : (rs.drop at').take w = bs
    have hbl : bs.length = w := by rw [← hb, List.length_take, List.length_drop]; omega
    refine n_lpLi bs (fun i σ L => ∃ (v : Int) (x3 : Option V), σ = [some (.ref p), some (.int w), some (.int v), x3] ∧ L = (q, .lst (bs.map V.int)) :: (p, .ins A.c_Bits dx [("row", .ref r), ("at", .int at')]) :: G ∧ v = valB 0 (bs.take i)) ?_ ⟨_, _, rfl, rfl, rfl⟩ ?_ ?_
    · rintro i σ L _ ⟨v, x3, rfl, rfl, rfl⟩
      walk_at "sk sq"
    · rintro i σ L hi ⟨v, x3, rfl, rfl, rfl⟩
      walk_at "sk stp"
      refine n_ki ⟨_, _, rfl, rfl, ?_⟩ (.refl _)
      rw [take_step hi, valB_snoc]
    · rintro σ L ⟨v, x3, rfl, rfl, rfl⟩
      rw [List.take_length, ← hb]
      rw [← hb] at hbl
      walk_at "sk stp"
      exact n_sub (by walk_at "sk sub") (k (by omega))
theorem raw_Bits_take {P : Program} {w : World} {K : PySem.W.Frag} {mg : Str → Option Value} {base : Heap} {A : Ads} {f : Addr} {fd : FuncData} (F : Fun K "take" "Bits.take" s_Bits_take f fd) (T : Txt K mg A) (O_Bits_left : OkM P w K mg base CX0 1 A.c_Bits "left" ["self"] (sp_Bits_left K A)) : FnOk P w K mg base (CXN P w) 2 f fd ["self", "width"] (sp_Bits_take K A) := by
  refine okN F sc_Bits_take (fun vs H Q E h => len_Bits_take vs H Q E h) (fun cdv Ar outer s H vs Q E hr h => ⟨t_Bits_take K A E, ?_, pure_Bits_take T.fct vs H Q E h⟩)
  have nd := sc_Bits_take.nd
  exact (pss_cons (ps_if (pt_cmpR op_uLt (pe_mt0 (E := WE (fun cls d _ H => E cls d H)) O_Bits_left (pv 0) (hr.mono (by decide)) pass00) (pv 1) (nomark _)) (pss_cons (L2N.ps_raise rfl (L2N.takes_of rfl rfl rfl rfl) (L2N.pmk_own PySem.F.excBase_ValueError T.x_NoBits T.g_NoBits T.k_NoBits (raises_own T.s_NoBits T.t_NoBits) (by rfl)))
    pss_nil) pss_nil)
    (pss_cons (ps_set (i := 2) nd rfl (Or.inl rfl) pe_int)
    (pss_cons (ps_for (passes_of rfl) rfl (pi_list (pe_slice sl_list (pe_fld (pv 0) rfl) (po_some (pe_fld (pv 0) rfl)) (po_some (pe_op op_uAdd (pe_fld (pv 0) rfl) (pv 1))))) (pg_name (i := 3) nd rfl (Or.inl rfl))
    (pss_cons (ps_set (i := 2) nd rfl (Or.inl rfl) (pe_op op_uAdd (pe_op op_uMul pe_int (pv 2)) (pv 3)))
    pss_nil))
    (pss_cons (ps_fldaug (pv 0) (pv 1) ip_add)
    (pss_cons (ps_ret (pv 2))
    pss_nil)))))
theorem use_Bits_take {K : PySem.W.Frag} {A : Ads} {B : Hp} {L : Own} {Q : VK} {E : XK} {p r dx : Addr} {rs : List Int} {at' w : Nat} (i : Nat) (hi : L[i]? = some (p, .ins A.c_Bits dx [("row", .ref r), ("at", .int at')])) (hr : Sq K B (L.eraseIdx i) r (rs.map V.int)) (hl : rs.length ≤ 100000) (ha : at' ≤ rs.length) (zq : at' + w ≤ rs.length → NQ B [] p (.ins A.c_Bits dx [("row", .ref r), ("at", .int ((at' + w : Nat) : Int))]) L i (Q (.int (valB 0 ((rs.drop at').take w))))) (zq2 : rs.length < at' + w → NQ B [] p (.ins A.c_Bits dx [("row", .ref r), ("at", .int at')]) L i (fun H => E (.ref A.c_NoBits) none H)) : N B L (fun H => sp_Bits_take K A [.ref p, .int w] H Q E) := fun zH zs => ⟨B, _, _, _, _, _, _, _, rfl, zs.front hi, hr, hl, ha, by (intros; first | (refine NP.of hi ?_; apply zq <;> assumption) | (apply zq <;> assumption)), by (intros; first | (refine NP.of hi ?_; apply zq2 <;> assumption) | (apply zq2 <;> assumption))⟩

/-- how many noughts bits begin with -/
def lz : List Int → Nat
  | [] => 0
  | b :: r => if b = 0 then lz r + 1 else 0
theorem lz_le : ∀ bs : List Int, lz bs ≤ bs.length
  | [] => Nat.le_refl _
  | b :: r => by
    unfold lz
    have := lz_le r
    rw [List.length_cons]
    split <;> omega
theorem lz_zero : ∀ (bs : List Int) (i : Nat), i < lz bs → bs.getD i 0 = 0
  | [], i, h => by cases h
  | b :: r, i, h => by
    unfold lz at h
    split at h
    · rename_i hb
      cases i with
      | zero => exact hb
      | succ i => exact lz_zero r i (by omega)
    · omega
theorem lz_end : ∀ (bs : List Int), lz bs < bs.length → bs.getD (lz bs) 0 ≠ 0
  | [], h => by cases h
  | b :: r, h => by
    by_cases hb : b = 0
    · have e : lz (b :: r) = lz r + 1 := by rw [lz, if_pos hb]
      rw [e] at h ⊢
      exact lz_end r (by rw [List.length_cons] at h; omega)
    · have e : lz (b :: r) = 0 := by rw [lz, if_neg hb]
      rw [e]
      exact hb
theorem getD_drop (bs : List Int) (m i : Nat) : (bs.drop m).getD i 0 = bs.getD (m + i) 0 := by
  rw [List.getD_eq_getElem?_getD, List.getD_eq_getElem?_getD, List.getElem?_drop]
theorem lz_app (n : Nat) (r : List Int) : lz (List.replicate n 0 ++ r) = n + lz r := by
  induction n with
  | zero => rw [Nat.zero_add]; rfl
  | succ n ih => rw [List.replicate_succ, List.cons_append, lz, if_pos rfl, ih]; omega
abbrev s_Bits_take_halves : Stmt := inClass (topS 15) 3
abbrev N_Bits_take_halves : List Str := ["self", "noughts"]
theorem sc_Bits_take_halves : FnScope N_Bits_take_halves ["self"] (defScope s_Bits_take_halves) := ⟨rfl, rfl, rfl, by decide +kernel, rfl, by decide +kernel, by decide +kernel⟩









def sp_Bits_take_halves (K : PySem.W.Frag) (A : Ads) : Sp := fun zvs zH Q E => ∃ (B : Hp) (G : Own) (p r dx : Addr) (rs : List Int) (at' : Nat), zvs = [.ref p] ∧ SI B ((p, .ins A.c_Bits dx [("row", .ref r), ("at", .int at')]) :: G) zH ∧ (Sq K B G r (rs.map V.int)) ∧ (rs.length ≤ 100000) ∧ (at' ≤ rs.length) ∧ (at' + 2 * lz (rs.drop at') + 1 ≤ rs.length → NP B [] p (.ins A.c_Bits dx [("row", .ref r), ("at", .int ((at' + (2 * lz (rs.drop at') + 1) : Nat) : Int))]) G (Q (.int (valB 0 ((rs.drop (at' + lz (rs.drop at'))).take (lz (rs.drop at') + 1)) - 1)))) ∧ (rs.length < at' + 2 * lz (rs.drop at') + 1 → NP B [] p (.ins A.c_Bits dx [("row", .ref r), ("at", .int at')]) G (fun H => E (.ref A.c_NoBits) none H))
theorem len_Bits_take_halves {K : PySem.W.Frag} {A : Ads} : ∀ vs H Q E, sp_Bits_take_halves K A vs H Q E → vs.length = 1 := by
  intro vs H Q E h
  obtain ⟨_, _, _, _, _, _, _, rfl, _⟩ := h
  rfl
def x_Bits_take_halves_0 (K : PySem.W.Frag) (A : Ads) (E : XK) : TS :=
  (tSeq (tRet (tOp uSub (tMt A.c_Bits "take" (sp_Bits_take K A) (WE (fun cls d _ H => E cls d H)) (tVar 0) (tCons (tOp (uAdd K) (tVar 1) (tC (.int (1)))) tNil)) (tC (.int (1)))))
    tNext)
instance {K : PySem.W.Frag} {A : Ads} {E : XK} : Unf (x_Bits_take_halves_0 K A E) (
  (tSeq (tRet (tOp uSub (tMt A.c_Bits "take" (sp_Bits_take K A) (WE (fun cls d _ H => E cls d H)) (tVar 0) (tCons (tOp (uAdd K) (tVar 1) (tC (.int (1)))) tNil)) (tC (.int (1)))))
    tNext)) := ⟨rfl⟩
def x_Bits_take_halves_1 (K : PySem.W.Frag) (A : Ads) (E : XK) : TS :=
  (tSeq (tIfS (tTest (tOp uLt (tMt A.c_Bits "left" (sp_Bits_left K A) (WE (fun cls d _ H => E cls d H)) (tVar 0) tNil) (tOp (uAdd K) (tOp uMul (tC (.int (2))) (tVar 1)) (tC (.int (1))))))
    (tSeq (tRs A.c_NoBits (fun cls d _ H => E cls d H))
    tNext)
    tNext)
    (tSeq (sFldAug K (tVar 0) (tVar 1) (ipI fun i j => i + j) "at")
    (x_Bits_take_halves_0 K A E)))
instance {K : PySem.W.Frag} {A : Ads} {E : XK} : Unf (x_Bits_take_halves_1 K A E) (
  (tSeq (tIfS (tTest (tOp uLt (tMt A.c_Bits "left" (sp_Bits_left K A) (WE (fun cls d _ H => E cls d H)) (tVar 0) tNil) (tOp (uAdd K) (tOp uMul (tC (.int (2))) (tVar 1)) (tC (.int (1))))))
    (tSeq (tRs A.c_NoBits (fun cls d _ H => E cls d H))
    tNext)
    tNext)
    (tSeq (sFldAug K (tVar 0) (tVar 1) (ipI fun i j => i + j) "at")
    (x_Bits_take_halves_0 K A E)))) := ⟨rfl⟩
def x_Bits_take_halves_2 (K : PySem.W.Frag) (A : Ads) (E : XK) : TS :=
  (tSeq (tWhile (tAnd (tTest (tOp uLt (tVar 1) (tMt A.c_Bits "left" (sp_Bits_left K A) (WE (fun cls d _ H => E cls d H)) (tVar 0) tNil))) (tTest (tOp (uEq K) (tOp (rIx K) (tFld K (tVar 0) "row") (tOp (uAdd K) (tFld K (tVar 0) "at") (tVar 1))) (tC (.int (0))))))
    (tSeq (tAug 1 (tC (.int (1))) (ipI fun i j => i + j))
    tNext))
    (x_Bits_take_halves_1 K A E))
instance {K : PySem.W.Frag} {A : Ads} {E : XK} : Unf (x_Bits_take_halves_2 K A E) (
  (tSeq (tWhile (tAnd (tTest (tOp uLt (tVar 1) (tMt A.c_Bits "left" (sp_Bits_left K A) (WE (fun cls d _ H => E cls d H)) (tVar 0) tNil))) (tTest (tOp (uEq K) (tOp (rIx K) (tFld K (tVar 0) "row") (tOp (uAdd K) (tFld K (tVar 0) "at") (tVar 1))) (tC (.int (0))))))
    (tSeq (tAug 1 (tC (.int (1))) (ipI fun i j => i + j))
    tNext))
    (x_Bits_take_halves_1 K A E))) := ⟨rfl⟩
def t_Bits_take_halves (K : PySem.W.Frag) (A : Ads) (E : XK) : TS :=
  (tSeq (tAsg (tC (.int (0))) (gName 1))
    (x_Bits_take_halves_2 K A E))
theorem pure_Bits_take_halves {K : PySem.W.Frag} {A : Ads} (T : Fct K A) (vs : List V) (H : Hp) (Q : VK) (E : XK) (h : sp_Bits_take_halves K A vs H Q E) : t_Bits_take_halves K A E (endE Q) (L2.start N_Bits_take_halves vs) H := by
  obtain ⟨B, G, p, r, dx, rs, at', rfl, zs, hr, hl, ha, k, k2⟩ := h
  refine (?_ : N B ((p, .ins A.c_Bits dx [("row", .ref r), ("at", .int at')]) :: G) (fun H => t_Bits_take_halves K A E (endE Q) (L2.start N_Bits_take_halves [.ref p]) H)) H zs
  clear zs
  unfold t_Bits_take_halves

  have z1 := lz_le (rs.drop at')
  have z2 := lz_zero (rs.drop at')
  have z3 := lz_end (rs.drop at')
  rw [List.length_drop] at z1 z3
  generalize lz (rs.drop at') = z at *
  walk_at "sk stp"
  refine n_while (fun m σ L => ∃ c : Nat, σ = [some (.ref p), some (.int c)] ∧ L = (p, .ins A.c_Bits dx [("row", .ref r), ("at", .int at')]) :: G ∧ c ≤ z ∧ m = z - c) _ ⟨0, rfl, rfl, by omega, rfl⟩ ?_
  rintro m σ L ⟨c, rfl, rfl, hc, rfl⟩
  walk_at "sk stp"
  have e1 : ((at' : Int) + c).toNat = at' + c := by omega
  rw [e1, ← getD_drop]
  refine n_ite (fun h => ?_) (fun h => ?_)
  · rw [Bool.and_eq_true, decide_eq_true_eq, decide_eq_true_eq] at h
    have hcz : c < z := by
      by_cases hh : c = z
      · subst hh; exact absurd h.2 (z3 (by omega))
      · omega
    refine n_wk ?_
    walk_at "sk stp"
    exact n_kw ⟨c + 1, rfl, rfl, by omega, rfl⟩ (by omega) (.refl _)
  · have hcz : c = z := by
      by_cases hh : c < z
      · rw [z2 c hh, decide_eq_true (show (c : Int) < rs.length - at' by omega)] at h
        simp at h
      · omega
    subst hcz
    walk_at "sk stp"
    refine n_iteD (fun hb => ?_) (fun hb => ?_)
    · walk_at "sk stp"
      exact k2 (by omega)
    · walk_at "sk stp"
      refine use_Bits_take (rs := rs) (at' := at' + c) (w := c + 1) 0 rfl hr hl (by omega) (fun _ => ?_) (fun h => absurd h (by omega))
      refine n_sub (L' := (p, .ins A.c_Bits dx [("row", .ref r), ("at", .int ((at' + c + (c + 1) : Nat) : Int))]) :: G) (.refl _) ?_
      walk_at "sk stp"
      rw [show at' + c + (c + 1) = at' + (2 * c + 1) by omega]
      exact k (by omega)
theorem raw_Bits_take_halves {P : Program} {w : World} {K : PySem.W.Frag} {mg : Str → Option Value} {base : Heap} {A : Ads} {f : Addr} {fd : FuncData} (F : Fun K "take_halves" "Bits.take_halves" s_Bits_take_halves f fd) (T : Txt K mg A) (O_Bits_left : OkM P w K mg base CX0 1 A.c_Bits "left" ["self"] (sp_Bits_left K A)) (O_Bits_take : OkM P w K mg base (CXN P w) 2 A.c_Bits "take" ["self", "width"] (sp_Bits_take K A)) : FnOk P w K mg base (CXN P w) 3 f fd ["self"] (sp_Bits_take_halves K A) := by
  refine okN F sc_Bits_take_halves (fun vs H Q E h => len_Bits_take_halves vs H Q E h) (fun cdv Ar outer s H vs Q E hr h => ⟨t_Bits_take_halves K A E, ?_, pure_Bits_take_halves T.fct vs H Q E h⟩)
  have nd := sc_Bits_take_halves.nd
  exact (pss_cons (ps_set (i := 1) nd rfl (Or.inl rfl) pe_int)
    (pss_cons (ps_while (passes_of rfl) (PW.pt (pw_and (pt_cmpR op_uLt (pv 1) (pe_mt0 (E := WE (fun cls d _ H => E cls d H)) O_Bits_left (pv 0) (hr.mono (by decide)) pass00) (nomark _)) (pw_and1 (pt_cmpR (op_uEq hr.units) (pe_ix ix_seq (pe_fld (pv 0) rfl) (pe_op op_uAdd (pe_fld (pv 0) rfl) (pv 1)) (fun _ _ => rfl)) pe_int (nomark _)))))
    (pss_cons (ps_aug (i := 1) nd rfl (Or.inl rfl) pe_int ip_add)
    pss_nil))
    (pss_cons (ps_if (pt_cmpR op_uLt (pe_mt0 (E := WE (fun cls d _ H => E cls d H)) O_Bits_left (pv 0) (hr.mono (by decide)) pass00) (pe_op op_uAdd (pe_op op_uMul pe_int (pv 1)) pe_int) (nomark _)) (pss_cons (L2N.ps_raise rfl (L2N.takes_of rfl rfl rfl rfl) (L2N.pmk_own PySem.F.excBase_ValueError T.x_NoBits T.g_NoBits T.k_NoBits (raises_own T.s_NoBits T.t_NoBits) (by rfl)))
    pss_nil) pss_nil)
    (pss_cons (ps_fldaug (pv 0) (pv 1) ip_add)
    (pss_cons (ps_ret (pe_op op_uSub (pe_mt (E := WE (fun cls d _ H => E cls d H)) O_Bits_take (pv 0) (hr.mono (by decide)) (passN (L2N.takes_of rfl rfl rfl rfl)) (pa_cons (pe_op op_uAdd (pv 1) pe_int) pa_nil)) pe_int))
    pss_nil)))))
theorem use_Bits_take_halves {K : PySem.W.Frag} {A : Ads} {B : Hp} {L : Own} {Q : VK} {E : XK} {p r dx : Addr} {rs : List Int} {at' : Nat} (i : Nat) (hi : L[i]? = some (p, .ins A.c_Bits dx [("row", .ref r), ("at", .int at')])) (hr : Sq K B (L.eraseIdx i) r (rs.map V.int)) (hl : rs.length ≤ 100000) (ha : at' ≤ rs.length) (zq : at' + 2 * lz (rs.drop at') + 1 ≤ rs.length → NQ B [] p (.ins A.c_Bits dx [("row", .ref r), ("at", .int ((at' + (2 * lz (rs.drop at') + 1) : Nat) : Int))]) L i (Q (.int (valB 0 ((rs.drop (at' + lz (rs.drop at'))).take (lz (rs.drop at') + 1)) - 1)))) (zq2 : rs.length < at' + 2 * lz (rs.drop at') + 1 → NQ B [] p (.ins A.c_Bits dx [("row", .ref r), ("at", .int at')]) L i (fun H => E (.ref A.c_NoBits) none H)) : N B L (fun H => sp_Bits_take_halves K A [.ref p] H Q E) := fun zH zs => ⟨B, _, _, _, _, _, _, rfl, zs.front hi, hr, hl, ha, by (intros; first | (refine NP.of hi ?_; apply zq <;> assumption) | (apply zq <;> assumption)), by (intros; first | (refine NP.of hi ?_; apply zq2 <;> assumption) | (apply zq2 <;> assumption))⟩


def BlockOk (xs : List Int) : Prop := isT xs = true ∧ 1 ≤ xs.length ∧ xs.length ≤ 48
instance (xs : List Int) : Decidable (BlockOk xs) := inferInstanceAs (Decidable (_ ∧ _ ∧ _))
def halvL (n : Int) : List Int := halvesN n (Builtin.Int.intBits (n + 1))
theorem halvL_len {n : Int} {k : Nat} (h0 : 0 ≤ n) (h : n + 1 < 2 ^ k) : (halvL n).length ≤ 2 * k := by
  unfold halvL halvesN
  have := intBits_lt (n := n + 1) (by omega) h
  rw [List.length_append, List.length_replicate, bitsN_len]
  omega
abbrev s_look_at_block : Stmt := topS 40
abbrev N_look_at_block : List Str := ["block"]
theorem sc_look_at_block : FnScope N_look_at_block ["block"] (defScope s_look_at_block) := ⟨rfl, rfl, rfl, by decide +kernel, rfl, by decide +kernel, by decide +kernel⟩






def sp_look_at_block (K : PySem.W.Frag) (A : Ads) : Sp := fun zvs zH Q E => ∃ (B : Hp) (G : Own) (a : Addr) (xs : List Int), zvs = [.ref a] ∧ SI B G zH ∧ (Is B G a (.lst (xs.map V.int))) ∧ (BlockOk xs → N B G (Q .non)) ∧ (¬ BlockOk xs → N B G (fun H => E (.ref A.c_NoBlock) none H))
theorem len_look_at_block {K : PySem.W.Frag} {A : Ads} : ∀ vs H Q E, sp_look_at_block K A vs H Q E → vs.length = 1 := by
  intro vs H Q E h
  obtain ⟨_, _, _, _, rfl, _⟩ := h
  rfl
def t_look_at_block (K : PySem.W.Frag) (A : Ads) (E : XK) : TS :=
  (tSeq (tIfS (tOr (tNot (tB (tCl (sp_is_text K A) (WE (fun cls d _ H => E cls d H)) (tCons (tVar 0) tNil)))) (tNot (tTest (tChain uLe uLe (tC (.int (1))) (tCB (uLen K) (tCons (tVar 0) tNil)) (tC (.int (48)))))))
    (tSeq (tRs A.c_NoBlock (fun cls d _ H => E cls d H))
    tNext)
    tNext)
    tNext)
theorem pure_look_at_block {K : PySem.W.Frag} {A : Ads} (T : Fct K A) (vs : List V) (H : Hp) (Q : VK) (E : XK) (h : sp_look_at_block K A vs H Q E) : t_look_at_block K A E (endE Q) (L2.start N_look_at_block vs) H := by
  obtain ⟨B, G, a, xs, rfl, zs, ha, k, k2⟩ := h
  refine (?_ : N B G (fun H => t_look_at_block K A E (endE Q) (L2.start N_look_at_block [.ref a]) H)) H zs
  clear zs
  unfold t_look_at_block

  by_cases h : BlockOk xs
  · obtain ⟨h1, h2, h3⟩ := id h
    walk_at "sk stp"
    rw [h1]
    walk_at "sk stp"
    exact k h
  · walk_at "sk stp"
    refine n_ite (fun hb => ?_) (fun hb => ?_)
    · walk_at "sk stp"
      exact k2 h
    · refine absurd ?_ h
      unfold BlockOk
      cases hh : isT xs with
      | false => rw [hh] at hb; simp at hb
      | true =>
        rw [hh] at hb
        simp at hb
        exact ⟨rfl, by omega, by omega⟩
theorem raw_look_at_block {P : Program} {w : World} {K : PySem.W.Frag} {mg : Str → Option Value} {base : Heap} {A : Ads} {f : Addr} {fd : FuncData} (F : Fun K "look_at_block" "look_at_block" s_look_at_block f fd) (T : Txt K mg A) (O_is_text : OkC P w K mg base CX0 3 "is_text" ["thing"] (sp_is_text K A)) : FnOk P w K mg base (CXN P w) 4 f fd ["block"] (sp_look_at_block K A) := by
  refine okN F sc_look_at_block (fun vs H Q E h => len_look_at_block vs H Q E h) (fun cdv Ar outer s H vs Q E hr h => ⟨t_look_at_block K A E, ?_, pure_look_at_block T.fct vs H Q E h⟩)
  have nd := sc_look_at_block.nd
  exact (pss_cons (ps_if (PW.pt (pw_or (pt_not (pt_val (pe_cl (E := WE (fun cls d _ H => E cls d H)) O_is_text (hr.mono (by decide)) (by rfl) pass00 (pa_cons (pv 0) pa_nil)))) (pw_or1 (pt_not (pt_chain op_uLe op_uLe pe_int (pe_callB call_uLen (by rfl) T.b_len boot_len (pa_cons (pv 0) pa_nil)) (pe_glob (by rfl) T.c_MOST_MARKS.choose_spec.1 T.c_MOST_MARKS.choose_spec.2)))))) (pss_cons (L2N.ps_raise rfl (L2N.takes_of rfl rfl rfl rfl) (L2N.pmk_own PySem.F.excBase_ValueError T.x_NoBlock T.g_NoBlock T.k_NoBlock (raises_own T.s_NoBlock T.t_NoBlock) (by rfl)))
    pss_nil) pss_nil)
    pss_nil)
theorem use_look_at_block {K : PySem.W.Frag} {A : Ads} {B : Hp} {G : Own} {Q : VK} {E : XK} {a : Addr} {xs : List Int} (ha : Is B G a (.lst (xs.map V.int))) (zq : BlockOk xs → N B G (Q .non)) (zq2 : ¬ BlockOk xs → N B G (fun H => E (.ref A.c_NoBlock) none H)) : N B G (fun H => sp_look_at_block K A [.ref a] H Q E) := fun zH zs => ⟨B, _, _, _, rfl, zs, ha, zq, zq2⟩

abbrev Th := Int × List Int
/-- the first place of a least one among the first n + 1 -/
def fminF (ns : List Int) : Nat → Nat
  | 0 => 0
  | n + 1 => if ns.getD (n + 1) 0 < ns.getD (fminF ns n) 0 then n + 1 else fminF ns n
def fmin (ns : List Int) : Nat := fminF ns (ns.length - 1)
theorem fminF_spec (ns : List Int) : ∀ n, fminF ns n ≤ n ∧ (∀ j, j ≤ n → ns.getD (fminF ns n) 0 ≤ ns.getD j 0) ∧ ∀ j, j < fminF ns n → ns.getD (fminF ns n) 0 < ns.getD j 0
  | 0 => ⟨Nat.le_refl _, fun j h => by
      have : j = 0 := by omega
      subst this; exact Int.le_refl _, fun j h => absurd h (Nat.not_lt_zero _)⟩
  | n + 1 => by
    obtain ⟨h1, h2, h3⟩ := fminF_spec ns n
    rw [fminF]
    split
    · rename_i h
      refine ⟨Nat.le_refl _, fun j hj => ?_, fun j hj => ?_⟩
      · by_cases e : j = n + 1
        · subst e; exact Int.le_refl _
        · have := h2 j (by omega); omega
      · have := h2 j (by omega); omega
    · rename_i h
      refine ⟨by omega, fun j hj => ?_, h3⟩
      by_cases e : j = n + 1
      · subst e; omega
      · exact h2 j (by omega)
theorem fmin_lt {ns : List Int} (h : 0 < ns.length) : fmin ns < ns.length := by
  have := (fminF_spec ns (ns.length - 1)).1
  unfold fmin
  omega
theorem fmin_le {ns : List Int} {j : Nat} (hj : j < ns.length) : ns.getD (fmin ns) 0 ≤ ns.getD j 0 := (fminF_spec ns (ns.length - 1)).2.1 j (by omega)
theorem fmin_first {ns : List Int} {j : Nat} (hj : j < fmin ns) : ns.getD (fmin ns) 0 < ns.getD j 0 := (fminF_spec ns (ns.length - 1)).2.2 j hj
theorem fmin_idx {ns : List Int} {m : Int} (hm : m ∈ ns) (hl : ∀ y ∈ ns, m ≤ y) : ns.idxOf m = fmin ns := by
  have hn : 0 < ns.length := List.length_pos_iff.mpr (fun e => by rw [e] at hm; cases hm)
  have hf := fmin_lt hn
  have hi := List.idxOf_lt_length_iff.mpr hm
  have e : ns.getD (fmin ns) 0 = m := by
    have h1 := fmin_le (ns := ns) hi
    rw [getD_lt hi, List.getElem_idxOf hi] at h1
    have h2 := hl _ (List.getElem_mem hf)
    rw [getD_lt hf] at h1 ⊢
    omega
  unfold List.idxOf
  rw [List.findIdx_eq hf]
  refine ⟨?_, fun j hj => ?_⟩
  · rw [← getD_lt (d := 0) hf, e]; exact beq_self_eq_true _
  · have h1 := fmin_first hj
    rw [e, getD_lt (show j < ns.length by omega)] at h1
    exact beq_false_of_ne (by omega)
/-- the dict of how deep -/
def bumps (d : Int → Int) (ss : List Int) : Int → Int := ss.foldl (fun d s x => if x = s then d x + 1 else d x) d
theorem bumps_snoc (d : Int → Int) (ss : List Int) (s : Int) : bumps d (ss ++ [s]) = fun x => if x = s then bumps d ss x + 1 else bumps d ss x := by
  unfold bumps; rw [List.foldl_append]; rfl
abbrev deepD (syms : List Int) (d : Int → Int) : List (Int × V) := syms.map fun s => (s, V.int (d s))
theorem getI_fn {syms : List Int} {d : Int → Int} {s : Int} (h : s ∈ syms) : getI (deepD syms d) s = some (.int (d s)) := by
  induction syms with
  | nil => cases h
  | cons x r ih =>
    unfold getI at ih ⊢
    rw [show deepD (x :: r) d = (x, V.int (d x)) :: deepD r d from rfl, List.find?_cons]
    by_cases e : x = s
    · subst e
      show Option.map _ (match decide (x = x) with | true => _ | false => _) = _
      rw [decide_eq_true rfl]; rfl
    · show Option.map _ (match decide (x = s) with | true => _ | false => _) = _
      rw [decide_eq_false e]
      exact ih ((List.mem_cons.mp h).resolve_left fun e2 => e e2.symm)
theorem any_fn {syms : List Int} {d : Int → Int} {s : Int} : ((deepD syms d).any fun p => decide (p.1 = s)) = decide (s ∈ syms) := by
  induction syms with
  | nil => rfl
  | cons x r ih =>
    rw [show deepD (x :: r) d = (x, V.int (d x)) :: deepD r d from rfl, List.any_cons, ih]
    show (decide (x = s) || decide (s ∈ r)) = decide (s ∈ x :: r)
    by_cases e : x = s
    · subst e; simp
    · have e2 : ¬ s = x := fun h => e h.symm
      simp [e, e2]
theorem putI_fn {syms : List Int} {d : Int → Int} {s y : Int} (h : s ∈ syms) : putI (deepD syms d) s (.int y) = deepD syms (fun x => if x = s then y else d x) := by
  unfold putI
  rw [any_fn, if_pos (decide_eq_true h), List.map_map]
  refine List.map_congr_left fun x _ => ?_
  show (if x = s then (x, V.int y) else (x, V.int (d x))) = (x, V.int (if x = s then y else d x))
  split <;> rfl
theorem putI_newfn {syms : List Int} {d : Int → Int} {s : Int} (h : ¬ s ∈ syms) : putI (deepD syms d) s (.int (d s)) = deepD (syms ++ [s]) d := by
  unfold putI
  rw [any_fn, if_neg (by rw [decide_eq_false h]; decide), deepD, deepD, List.map_append]; rfl
structure MS where
  ths : List Th
  d : Int → Int
  sums : List Int
abbrev mI (m : MS) : Nat := fmin (m.ths.map (·.1))
abbrev mT1 (m : MS) : Th := m.ths.getD (mI m) (0, [])
abbrev mR1 (m : MS) : List Th := m.ths.eraseIdx (mI m)
abbrev mJ (m : MS) : Nat := fmin ((mR1 m).map (·.1))
abbrev mT2 (m : MS) : Th := (mR1 m).getD (mJ m) (0, [])
def mstep (m : MS) : MS := ⟨(mR1 m).eraseIdx (mJ m) ++ [((mT1 m).1 + (mT2 m).1, (mT1 m).2 ++ (mT2 m).2)], bumps m.d ((mT1 m).2 ++ (mT2 m).2), m.sums ++ [(mT1 m).1 + (mT2 m).1]⟩
def mall : Nat → MS → MS
  | 0, m => m
  | n + 1, m => mall n (mstep m)
theorem mI_lt {m : MS} (h : 2 ≤ m.ths.length) : mI m < m.ths.length := by
  have := fmin_lt (ns := m.ths.map (·.1)) (by rw [List.length_map]; omega)
  rw [List.length_map] at this
  exact this
theorem mR1_len {m : MS} (h : 2 ≤ m.ths.length) : (mR1 m).length = m.ths.length - 1 := by
  show (m.ths.eraseIdx (mI m)).length = _
  rw [List.length_eraseIdx, if_pos (mI_lt h)]
theorem mJ_lt {m : MS} (h : 2 ≤ m.ths.length) : mJ m < (mR1 m).length := by
  have := fmin_lt (ns := (mR1 m).map (·.1)) (by rw [List.length_map, mR1_len h]; omega)
  rw [List.length_map] at this
  exact this
theorem mstep_len {m : MS} (h : 2 ≤ m.ths.length) : (mstep m).ths.length = m.ths.length - 1 := by
  show ((mR1 m).eraseIdx (mJ m) ++ [_]).length = _
  rw [List.length_append, List.length_eraseIdx, if_pos (mJ_lt h), mR1_len h]
  show m.ths.length - 1 - 1 + 1 = _
  omega
theorem mall_snoc : ∀ (n : Nat) (m : MS), mall (n + 1) m = mstep (mall n m)
  | 0, m => rfl
  | n + 1, m => mall_snoc n (mstep m)
theorem mall_len : ∀ (n : Nat) (m : MS), n < m.ths.length → (mall n m).ths.length = m.ths.length - n
  | 0, m, h => rfl
  | n + 1, m, h => by
    have e := mstep_len (m := m) (by omega)
    rw [mall, mall_len n (mstep m) (by omega), e]; omega
/-- each symbol lies in one thing -/
def SymP (ths : List Th) (syms : List Int) : Prop := ((ths.map (·.2)).flatten).Perm syms
theorem flat_erase {t : Th} : ∀ {ths : List Th} {i : Nat}, ths[i]? = some t → ((ths.map (·.2)).flatten).Perm (t.2 ++ ((ths.eraseIdx i).map (·.2)).flatten)
  | [], i, h => by simp at h
  | x :: r, 0, h => by
    have e : x = t := Option.some.inj h
    subst e
    exact .refl _
  | x :: r, i + 1, h => by
    have ih := flat_erase (ths := r) (i := i) h
    show (x.2 ++ (r.map (·.2)).flatten).Perm (t.2 ++ (x.2 ++ ((r.eraseIdx i).map (·.2)).flatten))
    refine (List.Perm.append_left x.2 ih).trans ?_
    rw [← List.append_assoc, ← List.append_assoc]
    exact List.Perm.append_right _ List.perm_append_comm
theorem mT1_at {m : MS} (h : 2 ≤ m.ths.length) : m.ths[mI m]? = some (mT1 m) := by
  have hi := mI_lt h
  show _ = some (m.ths.getD (mI m) (0, []))
  rw [getD_lt hi, List.getElem?_eq_getElem hi]
theorem mT2_at {m : MS} (h : 2 ≤ m.ths.length) : (mR1 m)[mJ m]? = some (mT2 m) := by
  have hi := mJ_lt h
  show _ = some ((mR1 m).getD (mJ m) (0, []))
  rw [getD_lt hi, List.getElem?_eq_getElem hi]
theorem mflat {m : MS} (h : 2 ≤ m.ths.length) : ((m.ths.map (·.2)).flatten).Perm ((mT1 m).2 ++ (mT2 m).2 ++ (((mR1 m).eraseIdx (mJ m)).map (·.2)).flatten) := by
  refine (flat_erase (mT1_at h)).trans ?_
  rw [List.append_assoc]
  exact List.Perm.append_left _ (flat_erase (mT2_at h))
theorem SymP.step {m : MS} {syms : List Int} (hs : SymP m.ths syms) (h : 2 ≤ m.ths.length) : SymP (mstep m).ths syms := by
  unfold SymP
  show ((((mR1 m).eraseIdx (mJ m) ++ [((mT1 m).1 + (mT2 m).1, (mT1 m).2 ++ (mT2 m).2)]).map (·.2)).flatten).Perm syms
  rw [List.map_append, List.flatten_append]
  show (_ ++ ((mT1 m).2 ++ (mT2 m).2 ++ [])).Perm syms
  rw [List.append_nil]
  exact (List.perm_append_comm.trans (mflat h).symm).trans hs
theorem SymP.two {m : MS} {syms : List Int} (hs : SymP m.ths syms) (h : 2 ≤ m.ths.length) : (∀ s ∈ (mT1 m).2 ++ (mT2 m).2, s ∈ syms) ∧ (mT1 m).2.length + (mT2 m).2.length ≤ syms.length := by
  have p := (mflat h).symm.trans hs
  refine ⟨fun s h1 => p.mem_iff.mp (List.mem_append_left _ h1), ?_⟩
  have := p.length_eq
  rw [List.length_append, List.length_append] at this
  omega
theorem SymP.all {syms : List Int} : ∀ (n : Nat) (m : MS), n < m.ths.length → SymP m.ths syms → SymP (mall n m).ths syms
  | 0, m, h, hs => hs
  | n + 1, m, h, hs => SymP.all n (mstep m) (by rw [mstep_len (by omega)]; omega) (hs.step (by omega))
def ms0 (cs : List (Int × Int)) : MS := ⟨cs.map fun c => (c.2, [c.1]), fun _ => 0, []⟩
theorem ms0_sym (cs : List (Int × Int)) : SymP (ms0 cs).ths (cs.map (·.1)) := by
  unfold SymP ms0
  rw [List.map_map]
  show (List.map _ cs).flatten.Perm _
  have : (List.map ((fun x : Th => x.2) ∘ fun c : Int × Int => (c.2, [c.1])) cs).flatten = cs.map (·.1) := by
    induction cs with
    | nil => rfl
    | cons c r ih => rw [List.map_cons, List.flatten_cons, ih]; rfl
  rw [this]
def mEnd (cs : List (Int × Int)) : MS := mall (cs.length - 1) (ms0 cs)
def lensL (cs : List (Int × Int)) : List (Int × Int) := cs.map fun c => (c.1, max 1 ((mEnd cs).d c.1))
theorem mall_sums : ∀ (n : Nat) (m : MS), (mall n m).sums.length = m.sums.length + n
  | 0, m => rfl
  | n + 1, m => by
    rw [mall, mall_sums n (mstep m)]
    show (m.sums ++ [_]).length + n = _
    rw [List.length_append]
    show m.sums.length + 1 + n = _
    omega
theorem mEnd_sums {cs : List (Int × Int)} (h : 1 ≤ cs.length) : (mEnd cs).sums.length = cs.length - 1 := by
  unfold mEnd
  rw [mall_sums]
  show 0 + _ = _
  omega




def heapO (A : Ads) (dx th dp : Addr) : HO := .ins A.c_Heap dx [("things", .ref th), ("deep", .ref dp)]
/-- a thing with its count and symbols, in the base -/
def ThAt (B : Hp) (v : V) (t : Th) : Prop := ∃ p q, v = .ref p ∧ B p = some (.tup [.int t.1, .ref q]) ∧ B q = some (.lst (t.2.map V.int))
theorem ThAt.mono {B B' : Hp} {v : V} {t : Th} (h : ThAt B v t) (s : Same B B') : ThAt B' v t := by
  obtain ⟨p, q, e, h1, h2⟩ := h
  exact ⟨p, q, e, s _ _ h1, s _ _ h2⟩

abbrev s_Heap___init__ : Stmt := inClass (topS 22) 0
abbrev N_Heap___init__ : List Str := ["self", "counts", "symbol", "count"]
theorem sc_Heap___init__ : FnScope N_Heap___init__ ["self", "counts"] (defScope s_Heap___init__) := ⟨rfl, rfl, rfl, by decide +kernel, rfl, by decide +kernel, by decide +kernel⟩









def sp_Heap___init__ (K : PySem.W.Frag) (A : Ads) : Sp := fun zvs zH Q E => ∃ (B : Hp) (G : Own) (p dx a : Addr) (vs : List V) (cs : List (Int × Int)), zvs = [.ref p, .ref a] ∧ SI B ((p, .ins A.c_Heap dx []) :: G) zH ∧ (Sq K B G a vs) ∧ (All2 (PairAt B) vs cs) ∧ (cs.length ≤ 1000) ∧ ((cs.map (·.1)).Nodup) ∧ (∀ B' th dp ws, Same B B' → All2 (ThAt B') ws (ms0 cs).ths → NP B' [(dp, .dK (dI (deepD (cs.map (·.1)) (ms0 cs).d))), (th, .lst ws)] p (heapO A dx th dp) G (Q .non))
theorem len_Heap___init__ {K : PySem.W.Frag} {A : Ads} : ∀ vs H Q E, sp_Heap___init__ K A vs H Q E → vs.length = 2 := by
  intro vs H Q E h
  obtain ⟨_, _, _, _, _, _, _, rfl, _⟩ := h
  rfl
def x_Heap___init___0 (K : PySem.W.Frag) (A : Ads) (E : XK) : TS :=
  (tSeq (tFor (iList K (tVar 1)) (gTup K 2 (gCons (gName 2) (gCons (gName 3) gNil)))
    (tSeq (sDPut (tFld K (tVar 0) "deep") (tVar 2) (tC (.int (0))))
    tNext))
    tNext)
instance {K : PySem.W.Frag} {A : Ads} {E : XK} : Unf (x_Heap___init___0 K A E) (
  (tSeq (tFor (iList K (tVar 1)) (gTup K 2 (gCons (gName 2) (gCons (gName 3) gNil)))
    (tSeq (sDPut (tFld K (tVar 0) "deep") (tVar 2) (tC (.int (0))))
    tNext))
    tNext)) := ⟨rfl⟩
def t_Heap___init__ (K : PySem.W.Frag) (A : Ads) (E : XK) : TS :=
  (tSeq (sFld K (tVar 0) (tLc (iList K (tVar 1)) (gTup K 2 (gCons (gName 2) (gCons (gName 3) gNil))) tYes (tTup (tCons (tVar 3) (tCons (tLst (tCons (tVar 2) tNil)) tNil))) [2, 3]) "things")
    (tSeq (sFld K (tVar 0) tDNewK "deep")
    (x_Heap___init___0 K A E)))
theorem pure_Heap___init__ {K : PySem.W.Frag} {A : Ads} (T : Fct K A) (vs : List V) (H : Hp) (Q : VK) (E : XK) (h : sp_Heap___init__ K A vs H Q E) : t_Heap___init__ K A E (endE Q) (L2.start N_Heap___init__ vs) H := by
  obtain ⟨B, G, p, dx, a, vs, cs, rfl, zs, ha, hv, hl, hn, k⟩ := h
  refine (?_ : N B ((p, .ins A.c_Heap dx []) :: G) (fun H => t_Heap___init__ K A E (endE Q) (L2.start N_Heap___init__ [.ref p, .ref a]) H)) H zs
  clear zs
  unfold t_Heap___init__

  have hvl := hv.len
  walk_at "sk stp"
  refine n_lcPB cs (fun i B' acc L => All2 (ThAt B') acc ((ms0 cs).ths.take i) ∧ L = (p, .ins A.c_Heap dx []) :: G) hv (fun i B' acc L sm _ h => by rw [h.2]; exact (ha.mono sm).sub (List.sublist_cons_self _ _)) ⟨.nil, rfl⟩ ?_ ?_
  · rintro i B' acc L D v hi sm ⟨hacc, rfl⟩ ⟨pp, rfl, hp⟩
    have hp := sm _ _ hp
    have hal := hacc.len
    rw [List.length_take] at hal
    walk_at "sk stp"
    rename_i q tp
    refine n_freeze 1 rfl fun B1 sm1 hq => ?_
    refine n_freeze 0 rfl fun B2 sm2 htp => ?_
    refine n_putB (sm1.trans sm2) [] rfl (by rw [sizeLine_eq]; omega) ⟨?_, rfl⟩ (.refl _)
    have e : (ms0 cs).ths.take (i + 1) = (ms0 cs).ths.take i ++ [(cs[i].2, [cs[i].1])] := by
      have hi' : i < (ms0 cs).ths.length := by show i < (cs.map _).length; rw [List.length_map]; exact hi
      exact (take_step hi').trans (by rw [show (ms0 cs).ths[i] = (cs[i].2, [cs[i].1]) from List.getElem_map ..])
    rw [e]
    exact (hacc.imp fun _ _ h => (h.mono sm1).mono sm2).snoc ⟨tp, q, rfl, htp, sm2 _ _ hq⟩
  rintro B1 ws L th sm1 ⟨hw, rfl⟩
  have hcl : (ms0 cs).ths.length = cs.length := List.length_map _
  rw [List.take_of_length_le (by omega)] at hw
  have ha1 := ha.mono sm1
  have hv1 := pairs_mono hv sm1
  clear ha hv
  walk_at "sk stp"
  rename_i dp
  refine n_lpP cs (fun i σ L => ∃ (y2 y3 : Option V), σ = [some (.ref p), some (.ref a), y2, y3] ∧ L = (dp, .dK (dI (deepD ((cs.take i).map (·.1)) (ms0 cs).d))) :: (th, .lst ws) :: (p, heapO A dx th dp) :: G) hv1 ?_ ⟨_, _, rfl, rfl⟩ ?_ ?_
  · rintro i σ L _ ⟨y2, y3, rfl, rfl⟩
    exact ha1.sub (by walk_at "sk sub")
  · rintro i σ L v hi ⟨y2, y3, rfl, rfl⟩ ⟨pp, rfl, hp⟩
    unfold heapO
    walk_at "sk stp"
    have e7 : ¬ cs[i].1 ∈ (cs.take i).map (·.1) → putI (deepD ((cs.take i).map (·.1)) (ms0 cs).d) cs[i].1 (.int 0) = deepD ((cs.take i).map (·.1) ++ [cs[i].1]) (ms0 cs).d := fun h => putI_newfn (d := (ms0 cs).d) h
    rw [putK_dI, e7 (fun hm => ?_)]
    · rw [take_step hi, List.map_append]
      exact n_ki ⟨_, _, rfl, rfl⟩ (.refl _)
    · obtain ⟨c, hc, e⟩ := List.mem_map.mp hm
      obtain ⟨j, hj, e2⟩ := List.mem_iff_getElem.mp hc
      rw [List.length_take] at hj
      rw [List.getElem_take] at e2
      have h1 := (List.pairwise_iff_getElem.mp hn) j i (by rw [List.length_map]; omega) (by rw [List.length_map]; exact hi) (by omega)
      rw [List.getElem_map, List.getElem_map, e2, e] at h1
      exact h1 rfl
  rintro σ L ⟨y2, y3, rfl, rfl⟩
  rw [List.take_length]
  walk_at "sk stp"
  exact k B1 th dp ws sm1 hw
theorem raw_Heap___init__ {P : Program} {w : World} {K : PySem.W.Frag} {mg : Str → Option Value} {base : Heap} {A : Ads} {f : Addr} {fd : FuncData} (F : Fun K "__init__" "Heap.__init__" s_Heap___init__ f fd) (T : Txt K mg A) : FnOk P w K mg base CX0 1 f fd ["self", "counts"] (sp_Heap___init__ K A) := by
  refine F.ok sc_Heap___init__ (fun vs H Q E h => len_Heap___init__ vs H Q E h) (fun cdv Ar outer s H vs Q E hr h => ⟨t_Heap___init__ K A E, PSs.nox ?_, pure_Heap___init__ T.fct vs H Q E h⟩)
  have nd := sc_Heap___init__.nd
  exact (pss_cons (ps_fld (pv 0) (pe_lc (own := [("symbol", 2), ("count", 3)]) (by rfl) nd (pi_list (pv 1)) (blkOk_by (N := N_Heap___init__) (sc := defScope s_Heap___init__) (own := [("symbol", 2), ("count", 3)]) (by decide +kernel)) (fun _ _ _ _ _ => (pg_tup rfl (pgs_cons (pg_name (i := 2) nd rfl (Or.inl rfl)) (pgs_cons (pg_name (i := 3) nd rfl (Or.inl rfl)) pgs_nil)))) (fun _ _ _ _ _ => pts_nil) (fun _ _ _ _ _ => (pe_tup (pa_cons (pv 3) (pa_cons (pe_lst (pa_cons (pv 2) pa_nil)) pa_nil))))) rfl)
    (pss_cons (ps_fld (pv 0) pe_dnewK rfl)
    (pss_cons (ps_for PassesOwn.never rfl (pi_list (pv 1)) (pg_tup rfl (pgs_cons (pg_name (i := 2) nd rfl (Or.inl rfl)) (pgs_cons (pg_name (i := 3) nd rfl (Or.inl rfl)) pgs_nil)))
    (pss_cons (ps_dput (hu_of hr) (pe_fld (pv 0) rfl) (pv 2) pe_int rfl)
    pss_nil))
    pss_nil)))
theorem use_Heap___init__ {K : PySem.W.Frag} {A : Ads} {B : Hp} {L : Own} {Q : VK} {E : XK} {p dx a : Addr} {vs : List V} {cs : List (Int × Int)} (i : Nat) (hi : L[i]? = some (p, .ins A.c_Heap dx [])) (ha : Sq K B (L.eraseIdx i) a vs) (hv : All2 (PairAt B) vs cs) (hl : cs.length ≤ 1000) (hn : (cs.map (·.1)).Nodup) (zq : ∀ B' th dp ws, Same B B' → All2 (ThAt B') ws (ms0 cs).ths → NQ B' [(dp, .dK (dI (deepD (cs.map (·.1)) (ms0 cs).d))), (th, .lst ws)] p (heapO A dx th dp) L i (Q .non)) : N B L (fun H => sp_Heap___init__ K A [.ref p, .ref a] H Q E) := fun zH zs => ⟨B, _, _, _, _, _, _, rfl, zs.front hi, ha, hv, hl, hn, by (intros; first | (refine NP.of hi ?_; apply zq <;> assumption) | (apply zq <;> assumption))⟩

abbrev s_Heap_take_least : Stmt := inClass (topS 22) 1
abbrev N_Heap_take_least : List Str := ["self", "least", "place"]
theorem sc_Heap_take_least : FnScope N_Heap_take_least ["self"] (defScope s_Heap_take_least) := ⟨rfl, rfl, rfl, by decide +kernel, rfl, by decide +kernel, by decide +kernel⟩









def sp_Heap_take_least (K : PySem.W.Frag) (A : Ads) : Sp := fun zvs zH Q E => ∃ (B : Hp) (G : Own) (p dx th dp : Addr) (ws : List V) (ts : List Th), zvs = [.ref p] ∧ SI B ((th, .lst ws) :: G) zH ∧ (Is B G p (heapO A dx th dp)) ∧ (All2 (ThAt B) ws ts) ∧ (0 < ts.length) ∧ (ts.length ≤ 1000) ∧ (NP B [] th (.lst (ws.eraseIdx (fmin (ts.map (·.1))))) G (Q (ws.getD (fmin (ts.map (·.1))) .non)))
theorem len_Heap_take_least {K : PySem.W.Frag} {A : Ads} : ∀ vs H Q E, sp_Heap_take_least K A vs H Q E → vs.length = 1 := by
  intro vs H Q E h
  obtain ⟨_, _, _, _, _, _, _, _, rfl, _⟩ := h
  rfl
def x_Heap_take_least_0 (K : PySem.W.Frag) (A : Ads) (E : XK) : TS :=
  (tSeq (tIfS (tTest (tOp uLt (tOp (rIx K) (tOp (rIx K) (tFld K (tVar 0) "things") (tVar 2)) (tC (.int (0)))) (tOp (rIx K) (tOp (rIx K) (tFld K (tVar 0) "things") (tVar 1)) (tC (.int (0))))))
    (tSeq (tAsg (tVar 2) (gName 1))
    tNext)
    tNext)
    tNext)
instance {K : PySem.W.Frag} {A : Ads} {E : XK} : Unf (x_Heap_take_least_0 K A E) (
  (tSeq (tIfS (tTest (tOp uLt (tOp (rIx K) (tOp (rIx K) (tFld K (tVar 0) "things") (tVar 2)) (tC (.int (0)))) (tOp (rIx K) (tOp (rIx K) (tFld K (tVar 0) "things") (tVar 1)) (tC (.int (0))))))
    (tSeq (tAsg (tVar 2) (gName 1))
    tNext)
    tNext)
    tNext)) := ⟨rfl⟩
def x_Heap_take_least_1 (K : PySem.W.Frag) (A : Ads) (E : XK) : TS :=
  (tSeq (tFor (iRng2 (tCons (tC (.int (1))) (tCons (tCB (uLen K) (tCons (tFld K (tVar 0) "things") tNil)) tNil))) (gName 2)
    (x_Heap_take_least_0 K A E))
    (tSeq (tRet (tBM K "list" rPopAt (tFld K (tVar 0) "things") (tCons (tVar 1) tNil)))
    tNext))
instance {K : PySem.W.Frag} {A : Ads} {E : XK} : Unf (x_Heap_take_least_1 K A E) (
  (tSeq (tFor (iRng2 (tCons (tC (.int (1))) (tCons (tCB (uLen K) (tCons (tFld K (tVar 0) "things") tNil)) tNil))) (gName 2)
    (x_Heap_take_least_0 K A E))
    (tSeq (tRet (tBM K "list" rPopAt (tFld K (tVar 0) "things") (tCons (tVar 1) tNil)))
    tNext))) := ⟨rfl⟩
def t_Heap_take_least (K : PySem.W.Frag) (A : Ads) (E : XK) : TS :=
  (tSeq (tAsg (tC (.int (0))) (gName 1))
    (x_Heap_take_least_1 K A E))
theorem pure_Heap_take_least {K : PySem.W.Frag} {A : Ads} (T : Fct K A) (vs : List V) (H : Hp) (Q : VK) (E : XK) (h : sp_Heap_take_least K A vs H Q E) : t_Heap_take_least K A E (endE Q) (L2.start N_Heap_take_least vs) H := by
  obtain ⟨B, G, p, dx, th, dp, ws, ts, rfl, zs, hp, hv, hn, hl, k⟩ := h
  refine (?_ : N B ((th, .lst ws) :: G) (fun H => t_Heap_take_least K A E (endE Q) (L2.start N_Heap_take_least [.ref p]) H)) H zs
  clear zs
  unfold t_Heap_take_least

  have e := hv.len
  have hml : (ts.map (·.1)).length = ts.length := List.length_map _
  have hpx : Is B ((th, .lst ws) :: G) p (heapO A dx th dp) := hp.sub (List.sublist_cons_self _ _)
  unfold heapO at hpx
  walk_at "sk stp"
  refine n_lpR2 (fun i σ L => ∃ (y : Option V), σ = [some (.ref p), some (.int (fminF (ts.map (·.1)) i : Nat)), y] ∧ L = (th, .lst ws) :: G) (by omega) ⟨_, rfl, rfl⟩ ?_ ?_
  · rintro i σ L hi ⟨y, rfl, rfl⟩
    have hf := (fminF_spec (ts.map (·.1)) i).1
    obtain ⟨v1, e1, p1, q1, rfl, h1, _⟩ := hv.at (i := 1 + i) (by omega)
    obtain ⟨v2, e2, p2, q2, rfl, h2, _⟩ := hv.at (i := fminF (ts.map (·.1)) i) (by omega)
    have g1 : (ts.map (·.1)).getD (i + 1) 0 = ts[1 + i].1 := by
      rw [getD_lt (by omega), List.getElem_map]; simp only [Nat.add_comm]
    have g2 : (ts.map (·.1)).getD (fminF (ts.map (·.1)) i) 0 = ts[fminF (ts.map (·.1)) i].1 := by
      rw [getD_lt (by omega), List.getElem_map]
    have g3 : fminF (ts.map (·.1)) (i + 1) = if ts[1 + i].1 < ts[fminF (ts.map (·.1)) i].1 then i + 1 else fminF (ts.map (·.1)) i := by
      rw [fminF, g1, g2]
    rw [g3]
    walk_at "sk stp"
    refine n_ixL (sq_own 0 rfl) (atI_of (by omega) e1) ?_
    walk_at "sk stp"
    refine n_ixL (sq_own 0 rfl) (atI_of rfl e2) ?_
    walk_at "sk stp"
    refine n_iteD (fun h => ?_) (fun h => ?_)
    · rw [if_pos h, show ((i + 1 : Nat) : Int) = 1 + i by omega]
      walk_at "sk stp"
      exact n_ki ⟨_, rfl, rfl⟩ (.refl _)
    · rw [if_neg h]
      walk_at "sk stp"
      exact n_ki ⟨_, rfl, rfl⟩ (.refl _)
  · rintro σ L ⟨y, rfl, rfl⟩
    have e3 : fminF (ts.map (·.1)) ((ws.length : Int) - 1).toNat = fmin (ts.map (·.1)) := by
      unfold fmin
      rw [hml, show ((ws.length : Int) - 1).toNat = ts.length - 1 by omega]
    rw [e3]
    have hf := fmin_lt (ns := ts.map (·.1)) (by omega)
    walk_at "sk stp"
    refine n_popAt (k := 0) (m := 0) rfl (by omega) (by omega) (by omega) (v := ws.getD (fmin (ts.map (·.1))) .non) (by rw [Int.toNat_natCast, getD_lt (by omega), List.getElem?_eq_getElem]) ?_
    rw [Int.toNat_natCast]
    walk_at "sk stp"
    exact k
theorem raw_Heap_take_least {P : Program} {w : World} {K : PySem.W.Frag} {mg : Str → Option Value} {base : Heap} {A : Ads} {f : Addr} {fd : FuncData} (F : Fun K "take_least" "Heap.take_least" s_Heap_take_least f fd) (T : Txt K mg A) : FnOk P w K mg base CX0 1 f fd ["self"] (sp_Heap_take_least K A) := by
  refine F.ok sc_Heap_take_least (fun vs H Q E h => len_Heap_take_least vs H Q E h) (fun cdv Ar outer s H vs Q E hr h => ⟨t_Heap_take_least K A E, PSs.nox ?_, pure_Heap_take_least T.fct vs H Q E h⟩)
  have nd := sc_Heap_take_least.nd
  exact (pss_cons (ps_set (i := 1) nd rfl (Or.inl rfl) pe_int)
    (pss_cons (ps_for PassesOwn.never rfl (pi_range2 (by rfl) T.b_range (pa_cons pe_int (pa_cons (pe_callB call_uLen (by rfl) T.b_len boot_len (pa_cons (pe_fld (pv 0) rfl) pa_nil)) pa_nil))) (pg_name (i := 2) nd rfl (Or.inl rfl))
    (pss_cons (ps_if (pt_cmpR op_uLt (pe_ix ix_seq (pe_ix ix_seq (pe_fld (pv 0) rfl) (pv 2) (fun _ _ => rfl)) pe_int (fun _ _ => rfl)) (pe_ix ix_seq (pe_ix ix_seq (pe_fld (pv 0) rfl) (pv 1) (fun _ _ => rfl)) pe_int (fun _ _ => rfl)) (nomark _)) (pss_cons (ps_set (i := 1) nd rfl (Or.inl rfl) (pv 2))
    pss_nil) pss_nil)
    pss_nil))
    (pss_cons (ps_ret (pe_bm PySem.F.plainAttrs_list PySem.F.slot_list_pop PySem.F.type_list_pop mt_popAt (pe_fld (pv 0) rfl) (pa_cons (pv 1) pa_nil)))
    pss_nil)))
theorem use_Heap_take_least {K : PySem.W.Frag} {A : Ads} {B : Hp} {L : Own} {Q : VK} {E : XK} {p dx th dp : Addr} {ws : List V} {ts : List Th} (i : Nat) (hi : L[i]? = some (th, .lst ws)) (hp : Is B (L.eraseIdx i) p (heapO A dx th dp)) (hv : All2 (ThAt B) ws ts) (hn : 0 < ts.length) (hl : ts.length ≤ 1000) (zq : NQ B [] th (.lst (ws.eraseIdx (fmin (ts.map (·.1))))) L i (Q (ws.getD (fmin (ts.map (·.1))) .non))) : N B L (fun H => sp_Heap_take_least K A [.ref p] H Q E) := fun zH zs => ⟨B, _, _, _, _, _, _, _, rfl, zs.front hi, hp, hv, hn, hl, by (intros; first | (refine NP.of hi ?_; apply zq <;> assumption) | (apply zq <;> assumption))⟩
local macro_rules | `(tactic| walk_at "sk st") => `(tactic| with_reducible (apply use_Heap_take_least; (next => with_unfolding_all walk_at "sk ix"); (next => with_unfolding_all walk_at "sk is"); (next => with_unfolding_all walk_at "sk sd"); (next => with_unfolding_all walk_at "sk sd"); (next => with_unfolding_all walk_at "sk len"); (skip)))

abbrev s_Heap_merge : Stmt := inClass (topS 22) 2
abbrev N_Heap_merge : List Str := ["self", "one", "other", "symbols", "symbol"]
theorem sc_Heap_merge : FnScope N_Heap_merge ["self"] (defScope s_Heap_merge) := ⟨rfl, rfl, rfl, by decide +kernel, rfl, by decide +kernel, by decide +kernel⟩











def sp_Heap_merge (K : PySem.W.Frag) (A : Ads) : Sp := fun zvs zH Q E => ∃ (B : Hp) (G : Own) (p dx th dp : Addr) (ws : List V) (m : MS) (syms : List Int), zvs = [.ref p] ∧ SI B ((th, .lst ws) :: (dp, .dK (dI (deepD syms m.d))) :: G) zH ∧ (Is B G p (heapO A dx th dp)) ∧ (All2 (ThAt B) ws m.ths) ∧ (2 ≤ m.ths.length) ∧ (m.ths.length ≤ 1000 ∧ syms.length ≤ 1000) ∧ (SymP m.ths syms) ∧ (∀ B' ws', Same B B' → All2 (ThAt B') ws' (mstep m).ths → N B' ((th, .lst ws') :: (dp, .dK (dI (deepD syms (mstep m).d))) :: G) (Q (.int ((mT1 m).1 + (mT2 m).1))))
theorem len_Heap_merge {K : PySem.W.Frag} {A : Ads} : ∀ vs H Q E, sp_Heap_merge K A vs H Q E → vs.length = 1 := by
  intro vs H Q E h
  obtain ⟨_, _, _, _, _, _, _, _, _, rfl, _⟩ := h
  rfl
def x_Heap_merge_0 (K : PySem.W.Frag) (A : Ads) (E : XK) : TS :=
  (tSeq (tDrop (tBM K "list" rAppend (tFld K (tVar 0) "things") (tCons (tTup (tCons (tOp (uAdd K) (tOp (rIx K) (tVar 1) (tC (.int (0)))) (tOp (rIx K) (tVar 2) (tC (.int (0))))) (tCons (tVar 3) tNil))) tNil)))
    (tSeq (tRet (tOp (uAdd K) (tOp (rIx K) (tVar 1) (tC (.int (0)))) (tOp (rIx K) (tVar 2) (tC (.int (0))))))
    tNext))
instance {K : PySem.W.Frag} {A : Ads} {E : XK} : Unf (x_Heap_merge_0 K A E) (
  (tSeq (tDrop (tBM K "list" rAppend (tFld K (tVar 0) "things") (tCons (tTup (tCons (tOp (uAdd K) (tOp (rIx K) (tVar 1) (tC (.int (0)))) (tOp (rIx K) (tVar 2) (tC (.int (0))))) (tCons (tVar 3) tNil))) tNil)))
    (tSeq (tRet (tOp (uAdd K) (tOp (rIx K) (tVar 1) (tC (.int (0)))) (tOp (rIx K) (tVar 2) (tC (.int (0))))))
    tNext))) := ⟨rfl⟩
def x_Heap_merge_1 (K : PySem.W.Frag) (A : Ads) (E : XK) : TS :=
  (tSeq (tFor (iList K (tVar 3)) (gName 4)
    (tSeq (sDAug (tFld K (tVar 0) "deep") (tVar 4) (tC (.int (1))) rAdd)
    tNext))
    (x_Heap_merge_0 K A E))
instance {K : PySem.W.Frag} {A : Ads} {E : XK} : Unf (x_Heap_merge_1 K A E) (
  (tSeq (tFor (iList K (tVar 3)) (gName 4)
    (tSeq (sDAug (tFld K (tVar 0) "deep") (tVar 4) (tC (.int (1))) rAdd)
    tNext))
    (x_Heap_merge_0 K A E))) := ⟨rfl⟩
def x_Heap_merge_2 (K : PySem.W.Frag) (A : Ads) (E : XK) : TS :=
  (tSeq (tAsg (tOp (uAdd K) (tOp (rIx K) (tVar 1) (tC (.int (1)))) (tOp (rIx K) (tVar 2) (tC (.int (1))))) (gName 3))
    (x_Heap_merge_1 K A E))
instance {K : PySem.W.Frag} {A : Ads} {E : XK} : Unf (x_Heap_merge_2 K A E) (
  (tSeq (tAsg (tOp (uAdd K) (tOp (rIx K) (tVar 1) (tC (.int (1)))) (tOp (rIx K) (tVar 2) (tC (.int (1))))) (gName 3))
    (x_Heap_merge_1 K A E))) := ⟨rfl⟩
def x_Heap_merge_3 (K : PySem.W.Frag) (A : Ads) (E : XK) : TS :=
  (tSeq (tAsg (tMt A.c_Heap "take_least" (sp_Heap_take_least K A) (WE W0) (tVar 0) tNil) (gName 2))
    (x_Heap_merge_2 K A E))
instance {K : PySem.W.Frag} {A : Ads} {E : XK} : Unf (x_Heap_merge_3 K A E) (
  (tSeq (tAsg (tMt A.c_Heap "take_least" (sp_Heap_take_least K A) (WE W0) (tVar 0) tNil) (gName 2))
    (x_Heap_merge_2 K A E))) := ⟨rfl⟩
def t_Heap_merge (K : PySem.W.Frag) (A : Ads) (E : XK) : TS :=
  (tSeq (tAsg (tMt A.c_Heap "take_least" (sp_Heap_take_least K A) (WE W0) (tVar 0) tNil) (gName 1))
    (x_Heap_merge_3 K A E))
theorem pure_Heap_merge {K : PySem.W.Frag} {A : Ads} (T : Fct K A) (vs : List V) (H : Hp) (Q : VK) (E : XK) (h : sp_Heap_merge K A vs H Q E) : t_Heap_merge K A E (endE Q) (L2.start N_Heap_merge vs) H := by
  obtain ⟨B, G, p, dx, th, dp, ws, m, syms, rfl, zs, hp, hv, hn, hl, hs, k⟩ := h
  refine (?_ : N B ((th, .lst ws) :: (dp, .dK (dI (deepD syms m.d))) :: G) (fun H => t_Heap_merge K A E (endE Q) (L2.start N_Heap_merge [.ref p]) H)) H zs
  clear zs
  unfold t_Heap_merge

  have hi1 := mI_lt hn
  have hr1 := mR1_len hn
  have hi2 := mJ_lt hn
  have hvl := hv.len
  obtain ⟨hs1, hs2⟩ := hs.two hn
  have hv1 : All2 (ThAt B) (ws.eraseIdx (mI m)) (mR1 m) := hv.erase _
  have hv2 : All2 (ThAt B) ((ws.eraseIdx (mI m)).eraseIdx (mJ m)) ((mR1 m).eraseIdx (mJ m)) := hv1.erase _
  obtain ⟨p1, q1, e1, h11, h12⟩ : ThAt B (ws.getD (mI m) .non) (mT1 m) := hv.getD _ _ hi1
  obtain ⟨p2, q2, e2, h21, h22⟩ : ThAt B ((ws.eraseIdx (mI m)).getD (mJ m) .non) (mT2 m) := hv1.getD _ _ hi2
  have hpx : ∀ o1 o2, Is B ((th, o1) :: (dp, o2) :: G) p (heapO A dx th dp) := fun o1 o2 => hp.sub (by walk_at "sk sub")
  unfold heapO at hpx
  walk_at "sk stp"
  rw [show ws.getD (fmin (m.ths.map (·.1))) .non = .ref p1 from e1, show (ws.eraseIdx (fmin (m.ths.map (·.1)))).getD (fmin ((mR1 m).map (·.1))) .non = .ref p2 from e2]
  show N B ((th, .lst ((ws.eraseIdx (mI m)).eraseIdx (mJ m))) :: (dp, _) :: G) _
  have hl1 := hv1.len
  have hl2 := hv2.len
  rw [List.length_eraseIdx (l := mR1 m), if_pos hi2] at hl2
  generalize hw2 : (ws.eraseIdx (mI m)).eraseIdx (mJ m) = w2 at *
  walk_at "sk stp"
  rename_i sl
  refine n_freeze 0 rfl fun B1 sm1 hsl => ?_
  have hp1 : ∀ o1 o2, Is B1 ((th, o1) :: (dp, o2) :: G) p (.ins A.c_Heap dx [("things", .ref th), ("deep", .ref dp)]) := fun o1 o2 => (hpx o1 o2).mono sm1
  refine n_lpLi ((mT1 m).2 ++ (mT2 m).2) (fun i σ L => ∃ (y : Option V), σ = [some (.ref p), some (.ref p1), some (.ref p2), some (.ref sl), y] ∧ L = (th, .lst w2) :: (dp, .dK (dI (deepD syms (bumps m.d (((mT1 m).2 ++ (mT2 m).2).take i))))) :: G) ?_ ⟨_, rfl, rfl⟩ ?_ ?_
  · rintro i σ L _ ⟨y, rfl, rfl⟩
    walk_at "sk sq"
  · rintro i σ L hi ⟨y, rfl, rfl⟩
    have hms := hs1 _ (List.getElem_mem hi)
    rw [take_step hi, bumps_snoc]
    generalize bumps m.d (((mT1 m).2 ++ (mT2 m).2).take i) = d at *
    generalize ((mT1 m).2 ++ (mT2 m).2)[i] = z at *
    have hz := (valV_dI z (deepD syms d)).trans (getI_fn hms)
    have hpx := hp1
    walk_at "sk stp"
    rw [putK_dI, putI_fn hms]
    have e4 : (fun x => if x = z then d z + 1 else d x) = (fun x => if x = z then d x + 1 else d x) := by
      funext x
      split
      · rename_i h; rw [h]
      · rfl
    rw [e4]
    walk_at "sk stp"
    exact n_ki ⟨_, rfl, rfl⟩ (.refl _)
  rintro σ L ⟨y, rfl, rfl⟩
  rw [List.take_length]
  have h11 := sm1 _ _ h11
  have h21 := sm1 _ _ h21
  have hpx := hp1
  walk_at "sk stp"
  rename_i tp
  refine n_freeze 0 rfl fun B2 sm2 htp => ?_
  refine k B2 (w2 ++ [.ref tp]) (sm1.trans sm2) ?_
  exact (hv2.imp fun _ _ h => (h.mono sm1).mono sm2).snoc ⟨tp, sl, rfl, htp, sm2 _ _ hsl⟩
theorem raw_Heap_merge {P : Program} {w : World} {K : PySem.W.Frag} {mg : Str → Option Value} {base : Heap} {A : Ads} {f : Addr} {fd : FuncData} (F : Fun K "merge" "Heap.merge" s_Heap_merge f fd) (T : Txt K mg A) (O_Heap_take_least : OkM P w K mg base CX0 1 A.c_Heap "take_least" ["self"] (sp_Heap_take_least K A)) : FnOk P w K mg base CX0 2 f fd ["self"] (sp_Heap_merge K A) := by
  refine F.ok sc_Heap_merge (fun vs H Q E h => len_Heap_merge vs H Q E h) (fun cdv Ar outer s H vs Q E hr h => ⟨t_Heap_merge K A E, PSs.nox ?_, pure_Heap_merge T.fct vs H Q E h⟩)
  have nd := sc_Heap_merge.nd
  exact (pss_cons (ps_set (i := 1) nd rfl (Or.inl rfl) (pe_mt0 (E := WE W0) O_Heap_take_least (pv 0) (hr.mono (by decide)) pass00))
    (pss_cons (ps_set (i := 2) nd rfl (Or.inl rfl) (pe_mt0 (E := WE W0) O_Heap_take_least (pv 0) (hr.mono (by decide)) pass00))
    (pss_cons (ps_set (i := 3) nd rfl (Or.inl rfl) (pe_op op_uAdd (pe_ix ix_seq (pv 1) pe_int (fun _ _ => rfl)) (pe_ix ix_seq (pv 2) pe_int (fun _ _ => rfl))))
    (pss_cons (ps_for PassesOwn.never rfl (pi_list (pv 3)) (pg_name (i := 4) nd rfl (Or.inl rfl))
    (pss_cons (ps_daug (hu_of hr) (pe_fld (pv 0) rfl) (pv 4) pe_int in_add (fun _ _ _ => rfl))
    pss_nil))
    (pss_cons (ps_expr (pe_bm PySem.F.plainAttrs_list PySem.F.slot_list_append PySem.F.type_list_append mt_append (pe_fld (pv 0) rfl) (pa_cons (pe_tup (pa_cons (pe_op op_uAdd (pe_ix ix_seq (pv 1) pe_int (fun _ _ => rfl)) (pe_ix ix_seq (pv 2) pe_int (fun _ _ => rfl))) (pa_cons (pv 3) pa_nil))) pa_nil)))
    (pss_cons (ps_ret (pe_op op_uAdd (pe_ix ix_seq (pv 1) pe_int (fun _ _ => rfl)) (pe_ix ix_seq (pv 2) pe_int (fun _ _ => rfl))))
    pss_nil))))))
theorem use_Heap_merge {K : PySem.W.Frag} {A : Ads} {B : Hp} {L G : Own} {Q : VK} {E : XK} {p dx th dp : Addr} {ws : List V} {m : MS} {syms : List Int} (zhp : L.Perm ((th, .lst ws) :: (dp, .dK (dI (deepD syms m.d))) :: G)) (hp : Is B G p (heapO A dx th dp)) (hv : All2 (ThAt B) ws m.ths) (hn : 2 ≤ m.ths.length) (hl : m.ths.length ≤ 1000 ∧ syms.length ≤ 1000) (hs : SymP m.ths syms) (zq : ∀ B' ws', Same B B' → All2 (ThAt B') ws' (mstep m).ths → N B' ((th, .lst ws') :: (dp, .dK (dI (deepD syms (mstep m).d))) :: G) (Q (.int ((mT1 m).1 + (mT2 m).1)))) : N B L (fun H => sp_Heap_merge K A [.ref p] H Q E) := fun zH zs => ⟨B, _, _, _, _, _, _, _, _, rfl, zs.perm zhp, hp, hv, hn, hl, hs, zq⟩

abbrev s_Heap_merge_all : Stmt := inClass (topS 22) 3
abbrev N_Heap_merge_all : List Str := ["self", "sums"]
theorem sc_Heap_merge_all : FnScope N_Heap_merge_all ["self"] (defScope s_Heap_merge_all) := ⟨rfl, rfl, rfl, by decide +kernel, rfl, by decide +kernel, by decide +kernel⟩












def sp_Heap_merge_all (K : PySem.W.Frag) (A : Ads) : Sp := fun zvs zH Q E => ∃ (B : Hp) (G : Own) (p dx th dp : Addr) (ws : List V) (m : MS) (syms : List Int), zvs = [.ref p] ∧ SI B ((th, .lst ws) :: (dp, .dK (dI (deepD syms m.d))) :: G) zH ∧ (Is B G p (heapO A dx th dp)) ∧ (All2 (ThAt B) ws m.ths) ∧ (1 ≤ m.ths.length) ∧ (m.ths.length ≤ 1000 ∧ syms.length ≤ 1000) ∧ (SymP m.ths syms) ∧ (m.sums = []) ∧ (∀ B' q ws', Same B B' → All2 (ThAt B') ws' (mall (m.ths.length - 1) m).ths → N B' ((q, .lst ((mall (m.ths.length - 1) m).sums.map V.int)) :: (th, .lst ws') :: (dp, .dK (dI (deepD syms (mall (m.ths.length - 1) m).d))) :: G) (Q (.ref q)))
theorem len_Heap_merge_all {K : PySem.W.Frag} {A : Ads} : ∀ vs H Q E, sp_Heap_merge_all K A vs H Q E → vs.length = 1 := by
  intro vs H Q E h
  obtain ⟨_, _, _, _, _, _, _, _, _, rfl, _⟩ := h
  rfl
def x_Heap_merge_all_0 (K : PySem.W.Frag) (A : Ads) (E : XK) : TS :=
  (tSeq (tWhile (tTest (tOp uGt (tCB (uLen K) (tCons (tFld K (tVar 0) "things") tNil)) (tC (.int (1)))))
    (tSeq (tDrop (tBM K "list" rAppend (tVar 1) (tCons (tMt A.c_Heap "merge" (sp_Heap_merge K A) (WE W0) (tVar 0) tNil) tNil)))
    tNext))
    (tSeq (tRet (tVar 1))
    tNext))
instance {K : PySem.W.Frag} {A : Ads} {E : XK} : Unf (x_Heap_merge_all_0 K A E) (
  (tSeq (tWhile (tTest (tOp uGt (tCB (uLen K) (tCons (tFld K (tVar 0) "things") tNil)) (tC (.int (1)))))
    (tSeq (tDrop (tBM K "list" rAppend (tVar 1) (tCons (tMt A.c_Heap "merge" (sp_Heap_merge K A) (WE W0) (tVar 0) tNil) tNil)))
    tNext))
    (tSeq (tRet (tVar 1))
    tNext))) := ⟨rfl⟩
def t_Heap_merge_all (K : PySem.W.Frag) (A : Ads) (E : XK) : TS :=
  (tSeq (tAsg (tLst tNil) (gName 1))
    (x_Heap_merge_all_0 K A E))
theorem pure_Heap_merge_all {K : PySem.W.Frag} {A : Ads} (T : Fct K A) (vs : List V) (H : Hp) (Q : VK) (E : XK) (h : sp_Heap_merge_all K A vs H Q E) : t_Heap_merge_all K A E (endE Q) (L2.start N_Heap_merge_all vs) H := by
  obtain ⟨B, G, p, dx, th, dp, ws, m, syms, rfl, zs, hp, hv, hn, hl, hs, h0, k⟩ := h
  refine (?_ : N B ((th, .lst ws) :: (dp, .dK (dI (deepD syms m.d))) :: G) (fun H => t_Heap_merge_all K A E (endE Q) (L2.start N_Heap_merge_all [.ref p]) H)) H zs
  clear zs
  unfold t_Heap_merge_all

  walk_at "sk stp"
  rename_i q
  refine n_whileB (fun t B' σ L => ∃ (i : Nat) (ws : List V), σ = [some (.ref p), some (.ref q)] ∧ L = (q, .lst ((mall i m).sums.map V.int)) :: (th, .lst ws) :: (dp, .dK (dI (deepD syms (mall i m).d))) :: G ∧ All2 (ThAt B') ws (mall i m).ths ∧ i < m.ths.length ∧ (mall i m).sums.length = i ∧ t = m.ths.length - i) _ ⟨0, ws, rfl, by rw [show (mall 0 m).sums = [] from h0]; rfl, hv, by omega, by rw [show (mall 0 m).sums = [] from h0]; rfl, rfl⟩ ?_
  rintro t B1 σ L sm1 ⟨i, ws, rfl, rfl, hv, hi, hsl, rfl⟩
  have hlen := mall_len i m hi
  have hvl := hv.len
  have hpx : ∀ o0 o1 o2, Is B1 ((q, o0) :: (th, o1) :: (dp, o2) :: G) p (heapO A dx th dp) := fun o0 o1 o2 => (hp.mono sm1).sub (by walk_at "sk sub")
  unfold heapO at hpx
  walk_at "sk stp"
  refine n_iteD (fun h => ?_) (fun h => ?_)
  · refine n_wkG sm1 ?_
    walk_at "sk stp"
    refine use_Heap_merge (dx := dx) (th := th) (dp := dp) (ws := ws) (m := mall i m) (syms := syms) (G := (q, .lst ((mall i m).sums.map V.int)) :: G) ?_ ((hp.mono sm1).sub (by walk_at "sk sub")) hv (by omega) ⟨by omega, hl.2⟩ (SymP.all i m hi hs) fun B2 ws2 sm2 hv2 => ?_
    · exact (List.Perm.swap _ _ _).trans (List.Perm.cons _ (List.Perm.swap _ _ _))
    rw [← mall_snoc] at hv2 ⊢
    have e5 : (mall (i + 1) m).sums = (mall i m).sums ++ [(mT1 (mall i m)).1 + (mT2 (mall i m)).1] := by rw [mall_snoc]; rfl
    walk_at "sk stp"
    refine n_perm (L' := (q, .lst ((mall (i + 1) m).sums.map V.int)) :: (th, .lst ws2) :: (dp, .dK (dI (deepD syms (mall (i + 1) m).d))) :: G) ?_ ?_
    · rw [e5]
      exact (List.Perm.cons _ (List.Perm.swap _ _ _)).trans (List.Perm.swap _ _ _)
    · refine n_kgw (sm1.trans sm2) ⟨i + 1, ws2, rfl, rfl, hv2, by omega, by rw [e5, List.length_append, hsl]; rfl, rfl⟩ (by omega) (.refl _)
  · have e6 : i = m.ths.length - 1 := by omega
    subst e6
    walk_at "sk stp"
    exact k B1 q ws sm1 hv
theorem raw_Heap_merge_all {P : Program} {w : World} {K : PySem.W.Frag} {mg : Str → Option Value} {base : Heap} {A : Ads} {f : Addr} {fd : FuncData} (F : Fun K "merge_all" "Heap.merge_all" s_Heap_merge_all f fd) (T : Txt K mg A) (O_Heap_merge : OkM P w K mg base CX0 2 A.c_Heap "merge" ["self"] (sp_Heap_merge K A)) : FnOk P w K mg base CX0 3 f fd ["self"] (sp_Heap_merge_all K A) := by
  refine F.ok sc_Heap_merge_all (fun vs H Q E h => len_Heap_merge_all vs H Q E h) (fun cdv Ar outer s H vs Q E hr h => ⟨t_Heap_merge_all K A E, PSs.nox ?_, pure_Heap_merge_all T.fct vs H Q E h⟩)
  have nd := sc_Heap_merge_all.nd
  exact (pss_cons (ps_set (i := 1) nd rfl (Or.inl rfl) (pe_lst pa_nil))
    (pss_cons (ps_while PassesOwn.never (pt_cmpR op_uGt (pe_callB call_uLen (by rfl) T.b_len boot_len (pa_cons (pe_fld (pv 0) rfl) pa_nil)) pe_int (nomark _))
    (pss_cons (ps_expr (pe_bm PySem.F.plainAttrs_list PySem.F.slot_list_append PySem.F.type_list_append mt_append (pv 1) (pa_cons (pe_mt0 (E := WE W0) O_Heap_merge (pv 0) (hr.mono (by decide)) pass00) pa_nil)))
    pss_nil))
    (pss_cons (ps_ret (pv 1))
    pss_nil)))
theorem use_Heap_merge_all {K : PySem.W.Frag} {A : Ads} {B : Hp} {L G : Own} {Q : VK} {E : XK} {p dx th dp : Addr} {ws : List V} {m : MS} {syms : List Int} (zhp : L.Perm ((th, .lst ws) :: (dp, .dK (dI (deepD syms m.d))) :: G)) (hp : Is B G p (heapO A dx th dp)) (hv : All2 (ThAt B) ws m.ths) (hn : 1 ≤ m.ths.length) (hl : m.ths.length ≤ 1000 ∧ syms.length ≤ 1000) (hs : SymP m.ths syms) (h0 : m.sums = []) (zq : ∀ B' q ws', Same B B' → All2 (ThAt B') ws' (mall (m.ths.length - 1) m).ths → N B' ((q, .lst ((mall (m.ths.length - 1) m).sums.map V.int)) :: (th, .lst ws') :: (dp, .dK (dI (deepD syms (mall (m.ths.length - 1) m).d))) :: G) (Q (.ref q))) : N B L (fun H => sp_Heap_merge_all K A [.ref p] H Q E) := fun zH zs => ⟨B, _, _, _, _, _, _, _, _, rfl, zs.perm zhp, hp, hv, hn, hl, hs, h0, zq⟩

abbrev s_lengths_of : Stmt := topS 23
abbrev N_lengths_of : List Str := ["counts", "heap", "symbol", "count"]
theorem sc_lengths_of : FnScope N_lengths_of ["counts"] (defScope s_lengths_of) := ⟨rfl, rfl, rfl, by decide +kernel, rfl, by decide +kernel, by decide +kernel⟩








def sp_lengths_of (K : PySem.W.Frag) (A : Ads) : Sp := fun zvs zH Q E => ∃ (B : Hp) (G : Own) (a : Addr) (vs : List V) (cs : List (Int × Int)), zvs = [.ref a] ∧ SI B G zH ∧ (Sq K B G a vs) ∧ (All2 (PairAt B) vs cs) ∧ (1 ≤ cs.length ∧ cs.length ≤ 1000) ∧ ((cs.map (·.1)).Nodup) ∧ (∀ B' q ws, Same B B' → All2 (PairAt B') ws (lensL cs) → N B' ((q, .lst ws) :: G) (Q (.ref q)))
theorem len_lengths_of {K : PySem.W.Frag} {A : Ads} : ∀ vs H Q E, sp_lengths_of K A vs H Q E → vs.length = 1 := by
  intro vs H Q E h
  obtain ⟨_, _, _, _, _, rfl, _⟩ := h
  rfl
def x_lengths_of_0 (K : PySem.W.Frag) (A : Ads) (E : XK) : TS :=
  (tSeq (tRet (tLc (iList K (tVar 0)) (gTup K 2 (gCons (gName 2) (gCons (gName 3) gNil))) tYes (tTup (tCons (tVar 2) (tCons (tCB uMax2 (tCons (tC (.int (1))) (tCons (tDGet (tFld K (tVar 1) "deep") (tVar 2)) tNil))) tNil))) [2, 3]))
    tNext)
instance {K : PySem.W.Frag} {A : Ads} {E : XK} : Unf (x_lengths_of_0 K A E) (
  (tSeq (tRet (tLc (iList K (tVar 0)) (gTup K 2 (gCons (gName 2) (gCons (gName 3) gNil))) tYes (tTup (tCons (tVar 2) (tCons (tCB uMax2 (tCons (tC (.int (1))) (tCons (tDGet (tFld K (tVar 1) "deep") (tVar 2)) tNil))) tNil))) [2, 3]))
    tNext)) := ⟨rfl⟩
def t_lengths_of (K : PySem.W.Frag) (A : Ads) (E : XK) : TS :=
  (tSeq (tAsg (tMkk A.c_Heap (sp_Heap___init__ K A) (WE W0) (tCons (tVar 0) tNil)) (gName 1))
    (tSeq (tDrop (tMt A.c_Heap "merge_all" (sp_Heap_merge_all K A) (WE W0) (tVar 1) tNil))
    (x_lengths_of_0 K A E)))
theorem pure_lengths_of {K : PySem.W.Frag} {A : Ads} (T : Fct K A) (vs : List V) (H : Hp) (Q : VK) (E : XK) (h : sp_lengths_of K A vs H Q E) : t_lengths_of K A E (endE Q) (L2.start N_lengths_of vs) H := by
  obtain ⟨B, G, a, vs, cs, rfl, zs, ha, hv, hl, hn, k⟩ := h
  refine (?_ : N B G (fun H => t_lengths_of K A E (endE Q) (L2.start N_lengths_of [.ref a]) H)) H zs
  clear zs
  unfold t_lengths_of

  walk_at "sk stp"
  rename_i p dx
  refine use_Heap___init__ (cs := cs) 0 rfl (ha.sub (by walk_at "sk sub")) hv hl.2 hn fun B1 th dp ws sm1 hw => ?_
  have hml : (ms0 cs).ths.length = cs.length := List.length_map _
  have hsl : (cs.map (·.1)).length = cs.length := List.length_map _
  refine n_freeze 2 rfl fun B2 sm2 hpo => ?_
  show N B2 ((dp, _) :: (th, _) :: G) _
  walk_at "sk stp"
  refine use_Heap_merge_all (dx := dx) (th := th) (dp := dp) (ws := ws) (m := ms0 cs) (syms := cs.map (·.1)) (List.Perm.swap _ _ _) (is_old hpo) (hw.imp fun _ _ h => h.mono sm2) (by omega) (by omega) (ms0_sym cs) rfl fun B3 q ws3 sm3 hw3 => ?_
  have sm := (sm1.trans sm2).trans sm3
  have hpo := sm3 _ _ hpo
  have ha := ha.mono sm
  have hv := pairs_mono hv sm
  rw [hml]
  show N B3 ((q, _) :: (th, .lst ws3) :: (dp, .dK (dI (deepD (cs.map (·.1)) (mEnd cs).d))) :: G) _
  refine n_freeze 2 rfl fun B4 sm4 hdp => ?_
  have sm := sm.trans sm4
  have hpo := sm4 _ _ hpo
  have ha := ha.mono sm4
  have hv := pairs_mono hv sm4
  refine n_sub (L' := G) (by walk_at "sk sub") ?_
  walk_at "sk stp"
  have hlen : (lensL cs).length = cs.length := List.length_map _
  refine n_lcPB cs (fun i B' acc L => All2 (PairAt B') acc ((lensL cs).take i) ∧ G = L) hv (fun i B' acc L sm _ h => by rw [← h.2]; exact ha.mono sm) ⟨.nil, rfl⟩ ?_ ?_
  · rintro i B' acc L D v hi sm5 ⟨hacc, rfl⟩ ⟨pp, rfl, hp⟩
    have hp := sm5 _ _ hp
    have hal := hacc.len
    have hpo := sm5 _ _ hpo
    have hdp := sm5 _ _ hdp
    rw [List.length_take] at hal
    have e7 : (lensL cs)[i]'(by omega) = (cs[i].1, max 1 ((mEnd cs).d cs[i].1)) := List.getElem_map ..
    rw [take_step (show i < (lensL cs).length by omega), e7]
    have hz := (valV_dI cs[i].1 (deepD (cs.map (·.1)) (mEnd cs).d)).trans (getI_fn (List.mem_map.mpr ⟨_, List.getElem_mem hi, rfl⟩))
    unfold heapO at hpo
    walk_at "sk stp"
    rename_i tp
    refine n_freeze 0 rfl fun B6 sm6 htp => ?_
    refine n_putB sm6 [] rfl (by rw [sizeLine_eq]; omega) ⟨?_, rfl⟩ (.refl _)
    exact (pairs_mono hacc sm6).snoc ⟨tp, rfl, htp⟩
  rintro B5 ws5 L D sm5 ⟨hw5, rfl⟩
  rw [List.take_of_length_le (by omega)] at hw5
  exact k B5 D ws5 (sm.trans sm5) hw5
theorem raw_lengths_of {P : Program} {w : World} {K : PySem.W.Frag} {mg : Str → Option Value} {base : Heap} {A : Ads} {f : Addr} {fd : FuncData} (F : Fun K "lengths_of" "lengths_of" s_lengths_of f fd) (T : Txt K mg A) (O_Heap___init__ : OkI P w K mg base CX0 1 "Heap" A.c_Heap ["self", "counts"] (sp_Heap___init__ K A)) (O_Heap_merge_all : OkM P w K mg base CX0 3 A.c_Heap "merge_all" ["self"] (sp_Heap_merge_all K A)) : FnOk P w K mg base CX0 4 f fd ["counts"] (sp_lengths_of K A) := by
  refine F.ok sc_lengths_of (fun vs H Q E h => len_lengths_of vs H Q E h) (fun cdv Ar outer s H vs Q E hr h => ⟨t_lengths_of K A E, PSs.nox ?_, pure_lengths_of T.fct vs H Q E h⟩)
  have nd := sc_lengths_of.nd
  exact (pss_cons (ps_set (i := 1) nd rfl (Or.inr rfl) (pe_mkk (E := WE W0) O_Heap___init__ (hr.mono (by decide)) (by rfl) pass00 (pa_cons (pv 0) pa_nil)))
    (pss_cons (ps_expr (pe_mt0 (E := WE W0) O_Heap_merge_all (pv 1) (hr.mono (by decide)) pass00))
    (pss_cons (ps_ret (pe_lc (own := [("symbol", 2), ("count", 3)]) (by rfl) nd (pi_list (pv 0)) (blkOk_by (N := N_lengths_of) (sc := defScope s_lengths_of) (own := [("symbol", 2), ("count", 3)]) (by decide +kernel)) (fun _ _ _ _ _ => (pg_tup rfl (pgs_cons (pg_name (i := 2) nd rfl (Or.inl rfl)) (pgs_cons (pg_name (i := 3) nd rfl (Or.inl rfl)) pgs_nil)))) (fun _ _ _ _ _ => pts_nil) (fun _ _ _ _ _ => (pe_tup (pa_cons (pv 2) (pa_cons (pe_callB (call_max2 rfl) (by rfl) T.b_max boot_max (pa_cons pe_int (pa_cons (pe_dget (hu_of hr) (pe_fld (pv 1) rfl) (pv 2) (fun _ _ => rfl)) pa_nil))) pa_nil))))))
    pss_nil)))
theorem use_lengths_of {K : PySem.W.Frag} {A : Ads} {B : Hp} {G : Own} {Q : VK} {E : XK} {a : Addr} {vs : List V} {cs : List (Int × Int)} (ha : Sq K B G a vs) (hv : All2 (PairAt B) vs cs) (hl : 1 ≤ cs.length ∧ cs.length ≤ 1000) (hn : (cs.map (·.1)).Nodup) (zq : ∀ B' q ws, Same B B' → All2 (PairAt B') ws (lensL cs) → N B' ((q, .lst ws) :: G) (Q (.ref q))) : N B G (fun H => sp_lengths_of K A [.ref a] H Q E) := fun zH zs => ⟨B, _, _, _, _, rfl, zs, ha, hv, hl, hn, zq⟩

/-- what one length takes of the room -/
def sh60 (l : Int) : Int := 2 ^ (60 - l).toNat
theorem sh60_pos (l : Int) : 0 < sh60 l := Int.pow_pos (by decide)
def room : List (Int × Int) → Int
  | [] => 0
  | c :: r => sh60 c.2 + room r
theorem room_snoc : ∀ (cs : List (Int × Int)) (c : Int × Int), room (cs ++ [c]) = room cs + sh60 c.2
  | [], c => by show sh60 c.2 + 0 = 0 + sh60 c.2; omega
  | d :: r, c => by
    show sh60 d.2 + room (r ++ [c]) = sh60 d.2 + room r + sh60 c.2
    rw [room_snoc r c]; omega
theorem room_nonneg : ∀ cs : List (Int × Int), 0 ≤ room cs
  | [] => Int.le_refl _
  | c :: r => by
    have := room_nonneg r
    have := sh60_pos c.2
    show 0 ≤ sh60 c.2 + room r
    omega
theorem room_perm {cs ds : List (Int × Int)} (p : cs.Perm ds) : room cs = room ds := by
  induction p with
  | nil => rfl
  | cons x _ ih => show _ + _ = _ + _; rw [ih]
  | swap x y l => show sh60 _ + (sh60 _ + room l) = sh60 _ + (sh60 _ + room l); omega
  | trans _ _ ih1 ih2 => exact ih1.trans ih2
/-- symbols that rise, lengths from 1 to 60 -/
def lensRun (ahead : Int) : List (Int × Int) → Prop
  | [] => True
  | c :: r => ahead < c.1 ∧ 1 ≤ c.2 ∧ c.2 ≤ 60 ∧ lensRun c.1 r
instance : ∀ (a : Int) (cs : List (Int × Int)), Decidable (lensRun a cs)
  | _, [] => inferInstanceAs (Decidable True)
  | a, c :: r => by
    have : Decidable (lensRun c.1 r) := instDecidableLensRun c.1 r
    exact inferInstanceAs (Decidable (a < c.1 ∧ 1 ≤ c.2 ∧ c.2 ≤ 60 ∧ lensRun c.1 r))
def LensOk (cs : List (Int × Int)) : Prop := cs ≠ [] ∧ lensRun (-1) cs ∧ room cs ≤ 2 ^ 60
theorem lensRun_all : ∀ {cs : List (Int × Int)} {a : Int}, lensRun a cs → (∀ c ∈ cs, a < c.1 ∧ 1 ≤ c.2 ∧ c.2 ≤ 60) ∧ (cs.map (·.1)).Pairwise (· < ·)
  | [], _, _ => ⟨(fun c h => nomatch h), .nil⟩
  | c :: r, a, h => by
    obtain ⟨h1, h2, h3, h4⟩ := h
    obtain ⟨q1, q2⟩ := lensRun_all h4
    refine ⟨fun d hd => ?_, ?_⟩
    · rcases List.mem_cons.mp hd with rfl | hd
      · exact ⟨h1, h2, h3⟩
      · have := q1 d hd; omega
    · rw [List.map_cons, List.pairwise_cons]
      refine ⟨fun s hs => ?_, q2⟩
      obtain ⟨d, hd, rfl⟩ := List.mem_map.mp hs
      exact (q1 d hd).1
theorem lensRun_of : ∀ {cs : List (Int × Int)} {a : Int}, (∀ c ∈ cs, a < c.1 ∧ 1 ≤ c.2 ∧ c.2 ≤ 60) → (cs.map (·.1)).Pairwise (· < ·) → lensRun a cs
  | [], _, _, _ => trivial
  | c :: r, a, h, p => by
    rw [List.map_cons, List.pairwise_cons] at p
    obtain ⟨h1, h2, h3⟩ := h c List.mem_cons_self
    exact ⟨h1, h2, h3, lensRun_of (fun d hd => ⟨p.1 _ (List.mem_map.mpr ⟨d, hd, rfl⟩), (h d (List.mem_cons_of_mem _ hd)).2⟩) p.2⟩
/-- (symbol, number, length) of each code, along the sorted (length, symbol) -/
def codeGo (num last : Int) : List (Int × Int) → List (Int × Int × Int)
  | [] => []
  | c :: r => (c.2, num * 2 ^ (c.1 - last).toNat, c.1) :: codeGo (num * 2 ^ (c.1 - last).toNat + 1) c.1 r
theorem codeGo_len : ∀ (cs : List (Int × Int)) (n l : Int), (codeGo n l cs).length = cs.length
  | [], _, _ => rfl
  | c :: r, n, l => by rw [codeGo, List.length_cons, List.length_cons, codeGo_len r]
def loC (t : Int × Int × Int) : Int := t.2.1 * sh60 t.2.2
theorem sh60_mul {a b : Int} (h1 : a ≤ b) (h2 : b ≤ 60) : (2 : Int) ^ (b - a).toNat * sh60 b = sh60 a := by
  unfold sh60
  rw [← Int.pow_add, show (b - a).toNat + (60 - b).toNat = (60 - a).toNat by omega]
theorem sh60_two {l : Int} (h1 : 0 ≤ l) (h2 : l ≤ 60) : (2 : Int) ^ l.toNat * sh60 l = 2 ^ 60 := by
  unfold sh60
  rw [← Int.pow_add, show l.toNat + (60 - l).toNat = 60 by omega]
/-- the codes lie apart, in order, within the room -/
theorem codeGo_spec : ∀ (cs : List (Int × Int)) (n last : Int), 0 ≤ n → 0 ≤ last → (∀ c ∈ cs, last ≤ c.1 ∧ c.1 ≤ 60) → cs.Pairwise (fun p q => p.1 ≤ q.1) → n * sh60 last + room (cs.map fun c => (c.2, c.1)) ≤ 2 ^ 60 →
    (∀ t ∈ codeGo n last cs, 0 ≤ t.2.1 ∧ t.2.1 + 1 ≤ 2 ^ t.2.2.toNat ∧ n * sh60 last ≤ loC t ∧ last ≤ t.2.2 ∧ t.2.2 ≤ 60) ∧ (codeGo n last cs).Pairwise (fun s t => loC s + sh60 s.2.2 ≤ loC t)
  | [], _, _, _, _, _, _, _ => ⟨(fun t h => nomatch h), .nil⟩
  | c :: r, n, last, h0, hl, hall, hs, hr => by
    obtain ⟨c1, c2⟩ := hall c List.mem_cons_self
    rw [List.pairwise_cons] at hs
    have hr' : n * sh60 last + (sh60 c.1 + room (r.map fun c => (c.2, c.1))) ≤ 2 ^ 60 := hr
    have e1 : n * 2 ^ (c.1 - last).toNat * sh60 c.1 = n * sh60 last := by rw [Int.mul_assoc, sh60_mul c1 c2]
    have e2 : (n * 2 ^ (c.1 - last).toNat + 1) * sh60 c.1 = n * sh60 last + sh60 c.1 := by rw [Int.add_mul, e1, Int.one_mul]
    have p0 : 0 ≤ n * 2 ^ (c.1 - last).toNat := Int.mul_nonneg h0 (Int.le_of_lt (Int.pow_pos (by decide)))
    have hrn := room_nonneg (r.map fun c => (c.2, c.1))
    obtain ⟨q1, q2⟩ := codeGo_spec r (n * 2 ^ (c.1 - last).toNat + 1) c.1 (by omega) (by omega) (fun d hd => ⟨hs.1 d hd, (hall d (List.mem_cons_of_mem _ hd)).2⟩) hs.2 (by rw [e2]; omega)
    have hp := sh60_pos c.1
    rw [codeGo]
    refine ⟨fun t ht => ?_, ?_⟩
    · rcases List.mem_cons.mp ht with rfl | ht
      · refine ⟨p0, ?_, ?_, c1, c2⟩
        · show n * 2 ^ (c.1 - last).toNat + 1 ≤ 2 ^ c.1.toNat
          have e3 := sh60_two (l := c.1) (by omega) c2
          refine Int.le_of_mul_le_mul_right (a := sh60 c.1) ?_ hp
          rw [e2, e3]
          omega
        · show n * sh60 last ≤ n * 2 ^ (c.1 - last).toNat * sh60 c.1
          rw [e1]; exact Int.le_refl _
      · obtain ⟨a1, a2, a3, a4, a5⟩ := q1 t ht
        rw [e2] at a3
        exact ⟨a1, a2, by omega, by omega, a5⟩
    · rw [List.pairwise_cons]
      refine ⟨fun t ht => ?_, q2⟩
      obtain ⟨_, _, a3, _⟩ := q1 t ht
      rw [e2] at a3
      show n * 2 ^ (c.1 - last).toNat * sh60 c.1 + sh60 c.1 ≤ loC t
      rw [e1]
      exact a3
theorem codeGo_syms : ∀ (cs : List (Int × Int)) (n l : Int), (codeGo n l cs).map (fun t => (t.2.2, t.1)) = cs
  | [], _, _ => rfl
  | c :: r, n, l => by rw [codeGo, List.map_cons, codeGo_syms r]
def swapP (c : Int × Int) : Int × Int := (c.2, c.1)
/-- the codes of lengths -/
def codesX (cs : List (Int × Int)) : List (Int × Int × Int) := codeGo 0 0 (sortP (cs.map swapP))
def cdT (X : List (Int × Int × Int)) (s : Int) : Int × Int × Int := (X.find? fun t => decide (t.1 = s)).getD (0, 0, 0)
def cdF (X : List (Int × Int × Int)) (s : Int) : List Int := bitsN (cdT X s).2.1 (cdT X s).2.2.toNat
theorem cdT_mem {X : List (Int × Int × Int)} (hn : (X.map (·.1)).Nodup) {t : Int × Int × Int} (h : t ∈ X) : cdT X t.1 = t := by
  induction X with
  | nil => cases h
  | cons x r ih =>
    rw [List.map_cons, List.nodup_cons] at hn
    unfold cdT at ih ⊢
    rw [List.find?_cons]
    rcases List.mem_cons.mp h with rfl | h
    · rw [decide_eq_true rfl]; rfl
    · have : ¬ x.1 = t.1 := fun e => hn.1 (by rw [e]; exact List.mem_map.mpr ⟨t, h, rfl⟩)
      rw [decide_eq_false this]
      exact ih hn.2 h
theorem codesX_perm (cs : List (Int × Int)) : ((codesX cs).map fun t => (t.1, t.2.2)).Perm cs := by
  have e : (codesX cs).map (fun t => (t.1, t.2.2)) = ((codesX cs).map (fun t => (t.2.2, t.1))).map swapP := by rw [List.map_map]; rfl
  rw [e, codesX, codeGo_syms]
  refine ((sortP_perm _).map swapP).trans ?_
  rw [List.map_map]
  have : cs.map (swapP ∘ swapP) = cs := by
    rw [show (swapP ∘ swapP) = id from rfl, List.map_id]
  rw [this]
theorem codesX_nodup {cs : List (Int × Int)} (h : (cs.map (·.1)).Nodup) : ((codesX cs).map (·.1)).Nodup := by
  have p := (codesX_perm cs).map (·.1)
  rw [List.map_map] at p
  exact (p.nodup_iff).mpr h
theorem codesX_of {cs : List (Int × Int)} (h : (cs.map (·.1)).Nodup) {c : Int × Int} (hc : c ∈ cs) : cdT (codesX cs) c.1 ∈ codesX cs ∧ (cdT (codesX cs) c.1).1 = c.1 ∧ (cdT (codesX cs) c.1).2.2 = c.2 := by
  obtain ⟨t, ht, e⟩ := List.mem_map.mp ((codesX_perm cs).mem_iff.mpr hc)
  subst e
  have := cdT_mem (codesX_nodup h) ht
  rw [this]
  exact ⟨ht, rfl, rfl⟩
theorem codesX_spec {cs : List (Int × Int)} (h : LensOk cs) : (∀ t ∈ codesX cs, 0 ≤ t.2.1 ∧ t.2.1 + 1 ≤ 2 ^ t.2.2.toNat ∧ 0 ≤ loC t ∧ 0 ≤ t.2.2 ∧ t.2.2 ≤ 60) ∧ (codesX cs).Pairwise (fun s t => loC s + sh60 s.2.2 ≤ loC t) := by
  obtain ⟨_, h2, h3⟩ := h
  obtain ⟨a1, _⟩ := lensRun_all h2
  have hr : room ((sortP (cs.map swapP)).map fun c => (c.2, c.1)) = room cs := by
    refine room_perm (((sortP_perm _).map _).trans ?_)
    rw [List.map_map]
    rw [show ((fun c : Int × Int => (c.2, c.1)) ∘ swapP) = id from rfl, List.map_id]
  have := codeGo_spec (sortP (cs.map swapP)) 0 0 (Int.le_refl _) (Int.le_refl _) (fun c hc => by
    obtain ⟨d, hd, rfl⟩ := List.mem_map.mp ((sortP_perm _).mem_iff.mp hc)
    have := a1 d hd
    show 0 ≤ d.2 ∧ d.2 ≤ 60
    omega) ((sortP_srt _).imp fun h => by
    have := of_decide_eq_true h
    omega) (by rw [hr]; omega)
  refine ⟨fun t ht => ?_, this.2⟩
  have q := this.1 t ht
  rw [Int.zero_mul] at q
  exact q



abbrev s_look_at_lengths : Stmt := topS 18
abbrev N_look_at_lengths : List Str := ["lengths", "ahead", "room", "symbol", "length"]
theorem sc_look_at_lengths : FnScope N_look_at_lengths ["lengths"] (defScope s_look_at_lengths) := ⟨rfl, rfl, rfl, by decide +kernel, rfl, by decide +kernel, by decide +kernel⟩








def sp_look_at_lengths (K : PySem.W.Frag) (A : Ads) : Sp := fun zvs zH Q E => ∃ (B : Hp) (G : Own) (a : Addr) (vs : List V) (cs : List (Int × Int)), zvs = [.ref a] ∧ SI B G zH ∧ (Sq K B G a vs) ∧ (All2 (PairAt B) vs cs) ∧ (cs.length ≤ 1000) ∧ (LensOk cs → N B G (Q .non)) ∧ (¬ LensOk cs → N B G (fun H => E (.ref A.c_NoCode) none H))
theorem len_look_at_lengths {K : PySem.W.Frag} {A : Ads} : ∀ vs H Q E, sp_look_at_lengths K A vs H Q E → vs.length = 1 := by
  intro vs H Q E h
  obtain ⟨_, _, _, _, _, rfl, _⟩ := h
  rfl
def x_look_at_lengths_0 (K : PySem.W.Frag) (A : Ads) (E : XK) : TS :=
  (tSeq (tAsg (tVar 3) (gName 1))
    (tSeq (tAug 2 (tOp uShl (tC (.int (1))) (tOp uSub (tC (.int (60))) (tVar 4))) (ipI fun i j => i + j))
    tNext))
instance {K : PySem.W.Frag} {A : Ads} {E : XK} : Unf (x_look_at_lengths_0 K A E) (
  (tSeq (tAsg (tVar 3) (gName 1))
    (tSeq (tAug 2 (tOp uShl (tC (.int (1))) (tOp uSub (tC (.int (60))) (tVar 4))) (ipI fun i j => i + j))
    tNext))) := ⟨rfl⟩
def x_look_at_lengths_1 (K : PySem.W.Frag) (A : Ads) (E : XK) : TS :=
  (tSeq (tIfS (tOr (tTest (tOp uLe (tVar 3) (tVar 1))) (tNot (tTest (tChain uLe uLe (tC (.int (1))) (tVar 4) (tC (.int (60)))))))
    (tSeq (tRs A.c_NoCode (fun cls d _ H => E cls d H))
    tNext)
    tNext)
    (x_look_at_lengths_0 K A E))
instance {K : PySem.W.Frag} {A : Ads} {E : XK} : Unf (x_look_at_lengths_1 K A E) (
  (tSeq (tIfS (tOr (tTest (tOp uLe (tVar 3) (tVar 1))) (tNot (tTest (tChain uLe uLe (tC (.int (1))) (tVar 4) (tC (.int (60)))))))
    (tSeq (tRs A.c_NoCode (fun cls d _ H => E cls d H))
    tNext)
    tNext)
    (x_look_at_lengths_0 K A E))) := ⟨rfl⟩
def x_look_at_lengths_2 (K : PySem.W.Frag) (A : Ads) (E : XK) : TS :=
  (tSeq (tIfS (tTest (tOp uGt (tVar 2) (tOp uShl (tC (.int (1))) (tC (.int (60))))))
    (tSeq (tRs A.c_NoCode (fun cls d _ H => E cls d H))
    tNext)
    tNext)
    tNext)
instance {K : PySem.W.Frag} {A : Ads} {E : XK} : Unf (x_look_at_lengths_2 K A E) (
  (tSeq (tIfS (tTest (tOp uGt (tVar 2) (tOp uShl (tC (.int (1))) (tC (.int (60))))))
    (tSeq (tRs A.c_NoCode (fun cls d _ H => E cls d H))
    tNext)
    tNext)
    tNext)) := ⟨rfl⟩
def x_look_at_lengths_3 (K : PySem.W.Frag) (A : Ads) (E : XK) : TS :=
  (tSeq (tFor (iList K (tVar 0)) (gTup K 2 (gCons (gName 3) (gCons (gName 4) gNil)))
    (x_look_at_lengths_1 K A E))
    (x_look_at_lengths_2 K A E))
instance {K : PySem.W.Frag} {A : Ads} {E : XK} : Unf (x_look_at_lengths_3 K A E) (
  (tSeq (tFor (iList K (tVar 0)) (gTup K 2 (gCons (gName 3) (gCons (gName 4) gNil)))
    (x_look_at_lengths_1 K A E))
    (x_look_at_lengths_2 K A E))) := ⟨rfl⟩
def x_look_at_lengths_4 (K : PySem.W.Frag) (A : Ads) (E : XK) : TS :=
  (tSeq (tAsg (tUn (rU fun i => .int (-i)) (tC (.int (1)))) (gName 1))
    (tSeq (tAsg (tC (.int (0))) (gName 2))
    (x_look_at_lengths_3 K A E)))
instance {K : PySem.W.Frag} {A : Ads} {E : XK} : Unf (x_look_at_lengths_4 K A E) (
  (tSeq (tAsg (tUn (rU fun i => .int (-i)) (tC (.int (1)))) (gName 1))
    (tSeq (tAsg (tC (.int (0))) (gName 2))
    (x_look_at_lengths_3 K A E)))) := ⟨rfl⟩
def t_look_at_lengths (K : PySem.W.Frag) (A : Ads) (E : XK) : TS :=
  (tSeq (tIfS (tTest (tOp (uEq K) (tCB (uLen K) (tCons (tVar 0) tNil)) (tC (.int (0)))))
    (tSeq (tRs A.c_NoCode (fun cls d _ H => E cls d H))
    tNext)
    tNext)
    (x_look_at_lengths_4 K A E))
theorem pure_look_at_lengths {K : PySem.W.Frag} {A : Ads} (T : Fct K A) (vs : List V) (H : Hp) (Q : VK) (E : XK) (h : sp_look_at_lengths K A vs H Q E) : t_look_at_lengths K A E (endE Q) (L2.start N_look_at_lengths vs) H := by
  obtain ⟨B, G, a, vs, cs, rfl, zs, ha, hv, hl, k, k2⟩ := h
  refine (?_ : N B G (fun H => t_look_at_lengths K A E (endE Q) (L2.start N_look_at_lengths [.ref a]) H)) H zs
  clear zs
  unfold t_look_at_lengths

  have hvl := hv.len
  walk_at "sk stp"
  refine n_iteD (fun h => ?_) (fun h => ?_)
  · have e : cs = [] := List.length_eq_zero_iff.mp (by omega)
    walk_at "sk stp"
    exact k2 fun h => h.1 e
  have hne : cs ≠ [] := fun e => h (by rw [hvl, e]; rfl)
  walk_at "sk stp"
  refine n_lpP cs (fun i σ L => ∃ (ah : Int) (y3 y4 : Option V), σ = [some (.ref a), some (.int ah), some (.int (room (cs.take i))), y3, y4] ∧ G = L ∧ (lensRun (-1) cs ↔ lensRun ah (cs.drop i)) ∧ 0 ≤ room (cs.take i)) hv (fun i σ L _ ⟨_, _, _, _, e, _⟩ => by rw [← e]; exact ha) ⟨-1, _, _, rfl, rfl, Iff.rfl, Int.le_refl _⟩ ?_ ?_
  · rintro i σ L v hi ⟨ah, y3, y4, rfl, rfl, hiff, hrn⟩ ⟨pp, rfl, hp⟩
    rw [List.drop_eq_getElem_cons hi] at hiff
    rw [take_step hi, room_snoc]
    generalize cs[i] = c at *
    by_cases hc : ah < c.1 ∧ 1 ≤ c.2 ∧ c.2 ≤ 60
    · have hp1 := sh60_pos c.2
      have e1 : room (cs.take i) + sh60 c.2 = room (cs.take i) + 1 * 2 ^ (60 - c.2).toNat := by rw [Int.one_mul]; rfl
      rw [e1]
      walk_at "sk stp"
      exact n_ki ⟨_, _, _, rfl, rfl, hiff.trans ⟨fun h => h.2.2.2, fun h => ⟨hc.1, hc.2.1, hc.2.2, h⟩⟩, by omega⟩ (.refl _)
    · walk_at "sk stp"
      exact k2 fun h => hc ⟨(hiff.mp h.2.1).1, (hiff.mp h.2.1).2.1, (hiff.mp h.2.1).2.2.1⟩
  · rintro σ L ⟨ah, y3, y4, rfl, rfl, hiff, hrn⟩
    rw [List.drop_length] at hiff
    rw [List.take_length] at hrn ⊢
    walk_at "sk stp"
    rw [show (1 : Int) * 2 ^ Int.toNat 60 = 2 ^ 60 by decide]
    refine n_iteD (fun h => ?_) (fun h => ?_)
    · walk_at "sk stp"
      exact k2 fun hh => by
        have := hh.2.2
        omega
    · walk_at "sk stp"
      exact k ⟨hne, hiff.mpr trivial, by omega⟩
theorem raw_look_at_lengths {P : Program} {w : World} {K : PySem.W.Frag} {mg : Str → Option Value} {base : Heap} {A : Ads} {f : Addr} {fd : FuncData} (F : Fun K "look_at_lengths" "look_at_lengths" s_look_at_lengths f fd) (T : Txt K mg A) : FnOk P w K mg base (CXN P w) 1 f fd ["lengths"] (sp_look_at_lengths K A) := by
  refine okN F sc_look_at_lengths (fun vs H Q E h => len_look_at_lengths vs H Q E h) (fun cdv Ar outer s H vs Q E hr h => ⟨t_look_at_lengths K A E, ?_, pure_look_at_lengths T.fct vs H Q E h⟩)
  have nd := sc_look_at_lengths.nd
  exact (pss_cons (ps_if (pt_cmpR (op_uEq hr.units) (pe_callB call_uLen (by rfl) T.b_len boot_len (pa_cons (pv 0) pa_nil)) pe_int (nomark _)) (pss_cons (L2N.ps_raise rfl (L2N.takes_of rfl rfl rfl rfl) (L2N.pmk_own PySem.F.excBase_ValueError T.x_NoCode T.g_NoCode T.k_NoCode (raises_own T.s_NoCode T.t_NoCode) (by rfl)))
    pss_nil) pss_nil)
    (pss_cons (ps_set (i := 1) nd rfl (Or.inl rfl) (pe_un un_neg pe_int))
    (pss_cons (ps_set (i := 2) nd rfl (Or.inl rfl) pe_int)
    (pss_cons (ps_for (passes_of rfl) rfl (pi_list (pv 0)) (pg_tup rfl (pgs_cons (pg_name (i := 3) nd rfl (Or.inl rfl)) (pgs_cons (pg_name (i := 4) nd rfl (Or.inl rfl)) pgs_nil)))
    (pss_cons (ps_if (PW.pt (pw_or (pt_cmpR op_uLe (pv 3) (pv 1) (nomark _)) (pw_or1 (pt_not (pt_chain op_uLe op_uLe pe_int (pv 4) (pe_glob (by rfl) T.c_LONGEST.choose_spec.1 T.c_LONGEST.choose_spec.2)))))) (pss_cons (L2N.ps_raise rfl (L2N.takes_of rfl rfl rfl rfl) (L2N.pmk_own PySem.F.excBase_ValueError T.x_NoCode T.g_NoCode T.k_NoCode (raises_own T.s_NoCode T.t_NoCode) (by rfl)))
    pss_nil) pss_nil)
    (pss_cons (ps_set (i := 1) nd rfl (Or.inl rfl) (pv 3))
    (pss_cons (ps_aug (i := 2) nd rfl (Or.inl rfl) (pe_op op_uShl pe_int (pe_op op_uSub (pe_glob (by rfl) T.c_LONGEST.choose_spec.1 T.c_LONGEST.choose_spec.2) (pv 4))) ip_add)
    pss_nil))))
    (pss_cons (ps_if (pt_cmpR op_uGt (pv 2) (pe_op op_uShl pe_int (pe_glob (by rfl) T.c_LONGEST.choose_spec.1 T.c_LONGEST.choose_spec.2)) (nomark _)) (pss_cons (L2N.ps_raise rfl (L2N.takes_of rfl rfl rfl rfl) (L2N.pmk_own PySem.F.excBase_ValueError T.x_NoCode T.g_NoCode T.k_NoCode (raises_own T.s_NoCode T.t_NoCode) (by rfl)))
    pss_nil) pss_nil)
    pss_nil)))))
theorem use_look_at_lengths {K : PySem.W.Frag} {A : Ads} {B : Hp} {G : Own} {Q : VK} {E : XK} {a : Addr} {vs : List V} {cs : List (Int × Int)} (ha : Sq K B G a vs) (hv : All2 (PairAt B) vs cs) (hl : cs.length ≤ 1000) (zq : LensOk cs → N B G (Q .non)) (zq2 : ¬ LensOk cs → N B G (fun H => E (.ref A.c_NoCode) none H)) : N B G (fun H => sp_look_at_lengths K A [.ref a] H Q E) := fun zH zs => ⟨B, _, _, _, _, rfl, zs, ha, hv, hl, zq, zq2⟩

abbrev s_written : Stmt := topS 19
abbrev N_written : List Str := ["number", "length", "place"]
theorem sc_written : FnScope N_written ["number", "length"] (defScope s_written) := ⟨rfl, rfl, rfl, by decide +kernel, rfl, by decide +kernel, by decide +kernel⟩





def sp_written (K : PySem.W.Frag) (A : Ads) : Sp := fun zvs zH Q E => ∃ (B : Hp) (G : Own) (n w : Int), zvs = [.int n, .int w] ∧ SI B G zH ∧ (0 ≤ w ∧ w ≤ 1000) ∧ (∀ p, N B ((p, .lst ((bitsN n w.toNat).map V.int)) :: G) (Q (.ref p)))
theorem len_written {K : PySem.W.Frag} {A : Ads} : ∀ vs H Q E, sp_written K A vs H Q E → vs.length = 2 := by
  intro vs H Q E h
  obtain ⟨_, _, _, _, rfl, _⟩ := h
  rfl
def t_written (K : PySem.W.Frag) (A : Ads) (E : XK) : TS :=
  (tSeq (tRet (tLc (iRng1 (tCons (tVar 1) tNil)) (gName 2) tYes (tOp uAnd (tOp uShr (tVar 0) (tOp uSub (tOp uSub (tVar 1) (tC (.int (1)))) (tVar 2))) (tC (.int (1)))) [2]))
    tNext)
theorem pure_written {K : PySem.W.Frag} {A : Ads} (T : Fct K A) (vs : List V) (H : Hp) (Q : VK) (E : XK) (h : sp_written K A vs H Q E) : t_written K A E (endE Q) (L2.start N_written vs) H := by
  obtain ⟨B, G, n, w, rfl, zs, hw, k⟩ := h
  refine (?_ : N B G (fun H => t_written K A E (endE Q) (L2.start N_written [.int n, .int w]) H)) H zs
  clear zs
  unfold t_written

  walk_at "sk stp"
  refine n_lcMap (fun k : Nat => n / 2 ^ (w - 1 - k).toNat % 2) (by omega) (by omega) (fun x => rfl) ?_ ?_
  · intro i D acc Q' hi q
    walk_at "sk stp"
    exact q
  · intro D
    have e := bitsN_map n w.toNat
    rw [Int.toNat_of_nonneg hw.1] at e
    rw [e]
    exact k D
theorem raw_written {P : Program} {w : World} {K : PySem.W.Frag} {mg : Str → Option Value} {base : Heap} {A : Ads} {f : Addr} {fd : FuncData} (F : Fun K "written" "written" s_written f fd) (T : Txt K mg A) : FnOk P w K mg base CX0 1 f fd ["number", "length"] (sp_written K A) := by
  refine F.ok sc_written (fun vs H Q E h => len_written vs H Q E h) (fun cdv Ar outer s H vs Q E hr h => ⟨t_written K A E, PSs.nox ?_, pure_written T.fct vs H Q E h⟩)
  have nd := sc_written.nd
  exact (pss_cons (ps_ret (pe_lc (own := [("place", 2)]) (by rfl) nd (pi_range1 (by rfl) T.b_range (pa_cons (pv 1) pa_nil)) (blkOk_by (N := N_written) (sc := defScope s_written) (own := [("place", 2)]) (by decide +kernel)) (fun _ _ _ _ _ => (pg_name (i := 2) nd rfl (Or.inl rfl))) (fun _ _ _ _ _ => pts_nil) (fun _ _ _ _ _ => (pe_op op_uAnd (pe_op op_uShr (pv 0) (pe_op op_uSub (pe_op op_uSub (pv 1) pe_int) (pv 2))) pe_int))))
    pss_nil)
theorem use_written {K : PySem.W.Frag} {A : Ads} {B : Hp} {G : Own} {Q : VK} {E : XK} {n w : Int} (hw : 0 ≤ w ∧ w ≤ 1000) (zq : ∀ p, N B ((p, .lst ((bitsN n w.toNat).map V.int)) :: G) (Q (.ref p))) : N B G (fun H => sp_written K A [.int n, .int w] H Q E) := fun zH zs => ⟨B, _, _, _, rfl, zs, hw, zq⟩

abbrev s_codes_of : Stmt := topS 20
abbrev N_codes_of : List Str := ["lengths", "found", "number", "last", "symbol", "length"]
theorem sc_codes_of : FnScope N_codes_of ["lengths"] (defScope s_codes_of) := ⟨rfl, rfl, rfl, by decide +kernel, rfl, by decide +kernel, by decide +kernel⟩








def sp_codes_of (K : PySem.W.Frag) (A : Ads) : Sp := fun zvs zH Q E => ∃ (B : Hp) (G : Own) (a : Addr) (vs : List V) (cs : List (Int × Int)), zvs = [.ref a] ∧ SI B G zH ∧ (Sq K B G a vs) ∧ (All2 (PairAt B) vs cs) ∧ (cs.length ≤ 1000) ∧ (∀ B' q (ad : Int → Addr) ws, LensOk cs → Same B B' → All2 (fun v (c : Int × Int) => ∃ t, v = .ref t ∧ B' t = some (.tup [.int c.1, .ref (ad c.1)])) ws cs → N B' ((q, .lst ws) :: (cs.map (fun c => (ad c.1, HO.lst ((cdF (codesX cs) c.1).map V.int))) ++ G)) (Q (.ref q))) ∧ (¬ LensOk cs → N B G (fun H => E (.ref A.c_NoCode) none H))
theorem len_codes_of {K : PySem.W.Frag} {A : Ads} : ∀ vs H Q E, sp_codes_of K A vs H Q E → vs.length = 1 := by
  intro vs H Q E h
  obtain ⟨_, _, _, _, _, rfl, _⟩ := h
  rfl
def x_codes_of_0 (K : PySem.W.Frag) (A : Ads) (E : XK) : TS :=
  (tSeq (sDPut (tVar 1) (tVar 4) (tCl (sp_written K A) (WE (fun cls d _ H => E cls d H)) (tCons (tVar 2) (tCons (tVar 5) tNil))))
    (tSeq (tAug 2 (tC (.int (1))) (ipI fun i j => i + j))
    (tSeq (tAsg (tVar 5) (gName 3))
    tNext)))
instance {K : PySem.W.Frag} {A : Ads} {E : XK} : Unf (x_codes_of_0 K A E) (
  (tSeq (sDPut (tVar 1) (tVar 4) (tCl (sp_written K A) (WE (fun cls d _ H => E cls d H)) (tCons (tVar 2) (tCons (tVar 5) tNil))))
    (tSeq (tAug 2 (tC (.int (1))) (ipI fun i j => i + j))
    (tSeq (tAsg (tVar 5) (gName 3))
    tNext)))) := ⟨rfl⟩
def x_codes_of_1 (K : PySem.W.Frag) (A : Ads) (E : XK) : TS :=
  (tSeq (tRet (tLc (iList K (tVar 0)) (gTup K 2 (gCons (gName 4) (gCons (gName 5) gNil))) tYes (tTup (tCons (tVar 4) (tCons (tDGet (tVar 1) (tVar 4)) tNil))) [4, 5]))
    tNext)
instance {K : PySem.W.Frag} {A : Ads} {E : XK} : Unf (x_codes_of_1 K A E) (
  (tSeq (tRet (tLc (iList K (tVar 0)) (gTup K 2 (gCons (gName 4) (gCons (gName 5) gNil))) tYes (tTup (tCons (tVar 4) (tCons (tDGet (tVar 1) (tVar 4)) tNil))) [4, 5]))
    tNext)) := ⟨rfl⟩
def x_codes_of_2 (K : PySem.W.Frag) (A : Ads) (E : XK) : TS :=
  (tSeq (tFor (iList K (tCB (rSortedPO K) (tCons (tLc (iList K (tVar 0)) (gTup K 2 (gCons (gName 4) (gCons (gName 5) gNil))) tYes (tTup (tCons (tVar 5) (tCons (tVar 4) tNil))) [4, 5]) tNil))) (gTup K 2 (gCons (gName 5) (gCons (gName 4) gNil)))
    (tSeq (tAsg (tOp uShl (tVar 2) (tOp uSub (tVar 5) (tVar 3))) (gName 2))
    (x_codes_of_0 K A E)))
    (x_codes_of_1 K A E))
instance {K : PySem.W.Frag} {A : Ads} {E : XK} : Unf (x_codes_of_2 K A E) (
  (tSeq (tFor (iList K (tCB (rSortedPO K) (tCons (tLc (iList K (tVar 0)) (gTup K 2 (gCons (gName 4) (gCons (gName 5) gNil))) tYes (tTup (tCons (tVar 5) (tCons (tVar 4) tNil))) [4, 5]) tNil))) (gTup K 2 (gCons (gName 5) (gCons (gName 4) gNil)))
    (tSeq (tAsg (tOp uShl (tVar 2) (tOp uSub (tVar 5) (tVar 3))) (gName 2))
    (x_codes_of_0 K A E)))
    (x_codes_of_1 K A E))) := ⟨rfl⟩
def x_codes_of_3 (K : PySem.W.Frag) (A : Ads) (E : XK) : TS :=
  (tSeq (tAsg tDNewK (gName 1))
    (tSeq (tAsg (tC (.int (0))) (gName 2))
    (tSeq (tAsg (tC (.int (0))) (gName 3))
    (x_codes_of_2 K A E))))
instance {K : PySem.W.Frag} {A : Ads} {E : XK} : Unf (x_codes_of_3 K A E) (
  (tSeq (tAsg tDNewK (gName 1))
    (tSeq (tAsg (tC (.int (0))) (gName 2))
    (tSeq (tAsg (tC (.int (0))) (gName 3))
    (x_codes_of_2 K A E))))) := ⟨rfl⟩
def t_codes_of (K : PySem.W.Frag) (A : Ads) (E : XK) : TS :=
  (tSeq (tDrop (tCl (sp_look_at_lengths K A) (WE (fun cls d _ H => E cls d H)) (tCons (tVar 0) tNil)))
    (x_codes_of_3 K A E))
theorem pure_codes_of {K : PySem.W.Frag} {A : Ads} (T : Fct K A) (vs : List V) (H : Hp) (Q : VK) (E : XK) (h : sp_codes_of K A vs H Q E) : t_codes_of K A E (endE Q) (L2.start N_codes_of vs) H := by
  obtain ⟨B, G, a, vs, cs, rfl, zs, ha, hv, hl, k, k2⟩ := h
  refine (?_ : N B G (fun H => t_codes_of K A E (endE Q) (L2.start N_codes_of [.ref a]) H)) H zs
  clear zs
  unfold t_codes_of

  have hvl := hv.len
  walk_at "sk stp"
  refine use_look_at_lengths ha hv hl (fun hok => ?_) (fun h => k2 h)
  obtain ⟨hok1, hok2, hok3⟩ := hok
  obtain ⟨hall, hpw⟩ := lensRun_all hok2
  have hnd : (cs.map (·.1)).Nodup := hpw.imp fun h => Int.ne_of_lt h
  obtain ⟨hx1, hx2⟩ := codesX_spec ⟨hok1, hok2, hok3⟩
  have hxn := codesX_nodup hnd
  have hSl : (cs.map swapP).length = cs.length := List.length_map _
  walk_at "sk stp"
  rename_i fo
  refine n_lcPB cs (fun i B' acc L => All2 (PairAt B') acc ((cs.map swapP).take i) ∧ L = (fo, .dK []) :: G) hv (fun i B' acc L sm _ h => by rw [h.2]; exact (ha.mono sm).sub (by walk_at "sk sub")) ⟨.nil, rfl⟩ ?_ ?_
  · rintro i B' acc L D v hi sm ⟨hacc, rfl⟩ ⟨pp, rfl, hp⟩
    have hp := sm _ _ hp
    have hal := hacc.len
    rw [List.length_take] at hal
    have e7 : (cs.map swapP)[i]'(by omega) = (cs[i].2, cs[i].1) := List.getElem_map ..
    rw [take_step (show i < (cs.map swapP).length by omega), e7]
    walk_at "sk stp"
    rename_i tp
    refine n_freeze 0 rfl fun B2 sm2 htp => ?_
    exact n_putB sm2 [] rfl (by rw [sizeLine_eq]; omega) ⟨(pairs_mono hacc sm2).snoc ⟨tp, rfl, htp⟩, rfl⟩ (.refl _)
  rintro B1 ws L lp sm1 ⟨hw, rfl⟩
  rw [List.take_of_length_le (by omega)] at hw
  have ha := ha.mono sm1
  have hv := pairs_mono hv sm1
  walk_at "sk stp"
  refine n_sortP (by walk_at "sk sq") hw fun sp ys hy => ?_
  refine n_sub (L' := (sp, .lst ys) :: (fo, .dK (dI [])) :: G) (by walk_at "sk sub") ?_
  have hXl : (codesX cs).length = cs.length := by unfold codesX; rw [codeGo_len, (sortP_perm _).length_eq, hSl]
  have hSm : ((sortP (cs.map swapP)).map (·.2)).Perm (cs.map (·.1)) := by
    refine ((sortP_perm _).map _).trans ?_
    rw [List.map_map]; exact .refl _
  have hSn : ((sortP (cs.map swapP)).map (·.2)).Nodup := (hSm.nodup_iff).mpr hnd
  have hSs := sortP_srt (cs.map swapP)
  have hSall : ∀ c ∈ sortP (cs.map swapP), 1 ≤ c.1 ∧ c.1 ≤ 60 := fun c hc => by
    obtain ⟨d, hd, rfl⟩ := List.mem_map.mp ((sortP_perm _).mem_iff.mp hc)
    exact (hall d hd).2
  have hSp := sortP_perm (cs.map swapP)
  have hX0 : codesX cs = codeGo 0 0 (sortP (cs.map swapP)) := rfl
  generalize codesX cs = X at *
  generalize sortP (cs.map swapP) = S at *
  have hSlen : S.length = cs.length := by rw [hSp.length_eq, hSl]
  walk_at "sk stp"
  refine n_lpP S (fun i σ L => ∃ (ad : Int → Addr) (num last : Int) (y4 y5 : Option V), σ = [some (.ref a), some (.ref fo), some (.int num), some (.int last), y4, y5] ∧ L = (sp, .lst ys) :: (fo, .dK (dI ((S.take i).map fun c => (c.2, V.ref (ad c.2))))) :: ((S.take i).map (fun c => (ad c.2, HO.lst ((cdF X c.2).map V.int))) ++ G) ∧ codeGo num last (S.drop i) = X.drop i ∧ 0 ≤ last ∧ 0 ≤ num ∧ num < 2 ^ 61 ∧ ∀ c ∈ S.drop i, last ≤ c.1) hy ?_ ⟨fun _ => 0, 0, 0, _, _, rfl, rfl, hX0.symm, Int.le_refl _, Int.le_refl _, by decide, fun c hc => by have := hSall c hc; omega⟩ ?_ ?_
  · rintro i σ L _ ⟨ad, num, last, y4, y5, rfl, rfl, _⟩
    walk_at "sk sq"
  · rintro i σ L v hi ⟨ad, num, last, y4, y5, rfl, rfl, hgo, hl0, hn0, hn1, hla⟩ ⟨pp, rfl, hp⟩
    have hXi : i < X.length := by omega
    have hmem := List.getElem_mem hXi
    rw [List.drop_eq_getElem_cons hi, List.drop_eq_getElem_cons hXi, codeGo] at hgo
    rw [List.drop_eq_getElem_cons hi] at hla
    obtain ⟨hg1, hg2⟩ := List.cons.inj hgo
    have hc60 := hSall _ (List.getElem_mem hi)
    have hcl := hla _ List.mem_cons_self
    have hcd : cdF X S[i].2 = bitsN (num * 2 ^ (S[i].1 - last).toNat) S[i].1.toNat := by
      have := cdT_mem hxn hmem
      rw [← hg1] at this
      unfold cdF
      rw [show cdT X S[i].2 = _ from this]
    have hb := (hx1 _ hmem).2.1
    rw [← hg1] at hb
    have hb' : num * 2 ^ (S[i].1 - last).toNat + 1 ≤ 2 ^ S[i].1.toNat := hb
    have h60 := pow2_mono (a := S[i].1.toNat) (b := 60) (by omega)
    have hp0 : 0 ≤ num * 2 ^ (S[i].1 - last).toNat := Int.mul_nonneg hn0 (Int.le_of_lt (Int.pow_pos (by decide)))
    have hnew : ¬ S[i].2 ∈ (S.take i).map (·.2) := by
      intro hm
      obtain ⟨c, hc, e⟩ := List.mem_map.mp hm
      obtain ⟨j, hj, e2⟩ := List.mem_iff_getElem.mp hc
      rw [List.length_take] at hj
      rw [List.getElem_take] at e2
      have h1 := (List.pairwise_iff_getElem.mp hSn) j i (by rw [List.length_map]; omega) (by rw [List.length_map]; exact hi) (by omega)
      rw [List.getElem_map, List.getElem_map, e2, e] at h1
      exact h1 rfl
    have hnext : ∀ c ∈ S.drop (i + 1), S[i].1 ≤ c.1 := fun c hc => by
      obtain ⟨j, hj, e⟩ := List.mem_iff_getElem.mp hc
      rw [List.length_drop] at hj
      rw [List.getElem_drop] at e
      have := (List.pairwise_iff_getElem.mp hSs) i (i + 1 + j) hi (by omega) (by omega)
      have := of_decide_eq_true this
      rw [e] at this
      omega
    walk_at "sk stp"
    refine use_written ⟨by omega, by omega⟩ fun pb => ?_
    walk_at "sk stp"
    rw [putK_dI, putI_new (by rw [List.map_map]; exact hnew), ← hcd]
    have hold : ∀ c ∈ S.take i, (if c.2 = S[i].2 then pb else ad c.2) = ad c.2 := fun c hc => if_neg fun e => hnew (List.mem_map.mpr ⟨c, hc, e⟩)
    have e8 : (S.take (i + 1)).map (fun c => (c.2, V.ref (if c.2 = S[i].2 then pb else ad c.2))) = (S.take i).map (fun c => (c.2, V.ref (ad c.2))) ++ [(S[i].2, V.ref pb)] := by
      rw [take_step hi, List.map_append]
      congr 1
      · exact List.map_congr_left fun c hc => by rw [hold c hc]
      · show [(S[i].2, V.ref (if S[i].2 = S[i].2 then pb else ad S[i].2))] = _
        rw [if_pos rfl]
    have e9 : (S.take (i + 1)).map (fun c => ((if c.2 = S[i].2 then pb else ad c.2), HO.lst ((cdF X c.2).map V.int))) = (S.take i).map (fun c => (ad c.2, HO.lst ((cdF X c.2).map V.int))) ++ [(pb, HO.lst ((cdF X S[i].2).map V.int))] := by
      rw [take_step hi, List.map_append]
      congr 1
      · exact List.map_congr_left fun c hc => by rw [hold c hc]
      · show [((if S[i].2 = S[i].2 then pb else ad S[i].2), _)] = _
        rw [if_pos rfl]
    refine n_perm (L' := (sp, .lst ys) :: (fo, .dK (dI ((S.take (i + 1)).map fun c => (c.2, V.ref (if c.2 = S[i].2 then pb else ad c.2))))) :: ((S.take (i + 1)).map (fun c => ((if c.2 = S[i].2 then pb else ad c.2), HO.lst ((cdF X c.2).map V.int))) ++ G)) ?_ ?_
    · rw [e8, e9]
      refine (List.Perm.swap _ _ _).trans (List.Perm.cons _ ?_)
      refine (List.Perm.swap _ _ _).trans (List.Perm.cons _ ?_)
      rw [List.append_assoc]
      exact List.perm_middle.symm
    · exact n_ki ⟨fun s => if s = S[i].2 then pb else ad s, _, _, _, _, rfl, rfl, hg2, by omega, by omega, by omega, hnext⟩ (.refl _)
  · rintro σ L ⟨ad, num, last, y4, y5, rfl, rfl, _⟩
    rw [List.take_length]
    have hkeys : ((S.map fun c => (c.2, V.ref (ad c.2))).map (·.1)).Nodup := by rw [List.map_map]; exact hSn
    have hG : ((S.map fun c => (ad c.2, HO.lst ((cdF X c.2).map V.int))) ++ G).Perm ((cs.map fun c => (ad c.1, HO.lst ((cdF X c.1).map V.int))) ++ G) := by
      refine List.Perm.append_right _ ((hSp.map _).trans ?_)
      rw [List.map_map]; exact .refl _
    refine n_perm (L' := (sp, .lst ys) :: (fo, .dK (dI (S.map fun c => (c.2, V.ref (ad c.2))))) :: ((cs.map fun c => (ad c.1, HO.lst ((cdF X c.1).map V.int))) ++ G)) ((hG.cons _).cons _) ?_
    have ha' : ∀ (M : Own), Sq K B1 (M ++ ((cs.map fun c => (ad c.1, HO.lst ((cdF X c.1).map V.int))) ++ G)) a vs := fun M => ha.sub ((List.sublist_append_right _ _).trans (List.sublist_append_right _ _))
    generalize hG2 : (cs.map fun c => (ad c.1, HO.lst ((cdF X c.1).map V.int))) ++ G = G2 at *
    walk_at "sk stp"
    refine n_lcPB cs (fun i B' acc L => All2 (fun v (c : Int × Int) => ∃ t, v = .ref t ∧ B' t = some (.tup [.int c.1, .ref (ad c.1)])) acc (cs.take i) ∧ L = (sp, .lst ys) :: (fo, .dK (dI (S.map fun c => (c.2, V.ref (ad c.2))))) :: G2) hv (fun i B' acc L sm _ h => by rw [h.2]; exact (ha' [_, _]).mono sm) ⟨.nil, rfl⟩ ?_ ?_
    · rintro i B' acc L D v hi sm ⟨hacc, rfl⟩ ⟨pp, rfl, hp⟩
      have hp := sm _ _ hp
      have hal := hacc.len
      rw [List.length_take] at hal
      have hgt : valV (dI (S.map fun c => (c.2, V.ref (ad c.2)))) (Sum.inl cs[i].1) = some (.ref (ad cs[i].1)) := by
        rw [valV_dI]
        refine getI_mem hkeys (List.mem_map.mpr ⟨swapP cs[i], hSp.mem_iff.mpr (List.mem_map.mpr ⟨_, List.getElem_mem hi, rfl⟩), rfl⟩)
      rw [take_step hi]
      walk_at "sk stp"
      rename_i tp
      refine n_freeze 0 rfl fun B2 sm2 htp => ?_
      refine n_putB sm2 [] rfl (by rw [sizeLine_eq]; omega) ⟨?_, rfl⟩ (.refl _)
      exact (hacc.imp fun v c ⟨t, e, h⟩ => ⟨t, e, sm2 _ _ h⟩).snoc ⟨tp, rfl, htp⟩
    rintro B2 ws2 L D sm2 ⟨hw2, rfl⟩
    rw [List.take_length] at hw2
    subst hG2
    exact n_sub (by walk_at "sk sub") (k B2 D ad ws2 ⟨hok1, hok2, hok3⟩ (sm1.trans sm2) hw2)
theorem raw_codes_of {P : Program} {w : World} {K : PySem.W.Frag} {mg : Str → Option Value} {base : Heap} {A : Ads} {f : Addr} {fd : FuncData} (F : Fun K "codes_of" "codes_of" s_codes_of f fd) (T : Txt K mg A) (O_look_at_lengths : OkC P w K mg base (CXN P w) 1 "look_at_lengths" ["lengths"] (sp_look_at_lengths K A)) (O_written : OkC P w K mg base CX0 1 "written" ["number", "length"] (sp_written K A)) : FnOk P w K mg base (CXN P w) 2 f fd ["lengths"] (sp_codes_of K A) := by
  refine okN F sc_codes_of (fun vs H Q E h => len_codes_of vs H Q E h) (fun cdv Ar outer s H vs Q E hr h => ⟨t_codes_of K A E, ?_, pure_codes_of T.fct vs H Q E h⟩)
  have nd := sc_codes_of.nd
  exact (pss_cons (ps_expr (pe_cl (E := WE (fun cls d _ H => E cls d H)) O_look_at_lengths (hr.mono (by decide)) (by rfl) (passN (L2N.takes_of rfl rfl rfl rfl)) (pa_cons (pv 0) pa_nil)))
    (pss_cons (ps_set (i := 1) nd rfl (Or.inr rfl) pe_dnewK)
    (pss_cons (ps_set (i := 2) nd rfl (Or.inl rfl) pe_int)
    (pss_cons (ps_set (i := 3) nd rfl (Or.inl rfl) pe_int)
    (pss_cons (ps_for (passes_of rfl) rfl (pi_list (pe_callB cr_sortedPO (by rfl) T.b_sorted boot_sorted (pa_cons (pe_lc (own := [("symbol", 4), ("length", 5)]) (by rfl) nd (pi_list (pv 0)) (blkOk_by (N := N_codes_of) (sc := defScope s_codes_of) (own := [("symbol", 4), ("length", 5)]) (by decide +kernel)) (fun _ _ _ _ _ => (pg_tup rfl (pgs_cons (pg_name (i := 4) nd rfl (Or.inl rfl)) (pgs_cons (pg_name (i := 5) nd rfl (Or.inl rfl)) pgs_nil)))) (fun _ _ _ _ _ => pts_nil) (fun _ _ _ _ _ => (pe_tup (pa_cons (pv 5) (pa_cons (pv 4) pa_nil))))) pa_nil))) (pg_tup rfl (pgs_cons (pg_name (i := 5) nd rfl (Or.inl rfl)) (pgs_cons (pg_name (i := 4) nd rfl (Or.inl rfl)) pgs_nil)))
    (pss_cons (ps_set (i := 2) nd rfl (Or.inl rfl) (pe_op op_uShl (pv 2) (pe_op op_uSub (pv 5) (pv 3))))
    (pss_cons (ps_dput (hu_of hr) (pv 1) (pv 4) (pe_cl (E := WE (fun cls d _ H => E cls d H)) O_written (hr.mono (by decide)) (by rfl) pass00 (pa_cons (pv 2) (pa_cons (pv 5) pa_nil))) rfl)
    (pss_cons (ps_aug (i := 2) nd rfl (Or.inl rfl) pe_int ip_add)
    (pss_cons (ps_set (i := 3) nd rfl (Or.inl rfl) (pv 5))
    pss_nil)))))
    (pss_cons (ps_ret (pe_lc (own := [("symbol", 4), ("length", 5)]) (by rfl) nd (pi_list (pv 0)) (blkOk_by (N := N_codes_of) (sc := defScope s_codes_of) (own := [("symbol", 4), ("length", 5)]) (by decide +kernel)) (fun _ _ _ _ _ => (pg_tup rfl (pgs_cons (pg_name (i := 4) nd rfl (Or.inl rfl)) (pgs_cons (pg_name (i := 5) nd rfl (Or.inl rfl)) pgs_nil)))) (fun _ _ _ _ _ => pts_nil) (fun _ _ _ _ _ => (pe_tup (pa_cons (pv 4) (pa_cons (pe_dget (hu_of hr) (pv 1) (pv 4) (fun _ _ => rfl)) pa_nil))))))
    pss_nil))))))
theorem use_codes_of {K : PySem.W.Frag} {A : Ads} {B : Hp} {G : Own} {Q : VK} {E : XK} {a : Addr} {vs : List V} {cs : List (Int × Int)} (ha : Sq K B G a vs) (hv : All2 (PairAt B) vs cs) (hl : cs.length ≤ 1000) (zq : ∀ B' q (ad : Int → Addr) ws, LensOk cs → Same B B' → All2 (fun v (c : Int × Int) => ∃ t, v = .ref t ∧ B' t = some (.tup [.int c.1, .ref (ad c.1)])) ws cs → N B' ((q, .lst ws) :: (cs.map (fun c => (ad c.1, HO.lst ((cdF (codesX cs) c.1).map V.int))) ++ G)) (Q (.ref q))) (zq2 : ¬ LensOk cs → N B G (fun H => E (.ref A.c_NoCode) none H)) : N B G (fun H => sp_codes_of K A [.ref a] H Q E) := fun zH zs => ⟨B, _, _, _, _, rfl, zs, ha, hv, hl, zq, zq2⟩

theorem bumps_eq : ∀ (ss : List Int) (d : Int → Int) (x : Int), ss.Nodup → bumps d ss x = if x ∈ ss then d x + 1 else d x
  | [], d, x, _ => by rw [if_neg List.not_mem_nil]; rfl
  | s :: r, d, x, h => by
    rw [List.nodup_cons] at h
    show bumps (fun x => if x = s then d x + 1 else d x) r x = _
    rw [bumps_eq r _ x h.2]
    by_cases e : x = s
    · subst e
      rw [if_neg h.1, if_pos rfl, if_pos List.mem_cons_self]
    · rw [if_neg e]
      by_cases hr : x ∈ r
      · rw [if_pos hr, if_pos (List.mem_cons_of_mem _ hr)]
      · rw [if_neg hr, if_neg (by
          intro hm
          rcases List.mem_cons.mp hm with h1 | h1
          · exact e h1
          · exact hr h1)]
def kr (d : Int → Int) (ss : List Int) : Int := (ss.map fun s => sh60 (d s)).sum
theorem kr_app (d : Int → Int) (ss rs : List Int) : kr d (ss ++ rs) = kr d ss + kr d rs := by
  unfold kr; rw [List.map_append, List.sum_append]
theorem kr_congr {d e : Int → Int} {ss : List Int} (h : ∀ s ∈ ss, d s = e s) : kr d ss = kr e ss := by
  unfold kr
  rw [List.map_congr_left fun s hs => by rw [h s hs]]
theorem sh60_half {l : Int} (h : l + 1 ≤ 60) : 2 * sh60 (l + 1) = sh60 l := by
  unfold sh60
  rw [show (60 - l).toNat = (60 - (l + 1)).toNat + 1 by omega, Int.pow_succ, Int.mul_comm]
theorem kr_half {d e : Int → Int} : ∀ {ss : List Int}, (∀ s ∈ ss, e s = d s + 1 ∧ d s + 1 ≤ 60) → 2 * kr e ss = kr d ss
  | [], _ => rfl
  | s :: r, h => by
    obtain ⟨h1, h2⟩ := h s List.mem_cons_self
    have ih := kr_half (d := d) (e := e) (ss := r) fun t ht => h t (List.mem_cons_of_mem _ ht)
    have := sh60_half h2
    show 2 * (sh60 (e s) + kr e r) = sh60 (d s) + kr d r
    rw [h1]
    omega
theorem kr_perm {d : Int → Int} {ss rs : List Int} (p : ss.Perm rs) : kr d ss = kr d rs := by
  unfold kr
  induction p with
  | nil => rfl
  | cons x _ ih => rw [List.map_cons, List.sum_cons, ih, List.map_cons, List.sum_cons]
  | swap x y l => simp only [List.map_cons, List.sum_cons]; omega
  | trans _ _ ih1 ih2 => exact ih1.trans ih2
/-- each thing's symbols take all the room; nothing lies deeper than n -/
def KrOk (m : MS) (n : Int) : Prop := (∀ t ∈ m.ths, kr m.d t.2 = 2 ^ 60) ∧ ∀ s, 0 ≤ m.d s ∧ m.d s ≤ n
theorem mem_erase {α : Type} {xs : List α} {i : Nat} {x : α} (h : x ∈ xs.eraseIdx i) : x ∈ xs := List.mem_of_mem_eraseIdx h
theorem mdisj {m : MS} {syms : List Int} (hs : SymP m.ths syms) (hn : syms.Nodup) (h : 2 ≤ m.ths.length) : ((mT1 m).2 ++ (mT2 m).2).Nodup ∧ ∀ t ∈ (mR1 m).eraseIdx (mJ m), ∀ s ∈ t.2, s ∉ (mT1 m).2 ++ (mT2 m).2 := by
  have p := (mflat h).symm.trans hs
  have nd := (p.nodup_iff).mpr hn
  rw [List.nodup_append] at nd
  refine ⟨nd.1, fun t ht s hst hm => nd.2.2 s hm s (List.mem_flatten.mpr ⟨t.2, List.mem_map.mpr ⟨t, ht, rfl⟩, hst⟩) rfl⟩
theorem KrOk.step {m : MS} {n : Int} {syms : List Int} (hk : KrOk m n) (hs : SymP m.ths syms) (hn : syms.Nodup) (h : 2 ≤ m.ths.length) (h60 : n + 1 ≤ 60) : KrOk (mstep m) (n + 1) := by
  obtain ⟨hd1, hd2⟩ := mdisj hs hn h
  have hb := fun x => bumps_eq ((mT1 m).2 ++ (mT2 m).2) m.d x hd1
  refine ⟨fun t ht => ?_, fun s => ?_⟩
  · rcases List.mem_append.mp ht with ht | ht
    · have e := hk.1 t (mem_erase (mem_erase ht))
      rw [← e]
      refine kr_congr fun s hst => ?_
      show bumps m.d ((mT1 m).2 ++ (mT2 m).2) s = _
      rw [hb, if_neg (hd2 t ht s hst)]
    · rw [List.mem_singleton.mp ht]
      have e1 := hk.1 _ (List.mem_of_getElem? (mT1_at h))
      have e2 := hk.1 _ (mem_erase (List.mem_of_getElem? (mT2_at h)))
      have e3 := kr_half (d := m.d) (e := (mstep m).d) (ss := (mT1 m).2 ++ (mT2 m).2) fun s hst => ⟨by
        show bumps m.d ((mT1 m).2 ++ (mT2 m).2) s = _
        rw [hb, if_pos hst], by have := (hk.2 s).2; omega⟩
      rw [kr_app m.d, e1, e2] at e3
      show kr (mstep m).d ((mT1 m).2 ++ (mT2 m).2) = _
      omega
  · have := hk.2 s
    show 0 ≤ bumps m.d ((mT1 m).2 ++ (mT2 m).2) s ∧ _
    show 0 ≤ bumps m.d ((mT1 m).2 ++ (mT2 m).2) s ∧ bumps m.d ((mT1 m).2 ++ (mT2 m).2) s ≤ n + 1
    rw [hb]
    split <;> omega
theorem KrOk.all {syms : List Int} (hn : syms.Nodup) : ∀ (k : Nat) (m : MS) (n : Int), k < m.ths.length → SymP m.ths syms → KrOk m n → n + k ≤ 60 → KrOk (mall k m) (n + k)
  | 0, m, n, _, _, hk, _ => by rw [show n + ((0 : Nat) : Int) = n by omega]; exact hk
  | k + 1, m, n, hl, hs, hk, h60 => by
    have := KrOk.all hn k (mstep m) (n + 1) (by rw [mstep_len (by omega)]; omega) (hs.step (by omega)) (hk.step hs hn (by omega) (by omega)) (by omega)
    rw [show n + ((k + 1 : Nat) : Int) = n + 1 + k by omega]
    exact this
theorem ms0_kr (cs : List (Int × Int)) : KrOk (ms0 cs) 0 := by
  refine ⟨fun t ht => ?_, fun s => ⟨Int.le_refl _, Int.le_refl _⟩⟩
  obtain ⟨c, hc, rfl⟩ := List.mem_map.mp ht
  show sh60 0 + 0 = 2 ^ 60
  decide
theorem mEnd_kr {cs : List (Int × Int)} (hn : (cs.map (·.1)).Nodup) (h1 : 1 ≤ cs.length) (h2 : cs.length ≤ 60) : kr (mEnd cs).d (cs.map (·.1)) = 2 ^ 60 ∧ ∀ s, 0 ≤ (mEnd cs).d s ∧ (mEnd cs).d s ≤ cs.length - 1 := by
  have hl : (ms0 cs).ths.length = cs.length := List.length_map _
  obtain ⟨a, b⟩ := KrOk.all hn (cs.length - 1) (ms0 cs) 0 (by omega) (ms0_sym cs) (ms0_kr cs) (by omega)
  have hs := SymP.all (cs.length - 1) (ms0 cs) (by omega) (ms0_sym cs)
  have hlen := mall_len (cs.length - 1) (ms0 cs) (by omega)
  rw [hl] at hlen
  obtain ⟨t, ht⟩ : ∃ t, (mall (cs.length - 1) (ms0 cs)).ths = [t] := by
    generalize (mall (cs.length - 1) (ms0 cs)).ths = l at hlen
    match l, hlen with
    | [t], _ => exact ⟨t, rfl⟩
    | [], h => simp at h; omega
    | _ :: _ :: _, h => simp at h; omega
  unfold SymP at hs
  rw [ht] at hs a
  have e := a t List.mem_cons_self
  have p : t.2.Perm (cs.map (·.1)) := by simpa using hs
  refine ⟨by rw [← e]; exact (kr_perm p).symm, fun s => ?_⟩
  have := b s
  show 0 ≤ (mall (cs.length - 1) (ms0 cs)).d s ∧ (mall (cs.length - 1) (ms0 cs)).d s ≤ _
  omega
theorem room_lens (d : Int → Int) : ∀ cs : List (Int × Int), room (cs.map fun c => (c.1, max 1 (d c.1))) ≤ kr d (cs.map (·.1))
  | [] => Int.le_refl _
  | c :: r => by
    have ih := room_lens d r
    have h1 : sh60 (max 1 (d c.1)) ≤ sh60 (d c.1) := by
      unfold sh60
      exact pow2_mono (by omega)
    show sh60 (max 1 (d c.1)) + room (r.map fun c => (c.1, max 1 (d c.1))) ≤ sh60 (d c.1) + kr d (r.map (·.1))
    omega
/-- what the merges tell fits -/
theorem lensL_ok {cs : List (Int × Int)} (hp : (cs.map (·.1)).Pairwise (· < ·)) (h0 : ∀ c ∈ cs, 0 ≤ c.1) (h1 : 1 ≤ cs.length) (h2 : cs.length ≤ 60) : LensOk (lensL cs) := by
  have hn : (cs.map (·.1)).Nodup := hp.imp fun h => Int.ne_of_lt h
  obtain ⟨k1, k2⟩ := mEnd_kr hn h1 h2
  refine ⟨fun e => ?_, lensRun_of (fun c hc => ?_) ?_, ?_⟩
  · have := congrArg List.length e
    unfold lensL at this
    rw [List.length_map] at this
    simp at this
    subst this
    simp at h1
  · obtain ⟨d, hd, rfl⟩ := List.mem_map.mp hc
    have a1 := h0 d hd
    have a2 := k2 d.1
    dsimp only
    omega
  · unfold lensL
    rw [List.map_map]
    exact hp
  · have := room_lens (mEnd cs).d cs
    rw [k1] at this
    exact this
theorem take_bitsN (n : Int) : ∀ (w k : Nat), k ≤ w → (bitsN n w).take k = bitsN (n / 2 ^ (w - k)) k
  | w, 0, _ => rfl
  | 0, k + 1, h => absurd h (by omega)
  | w + 1, k + 1, h => by
    rw [bitsN, List.take_succ_cons, take_bitsN n w k (by omega), bitsN, show w + 1 - (k + 1) = w - k by omega]
    congr 1
    have hp : (0 : Int) ≤ 2 ^ (w - k) := Int.le_of_lt (Int.pow_pos (by decide))
    rw [Int.ediv_ediv_of_nonneg hp, ← Int.pow_add, show w - k + k = w by omega]
theorem pair_of {α : Type} {R : α → α → Prop} {X : List α} (h : X.Pairwise R) {s t : α} (hs : s ∈ X) (ht : t ∈ X) (ne : s ≠ t) : R s t ∨ R t s := by
  obtain ⟨i, hi, rfl⟩ := List.mem_iff_getElem.mp hs
  obtain ⟨j, hj, rfl⟩ := List.mem_iff_getElem.mp ht
  have hij : i ≠ j := fun e => ne (by subst e; rfl)
  rcases Nat.lt_or_gt_of_ne hij with h1 | h1
  · exact .inl (List.pairwise_iff_getElem.mp h i j hi hj h1)
  · exact .inr (List.pairwise_iff_getElem.mp h j i hj hi h1)
theorem cdF_len {cs : List (Int × Int)} (h : LensOk cs) {c : Int × Int} (hc : c ∈ cs) : (cdF (codesX cs) c.1).length = c.2.toNat := by
  have hn : (cs.map (·.1)).Nodup := (lensRun_all h.2.1).2.imp fun h => Int.ne_of_lt h
  unfold cdF
  rw [bitsN_len, (codesX_of hn hc).2.2]
theorem cdF_bits (X : List (Int × Int × Int)) (s : Int) : IsBits (cdF X s) := bitsN_range _ _
theorem pref_free {cs : List (Int × Int)} (h : LensOk cs) {c d : Int × Int} (hc : c ∈ cs) (hd : d ∈ cs) (ne : c.1 ≠ d.1) : ¬ (cdF (codesX cs) d.1).take (cdF (codesX cs) c.1).length = cdF (codesX cs) c.1 := by
  intro e
  have hn : (cs.map (·.1)).Nodup := (lensRun_all h.2.1).2.imp fun h => Int.ne_of_lt h
  obtain ⟨c1, c2, c3⟩ := codesX_of hn hc
  obtain ⟨d1, d2, d3⟩ := codesX_of hn hd
  obtain ⟨x1, x2⟩ := codesX_spec h
  obtain ⟨a1, a2, _, a4, a5⟩ := x1 _ c1
  obtain ⟨b1, b2, _, b4, b5⟩ := x1 _ d1
  have el := congrArg List.length e
  rw [List.length_take, cdF_len h hc, cdF_len h hd] at el
  have hle : c.2.toNat ≤ d.2.toNat := by omega
  have lc := (lensRun_all h.2.1).1 c hc
  have ld := (lensRun_all h.2.1).1 d hd
  rw [cdF_len h hc] at e
  unfold cdF at e
  rw [c3, d3, take_bitsN _ _ _ hle] at e
  generalize cdT (codesX cs) c.1 = tc at *
  generalize cdT (codesX cs) d.1 = td at *
  have hp : (0 : Int) < 2 ^ (d.2.toNat - c.2.toNat) := Int.pow_pos (by decide)
  have hdiv : td.2.1 / 2 ^ (d.2.toNat - c.2.toNat) < 2 ^ c.2.toNat := by
    refine Int.ediv_lt_of_lt_mul hp ?_
    rw [← Int.pow_add, show c.2.toNat + (d.2.toNat - c.2.toNat) = d.2.toNat by omega]
    rw [d3] at b2
    omega
  have hdn : 0 ≤ td.2.1 / 2 ^ (d.2.toNat - c.2.toNat) := Int.ediv_nonneg b1 (Int.le_of_lt hp)
  have ev : td.2.1 / 2 ^ (d.2.toNat - c.2.toNat) = tc.2.1 := by
    have := congrArg (valB 0) e
    rwa [valB_bitsN hdn hdiv, valB_bitsN a1 (by rw [c3] at a2; omega)] at this
  have hlo : tc.2.1 * 2 ^ (d.2.toNat - c.2.toNat) ≤ td.2.1 := by
    rw [← ev]; exact Int.ediv_mul_le _ (Int.ne_of_gt hp)
  have hhi : td.2.1 < (tc.2.1 + 1) * 2 ^ (d.2.toNat - c.2.toNat) := by
    rw [← ev]; exact Int.lt_ediv_add_one_mul_self _ hp
  have hs : sh60 c.2 = 2 ^ (d.2.toNat - c.2.toNat) * sh60 d.2 := by
    rw [← sh60_mul (a := c.2) (b := d.2) (by omega) ld.2.2, show (d.2 - c.2).toNat = d.2.toNat - c.2.toNat by omega]
  have hsd := sh60_pos d.2
  have l1 : loC tc ≤ loC td := by
    unfold loC
    rw [c3, d3, hs, ← Int.mul_assoc]
    exact Int.mul_le_mul_of_nonneg_right hlo (Int.le_of_lt hsd)
  have l2 : loC td < loC tc + sh60 tc.2.2 := by
    unfold loC
    have : tc.2.1 * sh60 tc.2.2 + sh60 tc.2.2 = (tc.2.1 + 1) * 2 ^ (d.2.toNat - c.2.toNat) * sh60 d.2 := by
      rw [c3, Int.mul_assoc, ← hs, Int.add_mul, Int.one_mul]
    rw [this, d3]
    exact Int.mul_lt_mul_of_pos_right hhi hsd
  have hne : tc ≠ td := fun e => ne (by rw [← c2, ← d2, e])
  have := sh60_pos td.2.2
  rcases pair_of x2 c1 d1 hne with h3 | h3 <;> omega
/-- how many marks from a place on are like those back places ahead -/
def runF (t : List Int) (at' back : Nat) : Nat → Nat
  | 0 => 0
  | f + 1 => if t.getD at' 0 = t.getD (at' - back) 0 then runF t (at' + 1) back f + 1 else 0
def runN (t : List Int) (at' back : Nat) : Nat := runF t at' back (t.length - at')
theorem runF_le (t : List Int) (back : Nat) : ∀ (f at' : Nat), runF t at' back f ≤ f
  | 0, at' => Nat.le_refl _
  | f + 1, at' => by
    unfold runF
    have := runF_le t back f (at' + 1)
    split <;> omega
theorem runF_eq (t : List Int) (back : Nat) : ∀ (f at' c : Nat), c < runF t at' back f → t.getD (at' + c) 0 = t.getD (at' + c - back) 0
  | 0, at', c, h => by cases h
  | f + 1, at', c, h => by
    unfold runF at h
    split at h
    · rename_i he
      cases c with
      | zero => exact he
      | succ c =>
        have := runF_eq t back f (at' + 1) c (by omega)
        rw [show at' + (c + 1) = at' + 1 + c by omega]
        exact this
    · cases h
theorem runF_end (t : List Int) (back : Nat) : ∀ (f at' : Nat), runF t at' back f < f → t.getD (at' + runF t at' back f) 0 ≠ t.getD (at' + runF t at' back f - back) 0
  | 0, at', h => by cases h
  | f + 1, at', h => by
    by_cases he : t.getD at' 0 = t.getD (at' - back) 0
    · have e : runF t at' back (f + 1) = runF t (at' + 1) back f + 1 := by rw [runF, if_pos he]
      rw [e] at h ⊢
      have := runF_end t back f (at' + 1) (by omega)
      rw [show at' + (runF t (at' + 1) back f + 1) = at' + 1 + runF t (at' + 1) back f by omega]
      exact this
    · have e : runF t at' back (f + 1) = 0 := by rw [runF, if_neg he]
      rw [e]
      exact he
theorem runN_le (t : List Int) (at' back : Nat) : runN t at' back ≤ t.length - at' := runF_le _ _ _ _
/-- the best repeat with a back of at most so many -/
def bestN (t : List Int) (at' : Nat) : Nat → Option (Nat × Nat)
  | 0 => none
  | b + 1 => match bestN t at' b with
    | none => if 3 ≤ runN t at' (b + 1) then some (b + 1, runN t at' (b + 1)) else none
    | some (x, l) => if l < runN t at' (b + 1) then some (b + 1, runN t at' (b + 1)) else some (x, l)
theorem bestN_spec (t : List Int) (at' : Nat) : ∀ b, match bestN t at' b with
    | none => ∀ c, 1 ≤ c → c ≤ b → runN t at' c < 3
    | some (x, l) => 1 ≤ x ∧ x ≤ b ∧ 3 ≤ l ∧ l = runN t at' x ∧ (∀ c, 1 ≤ c → c ≤ b → runN t at' c ≤ l) ∧ ∀ c, 1 ≤ c → c < x → runN t at' c < l
  | 0 => fun c h1 h2 => by omega
  | b + 1 => by
    have ih := bestN_spec t at' b
    unfold bestN
    cases hb : bestN t at' b with
    | none =>
      rw [hb] at ih
      by_cases h : 3 ≤ runN t at' (b + 1)
      · rw [if_pos h]
        refine ⟨by omega, Nat.le_refl _, h, rfl, fun c h1 h2 => ?_, fun c h1 h2 => ?_⟩
        · by_cases hc : c = b + 1
          · subst hc; exact Nat.le_refl _
          · have := ih c h1 (by omega); omega
        · have := ih c h1 (by omega); omega
      · rw [if_neg h]
        intro c h1 h2
        by_cases hc : c = b + 1
        · subst hc; omega
        · exact ih c h1 (by omega)
    | some xl =>
      obtain ⟨x, l⟩ := xl
      rw [hb] at ih
      obtain ⟨i1, i2, i3, i4, i5, i6⟩ := ih
      by_cases h : l < runN t at' (b + 1)
      · dsimp only
        rw [if_pos h]
        refine ⟨by omega, Nat.le_refl _, by omega, rfl, fun c h1 h2 => ?_, fun c h1 h2 => ?_⟩
        · by_cases hc : c = b + 1
          · subst hc; exact Nat.le_refl _
          · have := i5 c h1 (by omega); omega
        · have := i5 c h1 (by omega); omega
      · dsimp only
        rw [if_neg h]
        refine ⟨i1, by omega, i3, i4, fun c h1 h2 => ?_, i6⟩
        by_cases hc : c = b + 1
        · subst hc; omega
        · exact i5 c h1 (by omega)
inductive Tok' where
  | mark (m : Int)
  | rep (b l : Nat)
def TokAt (B : Hp) (v : V) : Tok' → Prop
  | .mark m => v = .int m
  | .rep b l => ∃ p, v = .ref p ∧ B p = some (.tup [.int (b : Nat), .int (l : Nat)])
theorem TokAt.mono {B B' : Hp} {v : V} {t : Tok'} (s : Same B B') (h : TokAt B v t) : TokAt B' v t := by
  cases t with
  | mark m => exact h
  | rep b l => obtain ⟨p, e, h⟩ := h; exact ⟨p, e, s _ _ h⟩
theorem TokAt.ofMark {B : Hp} {m : Int} : TokAt B (.int m) (.mark m) := rfl
theorem TokAt.ofRep {B : Hp} {p : Addr} {b l : Nat} (h : B p = some (.tup [.int (b : Nat), .int (l : Nat)])) : TokAt B (.ref p) (.rep b l) := ⟨p, rfl, h⟩
/-- the tokens of a text from a place on -/
def tokF (t : List Int) : Nat → Nat → List Tok'
  | 0, _ => []
  | f + 1, at' => if at' < t.length then (match bestN t at' at' with
    | none => .mark (t.getD at' 0) :: tokF t f (at' + 1)
    | some (b, l) => .rep b l :: tokF t f (at' + l)) else []
def tokL (t : List Int) : List Tok' := tokF t t.length 0
theorem tokF_succ (t : List Int) (f at' : Nat) : tokF t (f + 1) at' = if at' < t.length then (match bestN t at' at' with
    | none => .mark (t.getD at' 0) :: tokF t f (at' + 1)
    | some (b, l) => .rep b l :: tokF t f (at' + l)) else [] := rfl
theorem tokF_more (t : List Int) : ∀ (f at' : Nat), t.length ≤ at' + f → tokF t (f + 1) at' = tokF t f at'
  | 0, at', h => by rw [tokF_succ, if_neg (by omega)]; rfl
  | f + 1, at', h => by
    rw [tokF_succ t (f + 1) at', tokF_succ t f at']
    by_cases hl : at' < t.length
    · rw [if_pos hl, if_pos hl]
      have sp := bestN_spec t at' at'
      cases hb : bestN t at' at' with
      | none => dsimp only; rw [tokF_more t f (at' + 1) (by omega)]
      | some xl =>
        obtain ⟨x, l⟩ := xl
        rw [hb] at sp
        dsimp only
        rw [tokF_more t f (at' + l) (by omega)]
    · rw [if_neg hl, if_neg hl]
/-- .. with just as much fuel as is needed -/
def tokA (t : List Int) (at' : Nat) : List Tok' := tokF t (t.length - at') at'
theorem tokF_any (t : List Int) (at' : Nat) : ∀ f, t.length ≤ at' + f → tokF t f at' = tokA t at' := by
  intro f h
  unfold tokA
  obtain ⟨d, hd⟩ : ∃ d, f = t.length - at' + d := ⟨f - (t.length - at'), by omega⟩
  subst hd
  clear h
  induction d with
  | zero => rfl
  | succ d ih => rw [← ih, ← Nat.add_assoc, tokF_more t _ at' (by omega)]
theorem tokA_end {t : List Int} {at' : Nat} (h : t.length ≤ at') : tokA t at' = [] := by
  unfold tokA
  rw [show t.length - at' = 0 by omega]; rfl
theorem tokA_none {t : List Int} {at' : Nat} (h : at' < t.length) (hb : bestN t at' at' = none) : tokA t at' = .mark (t.getD at' 0) :: tokA t (at' + 1) := by
  unfold tokA
  rw [show t.length - at' = (t.length - (at' + 1)) + 1 by omega, tokF_succ, if_pos h, hb]
theorem tokA_some {t : List Int} {at' b l : Nat} (h : at' < t.length) (hb : bestN t at' at' = some (b, l)) : tokA t at' = .rep b l :: tokA t (at' + l) := by
  have sp := bestN_spec t at' at'
  rw [hb] at sp
  have hr := runN_le t at' b
  unfold tokA
  rw [show t.length - at' = (t.length - (at' + 1)) + 1 by omega, tokF_succ, if_pos h, hb]
  dsimp only
  rw [tokF_any t (at' + l) _ (by omega)]
  rfl
abbrev s_run_at : Stmt := topS 30
abbrev N_run_at : List Str := ["text", "at", "back", "long"]
theorem sc_run_at : FnScope N_run_at ["text", "at", "back"] (defScope s_run_at) := ⟨rfl, rfl, rfl, by decide +kernel, rfl, by decide +kernel, by decide +kernel⟩






def sp_run_at (K : PySem.W.Frag) (A : Ads) : Sp := fun zvs zH Q E => ∃ (B : Hp) (G : Own) (a : Addr) (t : List Int) (at' back : Nat), zvs = [.ref a, .int at', .int back] ∧ SI B G zH ∧ (Sq K B G a (t.map V.int)) ∧ (back ≤ at') ∧ (N B G (Q (.int (runN t at' back : Nat))))
theorem len_run_at {K : PySem.W.Frag} {A : Ads} : ∀ vs H Q E, sp_run_at K A vs H Q E → vs.length = 3 := by
  intro vs H Q E h
  obtain ⟨_, _, _, _, _, _, rfl, _⟩ := h
  rfl
def x_run_at_0 (K : PySem.W.Frag) (A : Ads) (E : XK) : TS :=
  (tSeq (tWhile (tAnd (tTest (tOp uLt (tOp (uAdd K) (tVar 1) (tVar 3)) (tCB (uLen K) (tCons (tVar 0) tNil)))) (tTest (tOp (uEq K) (tOp (rIx K) (tVar 0) (tOp (uAdd K) (tVar 1) (tVar 3))) (tOp (rIx K) (tVar 0) (tOp uSub (tOp (uAdd K) (tVar 1) (tVar 3)) (tVar 2))))))
    (tSeq (tAug 3 (tC (.int (1))) (ipI fun i j => i + j))
    tNext))
    (tSeq (tRet (tVar 3))
    tNext))
instance {K : PySem.W.Frag} {A : Ads} {E : XK} : Unf (x_run_at_0 K A E) (
  (tSeq (tWhile (tAnd (tTest (tOp uLt (tOp (uAdd K) (tVar 1) (tVar 3)) (tCB (uLen K) (tCons (tVar 0) tNil)))) (tTest (tOp (uEq K) (tOp (rIx K) (tVar 0) (tOp (uAdd K) (tVar 1) (tVar 3))) (tOp (rIx K) (tVar 0) (tOp uSub (tOp (uAdd K) (tVar 1) (tVar 3)) (tVar 2))))))
    (tSeq (tAug 3 (tC (.int (1))) (ipI fun i j => i + j))
    tNext))
    (tSeq (tRet (tVar 3))
    tNext))) := ⟨rfl⟩
def t_run_at (K : PySem.W.Frag) (A : Ads) (E : XK) : TS :=
  (tSeq (tAsg (tC (.int (0))) (gName 3))
    (x_run_at_0 K A E))
theorem pure_run_at {K : PySem.W.Frag} {A : Ads} (T : Fct K A) (vs : List V) (H : Hp) (Q : VK) (E : XK) (h : sp_run_at K A vs H Q E) : t_run_at K A E (endE Q) (L2.start N_run_at vs) H := by
  obtain ⟨B, G, a, t, at', back, rfl, zs, hs, hb, k⟩ := h
  refine (?_ : N B G (fun H => t_run_at K A E (endE Q) (L2.start N_run_at [.ref a, .int at', .int back]) H)) H zs
  clear zs
  unfold t_run_at

  have z1 := runF_le t back (t.length - at') at'
  have z2 := runF_eq t back (t.length - at') at'
  have z3 := runF_end t back (t.length - at') at'
  unfold runN at k
  generalize runF t at' back (t.length - at') = z at *
  walk_at "sk stp"
  refine n_while (fun m σ L => ∃ c : Nat, σ = [some (.ref a), some (.int at'), some (.int back), some (.int c)] ∧ G = L ∧ c ≤ z ∧ m = z - c) _ ⟨0, rfl, rfl, by omega, rfl⟩ ?_
  rintro m σ L ⟨c, rfl, rfl, hc, rfl⟩
  walk_at "sk stp"
  rw [show ((at' : Int) + c).toNat = at' + c by omega, show ((at' : Int) + c - back).toNat = at' + c - back by omega]
  refine n_ite (fun h => ?_) (fun h => ?_)
  · rw [Bool.and_eq_true, decide_eq_true_eq, decide_eq_true_eq] at h
    have hcz : c < z := by
      by_cases hh : c = z
      · subst hh; exact absurd h.2 (z3 (by omega))
      · omega
    refine n_wk ?_
    walk_at "sk stp"
    exact n_kw ⟨c + 1, rfl, rfl, by omega, rfl⟩ (by omega) (.refl _)
  · have hcz : c = z := by
      by_cases hh : c < z
      · rw [z2 c hh, decide_eq_true (show (at' : Int) + c < t.length by omega)] at h
        simp at h
      · omega
    subst hcz
    walk_at "sk stp"
    exact k
theorem raw_run_at {P : Program} {w : World} {K : PySem.W.Frag} {mg : Str → Option Value} {base : Heap} {A : Ads} {f : Addr} {fd : FuncData} (F : Fun K "run_at" "run_at" s_run_at f fd) (T : Txt K mg A) : FnOk P w K mg base CX0 1 f fd ["text", "at", "back"] (sp_run_at K A) := by
  refine F.ok sc_run_at (fun vs H Q E h => len_run_at vs H Q E h) (fun cdv Ar outer s H vs Q E hr h => ⟨t_run_at K A E, PSs.nox ?_, pure_run_at T.fct vs H Q E h⟩)
  have nd := sc_run_at.nd
  exact (pss_cons (ps_set (i := 3) nd rfl (Or.inl rfl) pe_int)
    (pss_cons (ps_while PassesOwn.never (PW.pt (pw_and (pt_cmpR op_uLt (pe_op op_uAdd (pv 1) (pv 3)) (pe_callB call_uLen (by rfl) T.b_len boot_len (pa_cons (pv 0) pa_nil)) (nomark _)) (pw_and1 (pt_cmpR (op_uEq hr.units) (pe_ix ix_seq (pv 0) (pe_op op_uAdd (pv 1) (pv 3)) (fun _ _ => rfl)) (pe_ix ix_seq (pv 0) (pe_op op_uSub (pe_op op_uAdd (pv 1) (pv 3)) (pv 2)) (fun _ _ => rfl)) (nomark _)))))
    (pss_cons (ps_aug (i := 3) nd rfl (Or.inl rfl) pe_int ip_add)
    pss_nil))
    (pss_cons (ps_ret (pv 3))
    pss_nil)))
theorem use_run_at {K : PySem.W.Frag} {A : Ads} {B : Hp} {G : Own} {Q : VK} {E : XK} {a : Addr} {t : List Int} {at' back : Nat} (hs : Sq K B G a (t.map V.int)) (hb : back ≤ at') (zq : N B G (Q (.int (runN t at' back : Nat)))) : N B G (fun H => sp_run_at K A [.ref a, .int at', .int back] H Q E) := fun zH zs => ⟨B, _, _, _, _, _, rfl, zs, hs, hb, zq⟩
local macro_rules | `(tactic| walk_at "sk st") => `(tactic| with_reducible (apply use_run_at; (next => with_unfolding_all walk_at "sk sq"); (next => with_unfolding_all walk_at "sk sd"); (skip)))

def bestV (B : Hp) (v : V) : Option (Nat × Nat) → Prop
  | none => v = .non
  | some (b, l) => ∃ p, v = .ref p ∧ B p = some (.tup [.int (b : Nat), .int (l : Nat)])
theorem bestV.mono {B B' : Hp} {v : V} {t : Option (Nat × Nat)} (s : Same B B') (h : bestV B v t) : bestV B' v t := by
  cases t with
  | none => exact h
  | some x => obtain ⟨p, e, h⟩ := h; exact ⟨p, e, s _ _ h⟩
abbrev s_repeat_at : Stmt := topS 31
abbrev N_repeat_at : List Str := ["text", "at", "best", "back", "long"]
theorem sc_repeat_at : FnScope N_repeat_at ["text", "at"] (defScope s_repeat_at) := ⟨rfl, rfl, rfl, by decide +kernel, rfl, by decide +kernel, by decide +kernel⟩






def sp_repeat_at (K : PySem.W.Frag) (A : Ads) : Sp := fun zvs zH Q E => ∃ (B : Hp) (G : Own) (a : Addr) (t : List Int) (at' : Nat), zvs = [.ref a, .int at'] ∧ SI B G zH ∧ (Sq K B G a (t.map V.int)) ∧ (t.length ≤ 100000 ∧ at' ≤ t.length) ∧ (∀ B' v, Same B B' → bestV B' v (bestN t at' at') → N B' G (Q v))
theorem len_repeat_at {K : PySem.W.Frag} {A : Ads} : ∀ vs H Q E, sp_repeat_at K A vs H Q E → vs.length = 2 := by
  intro vs H Q E h
  obtain ⟨_, _, _, _, _, rfl, _⟩ := h
  rfl
def x_repeat_at_0 (K : PySem.W.Frag) (A : Ads) (E : XK) : TS :=
  (tSeq (tIfS (tAnd (tTest (tOp uGe (tVar 4) (tC (.int (3))))) (tOr (tTest (tOp uIsN (tVar 2) (tC .non))) (tTest (tOp uGt (tVar 4) (tOp (rIx K) (tVar 2) (tC (.int (1))))))))
    (tSeq (tAsg (tTup (tCons (tVar 3) (tCons (tVar 4) tNil))) (gName 2))
    tNext)
    tNext)
    tNext)
instance {K : PySem.W.Frag} {A : Ads} {E : XK} : Unf (x_repeat_at_0 K A E) (
  (tSeq (tIfS (tAnd (tTest (tOp uGe (tVar 4) (tC (.int (3))))) (tOr (tTest (tOp uIsN (tVar 2) (tC .non))) (tTest (tOp uGt (tVar 4) (tOp (rIx K) (tVar 2) (tC (.int (1))))))))
    (tSeq (tAsg (tTup (tCons (tVar 3) (tCons (tVar 4) tNil))) (gName 2))
    tNext)
    tNext)
    tNext)) := ⟨rfl⟩
def x_repeat_at_1 (K : PySem.W.Frag) (A : Ads) (E : XK) : TS :=
  (tSeq (tFor (iRng2 (tCons (tC (.int (1))) (tCons (tOp (uAdd K) (tVar 1) (tC (.int (1)))) tNil))) (gName 3)
    (tSeq (tAsg (tCl (sp_run_at K A) (WE W0) (tCons (tVar 0) (tCons (tVar 1) (tCons (tVar 3) tNil)))) (gName 4))
    (x_repeat_at_0 K A E)))
    (tSeq (tRet (tVar 2))
    tNext))
instance {K : PySem.W.Frag} {A : Ads} {E : XK} : Unf (x_repeat_at_1 K A E) (
  (tSeq (tFor (iRng2 (tCons (tC (.int (1))) (tCons (tOp (uAdd K) (tVar 1) (tC (.int (1)))) tNil))) (gName 3)
    (tSeq (tAsg (tCl (sp_run_at K A) (WE W0) (tCons (tVar 0) (tCons (tVar 1) (tCons (tVar 3) tNil)))) (gName 4))
    (x_repeat_at_0 K A E)))
    (tSeq (tRet (tVar 2))
    tNext))) := ⟨rfl⟩
def t_repeat_at (K : PySem.W.Frag) (A : Ads) (E : XK) : TS :=
  (tSeq (tAsg (tC .non) (gName 2))
    (x_repeat_at_1 K A E))
theorem pure_repeat_at {K : PySem.W.Frag} {A : Ads} (T : Fct K A) (vs : List V) (H : Hp) (Q : VK) (E : XK) (h : sp_repeat_at K A vs H Q E) : t_repeat_at K A E (endE Q) (L2.start N_repeat_at vs) H := by
  obtain ⟨B, G, a, t, at', rfl, zs, hs, hl, k⟩ := h
  refine (?_ : N B G (fun H => t_repeat_at K A E (endE Q) (L2.start N_repeat_at [.ref a, .int at']) H)) H zs
  clear zs
  unfold t_repeat_at

  walk_at "sk stp"
  refine n_lpR2B (fun i B' σ L => ∃ (v : V) (y3 y4 : Option V), σ = [some (.ref a), some (.int at'), some v, y3, y4] ∧ G = L ∧ bestV B' v (bestN t at' i)) (by omega) ⟨.non, _, _, rfl, rfl, rfl⟩ ?_ ?_
  · rintro i B' σ L sm hi ⟨v, y3, y4, rfl, rfl, hv⟩
    have hs' := hs.mono sm
    rw [show (1 : Int) + i = ((i + 1 : Nat) : Int) by omega]
    walk_at "sk stp"
    generalize hr : runN t at' (i + 1) = r
    cases hb : bestN t at' i with
    | none =>
      rw [hb] at hv
      cases hv
      have e : bestN t at' (i + 1) = if 3 ≤ r then some (i + 1, r) else none := by rw [bestN, hb, hr]
      walk_at "sk stp"
      refine n_iteD (fun hc => ?_) (fun hc => ?_)
      · rw [if_pos (by omega)] at e
        walk_at "sk stp"
        refine n_freeze 0 rfl fun B2 sm2 hp => ?_
        exact n_kg sm2 ⟨_, _, _, rfl, rfl, by rw [e]; exact ⟨_, rfl, hp⟩⟩ (.refl _)
      · rw [if_neg (by omega)] at e
        walk_at "sk stp"
        exact n_kg (Same.refl _) ⟨_, _, _, rfl, rfl, by rw [e]; exact rfl⟩ (.refl _)
    | some xl =>
      obtain ⟨x, l⟩ := xl
      have e : bestN t at' (i + 1) = if l < r then some (i + 1, r) else some (x, l) := by rw [bestN, hb, hr]
      have sp := bestN_spec t at' i
      rw [hb] at hv sp
      obtain ⟨p, rfl, hp⟩ := hv
      obtain ⟨s1, s2, s3, _⟩ := sp
      walk_at "sk stp"
      refine n_iteD (fun hc => ?_) (fun hc => ?_)
      · walk_at "sk stp"
        refine n_iteD (fun hd => ?_) (fun hd => ?_)
        · rw [if_pos (by omega)] at e
          walk_at "sk stp"
          refine n_freeze 0 rfl fun B2 sm2 hp => ?_
          exact n_kg sm2 ⟨_, _, _, rfl, rfl, by rw [e]; exact ⟨_, rfl, hp⟩⟩ (.refl _)
        · rw [if_neg (by omega)] at e
          walk_at "sk stp"
          exact n_kg (Same.refl _) ⟨_, _, _, rfl, rfl, by rw [e]; exact ⟨_, rfl, hp⟩⟩ (.refl _)
      · rw [if_neg (by omega)] at e
        walk_at "sk stp"
        exact n_kg (Same.refl _) ⟨_, _, _, rfl, rfl, by rw [e]; exact ⟨_, rfl, hp⟩⟩ (.refl _)
  · rintro B' σ L sm ⟨v, y3, y4, rfl, rfl, hv⟩
    rw [show ((at' : Int) + 1 - 1).toNat = at' by omega] at hv
    walk_at "sk stp"
    exact k B' v sm hv
theorem raw_repeat_at {P : Program} {w : World} {K : PySem.W.Frag} {mg : Str → Option Value} {base : Heap} {A : Ads} {f : Addr} {fd : FuncData} (F : Fun K "repeat_at" "repeat_at" s_repeat_at f fd) (T : Txt K mg A) (O_run_at : OkC P w K mg base CX0 1 "run_at" ["text", "at", "back"] (sp_run_at K A)) : FnOk P w K mg base CX0 2 f fd ["text", "at"] (sp_repeat_at K A) := by
  refine F.ok sc_repeat_at (fun vs H Q E h => len_repeat_at vs H Q E h) (fun cdv Ar outer s H vs Q E hr h => ⟨t_repeat_at K A E, PSs.nox ?_, pure_repeat_at T.fct vs H Q E h⟩)
  have nd := sc_repeat_at.nd
  exact (pss_cons (ps_set (i := 2) nd rfl (Or.inl rfl) pe_non)
    (pss_cons (ps_for PassesOwn.never rfl (pi_range2 (by rfl) T.b_range (pa_cons pe_int (pa_cons (pe_op op_uAdd (pv 1) pe_int) pa_nil))) (pg_name (i := 3) nd rfl (Or.inl rfl))
    (pss_cons (ps_set (i := 4) nd rfl (Or.inl rfl) (pe_cl (E := WE W0) O_run_at (hr.mono (by decide)) (by rfl) pass00 (pa_cons (pv 0) (pa_cons (pv 1) (pa_cons (pv 3) pa_nil)))))
    (pss_cons (ps_if (PW.pt (pw_and (pt_cmpR op_uGe (pv 4) (pe_glob (by rfl) T.c_SHORTEST.choose_spec.1 T.c_SHORTEST.choose_spec.2) (nomark _)) (pw_and1 (PW.pt (pw_or (pt_cmpR op_uIsN (pv 2) pe_non (nomark _)) (pw_or1 (pt_cmpR op_uGt (pv 4) (pe_ix ix_seq (pv 2) pe_int (fun _ _ => rfl)) (nomark _)))))))) (pss_cons (ps_set (i := 2) nd rfl (Or.inl rfl) (pe_tup (pa_cons (pv 3) (pa_cons (pv 4) pa_nil))))
    pss_nil) pss_nil)
    pss_nil)))
    (pss_cons (ps_ret (pv 2))
    pss_nil)))
theorem use_repeat_at {K : PySem.W.Frag} {A : Ads} {B : Hp} {G : Own} {Q : VK} {E : XK} {a : Addr} {t : List Int} {at' : Nat} (hs : Sq K B G a (t.map V.int)) (hl : t.length ≤ 100000 ∧ at' ≤ t.length) (zq : ∀ B' v, Same B B' → bestV B' v (bestN t at' at') → N B' G (Q v)) : N B G (fun H => sp_repeat_at K A [.ref a, .int at'] H Q E) := fun zH zs => ⟨B, _, _, _, _, rfl, zs, hs, hl, zq⟩

abbrev s_tokens_of : Stmt := topS 32
abbrev N_tokens_of : List Str := ["text", "found", "at", "repeat"]
theorem sc_tokens_of : FnScope N_tokens_of ["text"] (defScope s_tokens_of) := ⟨rfl, rfl, rfl, by decide +kernel, rfl, by decide +kernel, by decide +kernel⟩






def sp_tokens_of (K : PySem.W.Frag) (A : Ads) : Sp := fun zvs zH Q E => ∃ (B : Hp) (G : Own) (a : Addr) (t : List Int), zvs = [.ref a] ∧ SI B G zH ∧ (Sq K B G a (t.map V.int)) ∧ (t.length ≤ 100000) ∧ (∀ B' p vs, Same B B' → All2 (TokAt B') vs (tokL t) → N B' ((p, .lst vs) :: G) (Q (.ref p)))
theorem len_tokens_of {K : PySem.W.Frag} {A : Ads} : ∀ vs H Q E, sp_tokens_of K A vs H Q E → vs.length = 1 := by
  intro vs H Q E h
  obtain ⟨_, _, _, _, rfl, _⟩ := h
  rfl
def x_tokens_of_0 (K : PySem.W.Frag) (A : Ads) (E : XK) : TS :=
  (tSeq (tIfS (tTest (tOp uIsN (tVar 3) (tC .non)))
    (tSeq (tDrop (tBM K "list" rAppend (tVar 1) (tCons (tOp (rIx K) (tVar 0) (tVar 2)) tNil)))
    (tSeq (tAug 2 (tC (.int (1))) (ipI fun i j => i + j))
    tNext))
    (tSeq (tDrop (tBM K "list" rAppend (tVar 1) (tCons (tVar 3) tNil)))
    (tSeq (tAug 2 (tOp (rIx K) (tVar 3) (tC (.int (1)))) (ipI fun i j => i + j))
    tNext)))
    tNext)
instance {K : PySem.W.Frag} {A : Ads} {E : XK} : Unf (x_tokens_of_0 K A E) (
  (tSeq (tIfS (tTest (tOp uIsN (tVar 3) (tC .non)))
    (tSeq (tDrop (tBM K "list" rAppend (tVar 1) (tCons (tOp (rIx K) (tVar 0) (tVar 2)) tNil)))
    (tSeq (tAug 2 (tC (.int (1))) (ipI fun i j => i + j))
    tNext))
    (tSeq (tDrop (tBM K "list" rAppend (tVar 1) (tCons (tVar 3) tNil)))
    (tSeq (tAug 2 (tOp (rIx K) (tVar 3) (tC (.int (1)))) (ipI fun i j => i + j))
    tNext)))
    tNext)) := ⟨rfl⟩
def x_tokens_of_1 (K : PySem.W.Frag) (A : Ads) (E : XK) : TS :=
  (tSeq (tWhile (tTest (tOp uLt (tVar 2) (tCB (uLen K) (tCons (tVar 0) tNil))))
    (tSeq (tAsg (tCl (sp_repeat_at K A) (WE W0) (tCons (tVar 0) (tCons (tVar 2) tNil))) (gName 3))
    (x_tokens_of_0 K A E)))
    (tSeq (tRet (tVar 1))
    tNext))
instance {K : PySem.W.Frag} {A : Ads} {E : XK} : Unf (x_tokens_of_1 K A E) (
  (tSeq (tWhile (tTest (tOp uLt (tVar 2) (tCB (uLen K) (tCons (tVar 0) tNil))))
    (tSeq (tAsg (tCl (sp_repeat_at K A) (WE W0) (tCons (tVar 0) (tCons (tVar 2) tNil))) (gName 3))
    (x_tokens_of_0 K A E)))
    (tSeq (tRet (tVar 1))
    tNext))) := ⟨rfl⟩
def t_tokens_of (K : PySem.W.Frag) (A : Ads) (E : XK) : TS :=
  (tSeq (tAsg (tLst tNil) (gName 1))
    (tSeq (tAsg (tC (.int (0))) (gName 2))
    (x_tokens_of_1 K A E)))
theorem pure_tokens_of {K : PySem.W.Frag} {A : Ads} (T : Fct K A) (vs : List V) (H : Hp) (Q : VK) (E : XK) (h : sp_tokens_of K A vs H Q E) : t_tokens_of K A E (endE Q) (L2.start N_tokens_of vs) H := by
  obtain ⟨B, G, a, t, rfl, zs, hs, hl, k⟩ := h
  refine (?_ : N B G (fun H => t_tokens_of K A E (endE Q) (L2.start N_tokens_of [.ref a]) H)) H zs
  clear zs
  unfold t_tokens_of

  walk_at "sk stp"
  rename_i q
  refine n_whileB (fun m B' σ L => ∃ (at' : Nat) (vs : List V) (ts : List Tok') (y3 : Option V), σ = [some (.ref a), some (.ref q), some (.int at'), y3] ∧ L = (q, .lst vs) :: G ∧ All2 (TokAt B') vs ts ∧ ts ++ tokA t at' = tokL t ∧ ts.length ≤ at' ∧ at' ≤ t.length ∧ m = t.length - at') _ ⟨0, [], [], _, rfl, rfl, .nil, rfl, Nat.zero_le _, Nat.zero_le _, rfl⟩ ?_
  rintro m B' σ L sm ⟨at', vs, ts, y3, rfl, rfl, hv, he, htl, hat, rfl⟩
  have hs' := hs.mono sm
  have hvl := hv.len
  walk_at "sk stp"
  refine n_iteD (fun hb => ?_) (fun hb => ?_)
  · refine n_wkG sm ?_
    walk_at "sk stp"
    refine use_repeat_at (by walk_at "sk sq") (by omega) fun B2 v sm2 hbv => ?_
    have hs2 := hs'.mono sm2
    have hv2 := hv.imp fun x y h => TokAt.mono sm2 h
    have sp := bestN_spec t at' at'
    cases hbest : bestN t at' at' with
    | none =>
      rw [hbest] at hbv
      cases hbv
      rw [tokA_none (by omega) hbest] at he
      walk_at "sk stp"
      rw [Int.toNat_natCast]
      exact n_kgw (sm.trans sm2) ⟨at' + 1, _, ts ++ [.mark (t.getD at' 0)], _, rfl, rfl, hv2.snoc TokAt.ofMark, by rw [List.append_assoc]; exact he, by rw [List.length_append]; show _ + 1 ≤ _; omega, by omega, rfl⟩ (by omega) (.refl _)
    | some xl =>
      obtain ⟨x, l⟩ := xl
      rw [hbest] at hbv sp
      obtain ⟨p, rfl, hp⟩ := hbv
      obtain ⟨s1, s2, s3, s4, _⟩ := sp
      have hrl := runN_le t at' x
      rw [tokA_some (by omega) hbest] at he
      walk_at "sk stp"
      exact n_kgw (sm.trans sm2) ⟨at' + l, _, ts ++ [.rep x l], _, rfl, rfl, hv2.snoc (TokAt.ofRep hp), by rw [List.append_assoc]; exact he, by rw [List.length_append]; show _ + 1 ≤ _; omega, by omega, rfl⟩ (by omega) (.refl _)
  · rw [tokA_end (by omega), List.append_nil] at he
    subst he
    walk_at "sk stp"
    exact k B' q vs sm hv
theorem raw_tokens_of {P : Program} {w : World} {K : PySem.W.Frag} {mg : Str → Option Value} {base : Heap} {A : Ads} {f : Addr} {fd : FuncData} (F : Fun K "tokens_of" "tokens_of" s_tokens_of f fd) (T : Txt K mg A) (O_repeat_at : OkC P w K mg base CX0 2 "repeat_at" ["text", "at"] (sp_repeat_at K A)) : FnOk P w K mg base CX0 3 f fd ["text"] (sp_tokens_of K A) := by
  refine F.ok sc_tokens_of (fun vs H Q E h => len_tokens_of vs H Q E h) (fun cdv Ar outer s H vs Q E hr h => ⟨t_tokens_of K A E, PSs.nox ?_, pure_tokens_of T.fct vs H Q E h⟩)
  have nd := sc_tokens_of.nd
  exact (pss_cons (ps_set (i := 1) nd rfl (Or.inl rfl) (pe_lst pa_nil))
    (pss_cons (ps_set (i := 2) nd rfl (Or.inl rfl) pe_int)
    (pss_cons (ps_while PassesOwn.never (pt_cmpR op_uLt (pv 2) (pe_callB call_uLen (by rfl) T.b_len boot_len (pa_cons (pv 0) pa_nil)) (nomark _))
    (pss_cons (ps_set (i := 3) nd rfl (Or.inl rfl) (pe_cl (E := WE W0) O_repeat_at (hr.mono (by decide)) (by rfl) pass00 (pa_cons (pv 0) (pa_cons (pv 2) pa_nil))))
    (pss_cons (ps_if (pt_cmpR op_uIsN (pv 3) pe_non (nomark _)) (pss_cons (ps_expr (pe_bm PySem.F.plainAttrs_list PySem.F.slot_list_append PySem.F.type_list_append mt_append (pv 1) (pa_cons (pe_ix ix_seq (pv 0) (pv 2) (fun _ _ => rfl)) pa_nil)))
    (pss_cons (ps_aug (i := 2) nd rfl (Or.inl rfl) pe_int ip_add)
    pss_nil)) (pss_cons (ps_expr (pe_bm PySem.F.plainAttrs_list PySem.F.slot_list_append PySem.F.type_list_append mt_append (pv 1) (pa_cons (pv 3) pa_nil)))
    (pss_cons (ps_aug (i := 2) nd rfl (Or.inl rfl) (pe_ix ix_seq (pv 3) pe_int (fun _ _ => rfl)) ip_add)
    pss_nil)))
    pss_nil)))
    (pss_cons (ps_ret (pv 1))
    pss_nil))))
theorem use_tokens_of {K : PySem.W.Frag} {A : Ads} {B : Hp} {G : Own} {Q : VK} {E : XK} {a : Addr} {t : List Int} (hs : Sq K B G a (t.map V.int)) (hl : t.length ≤ 100000) (zq : ∀ B' p vs, Same B B' → All2 (TokAt B') vs (tokL t) → N B' ((p, .lst vs) :: G) (Q (.ref p))) : N B G (fun H => sp_tokens_of K A [.ref a] H Q E) := fun zH zs => ⟨B, _, _, _, rfl, zs, hs, hl, zq⟩

inductive TokZ where
  | mark (m : Int)
  | rep (b l : Int)
def TokZAt (B : Hp) (v : V) : TokZ → Prop
  | .mark m => v = .int m
  | .rep b l => ∃ p, v = .ref p ∧ B p = some (.tup [.int b, .int l])
theorem TokZAt.mono {B B' : Hp} {v : V} {t : TokZ} (s : Same B B') (h : TokZAt B v t) : TokZAt B' v t := by
  cases t with
  | mark m => exact h
  | rep b l => obtain ⟨p, e, h⟩ := h; exact ⟨p, e, s _ _ h⟩
theorem TokZAt.ofMark {B : Hp} {m : Int} : TokZAt B (.int m) (.mark m) := rfl
theorem TokZAt.ofRep {B : Hp} {p : Addr} {b l : Int} (h : B p = some (.tup [.int b, .int l])) : TokZAt B (.ref p) (.rep b l) := ⟨p, rfl, h⟩
def copyN (t : List Int) (b : Nat) : Nat → List Int
  | 0 => t
  | n + 1 => copyN t b n ++ [(copyN t b n).getD ((copyN t b n).length - b) 0]
theorem copyN_len (t : List Int) (b : Nat) : ∀ n, (copyN t b n).length = t.length + n
  | 0 => rfl
  | n + 1 => by rw [copyN, List.length_append, copyN_len t b n]; rfl
def lay1 (t : List Int) : TokZ → Option (List Int)
  | .mark m => if 0 ≤ m ∧ m ≤ 255 then some (t ++ [m]) else none
  | .rep b l => if (1 ≤ b ∧ b ≤ t.length) ∧ 3 ≤ l then some (copyN t b.toNat l.toNat) else none
def layT : List Int → List TokZ → Option (List Int)
  | t, [] => some t
  | t, x :: r => match lay1 t x with
    | none => none
    | some t' => layT t' r
def costZ : List TokZ → Nat
  | [] => 0
  | .mark _ :: r => 1 + costZ r
  | .rep _ l :: r => l.toNat + costZ r
abbrev s_look_at_repeat : Stmt := topS 33
abbrev N_look_at_repeat : List Str := ["back", "long", "made"]
theorem sc_look_at_repeat : FnScope N_look_at_repeat ["back", "long", "made"] (defScope s_look_at_repeat) := ⟨rfl, rfl, rfl, by decide +kernel, rfl, by decide +kernel, by decide +kernel⟩





def sp_look_at_repeat (K : PySem.W.Frag) (A : Ads) : Sp := fun zvs zH Q E => ∃ (B : Hp) (G : Own) (b l n : Int), zvs = [.int b, .int l, .int n] ∧ SI B G zH ∧ ((1 ≤ b ∧ b ≤ n) ∧ 3 ≤ l → N B G (Q .non)) ∧ (¬ ((1 ≤ b ∧ b ≤ n) ∧ 3 ≤ l) → N B G (fun H => E (.ref A.c_NoRepeat) none H))
theorem len_look_at_repeat {K : PySem.W.Frag} {A : Ads} : ∀ vs H Q E, sp_look_at_repeat K A vs H Q E → vs.length = 3 := by
  intro vs H Q E h
  obtain ⟨_, _, _, _, _, rfl, _⟩ := h
  rfl
def t_look_at_repeat (K : PySem.W.Frag) (A : Ads) (E : XK) : TS :=
  (tSeq (tIfS (tOr (tNot (tTest (tChain uLe uLe (tC (.int (1))) (tVar 0) (tVar 2)))) (tTest (tOp uLt (tVar 1) (tC (.int (3))))))
    (tSeq (tRs A.c_NoRepeat (fun cls d _ H => E cls d H))
    tNext)
    tNext)
    tNext)
theorem pure_look_at_repeat {K : PySem.W.Frag} {A : Ads} (T : Fct K A) (vs : List V) (H : Hp) (Q : VK) (E : XK) (h : sp_look_at_repeat K A vs H Q E) : t_look_at_repeat K A E (endE Q) (L2.start N_look_at_repeat vs) H := by
  obtain ⟨B, G, b, l, n, rfl, zs, k, k2⟩ := h
  refine (?_ : N B G (fun H => t_look_at_repeat K A E (endE Q) (L2.start N_look_at_repeat [.int b, .int l, .int n]) H)) H zs
  clear zs
  unfold t_look_at_repeat

  by_cases h : (1 ≤ b ∧ b ≤ n) ∧ 3 ≤ l
  · walk_at "sk stp"
    exact k h
  · walk_at "sk stp"
    exact k2 h
theorem raw_look_at_repeat {P : Program} {w : World} {K : PySem.W.Frag} {mg : Str → Option Value} {base : Heap} {A : Ads} {f : Addr} {fd : FuncData} (F : Fun K "look_at_repeat" "look_at_repeat" s_look_at_repeat f fd) (T : Txt K mg A) : FnOk P w K mg base (CXN P w) 1 f fd ["back", "long", "made"] (sp_look_at_repeat K A) := by
  refine okN F sc_look_at_repeat (fun vs H Q E h => len_look_at_repeat vs H Q E h) (fun cdv Ar outer s H vs Q E hr h => ⟨t_look_at_repeat K A E, ?_, pure_look_at_repeat T.fct vs H Q E h⟩)
  have nd := sc_look_at_repeat.nd
  exact (pss_cons (ps_if (PW.pt (pw_or (pt_not (pt_chain op_uLe op_uLe pe_int (pv 0) (pv 2))) (pw_or1 (pt_cmpR op_uLt (pv 1) (pe_glob (by rfl) T.c_SHORTEST.choose_spec.1 T.c_SHORTEST.choose_spec.2) (nomark _))))) (pss_cons (L2N.ps_raise rfl (L2N.takes_of rfl rfl rfl rfl) (L2N.pmk_own PySem.F.excBase_ValueError T.x_NoRepeat T.g_NoRepeat T.k_NoRepeat (raises_own T.s_NoRepeat T.t_NoRepeat) (by rfl)))
    pss_nil) pss_nil)
    pss_nil)
theorem use_look_at_repeat {K : PySem.W.Frag} {A : Ads} {B : Hp} {G : Own} {Q : VK} {E : XK} {b l n : Int} (zq : (1 ≤ b ∧ b ≤ n) ∧ 3 ≤ l → N B G (Q .non)) (zq2 : ¬ ((1 ≤ b ∧ b ≤ n) ∧ 3 ≤ l) → N B G (fun H => E (.ref A.c_NoRepeat) none H)) : N B G (fun H => sp_look_at_repeat K A [.int b, .int l, .int n] H Q E) := fun zH zs => ⟨B, _, _, _, _, rfl, zs, zq, zq2⟩

abbrev s_laid_out : Stmt := topS 34
abbrev N_laid_out : List Str := ["tokens", "text", "token", "back", "long", "step"]
theorem sc_laid_out : FnScope N_laid_out ["tokens"] (defScope s_laid_out) := ⟨rfl, rfl, rfl, by decide +kernel, rfl, by decide +kernel, by decide +kernel⟩








def sp_laid_out (K : PySem.W.Frag) (A : Ads) : Sp := fun zvs zH Q E => ∃ (B : Hp) (G : Own) (a : Addr) (ws : List V) (ts : List TokZ), zvs = [.ref a] ∧ SI B G zH ∧ (Sq K B G a ws) ∧ (All2 (TokZAt B) ws ts) ∧ (costZ ts ≤ 10000) ∧ (∀ q t, layT [] ts = some t → N B ((q, .lst (t.map V.int)) :: G) (Q (.ref q))) ∧ (layT [] ts = none → N B G (fun H => E (.ref A.c_NoRepeat) none H))
theorem len_laid_out {K : PySem.W.Frag} {A : Ads} : ∀ vs H Q E, sp_laid_out K A vs H Q E → vs.length = 1 := by
  intro vs H Q E h
  obtain ⟨_, _, _, _, _, rfl, _⟩ := h
  rfl
def x_laid_out_0 (K : PySem.W.Frag) (A : Ads) (E : XK) : TS :=
  (tSeq (tFor (iRng1 (tCons (tVar 4) tNil)) (gName 5)
    (tSeq (tDrop (tBM K "list" rAppend (tVar 1) (tCons (tOp (rIx K) (tVar 1) (tUn (rU fun i => .int (-i)) (tVar 3))) tNil)))
    tNext))
    tNext)
instance {K : PySem.W.Frag} {A : Ads} {E : XK} : Unf (x_laid_out_0 K A E) (
  (tSeq (tFor (iRng1 (tCons (tVar 4) tNil)) (gName 5)
    (tSeq (tDrop (tBM K "list" rAppend (tVar 1) (tCons (tOp (rIx K) (tVar 1) (tUn (rU fun i => .int (-i)) (tVar 3))) tNil)))
    tNext))
    tNext)) := ⟨rfl⟩
def x_laid_out_1 (K : PySem.W.Frag) (A : Ads) (E : XK) : TS :=
  (tSeq (tDrop (tCl (sp_look_at_repeat K A) (WE (fun cls d _ H => E cls d H)) (tCons (tVar 3) (tCons (tVar 4) (tCons (tCB (uLen K) (tCons (tVar 1) tNil)) tNil)))))
    (x_laid_out_0 K A E))
instance {K : PySem.W.Frag} {A : Ads} {E : XK} : Unf (x_laid_out_1 K A E) (
  (tSeq (tDrop (tCl (sp_look_at_repeat K A) (WE (fun cls d _ H => E cls d H)) (tCons (tVar 3) (tCons (tVar 4) (tCons (tCB (uLen K) (tCons (tVar 1) tNil)) tNil)))))
    (x_laid_out_0 K A E))) := ⟨rfl⟩
def x_laid_out_2 (K : PySem.W.Frag) (A : Ads) (E : XK) : TS :=
  (tSeq (tIfS (tB (tCl (sp_is_mark K A) (WE (fun cls d _ H => E cls d H)) (tCons (tVar 2) tNil)))
    (tSeq (tDrop (tBM K "list" rAppend (tVar 1) (tCons (tVar 2) tNil)))
    tNext)
    (tSeq (tRs A.c_NoRepeat (fun cls d _ H => E cls d H))
    tNext))
    tNext)
instance {K : PySem.W.Frag} {A : Ads} {E : XK} : Unf (x_laid_out_2 K A E) (
  (tSeq (tIfS (tB (tCl (sp_is_mark K A) (WE (fun cls d _ H => E cls d H)) (tCons (tVar 2) tNil)))
    (tSeq (tDrop (tBM K "list" rAppend (tVar 1) (tCons (tVar 2) tNil)))
    tNext)
    (tSeq (tRs A.c_NoRepeat (fun cls d _ H => E cls d H))
    tNext))
    tNext)) := ⟨rfl⟩
def x_laid_out_3 (K : PySem.W.Frag) (A : Ads) (E : XK) : TS :=
  (tSeq (tIfS (tB (tCB (rIsi K) (tCons (tVar 2) (tCons (tC (.ty "tuple")) tNil))))
    (tSeq (tAsg (tVar 2) (gTup K 2 (gCons (gName 3) (gCons (gName 4) gNil))))
    (x_laid_out_1 K A E))
    (x_laid_out_2 K A E))
    tNext)
instance {K : PySem.W.Frag} {A : Ads} {E : XK} : Unf (x_laid_out_3 K A E) (
  (tSeq (tIfS (tB (tCB (rIsi K) (tCons (tVar 2) (tCons (tC (.ty "tuple")) tNil))))
    (tSeq (tAsg (tVar 2) (gTup K 2 (gCons (gName 3) (gCons (gName 4) gNil))))
    (x_laid_out_1 K A E))
    (x_laid_out_2 K A E))
    tNext)) := ⟨rfl⟩
def t_laid_out (K : PySem.W.Frag) (A : Ads) (E : XK) : TS :=
  (tSeq (tAsg (tLst tNil) (gName 1))
    (tSeq (tFor (iList K (tVar 0)) (gName 2)
    (x_laid_out_3 K A E))
    (tSeq (tRet (tVar 1))
    tNext)))
theorem pure_laid_out {K : PySem.W.Frag} {A : Ads} (T : Fct K A) (vs : List V) (H : Hp) (Q : VK) (E : XK) (h : sp_laid_out K A vs H Q E) : t_laid_out K A E (endE Q) (L2.start N_laid_out vs) H := by
  obtain ⟨B, G, a, ws, ts, rfl, zs, hs, hv, hc, k, k2⟩ := h
  refine (?_ : N B G (fun H => t_laid_out K A E (endE Q) (L2.start N_laid_out [.ref a]) H)) H zs
  clear zs
  unfold t_laid_out

  walk_at "sk stp"
  rename_i q
  refine n_lpA (R := TokZAt) ts (fun i B' σ L => ∃ (t : List Int) (y2 y3 y4 y5 : Option V), σ = [some (.ref a), some (.ref q), y2, y3, y4, y5] ∧ L = (q, .lst (t.map V.int)) :: G ∧ layT [] ts = layT t (ts.drop i) ∧ t.length + costZ (ts.drop i) ≤ 10000) (fun _ _ _ _ => TokZAt.mono) hv ?_ ⟨[], _, _, _, _, rfl, rfl, rfl, by simpa using hc⟩ ?_ ?_
  · rintro i B' σ L sm _ ⟨t, y2, y3, y4, y5, rfl, rfl, _⟩
    exact (hs.mono sm).sub (by walk_at "sk sub")
  · rintro i B' σ L v hi sm ⟨t, y2, y3, y4, y5, rfl, rfl, hlay, hcost⟩ hvi
    have hs' := hs.mono sm
    rw [List.drop_eq_getElem_cons hi] at hlay hcost
    generalize ts[i] = tk at hlay hcost hvi
    cases tk with
    | mark m =>
      cases hvi
      have hcost' : t.length + (1 + costZ (ts.drop (i + 1))) ≤ 10000 := hcost
      by_cases hm : 0 ≤ m ∧ m ≤ 255
      · have e : lay1 t (.mark m) = some (t ++ [m]) := if_pos hm
        rw [layT, e] at hlay
        walk_at "sk stp"
        exact n_kg (Same.refl _) ⟨t ++ [m], _, _, _, _, rfl, rfl, hlay, by rw [List.length_append]; show _ + 1 + _ ≤ _; omega⟩ (.refl _)
      · have e : lay1 t (.mark m) = none := if_neg hm
        rw [layT, e] at hlay
        walk_at "sk stp"
        exact n_tl (n_base sm (k2 hlay))
    | rep b l =>
      obtain ⟨p, rfl, hp⟩ := hvi
      have hcost' : t.length + (l.toNat + costZ (ts.drop (i + 1))) ≤ 10000 := hcost
      by_cases hm : (1 ≤ b ∧ b ≤ t.length) ∧ 3 ≤ l
      · have e : lay1 t (.rep b l) = some (copyN t b.toNat l.toNat) := if_pos hm
        rw [layT, e] at hlay
        walk_at "sk stp"
        refine use_look_at_repeat (fun _ => ?_) (fun h => absurd hm h)
        walk_at "sk stp"
        refine n_lpR1 (fun j σ L => ∃ (y5 : Option V), σ = [some (.ref a), some (.ref q), some (.ref p), some (.int b), some (.int l), y5] ∧ L = (q, .lst ((copyN t b.toNat j).map V.int)) :: G) (by omega) ⟨_, rfl, rfl⟩ ?_ ?_
        · rintro j σ L hj ⟨y5, rfl, rfl⟩
          have hcl := copyN_len t b.toNat j
          walk_at "sk stp"
          exact n_ki ⟨_, rfl, rfl⟩ (.refl _)
        · rintro σ L ⟨y5, rfl, rfl⟩
          have hcl := copyN_len t b.toNat l.toNat
          walk_at "sk stp"
          exact n_kg (Same.refl _) ⟨_, _, _, _, _, rfl, rfl, hlay, by omega⟩ (.refl _)
      · have e : lay1 t (.rep b l) = none := if_neg hm
        rw [layT, e] at hlay
        walk_at "sk stp"
        refine use_look_at_repeat (fun h => absurd h hm) (fun _ => ?_)
        exact n_tl (n_base sm (k2 hlay))
  · rintro B' σ L sm ⟨t, y2, y3, y4, y5, rfl, rfl, hlay, hcost⟩
    rw [List.drop_length] at hlay
    walk_at "sk stp"
    exact n_base sm (k q t hlay)
theorem raw_laid_out {P : Program} {w : World} {K : PySem.W.Frag} {mg : Str → Option Value} {base : Heap} {A : Ads} {f : Addr} {fd : FuncData} (F : Fun K "laid_out" "laid_out" s_laid_out f fd) (T : Txt K mg A) (O_is_mark : OkC P w K mg base CX0 2 "is_mark" ["thing"] (sp_is_mark K A)) (O_look_at_repeat : OkC P w K mg base (CXN P w) 1 "look_at_repeat" ["back", "long", "made"] (sp_look_at_repeat K A)) : FnOk P w K mg base (CXN P w) 3 f fd ["tokens"] (sp_laid_out K A) := by
  refine okN F sc_laid_out (fun vs H Q E h => len_laid_out vs H Q E h) (fun cdv Ar outer s H vs Q E hr h => ⟨t_laid_out K A E, ?_, pure_laid_out T.fct vs H Q E h⟩)
  have nd := sc_laid_out.nd
  exact (pss_cons (ps_set (i := 1) nd rfl (Or.inl rfl) (pe_lst pa_nil))
    (pss_cons (ps_for (passes_of rfl) rfl (pi_list (pv 0)) (pg_name (i := 2) nd rfl (Or.inl rfl))
    (pss_cons (ps_if (pt_val (pe_callB call_isi (by rfl) T.b_isinstance boot_isinstance (pa_cons (pv 2) (pa_cons (pe_bltn (v := .ty "tuple") (by rfl) T.b_tuple boot_tuple rfl) pa_nil)))) (pss_cons (ps_asg (pv 2) (pg_tup rfl (pgs_cons (pg_name (i := 3) nd rfl (Or.inl rfl)) (pgs_cons (pg_name (i := 4) nd rfl (Or.inl rfl)) pgs_nil))))
    (pss_cons (ps_expr (pe_cl (E := WE (fun cls d _ H => E cls d H)) O_look_at_repeat (hr.mono (by decide)) (by rfl) (passN (L2N.takes_of rfl rfl rfl rfl)) (pa_cons (pv 3) (pa_cons (pv 4) (pa_cons (pe_callB call_uLen (by rfl) T.b_len boot_len (pa_cons (pv 1) pa_nil)) pa_nil)))))
    (pss_cons (ps_for (passes_of rfl) rfl (pi_range1 (by rfl) T.b_range (pa_cons (pv 4) pa_nil)) (pg_name (i := 5) nd rfl (Or.inl rfl))
    (pss_cons (ps_expr (pe_bm PySem.F.plainAttrs_list PySem.F.slot_list_append PySem.F.type_list_append mt_append (pv 1) (pa_cons (pe_ix ix_seq (pv 1) (pe_un un_neg (pv 3)) (fun _ _ => rfl)) pa_nil)))
    pss_nil))
    pss_nil))) (pss_cons (ps_if (pt_val (pe_cl (E := WE (fun cls d _ H => E cls d H)) O_is_mark (hr.mono (by decide)) (by rfl) pass00 (pa_cons (pv 2) pa_nil))) (pss_cons (ps_expr (pe_bm PySem.F.plainAttrs_list PySem.F.slot_list_append PySem.F.type_list_append mt_append (pv 1) (pa_cons (pv 2) pa_nil)))
    pss_nil) (pss_cons (L2N.ps_raise rfl (L2N.takes_of rfl rfl rfl rfl) (L2N.pmk_own PySem.F.excBase_ValueError T.x_NoRepeat T.g_NoRepeat T.k_NoRepeat (raises_own T.s_NoRepeat T.t_NoRepeat) (by rfl)))
    pss_nil))
    pss_nil))
    pss_nil))
    (pss_cons (ps_ret (pv 1))
    pss_nil)))
theorem use_laid_out {K : PySem.W.Frag} {A : Ads} {B : Hp} {G : Own} {Q : VK} {E : XK} {a : Addr} {ws : List V} {ts : List TokZ} (hs : Sq K B G a ws) (hv : All2 (TokZAt B) ws ts) (hc : costZ ts ≤ 10000) (zq : ∀ q t, layT [] ts = some t → N B ((q, .lst (t.map V.int)) :: G) (Q (.ref q))) (zq2 : layT [] ts = none → N B G (fun H => E (.ref A.c_NoRepeat) none H)) : N B G (fun H => sp_laid_out K A [.ref a] H Q E) := fun zH zs => ⟨B, _, _, _, _, rfl, zs, hs, hv, hc, zq, zq2⟩

def toZ : Tok' → TokZ
  | .mark m => .mark m
  | .rep b l => .rep b l
theorem TokAt.toZ {B : Hp} {v : V} {t : Tok'} (h : TokAt B v t) : TokZAt B v (toZ t) := by
  cases t with
  | mark m => exact h
  | rep b l => exact h
theorem take_getD {t : List Int} {i : Nat} (h : i < t.length) : t.take (i + 1) = t.take i ++ [t.getD i 0] := by
  rw [take_step h, List.getD_eq_getElem?_getD, List.getElem?_eq_getElem h]; rfl
theorem getD_take {t : List Int} {i n : Nat} (h : i < n) : (t.take n).getD i 0 = t.getD i 0 := by
  rw [List.getD_eq_getElem?_getD, List.getD_eq_getElem?_getD, List.getElem?_take, if_pos h]
theorem copyN_take {t : List Int} {at' b : Nat} (hb : 1 ≤ b) (hb2 : b ≤ at') : ∀ n, n ≤ runN t at' b → copyN (t.take at') b n = t.take (at' + n)
  | 0, _ => rfl
  | n + 1, h => by
    have hr := runN_le t at' b
    have he := runF_eq t b (t.length - at') at' n (by unfold runN at h; omega)
    have hl : (t.take (at' + n)).length = at' + n := List.length_take_of_le (by omega)
    rw [copyN, copyN_take hb hb2 n (by omega), hl, getD_take (by omega), ← he, ← take_getD (by omega)]
    rfl
theorem lay_tok {t : List Int} (ht : IsText t) : ∀ (f at' : Nat), t.length - at' ≤ f → at' ≤ t.length → layT (t.take at') ((tokA t at').map toZ) = some t ∧ costZ ((tokA t at').map toZ) ≤ t.length - at'
  | 0, at', hf, hl => by
    rw [tokA_end (by omega), List.take_of_length_le (by omega)]
    exact ⟨rfl, Nat.zero_le _⟩
  | f + 1, at', hf, hl => by
    by_cases he : at' < t.length
    · have sp := bestN_spec t at' at'
      cases hb : bestN t at' at' with
      | none =>
        rw [tokA_none he hb]
        obtain ⟨h1, h2⟩ := lay_tok ht f (at' + 1) (by omega) (by omega)
        have hg := ht.getD at'
        refine ⟨?_, ?_⟩
        · show (match lay1 (t.take at') (.mark (t.getD at' 0)) with | none => none | some t' => layT t' _) = _
          rw [show lay1 (t.take at') (.mark (t.getD at' 0)) = some (t.take at' ++ [t.getD at' 0]) from if_pos (by omega), ← take_getD he]
          exact h1
        · show 1 + costZ ((tokA t (at' + 1)).map toZ) ≤ _
          omega
      | some xl =>
        obtain ⟨x, l⟩ := xl
        rw [hb] at sp
        obtain ⟨s1, s2, s3, s4, _⟩ := sp
        have hr := runN_le t at' x
        rw [tokA_some he hb]
        obtain ⟨h1, h2⟩ := lay_tok ht f (at' + l) (by omega) (by omega)
        have hlt : (t.take at').length = at' := List.length_take_of_le hl
        refine ⟨?_, ?_⟩
        · show (match lay1 (t.take at') (.rep (x : Int) (l : Int)) with | none => none | some t' => layT t' _) = _
          rw [show lay1 (t.take at') (.rep (x : Int) (l : Int)) = some (copyN (t.take at') (Int.toNat x) (Int.toNat l)) from if_pos (by rw [hlt]; omega), Int.toNat_natCast, Int.toNat_natCast, copyN_take s1 s2 l (by omega)]
          exact h1
        · show (Int.toNat l) + costZ ((tokA t (at' + l)).map toZ) ≤ _
          omega
    · rw [tokA_end (by omega), List.take_of_length_le (by omega)]
      exact ⟨rfl, Nat.zero_le _⟩
theorem lay_tokL {t : List Int} (ht : IsText t) : layT [] ((tokL t).map toZ) = some t ∧ costZ ((tokL t).map toZ) ≤ t.length := by
  have h := lay_tok ht t.length 0 (by omega) (Nat.zero_le _)
  have e : tokA t 0 = tokL t := rfl
  rw [e] at h
  exact h
theorem layT_snoc (x : TokZ) : ∀ (ts : List TokZ) (t0 t1 t2 : List Int), layT t0 ts = some t1 → lay1 t1 x = some t2 → layT t0 (ts ++ [x]) = some t2
  | [], t0, t1, t2, h, e => by
    cases h
    show (match lay1 t0 x with | none => none | some t' => some t') = _
    rw [e]
  | y :: r, t0, t1, t2, h, e => by
    show (match lay1 t0 y with | none => none | some t' => layT t' (r ++ [x])) = _
    have h' : (match lay1 t0 y with | none => none | some t' => layT t' r) = some t1 := h
    cases hy : lay1 t0 y with
    | none => rw [hy] at h'; cases h'
    | some t' => rw [hy] at h'; exact layT_snoc x r t' t1 t2 h' e
theorem costZ_snoc (x : TokZ) : ∀ ts : List TokZ, costZ (ts ++ [x]) = costZ ts + costZ [x]
  | [] => by rw [List.nil_append]; show _ = 0 + _; omega
  | .mark m :: r => by
    show 1 + costZ (r ++ [x]) = 1 + costZ r + _
    rw [costZ_snoc x r]; omega
  | .rep b l :: r => by
    show l.toNat + costZ (r ++ [x]) = l.toNat + costZ r + _
    rw [costZ_snoc x r]; omega
def tokD : TokZ → PyData
  | .mark m => .int m
  | .rep b l => .tuple [.int b, .int l]
theorem TokZAt.da {K : PySem.W.Frag} {B : Hp} {L : Own} {v : V} {t : TokZ} (h : TokZAt B v t) : Da K B L v (tokD t) := by
  cases t with
  | mark m => cases h; exact da_int
  | rep b l =>
    obtain ⟨p, rfl, hp⟩ := h
    exact da_tup (tp_old (SqT.of hp)) (daA_cons da_int (daA_cons da_int daA_nil))
theorem toks_da {K : PySem.W.Frag} {B : Hp} {L : Own} {a : Addr} {vs : List V} {ts : List TokZ} (h : Sq K B L a vs) (hv : All2 (TokZAt B) vs ts) : Da K B L (.ref a) (.list (ts.map tokD)) :=
  da_lst h (daA_of (hv.map tokD fun _ _ x => x.da))
theorem toks_cmp (ts : List TokZ) : Cmp 2 (.list (ts.map tokD)) := Cmp.list (Cmp.map fun t _ => by
  cases t with
  | mark m => exact Cmp.int
  | rep b l => exact Cmp.tuple (k := 0) (fun d hd => by
      rcases List.mem_cons.mp hd with rfl | hd
      · exact Cmp.int
      · rw [List.mem_singleton] at hd; subst hd; exact Cmp.int))
theorem lay_len : ∀ (ts : List TokZ) (t0 t1 : List Int), layT t0 ts = some t1 → t1.length = t0.length + costZ ts
  | [], t0, t1, h => by cases h; rfl
  | .mark m :: r, t0, t1, h => by
    have h' : (match lay1 t0 (.mark m) with | none => none | some t' => layT t' r) = some t1 := h
    by_cases hm : 0 ≤ m ∧ m ≤ 255
    · rw [show lay1 t0 (.mark m) = some (t0 ++ [m]) from if_pos hm] at h'
      have := lay_len r _ _ h'
      rw [List.length_append] at this
      show _ = _ + (1 + costZ r)
      simp only [List.length_cons, List.length_nil] at this
      omega
    · rw [show lay1 t0 (.mark m) = none from if_neg hm] at h'
      cases h'
  | .rep b l :: r, t0, t1, h => by
    have h' : (match lay1 t0 (.rep b l) with | none => none | some t' => layT t' r) = some t1 := h
    by_cases hm : (1 ≤ b ∧ b ≤ t0.length) ∧ 3 ≤ l
    · rw [show lay1 t0 (.rep b l) = some (copyN t0 b.toNat l.toNat) from if_pos hm] at h'
      have := lay_len r _ _ h'
      rw [copyN_len] at this
      show _ = _ + (l.toNat + costZ r)
      omega
    · rw [show lay1 t0 (.rep b l) = none from if_neg hm] at h'
      cases h'
theorem lay_more : ∀ (ts : List TokZ) (t s u : List Int), t.length ≤ s.length → layT t ts = some u → ∃ u', layT s ts = some u'
  | [], t, s, u, hl, h => ⟨s, rfl⟩
  | x :: r, t, s, u, hl, h => by
    have h' : (match lay1 t x with | none => none | some t' => layT t' r) = some u := h
    cases x with
    | mark m =>
      by_cases hm : 0 ≤ m ∧ m ≤ 255
      · rw [show lay1 t (.mark m) = some (t ++ [m]) from if_pos hm] at h'
        obtain ⟨u', e⟩ := lay_more r _ (s ++ [m]) _ (by rw [List.length_append, List.length_append]; omega) h'
        refine ⟨u', ?_⟩
        show (match lay1 s (.mark m) with | none => none | some t' => layT t' r) = some u'
        rw [show lay1 s (.mark m) = some (s ++ [m]) from if_pos hm]
        exact e
      · rw [show lay1 t (.mark m) = none from if_neg hm] at h'
        cases h'
    | rep b l =>
      by_cases hm : (1 ≤ b ∧ b ≤ t.length) ∧ 3 ≤ l
      · rw [show lay1 t (.rep b l) = some (copyN t b.toNat l.toNat) from if_pos hm] at h'
        obtain ⟨u', e⟩ := lay_more r _ (copyN s b.toNat l.toNat) _ (by rw [copyN_len, copyN_len]; omega) h'
        refine ⟨u', ?_⟩
        show (match lay1 s (.rep b l) with | none => none | some t' => layT t' r) = some u'
        rw [show lay1 s (.rep b l) = some (copyN s b.toNat l.toNat) from if_pos (by omega)]
        exact e
      · rw [show lay1 t (.rep b l) = none from if_neg hm] at h'
        cases h'
theorem layT_app : ∀ (ts us : List TokZ) (t : List Int), layT t (ts ++ us) = match layT t ts with | none => none | some t' => layT t' us
  | [], us, t => rfl
  | x :: r, us, t => by
    show (match lay1 t x with | none => none | some t' => layT t' (r ++ us)) = match (match lay1 t x with | none => none | some t' => layT t' r) with | none => none | some t' => layT t' us
    cases lay1 t x with
    | none => rfl
    | some t' => exact layT_app r us t'
theorem costZ_app : ∀ (ts us : List TokZ), costZ (ts ++ us) = costZ ts + costZ us
  | [], us => by rw [List.nil_append]; show _ = 0 + _; omega
  | .mark m :: r, us => by
    show 1 + costZ (r ++ us) = 1 + costZ r + _
    rw [costZ_app r us]; omega
  | .rep b l :: r, us => by
    show l.toNat + costZ (r ++ us) = l.toNat + costZ r + _
    rw [costZ_app r us]; omega
theorem lay_cnt : ∀ (ts : List TokZ) (t0 t1 : List Int), layT t0 ts = some t1 → ts.length ≤ costZ ts
  | [], t0, t1, h => Nat.le_refl _
  | .mark m :: r, t0, t1, h => by
    have h' : (match lay1 t0 (.mark m) with | none => none | some t' => layT t' r) = some t1 := h
    by_cases hm : 0 ≤ m ∧ m ≤ 255
    · rw [show lay1 t0 (.mark m) = some (t0 ++ [m]) from if_pos hm] at h'
      have := lay_cnt r _ _ h'
      show r.length + 1 ≤ 1 + costZ r
      omega
    · rw [show lay1 t0 (.mark m) = none from if_neg hm] at h'
      cases h'
  | .rep b l :: r, t0, t1, h => by
    have h' : (match lay1 t0 (.rep b l) with | none => none | some t' => layT t' r) = some t1 := h
    by_cases hm : (1 ≤ b ∧ b ≤ t0.length) ∧ 3 ≤ l
    · rw [show lay1 t0 (.rep b l) = some (copyN t0 b.toNat l.toNat) from if_pos hm] at h'
      have := lay_cnt r _ _ h'
      show r.length + 1 ≤ l.toNat + costZ r
      omega
    · rw [show lay1 t0 (.rep b l) = none from if_neg hm] at h'
      cases h'



def symT : Tok' → Int
  | .mark m => m
  | .rep _ l => 253 + l
/-- the keys, in the order in which they came -/
def firsts : List Int → List Int
  | [] => []
  | s :: r => firstsGo [s] r
where firstsGo (acc : List Int) : List Int → List Int
  | [] => acc
  | s :: r => if s ∈ acc then firstsGo acc r else firstsGo (acc ++ [s]) r
def fst1 (acc : List Int) (s : Int) : List Int := if s ∈ acc then acc else acc ++ [s]
def fsts (ss : List Int) : List Int := ss.foldl fst1 []
theorem fsts_snoc (ss : List Int) (s : Int) : fsts (ss ++ [s]) = fst1 (fsts ss) s := by
  unfold fsts; rw [List.foldl_append]; rfl
theorem fsts_aux : ∀ (ss acc : List Int), acc.Nodup → (ss.foldl fst1 acc).Nodup ∧ (∀ s, s ∈ ss.foldl fst1 acc ↔ s ∈ acc ∨ s ∈ ss) ∧ (ss.foldl fst1 acc).length ≤ acc.length + ss.length
  | [], acc, h => ⟨h, fun s => by simp, Nat.le_refl _⟩
  | x :: r, acc, h => by
    have h2 : (fst1 acc x).Nodup ∧ (∀ s, s ∈ fst1 acc x ↔ s ∈ acc ∨ s = x) ∧ (fst1 acc x).length ≤ acc.length + 1 := by
      unfold fst1
      split
      · rename_i hm
        exact ⟨h, fun s => ⟨.inl, fun hh => hh.elim id fun e => by rw [e]; exact hm⟩, by omega⟩
      · rename_i hm
        refine ⟨?_, fun s => by simp, by simp⟩
        rw [List.nodup_append]
        refine ⟨h, by simp, fun a ha b hb e => ?_⟩
        rw [List.mem_singleton] at hb
        subst hb; subst e
        exact hm ha
    obtain ⟨a1, a2, a3⟩ := fsts_aux r (fst1 acc x) h2.1
    refine ⟨a1, fun s => ?_, by rw [List.length_cons]; show (r.foldl fst1 (fst1 acc x)).length ≤ _; omega⟩
    rw [List.foldl_cons, a2, h2.2.1, List.mem_cons]
    exact or_assoc
theorem fsts_nodup (ss : List Int) : (fsts ss).Nodup := (fsts_aux ss [] .nil).1
theorem fsts_mem {ss : List Int} {s : Int} : s ∈ fsts ss ↔ s ∈ ss := by
  have := (fsts_aux ss [] .nil).2.1 s
  simpa [fsts] using this
theorem fsts_len (ss : List Int) : (fsts ss).length ≤ ss.length := by
  have := (fsts_aux ss [] .nil).2.2
  simpa [fsts] using this
def cntL (ss : List Int) : List (Int × Int) := (sortI (fsts ss)).map fun s => (s, (ss.count s : Int))
theorem sortI_mem {ns : List Int} {x : Int} : x ∈ sortI ns ↔ x ∈ ns := (sortI_perm ns).mem_iff
theorem sortI_len (ns : List Int) : (sortI ns).length = ns.length := (sortI_perm ns).length_eq
theorem cntL_fst (ss : List Int) : (cntL ss).map (·.1) = sortI (fsts ss) := by
  unfold cntL; rw [List.map_map]
  show (sortI (fsts ss)).map id = _
  rw [List.map_id]
theorem cntL_rise (ss : List Int) : ((cntL ss).map (·.1)).Pairwise (· < ·) := by
  rw [cntL_fst]
  have h1 := sortI_srt (fsts ss)
  have h2 : (sortI (fsts ss)).Nodup := ((sortI_perm _).nodup_iff).mpr (fsts_nodup ss)
  exact (h1.and h2).imp fun h => by
    have := h.1; have := h.2; omega
theorem cntL_len (ss : List Int) : (cntL ss).length ≤ ss.length := by
  unfold cntL; rw [List.length_map, sortI_len]; exact fsts_len ss
theorem cntL_mem {ss : List Int} {c : Int × Int} (h : c ∈ cntL ss) : c.1 ∈ ss ∧ c.2 = ss.count c.1 := by
  obtain ⟨s, hs, rfl⟩ := List.mem_map.mp h
  exact ⟨fsts_mem.mp (sortI_mem.mp hs), rfl⟩
theorem cntL_has {ss : List Int} {s : Int} (h : s ∈ ss) : s ∈ (cntL ss).map (·.1) := by
  rw [cntL_fst]
  exact sortI_mem.mpr (fsts_mem.mpr h)
theorem cntL_pos {ss : List Int} (h : ss ≠ []) : 1 ≤ (cntL ss).length := by
  cases ss with
  | nil => exact absurd rfl h
  | cons s r =>
    have := cntL_has (ss := s :: r) List.mem_cons_self
    rw [List.mem_map] at this
    obtain ⟨c, hc, _⟩ := this
    exact List.length_pos_of_mem hc
def tabR (due : Int) : List (Int × Int) → List Int
  | [] => []
  | c :: r => halvL (c.1 - due) ++ halvL (c.2 - 1) ++ tabR (c.1 + 1) r
def tableB (cs : List (Int × Int)) : List Int := halvL (cs.length - 1) ++ tabR 0 cs
def backB : Tok' → List Int
  | .mark _ => []
  | .rep b _ => bitsN b 6
def tokB (X : List (Int × Int × Int)) (ts : List Tok') : List Int := ts.flatMap fun t => cdF X (symT t) ++ backB t
def lensX (xs : List Int) : List (Int × Int) := lensL (cntL ((tokL xs).map symT))
def packedB (xs : List Int) : List Int := [1] ++ halvL (xs.length - 1) ++ tableB (lensX xs) ++ tokB (codesX (lensX xs)) (tokL xs)
def packedL (xs : List Int) : List Int := laidL (packedB xs)
abbrev s_symbol_of : Stmt := topS 42
abbrev N_symbol_of : List Str := ["token"]
theorem sc_symbol_of : FnScope N_symbol_of ["token"] (defScope s_symbol_of) := ⟨rfl, rfl, rfl, by decide +kernel, rfl, by decide +kernel, by decide +kernel⟩





def sp_symbol_of (K : PySem.W.Frag) (A : Ads) : Sp := fun zvs zH Q E => ∃ (B : Hp) (G : Own) (v : V) (t : Tok'), zvs = [v] ∧ SI B G zH ∧ (TokAt B v t) ∧ (N B G (Q (.int (symT t))))
theorem len_symbol_of {K : PySem.W.Frag} {A : Ads} : ∀ vs H Q E, sp_symbol_of K A vs H Q E → vs.length = 1 := by
  intro vs H Q E h
  obtain ⟨_, _, _, _, rfl, _⟩ := h
  rfl
def t_symbol_of (K : PySem.W.Frag) (A : Ads) (E : XK) : TS :=
  (tSeq (tIfS (tB (tCB (rIsi K) (tCons (tVar 0) (tCons (tC (.ty "tuple")) tNil))))
    (tSeq (tRet (tOp (uAdd K) (tC (.int (253))) (tOp (rIx K) (tVar 0) (tC (.int (1))))))
    tNext)
    tNext)
    (tSeq (tRet (tVar 0))
    tNext))
theorem pure_symbol_of {K : PySem.W.Frag} {A : Ads} (T : Fct K A) (vs : List V) (H : Hp) (Q : VK) (E : XK) (h : sp_symbol_of K A vs H Q E) : t_symbol_of K A E (endE Q) (L2.start N_symbol_of vs) H := by
  obtain ⟨B, G, v, t, rfl, zs, hv, k⟩ := h
  refine (?_ : N B G (fun H => t_symbol_of K A E (endE Q) (L2.start N_symbol_of [v]) H)) H zs
  clear zs
  unfold t_symbol_of

  cases t with
  | mark m =>
    cases hv
    walk_at "sk stp"
    exact k
  | rep b l =>
    obtain ⟨p, rfl, hp⟩ := hv
    walk_at "sk stp"
    exact k
theorem raw_symbol_of {P : Program} {w : World} {K : PySem.W.Frag} {mg : Str → Option Value} {base : Heap} {A : Ads} {f : Addr} {fd : FuncData} (F : Fun K "symbol_of" "symbol_of" s_symbol_of f fd) (T : Txt K mg A) : FnOk P w K mg base CX0 1 f fd ["token"] (sp_symbol_of K A) := by
  refine F.ok sc_symbol_of (fun vs H Q E h => len_symbol_of vs H Q E h) (fun cdv Ar outer s H vs Q E hr h => ⟨t_symbol_of K A E, PSs.nox ?_, pure_symbol_of T.fct vs H Q E h⟩)
  have nd := sc_symbol_of.nd
  exact (pss_cons (ps_if (pt_val (pe_callB call_isi (by rfl) T.b_isinstance boot_isinstance (pa_cons (pv 0) (pa_cons (pe_bltn (v := .ty "tuple") (by rfl) T.b_tuple boot_tuple rfl) pa_nil)))) (pss_cons (ps_ret (pe_op op_uAdd (pe_glob (by rfl) T.c_LONGER.choose_spec.1 T.c_LONGER.choose_spec.2) (pe_ix ix_seq (pv 0) pe_int (fun _ _ => rfl))))
    pss_nil) pss_nil)
    (pss_cons (ps_ret (pv 0))
    pss_nil))
theorem use_symbol_of {K : PySem.W.Frag} {A : Ads} {B : Hp} {G : Own} {Q : VK} {E : XK} {v : V} {t : Tok'} (hv : TokAt B v t) (zq : N B G (Q (.int (symT t)))) : N B G (fun H => sp_symbol_of K A [v] H Q E) := fun zH zs => ⟨B, _, _, _, rfl, zs, hv, zq⟩
local macro_rules | `(tactic| walk_at "sk st") => `(tactic| with_reducible (apply use_symbol_of; (next => with_unfolding_all walk_at "sk sd"); (skip)))

abbrev s_counts_of : Stmt := topS 43
abbrev N_counts_of : List Str := ["tokens", "found", "token", "symbol"]
theorem sc_counts_of : FnScope N_counts_of ["tokens"] (defScope s_counts_of) := ⟨rfl, rfl, rfl, by decide +kernel, rfl, by decide +kernel, by decide +kernel⟩







def sp_counts_of (K : PySem.W.Frag) (A : Ads) : Sp := fun zvs zH Q E => ∃ (B : Hp) (G : Own) (a : Addr) (vs : List V) (ts : List Tok'), zvs = [.ref a] ∧ SI B G zH ∧ (Sq K B G a vs) ∧ (All2 (TokAt B) vs ts) ∧ (ts.length ≤ 60) ∧ (∀ B' q ws, Same B B' → All2 (PairAt B') ws (cntL (ts.map symT)) → N B' ((q, .lst ws) :: G) (Q (.ref q)))
theorem len_counts_of {K : PySem.W.Frag} {A : Ads} : ∀ vs H Q E, sp_counts_of K A vs H Q E → vs.length = 1 := by
  intro vs H Q E h
  obtain ⟨_, _, _, _, _, rfl, _⟩ := h
  rfl
def x_counts_of_0 (K : PySem.W.Frag) (A : Ads) (E : XK) : TS :=
  (tSeq (tRet (tLc (iList K (tCB rSortedDI (tCons (tVar 1) tNil))) (gName 3) tYes (tTup (tCons (tVar 3) (tCons (tDGet (tVar 1) (tVar 3)) tNil))) [3]))
    tNext)
instance {K : PySem.W.Frag} {A : Ads} {E : XK} : Unf (x_counts_of_0 K A E) (
  (tSeq (tRet (tLc (iList K (tCB rSortedDI (tCons (tVar 1) tNil))) (gName 3) tYes (tTup (tCons (tVar 3) (tCons (tDGet (tVar 1) (tVar 3)) tNil))) [3]))
    tNext)) := ⟨rfl⟩
def x_counts_of_1 (K : PySem.W.Frag) (A : Ads) (E : XK) : TS :=
  (tSeq (tFor (iList K (tVar 0)) (gName 2)
    (tSeq (tAsg (tCl (sp_symbol_of K A) (WE W0) (tCons (tVar 2) tNil)) (gName 3))
    (tSeq (sDPut (tVar 1) (tVar 3) (tOp (uAdd K) (tDGet2 (tVar 1) (tVar 3) (tC (.int (0)))) (tC (.int (1)))))
    tNext)))
    (x_counts_of_0 K A E))
instance {K : PySem.W.Frag} {A : Ads} {E : XK} : Unf (x_counts_of_1 K A E) (
  (tSeq (tFor (iList K (tVar 0)) (gName 2)
    (tSeq (tAsg (tCl (sp_symbol_of K A) (WE W0) (tCons (tVar 2) tNil)) (gName 3))
    (tSeq (sDPut (tVar 1) (tVar 3) (tOp (uAdd K) (tDGet2 (tVar 1) (tVar 3) (tC (.int (0)))) (tC (.int (1)))))
    tNext)))
    (x_counts_of_0 K A E))) := ⟨rfl⟩
def t_counts_of (K : PySem.W.Frag) (A : Ads) (E : XK) : TS :=
  (tSeq (tAsg tDNewK (gName 1))
    (x_counts_of_1 K A E))
theorem pure_counts_of {K : PySem.W.Frag} {A : Ads} (T : Fct K A) (vs : List V) (H : Hp) (Q : VK) (E : XK) (h : sp_counts_of K A vs H Q E) : t_counts_of K A E (endE Q) (L2.start N_counts_of vs) H := by
  obtain ⟨B, G, a, vs, ts, rfl, zs, ha, hv, hl, k⟩ := h
  refine (?_ : N B G (fun H => t_counts_of K A E (endE Q) (L2.start N_counts_of [.ref a]) H)) H zs
  clear zs
  unfold t_counts_of

  have hvl := hv.len
  walk_at "sk stp"
  rename_i fo
  refine n_lpP ts (fun i σ L => ∃ (y2 y3 : Option V), σ = [some (.ref a), some (.ref fo), y2, y3] ∧ L = (fo, .dK (dI (deepD (fsts ((ts.take i).map symT)) fun s => (((ts.take i).map symT).count s : Nat)))) :: G) hv ?_ ⟨_, _, rfl, rfl⟩ ?_ ?_
  · rintro i σ L _ ⟨y2, y3, rfl, rfl⟩
    exact ha.sub (by walk_at "sk sub")
  · rintro i σ L v hi ⟨y2, y3, rfl, rfl⟩ htv
    have hfl := fsts_len ((ts.take i).map symT)
    rw [List.length_map, List.length_take] at hfl
    have e1 : (ts.take (i + 1)).map symT = (ts.take i).map symT ++ [symT ts[i]] := by rw [take_step hi, List.map_append]; rfl
    rw [e1, fsts_snoc]
    generalize ts[i] = t at *
    have hmf := fsts_mem (ss := (ts.take i).map symT) (s := symT t)
    generalize (ts.take i).map symT = ss at *
    walk_at "sk stp"
    rw [valV_dI]
    have hg : (getI (deepD (fsts ss) fun s => (ss.count s : Nat)) (symT t)).getD (.int 0) = .int (ss.count (symT t) : Nat) := by
      by_cases h : symT t ∈ fsts ss
      · rw [getI_fn h]; rfl
      · rw [getI_none (by rw [List.map_map]; simpa using h), List.count_eq_zero.mpr (fun hh => h (hmf.mpr hh))]; rfl
    rw [hg]
    walk_at "sk stp"
    rw [putK_dI]
    have e2 : putI (deepD (fsts ss) fun s => (ss.count s : Nat)) (symT t) (.int (ss.count (symT t) + 1)) = deepD (fst1 (fsts ss) (symT t)) fun s => ((ss ++ [symT t]).count s : Nat) := by
      have ec : ∀ x, ((ss ++ [symT t]).count x : Int) = if x = symT t then (ss.count (symT t) : Int) + 1 else (ss.count x : Int) := fun x => by
        rw [List.count_append]
        by_cases e : x = symT t
        · subst e; rw [if_pos rfl]; simp
        · rw [if_neg e]
          have : List.count x [symT t] = 0 := List.count_eq_zero.mpr (by simpa using e)
          omega
      unfold fst1
      by_cases h : symT t ∈ fsts ss
      · rw [if_pos h, putI_fn h]
        refine List.map_congr_left fun x _ => ?_
        dsimp only
        rw [ec]
      · rw [if_neg h, putI_new (by rw [List.map_map]; simpa using h)]
        show _ = List.map _ (fsts ss ++ [symT t])
        rw [List.map_append]
        congr 1
        · refine List.map_congr_left fun x hx => ?_
          dsimp only
          rw [ec, if_neg (fun e => h (by rw [← e]; exact hx))]
        · show [(symT t, V.int (ss.count (symT t) + 1))] = [(symT t, V.int ((ss ++ [symT t]).count (symT t) : Nat))]
          rw [ec, if_pos rfl]
    rw [e2]
    exact n_ki ⟨_, _, rfl, rfl⟩ (.refl _)
  rintro σ L ⟨y2, y3, rfl, rfl⟩
  rw [List.take_length]
  have hfl := fsts_len (ts.map symT)
  rw [List.length_map] at hfl
  have hkm : (deepD (fsts (ts.map symT)) fun s => ((ts.map symT).count s : Nat)).map (·.1) = fsts (ts.map symT) := List.map_map.trans ((List.map_congr_left fun x _ => rfl).trans (List.map_id _))
  walk_at "sk stp"
  refine n_sortDI (is_own 0 rfl) (by rw [List.length_map]; omega) fun sp => ?_
  rw [hkm]
  have hcl : (cntL (ts.map symT)).length = (sortI (fsts (ts.map symT))).length := List.length_map _
  have hsl := sortI_len (fsts (ts.map symT))
  have hsm : ∀ x ∈ sortI (fsts (ts.map symT)), x ∈ fsts (ts.map symT) := fun x hx => sortI_mem.mp hx
  have hce : cntL (ts.map symT) = (sortI (fsts (ts.map symT))).map fun s => (s, ((ts.map symT).count s : Int)) := rfl
  generalize cntL (ts.map symT) = cn at *
  generalize sortI (fsts (ts.map symT)) = ks at *
  refine n_lcLB (ks.map V.int) (fun i B' acc L => All2 (PairAt B') acc (cn.take i) ∧ L = (sp, .lst (ks.map V.int)) :: (fo, .dK (dI (deepD (fsts (ts.map symT)) fun s => ((ts.map symT).count s : Nat)))) :: G) (fun i B' acc L sm _ h => by rw [h.2]; walk_at "sk sq") ⟨.nil, rfl⟩ ?_ ?_
  · rintro i B' acc L D hi sm ⟨hacc, rfl⟩
    rw [List.length_map] at hi
    have hal := hacc.len
    rw [List.length_take] at hal
    have hgt := (valV_dI ks[i] (deepD (fsts (ts.map symT)) fun s => ((ts.map symT).count s : Nat))).trans (getI_fn (hsm _ (List.getElem_mem hi)))
    have e7 : cn[i]'(by omega) = (ks[i], ((ts.map symT).count ks[i] : Int)) := by
      subst hce; exact List.getElem_map ..
    rw [take_step (show i < cn.length by omega), e7, List.getElem_map]
    walk_at "sk stp"
    rename_i tp
    refine n_freeze 0 rfl fun B2 sm2 htp => ?_
    refine n_putB sm2 [] rfl (by rw [sizeLine_eq]; omega) ⟨(pairs_mono hacc sm2).snoc ⟨tp, rfl, htp⟩, rfl⟩ (.refl _)
  rintro B2 ws L D sm2 ⟨hw, rfl⟩
  rw [List.length_map, List.take_of_length_le (by omega)] at hw
  exact n_sub (by walk_at "sk sub") (k B2 D ws sm2 hw)
theorem raw_counts_of {P : Program} {w : World} {K : PySem.W.Frag} {mg : Str → Option Value} {base : Heap} {A : Ads} {f : Addr} {fd : FuncData} (F : Fun K "counts_of" "counts_of" s_counts_of f fd) (T : Txt K mg A) (O_symbol_of : OkC P w K mg base CX0 1 "symbol_of" ["token"] (sp_symbol_of K A)) : FnOk P w K mg base CX0 2 f fd ["tokens"] (sp_counts_of K A) := by
  refine F.ok sc_counts_of (fun vs H Q E h => len_counts_of vs H Q E h) (fun cdv Ar outer s H vs Q E hr h => ⟨t_counts_of K A E, PSs.nox ?_, pure_counts_of T.fct vs H Q E h⟩)
  have nd := sc_counts_of.nd
  exact (pss_cons (ps_set (i := 1) nd rfl (Or.inr rfl) pe_dnewK)
    (pss_cons (ps_for PassesOwn.never rfl (pi_list (pv 0)) (pg_name (i := 2) nd rfl (Or.inl rfl))
    (pss_cons (ps_set (i := 3) nd rfl (Or.inl rfl) (pe_cl (E := WE W0) O_symbol_of (hr.mono (by decide)) (by rfl) pass00 (pa_cons (pv 2) pa_nil)))
    (pss_cons (ps_dput (hu_of hr) (pv 1) (pv 3) (pe_op op_uAdd (pe_dget2 (hu_of hr) (pv 1) (pv 3) pe_int ⟨rfl, rfl, rfl, rfl⟩) pe_int) rfl)
    pss_nil)))
    (pss_cons (ps_ret (pe_lc (own := [("symbol", 3)]) (by rfl) nd (pi_list (pe_callB (cr_sortedDI rfl) (by rfl) T.b_sorted boot_sorted (pa_cons (pv 1) pa_nil))) (blkOk_by (N := N_counts_of) (sc := defScope s_counts_of) (own := [("symbol", 3)]) (by decide +kernel)) (fun _ _ _ _ _ => (pg_name (i := 3) nd rfl (Or.inl rfl))) (fun _ _ _ _ _ => pts_nil) (fun _ _ _ _ _ => (pe_tup (pa_cons (pv 3) (pa_cons (pe_dget (hu_of hr) (pv 1) (pv 3) (fun _ _ => rfl)) pa_nil))))))
    pss_nil)))
theorem use_counts_of {K : PySem.W.Frag} {A : Ads} {B : Hp} {G : Own} {Q : VK} {E : XK} {a : Addr} {vs : List V} {ts : List Tok'} (ha : Sq K B G a vs) (hv : All2 (TokAt B) vs ts) (hl : ts.length ≤ 60) (zq : ∀ B' q ws, Same B B' → All2 (PairAt B') ws (cntL (ts.map symT)) → N B' ((q, .lst ws) :: G) (Q (.ref q))) : N B G (fun H => sp_counts_of K A [.ref a] H Q E) := fun zH zs => ⟨B, _, _, _, _, rfl, zs, ha, hv, hl, zq⟩

abbrev s_table_bits : Stmt := topS 44
abbrev N_table_bits : List Str := ["lengths", "bits", "due", "symbol", "length"]
theorem sc_table_bits : FnScope N_table_bits ["lengths"] (defScope s_table_bits) := ⟨rfl, rfl, rfl, by decide +kernel, rfl, by decide +kernel, by decide +kernel⟩









def sp_table_bits (K : PySem.W.Frag) (A : Ads) : Sp := fun zvs zH Q E => ∃ (B : Hp) (G : Own) (a : Addr) (vs : List V) (cs : List (Int × Int)), zvs = [.ref a] ∧ SI B G zH ∧ (Sq K B G a vs) ∧ (All2 (PairAt B) vs cs) ∧ (LensOk cs) ∧ (cs.length ≤ 60) ∧ (∀ c ∈ cs, c.1 ≤ 400) ∧ (∀ q, N B ((q, .lst ((tableB cs).map V.int)) :: G) (Q (.ref q)))
theorem len_table_bits {K : PySem.W.Frag} {A : Ads} : ∀ vs H Q E, sp_table_bits K A vs H Q E → vs.length = 1 := by
  intro vs H Q E h
  obtain ⟨_, _, _, _, _, rfl, _⟩ := h
  rfl
def x_table_bits_0 (K : PySem.W.Frag) (A : Ads) (E : XK) : TS :=
  (tSeq (tAsg (tOp (uAdd K) (tOp (uAdd K) (tVar 1) (tCl (sp_halves K A) (WE W0) (tCons (tOp uSub (tVar 3) (tVar 2)) tNil))) (tCl (sp_halves K A) (WE W0) (tCons (tOp uSub (tVar 4) (tC (.int (1)))) tNil))) (gName 1))
    (tSeq (tAsg (tOp (uAdd K) (tVar 3) (tC (.int (1)))) (gName 2))
    tNext))
instance {K : PySem.W.Frag} {A : Ads} {E : XK} : Unf (x_table_bits_0 K A E) (
  (tSeq (tAsg (tOp (uAdd K) (tOp (uAdd K) (tVar 1) (tCl (sp_halves K A) (WE W0) (tCons (tOp uSub (tVar 3) (tVar 2)) tNil))) (tCl (sp_halves K A) (WE W0) (tCons (tOp uSub (tVar 4) (tC (.int (1)))) tNil))) (gName 1))
    (tSeq (tAsg (tOp (uAdd K) (tVar 3) (tC (.int (1)))) (gName 2))
    tNext))) := ⟨rfl⟩
def x_table_bits_1 (K : PySem.W.Frag) (A : Ads) (E : XK) : TS :=
  (tSeq (tFor (iList K (tVar 0)) (gTup K 2 (gCons (gName 3) (gCons (gName 4) gNil)))
    (x_table_bits_0 K A E))
    (tSeq (tRet (tVar 1))
    tNext))
instance {K : PySem.W.Frag} {A : Ads} {E : XK} : Unf (x_table_bits_1 K A E) (
  (tSeq (tFor (iList K (tVar 0)) (gTup K 2 (gCons (gName 3) (gCons (gName 4) gNil)))
    (x_table_bits_0 K A E))
    (tSeq (tRet (tVar 1))
    tNext))) := ⟨rfl⟩
def t_table_bits (K : PySem.W.Frag) (A : Ads) (E : XK) : TS :=
  (tSeq (tAsg (tCl (sp_halves K A) (WE W0) (tCons (tOp uSub (tCB (uLen K) (tCons (tVar 0) tNil)) (tC (.int (1)))) tNil)) (gName 1))
    (tSeq (tAsg (tC (.int (0))) (gName 2))
    (x_table_bits_1 K A E)))
theorem pure_table_bits {K : PySem.W.Frag} {A : Ads} (T : Fct K A) (vs : List V) (H : Hp) (Q : VK) (E : XK) (h : sp_table_bits K A vs H Q E) : t_table_bits K A E (endE Q) (L2.start N_table_bits vs) H := by
  obtain ⟨B, G, a, vs, cs, rfl, zs, ha, hv, hok, hl, hsy, k⟩ := h
  refine (?_ : N B G (fun H => t_table_bits K A E (endE Q) (L2.start N_table_bits [.ref a]) H)) H zs
  clear zs
  unfold t_table_bits

  have hvl := hv.len
  obtain ⟨hok1, hok2, hok3⟩ := id hok
  have hne : 0 < cs.length := List.length_pos_iff.mpr hok1
  walk_at "sk stp"
  refine use_halves (by omega) fun p => ?_
  show N B ((p, .lst ((halvL _).map V.int)) :: _) _
  rw [hvl]
  have hhl := halvL_len (n := (cs.length : Int) - 1) (k := 10) (by omega) (by show (cs.length : Int) - 1 + 1 < 1024; omega)
  walk_at "sk stp"
  refine n_lpP cs (fun i σ L => ∃ (pb : Addr) (due : Int) (T : List Int) (y3 y4 : Option V), σ = [some (.ref a), some (.ref pb), some (.int due), y3, y4] ∧ L = (pb, .lst ((halvL (cs.length - 1) ++ T).map V.int)) :: G ∧ T ++ tabR due (cs.drop i) = tabR 0 cs ∧ lensRun (due - 1) (cs.drop i) ∧ 0 ≤ due ∧ T.length ≤ 40 * i) hv ?_ ⟨p, 0, [], _, _, rfl, by rw [List.append_nil], rfl, (show lensRun (0 - 1) cs by rw [show (0 : Int) - 1 = -1 from rfl]; exact hok2), Int.le_refl _, Nat.zero_le _⟩ ?_ ?_
  · rintro i σ L _ ⟨pb, due, T, y3, y4, rfl, rfl, _⟩
    exact ha.sub (by walk_at "sk sub")
  · rintro i σ L v hi ⟨pb, due, T, y3, y4, rfl, rfl, hT, hrun, hd0, hTl⟩ ⟨pp, rfl, hp⟩
    rw [List.drop_eq_getElem_cons hi] at hT hrun
    obtain ⟨r1, r2, r3, r4⟩ := hrun
    have hcy := hsy _ (List.getElem_mem hi)
    generalize cs[i] = c at *
    have h1 := halvL_len (n := c.1 - due) (k := 10) (by omega) (by show c.1 - due + 1 < 1024; omega)
    have h2 := halvL_len (n := c.2 - 1) (k := 7) (by omega) (by show c.2 - 1 + 1 < 128; omega)
    walk_at "sk stp"
    refine use_halves (by omega) fun p1 => ?_
    show N B ((p1, .lst ((halvL _).map V.int)) :: _) _
    walk_at "sk stp"
    refine use_halves (by omega) fun p3 => ?_
    show N B ((p3, .lst ((halvL _).map V.int)) :: _) _
    walk_at "sk stp"
    rename_i p2 p4
    have e : halvL ((cs.length : Int) - 1) ++ T ++ halvL (c.1 - due) ++ halvL (c.2 - 1) = halvL ((cs.length : Int) - 1) ++ (T ++ (halvL (c.1 - due) ++ halvL (c.2 - 1))) := by simp
    rw [e]
    refine n_ki ⟨p4, c.1 + 1, _, _, _, rfl, rfl, ?_, by rw [show c.1 + 1 - 1 = c.1 by omega]; exact r4, by omega, ?_⟩ (by walk_at "sk sub")
    · rw [← hT, tabR, List.append_assoc]
    · rw [List.length_append, List.length_append]; omega
  · rintro σ L ⟨pb, due, T, y3, y4, rfl, rfl, hT, _⟩
    rw [List.drop_length, tabR, List.append_nil] at hT
    subst hT
    walk_at "sk stp"
    exact k pb
theorem raw_table_bits {P : Program} {w : World} {K : PySem.W.Frag} {mg : Str → Option Value} {base : Heap} {A : Ads} {f : Addr} {fd : FuncData} (F : Fun K "table_bits" "table_bits" s_table_bits f fd) (T : Txt K mg A) (O_halves : OkC P w K mg base CX0 2 "halves" ["number"] (sp_halves K A)) : FnOk P w K mg base CX0 3 f fd ["lengths"] (sp_table_bits K A) := by
  refine F.ok sc_table_bits (fun vs H Q E h => len_table_bits vs H Q E h) (fun cdv Ar outer s H vs Q E hr h => ⟨t_table_bits K A E, PSs.nox ?_, pure_table_bits T.fct vs H Q E h⟩)
  have nd := sc_table_bits.nd
  exact (pss_cons (ps_set (i := 1) nd rfl (Or.inl rfl) (pe_cl (E := WE W0) O_halves (hr.mono (by decide)) (by rfl) pass00 (pa_cons (pe_op op_uSub (pe_callB call_uLen (by rfl) T.b_len boot_len (pa_cons (pv 0) pa_nil)) pe_int) pa_nil)))
    (pss_cons (ps_set (i := 2) nd rfl (Or.inl rfl) pe_int)
    (pss_cons (ps_for PassesOwn.never rfl (pi_list (pv 0)) (pg_tup rfl (pgs_cons (pg_name (i := 3) nd rfl (Or.inl rfl)) (pgs_cons (pg_name (i := 4) nd rfl (Or.inl rfl)) pgs_nil)))
    (pss_cons (ps_set (i := 1) nd rfl (Or.inl rfl) (pe_op op_uAdd (pe_op op_uAdd (pv 1) (pe_cl (E := WE W0) O_halves (hr.mono (by decide)) (by rfl) pass00 (pa_cons (pe_op op_uSub (pv 3) (pv 2)) pa_nil))) (pe_cl (E := WE W0) O_halves (hr.mono (by decide)) (by rfl) pass00 (pa_cons (pe_op op_uSub (pv 4) pe_int) pa_nil))))
    (pss_cons (ps_set (i := 2) nd rfl (Or.inl rfl) (pe_op op_uAdd (pv 3) pe_int))
    pss_nil)))
    (pss_cons (ps_ret (pv 1))
    pss_nil))))
theorem use_table_bits {K : PySem.W.Frag} {A : Ads} {B : Hp} {G : Own} {Q : VK} {E : XK} {a : Addr} {vs : List V} {cs : List (Int × Int)} (ha : Sq K B G a vs) (hv : All2 (PairAt B) vs cs) (hok : LensOk cs) (hl : cs.length ≤ 60) (hsy : ∀ c ∈ cs, c.1 ≤ 400) (zq : ∀ q, N B ((q, .lst ((tableB cs).map V.int)) :: G) (Q (.ref q))) : N B G (fun H => sp_table_bits K A [.ref a] H Q E) := fun zH zs => ⟨B, _, _, _, _, rfl, zs, ha, hv, hok, hl, hsy, zq⟩

theorem tokB_snoc (X : List (Int × Int × Int)) (ts : List Tok') (t : Tok') : tokB X (ts ++ [t]) = tokB X ts ++ (cdF X (symT t) ++ backB t) := by
  unfold tokB; rw [List.flatMap_append]; simp
theorem tokB_len {cs : List (Int × Int)} (hok : LensOk cs) : ∀ {ts : List Tok'}, (∀ t ∈ ts, symT t ∈ cs.map (·.1)) → (tokB (codesX cs) ts).length ≤ 66 * ts.length
  | [], _ => Nat.le_refl _
  | t :: r, h => by
    have ih := tokB_len hok (ts := r) fun x hx => h x (List.mem_cons_of_mem _ hx)
    obtain ⟨c, hc, e⟩ := List.mem_map.mp (h t List.mem_cons_self)
    have h1 := cdF_len hok hc
    have h2 := ((lensRun_all hok.2.1).1 c hc).2.2
    have h3 : (backB t).length ≤ 6 := by
      cases t with
      | mark m => exact Nat.zero_le _
      | rep b l => unfold backB; rw [bitsN_len]; exact Nat.le_refl _
    show ((cdF (codesX cs) (symT t) ++ backB t) ++ tokB (codesX cs) r).length ≤ _
    rw [List.length_append, List.length_append, ← e, h1, List.length_cons]
    omega
abbrev s_token_bits : Stmt := topS 45
abbrev N_token_bits : List Str := ["tokens", "lengths", "codes", "symbol", "code", "bits", "token"]
theorem sc_token_bits : FnScope N_token_bits ["tokens", "lengths"] (defScope s_token_bits) := ⟨rfl, rfl, rfl, by decide +kernel, rfl, by decide +kernel, by decide +kernel⟩











def sp_token_bits (K : PySem.W.Frag) (A : Ads) : Sp := fun zvs zH Q E => ∃ (B : Hp) (G : Own) (a c : Addr) (vs ws : List V) (ts : List Tok') (cs : List (Int × Int)), zvs = [.ref a, .ref c] ∧ SI B G zH ∧ (Sq K B G a vs) ∧ (All2 (TokAt B) vs ts) ∧ (Sq K B G c ws) ∧ (All2 (PairAt B) ws cs) ∧ (LensOk cs) ∧ (cs.length ≤ 60 ∧ ts.length ≤ 60) ∧ (∀ t ∈ ts, symT t ∈ cs.map (·.1)) ∧ (∀ B' q, Same B B' → N B' ((q, .lst ((tokB (codesX cs) ts).map V.int)) :: G) (Q (.ref q)))
theorem len_token_bits {K : PySem.W.Frag} {A : Ads} : ∀ vs H Q E, sp_token_bits K A vs H Q E → vs.length = 2 := by
  intro vs H Q E h
  obtain ⟨_, _, _, _, _, _, _, _, rfl, _⟩ := h
  rfl
def x_token_bits_0 (K : PySem.W.Frag) (A : Ads) (E : XK) : TS :=
  (tSeq (tDrop (tBM K "list" rExtend (tVar 5) (tCons (tCl (sp_bits_of K A) (WE (fun cls d _ H => E cls d H)) (tCons (tOp (rIx K) (tVar 6) (tC (.int (0)))) (tCons (tC (.int (6))) tNil))) tNil)))
    tNext)
instance {K : PySem.W.Frag} {A : Ads} {E : XK} : Unf (x_token_bits_0 K A E) (
  (tSeq (tDrop (tBM K "list" rExtend (tVar 5) (tCons (tCl (sp_bits_of K A) (WE (fun cls d _ H => E cls d H)) (tCons (tOp (rIx K) (tVar 6) (tC (.int (0)))) (tCons (tC (.int (6))) tNil))) tNil)))
    tNext)) := ⟨rfl⟩
def x_token_bits_1 (K : PySem.W.Frag) (A : Ads) (E : XK) : TS :=
  (tSeq (tIfS (tB (tCB (rIsi K) (tCons (tVar 6) (tCons (tC (.ty "tuple")) tNil))))
    (x_token_bits_0 K A E)
    tNext)
    tNext)
instance {K : PySem.W.Frag} {A : Ads} {E : XK} : Unf (x_token_bits_1 K A E) (
  (tSeq (tIfS (tB (tCB (rIsi K) (tCons (tVar 6) (tCons (tC (.ty "tuple")) tNil))))
    (x_token_bits_0 K A E)
    tNext)
    tNext)) := ⟨rfl⟩
def x_token_bits_2 (K : PySem.W.Frag) (A : Ads) (E : XK) : TS :=
  (tSeq (tFor (iList K (tVar 0)) (gName 6)
    (tSeq (tDrop (tBM K "list" rExtend (tVar 5) (tCons (tDGet (tVar 2) (tCl (sp_symbol_of K A) (WE (fun cls d _ H => E cls d H)) (tCons (tVar 6) tNil))) tNil)))
    (x_token_bits_1 K A E)))
    (tSeq (tRet (tVar 5))
    tNext))
instance {K : PySem.W.Frag} {A : Ads} {E : XK} : Unf (x_token_bits_2 K A E) (
  (tSeq (tFor (iList K (tVar 0)) (gName 6)
    (tSeq (tDrop (tBM K "list" rExtend (tVar 5) (tCons (tDGet (tVar 2) (tCl (sp_symbol_of K A) (WE (fun cls d _ H => E cls d H)) (tCons (tVar 6) tNil))) tNil)))
    (x_token_bits_1 K A E)))
    (tSeq (tRet (tVar 5))
    tNext))) := ⟨rfl⟩
def x_token_bits_3 (K : PySem.W.Frag) (A : Ads) (E : XK) : TS :=
  (tSeq (tFor (iList K (tCl (sp_codes_of K A) (WE (fun cls d _ H => E cls d H)) (tCons (tVar 1) tNil))) (gTup K 2 (gCons (gName 3) (gCons (gName 4) gNil)))
    (tSeq (sDPut (tVar 2) (tVar 3) (tVar 4))
    tNext))
    (tSeq (tAsg (tLst tNil) (gName 5))
    (x_token_bits_2 K A E)))
instance {K : PySem.W.Frag} {A : Ads} {E : XK} : Unf (x_token_bits_3 K A E) (
  (tSeq (tFor (iList K (tCl (sp_codes_of K A) (WE (fun cls d _ H => E cls d H)) (tCons (tVar 1) tNil))) (gTup K 2 (gCons (gName 3) (gCons (gName 4) gNil)))
    (tSeq (sDPut (tVar 2) (tVar 3) (tVar 4))
    tNext))
    (tSeq (tAsg (tLst tNil) (gName 5))
    (x_token_bits_2 K A E)))) := ⟨rfl⟩
def t_token_bits (K : PySem.W.Frag) (A : Ads) (E : XK) : TS :=
  (tSeq (tAsg tDNewK (gName 2))
    (x_token_bits_3 K A E))
theorem pure_token_bits {K : PySem.W.Frag} {A : Ads} (T : Fct K A) (vs : List V) (H : Hp) (Q : VK) (E : XK) (h : sp_token_bits K A vs H Q E) : t_token_bits K A E (endE Q) (L2.start N_token_bits vs) H := by
  obtain ⟨B, G, a, c, vs, ws, ts, cs, rfl, zs, ha, hv, hc, hw, hok, hl, hsy, k⟩ := h
  refine (?_ : N B G (fun H => t_token_bits K A E (endE Q) (L2.start N_token_bits [.ref a, .ref c]) H)) H zs
  clear zs
  unfold t_token_bits

  have hvl := hv.len
  walk_at "sk stp"
  rename_i cd
  refine use_codes_of (cs := cs) (by walk_at "sk sq") hw (by omega) (fun B1 q1 ad ws1 _ sm1 hw1 => ?_) (fun h => absurd hok h)
  refine n_perm List.perm_middle.symm ?_
  refine n_freezeMap (fun c : Int × Int => ad c.1) (fun c => .lst ((cdF (codesX cs) c.1).map V.int)) cs fun B2 sm2 hpool => ?_
  have hw1 : All2 (fun v (c : Int × Int) => ∃ t, v = V.ref t ∧ B2 t = some (HO.tup [.int c.1, .ref (ad c.1)])) ws1 cs := All2.imp (fun v c ⟨t, e, h⟩ => ⟨t, e, sm2 _ _ h⟩) hw1
  have hw1l := hw1.len
  have sm := sm1.trans sm2
  have ha := ha.mono sm
  have hv := hv.imp fun _ _ h => TokAt.mono sm h
  have hpw := (lensRun_all hok.2.1).2
  have hnd : (cs.map (·.1)).Nodup := hpw.imp fun h => Int.ne_of_lt h
  walk_at "sk stp"
  refine n_lpP cs (fun i σ L => ∃ (y3 y4 : Option V), σ = [some (.ref a), some (.ref c), some (.ref cd), y3, y4, none, none] ∧ L = (q1, .lst ws1) :: (cd, .dK (dI ((cs.take i).map fun c => (c.1, V.ref (ad c.1))))) :: G) hw1 ?_ ⟨_, _, rfl, rfl⟩ ?_ ?_
  · rintro i σ L _ ⟨y3, y4, rfl, rfl⟩
    walk_at "sk sq"
  · rintro i σ L v hi ⟨y3, y4, rfl, rfl⟩ ⟨t, rfl, ht⟩
    have hnew : ¬ cs[i].1 ∈ ((cs.take i).map fun c => (c.1, V.ref (ad c.1))).map (·.1) := by
      rw [List.map_map]
      intro hm
      obtain ⟨d, hd, e⟩ := List.mem_map.mp hm
      obtain ⟨j, hj, e2⟩ := List.mem_iff_getElem.mp hd
      rw [List.length_take] at hj
      rw [List.getElem_take] at e2
      have h1 := (List.pairwise_iff_getElem.mp hnd) j i (by rw [List.length_map]; omega) (by rw [List.length_map]; exact hi) (by omega)
      rw [List.getElem_map, List.getElem_map, e2] at h1
      exact h1 e
    walk_at "sk stp"
    rw [putK_dI, putI_new hnew]
    refine n_ki ⟨_, _, rfl, ?_⟩ (.refl _)
    rw [take_step hi, List.map_append]; rfl
  rintro σ L ⟨y3, y4, rfl, rfl⟩
  rw [List.take_length]
  have hkeys : ((cs.map fun c => (c.1, V.ref (ad c.1))).map (·.1)).Nodup := by rw [List.map_map]; exact hnd
  walk_at "sk stp"
  rename_i bp
  refine n_lpP ts (fun i σ L => ∃ (y6 : Option V), σ = [some (.ref a), some (.ref c), some (.ref cd), y3, y4, some (.ref bp), y6] ∧ L = (bp, .lst ((tokB (codesX cs) (ts.take i)).map V.int)) :: (q1, .lst ws1) :: (cd, .dK (dI (cs.map fun c => (c.1, V.ref (ad c.1))))) :: G) hv ?_ ⟨_, rfl, rfl⟩ ?_ ?_
  · rintro i σ L _ ⟨y6, rfl, rfl⟩
    exact ha.sub (by walk_at "sk sub")
  · rintro i σ L v hi ⟨y6, rfl, rfl⟩ htv
    have htl := tokB_len hok (ts := ts.take i) fun t ht => hsy t (List.mem_of_mem_take ht)
    rw [List.length_take] at htl
    have hts := hsy _ (List.getElem_mem hi)
    rw [take_step hi, tokB_snoc]
    generalize tokB (codesX cs) (ts.take i) = bs at *
    generalize ts[i] = t at *
    obtain ⟨d, hd, e⟩ := List.mem_map.mp hts
    have hgt : valV (dI (cs.map fun c => (c.1, V.ref (ad c.1)))) (Sum.inl (symT t)) = some (.ref (ad d.1)) := by
      rw [valV_dI]
      exact getI_mem hkeys (List.mem_map.mpr ⟨d, hd, by rw [e]⟩)
    have hpd := hpool d hd
    have hdl := cdF_len hok hd
    have hd60 := ((lensRun_all hok.2.1).1 d hd).2.2
    rw [← e]
    rw [← List.append_assoc]
    walk_at "sk stp"
    cases t with
    | mark m =>
      cases htv
      walk_at "sk stp"
      rw [show backB (.mark m) = [] from rfl, List.append_nil]
      exact n_ki ⟨_, rfl, rfl⟩ (.refl _)
    | rep b l =>
      obtain ⟨p, rfl, hp⟩ := htv
      have hbl : (bitsN (b : Int) (Int.toNat 6)).length = 6 := bitsN_len _ _
      walk_at "sk stp"
      refine use_bits_of (by omega) fun p2 => ?_
      walk_at "sk stp"
      exact n_ki ⟨_, rfl, rfl⟩ (List.sublist_cons_self _ _)
  rintro σ L ⟨y6, rfl, rfl⟩
  rw [List.take_length]
  walk_at "sk stp"
  exact n_sub (by walk_at "sk sub") (k B2 bp sm)
theorem raw_token_bits {P : Program} {w : World} {K : PySem.W.Frag} {mg : Str → Option Value} {base : Heap} {A : Ads} {f : Addr} {fd : FuncData} (F : Fun K "token_bits" "token_bits" s_token_bits f fd) (T : Txt K mg A) (O_bits_of : OkC P w K mg base CX0 1 "bits_of" ["number", "width"] (sp_bits_of K A)) (O_codes_of : OkC P w K mg base (CXN P w) 2 "codes_of" ["lengths"] (sp_codes_of K A)) (O_symbol_of : OkC P w K mg base CX0 1 "symbol_of" ["token"] (sp_symbol_of K A)) : FnOk P w K mg base (CXN P w) 3 f fd ["tokens", "lengths"] (sp_token_bits K A) := by
  refine okN F sc_token_bits (fun vs H Q E h => len_token_bits vs H Q E h) (fun cdv Ar outer s H vs Q E hr h => ⟨t_token_bits K A E, ?_, pure_token_bits T.fct vs H Q E h⟩)
  have nd := sc_token_bits.nd
  exact (pss_cons (ps_set (i := 2) nd rfl (Or.inl rfl) pe_dnewK)
    (pss_cons (ps_for (passes_of rfl) rfl (pi_list (pe_cl (E := WE (fun cls d _ H => E cls d H)) O_codes_of (hr.mono (by decide)) (by rfl) (passN (L2N.takes_of rfl rfl rfl rfl)) (pa_cons (pv 1) pa_nil))) (pg_tup rfl (pgs_cons (pg_name (i := 3) nd rfl (Or.inl rfl)) (pgs_cons (pg_name (i := 4) nd rfl (Or.inl rfl)) pgs_nil)))
    (pss_cons (ps_dput (hu_of hr) (pv 2) (pv 3) (pv 4) rfl)
    pss_nil))
    (pss_cons (ps_set (i := 5) nd rfl (Or.inl rfl) (pe_lst pa_nil))
    (pss_cons (ps_for (passes_of rfl) rfl (pi_list (pv 0)) (pg_name (i := 6) nd rfl (Or.inl rfl))
    (pss_cons (ps_expr (pe_bm PySem.F.plainAttrs_list PySem.F.slot_list_extend PySem.F.type_list_extend mt_extend (pv 5) (pa_cons (pe_dget (hu_of hr) (pv 2) (pe_cl (E := WE (fun cls d _ H => E cls d H)) O_symbol_of (hr.mono (by decide)) (by rfl) pass00 (pa_cons (pv 6) pa_nil)) (fun _ _ => rfl)) pa_nil)))
    (pss_cons (ps_if (pt_val (pe_callB call_isi (by rfl) T.b_isinstance boot_isinstance (pa_cons (pv 6) (pa_cons (pe_bltn (v := .ty "tuple") (by rfl) T.b_tuple boot_tuple rfl) pa_nil)))) (pss_cons (ps_expr (pe_bm PySem.F.plainAttrs_list PySem.F.slot_list_extend PySem.F.type_list_extend mt_extend (pv 5) (pa_cons (pe_cl (E := WE (fun cls d _ H => E cls d H)) O_bits_of (hr.mono (by decide)) (by rfl) pass00 (pa_cons (pe_ix ix_seq (pv 6) pe_int (fun _ _ => rfl)) (pa_cons (pe_glob (by rfl) T.c_BACK_BITS.choose_spec.1 T.c_BACK_BITS.choose_spec.2) pa_nil))) pa_nil)))
    pss_nil) pss_nil)
    pss_nil)))
    (pss_cons (ps_ret (pv 5))
    pss_nil)))))
theorem use_token_bits {K : PySem.W.Frag} {A : Ads} {B : Hp} {G : Own} {Q : VK} {E : XK} {a c : Addr} {vs ws : List V} {ts : List Tok'} {cs : List (Int × Int)} (ha : Sq K B G a vs) (hv : All2 (TokAt B) vs ts) (hc : Sq K B G c ws) (hw : All2 (PairAt B) ws cs) (hok : LensOk cs) (hl : cs.length ≤ 60 ∧ ts.length ≤ 60) (hsy : ∀ t ∈ ts, symT t ∈ cs.map (·.1)) (zq : ∀ B' q, Same B B' → N B' ((q, .lst ((tokB (codesX cs) ts).map V.int)) :: G) (Q (.ref q))) : N B G (fun H => sp_token_bits K A [.ref a, .ref c] H Q E) := fun zH zs => ⟨B, _, _, _, _, _, _, _, rfl, zs, ha, hv, hc, hw, hok, hl, hsy, zq⟩

theorem tokF_len' (t : List Int) : ∀ (f at' : Nat), (tokF t f at').length ≤ f
  | 0, _ => Nat.le_refl _
  | f + 1, at' => by
    rw [tokF_succ]
    split
    · split
      · have := tokF_len' t f (at' + 1); rw [List.length_cons]; omega
      · rename_i b l _
        have := tokF_len' t f (at' + l); rw [List.length_cons]; omega
    · exact Nat.zero_le _
theorem tokL_le (t : List Int) : (tokL t).length ≤ t.length := tokF_len' t _ 0
theorem tokF_sym {t : List Int} (ht : ∀ d ∈ t, 0 ≤ d ∧ d ≤ 255) : ∀ (f at' : Nat), ∀ k ∈ tokF t f at', 0 ≤ symT k ∧ symT k ≤ 255 + t.length
  | 0, _, k, h => nomatch h
  | f + 1, at', k, h => by
    rw [tokF_succ] at h
    split at h
    · rename_i hlt
      split at h
      · rcases List.mem_cons.mp h with rfl | h
        · have := ht (t.getD at' 0) (by rw [getD_lt hlt]; exact List.getElem_mem hlt)
          show 0 ≤ t.getD at' 0 ∧ t.getD at' 0 ≤ 255 + t.length
          omega
        · exact tokF_sym ht f _ k h
      · rename_i b l hb
        rcases List.mem_cons.mp h with rfl | h
        · have sp := bestN_spec t at' at'
          rw [hb] at sp
          have := runN_le t at' b
          show 0 ≤ (253 + (l : Int)) ∧ (253 + (l : Int)) ≤ 255 + t.length
          omega
        · exact tokF_sym ht f _ k h
    · cases h
theorem tokL_ne {t : List Int} (h : 1 ≤ t.length) : tokL t ≠ [] := by
  intro e
  have e2 : tokA t 0 = [] := e
  cases hb : bestN t 0 0 with
  | none => rw [tokA_none (by omega) hb] at e2; cases e2
  | some x => obtain ⟨b, l⟩ := x; rw [tokA_some (by omega) hb] at e2; cases e2
theorem lensX_ok {xs : List Int} (h : BlockOk xs) : LensOk (lensX xs) ∧ (lensX xs).length ≤ 48 ∧ (∀ c ∈ lensX xs, c.1 ≤ 400) ∧ ∀ t ∈ tokL xs, symT t ∈ (lensX xs).map (·.1) := by
  obtain ⟨h1, h2, h3⟩ := h
  have hm := isT_iff.mp h1
  have hsy := fun k (hk : k ∈ tokL xs) => tokF_sym hm _ _ k hk
  have hle := tokL_le xs
  have hcl := cntL_len ((tokL xs).map symT)
  rw [List.length_map] at hcl
  have hcm : ∀ c ∈ cntL ((tokL xs).map symT), 0 ≤ c.1 ∧ c.1 ≤ 400 := fun c hc => by
    obtain ⟨a, _⟩ := cntL_mem hc
    obtain ⟨k, hk, e⟩ := List.mem_map.mp a
    have := hsy k hk
    omega
  have hf : (lensX xs).map (·.1) = (cntL ((tokL xs).map symT)).map (·.1) := by
    unfold lensX lensL; rw [List.map_map]; rfl
  refine ⟨lensL_ok (cntL_rise _) (fun c hc => (hcm c hc).1) (cntL_pos (by simpa using tokL_ne h2)) (by omega), ?_, fun c hc => ?_, fun t ht => ?_⟩
  · unfold lensX lensL; rw [List.length_map]; omega
  · obtain ⟨d, hd, rfl⟩ := List.mem_map.mp hc
    exact (hcm d hd).2
  · rw [hf]
    exact cntL_has (List.mem_map.mpr ⟨t, ht, rfl⟩)
theorem tabR_len : ∀ {cs : List (Int × Int)} {due : Int}, lensRun (due - 1) cs → 0 ≤ due → (∀ c ∈ cs, c.1 ≤ 400) → (tabR due cs).length ≤ 40 * cs.length
  | [], _, _, _, _ => Nat.le_refl _
  | c :: r, due, h, h0, hs => by
    obtain ⟨r1, r2, r3, r4⟩ := h
    have hcy := hs c List.mem_cons_self
    have h1 := halvL_len (n := c.1 - due) (k := 10) (by omega) (by show c.1 - due + 1 < 1024; omega)
    have h2 := halvL_len (n := c.2 - 1) (k := 7) (by omega) (by show c.2 - 1 + 1 < 128; omega)
    have ih := tabR_len (cs := r) (due := c.1 + 1) (by rw [show c.1 + 1 - 1 = c.1 by omega]; exact r4) (by omega) fun d hd => hs d (List.mem_cons_of_mem _ hd)
    rw [tabR, List.length_append, List.length_append, List.length_cons]
    omega
theorem tableB_len {cs : List (Int × Int)} (hok : LensOk cs) (hl : cs.length ≤ 60) (hs : ∀ c ∈ cs, c.1 ≤ 400) : (tableB cs).length ≤ 20 + 40 * cs.length := by
  have hne : 0 < cs.length := List.length_pos_iff.mpr hok.1
  have h1 := halvL_len (n := (cs.length : Int) - 1) (k := 10) (by omega) (by show (cs.length : Int) - 1 + 1 < 1024; omega)
  have h2 := tabR_len (cs := cs) (due := 0) (by rw [show (0 : Int) - 1 = -1 from rfl]; exact hok.2.1) (Int.le_refl _) hs
  unfold tableB
  rw [List.length_append]
  omega
theorem packedB_len {xs : List Int} (h : BlockOk xs) : (packedB xs).length ≤ 6000 := by
  obtain ⟨k1, k2, k3, k4⟩ := lensX_ok h
  obtain ⟨_, h2, h3⟩ := h
  have a1 := halvL_len (n := (xs.length : Int) - 1) (k := 10) (by omega) (by show (xs.length : Int) - 1 + 1 < 1024; omega)
  have a2 := tableB_len k1 (by omega) k3
  have a3 := tokB_len k1 k4
  have a4 := tokL_le xs
  unfold packedB
  rw [List.length_append, List.length_append, List.length_append]
  show 1 + _ + _ + _ ≤ _
  omega
abbrev s_packed : Stmt := topS 46
abbrev N_packed : List Str := ["block", "tokens", "lengths"]
theorem sc_packed : FnScope N_packed ["block"] (defScope s_packed) := ⟨rfl, rfl, rfl, by decide +kernel, rfl, by decide +kernel, by decide +kernel⟩






def sp_packed (K : PySem.W.Frag) (A : Ads) : Sp := fun zvs zH Q E => ∃ (B : Hp) (G : Own) (a : Addr) (xs : List Int), zvs = [.ref a] ∧ SI B G zH ∧ (Is B G a (.lst (xs.map V.int))) ∧ (∀ B' q, BlockOk xs → Same B B' → N B' ((q, .lst ((packedL xs).map V.int)) :: G) (Q (.ref q))) ∧ (¬ BlockOk xs → N B G (fun H => E (.ref A.c_NoBlock) none H))
theorem len_packed {K : PySem.W.Frag} {A : Ads} : ∀ vs H Q E, sp_packed K A vs H Q E → vs.length = 1 := by
  intro vs H Q E h
  obtain ⟨_, _, _, _, rfl, _⟩ := h
  rfl
def x_packed_0 (K : PySem.W.Frag) (A : Ads) (E : XK) : TS :=
  (tSeq (tRet (tCl (sp_laid K A) (WE (fun cls d _ H => E cls d H)) (tCons (tOp (uAdd K) (tOp (uAdd K) (tOp (uAdd K) (tLst (tCons (tC (.int (1))) tNil)) (tCl (sp_halves K A) (WE (fun cls d _ H => E cls d H)) (tCons (tOp uSub (tCB (uLen K) (tCons (tVar 0) tNil)) (tC (.int (1)))) tNil))) (tCl (sp_table_bits K A) (WE (fun cls d _ H => E cls d H)) (tCons (tVar 2) tNil))) (tCl (sp_token_bits K A) (WE (fun cls d _ H => E cls d H)) (tCons (tVar 1) (tCons (tVar 2) tNil)))) tNil)))
    tNext)
instance {K : PySem.W.Frag} {A : Ads} {E : XK} : Unf (x_packed_0 K A E) (
  (tSeq (tRet (tCl (sp_laid K A) (WE (fun cls d _ H => E cls d H)) (tCons (tOp (uAdd K) (tOp (uAdd K) (tOp (uAdd K) (tLst (tCons (tC (.int (1))) tNil)) (tCl (sp_halves K A) (WE (fun cls d _ H => E cls d H)) (tCons (tOp uSub (tCB (uLen K) (tCons (tVar 0) tNil)) (tC (.int (1)))) tNil))) (tCl (sp_table_bits K A) (WE (fun cls d _ H => E cls d H)) (tCons (tVar 2) tNil))) (tCl (sp_token_bits K A) (WE (fun cls d _ H => E cls d H)) (tCons (tVar 1) (tCons (tVar 2) tNil)))) tNil)))
    tNext)) := ⟨rfl⟩
def x_packed_1 (K : PySem.W.Frag) (A : Ads) (E : XK) : TS :=
  (tSeq (tAsg (tCl (sp_lengths_of K A) (WE (fun cls d _ H => E cls d H)) (tCons (tCl (sp_counts_of K A) (WE (fun cls d _ H => E cls d H)) (tCons (tVar 1) tNil)) tNil)) (gName 2))
    (x_packed_0 K A E))
instance {K : PySem.W.Frag} {A : Ads} {E : XK} : Unf (x_packed_1 K A E) (
  (tSeq (tAsg (tCl (sp_lengths_of K A) (WE (fun cls d _ H => E cls d H)) (tCons (tCl (sp_counts_of K A) (WE (fun cls d _ H => E cls d H)) (tCons (tVar 1) tNil)) tNil)) (gName 2))
    (x_packed_0 K A E))) := ⟨rfl⟩
def x_packed_2 (K : PySem.W.Frag) (A : Ads) (E : XK) : TS :=
  (tSeq (tAsg (tCl (sp_tokens_of K A) (WE (fun cls d _ H => E cls d H)) (tCons (tVar 0) tNil)) (gName 1))
    (x_packed_1 K A E))
instance {K : PySem.W.Frag} {A : Ads} {E : XK} : Unf (x_packed_2 K A E) (
  (tSeq (tAsg (tCl (sp_tokens_of K A) (WE (fun cls d _ H => E cls d H)) (tCons (tVar 0) tNil)) (gName 1))
    (x_packed_1 K A E))) := ⟨rfl⟩
def t_packed (K : PySem.W.Frag) (A : Ads) (E : XK) : TS :=
  (tSeq (tDrop (tCl (sp_look_at_block K A) (WE (fun cls d _ H => E cls d H)) (tCons (tVar 0) tNil)))
    (x_packed_2 K A E))
theorem pure_packed {K : PySem.W.Frag} {A : Ads} (T : Fct K A) (vs : List V) (H : Hp) (Q : VK) (E : XK) (h : sp_packed K A vs H Q E) : t_packed K A E (endE Q) (L2.start N_packed vs) H := by
  obtain ⟨B, G, a, xs, rfl, zs, ha, k, k2⟩ := h
  refine (?_ : N B G (fun H => t_packed K A E (endE Q) (L2.start N_packed [.ref a]) H)) H zs
  clear zs
  unfold t_packed

  walk_at "sk stp"
  refine use_look_at_block (xs := xs) ha (fun h => ?_) (fun h => k2 h)
  obtain ⟨k1, k2, k3, k4⟩ := lensX_ok h
  have hpl := packedB_len h
  obtain ⟨h1, h2, h3⟩ := id h
  have htl := tokL_le xs
  have hcl := cntL_len ((tokL xs).map symT)
  rw [List.length_map] at hcl
  have hcp := cntL_pos (ss := (tokL xs).map symT) (by simpa using tokL_ne h2)
  have hnd : ((cntL ((tokL xs).map symT)).map (·.1)).Nodup := (cntL_rise _).imp fun h => Int.ne_of_lt h
  walk_at "sk stp"
  refine use_tokens_of (t := xs) (by walk_at "sk sq") (by omega) fun B1 pt vs sm1 hv => ?_
  have ha1 := ha.mono sm1
  walk_at "sk stp"
  refine use_counts_of (ts := tokL xs) (sq_own 0 rfl) hv (by omega) fun B2 pc ws sm2 hw => ?_
  have hv2 := hv.imp fun _ _ h => TokAt.mono sm2 h
  have ha2 := ha1.mono sm2
  walk_at "sk stp"
  refine use_lengths_of (cs := cntL ((tokL xs).map symT)) (sq_own 0 rfl) hw (by omega) hnd fun B3 pl wl sm3 hwl => ?_
  have hv3 := hv2.imp fun _ _ h => TokAt.mono sm3 h
  have ha3 := ha2.mono sm3
  have hwl : All2 (PairAt B3) wl (lensX xs) := hwl
  walk_at "sk stp"
  refine use_halves (by omega) fun p1 => ?_
  show N B3 ((p1, .lst ((halvL _).map V.int)) :: _) _
  rename_i p0
  have a1 := halvL_len (n := (xs.length : Int) - 1) (k := 10) (by omega) (by show (xs.length : Int) - 1 + 1 < 1024; omega)
  refine n_cat (xs := [V.int 1]) (zs := (halvL ((xs.length : Int) - 1)).map V.int) (is_own 1 rfl) (is_own 0 rfl) (by rw [List.length_map, sizeLine_eq]; show 1 + _ ≤ _; omega) fun p2 => ?_
  show N B3 ((p2, .lst (([1] ++ halvL ((xs.length : Int) - 1)).map V.int)) :: _) _
  refine n_sub (L' := (p2, .lst (([1] ++ halvL ((xs.length : Int) - 1)).map V.int)) :: (pl, .lst wl) :: (pt, .lst vs) :: G) (by walk_at "sk sub") ?_
  have a2 := tableB_len k1 (by omega) k3
  have a3 := tokB_len k1 k4
  walk_at "sk stp"
  refine use_table_bits (cs := lensX xs) (by walk_at "sk sq") hwl k1 (by omega) k3 fun p3 => ?_
  walk_at "sk stp"
  refine use_token_bits (ts := tokL xs) (cs := lensX xs) (by walk_at "sk sq") hv3 (by walk_at "sk sq") hwl k1 (by omega) k4 fun B4 p5 sm4 => ?_
  walk_at "sk stp"
  refine use_laid (bs := packedB xs) (by walk_at "sk sq") (by omega) fun q => ?_
  exact n_sub (L' := (q, _) :: G) (by walk_at "sk sub") (k B4 q h (((sm1.trans sm2).trans sm3).trans sm4))
theorem raw_packed {P : Program} {w : World} {K : PySem.W.Frag} {mg : Str → Option Value} {base : Heap} {A : Ads} {f : Addr} {fd : FuncData} (F : Fun K "packed" "packed" s_packed f fd) (T : Txt K mg A) (O_halves : OkC P w K mg base CX0 2 "halves" ["number"] (sp_halves K A)) (O_laid : OkC P w K mg base CX0 1 "laid" ["bits"] (sp_laid K A)) (O_lengths_of : OkC P w K mg base CX0 4 "lengths_of" ["counts"] (sp_lengths_of K A)) (O_tokens_of : OkC P w K mg base CX0 3 "tokens_of" ["text"] (sp_tokens_of K A)) (O_look_at_block : OkC P w K mg base (CXN P w) 4 "look_at_block" ["block"] (sp_look_at_block K A)) (O_counts_of : OkC P w K mg base CX0 2 "counts_of" ["tokens"] (sp_counts_of K A)) (O_table_bits : OkC P w K mg base CX0 3 "table_bits" ["lengths"] (sp_table_bits K A)) (O_token_bits : OkC P w K mg base (CXN P w) 3 "token_bits" ["tokens", "lengths"] (sp_token_bits K A)) : FnOk P w K mg base (CXN P w) 5 f fd ["block"] (sp_packed K A) := by
  refine okN F sc_packed (fun vs H Q E h => len_packed vs H Q E h) (fun cdv Ar outer s H vs Q E hr h => ⟨t_packed K A E, ?_, pure_packed T.fct vs H Q E h⟩)
  have nd := sc_packed.nd
  exact (pss_cons (ps_expr (pe_cl (E := WE (fun cls d _ H => E cls d H)) O_look_at_block (hr.mono (by decide)) (by rfl) (passN (L2N.takes_of rfl rfl rfl rfl)) (pa_cons (pv 0) pa_nil)))
    (pss_cons (ps_set (i := 1) nd rfl (Or.inl rfl) (pe_cl (E := WE (fun cls d _ H => E cls d H)) O_tokens_of (hr.mono (by decide)) (by rfl) pass00 (pa_cons (pv 0) pa_nil)))
    (pss_cons (ps_set (i := 2) nd rfl (Or.inl rfl) (pe_cl (E := WE (fun cls d _ H => E cls d H)) O_lengths_of (hr.mono (by decide)) (by rfl) pass00 (pa_cons (pe_cl (E := WE (fun cls d _ H => E cls d H)) O_counts_of (hr.mono (by decide)) (by rfl) pass00 (pa_cons (pv 1) pa_nil)) pa_nil)))
    (pss_cons (ps_ret (pe_cl (E := WE (fun cls d _ H => E cls d H)) O_laid (hr.mono (by decide)) (by rfl) pass00 (pa_cons (pe_op op_uAdd (pe_op op_uAdd (pe_op op_uAdd (pe_lst (pa_cons pe_int pa_nil)) (pe_cl (E := WE (fun cls d _ H => E cls d H)) O_halves (hr.mono (by decide)) (by rfl) pass00 (pa_cons (pe_op op_uSub (pe_callB call_uLen (by rfl) T.b_len boot_len (pa_cons (pv 0) pa_nil)) pe_int) pa_nil))) (pe_cl (E := WE (fun cls d _ H => E cls d H)) O_table_bits (hr.mono (by decide)) (by rfl) pass00 (pa_cons (pv 2) pa_nil))) (pe_cl (E := WE (fun cls d _ H => E cls d H)) O_token_bits (hr.mono (by decide)) (by rfl) (passN (L2N.takes_of rfl rfl rfl rfl)) (pa_cons (pv 1) (pa_cons (pv 2) pa_nil)))) pa_nil)))
    pss_nil))))
theorem use_packed {K : PySem.W.Frag} {A : Ads} {B : Hp} {G : Own} {Q : VK} {E : XK} {a : Addr} {xs : List Int} (ha : Is B G a (.lst (xs.map V.int))) (zq : ∀ B' q, BlockOk xs → Same B B' → N B' ((q, .lst ((packedL xs).map V.int)) :: G) (Q (.ref q))) (zq2 : ¬ BlockOk xs → N B G (fun H => E (.ref A.c_NoBlock) none H)) : N B G (fun H => sp_packed K A [.ref a] H Q E) := fun zH zs => ⟨B, _, _, _, rfl, zs, ha, zq, zq2⟩

def row8 (xs : List Int) : List Int := xs.flatMap fun d => bitsN d 8
theorem row8_len : ∀ xs : List Int, (row8 xs).length = 8 * xs.length
  | [] => rfl
  | x :: r => by
    show (bitsN x 8 ++ row8 r).length = _
    rw [List.length_append, row8_len r, bitsN_len, List.length_cons]; omega
theorem row8_snoc (xs : List Int) (x : Int) : row8 (xs ++ [x]) = row8 xs ++ bitsN x 8 := by
  unfold row8; rw [List.flatMap_append]; simp
def plainB (xs : List Int) : List Int := 0 :: (halvL (xs.length - 1) ++ row8 xs)
def plainL (xs : List Int) : List Int := laidL (plainB xs)
abbrev s_plain : Stmt := topS 41
abbrev N_plain : List Str := ["block", "bits", "mark"]
theorem sc_plain : FnScope N_plain ["block"] (defScope s_plain) := ⟨rfl, rfl, rfl, by decide +kernel, rfl, by decide +kernel, by decide +kernel⟩






def sp_plain (K : PySem.W.Frag) (A : Ads) : Sp := fun zvs zH Q E => ∃ (B : Hp) (G : Own) (a : Addr) (xs : List Int), zvs = [.ref a] ∧ SI B G zH ∧ (Is B G a (.lst (xs.map V.int))) ∧ (∀ q, BlockOk xs → N B ((q, .lst ((plainL xs).map V.int)) :: G) (Q (.ref q))) ∧ (¬ BlockOk xs → N B G (fun H => E (.ref A.c_NoBlock) none H))
theorem len_plain {K : PySem.W.Frag} {A : Ads} : ∀ vs H Q E, sp_plain K A vs H Q E → vs.length = 1 := by
  intro vs H Q E h
  obtain ⟨_, _, _, _, rfl, _⟩ := h
  rfl
def x_plain_0 (K : PySem.W.Frag) (A : Ads) (E : XK) : TS :=
  (tSeq (tFor (iList K (tVar 0)) (gName 2)
    (tSeq (tDrop (tBM K "list" rExtend (tVar 1) (tCons (tCl (sp_bits_of K A) (WE (fun cls d _ H => E cls d H)) (tCons (tVar 2) (tCons (tC (.int (8))) tNil))) tNil)))
    tNext))
    (tSeq (tRet (tCl (sp_laid K A) (WE (fun cls d _ H => E cls d H)) (tCons (tVar 1) tNil)))
    tNext))
instance {K : PySem.W.Frag} {A : Ads} {E : XK} : Unf (x_plain_0 K A E) (
  (tSeq (tFor (iList K (tVar 0)) (gName 2)
    (tSeq (tDrop (tBM K "list" rExtend (tVar 1) (tCons (tCl (sp_bits_of K A) (WE (fun cls d _ H => E cls d H)) (tCons (tVar 2) (tCons (tC (.int (8))) tNil))) tNil)))
    tNext))
    (tSeq (tRet (tCl (sp_laid K A) (WE (fun cls d _ H => E cls d H)) (tCons (tVar 1) tNil)))
    tNext))) := ⟨rfl⟩
def x_plain_1 (K : PySem.W.Frag) (A : Ads) (E : XK) : TS :=
  (tSeq (tAsg (tOp (uAdd K) (tLst (tCons (tC (.int (0))) tNil)) (tCl (sp_halves K A) (WE (fun cls d _ H => E cls d H)) (tCons (tOp uSub (tCB (uLen K) (tCons (tVar 0) tNil)) (tC (.int (1)))) tNil))) (gName 1))
    (x_plain_0 K A E))
instance {K : PySem.W.Frag} {A : Ads} {E : XK} : Unf (x_plain_1 K A E) (
  (tSeq (tAsg (tOp (uAdd K) (tLst (tCons (tC (.int (0))) tNil)) (tCl (sp_halves K A) (WE (fun cls d _ H => E cls d H)) (tCons (tOp uSub (tCB (uLen K) (tCons (tVar 0) tNil)) (tC (.int (1)))) tNil))) (gName 1))
    (x_plain_0 K A E))) := ⟨rfl⟩
def t_plain (K : PySem.W.Frag) (A : Ads) (E : XK) : TS :=
  (tSeq (tDrop (tCl (sp_look_at_block K A) (WE (fun cls d _ H => E cls d H)) (tCons (tVar 0) tNil)))
    (x_plain_1 K A E))
theorem pure_plain {K : PySem.W.Frag} {A : Ads} (T : Fct K A) (vs : List V) (H : Hp) (Q : VK) (E : XK) (h : sp_plain K A vs H Q E) : t_plain K A E (endE Q) (L2.start N_plain vs) H := by
  obtain ⟨B, G, a, xs, rfl, zs, ha, k, k2⟩ := h
  refine (?_ : N B G (fun H => t_plain K A E (endE Q) (L2.start N_plain [.ref a]) H)) H zs
  clear zs
  unfold t_plain

  walk_at "sk stp"
  refine use_look_at_block (xs := xs) ha (fun h => ?_) (fun h => k2 h)
  obtain ⟨h1, h2, h3⟩ := id h
  have hhl := halvL_len (n := (xs.length : Int) - 1) (k := 10) (by omega) (by show (xs.length : Int) - 1 + 1 < 1024; omega)
  walk_at "sk stp"
  refine use_halves (by omega) fun p => ?_
  show N B ((p, .lst ((halvL _).map V.int)) :: _) _
  walk_at "sk stp"
  rename_i bp
  refine n_sub (L' := (bp, .lst (([0] ++ halvL ((xs.length : Int) - 1)).map V.int)) :: G) (by walk_at "sk sub") ?_
  refine n_lpLi xs (fun i σ L => ∃ (y : Option V), σ = [some (.ref a), some (.ref bp), y] ∧ L = (bp, .lst (([0] ++ halvL ((xs.length : Int) - 1) ++ row8 (xs.take i)).map V.int)) :: G) ?_ ⟨_, rfl, by rw [show row8 (xs.take 0) = [] from rfl, List.append_nil]⟩ ?_ ?_
  · rintro i σ L _ ⟨y, rfl, rfl⟩
    walk_at "sk sq"
  · rintro i σ L hi ⟨y, rfl, rfl⟩
    have hrl := row8_len (xs.take i)
    rw [List.length_take] at hrl
    rw [take_step hi, row8_snoc, ← List.append_assoc ([0] ++ halvL _)]
    walk_at "sk stp"
    refine use_bits_of (by omega) fun p2 => ?_
    have hbl : (bitsN xs[i] (Int.toNat 8)).length = 8 := bitsN_len _ _
    walk_at "sk stp"
    exact n_ki ⟨_, rfl, rfl⟩ (List.sublist_cons_self _ _)
  · rintro σ L ⟨y, rfl, rfl⟩
    have hrl := row8_len xs
    rw [List.take_length]
    walk_at "sk stp"
    refine use_laid (bs := plainB xs) (sq_own 0 rfl) ?_ fun q => ?_
    · unfold plainB
      rw [List.length_cons, List.length_append]; omega
    · exact n_sub (L' := (q, _) :: G) (by walk_at "sk sub") (k q h)
theorem raw_plain {P : Program} {w : World} {K : PySem.W.Frag} {mg : Str → Option Value} {base : Heap} {A : Ads} {f : Addr} {fd : FuncData} (F : Fun K "plain" "plain" s_plain f fd) (T : Txt K mg A) (O_bits_of : OkC P w K mg base CX0 1 "bits_of" ["number", "width"] (sp_bits_of K A)) (O_halves : OkC P w K mg base CX0 2 "halves" ["number"] (sp_halves K A)) (O_laid : OkC P w K mg base CX0 1 "laid" ["bits"] (sp_laid K A)) (O_look_at_block : OkC P w K mg base (CXN P w) 4 "look_at_block" ["block"] (sp_look_at_block K A)) : FnOk P w K mg base (CXN P w) 5 f fd ["block"] (sp_plain K A) := by
  refine okN F sc_plain (fun vs H Q E h => len_plain vs H Q E h) (fun cdv Ar outer s H vs Q E hr h => ⟨t_plain K A E, ?_, pure_plain T.fct vs H Q E h⟩)
  have nd := sc_plain.nd
  exact (pss_cons (ps_expr (pe_cl (E := WE (fun cls d _ H => E cls d H)) O_look_at_block (hr.mono (by decide)) (by rfl) (passN (L2N.takes_of rfl rfl rfl rfl)) (pa_cons (pv 0) pa_nil)))
    (pss_cons (ps_set (i := 1) nd rfl (Or.inl rfl) (pe_op op_uAdd (pe_lst (pa_cons pe_int pa_nil)) (pe_cl (E := WE (fun cls d _ H => E cls d H)) O_halves (hr.mono (by decide)) (by rfl) pass00 (pa_cons (pe_op op_uSub (pe_callB call_uLen (by rfl) T.b_len boot_len (pa_cons (pv 0) pa_nil)) pe_int) pa_nil))))
    (pss_cons (ps_for (passes_of rfl) rfl (pi_list (pv 0)) (pg_name (i := 2) nd rfl (Or.inl rfl))
    (pss_cons (ps_expr (pe_bm PySem.F.plainAttrs_list PySem.F.slot_list_extend PySem.F.type_list_extend mt_extend (pv 1) (pa_cons (pe_cl (E := WE (fun cls d _ H => E cls d H)) O_bits_of (hr.mono (by decide)) (by rfl) pass00 (pa_cons (pv 2) (pa_cons pe_int pa_nil))) pa_nil)))
    pss_nil))
    (pss_cons (ps_ret (pe_cl (E := WE (fun cls d _ H => E cls d H)) O_laid (hr.mono (by decide)) (by rfl) pass00 (pa_cons (pv 1) pa_nil)))
    pss_nil))))
theorem use_plain {K : PySem.W.Frag} {A : Ads} {B : Hp} {G : Own} {Q : VK} {E : XK} {a : Addr} {xs : List Int} (ha : Is B G a (.lst (xs.map V.int))) (zq : ∀ q, BlockOk xs → N B ((q, .lst ((plainL xs).map V.int)) :: G) (Q (.ref q))) (zq2 : ¬ BlockOk xs → N B G (fun H => E (.ref A.c_NoBlock) none H)) : N B G (fun H => sp_plain K A [.ref a] H Q E) := fun zH zs => ⟨B, _, _, _, rfl, zs, ha, zq, zq2⟩

def pressedL (xs : List Int) : List Int := if (packedL xs).length < (plainL xs).length then packedL xs else plainL xs
abbrev s_pressed : Stmt := topS 47
abbrev N_pressed : List Str := ["block", "one", "other"]
theorem sc_pressed : FnScope N_pressed ["block"] (defScope s_pressed) := ⟨rfl, rfl, rfl, by decide +kernel, rfl, by decide +kernel, by decide +kernel⟩






def sp_pressed (K : PySem.W.Frag) (A : Ads) : Sp := fun zvs zH Q E => ∃ (B : Hp) (G : Own) (a : Addr) (xs : List Int), zvs = [.ref a] ∧ SI B G zH ∧ (Is B G a (.lst (xs.map V.int))) ∧ (∀ B' q, BlockOk xs → Same B B' → N B' ((q, .lst ((pressedL xs).map V.int)) :: G) (Q (.ref q))) ∧ (¬ BlockOk xs → N B G (fun H => E (.ref A.c_NoBlock) none H))
theorem len_pressed {K : PySem.W.Frag} {A : Ads} : ∀ vs H Q E, sp_pressed K A vs H Q E → vs.length = 1 := by
  intro vs H Q E h
  obtain ⟨_, _, _, _, rfl, _⟩ := h
  rfl
def x_pressed_0 (K : PySem.W.Frag) (A : Ads) (E : XK) : TS :=
  (tSeq (tIfS (tTest (tOp uLt (tCB (uLen K) (tCons (tVar 2) tNil)) (tCB (uLen K) (tCons (tVar 1) tNil))))
    (tSeq (tRet (tVar 2))
    tNext)
    tNext)
    (tSeq (tRet (tVar 1))
    tNext))
instance {K : PySem.W.Frag} {A : Ads} {E : XK} : Unf (x_pressed_0 K A E) (
  (tSeq (tIfS (tTest (tOp uLt (tCB (uLen K) (tCons (tVar 2) tNil)) (tCB (uLen K) (tCons (tVar 1) tNil))))
    (tSeq (tRet (tVar 2))
    tNext)
    tNext)
    (tSeq (tRet (tVar 1))
    tNext))) := ⟨rfl⟩
def x_pressed_1 (K : PySem.W.Frag) (A : Ads) (E : XK) : TS :=
  (tSeq (tAsg (tCl (sp_packed K A) (WE (fun cls d _ H => E cls d H)) (tCons (tVar 0) tNil)) (gName 2))
    (x_pressed_0 K A E))
instance {K : PySem.W.Frag} {A : Ads} {E : XK} : Unf (x_pressed_1 K A E) (
  (tSeq (tAsg (tCl (sp_packed K A) (WE (fun cls d _ H => E cls d H)) (tCons (tVar 0) tNil)) (gName 2))
    (x_pressed_0 K A E))) := ⟨rfl⟩
def t_pressed (K : PySem.W.Frag) (A : Ads) (E : XK) : TS :=
  (tSeq (tAsg (tCl (sp_plain K A) (WE (fun cls d _ H => E cls d H)) (tCons (tVar 0) tNil)) (gName 1))
    (x_pressed_1 K A E))
theorem pure_pressed {K : PySem.W.Frag} {A : Ads} (T : Fct K A) (vs : List V) (H : Hp) (Q : VK) (E : XK) (h : sp_pressed K A vs H Q E) : t_pressed K A E (endE Q) (L2.start N_pressed vs) H := by
  obtain ⟨B, G, a, xs, rfl, zs, ha, k, k2⟩ := h
  refine (?_ : N B G (fun H => t_pressed K A E (endE Q) (L2.start N_pressed [.ref a]) H)) H zs
  clear zs
  unfold t_pressed

  walk_at "sk stp"
  refine use_plain (xs := xs) ha (fun p1 hok => ?_) (fun h => k2 h)
  walk_at "sk stp"
  refine use_packed (xs := xs) (ha.sub (by walk_at "sk sub")) (fun B1 p2 _ sm1 => ?_) (fun h => absurd hok h)
  have e : pressedL xs = if (packedL xs).length < (plainL xs).length then packedL xs else plainL xs := rfl
  walk_at "sk stp"
  refine n_iteD (fun h => ?_) (fun h => ?_)
  · rw [if_pos (by omega)] at e
    walk_at "sk stp"
    rw [← e]
    exact n_sub (by walk_at "sk sub") (k _ p2 hok sm1)
  · rw [if_neg (by omega)] at e
    walk_at "sk stp"
    rw [← e]
    exact n_sub (by walk_at "sk sub") (k _ p1 hok sm1)
theorem raw_pressed {P : Program} {w : World} {K : PySem.W.Frag} {mg : Str → Option Value} {base : Heap} {A : Ads} {f : Addr} {fd : FuncData} (F : Fun K "pressed" "pressed" s_pressed f fd) (T : Txt K mg A) (O_plain : OkC P w K mg base (CXN P w) 5 "plain" ["block"] (sp_plain K A)) (O_packed : OkC P w K mg base (CXN P w) 5 "packed" ["block"] (sp_packed K A)) : FnOk P w K mg base (CXN P w) 6 f fd ["block"] (sp_pressed K A) := by
  refine okN F sc_pressed (fun vs H Q E h => len_pressed vs H Q E h) (fun cdv Ar outer s H vs Q E hr h => ⟨t_pressed K A E, ?_, pure_pressed T.fct vs H Q E h⟩)
  have nd := sc_pressed.nd
  exact (pss_cons (ps_set (i := 1) nd rfl (Or.inl rfl) (pe_cl (E := WE (fun cls d _ H => E cls d H)) O_plain (hr.mono (by decide)) (by rfl) (passN (L2N.takes_of rfl rfl rfl rfl)) (pa_cons (pv 0) pa_nil)))
    (pss_cons (ps_set (i := 2) nd rfl (Or.inl rfl) (pe_cl (E := WE (fun cls d _ H => E cls d H)) O_packed (hr.mono (by decide)) (by rfl) (passN (L2N.takes_of rfl rfl rfl rfl)) (pa_cons (pv 0) pa_nil)))
    (pss_cons (ps_if (pt_cmpR op_uLt (pe_callB call_uLen (by rfl) T.b_len boot_len (pa_cons (pv 2) pa_nil)) (pe_callB call_uLen (by rfl) T.b_len boot_len (pa_cons (pv 1) pa_nil)) (nomark _)) (pss_cons (ps_ret (pv 2))
    pss_nil) pss_nil)
    (pss_cons (ps_ret (pv 1))
    pss_nil))))
theorem use_pressed {K : PySem.W.Frag} {A : Ads} {B : Hp} {G : Own} {Q : VK} {E : XK} {a : Addr} {xs : List Int} (ha : Is B G a (.lst (xs.map V.int))) (zq : ∀ B' q, BlockOk xs → Same B B' → N B' ((q, .lst ((pressedL xs).map V.int)) :: G) (Q (.ref q))) (zq2 : ¬ BlockOk xs → N B G (fun H => E (.ref A.c_NoBlock) none H)) : N B G (fun H => sp_pressed K A [.ref a] H Q E) := fun zH zs => ⟨B, _, _, _, rfl, zs, ha, zq, zq2⟩

theorem intBits_spec {n : Int} (h : 0 < n) : 2 ^ (Builtin.Int.intBits n - 1) ≤ n ∧ n < 2 ^ Builtin.Int.intBits n := by
  have hp := bits_pos h
  constructor
  · apply Int.not_lt.mp
    intro hc
    have := intBits_lt (Int.le_of_lt h) hc
    omega
  · have h2 : Builtin.Int.intBits n ≤ Builtin.Int.intBits n := Nat.le_refl _
    rw [PySem.intBits_le_iff] at h2
    have e2 : ((2 : Int) ^ Builtin.Int.intBits n) = ((2 ^ Builtin.Int.intBits n : Nat) : Int) := by push_cast; rfl
    rw [e2]
    omega
theorem bitsN_one {n : Int} (h : 0 < n) : ∃ t, bitsN n (Builtin.Int.intBits n) = 1 :: t := by
  obtain ⟨h1, h2⟩ := intBits_spec h
  have hp := bits_pos h
  obtain ⟨w, hw⟩ := Nat.exists_eq_succ_of_ne_zero (Nat.ne_of_gt hp)
  rw [hw] at h1 h2 ⊢
  rw [Nat.succ_sub_one] at h1
  rw [bitsN]
  have hpw : (0 : Int) < 2 ^ w := Int.pow_pos (by decide)
  have e : n / 2 ^ w = 1 := by
    have e3 : (2 : Int) ^ (w + 1) = 2 ^ w * 2 := Int.pow_succ ..
    have h3 : n < 2 ^ w * 2 := by rw [← e3]; exact h2
    have h4 : n / 2 ^ w < 2 := Int.ediv_lt_of_lt_mul hpw (by rw [Int.mul_comm]; exact h3)
    have h5 : 1 ≤ n / 2 ^ w := Int.le_ediv_of_mul_le hpw (by rw [Int.one_mul]; exact h1)
    omega
  rw [e]
  exact ⟨_, rfl⟩
/-- the bits of a number by halves: noughts, a 1, as many bits more -/
theorem halv_split {n : Int} (h : 0 ≤ n) : ∃ (z : Nat) (r : List Int), halvL n = List.replicate z 0 ++ (1 :: r) ∧ r.length = z ∧ valB 0 (1 :: r) = n + 1 ∧ (halvL n).length = 2 * z + 1 := by
  obtain ⟨t, ht⟩ := bitsN_one (n := n + 1) (by omega)
  have hp := bits_pos (n := n + 1) (by omega)
  have hl := bitsN_len (n + 1) (Builtin.Int.intBits (n + 1))
  obtain ⟨h1, h2⟩ := intBits_spec (n := n + 1) (by omega)
  have hv := valB_bitsN (n := n + 1) (by omega) h2
  rw [ht] at hl hv
  rw [List.length_cons] at hl
  refine ⟨Builtin.Int.intBits (n + 1) - 1, t, ?_, by omega, hv, ?_⟩
  · unfold halvL halvesN; rw [ht]
  · unfold halvL halvesN; rw [ht, List.length_append, List.length_replicate, List.length_cons]; omega
theorem halvL_bits {n : Int} : IsBits (halvL n) := by
  intro b hb
  unfold halvL halvesN at hb
  rcases List.mem_append.mp hb with hb | hb
  · exact .inl (List.eq_of_mem_replicate hb)
  · exact bitsN_range _ _ b hb
theorem tokB_cons (X : List (Int × Int × Int)) (t : Tok') (ts : List Tok') : tokB X (t :: ts) = cdF X (symT t) ++ (backB t ++ tokB X ts) := by
  show (cdF X (symT t) ++ backB t) ++ tokB X ts = _
  rw [List.append_assoc]
theorem tokF_back {t : List Int} : ∀ (f at' : Nat), ∀ k ∈ tokF t f at', ∀ b l, k = .rep b l → b < t.length ∧ 1 ≤ b ∧ 3 ≤ l ∧ l < t.length
  | 0, _, k, h => nomatch h
  | f + 1, at', k, h => by
    rw [tokF_succ] at h
    split at h
    · rename_i hlt
      split at h
      · rcases List.mem_cons.mp h with rfl | h
        · intro b l e; cases e
        · exact tokF_back f _ k h
      · rename_i b l hb
        rcases List.mem_cons.mp h with rfl | h
        · have sp := bestN_spec t at' at'
          rw [hb] at sp
          have := runN_le t at' b
          intro b' l' e
          cases e
          obtain ⟨s1, s2, s3, s4, _⟩ := sp
          omega
        · exact tokF_back f _ k h
    · cases h
theorem tokL_back {t : List Int} {b l : Nat} (h : Tok'.rep b l ∈ tokL t) : b < t.length ∧ 1 ≤ b ∧ 3 ≤ l ∧ l < t.length := tokF_back _ _ _ h b l rfl
theorem bits_app {xs ys : List Int} (h : IsBits xs) (h' : IsBits ys) : IsBits (xs ++ ys) := fun b hb => (List.mem_append.mp hb).elim (h b) (h' b)
theorem tabR_bits : ∀ (cs : List (Int × Int)) (due : Int), IsBits (tabR due cs)
  | [], _ => fun b h => nomatch h
  | c :: r, due => bits_app (bits_app halvL_bits halvL_bits) (tabR_bits r _)
theorem tokB_bits (X : List (Int × Int × Int)) (ts : List Tok') : IsBits (tokB X ts) := by
  intro b hb
  obtain ⟨t, _, hb⟩ := List.mem_flatMap.mp hb
  rcases List.mem_append.mp hb with hb | hb
  · exact cdF_bits _ _ b hb
  · cases t with
    | mark m => cases hb
    | rep x l => exact bitsN_range _ _ b hb
theorem packedB_bits {xs : List Int} (_ : BlockOk xs) : IsBits (packedB xs) :=
  bits_app (bits_app (bits_app (fun b hb => .inr (List.mem_singleton.mp hb)) halvL_bits) (bits_app halvL_bits (tabR_bits _ _))) (tokB_bits _ _)

/-! reading bits: the model -/
def rdH (rs : List Int) (u : Nat) : Option (Int × Nat) :=
  if u + 2 * lz (rs.drop u) + 1 ≤ rs.length then some (valB 0 ((rs.drop (u + lz (rs.drop u))).take (lz (rs.drop u) + 1)) - 1, u + (2 * lz (rs.drop u) + 1)) else none
def rdTab (rs : List Int) : Nat → Nat → Int → List (Int × Int) → Option (List (Int × Int) × Nat)
  | 0, u, _, acc => some (acc, u)
  | n + 1, u, due, acc => match rdH rs u with
    | none => none
    | some (a, u1) => if 300 < due + a then none else match rdH rs u1 with
      | none => none
      | some (b, u2) => rdTab rs n u2 (due + a + 1) (acc ++ [(due + a, 1 + b)])
def rdTable (rs : List Int) (u : Nat) : Option (List (Int × Int) × Nat) := match rdH rs u with
  | none => none
  | some (n, u1) => rdTab rs (1 + n).toNat u1 0 []
theorem rdH_ok {rs : List Int} (hb : IsBits rs) {u : Nat} {a : Int} {v : Nat} (h : rdH rs u = some (a, v)) : 0 ≤ a ∧ v ≤ rs.length ∧ u < v := by
  unfold rdH at h
  split at h
  · rename_i hl
    cases h
    refine ⟨?_, by omega, by omega⟩
    have z3 := lz_end (rs.drop u)
    have z1 := lz_le (rs.drop u)
    rw [List.length_drop] at z1 z3
    have z3 := z3 (by omega)
    rw [getD_drop] at z3
    generalize lz (rs.drop u) = z at *
    have hlt : u + z < rs.length := by omega
    rw [List.drop_eq_getElem_cons hlt, List.take_succ_cons]
    rw [List.getD_eq_getElem?_getD, List.getElem?_eq_getElem hlt, Option.getD_some] at z3
    have h1 : rs[u + z] = 1 := (hb _ (List.getElem_mem hlt)).resolve_left z3
    rw [h1]
    have e : valB 0 (1 :: (rs.drop (u + z + 1)).take z) = valB (2 * 0 + 1) ((rs.drop (u + z + 1)).take z) := rfl
    rw [e, valB_acc]
    have h2 := (valB_range (bs := (rs.drop (u + z + 1)).take z) fun b hm => hb b (List.mem_of_mem_drop (List.mem_of_mem_take hm))).1
    have h3 : (0 : Int) < 2 ^ ((rs.drop (u + z + 1)).take z).length := Int.pow_pos (by decide)
    omega
  · cases h
def dictX (cs : List (Int × Int)) : List (List Key × V) := cs.map fun c => (ksI (cdF (codesX cs) c.1), V.int c.1)
theorem putK_new {c : List (List Key × V)} {k : List Key} {v : V} (h : ∀ e ∈ c, e.1 ≠ k) : putK c k v = c ++ [(k, v)] := by
  have e : (c.any fun kv => decide (kv.1 = k)) = false := by
    rw [List.any_eq_false]
    exact fun x hx => by simpa using h x hx
  unfold putK
  rw [e]
  rfl
theorem ksI_inj {a b : List Int} (h : ksI a = ksI b) : a = b := by
  have := congrArg (List.map fun k : Key => match k with | .inl i => i | .inr _ => 0) h
  rw [List.map_map, List.map_map] at this
  have e : ∀ l : List Int, l.map ((fun k : Key => match k with | .inl i => i | .inr _ => 0) ∘ Sum.inl) = l := fun l => (List.map_congr_left fun x _ => rfl).trans (List.map_id l)
  rw [e, e] at this
  exact this
theorem dictX_new {cs : List (Int × Int)} (hok : LensOk cs) {i : Nat} (hi : i < cs.length) : ∀ e ∈ (cs.take i).map (fun c => (ksI (cdF (codesX cs) c.1), V.int c.1)), e.1 ≠ ksI (cdF (codesX cs) cs[i].1) := by
  intro e he hh
  obtain ⟨d, hd, rfl⟩ := List.mem_map.mp he
  obtain ⟨j, hj, e2⟩ := List.mem_iff_getElem.mp hd
  rw [List.length_take] at hj
  rw [List.getElem_take] at e2
  have h1 := (List.pairwise_iff_getElem.mp (lensRun_all hok.2.1).2) j i (by rw [List.length_map]; omega) (by rw [List.length_map]; exact hi) (by omega)
  rw [List.getElem_map, List.getElem_map, e2] at h1
  have hc := ksI_inj hh
  refine pref_free hok (List.mem_of_mem_take hd) (List.getElem_mem hi) (by omega) ?_
  rw [hc, List.take_length]
def codeAt (cs : List (Int × Int)) (k : List Int) : Option Int := (cs.find? fun c => decide (cdF (codesX cs) c.1 = k)).map (·.1)
theorem valV_dictX (cs : List (Int × Int)) (k : List Int) : valV (dictX cs) (ksI k) = (codeAt cs k).map V.int := by
  unfold valV dictX codeAt
  have : ∀ (F : Int → List Int) (l : List (Int × Int)), ((l.map fun c => (ksI (F c.1), V.int c.1)).find? fun kv => decide (kv.1 = ksI k)).map (·.2) = ((l.find? fun c => decide (F c.1 = k)).map (·.1)).map V.int := by
    intro F l
    induction l with
    | nil => rfl
    | cons c r ih =>
      rw [List.map_cons, List.find?_cons, List.find?_cons]
      by_cases h : F c.1 = k
      · rw [decide_eq_true (show ksI (F c.1) = ksI k by rw [h]), decide_eq_true h]; rfl
      · rw [decide_eq_false (show ¬ ksI (F c.1) = ksI k from fun e => h (ksI_inj e)), decide_eq_false h]; exact ih
  exact this _ cs
def rdCode (cs : List (Int × Int)) (rs : List Int) : Nat → Nat → List Int → Option (Int × Nat)
  | 0, _, _ => none
  | f + 1, u, k => match codeAt cs k with
    | some s => some (s, u)
    | none => if u + 1 ≤ rs.length then rdCode cs rs f (u + 1) (k ++ [rs.getD u 0]) else none
def tokOf (rs : List Int) : Option (Int × Nat) → Option (TokZ × Nat)
  | none => none
  | some (s, v) => if s ≤ 255 then some (.mark s, v) else if v + 6 ≤ rs.length then some (.rep (valB 0 ((rs.drop v).take 6)) (s - 253), v + 6) else none
def rdTok (cs : List (Int × Int)) (rs : List Int) (u : Nat) : Option (TokZ × Nat) :=
  if u + 1 ≤ rs.length then tokOf rs (rdCode cs rs (rs.length - u) (u + 1) [rs.getD u 0]) else none
theorem take_one {rs : List Int} {u : Nat} (h : u + 1 ≤ rs.length) : valB 0 ((rs.drop u).take 1) = rs.getD u 0 := by
  rw [List.drop_eq_getElem_cons (show u < rs.length by omega), List.take_succ_cons, List.take_zero, List.getD_eq_getElem?_getD, List.getElem?_eq_getElem (show u < rs.length by omega)]
  show 2 * 0 + rs[u] = rs[u]
  omega
noncomputable def rdToks (cs : List (Int × Int)) (rs : List Int) (size : Nat) : Nat → Nat → List TokZ → List Int → Option (List Int)
  | 0, _, _, _ => none
  | f + 1, u, ts, t => if t.length < size then match rdTok cs rs u with
      | none => none
      | some (k, v) => match layT [] (ts ++ [k]) with
        | none => none
        | some t' => rdToks cs rs size f v (ts ++ [k]) t'
    else some t
def marksAt (rs : List Int) (u n : Nat) : List Int := (List.range n).map fun i => valB 0 ((rs.drop (u + 8 * i)).take 8)
open Classical in
noncomputable def rdRest (rs : List Int) (size : Nat) : Option (List (Int × Int) × Nat) → Option (List Int)
  | none => none
  | some (cs, v) => if LensOk cs then rdToks cs rs size (size + 1) v [] [] else none
theorem rdRest_ok {rs : List Int} {size : Nat} {cs : List (Int × Int)} {v : Nat} (h : LensOk cs) : rdRest rs size (some (cs, v)) = rdToks cs rs size (size + 1) v [] [] := if_pos h
theorem rdRest_bad {rs : List Int} {size : Nat} {o : Option (List (Int × Int) × Nat)} (h : ∀ cs v, o = some (cs, v) → ¬ LensOk cs) : rdRest rs size o = none := by
  match o with
  | none => rfl
  | some (cs, v) => exact if_neg (h cs v rfl)
noncomputable def rdBody (rs : List Int) (n : Int) (u : Nat) : Option (List Int) :=
  if 48 < 1 + n then none else if rs.getD 0 0 = 0 then (if u + 8 * (1 + n).toNat ≤ rs.length then some (marksAt rs u (1 + n).toNat) else none) else rdRest rs (1 + n).toNat (rdTable rs u)
noncomputable def rdHead (rs : List Int) : Option (Int × Nat) → Option (List Int)
  | none => none
  | some (n, u) => rdBody rs n u
noncomputable def rdBlock (rs : List Int) : Option (List Int) := if 1 ≤ rs.length then rdHead rs (rdH rs 1) else none
theorem rdTab_ok {rs : List Int} (hb : IsBits rs) : ∀ (n u : Nat) (due : Int) (acc cs : List (Int × Int)) (v : Nat), rdTab rs n u due acc = some (cs, v) → u ≤ rs.length → 0 ≤ due → (∀ c ∈ acc, 0 ≤ c.1 ∧ c.1 ≤ 300) → v ≤ rs.length ∧ ∀ c ∈ cs, 0 ≤ c.1 ∧ c.1 ≤ 300
  | 0, u, due, acc, cs, v, h, hu, hd, hc => by
    rw [rdTab] at h
    cases h
    exact ⟨hu, hc⟩
  | n + 1, u, due, acc, cs, v, h, hu, hd, hc => by
    rw [rdTab] at h
    split at h
    · cases h
    rename_i a u1 e1
    split at h
    · cases h
    split at h
    · cases h
    rename_i b u2 e2
    have z1 := rdH_ok hb e1
    have z2 := rdH_ok hb e2
    refine rdTab_ok hb n u2 _ _ cs v h z2.2.1 (by omega) fun c hm => ?_
    rcases List.mem_append.mp hm with hm | hm
    · exact hc c hm
    · rw [List.mem_singleton.mp hm]
      show 0 ≤ due + a ∧ due + a ≤ 300
      omega
theorem rdTable_ok {rs : List Int} (hb : IsBits rs) {u : Nat} {cs : List (Int × Int)} {v : Nat} (h : rdTable rs u = some (cs, v)) : v ≤ rs.length ∧ ∀ c ∈ cs, 0 ≤ c.1 ∧ c.1 ≤ 300 := by
  unfold rdTable at h
  split at h
  · cases h
  rename_i n u1 e
  exact rdTab_ok hb _ _ _ _ _ _ h (rdH_ok hb e).2.1 (Int.le_refl _) (by intro c hm; cases hm)
theorem codeAt_mem {cs : List (Int × Int)} {k : List Int} {s : Int} (h : codeAt cs k = some s) : ∃ c ∈ cs, c.1 = s ∧ cdF (codesX cs) c.1 = k := by
  unfold codeAt at h
  rw [Option.map_eq_some_iff] at h
  obtain ⟨c, h1, h2⟩ := h
  exact ⟨c, List.mem_of_find?_eq_some h1, h2, of_decide_eq_true (List.find?_some (p := fun c : Int × Int => decide (cdF (codesX cs) c.1 = k)) h1)⟩
theorem rdCode_ok {cs : List (Int × Int)} {rs : List Int} : ∀ (f u : Nat) (k : List Int) (s : Int) (v : Nat), rdCode cs rs f u k = some (s, v) → u ≤ rs.length → v ≤ rs.length ∧ ∃ c ∈ cs, c.1 = s
  | 0, _, _, _, _, h, _ => nomatch h
  | f + 1, u, k, s, v, h, hu => by
    rw [rdCode] at h
    split at h
    · rename_i sy e
      cases h
      obtain ⟨c, hc, e, _⟩ := codeAt_mem e
      exact ⟨hu, c, hc, e⟩
    · split at h
      · rename_i hl
        exact rdCode_ok f _ _ s v h hl
      · cases h
theorem rdTok_ok {cs : List (Int × Int)} {rs : List Int} {u v : Nat} {tk : TokZ} (h : rdTok cs rs u = some (tk, v)) : v ≤ rs.length ∧ ∃ c ∈ cs, (tk = .mark c.1 ∧ c.1 ≤ 255) ∨ ∃ b, tk = .rep b (c.1 - 253) ∧ 255 < c.1 := by
  unfold rdTok at h
  split at h
  · rename_i hl
    cases e : rdCode cs rs (rs.length - u) (u + 1) [rs.getD u 0] with
    | none => rw [e] at h; cases h
    | some sv =>
      obtain ⟨s, w⟩ := sv
      rw [e] at h
      dsimp only [tokOf] at h
      obtain ⟨h1, c, hc, rfl⟩ := rdCode_ok _ _ _ _ _ e hl
      split at h
      · rename_i h2
        cases h
        exact ⟨h1, c, hc, .inl ⟨rfl, h2⟩⟩
      · split at h
        · rename_i h3
          cases h
          exact ⟨h3, c, hc, .inr ⟨_, rfl, by omega⟩⟩
        · cases h
  · cases h
/-! what a block's bits say when they are read -/
theorem drop_app {rs bs post : List Int} {u : Nat} (h : rs.drop u = bs ++ post) : rs.drop (u + bs.length) = post := by
  rw [← List.drop_drop, h, List.drop_left]
theorem drop_le {rs bs post : List Int} {u : Nat} (h : rs.drop u = bs ++ post) (h0 : 0 < bs.length) : u + bs.length ≤ rs.length := by
  have := congrArg List.length h
  rw [List.length_drop, List.length_append] at this
  omega
theorem rdH_halv {rs post : List Int} {u : Nat} {n : Int} (hn : 0 ≤ n) (h : rs.drop u = halvL n ++ post) : rdH rs u = some (n, u + (halvL n).length) := by
  obtain ⟨z, r, e, hr, hv, hl⟩ := halv_split hn
  have hle := drop_le h (by omega)
  have h2 : rs.drop u = List.replicate z 0 ++ ((1 :: r) ++ post) := by rw [h, e, List.append_assoc]
  have hz : lz (rs.drop u) = z := by rw [h2, lz_app, List.cons_append, lz, if_neg (by decide)]; rfl
  have hd := drop_app h2
  rw [List.length_replicate] at hd
  rw [rdH, hz, if_pos (by omega), hd, List.take_left' (by rw [List.length_cons, hr]), hv, hl, Int.add_sub_cancel]
theorem rdTab_tabR {rs post : List Int} : ∀ (cs : List (Int × Int)) (u : Nat) (due : Int) (acc : List (Int × Int)), lensRun (due - 1) cs → (∀ c ∈ cs, c.1 ≤ 300) → rs.drop u = tabR due cs ++ post → rdTab rs cs.length u due acc = some (acc ++ cs, u + (tabR due cs).length)
  | [], u, due, acc, _, _, _ => by rw [List.length_nil, rdTab, List.append_nil]; rfl
  | c :: r, u, due, acc, hr, hs, h => by
    obtain ⟨r1, r2, r3, r4⟩ := hr
    have h1 : rs.drop u = halvL (c.1 - due) ++ (halvL (c.2 - 1) ++ (tabR (c.1 + 1) r ++ post)) := by rw [h, tabR, List.append_assoc, List.append_assoc]
    have h2 := drop_app h1
    have h3 := drop_app h2
    have e1 := rdH_halv (by omega) h1
    have e2 := rdH_halv (by omega) h2
    have ih := rdTab_tabR r _ (c.1 + 1) (acc ++ [c]) (by rw [show c.1 + 1 - 1 = c.1 by omega]; exact r4) (fun d hd => hs d (List.mem_cons_of_mem _ hd)) h3
    have hc := hs c List.mem_cons_self
    rw [List.length_cons, rdTab, e1]
    dsimp only
    rw [if_neg (by omega), e2]
    dsimp only
    rw [show due + (c.1 - due) = c.1 by omega, show (1 : Int) + (c.2 - 1) = c.2 by omega]
    rw [show acc ++ [(c.1, c.2)] = acc ++ [c] from rfl, ih, tabR, List.length_append, List.length_append, List.append_assoc]
    rw [show u + (halvL (c.1 - due)).length + (halvL (c.2 - 1)).length + (tabR (c.1 + 1) r).length = u + ((halvL (c.1 - due)).length + (halvL (c.2 - 1)).length + (tabR (c.1 + 1) r).length) by omega]
    rfl
theorem rdTable_tableB {rs post : List Int} {u : Nat} {cs : List (Int × Int)} (hok : LensOk cs) (hs : ∀ c ∈ cs, c.1 ≤ 300) (h : rs.drop u = tableB cs ++ post) : rdTable rs u = some (cs, u + (tableB cs).length) := by
  have hne : 0 < cs.length := List.length_pos_iff.mpr hok.1
  have h1 : rs.drop u = halvL ((cs.length : Int) - 1) ++ (tabR 0 cs ++ post) := by rw [h, tableB, List.append_assoc]
  have e1 := rdH_halv (by omega) h1
  have e2 := rdTab_tabR cs _ 0 [] (show lensRun (0 - 1) cs from hok.2.1) hs (drop_app h1)
  rw [rdTable, e1]
  show rdTab rs (1 + ((cs.length : Int) - 1)).toNat _ 0 [] = _
  rw [show (1 + ((cs.length : Int) - 1)).toNat = cs.length by omega, e2, tableB, List.length_append, List.nil_append, Nat.add_assoc]
theorem codeAt_of {cs : List (Int × Int)} (hok : LensOk cs) {c : Int × Int} (hc : c ∈ cs) : codeAt cs (cdF (codesX cs) c.1) = some c.1 := by
  cases e : codeAt cs (cdF (codesX cs) c.1) with
  | none =>
    unfold codeAt at e
    rw [Option.map_eq_none_iff, List.find?_eq_none] at e
    exact absurd (decide_eq_true rfl) (e c hc)
  | some s =>
    obtain ⟨d, hd, rfl, h⟩ := codeAt_mem e
    by_cases hne : d.1 = c.1
    · rw [hne]
    · exact absurd (by rw [h, List.take_length]) (pref_free hok hd hc hne)
theorem codeAt_part {cs : List (Int × Int)} (hok : LensOk cs) {c : Int × Int} (hc : c ∈ cs) {k k' : List Int} (h : k ++ k' = cdF (codesX cs) c.1) (h' : k' ≠ []) : codeAt cs k = none := by
  cases e : codeAt cs k with
  | none => rfl
  | some s =>
    obtain ⟨d, hd, rfl, e2⟩ := codeAt_mem e
    by_cases hne : d.1 = c.1
    · rw [hne, ← h] at e2
      have h1 := congrArg List.length e2
      rw [List.length_append] at h1
      have := List.length_pos_iff.mpr h'
      omega
    · refine absurd ?_ (pref_free hok hd hc hne)
      rw [e2, ← h, List.take_left]
theorem rdCode_read {cs : List (Int × Int)} {rs post : List Int} (hok : LensOk cs) {c : Int × Int} (hc : c ∈ cs) : ∀ (f : Nat) (k' : List Int) (u : Nat) (k : List Int), k ++ k' = cdF (codesX cs) c.1 → rs.drop u = k' ++ post → k'.length < f → rdCode cs rs f u k = some (c.1, u + k'.length)
  | 0, _, _, _, _, _, h => absurd h (Nat.not_lt_zero _)
  | f + 1, [], u, k, e, hd, hf => by
    rw [List.append_nil] at e
    rw [rdCode, e, codeAt_of hok hc]; rfl
  | f + 1, x :: r, u, k, e, hd, hf => by
    have hl := drop_le hd (by rw [List.length_cons]; omega)
    rw [List.length_cons] at hl hf
    have hx : rs.getD u 0 = x := by
      have := getD_drop rs u 0
      rw [hd] at this
      exact this.symm
    rw [rdCode, codeAt_part hok hc e (List.cons_ne_nil _ _)]
    dsimp only
    rw [if_pos (by omega), hx, rdCode_read hok hc f r (u + 1) (k ++ [x]) (by rw [List.append_assoc]; exact e) (drop_app (bs := [x]) hd) (by omega), List.length_cons]
    rw [show u + 1 + r.length = u + (r.length + 1) by omega]
def TokW : Tok' → Prop
  | .mark m => m ≤ 255
  | .rep b l => b < 64 ∧ 3 ≤ l
theorem rdTok_read {cs : List (Int × Int)} {rs post : List Int} {u : Nat} (hok : LensOk cs) {t : Tok'} (ht : symT t ∈ cs.map (·.1)) (hw : TokW t) (h : rs.drop u = (cdF (codesX cs) (symT t) ++ backB t) ++ post) : rdTok cs rs u = some (toZ t, u + (cdF (codesX cs) (symT t) ++ backB t).length) := by
  obtain ⟨c, hc, e⟩ := List.mem_map.mp ht
  have h1 := cdF_len hok hc
  have h2 := ((lensRun_all hok.2.1).1 c hc).2
  have e : c.1 = symT t := e
  rw [e] at h1
  rw [List.append_assoc] at h
  have hle := drop_le h (by omega)
  have hback := drop_app h
  cases hk : cdF (codesX cs) (symT t) with
  | nil => rw [hk, List.length_nil] at h1; omega
  | cons x k' =>
    rw [hk] at h hle hback
    have hx : rs.getD u 0 = x := by
      have := getD_drop rs u 0
      rw [h] at this
      exact this.symm
    have h3 : rs.drop (u + 1) = k' ++ (backB t ++ post) := drop_app (bs := [x]) h
    rw [List.length_cons] at hle hback
    have h4 := rdCode_read hok hc (rs.length - u) k' (u + 1) [x] (by rw [e, hk]; rfl) h3 (by omega)
    rw [rdTok, if_pos (by omega), hx, h4, e]
    rw [show u + 1 + k'.length = u + (k'.length + 1) by omega]
    cases t with
    | mark m =>
      have hm : m ≤ 255 := hw
      show (if m ≤ 255 then _ else _) = _
      rw [if_pos hm]
      show some (TokZ.mark m, _) = some (TokZ.mark m, _)
      rw [List.length_append]; rfl
    | rep b l =>
      obtain ⟨w1, w2⟩ := hw
      have h6 : (bitsN (b : Int) 6).length = 6 := bitsN_len _ _
      have h5 := drop_le hback (by show 0 < (bitsN (b : Int) 6).length; omega)
      have h5 : u + (k'.length + 1) + (bitsN (b : Int) 6).length ≤ rs.length := h5
      show (if (253 + (l : Int)) ≤ 255 then _ else if u + (k'.length + 1) + 6 ≤ rs.length then some (TokZ.rep (valB 0 ((rs.drop (u + (k'.length + 1))).take 6)) (253 + (l : Int) - 253), _) else none) = _
      rw [if_neg (by omega), if_pos (by omega), hback]
      show some (TokZ.rep (valB 0 ((bitsN (b : Int) 6 ++ post).take 6)) (253 + (l : Int) - 253), _) = some (TokZ.rep b l, _)
      rw [List.take_left' h6, valB_bitsN (by omega) (by show (b : Int) < 64; omega), show 253 + (l : Int) - 253 = l by omega, List.length_append]
      show _ = some (TokZ.rep b l, u + ((x :: k').length + (bitsN (b : Int) 6).length))
      rw [h6, List.length_cons, Nat.add_assoc u]
theorem rdToks_read {cs : List (Int × Int)} {rs post xs : List Int} (hok : LensOk cs) : ∀ (us : List Tok') (ts : List TokZ) (t : List Int) (f u : Nat), (∀ k ∈ us, symT k ∈ cs.map (·.1) ∧ TokW k) → layT [] ts = some t → layT t (us.map toZ) = some xs → rs.drop u = tokB (codesX cs) us ++ post → us.length < f → rdToks cs rs xs.length f u ts t = some xs
  | _, _, _, 0, _, _, _, _, _, h => absurd h (Nat.not_lt_zero _)
  | [], ts, t, f + 1, u, _, _, h, _, _ => by
    cases h
    rw [rdToks, if_neg (Nat.lt_irrefl _)]
  | k :: us, ts, t, f + 1, u, hk, h0, h, hd, hf => by
    have hlen := lay_len _ _ _ h
    have hcnt := lay_cnt _ _ _ h
    rw [List.map_cons, List.length_cons] at hcnt
    rw [List.map_cons] at hlen
    rw [List.length_cons] at hf
    obtain ⟨k1, k2⟩ := hk k List.mem_cons_self
    have h1 : rs.drop u = (cdF (codesX cs) (symT k) ++ backB k) ++ (tokB (codesX cs) us ++ post) := by rw [hd, tokB_cons]; simp only [List.append_assoc]
    have h2 := drop_app h1
    have e1 := rdTok_read hok k1 k2 h1
    rw [rdToks, if_pos (by omega), e1]
    dsimp only
    have h' : (match lay1 t (toZ k) with | none => none | some t' => layT t' (us.map toZ)) = some xs := h
    cases hy : lay1 t (toZ k) with
    | none => rw [hy] at h'; cases h'
    | some t' =>
      rw [hy] at h'
      rw [layT_snoc (toZ k) ts [] t t' h0 hy]
      exact rdToks_read hok us (ts ++ [toZ k]) t' f _ (fun x hx => hk x (List.mem_cons_of_mem _ hx)) (layT_snoc (toZ k) ts [] t t' h0 hy) h' h2 (by omega)
theorem marksAt_succ (rs : List Int) (u n : Nat) : marksAt rs u (n + 1) = valB 0 ((rs.drop u).take 8) :: marksAt rs (u + 8) n := by
  unfold marksAt
  rw [List.range_succ_eq_map, List.map_cons, List.map_map]
  congr 1
  apply List.map_congr_left
  intro i _
  show valB 0 ((rs.drop (u + 8 * (i + 1))).take 8) = valB 0 ((rs.drop (u + 8 + 8 * i)).take 8)
  rw [show u + 8 * (i + 1) = u + 8 + 8 * i by omega]
theorem marksAt_row8 {rs post : List Int} : ∀ (xs : List Int) (u : Nat), (∀ d ∈ xs, 0 ≤ d ∧ d ≤ 255) → rs.drop u = row8 xs ++ post → marksAt rs u xs.length = xs
  | [], _, _, _ => rfl
  | x :: r, u, hx, h => by
    have h1 : rs.drop u = bitsN x 8 ++ (row8 r ++ post) := by rw [h]; show (bitsN x 8 ++ row8 r) ++ post = _; rw [List.append_assoc]
    have h2 := drop_app h1
    rw [bitsN_len] at h2
    have hb := hx x List.mem_cons_self
    rw [List.length_cons, marksAt_succ, h1, List.take_left' (bitsN_len x 8), valB_bitsN hb.1 (by show x < 256; omega), marksAt_row8 r (u + 8) (fun d hd => hx d (List.mem_cons_of_mem _ hd)) h2]
theorem rdBlock_plainB {xs : List Int} (h : BlockOk xs) (post : List Int) : rdBlock (plainB xs ++ post) = some xs := by
  obtain ⟨h1, h2, h3⟩ := h
  have e : plainB xs ++ post = 0 :: (halvL ((xs.length : Int) - 1) ++ (row8 xs ++ post)) := by rw [plainB, List.cons_append, List.append_assoc]
  rw [e]
  generalize hR : 0 :: (halvL ((xs.length : Int) - 1) ++ (row8 xs ++ post)) = rs
  have d1 : rs.drop 1 = halvL ((xs.length : Int) - 1) ++ (row8 xs ++ post) := by rw [← hR]; rfl
  have e1 := rdH_halv (by omega) d1
  have d2 := drop_app d1
  have hr := row8_len xs
  have hle := drop_le d2 (by omega)
  have hg : rs.getD 0 0 = 0 := by rw [← hR]; rfl
  have en : (1 + ((xs.length : Int) - 1)).toNat = xs.length := by omega
  rw [rdBlock, if_pos (by omega), e1, rdHead, rdBody, if_neg (by omega), if_pos hg, en, if_pos (by omega), marksAt_row8 xs _ (isT_iff.mp h1) d2]
theorem plainB_bits (xs : List Int) : IsBits (plainB xs) := by
  intro b hb
  rcases List.mem_cons.mp hb with rfl | hb
  · exact .inl rfl
  rcases List.mem_append.mp hb with hb | hb
  · exact halvL_bits b hb
  · obtain ⟨x, _, hb⟩ := List.mem_flatMap.mp hb
    exact bitsN_range _ _ b hb
theorem tokF_mark {t : List Int} (ht : ∀ d ∈ t, 0 ≤ d ∧ d ≤ 255) : ∀ (f at' : Nat) (m : Int), Tok'.mark m ∈ tokF t f at' → m ≤ 255
  | 0, _, _, h => nomatch h
  | f + 1, at', m, h => by
    rw [tokF_succ] at h
    split at h
    · rename_i hlt
      split at h
      · rcases List.mem_cons.mp h with e | h
        · cases e
          exact (getD_all (P := fun d => 0 ≤ d ∧ d ≤ 255) ht (by decide)).2
        · exact tokF_mark ht f _ m h
      · rcases List.mem_cons.mp h with e | h
        · cases e
        · exact tokF_mark ht f _ m h
    · cases h
theorem toks_w {xs : List Int} (h : BlockOk xs) : ∀ k ∈ tokL xs, symT k ∈ (lensX xs).map (·.1) ∧ TokW k := fun k hk => by
  refine ⟨(lensX_ok h).2.2.2 k hk, ?_⟩
  obtain ⟨h1, h2, h3⟩ := h
  cases k with
  | mark m => exact (tokF_mark (isT_iff.mp h1) _ _ m hk)
  | rep b l =>
    have := tokL_back hk
    exact ⟨by omega, by omega⟩
theorem lens_low {xs : List Int} (h : BlockOk xs) : ∀ c ∈ lensX xs, c.1 ≤ 300 := fun c hc => by
  have hf : (lensX xs).map (·.1) = (cntL ((tokL xs).map symT)).map (·.1) := by
    unfold lensX lensL; rw [List.map_map]; rfl
  have hm : c.1 ∈ (cntL ((tokL xs).map symT)).map (·.1) := by rw [← hf]; exact List.mem_map.mpr ⟨c, hc, rfl⟩
  obtain ⟨d, hd, e⟩ := List.mem_map.mp hm
  obtain ⟨k, hk, e2⟩ := List.mem_map.mp (cntL_mem hd).1
  have hw := (toks_w h k hk).2
  obtain ⟨h1, h2, h3⟩ := h
  rw [← e, ← e2]
  cases k with
  | mark m => have : m ≤ 255 := hw; show m ≤ 300; omega
  | rep b l => have := tokL_back hk; show 253 + (l : Int) ≤ 300; omega
theorem BlockOk.text {xs : List Int} (h : BlockOk xs) : IsText xs := fun d hd => by have := isT_iff.mp h.1 d hd; omega
theorem rdBlock_packedB {xs : List Int} (h : BlockOk xs) (post : List Int) : rdBlock (packedB xs ++ post) = some xs := by
  obtain ⟨k1, k2, k3, k4⟩ := lensX_ok h
  have hlow := lens_low h
  have hw := toks_w h
  have hlay := (lay_tokL h.text).1
  have htl := tokL_le xs
  obtain ⟨h1, h2, h3⟩ := h
  have e : packedB xs ++ post = 1 :: (halvL ((xs.length : Int) - 1) ++ (tableB (lensX xs) ++ (tokB (codesX (lensX xs)) (tokL xs) ++ post))) := by
    rw [packedB, List.append_assoc, List.append_assoc, List.append_assoc]; rfl
  rw [e]
  generalize hR : 1 :: (halvL ((xs.length : Int) - 1) ++ (tableB (lensX xs) ++ (tokB (codesX (lensX xs)) (tokL xs) ++ post))) = rs
  have d1 : rs.drop 1 = halvL ((xs.length : Int) - 1) ++ (tableB (lensX xs) ++ (tokB (codesX (lensX xs)) (tokL xs) ++ post)) := by rw [← hR]; rfl
  have e1 := rdH_halv (by omega) d1
  have d2 := drop_app d1
  have e2 := rdTable_tableB k1 hlow d2
  have d3 := drop_app d2
  have hg : ¬ rs.getD 0 0 = 0 := by rw [← hR]; show ¬ (1 : Int) = 0; decide
  have hl1 : 1 ≤ rs.length := by rw [← hR, List.length_cons]; omega
  have en : (1 + ((xs.length : Int) - 1)).toNat = xs.length := by omega
  rw [rdBlock, if_pos hl1, e1, rdHead, rdBody, if_neg (by omega), if_neg hg, en, e2, rdRest_ok k1]
  exact rdToks_read k1 (tokL xs) [] [] _ _ hw rfl hlay d3 (by omega)
theorem pressedB (xs : List Int) (h : BlockOk xs) : ∃ bs, IsBits bs ∧ pressedL xs = laidL bs ∧ ∀ post, rdBlock (bs ++ post) = some xs := by
  unfold pressedL
  split
  · exact ⟨packedB xs, packedB_bits h, rfl, rdBlock_packedB h⟩
  · exact ⟨plainB xs, plainB_bits xs, rfl, rdBlock_plainB h⟩
theorem pressed_low {xs : List Int} (h : BlockOk xs) : ∀ x ∈ pressedL xs, 0 ≤ x ∧ x < 128 := by
  obtain ⟨bs, h1, h2, _⟩ := pressedB xs h
  rw [h2]
  exact laidL_low h1
/-- .. and so with whatever stands behind them -/
theorem rdBlock_behind {xs : List Int} (h : BlockOk xs) (more : List Int) : rdBlock (rowB (pressedL xs ++ more)) = some xs := by
  obtain ⟨bs, h1, h2, h3⟩ := pressedB xs h
  have e : rowB (laidL bs ++ more) = rowB (laidL bs) ++ rowB more := List.flatMap_append
  rw [h2, e, rowB_laidL h1, List.append_assoc]
  exact h3 _
theorem rdBlock_pressed {xs : List Int} (h : BlockOk xs) : rdBlock (rowB (pressedL xs)) = some xs := by
  have := rdBlock_behind h []
  rwa [List.append_nil] at this
/-! what is read is a text -/
theorem copyN_text {t : List Int} (h : ∀ d ∈ t, 0 ≤ d ∧ d ≤ 255) (b : Nat) : ∀ n, ∀ d ∈ copyN t b n, 0 ≤ d ∧ d ≤ 255
  | 0, d, hd => h d hd
  | n + 1, d, hd => by
    have ih := copyN_text h b n
    rcases List.mem_append.mp hd with hd | hd
    · exact ih d hd
    · rw [List.mem_singleton.mp hd]
      exact getD_all (P := fun d => 0 ≤ d ∧ d ≤ 255) ih (by decide)
theorem layT_text : ∀ (ts : List TokZ) (t t' : List Int), (∀ d ∈ t, 0 ≤ d ∧ d ≤ 255) → layT t ts = some t' → ∀ d ∈ t', 0 ≤ d ∧ d ≤ 255
  | [], t, t', h, e => by cases e; exact h
  | .mark m :: r, t, t', h, e => by
    have e' : (match lay1 t (.mark m) with | none => none | some t' => layT t' r) = some t' := e
    by_cases hm : 0 ≤ m ∧ m ≤ 255
    · rw [show lay1 t (.mark m) = some (t ++ [m]) from if_pos hm] at e'
      refine layT_text r _ _ (fun d hd => ?_) e'
      rcases List.mem_append.mp hd with hd | hd
      · exact h d hd
      · rw [List.mem_singleton.mp hd]; exact hm
    · rw [show lay1 t (.mark m) = none from if_neg hm] at e'
      cases e'
  | .rep b l :: r, t, t', h, e => by
    have e' : (match lay1 t (.rep b l) with | none => none | some t' => layT t' r) = some t' := e
    by_cases hm : (1 ≤ b ∧ b ≤ t.length) ∧ 3 ≤ l
    · rw [show lay1 t (.rep b l) = some (copyN t b.toNat l.toNat) from if_pos hm] at e'
      exact layT_text r _ _ (copyN_text h _ _) e'
    · rw [show lay1 t (.rep b l) = none from if_neg hm] at e'
      cases e'
theorem rdToks_text {cs : List (Int × Int)} {rs : List Int} {size : Nat} : ∀ (f u : Nat) (ts : List TokZ) (t x : List Int), (∀ d ∈ t, 0 ≤ d ∧ d ≤ 255) → rdToks cs rs size f u ts t = some x → (∀ d ∈ x, 0 ≤ d ∧ d ≤ 255) ∧ size ≤ x.length
  | 0, _, _, _, _, _, h => nomatch h
  | f + 1, u, ts, t, x, ht, h => by
    rw [rdToks] at h
    split at h
    · split at h
      · cases h
      · split at h
        · cases h
        · rename_i e
          exact rdToks_text f _ _ _ x (layT_text _ [] _ (by intro d hd; cases hd) e) h
    · cases h
      exact ⟨ht, by omega⟩
theorem rdBlock_text {rs t : List Int} (hb : IsBits rs) (h : rdBlock rs = some t) : isT t = true ∧ 1 ≤ t.length := by
  rw [isT_iff]
  unfold rdBlock at h
  split at h
  · cases e : rdH rs 1 with
    | none => rw [e] at h; cases h
    | some nu =>
      obtain ⟨n, u⟩ := nu
      have hn := (rdH_ok hb e).1
      rw [e, rdHead, rdBody] at h
      split at h
      · cases h
      · split at h
        · split at h
          · cases h
            refine ⟨fun d hd => ?_, by rw [marksAt, List.length_map, List.length_range]; omega⟩
            obtain ⟨i, _, rfl⟩ := List.mem_map.mp hd
            have hh : IsBits ((rs.drop (u + 8 * i)).take 8) := fun b hm => hb b (List.mem_of_mem_drop (List.mem_of_mem_take hm))
            obtain ⟨v1, v2⟩ := valB_range hh
            have hl : ((rs.drop (u + 8 * i)).take 8).length ≤ 8 := by rw [List.length_take]; omega
            have hp : ((2 : Int) ^ ((rs.drop (u + 8 * i)).take 8).length) ≤ 2 ^ 8 := by
              have := Nat.pow_le_pow_right (n := 2) (by decide) hl
              have e2 : ((2 : Int) ^ ((rs.drop (u + 8 * i)).take 8).length) = ((2 ^ ((rs.drop (u + 8 * i)).take 8).length : Nat) : Int) := by push_cast; rfl
              rw [e2]
              exact_mod_cast this
            have : (2 : Int) ^ 8 = 256 := by decide
            omega
          · cases h
        · cases e3 : rdTable rs u with
          | none => rw [e3] at h; cases h
          | some cv =>
            obtain ⟨cs, v⟩ := cv
            rw [e3] at h
            unfold rdRest at h
            dsimp only at h
            split at h
            · obtain ⟨a1, a2⟩ := rdToks_text _ _ _ _ t (by intro d hd; cases hd) h
              exact ⟨a1, by omega⟩
            · cases h
  · cases h



abbrev s_read_table : Stmt := topS 48
abbrev N_read_table : List Str := ["bits", "lengths", "due", "step", "symbol", "found", "code"]
theorem sc_read_table : FnScope N_read_table ["bits"] (defScope s_read_table) := ⟨rfl, rfl, rfl, by decide +kernel, rfl, by decide +kernel, by decide +kernel⟩












def sp_read_table (K : PySem.W.Frag) (A : Ads) : Sp := fun zvs zH Q E => ∃ (B : Hp) (G : Own) (p r dx : Addr) (rs : List Int) (at' : Nat), zvs = [.ref p] ∧ SI B ((p, .ins A.c_Bits dx [("row", .ref r), ("at", .int at')]) :: G) zH ∧ (Sq K B G r (rs.map V.int)) ∧ (IsBits rs) ∧ (rs.length ≤ 100000) ∧ (at' ≤ rs.length) ∧ (∀ B' d cs u, rdTable rs at' = some (cs, u) → LensOk cs → Same B B' → NP B' [(d, .dT (dictX cs))] p (.ins A.c_Bits dx [("row", .ref r), ("at", .int (u : Nat))]) G (Q (.ref d))) ∧ (∀ B' (u : Nat), (∀ cs v, rdTable rs at' = some (cs, v) → ¬ LensOk cs) → Same B B' → NP B' [] p (.ins A.c_Bits dx [("row", .ref r), ("at", .int u)]) G (fun H => E (.ref A.c_NoBits) none H)) ∧ (∀ B' (u : Nat), (∀ cs v, rdTable rs at' = some (cs, v) → ¬ LensOk cs) → Same B B' → NP B' [] p (.ins A.c_Bits dx [("row", .ref r), ("at", .int u)]) G (fun H => E (.ref A.c_NoCode) none H)) ∧ (∀ B' (u : Nat), (∀ cs v, rdTable rs at' = some (cs, v) → ¬ LensOk cs) → Same B B' → NP B' [] p (.ins A.c_Bits dx [("row", .ref r), ("at", .int u)]) G (fun H => E (.ref A.c_NoBlock) none H))
theorem len_read_table {K : PySem.W.Frag} {A : Ads} : ∀ vs H Q E, sp_read_table K A vs H Q E → vs.length = 1 := by
  intro vs H Q E h
  obtain ⟨_, _, _, _, _, _, _, rfl, _⟩ := h
  rfl
def x_read_table_0 (K : PySem.W.Frag) (A : Ads) (E : XK) : TS :=
  (tSeq (tFor (iList K (tCl (sp_codes_of K A) (WE (fun cls d _ H => E cls d H)) (tCons (tVar 1) tNil))) (gTup K 2 (gCons (gName 4) (gCons (gName 6) gNil)))
    (tSeq (sDPut (tVar 5) (tCB (rTupOf K) (tCons (tVar 6) tNil)) (tVar 4))
    tNext))
    (tSeq (tRet (tVar 5))
    tNext))
instance {K : PySem.W.Frag} {A : Ads} {E : XK} : Unf (x_read_table_0 K A E) (
  (tSeq (tFor (iList K (tCl (sp_codes_of K A) (WE (fun cls d _ H => E cls d H)) (tCons (tVar 1) tNil))) (gTup K 2 (gCons (gName 4) (gCons (gName 6) gNil)))
    (tSeq (sDPut (tVar 5) (tCB (rTupOf K) (tCons (tVar 6) tNil)) (tVar 4))
    tNext))
    (tSeq (tRet (tVar 5))
    tNext))) := ⟨rfl⟩
def x_read_table_1 (K : PySem.W.Frag) (A : Ads) (E : XK) : TS :=
  (tSeq (tDrop (tBM K "list" rAppend (tVar 1) (tCons (tTup (tCons (tVar 4) (tCons (tOp (uAdd K) (tC (.int (1))) (tMt A.c_Bits "take_halves" (sp_Bits_take_halves K A) (WE (fun cls d _ H => E cls d H)) (tVar 0) tNil)) tNil))) tNil)))
    (tSeq (tAsg (tOp (uAdd K) (tVar 4) (tC (.int (1)))) (gName 2))
    tNext))
instance {K : PySem.W.Frag} {A : Ads} {E : XK} : Unf (x_read_table_1 K A E) (
  (tSeq (tDrop (tBM K "list" rAppend (tVar 1) (tCons (tTup (tCons (tVar 4) (tCons (tOp (uAdd K) (tC (.int (1))) (tMt A.c_Bits "take_halves" (sp_Bits_take_halves K A) (WE (fun cls d _ H => E cls d H)) (tVar 0) tNil)) tNil))) tNil)))
    (tSeq (tAsg (tOp (uAdd K) (tVar 4) (tC (.int (1)))) (gName 2))
    tNext))) := ⟨rfl⟩
def x_read_table_2 (K : PySem.W.Frag) (A : Ads) (E : XK) : TS :=
  (tSeq (tIfS (tTest (tOp uGt (tVar 4) (tC (.int (300)))))
    (tSeq (tRs A.c_NoBlock (fun cls d _ H => E cls d H))
    tNext)
    tNext)
    (x_read_table_1 K A E))
instance {K : PySem.W.Frag} {A : Ads} {E : XK} : Unf (x_read_table_2 K A E) (
  (tSeq (tIfS (tTest (tOp uGt (tVar 4) (tC (.int (300)))))
    (tSeq (tRs A.c_NoBlock (fun cls d _ H => E cls d H))
    tNext)
    tNext)
    (x_read_table_1 K A E))) := ⟨rfl⟩
def x_read_table_3 (K : PySem.W.Frag) (A : Ads) (E : XK) : TS :=
  (tSeq (tFor (TryT.iRngL (tCons (tOp (uAdd K) (tC (.int (1))) (tMt A.c_Bits "take_halves" (sp_Bits_take_halves K A) (WE (fun cls d _ H => E cls d H)) (tVar 0) tNil)) tNil)) (gName 3)
    (tSeq (tAsg (tOp (uAdd K) (tVar 2) (tMt A.c_Bits "take_halves" (sp_Bits_take_halves K A) (WE (fun cls d _ H => E cls d H)) (tVar 0) tNil)) (gName 4))
    (x_read_table_2 K A E)))
    (tSeq (tAsg tDNewT (gName 5))
    (x_read_table_0 K A E)))
instance {K : PySem.W.Frag} {A : Ads} {E : XK} : Unf (x_read_table_3 K A E) (
  (tSeq (tFor (TryT.iRngL (tCons (tOp (uAdd K) (tC (.int (1))) (tMt A.c_Bits "take_halves" (sp_Bits_take_halves K A) (WE (fun cls d _ H => E cls d H)) (tVar 0) tNil)) tNil)) (gName 3)
    (tSeq (tAsg (tOp (uAdd K) (tVar 2) (tMt A.c_Bits "take_halves" (sp_Bits_take_halves K A) (WE (fun cls d _ H => E cls d H)) (tVar 0) tNil)) (gName 4))
    (x_read_table_2 K A E)))
    (tSeq (tAsg tDNewT (gName 5))
    (x_read_table_0 K A E)))) := ⟨rfl⟩
def t_read_table (K : PySem.W.Frag) (A : Ads) (E : XK) : TS :=
  (tSeq (tAsg (tLst tNil) (gName 1))
    (tSeq (tAsg (tC (.int (0))) (gName 2))
    (x_read_table_3 K A E)))
theorem pure_read_table {K : PySem.W.Frag} {A : Ads} (T : Fct K A) (vs : List V) (H : Hp) (Q : VK) (E : XK) (h : sp_read_table K A vs H Q E) : t_read_table K A E (endE Q) (L2.start N_read_table vs) H := by
  obtain ⟨B, G, p, r, dx, rs, at', rfl, zs, hr, hb, hl, ha, k, k2, k3, k4⟩ := h
  refine (?_ : N B ((p, .ins A.c_Bits dx [("row", .ref r), ("at", .int at')]) :: G) (fun H => t_read_table K A E (endE Q) (L2.start N_read_table [.ref p]) H)) H zs
  clear zs
  unfold t_read_table

  walk_at "sk stp"
  rename_i lp
  refine use_Bits_take_halves (rs := rs) (at' := at') 1 rfl (hr.sub (by walk_at "sk sub")) hl ha (fun h => ?_) (fun h => ?_)
  rotate_left
  · have e0 : rdH rs at' = none := if_neg (by omega)
    refine n_sub (by walk_at "sk sub") (k2 B at' (fun cs v e => ?_) (Same.refl _))
    unfold rdTable at e
    rw [e0] at e
    cases e
  have e0 : rdH rs at' = some (valB 0 ((rs.drop (at' + lz (rs.drop at'))).take (lz (rs.drop at') + 1)) - 1, at' + (2 * lz (rs.drop at') + 1)) := if_pos h
  have z0 := rdH_ok hb e0
  have e1 : rdTable rs at' = rdTab rs (1 + (valB 0 ((rs.drop (at' + lz (rs.drop at'))).take (lz (rs.drop at') + 1)) - 1)).toNat (at' + (2 * lz (rs.drop at') + 1)) 0 [] := by unfold rdTable; rw [e0]
  generalize valB 0 ((rs.drop (at' + lz (rs.drop at'))).take (lz (rs.drop at') + 1)) - 1 = n at *
  generalize at' + (2 * lz (rs.drop at') + 1) = u1 at *
  clear h e0
  walk_at "sk stp"
  refine n_lpRL (fun i B' σ L => ∃ (due : Int) (vs : List V) (acc : List (Int × Int)) (u : Nat) (y3 y4 y5 y6 : Option V), σ = [some (.ref p), some (.ref lp), some (.int due), y3, y4, y5, y6] ∧ L = (lp, .lst vs) :: (p, .ins A.c_Bits dx [("row", .ref r), ("at", .int u)]) :: G ∧ All2 (PairAt B') vs acc ∧ rdTable rs at' = rdTab rs ((1 + n).toNat - i) u due acc ∧ (acc.length : Int) ≤ due ∧ due ≤ 301 ∧ u ≤ rs.length) (by omega) ⟨0, [], [], u1, _, _, _, _, rfl, rfl, .nil, e1, by show ((0 : Nat) : Int) ≤ 0; omega, by omega, z0.2.1⟩ ?_ ?_
  · rintro i B1 σ L sm hi ⟨due, vs, acc, u, y3, y4, y5, y6, rfl, rfl, hv, he, hd0, hd1, hu⟩
    have hvl := hv.len
    obtain ⟨m, hm⟩ : ∃ m, (1 + n).toNat - i = m + 1 := ⟨(1 + n).toNat - i - 1, by omega⟩
    rw [hm] at he
    have hr1 := hr.mono sm
    walk_at "sk stp"
    refine use_Bits_take_halves (rs := rs) (at' := u) 1 rfl (hr1.sub (by walk_at "sk sub")) hl hu (fun h => ?_) (fun h => ?_)
    rotate_left
    · have e0 : rdH rs u = none := if_neg (by omega)
      refine n_sub (by walk_at "sk sub") (k2 B1 u (fun cs v e => ?_) sm)
      rw [he, rdTab, e0] at e
      cases e
    have e0 : rdH rs u = some (valB 0 ((rs.drop (u + lz (rs.drop u))).take (lz (rs.drop u) + 1)) - 1, u + (2 * lz (rs.drop u) + 1)) := if_pos h
    have z1 := rdH_ok hb e0
    rw [rdTab, e0] at he
    dsimp only at he
    generalize valB 0 ((rs.drop (u + lz (rs.drop u))).take (lz (rs.drop u) + 1)) - 1 = a at *
    generalize u + (2 * lz (rs.drop u) + 1) = u2 at *
    clear h e0
    walk_at "sk stp"
    refine n_iteD (fun hb2 => ?_) (fun hb2 => ?_)
    · rw [if_pos (by omega)] at he
      walk_at "sk stp"
      refine n_sub (by walk_at "sk sub") (k4 B1 u2 (fun cs v e => ?_) sm)
      rw [he] at e
      cases e
    rw [if_neg (by omega)] at he
    walk_at "sk stp"
    refine use_Bits_take_halves (rs := rs) (at' := u2) 1 rfl (hr1.sub (by walk_at "sk sub")) hl z1.2.1 (fun h => ?_) (fun h => ?_)
    rotate_left
    · have e0 : rdH rs u2 = none := if_neg (by omega)
      refine n_sub (by walk_at "sk sub") (k2 B1 u2 (fun cs v e => ?_) sm)
      rw [he, e0] at e
      cases e
    have e0 : rdH rs u2 = some (valB 0 ((rs.drop (u2 + lz (rs.drop u2))).take (lz (rs.drop u2) + 1)) - 1, u2 + (2 * lz (rs.drop u2) + 1)) := if_pos h
    have z2 := rdH_ok hb e0
    rw [e0] at he
    dsimp only at he
    generalize valB 0 ((rs.drop (u2 + lz (rs.drop u2))).take (lz (rs.drop u2) + 1)) - 1 = b at *
    generalize u2 + (2 * lz (rs.drop u2) + 1) = u3 at *
    clear h e0
    walk_at "sk stp"
    refine n_freeze 0 rfl fun B2 sm2 htp => ?_
    have hv2 := pairs_mono hv sm2
    walk_at "sk stp"
    refine n_kg (L' := (lp, _) :: (p, _) :: G) sm2 ⟨due + a + 1, _, acc ++ [(due + a, 1 + b)], u3, _, _, _, _, rfl, rfl, hv2.snoc ⟨_, rfl, htp⟩, ?_, ?_, by omega, z2.2.1⟩ (by walk_at "sk sub")
    · rw [show (1 + n).toNat - (i + 1) = m by omega]; exact he
    · rw [List.length_append]; show (((acc.length + 1 : Nat)) : Int) ≤ _; omega
  · rintro B1 σ L sm ⟨due, vs, cs, u, y3, y4, y5, y6, rfl, rfl, hv, he, hd0, hd1, hu⟩
    rw [Nat.sub_self, rdTab] at he
    have hvl := hv.len
    walk_at "sk stp"
    rename_i fo
    refine use_codes_of (cs := cs) (by walk_at "sk sq") hv (by omega) (fun B2 q1 ad ws1 hok sm1 hw1 => ?_) (fun h => ?_)
    rotate_left
    · refine n_sub (by walk_at "sk sub") (k3 B1 u (fun cs' v e => ?_) sm)
      rw [he] at e
      cases e
      exact h
    refine n_perm List.perm_middle.symm ?_
    refine n_freezeMap (fun c : Int × Int => ad c.1) (fun c => .lst ((cdF (codesX cs) c.1).map V.int)) cs fun B3 sm2 hpool => ?_
    have hw1 : All2 (fun v (c : Int × Int) => ∃ t, v = V.ref t ∧ B3 t = some (HO.tup [.int c.1, .ref (ad c.1)])) ws1 cs := All2.imp (fun v c ⟨t, e, h⟩ => ⟨t, e, sm2 _ _ h⟩) hw1
    have hw1l := hw1.len
    walk_at "sk stp"
    refine n_lpP cs (fun i σ L => ∃ (y3 y4 y6 : Option V), σ = [some (.ref p), some (.ref lp), some (.int due), y3, y4, some (.ref fo), y6] ∧ L = (q1, .lst ws1) :: (fo, .dT ((cs.take i).map fun c => (ksI (cdF (codesX cs) c.1), V.int c.1))) :: (lp, .lst vs) :: (p, .ins A.c_Bits dx [("row", .ref r), ("at", .int u)]) :: G) hw1 ?_ ⟨_, _, _, rfl, rfl⟩ ?_ ?_
    · rintro i σ L _ ⟨y3, y4, y6, rfl, rfl⟩
      walk_at "sk sq"
    · rintro i σ L v hi ⟨y3, y4, y6, rfl, rfl⟩ ⟨t, rfl, ht⟩
      have hnew := dictX_new hok hi
      have hpd := hpool _ (List.getElem_mem hi)
      have hlen : ((cs.take i).map fun c => (ksI (cdF (codesX cs) c.1), V.int c.1)).length ≤ 1000 := by rw [List.length_map, List.length_take]; omega
      walk_at "sk stp"
      rw [putK_new hnew]
      refine n_ki (L' := (q1, _) :: (fo, _) :: (lp, _) :: (p, _) :: G) ⟨_, _, _, rfl, ?_⟩ (by walk_at "sk sub")
      rw [take_step hi, List.map_append]; rfl
    · rintro σ L ⟨y3, y4, y6, rfl, rfl⟩
      rw [List.take_length]
      walk_at "sk stp"
      exact n_sub (by walk_at "sk sub") (k B3 fo cs u he hok ((sm.trans sm1).trans sm2))
theorem raw_read_table {P : Program} {w : World} {K : PySem.W.Frag} {mg : Str → Option Value} {base : Heap} {A : Ads} {f : Addr} {fd : FuncData} (F : Fun K "read_table" "read_table" s_read_table f fd) (T : Txt K mg A) (O_Bits_take_halves : OkM P w K mg base (CXN P w) 3 A.c_Bits "take_halves" ["self"] (sp_Bits_take_halves K A)) (O_codes_of : OkC P w K mg base (CXN P w) 2 "codes_of" ["lengths"] (sp_codes_of K A)) : FnOk P w K mg base (CXN P w) 4 f fd ["bits"] (sp_read_table K A) := by
  refine okN F sc_read_table (fun vs H Q E h => len_read_table vs H Q E h) (fun cdv Ar outer s H vs Q E hr h => ⟨t_read_table K A E, ?_, pure_read_table T.fct vs H Q E h⟩)
  have nd := sc_read_table.nd
  exact (pss_cons (ps_set (i := 1) nd rfl (Or.inl rfl) (pe_lst pa_nil))
    (pss_cons (ps_set (i := 2) nd rfl (Or.inl rfl) pe_int)
    (pss_cons (ps_for (passes_of rfl) rfl (TryT.pi_rangeL (by rfl) T.b_range (pa_cons (pe_op op_uAdd pe_int (pe_mt0 (E := WE (fun cls d _ H => E cls d H)) O_Bits_take_halves (pv 0) (hr.mono (by decide)) (passN (L2N.takes_of rfl rfl rfl rfl)))) pa_nil)) (pg_name (i := 3) nd rfl (Or.inl rfl))
    (pss_cons (ps_set (i := 4) nd rfl (Or.inl rfl) (pe_op op_uAdd (pv 2) (pe_mt0 (E := WE (fun cls d _ H => E cls d H)) O_Bits_take_halves (pv 0) (hr.mono (by decide)) (passN (L2N.takes_of rfl rfl rfl rfl)))))
    (pss_cons (ps_if (pt_cmpR op_uGt (pv 4) (pe_glob (by rfl) T.c_MOST_SYMBOL.choose_spec.1 T.c_MOST_SYMBOL.choose_spec.2) (nomark _)) (pss_cons (L2N.ps_raise rfl (L2N.takes_of rfl rfl rfl rfl) (L2N.pmk_own PySem.F.excBase_ValueError T.x_NoBlock T.g_NoBlock T.k_NoBlock (raises_own T.s_NoBlock T.t_NoBlock) (by rfl)))
    pss_nil) pss_nil)
    (pss_cons (ps_expr (pe_bm PySem.F.plainAttrs_list PySem.F.slot_list_append PySem.F.type_list_append mt_append (pv 1) (pa_cons (pe_tup (pa_cons (pv 4) (pa_cons (pe_op op_uAdd pe_int (pe_mt0 (E := WE (fun cls d _ H => E cls d H)) O_Bits_take_halves (pv 0) (hr.mono (by decide)) (passN (L2N.takes_of rfl rfl rfl rfl)))) pa_nil))) pa_nil)))
    (pss_cons (ps_set (i := 2) nd rfl (Or.inl rfl) (pe_op op_uAdd (pv 4) pe_int))
    pss_nil)))))
    (pss_cons (ps_set (i := 5) nd rfl (Or.inl rfl) pe_dnewT)
    (pss_cons (ps_for (passes_of rfl) rfl (pi_list (pe_cl (E := WE (fun cls d _ H => E cls d H)) O_codes_of (hr.mono (by decide)) (by rfl) (passN (L2N.takes_of rfl rfl rfl rfl)) (pa_cons (pv 1) pa_nil))) (pg_tup rfl (pgs_cons (pg_name (i := 4) nd rfl (Or.inl rfl)) (pgs_cons (pg_name (i := 6) nd rfl (Or.inl rfl)) pgs_nil)))
    (pss_cons (ps_dput (hu_of hr) (pv 5) (pe_callTy cr_tupOf (by rfl) T.b_tuple boot_tuple (pa_cons (pv 6) pa_nil)) (pv 4) rfl)
    pss_nil))
    (pss_cons (ps_ret (pv 5))
    pss_nil))))))
theorem use_read_table {K : PySem.W.Frag} {A : Ads} {B : Hp} {L : Own} {Q : VK} {E : XK} {p r dx : Addr} {rs : List Int} {at' : Nat} (i : Nat) (hi : L[i]? = some (p, .ins A.c_Bits dx [("row", .ref r), ("at", .int at')])) (hr : Sq K B (L.eraseIdx i) r (rs.map V.int)) (hb : IsBits rs) (hl : rs.length ≤ 100000) (ha : at' ≤ rs.length) (zq : ∀ B' d cs u, rdTable rs at' = some (cs, u) → LensOk cs → Same B B' → NQ B' [(d, .dT (dictX cs))] p (.ins A.c_Bits dx [("row", .ref r), ("at", .int (u : Nat))]) L i (Q (.ref d))) (zq2 : ∀ B' (u : Nat), (∀ cs v, rdTable rs at' = some (cs, v) → ¬ LensOk cs) → Same B B' → NQ B' [] p (.ins A.c_Bits dx [("row", .ref r), ("at", .int u)]) L i (fun H => E (.ref A.c_NoBits) none H)) (zq3 : ∀ B' (u : Nat), (∀ cs v, rdTable rs at' = some (cs, v) → ¬ LensOk cs) → Same B B' → NQ B' [] p (.ins A.c_Bits dx [("row", .ref r), ("at", .int u)]) L i (fun H => E (.ref A.c_NoCode) none H)) (zq4 : ∀ B' (u : Nat), (∀ cs v, rdTable rs at' = some (cs, v) → ¬ LensOk cs) → Same B B' → NQ B' [] p (.ins A.c_Bits dx [("row", .ref r), ("at", .int u)]) L i (fun H => E (.ref A.c_NoBlock) none H)) : N B L (fun H => sp_read_table K A [.ref p] H Q E) := fun zH zs => ⟨B, _, _, _, _, _, _, rfl, zs.front hi, hr, hb, hl, ha, by (intros; first | (refine NP.of hi ?_; apply zq <;> assumption) | (apply zq <;> assumption)), by (intros; first | (refine NP.of hi ?_; apply zq2 <;> assumption) | (apply zq2 <;> assumption)), by (intros; first | (refine NP.of hi ?_; apply zq3 <;> assumption) | (apply zq3 <;> assumption)), by (intros; first | (refine NP.of hi ?_; apply zq4 <;> assumption) | (apply zq4 <;> assumption))⟩

abbrev s_read_token : Stmt := topS 49
abbrev N_read_token : List Str := ["bits", "codes", "code", "symbol"]
theorem sc_read_token : FnScope N_read_token ["bits", "codes"] (defScope s_read_token) := ⟨rfl, rfl, rfl, by decide +kernel, rfl, by decide +kernel, by decide +kernel⟩











def sp_read_token (K : PySem.W.Frag) (A : Ads) : Sp := fun zvs zH Q E => ∃ (B : Hp) (G : Own) (p r dx d : Addr) (rs : List Int) (at' : Nat) (cs : List (Int × Int)), zvs = [.ref p, .ref d] ∧ SI B ((p, .ins A.c_Bits dx [("row", .ref r), ("at", .int at')]) :: G) zH ∧ (Is B G d (.dT (dictX cs))) ∧ (Sq K B G r (rs.map V.int)) ∧ (IsBits rs) ∧ (rs.length ≤ 100000) ∧ (at' ≤ rs.length) ∧ (∀ B' v tk (u : Nat), rdTok cs rs at' = some (tk, u) → Same B B' → TokZAt B' v tk → NP B' [] p (.ins A.c_Bits dx [("row", .ref r), ("at", .int u)]) G (Q v)) ∧ (∀ B' (u : Nat), rdTok cs rs at' = none → Same B B' → NP B' [] p (.ins A.c_Bits dx [("row", .ref r), ("at", .int u)]) G (fun H => E (.ref A.c_NoBits) none H))
theorem len_read_token {K : PySem.W.Frag} {A : Ads} : ∀ vs H Q E, sp_read_token K A vs H Q E → vs.length = 2 := by
  intro vs H Q E h
  obtain ⟨_, _, _, _, _, _, _, _, _, rfl, _⟩ := h
  rfl
def x_read_token_0 (K : PySem.W.Frag) (A : Ads) (E : XK) : TS :=
  (tSeq (tRet (tTup (tCons (tMt A.c_Bits "take" (sp_Bits_take K A) (WE (fun cls d _ H => E cls d H)) (tVar 0) (tCons (tC (.int (6))) tNil)) (tCons (tOp uSub (tVar 3) (tC (.int (253)))) tNil))))
    tNext)
instance {K : PySem.W.Frag} {A : Ads} {E : XK} : Unf (x_read_token_0 K A E) (
  (tSeq (tRet (tTup (tCons (tMt A.c_Bits "take" (sp_Bits_take K A) (WE (fun cls d _ H => E cls d H)) (tVar 0) (tCons (tC (.int (6))) tNil)) (tCons (tOp uSub (tVar 3) (tC (.int (253)))) tNil))))
    tNext)) := ⟨rfl⟩
def x_read_token_1 (K : PySem.W.Frag) (A : Ads) (E : XK) : TS :=
  (tSeq (tIfS (tTest (tOp uLe (tVar 3) (tC (.int (255)))))
    (tSeq (tRet (tVar 3))
    tNext)
    tNext)
    (x_read_token_0 K A E))
instance {K : PySem.W.Frag} {A : Ads} {E : XK} : Unf (x_read_token_1 K A E) (
  (tSeq (tIfS (tTest (tOp uLe (tVar 3) (tC (.int (255)))))
    (tSeq (tRet (tVar 3))
    tNext)
    tNext)
    (x_read_token_0 K A E))) := ⟨rfl⟩
def x_read_token_2 (K : PySem.W.Frag) (A : Ads) (E : XK) : TS :=
  (tSeq (tWhile (tB (tDNotIn (tVar 2) (tVar 1)))
    (tSeq (tAsg (tOp (uAdd K) (tVar 2) (tTup (tCons (tMt A.c_Bits "take" (sp_Bits_take K A) (WE (fun cls d _ H => E cls d H)) (tVar 0) (tCons (tC (.int (1))) tNil)) tNil))) (gName 2))
    tNext))
    (tSeq (tAsg (tDGet (tVar 1) (tVar 2)) (gName 3))
    (x_read_token_1 K A E)))
instance {K : PySem.W.Frag} {A : Ads} {E : XK} : Unf (x_read_token_2 K A E) (
  (tSeq (tWhile (tB (tDNotIn (tVar 2) (tVar 1)))
    (tSeq (tAsg (tOp (uAdd K) (tVar 2) (tTup (tCons (tMt A.c_Bits "take" (sp_Bits_take K A) (WE (fun cls d _ H => E cls d H)) (tVar 0) (tCons (tC (.int (1))) tNil)) tNil))) (gName 2))
    tNext))
    (tSeq (tAsg (tDGet (tVar 1) (tVar 2)) (gName 3))
    (x_read_token_1 K A E)))) := ⟨rfl⟩
def t_read_token (K : PySem.W.Frag) (A : Ads) (E : XK) : TS :=
  (tSeq (tAsg (tTup (tCons (tMt A.c_Bits "take" (sp_Bits_take K A) (WE (fun cls d _ H => E cls d H)) (tVar 0) (tCons (tC (.int (1))) tNil)) tNil)) (gName 2))
    (x_read_token_2 K A E))
theorem pure_read_token {K : PySem.W.Frag} {A : Ads} (T : Fct K A) (vs : List V) (H : Hp) (Q : VK) (E : XK) (h : sp_read_token K A vs H Q E) : t_read_token K A E (endE Q) (L2.start N_read_token vs) H := by
  obtain ⟨B, G, p, r, dx, d, rs, at', cs, rfl, zs, hd, hr, hb, hl, ha, k, k2⟩ := h
  refine (?_ : N B ((p, .ins A.c_Bits dx [("row", .ref r), ("at", .int at')]) :: G) (fun H => t_read_token K A E (endE Q) (L2.start N_read_token [.ref p, .ref d]) H)) H zs
  clear zs
  unfold t_read_token

  walk_at "sk stp"
  refine use_Bits_take (rs := rs) (at' := at') (w := 1) 0 rfl hr hl ha (fun h => ?_) (fun h => ?_)
  rotate_left
  · have e0 : rdTok cs rs at' = none := if_neg (by omega)
    exact k2 B at' e0 (Same.refl _)
  have e0 : rdTok cs rs at' = tokOf rs (rdCode cs rs (rs.length - at') (at' + 1) [rs.getD at' 0]) := if_pos h
  rw [take_one h]
  walk_at "sk stp"
  rename_i q0
  refine n_while (fun m σ L => ∃ (q : Addr) (c : List Int) (u : Nat), σ = [some (.ref p), some (.ref d), some (.ref q), none] ∧ L = (q, .tup (c.map V.int)) :: (p, .ins A.c_Bits dx [("row", .ref r), ("at", .int u)]) :: G ∧ c ≠ [] ∧ c.length ≤ u ∧ u ≤ rs.length ∧ rdTok cs rs at' = tokOf rs (rdCode cs rs (rs.length - u + 1) u c) ∧ m = rs.length - u) _ ⟨q0, [rs.getD at' 0], at' + 1, rfl, rfl, List.cons_ne_nil _ _, by show 1 ≤ _; omega, h, by rw [show rs.length - (at' + 1) + 1 = rs.length - at' by omega]; exact e0, rfl⟩ ?_
  rintro m σ L ⟨q, c, u, rfl, rfl, hc0, hcl, hu, he, rfl⟩
  rw [rdCode] at he
  have hv := valV_dictX cs c
  walk_at "sk stp"
  cases hca : codeAt cs c with
  | none =>
    rw [hca] at hv he
    dsimp only at he
    refine n_ite (fun _ => ?_) (fun hh => absurd hh (by rw [hv]; simp))
    refine n_wk ?_
    walk_at "sk stp"
    refine use_Bits_take (rs := rs) (at' := u) (w := 1) 1 rfl (hr.sub (by walk_at "sk sub")) hl hu (fun h => ?_) (fun h => ?_)
    rotate_left
    · rw [if_neg (by omega)] at he
      exact n_sub (by walk_at "sk sub") (k2 B u he (Same.refl _))
    rw [if_pos (by omega)] at he
    rw [take_one h]
    walk_at "sk stp"
    refine n_catT (xs := c.map V.int) (ys := [.int (rs.getD u 0)]) (by walk_at "sk tp") (by walk_at "sk tp") (by simpa using hc0) (List.cons_ne_nil _ _) (by rw [List.length_map, sizeLine_eq]; show c.length + 1 ≤ _; omega) fun q2 => ?_
    walk_at "sk stp"
    refine n_kw (L' := (q2, _) :: (p, _) :: G) ⟨q2, c ++ [rs.getD u 0], u + 1, rfl, by rw [List.map_append], by simp, by rw [List.length_append]; show _ + 1 ≤ _; omega, h, ?_, rfl⟩ (by omega) (by walk_at "sk sub")
    rw [show rs.length - (u + 1) + 1 = rs.length - u by omega]
    exact he
  | some sy =>
    rw [hca] at hv he
    dsimp only at he
    refine n_ite (fun hh => absurd hh (by rw [hv]; simp)) (fun _ => ?_)
    have hv : valV (dictX cs) (ksI c) = some (.int sy) := hv
    dsimp only [tokOf] at he
    walk_at "sk stp"
    refine n_iteD (fun hs => ?_) (fun hs => ?_)
    · rw [if_pos hs] at he
      walk_at "sk stp"
      exact n_sub (by walk_at "sk sub") (k B (.int sy) _ u he (Same.refl _) rfl)
    rw [if_neg hs] at he
    walk_at "sk stp"
    refine use_Bits_take (rs := rs) (at' := u) (w := 6) 1 rfl (hr.sub (by walk_at "sk sub")) hl hu (fun h => ?_) (fun h => ?_)
    rotate_left
    · rw [if_neg (by omega)] at he
      exact n_sub (by walk_at "sk sub") (k2 B u he (Same.refl _))
    rw [if_pos h] at he
    walk_at "sk stp"
    refine n_freeze 0 rfl fun B2 sm2 htp => ?_
    exact n_sub (by walk_at "sk sub") (k B2 _ _ _ he sm2 ⟨_, rfl, htp⟩)
theorem raw_read_token {P : Program} {w : World} {K : PySem.W.Frag} {mg : Str → Option Value} {base : Heap} {A : Ads} {f : Addr} {fd : FuncData} (F : Fun K "read_token" "read_token" s_read_token f fd) (T : Txt K mg A) (O_Bits_take : OkM P w K mg base (CXN P w) 2 A.c_Bits "take" ["self", "width"] (sp_Bits_take K A)) : FnOk P w K mg base (CXN P w) 3 f fd ["bits", "codes"] (sp_read_token K A) := by
  refine okN F sc_read_token (fun vs H Q E h => len_read_token vs H Q E h) (fun cdv Ar outer s H vs Q E hr h => ⟨t_read_token K A E, ?_, pure_read_token T.fct vs H Q E h⟩)
  have nd := sc_read_token.nd
  exact (pss_cons (ps_set (i := 2) nd rfl (Or.inl rfl) (pe_tup (pa_cons (pe_mt (E := WE (fun cls d _ H => E cls d H)) O_Bits_take (pv 0) (hr.mono (by decide)) (passN (L2N.takes_of rfl rfl rfl rfl)) (pa_cons pe_int pa_nil)) pa_nil)))
    (pss_cons (ps_while (passes_of rfl) (pt_cmp (pc_dnotin (hu_of hr) (pv 2) (pv 1)) (by rfl))
    (pss_cons (ps_set (i := 2) nd rfl (Or.inl rfl) (pe_op op_uAdd (pv 2) (pe_tup (pa_cons (pe_mt (E := WE (fun cls d _ H => E cls d H)) O_Bits_take (pv 0) (hr.mono (by decide)) (passN (L2N.takes_of rfl rfl rfl rfl)) (pa_cons pe_int pa_nil)) pa_nil))))
    pss_nil))
    (pss_cons (ps_set (i := 3) nd rfl (Or.inl rfl) (pe_dget (hu_of hr) (pv 1) (pv 2) (fun _ _ => rfl)))
    (pss_cons (ps_if (pt_cmpR op_uLe (pv 3) pe_int (nomark _)) (pss_cons (ps_ret (pv 3))
    pss_nil) pss_nil)
    (pss_cons (ps_ret (pe_tup (pa_cons (pe_mt (E := WE (fun cls d _ H => E cls d H)) O_Bits_take (pv 0) (hr.mono (by decide)) (passN (L2N.takes_of rfl rfl rfl rfl)) (pa_cons (pe_glob (by rfl) T.c_BACK_BITS.choose_spec.1 T.c_BACK_BITS.choose_spec.2) pa_nil)) (pa_cons (pe_op op_uSub (pv 3) (pe_glob (by rfl) T.c_LONGER.choose_spec.1 T.c_LONGER.choose_spec.2)) pa_nil))))
    pss_nil)))))
theorem use_read_token {K : PySem.W.Frag} {A : Ads} {B : Hp} {L : Own} {Q : VK} {E : XK} {p r dx d : Addr} {rs : List Int} {at' : Nat} {cs : List (Int × Int)} (i : Nat) (hi : L[i]? = some (p, .ins A.c_Bits dx [("row", .ref r), ("at", .int at')])) (hd : Is B (L.eraseIdx i) d (.dT (dictX cs))) (hr : Sq K B (L.eraseIdx i) r (rs.map V.int)) (hb : IsBits rs) (hl : rs.length ≤ 100000) (ha : at' ≤ rs.length) (zq : ∀ B' v tk (u : Nat), rdTok cs rs at' = some (tk, u) → Same B B' → TokZAt B' v tk → NQ B' [] p (.ins A.c_Bits dx [("row", .ref r), ("at", .int u)]) L i (Q v)) (zq2 : ∀ B' (u : Nat), rdTok cs rs at' = none → Same B B' → NQ B' [] p (.ins A.c_Bits dx [("row", .ref r), ("at", .int u)]) L i (fun H => E (.ref A.c_NoBits) none H)) : N B L (fun H => sp_read_token K A [.ref p, .ref d] H Q E) := fun zH zs => ⟨B, _, _, _, _, _, _, _, _, rfl, zs.front hi, hd, hr, hb, hl, ha, by (intros; first | (refine NP.of hi ?_; apply zq <;> assumption) | (apply zq <;> assumption)), by (intros; first | (refine NP.of hi ?_; apply zq2 <;> assumption) | (apply zq2 <;> assumption))⟩

abbrev s_read_block : Stmt := topS 50
abbrev N_read_block : List Str := ["bits", "kind", "size", "codes", "text", "tokens", "place"]
theorem sc_read_block : FnScope N_read_block ["bits"] (defScope s_read_block) := ⟨rfl, rfl, rfl, by decide +kernel, rfl, by decide +kernel, by decide +kernel⟩












def sp_read_block (K : PySem.W.Frag) (A : Ads) : Sp := fun zvs zH Q E => ∃ (B : Hp) (G : Own) (p r dx : Addr) (rs : List Int), zvs = [.ref p] ∧ SI B ((p, .ins A.c_Bits dx [("row", .ref r), ("at", .int 0)]) :: G) zH ∧ (Sq K B G r (rs.map V.int)) ∧ (IsBits rs) ∧ (rs.length ≤ 100000) ∧ (∀ B' q t (u : Nat), rdBlock rs = some t → Same B B' → NP B' [(q, .lst (t.map V.int))] p (.ins A.c_Bits dx [("row", .ref r), ("at", .int u)]) G (Q (.ref q))) ∧ (∀ B' (u : Nat), rdBlock rs = none → Same B B' → NP B' [] p (.ins A.c_Bits dx [("row", .ref r), ("at", .int u)]) G (fun H => E (.ref A.c_NoBits) none H)) ∧ (∀ B' (u : Nat), rdBlock rs = none → Same B B' → NP B' [] p (.ins A.c_Bits dx [("row", .ref r), ("at", .int u)]) G (fun H => E (.ref A.c_NoCode) none H)) ∧ (∀ B' (u : Nat), rdBlock rs = none → Same B B' → NP B' [] p (.ins A.c_Bits dx [("row", .ref r), ("at", .int u)]) G (fun H => E (.ref A.c_NoRepeat) none H)) ∧ (∀ B' (u : Nat), rdBlock rs = none → Same B B' → NP B' [] p (.ins A.c_Bits dx [("row", .ref r), ("at", .int u)]) G (fun H => E (.ref A.c_NoBlock) none H))
theorem len_read_block {K : PySem.W.Frag} {A : Ads} : ∀ vs H Q E, sp_read_block K A vs H Q E → vs.length = 1 := by
  intro vs H Q E h
  obtain ⟨_, _, _, _, _, _, rfl, _⟩ := h
  rfl
def x_read_block_0 (K : PySem.W.Frag) (A : Ads) (E : XK) : TS :=
  (tSeq (tDrop (tBM K "list" rAppend (tVar 5) (tCons (tCl (sp_read_token K A) (WE (fun cls d _ H => E cls d H)) (tCons (tVar 0) (tCons (tVar 3) tNil))) tNil)))
    (tSeq (tAsg (tCl (sp_laid_out K A) (WE (fun cls d _ H => E cls d H)) (tCons (tVar 5) tNil)) (gName 4))
    tNext))
instance {K : PySem.W.Frag} {A : Ads} {E : XK} : Unf (x_read_block_0 K A E) (
  (tSeq (tDrop (tBM K "list" rAppend (tVar 5) (tCons (tCl (sp_read_token K A) (WE (fun cls d _ H => E cls d H)) (tCons (tVar 0) (tCons (tVar 3) tNil))) tNil)))
    (tSeq (tAsg (tCl (sp_laid_out K A) (WE (fun cls d _ H => E cls d H)) (tCons (tVar 5) tNil)) (gName 4))
    tNext))) := ⟨rfl⟩
def x_read_block_1 (K : PySem.W.Frag) (A : Ads) (E : XK) : TS :=
  (tSeq (tWhile (tTest (tOp uLt (tCB (uLen K) (tCons (tVar 4) tNil)) (tVar 2)))
    (x_read_block_0 K A E))
    (tSeq (tRet (tVar 4))
    tNext))
instance {K : PySem.W.Frag} {A : Ads} {E : XK} : Unf (x_read_block_1 K A E) (
  (tSeq (tWhile (tTest (tOp uLt (tCB (uLen K) (tCons (tVar 4) tNil)) (tVar 2)))
    (x_read_block_0 K A E))
    (tSeq (tRet (tVar 4))
    tNext))) := ⟨rfl⟩
def x_read_block_2 (K : PySem.W.Frag) (A : Ads) (E : XK) : TS :=
  (tSeq (tRet (CompX.tLcX (iRng1 (tCons (tVar 2) tNil)) (gName 6) tYes (fun V1 => (tMt A.c_Bits "take" (sp_Bits_take K A) (WE V1) (tVar 0) (tCons (tC (.int (8))) tNil))) [6] (fun cls d _ H => E cls d H)))
    tNext)
instance {K : PySem.W.Frag} {A : Ads} {E : XK} : Unf (x_read_block_2 K A E) (
  (tSeq (tRet (CompX.tLcX (iRng1 (tCons (tVar 2) tNil)) (gName 6) tYes (fun V1 => (tMt A.c_Bits "take" (sp_Bits_take K A) (WE V1) (tVar 0) (tCons (tC (.int (8))) tNil))) [6] (fun cls d _ H => E cls d H)))
    tNext)) := ⟨rfl⟩
def x_read_block_3 (K : PySem.W.Frag) (A : Ads) (E : XK) : TS :=
  (tSeq (tAsg (tCl (sp_read_table K A) (WE (fun cls d _ H => E cls d H)) (tCons (tVar 0) tNil)) (gName 3))
    (tSeq (tAsg (tLst tNil) (gName 4))
    (tSeq (tAsg (tLst tNil) (gName 5))
    (x_read_block_1 K A E))))
instance {K : PySem.W.Frag} {A : Ads} {E : XK} : Unf (x_read_block_3 K A E) (
  (tSeq (tAsg (tCl (sp_read_table K A) (WE (fun cls d _ H => E cls d H)) (tCons (tVar 0) tNil)) (gName 3))
    (tSeq (tAsg (tLst tNil) (gName 4))
    (tSeq (tAsg (tLst tNil) (gName 5))
    (x_read_block_1 K A E))))) := ⟨rfl⟩
def x_read_block_4 (K : PySem.W.Frag) (A : Ads) (E : XK) : TS :=
  (tSeq (tIfS (tTest (tOp (uEq K) (tVar 1) (tC (.int (0)))))
    (x_read_block_2 K A E)
    tNext)
    (x_read_block_3 K A E))
instance {K : PySem.W.Frag} {A : Ads} {E : XK} : Unf (x_read_block_4 K A E) (
  (tSeq (tIfS (tTest (tOp (uEq K) (tVar 1) (tC (.int (0)))))
    (x_read_block_2 K A E)
    tNext)
    (x_read_block_3 K A E))) := ⟨rfl⟩
def x_read_block_5 (K : PySem.W.Frag) (A : Ads) (E : XK) : TS :=
  (tSeq (tIfS (tTest (tOp uGt (tVar 2) (tC (.int (48)))))
    (tSeq (tRs A.c_NoBlock (fun cls d _ H => E cls d H))
    tNext)
    tNext)
    (x_read_block_4 K A E))
instance {K : PySem.W.Frag} {A : Ads} {E : XK} : Unf (x_read_block_5 K A E) (
  (tSeq (tIfS (tTest (tOp uGt (tVar 2) (tC (.int (48)))))
    (tSeq (tRs A.c_NoBlock (fun cls d _ H => E cls d H))
    tNext)
    tNext)
    (x_read_block_4 K A E))) := ⟨rfl⟩
def x_read_block_6 (K : PySem.W.Frag) (A : Ads) (E : XK) : TS :=
  (tSeq (tAsg (tOp (uAdd K) (tC (.int (1))) (tMt A.c_Bits "take_halves" (sp_Bits_take_halves K A) (WE (fun cls d _ H => E cls d H)) (tVar 0) tNil)) (gName 2))
    (x_read_block_5 K A E))
instance {K : PySem.W.Frag} {A : Ads} {E : XK} : Unf (x_read_block_6 K A E) (
  (tSeq (tAsg (tOp (uAdd K) (tC (.int (1))) (tMt A.c_Bits "take_halves" (sp_Bits_take_halves K A) (WE (fun cls d _ H => E cls d H)) (tVar 0) tNil)) (gName 2))
    (x_read_block_5 K A E))) := ⟨rfl⟩
def t_read_block (K : PySem.W.Frag) (A : Ads) (E : XK) : TS :=
  (tSeq (tAsg (tMt A.c_Bits "take" (sp_Bits_take K A) (WE (fun cls d _ H => E cls d H)) (tVar 0) (tCons (tC (.int (1))) tNil)) (gName 1))
    (x_read_block_6 K A E))
theorem pure_read_block {K : PySem.W.Frag} {A : Ads} (T : Fct K A) (vs : List V) (H : Hp) (Q : VK) (E : XK) (h : sp_read_block K A vs H Q E) : t_read_block K A E (endE Q) (L2.start N_read_block vs) H := by
  obtain ⟨B, G, p, r, dx, rs, rfl, zs, hr, hb, hl, k, k2, k3, k4, k5⟩ := h
  refine (?_ : N B ((p, .ins A.c_Bits dx [("row", .ref r), ("at", .int 0)]) :: G) (fun H => t_read_block K A E (endE Q) (L2.start N_read_block [.ref p]) H)) H zs
  clear zs
  unfold t_read_block

  walk_at "sk stp"
  refine use_Bits_take (rs := rs) (at' := 0) (w := 1) 0 rfl hr hl (Nat.zero_le _) (fun h => ?_) (fun h => ?_)
  rotate_left
  · exact k2 B 0 (if_neg (by omega)) (Same.refl _)
  have e0 : rdBlock rs = rdHead rs (rdH rs 1) := if_pos (by omega)
  rw [take_one h]
  have hr0 : rs.getD 0 0 = 0 ∨ rs.getD 0 0 = 1 := by
    rw [List.getD_eq_getElem?_getD, List.getElem?_eq_getElem (show 0 < rs.length by omega)]
    exact hb _ (List.getElem_mem _)
  generalize hk : rs.getD 0 0 = kd at *
  walk_at "sk stp"
  refine use_Bits_take_halves (rs := rs) (at' := 0 + 1) 0 rfl hr hl h (fun h => ?_) (fun h => ?_)
  rotate_left
  · have e1 : rdH rs (0 + 1) = none := if_neg (by omega)
    rw [show rdH rs 1 = none from e1] at e0
    exact k2 B 1 e0 (Same.refl _)
  have e1 : rdH rs (0 + 1) = some (valB 0 ((rs.drop (0 + 1 + lz (rs.drop (0 + 1)))).take (lz (rs.drop (0 + 1)) + 1)) - 1, 0 + 1 + (2 * lz (rs.drop (0 + 1)) + 1)) := if_pos h
  have z1 := rdH_ok hb e1
  generalize valB 0 ((rs.drop (0 + 1 + lz (rs.drop (0 + 1)))).take (lz (rs.drop (0 + 1)) + 1)) - 1 = n at *
  generalize 0 + 1 + (2 * lz (rs.drop (0 + 1)) + 1) = u1 at *
  have e1 : rdH rs 1 = some (n, u1) := e1
  rw [e1] at e0
  rw [rdHead, rdBody, hk] at e0
  clear h e1
  walk_at "sk stp"
  refine n_iteD (fun h => ?_) (fun h => ?_)
  · rw [if_pos (by omega)] at e0
    walk_at "sk stp"
    exact k5 B u1 e0 (Same.refl _)
  rw [if_neg (by omega)] at e0
  walk_at "sk stp"
  refine n_iteD (fun h0 => ?_) (fun h0 => ?_)
  · rw [if_pos h0] at e0
    walk_at "sk stp"
    try refine n_lcX ?_
    walk_at "sk stp"
    refine n_lcR1 (fun i acc L' => acc = (marksAt rs u1 i).map V.int ∧ L' = (p, .ins A.c_Bits dx [("row", .ref r), ("at", .int (u1 + 8 * i : Nat))]) :: G ∧ u1 + 8 * i ≤ rs.length) (by omega) ⟨rfl, rfl, z1.2.1⟩ ?_ ?_
    · rintro i acc L D hi ⟨rfl, rfl, hu⟩
      walk_at "sk stp"
      refine use_Bits_take (rs := rs) (at' := u1 + 8 * i) (w := 8) 1 rfl (hr.sub (by walk_at "sk sub")) hl hu (fun h => ?_) (fun h => ?_)
      rotate_left
      · rw [if_neg (by omega)] at e0
        exact n_sub (by walk_at "sk sub") (k2 B (u1 + 8 * i) e0 (Same.refl _))
      refine n_put (D := D) (L' := (p, .ins A.c_Bits dx [("row", .ref r), ("at", .int (u1 + 8 * (i + 1) : Nat))]) :: G) [] rfl ?_ ⟨?_, rfl, by omega⟩ (.refl _)
      · rw [List.length_map, marksAt, List.length_map, List.length_range, sizeLine_eq]; omega
      · rw [marksAt, marksAt, List.range_succ, List.map_append, List.map_append]; rfl
    · rintro acc L D ⟨rfl, rfl, hu⟩
      rw [if_pos hu] at e0
      exact n_sub (by walk_at "sk sub") (k B D _ _ e0 (Same.refl _))
  rw [if_neg h0] at e0
  have hh := z1.2.1
  walk_at "sk stp"
  refine use_read_table (rs := rs) (at' := u1) 0 rfl hr hb hl hh (fun B1 d cs u e hok sm => ?_) (fun B1 u e sm => k2 B1 u (by rw [rdRest_bad e] at e0; exact e0) sm) (fun B1 u e sm => k3 B1 u (by rw [rdRest_bad e] at e0; exact e0) sm) (fun B1 u e sm => k5 B1 u (by rw [rdRest_bad e] at e0; exact e0) sm)
  have hcs := rdTable_ok hb e
  rw [e, rdRest_ok hok] at e0
  have hr1 := hr.mono sm
  walk_at "sk stp"
  rename_i tq tkq
  refine n_whileB (fun m B' σ L => ∃ (tq : Addr) (t : List Int) (vs : List V) (ts : List TokZ) (u : Nat), σ = [some (.ref p), some (.int kd), some (.int (1 + n)), some (.ref d), some (.ref tq), some (.ref tkq), none] ∧ L = (tkq, .lst vs) :: (tq, .lst (t.map V.int)) :: (d, .dT (dictX cs)) :: (p, .ins A.c_Bits dx [("row", .ref r), ("at", .int u)]) :: G ∧ All2 (TokZAt B') vs ts ∧ layT [] ts = some t ∧ ts.length ≤ t.length ∧ u ≤ rs.length ∧ rdBlock rs = rdToks cs rs (1 + n).toNat ((1 + n).toNat + 1 - ts.length) u ts t ∧ m = (1 + n).toNat - ts.length ∧ ts.length ≤ (1 + n).toNat) _ ⟨tq, [], [], [], u, rfl, rfl, .nil, rfl, Nat.le_refl _, hcs.1, e0, rfl, Nat.zero_le _⟩ ?_
  rintro m B2 σ L sm2 ⟨tq, t, vs, ts, u, rfl, rfl, hv, hlay, htl, hu, he, rfl, htz⟩
  have hr2 := hr1.mono sm2
  have hvl := hv.len
  have hlen := lay_len ts [] t hlay
  have smA := sm.trans sm2
  walk_at "sk stp"
  refine n_iteD (fun hlt => ?_) (fun hlt => ?_)
  · refine n_wkG sm2 ?_
    obtain ⟨f, hf⟩ : ∃ f, (1 + n).toNat + 1 - ts.length = f + 1 := ⟨(1 + n).toNat - ts.length, by omega⟩
    rw [hf, rdToks, if_pos (by omega)] at he
    walk_at "sk stp"
    refine use_read_token (rs := rs) (at' := u) (cs := cs) 3 rfl (by walk_at "sk is") (hr2.sub (by walk_at "sk sub")) hb hl hu (fun B3 v tk u2 e sm3 htk => ?_) (fun B3 u2 e sm3 => ?_)
    rotate_left
    · rw [e] at he
      exact n_sub (by walk_at "sk sub") (k2 B3 u2 he (smA.trans sm3))
    rw [e] at he
    dsimp only at he
    obtain ⟨hu2, c, hc, htkc⟩ := rdTok_ok e
    have hcr := hcs.2 c hc
    have hv3 : All2 (TokZAt B3) (vs ++ [v]) (ts ++ [tk]) := (hv.imp fun _ _ h => TokZAt.mono sm3 h).snoc htk
    have hcost : costZ (ts ++ [tk]) ≤ 1000 := by
      rw [costZ_snoc]
      have h1 : t.length < 48 := by omega
      have h2 : t.length = 0 + costZ ts := hlen
      rcases htkc with ⟨rfl, _⟩ | ⟨b, rfl, _⟩
      · show costZ ts + (1 + 0) ≤ _; omega
      · show costZ ts + ((c.1 - 253).toNat + 0) ≤ _; omega
    walk_at "sk stp"
    refine use_laid_out (ts := ts ++ [tk]) (by walk_at "sk sq") hv3 (by omega) (fun tq2 t2 e2 => ?_) (fun e2 => ?_)
    rotate_left
    · rw [e2] at he
      exact n_sub (by walk_at "sk sub") (k4 B3 u2 he (smA.trans sm3))
    rw [e2] at he
    dsimp only at he
    have hgrow : t.length + 1 ≤ t2.length := by
      have h1 := lay_len _ _ _ e2
      rw [costZ_snoc] at h1
      have h2 : t.length = 0 + costZ ts := hlen
      have h3 : t2.length = 0 + (costZ ts + costZ [tk]) := h1
      have h4 := layT_app ts [tk] []
      rw [e2, hlay] at h4
      rcases htkc with ⟨rfl, _⟩ | ⟨b, rfl, h5⟩
      · have : costZ [TokZ.mark c.1] = 1 + 0 := rfl
        omega
      · have : costZ [TokZ.rep b (c.1 - 253)] = (c.1 - 253).toNat + 0 := rfl
        omega
    walk_at "sk stp"
    refine n_perm (L' := (tkq, .lst (vs ++ [v])) :: (tq2, .lst (t2.map V.int)) :: (tq, .lst (t.map V.int)) :: (d, .dT (dictX cs)) :: (p, .ins A.c_Bits dx [("row", .ref r), ("at", .int u2)]) :: G) (List.Perm.swap _ _ _) ?_
    refine n_kgw (L' := (tkq, _) :: (tq2, _) :: (d, _) :: (p, _) :: G) (sm2.trans sm3) ⟨tq2, t2, _, ts ++ [tk], u2, rfl, rfl, hv3, e2, by rw [List.length_append]; show _ + 1 ≤ _; omega, hu2, ?_, rfl, by rw [List.length_append]; show _ + 1 ≤ _; omega⟩ (by rw [List.length_append]; show _ - (_ + 1) < _; omega) (by walk_at "sk sub")
    rw [show (1 + n).toNat + 1 - (ts ++ [tk]).length = f by rw [List.length_append]; show _ - (_ + 1) = _; omega]
    exact he
  · rw [show (1 + n).toNat + 1 - ts.length = ((1 + n).toNat - ts.length) + 1 by omega, rdToks, if_neg (by omega)] at he
    walk_at "sk stp"
    refine n_perm (L' := (tq, .lst (t.map V.int)) :: (tkq, .lst vs) :: (d, .dT (dictX cs)) :: (p, .ins A.c_Bits dx [("row", .ref r), ("at", .int u)]) :: G) (List.Perm.swap _ _ _) ?_
    exact n_sub (by walk_at "sk sub") (k B2 tq t u he smA)
theorem raw_read_block {P : Program} {w : World} {K : PySem.W.Frag} {mg : Str → Option Value} {base : Heap} {A : Ads} {f : Addr} {fd : FuncData} (F : Fun K "read_block" "read_block" s_read_block f fd) (T : Txt K mg A) (O_Bits_take : OkM P w K mg base (CXN P w) 2 A.c_Bits "take" ["self", "width"] (sp_Bits_take K A)) (O_Bits_take_halves : OkM P w K mg base (CXN P w) 3 A.c_Bits "take_halves" ["self"] (sp_Bits_take_halves K A)) (O_laid_out : OkC P w K mg base (CXN P w) 3 "laid_out" ["tokens"] (sp_laid_out K A)) (O_read_table : OkC P w K mg base (CXN P w) 4 "read_table" ["bits"] (sp_read_table K A)) (O_read_token : OkC P w K mg base (CXN P w) 3 "read_token" ["bits", "codes"] (sp_read_token K A)) : FnOk P w K mg base (CXN P w) 5 f fd ["bits"] (sp_read_block K A) := by
  refine okN F sc_read_block (fun vs H Q E h => len_read_block vs H Q E h) (fun cdv Ar outer s H vs Q E hr h => ⟨t_read_block K A E, ?_, pure_read_block T.fct vs H Q E h⟩)
  have nd := sc_read_block.nd
  exact (pss_cons (ps_set (i := 1) nd rfl (Or.inl rfl) (pe_mt (E := WE (fun cls d _ H => E cls d H)) O_Bits_take (pv 0) (hr.mono (by decide)) (passN (L2N.takes_of rfl rfl rfl rfl)) (pa_cons pe_int pa_nil)))
    (pss_cons (ps_set (i := 2) nd rfl (Or.inl rfl) (pe_op op_uAdd pe_int (pe_mt0 (E := WE (fun cls d _ H => E cls d H)) O_Bits_take_halves (pv 0) (hr.mono (by decide)) (passN (L2N.takes_of rfl rfl rfl rfl)))))
    (pss_cons (ps_if (pt_cmpR op_uGt (pv 2) (pe_glob (by rfl) T.c_MOST_MARKS.choose_spec.1 T.c_MOST_MARKS.choose_spec.2) (nomark _)) (pss_cons (L2N.ps_raise rfl (L2N.takes_of rfl rfl rfl rfl) (L2N.pmk_own PySem.F.excBase_ValueError T.x_NoBlock T.g_NoBlock T.k_NoBlock (raises_own T.s_NoBlock T.t_NoBlock) (by rfl)))
    pss_nil) pss_nil)
    (pss_cons (ps_if (pt_cmpR (op_uEq hr.units) (pv 1) pe_int (nomark _)) (pss_cons (ps_ret (CompX.pe_lcX (own := [("place", 6)]) rfl rfl (L2N.takes_of rfl rfl rfl rfl) (by rfl) nd (pi_range1 (by rfl) T.b_range (pa_cons (pv 2) pa_nil)) (blkOk_by (N := N_read_block) (sc := defScope s_read_block) (own := [("place", 6)]) (by decide +kernel)) (fun _ _ _ _ _ => (pg_name (i := 6) nd rfl (Or.inl rfl))) (fun _ _ _ _ _ => pts_nil) (fun _ _ _ _ _ _ _ V1 psV1 => (pe_mt (E := WE V1) O_Bits_take (pv 0) (hr.mono (by decide)) psV1 (pa_cons pe_int pa_nil)))))
    pss_nil) pss_nil)
    (pss_cons (ps_set (i := 3) nd rfl (Or.inl rfl) (pe_cl (E := WE (fun cls d _ H => E cls d H)) O_read_table (hr.mono (by decide)) (by rfl) (passN (L2N.takes_of rfl rfl rfl rfl)) (pa_cons (pv 0) pa_nil)))
    (pss_cons (ps_set (i := 4) nd rfl (Or.inl rfl) (pe_lst pa_nil))
    (pss_cons (ps_set (i := 5) nd rfl (Or.inl rfl) (pe_lst pa_nil))
    (pss_cons (ps_while (passes_of rfl) (pt_cmpR op_uLt (pe_callB call_uLen (by rfl) T.b_len boot_len (pa_cons (pv 4) pa_nil)) (pv 2) (nomark _))
    (pss_cons (ps_expr (pe_bm PySem.F.plainAttrs_list PySem.F.slot_list_append PySem.F.type_list_append mt_append (pv 5) (pa_cons (pe_cl (E := WE (fun cls d _ H => E cls d H)) O_read_token (hr.mono (by decide)) (by rfl) (passN (L2N.takes_of rfl rfl rfl rfl)) (pa_cons (pv 0) (pa_cons (pv 3) pa_nil))) pa_nil)))
    (pss_cons (ps_set (i := 4) nd rfl (Or.inl rfl) (pe_cl (E := WE (fun cls d _ H => E cls d H)) O_laid_out (hr.mono (by decide)) (by rfl) (passN (L2N.takes_of rfl rfl rfl rfl)) (pa_cons (pv 5) pa_nil)))
    pss_nil)))
    (pss_cons (ps_ret (pv 4))
    pss_nil)))))))))
theorem use_read_block {K : PySem.W.Frag} {A : Ads} {B : Hp} {L : Own} {Q : VK} {E : XK} {p r dx : Addr} {rs : List Int} (i : Nat) (hi : L[i]? = some (p, .ins A.c_Bits dx [("row", .ref r), ("at", .int 0)])) (hr : Sq K B (L.eraseIdx i) r (rs.map V.int)) (hb : IsBits rs) (hl : rs.length ≤ 100000) (zq : ∀ B' q t (u : Nat), rdBlock rs = some t → Same B B' → NQ B' [(q, .lst (t.map V.int))] p (.ins A.c_Bits dx [("row", .ref r), ("at", .int u)]) L i (Q (.ref q))) (zq2 : ∀ B' (u : Nat), rdBlock rs = none → Same B B' → NQ B' [] p (.ins A.c_Bits dx [("row", .ref r), ("at", .int u)]) L i (fun H => E (.ref A.c_NoBits) none H)) (zq3 : ∀ B' (u : Nat), rdBlock rs = none → Same B B' → NQ B' [] p (.ins A.c_Bits dx [("row", .ref r), ("at", .int u)]) L i (fun H => E (.ref A.c_NoCode) none H)) (zq4 : ∀ B' (u : Nat), rdBlock rs = none → Same B B' → NQ B' [] p (.ins A.c_Bits dx [("row", .ref r), ("at", .int u)]) L i (fun H => E (.ref A.c_NoRepeat) none H)) (zq5 : ∀ B' (u : Nat), rdBlock rs = none → Same B B' → NQ B' [] p (.ins A.c_Bits dx [("row", .ref r), ("at", .int u)]) L i (fun H => E (.ref A.c_NoBlock) none H)) : N B L (fun H => sp_read_block K A [.ref p] H Q E) := fun zH zs => ⟨B, _, _, _, _, _, rfl, zs.front hi, hr, hb, hl, by (intros; first | (refine NP.of hi ?_; apply zq <;> assumption) | (apply zq <;> assumption)), by (intros; first | (refine NP.of hi ?_; apply zq2 <;> assumption) | (apply zq2 <;> assumption)), by (intros; first | (refine NP.of hi ?_; apply zq3 <;> assumption) | (apply zq3 <;> assumption)), by (intros; first | (refine NP.of hi ?_; apply zq4 <;> assumption) | (apply zq4 <;> assumption)), by (intros; first | (refine NP.of hi ?_; apply zq5 <;> assumption) | (apply zq5 <;> assumption))⟩

abbrev s_opened : Stmt := topS 51
abbrev N_opened : List Str := ["data", "byte", "block"]
theorem sc_opened : FnScope N_opened ["data"] (defScope s_opened) := ⟨rfl, rfl, rfl, by decide +kernel, rfl, by decide +kernel, by decide +kernel⟩







def sp_opened (K : PySem.W.Frag) (A : Ads) : Sp := fun zvs zH Q E => ∃ (B : Hp) (G : Own) (a : Addr) (ns : List Int), zvs = [.ref a] ∧ SI B G zH ∧ (Is B G a (.lst (ns.map V.int))) ∧ (ns.length ≤ 10000) ∧ (∀ B' q xs, BlockOk xs → pressedL xs = ns → Same B B' → N B' ((q, .lst (xs.map V.int)) :: G) (Q (.ref q))) ∧ (∀ B', (∀ xs, BlockOk xs → pressedL xs ≠ ns) → Same B B' → N B' G (fun H => E (.ref A.c_NoBlock) none H))
theorem len_opened {K : PySem.W.Frag} {A : Ads} : ∀ vs H Q E, sp_opened K A vs H Q E → vs.length = 1 := by
  intro vs H Q E h
  obtain ⟨_, _, _, _, rfl, _⟩ := h
  rfl
def x_opened_0 (K : PySem.W.Frag) (A : Ads) (E : XK) : TS :=
  (tSeq (tIfS (tOr (tTest (tOp uGt (tCB (uLen K) (tCons (tVar 2) tNil)) (tC (.int (48))))) (tTest (tOp (uNe K) (tCl (sp_pressed K A) (WE (fun cls d _ H => E cls d H)) (tCons (tVar 2) tNil)) (tVar 0))))
    (tSeq (tRs A.c_NoBlock (fun cls d _ H => E cls d H))
    tNext)
    tNext)
    (tSeq (tRet (tVar 2))
    tNext))
instance {K : PySem.W.Frag} {A : Ads} {E : XK} : Unf (x_opened_0 K A E) (
  (tSeq (tIfS (tOr (tTest (tOp uGt (tCB (uLen K) (tCons (tVar 2) tNil)) (tC (.int (48))))) (tTest (tOp (uNe K) (tCl (sp_pressed K A) (WE (fun cls d _ H => E cls d H)) (tCons (tVar 2) tNil)) (tVar 0))))
    (tSeq (tRs A.c_NoBlock (fun cls d _ H => E cls d H))
    tNext)
    tNext)
    (tSeq (tRet (tVar 2))
    tNext))) := ⟨rfl⟩
def t_opened (K : PySem.W.Frag) (A : Ads) (E : XK) : TS :=
  (tSeq (tFor (iList K (tVar 0)) (gName 1)
    (tSeq (tIfS (tNot (tTest (tChain uLe uLt (tC (.int (0))) (tVar 1) (tC (.int (128))))))
    (tSeq (tRs A.c_NoBlock (fun cls d _ H => E cls d H))
    tNext)
    tNext)
    tNext))
    (tSeq (tTryT (xmT K [(.ref A.c_NoBits), (.ref A.c_NoCode), (.ref A.c_NoRepeat)]) (fun W1 => (tSeq (tAsg (tCl (sp_read_block K A) (WE W1) (tCons (tMkk A.c_Bits (sp_Bits___init__ K A) (WE W1) (tCons (tCB (uListOf K) (tCons (tVar 0) tNil)) tNil)) tNil)) (gName 2))
    tNext)) (fun xa cls xd => (tSeq (tRs A.c_NoBlock (fun cls d _ H => E cls d H))
    tNext)) (fun cls d _ H => E cls d H))
    (x_opened_0 K A E)))
theorem pure_opened {K : PySem.W.Frag} {A : Ads} (T : Fct K A) (vs : List V) (H : Hp) (Q : VK) (E : XK) (h : sp_opened K A vs H Q E) : t_opened K A E (endE Q) (L2.start N_opened vs) H := by
  obtain ⟨B, G, a, ns, rfl, zs, ha, hl, k, k2⟩ := h
  refine (?_ : N B G (fun H => t_opened K A E (endE Q) (L2.start N_opened [.ref a]) H)) H zs
  clear zs
  unfold t_opened

  walk_at "sk stp"
  refine n_lpLi ns (fun i σ L => ∃ y1 : Option V, σ = [some (.ref a), y1, none] ∧ L = G ∧ ∀ x ∈ ns.take i, 0 ≤ x ∧ x < 128) ?_ ⟨_, rfl, rfl, fun x h => nomatch h⟩ ?_ ?_
  · rintro i σ L _ ⟨y1, rfl, rfl, _⟩
    walk_at "sk sq"
  · rintro i σ L hi ⟨y1, rfl, rfl, hx⟩
    by_cases hc : 0 ≤ ns[i] ∧ ns[i] < 128
    · walk_at "sk stp"
      refine n_ki ⟨_, rfl, rfl, fun x hm => ?_⟩ (.refl _)
      rw [take_step hi] at hm
      rcases List.mem_append.mp hm with hm | hm
      · exact hx x hm
      · rw [List.mem_singleton.mp hm]; exact hc
    · walk_at "sk stp"
      refine k2 B (fun xs hok e => hc ?_) (Same.refl _)
      exact pressed_low hok _ (by rw [e]; exact List.getElem_mem hi)
  · rintro σ L ⟨y1, rfl, rfl, hx⟩
    rw [List.take_length] at hx
    have hr7 := rowB_len ns
    have hrb := rowB_bits ns
    walk_at "sk stp"
    refine use_Bits___init__ (ns := ns) 0 rfl (by walk_at "sk sq") (by omega) fun r => ?_
    walk_at "sk stp"
    refine use_read_block (rs := rowB ns) 1 rfl (by walk_at "sk sq") hrb (by omega) (fun B1 q t u e sm => ?_) (fun B1 u e sm => ?_) (fun B1 u e sm => ?_) (fun B1 u e sm => ?_) (fun B1 u e sm => ?_)
    · have hpre : ∀ xs, BlockOk xs → pressedL xs = ns → xs = t := fun xs hok e2 => by
        have h1 := rdBlock_pressed hok
        rw [e2, e] at h1
        exact (Option.some.inj h1).symm
      have htx := rdBlock_text hrb e
      walk_at "sk stp"
      refine n_iteD (fun hb => ?_) (fun hb => ?_)
      · walk_at "sk stp"
        exact n_sub (by walk_at "sk sub") (k2 B1 (fun xs hok e2 => by have h1 := hok.2.2; rw [hpre xs hok e2] at h1; omega) sm)
      · walk_at "sk stp"
        have hok : BlockOk t := ⟨htx.1, htx.2, by omega⟩
        refine use_pressed (xs := t) (by walk_at "sk is") (fun B2 q2 _ sm2 => ?_) (fun h => absurd hok h)
        walk_at "sk stp"
        refine n_ite (fun hb3 => ?_) (fun hb3 => ?_)
        · walk_at "sk stp"
          exact n_sub (by walk_at "sk sub") (k2 B2 (fun xs hok2 e2 => by rw [hpre xs hok2 e2] at e2; simp [e2] at hb3) (sm.trans sm2))
        · walk_at "sk stp"
          exact n_sub (by walk_at "sk sub") (k B2 q t hok (by simpa using hb3) (sm.trans sm2))
    · refine n_wCl T.mt_NoBits_0 fun ex => ?_
      walk_at "sk stp"
      exact n_sub (by walk_at "sk sub") (k2 B1 (fun xs hok e2 => by have h1 := rdBlock_pressed hok; rw [e2, e] at h1; cases h1) sm)
    · refine n_wCl T.mt_NoCode_0 fun ex => ?_
      walk_at "sk stp"
      exact n_sub (by walk_at "sk sub") (k2 B1 (fun xs hok e2 => by have h1 := rdBlock_pressed hok; rw [e2, e] at h1; cases h1) sm)
    · refine n_wCl T.mt_NoRepeat_0 fun ex => ?_
      walk_at "sk stp"
      exact n_sub (by walk_at "sk sub") (k2 B1 (fun xs hok e2 => by have h1 := rdBlock_pressed hok; rw [e2, e] at h1; cases h1) sm)
    · refine n_wClF T.mt_NoBlock_0 ?_
      exact n_sub (by walk_at "sk sub") (k2 B1 (fun xs hok e2 => by have h1 := rdBlock_pressed hok; rw [e2, e] at h1; cases h1) sm)
theorem raw_opened {P : Program} {w : World} {K : PySem.W.Frag} {mg : Str → Option Value} {base : Heap} {A : Ads} {f : Addr} {fd : FuncData} (F : Fun K "opened" "opened" s_opened f fd) (T : Txt K mg A) (O_Bits___init__ : OkI P w K mg base CX0 2 "Bits" A.c_Bits ["self", "data"] (sp_Bits___init__ K A)) (O_pressed : OkC P w K mg base (CXN P w) 6 "pressed" ["block"] (sp_pressed K A)) (O_read_block : OkC P w K mg base (CXN P w) 5 "read_block" ["bits"] (sp_read_block K A)) : FnOk P w K mg base (CXL P w) 7 f fd ["data"] (sp_opened K A) := by
  refine okL F sc_opened (fun vs H Q E h => len_opened vs H Q E h) (fun cdv Ar outer s H vs Q E hr h => ⟨t_opened K A E, ?_, pure_opened T.fct vs H Q E h⟩)
  have nd := sc_opened.nd
  exact (pss_cons (ps_for (passes_of rfl) rfl (pi_list (pv 0)) (pg_name (i := 1) nd rfl (Or.inl rfl))
    (pss_cons (ps_if (pt_not (pt_chain op_uLe op_uLt pe_int (pv 1) pe_int)) (pss_cons (L2N.ps_raise rfl (TryT.takesN_of (L2.takes_of rfl rfl rfl rfl)) (L2N.pmk_own PySem.F.excBase_ValueError T.x_NoBlock T.g_NoBlock T.k_NoBlock (raises_own T.s_NoBlock T.t_NoBlock) (by rfl)))
    pss_nil) pss_nil)
    pss_nil))
    (pss_cons (TryT.ps_tryT (xm := (xmT K [(.ref A.c_NoBits), (.ref A.c_NoCode), (.ref A.c_NoRepeat)])) rfl rfl (TryT.clt_tup3 ⟨by rfl, by decide, .inl T.g_NoBits⟩ ⟨by rfl, by decide, .inl T.g_NoCode⟩ ⟨by rfl, by decide, .inl T.g_NoRepeat⟩) (fun hd => L2H.passesAt_of rfl hd) (L2.takes_of rfl rfl rfl rfl) (fun W1 pn xe tk1 po1 => (pss_cons (ps_set (i := 2) nd rfl (Or.inl rfl) (pe_cl (E := WE W1) O_read_block (hr.mono (by decide)) (by rfl) (passN tk1) (pa_cons (pe_mkk (E := WE W1) O_Bits___init__ (hr.mono (by decide)) (by rfl) pass00 (pa_cons (pe_callTy call_uList (by rfl) T.b_list boot_list (pa_cons (pv 0) pa_nil)) pa_nil)) pa_nil)))
    pss_nil)) (fun xa oe cls xd pn hz hf tkS hot => (pss_cons (L2H.ps_raiseH hot tkS (L2N.pmk_own PySem.F.excBase_ValueError T.x_NoBlock T.g_NoBlock T.k_NoBlock (raises_own T.s_NoBlock T.t_NoBlock) (by rfl)))
    pss_nil)))
    (pss_cons (ps_if (PW.pt (pw_or (pt_cmpR op_uGt (pe_callB call_uLen (by rfl) T.b_len boot_len (pa_cons (pv 2) pa_nil)) (pe_glob (by rfl) T.c_MOST_MARKS.choose_spec.1 T.c_MOST_MARKS.choose_spec.2) (nomark _)) (pw_or1 (pt_cmpR (op_uNe hr.units) (pe_cl (E := WE (fun cls d _ H => E cls d H)) O_pressed (hr.mono (by decide)) (by rfl) (passN (TryT.takesN_of (L2.takes_of rfl rfl rfl rfl))) (pa_cons (pv 2) pa_nil)) (pv 0) (nomark _))))) (pss_cons (L2N.ps_raise rfl (TryT.takesN_of (L2.takes_of rfl rfl rfl rfl)) (L2N.pmk_own PySem.F.excBase_ValueError T.x_NoBlock T.g_NoBlock T.k_NoBlock (raises_own T.s_NoBlock T.t_NoBlock) (by rfl)))
    pss_nil) pss_nil)
    (pss_cons (ps_ret (pv 2))
    pss_nil))))
theorem use_opened {K : PySem.W.Frag} {A : Ads} {B : Hp} {G : Own} {Q : VK} {E : XK} {a : Addr} {ns : List Int} (ha : Is B G a (.lst (ns.map V.int))) (hl : ns.length ≤ 10000) (zq : ∀ B' q xs, BlockOk xs → pressedL xs = ns → Same B B' → N B' ((q, .lst (xs.map V.int)) :: G) (Q (.ref q))) (zq2 : ∀ B', (∀ xs, BlockOk xs → pressedL xs ≠ ns) → Same B B' → N B' G (fun H => E (.ref A.c_NoBlock) none H)) : N B G (fun H => sp_opened K A [.ref a] H Q E) := fun zH zs => ⟨B, _, _, _, rfl, zs, ha, hl, zq, zq2⟩


def bytesN (n : Int) : Nat → List Int
  | 0 => []
  | w + 1 => (n / 2 ^ (7 * w) % 128) :: bytesN n w
theorem bytesN_len (n : Int) : ∀ w, (bytesN n w).length = w
  | 0 => rfl
  | w + 1 => by rw [bytesN, List.length_cons, bytesN_len n w]
theorem bytesN_map (n : Int) : ∀ w : Nat, (List.range w).map (fun k : Nat => n / 2 ^ (7 * ((w : Int) - 1 - k)).toNat % 128) = bytesN n w
  | 0 => rfl
  | w + 1 => by
    rw [List.range_succ_eq_map, List.map_cons, List.map_map, bytesN, ← bytesN_map n w]
    congr 1
    · rw [show (7 * (((w + 1 : Nat) : Int) - 1 - ((0 : Nat) : Int))).toNat = 7 * w by omega]
    · apply List.map_congr_left
      intro k _
      show n / 2 ^ (7 * (((w + 1 : Nat) : Int) - 1 - ((k + 1 : Nat) : Int))).toNat % 128 = _
      rw [show (7 * (((w + 1 : Nat) : Int) - 1 - ((k + 1 : Nat) : Int))).toNat = (7 * ((w : Int) - 1 - k)).toNat by omega]
theorem bytesN_low (n : Int) : ∀ w, ∀ b ∈ bytesN n w, 0 ≤ b ∧ b < 128
  | 0, b, h => by cases h
  | w + 1, b, h => by
    rcases List.mem_cons.mp h with rfl | h
    · omega
    · exact bytesN_low n w b h
/-- the number that low bytes write -/
def numOf (acc : Int) (ds : List Int) : Int := ds.foldl (fun a d => 128 * a + d) acc
theorem numOf_app (acc : Int) (ds : List Int) (d : Int) : numOf acc (ds ++ [d]) = 128 * numOf acc ds + d := by
  unfold numOf; rw [List.foldl_append]; rfl
theorem numOf_bytesN {n : Int} (h0 : 0 ≤ n) : ∀ (w : Nat) (acc : Int), numOf acc (bytesN n w) = acc * 2 ^ (7 * w) + n % 2 ^ (7 * w)
  | 0, acc => by
    show acc = acc * 1 + n % 1
    omega
  | w + 1, acc => by
    show numOf (128 * acc + n / 2 ^ (7 * w) % 128) (bytesN n w) = _
    rw [numOf_bytesN h0 w]
    have e : (2 : Int) ^ (7 * (w + 1)) = 2 ^ (7 * w) * 128 := by
      rw [show 7 * (w + 1) = 7 * w + 7 by omega, Int.pow_add]; rfl
    have hp : (0 : Int) < 2 ^ (7 * w) := Int.pow_pos (by decide)
    rw [e]
    generalize (2 : Int) ^ (7 * w) = p at hp ⊢
    have e2 : n % (p * 128) = p * (n / p % 128) + n % p := by
      have h1 := Int.mul_ediv_add_emod n p
      have h2 := Int.mul_ediv_add_emod (n / p) 128
      have h4 : n / (p * 128) = n / p / 128 := (Int.ediv_ediv_of_nonneg (Int.le_of_lt hp)).symm
      have h3 := Int.mul_ediv_add_emod n (p * 128)
      rw [h4] at h3
      have e5 : n = p * (128 * (n / p / 128) + n / p % 128) + n % p := by rw [h2]; exact h1.symm
      rw [Int.mul_add, ← Int.mul_assoc] at e5
      omega
    rw [e2, Int.add_mul]
    have e6 : 128 * acc * p = acc * (p * 128) := by rw [Int.mul_comm 128 acc, Int.mul_assoc, Int.mul_comm 128 p]
    have e7 : n / p % 128 * p = p * (n / p % 128) := Int.mul_comm _ _
    rw [e6, e7]
    omega
abbrev s_number_of : Stmt := topS 14
abbrev N_number_of : List Str := ["data", "number", "byte"]
theorem sc_number_of : FnScope N_number_of ["data"] (defScope s_number_of) := ⟨rfl, rfl, rfl, by decide +kernel, rfl, by decide +kernel, by decide +kernel⟩







def sp_number_of (K : PySem.W.Frag) (A : Ads) : Sp := fun zvs zH Q E => ∃ (B : Hp) (G : Own) (a : Addr) (ns : List Int), zvs = [.ref a] ∧ SI B G zH ∧ (Sq K B G a (ns.map V.int)) ∧ (∀ d ∈ ns, 0 ≤ d ∧ d < 128) ∧ (ns.length ≤ 10000) ∧ (N B G (Q (.int (numOf 0 ns))))
theorem len_number_of {K : PySem.W.Frag} {A : Ads} : ∀ vs H Q E, sp_number_of K A vs H Q E → vs.length = 1 := by
  intro vs H Q E h
  obtain ⟨_, _, _, _, rfl, _⟩ := h
  rfl
def x_number_of_0 (K : PySem.W.Frag) (A : Ads) (E : XK) : TS :=
  (tSeq (tFor (iList K (tVar 0)) (gName 2)
    (tSeq (tAsg (tOp uOr (tOp uShl (tVar 1) (tC (.int (7)))) (tVar 2)) (gName 1))
    tNext))
    (tSeq (tRet (tVar 1))
    tNext))
instance {K : PySem.W.Frag} {A : Ads} {E : XK} : Unf (x_number_of_0 K A E) (
  (tSeq (tFor (iList K (tVar 0)) (gName 2)
    (tSeq (tAsg (tOp uOr (tOp uShl (tVar 1) (tC (.int (7)))) (tVar 2)) (gName 1))
    tNext))
    (tSeq (tRet (tVar 1))
    tNext))) := ⟨rfl⟩
def t_number_of (K : PySem.W.Frag) (A : Ads) (E : XK) : TS :=
  (tSeq (tAsg (tC (.int (0))) (gName 1))
    (x_number_of_0 K A E))
theorem pure_number_of {K : PySem.W.Frag} {A : Ads} (T : Fct K A) (vs : List V) (H : Hp) (Q : VK) (E : XK) (h : sp_number_of K A vs H Q E) : t_number_of K A E (endE Q) (L2.start N_number_of vs) H := by
  obtain ⟨B, G, a, ns, rfl, zs, hs, hb, hl, k⟩ := h
  refine (?_ : N B G (fun H => t_number_of K A E (endE Q) (L2.start N_number_of [.ref a]) H)) H zs
  clear zs
  unfold t_number_of

  walk_at "sk stp"
  refine n_lpLi ns (fun i σ L => ∃ m y, σ = [some (.ref a), some (.int m), y] ∧ L = G ∧ m = numOf 0 (ns.take i) ∧ 0 ≤ m ∧ m < 2 ^ (7 * i)) (fun i σ L _ p => p.choose_spec.choose_spec.2.1 ▸ hs) ⟨_, _, rfl, rfl, rfl, by decide, by decide⟩ ?_ ?_
  · rintro i σ L hi ⟨m, y, rfl, rfl, e, h0, h1⟩
    have hd := hb _ (List.getElem_mem hi)
    have e2 : (2 : Int) ^ (7 * (i + 1)) = 2 ^ (7 * i) * 128 := by
      rw [show 7 * (i + 1) = 7 * i + 7 by omega, Int.pow_add]; rfl
    walk_at "sk stp"
    refine n_shlW (cshl7 h0 h1 (by decide) (by omega)) ?_
    walk_at "sk stp"
    refine n_orL (k := 7) h0 hd.1 hd.2 ?_
    walk_at "sk stp"
    refine n_ki ⟨_, _, rfl, rfl, ?_, by omega, by rw [e2]; omega⟩ (.refl _)
    rw [take_step hi, numOf_app, ← e]
    have : (2 : Int) ^ 7 = 128 := by decide
    rw [this]; omega
  · rintro σ L ⟨m, y, rfl, rfl, e, h0, h1⟩
    walk_at "sk stp"
    rw [List.take_length] at e
    rw [e]
    exact k
theorem raw_number_of {P : Program} {w : World} {K : PySem.W.Frag} {mg : Str → Option Value} {base : Heap} {A : Ads} {f : Addr} {fd : FuncData} (F : Fun K "number_of" "number_of" s_number_of f fd) (T : Txt K mg A) : FnOk P w K mg base CX0 1 f fd ["data"] (sp_number_of K A) := by
  refine F.ok sc_number_of (fun vs H Q E h => len_number_of vs H Q E h) (fun cdv Ar outer s H vs Q E hr h => ⟨t_number_of K A E, PSs.nox ?_, pure_number_of T.fct vs H Q E h⟩)
  have nd := sc_number_of.nd
  exact (pss_cons (ps_set (i := 1) nd rfl (Or.inl rfl) pe_int)
    (pss_cons (ps_for PassesOwn.never rfl (pi_list (pv 0)) (pg_name (i := 2) nd rfl (Or.inl rfl))
    (pss_cons (ps_set (i := 1) nd rfl (Or.inl rfl) (pe_op op_uOr (pe_op op_uShl (pv 1) (pe_glob (by rfl) T.c_WIDE.choose_spec.1 T.c_WIDE.choose_spec.2)) (pv 2)))
    pss_nil))
    (pss_cons (ps_ret (pv 1))
    pss_nil)))
theorem use_number_of {K : PySem.W.Frag} {A : Ads} {B : Hp} {G : Own} {Q : VK} {E : XK} {a : Addr} {ns : List Int} (hs : Sq K B G a (ns.map V.int)) (hb : ∀ d ∈ ns, 0 ≤ d ∧ d < 128) (hl : ns.length ≤ 10000) (zq : N B G (Q (.int (numOf 0 ns)))) : N B G (fun H => sp_number_of K A [.ref a] H Q E) := fun zH zs => ⟨B, _, _, _, rfl, zs, hs, hb, hl, zq⟩
local macro_rules | `(tactic| walk_at "sk st") => `(tactic| with_reducible (apply use_number_of; (next => with_unfolding_all walk_at "sk sq"); (next => with_unfolding_all walk_at "sk sd"); (next => with_unfolding_all walk_at "sk len"); (skip)))

/-! mathematics -/
def wsum : Int → List Int → Int
  | _, [] => 0
  | k, x :: r => x * k + wsum (k + 1) r
theorem wsum_app : ∀ (ns : List Int) (k y : Int), wsum k (ns ++ [y]) = wsum k ns + y * (k + ns.length)
  | [], k, y => by simp [wsum]
  | n :: r, k, y => by
    show n * k + wsum (k + 1) (r ++ [y]) = n * k + wsum (k + 1) r + y * (k + ((r.length + 1 : Nat) : Int))
    rw [wsum_app r (k + 1) y]
    have : k + 1 + (r.length : Int) = k + ((r.length + 1 : Nat) : Int) := by omega
    rw [this]
    omega
abbrev s_check : Stmt := topS 54
abbrev N_check : List Str := ["data", "whole", "at", "byte"]
theorem sc_check : FnScope N_check ["data"] (defScope s_check) := ⟨rfl, rfl, rfl, by decide +kernel, rfl, by decide +kernel, by decide +kernel⟩






def sp_check (K : PySem.W.Frag) (A : Ads) : Sp := fun zvs zH Q E => ∃ (B : Hp) (G : Own) (a : Addr) (ns : List Int), zvs = [.ref a] ∧ SI B G zH ∧ (Sq K B G a (ns.map V.int)) ∧ (ns.length ≤ 100000) ∧ (N B G (Q (.int (wsum 1 ns % 16381))))
theorem len_check {K : PySem.W.Frag} {A : Ads} : ∀ vs H Q E, sp_check K A vs H Q E → vs.length = 1 := by
  intro vs H Q E h
  obtain ⟨_, _, _, _, rfl, _⟩ := h
  rfl
def x_check_0 (K : PySem.W.Frag) (A : Ads) (E : XK) : TS :=
  (tSeq (tFor (iEnum K (tCons (tVar 0) tNil)) (gTup K 2 (gCons (gName 2) (gCons (gName 3) gNil)))
    (tSeq (tAug 1 (tOp uMul (tVar 3) (tOp (uAdd K) (tVar 2) (tC (.int (1))))) (ipI fun i j => i + j))
    tNext))
    (tSeq (tRet (tOp uMod (tVar 1) (tC (.int (16381)))))
    tNext))
instance {K : PySem.W.Frag} {A : Ads} {E : XK} : Unf (x_check_0 K A E) (
  (tSeq (tFor (iEnum K (tCons (tVar 0) tNil)) (gTup K 2 (gCons (gName 2) (gCons (gName 3) gNil)))
    (tSeq (tAug 1 (tOp uMul (tVar 3) (tOp (uAdd K) (tVar 2) (tC (.int (1))))) (ipI fun i j => i + j))
    tNext))
    (tSeq (tRet (tOp uMod (tVar 1) (tC (.int (16381)))))
    tNext))) := ⟨rfl⟩
def t_check (K : PySem.W.Frag) (A : Ads) (E : XK) : TS :=
  (tSeq (tAsg (tC (.int (0))) (gName 1))
    (x_check_0 K A E))
theorem pure_check {K : PySem.W.Frag} {A : Ads} (T : Fct K A) (vs : List V) (H : Hp) (Q : VK) (E : XK) (h : sp_check K A vs H Q E) : t_check K A E (endE Q) (L2.start N_check vs) H := by
  obtain ⟨B, G, a, ns, rfl, zs, hs, hl, k⟩ := h
  refine (?_ : N B G (fun H => t_check K A E (endE Q) (L2.start N_check [.ref a]) H)) H zs
  clear zs
  unfold t_check

  walk_at "sk stp"
  refine n_lpEi ns (fun i σ L => ∃ w x y, σ = [some (.ref a), some (.int w), x, y] ∧ G = L ∧ w = wsum 1 (ns.take i)) (fun i σ L _ p => by obtain ⟨_, _, _, _, rfl, _⟩ := p; exact hs) ⟨_, _, _, rfl, rfl, rfl⟩ ?_ ?_
  · rintro i σ L hi ⟨w, x, y, rfl, rfl, e⟩
    walk_at "sk stp"
    refine n_ki ⟨_, _, _, rfl, rfl, ?_⟩ (List.Sublist.refl _)
    rw [take_step hi, wsum_app, List.length_take_of_le (by omega), Int.add_comm 1, e]
  · rintro σ L ⟨w, x, y, rfl, rfl, e⟩
    walk_at "sk stp"
    rw [List.take_length] at e
    rw [e]
    exact k
theorem raw_check {P : Program} {w : World} {K : PySem.W.Frag} {mg : Str → Option Value} {base : Heap} {A : Ads} {f : Addr} {fd : FuncData} (F : Fun K "check" "check" s_check f fd) (T : Txt K mg A) : FnOk P w K mg base CX0 1 f fd ["data"] (sp_check K A) := by
  refine F.ok sc_check (fun vs H Q E h => len_check vs H Q E h) (fun cdv Ar outer s H vs Q E hr h => ⟨t_check K A E, PSs.nox ?_, pure_check T.fct vs H Q E h⟩)
  have nd := sc_check.nd
  exact (pss_cons (ps_set (i := 1) nd rfl (Or.inl rfl) pe_int)
    (pss_cons (ps_for PassesOwn.never rfl (pi_enum (by rfl) T.b_enumerate (pa_cons (pv 0) pa_nil)) (pg_tup rfl (pgs_cons (pg_name (i := 2) nd rfl (Or.inl rfl)) (pgs_cons (pg_name (i := 3) nd rfl (Or.inl rfl)) pgs_nil)))
    (pss_cons (ps_aug (i := 1) nd rfl (Or.inl rfl) (pe_op op_uMul (pv 3) (pe_op op_uAdd (pv 2) pe_int)) ip_add)
    pss_nil))
    (pss_cons (ps_ret (pe_op op_uMod (pv 1) (pe_glob (by rfl) T.c_PRIME.choose_spec.1 T.c_PRIME.choose_spec.2)))
    pss_nil)))
theorem use_check {K : PySem.W.Frag} {A : Ads} {B : Hp} {G : Own} {Q : VK} {E : XK} {a : Addr} {ns : List Int} (hs : Sq K B G a (ns.map V.int)) (hl : ns.length ≤ 100000) (zq : N B G (Q (.int (wsum 1 ns % 16381)))) : N B G (fun H => sp_check K A [.ref a] H Q E) := fun zH zs => ⟨B, _, _, _, rfl, zs, hs, hl, zq⟩
local macro_rules | `(tactic| walk_at "sk st") => `(tactic| with_reducible (apply use_check; (next => with_unfolding_all walk_at "sk sq"); (next => with_unfolding_all walk_at "sk len"); (skip)))


/-! frames -/
def chkL (xs : List Int) : Int := wsum 1 xs % 16381
def headL (kind num : Int) (body : List Int) : List Int := kind :: (bytesN num 2 ++ (bytesN body.length 2 ++ body))
def frameL (kind num : Int) (body : List Int) : List Int := headL kind num body ++ bytesN (chkL (headL kind num body)) 2
def BodyOk (kind : Int) (body : List Int) : Prop :=
  (kind = 128 ∧ ∃ xs, BlockOk xs ∧ pressedL xs = body) ∨ (kind = 129 ∧ body.length = 2) ∨ (kind = 131 ∧ body.length = 9) ∨ (kind = 130 ∧ 2 ≤ body.length ∧ 0 < body.getD 1 0 ∧ (body.length : Int) = 2 + 6 * body.getD 1 0)
structure FrameOk (kind num : Int) (body : List Int) : Prop where
  num : 0 ≤ num ∧ num < 16384
  len : body.length < 16384
  low : ∀ d ∈ body, 0 ≤ d ∧ d < 128
  ok : BodyOk kind body
theorem bytes_two {a b : Int} (ha : 0 ≤ a ∧ a < 128) (hb : 0 ≤ b ∧ b < 128) : bytesN (128 * a + b) 2 = [a, b] := by
  show [(128 * a + b) / 2 ^ (7 * 1) % 128, (128 * a + b) / 2 ^ (7 * 0) % 128] = _
  have e1 : (2 : Int) ^ (7 * 1) = 128 := by decide
  have e2 : (2 : Int) ^ (7 * 0) = 1 := by decide
  rw [e1, e2]
  congr 1
  · omega
  · congr 1; omega
theorem bytes_get (n : Int) : ∃ a b, bytesN n 2 = [a, b] ∧ (0 ≤ a ∧ a < 128) ∧ (0 ≤ b ∧ b < 128) ∧ (0 ≤ n → n < 16384 → n = 128 * a + b) := by
  have e1 : (2 : Int) ^ (7 * 1) = 128 := by decide
  have e2 : (2 : Int) ^ (7 * 0) = 1 := by decide
  refine ⟨_, _, rfl, ?_, ?_, fun h0 h1 => ?_⟩
  · omega
  · omega
  · rw [e1, e2]; omega
theorem numOf_two (a b : Int) : numOf 0 [a, b] = 128 * a + b := by
  show 128 * (128 * 0 + a) + b = _
  omega
theorem headL_len (kind num : Int) (body : List Int) : (headL kind num body).length = 5 + body.length := by
  rw [headL, List.length_cons, List.length_append, List.length_append, bytesN_len, bytesN_len]; omega
theorem frameL_len (kind num : Int) (body : List Int) : (frameL kind num body).length = 7 + body.length := by
  rw [frameL, List.length_append, headL_len, bytesN_len]; omega
theorem chkL_range (xs : List Int) : 0 ≤ chkL xs ∧ chkL xs < 16381 := ⟨Int.emod_nonneg _ (by decide), Int.emod_lt_of_pos _ (by decide)⟩
theorem frame_facts {T rest body : List Int} {kind num : Int} (hf : FrameOk kind num body) (e : T = frameL kind num body ++ rest) :
    ∃ a b c d p q, T = kind :: a :: b :: c :: d :: (body ++ p :: q :: rest) ∧ ((0 ≤ a ∧ a < 128) ∧ (0 ≤ b ∧ b < 128) ∧ (0 ≤ c ∧ c < 128) ∧ (0 ≤ d ∧ d < 128) ∧ (0 ≤ p ∧ p < 128) ∧ (0 ≤ q ∧ q < 128)) ∧ num = 128 * a + b ∧ (body.length : Int) = 128 * c + d ∧ chkL (kind :: a :: b :: c :: d :: body) = 128 * p + q := by
  obtain ⟨a, b, e1, ha, hb, en⟩ := bytes_get num
  obtain ⟨c, d, e2, hc, hd, el⟩ := bytes_get body.length
  have eh : headL kind num body = kind :: a :: b :: c :: d :: body := by rw [headL, e1, e2]; rfl
  obtain ⟨p, q, e3, hp, hq, ec⟩ := bytes_get (chkL (kind :: a :: b :: c :: d :: body))
  have hr := chkL_range (kind :: a :: b :: c :: d :: body)
  refine ⟨a, b, c, d, p, q, ?_, ⟨ha, hb, hc, hd, hp, hq⟩, en hf.num.1 hf.num.2, el (by omega) (by have := hf.len; omega), ec hr.1 (by omega)⟩
  rw [e, frameL, eh, e3]
  simp
theorem frame_of {T rest body : List Int} {kind a b c d p q : Int} (e : T = kind :: a :: b :: c :: d :: (body ++ p :: q :: rest)) (ha : 0 ≤ a ∧ a < 128) (hb : 0 ≤ b ∧ b < 128) (hc : 0 ≤ c ∧ c < 128) (hd : 0 ≤ d ∧ d < 128) (hp : 0 ≤ p ∧ p < 128) (hq : 0 ≤ q ∧ q < 128)
    (hl : (body.length : Int) = 128 * c + d) (hk : chkL (kind :: a :: b :: c :: d :: body) = 128 * p + q) (hlow : ∀ x ∈ body, 0 ≤ x ∧ x < 128) (hok : BodyOk kind body) : T = frameL kind (128 * a + b) body ++ rest ∧ FrameOk kind (128 * a + b) body := by
  refine ⟨?_, ⟨by omega, by omega⟩, by omega, hlow, hok⟩
  have eh : headL kind (128 * a + b) body = kind :: a :: b :: c :: d :: body := by rw [headL, bytes_two ha hb, hl, bytes_two hc hd]; rfl
  rw [e, frameL, eh, hk, bytes_two hp hq]
  simp
theorem five {T : List Int} (h : 5 ≤ T.length) : ∃ k a b c d U, T = k :: a :: b :: c :: d :: U := by
  match T, h with
  | k :: a :: b :: c :: d :: U, _ => exact ⟨k, a, b, c, d, U, rfl⟩
def lowL (xs : List Int) : Bool := xs.all fun d => decide (d ≤ 127)
theorem lowL_iff {xs : List Int} : lowL xs = true ↔ ∀ d ∈ xs, d ≤ 127 := by
  unfold lowL
  rw [List.all_eq_true]
  exact ⟨fun h d hd => of_decide_eq_true (h d hd), fun h d hd => decide_eq_true (h d hd)⟩
abbrev s_is_low : Stmt := topS 64
abbrev N_is_low : List Str := ["data", "byte"]
theorem sc_is_low : FnScope N_is_low ["data"] (defScope s_is_low) := ⟨rfl, rfl, rfl, by decide +kernel, rfl, by decide +kernel, by decide +kernel⟩





def sp_is_low (K : PySem.W.Frag) (A : Ads) : Sp := fun zvs zH Q E => ∃ (B : Hp) (G : Own) (a : Addr) (xs : List Int), zvs = [.ref a] ∧ SI B G zH ∧ (Sq K B G a (xs.map V.int)) ∧ (N B G (Q (.bl (lowL xs))))
theorem len_is_low {K : PySem.W.Frag} {A : Ads} : ∀ vs H Q E, sp_is_low K A vs H Q E → vs.length = 1 := by
  intro vs H Q E h
  obtain ⟨_, _, _, _, rfl, _⟩ := h
  rfl
def t_is_low (K : PySem.W.Frag) (A : Ads) (E : XK) : TS :=
  (tSeq (tFor (iList K (tVar 0)) (gName 1)
    (tSeq (tIfS (tTest (tOp uGt (tVar 1) (tC (.int (127)))))
    (tSeq (tRet (tC (.bl false)))
    tNext)
    tNext)
    tNext))
    (tSeq (tRet (tC (.bl true)))
    tNext))
theorem pure_is_low {K : PySem.W.Frag} {A : Ads} (T : Fct K A) (vs : List V) (H : Hp) (Q : VK) (E : XK) (h : sp_is_low K A vs H Q E) : t_is_low K A E (endE Q) (L2.start N_is_low vs) H := by
  obtain ⟨B, G, a, xs, rfl, zs, hs, k⟩ := h
  refine (?_ : N B G (fun H => t_is_low K A E (endE Q) (L2.start N_is_low [.ref a]) H)) H zs
  clear zs
  unfold t_is_low

  walk_at "sk stp"
  refine n_lpLi xs (fun i σ L => ∃ (y : Option V), σ = [some (.ref a), y] ∧ G = L ∧ lowL xs = lowL (xs.drop i)) ?_ ⟨_, rfl, rfl, rfl⟩ ?_ ?_
  · rintro i σ L _ ⟨y, rfl, rfl, _⟩
    exact hs
  · rintro i σ L hi ⟨y, rfl, rfl, e⟩
    rw [List.drop_eq_getElem_cons hi] at e
    have e2 : lowL (xs[i] :: xs.drop (i + 1)) = (decide (xs[i] ≤ 127) && lowL (xs.drop (i + 1))) := rfl
    walk_at "sk stp"
    refine n_iteD (fun h => ?_) (fun h => ?_)
    · walk_at "sk stp"
      rw [e, e2, decide_eq_false (by omega)] at k
      exact k
    · walk_at "sk stp"
      refine n_ki ⟨_, rfl, rfl, ?_⟩ (.refl _)
      rw [e, e2, decide_eq_true (by omega)]; rfl
  · rintro σ L ⟨y, rfl, rfl, e⟩
    rw [List.drop_length] at e
    walk_at "sk stp"
    rw [e] at k
    exact k
theorem raw_is_low {P : Program} {w : World} {K : PySem.W.Frag} {mg : Str → Option Value} {base : Heap} {A : Ads} {f : Addr} {fd : FuncData} (F : Fun K "is_low" "is_low" s_is_low f fd) (T : Txt K mg A) : FnOk P w K mg base CX0 1 f fd ["data"] (sp_is_low K A) := by
  refine F.ok sc_is_low (fun vs H Q E h => len_is_low vs H Q E h) (fun cdv Ar outer s H vs Q E hr h => ⟨t_is_low K A E, PSs.nox ?_, pure_is_low T.fct vs H Q E h⟩)
  have nd := sc_is_low.nd
  exact (pss_cons (ps_for PassesOwn.never rfl (pi_list (pv 0)) (pg_name (i := 1) nd rfl (Or.inl rfl))
    (pss_cons (ps_if (pt_cmpR op_uGt (pv 1) pe_int (nomark _)) (pss_cons (ps_ret pe_bl)
    pss_nil) pss_nil)
    pss_nil))
    (pss_cons (ps_ret pe_bl)
    pss_nil))
theorem use_is_low {K : PySem.W.Frag} {A : Ads} {B : Hp} {G : Own} {Q : VK} {E : XK} {a : Addr} {xs : List Int} (hs : Sq K B G a (xs.map V.int)) (zq : N B G (Q (.bl (lowL xs)))) : N B G (fun H => sp_is_low K A [.ref a] H Q E) := fun zH zs => ⟨B, _, _, _, rfl, zs, hs, zq⟩
local macro_rules | `(tactic| walk_at "sk st") => `(tactic| with_reducible (apply use_is_low; (next => with_unfolding_all walk_at "sk sq"); (skip)))

abbrev s_size_of : Stmt := topS 65
abbrev N_size_of : List Str := ["head"]
theorem sc_size_of : FnScope N_size_of ["head"] (defScope s_size_of) := ⟨rfl, rfl, rfl, by decide +kernel, rfl, by decide +kernel, by decide +kernel⟩






def sp_size_of (K : PySem.W.Frag) (A : Ads) : Sp := fun zvs zH Q E => ∃ (B : Hp) (G : Own) (a : Addr) (k0 a0 b0 c0 d0 : Int), zvs = [.ref a] ∧ SI B G zH ∧ (Sq K B G a ([k0, a0, b0, c0, d0].map V.int)) ∧ ((0 ≤ c0 ∧ c0 < 128) ∧ (0 ≤ d0 ∧ d0 < 128)) ∧ (N B G (Q (.int (7 + (128 * c0 + d0)))))
theorem len_size_of {K : PySem.W.Frag} {A : Ads} : ∀ vs H Q E, sp_size_of K A vs H Q E → vs.length = 1 := by
  intro vs H Q E h
  obtain ⟨_, _, _, _, _, _, _, _, rfl, _⟩ := h
  rfl
def t_size_of (K : PySem.W.Frag) (A : Ads) (E : XK) : TS :=
  (tSeq (tRet (tOp (uAdd K) (tC (.int (7))) (tCl (sp_number_of K A) (WE W0) (tCons (tSl (rSlL K) (tVar 0) (tPart (tC (.int (3)))) (tPart (tC (.int (5))))) tNil))))
    tNext)
theorem pure_size_of {K : PySem.W.Frag} {A : Ads} (T : Fct K A) (vs : List V) (H : Hp) (Q : VK) (E : XK) (h : sp_size_of K A vs H Q E) : t_size_of K A E (endE Q) (L2.start N_size_of vs) H := by
  obtain ⟨B, G, a, k0, a0, b0, c0, d0, rfl, zs, hs, hc, k⟩ := h
  refine (?_ : N B G (fun H => t_size_of K A E (endE Q) (L2.start N_size_of [.ref a]) H)) H zs
  clear zs
  unfold t_size_of

  walk_at "sk stp"
  rename_i p0
  show N B ((p0, .lst ([c0, d0].map V.int)) :: G) _
  refine use_number_of (ns := [c0, d0]) (sq_own 0 rfl) (by intro x hx; simp only [List.mem_cons, List.not_mem_nil, or_false] at hx; omega) (by show 2 ≤ 10000; decide) ?_
  rw [numOf_two]
  walk_at "sk stp"
  exact n_tl k
theorem raw_size_of {P : Program} {w : World} {K : PySem.W.Frag} {mg : Str → Option Value} {base : Heap} {A : Ads} {f : Addr} {fd : FuncData} (F : Fun K "size_of" "size_of" s_size_of f fd) (T : Txt K mg A) (O_number_of : OkC P w K mg base CX0 1 "number_of" ["data"] (sp_number_of K A)) : FnOk P w K mg base CX0 2 f fd ["head"] (sp_size_of K A) := by
  refine F.ok sc_size_of (fun vs H Q E h => len_size_of vs H Q E h) (fun cdv Ar outer s H vs Q E hr h => ⟨t_size_of K A E, PSs.nox ?_, pure_size_of T.fct vs H Q E h⟩)
  have nd := sc_size_of.nd
  exact (pss_cons (ps_ret (pe_op op_uAdd (pe_glob (by rfl) T.c_AROUND.choose_spec.1 T.c_AROUND.choose_spec.2) (pe_cl (E := WE W0) O_number_of (hr.mono (by decide)) (by rfl) pass00 (pa_cons (pe_slice sl_list (pv 0) (po_some pe_int) (po_some (pe_glob (by rfl) T.c_HEAD.choose_spec.1 T.c_HEAD.choose_spec.2))) pa_nil))))
    pss_nil)
theorem use_size_of {K : PySem.W.Frag} {A : Ads} {B : Hp} {G : Own} {Q : VK} {E : XK} {a : Addr} {k0 a0 b0 c0 d0 : Int} (hs : Sq K B G a ([k0, a0, b0, c0, d0].map V.int)) (hc : (0 ≤ c0 ∧ c0 < 128) ∧ (0 ≤ d0 ∧ d0 < 128)) (zq : N B G (Q (.int (7 + (128 * c0 + d0))))) : N B G (fun H => sp_size_of K A [.ref a] H Q E) := fun zH zs => ⟨B, _, _, _, _, _, _, _, rfl, zs, hs, hc, zq⟩
local macro_rules | `(tactic| walk_at "sk st") => `(tactic| with_reducible (apply use_size_of; (next => with_unfolding_all walk_at "sk sq"); (next => with_unfolding_all walk_at "sk sd"); (skip)))

abbrev s_is_block : Stmt := topS 66
abbrev N_is_block : List Str := ["body"]
theorem sc_is_block : FnScope N_is_block ["body"] (defScope s_is_block) := ⟨rfl, rfl, rfl, by decide +kernel, rfl, by decide +kernel, by decide +kernel⟩







def sp_is_block (K : PySem.W.Frag) (A : Ads) : Sp := fun zvs zH Q E => ∃ (B : Hp) (G : Own) (a : Addr) (ns : List Int), zvs = [.ref a] ∧ SI B G zH ∧ (Sq K B G a (ns.map V.int)) ∧ (ns.length ≤ 10000) ∧ (∀ B', (∃ xs, BlockOk xs ∧ pressedL xs = ns) → Same B B' → N B' G (Q (.bl true))) ∧ (∀ B', ¬ (∃ xs, BlockOk xs ∧ pressedL xs = ns) → Same B B' → N B' G (Q (.bl false)))
theorem len_is_block {K : PySem.W.Frag} {A : Ads} : ∀ vs H Q E, sp_is_block K A vs H Q E → vs.length = 1 := by
  intro vs H Q E h
  obtain ⟨_, _, _, _, rfl, _⟩ := h
  rfl
def t_is_block (K : PySem.W.Frag) (A : Ads) (E : XK) : TS :=
  (tSeq (tTryOn K (.ref A.c_NoBlock) (fun W2 => (tSeq (tDrop (tCl (sp_opened K A) (WE W2) (tCons (tCB (uListOf K) (tCons (tVar 0) tNil)) tNil)))
    tNext)) (fun xa cls xd => (tSeq (tRet (tC (.bl false)))
    tNext)) W0)
    (tSeq (tRet (tC (.bl true)))
    tNext))
theorem pure_is_block {K : PySem.W.Frag} {A : Ads} (T : Fct K A) (vs : List V) (H : Hp) (Q : VK) (E : XK) (h : sp_is_block K A vs H Q E) : t_is_block K A E (endE Q) (L2.start N_is_block vs) H := by
  obtain ⟨B, G, a, ns, rfl, zs, hs, hl, k, k2⟩ := h
  refine (?_ : N B G (fun H => t_is_block K A E (endE Q) (L2.start N_is_block [.ref a]) H)) H zs
  clear zs
  unfold t_is_block

  walk_at "sk stp"
  refine use_opened (ns := ns) (by walk_at "sk is") hl (fun B1 q xs hok e sm => ?_) (fun B1 h sm => ?_)
  · walk_at "sk stp"
    exact n_sub (by walk_at "sk sub") (k B1 ⟨xs, hok, e⟩ sm)
  · walk_at "sk stp"
    exact n_sub (by walk_at "sk sub") (k2 B1 (fun ⟨xs, hok, e⟩ => h xs hok e) sm)
theorem raw_is_block {P : Program} {w : World} {K : PySem.W.Frag} {mg : Str → Option Value} {base : Heap} {A : Ads} {f : Addr} {fd : FuncData} (F : Fun K "is_block" "is_block" s_is_block f fd) (T : Txt K mg A) (O_opened : OkC P w K mg base (CXL P w) 7 "opened" ["data"] (sp_opened K A)) : FnOk P w K mg base CX0 8 f fd ["body"] (sp_is_block K A) := by
  refine F.ok sc_is_block (fun vs H Q E h => len_is_block vs H Q E h) (fun cdv Ar outer s H vs Q E hr h => ⟨t_is_block K A E, PSs.nox ?_, pure_is_block T.fct vs H Q E h⟩)
  have nd := sc_is_block.nd
  exact (pss_cons (L2.ps_try_only rfl rfl ⟨by rfl, by decide, .inl T.g_NoBlock⟩ tk02 (fun W2 pn xe tk2 po2 => (pss_cons (ps_expr (pe_cl (E := WE W2) O_opened (hr.mono (by decide)) (by rfl) (passL tk2) (pa_cons (pe_callTy call_uList (by rfl) T.b_list boot_list (pa_cons (pv 0) pa_nil)) pa_nil)))
    pss_nil)) (fun xa oe cls xd pn hz hf => (pss_cons (ps_ret pe_bl)
    pss_nil)))
    (pss_cons (ps_ret pe_bl)
    pss_nil))
theorem use_is_block {K : PySem.W.Frag} {A : Ads} {B : Hp} {G : Own} {Q : VK} {E : XK} {a : Addr} {ns : List Int} (hs : Sq K B G a (ns.map V.int)) (hl : ns.length ≤ 10000) (zq : ∀ B', (∃ xs, BlockOk xs ∧ pressedL xs = ns) → Same B B' → N B' G (Q (.bl true))) (zq2 : ∀ B', ¬ (∃ xs, BlockOk xs ∧ pressedL xs = ns) → Same B B' → N B' G (Q (.bl false))) : N B G (fun H => sp_is_block K A [.ref a] H Q E) := fun zH zs => ⟨B, _, _, _, rfl, zs, hs, hl, zq, zq2⟩

abbrev s_is_body : Stmt := topS 67
abbrev N_is_body : List Str := ["kind", "body"]
theorem sc_is_body : FnScope N_is_body ["kind", "body"] (defScope s_is_body) := ⟨rfl, rfl, rfl, by decide +kernel, rfl, by decide +kernel, by decide +kernel⟩








def sp_is_body (K : PySem.W.Frag) (A : Ads) : Sp := fun zvs zH Q E => ∃ (B : Hp) (G : Own) (a : Addr) (kind : Int) (ns : List Int), zvs = [.int kind, .ref a] ∧ SI B G zH ∧ (Sq K B G a (ns.map V.int)) ∧ (ns.length ≤ 10000) ∧ (128 ≤ kind ∧ kind ≤ 131) ∧ (∀ B', BodyOk kind ns → Same B B' → N B' G (Q (.bl true))) ∧ (∀ B', ¬ BodyOk kind ns → Same B B' → N B' G (Q (.bl false)))
theorem len_is_body {K : PySem.W.Frag} {A : Ads} : ∀ vs H Q E, sp_is_body K A vs H Q E → vs.length = 2 := by
  intro vs H Q E h
  obtain ⟨_, _, _, _, _, rfl, _⟩ := h
  rfl
def x_is_body_0 (K : PySem.W.Frag) (A : Ads) (E : XK) : TS :=
  (tSeq (tRet (tAndV (tOp uGe (tCB (uLen K) (tCons (tVar 1) tNil)) (tC (.int (2)))) (tAndV (tOp uGt (tOp (rIx K) (tVar 1) (tC (.int (1)))) (tC (.int (0)))) (tOp (uEq K) (tCB (uLen K) (tCons (tVar 1) tNil)) (tOp (uAdd K) (tC (.int (2))) (tOp uMul (tC (.int (6))) (tOp (rIx K) (tVar 1) (tC (.int (1))))))))))
    tNext)
instance {K : PySem.W.Frag} {A : Ads} {E : XK} : Unf (x_is_body_0 K A E) (
  (tSeq (tRet (tAndV (tOp uGe (tCB (uLen K) (tCons (tVar 1) tNil)) (tC (.int (2)))) (tAndV (tOp uGt (tOp (rIx K) (tVar 1) (tC (.int (1)))) (tC (.int (0)))) (tOp (uEq K) (tCB (uLen K) (tCons (tVar 1) tNil)) (tOp (uAdd K) (tC (.int (2))) (tOp uMul (tC (.int (6))) (tOp (rIx K) (tVar 1) (tC (.int (1))))))))))
    tNext)) := ⟨rfl⟩
def x_is_body_1 (K : PySem.W.Frag) (A : Ads) (E : XK) : TS :=
  (tSeq (tIfS (tTest (tOp (uEq K) (tVar 0) (tC (.int (131)))))
    (tSeq (tRet (tOp (uEq K) (tCB (uLen K) (tCons (tVar 1) tNil)) (tC (.int (9)))))
    tNext)
    tNext)
    (x_is_body_0 K A E))
instance {K : PySem.W.Frag} {A : Ads} {E : XK} : Unf (x_is_body_1 K A E) (
  (tSeq (tIfS (tTest (tOp (uEq K) (tVar 0) (tC (.int (131)))))
    (tSeq (tRet (tOp (uEq K) (tCB (uLen K) (tCons (tVar 1) tNil)) (tC (.int (9)))))
    tNext)
    tNext)
    (x_is_body_0 K A E))) := ⟨rfl⟩
def x_is_body_2 (K : PySem.W.Frag) (A : Ads) (E : XK) : TS :=
  (tSeq (tIfS (tTest (tOp (uEq K) (tVar 0) (tC (.int (129)))))
    (tSeq (tRet (tOp (uEq K) (tCB (uLen K) (tCons (tVar 1) tNil)) (tC (.int (2)))))
    tNext)
    tNext)
    (x_is_body_1 K A E))
instance {K : PySem.W.Frag} {A : Ads} {E : XK} : Unf (x_is_body_2 K A E) (
  (tSeq (tIfS (tTest (tOp (uEq K) (tVar 0) (tC (.int (129)))))
    (tSeq (tRet (tOp (uEq K) (tCB (uLen K) (tCons (tVar 1) tNil)) (tC (.int (2)))))
    tNext)
    tNext)
    (x_is_body_1 K A E))) := ⟨rfl⟩
def t_is_body (K : PySem.W.Frag) (A : Ads) (E : XK) : TS :=
  (tSeq (tIfS (tTest (tOp (uEq K) (tVar 0) (tC (.int (128)))))
    (tSeq (tRet (tCl (sp_is_block K A) (WE W0) (tCons (tVar 1) tNil)))
    tNext)
    tNext)
    (x_is_body_2 K A E))
theorem pure_is_body {K : PySem.W.Frag} {A : Ads} (T : Fct K A) (vs : List V) (H : Hp) (Q : VK) (E : XK) (h : sp_is_body K A vs H Q E) : t_is_body K A E (endE Q) (L2.start N_is_body vs) H := by
  obtain ⟨B, G, a, kind, ns, rfl, zs, hs, hl, hk, k, k2⟩ := h
  refine (?_ : N B G (fun H => t_is_body K A E (endE Q) (L2.start N_is_body [.int kind, .ref a]) H)) H zs
  clear zs
  unfold t_is_body

  have k0 : BodyOk kind ns → N B G (Q (.bl true)) := fun h => k B h (Same.refl _)
  have k1 : ¬ BodyOk kind ns → N B G (Q (.bl false)) := fun h => k2 B h (Same.refl _)
  walk_at "sk stp"
  refine n_iteD (fun h => ?_) (fun h => ?_)
  · walk_at "sk stp"
    refine use_is_block (ns := ns) hs hl (fun B1 h1 sm => k B1 (.inl ⟨h, h1⟩) sm) (fun B1 h1 sm => k2 B1 ?_ sm)
    rintro (⟨_, h2⟩ | ⟨h2, _⟩ | ⟨h2, _⟩ | ⟨h2, _⟩)
    · exact h1 h2
    all_goals omega
  walk_at "sk stp"
  refine n_iteD (fun h2 => ?_) (fun h2 => ?_)
  · walk_at "sk stp"
    by_cases hh : ns.length = 2
    · rw [decide_eq_true (by omega)]
      exact k0 (.inr (.inl ⟨h2, hh⟩))
    · rw [decide_eq_false (by omega)]
      refine k1 ?_
      rintro (⟨h3, _⟩ | ⟨_, h3⟩ | ⟨h3, _⟩ | ⟨h3, _⟩) <;> omega
  walk_at "sk stp"
  refine n_iteD (fun h3 => ?_) (fun h3 => ?_)
  · walk_at "sk stp"
    by_cases hh : ns.length = 9
    · rw [decide_eq_true (by omega)]
      exact k0 (.inr (.inr (.inl ⟨h3, hh⟩)))
    · rw [decide_eq_false (by omega)]
      refine k1 ?_
      rintro (⟨h4, _⟩ | ⟨h4, _⟩ | ⟨_, h4⟩ | ⟨h4, _⟩) <;> omega
  walk_at "sk stp"
  have e1 : ns.getD (Int.toNat 1) 0 = ns.getD 1 0 := rfl
  rw [e1]
  have hk3 : kind = 130 := by omega
  by_cases hh : 2 ≤ ns.length ∧ 0 < ns.getD 1 0 ∧ (ns.length : Int) = 2 + 6 * ns.getD 1 0
  · rw [decide_eq_true (by omega), decide_eq_true hh.2.1, decide_eq_true hh.2.2]
    exact k0 (.inr (.inr (.inr ⟨hk3, hh⟩)))
  · have hb : (decide (2 ≤ (ns.length : Int)) && (decide (0 < ns.getD 1 0) && decide ((ns.length : Int) = 2 + 6 * ns.getD 1 0))) = false := by
      rw [Bool.eq_false_iff]
      intro hc
      simp only [Bool.and_eq_true, decide_eq_true_eq] at hc
      exact hh ⟨by omega, hc.2⟩
    rw [hb]
    refine k1 ?_
    rintro (⟨h4, _⟩ | ⟨h4, _⟩ | ⟨h4, _⟩ | ⟨_, h4⟩)
    · omega
    · omega
    · omega
    · exact hh h4
theorem raw_is_body {P : Program} {w : World} {K : PySem.W.Frag} {mg : Str → Option Value} {base : Heap} {A : Ads} {f : Addr} {fd : FuncData} (F : Fun K "is_body" "is_body" s_is_body f fd) (T : Txt K mg A) (O_is_block : OkC P w K mg base CX0 8 "is_block" ["body"] (sp_is_block K A)) : FnOk P w K mg base CX0 9 f fd ["kind", "body"] (sp_is_body K A) := by
  refine F.ok sc_is_body (fun vs H Q E h => len_is_body vs H Q E h) (fun cdv Ar outer s H vs Q E hr h => ⟨t_is_body K A E, PSs.nox ?_, pure_is_body T.fct vs H Q E h⟩)
  have nd := sc_is_body.nd
  exact (pss_cons (ps_if (pt_cmpR (op_uEq hr.units) (pv 0) (pe_glob (by rfl) T.c_BLOCK.choose_spec.1 T.c_BLOCK.choose_spec.2) (nomark _)) (pss_cons (ps_ret (pe_cl (E := WE W0) O_is_block (hr.mono (by decide)) (by rfl) pass00 (pa_cons (pv 1) pa_nil)))
    pss_nil) pss_nil)
    (pss_cons (ps_if (pt_cmpR (op_uEq hr.units) (pv 0) (pe_glob (by rfl) T.c_AGAIN.choose_spec.1 T.c_AGAIN.choose_spec.2) (nomark _)) (pss_cons (ps_ret (pe_cmpR (op_uEq hr.units) (pe_callB call_uLen (by rfl) T.b_len boot_len (pa_cons (pv 1) pa_nil)) pe_int (nomark _)))
    pss_nil) pss_nil)
    (pss_cons (ps_if (pt_cmpR (op_uEq hr.units) (pv 0) (pe_glob (by rfl) T.c_END.choose_spec.1 T.c_END.choose_spec.2) (nomark _)) (pss_cons (ps_ret (pe_cmpR (op_uEq hr.units) (pe_callB call_uLen (by rfl) T.b_len boot_len (pa_cons (pv 1) pa_nil)) pe_int (nomark _)))
    pss_nil) pss_nil)
    (pss_cons (ps_ret (pe_and (pe_cmpR op_uGe (pe_callB call_uLen (by rfl) T.b_len boot_len (pa_cons (pv 1) pa_nil)) pe_int (nomark _)) (pe_and (pe_cmpR op_uGt (pe_ix ix_seq (pv 1) pe_int (fun _ _ => rfl)) pe_int (nomark _)) (pe_one (pe_cmpR (op_uEq hr.units) (pe_callB call_uLen (by rfl) T.b_len boot_len (pa_cons (pv 1) pa_nil)) (pe_op op_uAdd pe_int (pe_op op_uMul (pe_glob (by rfl) T.c_KID.choose_spec.1 T.c_KID.choose_spec.2) (pe_ix ix_seq (pv 1) pe_int (fun _ _ => rfl)))) (nomark _))))))
    pss_nil))))
theorem use_is_body {K : PySem.W.Frag} {A : Ads} {B : Hp} {G : Own} {Q : VK} {E : XK} {a : Addr} {kind : Int} {ns : List Int} (hs : Sq K B G a (ns.map V.int)) (hl : ns.length ≤ 10000) (hk : 128 ≤ kind ∧ kind ≤ 131) (zq : ∀ B', BodyOk kind ns → Same B B' → N B' G (Q (.bl true))) (zq2 : ∀ B', ¬ BodyOk kind ns → Same B B' → N B' G (Q (.bl false))) : N B G (fun H => sp_is_body K A [.int kind, .ref a] H Q E) := fun zH zs => ⟨B, _, _, _, _, rfl, zs, hs, hl, hk, zq, zq2⟩

theorem cut2a (ys : List Int) (e f : Int) : cutI (ys ++ [e, f]) none (some (-2)) = ys := by
  unfold cutI
  rw [HT.sIx_none, List.length_append]
  show ((ys ++ [e, f]).drop 0).take ((if (-2 : Int) < 0 then (-2 + ((ys.length + 2 : Nat) : Int)).toNat else min (-2 : Int).toNat (ys.length + 2)) - 0) = _
  rw [if_pos (by decide), List.drop_zero, Nat.sub_zero, show (-2 + ((ys.length + 2 : Nat) : Int)).toNat = ys.length by omega, List.take_left]
theorem cut2b (ys : List Int) (e f : Int) : cutI (ys ++ [e, f]) (some (-2)) none = [e, f] := by
  unfold cutI
  rw [HT.sIx_none, List.length_append]
  show ((ys ++ [e, f]).drop (if (-2 : Int) < 0 then (-2 + ((ys.length + 2 : Nat) : Int)).toNat else min (-2 : Int).toNat (ys.length + 2))).take (ys.length + 2 - (if (-2 : Int) < 0 then (-2 + ((ys.length + 2 : Nat) : Int)).toNat else min (-2 : Int).toNat (ys.length + 2))) = _
  rw [if_pos (by decide), show (-2 + ((ys.length + 2 : Nat) : Int)).toNat = ys.length by omega, List.drop_left, show ys.length + 2 - ys.length = 2 by omega]
  rfl
theorem cut2c (ys : List Int) (e f : Int) (h : 5 ≤ ys.length) : cutI (ys ++ [e, f]) (some 5) (some (-2)) = ys.drop 5 := by
  unfold cutI
  rw [List.length_append]
  show ((ys ++ [e, f]).drop (if (5 : Int) < 0 then (5 + ((ys.length + 2 : Nat) : Int)).toNat else min (5 : Int).toNat (ys.length + 2))).take ((if (-2 : Int) < 0 then (-2 + ((ys.length + 2 : Nat) : Int)).toNat else min (-2 : Int).toNat (ys.length + 2)) - (if (5 : Int) < 0 then (5 + ((ys.length + 2 : Nat) : Int)).toNat else min (5 : Int).toNat (ys.length + 2))) = _
  rw [if_pos (show (-2 : Int) < 0 by decide), if_neg (show ¬ (5 : Int) < 0 by decide), show (-2 + ((ys.length + 2 : Nat) : Int)).toNat = ys.length by omega, show min (5 : Int).toNat (ys.length + 2) = 5 by omega, List.drop_append_of_le_length h, List.take_left' (by rw [List.length_drop])]
theorem last_two {V : List Int} {s : Nat} (h : V.length = s + 2) : ∃ ys e f, V = ys ++ [e, f] ∧ ys.length = s := by
  have h1 : (V.drop s).length = 2 := by rw [List.length_drop]; omega
  match hd : V.drop s, h1 with
  | [e, f], _ => exact ⟨V.take s, e, f, by rw [← hd, List.take_append_drop], by rw [List.length_take]; omega⟩
theorem n_brk {B : Hp} {L : Own} {W : WX} {C : Addr} {tz : TS} {D : Ends} {σ : Sk.St} {i : Nat} {v : V} (hv : σ[i]? = some (some v)) (q : ∀ d, N B ((d, .xd [("place", v)]) :: L) (fun H => W (.ref C) (some d) σ H)) : N B L (fun H => tSeq (tRsB C W (tCons (tVar i) tNil)) tz D σ H) := fun H s => ⟨v, hv, v, rfl, fun d hd => q d _ (s.new hd)⟩
theorem ok_kind {kind num : Int} {body : List Int} (h : FrameOk kind num body) : 128 ≤ kind ∧ kind ≤ 131 := by
  rcases h.ok with ⟨h, _⟩ | ⟨h, _⟩ | ⟨h, _⟩ | ⟨h, _⟩ <;> omega
abbrev s_read_frame : Stmt := topS 68
abbrev N_read_frame : List Str := ["data", "at", "head", "after", "whole", "body"]
theorem sc_read_frame : FnScope N_read_frame ["data", "at"] (defScope s_read_frame) := ⟨rfl, rfl, rfl, by decide +kernel, rfl, by decide +kernel, by decide +kernel⟩









def sp_read_frame (K : PySem.W.Frag) (A : Ads) : Sp := fun zvs zH Q E => ∃ (B : Hp) (G : Own) (a : Addr) (ds : List Int) (n : Nat), zvs = [.ref a, .int n] ∧ SI B G zH ∧ (Sq K B G a (ds.map V.int)) ∧ (∀ d ∈ ds, 0 ≤ d ∧ d ≤ 255) ∧ (ds.length ≤ 10000) ∧ (n ≤ 20000) ∧ (∀ B' t q kind num body rest, ds.drop n = frameL kind num body ++ rest → FrameOk kind num body → Same B B' → B' t = some (HO.tup [.int kind, .int num, .ref q, .int ((n + 7 + body.length : Nat) : Int)]) → N B' ((q, .lst (body.map V.int)) :: G) (Q (.ref t))) ∧ (∀ B' d, (∀ kind num body rest, FrameOk kind num body → ds.drop n ≠ frameL kind num body ++ rest) → Same B B' → N B' ((d, .xd [("place", .int n)]) :: G) (fun H => E (.ref A.c_Broken) (some d) H))
theorem len_read_frame {K : PySem.W.Frag} {A : Ads} : ∀ vs H Q E, sp_read_frame K A vs H Q E → vs.length = 2 := by
  intro vs H Q E h
  obtain ⟨_, _, _, _, _, rfl, _⟩ := h
  rfl
def x_read_frame_0 (K : PySem.W.Frag) (A : Ads) (E : XK) : TS :=
  (tSeq (tRet (tTup (tCons (tOp (rIx K) (tVar 2) (tC (.int (0)))) (tCons (tCl (sp_number_of K A) (WE (fun cls d _ H => E cls d H)) (tCons (tSl (rSlL K) (tVar 2) (tPart (tC (.int (1)))) (tPart (tC (.int (3))))) tNil)) (tCons (tVar 5) (tCons (tVar 3) tNil))))))
    tNext)
instance {K : PySem.W.Frag} {A : Ads} {E : XK} : Unf (x_read_frame_0 K A E) (
  (tSeq (tRet (tTup (tCons (tOp (rIx K) (tVar 2) (tC (.int (0)))) (tCons (tCl (sp_number_of K A) (WE (fun cls d _ H => E cls d H)) (tCons (tSl (rSlL K) (tVar 2) (tPart (tC (.int (1)))) (tPart (tC (.int (3))))) tNil)) (tCons (tVar 5) (tCons (tVar 3) tNil))))))
    tNext)) := ⟨rfl⟩
def x_read_frame_1 (K : PySem.W.Frag) (A : Ads) (E : XK) : TS :=
  (tSeq (tIfS (tOr (tTest (tOp (uNe K) (tCl (sp_number_of K A) (WE (fun cls d _ H => E cls d H)) (tCons (tSl (rSlL K) (tVar 4) (tPart (tUn (rU fun i => .int (-i)) (tC (.int (2))))) tNoPart) tNil)) (tCl (sp_check K A) (WE (fun cls d _ H => E cls d H)) (tCons (tSl (rSlL K) (tVar 4) tNoPart (tPart (tUn (rU fun i => .int (-i)) (tC (.int (2)))))) tNil)))) (tNot (tB (tCl (sp_is_body K A) (WE (fun cls d _ H => E cls d H)) (tCons (tOp (rIx K) (tVar 2) (tC (.int (0)))) (tCons (tVar 5) tNil))))))
    (tSeq (tRsB A.c_Broken (fun cls d _ H => E cls d H) (tCons (tVar 1) tNil))
    tNext)
    tNext)
    (x_read_frame_0 K A E))
instance {K : PySem.W.Frag} {A : Ads} {E : XK} : Unf (x_read_frame_1 K A E) (
  (tSeq (tIfS (tOr (tTest (tOp (uNe K) (tCl (sp_number_of K A) (WE (fun cls d _ H => E cls d H)) (tCons (tSl (rSlL K) (tVar 4) (tPart (tUn (rU fun i => .int (-i)) (tC (.int (2))))) tNoPart) tNil)) (tCl (sp_check K A) (WE (fun cls d _ H => E cls d H)) (tCons (tSl (rSlL K) (tVar 4) tNoPart (tPart (tUn (rU fun i => .int (-i)) (tC (.int (2)))))) tNil)))) (tNot (tB (tCl (sp_is_body K A) (WE (fun cls d _ H => E cls d H)) (tCons (tOp (rIx K) (tVar 2) (tC (.int (0)))) (tCons (tVar 5) tNil))))))
    (tSeq (tRsB A.c_Broken (fun cls d _ H => E cls d H) (tCons (tVar 1) tNil))
    tNext)
    tNext)
    (x_read_frame_0 K A E))) := ⟨rfl⟩
def x_read_frame_2 (K : PySem.W.Frag) (A : Ads) (E : XK) : TS :=
  (tSeq (tAsg (tSl (rSlL K) (tVar 4) (tPart (tC (.int (5)))) (tPart (tUn (rU fun i => .int (-i)) (tC (.int (2)))))) (gName 5))
    (x_read_frame_1 K A E))
instance {K : PySem.W.Frag} {A : Ads} {E : XK} : Unf (x_read_frame_2 K A E) (
  (tSeq (tAsg (tSl (rSlL K) (tVar 4) (tPart (tC (.int (5)))) (tPart (tUn (rU fun i => .int (-i)) (tC (.int (2)))))) (gName 5))
    (x_read_frame_1 K A E))) := ⟨rfl⟩
def x_read_frame_3 (K : PySem.W.Frag) (A : Ads) (E : XK) : TS :=
  (tSeq (tIfS (tOr (tTest (tOp uGt (tVar 3) (tCB (uLen K) (tCons (tVar 0) tNil)))) (tNot (tB (tCl (sp_is_low K A) (WE (fun cls d _ H => E cls d H)) (tCons (tSl (rSlL K) (tVar 4) (tPart (tC (.int (1)))) tNoPart) tNil)))))
    (tSeq (tRsB A.c_Broken (fun cls d _ H => E cls d H) (tCons (tVar 1) tNil))
    tNext)
    tNext)
    (x_read_frame_2 K A E))
instance {K : PySem.W.Frag} {A : Ads} {E : XK} : Unf (x_read_frame_3 K A E) (
  (tSeq (tIfS (tOr (tTest (tOp uGt (tVar 3) (tCB (uLen K) (tCons (tVar 0) tNil)))) (tNot (tB (tCl (sp_is_low K A) (WE (fun cls d _ H => E cls d H)) (tCons (tSl (rSlL K) (tVar 4) (tPart (tC (.int (1)))) tNoPart) tNil)))))
    (tSeq (tRsB A.c_Broken (fun cls d _ H => E cls d H) (tCons (tVar 1) tNil))
    tNext)
    tNext)
    (x_read_frame_2 K A E))) := ⟨rfl⟩
def x_read_frame_4 (K : PySem.W.Frag) (A : Ads) (E : XK) : TS :=
  (tSeq (tAsg (tOp (uAdd K) (tVar 1) (tCl (sp_size_of K A) (WE (fun cls d _ H => E cls d H)) (tCons (tVar 2) tNil))) (gName 3))
    (tSeq (tAsg (tSl (rSlL K) (tVar 0) (tPart (tVar 1)) (tPart (tVar 3))) (gName 4))
    (x_read_frame_3 K A E)))
instance {K : PySem.W.Frag} {A : Ads} {E : XK} : Unf (x_read_frame_4 K A E) (
  (tSeq (tAsg (tOp (uAdd K) (tVar 1) (tCl (sp_size_of K A) (WE (fun cls d _ H => E cls d H)) (tCons (tVar 2) tNil))) (gName 3))
    (tSeq (tAsg (tSl (rSlL K) (tVar 0) (tPart (tVar 1)) (tPart (tVar 3))) (gName 4))
    (x_read_frame_3 K A E)))) := ⟨rfl⟩
def x_read_frame_5 (K : PySem.W.Frag) (A : Ads) (E : XK) : TS :=
  (tSeq (tIfS (tOr (tTest (tOp uLt (tCB (uLen K) (tCons (tVar 2) tNil)) (tC (.int (5))))) (tOr (tTest (tOp (rIn K true) (tOp (rIx K) (tVar 2) (tC (.int (0)))) (tC (.ref A.a_KINDS)))) (tNot (tB (tCl (sp_is_low K A) (WE (fun cls d _ H => E cls d H)) (tCons (tSl (rSlL K) (tVar 2) (tPart (tC (.int (1)))) tNoPart) tNil))))))
    (tSeq (tRsB A.c_Broken (fun cls d _ H => E cls d H) (tCons (tVar 1) tNil))
    tNext)
    tNext)
    (x_read_frame_4 K A E))
instance {K : PySem.W.Frag} {A : Ads} {E : XK} : Unf (x_read_frame_5 K A E) (
  (tSeq (tIfS (tOr (tTest (tOp uLt (tCB (uLen K) (tCons (tVar 2) tNil)) (tC (.int (5))))) (tOr (tTest (tOp (rIn K true) (tOp (rIx K) (tVar 2) (tC (.int (0)))) (tC (.ref A.a_KINDS)))) (tNot (tB (tCl (sp_is_low K A) (WE (fun cls d _ H => E cls d H)) (tCons (tSl (rSlL K) (tVar 2) (tPart (tC (.int (1)))) tNoPart) tNil))))))
    (tSeq (tRsB A.c_Broken (fun cls d _ H => E cls d H) (tCons (tVar 1) tNil))
    tNext)
    tNext)
    (x_read_frame_4 K A E))) := ⟨rfl⟩
def t_read_frame (K : PySem.W.Frag) (A : Ads) (E : XK) : TS :=
  (tSeq (tAsg (tSl (rSlL K) (tVar 0) (tPart (tVar 1)) (tPart (tOp (uAdd K) (tVar 1) (tC (.int (5)))))) (gName 2))
    (x_read_frame_5 K A E))
theorem pure_read_frame {K : PySem.W.Frag} {A : Ads} (T : Fct K A) (vs : List V) (H : Hp) (Q : VK) (E : XK) (h : sp_read_frame K A vs H Q E) : t_read_frame K A E (endE Q) (L2.start N_read_frame vs) H := by
  obtain ⟨B, G, a, ds, n, rfl, zs, hs, hb, hl, hn, k, k2⟩ := h
  refine (?_ : N B G (fun H => t_read_frame K A E (endE Q) (L2.start N_read_frame [.ref a, .int n]) H)) H zs
  clear zs
  unfold t_read_frame

  walk_at "sk stp"
  rename_i ph
  have e5 : (n : Int) + 5 = ((n + 5 : Nat) : Int) := by omega
  rw [e5, cutI_nat, show n + 5 - n = 5 by omega]
  refine n_iteD (fun h5 => ?_) (fun h5 => ?_)
  · walk_at "sk stp"
    refine n_brk rfl fun d => ?_
    refine n_sub (by walk_at "sk sub") (k2 B d (fun kind num body rest hf e => ?_) (Same.refl _))
    obtain ⟨a1, b1, c1, d1, p1, q1, e1, _⟩ := frame_facts hf e
    have := congrArg List.length e1
    rw [List.length_take] at h5
    simp only [List.length_cons] at this
    omega
  obtain ⟨k0, a0, b0, c0, d0, U, hT⟩ : ∃ k a b c d U, ds.drop n = k :: a :: b :: c :: d :: U := five (by rw [List.length_take] at h5; omega)
  have ht : (ds.drop n).take 5 = [k0, a0, b0, c0, d0] := by rw [hT]; rfl
  rw [ht]
  have hB : ∀ x ∈ k0 :: a0 :: b0 :: c0 :: d0 :: U, 0 ≤ x ∧ x ≤ 255 := fun x hx => hb x (List.mem_of_mem_drop (by rw [hT]; exact hx))
  -- what a right frame there would be
  have key : ∀ kind num body rest, FrameOk kind num body → ds.drop n = frameL kind num body ++ rest → (128 ≤ k0 ∧ k0 ≤ 131) ∧ ((0 ≤ a0 ∧ a0 < 128) ∧ (0 ≤ b0 ∧ b0 < 128) ∧ (0 ≤ c0 ∧ c0 < 128) ∧ (0 ≤ d0 ∧ d0 < 128)) ∧ kind = k0 ∧ (body.length : Int) = 128 * c0 + d0 ∧ ∃ p q, U = body ++ p :: q :: rest ∧ (0 ≤ p ∧ p < 128) ∧ (0 ≤ q ∧ q < 128) ∧ chkL (k0 :: a0 :: b0 :: c0 :: d0 :: body) = 128 * p + q := by
    intro kind num body rest hf e
    obtain ⟨a1, b1, c1, d1, p1, q1, e1, ⟨h1, h2, h3, h4, h6, h7⟩, e3, e4, e6⟩ := frame_facts hf e
    rw [hT] at e1
    cases e1
    exact ⟨ok_kind hf, ⟨h1, h2, h3, h4⟩, rfl, e4, p1, q1, rfl, h6, h7, e6⟩
  walk_at "sk stp"
  refine n_niTi (ns := [128, 129, 130, 131]) (by walk_at "sk tp") ?_
  by_cases hk : 128 ≤ k0 ∧ k0 ≤ 131
  rotate_left
  · rw [decide_eq_false (by simp only [List.mem_cons, List.not_mem_nil, or_false]; omega)]
    walk_at "sk stp"
    refine n_brk rfl fun d => ?_
    exact n_sub (by walk_at "sk sub") (k2 B d (fun kind num body rest hf e => hk (key kind num body rest hf e).1) (Same.refl _))
  rw [decide_eq_true (by simp only [List.mem_cons, List.not_mem_nil, or_false]; omega)]
  walk_at "sk stp"
  rw [show cutI [k0, a0, b0, c0, d0] (some 1) none = [a0, b0, c0, d0] from rfl]
  cases hlow : lowL [a0, b0, c0, d0] with
  | false =>
    walk_at "sk stp"
    refine n_brk rfl fun d => ?_
    refine n_sub (by walk_at "sk sub") (k2 B d (fun kind num body rest hf e => ?_) (Same.refl _))
    have h1 := (key kind num body rest hf e).2.1
    have : lowL [a0, b0, c0, d0] = true := lowL_iff.mpr (by intro x hx; simp only [List.mem_cons, List.not_mem_nil, or_false] at hx; omega)
    rw [hlow] at this
    cases this
  | true =>
  have hlw := lowL_iff.mp hlow
  have ha : 0 ≤ a0 ∧ a0 < 128 := ⟨(hB a0 (by simp)).1, by have := hlw a0 (by simp); omega⟩
  have hbb : 0 ≤ b0 ∧ b0 < 128 := ⟨(hB b0 (by simp)).1, by have := hlw b0 (by simp); omega⟩
  have hc : 0 ≤ c0 ∧ c0 < 128 := ⟨(hB c0 (by simp)).1, by have := hlw c0 (by simp); omega⟩
  have hd : 0 ≤ d0 ∧ d0 < 128 := ⟨(hB d0 (by simp)).1, by have := hlw d0 (by simp); omega⟩
  refine n_sub (L' := (ph, .lst ([k0, a0, b0, c0, d0].map V.int)) :: G) (by walk_at "sk sub") ?_
  have hTl := congrArg List.length hT
  rw [List.length_drop] at hTl
  simp only [List.length_cons] at hTl
  obtain ⟨s, es⟩ : ∃ s : Nat, 128 * c0 + d0 = (s : Int) := ⟨(128 * c0 + d0).toNat, by omega⟩
  walk_at "sk stp"
  rw [es, show (n : Int) + (7 + (s : Int)) = ((n + (s + 2 + 5) : Nat) : Int) by omega, cutI_nat, show n + (s + 2 + 5) - n = s + 2 + 5 by omega, hT]
  rename_i pw
  have hw : (k0 :: a0 :: b0 :: c0 :: d0 :: U).take (s + 2 + 5) = k0 :: a0 :: b0 :: c0 :: d0 :: U.take (s + 2) := rfl
  rw [hw]
  refine n_iteD (fun hgt => ?_) (fun hgt => ?_)
  · walk_at "sk stp"
    refine n_brk rfl fun d => ?_
    refine n_sub (by walk_at "sk sub") (k2 B d (fun kind num body rest hf e => ?_) (Same.refl _))
    obtain ⟨_, _, _, h4, p, q, h5, _⟩ := key kind num body rest hf e
    have := congrArg List.length h5
    rw [List.length_append] at this
    simp only [List.length_cons] at this
    omega
  obtain ⟨body, e0, f0, hV, hbl⟩ := last_two (V := U.take (s + 2)) (s := s) (by rw [List.length_take]; omega)
  have hU : U = body ++ e0 :: f0 :: U.drop (s + 2) := by
    conv => lhs; rw [← List.take_append_drop (s + 2) U, hV]
    simp
  rw [hV]
  -- the body there is this one
  have key2 : ∀ kind num body' rest, FrameOk kind num body' → ds.drop n = frameL kind num body' ++ rest → body' = body ∧ kind = k0 ∧ (0 ≤ e0 ∧ e0 < 128) ∧ (0 ≤ f0 ∧ f0 < 128) ∧ chkL (k0 :: a0 :: b0 :: c0 :: d0 :: body) = 128 * e0 + f0 := by
    intro kind num body' rest hf e
    obtain ⟨_, _, h3, h4, p, q, h5, h6, h7, h8⟩ := key kind num body' rest hf e
    rw [hU] at h5
    obtain ⟨i1, i2⟩ := List.append_inj h5 (by omega)
    cases i2
    subst i1
    exact ⟨rfl, h3, h6, h7, h8⟩
  have hB2 : ∀ x ∈ body ++ [e0, f0], 0 ≤ x ∧ x ≤ 255 := fun x hx => hB x (by
    rw [hU]
    simp only [List.mem_cons, List.mem_append] at hx ⊢
    simp only [List.not_mem_nil, or_false] at hx
    rcases hx with hx | hx | hx <;> simp [hx])
  walk_at "sk stp"
  have e1 : cutI (k0 :: a0 :: b0 :: c0 :: d0 :: (body ++ [e0, f0])) (some 1) none = a0 :: b0 :: c0 :: d0 :: (body ++ [e0, f0]) := cutI_from _ 1
  rw [e1]
  cases hlow2 : lowL (a0 :: b0 :: c0 :: d0 :: (body ++ [e0, f0])) with
  | false =>
    walk_at "sk stp"
    refine n_brk rfl fun d => ?_
    refine n_sub (by walk_at "sk sub") (k2 B d (fun kind num body' rest hf e => ?_) (Same.refl _))
    obtain ⟨rfl, _, h6, h7, _⟩ := key2 kind num body' rest hf e
    have : lowL (a0 :: b0 :: c0 :: d0 :: (body' ++ [e0, f0])) = true := lowL_iff.mpr (by
      intro x hx
      simp only [List.mem_cons, List.mem_append, List.not_mem_nil, or_false] at hx
      rcases hx with rfl | rfl | rfl | rfl | hx | rfl | rfl
      · omega
      · omega
      · omega
      · omega
      · have := hf.low x hx; omega
      · omega
      · omega)
    rw [hlow2] at this
    cases this
  | true =>
  have hlw2 := lowL_iff.mp hlow2
  have hbody : ∀ x ∈ body, 0 ≤ x ∧ x < 128 := fun x hx => ⟨(hB2 x (by simp [hx])).1, by have := hlw2 x (by simp [hx]); omega⟩
  have he : 0 ≤ e0 ∧ e0 < 128 := ⟨(hB2 e0 (by simp)).1, by have := hlw2 e0 (by simp); omega⟩
  have hf0 : 0 ≤ f0 ∧ f0 < 128 := ⟨(hB2 f0 (by simp)).1, by have := hlw2 f0 (by simp); omega⟩
  refine n_sub (L' := (pw, .lst ((k0 :: a0 :: b0 :: c0 :: d0 :: (body ++ [e0, f0])).map V.int)) :: (ph, .lst ([k0, a0, b0, c0, d0].map V.int)) :: G) (by walk_at "sk sub") ?_
  have eW : k0 :: a0 :: b0 :: c0 :: d0 :: (body ++ [e0, f0]) = (k0 :: a0 :: b0 :: c0 :: d0 :: body) ++ [e0, f0] := rfl
  rw [eW]
  have x1 := cut2a (k0 :: a0 :: b0 :: c0 :: d0 :: body) e0 f0
  have x2 := cut2b (k0 :: a0 :: b0 :: c0 :: d0 :: body) e0 f0
  have x3 : cutI ((k0 :: a0 :: b0 :: c0 :: d0 :: body) ++ [e0, f0]) (some 5) (some (-2)) = body := cut2c (k0 :: a0 :: b0 :: c0 :: d0 :: body) e0 f0 (by simp only [List.length_cons]; omega)
  generalize hWd : (k0 :: a0 :: b0 :: c0 :: d0 :: body) ++ [e0, f0] = W at *
  walk_at "sk stp"
  rw [x2, x3]
  rename_i pb pn
  refine use_number_of (ns := [e0, f0]) (sq_own 0 rfl) (by intro x hx; simp only [List.mem_cons, List.not_mem_nil, or_false] at hx; omega) (by show 2 ≤ 10000; decide) ?_
  rw [numOf_two]
  refine n_sub (L' := (pb, .lst (body.map V.int)) :: (pw, .lst (W.map V.int)) :: (ph, .lst ([k0, a0, b0, c0, d0].map V.int)) :: G) (by walk_at "sk sub") ?_
  walk_at "sk stp"
  rw [x1]
  refine use_check (ns := k0 :: a0 :: b0 :: c0 :: d0 :: body) (sq_own 0 rfl) (by simp only [List.length_cons]; omega) ?_
  show N B _ (fun H => uNe K (.int (128 * e0 + f0)) (.int (chkL (k0 :: a0 :: b0 :: c0 :: d0 :: body))) H _)
  by_cases hne : 128 * e0 + f0 = chkL (k0 :: a0 :: b0 :: c0 :: d0 :: body)
  rotate_left
  · walk_at "sk stp"
    refine n_brk rfl fun d => ?_
    exact n_sub (by walk_at "sk sub") (k2 B d (fun kind num body' rest hf e => hne (key2 kind num body' rest hf e).2.2.2.2.symm) (Same.refl _))
  walk_at "sk stp"
  refine use_is_body (kind := k0) (ns := body) (by walk_at "sk sq") (by omega) hk (fun B1 hbo sm1 => ?_) (fun B1 hbo sm1 => ?_)
  rotate_left
  · walk_at "sk stp"
    refine n_brk rfl fun d => ?_
    refine n_sub (by walk_at "sk sub") (k2 B1 d (fun kind num body' rest hf e => hbo ?_) sm1)
    obtain ⟨rfl, rfl, _⟩ := key2 kind num body' rest hf e
    exact hf.ok
  have hF := frame_of (T := ds.drop n) (hT.trans (by rw [hU])) ha hbb hc hd he hf0 (by omega) hne.symm hbody hbo
  walk_at "sk stp"
  rename_i pc pm
  refine use_number_of (ns := [a0, b0]) (sq_own 0 rfl) (by intro x hx; simp only [List.mem_cons, List.not_mem_nil, or_false] at hx; omega) (by show 2 ≤ 10000; decide) ?_
  rw [numOf_two]
  walk_at "sk stp"
  refine n_freeze 0 rfl fun B2 sm2 htp => ?_
  rw [show n + (s + 2 + 5) = n + 7 + body.length by omega] at htp
  exact n_sub (L' := (pb, .lst (body.map V.int)) :: G) (by walk_at "sk sub") (k B2 _ pb k0 (128 * a0 + b0) body _ hF.1 hF.2 (sm1.trans sm2) htp)
theorem raw_read_frame {P : Program} {w : World} {K : PySem.W.Frag} {mg : Str → Option Value} {base : Heap} {A : Ads} {f : Addr} {fd : FuncData} (F : Fun K "read_frame" "read_frame" s_read_frame f fd) (T : Txt K mg A) (O_number_of : OkC P w K mg base CX0 1 "number_of" ["data"] (sp_number_of K A)) (O_check : OkC P w K mg base CX0 1 "check" ["data"] (sp_check K A)) (O_is_low : OkC P w K mg base CX0 1 "is_low" ["data"] (sp_is_low K A)) (O_size_of : OkC P w K mg base CX0 2 "size_of" ["head"] (sp_size_of K A)) (O_is_body : OkC P w K mg base CX0 9 "is_body" ["kind", "body"] (sp_is_body K A)) : FnOk P w K mg base (CXN P w) 10 f fd ["data", "at"] (sp_read_frame K A) := by
  refine okN F sc_read_frame (fun vs H Q E h => len_read_frame vs H Q E h) (fun cdv Ar outer s H vs Q E hr h => ⟨t_read_frame K A E, ?_, pure_read_frame T.fct vs H Q E h⟩)
  have nd := sc_read_frame.nd
  exact (pss_cons (ps_set (i := 2) nd rfl (Or.inl rfl) (pe_slice sl_list (pv 0) (po_some (pv 1)) (po_some (pe_op op_uAdd (pv 1) (pe_glob (by rfl) T.c_HEAD.choose_spec.1 T.c_HEAD.choose_spec.2)))))
    (pss_cons (ps_if (PW.pt (pw_or (pt_cmpR op_uLt (pe_callB call_uLen (by rfl) T.b_len boot_len (pa_cons (pv 2) pa_nil)) (pe_glob (by rfl) T.c_HEAD.choose_spec.1 T.c_HEAD.choose_spec.2) (nomark _)) (pw_or (pt_cmpR op_notIn_seq (pe_ix ix_seq (pv 2) pe_int (fun _ _ => rfl)) (pe_glob (v := .ref A.a_KINDS) (by rfl) T.c_KINDS rfl) (by rfl)) (pw_or1 (pt_not (pt_val (pe_cl (E := WE (fun cls d _ H => E cls d H)) O_is_low (hr.mono (by decide)) (by rfl) pass00 (pa_cons (pe_slice sl_list (pv 2) (po_some pe_int) po_none) pa_nil)))))))) (pss_cons (ps_rsB (k := 1) rfl T.bt_Broken (hr.mono (by decide)) (L2N.takes_of rfl rfl rfl rfl) (pa_cons (pv 1) pa_nil))
    pss_nil) pss_nil)
    (pss_cons (ps_set (i := 3) nd rfl (Or.inl rfl) (pe_op op_uAdd (pv 1) (pe_cl (E := WE (fun cls d _ H => E cls d H)) O_size_of (hr.mono (by decide)) (by rfl) pass00 (pa_cons (pv 2) pa_nil))))
    (pss_cons (ps_set (i := 4) nd rfl (Or.inl rfl) (pe_slice sl_list (pv 0) (po_some (pv 1)) (po_some (pv 3))))
    (pss_cons (ps_if (PW.pt (pw_or (pt_cmpR op_uGt (pv 3) (pe_callB call_uLen (by rfl) T.b_len boot_len (pa_cons (pv 0) pa_nil)) (nomark _)) (pw_or1 (pt_not (pt_val (pe_cl (E := WE (fun cls d _ H => E cls d H)) O_is_low (hr.mono (by decide)) (by rfl) pass00 (pa_cons (pe_slice sl_list (pv 4) (po_some pe_int) po_none) pa_nil))))))) (pss_cons (ps_rsB (k := 1) rfl T.bt_Broken (hr.mono (by decide)) (L2N.takes_of rfl rfl rfl rfl) (pa_cons (pv 1) pa_nil))
    pss_nil) pss_nil)
    (pss_cons (ps_set (i := 5) nd rfl (Or.inl rfl) (pe_slice sl_list (pv 4) (po_some (pe_glob (by rfl) T.c_HEAD.choose_spec.1 T.c_HEAD.choose_spec.2)) (po_some (pe_un un_neg pe_int))))
    (pss_cons (ps_if (PW.pt (pw_or (pt_cmpR (op_uNe hr.units) (pe_cl (E := WE (fun cls d _ H => E cls d H)) O_number_of (hr.mono (by decide)) (by rfl) pass00 (pa_cons (pe_slice sl_list (pv 4) (po_some (pe_un un_neg pe_int)) po_none) pa_nil)) (pe_cl (E := WE (fun cls d _ H => E cls d H)) O_check (hr.mono (by decide)) (by rfl) pass00 (pa_cons (pe_slice sl_list (pv 4) po_none (po_some (pe_un un_neg pe_int))) pa_nil)) (nomark _)) (pw_or1 (pt_not (pt_val (pe_cl (E := WE (fun cls d _ H => E cls d H)) O_is_body (hr.mono (by decide)) (by rfl) pass00 (pa_cons (pe_ix ix_seq (pv 2) pe_int (fun _ _ => rfl)) (pa_cons (pv 5) pa_nil)))))))) (pss_cons (ps_rsB (k := 1) rfl T.bt_Broken (hr.mono (by decide)) (L2N.takes_of rfl rfl rfl rfl) (pa_cons (pv 1) pa_nil))
    pss_nil) pss_nil)
    (pss_cons (ps_ret (pe_tup (pa_cons (pe_ix ix_seq (pv 2) pe_int (fun _ _ => rfl)) (pa_cons (pe_cl (E := WE (fun cls d _ H => E cls d H)) O_number_of (hr.mono (by decide)) (by rfl) pass00 (pa_cons (pe_slice sl_list (pv 2) (po_some pe_int) (po_some pe_int)) pa_nil)) (pa_cons (pv 5) (pa_cons (pv 3) pa_nil))))))
    pss_nil))))))))
theorem use_read_frame {K : PySem.W.Frag} {A : Ads} {B : Hp} {G : Own} {Q : VK} {E : XK} {a : Addr} {ds : List Int} {n : Nat} (hs : Sq K B G a (ds.map V.int)) (hb : ∀ d ∈ ds, 0 ≤ d ∧ d ≤ 255) (hl : ds.length ≤ 10000) (hn : n ≤ 20000) (zq : ∀ B' t q kind num body rest, ds.drop n = frameL kind num body ++ rest → FrameOk kind num body → Same B B' → B' t = some (HO.tup [.int kind, .int num, .ref q, .int ((n + 7 + body.length : Nat) : Int)]) → N B' ((q, .lst (body.map V.int)) :: G) (Q (.ref t))) (zq2 : ∀ B' d, (∀ kind num body rest, FrameOk kind num body → ds.drop n ≠ frameL kind num body ++ rest) → Same B B' → N B' ((d, .xd [("place", .int n)]) :: G) (fun H => E (.ref A.c_Broken) (some d) H)) : N B G (fun H => sp_read_frame K A [.ref a, .int n] H Q E) := fun zH zs => ⟨B, _, _, _, _, rfl, zs, hs, hb, hl, hn, zq, zq2⟩


abbrev s_w_low : Stmt := topS 74
abbrev N_w_low : List Str := ["_law_number", "_law_many", "_law_found", "_law_k"]
theorem sc_w_low : FnScope N_w_low ["_law_number", "_law_many"] (defScope s_w_low) := ⟨rfl, rfl, rfl, by decide +kernel, rfl, by decide +kernel, by decide +kernel⟩






def sp_w_low (K : PySem.W.Frag) (A : Ads) : Sp := fun zvs zH Q E => ∃ (B : Hp) (G : Own) (n m : Int), zvs = [.int n, .int m] ∧ SI B G zH ∧ (0 ≤ n) ∧ (0 ≤ m ∧ m ≤ 10) ∧ (∀ p, N B ((p, .lst ((bytesN n m.toNat).map V.int)) :: G) (Q (.ref p)))
theorem len_w_low {K : PySem.W.Frag} {A : Ads} : ∀ vs H Q E, sp_w_low K A vs H Q E → vs.length = 2 := by
  intro vs H Q E h
  obtain ⟨_, _, _, _, rfl, _⟩ := h
  rfl
def x_w_low_0 (K : PySem.W.Frag) (A : Ads) (E : XK) : TS :=
  (tSeq (tFor (iRng1 (tCons (tVar 1) tNil)) (gName 3)
    (tSeq (tDrop (tBM K "list" rInsert (tVar 2) (tCons (tC (.int (0))) (tCons (tOp uMod (tVar 0) (tC (.int (128)))) tNil))))
    (tSeq (tAsg (tOp uDiv (tVar 0) (tC (.int (128)))) (gName 0))
    tNext)))
    (tSeq (tRet (tVar 2))
    tNext))
instance {K : PySem.W.Frag} {A : Ads} {E : XK} : Unf (x_w_low_0 K A E) (
  (tSeq (tFor (iRng1 (tCons (tVar 1) tNil)) (gName 3)
    (tSeq (tDrop (tBM K "list" rInsert (tVar 2) (tCons (tC (.int (0))) (tCons (tOp uMod (tVar 0) (tC (.int (128)))) tNil))))
    (tSeq (tAsg (tOp uDiv (tVar 0) (tC (.int (128)))) (gName 0))
    tNext)))
    (tSeq (tRet (tVar 2))
    tNext))) := ⟨rfl⟩
def t_w_low (K : PySem.W.Frag) (A : Ads) (E : XK) : TS :=
  (tSeq (tAsg (tLst tNil) (gName 2))
    (x_w_low_0 K A E))
theorem pure_w_low {K : PySem.W.Frag} {A : Ads} (T : Fct K A) (vs : List V) (H : Hp) (Q : VK) (E : XK) (h : sp_w_low K A vs H Q E) : t_w_low K A E (endE Q) (L2.start N_w_low vs) H := by
  obtain ⟨B, G, n, m, rfl, zs, hn, hm, k⟩ := h
  refine (?_ : N B G (fun H => t_w_low K A E (endE Q) (L2.start N_w_low [.int n, .int m]) H)) H zs
  clear zs
  unfold t_w_low

  walk_at "sk stp"
  rename_i pf
  refine n_lpR1 (fun i σ L => ∃ (v : Int) (y : Option V), σ = [some (.int v), some (.int m), some (.ref pf), y] ∧ L = (pf, .lst ((bytesN n i).map V.int)) :: G ∧ v = n / 2 ^ (7 * i) ∧ 0 ≤ v) (by omega) ⟨n, _, rfl, rfl, by simp, hn⟩ ?_ ?_
  · rintro i σ L hi ⟨v, y, rfl, rfl, e, hv⟩
    have hl := bytesN_len n i
    have hp : (0 : Int) ≤ 2 ^ (7 * i) := Int.le_of_lt (Int.pow_pos (by decide))
    have e2 : v / 128 = n / 2 ^ (7 * (i + 1)) := by
      rw [e, Int.ediv_ediv_of_nonneg hp, show 7 * (i + 1) = 7 * i + 7 by omega, Int.pow_add]; rfl
    have e3 : bytesN n (i + 1) = v % 128 :: bytesN n i := by rw [bytesN, ← e]
    walk_at "sk stp"
    refine n_insert (n := 0) rfl (by rw [List.length_map, hl, sizeLine_eq]; omega) (by decide) (by decide) ?_
    show N B ((pf, .lst ((v % 128 :: bytesN n i).map V.int)) :: G) _
    rw [← e3]
    walk_at "sk stp"
    exact n_ki (L' := (pf, .lst ((bytesN n (i + 1)).map V.int)) :: G) ⟨v / 128, _, rfl, rfl, e2, Int.ediv_nonneg hv (by decide)⟩ (.refl _)
  · rintro σ L ⟨v, y, rfl, rfl, e, hv⟩
    walk_at "sk stp"
    exact k pf
theorem raw_w_low {P : Program} {w : World} {K : PySem.W.Frag} {mg : Str → Option Value} {base : Heap} {A : Ads} {f : Addr} {fd : FuncData} (F : Fun K "_law_low" "_law_low" s_w_low f fd) (T : Txt K mg A) : FnOk P w K mg base CX0 1 f fd ["_law_number", "_law_many"] (sp_w_low K A) := by
  refine F.ok sc_w_low (fun vs H Q E h => len_w_low vs H Q E h) (fun cdv Ar outer s H vs Q E hr h => ⟨t_w_low K A E, PSs.nox ?_, pure_w_low T.fct vs H Q E h⟩)
  have nd := sc_w_low.nd
  exact (pss_cons (ps_set (i := 2) nd rfl (Or.inl rfl) (pe_lst pa_nil))
    (pss_cons (ps_for PassesOwn.never rfl (pi_range1 (by rfl) T.b_range (pa_cons (pv 1) pa_nil)) (pg_name (i := 3) nd rfl (Or.inl rfl))
    (pss_cons (ps_expr (pe_bm PySem.F.plainAttrs_list PySem.F.slot_list_insert PySem.F.type_list_insert mt_uInsert (pv 2) (pa_cons pe_int (pa_cons (pe_op op_uMod (pv 0) pe_int) pa_nil))))
    (pss_cons (ps_set (i := 0) nd rfl (Or.inl rfl) (pe_op op_uDiv (pv 0) pe_int))
    pss_nil)))
    (pss_cons (ps_ret (pv 2))
    pss_nil)))
theorem use_w_low {K : PySem.W.Frag} {A : Ads} {B : Hp} {G : Own} {Q : VK} {E : XK} {n m : Int} (hn : 0 ≤ n) (hm : 0 ≤ m ∧ m ≤ 10) (zq : ∀ p, N B ((p, .lst ((bytesN n m.toNat).map V.int)) :: G) (Q (.ref p))) : N B G (fun H => sp_w_low K A [.int n, .int m] H Q E) := fun zH zs => ⟨B, _, _, _, rfl, zs, hn, hm, zq⟩

abbrev s_w_check : Stmt := topS 75
abbrev N_w_check : List Str := ["_law_data", "_law_whole_here", "_law_at"]
theorem sc_w_check : FnScope N_w_check ["_law_data"] (defScope s_w_check) := ⟨rfl, rfl, rfl, by decide +kernel, rfl, by decide +kernel, by decide +kernel⟩






def sp_w_check (K : PySem.W.Frag) (A : Ads) : Sp := fun zvs zH Q E => ∃ (B : Hp) (G : Own) (a : Addr) (ns : List Int), zvs = [.ref a] ∧ SI B G zH ∧ (Sq K B G a (ns.map V.int)) ∧ (ns.length ≤ 100000) ∧ (N B G (Q (.int (wsum 1 ns % 16381))))
theorem len_w_check {K : PySem.W.Frag} {A : Ads} : ∀ vs H Q E, sp_w_check K A vs H Q E → vs.length = 1 := by
  intro vs H Q E h
  obtain ⟨_, _, _, _, rfl, _⟩ := h
  rfl
def x_w_check_0 (K : PySem.W.Frag) (A : Ads) (E : XK) : TS :=
  (tSeq (tFor (iRng1 (tCons (tCB (uLen K) (tCons (tVar 0) tNil)) tNil)) (gName 2)
    (tSeq (tAsg (tOp uMod (tOp (uAdd K) (tVar 1) (tOp uMul (tOp (uAdd K) (tVar 2) (tC (.int (1)))) (tOp (rIx K) (tVar 0) (tVar 2)))) (tC (.int (16381)))) (gName 1))
    tNext))
    (tSeq (tRet (tVar 1))
    tNext))
instance {K : PySem.W.Frag} {A : Ads} {E : XK} : Unf (x_w_check_0 K A E) (
  (tSeq (tFor (iRng1 (tCons (tCB (uLen K) (tCons (tVar 0) tNil)) tNil)) (gName 2)
    (tSeq (tAsg (tOp uMod (tOp (uAdd K) (tVar 1) (tOp uMul (tOp (uAdd K) (tVar 2) (tC (.int (1)))) (tOp (rIx K) (tVar 0) (tVar 2)))) (tC (.int (16381)))) (gName 1))
    tNext))
    (tSeq (tRet (tVar 1))
    tNext))) := ⟨rfl⟩
def t_w_check (K : PySem.W.Frag) (A : Ads) (E : XK) : TS :=
  (tSeq (tAsg (tC (.int (0))) (gName 1))
    (x_w_check_0 K A E))
theorem pure_w_check {K : PySem.W.Frag} {A : Ads} (T : Fct K A) (vs : List V) (H : Hp) (Q : VK) (E : XK) (h : sp_w_check K A vs H Q E) : t_w_check K A E (endE Q) (L2.start N_w_check vs) H := by
  obtain ⟨B, G, a, ns, rfl, zs, hs, hl, k⟩ := h
  refine (?_ : N B G (fun H => t_w_check K A E (endE Q) (L2.start N_w_check [.ref a]) H)) H zs
  clear zs
  unfold t_w_check

  walk_at "sk stp"
  try rw [List.length_map]
  refine n_lpR1 (fun i σ L => ∃ (y : Option V), σ = [some (.ref a), some (.int (wsum 1 (ns.take i) % 16381)), y] ∧ G = L) (by omega) ⟨_, rfl, rfl⟩ ?_ ?_
  · rintro i σ L hi ⟨y, rfl, rfl⟩
    have hi' : i < ns.length := by omega
    have e : wsum 1 (ns.take (i + 1)) = wsum 1 (ns.take i) + ns.getD i 0 * (1 + i) := by
      rw [take_step hi', wsum_app, List.length_take_of_le (by omega), List.getD_eq_getElem?_getD, List.getElem?_eq_getElem hi']; rfl
    have e4 : (wsum 1 (ns.take i) % 16381 + ((i : Int) + 1) * ns.getD i 0) % 16381 = wsum 1 (ns.take (i + 1)) % 16381 := by
      rw [e, Int.emod_add_emod, Int.mul_comm, Int.add_comm (i : Int) 1]
    walk_at "sk stp"
    refine n_ki ⟨some (.int i), ?_, rfl⟩ (.refl _)
    rw [← e4]; rfl
  · rintro σ L ⟨y, rfl, rfl⟩
    walk_at "sk stp"
    rw [Int.toNat_natCast, List.take_length]
    exact k
theorem raw_w_check {P : Program} {w : World} {K : PySem.W.Frag} {mg : Str → Option Value} {base : Heap} {A : Ads} {f : Addr} {fd : FuncData} (F : Fun K "_law_check" "_law_check" s_w_check f fd) (T : Txt K mg A) : FnOk P w K mg base CX0 1 f fd ["_law_data"] (sp_w_check K A) := by
  refine F.ok sc_w_check (fun vs H Q E h => len_w_check vs H Q E h) (fun cdv Ar outer s H vs Q E hr h => ⟨t_w_check K A E, PSs.nox ?_, pure_w_check T.fct vs H Q E h⟩)
  have nd := sc_w_check.nd
  exact (pss_cons (ps_set (i := 1) nd rfl (Or.inl rfl) pe_int)
    (pss_cons (ps_for PassesOwn.never rfl (pi_range1 (by rfl) T.b_range (pa_cons (pe_callB call_uLen (by rfl) T.b_len boot_len (pa_cons (pv 0) pa_nil)) pa_nil)) (pg_name (i := 2) nd rfl (Or.inl rfl))
    (pss_cons (ps_set (i := 1) nd rfl (Or.inl rfl) (pe_op op_uMod (pe_op op_uAdd (pv 1) (pe_op op_uMul (pe_op op_uAdd (pv 2) pe_int) (pe_ix ix_seq (pv 0) (pv 2) (fun _ _ => rfl)))) pe_int))
    pss_nil))
    (pss_cons (ps_ret (pv 1))
    pss_nil)))
theorem use_w_check {K : PySem.W.Frag} {A : Ads} {B : Hp} {G : Own} {Q : VK} {E : XK} {a : Addr} {ns : List Int} (hs : Sq K B G a (ns.map V.int)) (hl : ns.length ≤ 100000) (zq : N B G (Q (.int (wsum 1 ns % 16381)))) : N B G (fun H => sp_w_check K A [.ref a] H Q E) := fun zH zs => ⟨B, _, _, _, rfl, zs, hs, hl, zq⟩
local macro_rules | `(tactic| walk_at "sk st") => `(tactic| with_reducible (apply use_w_check; (next => with_unfolding_all walk_at "sk sq"); (next => with_unfolding_all walk_at "sk len"); (skip)))

abbrev s_w_frame : Stmt := topS 76
abbrev N_w_frame : List Str := ["_law_kind", "_law_number", "_law_body", "_law_data"]
theorem sc_w_frame : FnScope N_w_frame ["_law_kind", "_law_number", "_law_body"] (defScope s_w_frame) := ⟨rfl, rfl, rfl, by decide +kernel, rfl, by decide +kernel, by decide +kernel⟩







def sp_w_frame (K : PySem.W.Frag) (A : Ads) : Sp := fun zvs zH Q E => ∃ (B : Hp) (G : Own) (a : Addr) (kind num : Int) (body : List Int), zvs = [.int kind, .int num, .ref a] ∧ SI B G zH ∧ (Is B G a (.lst (body.map V.int))) ∧ (0 ≤ num) ∧ (body.length ≤ 16383) ∧ (∀ q, N B ((q, .lst ((frameL kind num body).map V.int)) :: G) (Q (.ref q)))
theorem len_w_frame {K : PySem.W.Frag} {A : Ads} : ∀ vs H Q E, sp_w_frame K A vs H Q E → vs.length = 3 := by
  intro vs H Q E h
  obtain ⟨_, _, _, _, _, _, rfl, _⟩ := h
  rfl
def x_w_frame_0 (K : PySem.W.Frag) (A : Ads) (E : XK) : TS :=
  (tSeq (tRet (tOp (uAdd K) (tVar 3) (tCl (sp_w_low K A) (WE W0) (tCons (tCl (sp_w_check K A) (WE W0) (tCons (tVar 3) tNil)) (tCons (tC (.int (2))) tNil)))))
    tNext)
instance {K : PySem.W.Frag} {A : Ads} {E : XK} : Unf (x_w_frame_0 K A E) (
  (tSeq (tRet (tOp (uAdd K) (tVar 3) (tCl (sp_w_low K A) (WE W0) (tCons (tCl (sp_w_check K A) (WE W0) (tCons (tVar 3) tNil)) (tCons (tC (.int (2))) tNil)))))
    tNext)) := ⟨rfl⟩
def t_w_frame (K : PySem.W.Frag) (A : Ads) (E : XK) : TS :=
  (tSeq (tAsg (tOp (uAdd K) (tOp (uAdd K) (tOp (uAdd K) (tLst (tCons (tVar 0) tNil)) (tCl (sp_w_low K A) (WE W0) (tCons (tVar 1) (tCons (tC (.int (2))) tNil)))) (tCl (sp_w_low K A) (WE W0) (tCons (tCB (uLen K) (tCons (tVar 2) tNil)) (tCons (tC (.int (2))) tNil)))) (tVar 2)) (gName 3))
    (x_w_frame_0 K A E))
theorem pure_w_frame {K : PySem.W.Frag} {A : Ads} (T : Fct K A) (vs : List V) (H : Hp) (Q : VK) (E : XK) (h : sp_w_frame K A vs H Q E) : t_w_frame K A E (endE Q) (L2.start N_w_frame vs) H := by
  obtain ⟨B, G, a, kind, num, body, rfl, zs, hs, hn, hl, k⟩ := h
  refine (?_ : N B G (fun H => t_w_frame K A E (endE Q) (L2.start N_w_frame [.int kind, .int num, .ref a]) H)) H zs
  clear zs
  unfold t_w_frame

  have h2 := bytesN_len num 2
  have h3 := bytesN_len (body.length : Int) 2
  have hhl := headL_len kind num body
  have hkr := chkL_range (headL kind num body)
  walk_at "sk stp"
  refine use_w_low hn (by decide) fun p1 => ?_
  rename_i p0
  refine n_cat (xs := [V.int kind]) (zs := (bytesN num 2).map V.int) (is_own 1 rfl) (is_own 0 rfl) (by rw [List.length_map, h2, sizeLine_eq]; show 1 + 2 ≤ 16777216; decide) fun p3 => ?_
  walk_at "sk stp"
  refine use_w_low (by omega) (by decide) fun p2 => ?_
  refine n_cat (xs := [V.int kind] ++ (bytesN num 2).map V.int) (zs := (bytesN body.length 2).map V.int) (is_own 1 rfl) (is_own 0 rfl) (by rw [List.length_append, List.length_map, List.length_map, h2, h3, sizeLine_eq]; show 1 + 2 + 2 ≤ 16777216; decide) fun p4 => ?_
  walk_at "sk stp"
  rename_i p5
  have eH : [V.int kind] ++ (bytesN num 2).map V.int ++ (bytesN body.length 2).map V.int ++ body.map V.int = (headL kind num body).map V.int := by
    rw [headL, List.map_cons, List.map_append, List.map_append]; simp
  rw [eH]
  refine n_sub (L' := (p5, .lst ((headL kind num body).map V.int)) :: G) (by walk_at "sk sub") ?_
  refine use_w_check (ns := headL kind num body) (sq_own 0 rfl) (by rw [hhl]; omega) ?_
  walk_at "sk stp"
  refine use_w_low hkr.1 (by decide) fun p6 => ?_
  have h9 := bytesN_len (chkL (headL kind num body)) 2
  refine n_cat (xs := (headL kind num body).map V.int) (zs := (bytesN (chkL (headL kind num body)) 2).map V.int) (is_own 1 rfl) (is_own 0 rfl) (by rw [List.length_map, List.length_map, h9, hhl, sizeLine_eq]; omega) fun p7 => ?_
  rw [← List.map_append]
  exact n_sub (L' := (p7, .lst ((frameL kind num body).map V.int)) :: G) (by walk_at "sk sub") (k p7)
theorem raw_w_frame {P : Program} {w : World} {K : PySem.W.Frag} {mg : Str → Option Value} {base : Heap} {A : Ads} {f : Addr} {fd : FuncData} (F : Fun K "_law_frame" "_law_frame" s_w_frame f fd) (T : Txt K mg A) (O_w_low : OkC P w K mg base CX0 1 "_law_low" ["_law_number", "_law_many"] (sp_w_low K A)) (O_w_check : OkC P w K mg base CX0 1 "_law_check" ["_law_data"] (sp_w_check K A)) : FnOk P w K mg base CX0 2 f fd ["_law_kind", "_law_number", "_law_body"] (sp_w_frame K A) := by
  refine F.ok sc_w_frame (fun vs H Q E h => len_w_frame vs H Q E h) (fun cdv Ar outer s H vs Q E hr h => ⟨t_w_frame K A E, PSs.nox ?_, pure_w_frame T.fct vs H Q E h⟩)
  have nd := sc_w_frame.nd
  exact (pss_cons (ps_set (i := 3) nd rfl (Or.inl rfl) (pe_op op_uAdd (pe_op op_uAdd (pe_op op_uAdd (pe_lst (pa_cons (pv 0) pa_nil)) (pe_cl (E := WE W0) O_w_low (hr.mono (by decide)) (by rfl) pass00 (pa_cons (pv 1) (pa_cons pe_int pa_nil)))) (pe_cl (E := WE W0) O_w_low (hr.mono (by decide)) (by rfl) pass00 (pa_cons (pe_callB call_uLen (by rfl) T.b_len boot_len (pa_cons (pv 2) pa_nil)) (pa_cons pe_int pa_nil)))) (pv 2)))
    (pss_cons (ps_ret (pe_op op_uAdd (pv 3) (pe_cl (E := WE W0) O_w_low (hr.mono (by decide)) (by rfl) pass00 (pa_cons (pe_cl (E := WE W0) O_w_check (hr.mono (by decide)) (by rfl) pass00 (pa_cons (pv 3) pa_nil)) (pa_cons pe_int pa_nil)))))
    pss_nil))
theorem use_w_frame {K : PySem.W.Frag} {A : Ads} {B : Hp} {G : Own} {Q : VK} {E : XK} {a : Addr} {kind num : Int} {body : List Int} (hs : Is B G a (.lst (body.map V.int))) (hn : 0 ≤ num) (hl : body.length ≤ 16383) (zq : ∀ q, N B ((q, .lst ((frameL kind num body).map V.int)) :: G) (Q (.ref q))) : N B G (fun H => sp_w_frame K A [.int kind, .int num, .ref a] H Q E) := fun zH zs => ⟨B, _, _, _, _, _, rfl, zs, hs, hn, hl, zq⟩

theorem text_snoc {ds : List Int} {d : Int} (h : IsText ds) (hd : 0 ≤ d ∧ d < 256) : IsText (ds ++ [d]) := by
  intro x hx
  rcases List.mem_append.mp hx with hx | hx
  · exact h x hx
  · rw [List.mem_singleton.mp hx]; exact hd
theorem plainL_len {xs : List Int} (h : BlockOk xs) : (plainL xs).length ≤ 60 := by
  obtain ⟨_, h2, h3⟩ := h
  have hhl := halvL_len (n := (xs.length : Int) - 1) (k := 6) (by omega) (by show (xs.length : Int) - 1 + 1 < 64; omega)
  have hrl := row8_len xs
  unfold plainL
  rw [laidL_len, plainB, List.length_cons, List.length_append]
  omega
theorem pressedL_len {xs : List Int} (h : BlockOk xs) : (pressedL xs).length ≤ 60 := by
  have := plainL_len h
  unfold pressedL
  split <;> omega
theorem wsum_set : ∀ (ns : List Int) (j : Nat) (k v : Int) (h : j < ns.length), wsum k (ns.set j v) = wsum k ns + (v - ns[j]) * (k + j)
  | n :: r, 0, k, v, h => by
    show v * k + wsum (k + 1) r = n * k + wsum (k + 1) r + (v - n) * (k + 0)
    rw [Int.add_zero, Int.sub_mul]
    omega
  | n :: r, j + 1, k, v, h => by
    show n * k + wsum (k + 1) (r.set j v) = n * k + wsum (k + 1) r + (v - r[j]'(by simpa using h)) * (k + ((j + 1 : Nat) : Int))
    rw [wsum_set r j (k + 1) v (by simpa using h)]
    have e : k + 1 + (j : Int) = k + ((j + 1 : Nat) : Int) := by omega
    rw [e]
    omega
theorem cop : ∀ k : Nat, k < 400 → 0 < k → Nat.gcd 16381 k = 1 := by decide +kernel
theorem no_dvd {d k : Int} (hd : d ≠ 0) (h1 : -256 < d) (h2 : d < 256) (k0 : 0 < k) (k1 : k < 400) : ¬ (d * k) % 16381 = 0 := by
  intro h
  have h3 : (16381 : Int) ∣ d * k := Int.dvd_of_emod_eq_zero h
  have h4 : (16381 : Nat) ∣ (d * k).natAbs := Int.ofNat_dvd_left.mp h3
  rw [Int.natAbs_mul] at h4
  have h5 : Nat.Coprime 16381 k.natAbs := cop k.natAbs (by omega) (by omega)
  have h6 := h5.dvd_of_dvd_mul_right h4
  have h7 := Nat.le_of_dvd (by omega) h6
  omega
theorem chk_set {xs : List Int} {j : Nat} {v : Int} (h : j < xs.length) (hl : xs.length < 390) (hx : 0 ≤ xs.getD j 0 ∧ xs.getD j 0 < 256) (hv : 0 ≤ v ∧ v < 256) (ne : v ≠ xs.getD j 0) : chkL (xs.set j v) ≠ chkL xs := by
  rw [List.getD_eq_getElem?_getD, List.getElem?_eq_getElem h] at ne hx
  have ne : v ≠ xs[j] := ne
  have hx : 0 ≤ xs[j] ∧ xs[j] < 256 := hx
  intro e
  unfold chkL at e
  rw [wsum_set xs j 1 v h] at e
  refine no_dvd (d := v - xs[j]) (k := 1 + j) (by omega) (by omega) (by omega) (by omega) (by omega) ?_
  omega
/-! one byte of a frame that is another one: no frame stands there any more -/
theorem not_longer {t xs : List Int} (h : BlockOk t) (h' : BlockOk xs) {more : List Int} (hm : more ≠ []) : pressedL xs ≠ pressedL t ++ more := by
  intro e
  have h1 := rdBlock_behind h more
  rw [← e, rdBlock_pressed h'] at h1
  cases h1
  have := congrArg List.length e
  rw [List.length_append] at this
  have := List.length_pos_iff.mpr hm
  omega
/-- bodies of one kind, of which one is a beginning of the other, are the same -/
theorem body_pref {kind : Int} {body body' X X' : List Int} (h : BodyOk kind body) (h' : BodyOk kind body') (e : body ++ X = body' ++ X') : body = body' := by
  rcases h with ⟨k1, xs, hx, rfl⟩ | ⟨k1, h1⟩ | ⟨k1, h1⟩ | ⟨k1, h1, h2, h3⟩
  · rcases h' with ⟨_, ys, hy, rfl⟩ | ⟨k2, _⟩ | ⟨k2, _⟩ | ⟨k2, _⟩
    · rcases List.append_eq_append_iff.mp e with ⟨m, m1, m2⟩ | ⟨m, m1, m2⟩
      · by_cases hm : m = []
        · rw [m1, hm, List.append_nil]
        · exact absurd m1 (not_longer hx hy hm)
      · by_cases hm : m = []
        · rw [m1, hm, List.append_nil]
        · exact absurd m1 (not_longer hy hx hm)
    all_goals omega
  · rcases h' with ⟨k2, _⟩ | ⟨_, g1⟩ | ⟨k2, _⟩ | ⟨k2, _⟩
    · omega
    · exact (List.append_inj e (by omega)).1
    all_goals omega
  · rcases h' with ⟨k2, _⟩ | ⟨k2, _⟩ | ⟨_, g1⟩ | ⟨k2, _⟩
    · omega
    · omega
    · exact (List.append_inj e (by omega)).1
    · omega
  · rcases h' with ⟨k2, _⟩ | ⟨k2, _⟩ | ⟨k2, _⟩ | ⟨_, g1, g2, g3⟩
    · omega
    · omega
    · omega
    · have e1 : (body ++ X).getD 1 0 = body.getD 1 0 := by
        rw [List.getD_eq_getElem?_getD, List.getD_eq_getElem?_getD, List.getElem?_append_left (by omega)]
      have e2 : (body' ++ X').getD 1 0 = body'.getD 1 0 := by
        rw [List.getD_eq_getElem?_getD, List.getD_eq_getElem?_getD, List.getElem?_append_left (by omega)]
      rw [e, e2] at e1
      exact (List.append_inj e (by omega)).1
theorem turned {kind num v : Int} {body more : List Int} (hf : FrameOk kind num body) (hbl : body.length ≤ 100) {j : Nat} (hj : j < (frameL kind num body).length) (hv : 0 ≤ v ∧ v < 256) (ne : v ≠ (frameL kind num body).getD j 0) :
    ∀ kind' num' body' rest', FrameOk kind' num' body' → (frameL kind num body).set j v ++ more ≠ frameL kind' num' body' ++ rest' := by
  intro kind' num' body' rest' hf' e
  have hk := ok_kind hf
  obtain ⟨a, b, c, d, p, q, e1, ⟨ha, hb, hc, hd, hp, hq⟩, en, el, ec⟩ := frame_facts (rest := []) hf (List.append_nil _).symm
  obtain ⟨a', b', c', d', p', q', e1', ⟨ha', hb', hc', hd', hp', hq'⟩, en', el', ec'⟩ := frame_facts hf' e
  have hfl := frameL_len kind num body
  simp only [e1] at ne e1' hj
  have hH : (kind :: a :: b :: c :: d :: body).length = 5 + body.length := by simp only [List.length_cons]; omega
  match j, hj, ne, e1' with
  | 0, hj, ne, e1' =>
    injection e1' with i1 i2
    injection i2 with i3 i4
    injection i4 with i5 i6
    injection i6 with i7 i8
    injection i8 with i9 i10
    subst i1 i3 i5 i7 i9
    have i10 : (body ++ [p, q]) ++ more = body' ++ p' :: q' :: rest' := i10
    rw [List.append_assoc] at i10
    obtain ⟨j1, j2⟩ := List.append_inj i10 (by omega)
    cases j2
    subst j1
    have := chk_set (xs := kind :: a :: b :: c :: d :: body) (j := 0) (v := v) (by rw [hH]; omega) (by rw [hH]; omega) (by show 0 ≤ kind ∧ kind < 256; omega) hv ne
    exact this (ec'.trans ec.symm)
  | 1, hj, ne, e1' =>
    injection e1' with i1 i2
    injection i2 with i3 i4
    injection i4 with i5 i6
    injection i6 with i7 i8
    injection i8 with i9 i10
    subst i1 i3 i5 i7 i9
    have i10 : (body ++ [p, q]) ++ more = body' ++ p' :: q' :: rest' := i10
    rw [List.append_assoc] at i10
    obtain ⟨j1, j2⟩ := List.append_inj i10 (by omega)
    cases j2
    subst j1
    have := chk_set (xs := kind :: a :: b :: c :: d :: body) (j := 1) (v := v) (by rw [hH]; omega) (by rw [hH]; omega) (by show 0 ≤ a ∧ a < 256; omega) hv ne
    exact this (ec'.trans ec.symm)
  | 2, hj, ne, e1' =>
    injection e1' with i1 i2
    injection i2 with i3 i4
    injection i4 with i5 i6
    injection i6 with i7 i8
    injection i8 with i9 i10
    subst i1 i3 i5 i7 i9
    have i10 : (body ++ [p, q]) ++ more = body' ++ p' :: q' :: rest' := i10
    rw [List.append_assoc] at i10
    obtain ⟨j1, j2⟩ := List.append_inj i10 (by omega)
    cases j2
    subst j1
    have := chk_set (xs := kind :: a :: b :: c :: d :: body) (j := 2) (v := v) (by rw [hH]; omega) (by rw [hH]; omega) (by show 0 ≤ b ∧ b < 256; omega) hv ne
    exact this (ec'.trans ec.symm)
  | 3, hj, ne, e1' =>
    injection e1' with i1 i2
    injection i2 with i3 i4
    injection i4 with i5 i6
    injection i6 with i7 i8
    injection i8 with i9 i10
    subst i1 i3 i5 i7 i9
    have i10 : (body ++ [p, q]) ++ more = body' ++ p' :: q' :: rest' := i10
    rw [List.append_assoc] at i10
    have := body_pref hf.ok hf'.ok i10
    subst this
    have ne : v ≠ c := ne
    omega
  | 4, hj, ne, e1' =>
    injection e1' with i1 i2
    injection i2 with i3 i4
    injection i4 with i5 i6
    injection i6 with i7 i8
    injection i8 with i9 i10
    subst i1 i3 i5 i7 i9
    have i10 : (body ++ [p, q]) ++ more = body' ++ p' :: q' :: rest' := i10
    rw [List.append_assoc] at i10
    have := body_pref hf.ok hf'.ok i10
    subst this
    have ne : v ≠ d := ne
    omega
  | i + 5, hj, ne, e1' =>
    injection e1' with i1 i2
    injection i2 with i3 i4
    injection i4 with i5 i6
    injection i6 with i7 i8
    injection i8 with i9 i10
    subst i1 i3 i5 i7 i9
    have i10 : (body ++ p :: q :: []).set i v ++ more = body' ++ p' :: q' :: rest' := i10
    have ne : v ≠ (body ++ p :: q :: []).getD i 0 := ne
    by_cases hi : i < body.length
    · rw [List.set_append_left _ _ hi, List.append_assoc] at i10
      obtain ⟨j1, j2⟩ := List.append_inj i10 (by rw [List.length_set]; omega)
      cases j2
      subst j1
      rw [List.getD_eq_getElem?_getD, List.getElem?_append_left hi, ← List.getD_eq_getElem?_getD] at ne
      have := chk_set (xs := kind :: a :: b :: c :: d :: body) (j := i + 5) (v := v) (by rw [hH]; omega) (by rw [hH]; omega) (by show 0 ≤ body.getD i 0 ∧ body.getD i 0 < 256; have := getD_all (P := fun d => 0 ≤ d ∧ d < 128) (z := 0) (i := i) hf.low (by decide); omega) hv ne
      exact this (ec'.trans ec.symm)
    · obtain ⟨m, rfl⟩ : ∃ m, i = body.length + m := ⟨i - body.length, by omega⟩
      rw [List.set_append_right _ _ (by omega), Nat.add_sub_cancel_left, List.append_assoc] at i10
      obtain ⟨j1, j2⟩ := List.append_inj i10 (by omega)
      subst j1
      rw [List.getD_eq_getElem?_getD, List.getElem?_append_right (by omega), Nat.add_sub_cancel_left, ← List.getD_eq_getElem?_getD] at ne
      have hm : m < 2 := by simp only [List.length_cons, List.length_append, List.length_nil] at hj; omega
      match m, hm, j2, ne with
      | 0, _, j2, ne =>
        cases j2
        have ne : v ≠ p := ne
        omega
      | 1, _, j2, ne =>
        cases j2
        have ne : v ≠ q := ne
        omega
theorem frame_same {T body body' rest rest' : List Int} {kind kind' num num' : Int} (hf : FrameOk kind num body) (hf' : FrameOk kind' num' body') (e : T = frameL kind num body ++ rest) (e' : T = frameL kind' num' body' ++ rest') : kind' = kind ∧ num' = num ∧ body' = body := by
  obtain ⟨a, b, c, d, p, q, e1, _, e2, e3, _⟩ := frame_facts hf e
  obtain ⟨a', b', c', d', p', q', e1', _, e2', e3', _⟩ := frame_facts hf' e'
  rw [e1] at e1'
  injection e1' with h1 h2
  injection h2 with h3 h4
  injection h4 with h5 h6
  injection h6 with h7 h8
  injection h8 with h9 h10
  subst h3 h5 h7 h9
  obtain ⟨i1, _⟩ := List.append_inj h10 (by omega)
  exact ⟨h1.symm, by omega, i1.symm⟩
/-- cut off: no frame -/
theorem cut_off {kind num : Int} {body : List Int} (hf : FrameOk kind num body) {k : Nat} (hk : k < (frameL kind num body).length) : ∀ kind' num' body' rest', FrameOk kind' num' body' → (frameL kind num body).take k ≠ frameL kind' num' body' ++ rest' := by
  intro kind' num' body' rest' hf' e
  have e2 : frameL kind num body = frameL kind' num' body' ++ (rest' ++ (frameL kind num body).drop k) := by
    rw [← List.append_assoc, ← e, List.take_append_drop]
  obtain ⟨rfl, rfl, rfl⟩ := frame_same hf hf' (List.append_nil _).symm e2
  have := congrArg List.length e
  rw [List.length_take, List.length_append] at this
  omega
/-- amid a frame: none begins there -/
theorem amid {kind num : Int} {body more : List Int} (hf : FrameOk kind num body) {k : Nat} (h0 : 0 < k) (hk : k < (frameL kind num body).length) : ∀ kind' num' body' rest', FrameOk kind' num' body' → (frameL kind num body).drop k ++ more ≠ frameL kind' num' body' ++ rest' := by
  intro kind' num' body' rest' hf' e
  have hkd := ok_kind hf'
  obtain ⟨a, b, c, d, p, q, e1, ⟨ha, hb, hc, hd, hp, hq⟩, _⟩ := frame_facts (rest := []) hf (List.append_nil _).symm
  have hlow : ∀ x ∈ (frameL kind num body).drop 1, x < 128 := by
    intro x hx
    rw [e1] at hx
    have hx : x ∈ a :: b :: c :: d :: (body ++ p :: q :: []) := hx
    simp only [List.mem_cons, List.mem_append, List.not_mem_nil, or_false] at hx
    rcases hx with rfl | rfl | rfl | rfl | hx | rfl | rfl
    · omega
    · omega
    · omega
    · omega
    · have := hf.low x hx; omega
    · omega
    · omega
  have h1 : ((frameL kind num body).drop k ++ more).getD 0 0 = (frameL kind num body)[k] := by
    rw [List.drop_eq_getElem_cons hk]; rfl
  have h2 : (frameL kind' num' body' ++ rest').getD 0 0 = kind' := rfl
  rw [e, h2] at h1
  have h3 : (frameL kind num body)[k] ∈ (frameL kind num body).drop 1 := by
    have : (frameL kind num body).drop 1 = (frameL kind num body).drop 1 := rfl
    rw [List.mem_iff_getElem]
    exact ⟨k - 1, by rw [List.length_drop]; omega, by rw [List.getElem_drop]; congr 1; omega⟩
  have := hlow _ h3
  omega
/-! bodies that tell no block -/
theorem rowB_ones : ∀ n : Nat, rowB (List.replicate n 127) = List.replicate (7 * n) 1
  | 0 => rfl
  | n + 1 => by
    have e : bitsN 127 7 = List.replicate 7 1 := by decide
    show bitsN 127 7 ++ rowB (List.replicate n 127) = _
    rw [rowB_ones n, e, List.replicate_append_replicate]
    congr 1
    omega
theorem rdH_ones {m u : Nat} (h : u < m) : rdH (List.replicate m 1) u = some (0, u + 1) := by
  have e : (List.replicate m (1 : Int)).drop u = 1 :: List.replicate (m - u - 1) 1 := by
    rw [List.drop_replicate, show m - u = (m - u - 1) + 1 by omega, List.replicate_succ]
    rfl
  have hz : lz ((List.replicate m (1 : Int)).drop u) = 0 := by rw [e, lz, if_neg (by decide)]
  rw [rdH, hz, if_pos (by rw [List.length_replicate]; omega), show u + 0 = u from rfl, e]
  rfl
theorem code_one {k : List Int} (h : k ≠ [0]) : codeAt [(0, 1)] k = none := by
  cases e : codeAt [(0, 1)] k with
  | none => rfl
  | some s =>
    obtain ⟨c, hc, _, h2⟩ := codeAt_mem e
    rw [List.mem_singleton] at hc
    subst hc
    exact absurd h2.symm (by rw [show cdF (codesX [(0, 1)]) ((0 : Int), (1 : Int)).1 = [0] by decide +kernel]; exact h)
theorem rdCode_ones (rs : List Int) : ∀ (f u : Nat) (r : List Int), rdCode [(0, 1)] rs f u (1 :: r) = none
  | 0, _, _ => rfl
  | f + 1, u, r => by
    rw [rdCode, code_one (by intro h; cases h)]
    dsimp only
    split
    · exact rdCode_ones rs f (u + 1) (r ++ [rs.getD u 0])
    · rfl
theorem ones_none {n : Nat} (hn : 1 ≤ n) : rdBlock (rowB (List.replicate n 127)) = none := by
  rw [rowB_ones]
  obtain ⟨m, hm, h7⟩ : ∃ m, 7 * n = m ∧ 7 ≤ m := ⟨7 * n, rfl, by omega⟩
  rw [hm]
  have hl : (List.replicate m (1 : Int)).length = m := List.length_replicate
  have hg : (List.replicate m (1 : Int)).getD 0 0 = 1 := by
    rw [show m = (m - 1) + 1 by omega, List.replicate_succ]; rfl
  have hg5 : (List.replicate m (1 : Int)).getD 5 0 = 1 := by
    rw [List.getD_eq_getElem?_getD, List.getElem?_replicate, if_pos (by omega)]; rfl
  have ht : rdTable (List.replicate m 1) 2 = some ([(0, 1)], 5) := by
    rw [rdTable, rdH_ones (by omega)]
    show rdTab (List.replicate m 1) 1 3 0 [] = _
    rw [rdTab, rdH_ones (by omega)]
    dsimp only
    rw [if_neg (by decide), rdH_ones (by omega)]
    rfl
  have hok : LensOk [((0 : Int), (1 : Int))] := ⟨by decide, ⟨by decide, by decide, by decide, trivial⟩, by decide +kernel⟩
  rw [rdBlock, if_pos (by omega), rdH_ones (by omega), rdHead, rdBody, if_neg (by decide), if_neg (by rw [hg]; decide), ht, rdRest_ok hok]
  show rdToks _ _ 1 2 5 [] [] = none
  rw [rdToks, if_pos (by decide), rdTok, if_pos (by omega), hg5, rdCode_ones]
  rfl
theorem noughts_none : rdBlock (rowB (List.replicate 9 0)) = none := by
  have e : rowB (List.replicate 9 0) = List.replicate 63 0 := by decide +kernel
  rw [e, rdBlock, if_pos (by decide)]
  have h : rdH (List.replicate 63 0) 1 = none := by decide +kernel
  rw [h]
  rfl

theorem frame_bytes {kind num : Int} {body : List Int} (hf : FrameOk kind num body) : ∀ d ∈ frameL kind num body, 0 ≤ d ∧ d ≤ 255 := by
  have hk := ok_kind hf
  intro d hd
  rcases List.mem_append.mp hd with hd | hd
  · rcases List.mem_cons.mp hd with rfl | hd
    · omega
    rcases List.mem_append.mp hd with hd | hd
    · have := bytesN_low _ _ d hd; omega
    rcases List.mem_append.mp hd with hd | hd
    · have := bytesN_low _ _ d hd; omega
    · have := hf.low d hd; omega
  · have := bytesN_low _ _ d hd; omega
theorem xor_bit : ∀ b : Fin 256, ∀ k : Fin 8, 0 ≤ Builtin.bitXor (b.val : Int) (1 * 2 ^ k.val) ∧ Builtin.bitXor (b.val : Int) (1 * 2 ^ k.val) < 256 ∧ Builtin.bitXor (b.val : Int) (1 * 2 ^ k.val) ≠ b.val := by decide +kernel
theorem xor_bit' {b : Int} (h0 : 0 ≤ b) (h1 : b < 256) {k : Nat} (hk : k < 8) : (0 ≤ Builtin.bitXor b (1 * 2 ^ k) ∧ Builtin.bitXor b (1 * 2 ^ k) < 256) ∧ Builtin.bitXor b (1 * 2 ^ k) ≠ b := by
  have := xor_bit ⟨b.toNat, by omega⟩ ⟨k, hk⟩
  simp only [Int.toNat_of_nonneg h0] at this
  exact ⟨⟨this.1, this.2.1⟩, this.2.2⟩
theorem n_xor {B : Hp} {L : Own} {i j : Int} {Q : VK} (q : N B L (Q (.int (Builtin.bitXor i j)))) : N B L (fun H => uXor (.int i) (.int j) H Q) := fun H s => ⟨i, j, rfl, rfl, q H s⟩
/-- a frame of that kind and number, whatever its body -/
theorem frame_body {kind num kind' num' : Int} {body body' rest rest' : List Int} (hn : 0 ≤ num ∧ num < 16384) (hl : body.length < 16384) (hf : FrameOk kind' num' body') (e : frameL kind num body ++ rest = frameL kind' num' body' ++ rest') : kind' = kind ∧ body' = body := by
  have hl' := hf.len
  simp only [frameL, headL, List.cons_append, List.append_assoc] at e
  injection e with e1 e2
  obtain ⟨e3, e4⟩ := List.append_inj e2 (by rw [bytesN_len, bytesN_len])
  obtain ⟨e5, e6⟩ := List.append_inj e4 (by rw [bytesN_len, bytesN_len])
  obtain ⟨a, b, f1, _, _, g1⟩ := bytes_get (body.length : Int)
  obtain ⟨a', b', f2, _, _, g2⟩ := bytes_get (body'.length : Int)
  rw [f1, f2] at e5
  injection e5 with e7 e8
  injection e8 with e9 _
  have h1 := g1 (by omega) (by omega)
  have h2 := g2 (by omega) (by omega)
  exact ⟨e1.symm, ((List.append_inj e6 (by omega)).1).symm⟩
def WrongB (kind : Int) (body ws : List Int) : Prop := ws = body ∨ (ws.length ≤ 70 ∧ (∀ d ∈ ws, 0 ≤ d ∧ d ≤ 200) ∧ ¬ BodyOk kind ws)
theorem pressedL_pos {xs : List Int} (h : BlockOk xs) : 1 ≤ (pressedL xs).length := by
  cases e : pressedL xs with
  | nil =>
    have := rdBlock_pressed h
    rw [e] at this
    have e2 : rdBlock (rowB []) = none := by decide +kernel
    rw [e2] at this
    cases this
  | cons a r => exact Nat.succ_le_succ (Nat.zero_le _)
theorem blk_of {kind : Int} {ws : List Int} (hk : kind = 128) (h : BodyOk kind ws) : ∃ xs, BlockOk xs ∧ pressedL xs = ws := by
  rcases h with ⟨_, h⟩ | ⟨h, _⟩ | ⟨h, _⟩ | ⟨h, _⟩
  · exact h
  · omega
  · omega
  · omega
theorem len_of {kind : Int} {ws : List Int} (hk : kind ≠ 128) (h : BodyOk kind ws) : (kind = 129 → ws.length = 2) ∧ (kind = 131 → ws.length = 9) ∧ (kind = 130 → 2 ≤ ws.length ∧ (ws.length : Int) = 2 + 6 * ws.getD 1 0 ∧ 0 < ws.getD 1 0) := by
  rcases h with ⟨h, _⟩ | ⟨h, h2⟩ | ⟨h, h2⟩ | ⟨h, h2, h4, h3⟩
  · exact absurd h hk
  · exact ⟨fun _ => h2, fun _ => by omega, fun _ => by omega⟩
  · exact ⟨fun _ => by omega, fun _ => h2, fun _ => by omega⟩
  · exact ⟨fun _ => by omega, fun _ => by omega, fun _ => ⟨h2, h3, h4⟩⟩
theorem cut_last (ys : List Int) (e : Int) : cutI (ys ++ [e]) none (some (-1)) = ys := by
  have h : cutI (ys ++ [e]) none (some (-1)) = (ys ++ [e]).take ((ys ++ [e]).length - 1) := by
    unfold cutI
    rw [HT.sIx_none, List.drop_zero]
    have e2 : HT.sIx (ys ++ [e]).length (ys ++ [e]).length (some (-1)) - 0 = (ys ++ [e]).length - 1 := by
      unfold HT.sIx
      rw [List.length_append]
      simp
      omega
    rw [e2]
  rw [h, List.length_append]
  simp

abbrev s_w_drawn : Stmt := topS 77
abbrev N_w_drawn : List Str := ["_law_purse_here", "_law_kind", "_law_number", "_law_few", "_law_many", "_law_body", "_law_k"]
theorem sc_w_drawn : FnScope N_w_drawn ["_law_purse_here"] (defScope s_w_drawn) := ⟨rfl, rfl, rfl, by decide +kernel, rfl, by decide +kernel, by decide +kernel⟩






def sp_w_drawn (K : PySem.W.Frag) (A : Ads) : Sp := fun zvs zH Q E => ∃ (B : Hp) (G : Own) (p : Addr) (o : HO), zvs = [.ref p] ∧ SI B ((p, o) :: G) zH ∧ (Purse o) ∧ (∀ (B' : Hp) (o' : HO) (t q : Addr) (kind num : Int) (body : List Int), Purse o' → FrameOk kind num body → body.length ≤ 60 → Same B B' → B' t = some (HO.tup [.int kind, .int num, .ref q]) → B' q = some (HO.lst (body.map V.int)) → NP B' [] p o' G (Q (.ref t)))
theorem len_w_drawn {K : PySem.W.Frag} {A : Ads} : ∀ vs H Q E, sp_w_drawn K A vs H Q E → vs.length = 1 := by
  intro vs H Q E h
  obtain ⟨_, _, _, _, rfl, _⟩ := h
  rfl
def x_w_drawn_0 (K : PySem.W.Frag) (A : Ads) (E : XK) : TS :=
  (tSeq (tAsg (tOp (uAdd K) (tLst (tCons (tCl (sp_w_take K A) (WE (fun cls d _ H => E cls d H)) (tCons (tVar 0) (tCons (tC (.int (128))) tNil))) (tCons (tOp uDiv (tVar 4) (tC (.int (6)))) tNil))) (tVar 5)) (gName 5))
    tNext)
instance {K : PySem.W.Frag} {A : Ads} {E : XK} : Unf (x_w_drawn_0 K A E) (
  (tSeq (tAsg (tOp (uAdd K) (tLst (tCons (tCl (sp_w_take K A) (WE (fun cls d _ H => E cls d H)) (tCons (tVar 0) (tCons (tC (.int (128))) tNil))) (tCons (tOp uDiv (tVar 4) (tC (.int (6)))) tNil))) (tVar 5)) (gName 5))
    tNext)) := ⟨rfl⟩
def x_w_drawn_1 (K : PySem.W.Frag) (A : Ads) (E : XK) : TS :=
  (tSeq (tIfS (tTest (tOp (uEq K) (tVar 1) (tC (.int (130)))))
    (x_w_drawn_0 K A E)
    tNext)
    (tSeq (tRet (tTup (tCons (tVar 1) (tCons (tVar 2) (tCons (tVar 5) tNil)))))
    tNext))
instance {K : PySem.W.Frag} {A : Ads} {E : XK} : Unf (x_w_drawn_1 K A E) (
  (tSeq (tIfS (tTest (tOp (uEq K) (tVar 1) (tC (.int (130)))))
    (x_w_drawn_0 K A E)
    tNext)
    (tSeq (tRet (tTup (tCons (tVar 1) (tCons (tVar 2) (tCons (tVar 5) tNil)))))
    tNext))) := ⟨rfl⟩
def x_w_drawn_2 (K : PySem.W.Frag) (A : Ads) (E : XK) : TS :=
  (tSeq (tAsg (tLc (iRng1 (tCons (tVar 4) tNil)) (gName 6) tYes (tOp (rIx K) (tLst (tCons (tCl (sp_w_take K A) (WE (fun cls d _ H => E cls d H)) (tCons (tVar 0) (tCons (tC (.int (128))) tNil))) (tCons (tC (.int (0))) tNil))) (tCl (sp_w_take K A) (WE (fun cls d _ H => E cls d H)) (tCons (tVar 0) (tCons (tC (.int (2))) tNil)))) [6]) (gName 5))
    (x_w_drawn_1 K A E))
instance {K : PySem.W.Frag} {A : Ads} {E : XK} : Unf (x_w_drawn_2 K A E) (
  (tSeq (tAsg (tLc (iRng1 (tCons (tVar 4) tNil)) (gName 6) tYes (tOp (rIx K) (tLst (tCons (tCl (sp_w_take K A) (WE (fun cls d _ H => E cls d H)) (tCons (tVar 0) (tCons (tC (.int (128))) tNil))) (tCons (tC (.int (0))) tNil))) (tCl (sp_w_take K A) (WE (fun cls d _ H => E cls d H)) (tCons (tVar 0) (tCons (tC (.int (2))) tNil)))) [6]) (gName 5))
    (x_w_drawn_1 K A E))) := ⟨rfl⟩
def x_w_drawn_3 (K : PySem.W.Frag) (A : Ads) (E : XK) : TS :=
  (tSeq (tRet (tTup (tCons (tVar 1) (tCons (tVar 2) (tCons (tCl (sp_pressed K A) (WE (fun cls d _ H => E cls d H)) (tCons (tLc (iRng1 (tCons (tOp (uAdd K) (tC (.int (1))) (tCl (sp_w_take K A) (WE (fun cls d _ H => E cls d H)) (tCons (tVar 0) (tCons (tC (.int (12))) tNil)))) tNil)) (gName 6) tYes (tOp (rIx K) (tVar 3) (tCl (sp_w_take K A) (WE (fun cls d _ H => E cls d H)) (tCons (tVar 0) (tCons (tC (.int (2))) tNil)))) [6]) tNil)) tNil)))))
    tNext)
instance {K : PySem.W.Frag} {A : Ads} {E : XK} : Unf (x_w_drawn_3 K A E) (
  (tSeq (tRet (tTup (tCons (tVar 1) (tCons (tVar 2) (tCons (tCl (sp_pressed K A) (WE (fun cls d _ H => E cls d H)) (tCons (tLc (iRng1 (tCons (tOp (uAdd K) (tC (.int (1))) (tCl (sp_w_take K A) (WE (fun cls d _ H => E cls d H)) (tCons (tVar 0) (tCons (tC (.int (12))) tNil)))) tNil)) (gName 6) tYes (tOp (rIx K) (tVar 3) (tCl (sp_w_take K A) (WE (fun cls d _ H => E cls d H)) (tCons (tVar 0) (tCons (tC (.int (2))) tNil)))) [6]) tNil)) tNil)))))
    tNext)) := ⟨rfl⟩
def x_w_drawn_4 (K : PySem.W.Frag) (A : Ads) (E : XK) : TS :=
  (tSeq (tAsg (tLc (iRng1 (tCons (tC (.int (2))) tNil)) (gName 6) tYes (tCl (sp_w_take K A) (WE (fun cls d _ H => E cls d H)) (tCons (tVar 0) (tCons (tC (.int (256))) tNil))) [6]) (gName 3))
    (x_w_drawn_3 K A E))
instance {K : PySem.W.Frag} {A : Ads} {E : XK} : Unf (x_w_drawn_4 K A E) (
  (tSeq (tAsg (tLc (iRng1 (tCons (tC (.int (2))) tNil)) (gName 6) tYes (tCl (sp_w_take K A) (WE (fun cls d _ H => E cls d H)) (tCons (tVar 0) (tCons (tC (.int (256))) tNil))) [6]) (gName 3))
    (x_w_drawn_3 K A E))) := ⟨rfl⟩
def x_w_drawn_5 (K : PySem.W.Frag) (A : Ads) (E : XK) : TS :=
  (tSeq (tAsg (tOp (rIx K) (tLst (tCons (tC (.int (0))) (tCons (tC (.int (2))) (tCons (tOp uMul (tC (.int (6))) (tOp (uAdd K) (tC (.int (1))) (tCl (sp_w_take K A) (WE (fun cls d _ H => E cls d H)) (tCons (tVar 0) (tCons (tC (.int (3))) tNil))))) (tCons (tC (.int (9))) tNil))))) (tOp uSub (tVar 1) (tC (.int (128))))) (gName 4))
    (x_w_drawn_2 K A E))
instance {K : PySem.W.Frag} {A : Ads} {E : XK} : Unf (x_w_drawn_5 K A E) (
  (tSeq (tAsg (tOp (rIx K) (tLst (tCons (tC (.int (0))) (tCons (tC (.int (2))) (tCons (tOp uMul (tC (.int (6))) (tOp (uAdd K) (tC (.int (1))) (tCl (sp_w_take K A) (WE (fun cls d _ H => E cls d H)) (tCons (tVar 0) (tCons (tC (.int (3))) tNil))))) (tCons (tC (.int (9))) tNil))))) (tOp uSub (tVar 1) (tC (.int (128))))) (gName 4))
    (x_w_drawn_2 K A E))) := ⟨rfl⟩
def x_w_drawn_6 (K : PySem.W.Frag) (A : Ads) (E : XK) : TS :=
  (tSeq (tIfS (tTest (tOp (uEq K) (tVar 1) (tC (.int (128)))))
    (x_w_drawn_4 K A E)
    tNext)
    (x_w_drawn_5 K A E))
instance {K : PySem.W.Frag} {A : Ads} {E : XK} : Unf (x_w_drawn_6 K A E) (
  (tSeq (tIfS (tTest (tOp (uEq K) (tVar 1) (tC (.int (128)))))
    (x_w_drawn_4 K A E)
    tNext)
    (x_w_drawn_5 K A E))) := ⟨rfl⟩
def x_w_drawn_7 (K : PySem.W.Frag) (A : Ads) (E : XK) : TS :=
  (tSeq (tAsg (tOp (rIx K) (tLst (tCons (tCl (sp_w_take K A) (WE (fun cls d _ H => E cls d H)) (tCons (tVar 0) (tCons (tC (.int (20))) tNil))) (tCons (tCl (sp_w_take K A) (WE (fun cls d _ H => E cls d H)) (tCons (tVar 0) (tCons (tC (.int (16384))) tNil))) tNil))) (tCl (sp_w_take K A) (WE (fun cls d _ H => E cls d H)) (tCons (tVar 0) (tCons (tC (.int (2))) tNil)))) (gName 2))
    (x_w_drawn_6 K A E))
instance {K : PySem.W.Frag} {A : Ads} {E : XK} : Unf (x_w_drawn_7 K A E) (
  (tSeq (tAsg (tOp (rIx K) (tLst (tCons (tCl (sp_w_take K A) (WE (fun cls d _ H => E cls d H)) (tCons (tVar 0) (tCons (tC (.int (20))) tNil))) (tCons (tCl (sp_w_take K A) (WE (fun cls d _ H => E cls d H)) (tCons (tVar 0) (tCons (tC (.int (16384))) tNil))) tNil))) (tCl (sp_w_take K A) (WE (fun cls d _ H => E cls d H)) (tCons (tVar 0) (tCons (tC (.int (2))) tNil)))) (gName 2))
    (x_w_drawn_6 K A E))) := ⟨rfl⟩
def t_w_drawn (K : PySem.W.Frag) (A : Ads) (E : XK) : TS :=
  (tSeq (tAsg (tOp (uAdd K) (tC (.int (128))) (tCl (sp_w_take K A) (WE (fun cls d _ H => E cls d H)) (tCons (tVar 0) (tCons (tC (.int (4))) tNil)))) (gName 1))
    (x_w_drawn_7 K A E))
theorem pure_w_drawn {K : PySem.W.Frag} {A : Ads} (T : Fct K A) (vs : List V) (H : Hp) (Q : VK) (E : XK) (h : sp_w_drawn K A vs H Q E) : t_w_drawn K A E (endE Q) (L2.start N_w_drawn vs) H := by
  obtain ⟨B, G, p, o, rfl, zs, ho, k⟩ := h
  refine (?_ : N B ((p, o) :: G) (fun H => t_w_drawn K A E (endE Q) (L2.start N_w_drawn [.ref p]) H)) H zs
  clear zs
  unfold t_w_drawn

  walk_at "sk stp"
  refine use_w_take (o := o) 0 rfl ho (by decide) fun o1 kd ho1 k0 k1 => ?_
  walk_at "sk stp"
  refine use_w_take (o := o1) 0 rfl ho1 (by decide) fun o2 m1 ho2 m10 m11 => ?_
  walk_at "sk stp"
  refine use_w_take (o := o2) 0 rfl ho2 (by decide) fun o3 m2 ho3 m20 m21 => ?_
  walk_at "sk stp"
  refine use_w_take (o := o3) 1 rfl ho3 (by decide) fun o4 m3 ho4 m30 m31 => ?_
  refine n_ixP (ns := [m1, m2]) (P := fun d => 0 ≤ d ∧ d < 16384) (by intro x hx; simp only [List.mem_cons, List.not_mem_nil, or_false] at hx; omega) (sq_own 0 rfl) m30 m31 fun num hnum => ?_
  refine n_sub (L' := (p, o4) :: G) (by walk_at "sk sub") ?_
  walk_at "sk stp"
  refine n_iteD (fun h8 => ?_) (fun h8 => ?_)
  · walk_at "sk stp"
    refine n_lcR1 (fun i acc L => ∃ (o : HO) (ds : List Int), acc = ds.map V.int ∧ L = (p, o) :: G ∧ Purse o ∧ IsText ds ∧ ds.length = i) (by decide) ⟨o4, [], rfl, rfl, ho4, (fun d hd => nomatch hd), rfl⟩ ?_ ?_
    · rintro i acc L D hi ⟨o, ds, rfl, rfl, ho, hd, hl⟩
      walk_at "sk stp"
      refine use_w_take (o := o) 1 rfl ho (by decide) fun o2 d ho2 hd0 hd1 => ?_
      exact n_put [] rfl (by walk_at "sk len") ⟨o2, ds ++ [d], by rw [List.map_append]; rfl, rfl, ho2, text_snoc hd ⟨hd0, hd1⟩, by rw [List.length_append, hl]; rfl⟩ (.refl _)
    rintro acc L D ⟨o5, few, rfl, rfl, ho5, hfew, hfl⟩
    walk_at "sk stp"
    refine use_w_take (o := o5) 1 rfl ho5 (by decide) fun o6 c ho6 c0 c1 => ?_
    walk_at "sk stp"
    refine n_lcR1 (fun i acc L => ∃ (o : HO) (ds : List Int), acc = ds.map V.int ∧ L = (D, .lst (few.map V.int)) :: (p, o) :: G ∧ Purse o ∧ IsText ds ∧ ds.length = i) (by omega) ⟨o6, [], rfl, rfl, ho6, (fun d hd => nomatch hd), rfl⟩ ?_ ?_
    · rintro i acc L D2 hi ⟨o, ds, rfl, rfl, ho, hd, hl⟩
      walk_at "sk stp"
      refine use_w_take (o := o) 2 rfl ho (by decide) fun o7 j ho7 j0 j1 => ?_
      refine n_ixP (ns := few) (P := fun d => 0 ≤ d ∧ d < 256) hfew (sq_own 1 rfl) j0 (by omega) fun d hd2 => ?_
      exact n_put (L' := (D, .lst (few.map V.int)) :: (p, o7) :: G) [] rfl (by walk_at "sk len") ⟨o7, ds ++ [d], by rw [List.map_append]; rfl, rfl, ho7, text_snoc hd hd2, by rw [List.length_append, hl]; rfl⟩ (.refl _)
    rintro acc L D2 ⟨o7, xs, rfl, rfl, ho7, hxs, hxl⟩
    have hok : BlockOk xs := ⟨isT_iff.mpr fun x hx => by have := hxs x hx; omega, by omega, by omega⟩
    have hpl := pressedL_len hok
    have hplow := pressed_low hok
    walk_at "sk stp"
    refine use_pressed (xs := xs) (is_own 0 rfl) (fun B1 qb _ sm1 => ?_) (fun h => absurd hok h)
    walk_at "sk stp"
    refine n_freeze 1 rfl fun B2 sm2 hqb => ?_
    refine n_freeze 0 rfl fun B3 sm3 htp => ?_
    exact n_sub (by walk_at "sk sub") (k B3 o7 _ qb (128 + kd) num (pressedL xs) ho7 ⟨hnum, by omega, hplow, .inl ⟨h8, xs, hok, rfl⟩⟩ hpl ((sm1.trans sm2).trans sm3) htp (sm3 _ _ hqb))
  walk_at "sk stp"
  refine use_w_take (o := o4) 0 rfl ho4 (by decide) fun o5 tk ho5 t0 t1 => ?_
  walk_at "sk stp"
  rename_i pm
  have hmany : ([0, 2, 6 * (1 + tk), 9] : List Int).getD (128 + kd - 128).toNat 0 = (if kd = 1 then 2 else if kd = 2 then 6 * (1 + tk) else 9) := by
    have : kd = 1 ∨ kd = 2 ∨ kd = 3 := by omega
    rcases this with rfl | rfl | rfl <;> rfl
  refine n_ixLi (ns := [0, 2, 6 * (1 + tk), 9]) (sq_own 0 rfl) (by omega) (by show 128 + kd - 128 < 4; omega) ?_
  rw [hmany]
  have hm2 : (if kd = 1 then 2 else if kd = 2 then 6 * (1 + tk) else (9 : Int)) = 2 ∧ kd = 1 ∨ (if kd = 1 then 2 else if kd = 2 then 6 * (1 + tk) else (9 : Int)) = 6 * (1 + tk) ∧ kd = 2 ∨ (if kd = 1 then 2 else if kd = 2 then 6 * (1 + tk) else (9 : Int)) = 9 ∧ kd = 3 := by
    have : kd = 1 ∨ kd = 2 ∨ kd = 3 := by omega
    rcases this with rfl | rfl | rfl
    · exact .inl ⟨rfl, rfl⟩
    · exact .inr (.inl ⟨rfl, rfl⟩)
    · exact .inr (.inr ⟨rfl, rfl⟩)
  generalize (if kd = 1 then 2 else if kd = 2 then 6 * (1 + tk) else (9 : Int)) = many at hm2 ⊢
  have hm18 : 2 ≤ many ∧ many ≤ 18 := by omega
  refine n_sub (L' := (p, o5) :: G) (by walk_at "sk sub") ?_
  walk_at "sk stp"
  refine n_lcR1 (fun i acc L => ∃ (o : HO) (ds : List Int), acc = ds.map V.int ∧ L = (p, o) :: G ∧ Purse o ∧ (∀ x ∈ ds, 0 ≤ x ∧ x < 128) ∧ ds.length = i) (by omega) ⟨o5, [], rfl, rfl, ho5, (fun d hd => nomatch hd), rfl⟩ ?_ ?_
  · rintro i acc L D hi ⟨o, ds, rfl, rfl, ho, hd, hl⟩
    walk_at "sk stp"
    refine use_w_take (o := o) 1 rfl ho (by decide) fun o6 x ho6 x0 x1 => ?_
    walk_at "sk stp"
    refine use_w_take (o := o6) 2 rfl ho6 (by decide) fun o7 j ho7 j0 j1 => ?_
    refine n_ixP (ns := [x, 0]) (P := fun d => 0 ≤ d ∧ d < 128) (by intro z hz; simp only [List.mem_cons, List.not_mem_nil, or_false] at hz; omega) (sq_own 0 rfl) j0 j1 fun d hd2 => ?_
    rename_i px
    exact n_put (L' := (p, o7) :: G) [_] rfl (by walk_at "sk len") ⟨o7, ds ++ [d], by rw [List.map_append]; rfl, rfl, ho7, fun z hz => (List.mem_append.mp hz).elim (hd z) fun h => by rw [List.mem_singleton.mp h]; exact hd2, by rw [List.length_append, hl]; rfl⟩ (by walk_at "sk sub")
  rintro acc L D ⟨o6, ds, rfl, rfl, ho6, hds, hdl⟩
  have hdl2 : (ds.length : Int) = many := by omega
  walk_at "sk stp"
  refine n_iteD (fun h10 => ?_) (fun h10 => ?_)
  · have hkd : kd = 2 := by omega
    have hmk : many = 6 * (1 + tk) := by omega
    walk_at "sk stp"
    refine use_w_take (o := o6) 1 rfl ho6 (by decide) fun o7 x ho7 x0 x1 => ?_
    walk_at "sk stp"
    rename_i pa pb pt
    rw [show [V.int x, V.int (many / 6)] ++ ds.map V.int = ([x, many / 6] ++ ds).map V.int from by rw [List.map_append]; rfl]
    refine n_freeze 1 rfl fun B2 sm2 hqb => ?_
    refine n_freeze 0 rfl fun B3 sm3 htp => ?_
    have hm6 : many / 6 = 1 + tk := by omega
    have hl2 : ([x, many / 6] ++ ds).length = 2 + ds.length := by rw [List.length_append]; rfl
    refine n_sub (by walk_at "sk sub") (k B3 o7 _ pb (128 + kd) num ([x, many / 6] ++ ds) ho7 ⟨hnum, by omega, ?_, .inr (.inr (.inr ⟨by omega, by omega, ?_, ?_⟩))⟩ (by omega) (sm2.trans sm3) htp (sm3 _ _ hqb))
    · intro z hz
      rcases List.mem_append.mp hz with hz | hz
      · simp only [List.mem_cons, List.not_mem_nil, or_false] at hz; omega
      · exact hds z hz
    · show 0 < many / 6; omega
    · rw [hl2]; show ((2 + ds.length : Nat) : Int) = 2 + 6 * (many / 6); omega
  · walk_at "sk stp"
    refine n_freeze 1 rfl fun B2 sm2 hqb => ?_
    refine n_freeze 0 rfl fun B3 sm3 htp => ?_
    refine n_sub (by walk_at "sk sub") (k B3 o6 _ D (128 + kd) num ds ho6 ⟨hnum, by omega, hds, ?_⟩ (by omega) (sm2.trans sm3) htp (sm3 _ _ hqb))
    rcases hm2 with ⟨h, h2⟩ | ⟨h, h2⟩ | ⟨h, h2⟩
    · exact .inr (.inl ⟨by omega, by omega⟩)
    · omega
    · exact .inr (.inr (.inl ⟨by omega, by omega⟩))
theorem raw_w_drawn {P : Program} {w : World} {K : PySem.W.Frag} {mg : Str → Option Value} {base : Heap} {A : Ads} {f : Addr} {fd : FuncData} (F : Fun K "_law_drawn" "_law_drawn" s_w_drawn f fd) (T : Txt K mg A) (O_pressed : OkC P w K mg base (CXN P w) 6 "pressed" ["block"] (sp_pressed K A)) (O_w_take : OkC P w K mg base CX0 1 "_law_take" ["_law_purse_here", "_law_many"] (sp_w_take K A)) : FnOk P w K mg base (CXN P w) 7 f fd ["_law_purse_here"] (sp_w_drawn K A) := by
  refine okN F sc_w_drawn (fun vs H Q E h => len_w_drawn vs H Q E h) (fun cdv Ar outer s H vs Q E hr h => ⟨t_w_drawn K A E, ?_, pure_w_drawn T.fct vs H Q E h⟩)
  have nd := sc_w_drawn.nd
  exact (pss_cons (ps_set (i := 1) nd rfl (Or.inl rfl) (pe_op op_uAdd pe_int (pe_cl (E := WE (fun cls d _ H => E cls d H)) O_w_take (hr.mono (by decide)) (by rfl) pass00 (pa_cons (pv 0) (pa_cons pe_int pa_nil)))))
    (pss_cons (ps_set (i := 2) nd rfl (Or.inl rfl) (pe_ix ix_seq (pe_lst (pa_cons (pe_cl (E := WE (fun cls d _ H => E cls d H)) O_w_take (hr.mono (by decide)) (by rfl) pass00 (pa_cons (pv 0) (pa_cons pe_int pa_nil))) (pa_cons (pe_cl (E := WE (fun cls d _ H => E cls d H)) O_w_take (hr.mono (by decide)) (by rfl) pass00 (pa_cons (pv 0) (pa_cons pe_int pa_nil))) pa_nil))) (pe_cl (E := WE (fun cls d _ H => E cls d H)) O_w_take (hr.mono (by decide)) (by rfl) pass00 (pa_cons (pv 0) (pa_cons pe_int pa_nil))) (fun _ _ => rfl)))
    (pss_cons (ps_if (pt_cmpR (op_uEq hr.units) (pv 1) pe_int (nomark _)) (pss_cons (ps_set (i := 3) nd rfl (Or.inr rfl) (pe_lc (own := [("_law_k", 6)]) (by rfl) nd (pi_range1 (by rfl) T.b_range (pa_cons pe_int pa_nil)) (blkOk_by (N := N_w_drawn) (sc := defScope s_w_drawn) (own := [("_law_k", 6)]) (by decide +kernel)) (fun _ _ _ _ _ => (pg_name (i := 6) nd rfl (Or.inl rfl))) (fun _ _ _ _ _ => pts_nil) (fun _ _ _ _ _ => (pe_cl (E := WE (fun cls d _ H => E cls d H)) O_w_take (hr.mono (by decide)) (by rfl) pass00 (pa_cons (pv 0) (pa_cons pe_int pa_nil))))))
    (pss_cons (ps_ret (pe_tup (pa_cons (pv 1) (pa_cons (pv 2) (pa_cons (pe_cl (E := WE (fun cls d _ H => E cls d H)) O_pressed (hr.mono (by decide)) (by rfl) (passN (L2N.takes_of rfl rfl rfl rfl)) (pa_cons (pe_lc (own := [("_law_k", 6)]) (by rfl) nd (pi_range1 (by rfl) T.b_range (pa_cons (pe_op op_uAdd pe_int (pe_cl (E := WE (fun cls d _ H => E cls d H)) O_w_take (hr.mono (by decide)) (by rfl) pass00 (pa_cons (pv 0) (pa_cons pe_int pa_nil)))) pa_nil)) (blkOk_by (N := N_w_drawn) (sc := defScope s_w_drawn) (own := [("_law_k", 6)]) (by decide +kernel)) (fun _ _ _ _ _ => (pg_name (i := 6) nd rfl (Or.inl rfl))) (fun _ _ _ _ _ => pts_nil) (fun _ _ _ _ _ => (pe_ix ix_seq (pv 3) (pe_cl (E := WE (fun cls d _ H => E cls d H)) O_w_take (hr.mono (by decide)) (by rfl) pass00 (pa_cons (pv 0) (pa_cons pe_int pa_nil))) (fun _ _ => rfl)))) pa_nil)) pa_nil)))))
    pss_nil)) pss_nil)
    (pss_cons (ps_set (i := 4) nd rfl (Or.inl rfl) (pe_ix ix_seq (pe_lst (pa_cons pe_int (pa_cons pe_int (pa_cons (pe_op op_uMul pe_int (pe_op op_uAdd pe_int (pe_cl (E := WE (fun cls d _ H => E cls d H)) O_w_take (hr.mono (by decide)) (by rfl) pass00 (pa_cons (pv 0) (pa_cons pe_int pa_nil))))) (pa_cons pe_int pa_nil))))) (pe_op op_uSub (pv 1) pe_int) (fun _ _ => rfl)))
    (pss_cons (ps_setLc (i := 5) (own := [("_law_k", 6)]) (by rfl) nd rfl rfl (sw_true rfl rfl rfl (by decide +kernel)) (pi_range1 (by rfl) T.b_range (pa_cons (pv 4) pa_nil)) (blkOk_by (N := N_w_drawn) (sc := defScope s_w_drawn) (own := [("_law_k", 6)]) (by decide +kernel)) (fun _ _ _ _ _ => (pg_name (i := 6) nd rfl (Or.inl rfl))) (fun _ _ _ _ _ => pts_nil) (fun _ _ _ _ _ => (pe_ix ix_seq (pe_lst (pa_cons (pe_cl (E := WE (fun cls d _ H => E cls d H)) O_w_take (hr.mono (by decide)) (by rfl) pass00 (pa_cons (pv 0) (pa_cons pe_int pa_nil))) (pa_cons pe_int pa_nil))) (pe_cl (E := WE (fun cls d _ H => E cls d H)) O_w_take (hr.mono (by decide)) (by rfl) pass00 (pa_cons (pv 0) (pa_cons pe_int pa_nil))) (fun _ _ => rfl))))
    (pss_cons (ps_if (pt_cmpR (op_uEq hr.units) (pv 1) pe_int (nomark _)) (pss_cons (ps_set (i := 5) nd rfl (Or.inl rfl) (pe_op op_uAdd (pe_lst (pa_cons (pe_cl (E := WE (fun cls d _ H => E cls d H)) O_w_take (hr.mono (by decide)) (by rfl) pass00 (pa_cons (pv 0) (pa_cons pe_int pa_nil))) (pa_cons (pe_op op_uDiv (pv 4) pe_int) pa_nil))) (pv 5)))
    pss_nil) pss_nil)
    (pss_cons (ps_ret (pe_tup (pa_cons (pv 1) (pa_cons (pv 2) (pa_cons (pv 5) pa_nil)))))
    pss_nil)))))))
theorem use_w_drawn {K : PySem.W.Frag} {A : Ads} {B : Hp} {L : Own} {Q : VK} {E : XK} {p : Addr} {o : HO} (i : Nat) (hi : L[i]? = some (p, o)) (ho : Purse o) (zq : ∀ (B' : Hp) (o' : HO) (t q : Addr) (kind num : Int) (body : List Int), Purse o' → FrameOk kind num body → body.length ≤ 60 → Same B B' → B' t = some (HO.tup [.int kind, .int num, .ref q]) → B' q = some (HO.lst (body.map V.int)) → NQ B' [] p o' L i (Q (.ref t))) : N B L (fun H => sp_w_drawn K A [.ref p] H Q E) := fun zH zs => ⟨B, _, _, _, rfl, zs.front hi, ho, by (intros; first | (refine NP.of hi ?_; apply zq <;> assumption) | (apply zq <;> assumption))⟩

abbrev s_w_refused : Stmt := topS 78
abbrev N_w_refused : List Str := ["_law_data", "_law_at", "e"]
theorem sc_w_refused : FnScope N_w_refused ["_law_data", "_law_at"] (defScope s_w_refused) := ⟨rfl, rfl, rfl, by decide +kernel, rfl, by decide +kernel, by decide +kernel⟩









def sp_w_refused (K : PySem.W.Frag) (A : Ads) : Sp := fun zvs zH Q E => ∃ (B : Hp) (G : Own) (a : Addr) (ds : List Int) (n : Nat), zvs = [.ref a, .int n] ∧ SI B G zH ∧ (Sq K B G a (ds.map V.int)) ∧ (∀ d ∈ ds, 0 ≤ d ∧ d ≤ 255) ∧ (ds.length ≤ 10000) ∧ (n ≤ 20000) ∧ (∀ kind num body rest, FrameOk kind num body → ds.drop n ≠ frameL kind num body ++ rest) ∧ (∀ B', Same B B' → N B' G (Q (.bl true)))
theorem len_w_refused {K : PySem.W.Frag} {A : Ads} : ∀ vs H Q E, sp_w_refused K A vs H Q E → vs.length = 2 := by
  intro vs H Q E h
  obtain ⟨_, _, _, _, _, rfl, _⟩ := h
  rfl
def t_w_refused (K : PySem.W.Frag) (A : Ads) (E : XK) : TS :=
  (tSeq (tTryAs K (.ref A.c_PressError) 2 (fun W3 => (tSeq (tDrop (tCl (sp_read_frame K A) (WE W3) (tCons (tVar 0) (tCons (tVar 1) tNil))))
    tNext)) (fun xa cls xd => (tSeq (tIfS (tOr (tB (tCB (rIsXa K xa cls xd) (tCons (tVar 2) (tCons (tTup (tCons (tC (.ref A.c_NoBlock)) (tCons (tC (.ref A.c_NoPlace)) (tCons (tC (.ref A.c_NoText)) tNil)))) tNil)))) (tNot (tB (tCB (rIsXa K xa cls xd) (tCons (tVar 2) (tCons (tC (.ty "ValueError")) tNil))))))
    (tSeq (tRet (tC (.bl false)))
    tNext)
    tNext)
    (tSeq (tRet (tAndV (tCB (rIsXa K xa cls xd) (tCons (tVar 2) (tCons (tC (.ref A.c_Broken)) tNil))) (tAndV (tCl (sp_w_whole K A) (WE W0) (tCons (tXf xa cls xd A.c_Broken "place" (tVar 2)) tNil)) (tOp (uEq K) (tXf xa cls xd A.c_Broken "place" (tVar 2)) (tVar 1)))))
    tNext))) W0)
    (tSeq (tRet (tC (.bl false)))
    tNext))
theorem pure_w_refused {K : PySem.W.Frag} {A : Ads} (T : Fct K A) (vs : List V) (H : Hp) (Q : VK) (E : XK) (h : sp_w_refused K A vs H Q E) : t_w_refused K A E (endE Q) (L2.start N_w_refused vs) H := by
  obtain ⟨B, G, a, ds, n, rfl, zs, hs, hb, hl, hn, hno, k⟩ := h
  refine (?_ : N B G (fun H => t_w_refused K A E (endE Q) (L2.start N_w_refused [.ref a, .int n]) H)) H zs
  clear zs
  unfold t_w_refused

  walk_at "sk stp"
  refine use_read_frame (ds := ds) (n := n) hs hb hl hn (fun B1 t q kind num body rest e hf sm ht => absurd e (hno kind num body rest hf)) (fun B1 d _ sm => ?_)
  walk_at "sk stp"
  rw [decide_eq_true rfl]
  exact n_sub (L' := G) (by walk_at "sk sub") (k _ sm)
theorem raw_w_refused {P : Program} {w : World} {K : PySem.W.Frag} {mg : Str → Option Value} {base : Heap} {A : Ads} {f : Addr} {fd : FuncData} (F : Fun K "_law_refused" "_law_refused" s_w_refused f fd) (T : Txt K mg A) (O_read_frame : OkC P w K mg base (CXN P w) 10 "read_frame" ["data", "at"] (sp_read_frame K A)) (O_w_whole_hot : OkH P w K mg base CX0 1 "_law_whole" ["_law_found"] (sp_w_whole K A)) : FnOk P w K mg base CX0 11 f fd ["_law_data", "_law_at"] (sp_w_refused K A) := by
  refine F.ok sc_w_refused (fun vs H Q E h => len_w_refused vs H Q E h) (fun cdv Ar outer s H vs Q E hr h => ⟨t_w_refused K A E, PSs.nox ?_, pure_w_refused T.fct vs H Q E h⟩)
  have nd := sc_w_refused.nd
  exact (pss_cons (L2N.ps_try_as (i := 2) rfl rfl nd rfl rfl ⟨by rfl, by decide, .inl T.g_PressError⟩ tk0 (fun W3 pn xe tk3 po3 => (pss_cons (ps_expr (pe_cl (E := WE W3) O_read_frame (hr.mono (by decide)) (by rfl) (passN tk3) (pa_cons (pv 0) (pa_cons (pv 1) pa_nil))))
    pss_nil)) (fun xa oe cls xd pn hz hf => (pss_cons (ps_if (PW.pt (pw_or (pt_val (pe_callB (call_isXa hz.zc hf) (by rfl) T.b_isinstance boot_isinstance (pa_cons (pv 2) (pa_cons (pe_tup (pa_cons (pe_glob (v := .ref A.c_NoBlock) (by rfl) T.g_NoBlock rfl) (pa_cons (pe_glob (v := .ref A.c_NoPlace) (by rfl) T.g_NoPlace rfl) (pa_cons (pe_glob (v := .ref A.c_NoText) (by rfl) T.g_NoText rfl) pa_nil)))) pa_nil)))) (pw_or1 (pt_not (pt_val (pe_callB (call_isXa hz.zc hf) (by rfl) T.b_isinstance boot_isinstance (pa_cons (pv 2) (pa_cons (pe_bltn (v := .ty "ValueError") (by rfl) T.b_ValueError (by decide +kernel) rfl) pa_nil)))))))) (pss_cons (ps_ret pe_bl)
    pss_nil) pss_nil)
    (pss_cons (ps_ret (pe_and (pe_callB (call_isXa hz.zc hf) (by rfl) T.b_isinstance boot_isinstance (pa_cons (pv 2) (pa_cons (pe_glob (v := .ref A.c_Broken) (by rfl) T.g_Broken rfl) pa_nil))) (pe_and (pe_clH (E := WE W0) O_w_whole_hot (L2H.RoomH.mono (j := 1) (k := 10) ⟨hr.dp, hr.un⟩ (by decide)) (hot_of hz hf) (by rfl) pass00 (pa_cons (pe_xf T.xf_Broken T.xn_Broken hz.zc hf (pv 2)) pa_nil)) (pe_one (pe_cmpR (op_uEq hr.units) (pe_xf T.xf_Broken T.xn_Broken hz.zc hf (pv 2)) (pv 1) (nomark _))))))
    pss_nil))))
    (pss_cons (ps_ret pe_bl)
    pss_nil))
theorem use_w_refused {K : PySem.W.Frag} {A : Ads} {B : Hp} {G : Own} {Q : VK} {E : XK} {a : Addr} {ds : List Int} {n : Nat} (hs : Sq K B G a (ds.map V.int)) (hb : ∀ d ∈ ds, 0 ≤ d ∧ d ≤ 255) (hl : ds.length ≤ 10000) (hn : n ≤ 20000) (hno : ∀ kind num body rest, FrameOk kind num body → ds.drop n ≠ frameL kind num body ++ rest) (zq : ∀ B', Same B B' → N B' G (Q (.bl true))) : N B G (fun H => sp_w_refused K A [.ref a, .int n] H Q E) := fun zH zs => ⟨B, _, _, _, _, rfl, zs, hs, hb, hl, hn, hno, zq⟩

abbrev s_w_wrong_bodies : Stmt := topS 79
abbrev N_w_wrong_bodies : List Str := ["_law_kind", "_law_body"]
theorem sc_w_wrong_bodies : FnScope N_w_wrong_bodies ["_law_kind", "_law_body"] (defScope s_w_wrong_bodies) := ⟨rfl, rfl, rfl, by decide +kernel, rfl, by decide +kernel, by decide +kernel⟩









def sp_w_wrong_bodies (K : PySem.W.Frag) (A : Ads) : Sp := fun zvs zH Q E => ∃ (B : Hp) (G : Own) (a : Addr) (kind : Int) (body : List Int), zvs = [.int kind, .ref a] ∧ SI B G zH ∧ (Is B G a (.lst (body.map V.int))) ∧ (128 ≤ kind ∧ kind ≤ 131) ∧ (BodyOk kind body) ∧ (∀ d ∈ body, 0 ≤ d ∧ d < 128) ∧ (body.length ≤ 60) ∧ (∀ (B' : Hp) (q : Addr) (vs : List V) (wss : List (List Int)), Objs B' vs (wss.map fun ws => HO.lst (ws.map V.int)) → (∀ ws ∈ wss, WrongB kind body ws) → Same B B' → N B' ((q, .lst vs) :: G) (Q (.ref q)))
theorem len_w_wrong_bodies {K : PySem.W.Frag} {A : Ads} : ∀ vs H Q E, sp_w_wrong_bodies K A vs H Q E → vs.length = 2 := by
  intro vs H Q E h
  obtain ⟨_, _, _, _, _, rfl, _⟩ := h
  rfl
def x_w_wrong_bodies_0 (K : PySem.W.Frag) (A : Ads) (E : XK) : TS :=
  (tSeq (tRet (tLst (tCons (tLst tNil) (tCons (tLst (tCons (tC (.int (1))) tNil)) (tCons (tLst (tCons (tC (.int (1))) (tCons (tC (.int (0))) tNil))) (tCons (tOp (uAdd K) (tVar 1) (tOp uMul (tLst (tCons (tC (.int (0))) tNil)) (tC (.int (6))))) (tCons (tSl (rSlL K) (tVar 1) tNoPart (tPart (tUn (rU fun i => .int (-i)) (tC (.int (1)))))) (tCons (tOp (uAdd K) (tLst (tCons (tOp (rIx K) (tVar 1) (tC (.int (0)))) (tCons (tOp (uAdd K) (tOp (rIx K) (tVar 1) (tC (.int (1)))) (tC (.int (1)))) tNil))) (tSl (rSlL K) (tVar 1) (tPart (tC (.int (2)))) tNoPart)) tNil))))))))
    tNext)
instance {K : PySem.W.Frag} {A : Ads} {E : XK} : Unf (x_w_wrong_bodies_0 K A E) (
  (tSeq (tRet (tLst (tCons (tLst tNil) (tCons (tLst (tCons (tC (.int (1))) tNil)) (tCons (tLst (tCons (tC (.int (1))) (tCons (tC (.int (0))) tNil))) (tCons (tOp (uAdd K) (tVar 1) (tOp uMul (tLst (tCons (tC (.int (0))) tNil)) (tC (.int (6))))) (tCons (tSl (rSlL K) (tVar 1) tNoPart (tPart (tUn (rU fun i => .int (-i)) (tC (.int (1)))))) (tCons (tOp (uAdd K) (tLst (tCons (tOp (rIx K) (tVar 1) (tC (.int (0)))) (tCons (tOp (uAdd K) (tOp (rIx K) (tVar 1) (tC (.int (1)))) (tC (.int (1)))) tNil))) (tSl (rSlL K) (tVar 1) (tPart (tC (.int (2)))) tNoPart)) tNil))))))))
    tNext)) := ⟨rfl⟩
def x_w_wrong_bodies_1 (K : PySem.W.Frag) (A : Ads) (E : XK) : TS :=
  (tSeq (tRet (tLst (tCons (tLst tNil) (tCons (tSl (rSlL K) (tVar 1) tNoPart (tPart (tUn (rU fun i => .int (-i)) (tC (.int (1)))))) (tCons (tOp (uAdd K) (tVar 1) (tLst (tCons (tC (.int (0))) tNil))) tNil)))))
    tNext)
instance {K : PySem.W.Frag} {A : Ads} {E : XK} : Unf (x_w_wrong_bodies_1 K A E) (
  (tSeq (tRet (tLst (tCons (tLst tNil) (tCons (tSl (rSlL K) (tVar 1) tNoPart (tPart (tUn (rU fun i => .int (-i)) (tC (.int (1)))))) (tCons (tOp (uAdd K) (tVar 1) (tLst (tCons (tC (.int (0))) tNil))) tNil)))))
    tNext)) := ⟨rfl⟩
def x_w_wrong_bodies_2 (K : PySem.W.Frag) (A : Ads) (E : XK) : TS :=
  (tSeq (tIfS (tTest (tOp (uEq K) (tVar 0) (tC (.int (130)))))
    (x_w_wrong_bodies_0 K A E)
    tNext)
    (x_w_wrong_bodies_1 K A E))
instance {K : PySem.W.Frag} {A : Ads} {E : XK} : Unf (x_w_wrong_bodies_2 K A E) (
  (tSeq (tIfS (tTest (tOp (uEq K) (tVar 0) (tC (.int (130)))))
    (x_w_wrong_bodies_0 K A E)
    tNext)
    (x_w_wrong_bodies_1 K A E))) := ⟨rfl⟩
def x_w_wrong_bodies_3 (K : PySem.W.Frag) (A : Ads) (E : XK) : TS :=
  (tSeq (tRet (tLst (tCons (tLst tNil) (tCons (tOp (uAdd K) (tVar 1) (tLst (tCons (tC (.int (0))) tNil))) (tCons (tSl (rSlL K) (tVar 1) tNoPart (tPart (tUn (rU fun i => .int (-i)) (tC (.int (1)))))) (tCons (tOp uMul (tLst (tCons (tC (.int (127))) tNil)) (tCB (uLen K) (tCons (tVar 1) tNil))) (tCons (tOp uMul (tLst (tCons (tC (.int (0))) tNil)) (tC (.int (9)))) tNil)))))))
    tNext)
instance {K : PySem.W.Frag} {A : Ads} {E : XK} : Unf (x_w_wrong_bodies_3 K A E) (
  (tSeq (tRet (tLst (tCons (tLst tNil) (tCons (tOp (uAdd K) (tVar 1) (tLst (tCons (tC (.int (0))) tNil))) (tCons (tSl (rSlL K) (tVar 1) tNoPart (tPart (tUn (rU fun i => .int (-i)) (tC (.int (1)))))) (tCons (tOp uMul (tLst (tCons (tC (.int (127))) tNil)) (tCB (uLen K) (tCons (tVar 1) tNil))) (tCons (tOp uMul (tLst (tCons (tC (.int (0))) tNil)) (tC (.int (9)))) tNil)))))))
    tNext)) := ⟨rfl⟩
def x_w_wrong_bodies_4 (K : PySem.W.Frag) (A : Ads) (E : XK) : TS :=
  (tSeq (tIfS (tTest (tOp (uEq K) (tVar 0) (tC (.int (129)))))
    (tSeq (tRet (tLst (tCons (tLst tNil) (tCons (tLst (tCons (tC (.int (1))) tNil)) (tCons (tLst (tCons (tC (.int (0))) (tCons (tC (.int (0))) (tCons (tC (.int (0))) tNil)))) tNil)))))
    tNext)
    tNext)
    (x_w_wrong_bodies_2 K A E))
instance {K : PySem.W.Frag} {A : Ads} {E : XK} : Unf (x_w_wrong_bodies_4 K A E) (
  (tSeq (tIfS (tTest (tOp (uEq K) (tVar 0) (tC (.int (129)))))
    (tSeq (tRet (tLst (tCons (tLst tNil) (tCons (tLst (tCons (tC (.int (1))) tNil)) (tCons (tLst (tCons (tC (.int (0))) (tCons (tC (.int (0))) (tCons (tC (.int (0))) tNil)))) tNil)))))
    tNext)
    tNext)
    (x_w_wrong_bodies_2 K A E))) := ⟨rfl⟩
def t_w_wrong_bodies (K : PySem.W.Frag) (A : Ads) (E : XK) : TS :=
  (tSeq (tIfS (tTest (tOp (uEq K) (tVar 0) (tC (.int (128)))))
    (x_w_wrong_bodies_3 K A E)
    tNext)
    (x_w_wrong_bodies_4 K A E))
theorem pure_w_wrong_bodies {K : PySem.W.Frag} {A : Ads} (T : Fct K A) (vs : List V) (H : Hp) (Q : VK) (E : XK) (h : sp_w_wrong_bodies K A vs H Q E) : t_w_wrong_bodies K A E (endE Q) (L2.start N_w_wrong_bodies vs) H := by
  obtain ⟨B, G, a, kind, body, rfl, zs, hs, hk, hb, hw, hl, k⟩ := h
  refine (?_ : N B G (fun H => t_w_wrong_bodies K A E (endE Q) (L2.start N_w_wrong_bodies [.int kind, .ref a]) H)) H zs
  clear zs
  unfold t_w_wrong_bodies

  have hbl2 : 1 ≤ body.length := by
    by_cases h : kind = 128
    · obtain ⟨xs, hx, rfl⟩ := blk_of h hb
      exact pressedL_pos hx
    · have := len_of h hb
      omega
  obtain ⟨ini, lst, hil⟩ : ∃ ini lst, body = ini ++ [lst] := by
    rcases List.eq_nil_or_concat body with h | ⟨i, l, h⟩
    · rw [h] at hbl2; exact absurd hbl2 (by decide)
    · exact ⟨i, l, by rw [h, List.concat_eq_append]⟩
  have hcut : cutI body none (some (-1)) = ini := by rw [hil]; exact cut_last ini lst
  have hini : ini.length + 1 = body.length := by rw [hil, List.length_append]; rfl
  have hinw : ∀ d ∈ ini, 0 ≤ d ∧ d < 128 := fun d hd => hw d (by rw [hil]; exact List.mem_append_left _ hd)
  have hsz : ∀ n : Nat, n ≤ 1000 → n ≤ sizeLine := fun n h => by rw [sizeLine_eq]; omega
  walk_at "sk stp"
  refine n_iteD (fun h => ?_) (fun h => ?_)
  · obtain ⟨xs, hx, hxb⟩ := blk_of h hb
    walk_at "sk stp"
    rw [hcut]
    rename_i q0 q1 q2 q3 q4
    refine n_repLi (ns := [127]) (is_own 0 rfl) (by omega) (by omega) (by show 1 * _ ≤ _; rw [sizeLine_eq]; omega) fun r1 => ?_
    rw [rep_flat, Int.toNat_natCast]
    walk_at "sk stp"
    refine n_repLi (ns := [0]) (is_own 0 rfl) (by decide) (by decide) (by rw [sizeLine_eq]; decide) fun r2 => ?_
    rw [rep_flat, show (9 : Int).toNat = 9 from rfl]
    walk_at "sk stp"
    rename_i q5 ql
    have e2 : body.map V.int ++ [V.int 0] = (body ++ [0]).map V.int := by rw [List.map_append]; rfl
    rw [e2]
    refine n_freeze 8 rfl fun B1 s1 f1 => ?_
    refine n_freeze 6 rfl fun B2 s2 f2 => ?_
    refine n_freeze 5 rfl fun B3 s3 f3 => ?_
    refine n_freeze 3 rfl fun B4 s4 f4 => ?_
    refine n_freeze 1 rfl fun B5 s5 f5 => ?_
    have g4 := s5 _ _ f4
    have g3 := s5 _ _ (s4 _ _ f3)
    have g2 := s5 _ _ (s4 _ _ (s3 _ _ f2))
    have g1 := s5 _ _ (s4 _ _ (s3 _ _ (s2 _ _ f1)))
    refine n_sub (L' := (ql, _) :: G) (by walk_at "sk sub") (k B5 ql _ [[], body ++ [0], ini, List.replicate body.length 127, List.replicate 9 0] ?_ ?_ ((((s1.trans s2).trans s3).trans s4).trans s5))
    · exact .cons g1 (.cons g2 (.cons g3 (.cons g4 (.cons f5 .nil))))
    · intro ws hws
      simp only [List.mem_cons, List.not_mem_nil, or_false] at hws
      rcases hws with rfl | rfl | rfl | rfl | rfl
      · refine .inr ⟨by decide, (fun d hd => nomatch hd), fun hh => ?_⟩
        obtain ⟨ys, hy, e⟩ := blk_of h hh
        have := pressedL_pos hy
        rw [e] at this
        exact absurd this (by decide)
      · refine .inr ⟨by rw [List.length_append]; show _ + 1 ≤ 70; omega, fun d hd => ?_, fun hh => ?_⟩
        · rcases List.mem_append.mp hd with hd | hd
          · have := hw d hd; omega
          · rw [List.mem_singleton.mp hd]; decide
        · obtain ⟨ys, hy, e⟩ := blk_of h hh
          rw [← hxb] at e
          exact not_longer hx hy (by simp) e
      · refine .inr ⟨by omega, fun d hd => by have := hinw d hd; omega, fun hh => ?_⟩
        obtain ⟨ys, hy, e⟩ := blk_of h hh
        have e3 : pressedL xs = pressedL ys ++ [lst] := by rw [e, hxb]; exact hil
        exact not_longer hy hx (by simp) e3
      · refine .inr ⟨by rw [List.length_replicate]; omega, fun d hd => by rw [List.eq_of_mem_replicate hd]; decide, fun hh => ?_⟩
        obtain ⟨ys, hy, e⟩ := blk_of h hh
        have h3 := rdBlock_pressed hy
        rw [e, ones_none hbl2] at h3
        cases h3
      · refine .inr ⟨by decide, fun d hd => by rw [List.eq_of_mem_replicate hd]; decide, fun hh => ?_⟩
        obtain ⟨ys, hy, e⟩ := blk_of h hh
        have h3 := rdBlock_pressed hy
        rw [e, noughts_none] at h3
        cases h3
  have hlen := len_of h hb
  have wrongL : ∀ ws : List Int, ws.length ≤ 70 → (∀ d ∈ ws, 0 ≤ d ∧ d ≤ 200) → ((kind = 129 ∧ ws.length ≠ 2) ∨ (kind = 131 ∧ ws.length ≠ 9) ∨ (kind = 130 ∧ (ws.length < 2 ∨ (ws.length : Int) ≠ 2 + 6 * ws.getD 1 0 ∨ ws.getD 1 0 ≤ 0))) → WrongB kind body ws := fun ws h1 h2 h3 => .inr ⟨h1, h2, fun hh => by
    have := len_of h hh
    omega⟩
  walk_at "sk stp"
  refine n_iteD (fun h9 => ?_) (fun h9 => ?_)
  · walk_at "sk stp"
    rename_i q0 q1 q2 ql
    refine n_freeze 3 rfl fun B1 s1 f1 => ?_
    refine n_freeze 2 rfl fun B2 s2 f2 => ?_
    refine n_freeze 1 rfl fun B3 s3 f3 => ?_
    refine n_sub (L' := (ql, _) :: G) (by walk_at "sk sub") (k B3 ql _ [[], [1], [0, 0, 0]] (.cons (s3 _ _ (s2 _ _ f1)) (.cons (s3 _ _ f2) (.cons f3 .nil))) ?_ ((s1.trans s2).trans s3))
    intro ws hws
    simp only [List.mem_cons, List.not_mem_nil, or_false] at hws
    rcases hws with rfl | rfl | rfl
    · exact wrongL _ (by decide) (by decide) (.inl ⟨h9, by decide⟩)
    · exact wrongL _ (by decide) (by decide) (.inl ⟨h9, by decide⟩)
    · exact wrongL _ (by decide) (by decide) (.inl ⟨h9, by decide⟩)
  walk_at "sk stp"
  refine n_iteD (fun h10 => ?_) (fun h10 => ?_)
  · obtain ⟨h2l, h6, h60⟩ := hlen.2.2 h10
    have hbg : ∀ i : Nat, i < body.length → 0 ≤ body.getD i 0 ∧ body.getD i 0 < 128 := fun i hi => by
      rw [List.getD_eq_getElem?_getD, List.getElem?_eq_getElem hi]
      exact hw _ (List.getElem_mem _)
    have b0 := hbg 0 (by omega)
    have b1 := hbg 1 (by omega)
    walk_at "sk stp"
    rename_i q0 q1 q2 q3
    refine n_repLi (ns := [0]) (is_own 0 rfl) (by decide) (by decide) (by rw [sizeLine_eq]; decide) fun r1 => ?_
    rw [rep_flat, show (6 : Int).toNat = 6 from rfl]
    refine n_catLi (ns := body) (ms := List.replicate 6 0) (by walk_at "sk is") (is_own 0 rfl) (by rw [List.length_replicate, sizeLine_eq]; omega) fun r2 => ?_
    walk_at "sk stp"
    rw [hcut]
    rename_i q6 q7 ql
    rw [show cutI body (some 2) none = body.drop 2 from cutI_from body 2]
    refine n_catLi (ns := [body.getD 0 0, body.getD 1 0 + 1]) (ms := body.drop 2) (is_own 1 rfl) (is_own 0 rfl) (by rw [List.length_drop, sizeLine_eq]; show 2 + _ ≤ _; omega) fun q8 => ?_
    walk_at "sk stp"
    rename_i ql2
    refine n_freeze 10 rfl fun B1 s1 f1 => ?_
    refine n_freeze 9 rfl fun B2 s2 f2 => ?_
    refine n_freeze 8 rfl fun B3 s3 f3 => ?_
    refine n_freeze 5 rfl fun B4 s4 f4 => ?_
    refine n_freeze 4 rfl fun B5 s5 f5 => ?_
    refine n_freeze 1 rfl fun B6 s6 f6 => ?_
    have g5 := s6 _ _ f5
    have g4 := s6 _ _ (s5 _ _ f4)
    have g3 := s6 _ _ (s5 _ _ (s4 _ _ f3))
    have g2 := s6 _ _ (s5 _ _ (s4 _ _ (s3 _ _ f2)))
    have g1 := s6 _ _ (s5 _ _ (s4 _ _ (s3 _ _ (s2 _ _ f1))))
    refine n_sub (L' := (ql2, _) :: G) (by walk_at "sk sub") (k B6 ql2 _ [[], [1], [1, 0], body ++ List.replicate 6 0, ini, [body.getD 0 0, body.getD 1 0 + 1] ++ body.drop 2] (.cons g1 (.cons g2 (.cons g3 (.cons g4 (.cons g5 (.cons f6 .nil)))))) ?_ (((((s1.trans s2).trans s3).trans s4).trans s5).trans s6))
    intro ws hws
    simp only [List.mem_cons, List.not_mem_nil, or_false] at hws
    rcases hws with rfl | rfl | rfl | rfl | rfl | rfl
    · exact wrongL _ (by decide) (fun d hd => nomatch hd) (.inr (.inr ⟨h10, .inl (by decide)⟩))
    · exact wrongL _ (by decide) (by decide) (.inr (.inr ⟨h10, .inl (by decide)⟩))
    · exact wrongL _ (by decide) (by decide) (.inr (.inr ⟨h10, .inr (.inr (by decide))⟩))
    · have hl1 : (body ++ List.replicate 6 (0 : Int)).length = body.length + 6 := by rw [List.length_append, List.length_replicate]
      have hg1 : (body ++ List.replicate 6 (0 : Int)).getD 1 0 = body.getD 1 0 := by
        rw [List.getD_eq_getElem?_getD, List.getElem?_append_left (by omega), List.getD_eq_getElem?_getD]
      refine wrongL _ (by omega) (fun d hd => ?_) (.inr (.inr ⟨h10, .inr (.inl (by rw [hl1, hg1]; omega))⟩))
      rcases List.mem_append.mp hd with hd | hd
      · have := hw d hd; omega
      · rw [List.eq_of_mem_replicate hd]; decide
    · have hg1 : ws.getD 1 0 = body.getD 1 0 := by
        rw [hil, List.getD_eq_getElem?_getD, List.getD_eq_getElem?_getD, List.getElem?_append_left (by omega)]
      exact wrongL _ (by omega) (fun d hd => by have := hinw d hd; omega) (.inr (.inr ⟨h10, .inr (.inl (by rw [hg1]; omega))⟩))
    · have hl1 : ([body.getD 0 0, body.getD 1 0 + 1] ++ body.drop 2).length = body.length := by rw [List.length_append, List.length_drop]; show 2 + _ = _; omega
      refine wrongL _ (by omega) (fun d hd => ?_) (.inr (.inr ⟨h10, .inr (.inl (by rw [hl1]; show (body.length : Int) ≠ 2 + 6 * (body.getD 1 0 + 1); omega))⟩))
      rcases List.mem_append.mp hd with hd | hd
      · simp only [List.mem_cons, List.not_mem_nil, or_false] at hd; omega
      · have := hw d (List.mem_of_mem_drop hd); omega
  have h11 : kind = 131 := by omega
  have h9l := hlen.2.1 h11
  walk_at "sk stp"
  rw [hcut]
  rename_i q0 q1 q2 q3 ql
  have e2 : body.map V.int ++ [V.int 0] = (body ++ [0]).map V.int := by rw [List.map_append]; rfl
  rw [e2]
  refine n_freeze 4 rfl fun B1 s1 f1 => ?_
  refine n_freeze 3 rfl fun B2 s2 f2 => ?_
  refine n_freeze 1 rfl fun B3 s3 f3 => ?_
  refine n_sub (L' := (ql, _) :: G) (by walk_at "sk sub") (k B3 ql _ [[], ini, body ++ [0]] (.cons (s3 _ _ (s2 _ _ f1)) (.cons (s3 _ _ f2) (.cons f3 .nil))) ?_ ((s1.trans s2).trans s3))
  intro ws hws
  simp only [List.mem_cons, List.not_mem_nil, or_false] at hws
  rcases hws with rfl | rfl | rfl
  · exact wrongL _ (by decide) (fun d hd => nomatch hd) (.inr (.inl ⟨h11, by decide⟩))
  · exact wrongL _ (by omega) (fun d hd => by have := hinw d hd; omega) (.inr (.inl ⟨h11, by omega⟩))
  · refine wrongL _ (by rw [List.length_append]; show _ + 1 ≤ 70; omega) (fun d hd => ?_) (.inr (.inl ⟨h11, by rw [List.length_append]; show _ + 1 ≠ 9; omega⟩))
    rcases List.mem_append.mp hd with hd | hd
    · have := hw d hd; omega
    · rw [List.mem_singleton.mp hd]; decide
theorem raw_w_wrong_bodies {P : Program} {w : World} {K : PySem.W.Frag} {mg : Str → Option Value} {base : Heap} {A : Ads} {f : Addr} {fd : FuncData} (F : Fun K "_law_wrong_bodies" "_law_wrong_bodies" s_w_wrong_bodies f fd) (T : Txt K mg A) : FnOk P w K mg base CX0 1 f fd ["_law_kind", "_law_body"] (sp_w_wrong_bodies K A) := by
  refine F.ok sc_w_wrong_bodies (fun vs H Q E h => len_w_wrong_bodies vs H Q E h) (fun cdv Ar outer s H vs Q E hr h => ⟨t_w_wrong_bodies K A E, PSs.nox ?_, pure_w_wrong_bodies T.fct vs H Q E h⟩)
  have nd := sc_w_wrong_bodies.nd
  exact (pss_cons (ps_if (pt_cmpR (op_uEq hr.units) (pv 0) pe_int (nomark _)) (pss_cons (ps_ret (pe_lst (pa_cons (pe_lst pa_nil) (pa_cons (pe_op op_uAdd (pv 1) (pe_lst (pa_cons pe_int pa_nil))) (pa_cons (pe_slice sl_list (pv 1) po_none (po_some (pe_un un_neg pe_int))) (pa_cons (pe_op op_uMul (pe_lst (pa_cons pe_int pa_nil)) (pe_callB call_uLen (by rfl) T.b_len boot_len (pa_cons (pv 1) pa_nil))) (pa_cons (pe_op op_uMul (pe_lst (pa_cons pe_int pa_nil)) pe_int) pa_nil)))))))
    pss_nil) pss_nil)
    (pss_cons (ps_if (pt_cmpR (op_uEq hr.units) (pv 0) pe_int (nomark _)) (pss_cons (ps_ret (pe_lst (pa_cons (pe_lst pa_nil) (pa_cons (pe_lst (pa_cons pe_int pa_nil)) (pa_cons (pe_lst (pa_cons pe_int (pa_cons pe_int (pa_cons pe_int pa_nil)))) pa_nil)))))
    pss_nil) pss_nil)
    (pss_cons (ps_if (pt_cmpR (op_uEq hr.units) (pv 0) pe_int (nomark _)) (pss_cons (ps_ret (pe_lst (pa_cons (pe_lst pa_nil) (pa_cons (pe_lst (pa_cons pe_int pa_nil)) (pa_cons (pe_lst (pa_cons pe_int (pa_cons pe_int pa_nil))) (pa_cons (pe_op op_uAdd (pv 1) (pe_op op_uMul (pe_lst (pa_cons pe_int pa_nil)) pe_int)) (pa_cons (pe_slice sl_list (pv 1) po_none (po_some (pe_un un_neg pe_int))) (pa_cons (pe_op op_uAdd (pe_lst (pa_cons (pe_ix ix_seq (pv 1) pe_int (fun _ _ => rfl)) (pa_cons (pe_op op_uAdd (pe_ix ix_seq (pv 1) pe_int (fun _ _ => rfl)) pe_int) pa_nil))) (pe_slice sl_list (pv 1) (po_some pe_int) po_none)) pa_nil))))))))
    pss_nil) pss_nil)
    (pss_cons (ps_ret (pe_lst (pa_cons (pe_lst pa_nil) (pa_cons (pe_slice sl_list (pv 1) po_none (po_some (pe_un un_neg pe_int))) (pa_cons (pe_op op_uAdd (pv 1) (pe_lst (pa_cons pe_int pa_nil))) pa_nil)))))
    pss_nil))))
theorem use_w_wrong_bodies {K : PySem.W.Frag} {A : Ads} {B : Hp} {G : Own} {Q : VK} {E : XK} {a : Addr} {kind : Int} {body : List Int} (hs : Is B G a (.lst (body.map V.int))) (hk : 128 ≤ kind ∧ kind ≤ 131) (hb : BodyOk kind body) (hw : ∀ d ∈ body, 0 ≤ d ∧ d < 128) (hl : body.length ≤ 60) (zq : ∀ (B' : Hp) (q : Addr) (vs : List V) (wss : List (List Int)), Objs B' vs (wss.map fun ws => HO.lst (ws.map V.int)) → (∀ ws ∈ wss, WrongB kind body ws) → Same B B' → N B' ((q, .lst vs) :: G) (Q (.ref q))) : N B G (fun H => sp_w_wrong_bodies K A [.int kind, .ref a] H Q E) := fun zH zs => ⟨B, _, _, _, _, rfl, zs, hs, hk, hb, hw, hl, zq⟩


theorem no_nil : ∀ kind num body rest, ([] : List Int) ≠ frameL kind num body ++ rest := by
  intro kind num body rest e
  have := congrArg List.length e
  rw [List.length_append, frameL_len] at this
  simp at this
  omega
theorem ok_again : FrameOk 129 3 [0, 1] := ⟨by decide, by decide, by decide, .inr (.inl ⟨rfl, rfl⟩)⟩
theorem blk123 : BlockOk [1, 2, 3] := ⟨by decide, by decide, by decide⟩

abbrev s_law : Stmt := topS 80
abbrev N_law : List Str := ["_law_script", "_law_kind", "_law_number", "_law_body", "_law_one", "_law_ahead", "_law_behind", "_law_at", "_law_whole_here", "_law_k", "_law_bit", "_law_data", "_law_wrong"]
theorem sc_law : FnScope N_law ["_law_script"] (defScope s_law) := ⟨rfl, rfl, rfl, by decide +kernel, rfl, by decide +kernel, by decide +kernel⟩






def sp_law (K : PySem.W.Frag) (A : Ads) : Sp := fun zvs zH Q E => ∃ (B : Hp) (G : Own) (a : Addr) (ns : List Int), zvs = [.ref a] ∧ SI B G zH ∧ (SqL K B a (ns.map V.int)) ∧ (ns.length ≤ 63) ∧ (∀ B', Same B B' → N B' G (Q (.bl true)))
theorem len_law {K : PySem.W.Frag} {A : Ads} : ∀ vs H Q E, sp_law K A vs H Q E → vs.length = 1 := by
  intro vs H Q E h
  obtain ⟨_, _, _, _, rfl, _⟩ := h
  rfl
def x_law_0 (K : PySem.W.Frag) (A : Ads) (E : XK) : TS :=
  (tSeq (tRet (tCl (sp_w_refused K A) (WE W0) (tCons (tVar 8) (tCons (tOp (uAdd K) (tCB (uLen K) (tCons (tVar 8) tNil)) (tC (.int (3)))) tNil))))
    tNext)
instance {K : PySem.W.Frag} {A : Ads} {E : XK} : Unf (x_law_0 K A E) (
  (tSeq (tRet (tCl (sp_w_refused K A) (WE W0) (tCons (tVar 8) (tCons (tOp (uAdd K) (tCB (uLen K) (tCons (tVar 8) tNil)) (tC (.int (3)))) tNil))))
    tNext)) := ⟨rfl⟩
def x_law_1 (K : PySem.W.Frag) (A : Ads) (E : XK) : TS :=
  (tSeq (tIfS (tOr (tNot (tB (tCl (sp_w_refused K A) (WE W0) (tCons (tVar 8) (tCons (tCB (uLen K) (tCons (tVar 8) tNil)) tNil))))) (tNot (tB (tCl (sp_w_refused K A) (WE W0) (tCons (tLst tNil) (tCons (tC (.int (0))) tNil))))))
    (tSeq (tRet (tC (.bl false)))
    tNext)
    tNext)
    (x_law_0 K A E))
instance {K : PySem.W.Frag} {A : Ads} {E : XK} : Unf (x_law_1 K A E) (
  (tSeq (tIfS (tOr (tNot (tB (tCl (sp_w_refused K A) (WE W0) (tCons (tVar 8) (tCons (tCB (uLen K) (tCons (tVar 8) tNil)) tNil))))) (tNot (tB (tCl (sp_w_refused K A) (WE W0) (tCons (tLst tNil) (tCons (tC (.int (0))) tNil))))))
    (tSeq (tRet (tC (.bl false)))
    tNext)
    tNext)
    (x_law_0 K A E))) := ⟨rfl⟩
def x_law_2 (K : PySem.W.Frag) (A : Ads) (E : XK) : TS :=
  (tSeq (tIfS (tAnd (tTest (tOp (uNe K) (tVar 12) (tVar 3))) (tNot (tB (tCl (sp_w_refused K A) (WE W0) (tCons (tVar 11) (tCons (tVar 7) tNil))))))
    (tSeq (tRet (tC (.bl false)))
    tNext)
    tNext)
    tNext)
instance {K : PySem.W.Frag} {A : Ads} {E : XK} : Unf (x_law_2 K A E) (
  (tSeq (tIfS (tAnd (tTest (tOp (uNe K) (tVar 12) (tVar 3))) (tNot (tB (tCl (sp_w_refused K A) (WE W0) (tCons (tVar 11) (tCons (tVar 7) tNil))))))
    (tSeq (tRet (tC (.bl false)))
    tNext)
    tNext)
    tNext)) := ⟨rfl⟩
def x_law_3 (K : PySem.W.Frag) (A : Ads) (E : XK) : TS :=
  (tSeq (tIfS (tAnd (tTest (tOp uGt (tVar 7) (tC (.int (0))))) (tTest (tOp (uNe K) (tCl (sp_read_frame K A) (WE W0) (tCons (tVar 8) (tCons (tC (.int (0))) tNil))) (tTup (tCons (tC (.int (129))) (tCons (tC (.int (3))) (tCons (tLst (tCons (tC (.int (0))) (tCons (tC (.int (1))) tNil))) (tCons (tVar 7) tNil))))))))
    (tSeq (tRet (tC (.bl false)))
    tNext)
    tNext)
    (x_law_1 K A E))
instance {K : PySem.W.Frag} {A : Ads} {E : XK} : Unf (x_law_3 K A E) (
  (tSeq (tIfS (tAnd (tTest (tOp uGt (tVar 7) (tC (.int (0))))) (tTest (tOp (uNe K) (tCl (sp_read_frame K A) (WE W0) (tCons (tVar 8) (tCons (tC (.int (0))) tNil))) (tTup (tCons (tC (.int (129))) (tCons (tC (.int (3))) (tCons (tLst (tCons (tC (.int (0))) (tCons (tC (.int (1))) tNil))) (tCons (tVar 7) tNil))))))))
    (tSeq (tRet (tC (.bl false)))
    tNext)
    tNext)
    (x_law_1 K A E))) := ⟨rfl⟩
def x_law_4 (K : PySem.W.Frag) (A : Ads) (E : XK) : TS :=
  (tSeq (tIfS (tAnd (tTest (tOp uGt (tVar 9) (tC (.int (0))))) (tNot (tB (tCl (sp_w_refused K A) (WE W0) (tCons (tOp (uAdd K) (tVar 5) (tVar 4)) (tCons (tOp (uAdd K) (tVar 7) (tVar 9)) tNil))))))
    (tSeq (tRet (tC (.bl false)))
    tNext)
    tNext)
    tNext)
instance {K : PySem.W.Frag} {A : Ads} {E : XK} : Unf (x_law_4 K A E) (
  (tSeq (tIfS (tAnd (tTest (tOp uGt (tVar 9) (tC (.int (0))))) (tNot (tB (tCl (sp_w_refused K A) (WE W0) (tCons (tOp (uAdd K) (tVar 5) (tVar 4)) (tCons (tOp (uAdd K) (tVar 7) (tVar 9)) tNil))))))
    (tSeq (tRet (tC (.bl false)))
    tNext)
    tNext)
    tNext)) := ⟨rfl⟩
def x_law_5 (K : PySem.W.Frag) (A : Ads) (E : XK) : TS :=
  (tSeq (tIfS (tNot (tB (tCl (sp_w_refused K A) (WE W0) (tCons (tVar 11) (tCons (tVar 7) tNil)))))
    (tSeq (tRet (tC (.bl false)))
    tNext)
    tNext)
    tNext)
instance {K : PySem.W.Frag} {A : Ads} {E : XK} : Unf (x_law_5 K A E) (
  (tSeq (tIfS (tNot (tB (tCl (sp_w_refused K A) (WE W0) (tCons (tVar 11) (tCons (tVar 7) tNil)))))
    (tSeq (tRet (tC (.bl false)))
    tNext)
    tNext)
    tNext)) := ⟨rfl⟩
def x_law_6 (K : PySem.W.Frag) (A : Ads) (E : XK) : TS :=
  (tSeq (tAsg (tOp uXor (tOp (rIx K) (tVar 11) (tOp (uAdd K) (tVar 7) (tVar 9))) (tOp uShl (tC (.int (1))) (tVar 10))) (gSub (tVar 11) (tOp (uAdd K) (tVar 7) (tVar 9)) rSetL))
    (x_law_5 K A E))
instance {K : PySem.W.Frag} {A : Ads} {E : XK} : Unf (x_law_6 K A E) (
  (tSeq (tAsg (tOp uXor (tOp (rIx K) (tVar 11) (tOp (uAdd K) (tVar 7) (tVar 9))) (tOp uShl (tC (.int (1))) (tVar 10))) (gSub (tVar 11) (tOp (uAdd K) (tVar 7) (tVar 9)) rSetL))
    (x_law_5 K A E))) := ⟨rfl⟩
def x_law_7 (K : PySem.W.Frag) (A : Ads) (E : XK) : TS :=
  (tSeq (tIfS (tNot (tB (tCl (sp_w_refused K A) (WE W0) (tCons (tSl (rSlL K) (tOp (uAdd K) (tVar 5) (tVar 4)) tNoPart (tPart (tOp (uAdd K) (tVar 7) (tVar 9)))) (tCons (tVar 7) tNil)))))
    (tSeq (tRet (tC (.bl false)))
    tNext)
    tNext)
    (x_law_4 K A E))
instance {K : PySem.W.Frag} {A : Ads} {E : XK} : Unf (x_law_7 K A E) (
  (tSeq (tIfS (tNot (tB (tCl (sp_w_refused K A) (WE W0) (tCons (tSl (rSlL K) (tOp (uAdd K) (tVar 5) (tVar 4)) tNoPart (tPart (tOp (uAdd K) (tVar 7) (tVar 9)))) (tCons (tVar 7) tNil)))))
    (tSeq (tRet (tC (.bl false)))
    tNext)
    tNext)
    (x_law_4 K A E))) := ⟨rfl⟩
def x_law_8 (K : PySem.W.Frag) (A : Ads) (E : XK) : TS :=
  (tSeq (tFor (iList K (tCl (sp_w_wrong_bodies K A) (WE W0) (tCons (tVar 1) (tCons (tVar 3) tNil)))) (gName 12)
    (tSeq (tAsg (tOp (uAdd K) (tOp (uAdd K) (tVar 5) (tCl (sp_w_frame K A) (WE W0) (tCons (tVar 1) (tCons (tVar 2) (tCons (tVar 12) tNil))))) (tVar 6)) (gName 11))
    (x_law_2 K A E)))
    (x_law_3 K A E))
instance {K : PySem.W.Frag} {A : Ads} {E : XK} : Unf (x_law_8 K A E) (
  (tSeq (tFor (iList K (tCl (sp_w_wrong_bodies K A) (WE W0) (tCons (tVar 1) (tCons (tVar 3) tNil)))) (gName 12)
    (tSeq (tAsg (tOp (uAdd K) (tOp (uAdd K) (tVar 5) (tCl (sp_w_frame K A) (WE W0) (tCons (tVar 1) (tCons (tVar 2) (tCons (tVar 12) tNil))))) (tVar 6)) (gName 11))
    (x_law_2 K A E)))
    (x_law_3 K A E))) := ⟨rfl⟩
def x_law_9 (K : PySem.W.Frag) (A : Ads) (E : XK) : TS :=
  (tSeq (tFor (iRng1 (tCons (tCB (uLen K) (tCons (tVar 4) tNil)) tNil)) (gName 9)
    (tSeq (tFor (iRng1 (tCons (tC (.int (8))) tNil)) (gName 10)
    (tSeq (tAsg (tCB (uListOf K) (tCons (tVar 8) tNil)) (gName 11))
    (x_law_6 K A E)))
    (x_law_7 K A E)))
    (x_law_8 K A E))
instance {K : PySem.W.Frag} {A : Ads} {E : XK} : Unf (x_law_9 K A E) (
  (tSeq (tFor (iRng1 (tCons (tCB (uLen K) (tCons (tVar 4) tNil)) tNil)) (gName 9)
    (tSeq (tFor (iRng1 (tCons (tC (.int (8))) tNil)) (gName 10)
    (tSeq (tAsg (tCB (uListOf K) (tCons (tVar 8) tNil)) (gName 11))
    (x_law_6 K A E)))
    (x_law_7 K A E)))
    (x_law_8 K A E))) := ⟨rfl⟩
def x_law_10 (K : PySem.W.Frag) (A : Ads) (E : XK) : TS :=
  (tSeq (tIfS (tTest (tOp (uNe K) (tCl (sp_read_frame K A) (WE W0) (tCons (tVar 8) (tCons (tVar 7) tNil))) (tTup (tCons (tVar 1) (tCons (tVar 2) (tCons (tVar 3) (tCons (tOp (uAdd K) (tVar 7) (tCB (uLen K) (tCons (tVar 4) tNil))) tNil)))))))
    (tSeq (tRet (tC (.bl false)))
    tNext)
    tNext)
    (x_law_9 K A E))
instance {K : PySem.W.Frag} {A : Ads} {E : XK} : Unf (x_law_10 K A E) (
  (tSeq (tIfS (tTest (tOp (uNe K) (tCl (sp_read_frame K A) (WE W0) (tCons (tVar 8) (tCons (tVar 7) tNil))) (tTup (tCons (tVar 1) (tCons (tVar 2) (tCons (tVar 3) (tCons (tOp (uAdd K) (tVar 7) (tCB (uLen K) (tCons (tVar 4) tNil))) tNil)))))))
    (tSeq (tRet (tC (.bl false)))
    tNext)
    tNext)
    (x_law_9 K A E))) := ⟨rfl⟩
def x_law_11 (K : PySem.W.Frag) (A : Ads) (E : XK) : TS :=
  (tSeq (tAsg (tCl (sp_w_frame K A) (WE W0) (tCons (tOp (uAdd K) (tC (.int (128))) (tOp uMod (tOp uDiv (tCl (sp_w_cell K A) (WE W0) (tCons (tVar 0) (tCons (tC (.int (0))) tNil))) (tC (.int (4)))) (tC (.int (2))))) (tCons (tC (.int (4))) (tCons (tCl (sp_pressed K A) (WE W0) (tCons (tLst (tCons (tC (.int (1))) (tCons (tC (.int (2))) (tCons (tC (.int (3))) tNil)))) tNil)) tNil)))) (gName 6))
    tNext)
instance {K : PySem.W.Frag} {A : Ads} {E : XK} : Unf (x_law_11 K A E) (
  (tSeq (tAsg (tCl (sp_w_frame K A) (WE W0) (tCons (tOp (uAdd K) (tC (.int (128))) (tOp uMod (tOp uDiv (tCl (sp_w_cell K A) (WE W0) (tCons (tVar 0) (tCons (tC (.int (0))) tNil))) (tC (.int (4)))) (tC (.int (2))))) (tCons (tC (.int (4))) (tCons (tCl (sp_pressed K A) (WE W0) (tCons (tLst (tCons (tC (.int (1))) (tCons (tC (.int (2))) (tCons (tC (.int (3))) tNil)))) tNil)) tNil)))) (gName 6))
    tNext)) := ⟨rfl⟩
def x_law_12 (K : PySem.W.Frag) (A : Ads) (E : XK) : TS :=
  (tSeq (tAsg (tCB (uLen K) (tCons (tVar 5) tNil)) (gName 7))
    (tSeq (tAsg (tOp (uAdd K) (tOp (uAdd K) (tVar 5) (tVar 4)) (tVar 6)) (gName 8))
    (x_law_10 K A E)))
instance {K : PySem.W.Frag} {A : Ads} {E : XK} : Unf (x_law_12 K A E) (
  (tSeq (tAsg (tCB (uLen K) (tCons (tVar 5) tNil)) (gName 7))
    (tSeq (tAsg (tOp (uAdd K) (tOp (uAdd K) (tVar 5) (tVar 4)) (tVar 6)) (gName 8))
    (x_law_10 K A E)))) := ⟨rfl⟩
def x_law_13 (K : PySem.W.Frag) (A : Ads) (E : XK) : TS :=
  (Evl.tCut (tIfS (tTest (tOp (uEq K) (tOp uMod (tOp uDiv (tCl (sp_w_cell K A) (WE W0) (tCons (tVar 0) (tCons (tC (.int (0))) tNil))) (tC (.int (2)))) (tC (.int (2)))) (tC (.int (1)))))
    (x_law_11 K A E)
    tNext)
    (x_law_12 K A E))
instance {K : PySem.W.Frag} {A : Ads} {E : XK} : Unf (x_law_13 K A E) (
  (Evl.tCut (tIfS (tTest (tOp (uEq K) (tOp uMod (tOp uDiv (tCl (sp_w_cell K A) (WE W0) (tCons (tVar 0) (tCons (tC (.int (0))) tNil))) (tC (.int (2)))) (tC (.int (2)))) (tC (.int (1)))))
    (x_law_11 K A E)
    tNext)
    (x_law_12 K A E))) := ⟨rfl⟩
def x_law_14 (K : PySem.W.Frag) (A : Ads) (E : XK) : TS :=
  (Evl.tCut (tIfS (tTest (tOp (uEq K) (tOp uMod (tCl (sp_w_cell K A) (WE W0) (tCons (tVar 0) (tCons (tC (.int (0))) tNil))) (tC (.int (2)))) (tC (.int (1)))))
    (tSeq (tAsg (tCl (sp_w_frame K A) (WE W0) (tCons (tC (.int (129))) (tCons (tC (.int (3))) (tCons (tLst (tCons (tC (.int (0))) (tCons (tC (.int (1))) tNil))) tNil)))) (gName 5))
    tNext)
    tNext)
    (x_law_13 K A E))
instance {K : PySem.W.Frag} {A : Ads} {E : XK} : Unf (x_law_14 K A E) (
  (Evl.tCut (tIfS (tTest (tOp (uEq K) (tOp uMod (tCl (sp_w_cell K A) (WE W0) (tCons (tVar 0) (tCons (tC (.int (0))) tNil))) (tC (.int (2)))) (tC (.int (1)))))
    (tSeq (tAsg (tCl (sp_w_frame K A) (WE W0) (tCons (tC (.int (129))) (tCons (tC (.int (3))) (tCons (tLst (tCons (tC (.int (0))) (tCons (tC (.int (1))) tNil))) tNil)))) (gName 5))
    tNext)
    tNext)
    (x_law_13 K A E))) := ⟨rfl⟩
def x_law_15 (K : PySem.W.Frag) (A : Ads) (E : XK) : TS :=
  (tSeq (tAsg (tCl (sp_w_frame K A) (WE W0) (tCons (tVar 1) (tCons (tVar 2) (tCons (tVar 3) tNil)))) (gName 4))
    (tSeq (tAsg (tLst tNil) (gName 5))
    (tSeq (tAsg (tLst tNil) (gName 6))
    (x_law_14 K A E))))
instance {K : PySem.W.Frag} {A : Ads} {E : XK} : Unf (x_law_15 K A E) (
  (tSeq (tAsg (tCl (sp_w_frame K A) (WE W0) (tCons (tVar 1) (tCons (tVar 2) (tCons (tVar 3) tNil)))) (gName 4))
    (tSeq (tAsg (tLst tNil) (gName 5))
    (tSeq (tAsg (tLst tNil) (gName 6))
    (x_law_14 K A E))))) := ⟨rfl⟩
def t_law (K : PySem.W.Frag) (A : Ads) (E : XK) : TS :=
  (tSeq (tAsg (tCl (sp_w_drawn K A) (WE W0) (tCons (tCl (sp_w_purse K A) (WE W0) (tCons (tCl (sp_w_cell K A) (WE W0) (tCons (tVar 0) (tCons (tC (.int (1))) tNil))) (tCons (tC (.int (1))) tNil))) tNil)) (gTup K 3 (gCons (gName 1) (gCons (gName 2) (gCons (gName 3) gNil)))))
    (x_law_15 K A E))
theorem pure_law {K : PySem.W.Frag} {A : Ads} (T : Fct K A) (vs : List V) (H : Hp) (Q : VK) (E : XK) (h : sp_law K A vs H Q E) : t_law K A E (endE Q) (L2.start N_law vs) H := by
  obtain ⟨B, G, a, ns, rfl, zs, hs, hl, k⟩ := h
  refine (?_ : N B G (fun H => t_law K A E (endE Q) (L2.start N_law [.ref a]) H)) H zs
  clear zs
  unfold t_law

  walk_at "sk stp"
  refine use_w_purse (by omega) fun pp o ho => ?_
  walk_at "sk stp"
  refine use_w_drawn 0 rfl ho fun B1 o2 t q kind num body ho2 hf hbl sm1 ht hq => ?_
  refine n_sub (L' := G) (by walk_at "sk sub") ?_
  have hfl := frameL_len kind num body
  have hfb := frame_bytes hf
  have hk := ok_kind hf
  have hs1 := hs
  walk_at "sk stp"
  refine use_w_frame (kind := kind) (num := num) (body := body) (by walk_at "sk is") hf.num.1 (by omega) fun pf => ?_
  walk_at "sk stp"
  rename_i pah pbh
  refine n_cutB (fun B' σ L => ∃ (pa : Addr) (Ah : List Int), σ = [some (.ref a), some (.int kind), some (.int num), some (.ref q), some (.ref pf), some (.ref pa), some (.ref pbh), none, none, none, none, none, none] ∧ L = (pbh, .lst []) :: (pa, .lst (Ah.map V.int)) :: (pf, .lst ((frameL kind num body).map V.int)) :: G ∧ (Ah = [] ∨ Ah = frameL 129 3 [0, 1])) ?_ ?_
  · walk_at "sk stp"
    refine n_iteD (fun h => ?_) (fun h => ?_)
    · walk_at "sk stp"
      refine use_w_frame (kind := 129) (num := 3) (body := [0, 1]) (by walk_at "sk is") (by decide) (by decide) fun pa => ?_
      walk_at "sk stp"
      refine n_sub (L' := (pa, .lst ((frameL 129 3 [0, 1]).map V.int)) :: (pbh, .lst []) :: (pf, .lst ((frameL kind num body).map V.int)) :: G) (by walk_at "sk sub") (n_perm (List.Perm.swap _ _ _) ?_)
      exact n_kg (Same.refl _) ⟨pa, frameL 129 3 [0, 1], rfl, rfl, .inr rfl⟩ (.refl _)
    · walk_at "sk stp"
      exact n_kg (Same.refl _) ⟨pah, [], rfl, rfl, .inl rfl⟩ (.refl _)
  rintro B2 σ L sm2 ⟨pa, Ah, rfl, rfl, hAh⟩
  have hAl : Ah.length ≤ 9 := by rcases hAh with rfl | rfl <;> decide
  have hAb : ∀ d ∈ Ah, 0 ≤ d ∧ d ≤ 255 := by
    rcases hAh with rfl | rfl
    · exact fun d hd => nomatch hd
    · exact frame_bytes ok_again
  walk_at "sk stp"
  refine n_cutB (fun B' σ L => ∃ (pb : Addr) (Bh : List Int), σ = [some (.ref a), some (.int kind), some (.int num), some (.ref q), some (.ref pf), some (.ref pa), some (.ref pb), none, none, none, none, none, none] ∧ L = (pb, .lst (Bh.map V.int)) :: (pa, .lst (Ah.map V.int)) :: (pf, .lst ((frameL kind num body).map V.int)) :: G ∧ Bh.length ≤ 67 ∧ ∀ d ∈ Bh, 0 ≤ d ∧ d ≤ 255) ?_ ?_
  · walk_at "sk stp"
    refine n_iteD (fun h => ?_) (fun h => ?_)
    · walk_at "sk stp"
      rename_i p123
      refine use_pressed (xs := [1, 2, 3]) (is_own 0 rfl) (fun B3 qp _ sm3 => ?_) (fun h => absurd blk123 h)
      have hp3 := pressedL_len blk123
      walk_at "sk stp"
      refine use_w_frame (kind := _) (num := 4) (body := pressedL [1, 2, 3]) (by walk_at "sk is") (by decide) (by omega) fun pb => ?_
      walk_at "sk stp"
      have hb3 : ∀ d ∈ frameL (128 + ns.getD (Int.toNat 0) 0 / 4 % 2) 4 (pressedL [1, 2, 3]), 0 ≤ d ∧ d ≤ 255 := by
        intro d hd
        rcases List.mem_append.mp hd with hd | hd
        · rcases List.mem_cons.mp hd with rfl | hd
          · omega
          rcases List.mem_append.mp hd with hd | hd
          · have := bytesN_low _ _ d hd; omega
          rcases List.mem_append.mp hd with hd | hd
          · have := bytesN_low _ _ d hd; omega
          · have := pressed_low blk123 d hd; omega
        · have := bytesN_low _ _ d hd; omega
      have hl3 := frameL_len (128 + ns.getD (Int.toNat 0) 0 / 4 % 2) 4 (pressedL [1, 2, 3])
      refine n_kg (L' := (pb, .lst ((frameL (128 + ns.getD (Int.toNat 0) 0 / 4 % 2) 4 (pressedL [1, 2, 3])).map V.int)) :: (pa, .lst (Ah.map V.int)) :: (pf, .lst ((frameL kind num body).map V.int)) :: G) sm3 ⟨pb, _, rfl, rfl, by omega, hb3⟩ (by walk_at "sk sub")
    · walk_at "sk stp"
      exact n_kg (Same.refl _) ⟨pbh, [], rfl, rfl, by decide, fun d hd => nomatch hd⟩ (.refl _)
  rintro B3 σ L sm3 ⟨pb, Bh, rfl, rfl, hBl, hBb⟩
  have hq3 := sm3 _ _ (sm2 _ _ hq)
  generalize hF : frameL kind num body = F at *
  walk_at "sk stp"
  rename_i pw0 pw
  generalize hW : Ah ++ F ++ Bh = W at *
  have hWl : W.length = Ah.length + F.length + Bh.length := by rw [← hW, List.length_append, List.length_append]
  have hWb : ∀ d ∈ W, 0 ≤ d ∧ d ≤ 255 := fun d hd => by
    rw [← hW] at hd
    rcases List.mem_append.mp hd with hd | hd
    · exact (List.mem_append.mp hd).elim (hAb d) (hfb d)
    · exact hBb d hd
  have hWd : W.drop Ah.length = F ++ Bh := by rw [← hW, List.append_assoc, List.drop_left]
  refine n_sub (L' := (pw, .lst (W.map V.int)) :: (pb, .lst (Bh.map V.int)) :: (pa, .lst (Ah.map V.int)) :: (pf, .lst (F.map V.int)) :: G) (by walk_at "sk sub") ?_
  walk_at "sk stp"
  refine use_read_frame (ds := W) (n := Ah.length) (by walk_at "sk sq") hWb (by omega) (by omega) (fun B4 t4 q4 kind4 num4 body4 rest4 e4 hf4 sm4 ht4 => ?_) (fun B4 d h _ => absurd hWd (by rw [← hF]; exact h kind num body Bh hf))
  obtain ⟨rfl, rfl, rfl⟩ := frame_same hf hf4 (by rw [hF]; exact hWd) e4
  have hq4 := sm4 _ _ hq3
  have cmp : Cmp 2 (.tuple [.int kind4, .int num4, .list (body4.map PyData.int), .int ((Ah.length + 7 + body4.length : Nat) : Int)]) := Cmp.tuple (k := 1) (fun d hd => by
    simp only [List.mem_cons, List.not_mem_nil, or_false] at hd
    rcases hd with rfl | rfl | rfl | rfl
    · exact Cmp.int
    · exact Cmp.int
    · exact Cmp.list (k := 0) (Cmp.map fun x _ => Cmp.int)
    · exact Cmp.int)
  walk_at "sk stp"
  rw [show ((Ah.length : Int) + (F.length : Int)) = ((Ah.length + 7 + body4.length : Nat) : Int) by omega]
  refine n_neSelf (k := 2) (d := .tuple [.int kind4, .int num4, .list (body4.map PyData.int), .int ((Ah.length + 7 + body4.length : Nat) : Int)]) (da_tup (tp_old (SqT.of ht4)) (daA_cons da_int (daA_cons da_int (daA_cons (da_ints (sq_own 1 rfl)) (daA_cons da_int daA_nil))))) (da_tup (tp_own 0 rfl) (daA_cons da_int (daA_cons da_int (daA_cons (da_ints (sq_old (SqL.of hq4))) (daA_cons da_int daA_nil))))) cmp (by decide) ?_
  refine n_sub (L' := (pw, .lst (W.map V.int)) :: (pb, .lst (Bh.map V.int)) :: (pa, .lst (Ah.map V.int)) :: (pf, .lst (F.map V.int)) :: G) (by walk_at "sk sub") ?_
  walk_at "sk stp"
  refine n_lpR1B (fun i B' σ L => ∃ (y9 y10 y11 y12 : Option V), σ = [some (.ref a), some (.int kind4), some (.int num4), some (.ref q), some (.ref pf), some (.ref pa), some (.ref pb), some (.int Ah.length), some (.ref pw), y9, y10, y11, y12] ∧ L = (pw, .lst (W.map V.int)) :: (pb, .lst (Bh.map V.int)) :: (pa, .lst (Ah.map V.int)) :: (pf, .lst (F.map V.int)) :: G) (by omega) ⟨_, _, _, _, rfl, rfl⟩ ?_ ?_
  · rintro i B5 σ L sm5 hi ⟨y9, y10, y11, y12, rfl, rfl⟩
    have hi2 : i < F.length := by omega
    walk_at "sk stp"
    refine n_lpR1B (fun j B' σ L => ∃ (y10 y11 y12 : Option V), σ = [some (.ref a), some (.int kind4), some (.int num4), some (.ref q), some (.ref pf), some (.ref pa), some (.ref pb), some (.int Ah.length), some (.ref pw), some (.int i), y10, y11, y12] ∧ L = (pw, .lst (W.map V.int)) :: (pb, .lst (Bh.map V.int)) :: (pa, .lst (Ah.map V.int)) :: (pf, .lst (F.map V.int)) :: G) (by omega) ⟨_, _, _, rfl, rfl⟩ ?_ ?_
    · rintro j B6 σ L sm6 hj ⟨y10, y11, y12, rfl, rfl⟩
      walk_at "sk stp"
      rename_i pd
      have hidx : ((Ah.length : Int) + (i : Int)).toNat = Ah.length + i := by omega
      have hjx : ((j : Int)).toNat = j := Int.toNat_natCast j
      have hWi : W.getD (Ah.length + i) 0 = F.getD i 0 := by
        rw [← hW, List.append_assoc, List.getD_eq_getElem?_getD, List.getElem?_append_right (by omega), Nat.add_sub_cancel_left, List.getElem?_append_left hi2, List.getD_eq_getElem?_getD]
      have hFi := hfb (F.getD i 0) (by rw [List.getD_eq_getElem?_getD, List.getElem?_eq_getElem hi2]; exact List.getElem_mem _)
      obtain ⟨hx1, hx2⟩ := xor_bit' hFi.1 (by omega) (show j < 8 by omega)
      refine n_xor ?_
      rw [hidx, hjx, hWi]
      generalize Builtin.bitXor (F.getD i 0) (1 * 2 ^ j) = w at hx1 hx2 ⊢
      walk_at "sk stp"
      rw [hidx]
      have hset : W.set (Ah.length + i) w = Ah ++ (F.set i w ++ Bh) := by
        rw [← hW, List.append_assoc, List.set_append_right _ _ (by omega), Nat.add_sub_cancel_left, List.set_append_left _ _ hi2]
      refine use_w_refused (ds := W.set (Ah.length + i) w) (n := Ah.length) (is_sq (is_own 0 rfl)) (fun d hd => ?_) (by rw [List.length_set]; omega) (by omega) (fun kind' num' body' rest' hf' => ?_) fun B7 sm7 => ?_
      · rcases List.mem_or_eq_of_mem_set hd with hd | rfl
        · exact hWb d hd
        · omega
      · rw [hset, List.drop_left, ← hF]
        exact turned hf (by omega) (by rw [hF]; exact hi2) hx1 (by rw [hF]; exact hx2) kind' num' body' rest' hf'
      walk_at "sk stp"
      exact n_kg (L' := (pw, .lst (W.map V.int)) :: (pb, .lst (Bh.map V.int)) :: (pa, .lst (Ah.map V.int)) :: (pf, .lst (F.map V.int)) :: G) sm7 ⟨_, _, _, rfl, rfl⟩ (by walk_at "sk sub")
    rintro B6 σ L sm6 ⟨y10, y11, y12, rfl, rfl⟩
    walk_at "sk stp"
    rename_i pc1 pc2
    have hcut : cutI (Ah ++ F) none (some ((Ah.length : Int) + (i : Int))) = Ah ++ F.take i := by
      rw [show ((Ah.length : Int) + (i : Int)) = ((Ah.length + i : Nat) : Int) by omega, cutI_to, List.take_append, Nat.add_sub_cancel_left, List.take_of_length_le (by omega)]
    rw [hcut]
    refine use_w_refused (ds := Ah ++ F.take i) (n := Ah.length) (is_sq (is_own 0 rfl)) (fun d hd => ?_) (by rw [List.length_append, List.length_take]; omega) (by omega) (fun kind' num' body' rest' hf' => ?_) fun B7 sm7 => ?_
    · exact (List.mem_append.mp hd).elim (hAb d) fun h => hfb d (List.mem_of_mem_take h)
    · rw [List.drop_left, ← hF]
      exact cut_off hf (by rw [hF]; exact hi2) kind' num' body' rest' hf'
    walk_at "sk stp"
    refine n_iteD (fun h => ?_) (fun h => ?_)
    · walk_at "sk stp"
      rw [show ((Ah.length : Int) + (i : Int)) = ((Ah.length + i : Nat) : Int) by omega]
      refine use_w_refused (ds := Ah ++ F) (n := Ah.length + i) (is_sq (is_own 0 rfl)) (fun d hd => ?_) (by rw [List.length_append]; omega) (by omega) (fun kind' num' body' rest' hf' => ?_) fun B8 sm8 => ?_
      · exact (List.mem_append.mp hd).elim (hAb d) (hfb d)
      · have e2 : (Ah ++ F).drop (Ah.length + i) = F.drop i ++ [] := by rw [List.drop_append, Nat.add_sub_cancel_left, List.drop_eq_nil_of_le (by omega)]; simp
        rw [e2, ← hF]
        exact amid hf (by omega) (by rw [hF]; exact hi2) kind' num' body' rest' hf'
      walk_at "sk stp"
      exact n_kg (L' := (pw, .lst (W.map V.int)) :: (pb, .lst (Bh.map V.int)) :: (pa, .lst (Ah.map V.int)) :: (pf, .lst (F.map V.int)) :: G) ((sm6.trans sm7).trans sm8) ⟨_, _, _, _, rfl, rfl⟩ (by walk_at "sk sub")
    · walk_at "sk stp"
      exact n_kg (L' := (pw, .lst (W.map V.int)) :: (pb, .lst (Bh.map V.int)) :: (pa, .lst (Ah.map V.int)) :: (pf, .lst (F.map V.int)) :: G) (sm6.trans sm7) ⟨_, _, _, _, rfl, rfl⟩ (by walk_at "sk sub")
  rintro B5 σ L sm5 ⟨y9, y10, y11, y12, rfl, rfl⟩
  have hq5 := sm5 _ _ hq4
  walk_at "sk stp"
  refine use_w_wrong_bodies (body := body4) (is_old hq5) hk hf.ok hf.low hbl fun B6 pl vs wss hobj hwr sm6 => ?_
  have hq6 := sm6 _ _ hq5
  refine n_lpOm (fun ws => HO.lst (ws.map V.int)) wss (fun i B' σ L => ∃ (y9 y10 y11 y12 : Option V), σ = [some (.ref a), some (.int kind4), some (.int num4), some (.ref q), some (.ref pf), some (.ref pa), some (.ref pb), some (.int Ah.length), some (.ref pw), y9, y10, y11, y12] ∧ L = (pl, .lst vs) :: (pw, .lst (W.map V.int)) :: (pb, .lst (Bh.map V.int)) :: (pa, .lst (Ah.map V.int)) :: (pf, .lst (F.map V.int)) :: G) hobj ?_ ⟨_, _, _, _, rfl, rfl⟩ ?_ ?_
  · rintro i B' σ L _ _ ⟨y9, y10, y11, y12, rfl, rfl⟩
    walk_at "sk sq"
  · rintro i B7 σ L pz hi sm7 ⟨y9, y10, y11, y12, rfl, rfl⟩ hpz
    have hwi := hwr wss[i] (List.getElem_mem hi)
    have hq7 := sm7 _ _ hq6
    generalize wss[i] = ws at hpz hwi
    have hwl : ws.length ≤ 70 := by
      rcases hwi with rfl | ⟨h, _⟩
      · omega
      · exact h
    have hwfl := frameL_len kind4 num4 ws
    walk_at "sk stp"
    refine use_w_frame (kind := kind4) (num := num4) (body := ws) (is_old hpz) hf.num.1 (by omega) fun pg => ?_
    walk_at "sk stp"
    refine n_iteND (fun h => ?_) (fun h => ?_)
    · obtain ⟨hwl2, hww, hwno⟩ := hwi.resolve_left h
      have hwb : ∀ d ∈ frameL kind4 num4 ws, 0 ≤ d ∧ d ≤ 255 := by
        intro d hd
        rcases List.mem_append.mp hd with hd | hd
        · rcases List.mem_cons.mp hd with rfl | hd
          · omega
          rcases List.mem_append.mp hd with hd | hd
          · have := bytesN_low _ _ d hd; omega
          rcases List.mem_append.mp hd with hd | hd
          · have := bytesN_low _ _ d hd; omega
          · have := hww d hd; omega
        · have := bytesN_low _ _ d hd; omega
      walk_at "sk stp"
      refine use_w_refused (ds := Ah ++ frameL kind4 num4 ws ++ Bh) (n := Ah.length) (is_sq (is_own 0 rfl)) (fun d hd => ?_) (by rw [List.length_append, List.length_append]; omega) (by omega) (fun kind' num' body' rest' hf' => ?_) fun B8 sm8 => ?_
      · rcases List.mem_append.mp hd with hd | hd
        · exact (List.mem_append.mp hd).elim (hAb d) (hwb d)
        · exact hBb d hd
      · rw [List.append_assoc, List.drop_left]
        intro e
        obtain ⟨rfl, rfl⟩ := frame_body hf.num (by omega) hf' e
        exact hwno hf'.ok
      walk_at "sk stp"
      exact n_kg (L' := (pl, .lst vs) :: (pw, .lst (W.map V.int)) :: (pb, .lst (Bh.map V.int)) :: (pa, .lst (Ah.map V.int)) :: (pf, .lst (F.map V.int)) :: G) sm8 ⟨_, _, _, _, rfl, rfl⟩ (by walk_at "sk sub")
    · walk_at "sk stp"
      exact n_kg (L' := (pl, .lst vs) :: (pw, .lst (W.map V.int)) :: (pb, .lst (Bh.map V.int)) :: (pa, .lst (Ah.map V.int)) :: (pf, .lst (F.map V.int)) :: G) (Same.refl _) ⟨_, _, _, _, rfl, rfl⟩ (by walk_at "sk sub")
  rintro B7 σ L sm7 ⟨y9, y10, y11, y12, rfl, rfl⟩
  have smW : Same B B7 := (((((sm1.trans sm2).trans sm3).trans sm4).trans sm5).trans sm6).trans sm7
  have hnil : ∀ m : Nat, W.length ≤ m → ∀ kind num body rest, FrameOk kind num body → W.drop m ≠ frameL kind num body ++ rest := fun m hm kind num body rest _ => by
    rw [List.drop_eq_nil_of_le hm]
    exact no_nil kind num body rest
  walk_at "sk stp"
  refine n_iteD (fun h => ?_) (fun h => ?_)
  · have hA2 : Ah = frameL 129 3 [0, 1] := by
      rcases hAh with rfl | rfl
      · exact absurd h (by decide)
      · rfl
    have hd0 : W.drop 0 = frameL 129 3 [0, 1] ++ (F ++ Bh) := by rw [List.drop_zero, ← hW, List.append_assoc, ← hA2]
    have hAl9 : Ah.length = 9 := by rw [hA2]; decide
    walk_at "sk stp"
    refine use_read_frame (ds := W) (n := 0) (by walk_at "sk sq") hWb (by omega) (by omega) (fun B8 t8 q8 kind8 num8 body8 rest8 e8 hf8 sm8 ht8 => ?_) (fun B8 d h _ => absurd hd0 (h 129 3 [0, 1] _ ok_again))
    obtain ⟨rfl, rfl, rfl⟩ := frame_same ok_again hf8 hd0 e8
    walk_at "sk stp"
    rename_i p01 pt
    rw [hAl9]
    have cmp8 : Cmp 2 (.tuple [.int 129, .int 3, .list ([0, 1].map PyData.int), .int 9]) := Cmp.tuple (k := 1) (fun d hd => by
      simp only [List.mem_cons, List.not_mem_nil, or_false] at hd
      rcases hd with rfl | rfl | rfl | rfl
      · exact Cmp.int
      · exact Cmp.int
      · exact Cmp.list (k := 0) (Cmp.map fun x _ => Cmp.int)
      · exact Cmp.int)
    refine n_neSelf (k := 2) (d := .tuple [.int 129, .int 3, .list ([0, 1].map PyData.int), .int 9]) (da_tup (tp_old (SqT.of ht8)) (daA_cons da_int (daA_cons da_int (daA_cons (da_ints (sq_own 2 rfl)) (daA_cons da_int daA_nil))))) (da_tup (tp_own 0 rfl) (daA_cons da_int (daA_cons da_int (daA_cons (da_ints (sq_own 1 rfl)) (daA_cons da_int daA_nil))))) cmp8 (by decide) ?_
    walk_at "sk stp"
    refine use_w_refused (ds := W) (n := W.length) (by walk_at "sk sq") hWb (by omega) (by omega) (hnil _ (Nat.le_refl _)) fun B9 sm9 => ?_
    walk_at "sk stp"
    rename_i pe
    refine use_w_refused (ds := []) (n := 0) (is_sq (is_own 0 rfl)) (fun d hd => nomatch hd) (by decide) (by decide) (fun kind num body rest _ => no_nil kind num body rest) fun B10 sm10 => ?_
    walk_at "sk stp"
    rw [show ((W.length : Int) + 3) = ((W.length + 3 : Nat) : Int) by omega]
    refine use_w_refused (ds := W) (n := W.length + 3) (by walk_at "sk sq") hWb (by omega) (by omega) (hnil _ (by omega)) fun B11 sm11 => ?_
    exact n_sub (L' := G) (by walk_at "sk sub") (k _ (((smW.trans sm8).trans (sm9.trans sm10)).trans sm11))
  · walk_at "sk stp"
    refine use_w_refused (ds := W) (n := W.length) (by walk_at "sk sq") hWb (by omega) (by omega) (hnil _ (Nat.le_refl _)) fun B9 sm9 => ?_
    walk_at "sk stp"
    rename_i pe
    refine use_w_refused (ds := []) (n := 0) (is_sq (is_own 0 rfl)) (fun d hd => nomatch hd) (by decide) (by decide) (fun kind num body rest _ => no_nil kind num body rest) fun B10 sm10 => ?_
    walk_at "sk stp"
    rw [show ((W.length : Int) + 3) = ((W.length + 3 : Nat) : Int) by omega]
    refine use_w_refused (ds := W) (n := W.length + 3) (by walk_at "sk sq") hWb (by omega) (by omega) (hnil _ (by omega)) fun B11 sm11 => ?_
    exact n_sub (L' := G) (by walk_at "sk sub") (k _ ((smW.trans (sm9.trans sm10)).trans sm11))
theorem raw_law {P : Program} {w : World} {K : PySem.W.Frag} {mg : Str → Option Value} {base : Heap} {A : Ads} {f : Addr} {fd : FuncData} (F : Fun K "law" "law" s_law f fd) (T : Txt K mg A) (O_pressed : OkC P w K mg base (CXN P w) 6 "pressed" ["block"] (sp_pressed K A)) (O_read_frame : OkC P w K mg base (CXN P w) 10 "read_frame" ["data", "at"] (sp_read_frame K A)) (O_w_cell : OkC P w K mg base CX0 1 "_law_cell" ["_law_script", "_law_k"] (sp_w_cell K A)) (O_w_purse : OkC P w K mg base CX0 1 "_law_purse" ["_law_cell_here", "_law_way"] (sp_w_purse K A)) (O_w_frame : OkC P w K mg base CX0 2 "_law_frame" ["_law_kind", "_law_number", "_law_body"] (sp_w_frame K A)) (O_w_drawn : OkC P w K mg base (CXN P w) 7 "_law_drawn" ["_law_purse_here"] (sp_w_drawn K A)) (O_w_refused : OkC P w K mg base CX0 11 "_law_refused" ["_law_data", "_law_at"] (sp_w_refused K A)) (O_w_wrong_bodies : OkC P w K mg base CX0 1 "_law_wrong_bodies" ["_law_kind", "_law_body"] (sp_w_wrong_bodies K A)) : FnOk P w K mg base CX0 12 f fd ["_law_script"] (sp_law K A) := by
  refine F.ok sc_law (fun vs H Q E h => len_law vs H Q E h) (fun cdv Ar outer s H vs Q E hr h => ⟨t_law K A E, PSs.nox ?_, pure_law T.fct vs H Q E h⟩)
  have nd := sc_law.nd
  exact (pss_cons (ps_asg (pe_cl (E := WE W0) O_w_drawn (hr.mono (by decide)) (by rfl) (passN tk0) (pa_cons (pe_cl (E := WE W0) O_w_purse (hr.mono (by decide)) (by rfl) pass00 (pa_cons (pe_cl (E := WE W0) O_w_cell (hr.mono (by decide)) (by rfl) pass00 (pa_cons (pv 0) (pa_cons pe_int pa_nil))) (pa_cons pe_int pa_nil))) pa_nil)) (pg_tup rfl (pgs_cons (pg_name (i := 1) nd rfl (Or.inl rfl)) (pgs_cons (pg_name (i := 2) nd rfl (Or.inl rfl)) (pgs_cons (pg_name (i := 3) nd rfl (Or.inl rfl)) pgs_nil)))))
    (pss_cons (ps_set (i := 4) nd rfl (Or.inl rfl) (pe_cl (E := WE W0) O_w_frame (hr.mono (by decide)) (by rfl) pass00 (pa_cons (pv 1) (pa_cons (pv 2) (pa_cons (pv 3) pa_nil)))))
    (pss_cons (ps_set (i := 5) nd rfl (Or.inl rfl) (pe_lst pa_nil))
    (pss_cons (ps_set (i := 6) nd rfl (Or.inl rfl) (pe_lst pa_nil))
    (Evl.pss_cut (ps_if (pt_cmpR (op_uEq hr.units) (pe_op op_uMod (pe_cl (E := WE W0) O_w_cell (hr.mono (by decide)) (by rfl) pass00 (pa_cons (pv 0) (pa_cons pe_int pa_nil))) pe_int) pe_int (nomark _)) (pss_cons (ps_set (i := 5) nd rfl (Or.inl rfl) (pe_cl (E := WE W0) O_w_frame (hr.mono (by decide)) (by rfl) pass00 (pa_cons pe_int (pa_cons pe_int (pa_cons (pe_lst (pa_cons pe_int (pa_cons pe_int pa_nil))) pa_nil)))))
    pss_nil) pss_nil)
    (Evl.pss_cut (ps_if (pt_cmpR (op_uEq hr.units) (pe_op op_uMod (pe_op op_uDiv (pe_cl (E := WE W0) O_w_cell (hr.mono (by decide)) (by rfl) pass00 (pa_cons (pv 0) (pa_cons pe_int pa_nil))) pe_int) pe_int) pe_int (nomark _)) (pss_cons (ps_set (i := 6) nd rfl (Or.inl rfl) (pe_cl (E := WE W0) O_w_frame (hr.mono (by decide)) (by rfl) pass00 (pa_cons (pe_op op_uAdd pe_int (pe_op op_uMod (pe_op op_uDiv (pe_cl (E := WE W0) O_w_cell (hr.mono (by decide)) (by rfl) pass00 (pa_cons (pv 0) (pa_cons pe_int pa_nil))) pe_int) pe_int)) (pa_cons pe_int (pa_cons (pe_cl (E := WE W0) O_pressed (hr.mono (by decide)) (by rfl) (passN tk0) (pa_cons (pe_lst (pa_cons pe_int (pa_cons pe_int (pa_cons pe_int pa_nil)))) pa_nil)) pa_nil)))))
    pss_nil) pss_nil)
    (pss_cons (ps_set (i := 7) nd rfl (Or.inl rfl) (pe_callB call_uLen (by rfl) T.b_len boot_len (pa_cons (pv 5) pa_nil)))
    (pss_cons (ps_set (i := 8) nd rfl (Or.inl rfl) (pe_op op_uAdd (pe_op op_uAdd (pv 5) (pv 4)) (pv 6)))
    (pss_cons (ps_if (pt_cmpR (op_uNe hr.units) (pe_cl (E := WE W0) O_read_frame (hr.mono (by decide)) (by rfl) (passN tk0) (pa_cons (pv 8) (pa_cons (pv 7) pa_nil))) (pe_tup (pa_cons (pv 1) (pa_cons (pv 2) (pa_cons (pv 3) (pa_cons (pe_op op_uAdd (pv 7) (pe_callB call_uLen (by rfl) T.b_len boot_len (pa_cons (pv 4) pa_nil))) pa_nil))))) (nomark _)) (pss_cons (ps_ret pe_bl)
    pss_nil) pss_nil)
    (pss_cons (ps_for PassesOwn.never rfl (pi_range1 (by rfl) T.b_range (pa_cons (pe_callB call_uLen (by rfl) T.b_len boot_len (pa_cons (pv 4) pa_nil)) pa_nil)) (pg_name (i := 9) nd rfl (Or.inl rfl))
    (pss_cons (ps_for PassesOwn.never rfl (pi_range1 (by rfl) T.b_range (pa_cons pe_int pa_nil)) (pg_name (i := 10) nd rfl (Or.inl rfl))
    (pss_cons (ps_set (i := 11) nd rfl (Or.inl rfl) (pe_callTy call_uList (by rfl) T.b_list boot_list (pa_cons (pv 8) pa_nil)))
    (pss_cons (ps_asg (pe_op op_uXor (pe_ix ix_seq (pv 11) (pe_op op_uAdd (pv 7) (pv 9)) (fun _ _ => rfl)) (pe_op op_uShl pe_int (pv 10))) (pg_sub (pv 11) (pe_op op_uAdd (pv 7) (pv 9)) set_list))
    (pss_cons (ps_if (pt_not (pt_val (pe_cl (E := WE W0) O_w_refused (hr.mono (by decide)) (by rfl) pass00 (pa_cons (pv 11) (pa_cons (pv 7) pa_nil))))) (pss_cons (ps_ret pe_bl)
    pss_nil) pss_nil)
    pss_nil))))
    (pss_cons (ps_if (pt_not (pt_val (pe_cl (E := WE W0) O_w_refused (hr.mono (by decide)) (by rfl) pass00 (pa_cons (pe_slice sl_list (pe_op op_uAdd (pv 5) (pv 4)) po_none (po_some (pe_op op_uAdd (pv 7) (pv 9)))) (pa_cons (pv 7) pa_nil))))) (pss_cons (ps_ret pe_bl)
    pss_nil) pss_nil)
    (pss_cons (ps_if (PW.pt (pw_and (pt_cmpR op_uGt (pv 9) pe_int (nomark _)) (pw_and1 (pt_not (pt_val (pe_cl (E := WE W0) O_w_refused (hr.mono (by decide)) (by rfl) pass00 (pa_cons (pe_op op_uAdd (pv 5) (pv 4)) (pa_cons (pe_op op_uAdd (pv 7) (pv 9)) pa_nil)))))))) (pss_cons (ps_ret pe_bl)
    pss_nil) pss_nil)
    pss_nil))))
    (pss_cons (ps_for PassesOwn.never rfl (pi_list (pe_cl (E := WE W0) O_w_wrong_bodies (hr.mono (by decide)) (by rfl) pass00 (pa_cons (pv 1) (pa_cons (pv 3) pa_nil)))) (pg_name (i := 12) nd rfl (Or.inl rfl))
    (pss_cons (ps_set (i := 11) nd rfl (Or.inl rfl) (pe_op op_uAdd (pe_op op_uAdd (pv 5) (pe_cl (E := WE W0) O_w_frame (hr.mono (by decide)) (by rfl) pass00 (pa_cons (pv 1) (pa_cons (pv 2) (pa_cons (pv 12) pa_nil))))) (pv 6)))
    (pss_cons (ps_if (PW.pt (pw_and (pt_cmpR (op_uNe hr.units) (pv 12) (pv 3) (nomark _)) (pw_and1 (pt_not (pt_val (pe_cl (E := WE W0) O_w_refused (hr.mono (by decide)) (by rfl) pass00 (pa_cons (pv 11) (pa_cons (pv 7) pa_nil)))))))) (pss_cons (ps_ret pe_bl)
    pss_nil) pss_nil)
    pss_nil)))
    (pss_cons (ps_if (PW.pt (pw_and (pt_cmpR op_uGt (pv 7) pe_int (nomark _)) (pw_and1 (pt_cmpR (op_uNe hr.units) (pe_cl (E := WE W0) O_read_frame (hr.mono (by decide)) (by rfl) (passN tk0) (pa_cons (pv 8) (pa_cons pe_int pa_nil))) (pe_tup (pa_cons pe_int (pa_cons pe_int (pa_cons (pe_lst (pa_cons pe_int (pa_cons pe_int pa_nil))) (pa_cons (pv 7) pa_nil))))) (nomark _))))) (pss_cons (ps_ret pe_bl)
    pss_nil) pss_nil)
    (pss_cons (ps_if (PW.pt (pw_or (pt_not (pt_val (pe_cl (E := WE W0) O_w_refused (hr.mono (by decide)) (by rfl) pass00 (pa_cons (pv 8) (pa_cons (pe_callB call_uLen (by rfl) T.b_len boot_len (pa_cons (pv 8) pa_nil)) pa_nil))))) (pw_or1 (pt_not (pt_val (pe_cl (E := WE W0) O_w_refused (hr.mono (by decide)) (by rfl) pass00 (pa_cons (pe_lst pa_nil) (pa_cons pe_int pa_nil)))))))) (pss_cons (ps_ret pe_bl)
    pss_nil) pss_nil)
    (pss_cons (ps_ret (pe_cl (E := WE W0) O_w_refused (hr.mono (by decide)) (by rfl) pass00 (pa_cons (pv 8) (pa_cons (pe_op op_uAdd (pe_callB call_uLen (by rfl) T.b_len boot_len (pa_cons (pv 8) pa_nil)) pe_int) pa_nil))))
    pss_nil))))))))))))))
theorem use_law {K : PySem.W.Frag} {A : Ads} {B : Hp} {G : Own} {Q : VK} {E : XK} {a : Addr} {ns : List Int} (hs : SqL K B a (ns.map V.int)) (hl : ns.length ≤ 63) (zq : ∀ B', Same B B' → N B' G (Q (.bl true))) : N B G (fun H => sp_law K A [.ref a] H Q E) := fun zH zs => ⟨B, _, _, _, rfl, zs, hs, hl, zq⟩

def spW (K : PySem.W.Frag) : Sp := fun vs H Q _ => ∃ (a : Addr) (ns : List Int), vs = [.ref a] ∧ SqL K H a (ns.map V.int) ∧ ns.length ≤ 63 ∧ ∀ H', SI H [] H' → Q (.bl true) H'
theorem spW_to {K : PySem.W.Frag} (A : Ads) {vs : List V} {H : Hp} {Q : VK} {E : XK} (h : spW K vs H Q E) : sp_law K A vs H Q E := by
  obtain ⟨a, ns, rfl, hs, hl, q⟩ := h
  exact ⟨H, [], a, ns, rfl, SI.refl H, hs, hl, fun B' sm H' s => q H' (s.mono sm)⟩
theorem all_mk {l : PySem.W.OpenLaw} {w : World} {K : PySem.W.Frag} {h : Heap} {mg : Str → Option Value} {fa : Addr} (X : K.In h) (G : h.Ns mainGlobals mg) (hfa : mg "law" = some (.ref fa))
    {c_Bits : Addr} {c_NoBits : Addr} {c_NoBlock : Addr} {c_Heap : Addr} {c_NoCode : Addr} {c_NoRepeat : Addr} {c_Broken : Addr} {c_PressError : Addr} {c_NoText : Addr} {c_NoPlace : Addr} {a_KINDS : Addr} {i_Broken : Addr} {pe_Broken N_Broken : Addr} {nm_Broken q_Broken : Str} {bs_Broken sub_Broken : List Value} {sn_Broken : List Str} {ab_Broken : Bool} {col_Broken : Option Bool} {dd_Broken ido_Broken ian_Broken : Option Addr} {isl_Broken xsl_Broken : Array (Option Value)} {ioc_Broken idc_Broken ipm_Broken icv_Broken ict_Broken : Value} {ip1_Broken ip2_Broken iq1_Broken iq2_Broken iq3_Broken iq4_Broken : Pos} {f_w_cell : Addr} {od_w_cell an_w_cell : Option Addr} {sl_w_cell : Array (Option Value)} {oc_w_cell kV_w_cell dc_w_cell pm_w_cell cd_w_cell ct_w_cell : Value} {f_w_purse : Addr} {od_w_purse an_w_purse : Option Addr} {sl_w_purse : Array (Option Value)} {oc_w_purse kV_w_purse dc_w_purse pm_w_purse cd_w_purse ct_w_purse : Value} {f_w_take : Addr} {od_w_take an_w_take : Option Addr} {sl_w_take : Array (Option Value)} {oc_w_take kV_w_take dc_w_take pm_w_take cd_w_take ct_w_take : Value} {f_w_whole : Addr} {od_w_whole an_w_whole : Option Addr} {sl_w_whole : Array (Option Value)} {oc_w_whole kV_w_whole dc_w_whole pm_w_whole cd_w_whole ct_w_whole : Value} {f_is_whole : Addr} {od_is_whole an_is_whole : Option Addr} {sl_is_whole : Array (Option Value)} {oc_is_whole kV_is_whole dc_is_whole pm_is_whole cd_is_whole ct_is_whole : Value} {f_is_mark : Addr} {od_is_mark an_is_mark : Option Addr} {sl_is_mark : Array (Option Value)} {oc_is_mark kV_is_mark dc_is_mark pm_is_mark cd_is_mark ct_is_mark : Value} {f_is_text : Addr} {od_is_text an_is_text : Option Addr} {sl_is_text : Array (Option Value)} {oc_is_text kV_is_text dc_is_text pm_is_text cd_is_text ct_is_text : Value} {f_bits_of : Addr} {od_bits_of an_bits_of : Option Addr} {sl_bits_of : Array (Option Value)} {oc_bits_of kV_bits_of dc_bits_of pm_bits_of cd_bits_of ct_bits_of : Value} {f_halves : Addr} {od_halves an_halves : Option Addr} {sl_halves : Array (Option Value)} {oc_halves kV_halves dc_halves pm_halves cd_halves ct_halves : Value} {f_laid : Addr} {od_laid an_laid : Option Addr} {sl_laid : Array (Option Value)} {oc_laid kV_laid dc_laid pm_laid cd_laid ct_laid : Value} {f_Bits___init__ : Addr} {od_Bits___init__ an_Bits___init__ : Option Addr} {sl_Bits___init__ : Array (Option Value)} {oc_Bits___init__ kV_Bits___init__ dc_Bits___init__ pm_Bits___init__ cd_Bits___init__ ct_Bits___init__ : Value} {f_Bits_left : Addr} {od_Bits_left an_Bits_left : Option Addr} {sl_Bits_left : Array (Option Value)} {oc_Bits_left kV_Bits_left dc_Bits_left pm_Bits_left cd_Bits_left ct_Bits_left : Value} {f_Bits_take : Addr} {od_Bits_take an_Bits_take : Option Addr} {sl_Bits_take : Array (Option Value)} {oc_Bits_take kV_Bits_take dc_Bits_take pm_Bits_take cd_Bits_take ct_Bits_take : Value} {f_Bits_take_halves : Addr} {od_Bits_take_halves an_Bits_take_halves : Option Addr} {sl_Bits_take_halves : Array (Option Value)} {oc_Bits_take_halves kV_Bits_take_halves dc_Bits_take_halves pm_Bits_take_halves cd_Bits_take_halves ct_Bits_take_halves : Value} {f_look_at_block : Addr} {od_look_at_block an_look_at_block : Option Addr} {sl_look_at_block : Array (Option Value)} {oc_look_at_block kV_look_at_block dc_look_at_block pm_look_at_block cd_look_at_block ct_look_at_block : Value} {f_Heap___init__ : Addr} {od_Heap___init__ an_Heap___init__ : Option Addr} {sl_Heap___init__ : Array (Option Value)} {oc_Heap___init__ kV_Heap___init__ dc_Heap___init__ pm_Heap___init__ cd_Heap___init__ ct_Heap___init__ : Value} {f_Heap_take_least : Addr} {od_Heap_take_least an_Heap_take_least : Option Addr} {sl_Heap_take_least : Array (Option Value)} {oc_Heap_take_least kV_Heap_take_least dc_Heap_take_least pm_Heap_take_least cd_Heap_take_least ct_Heap_take_least : Value} {f_Heap_merge : Addr} {od_Heap_merge an_Heap_merge : Option Addr} {sl_Heap_merge : Array (Option Value)} {oc_Heap_merge kV_Heap_merge dc_Heap_merge pm_Heap_merge cd_Heap_merge ct_Heap_merge : Value} {f_Heap_merge_all : Addr} {od_Heap_merge_all an_Heap_merge_all : Option Addr} {sl_Heap_merge_all : Array (Option Value)} {oc_Heap_merge_all kV_Heap_merge_all dc_Heap_merge_all pm_Heap_merge_all cd_Heap_merge_all ct_Heap_merge_all : Value} {f_lengths_of : Addr} {od_lengths_of an_lengths_of : Option Addr} {sl_lengths_of : Array (Option Value)} {oc_lengths_of kV_lengths_of dc_lengths_of pm_lengths_of cd_lengths_of ct_lengths_of : Value} {f_look_at_lengths : Addr} {od_look_at_lengths an_look_at_lengths : Option Addr} {sl_look_at_lengths : Array (Option Value)} {oc_look_at_lengths kV_look_at_lengths dc_look_at_lengths pm_look_at_lengths cd_look_at_lengths ct_look_at_lengths : Value} {f_written : Addr} {od_written an_written : Option Addr} {sl_written : Array (Option Value)} {oc_written kV_written dc_written pm_written cd_written ct_written : Value} {f_codes_of : Addr} {od_codes_of an_codes_of : Option Addr} {sl_codes_of : Array (Option Value)} {oc_codes_of kV_codes_of dc_codes_of pm_codes_of cd_codes_of ct_codes_of : Value} {f_run_at : Addr} {od_run_at an_run_at : Option Addr} {sl_run_at : Array (Option Value)} {oc_run_at kV_run_at dc_run_at pm_run_at cd_run_at ct_run_at : Value} {f_repeat_at : Addr} {od_repeat_at an_repeat_at : Option Addr} {sl_repeat_at : Array (Option Value)} {oc_repeat_at kV_repeat_at dc_repeat_at pm_repeat_at cd_repeat_at ct_repeat_at : Value} {f_tokens_of : Addr} {od_tokens_of an_tokens_of : Option Addr} {sl_tokens_of : Array (Option Value)} {oc_tokens_of kV_tokens_of dc_tokens_of pm_tokens_of cd_tokens_of ct_tokens_of : Value} {f_look_at_repeat : Addr} {od_look_at_repeat an_look_at_repeat : Option Addr} {sl_look_at_repeat : Array (Option Value)} {oc_look_at_repeat kV_look_at_repeat dc_look_at_repeat pm_look_at_repeat cd_look_at_repeat ct_look_at_repeat : Value} {f_laid_out : Addr} {od_laid_out an_laid_out : Option Addr} {sl_laid_out : Array (Option Value)} {oc_laid_out kV_laid_out dc_laid_out pm_laid_out cd_laid_out ct_laid_out : Value} {f_symbol_of : Addr} {od_symbol_of an_symbol_of : Option Addr} {sl_symbol_of : Array (Option Value)} {oc_symbol_of kV_symbol_of dc_symbol_of pm_symbol_of cd_symbol_of ct_symbol_of : Value} {f_counts_of : Addr} {od_counts_of an_counts_of : Option Addr} {sl_counts_of : Array (Option Value)} {oc_counts_of kV_counts_of dc_counts_of pm_counts_of cd_counts_of ct_counts_of : Value} {f_table_bits : Addr} {od_table_bits an_table_bits : Option Addr} {sl_table_bits : Array (Option Value)} {oc_table_bits kV_table_bits dc_table_bits pm_table_bits cd_table_bits ct_table_bits : Value} {f_token_bits : Addr} {od_token_bits an_token_bits : Option Addr} {sl_token_bits : Array (Option Value)} {oc_token_bits kV_token_bits dc_token_bits pm_token_bits cd_token_bits ct_token_bits : Value} {f_packed : Addr} {od_packed an_packed : Option Addr} {sl_packed : Array (Option Value)} {oc_packed kV_packed dc_packed pm_packed cd_packed ct_packed : Value} {f_plain : Addr} {od_plain an_plain : Option Addr} {sl_plain : Array (Option Value)} {oc_plain kV_plain dc_plain pm_plain cd_plain ct_plain : Value} {f_pressed : Addr} {od_pressed an_pressed : Option Addr} {sl_pressed : Array (Option Value)} {oc_pressed kV_pressed dc_pressed pm_pressed cd_pressed ct_pressed : Value} {f_read_table : Addr} {od_read_table an_read_table : Option Addr} {sl_read_table : Array (Option Value)} {oc_read_table kV_read_table dc_read_table pm_read_table cd_read_table ct_read_table : Value} {f_read_token : Addr} {od_read_token an_read_token : Option Addr} {sl_read_token : Array (Option Value)} {oc_read_token kV_read_token dc_read_token pm_read_token cd_read_token ct_read_token : Value} {f_read_block : Addr} {od_read_block an_read_block : Option Addr} {sl_read_block : Array (Option Value)} {oc_read_block kV_read_block dc_read_block pm_read_block cd_read_block ct_read_block : Value} {f_opened : Addr} {od_opened an_opened : Option Addr} {sl_opened : Array (Option Value)} {oc_opened kV_opened dc_opened pm_opened cd_opened ct_opened : Value} {f_number_of : Addr} {od_number_of an_number_of : Option Addr} {sl_number_of : Array (Option Value)} {oc_number_of kV_number_of dc_number_of pm_number_of cd_number_of ct_number_of : Value} {f_check : Addr} {od_check an_check : Option Addr} {sl_check : Array (Option Value)} {oc_check kV_check dc_check pm_check cd_check ct_check : Value} {f_is_low : Addr} {od_is_low an_is_low : Option Addr} {sl_is_low : Array (Option Value)} {oc_is_low kV_is_low dc_is_low pm_is_low cd_is_low ct_is_low : Value} {f_size_of : Addr} {od_size_of an_size_of : Option Addr} {sl_size_of : Array (Option Value)} {oc_size_of kV_size_of dc_size_of pm_size_of cd_size_of ct_size_of : Value} {f_is_block : Addr} {od_is_block an_is_block : Option Addr} {sl_is_block : Array (Option Value)} {oc_is_block kV_is_block dc_is_block pm_is_block cd_is_block ct_is_block : Value} {f_is_body : Addr} {od_is_body an_is_body : Option Addr} {sl_is_body : Array (Option Value)} {oc_is_body kV_is_body dc_is_body pm_is_body cd_is_body ct_is_body : Value} {f_read_frame : Addr} {od_read_frame an_read_frame : Option Addr} {sl_read_frame : Array (Option Value)} {oc_read_frame kV_read_frame dc_read_frame pm_read_frame cd_read_frame ct_read_frame : Value} {f_w_low : Addr} {od_w_low an_w_low : Option Addr} {sl_w_low : Array (Option Value)} {oc_w_low kV_w_low dc_w_low pm_w_low cd_w_low ct_w_low : Value} {f_w_check : Addr} {od_w_check an_w_check : Option Addr} {sl_w_check : Array (Option Value)} {oc_w_check kV_w_check dc_w_check pm_w_check cd_w_check ct_w_check : Value} {f_w_frame : Addr} {od_w_frame an_w_frame : Option Addr} {sl_w_frame : Array (Option Value)} {oc_w_frame kV_w_frame dc_w_frame pm_w_frame cd_w_frame ct_w_frame : Value} {f_w_drawn : Addr} {od_w_drawn an_w_drawn : Option Addr} {sl_w_drawn : Array (Option Value)} {oc_w_drawn kV_w_drawn dc_w_drawn pm_w_drawn cd_w_drawn ct_w_drawn : Value} {f_w_refused : Addr} {od_w_refused an_w_refused : Option Addr} {sl_w_refused : Array (Option Value)} {oc_w_refused kV_w_refused dc_w_refused pm_w_refused cd_w_refused ct_w_refused : Value} {f_w_wrong_bodies : Addr} {od_w_wrong_bodies an_w_wrong_bodies : Option Addr} {sl_w_wrong_bodies : Array (Option Value)} {oc_w_wrong_bodies kV_w_wrong_bodies dc_w_wrong_bodies pm_w_wrong_bodies cd_w_wrong_bodies ct_w_wrong_bodies : Value} {f_law : Addr} {od_law an_law : Option Addr} {sl_law : Array (Option Value)} {oc_law kV_law dc_law pm_law cd_law ct_law : Value} {t_AGAIN : Tok} {t_AROUND : Tok} {t_BACK_BITS : Tok} {t_BLOCK : Tok} {t_END : Tok} {t_HEAD : Tok} {t_KID : Tok} {sl_KINDS : Array (Option Value)} {nn_KINDS : Nat} {t0_KINDS : Tok} {t1_KINDS : Tok} {t2_KINDS : Tok} {t3_KINDS : Tok} {od_KINDS : Option Addr} {t_LONGER : Tok} {t_LONGEST : Tok} {t_MOST_MARKS : Tok} {t_MOST_SYMBOL : Tok} {t_PRIME : Tok} {t_SHORTEST : Tok} {t_WIDE : Tok}
    (a_c_Bits : PySem.W.nsIn K mainGlobals "Bits" = some (some (.ref c_Bits)))
    (kc_Bits : PySem.W.keepIn K (.ref c_Bits) = true)
    (pg_Bits : PySem.W.plainGet K c_Bits Str.empty = true)
    (hd_Bits : PySem.W.hasDictIn K c_Bits = true)
    (po_Bits : PySem.W.plainOver K c_Bits = true)
    (sa_Bits : PySem.W.findIn K (.ref c_Bits) "__setattr__" = some (some (.builtin "object.__setattr__")))
    (mk_Bits : PySem.W.makesIn K c_Bits = true)
    (n_Bits_at : PySem.W.findIn K (.ref c_Bits) "at" = some none)
    (n_Bits_row : PySem.W.findIn K (.ref c_Bits) "row" = some none)
    (a_c_NoBits : PySem.W.nsIn K mainGlobals "NoBits" = some (some (.ref c_NoBits)))
    (kc_NoBits : PySem.W.keepIn K (.ref c_NoBits) = true)
    (x_NoBits : PySem.W.excIn K c_NoBits [.type "ValueError", .type "Exception", .type "BaseException", .type "object"] "ValueError.__new__" = true)
    (s_NoBits : PySem.W.subIn K (.ref c_NoBits) (.type "BaseException") = some true)
    (t_NoBits : PySem.W.typeIn K (.ref c_NoBits) = some (.type "type"))
    (a_c_NoBlock : PySem.W.nsIn K mainGlobals "NoBlock" = some (some (.ref c_NoBlock)))
    (kc_NoBlock : PySem.W.keepIn K (.ref c_NoBlock) = true)
    (x_NoBlock : PySem.W.excIn K c_NoBlock [.type "ValueError", .type "Exception", .type "BaseException", .type "object"] "ValueError.__new__" = true)
    (s_NoBlock : PySem.W.subIn K (.ref c_NoBlock) (.type "BaseException") = some true)
    (t_NoBlock : PySem.W.typeIn K (.ref c_NoBlock) = some (.type "type"))
    (a_c_Heap : PySem.W.nsIn K mainGlobals "Heap" = some (some (.ref c_Heap)))
    (kc_Heap : PySem.W.keepIn K (.ref c_Heap) = true)
    (pg_Heap : PySem.W.plainGet K c_Heap Str.empty = true)
    (hd_Heap : PySem.W.hasDictIn K c_Heap = true)
    (po_Heap : PySem.W.plainOver K c_Heap = true)
    (sa_Heap : PySem.W.findIn K (.ref c_Heap) "__setattr__" = some (some (.builtin "object.__setattr__")))
    (mk_Heap : PySem.W.makesIn K c_Heap = true)
    (n_Heap_deep : PySem.W.findIn K (.ref c_Heap) "deep" = some none)
    (n_Heap_things : PySem.W.findIn K (.ref c_Heap) "things" = some none)
    (a_c_NoCode : PySem.W.nsIn K mainGlobals "NoCode" = some (some (.ref c_NoCode)))
    (kc_NoCode : PySem.W.keepIn K (.ref c_NoCode) = true)
    (x_NoCode : PySem.W.excIn K c_NoCode [.type "ValueError", .type "Exception", .type "BaseException", .type "object"] "ValueError.__new__" = true)
    (s_NoCode : PySem.W.subIn K (.ref c_NoCode) (.type "BaseException") = some true)
    (t_NoCode : PySem.W.typeIn K (.ref c_NoCode) = some (.type "type"))
    (a_c_NoRepeat : PySem.W.nsIn K mainGlobals "NoRepeat" = some (some (.ref c_NoRepeat)))
    (kc_NoRepeat : PySem.W.keepIn K (.ref c_NoRepeat) = true)
    (x_NoRepeat : PySem.W.excIn K c_NoRepeat [.type "ValueError", .type "Exception", .type "BaseException", .type "object"] "ValueError.__new__" = true)
    (s_NoRepeat : PySem.W.subIn K (.ref c_NoRepeat) (.type "BaseException") = some true)
    (t_NoRepeat : PySem.W.typeIn K (.ref c_NoRepeat) = some (.type "type"))
    (a_c_Broken : PySem.W.nsIn K mainGlobals "Broken" = some (some (.ref c_Broken)))
    (kc_Broken : PySem.W.keepIn K (.ref c_Broken) = true)
    (xL_Broken : K.lookup c_Broken = some ⟨.type "type", dd_Broken, .cls { name := nm_Broken, bases := bs_Broken, mro := .ref c_Broken :: [.ref pe_Broken, .type "ValueError", .type "Exception", .type "BaseException", .type "object"], ns := N_Broken, qualname := q_Broken, hasDict := true, slotNames := sn_Broken, subclasses := sub_Broken, abstract := ab_Broken, collection := col_Broken, hasDel := false }, xsl_Broken⟩)
    (xk_Broken : ∃ k0 k1 k2 k3 k5 : Option Value, xsl_Broken = #[k0, k1, k2, k3, some (.builtin "ValueError.__new__"), k5])
    (xsa_Broken : PySem.W.findIn K (.ref c_Broken) "__setattr__" = some (some (.builtin "object.__setattr__")))
    (xga_Broken : PySem.W.findIn K (.ref c_Broken) "__getattribute__" = some (some (.builtin "BaseException.__getattribute__")))
    (xgg_Broken : PySem.W.findIn K (.ref c_Broken) "__getattr__" = some none)
    (xnb_Broken : PySem.W.findIn K (.ref c_Broken) "place" = some none)
    (xi_Broken : PySem.W.findIn K (.ref c_Broken) "__init__" = some (some (.ref i_Broken)))
    (xt_Broken : PySem.W.typeIn K (.ref i_Broken) = some (.type "function"))
    (xl_Broken : K.lookup i_Broken = some ⟨ioc_Broken, ido_Broken, .func (PySem.W.fnOf "__init__" "Broken.__init__" (PySem.BrkX.iA ip1_Broken ip2_Broken) (PySem.BrkX.iB iq1_Broken iq2_Broken iq3_Broken iq4_Broken) PySem.BrkX.iS .none .none idc_Broken ipm_Broken ian_Broken icv_Broken ict_Broken), isl_Broken⟩)
    (xc_Broken : PySem.W.codeIn K icv_Broken "Broken.__init__" = true)
    (xs_Broken : PySem.W.subIn K (.ref c_Broken) (.type "BaseException") = some true)
    (xty_Broken : PySem.W.typeIn K (.ref c_Broken) = some (.type "type"))
    (xhd_Broken : PySem.W.hasDictIn K c_Broken = true)
    (a_c_PressError : PySem.W.nsIn K mainGlobals "PressError" = some (some (.ref c_PressError)))
    (kc_PressError : PySem.W.keepIn K (.ref c_PressError) = true)
    (a_c_NoText : PySem.W.nsIn K mainGlobals "NoText" = some (some (.ref c_NoText)))
    (kc_NoText : PySem.W.keepIn K (.ref c_NoText) = true)
    (a_c_NoPlace : PySem.W.nsIn K mainGlobals "NoPlace" = some (some (.ref c_NoPlace)))
    (kc_NoPlace : PySem.W.keepIn K (.ref c_NoPlace) = true)
    (hs_NoBits : PySem.W.subIn K (.ref c_NoBits) (.type "BaseException") = some true)
    (hh_NoBits : PySem.W.hasDictIn K c_NoBits = true)
    (ht_NoBits : PySem.W.typeIn K (.ref c_NoBits) = some (.type "type"))
    (hs_NoCode : PySem.W.subIn K (.ref c_NoCode) (.type "BaseException") = some true)
    (hh_NoCode : PySem.W.hasDictIn K c_NoCode = true)
    (ht_NoCode : PySem.W.typeIn K (.ref c_NoCode) = some (.type "type"))
    (hs_NoRepeat : PySem.W.subIn K (.ref c_NoRepeat) (.type "BaseException") = some true)
    (hh_NoRepeat : PySem.W.hasDictIn K c_NoRepeat = true)
    (ht_NoRepeat : PySem.W.typeIn K (.ref c_NoRepeat) = some (.type "type"))
    (hs_NoBlock : PySem.W.subIn K (.ref c_NoBlock) (.type "BaseException") = some true)
    (hh_NoBlock : PySem.W.hasDictIn K c_NoBlock = true)
    (ht_NoBlock : PySem.W.typeIn K (.ref c_NoBlock) = some (.type "type"))
    (hs_PressError : PySem.W.subIn K (.ref c_PressError) (.type "BaseException") = some true)
    (hh_PressError : PySem.W.hasDictIn K c_PressError = true)
    (ht_PressError : PySem.W.typeIn K (.ref c_PressError) = some (.type "type"))
    (qe_NoBits_hg : PySem.W.findIn K (.ref c_NoBits) "__getattribute__" = some (some (.builtin "BaseException.__getattribute__")))
    (qe_NoBits_hk : PySem.W.findIn K (.ref c_NoBits) "__getattr__" = some none)
    (qe_NoBits_hs : PySem.W.subIn K (.ref c_NoBits) (.type "BaseException") = some true)
    (qe_NoBits_hd : PySem.W.hasDictIn K c_NoBits = true)
    (qe_NoBits_ha : PySem.W.findIn K (.ref c_NoBits) "__class__" = some (some (.builtin "object.__class__")))
    (qe_NoBits_hn : PySem.W.specialIn K (.builtin "object.__class__") "__get__" = some (some (.builtin "getset_descriptor.__get__")))
    (qe_NoBits_ht : PySem.W.takesIn K (.builtin "object.__class__") = some true)
    (qe_NoBits_hm : PySem.W.mroIn K c_NoBits (.type "object") = some true)
    (qm_NoBits_NoBits : PySem.W.subIn K (.ref c_NoBits) (.ref c_NoBits) = some true)
    (qm_NoBits_NoCode : PySem.W.subIn K (.ref c_NoBits) (.ref c_NoCode) = some false)
    (qm_NoBits_NoRepeat : PySem.W.subIn K (.ref c_NoBits) (.ref c_NoRepeat) = some false)
    (qm_NoBits_NoBlock : PySem.W.subIn K (.ref c_NoBits) (.ref c_NoBlock) = some false)
    (qm_NoBits_PressError : PySem.W.subIn K (.ref c_NoBits) (.ref c_PressError) = some true)
    (qkk_NoBits_0 : PySem.W.kitOne K (.ref c_NoBits) (.ref c_Broken) = some false)
    (qkk_NoBits_1 : PySem.W.kitAny K (.ref c_NoBits) [(.ref c_NoBlock), (.ref c_NoPlace), (.ref c_NoText)] = some false)
    (qkk_NoBits_2 : PySem.W.kitOne K (.ref c_NoBits) (.type "ValueError") = some true)
    (qe_NoBlock_hg : PySem.W.findIn K (.ref c_NoBlock) "__getattribute__" = some (some (.builtin "BaseException.__getattribute__")))
    (qe_NoBlock_hk : PySem.W.findIn K (.ref c_NoBlock) "__getattr__" = some none)
    (qe_NoBlock_hs : PySem.W.subIn K (.ref c_NoBlock) (.type "BaseException") = some true)
    (qe_NoBlock_hd : PySem.W.hasDictIn K c_NoBlock = true)
    (qe_NoBlock_ha : PySem.W.findIn K (.ref c_NoBlock) "__class__" = some (some (.builtin "object.__class__")))
    (qe_NoBlock_hn : PySem.W.specialIn K (.builtin "object.__class__") "__get__" = some (some (.builtin "getset_descriptor.__get__")))
    (qe_NoBlock_ht : PySem.W.takesIn K (.builtin "object.__class__") = some true)
    (qe_NoBlock_hm : PySem.W.mroIn K c_NoBlock (.type "object") = some true)
    (qm_NoBlock_NoBits : PySem.W.subIn K (.ref c_NoBlock) (.ref c_NoBits) = some false)
    (qm_NoBlock_NoCode : PySem.W.subIn K (.ref c_NoBlock) (.ref c_NoCode) = some false)
    (qm_NoBlock_NoRepeat : PySem.W.subIn K (.ref c_NoBlock) (.ref c_NoRepeat) = some false)
    (qm_NoBlock_NoBlock : PySem.W.subIn K (.ref c_NoBlock) (.ref c_NoBlock) = some true)
    (qm_NoBlock_PressError : PySem.W.subIn K (.ref c_NoBlock) (.ref c_PressError) = some true)
    (qkk_NoBlock_0 : PySem.W.kitOne K (.ref c_NoBlock) (.ref c_Broken) = some false)
    (qkk_NoBlock_1 : PySem.W.kitAny K (.ref c_NoBlock) [(.ref c_NoBlock), (.ref c_NoPlace), (.ref c_NoText)] = some true)
    (qkk_NoBlock_2 : PySem.W.kitOne K (.ref c_NoBlock) (.type "ValueError") = some true)
    (qe_NoCode_hg : PySem.W.findIn K (.ref c_NoCode) "__getattribute__" = some (some (.builtin "BaseException.__getattribute__")))
    (qe_NoCode_hk : PySem.W.findIn K (.ref c_NoCode) "__getattr__" = some none)
    (qe_NoCode_hs : PySem.W.subIn K (.ref c_NoCode) (.type "BaseException") = some true)
    (qe_NoCode_hd : PySem.W.hasDictIn K c_NoCode = true)
    (qe_NoCode_ha : PySem.W.findIn K (.ref c_NoCode) "__class__" = some (some (.builtin "object.__class__")))
    (qe_NoCode_hn : PySem.W.specialIn K (.builtin "object.__class__") "__get__" = some (some (.builtin "getset_descriptor.__get__")))
    (qe_NoCode_ht : PySem.W.takesIn K (.builtin "object.__class__") = some true)
    (qe_NoCode_hm : PySem.W.mroIn K c_NoCode (.type "object") = some true)
    (qm_NoCode_NoBits : PySem.W.subIn K (.ref c_NoCode) (.ref c_NoBits) = some false)
    (qm_NoCode_NoCode : PySem.W.subIn K (.ref c_NoCode) (.ref c_NoCode) = some true)
    (qm_NoCode_NoRepeat : PySem.W.subIn K (.ref c_NoCode) (.ref c_NoRepeat) = some false)
    (qm_NoCode_NoBlock : PySem.W.subIn K (.ref c_NoCode) (.ref c_NoBlock) = some false)
    (qm_NoCode_PressError : PySem.W.subIn K (.ref c_NoCode) (.ref c_PressError) = some true)
    (qkk_NoCode_0 : PySem.W.kitOne K (.ref c_NoCode) (.ref c_Broken) = some false)
    (qkk_NoCode_1 : PySem.W.kitAny K (.ref c_NoCode) [(.ref c_NoBlock), (.ref c_NoPlace), (.ref c_NoText)] = some false)
    (qkk_NoCode_2 : PySem.W.kitOne K (.ref c_NoCode) (.type "ValueError") = some true)
    (qe_NoRepeat_hg : PySem.W.findIn K (.ref c_NoRepeat) "__getattribute__" = some (some (.builtin "BaseException.__getattribute__")))
    (qe_NoRepeat_hk : PySem.W.findIn K (.ref c_NoRepeat) "__getattr__" = some none)
    (qe_NoRepeat_hs : PySem.W.subIn K (.ref c_NoRepeat) (.type "BaseException") = some true)
    (qe_NoRepeat_hd : PySem.W.hasDictIn K c_NoRepeat = true)
    (qe_NoRepeat_ha : PySem.W.findIn K (.ref c_NoRepeat) "__class__" = some (some (.builtin "object.__class__")))
    (qe_NoRepeat_hn : PySem.W.specialIn K (.builtin "object.__class__") "__get__" = some (some (.builtin "getset_descriptor.__get__")))
    (qe_NoRepeat_ht : PySem.W.takesIn K (.builtin "object.__class__") = some true)
    (qe_NoRepeat_hm : PySem.W.mroIn K c_NoRepeat (.type "object") = some true)
    (qm_NoRepeat_NoBits : PySem.W.subIn K (.ref c_NoRepeat) (.ref c_NoBits) = some false)
    (qm_NoRepeat_NoCode : PySem.W.subIn K (.ref c_NoRepeat) (.ref c_NoCode) = some false)
    (qm_NoRepeat_NoRepeat : PySem.W.subIn K (.ref c_NoRepeat) (.ref c_NoRepeat) = some true)
    (qm_NoRepeat_NoBlock : PySem.W.subIn K (.ref c_NoRepeat) (.ref c_NoBlock) = some false)
    (qm_NoRepeat_PressError : PySem.W.subIn K (.ref c_NoRepeat) (.ref c_PressError) = some true)
    (qkk_NoRepeat_0 : PySem.W.kitOne K (.ref c_NoRepeat) (.ref c_Broken) = some false)
    (qkk_NoRepeat_1 : PySem.W.kitAny K (.ref c_NoRepeat) [(.ref c_NoBlock), (.ref c_NoPlace), (.ref c_NoText)] = some false)
    (qkk_NoRepeat_2 : PySem.W.kitOne K (.ref c_NoRepeat) (.type "ValueError") = some true)
    (qe_Broken_hg : PySem.W.findIn K (.ref c_Broken) "__getattribute__" = some (some (.builtin "BaseException.__getattribute__")))
    (qe_Broken_hk : PySem.W.findIn K (.ref c_Broken) "__getattr__" = some none)
    (qe_Broken_hs : PySem.W.subIn K (.ref c_Broken) (.type "BaseException") = some true)
    (qe_Broken_hd : PySem.W.hasDictIn K c_Broken = true)
    (qe_Broken_ha : PySem.W.findIn K (.ref c_Broken) "__class__" = some (some (.builtin "object.__class__")))
    (qe_Broken_hn : PySem.W.specialIn K (.builtin "object.__class__") "__get__" = some (some (.builtin "getset_descriptor.__get__")))
    (qe_Broken_ht : PySem.W.takesIn K (.builtin "object.__class__") = some true)
    (qe_Broken_hm : PySem.W.mroIn K c_Broken (.type "object") = some true)
    (qm_Broken_NoBits : PySem.W.subIn K (.ref c_Broken) (.ref c_NoBits) = some false)
    (qm_Broken_NoCode : PySem.W.subIn K (.ref c_Broken) (.ref c_NoCode) = some false)
    (qm_Broken_NoRepeat : PySem.W.subIn K (.ref c_Broken) (.ref c_NoRepeat) = some false)
    (qm_Broken_NoBlock : PySem.W.subIn K (.ref c_Broken) (.ref c_NoBlock) = some false)
    (qm_Broken_PressError : PySem.W.subIn K (.ref c_Broken) (.ref c_PressError) = some true)
    (qkk_Broken_0 : PySem.W.kitOne K (.ref c_Broken) (.ref c_Broken) = some true)
    (qkk_Broken_1 : PySem.W.kitAny K (.ref c_Broken) [(.ref c_NoBlock), (.ref c_NoPlace), (.ref c_NoText)] = some false)
    (qkk_Broken_2 : PySem.W.kitOne K (.ref c_Broken) (.type "ValueError") = some true)
    (a_w_cell : PySem.W.nsIn K mainGlobals "_law_cell" = some (some (.ref f_w_cell)))
    (l_w_cell : K.lookup f_w_cell = some ⟨oc_w_cell, od_w_cell, .func (PySem.W.fnOf "_law_cell" "_law_cell" (defArgs s_w_cell) (defBody s_w_cell) (defScope s_w_cell) .none kV_w_cell dc_w_cell pm_w_cell an_w_cell cd_w_cell ct_w_cell), sl_w_cell⟩)
    (c_w_cell : PySem.W.codeIn K cd_w_cell "_law_cell" = true)
    (k_w_cell : PySem.W.keepIn K (.ref f_w_cell) = true)
    (a_w_purse : PySem.W.nsIn K mainGlobals "_law_purse" = some (some (.ref f_w_purse)))
    (l_w_purse : K.lookup f_w_purse = some ⟨oc_w_purse, od_w_purse, .func (PySem.W.fnOf "_law_purse" "_law_purse" (defArgs s_w_purse) (defBody s_w_purse) (defScope s_w_purse) .none kV_w_purse dc_w_purse pm_w_purse an_w_purse cd_w_purse ct_w_purse), sl_w_purse⟩)
    (c_w_purse : PySem.W.codeIn K cd_w_purse "_law_purse" = true)
    (k_w_purse : PySem.W.keepIn K (.ref f_w_purse) = true)
    (a_w_take : PySem.W.nsIn K mainGlobals "_law_take" = some (some (.ref f_w_take)))
    (l_w_take : K.lookup f_w_take = some ⟨oc_w_take, od_w_take, .func (PySem.W.fnOf "_law_take" "_law_take" (defArgs s_w_take) (defBody s_w_take) (defScope s_w_take) .none kV_w_take dc_w_take pm_w_take an_w_take cd_w_take ct_w_take), sl_w_take⟩)
    (c_w_take : PySem.W.codeIn K cd_w_take "_law_take" = true)
    (k_w_take : PySem.W.keepIn K (.ref f_w_take) = true)
    (a_w_whole : PySem.W.nsIn K mainGlobals "_law_whole" = some (some (.ref f_w_whole)))
    (l_w_whole : K.lookup f_w_whole = some ⟨oc_w_whole, od_w_whole, .func (PySem.W.fnOf "_law_whole" "_law_whole" (defArgs s_w_whole) (defBody s_w_whole) (defScope s_w_whole) .none kV_w_whole dc_w_whole pm_w_whole an_w_whole cd_w_whole ct_w_whole), sl_w_whole⟩)
    (c_w_whole : PySem.W.codeIn K cd_w_whole "_law_whole" = true)
    (k_w_whole : PySem.W.keepIn K (.ref f_w_whole) = true)
    (a_is_whole : PySem.W.nsIn K mainGlobals "is_whole" = some (some (.ref f_is_whole)))
    (l_is_whole : K.lookup f_is_whole = some ⟨oc_is_whole, od_is_whole, .func (PySem.W.fnOf "is_whole" "is_whole" (defArgs s_is_whole) (defBody s_is_whole) (defScope s_is_whole) .none kV_is_whole dc_is_whole pm_is_whole an_is_whole cd_is_whole ct_is_whole), sl_is_whole⟩)
    (c_is_whole : PySem.W.codeIn K cd_is_whole "is_whole" = true)
    (k_is_whole : PySem.W.keepIn K (.ref f_is_whole) = true)
    (a_is_mark : PySem.W.nsIn K mainGlobals "is_mark" = some (some (.ref f_is_mark)))
    (l_is_mark : K.lookup f_is_mark = some ⟨oc_is_mark, od_is_mark, .func (PySem.W.fnOf "is_mark" "is_mark" (defArgs s_is_mark) (defBody s_is_mark) (defScope s_is_mark) .none kV_is_mark dc_is_mark pm_is_mark an_is_mark cd_is_mark ct_is_mark), sl_is_mark⟩)
    (c_is_mark : PySem.W.codeIn K cd_is_mark "is_mark" = true)
    (k_is_mark : PySem.W.keepIn K (.ref f_is_mark) = true)
    (a_is_text : PySem.W.nsIn K mainGlobals "is_text" = some (some (.ref f_is_text)))
    (l_is_text : K.lookup f_is_text = some ⟨oc_is_text, od_is_text, .func (PySem.W.fnOf "is_text" "is_text" (defArgs s_is_text) (defBody s_is_text) (defScope s_is_text) .none kV_is_text dc_is_text pm_is_text an_is_text cd_is_text ct_is_text), sl_is_text⟩)
    (c_is_text : PySem.W.codeIn K cd_is_text "is_text" = true)
    (k_is_text : PySem.W.keepIn K (.ref f_is_text) = true)
    (a_bits_of : PySem.W.nsIn K mainGlobals "bits_of" = some (some (.ref f_bits_of)))
    (l_bits_of : K.lookup f_bits_of = some ⟨oc_bits_of, od_bits_of, .func (PySem.W.fnOf "bits_of" "bits_of" (defArgs s_bits_of) (defBody s_bits_of) (defScope s_bits_of) .none kV_bits_of dc_bits_of pm_bits_of an_bits_of cd_bits_of ct_bits_of), sl_bits_of⟩)
    (c_bits_of : PySem.W.codeIn K cd_bits_of "bits_of" = true)
    (k_bits_of : PySem.W.keepIn K (.ref f_bits_of) = true)
    (a_halves : PySem.W.nsIn K mainGlobals "halves" = some (some (.ref f_halves)))
    (l_halves : K.lookup f_halves = some ⟨oc_halves, od_halves, .func (PySem.W.fnOf "halves" "halves" (defArgs s_halves) (defBody s_halves) (defScope s_halves) .none kV_halves dc_halves pm_halves an_halves cd_halves ct_halves), sl_halves⟩)
    (c_halves : PySem.W.codeIn K cd_halves "halves" = true)
    (k_halves : PySem.W.keepIn K (.ref f_halves) = true)
    (a_laid : PySem.W.nsIn K mainGlobals "laid" = some (some (.ref f_laid)))
    (l_laid : K.lookup f_laid = some ⟨oc_laid, od_laid, .func (PySem.W.fnOf "laid" "laid" (defArgs s_laid) (defBody s_laid) (defScope s_laid) .none kV_laid dc_laid pm_laid an_laid cd_laid ct_laid), sl_laid⟩)
    (c_laid : PySem.W.codeIn K cd_laid "laid" = true)
    (k_laid : PySem.W.keepIn K (.ref f_laid) = true)
    (a_Bits___init__ : PySem.W.findIn K (.ref c_Bits) "__init__" = some (some (.ref f_Bits___init__)))
    (i_Bits___init__ : PySem.W.isFn K (.ref f_Bits___init__) = true)
    (l_Bits___init__ : K.lookup f_Bits___init__ = some ⟨oc_Bits___init__, od_Bits___init__, .func (PySem.W.fnOf "__init__" "Bits.__init__" (defArgs s_Bits___init__) (defBody s_Bits___init__) (defScope s_Bits___init__) .none kV_Bits___init__ dc_Bits___init__ pm_Bits___init__ an_Bits___init__ cd_Bits___init__ ct_Bits___init__), sl_Bits___init__⟩)
    (c_Bits___init__ : PySem.W.codeIn K cd_Bits___init__ "Bits.__init__" = true)
    (k_Bits___init__ : PySem.W.keepIn K (.ref f_Bits___init__) = true)
    (a_Bits_left : PySem.W.findIn K (.ref c_Bits) "left" = some (some (.ref f_Bits_left)))
    (i_Bits_left : PySem.W.isFn K (.ref f_Bits_left) = true)
    (l_Bits_left : K.lookup f_Bits_left = some ⟨oc_Bits_left, od_Bits_left, .func (PySem.W.fnOf "left" "Bits.left" (defArgs s_Bits_left) (defBody s_Bits_left) (defScope s_Bits_left) .none kV_Bits_left dc_Bits_left pm_Bits_left an_Bits_left cd_Bits_left ct_Bits_left), sl_Bits_left⟩)
    (c_Bits_left : PySem.W.codeIn K cd_Bits_left "Bits.left" = true)
    (k_Bits_left : PySem.W.keepIn K (.ref f_Bits_left) = true)
    (a_Bits_take : PySem.W.findIn K (.ref c_Bits) "take" = some (some (.ref f_Bits_take)))
    (i_Bits_take : PySem.W.isFn K (.ref f_Bits_take) = true)
    (l_Bits_take : K.lookup f_Bits_take = some ⟨oc_Bits_take, od_Bits_take, .func (PySem.W.fnOf "take" "Bits.take" (defArgs s_Bits_take) (defBody s_Bits_take) (defScope s_Bits_take) .none kV_Bits_take dc_Bits_take pm_Bits_take an_Bits_take cd_Bits_take ct_Bits_take), sl_Bits_take⟩)
    (c_Bits_take : PySem.W.codeIn K cd_Bits_take "Bits.take" = true)
    (k_Bits_take : PySem.W.keepIn K (.ref f_Bits_take) = true)
    (a_Bits_take_halves : PySem.W.findIn K (.ref c_Bits) "take_halves" = some (some (.ref f_Bits_take_halves)))
    (i_Bits_take_halves : PySem.W.isFn K (.ref f_Bits_take_halves) = true)
    (l_Bits_take_halves : K.lookup f_Bits_take_halves = some ⟨oc_Bits_take_halves, od_Bits_take_halves, .func (PySem.W.fnOf "take_halves" "Bits.take_halves" (defArgs s_Bits_take_halves) (defBody s_Bits_take_halves) (defScope s_Bits_take_halves) .none kV_Bits_take_halves dc_Bits_take_halves pm_Bits_take_halves an_Bits_take_halves cd_Bits_take_halves ct_Bits_take_halves), sl_Bits_take_halves⟩)
    (c_Bits_take_halves : PySem.W.codeIn K cd_Bits_take_halves "Bits.take_halves" = true)
    (k_Bits_take_halves : PySem.W.keepIn K (.ref f_Bits_take_halves) = true)
    (a_look_at_block : PySem.W.nsIn K mainGlobals "look_at_block" = some (some (.ref f_look_at_block)))
    (l_look_at_block : K.lookup f_look_at_block = some ⟨oc_look_at_block, od_look_at_block, .func (PySem.W.fnOf "look_at_block" "look_at_block" (defArgs s_look_at_block) (defBody s_look_at_block) (defScope s_look_at_block) .none kV_look_at_block dc_look_at_block pm_look_at_block an_look_at_block cd_look_at_block ct_look_at_block), sl_look_at_block⟩)
    (c_look_at_block : PySem.W.codeIn K cd_look_at_block "look_at_block" = true)
    (k_look_at_block : PySem.W.keepIn K (.ref f_look_at_block) = true)
    (a_Heap___init__ : PySem.W.findIn K (.ref c_Heap) "__init__" = some (some (.ref f_Heap___init__)))
    (i_Heap___init__ : PySem.W.isFn K (.ref f_Heap___init__) = true)
    (l_Heap___init__ : K.lookup f_Heap___init__ = some ⟨oc_Heap___init__, od_Heap___init__, .func (PySem.W.fnOf "__init__" "Heap.__init__" (defArgs s_Heap___init__) (defBody s_Heap___init__) (defScope s_Heap___init__) .none kV_Heap___init__ dc_Heap___init__ pm_Heap___init__ an_Heap___init__ cd_Heap___init__ ct_Heap___init__), sl_Heap___init__⟩)
    (c_Heap___init__ : PySem.W.codeIn K cd_Heap___init__ "Heap.__init__" = true)
    (k_Heap___init__ : PySem.W.keepIn K (.ref f_Heap___init__) = true)
    (a_Heap_take_least : PySem.W.findIn K (.ref c_Heap) "take_least" = some (some (.ref f_Heap_take_least)))
    (i_Heap_take_least : PySem.W.isFn K (.ref f_Heap_take_least) = true)
    (l_Heap_take_least : K.lookup f_Heap_take_least = some ⟨oc_Heap_take_least, od_Heap_take_least, .func (PySem.W.fnOf "take_least" "Heap.take_least" (defArgs s_Heap_take_least) (defBody s_Heap_take_least) (defScope s_Heap_take_least) .none kV_Heap_take_least dc_Heap_take_least pm_Heap_take_least an_Heap_take_least cd_Heap_take_least ct_Heap_take_least), sl_Heap_take_least⟩)
    (c_Heap_take_least : PySem.W.codeIn K cd_Heap_take_least "Heap.take_least" = true)
    (k_Heap_take_least : PySem.W.keepIn K (.ref f_Heap_take_least) = true)
    (a_Heap_merge : PySem.W.findIn K (.ref c_Heap) "merge" = some (some (.ref f_Heap_merge)))
    (i_Heap_merge : PySem.W.isFn K (.ref f_Heap_merge) = true)
    (l_Heap_merge : K.lookup f_Heap_merge = some ⟨oc_Heap_merge, od_Heap_merge, .func (PySem.W.fnOf "merge" "Heap.merge" (defArgs s_Heap_merge) (defBody s_Heap_merge) (defScope s_Heap_merge) .none kV_Heap_merge dc_Heap_merge pm_Heap_merge an_Heap_merge cd_Heap_merge ct_Heap_merge), sl_Heap_merge⟩)
    (c_Heap_merge : PySem.W.codeIn K cd_Heap_merge "Heap.merge" = true)
    (k_Heap_merge : PySem.W.keepIn K (.ref f_Heap_merge) = true)
    (a_Heap_merge_all : PySem.W.findIn K (.ref c_Heap) "merge_all" = some (some (.ref f_Heap_merge_all)))
    (i_Heap_merge_all : PySem.W.isFn K (.ref f_Heap_merge_all) = true)
    (l_Heap_merge_all : K.lookup f_Heap_merge_all = some ⟨oc_Heap_merge_all, od_Heap_merge_all, .func (PySem.W.fnOf "merge_all" "Heap.merge_all" (defArgs s_Heap_merge_all) (defBody s_Heap_merge_all) (defScope s_Heap_merge_all) .none kV_Heap_merge_all dc_Heap_merge_all pm_Heap_merge_all an_Heap_merge_all cd_Heap_merge_all ct_Heap_merge_all), sl_Heap_merge_all⟩)
    (c_Heap_merge_all : PySem.W.codeIn K cd_Heap_merge_all "Heap.merge_all" = true)
    (k_Heap_merge_all : PySem.W.keepIn K (.ref f_Heap_merge_all) = true)
    (a_lengths_of : PySem.W.nsIn K mainGlobals "lengths_of" = some (some (.ref f_lengths_of)))
    (l_lengths_of : K.lookup f_lengths_of = some ⟨oc_lengths_of, od_lengths_of, .func (PySem.W.fnOf "lengths_of" "lengths_of" (defArgs s_lengths_of) (defBody s_lengths_of) (defScope s_lengths_of) .none kV_lengths_of dc_lengths_of pm_lengths_of an_lengths_of cd_lengths_of ct_lengths_of), sl_lengths_of⟩)
    (c_lengths_of : PySem.W.codeIn K cd_lengths_of "lengths_of" = true)
    (k_lengths_of : PySem.W.keepIn K (.ref f_lengths_of) = true)
    (a_look_at_lengths : PySem.W.nsIn K mainGlobals "look_at_lengths" = some (some (.ref f_look_at_lengths)))
    (l_look_at_lengths : K.lookup f_look_at_lengths = some ⟨oc_look_at_lengths, od_look_at_lengths, .func (PySem.W.fnOf "look_at_lengths" "look_at_lengths" (defArgs s_look_at_lengths) (defBody s_look_at_lengths) (defScope s_look_at_lengths) .none kV_look_at_lengths dc_look_at_lengths pm_look_at_lengths an_look_at_lengths cd_look_at_lengths ct_look_at_lengths), sl_look_at_lengths⟩)
    (c_look_at_lengths : PySem.W.codeIn K cd_look_at_lengths "look_at_lengths" = true)
    (k_look_at_lengths : PySem.W.keepIn K (.ref f_look_at_lengths) = true)
    (a_written : PySem.W.nsIn K mainGlobals "written" = some (some (.ref f_written)))
    (l_written : K.lookup f_written = some ⟨oc_written, od_written, .func (PySem.W.fnOf "written" "written" (defArgs s_written) (defBody s_written) (defScope s_written) .none kV_written dc_written pm_written an_written cd_written ct_written), sl_written⟩)
    (c_written : PySem.W.codeIn K cd_written "written" = true)
    (k_written : PySem.W.keepIn K (.ref f_written) = true)
    (a_codes_of : PySem.W.nsIn K mainGlobals "codes_of" = some (some (.ref f_codes_of)))
    (l_codes_of : K.lookup f_codes_of = some ⟨oc_codes_of, od_codes_of, .func (PySem.W.fnOf "codes_of" "codes_of" (defArgs s_codes_of) (defBody s_codes_of) (defScope s_codes_of) .none kV_codes_of dc_codes_of pm_codes_of an_codes_of cd_codes_of ct_codes_of), sl_codes_of⟩)
    (c_codes_of : PySem.W.codeIn K cd_codes_of "codes_of" = true)
    (k_codes_of : PySem.W.keepIn K (.ref f_codes_of) = true)
    (a_run_at : PySem.W.nsIn K mainGlobals "run_at" = some (some (.ref f_run_at)))
    (l_run_at : K.lookup f_run_at = some ⟨oc_run_at, od_run_at, .func (PySem.W.fnOf "run_at" "run_at" (defArgs s_run_at) (defBody s_run_at) (defScope s_run_at) .none kV_run_at dc_run_at pm_run_at an_run_at cd_run_at ct_run_at), sl_run_at⟩)
    (c_run_at : PySem.W.codeIn K cd_run_at "run_at" = true)
    (k_run_at : PySem.W.keepIn K (.ref f_run_at) = true)
    (a_repeat_at : PySem.W.nsIn K mainGlobals "repeat_at" = some (some (.ref f_repeat_at)))
    (l_repeat_at : K.lookup f_repeat_at = some ⟨oc_repeat_at, od_repeat_at, .func (PySem.W.fnOf "repeat_at" "repeat_at" (defArgs s_repeat_at) (defBody s_repeat_at) (defScope s_repeat_at) .none kV_repeat_at dc_repeat_at pm_repeat_at an_repeat_at cd_repeat_at ct_repeat_at), sl_repeat_at⟩)
    (c_repeat_at : PySem.W.codeIn K cd_repeat_at "repeat_at" = true)
    (k_repeat_at : PySem.W.keepIn K (.ref f_repeat_at) = true)
    (a_tokens_of : PySem.W.nsIn K mainGlobals "tokens_of" = some (some (.ref f_tokens_of)))
    (l_tokens_of : K.lookup f_tokens_of = some ⟨oc_tokens_of, od_tokens_of, .func (PySem.W.fnOf "tokens_of" "tokens_of" (defArgs s_tokens_of) (defBody s_tokens_of) (defScope s_tokens_of) .none kV_tokens_of dc_tokens_of pm_tokens_of an_tokens_of cd_tokens_of ct_tokens_of), sl_tokens_of⟩)
    (c_tokens_of : PySem.W.codeIn K cd_tokens_of "tokens_of" = true)
    (k_tokens_of : PySem.W.keepIn K (.ref f_tokens_of) = true)
    (a_look_at_repeat : PySem.W.nsIn K mainGlobals "look_at_repeat" = some (some (.ref f_look_at_repeat)))
    (l_look_at_repeat : K.lookup f_look_at_repeat = some ⟨oc_look_at_repeat, od_look_at_repeat, .func (PySem.W.fnOf "look_at_repeat" "look_at_repeat" (defArgs s_look_at_repeat) (defBody s_look_at_repeat) (defScope s_look_at_repeat) .none kV_look_at_repeat dc_look_at_repeat pm_look_at_repeat an_look_at_repeat cd_look_at_repeat ct_look_at_repeat), sl_look_at_repeat⟩)
    (c_look_at_repeat : PySem.W.codeIn K cd_look_at_repeat "look_at_repeat" = true)
    (k_look_at_repeat : PySem.W.keepIn K (.ref f_look_at_repeat) = true)
    (a_laid_out : PySem.W.nsIn K mainGlobals "laid_out" = some (some (.ref f_laid_out)))
    (l_laid_out : K.lookup f_laid_out = some ⟨oc_laid_out, od_laid_out, .func (PySem.W.fnOf "laid_out" "laid_out" (defArgs s_laid_out) (defBody s_laid_out) (defScope s_laid_out) .none kV_laid_out dc_laid_out pm_laid_out an_laid_out cd_laid_out ct_laid_out), sl_laid_out⟩)
    (c_laid_out : PySem.W.codeIn K cd_laid_out "laid_out" = true)
    (k_laid_out : PySem.W.keepIn K (.ref f_laid_out) = true)
    (a_symbol_of : PySem.W.nsIn K mainGlobals "symbol_of" = some (some (.ref f_symbol_of)))
    (l_symbol_of : K.lookup f_symbol_of = some ⟨oc_symbol_of, od_symbol_of, .func (PySem.W.fnOf "symbol_of" "symbol_of" (defArgs s_symbol_of) (defBody s_symbol_of) (defScope s_symbol_of) .none kV_symbol_of dc_symbol_of pm_symbol_of an_symbol_of cd_symbol_of ct_symbol_of), sl_symbol_of⟩)
    (c_symbol_of : PySem.W.codeIn K cd_symbol_of "symbol_of" = true)
    (k_symbol_of : PySem.W.keepIn K (.ref f_symbol_of) = true)
    (a_counts_of : PySem.W.nsIn K mainGlobals "counts_of" = some (some (.ref f_counts_of)))
    (l_counts_of : K.lookup f_counts_of = some ⟨oc_counts_of, od_counts_of, .func (PySem.W.fnOf "counts_of" "counts_of" (defArgs s_counts_of) (defBody s_counts_of) (defScope s_counts_of) .none kV_counts_of dc_counts_of pm_counts_of an_counts_of cd_counts_of ct_counts_of), sl_counts_of⟩)
    (c_counts_of : PySem.W.codeIn K cd_counts_of "counts_of" = true)
    (k_counts_of : PySem.W.keepIn K (.ref f_counts_of) = true)
    (a_table_bits : PySem.W.nsIn K mainGlobals "table_bits" = some (some (.ref f_table_bits)))
    (l_table_bits : K.lookup f_table_bits = some ⟨oc_table_bits, od_table_bits, .func (PySem.W.fnOf "table_bits" "table_bits" (defArgs s_table_bits) (defBody s_table_bits) (defScope s_table_bits) .none kV_table_bits dc_table_bits pm_table_bits an_table_bits cd_table_bits ct_table_bits), sl_table_bits⟩)
    (c_table_bits : PySem.W.codeIn K cd_table_bits "table_bits" = true)
    (k_table_bits : PySem.W.keepIn K (.ref f_table_bits) = true)
    (a_token_bits : PySem.W.nsIn K mainGlobals "token_bits" = some (some (.ref f_token_bits)))
    (l_token_bits : K.lookup f_token_bits = some ⟨oc_token_bits, od_token_bits, .func (PySem.W.fnOf "token_bits" "token_bits" (defArgs s_token_bits) (defBody s_token_bits) (defScope s_token_bits) .none kV_token_bits dc_token_bits pm_token_bits an_token_bits cd_token_bits ct_token_bits), sl_token_bits⟩)
    (c_token_bits : PySem.W.codeIn K cd_token_bits "token_bits" = true)
    (k_token_bits : PySem.W.keepIn K (.ref f_token_bits) = true)
    (a_packed : PySem.W.nsIn K mainGlobals "packed" = some (some (.ref f_packed)))
    (l_packed : K.lookup f_packed = some ⟨oc_packed, od_packed, .func (PySem.W.fnOf "packed" "packed" (defArgs s_packed) (defBody s_packed) (defScope s_packed) .none kV_packed dc_packed pm_packed an_packed cd_packed ct_packed), sl_packed⟩)
    (c_packed : PySem.W.codeIn K cd_packed "packed" = true)
    (k_packed : PySem.W.keepIn K (.ref f_packed) = true)
    (a_plain : PySem.W.nsIn K mainGlobals "plain" = some (some (.ref f_plain)))
    (l_plain : K.lookup f_plain = some ⟨oc_plain, od_plain, .func (PySem.W.fnOf "plain" "plain" (defArgs s_plain) (defBody s_plain) (defScope s_plain) .none kV_plain dc_plain pm_plain an_plain cd_plain ct_plain), sl_plain⟩)
    (c_plain : PySem.W.codeIn K cd_plain "plain" = true)
    (k_plain : PySem.W.keepIn K (.ref f_plain) = true)
    (a_pressed : PySem.W.nsIn K mainGlobals "pressed" = some (some (.ref f_pressed)))
    (l_pressed : K.lookup f_pressed = some ⟨oc_pressed, od_pressed, .func (PySem.W.fnOf "pressed" "pressed" (defArgs s_pressed) (defBody s_pressed) (defScope s_pressed) .none kV_pressed dc_pressed pm_pressed an_pressed cd_pressed ct_pressed), sl_pressed⟩)
    (c_pressed : PySem.W.codeIn K cd_pressed "pressed" = true)
    (k_pressed : PySem.W.keepIn K (.ref f_pressed) = true)
    (a_read_table : PySem.W.nsIn K mainGlobals "read_table" = some (some (.ref f_read_table)))
    (l_read_table : K.lookup f_read_table = some ⟨oc_read_table, od_read_table, .func (PySem.W.fnOf "read_table" "read_table" (defArgs s_read_table) (defBody s_read_table) (defScope s_read_table) .none kV_read_table dc_read_table pm_read_table an_read_table cd_read_table ct_read_table), sl_read_table⟩)
    (c_read_table : PySem.W.codeIn K cd_read_table "read_table" = true)
    (k_read_table : PySem.W.keepIn K (.ref f_read_table) = true)
    (a_read_token : PySem.W.nsIn K mainGlobals "read_token" = some (some (.ref f_read_token)))
    (l_read_token : K.lookup f_read_token = some ⟨oc_read_token, od_read_token, .func (PySem.W.fnOf "read_token" "read_token" (defArgs s_read_token) (defBody s_read_token) (defScope s_read_token) .none kV_read_token dc_read_token pm_read_token an_read_token cd_read_token ct_read_token), sl_read_token⟩)
    (c_read_token : PySem.W.codeIn K cd_read_token "read_token" = true)
    (k_read_token : PySem.W.keepIn K (.ref f_read_token) = true)
    (a_read_block : PySem.W.nsIn K mainGlobals "read_block" = some (some (.ref f_read_block)))
    (l_read_block : K.lookup f_read_block = some ⟨oc_read_block, od_read_block, .func (PySem.W.fnOf "read_block" "read_block" (defArgs s_read_block) (defBody s_read_block) (defScope s_read_block) .none kV_read_block dc_read_block pm_read_block an_read_block cd_read_block ct_read_block), sl_read_block⟩)
    (c_read_block : PySem.W.codeIn K cd_read_block "read_block" = true)
    (k_read_block : PySem.W.keepIn K (.ref f_read_block) = true)
    (a_opened : PySem.W.nsIn K mainGlobals "opened" = some (some (.ref f_opened)))
    (l_opened : K.lookup f_opened = some ⟨oc_opened, od_opened, .func (PySem.W.fnOf "opened" "opened" (defArgs s_opened) (defBody s_opened) (defScope s_opened) .none kV_opened dc_opened pm_opened an_opened cd_opened ct_opened), sl_opened⟩)
    (c_opened : PySem.W.codeIn K cd_opened "opened" = true)
    (k_opened : PySem.W.keepIn K (.ref f_opened) = true)
    (a_number_of : PySem.W.nsIn K mainGlobals "number_of" = some (some (.ref f_number_of)))
    (l_number_of : K.lookup f_number_of = some ⟨oc_number_of, od_number_of, .func (PySem.W.fnOf "number_of" "number_of" (defArgs s_number_of) (defBody s_number_of) (defScope s_number_of) .none kV_number_of dc_number_of pm_number_of an_number_of cd_number_of ct_number_of), sl_number_of⟩)
    (c_number_of : PySem.W.codeIn K cd_number_of "number_of" = true)
    (k_number_of : PySem.W.keepIn K (.ref f_number_of) = true)
    (a_check : PySem.W.nsIn K mainGlobals "check" = some (some (.ref f_check)))
    (l_check : K.lookup f_check = some ⟨oc_check, od_check, .func (PySem.W.fnOf "check" "check" (defArgs s_check) (defBody s_check) (defScope s_check) .none kV_check dc_check pm_check an_check cd_check ct_check), sl_check⟩)
    (c_check : PySem.W.codeIn K cd_check "check" = true)
    (k_check : PySem.W.keepIn K (.ref f_check) = true)
    (a_is_low : PySem.W.nsIn K mainGlobals "is_low" = some (some (.ref f_is_low)))
    (l_is_low : K.lookup f_is_low = some ⟨oc_is_low, od_is_low, .func (PySem.W.fnOf "is_low" "is_low" (defArgs s_is_low) (defBody s_is_low) (defScope s_is_low) .none kV_is_low dc_is_low pm_is_low an_is_low cd_is_low ct_is_low), sl_is_low⟩)
    (c_is_low : PySem.W.codeIn K cd_is_low "is_low" = true)
    (k_is_low : PySem.W.keepIn K (.ref f_is_low) = true)
    (a_size_of : PySem.W.nsIn K mainGlobals "size_of" = some (some (.ref f_size_of)))
    (l_size_of : K.lookup f_size_of = some ⟨oc_size_of, od_size_of, .func (PySem.W.fnOf "size_of" "size_of" (defArgs s_size_of) (defBody s_size_of) (defScope s_size_of) .none kV_size_of dc_size_of pm_size_of an_size_of cd_size_of ct_size_of), sl_size_of⟩)
    (c_size_of : PySem.W.codeIn K cd_size_of "size_of" = true)
    (k_size_of : PySem.W.keepIn K (.ref f_size_of) = true)
    (a_is_block : PySem.W.nsIn K mainGlobals "is_block" = some (some (.ref f_is_block)))
    (l_is_block : K.lookup f_is_block = some ⟨oc_is_block, od_is_block, .func (PySem.W.fnOf "is_block" "is_block" (defArgs s_is_block) (defBody s_is_block) (defScope s_is_block) .none kV_is_block dc_is_block pm_is_block an_is_block cd_is_block ct_is_block), sl_is_block⟩)
    (c_is_block : PySem.W.codeIn K cd_is_block "is_block" = true)
    (k_is_block : PySem.W.keepIn K (.ref f_is_block) = true)
    (a_is_body : PySem.W.nsIn K mainGlobals "is_body" = some (some (.ref f_is_body)))
    (l_is_body : K.lookup f_is_body = some ⟨oc_is_body, od_is_body, .func (PySem.W.fnOf "is_body" "is_body" (defArgs s_is_body) (defBody s_is_body) (defScope s_is_body) .none kV_is_body dc_is_body pm_is_body an_is_body cd_is_body ct_is_body), sl_is_body⟩)
    (c_is_body : PySem.W.codeIn K cd_is_body "is_body" = true)
    (k_is_body : PySem.W.keepIn K (.ref f_is_body) = true)
    (a_read_frame : PySem.W.nsIn K mainGlobals "read_frame" = some (some (.ref f_read_frame)))
    (l_read_frame : K.lookup f_read_frame = some ⟨oc_read_frame, od_read_frame, .func (PySem.W.fnOf "read_frame" "read_frame" (defArgs s_read_frame) (defBody s_read_frame) (defScope s_read_frame) .none kV_read_frame dc_read_frame pm_read_frame an_read_frame cd_read_frame ct_read_frame), sl_read_frame⟩)
    (c_read_frame : PySem.W.codeIn K cd_read_frame "read_frame" = true)
    (k_read_frame : PySem.W.keepIn K (.ref f_read_frame) = true)
    (a_w_low : PySem.W.nsIn K mainGlobals "_law_low" = some (some (.ref f_w_low)))
    (l_w_low : K.lookup f_w_low = some ⟨oc_w_low, od_w_low, .func (PySem.W.fnOf "_law_low" "_law_low" (defArgs s_w_low) (defBody s_w_low) (defScope s_w_low) .none kV_w_low dc_w_low pm_w_low an_w_low cd_w_low ct_w_low), sl_w_low⟩)
    (c_w_low : PySem.W.codeIn K cd_w_low "_law_low" = true)
    (k_w_low : PySem.W.keepIn K (.ref f_w_low) = true)
    (a_w_check : PySem.W.nsIn K mainGlobals "_law_check" = some (some (.ref f_w_check)))
    (l_w_check : K.lookup f_w_check = some ⟨oc_w_check, od_w_check, .func (PySem.W.fnOf "_law_check" "_law_check" (defArgs s_w_check) (defBody s_w_check) (defScope s_w_check) .none kV_w_check dc_w_check pm_w_check an_w_check cd_w_check ct_w_check), sl_w_check⟩)
    (c_w_check : PySem.W.codeIn K cd_w_check "_law_check" = true)
    (k_w_check : PySem.W.keepIn K (.ref f_w_check) = true)
    (a_w_frame : PySem.W.nsIn K mainGlobals "_law_frame" = some (some (.ref f_w_frame)))
    (l_w_frame : K.lookup f_w_frame = some ⟨oc_w_frame, od_w_frame, .func (PySem.W.fnOf "_law_frame" "_law_frame" (defArgs s_w_frame) (defBody s_w_frame) (defScope s_w_frame) .none kV_w_frame dc_w_frame pm_w_frame an_w_frame cd_w_frame ct_w_frame), sl_w_frame⟩)
    (c_w_frame : PySem.W.codeIn K cd_w_frame "_law_frame" = true)
    (k_w_frame : PySem.W.keepIn K (.ref f_w_frame) = true)
    (a_w_drawn : PySem.W.nsIn K mainGlobals "_law_drawn" = some (some (.ref f_w_drawn)))
    (l_w_drawn : K.lookup f_w_drawn = some ⟨oc_w_drawn, od_w_drawn, .func (PySem.W.fnOf "_law_drawn" "_law_drawn" (defArgs s_w_drawn) (defBody s_w_drawn) (defScope s_w_drawn) .none kV_w_drawn dc_w_drawn pm_w_drawn an_w_drawn cd_w_drawn ct_w_drawn), sl_w_drawn⟩)
    (c_w_drawn : PySem.W.codeIn K cd_w_drawn "_law_drawn" = true)
    (k_w_drawn : PySem.W.keepIn K (.ref f_w_drawn) = true)
    (a_w_refused : PySem.W.nsIn K mainGlobals "_law_refused" = some (some (.ref f_w_refused)))
    (l_w_refused : K.lookup f_w_refused = some ⟨oc_w_refused, od_w_refused, .func (PySem.W.fnOf "_law_refused" "_law_refused" (defArgs s_w_refused) (defBody s_w_refused) (defScope s_w_refused) .none kV_w_refused dc_w_refused pm_w_refused an_w_refused cd_w_refused ct_w_refused), sl_w_refused⟩)
    (c_w_refused : PySem.W.codeIn K cd_w_refused "_law_refused" = true)
    (k_w_refused : PySem.W.keepIn K (.ref f_w_refused) = true)
    (a_w_wrong_bodies : PySem.W.nsIn K mainGlobals "_law_wrong_bodies" = some (some (.ref f_w_wrong_bodies)))
    (l_w_wrong_bodies : K.lookup f_w_wrong_bodies = some ⟨oc_w_wrong_bodies, od_w_wrong_bodies, .func (PySem.W.fnOf "_law_wrong_bodies" "_law_wrong_bodies" (defArgs s_w_wrong_bodies) (defBody s_w_wrong_bodies) (defScope s_w_wrong_bodies) .none kV_w_wrong_bodies dc_w_wrong_bodies pm_w_wrong_bodies an_w_wrong_bodies cd_w_wrong_bodies ct_w_wrong_bodies), sl_w_wrong_bodies⟩)
    (c_w_wrong_bodies : PySem.W.codeIn K cd_w_wrong_bodies "_law_wrong_bodies" = true)
    (k_w_wrong_bodies : PySem.W.keepIn K (.ref f_w_wrong_bodies) = true)
    (a_law : PySem.W.nsIn K mainGlobals "law" = some (some (.ref f_law)))
    (l_law : K.lookup f_law = some ⟨oc_law, od_law, .func (PySem.W.fnOf "law" "law" (defArgs s_law) (defBody s_law) (defScope s_law) .none kV_law dc_law pm_law an_law cd_law ct_law), sl_law⟩)
    (c_law : PySem.W.codeIn K cd_law "law" = true)
    (k_law : PySem.W.keepIn K (.ref f_law) = true)
    (z_ValueError : PySem.W.nsIn K mainGlobals "ValueError" = some none)
    (z_bool : PySem.W.nsIn K mainGlobals "bool" = some none)
    (z_enumerate : PySem.W.nsIn K mainGlobals "enumerate" = some none)
    (z_int : PySem.W.nsIn K mainGlobals "int" = some none)
    (z_isinstance : PySem.W.nsIn K mainGlobals "isinstance" = some none)
    (z_len : PySem.W.nsIn K mainGlobals "len" = some none)
    (z_list : PySem.W.nsIn K mainGlobals "list" = some none)
    (z_max : PySem.W.nsIn K mainGlobals "max" = some none)
    (z_range : PySem.W.nsIn K mainGlobals "range" = some none)
    (z_sorted : PySem.W.nsIn K mainGlobals "sorted" = some none)
    (z_tuple : PySem.W.nsIn K mainGlobals "tuple" = some none)
    (z_AGAIN : PySem.W.nsIn K mainGlobals "AGAIN" = some (some (.int (129) t_AGAIN)))
    (z_AROUND : PySem.W.nsIn K mainGlobals "AROUND" = some (some (.int (7) t_AROUND)))
    (z_BACK_BITS : PySem.W.nsIn K mainGlobals "BACK_BITS" = some (some (.int (6) t_BACK_BITS)))
    (z_BLOCK : PySem.W.nsIn K mainGlobals "BLOCK" = some (some (.int (128) t_BLOCK)))
    (z_END : PySem.W.nsIn K mainGlobals "END" = some (some (.int (131) t_END)))
    (z_HEAD : PySem.W.nsIn K mainGlobals "HEAD" = some (some (.int (5) t_HEAD)))
    (z_KID : PySem.W.nsIn K mainGlobals "KID" = some (some (.int (6) t_KID)))
    (z_KINDS : PySem.W.nsIn K mainGlobals "KINDS" = some (some (.ref a_KINDS)))
    (y_KINDS : K.lookup a_KINDS = some ⟨.type "tuple", od_KINDS, .seq #[(.int (128) t0_KINDS), (.int (129) t1_KINDS), (.int (130) t2_KINDS), (.int (131) t3_KINDS)] nn_KINDS, sl_KINDS⟩)
    (z_LONGER : PySem.W.nsIn K mainGlobals "LONGER" = some (some (.int (253) t_LONGER)))
    (z_LONGEST : PySem.W.nsIn K mainGlobals "LONGEST" = some (some (.int (60) t_LONGEST)))
    (z_MOST_MARKS : PySem.W.nsIn K mainGlobals "MOST_MARKS" = some (some (.int (48) t_MOST_MARKS)))
    (z_MOST_SYMBOL : PySem.W.nsIn K mainGlobals "MOST_SYMBOL" = some (some (.int (300) t_MOST_SYMBOL)))
    (z_PRIME : PySem.W.nsIn K mainGlobals "PRIME" = some (some (.int (16381) t_PRIME)))
    (z_SHORTEST : PySem.W.nsIn K mainGlobals "SHORTEST" = some (some (.int (3) t_SHORTEST)))
    (z_WIDE : PySem.W.nsIn K mainGlobals "WIDE" = some (some (.int (7) t_WIDE)))
    : ∃ (A : Ads) (fd : FuncData), (∀ (s : Shared) (v : Value), BindsTo s fd ⟨[v], []⟩ [("_law_script", v)]) ∧ ∀ base : Heap, K.In base → base.Ns mainGlobals mg → FnOk l.prog w K mg base CX0 12 fa fd ["_law_script"] (sp_law K A) := by
  have e := hfa.symm.trans (PySem.W.mg_of X G a_law)
  cases e
  have Fc : Fct K ⟨c_Bits, c_NoBits, c_NoBlock, c_Heap, c_NoCode, c_NoRepeat, c_Broken, c_PressError, c_NoText, c_NoPlace, a_KINDS, i_Broken⟩ := ⟨⟨pg_Bits, hd_Bits, po_Bits, sa_Bits⟩, n_Bits_at, n_Bits_row, ⟨pg_Heap, hd_Heap, po_Heap, sa_Heap⟩, n_Heap_deep, n_Heap_things, ⟨qe_NoBits_hg, qe_NoBits_hk, qe_NoBits_hs, qe_NoBits_hd, qe_NoBits_ha, qe_NoBits_hn, qe_NoBits_ht, qe_NoBits_hm⟩, PySem.W.exm_ref hs_NoBits hh_NoBits ht_NoBits qm_NoBits_NoBits, PySem.W.exm_ref hs_NoCode hh_NoCode ht_NoCode qm_NoBits_NoCode, PySem.W.exm_ref hs_NoRepeat hh_NoRepeat ht_NoRepeat qm_NoBits_NoRepeat, PySem.W.exm_ref hs_NoBlock hh_NoBlock ht_NoBlock qm_NoBits_NoBlock, PySem.W.exm_ref hs_PressError hh_PressError ht_PressError qm_NoBits_PressError, exmAny3 (PySem.W.exm_ref hs_NoBits hh_NoBits ht_NoBits qm_NoBits_NoBits) (PySem.W.exm_ref hs_NoCode hh_NoCode ht_NoCode qm_NoBits_NoCode) (PySem.W.exm_ref hs_NoRepeat hh_NoRepeat ht_NoRepeat qm_NoBits_NoRepeat), qkk_NoBits_0, qkk_NoBits_1, qkk_NoBits_2, ⟨qe_NoBlock_hg, qe_NoBlock_hk, qe_NoBlock_hs, qe_NoBlock_hd, qe_NoBlock_ha, qe_NoBlock_hn, qe_NoBlock_ht, qe_NoBlock_hm⟩, PySem.W.exm_ref hs_NoBits hh_NoBits ht_NoBits qm_NoBlock_NoBits, PySem.W.exm_ref hs_NoCode hh_NoCode ht_NoCode qm_NoBlock_NoCode, PySem.W.exm_ref hs_NoRepeat hh_NoRepeat ht_NoRepeat qm_NoBlock_NoRepeat, PySem.W.exm_ref hs_NoBlock hh_NoBlock ht_NoBlock qm_NoBlock_NoBlock, PySem.W.exm_ref hs_PressError hh_PressError ht_PressError qm_NoBlock_PressError, exmAny3 (PySem.W.exm_ref hs_NoBits hh_NoBits ht_NoBits qm_NoBlock_NoBits) (PySem.W.exm_ref hs_NoCode hh_NoCode ht_NoCode qm_NoBlock_NoCode) (PySem.W.exm_ref hs_NoRepeat hh_NoRepeat ht_NoRepeat qm_NoBlock_NoRepeat), qkk_NoBlock_0, qkk_NoBlock_1, qkk_NoBlock_2, ⟨qe_NoCode_hg, qe_NoCode_hk, qe_NoCode_hs, qe_NoCode_hd, qe_NoCode_ha, qe_NoCode_hn, qe_NoCode_ht, qe_NoCode_hm⟩, PySem.W.exm_ref hs_NoBits hh_NoBits ht_NoBits qm_NoCode_NoBits, PySem.W.exm_ref hs_NoCode hh_NoCode ht_NoCode qm_NoCode_NoCode, PySem.W.exm_ref hs_NoRepeat hh_NoRepeat ht_NoRepeat qm_NoCode_NoRepeat, PySem.W.exm_ref hs_NoBlock hh_NoBlock ht_NoBlock qm_NoCode_NoBlock, PySem.W.exm_ref hs_PressError hh_PressError ht_PressError qm_NoCode_PressError, exmAny3 (PySem.W.exm_ref hs_NoBits hh_NoBits ht_NoBits qm_NoCode_NoBits) (PySem.W.exm_ref hs_NoCode hh_NoCode ht_NoCode qm_NoCode_NoCode) (PySem.W.exm_ref hs_NoRepeat hh_NoRepeat ht_NoRepeat qm_NoCode_NoRepeat), qkk_NoCode_0, qkk_NoCode_1, qkk_NoCode_2, ⟨qe_NoRepeat_hg, qe_NoRepeat_hk, qe_NoRepeat_hs, qe_NoRepeat_hd, qe_NoRepeat_ha, qe_NoRepeat_hn, qe_NoRepeat_ht, qe_NoRepeat_hm⟩, PySem.W.exm_ref hs_NoBits hh_NoBits ht_NoBits qm_NoRepeat_NoBits, PySem.W.exm_ref hs_NoCode hh_NoCode ht_NoCode qm_NoRepeat_NoCode, PySem.W.exm_ref hs_NoRepeat hh_NoRepeat ht_NoRepeat qm_NoRepeat_NoRepeat, PySem.W.exm_ref hs_NoBlock hh_NoBlock ht_NoBlock qm_NoRepeat_NoBlock, PySem.W.exm_ref hs_PressError hh_PressError ht_PressError qm_NoRepeat_PressError, exmAny3 (PySem.W.exm_ref hs_NoBits hh_NoBits ht_NoBits qm_NoRepeat_NoBits) (PySem.W.exm_ref hs_NoCode hh_NoCode ht_NoCode qm_NoRepeat_NoCode) (PySem.W.exm_ref hs_NoRepeat hh_NoRepeat ht_NoRepeat qm_NoRepeat_NoRepeat), qkk_NoRepeat_0, qkk_NoRepeat_1, qkk_NoRepeat_2, ⟨qe_Broken_hg, qe_Broken_hk, qe_Broken_hs, qe_Broken_hd, qe_Broken_ha, qe_Broken_hn, qe_Broken_ht, qe_Broken_hm⟩, PySem.W.exm_ref hs_NoBits hh_NoBits ht_NoBits qm_Broken_NoBits, PySem.W.exm_ref hs_NoCode hh_NoCode ht_NoCode qm_Broken_NoCode, PySem.W.exm_ref hs_NoRepeat hh_NoRepeat ht_NoRepeat qm_Broken_NoRepeat, PySem.W.exm_ref hs_NoBlock hh_NoBlock ht_NoBlock qm_Broken_NoBlock, PySem.W.exm_ref hs_PressError hh_PressError ht_PressError qm_Broken_PressError, exmAny3 (PySem.W.exm_ref hs_NoBits hh_NoBits ht_NoBits qm_Broken_NoBits) (PySem.W.exm_ref hs_NoCode hh_NoCode ht_NoCode qm_Broken_NoCode) (PySem.W.exm_ref hs_NoRepeat hh_NoRepeat ht_NoRepeat qm_Broken_NoRepeat), qkk_Broken_0, qkk_Broken_1, qkk_Broken_2, fun H => .inr ⟨_, _, _, y_KINDS, rfl, rfl, by rw [sizeLine_eq]; exact (by decide : 4 ≤ 16777216), (.cons ⟨_, rfl⟩ (.cons ⟨_, rfl⟩ (.cons ⟨_, rfl⟩ (.cons ⟨_, rfl⟩ .nil))))⟩⟩
  have T : Txt K mg ⟨c_Bits, c_NoBits, c_NoBlock, c_Heap, c_NoCode, c_NoRepeat, c_Broken, c_PressError, c_NoText, c_NoPlace, a_KINDS, i_Broken⟩ := ⟨Fc, PySem.W.mg_none_of X G z_ValueError, PySem.W.mg_none_of X G z_bool, PySem.W.mg_none_of X G z_enumerate, PySem.W.mg_none_of X G z_int, PySem.W.mg_none_of X G z_isinstance, PySem.W.mg_none_of X G z_len, PySem.W.mg_none_of X G z_list, PySem.W.mg_none_of X G z_max, PySem.W.mg_none_of X G z_range, PySem.W.mg_none_of X G z_sorted, PySem.W.mg_none_of X G z_tuple, ⟨_, PySem.W.mg_of X G z_AGAIN, ⟨_, rfl⟩⟩, ⟨_, PySem.W.mg_of X G z_AROUND, ⟨_, rfl⟩⟩, ⟨_, PySem.W.mg_of X G z_BACK_BITS, ⟨_, rfl⟩⟩, ⟨_, PySem.W.mg_of X G z_BLOCK, ⟨_, rfl⟩⟩, ⟨_, PySem.W.mg_of X G z_END, ⟨_, rfl⟩⟩, ⟨_, PySem.W.mg_of X G z_HEAD, ⟨_, rfl⟩⟩, ⟨_, PySem.W.mg_of X G z_KID, ⟨_, rfl⟩⟩, PySem.W.mg_of X G z_KINDS, ⟨_, PySem.W.mg_of X G z_LONGER, ⟨_, rfl⟩⟩, ⟨_, PySem.W.mg_of X G z_LONGEST, ⟨_, rfl⟩⟩, ⟨_, PySem.W.mg_of X G z_MOST_MARKS, ⟨_, rfl⟩⟩, ⟨_, PySem.W.mg_of X G z_MOST_SYMBOL, ⟨_, rfl⟩⟩, ⟨_, PySem.W.mg_of X G z_PRIME, ⟨_, rfl⟩⟩, ⟨_, PySem.W.mg_of X G z_SHORTEST, ⟨_, rfl⟩⟩, ⟨_, PySem.W.mg_of X G z_WIDE, ⟨_, rfl⟩⟩, PySem.W.mg_of X G a_c_Bits, PySem.W.mg_of X G a_c_NoBits, PySem.W.mg_of X G a_c_NoBlock, PySem.W.mg_of X G a_c_Heap, PySem.W.mg_of X G a_c_NoCode, PySem.W.mg_of X G a_c_NoRepeat, PySem.W.mg_of X G a_c_Broken, PySem.W.mg_of X G a_c_PressError, PySem.W.mg_of X G a_c_NoText, PySem.W.mg_of X G a_c_NoPlace, x_NoBits, kc_NoBits, s_NoBits, t_NoBits, x_NoBlock, kc_NoBlock, s_NoBlock, t_NoBlock, x_NoCode, kc_NoCode, s_NoCode, t_NoCode, x_NoRepeat, kc_NoRepeat, s_NoRepeat, t_NoRepeat, { gC := PySem.W.mg_of X G a_c_Broken, cls := (by obtain ⟨k0, k1, k2, k3, k5, e⟩ := xk_Broken; subst e; exact ⟨_, _, _, _, _, _, _, _, _, _, _, _, _, _, _, xL_Broken, show PySem.HandSPX.refsVE [.type "ValueError", .type "Exception", .type "BaseException", .type "object"] = true by decide +kernel⟩), sa := xsa_Broken, ga := xga_Broken, gg := xgg_Broken, noN := xnb_Broken, iC := xi_Broken, tC := xt_Broken, kC := kc_Broken, exC := xs_Broken, tyC := xty_Broken, hdC := xhd_Broken, fn := ⟨_, _, _, _, _, _, _, _, _, _, _, _, _, _, xl_Broken, xc_Broken⟩ }, ⟨xga_Broken, xgg_Broken, xs_Broken, xhd_Broken⟩, xnb_Broken⟩
  refine ⟨⟨c_Bits, c_NoBits, c_NoBlock, c_Heap, c_NoCode, c_NoRepeat, c_Broken, c_PressError, c_NoText, c_NoPlace, a_KINDS, i_Broken⟩, PySem.W.fnOf "law" "law" (defArgs s_law) (defBody s_law) (defScope s_law) .none kV_law dc_law pm_law an_law cd_law ct_law, fun s v => .of_eq rfl, fun base _ _ => ?_⟩
  have F_w_cell := fun_mk (st := s_w_cell) l_w_cell c_w_cell k_w_cell
  have b_w_cell := F_w_cell.binds (ps := ["_law_script", "_law_k"]) fun _ _ _ _ _ _ us hl => match us, hl with | [_, _], _ => rfl
  have O_w_cell : OkC l.prog w K mg base CX0 1 "_law_cell" ["_law_script", "_law_k"] (sp_w_cell K _) := ⟨⟨_, _, raw_w_cell F_w_cell T, PySem.W.mg_of X G a_w_cell, k_w_cell, b_w_cell⟩⟩
  have F_w_purse := fun_mk (st := s_w_purse) l_w_purse c_w_purse k_w_purse
  have b_w_purse := F_w_purse.binds (ps := ["_law_cell_here", "_law_way"]) fun _ _ _ _ _ _ us hl => match us, hl with | [_, _], _ => rfl
  have O_w_purse : OkC l.prog w K mg base CX0 1 "_law_purse" ["_law_cell_here", "_law_way"] (sp_w_purse K _) := ⟨⟨_, _, raw_w_purse F_w_purse T, PySem.W.mg_of X G a_w_purse, k_w_purse, b_w_purse⟩⟩
  have F_w_take := fun_mk (st := s_w_take) l_w_take c_w_take k_w_take
  have b_w_take := F_w_take.binds (ps := ["_law_purse_here", "_law_many"]) fun _ _ _ _ _ _ us hl => match us, hl with | [_, _], _ => rfl
  have O_w_take : OkC l.prog w K mg base CX0 1 "_law_take" ["_law_purse_here", "_law_many"] (sp_w_take K _) := ⟨⟨_, _, raw_w_take F_w_take T, PySem.W.mg_of X G a_w_take, k_w_take, b_w_take⟩⟩
  have F_w_whole := fun_mk (st := s_w_whole) l_w_whole c_w_whole k_w_whole
  have b_w_whole := F_w_whole.binds (ps := ["_law_found"]) fun _ _ _ _ _ _ us hl => match us, hl with | [_], _ => rfl
  have O_w_whole : OkC l.prog w K mg base CX0 1 "_law_whole" ["_law_found"] (sp_w_whole K _) := ⟨⟨_, _, raw_w_whole F_w_whole T, PySem.W.mg_of X G a_w_whole, k_w_whole, b_w_whole⟩⟩
  have O_w_whole_hot : OkH l.prog w K mg base CX0 1 "_law_whole" ["_law_found"] (sp_w_whole K _) := ⟨⟨_, _, rawH_w_whole F_w_whole T, PySem.W.mg_of X G a_w_whole, k_w_whole, b_w_whole⟩⟩
  have F_is_whole := fun_mk (st := s_is_whole) l_is_whole c_is_whole k_is_whole
  have b_is_whole := F_is_whole.binds (ps := ["thing"]) fun _ _ _ _ _ _ us hl => match us, hl with | [_], _ => rfl
  have O_is_whole : OkC l.prog w K mg base CX0 1 "is_whole" ["thing"] (sp_is_whole K _) := ⟨⟨_, _, raw_is_whole F_is_whole T, PySem.W.mg_of X G a_is_whole, k_is_whole, b_is_whole⟩⟩
  have F_is_mark := fun_mk (st := s_is_mark) l_is_mark c_is_mark k_is_mark
  have b_is_mark := F_is_mark.binds (ps := ["thing"]) fun _ _ _ _ _ _ us hl => match us, hl with | [_], _ => rfl
  have O_is_mark : OkC l.prog w K mg base CX0 2 "is_mark" ["thing"] (sp_is_mark K _) := ⟨⟨_, _, raw_is_mark F_is_mark T O_is_whole, PySem.W.mg_of X G a_is_mark, k_is_mark, b_is_mark⟩⟩
  have F_is_text := fun_mk (st := s_is_text) l_is_text c_is_text k_is_text
  have b_is_text := F_is_text.binds (ps := ["thing"]) fun _ _ _ _ _ _ us hl => match us, hl with | [_], _ => rfl
  have O_is_text : OkC l.prog w K mg base CX0 3 "is_text" ["thing"] (sp_is_text K _) := ⟨⟨_, _, raw_is_text F_is_text T O_is_mark, PySem.W.mg_of X G a_is_text, k_is_text, b_is_text⟩⟩
  have F_bits_of := fun_mk (st := s_bits_of) l_bits_of c_bits_of k_bits_of
  have b_bits_of := F_bits_of.binds (ps := ["number", "width"]) fun _ _ _ _ _ _ us hl => match us, hl with | [_, _], _ => rfl
  have O_bits_of : OkC l.prog w K mg base CX0 1 "bits_of" ["number", "width"] (sp_bits_of K _) := ⟨⟨_, _, raw_bits_of F_bits_of T, PySem.W.mg_of X G a_bits_of, k_bits_of, b_bits_of⟩⟩
  have F_halves := fun_mk (st := s_halves) l_halves c_halves k_halves
  have b_halves := F_halves.binds (ps := ["number"]) fun _ _ _ _ _ _ us hl => match us, hl with | [_], _ => rfl
  have O_halves : OkC l.prog w K mg base CX0 2 "halves" ["number"] (sp_halves K _) := ⟨⟨_, _, raw_halves F_halves T O_bits_of, PySem.W.mg_of X G a_halves, k_halves, b_halves⟩⟩
  have F_laid := fun_mk (st := s_laid) l_laid c_laid k_laid
  have b_laid := F_laid.binds (ps := ["bits"]) fun _ _ _ _ _ _ us hl => match us, hl with | [_], _ => rfl
  have O_laid : OkC l.prog w K mg base CX0 1 "laid" ["bits"] (sp_laid K _) := ⟨⟨_, _, raw_laid F_laid T, PySem.W.mg_of X G a_laid, k_laid, b_laid⟩⟩
  have F_Bits___init__ := fun_mk (st := s_Bits___init__) l_Bits___init__ c_Bits___init__ k_Bits___init__
  have b_Bits___init__ := F_Bits___init__.binds (ps := ["self", "data"]) fun _ _ _ _ _ _ us hl => match us, hl with | [_, _], _ => rfl
  have O_Bits___init__ : OkI l.prog w K mg base CX0 2 "Bits" c_Bits ["self", "data"] (sp_Bits___init__ K _) := ⟨⟨_, _, raw_Bits___init__ F_Bits___init__ T O_bits_of, ⟨mk_Bits, a_Bits___init__, i_Bits___init__, kc_Bits⟩, PySem.W.mg_of X G a_c_Bits, b_Bits___init__⟩⟩
  have F_Bits_left := fun_mk (st := s_Bits_left) l_Bits_left c_Bits_left k_Bits_left
  have b_Bits_left := F_Bits_left.binds (ps := ["self"]) fun _ _ _ _ _ _ us hl => match us, hl with | [_], _ => rfl
  have O_Bits_left : OkM l.prog w K mg base CX0 1 c_Bits "left" ["self"] (sp_Bits_left K _) := ⟨⟨_, _, raw_Bits_left F_Bits_left T, ⟨a_Bits_left, i_Bits_left, k_Bits_left⟩, b_Bits_left⟩, ⟨pg_Bits, hd_Bits, po_Bits, sa_Bits⟩⟩
  have F_Bits_take := fun_mk (st := s_Bits_take) l_Bits_take c_Bits_take k_Bits_take
  have b_Bits_take := F_Bits_take.binds (ps := ["self", "width"]) fun _ _ _ _ _ _ us hl => match us, hl with | [_, _], _ => rfl
  have O_Bits_take : OkM l.prog w K mg base (CXN l.prog w) 2 c_Bits "take" ["self", "width"] (sp_Bits_take K _) := ⟨⟨_, _, raw_Bits_take F_Bits_take T O_Bits_left, ⟨a_Bits_take, i_Bits_take, k_Bits_take⟩, b_Bits_take⟩, ⟨pg_Bits, hd_Bits, po_Bits, sa_Bits⟩⟩
  have F_Bits_take_halves := fun_mk (st := s_Bits_take_halves) l_Bits_take_halves c_Bits_take_halves k_Bits_take_halves
  have b_Bits_take_halves := F_Bits_take_halves.binds (ps := ["self"]) fun _ _ _ _ _ _ us hl => match us, hl with | [_], _ => rfl
  have O_Bits_take_halves : OkM l.prog w K mg base (CXN l.prog w) 3 c_Bits "take_halves" ["self"] (sp_Bits_take_halves K _) := ⟨⟨_, _, raw_Bits_take_halves F_Bits_take_halves T O_Bits_left O_Bits_take, ⟨a_Bits_take_halves, i_Bits_take_halves, k_Bits_take_halves⟩, b_Bits_take_halves⟩, ⟨pg_Bits, hd_Bits, po_Bits, sa_Bits⟩⟩
  have F_look_at_block := fun_mk (st := s_look_at_block) l_look_at_block c_look_at_block k_look_at_block
  have b_look_at_block := F_look_at_block.binds (ps := ["block"]) fun _ _ _ _ _ _ us hl => match us, hl with | [_], _ => rfl
  have O_look_at_block : OkC l.prog w K mg base (CXN l.prog w) 4 "look_at_block" ["block"] (sp_look_at_block K _) := ⟨⟨_, _, raw_look_at_block F_look_at_block T O_is_text, PySem.W.mg_of X G a_look_at_block, k_look_at_block, b_look_at_block⟩⟩
  have F_Heap___init__ := fun_mk (st := s_Heap___init__) l_Heap___init__ c_Heap___init__ k_Heap___init__
  have b_Heap___init__ := F_Heap___init__.binds (ps := ["self", "counts"]) fun _ _ _ _ _ _ us hl => match us, hl with | [_, _], _ => rfl
  have O_Heap___init__ : OkI l.prog w K mg base CX0 1 "Heap" c_Heap ["self", "counts"] (sp_Heap___init__ K _) := ⟨⟨_, _, raw_Heap___init__ F_Heap___init__ T, ⟨mk_Heap, a_Heap___init__, i_Heap___init__, kc_Heap⟩, PySem.W.mg_of X G a_c_Heap, b_Heap___init__⟩⟩
  have F_Heap_take_least := fun_mk (st := s_Heap_take_least) l_Heap_take_least c_Heap_take_least k_Heap_take_least
  have b_Heap_take_least := F_Heap_take_least.binds (ps := ["self"]) fun _ _ _ _ _ _ us hl => match us, hl with | [_], _ => rfl
  have O_Heap_take_least : OkM l.prog w K mg base CX0 1 c_Heap "take_least" ["self"] (sp_Heap_take_least K _) := ⟨⟨_, _, raw_Heap_take_least F_Heap_take_least T, ⟨a_Heap_take_least, i_Heap_take_least, k_Heap_take_least⟩, b_Heap_take_least⟩, ⟨pg_Heap, hd_Heap, po_Heap, sa_Heap⟩⟩
  have F_Heap_merge := fun_mk (st := s_Heap_merge) l_Heap_merge c_Heap_merge k_Heap_merge
  have b_Heap_merge := F_Heap_merge.binds (ps := ["self"]) fun _ _ _ _ _ _ us hl => match us, hl with | [_], _ => rfl
  have O_Heap_merge : OkM l.prog w K mg base CX0 2 c_Heap "merge" ["self"] (sp_Heap_merge K _) := ⟨⟨_, _, raw_Heap_merge F_Heap_merge T O_Heap_take_least, ⟨a_Heap_merge, i_Heap_merge, k_Heap_merge⟩, b_Heap_merge⟩, ⟨pg_Heap, hd_Heap, po_Heap, sa_Heap⟩⟩
  have F_Heap_merge_all := fun_mk (st := s_Heap_merge_all) l_Heap_merge_all c_Heap_merge_all k_Heap_merge_all
  have b_Heap_merge_all := F_Heap_merge_all.binds (ps := ["self"]) fun _ _ _ _ _ _ us hl => match us, hl with | [_], _ => rfl
  have O_Heap_merge_all : OkM l.prog w K mg base CX0 3 c_Heap "merge_all" ["self"] (sp_Heap_merge_all K _) := ⟨⟨_, _, raw_Heap_merge_all F_Heap_merge_all T O_Heap_merge, ⟨a_Heap_merge_all, i_Heap_merge_all, k_Heap_merge_all⟩, b_Heap_merge_all⟩, ⟨pg_Heap, hd_Heap, po_Heap, sa_Heap⟩⟩
  have F_lengths_of := fun_mk (st := s_lengths_of) l_lengths_of c_lengths_of k_lengths_of
  have b_lengths_of := F_lengths_of.binds (ps := ["counts"]) fun _ _ _ _ _ _ us hl => match us, hl with | [_], _ => rfl
  have O_lengths_of : OkC l.prog w K mg base CX0 4 "lengths_of" ["counts"] (sp_lengths_of K _) := ⟨⟨_, _, raw_lengths_of F_lengths_of T O_Heap___init__ O_Heap_merge_all, PySem.W.mg_of X G a_lengths_of, k_lengths_of, b_lengths_of⟩⟩
  have F_look_at_lengths := fun_mk (st := s_look_at_lengths) l_look_at_lengths c_look_at_lengths k_look_at_lengths
  have b_look_at_lengths := F_look_at_lengths.binds (ps := ["lengths"]) fun _ _ _ _ _ _ us hl => match us, hl with | [_], _ => rfl
  have O_look_at_lengths : OkC l.prog w K mg base (CXN l.prog w) 1 "look_at_lengths" ["lengths"] (sp_look_at_lengths K _) := ⟨⟨_, _, raw_look_at_lengths F_look_at_lengths T, PySem.W.mg_of X G a_look_at_lengths, k_look_at_lengths, b_look_at_lengths⟩⟩
  have F_written := fun_mk (st := s_written) l_written c_written k_written
  have b_written := F_written.binds (ps := ["number", "length"]) fun _ _ _ _ _ _ us hl => match us, hl with | [_, _], _ => rfl
  have O_written : OkC l.prog w K mg base CX0 1 "written" ["number", "length"] (sp_written K _) := ⟨⟨_, _, raw_written F_written T, PySem.W.mg_of X G a_written, k_written, b_written⟩⟩
  have F_codes_of := fun_mk (st := s_codes_of) l_codes_of c_codes_of k_codes_of
  have b_codes_of := F_codes_of.binds (ps := ["lengths"]) fun _ _ _ _ _ _ us hl => match us, hl with | [_], _ => rfl
  have O_codes_of : OkC l.prog w K mg base (CXN l.prog w) 2 "codes_of" ["lengths"] (sp_codes_of K _) := ⟨⟨_, _, raw_codes_of F_codes_of T O_look_at_lengths O_written, PySem.W.mg_of X G a_codes_of, k_codes_of, b_codes_of⟩⟩
  have F_run_at := fun_mk (st := s_run_at) l_run_at c_run_at k_run_at
  have b_run_at := F_run_at.binds (ps := ["text", "at", "back"]) fun _ _ _ _ _ _ us hl => match us, hl with | [_, _, _], _ => rfl
  have O_run_at : OkC l.prog w K mg base CX0 1 "run_at" ["text", "at", "back"] (sp_run_at K _) := ⟨⟨_, _, raw_run_at F_run_at T, PySem.W.mg_of X G a_run_at, k_run_at, b_run_at⟩⟩
  have F_repeat_at := fun_mk (st := s_repeat_at) l_repeat_at c_repeat_at k_repeat_at
  have b_repeat_at := F_repeat_at.binds (ps := ["text", "at"]) fun _ _ _ _ _ _ us hl => match us, hl with | [_, _], _ => rfl
  have O_repeat_at : OkC l.prog w K mg base CX0 2 "repeat_at" ["text", "at"] (sp_repeat_at K _) := ⟨⟨_, _, raw_repeat_at F_repeat_at T O_run_at, PySem.W.mg_of X G a_repeat_at, k_repeat_at, b_repeat_at⟩⟩
  have F_tokens_of := fun_mk (st := s_tokens_of) l_tokens_of c_tokens_of k_tokens_of
  have b_tokens_of := F_tokens_of.binds (ps := ["text"]) fun _ _ _ _ _ _ us hl => match us, hl with | [_], _ => rfl
  have O_tokens_of : OkC l.prog w K mg base CX0 3 "tokens_of" ["text"] (sp_tokens_of K _) := ⟨⟨_, _, raw_tokens_of F_tokens_of T O_repeat_at, PySem.W.mg_of X G a_tokens_of, k_tokens_of, b_tokens_of⟩⟩
  have F_look_at_repeat := fun_mk (st := s_look_at_repeat) l_look_at_repeat c_look_at_repeat k_look_at_repeat
  have b_look_at_repeat := F_look_at_repeat.binds (ps := ["back", "long", "made"]) fun _ _ _ _ _ _ us hl => match us, hl with | [_, _, _], _ => rfl
  have O_look_at_repeat : OkC l.prog w K mg base (CXN l.prog w) 1 "look_at_repeat" ["back", "long", "made"] (sp_look_at_repeat K _) := ⟨⟨_, _, raw_look_at_repeat F_look_at_repeat T, PySem.W.mg_of X G a_look_at_repeat, k_look_at_repeat, b_look_at_repeat⟩⟩
  have F_laid_out := fun_mk (st := s_laid_out) l_laid_out c_laid_out k_laid_out
  have b_laid_out := F_laid_out.binds (ps := ["tokens"]) fun _ _ _ _ _ _ us hl => match us, hl with | [_], _ => rfl
  have O_laid_out : OkC l.prog w K mg base (CXN l.prog w) 3 "laid_out" ["tokens"] (sp_laid_out K _) := ⟨⟨_, _, raw_laid_out F_laid_out T O_is_mark O_look_at_repeat, PySem.W.mg_of X G a_laid_out, k_laid_out, b_laid_out⟩⟩
  have F_symbol_of := fun_mk (st := s_symbol_of) l_symbol_of c_symbol_of k_symbol_of
  have b_symbol_of := F_symbol_of.binds (ps := ["token"]) fun _ _ _ _ _ _ us hl => match us, hl with | [_], _ => rfl
  have O_symbol_of : OkC l.prog w K mg base CX0 1 "symbol_of" ["token"] (sp_symbol_of K _) := ⟨⟨_, _, raw_symbol_of F_symbol_of T, PySem.W.mg_of X G a_symbol_of, k_symbol_of, b_symbol_of⟩⟩
  have F_counts_of := fun_mk (st := s_counts_of) l_counts_of c_counts_of k_counts_of
  have b_counts_of := F_counts_of.binds (ps := ["tokens"]) fun _ _ _ _ _ _ us hl => match us, hl with | [_], _ => rfl
  have O_counts_of : OkC l.prog w K mg base CX0 2 "counts_of" ["tokens"] (sp_counts_of K _) := ⟨⟨_, _, raw_counts_of F_counts_of T O_symbol_of, PySem.W.mg_of X G a_counts_of, k_counts_of, b_counts_of⟩⟩
  have F_table_bits := fun_mk (st := s_table_bits) l_table_bits c_table_bits k_table_bits
  have b_table_bits := F_table_bits.binds (ps := ["lengths"]) fun _ _ _ _ _ _ us hl => match us, hl with | [_], _ => rfl
  have O_table_bits : OkC l.prog w K mg base CX0 3 "table_bits" ["lengths"] (sp_table_bits K _) := ⟨⟨_, _, raw_table_bits F_table_bits T O_halves, PySem.W.mg_of X G a_table_bits, k_table_bits, b_table_bits⟩⟩
  have F_token_bits := fun_mk (st := s_token_bits) l_token_bits c_token_bits k_token_bits
  have b_token_bits := F_token_bits.binds (ps := ["tokens", "lengths"]) fun _ _ _ _ _ _ us hl => match us, hl with | [_, _], _ => rfl
  have O_token_bits : OkC l.prog w K mg base (CXN l.prog w) 3 "token_bits" ["tokens", "lengths"] (sp_token_bits K _) := ⟨⟨_, _, raw_token_bits F_token_bits T O_bits_of O_codes_of O_symbol_of, PySem.W.mg_of X G a_token_bits, k_token_bits, b_token_bits⟩⟩
  have F_packed := fun_mk (st := s_packed) l_packed c_packed k_packed
  have b_packed := F_packed.binds (ps := ["block"]) fun _ _ _ _ _ _ us hl => match us, hl with | [_], _ => rfl
  have O_packed : OkC l.prog w K mg base (CXN l.prog w) 5 "packed" ["block"] (sp_packed K _) := ⟨⟨_, _, raw_packed F_packed T O_halves O_laid O_lengths_of O_tokens_of O_look_at_block O_counts_of O_table_bits O_token_bits, PySem.W.mg_of X G a_packed, k_packed, b_packed⟩⟩
  have F_plain := fun_mk (st := s_plain) l_plain c_plain k_plain
  have b_plain := F_plain.binds (ps := ["block"]) fun _ _ _ _ _ _ us hl => match us, hl with | [_], _ => rfl
  have O_plain : OkC l.prog w K mg base (CXN l.prog w) 5 "plain" ["block"] (sp_plain K _) := ⟨⟨_, _, raw_plain F_plain T O_bits_of O_halves O_laid O_look_at_block, PySem.W.mg_of X G a_plain, k_plain, b_plain⟩⟩
  have F_pressed := fun_mk (st := s_pressed) l_pressed c_pressed k_pressed
  have b_pressed := F_pressed.binds (ps := ["block"]) fun _ _ _ _ _ _ us hl => match us, hl with | [_], _ => rfl
  have O_pressed : OkC l.prog w K mg base (CXN l.prog w) 6 "pressed" ["block"] (sp_pressed K _) := ⟨⟨_, _, raw_pressed F_pressed T O_plain O_packed, PySem.W.mg_of X G a_pressed, k_pressed, b_pressed⟩⟩
  have F_read_table := fun_mk (st := s_read_table) l_read_table c_read_table k_read_table
  have b_read_table := F_read_table.binds (ps := ["bits"]) fun _ _ _ _ _ _ us hl => match us, hl with | [_], _ => rfl
  have O_read_table : OkC l.prog w K mg base (CXN l.prog w) 4 "read_table" ["bits"] (sp_read_table K _) := ⟨⟨_, _, raw_read_table F_read_table T O_Bits_take_halves O_codes_of, PySem.W.mg_of X G a_read_table, k_read_table, b_read_table⟩⟩
  have F_read_token := fun_mk (st := s_read_token) l_read_token c_read_token k_read_token
  have b_read_token := F_read_token.binds (ps := ["bits", "codes"]) fun _ _ _ _ _ _ us hl => match us, hl with | [_, _], _ => rfl
  have O_read_token : OkC l.prog w K mg base (CXN l.prog w) 3 "read_token" ["bits", "codes"] (sp_read_token K _) := ⟨⟨_, _, raw_read_token F_read_token T O_Bits_take, PySem.W.mg_of X G a_read_token, k_read_token, b_read_token⟩⟩
  have F_read_block := fun_mk (st := s_read_block) l_read_block c_read_block k_read_block
  have b_read_block := F_read_block.binds (ps := ["bits"]) fun _ _ _ _ _ _ us hl => match us, hl with | [_], _ => rfl
  have O_read_block : OkC l.prog w K mg base (CXN l.prog w) 5 "read_block" ["bits"] (sp_read_block K _) := ⟨⟨_, _, raw_read_block F_read_block T O_Bits_take O_Bits_take_halves O_laid_out O_read_table O_read_token, PySem.W.mg_of X G a_read_block, k_read_block, b_read_block⟩⟩
  have F_opened := fun_mk (st := s_opened) l_opened c_opened k_opened
  have b_opened := F_opened.binds (ps := ["data"]) fun _ _ _ _ _ _ us hl => match us, hl with | [_], _ => rfl
  have O_opened : OkC l.prog w K mg base (CXL l.prog w) 7 "opened" ["data"] (sp_opened K _) := ⟨⟨_, _, raw_opened F_opened T O_Bits___init__ O_pressed O_read_block, PySem.W.mg_of X G a_opened, k_opened, b_opened⟩⟩
  have F_number_of := fun_mk (st := s_number_of) l_number_of c_number_of k_number_of
  have b_number_of := F_number_of.binds (ps := ["data"]) fun _ _ _ _ _ _ us hl => match us, hl with | [_], _ => rfl
  have O_number_of : OkC l.prog w K mg base CX0 1 "number_of" ["data"] (sp_number_of K _) := ⟨⟨_, _, raw_number_of F_number_of T, PySem.W.mg_of X G a_number_of, k_number_of, b_number_of⟩⟩
  have F_check := fun_mk (st := s_check) l_check c_check k_check
  have b_check := F_check.binds (ps := ["data"]) fun _ _ _ _ _ _ us hl => match us, hl with | [_], _ => rfl
  have O_check : OkC l.prog w K mg base CX0 1 "check" ["data"] (sp_check K _) := ⟨⟨_, _, raw_check F_check T, PySem.W.mg_of X G a_check, k_check, b_check⟩⟩
  have F_is_low := fun_mk (st := s_is_low) l_is_low c_is_low k_is_low
  have b_is_low := F_is_low.binds (ps := ["data"]) fun _ _ _ _ _ _ us hl => match us, hl with | [_], _ => rfl
  have O_is_low : OkC l.prog w K mg base CX0 1 "is_low" ["data"] (sp_is_low K _) := ⟨⟨_, _, raw_is_low F_is_low T, PySem.W.mg_of X G a_is_low, k_is_low, b_is_low⟩⟩
  have F_size_of := fun_mk (st := s_size_of) l_size_of c_size_of k_size_of
  have b_size_of := F_size_of.binds (ps := ["head"]) fun _ _ _ _ _ _ us hl => match us, hl with | [_], _ => rfl
  have O_size_of : OkC l.prog w K mg base CX0 2 "size_of" ["head"] (sp_size_of K _) := ⟨⟨_, _, raw_size_of F_size_of T O_number_of, PySem.W.mg_of X G a_size_of, k_size_of, b_size_of⟩⟩
  have F_is_block := fun_mk (st := s_is_block) l_is_block c_is_block k_is_block
  have b_is_block := F_is_block.binds (ps := ["body"]) fun _ _ _ _ _ _ us hl => match us, hl with | [_], _ => rfl
  have O_is_block : OkC l.prog w K mg base CX0 8 "is_block" ["body"] (sp_is_block K _) := ⟨⟨_, _, raw_is_block F_is_block T O_opened, PySem.W.mg_of X G a_is_block, k_is_block, b_is_block⟩⟩
  have F_is_body := fun_mk (st := s_is_body) l_is_body c_is_body k_is_body
  have b_is_body := F_is_body.binds (ps := ["kind", "body"]) fun _ _ _ _ _ _ us hl => match us, hl with | [_, _], _ => rfl
  have O_is_body : OkC l.prog w K mg base CX0 9 "is_body" ["kind", "body"] (sp_is_body K _) := ⟨⟨_, _, raw_is_body F_is_body T O_is_block, PySem.W.mg_of X G a_is_body, k_is_body, b_is_body⟩⟩
  have F_read_frame := fun_mk (st := s_read_frame) l_read_frame c_read_frame k_read_frame
  have b_read_frame := F_read_frame.binds (ps := ["data", "at"]) fun _ _ _ _ _ _ us hl => match us, hl with | [_, _], _ => rfl
  have O_read_frame : OkC l.prog w K mg base (CXN l.prog w) 10 "read_frame" ["data", "at"] (sp_read_frame K _) := ⟨⟨_, _, raw_read_frame F_read_frame T O_number_of O_check O_is_low O_size_of O_is_body, PySem.W.mg_of X G a_read_frame, k_read_frame, b_read_frame⟩⟩
  have F_w_low := fun_mk (st := s_w_low) l_w_low c_w_low k_w_low
  have b_w_low := F_w_low.binds (ps := ["_law_number", "_law_many"]) fun _ _ _ _ _ _ us hl => match us, hl with | [_, _], _ => rfl
  have O_w_low : OkC l.prog w K mg base CX0 1 "_law_low" ["_law_number", "_law_many"] (sp_w_low K _) := ⟨⟨_, _, raw_w_low F_w_low T, PySem.W.mg_of X G a_w_low, k_w_low, b_w_low⟩⟩
  have F_w_check := fun_mk (st := s_w_check) l_w_check c_w_check k_w_check
  have b_w_check := F_w_check.binds (ps := ["_law_data"]) fun _ _ _ _ _ _ us hl => match us, hl with | [_], _ => rfl
  have O_w_check : OkC l.prog w K mg base CX0 1 "_law_check" ["_law_data"] (sp_w_check K _) := ⟨⟨_, _, raw_w_check F_w_check T, PySem.W.mg_of X G a_w_check, k_w_check, b_w_check⟩⟩
  have F_w_frame := fun_mk (st := s_w_frame) l_w_frame c_w_frame k_w_frame
  have b_w_frame := F_w_frame.binds (ps := ["_law_kind", "_law_number", "_law_body"]) fun _ _ _ _ _ _ us hl => match us, hl with | [_, _, _], _ => rfl
  have O_w_frame : OkC l.prog w K mg base CX0 2 "_law_frame" ["_law_kind", "_law_number", "_law_body"] (sp_w_frame K _) := ⟨⟨_, _, raw_w_frame F_w_frame T O_w_low O_w_check, PySem.W.mg_of X G a_w_frame, k_w_frame, b_w_frame⟩⟩
  have F_w_drawn := fun_mk (st := s_w_drawn) l_w_drawn c_w_drawn k_w_drawn
  have b_w_drawn := F_w_drawn.binds (ps := ["_law_purse_here"]) fun _ _ _ _ _ _ us hl => match us, hl with | [_], _ => rfl
  have O_w_drawn : OkC l.prog w K mg base (CXN l.prog w) 7 "_law_drawn" ["_law_purse_here"] (sp_w_drawn K _) := ⟨⟨_, _, raw_w_drawn F_w_drawn T O_pressed O_w_take, PySem.W.mg_of X G a_w_drawn, k_w_drawn, b_w_drawn⟩⟩
  have F_w_refused := fun_mk (st := s_w_refused) l_w_refused c_w_refused k_w_refused
  have b_w_refused := F_w_refused.binds (ps := ["_law_data", "_law_at"]) fun _ _ _ _ _ _ us hl => match us, hl with | [_, _], _ => rfl
  have O_w_refused : OkC l.prog w K mg base CX0 11 "_law_refused" ["_law_data", "_law_at"] (sp_w_refused K _) := ⟨⟨_, _, raw_w_refused F_w_refused T O_read_frame O_w_whole_hot, PySem.W.mg_of X G a_w_refused, k_w_refused, b_w_refused⟩⟩
  have F_w_wrong_bodies := fun_mk (st := s_w_wrong_bodies) l_w_wrong_bodies c_w_wrong_bodies k_w_wrong_bodies
  have b_w_wrong_bodies := F_w_wrong_bodies.binds (ps := ["_law_kind", "_law_body"]) fun _ _ _ _ _ _ us hl => match us, hl with | [_, _], _ => rfl
  have O_w_wrong_bodies : OkC l.prog w K mg base CX0 1 "_law_wrong_bodies" ["_law_kind", "_law_body"] (sp_w_wrong_bodies K _) := ⟨⟨_, _, raw_w_wrong_bodies F_w_wrong_bodies T, PySem.W.mg_of X G a_w_wrong_bodies, k_w_wrong_bodies, b_w_wrong_bodies⟩⟩
  exact raw_law (fun_mk (st := s_law) l_law c_law k_law) T O_pressed O_read_frame O_w_cell O_w_purse O_w_frame O_w_drawn O_w_refused O_w_wrong_bodies
theorem walk {l : PySem.W.OpenLaw} {q : Program} {loose : List Str} {XP : (Str → Option Value) → Heap → Prop} {YP : World → Heap → Prop} {d : DefRec} {K : Params → PySem.W.Frag} (hn : l.most = some 63) (hdf : d.params.defaults = [])
    (hY : ∀ (w : World) (h : Heap), YP w h → (K w.params).In h)
    (F : ∀ (w : World) (mg : Str → Option Value) (fa : Addr) (h : Heap), (K w.params).In h → h.Ns mainGlobals mg → mg d.name = some (.ref fa) →
      ∃ (A : Ads) (fd : FuncData), (∀ (s : Shared) (u : Value), BindsTo s fd ⟨[u], []⟩ [("_law_script", u)]) ∧ ∀ base : Heap, (K w.params).In base → base.Ns mainGlobals mg → FnOk l.prog w (K w.params) mg base CX0 12 fa fd ["_law_script"] (sp_law (K w.params) A)) :
    PySem.W.WalkO q loose XP YP l.row.toRowW d [] (fun f vs => PySem.call f vs) :=
  L2.walk_of (n := 63) (k := 12) (x := "_law_script") (CX := fun _ => CX0) (sp := fun w => spW (K w.params)) hn (by decide) hdf ⟨rfl, by decide, by decide⟩ hY (fun w mg fa h kx ns e => by
    obtain ⟨A, fd, b, f⟩ := F w mg fa h kx ns e
    exact ⟨fd, b, fun base k2 n2 => (f base k2 n2).imp fun vs H Q E z => spW_to A z⟩) (fun _ _ a ns hl _ hS => ⟨a, ns, rfl, hS, hl, fun _ _ => rfl⟩) fun _ _ _ _ _ z => z
end Gk44
open PySem PySem.W PyProof.Rows in
set_option maxRecDepth 100000 in
set_option maxHeartbeats 0 in
theorem PySem.Challenge.cw_seekpress_k44_turned_bits_refused_holds : PySem.Challenge.rw_seekpress_k44_turned_bits_refused.Holds := by
  w_on; o_law; k_head; (case hw => w_witness2)
  k_fill
  refine Gk44.walk (l := PySem.Challenge.rw_seekpress_k44_turned_bits_refused) rfl rfl (fun w h Y => PySem.W.kIn_of Y) ?F
  case F =>
    intro w mg fa h KX G hmg
    refine' Gk44.all_mk KX G hmg ?a_c_Bits ?kc_Bits ?pg_Bits ?hd_Bits ?po_Bits ?sa_Bits ?mk_Bits ?n_Bits_at ?n_Bits_row ?a_c_NoBits ?kc_NoBits ?x_NoBits ?s_NoBits ?t_NoBits ?a_c_NoBlock ?kc_NoBlock ?x_NoBlock ?s_NoBlock ?t_NoBlock ?a_c_Heap ?kc_Heap ?pg_Heap ?hd_Heap ?po_Heap ?sa_Heap ?mk_Heap ?n_Heap_deep ?n_Heap_things ?a_c_NoCode ?kc_NoCode ?x_NoCode ?s_NoCode ?t_NoCode ?a_c_NoRepeat ?kc_NoRepeat ?x_NoRepeat ?s_NoRepeat ?t_NoRepeat ?a_c_Broken ?kc_Broken ?xL_Broken ?xk_Broken ?xsa_Broken ?xga_Broken ?xgg_Broken ?xnb_Broken ?xi_Broken ?xt_Broken ?xl_Broken ?xc_Broken ?xs_Broken ?xty_Broken ?xhd_Broken ?a_c_PressError ?kc_PressError ?a_c_NoText ?kc_NoText ?a_c_NoPlace ?kc_NoPlace ?hs_NoBits ?hh_NoBits ?ht_NoBits ?hs_NoCode ?hh_NoCode ?ht_NoCode ?hs_NoRepeat ?hh_NoRepeat ?ht_NoRepeat ?hs_NoBlock ?hh_NoBlock ?ht_NoBlock ?hs_PressError ?hh_PressError ?ht_PressError ?qe_NoBits_hg ?qe_NoBits_hk ?qe_NoBits_hs ?qe_NoBits_hd ?qe_NoBits_ha ?qe_NoBits_hn ?qe_NoBits_ht ?qe_NoBits_hm ?qm_NoBits_NoBits ?qm_NoBits_NoCode ?qm_NoBits_NoRepeat ?qm_NoBits_NoBlock ?qm_NoBits_PressError ?qkk_NoBits_0 ?qkk_NoBits_1 ?qkk_NoBits_2 ?qe_NoBlock_hg ?qe_NoBlock_hk ?qe_NoBlock_hs ?qe_NoBlock_hd ?qe_NoBlock_ha ?qe_NoBlock_hn ?qe_NoBlock_ht ?qe_NoBlock_hm ?qm_NoBlock_NoBits ?qm_NoBlock_NoCode ?qm_NoBlock_NoRepeat ?qm_NoBlock_NoBlock ?qm_NoBlock_PressError ?qkk_NoBlock_0 ?qkk_NoBlock_1 ?qkk_NoBlock_2 ?qe_NoCode_hg ?qe_NoCode_hk ?qe_NoCode_hs ?qe_NoCode_hd ?qe_NoCode_ha ?qe_NoCode_hn ?qe_NoCode_ht ?qe_NoCode_hm ?qm_NoCode_NoBits ?qm_NoCode_NoCode ?qm_NoCode_NoRepeat ?qm_NoCode_NoBlock ?qm_NoCode_PressError ?qkk_NoCode_0 ?qkk_NoCode_1 ?qkk_NoCode_2 ?qe_NoRepeat_hg ?qe_NoRepeat_hk ?qe_NoRepeat_hs ?qe_NoRepeat_hd ?qe_NoRepeat_ha ?qe_NoRepeat_hn ?qe_NoRepeat_ht ?qe_NoRepeat_hm ?qm_NoRepeat_NoBits ?qm_NoRepeat_NoCode ?qm_NoRepeat_NoRepeat ?qm_NoRepeat_NoBlock ?qm_NoRepeat_PressError ?qkk_NoRepeat_0 ?qkk_NoRepeat_1 ?qkk_NoRepeat_2 ?qe_Broken_hg ?qe_Broken_hk ?qe_Broken_hs ?qe_Broken_hd ?qe_Broken_ha ?qe_Broken_hn ?qe_Broken_ht ?qe_Broken_hm ?qm_Broken_NoBits ?qm_Broken_NoCode ?qm_Broken_NoRepeat ?qm_Broken_NoBlock ?qm_Broken_PressError ?qkk_Broken_0 ?qkk_Broken_1 ?qkk_Broken_2 ?a_w_cell ?l_w_cell ?c_w_cell ?k_w_cell ?a_w_purse ?l_w_purse ?c_w_purse ?k_w_purse ?a_w_take ?l_w_take ?c_w_take ?k_w_take ?a_w_whole ?l_w_whole ?c_w_whole ?k_w_whole ?a_is_whole ?l_is_whole ?c_is_whole ?k_is_whole ?a_is_mark ?l_is_mark ?c_is_mark ?k_is_mark ?a_is_text ?l_is_text ?c_is_text ?k_is_text ?a_bits_of ?l_bits_of ?c_bits_of ?k_bits_of ?a_halves ?l_halves ?c_halves ?k_halves ?a_laid ?l_laid ?c_laid ?k_laid ?a_Bits___init__ ?i_Bits___init__ ?l_Bits___init__ ?c_Bits___init__ ?k_Bits___init__ ?a_Bits_left ?i_Bits_left ?l_Bits_left ?c_Bits_left ?k_Bits_left ?a_Bits_take ?i_Bits_take ?l_Bits_take ?c_Bits_take ?k_Bits_take ?a_Bits_take_halves ?i_Bits_take_halves ?l_Bits_take_halves ?c_Bits_take_halves ?k_Bits_take_halves ?a_look_at_block ?l_look_at_block ?c_look_at_block ?k_look_at_block ?a_Heap___init__ ?i_Heap___init__ ?l_Heap___init__ ?c_Heap___init__ ?k_Heap___init__ ?a_Heap_take_least ?i_Heap_take_least ?l_Heap_take_least ?c_Heap_take_least ?k_Heap_take_least ?a_Heap_merge ?i_Heap_merge ?l_Heap_merge ?c_Heap_merge ?k_Heap_merge ?a_Heap_merge_all ?i_Heap_merge_all ?l_Heap_merge_all ?c_Heap_merge_all ?k_Heap_merge_all ?a_lengths_of ?l_lengths_of ?c_lengths_of ?k_lengths_of ?a_look_at_lengths ?l_look_at_lengths ?c_look_at_lengths ?k_look_at_lengths ?a_written ?l_written ?c_written ?k_written ?a_codes_of ?l_codes_of ?c_codes_of ?k_codes_of ?a_run_at ?l_run_at ?c_run_at ?k_run_at ?a_repeat_at ?l_repeat_at ?c_repeat_at ?k_repeat_at ?a_tokens_of ?l_tokens_of ?c_tokens_of ?k_tokens_of ?a_look_at_repeat ?l_look_at_repeat ?c_look_at_repeat ?k_look_at_repeat ?a_laid_out ?l_laid_out ?c_laid_out ?k_laid_out ?a_symbol_of ?l_symbol_of ?c_symbol_of ?k_symbol_of ?a_counts_of ?l_counts_of ?c_counts_of ?k_counts_of ?a_table_bits ?l_table_bits ?c_table_bits ?k_table_bits ?a_token_bits ?l_token_bits ?c_token_bits ?k_token_bits ?a_packed ?l_packed ?c_packed ?k_packed ?a_plain ?l_plain ?c_plain ?k_plain ?a_pressed ?l_pressed ?c_pressed ?k_pressed ?a_read_table ?l_read_table ?c_read_table ?k_read_table ?a_read_token ?l_read_token ?c_read_token ?k_read_token ?a_read_block ?l_read_block ?c_read_block ?k_read_block ?a_opened ?l_opened ?c_opened ?k_opened ?a_number_of ?l_number_of ?c_number_of ?k_number_of ?a_check ?l_check ?c_check ?k_check ?a_is_low ?l_is_low ?c_is_low ?k_is_low ?a_size_of ?l_size_of ?c_size_of ?k_size_of ?a_is_block ?l_is_block ?c_is_block ?k_is_block ?a_is_body ?l_is_body ?c_is_body ?k_is_body ?a_read_frame ?l_read_frame ?c_read_frame ?k_read_frame ?a_w_low ?l_w_low ?c_w_low ?k_w_low ?a_w_check ?l_w_check ?c_w_check ?k_w_check ?a_w_frame ?l_w_frame ?c_w_frame ?k_w_frame ?a_w_drawn ?l_w_drawn ?c_w_drawn ?k_w_drawn ?a_w_refused ?l_w_refused ?c_w_refused ?k_w_refused ?a_w_wrong_bodies ?l_w_wrong_bodies ?c_w_wrong_bodies ?k_w_wrong_bodies ?a_law ?l_law ?c_law ?k_law ?z_ValueError ?z_bool ?z_enumerate ?z_int ?z_isinstance ?z_len ?z_list ?z_max ?z_range ?z_sorted ?z_tuple ?z_AGAIN ?z_AROUND ?z_BACK_BITS ?z_BLOCK ?z_END ?z_HEAD ?z_KID ?z_KINDS ?y_KINDS ?z_LONGER ?z_LONGEST ?z_MOST_MARKS ?z_MOST_SYMBOL ?z_PRIME ?z_SHORTEST ?z_WIDE
    (case a_c_Bits => k_is)
    (case kc_Bits => k_is)
    (case pg_Bits => k_is)
    (case hd_Bits => k_is)
    (case po_Bits => k_is)
    (case sa_Bits => k_is)
    (case mk_Bits => k_is)
    (case n_Bits_at => k_is)
    (case n_Bits_row => k_is)
    (case a_c_NoBits => k_is)
    (case kc_NoBits => k_is)
    (case x_NoBits => k_exc)
    (case s_NoBits => k_is)
    (case t_NoBits => k_is)
    (case a_c_NoBlock => k_is)
    (case kc_NoBlock => k_is)
    (case x_NoBlock => k_exc)
    (case s_NoBlock => k_is)
    (case t_NoBlock => k_is)
    (case a_c_Heap => k_is)
    (case kc_Heap => k_is)
    (case pg_Heap => k_is)
    (case hd_Heap => k_is)
    (case po_Heap => k_is)
    (case sa_Heap => k_is)
    (case mk_Heap => k_is)
    (case n_Heap_deep => k_is)
    (case n_Heap_things => k_is)
    (case a_c_NoCode => k_is)
    (case kc_NoCode => k_is)
    (case x_NoCode => k_exc)
    (case s_NoCode => k_is)
    (case t_NoCode => k_is)
    (case a_c_NoRepeat => k_is)
    (case kc_NoRepeat => k_is)
    (case x_NoRepeat => k_exc)
    (case s_NoRepeat => k_is)
    (case t_NoRepeat => k_is)
    (case a_c_Broken => k_is)
    (case kc_Broken => k_is)
    (case xL_Broken => k_is)
    (case xk_Broken => exact ⟨_, _, _, _, _, rfl⟩)
    (case xsa_Broken => k_is)
    (case xga_Broken => k_is)
    (case xgg_Broken => k_is)
    (case xnb_Broken => k_is)
    (case xi_Broken => k_is)
    (case xt_Broken => k_is)
    (case xl_Broken => k_is)
    (case xc_Broken => k_is)
    (case xs_Broken => k_is)
    (case xty_Broken => k_is)
    (case xhd_Broken => k_is)
    (case a_c_PressError => k_is)
    (case kc_PressError => k_is)
    (case a_c_NoText => k_is)
    (case kc_NoText => k_is)
    (case a_c_NoPlace => k_is)
    (case kc_NoPlace => k_is)
    (case hs_NoBits => k_is)
    (case hh_NoBits => k_is)
    (case ht_NoBits => k_is)
    (case hs_NoCode => k_is)
    (case hh_NoCode => k_is)
    (case ht_NoCode => k_is)
    (case hs_NoRepeat => k_is)
    (case hh_NoRepeat => k_is)
    (case ht_NoRepeat => k_is)
    (case hs_NoBlock => k_is)
    (case hh_NoBlock => k_is)
    (case ht_NoBlock => k_is)
    (case hs_PressError => k_is)
    (case hh_PressError => k_is)
    (case ht_PressError => k_is)
    (case qe_NoBits_hg => k_is)
    (case qe_NoBits_hk => k_is)
    (case qe_NoBits_hs => k_is)
    (case qe_NoBits_hd => k_is)
    (case qe_NoBits_ha => k_is)
    (case qe_NoBits_hn => k_is)
    (case qe_NoBits_ht => k_is)
    (case qe_NoBits_hm => k_is)
    (case qm_NoBits_NoBits => k_is)
    (case qm_NoBits_NoCode => k_is)
    (case qm_NoBits_NoRepeat => k_is)
    (case qm_NoBits_NoBlock => k_is)
    (case qm_NoBits_PressError => k_is)
    (case qkk_NoBits_0 => kit_is)
    (case qkk_NoBits_1 => kit_is)
    (case qkk_NoBits_2 => kit_is)
    (case qe_NoBlock_hg => k_is)
    (case qe_NoBlock_hk => k_is)
    (case qe_NoBlock_hs => k_is)
    (case qe_NoBlock_hd => k_is)
    (case qe_NoBlock_ha => k_is)
    (case qe_NoBlock_hn => k_is)
    (case qe_NoBlock_ht => k_is)
    (case qe_NoBlock_hm => k_is)
    (case qm_NoBlock_NoBits => k_is)
    (case qm_NoBlock_NoCode => k_is)
    (case qm_NoBlock_NoRepeat => k_is)
    (case qm_NoBlock_NoBlock => k_is)
    (case qm_NoBlock_PressError => k_is)
    (case qkk_NoBlock_0 => kit_is)
    (case qkk_NoBlock_1 => kit_is)
    (case qkk_NoBlock_2 => kit_is)
    (case qe_NoCode_hg => k_is)
    (case qe_NoCode_hk => k_is)
    (case qe_NoCode_hs => k_is)
    (case qe_NoCode_hd => k_is)
    (case qe_NoCode_ha => k_is)
    (case qe_NoCode_hn => k_is)
    (case qe_NoCode_ht => k_is)
    (case qe_NoCode_hm => k_is)
    (case qm_NoCode_NoBits => k_is)
    (case qm_NoCode_NoCode => k_is)
    (case qm_NoCode_NoRepeat => k_is)
    (case qm_NoCode_NoBlock => k_is)
    (case qm_NoCode_PressError => k_is)
    (case qkk_NoCode_0 => kit_is)
    (case qkk_NoCode_1 => kit_is)
    (case qkk_NoCode_2 => kit_is)
    (case qe_NoRepeat_hg => k_is)
    (case qe_NoRepeat_hk => k_is)
    (case qe_NoRepeat_hs => k_is)
    (case qe_NoRepeat_hd => k_is)
    (case qe_NoRepeat_ha => k_is)
    (case qe_NoRepeat_hn => k_is)
    (case qe_NoRepeat_ht => k_is)
    (case qe_NoRepeat_hm => k_is)
    (case qm_NoRepeat_NoBits => k_is)
    (case qm_NoRepeat_NoCode => k_is)
    (case qm_NoRepeat_NoRepeat => k_is)
    (case qm_NoRepeat_NoBlock => k_is)
    (case qm_NoRepeat_PressError => k_is)
    (case qkk_NoRepeat_0 => kit_is)
    (case qkk_NoRepeat_1 => kit_is)
    (case qkk_NoRepeat_2 => kit_is)
    (case qe_Broken_hg => k_is)
    (case qe_Broken_hk => k_is)
    (case qe_Broken_hs => k_is)
    (case qe_Broken_hd => k_is)
    (case qe_Broken_ha => k_is)
    (case qe_Broken_hn => k_is)
    (case qe_Broken_ht => k_is)
    (case qe_Broken_hm => k_is)
    (case qm_Broken_NoBits => k_is)
    (case qm_Broken_NoCode => k_is)
    (case qm_Broken_NoRepeat => k_is)
    (case qm_Broken_NoBlock => k_is)
    (case qm_Broken_PressError => k_is)
    (case qkk_Broken_0 => kit_is)
    (case qkk_Broken_1 => kit_is)
    (case qkk_Broken_2 => kit_is)
    (case a_w_cell => k_is)
    (case l_w_cell => k_is)
    (case c_w_cell => k_is)
    (case k_w_cell => k_is)
    (case a_w_purse => k_is)
    (case l_w_purse => k_is)
    (case c_w_purse => k_is)
    (case k_w_purse => k_is)
    (case a_w_take => k_is)
    (case l_w_take => k_is)
    (case c_w_take => k_is)
    (case k_w_take => k_is)
    (case a_w_whole => k_is)
    (case l_w_whole => k_is)
    (case c_w_whole => k_is)
    (case k_w_whole => k_is)
    (case a_is_whole => k_is)
    (case l_is_whole => k_is)
    (case c_is_whole => k_is)
    (case k_is_whole => k_is)
    (case a_is_mark => k_is)
    (case l_is_mark => k_is)
    (case c_is_mark => k_is)
    (case k_is_mark => k_is)
    (case a_is_text => k_is)
    (case l_is_text => k_is)
    (case c_is_text => k_is)
    (case k_is_text => k_is)
    (case a_bits_of => k_is)
    (case l_bits_of => k_is)
    (case c_bits_of => k_is)
    (case k_bits_of => k_is)
    (case a_halves => k_is)
    (case l_halves => k_is)
    (case c_halves => k_is)
    (case k_halves => k_is)
    (case a_laid => k_is)
    (case l_laid => k_is)
    (case c_laid => k_is)
    (case k_laid => k_is)
    (case a_Bits___init__ => k_is)
    (case i_Bits___init__ => k_is)
    (case l_Bits___init__ => k_is)
    (case c_Bits___init__ => k_is)
    (case k_Bits___init__ => k_is)
    (case a_Bits_left => k_is)
    (case i_Bits_left => k_is)
    (case l_Bits_left => k_is)
    (case c_Bits_left => k_is)
    (case k_Bits_left => k_is)
    (case a_Bits_take => k_is)
    (case i_Bits_take => k_is)
    (case l_Bits_take => k_is)
    (case c_Bits_take => k_is)
    (case k_Bits_take => k_is)
    (case a_Bits_take_halves => k_is)
    (case i_Bits_take_halves => k_is)
    (case l_Bits_take_halves => k_is)
    (case c_Bits_take_halves => k_is)
    (case k_Bits_take_halves => k_is)
    (case a_look_at_block => k_is)
    (case l_look_at_block => k_is)
    (case c_look_at_block => k_is)
    (case k_look_at_block => k_is)
    (case a_Heap___init__ => k_is)
    (case i_Heap___init__ => k_is)
    (case l_Heap___init__ => k_is)
    (case c_Heap___init__ => k_is)
    (case k_Heap___init__ => k_is)
    (case a_Heap_take_least => k_is)
    (case i_Heap_take_least => k_is)
    (case l_Heap_take_least => k_is)
    (case c_Heap_take_least => k_is)
    (case k_Heap_take_least => k_is)
    (case a_Heap_merge => k_is)
    (case i_Heap_merge => k_is)
    (case l_Heap_merge => k_is)
    (case c_Heap_merge => k_is)
    (case k_Heap_merge => k_is)
    (case a_Heap_merge_all => k_is)
    (case i_Heap_merge_all => k_is)
    (case l_Heap_merge_all => k_is)
    (case c_Heap_merge_all => k_is)
    (case k_Heap_merge_all => k_is)
    (case a_lengths_of => k_is)
    (case l_lengths_of => k_is)
    (case c_lengths_of => k_is)
    (case k_lengths_of => k_is)
    (case a_look_at_lengths => k_is)
    (case l_look_at_lengths => k_is)
    (case c_look_at_lengths => k_is)
    (case k_look_at_lengths => k_is)
    (case a_written => k_is)
    (case l_written => k_is)
    (case c_written => k_is)
    (case k_written => k_is)
    (case a_codes_of => k_is)
    (case l_codes_of => k_is)
    (case c_codes_of => k_is)
    (case k_codes_of => k_is)
    (case a_run_at => k_is)
    (case l_run_at => k_is)
    (case c_run_at => k_is)
    (case k_run_at => k_is)
    (case a_repeat_at => k_is)
    (case l_repeat_at => k_is)
    (case c_repeat_at => k_is)
    (case k_repeat_at => k_is)
    (case a_tokens_of => k_is)
    (case l_tokens_of => k_is)
    (case c_tokens_of => k_is)
    (case k_tokens_of => k_is)
    (case a_look_at_repeat => k_is)
    (case l_look_at_repeat => k_is)
    (case c_look_at_repeat => k_is)
    (case k_look_at_repeat => k_is)
    (case a_laid_out => k_is)
    (case l_laid_out => k_is)
    (case c_laid_out => k_is)
    (case k_laid_out => k_is)
    (case a_symbol_of => k_is)
    (case l_symbol_of => k_is)
    (case c_symbol_of => k_is)
    (case k_symbol_of => k_is)
    (case a_counts_of => k_is)
    (case l_counts_of => k_is)
    (case c_counts_of => k_is)
    (case k_counts_of => k_is)
    (case a_table_bits => k_is)
    (case l_table_bits => k_is)
    (case c_table_bits => k_is)
    (case k_table_bits => k_is)
    (case a_token_bits => k_is)
    (case l_token_bits => k_is)
    (case c_token_bits => k_is)
    (case k_token_bits => k_is)
    (case a_packed => k_is)
    (case l_packed => k_is)
    (case c_packed => k_is)
    (case k_packed => k_is)
    (case a_plain => k_is)
    (case l_plain => k_is)
    (case c_plain => k_is)
    (case k_plain => k_is)
    (case a_pressed => k_is)
    (case l_pressed => k_is)
    (case c_pressed => k_is)
    (case k_pressed => k_is)
    (case a_read_table => k_is)
    (case l_read_table => k_is)
    (case c_read_table => k_is)
    (case k_read_table => k_is)
    (case a_read_token => k_is)
    (case l_read_token => k_is)
    (case c_read_token => k_is)
    (case k_read_token => k_is)
    (case a_read_block => k_is)
    (case l_read_block => k_is)
    (case c_read_block => k_is)
    (case k_read_block => k_is)
    (case a_opened => k_is)
    (case l_opened => k_is)
    (case c_opened => k_is)
    (case k_opened => k_is)
    (case a_number_of => k_is)
    (case l_number_of => k_is)
    (case c_number_of => k_is)
    (case k_number_of => k_is)
    (case a_check => k_is)
    (case l_check => k_is)
    (case c_check => k_is)
    (case k_check => k_is)
    (case a_is_low => k_is)
    (case l_is_low => k_is)
    (case c_is_low => k_is)
    (case k_is_low => k_is)
    (case a_size_of => k_is)
    (case l_size_of => k_is)
    (case c_size_of => k_is)
    (case k_size_of => k_is)
    (case a_is_block => k_is)
    (case l_is_block => k_is)
    (case c_is_block => k_is)
    (case k_is_block => k_is)
    (case a_is_body => k_is)
    (case l_is_body => k_is)
    (case c_is_body => k_is)
    (case k_is_body => k_is)
    (case a_read_frame => k_is)
    (case l_read_frame => k_is)
    (case c_read_frame => k_is)
    (case k_read_frame => k_is)
    (case a_w_low => k_is)
    (case l_w_low => k_is)
    (case c_w_low => k_is)
    (case k_w_low => k_is)
    (case a_w_check => k_is)
    (case l_w_check => k_is)
    (case c_w_check => k_is)
    (case k_w_check => k_is)
    (case a_w_frame => k_is)
    (case l_w_frame => k_is)
    (case c_w_frame => k_is)
    (case k_w_frame => k_is)
    (case a_w_drawn => k_is)
    (case l_w_drawn => k_is)
    (case c_w_drawn => k_is)
    (case k_w_drawn => k_is)
    (case a_w_refused => k_is)
    (case l_w_refused => k_is)
    (case c_w_refused => k_is)
    (case k_w_refused => k_is)
    (case a_w_wrong_bodies => k_is)
    (case l_w_wrong_bodies => k_is)
    (case c_w_wrong_bodies => k_is)
    (case k_w_wrong_bodies => k_is)
    (case a_law => k_is)
    (case l_law => k_is)
    (case c_law => k_is)
    (case k_law => k_is)
    (case z_ValueError => k_is)
    (case z_bool => k_is)
    (case z_enumerate => k_is)
    (case z_int => k_is)
    (case z_isinstance => k_is)
    (case z_len => k_is)
    (case z_list => k_is)
    (case z_max => k_is)
    (case z_range => k_is)
    (case z_sorted => k_is)
    (case z_tuple => k_is)
    (case z_AGAIN => k_is)
    (case z_AROUND => k_is)
    (case z_BACK_BITS => k_is)
    (case z_BLOCK => k_is)
    (case z_END => k_is)
    (case z_HEAD => k_is)
    (case z_KID => k_is)
    (case z_KINDS => k_is)
    (case y_KINDS => k_is)
    (case z_LONGER => k_is)
    (case z_LONGEST => k_is)
    (case z_MOST_MARKS => k_is)
    (case z_MOST_SYMBOL => k_is)
    (case z_PRIME => k_is)
    (case z_SHORTEST => k_is)
    (case z_WIDE => k_is)


