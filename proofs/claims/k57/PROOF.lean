import PyProof.Rows.All
import Wide.All
import OpenK.AllK
import Wide.FinOn
import HandS.ForMost
import HandS.ForExc
import HandS.IsInst
import HandS.WideBits
import HandS.More
import HandS.Evl
import HandS.TupAny
import HandS.ExcCtx
import HandS.ExcIs
import HandS.TryMany
import KE.KRevIter
import KE.GoesZip
import PyProof.Draws
import KE.IntBitsLaws
import KE.KBits
import KE.DataMinMax
import HandS.SortKw
import HandS.SortRule
import HandS.SortInts
import HandS.Deep
import HandS.SetFor
import HandS.Strs
import HandS.SuiteRaise
import HandS.TryOnly
import HandS.HotCalls
import HandS.Flow
import PyProof.StrOps2
import KE.KTryMore
import PyProof.LongRange
import KE.GoesComp
import KE.KAsSuite
import KE.KIntText
import PySem.Challenge.RW_seekpress_k57_texts_refused
set_option Elab.async false
set_option linter.all false
set_option maxRecDepth 100000
set_option maxHeartbeats 4000000
/-! Sk: readings walked over what one owns. SI B L H: the heap H is the base B and, apart from it, the objects of L. -/
namespace Sk
open PySem PySem.Spec PyProof.Rows L2

abbrev St := L2.St
abbrev Own := List (Addr × HO)
structure SI (B : Hp) (L : Own) (H : Hp) : Prop where
  ext : Same B H
  own : ∀ q ∈ L, B q.1 = none ∧ H q.1 = some q.2
  nd : (L.map (·.1)).Nodup
section
variable {B H H' : Hp} {L L' Lr Lin Lout : Own} {p : Addr} {o o' : HO} {i : Nat}
theorem SI.refl (H : Hp) : SI H [] H := ⟨Same.refl H, by simp, by simp⟩
theorem SI.at (h : SI B L H) (hi : L[i]? = some (p, o)) : H p = some o := (h.own _ (List.mem_of_getElem? hi)).2
theorem SI.free (h : SI B L H) (hi : L[i]? = some (p, o)) : B p = none := (h.own _ (List.mem_of_getElem? hi)).1
theorem SI.new (h : SI B L H) (hp : H p = none) : SI B ((p, o) :: L) (upd H p o) where
  ext := fun b u e => by rw [upd_ne (ne_of_none (h.ext b u e) hp)]; exact h.ext b u e
  own := fun q hq => by
    rcases List.mem_cons.mp hq with rfl | hq
    · exact ⟨h.ext.free hp, upd_same⟩
    · obtain ⟨a, b⟩ := h.own q hq
      exact ⟨a, by rw [upd_ne (ne_of_none b hp)]; exact b⟩
  nd := by
    rw [List.map_cons, List.nodup_cons]
    refine ⟨fun hm => ?_, h.nd⟩
    obtain ⟨q, hq, e⟩ := List.mem_map.mp hm
    have := (h.own q hq).2
    rw [show q.1 = p from e, hp] at this
    cases this
theorem SI.set (h : SI B L H) (hi : L[i]? = some (p, o)) : SI B (L.set i (p, o')) (upd H p o') where
  ext := fun b u e => by
    rw [upd_ne (ne_of_none e (h.free hi))]
    exact h.ext b u e
  own := fun q hq => by
    obtain ⟨j, hj, e⟩ := List.mem_iff_getElem.mp hq
    rw [List.length_set] at hj
    rw [List.getElem_set] at e
    split at e
    · subst e
      exact ⟨h.free hi, upd_same⟩
    · rename_i hij
      subst e
      obtain ⟨a, b⟩ := h.own L[j] (List.getElem_mem _)
      refine ⟨a, ?_⟩
      have hne : L[j].1 ≠ p := fun e => by
        obtain ⟨hi', ei⟩ := List.getElem?_eq_some_iff.mp hi
        have hi2 : i < (L.map (·.1)).length := by rw [List.length_map]; exact hi'
        have hj2 : j < (L.map (·.1)).length := by rw [List.length_map]; exact hj
        have q : (L.map (·.1))[i] = (L.map (·.1))[j] := by
          rw [List.getElem_map, List.getElem_map, ei, e]
        exact hij ((List.getElem_inj h.nd).mp q)
      rw [upd_ne hne]
      exact b
  nd := by
    have e : (L.set i (p, o')).map (·.1) = L.map (·.1) := by
      rw [List.map_set]
      obtain ⟨hi', ei⟩ := List.getElem?_eq_some_iff.mp hi
      apply List.ext_getElem
      · simp
      · intro n h1 h2
        rw [List.getElem_set]
        split
        · rename_i e; subst e
          rw [List.getElem_map, ei]
        · rfl
    rw [e]
    exact h.nd
theorem SI.sub (h : SI B L H) (s : L'.Sublist L) : SI B L' H :=
  ⟨h.ext, fun q hq => h.own q (s.subset hq), h.nd.sublist (s.map _)⟩
theorem SI.perm (h : SI B L H) (s : L.Perm L') : SI B L' H :=
  ⟨h.ext, fun q hq => h.own q (s.mem_iff.mpr hq), (s.map _).nodup_iff.mp h.nd⟩
theorem SI.trans (h : SI B L H) (h' : SI H L' H') : SI B (L' ++ L) H' where
  ext := h.ext.trans h'.ext
  own := fun q hq => by
    rcases List.mem_append.mp hq with hq | hq
    · obtain ⟨a, b⟩ := h'.own q hq
      exact ⟨h.ext.free a, b⟩
    · obtain ⟨a, b⟩ := h.own q hq
      exact ⟨a, h'.ext _ _ b⟩
  nd := by
    rw [List.map_append, List.nodup_append]
    refine ⟨h'.nd, h.nd, fun a ha b hb e => ?_⟩
    obtain ⟨q, hq, rfl⟩ := List.mem_map.mp ha
    obtain ⟨r, hr, rfl⟩ := List.mem_map.mp hb
    have x := (h'.own q hq).1
    rw [e, (h.own r hr).2] at x
    cases x
/-- the heap without some addresses -/
def del (H : Hp) (ps : List Addr) : Hp := fun a => if a ∈ ps then none else H a
theorem del_in {ps : List Addr} (h : p ∈ ps) : del H ps p = none := by unfold del; rw [if_pos h]
theorem del_out {ps : List Addr} (h : p ∉ ps) : del H ps p = H p := by unfold del; rw [if_neg h]
/-- what is lent: the objects of Lin; the rest stands in the base -/
theorem SI.lend (h : SI B (Lin ++ Lr) H) : SI (del H (Lin.map (·.1))) Lin H where
  ext := fun b u e => by
    unfold del at e
    split at e
    · cases e
    · exact e
  own := fun q hq => ⟨del_in (List.mem_map.mpr ⟨q, hq, rfl⟩), (h.own q (List.mem_append_left _ hq)).2⟩
  nd := by
    have n := h.nd
    rw [List.map_append] at n
    exact (List.nodup_append.mp n).1
/-- what is given back -/
theorem SI.back (h : SI B (Lin ++ Lr) H) (h' : SI (del H (Lin.map (·.1))) Lout H') : SI B (Lout ++ Lr) H' where
  ext := fun b u e => by
    refine h'.ext b u ?_
    rw [del_out fun hm => ?_]
    · exact h.ext b u e
    · obtain ⟨q, hq, rfl⟩ := List.mem_map.mp hm
      rw [(h.own q (List.mem_append_left _ hq)).1] at e
      cases e
  own := fun q hq => by
    rcases List.mem_append.mp hq with hq | hq
    · obtain ⟨a, b⟩ := h'.own q hq
      refine ⟨?_, b⟩
      by_cases hm : q.1 ∈ Lin.map (·.1)
      · obtain ⟨r, hr, e⟩ := List.mem_map.mp hm
        rw [← e]
        exact (h.own r (List.mem_append_left _ hr)).1
      · rw [del_out hm] at a
        exact h.ext.free a
    · obtain ⟨a, b⟩ := h.own q (List.mem_append_right _ hq)
      refine ⟨a, h'.ext _ _ ?_⟩
      rw [del_out fun hm => ?_]
      · exact b
      · have n := h.nd
        rw [List.map_append, List.nodup_append] at n
        exact n.2.2 _ hm _ (List.mem_map.mpr ⟨q, hq, rfl⟩) rfl
  nd := by
    have n := h.nd
    rw [List.map_append, List.nodup_append] at n
    rw [List.map_append, List.nodup_append]
    refine ⟨h'.nd, n.2.1, fun a ha b hb e => ?_⟩
    obtain ⟨q, hq, rfl⟩ := List.mem_map.mp ha
    obtain ⟨r, hr, rfl⟩ := List.mem_map.mp hb
    have x := (h'.own q hq).1
    rw [e, del_out fun hm => n.2.2 _ hm _ (List.mem_map.mpr ⟨r, hr, rfl⟩) rfl, (h.own r (List.mem_append_right _ hr)).2] at x
    cases x
end

/-! ### ends -/
def onE (D : Ends) (n : St → Hp → Prop) : Ends := { D with nx := n }
def loE (D : Ends) (n : St → Hp → Prop) : Ends := { D with nx := n, ct := n, bk := D.nx }
def endE (Q : VK) : Ends := { nx := fun _ H' => Q .non H', rt := Q }
theorem onE_nx {D : Ends} {n : St → Hp → Prop} : (onE D n).nx = n := rfl
theorem onE_rt {D : Ends} {n : St → Hp → Prop} : (onE D n).rt = D.rt := rfl
theorem onE_bk {D : Ends} {n : St → Hp → Prop} : (onE D n).bk = D.bk := rfl
theorem onE_ct {D : Ends} {n : St → Hp → Prop} : (onE D n).ct = D.ct := rfl
theorem loE_nx {D : Ends} {n : St → Hp → Prop} : (loE D n).nx = n := rfl
theorem loE_rt {D : Ends} {n : St → Hp → Prop} : (loE D n).rt = D.rt := rfl
theorem loE_bk {D : Ends} {n : St → Hp → Prop} : (loE D n).bk = D.nx := rfl
theorem loE_ct {D : Ends} {n : St → Hp → Prop} : (loE D n).ct = n := rfl
theorem endE_rt {Q : VK} : (endE Q).rt = Q := rfl
theorem endE_nx {Q : VK} : (endE Q).nx = fun _ H' => Q .non H' := rfl

/-! ### the goal's form -/
def N (B : Hp) (L : Own) (k : Hp → Prop) : Prop := ∀ H, SI B L H → k H
/-- behind a turn: what is owned, by a word -/
def KI (B : Hp) (P : St → Own → Prop) : St → Hp → Prop := fun σ H => ∃ L, SI B L H ∧ P σ L
def KW (B : Hp) (P : Nat → St → Own → Prop) (m : Nat) : St → Hp → Prop := fun σ H => ∃ m' L, m' < m ∧ SI B L H ∧ P m' σ L
def Sq (K : PySem.W.Frag) (B : Hp) (L : Own) (a : Addr) (xs : List V) : Prop := ∀ H, SI B L H → SqL K H a xs
def Tp (K : PySem.W.Frag) (B : Hp) (L : Own) (a : Addr) (xs : List V) : Prop := ∀ H, SI B L H → SqT K H a xs
def Is (B : Hp) (L : Own) (a : Addr) (o : HO) : Prop := ∀ H, SI B L H → H a = some o
theorem same_tup {K : PySem.W.Frag} {H H' : Hp} {a : Addr} {xs : List V} (e : Same H H') (h : SqT K H a xs) : SqT K H' a xs := by
  rcases h with (h | ⟨o, h⟩) | h
  · exact .inl (.inl (e _ _ h))
  · exact .inl (.inr ⟨o, e _ _ h⟩)
  · exact .inr h
section
variable {K : PySem.W.Frag} {B : Hp} {L L' : Own} {a p : Addr} {o : HO} {xs ys : List V} {k : Hp → Prop}
theorem sq_own (i : Nat) (h : L[i]? = some (a, .lst xs)) : Sq K B L a xs := fun _ s => SqL.of (s.at h)
theorem sq_old (h : SqL K B a xs) : Sq K B L a xs := fun _ s => s.ext.seq h
theorem tp_own (i : Nat) (h : L[i]? = some (a, .tup xs)) : Tp K B L a xs := fun _ s => SqT.of (s.at h)
theorem tp_old (h : SqT K B a xs) : Tp K B L a xs := fun _ s => same_tup s.ext h
theorem is_own (i : Nat) (h : L[i]? = some (a, o)) : Is B L a o := fun _ s => s.at h
theorem is_old (h : B a = some o) : Is B L a o := fun _ s => s.ext _ _ h
theorem is_sq (h : Is B L a (.lst xs)) : Sq K B L a xs := fun H s => SqL.of (h H s)
theorem Is.sub (h : Is B L a o) (s : L.Sublist L') : Is B L' a o := fun H x => h H (x.sub s)
theorem Sq.sub (h : Sq K B L a xs) (s : L.Sublist L') : Sq K B L' a xs := fun H x => h H (x.sub s)
theorem Sq.app (h : Sq K B L a xs) : Sq K B (L' ++ L) a xs := h.sub (List.sublist_append_right L' L)
theorem n_sub (s : L'.Sublist L) (h : N B L' k) : N B L k := fun H x => h H (x.sub s)
theorem n_perm (s : L.Perm L') (h : N B L' k) : N B L k := fun H x => h H (x.perm s)
theorem n_own {L'' : Own} (e : L = L'') (h : N B L'' k) : N B L k := by rw [e]; exact h
theorem n_of (h : ∀ H, SI B L H → k H) : N B L k := h

/-! ### operators of any kind -/
def rStrAdd : R2 := fun x y H Q => ∃ i j, x = .str i ∧ y = .str j ∧ i.length + j.length ≤ sizeLine ∧ Q (.str (i ++ j)) H
def uAdd (K : PySem.W.Frag) : R2 := fun x y H Q => (rI0 (fun i j => .int (i + j)) x y H Q ∨ rStrAdd x y H Q) ∨ (rCat x y H Q ∨ rCatA K x y H Q)
def uSub : R2 := rI0 fun i j => .int (i - j)
def uMul : R2 := fun x y H Q => (rI CMul (fun i j => .int (i * j)) x y H Q ∨ rI CMulW (fun i j => .int (i * j)) x y H Q) ∨ rRep x y H Q
def uDiv : R2 := fun x y H Q => rI CDiv (fun i j => .int (i / j)) x y H Q ∨ rI CDivW (fun i j => .int (i / j)) x y H Q
def uMod : R2 := rI (fun _ j => 0 < j) fun i j => .int (i % j)
def uPow : R2 := rI CPow fun i j => .int (i ^ j.toNat)
def uShl : R2 := fun x y H Q => rI CPow (fun i j => .int (i * 2 ^ j.toNat)) x y H Q ∨ rI CShl (fun i j => .int (i * 2 ^ j.toNat)) x y H Q
def uShr : R2 := rI (fun _ j => 0 ≤ j) fun i j => .int (i / 2 ^ j.toNat)
def uAnd : R2 := rI0 fun i j => .int (Builtin.bitAnd i j)
def uOr : R2 := rI0 fun i j => .int (Builtin.bitOr i j)
def uXor : R2 := rI0 fun i j => .int (Builtin.bitXor i j)
def uEq (K : PySem.W.Frag) : R2 := fun x y H Q => rEq x y H Q ∨ rEqD K x y H Q
def uNe (K : PySem.W.Frag) : R2 := fun x y H Q => rNe x y H Q ∨ rNeD K x y H Q
def uLt : R2 := rI0 fun i j => .bl (decide (i < j))
def uLe : R2 := rI0 fun i j => .bl (decide (i ≤ j))
def uGt : R2 := rI0 fun i j => .bl (decide (j < i))
def uGe : R2 := rI0 fun i j => .bl (decide (j ≤ i))
def uIsN : R2 := fun x y H Q => y = .non ∧ Q (.bl (decide (x = .non))) H
def uNotN : R2 := fun x y H Q => y = .non ∧ Q (.bl (!decide (x = .non))) H
def uLen (K : PySem.W.Frag) : List V → Hp → VK → Prop := fun xs H Q => ∃ p ys, xs = [.ref p] ∧ (SqL K H p ys ∨ SqT K H p ys) ∧ Q (.int ys.length) H
def uListOf (K : PySem.W.Frag) : List V → Hp → VK → Prop := fun xs H Q => ∃ p ys, xs = [.ref p] ∧ (SqL K H p ys ∨ SqT K H p ys) ∧ ∀ l, H l = none → Q (.ref l) (upd H l (.lst ys))
def rInsert : V → List V → Hp → VK → Prop := fun x vs H Q => ∃ (l : Addr) (xs : List V) (i : Int) (y : V), x = .ref l ∧ vs = [.int i, y] ∧ H l = some (.lst xs) ∧ xs.length < sizeLine ∧ 0 ≤ i ∧ i < 2 ^ 63 ∧
    Q .non (upd H l (.lst (xs.take i.toNat ++ [y] ++ xs.drop i.toNat)))
section
variable {X : Cx}
theorem op_uAdd : OpR X (binaryOp .Add) (uAdd X.K) := (op_add.or op_add_str).or (op_cat.or op_catA)
theorem op_uSub : OpR X (binaryOp .Sub) uSub := op_sub
theorem op_uMul : OpR X (binaryOp .Mult) uMul := (op_mul.or op_mulW).or op_rep
theorem op_uDiv : OpR X (binaryOp .FloorDiv) uDiv := op_fdiv.or op_fdivW
theorem op_uMod : OpR X (binaryOp .Mod) uMod := op_mod
theorem op_uPow : OpR X (binaryOp .Pow) uPow := op_pow
theorem op_uShl : OpR X (binaryOp .LShift) uShl := op_shl.or op_shlW
theorem op_uShr : OpR X (binaryOp .RShift) uShr := op_shr
theorem op_uAnd : OpR X (binaryOp .BitAnd) uAnd := op_and
theorem op_uOr : OpR X (binaryOp .BitOr) uOr := op_or
theorem op_uXor : OpR X (binaryOp .BitXor) uXor := op_xor
theorem op_uEq (hu : X.A.units + 64 < cLine) : OpR X (compareOp .Eq) (uEq X.K) := op_eq.or (op_eqD hu)
theorem op_uNe (hu : X.A.units + 64 < cLine) : OpR X (compareOp .NotEq) (uNe X.K) := op_ne.or (op_neD hu)
theorem op_uLt : OpR X (compareOp .Lt) uLt := op_lt
theorem op_uLe : OpR X (compareOp .LtE) uLe := op_le
theorem op_uGt : OpR X (compareOp .Gt) uGt := op_gt
theorem op_uGe : OpR X (compareOp .GtE) uGe := op_ge
theorem op_uIsN : OpR X (compareOp .Is) uIsN := op_isN
theorem op_uNotN : OpR X (compareOp .IsNot) uNotN := op_notN
theorem call_uLen : CallR X (.builtin "len") (uLen X.K) := call_len_seq
theorem call_uList : CallR X (.type "list") (uListOf X.K) := call_list_of
theorem mt_uInsert : MtM X "list.insert" rInsert := mt_insert
end

/-! ### expressions -/
variable {σ : St} {Q : VK} {v x y : V} {ta tb te : TE} {t u : TT} {b : Bool} {QB : Bool → Hp → Prop}
theorem n_var {i : Nat} (h : σ[i]? = some (some v)) (q : N B L (Q v)) : N B L (fun H => tVar i σ H Q) := fun H s => ⟨v, h, q H s⟩
theorem n_c (q : N B L (Q v)) : N B L (fun H => tC v σ H Q) := q
theorem n_op {r : R2} (q : N B L (fun H => ta σ H fun x H1 => tb σ H1 fun y H2 => r x y H2 Q)) : N B L (fun H => tOp r ta tb σ H Q) := q
theorem n_un {r : V → Hp → VK → Prop} (q : N B L (fun H => ta σ H fun x H1 => r x H1 Q)) : N B L (fun H => tUn r ta σ H Q) := q
theorem n_nil {QA : List V → Hp → Prop} (q : N B L (QA [])) : N B L (fun H => tNil σ H QA) := q
theorem n_cons {tr : TA} {QA : List V → Hp → Prop} (q : N B L (fun H => ta σ H fun x H1 => tr σ H1 fun xs H2 => QA (x :: xs) H2)) : N B L (fun H => tCons ta tr σ H QA) := q
theorem n_cb {r : List V → Hp → VK → Prop} {tr : TA} (q : N B L (fun H => tr σ H fun vs H1 => r vs H1 Q)) : N B L (fun H => tCB r tr σ H Q) := q
theorem n_call {sp : Sp} {dvs : List V} {E : XK} {tr : TA} (q : N B L (fun H => tr σ H fun vs H1 => sp (vs ++ dvs) H1 Q E)) : N B L (fun H => tCall sp dvs E tr σ H Q) := q
theorem n_test (q : N B L (fun H => te σ H fun x H' => ∃ k, x = .bl k ∧ QB k H')) : N B L (fun H => tTest te σ H QB) := q
theorem n_tB (q : N B L (fun H => te σ H fun x H' => ∃ k, x = .bl k ∧ QB k H')) : N B L (fun H => tB te σ H QB) := q
theorem n_bl (q : N B L (QB b)) : N B L (fun H => ∃ k, V.bl b = V.bl k ∧ QB k H) := fun H s => ⟨b, rfl, q H s⟩
theorem n_blV (q : N B L (Q (.bl b))) : N B L (fun H => Q (.bl b) H) := q
/-- a test's answer, told once for whatever follows -/
def ET (B : Hp) (L : Own) (t : TT) (σ : St) (b : Bool) : Prop := ∀ QB : Bool → Hp → Prop, N B L (QB b) → N B L (fun H => t σ H QB)
def EV (B : Hp) (L : Own) (t : TE) (σ : St) (v : V) : Prop := ∀ Q : VK, N B L (Q v) → N B L (fun H => t σ H Q)
theorem n_and {a c : Bool} (h1 : ET B L t σ a) (h2 : a = true → ET B L u σ c) (q : N B L (QB (a && c))) : N B L (fun H => tAnd t u σ H QB) := by
  refine h1 (fun c H1 => if c = true then u σ H1 QB else QB false H1) fun H s => ?_
  cases a with
  | true => exact h2 rfl QB q H s
  | false => exact q H s
theorem n_or {a c : Bool} (h1 : ET B L t σ a) (h2 : a = false → ET B L u σ c) (q : N B L (QB (a || c))) : N B L (fun H => tOr t u σ H QB) := by
  refine h1 (fun c H1 => if c = true then QB true H1 else u σ H1 QB) fun H s => ?_
  cases a with
  | true => exact q H s
  | false => exact h2 rfl QB q H s
theorem n_not (q : N B L (fun H => t σ H fun c H1 => QB (!c) H1)) : N B L (fun H => tNot t σ H QB) := q
theorem n_andV {a c : Bool} (h1 : EV B L ta σ (.bl a)) (h2 : a = true → EV B L tb σ (.bl c)) (q : N B L (Q (.bl (a && c)))) : N B L (fun H => tAndV ta tb σ H Q) := by
  refine h1 (fun x H1 => ∃ c, x = .bl c ∧ if c = true then tb σ H1 Q else Q (.bl false) H1) fun H s => ⟨a, rfl, ?_⟩
  cases a with
  | true => exact h2 rfl Q q H s
  | false => exact q H s
theorem n_orV {a c : Bool} (h1 : EV B L ta σ (.bl a)) (h2 : a = false → EV B L tb σ (.bl c)) (q : N B L (Q (.bl (a || c)))) : N B L (fun H => tOrV ta tb σ H Q) := by
  refine h1 (fun x H1 => ∃ c, x = .bl c ∧ if c = true then Q (.bl true) H1 else tb σ H1 Q) fun H s => ⟨a, rfl, ?_⟩
  cases a with
  | true => exact q H s
  | false => exact h2 rfl Q q H s
theorem n_notV (q : N B L (fun H => ta σ H fun x H1 => ∃ c, x = .bl c ∧ Q (.bl (!c)) H1)) : N B L (fun H => tNotV ta σ H Q) := q
theorem n_ifE (q : N B L (fun H => t σ H fun c H1 => if c = true then ta σ H1 Q else tb σ H1 Q)) : N B L (fun H => tIf t ta tb σ H Q) := q
theorem n_chain {r r' : R2} {tc : TE} (q : N B L (fun H => ta σ H fun x H1 => tb σ H1 fun y H2 => r x y H2 fun z H3 => ∃ k, z = .bl k ∧ (if k = true then tc σ H3 fun w' H4 => r' y w' H4 Q else Q (.bl false) H3))) : N B L (fun H => tChain r r' ta tb tc σ H Q) := q
/-- the chain's second half, where the value is a truth -/
theorem n_chain2 {r' : R2} {tc : TE} {c : Bool} (h2 : b = true → ∀ Q' : VK, N B L (Q' (.bl c)) → N B L (fun H => tc σ H fun w' H4 => r' y w' H4 Q')) (q : N B L (Q (.bl (b && c)))) :
    N B L (fun H3 => ∃ k, V.bl b = V.bl k ∧ (if k = true then tc σ H3 fun w' H4 => r' y w' H4 Q else Q (.bl false) H3)) := fun H s => ⟨b, rfl, by
  cases b with
  | true => exact h2 rfl Q q H s
  | false => exact q H s⟩
theorem n_ite {k1 k2 : Hp → Prop} (h1 : b = true → N B L k1) (h2 : b = false → N B L k2) : N B L (fun H => if b = true then k1 H else k2 H) := fun H s => by
  cases b with
  | true => exact h1 rfl H s
  | false => exact h2 rfl H s
theorem n_iteD {c : Prop} [Decidable c] {k1 k2 : Hp → Prop} (h1 : c → N B L k1) (h2 : ¬ c → N B L k2) : N B L (fun H => if decide c = true then k1 H else k2 H) :=
  n_ite (fun h => h1 (of_decide_eq_true h)) (fun h => h2 (of_decide_eq_false h))
theorem n_iteND {c : Prop} [Decidable c] {k1 k2 : Hp → Prop} (h1 : ¬ c → N B L k1) (h2 : c → N B L k2) : N B L (fun H => if (!decide c) = true then k1 H else k2 H) :=
  n_ite (fun h => h1 (fun hc => by rw [decide_eq_true hc] at h; cases h)) (fun h => h2 (Classical.byContradiction fun hc => by rw [decide_eq_false hc] at h; cases h))
theorem n_iteT {k1 k2 : Hp → Prop} (h1 : N B L k1) : N B L (fun H => if true = true then k1 H else k2 H) := n_ite (fun _ => h1) (fun h => nomatch h)
theorem n_iteF {k1 k2 : Hp → Prop} (h1 : N B L k2) : N B L (fun H => if false = true then k1 H else k2 H) := n_ite (fun h => nomatch h) (fun _ => h1)

/-! ### operators -/
variable {i j : Int} {s1 s2 : Str}
theorem n_rI {C : Int → Int → Prop} {g : Int → Int → V} (h : C i j) (q : N B L (Q (g i j))) : N B L (fun H => rI C g (.int i) (.int j) H Q) := fun H s => ⟨i, j, rfl, rfl, h, q H s⟩
theorem n_rI0 {g : Int → Int → V} (q : N B L (Q (g i j))) : N B L (fun H => rI0 g (.int i) (.int j) H Q) := fun H s => ⟨i, j, rfl, rfl, q H s⟩
theorem n_add (q : N B L (Q (.int (i + j)))) : N B L (fun H => uAdd K (.int i) (.int j) H Q) := fun H s => .inl (.inl ⟨i, j, rfl, rfl, q H s⟩)
theorem n_addS (h : s1.length + s2.length ≤ sizeLine) (q : N B L (Q (.str (s1 ++ s2)))) : N B L (fun H => uAdd K (.str s1) (.str s2) H Q) := fun H s => .inl (.inr ⟨s1, s2, rfl, rfl, h, q H s⟩)
theorem n_sub_ (q : N B L (Q (.int (i - j)))) : N B L (fun H => uSub (.int i) (.int j) H Q) := fun H s => ⟨i, j, rfl, rfl, q H s⟩
theorem n_mul (h : CMul i j) (q : N B L (Q (.int (i * j)))) : N B L (fun H => uMul (.int i) (.int j) H Q) := fun H s => .inl (.inl ⟨i, j, rfl, rfl, h, q H s⟩)
theorem n_mulW (h : CMulW i j) (q : N B L (Q (.int (i * j)))) : N B L (fun H => uMul (.int i) (.int j) H Q) := fun H s => .inl (.inr ⟨i, j, rfl, rfl, h, q H s⟩)
theorem n_div (h0 : 0 < j) (h1 : j < 1073741824) (q : N B L (Q (.int (i / j)))) : N B L (fun H => uDiv (.int i) (.int j) H Q) := fun H s => .inl ⟨i, j, rfl, rfl, ⟨h0, h1⟩, q H s⟩
theorem n_divW (h : CDivW i j) (q : N B L (Q (.int (i / j)))) : N B L (fun H => uDiv (.int i) (.int j) H Q) := fun H s => .inr ⟨i, j, rfl, rfl, h, q H s⟩
theorem n_mod (h0 : 0 < j) (q : N B L (Q (.int (i % j)))) : N B L (fun H => uMod (.int i) (.int j) H Q) := fun H s => ⟨i, j, rfl, rfl, h0, q H s⟩
theorem n_pow (h : CPow i j) (q : N B L (Q (.int (i ^ j.toNat)))) : N B L (fun H => uPow (.int i) (.int j) H Q) := fun H s => ⟨i, j, rfl, rfl, h, q H s⟩
theorem n_shl (h : CPow i j) (q : N B L (Q (.int (i * 2 ^ j.toNat)))) : N B L (fun H => uShl (.int i) (.int j) H Q) := fun H s => .inl ⟨i, j, rfl, rfl, h, q H s⟩
theorem n_shlW (h : CShl i j) (q : N B L (Q (.int (i * 2 ^ j.toNat)))) : N B L (fun H => uShl (.int i) (.int j) H Q) := fun H s => .inr ⟨i, j, rfl, rfl, h, q H s⟩
theorem n_shr (h : 0 ≤ j) (q : N B L (Q (.int (i / 2 ^ j.toNat)))) : N B L (fun H => uShr (.int i) (.int j) H Q) := fun H s => ⟨i, j, rfl, rfl, h, q H s⟩
theorem n_and_ (q : N B L (Q (.int (Builtin.bitAnd i j)))) : N B L (fun H => uAnd (.int i) (.int j) H Q) := fun H s => ⟨i, j, rfl, rfl, q H s⟩
theorem n_or_ (q : N B L (Q (.int (Builtin.bitOr i j)))) : N B L (fun H => uOr (.int i) (.int j) H Q) := fun H s => ⟨i, j, rfl, rfl, q H s⟩
theorem dec_int : decide (V.int i = V.int j) = decide (i = j) := by
  by_cases h : i = j
  · rw [decide_eq_true h, decide_eq_true (by rw [h])]
  · rw [decide_eq_false h, decide_eq_false (fun e => h (V.int.inj e))]
theorem dec_str : decide (V.str s1 = V.str s2) = decide (s1 = s2) := by
  by_cases h : s1 = s2
  · rw [decide_eq_true h, decide_eq_true (by rw [h])]
  · rw [decide_eq_false h, decide_eq_false (fun e => h (V.str.inj e))]
theorem n_eq (q : N B L (Q (.bl (decide (i = j))))) : N B L (fun H => uEq K (.int i) (.int j) H Q) := fun H s => .inl ⟨rfl, by rw [dec_int]; exact q H s⟩
theorem n_ne (q : N B L (Q (.bl (!decide (i = j))))) : N B L (fun H => uNe K (.int i) (.int j) H Q) := fun H s => .inl ⟨rfl, by rw [dec_int]; exact q H s⟩
theorem n_eqS (q : N B L (Q (.bl (decide (s1 = s2))))) : N B L (fun H => uEq K (.str s1) (.str s2) H Q) := fun H s => .inl ⟨rfl, by rw [dec_str]; exact q H s⟩
theorem n_neS (q : N B L (Q (.bl (!decide (s1 = s2))))) : N B L (fun H => uNe K (.str s1) (.str s2) H Q) := fun H s => .inl ⟨rfl, by rw [dec_str]; exact q H s⟩
theorem n_eqB {a c : Bool} (q : N B L (Q (.bl (a == c)))) : N B L (fun H => uEq K (.bl a) (.bl c) H Q) := fun H s => .inl ⟨rfl, by
  have e : decide (V.bl a = V.bl c) = (a == c) := by cases a <;> cases c <;> rfl
  rw [e]; exact q H s⟩
theorem n_neB {a c : Bool} (q : N B L (Q (.bl (a != c)))) : N B L (fun H => uNe K (.bl a) (.bl c) H Q) := fun H s => .inl ⟨rfl, by
  have e : (!decide (V.bl a = V.bl c)) = (a != c) := by cases a <;> cases c <;> rfl
  rw [e]; exact q H s⟩
theorem n_lt (q : N B L (Q (.bl (decide (i < j))))) : N B L (fun H => uLt (.int i) (.int j) H Q) := fun H s => ⟨i, j, rfl, rfl, q H s⟩
theorem n_le (q : N B L (Q (.bl (decide (i ≤ j))))) : N B L (fun H => uLe (.int i) (.int j) H Q) := fun H s => ⟨i, j, rfl, rfl, q H s⟩
theorem n_gt (q : N B L (Q (.bl (decide (j < i))))) : N B L (fun H => uGt (.int i) (.int j) H Q) := fun H s => ⟨i, j, rfl, rfl, q H s⟩
theorem n_ge (q : N B L (Q (.bl (decide (j ≤ i))))) : N B L (fun H => uGe (.int i) (.int j) H Q) := fun H s => ⟨i, j, rfl, rfl, q H s⟩
theorem n_neg {g : Int → V} (q : N B L (Q (g i))) : N B L (fun H => rU g (.int i) H Q) := fun H s => ⟨i, rfl, q H s⟩
theorem n_isN (q : N B L (Q (.bl (decide (x = .non))))) : N B L (fun H => uIsN x .non H Q) := fun H s => ⟨rfl, q H s⟩
theorem n_notN (q : N B L (Q (.bl (!decide (x = .non))))) : N B L (fun H => uNotN x .non H Q) := fun H s => ⟨rfl, q H s⟩
theorem n_cat {zs : List V} {l c : Addr} (hl : Is B L l (.lst xs)) (hc : Is B L c (.lst zs)) (hn : xs.length + zs.length ≤ sizeLine) (q : ∀ p, N B ((p, .lst (xs ++ zs)) :: L) (Q (.ref p))) : N B L (fun H => uAdd K (.ref l) (.ref c) H Q) :=
  fun H s => .inr (.inl ⟨l, c, xs, zs, rfl, rfl, hl H s, hc H s, hn, fun p hp => q p _ (s.new hp)⟩)
theorem n_rep {l : Addr} (hl : Is B L l (.lst xs)) (h0 : -(2 ^ 63) ≤ j) (h1 : j < 2 ^ 63) (hn : xs.length * j.toNat ≤ sizeLine) (q : ∀ p, N B ((p, .lst (List.replicate j.toNat xs).flatten) :: L) (Q (.ref p))) : N B L (fun H => uMul (.ref l) (.int j) H Q) :=
  fun H s => .inr ⟨l, j, xs, rfl, rfl, hl H s, h0, h1, hn, fun p hp => q p _ (s.new hp)⟩
theorem n_len (h : Sq K B L a xs) (q : N B L (Q (.int xs.length))) : N B L (fun H => uLen K [.ref a] H Q) := fun H s => ⟨a, xs, rfl, .inl (h H s), q H s⟩
theorem n_lenT (h : Tp K B L a xs) (q : N B L (Q (.int xs.length))) : N B L (fun H => uLen K [.ref a] H Q) := fun H s => ⟨a, xs, rfl, .inr (h H s), q H s⟩
theorem n_listOf (h : Sq K B L a xs) (q : ∀ p, N B ((p, .lst xs) :: L) (Q (.ref p))) : N B L (fun H => uListOf K [.ref a] H Q) := fun H s => ⟨a, xs, rfl, .inl (h H s), fun p hp => q p _ (s.new hp)⟩
theorem n_listOfT (h : Tp K B L a xs) (q : ∀ p, N B ((p, .lst xs) :: L) (Q (.ref p))) : N B L (fun H => uListOf K [.ref a] H Q) := fun H s => ⟨a, xs, rfl, .inr (h H s), fun p hp => q p _ (s.new hp)⟩
def LstK (Q : VK) (xs : List V) (H1 : Hp) : Prop := xs.length ≤ sizeLine ∧ ∀ p, H1 p = none → Q (.ref p) (upd H1 p (.lst xs))
def TupK (Q : VK) (xs : List V) (H1 : Hp) : Prop := xs.length ≤ sizeLine ∧ ∀ p, H1 p = none → Q (.ref p) (upd H1 p (.tup xs))
theorem n_lst {tr : TA} (q : N B L (fun H => tr σ H (LstK Q))) : N B L (fun H => tLst tr σ H Q) := q
theorem n_lst2 (hn : xs.length ≤ sizeLine) (q : ∀ p, N B ((p, .lst xs) :: L) (Q (.ref p))) : N B L (fun H1 => LstK Q xs H1) := fun H s => ⟨hn, fun p hp => q p _ (s.new hp)⟩
theorem n_tup {tr : TA} (q : N B L (fun H => tr σ H (TupK Q))) : N B L (fun H => tTup tr σ H Q) := q
theorem n_tup2 (hn : xs.length ≤ sizeLine) (q : ∀ p, N B ((p, .tup xs) :: L) (Q (.ref p))) : N B L (fun H1 => TupK Q xs H1) := fun H s => ⟨hn, fun p hp => q p _ (s.new hp)⟩
theorem n_ixL (hs : Sq K B L a xs) (h : atI xs i = some v) (q : N B L (Q v)) : N B L (fun H => rIx K (.ref a) (.int i) H Q) := fun H s => .inl ⟨a, xs, i, v, rfl, rfl, hs H s, h, q H s⟩
theorem n_ixT (hs : Tp K B L a xs) (h : atI xs i = some v) (q : N B L (Q v)) : N B L (fun H => rIx K (.ref a) (.int i) H Q) := fun H s => .inr (.inl ⟨a, xs, i, v, rfl, rfl, hs H s, h, q H s⟩)
theorem n_sl {r : V → Option Int → Option Int → Hp → VK → Prop} {tl th : TO} (q : N B L (fun H => te σ H fun x H1 => tl σ H1 fun l H2 => th σ H2 fun u H3 => r x l u H3 Q)) : N B L (fun H => tSl r te tl th σ H Q) := q
theorem n_noPart {QO : Option Int → Hp → Prop} (q : N B L (QO none)) : N B L (fun H => tNoPart σ H QO) := q
def PartK (QO : Option Int → Hp → Prop) (x : V) (H1 : Hp) : Prop := ∃ i, x = .int i ∧ QO (some i) H1
theorem n_part {QO : Option Int → Hp → Prop} (q : N B L (fun H => te σ H (PartK QO))) : N B L (fun H => tPart te σ H QO) := q
theorem n_int {QO : Option Int → Hp → Prop} (q : N B L (QO (some i))) : N B L (fun H => PartK QO (.int i) H) := fun H s => ⟨i, rfl, q H s⟩
theorem n_slL {lo hi : Option Int} (hs : Sq K B L a xs) (q : ∀ p, N B ((p, .lst (cutV xs lo hi)) :: L) (Q (.ref p))) : N B L (fun H => rSlL K (.ref a) lo hi H Q) := fun H s => ⟨a, xs, rfl, hs H s, fun p hp => q p _ (s.new hp)⟩

/-! ### statements -/
variable {D : Ends} {ts tz tw : TS}
theorem n_next (q : N B L (D.nx σ)) : N B L (fun H => tNext D σ H) := q
theorem n_brk (q : N B L (D.bk σ)) : N B L (fun H => tBreak D σ H) := q
theorem n_cont (q : N B L (D.ct σ)) : N B L (fun H => tCont D σ H) := q
theorem n_asg {n : Nat} (q : N B L (fun H => te σ H fun x H1 => tz D (σ.set n (some x)) H1)) : N B L (fun H => tSeq (tAsg te (gName n)) tz D σ H) := q
theorem n_asgT {n : Nat} {gs : TGs} (q : N B L (fun H => te σ H fun x H1 => gTup K n gs x σ H1 (tz D))) : N B L (fun H => tSeq (tAsg te (gTup K n gs)) tz D σ H) := q
theorem n_asgS {to ti : TE} {se : TSet} (q : N B L (fun H => te σ H fun x H1 => to σ H1 fun o H2 => ti σ H2 fun n H3 => se o n x H3 (tz D σ))) : N B L (fun H => tSeq (tAsg te (gSub to ti se)) tz D σ H) := q
theorem n_gTup {n : Nat} {gs : TGs} {k : St → Hp → Prop} (hs : Tp K B L a xs) (hl : xs.length = n) (q : N B L (fun H => gs xs σ H k)) : N B L (fun H => gTup K n gs (.ref a) σ H k) := fun H s => ⟨a, xs, rfl, hs H s, hl, q H s⟩
theorem n_gName {n : Nat} {k : St → Hp → Prop} (q : N B L (k (σ.set n (some v)))) : N B L (fun H => gName n v σ H k) := q
theorem n_gCons {n : Nat} {gs : TGs} {k : St → Hp → Prop} (q : N B L (fun H => gs xs (σ.set n (some v)) H k)) : N B L (fun H => gCons (gName n) gs (v :: xs) σ H k) := fun H s => ⟨v, xs, rfl, q H s⟩
theorem n_gNil {k : St → Hp → Prop} (q : N B L (k σ)) : N B L (fun H => gNil [] σ H k) := fun H s => ⟨rfl, q H s⟩
theorem n_drop (q : N B L (fun H => te σ H fun _ H1 => tz D σ H1)) : N B L (fun H => tSeq (tDrop te) tz D σ H) := q
theorem n_ret (q : N B L (fun H => te σ H D.rt)) : N B L (fun H => tSeq (tRet te) tz D σ H) := q
theorem n_retN (q : N B L (D.rt .non)) : N B L (fun H => tSeq tRetN tz D σ H) := q
theorem n_seqBrk (q : N B L (D.bk σ)) : N B L (fun H => tSeq tBreak tz D σ H) := q
theorem n_seqCont (q : N B L (D.ct σ)) : N B L (fun H => tSeq tCont tz D σ H) := q
theorem n_seqNext (q : N B L (fun H => tz D σ H)) : N B L (fun H => tSeq tNext tz D σ H) := q
theorem n_if (q : N B L (fun H => t σ H fun b H1 => if b = true then ts (onE D (tz D)) σ H1 else tw (onE D (tz D)) σ H1)) : N B L (fun H => tSeq (tIfS t ts tw) tz D σ H) := q
theorem n_aug {n : Nat} {f : Int → Int → Int} {c : Int} (h : σ[n]? = some (some (.int c))) (q : N B L (fun H => te σ H fun y H1 => ipI f (.int c) y H1 fun z H2 => tz D (σ.set n (some z)) H2)) : N B L (fun H => tSeq (tAug n te (ipI f)) tz D σ H) := fun H s => ⟨_, h, q H s⟩
theorem n_ip {f : Int → Int → Int} (q : N B L (Q (.int (f i j)))) : N B L (fun H => ipI f (.int i) (.int j) H Q) := fun H s => ⟨i, j, rfl, rfl, q H s⟩
theorem n_cut {D : Ends} (M : St → Own → Prop) (h : N B L (fun H => tSeq ts tNext (onE D (KI B M)) σ H)) (k : ∀ σ' L', M σ' L' → N B L' (fun H => tz D σ' H)) : N B L (fun H => Evl.tCut ts tz D σ H) :=
  fun H s => ⟨KI B M, h H s, fun σ' H' ⟨L', s', m⟩ => k σ' L' m H' s'⟩
/-- behind a turn -/
theorem n_ki {P : St → Own → Prop} (h : P σ L') (s : L'.Sublist L) : N B L (KI B P σ) := fun H x => ⟨L', x.sub s, h⟩
theorem n_kiP {P : St → Own → Prop} {L'' : Own} (h : P σ L'') (s : L'.Sublist L) (e : L'.Perm L'') : N B L (KI B P σ) := fun H x => ⟨L'', (x.sub s).perm e, h⟩
theorem n_kw {P : Nat → St → Own → Prop} {m m' : Nat} (h : P m' σ L') (lt : m' < m) (s : L'.Sublist L) : N B L (KW B P m σ) := fun H x => ⟨m', L', lt, x.sub s, h⟩

/-! ### methods of lists -/
theorem n_bm {T : String} {r : V → List V → Hp → VK → Prop} {tr : TA} (q : N B L (fun H => te σ H fun x H1 => tyV K T x H1 ∧ tr σ H1 fun xs H2 => r x xs H2 Q)) : N B L (fun H => tBM K T r te tr σ H Q) := q
theorem n_bm0 {T : String} {r : V → List V → Hp → VK → Prop} (q : N B L (fun H => te σ H fun x H1 => tyV K T x H1 ∧ r x [] H1 Q)) : N B L (fun H => tBM0 K T r te σ H Q) := q
theorem n_tyL {k : Hp → Prop} (hs : Sq K B L a xs) (q : N B L k) : N B L (fun H => tyV K "list" (.ref a) H ∧ k H) := fun H s => ⟨.inl ⟨rfl, xs, hs H s⟩, q H s⟩
theorem n_append {n : Nat} {l : Addr} (hi : L[n]? = some (l, .lst xs)) (hz : xs.length < sizeLine) (q : N B (L.set n (l, .lst (xs ++ [v]))) (Q .non)) : N B L (fun H => rAppend (.ref l) [v] H Q) :=
  fun H s => ⟨l, xs, v, rfl, rfl, s.at hi, hz, q _ (s.set hi)⟩
theorem n_extend {n : Nat} {l c : Addr} (hi : L[n]? = some (l, .lst xs)) (hc : Is B L c (.lst ys)) (hz : xs.length + ys.length ≤ sizeLine) (q : N B (L.set n (l, .lst (xs ++ ys))) (Q .non)) : N B L (fun H => rExtend (.ref l) [.ref c] H Q) :=
  fun H s => ⟨l, c, xs, ys, rfl, rfl, s.at hi, hc H s, hz, q _ (s.set hi)⟩
theorem n_insert {n : Nat} {l : Addr} (hi : L[n]? = some (l, .lst xs)) (hz : xs.length < sizeLine) (h0 : 0 ≤ i) (h1 : i < 2 ^ 63) (q : N B (L.set n (l, .lst (xs.take i.toNat ++ [v] ++ xs.drop i.toNat))) (Q .non)) : N B L (fun H => rInsert (.ref l) [.int i, v] H Q) :=
  fun H s => ⟨l, xs, i, v, rfl, rfl, s.at hi, hz, h0, h1, q _ (s.set hi)⟩
theorem n_setL {n m : Nat} {l : Addr} {k : Hp → Prop} (hi : L[n]? = some (l, .lst xs)) (hj : ixN xs.length i = some m) (q : N B (L.set n (l, .lst (xs.set m v))) k) : N B L (fun H => rSetL (.ref l) (.int i) v H k) :=
  fun H s => ⟨l, xs, i, m, rfl, rfl, s.at hi, hj, q _ (s.set hi)⟩

/-! ### loops -/
/-- a for's question behind what it walks -/
def Lp (g : TG) (tb : TS) (D : Ends) (σ : St) (J : It) (H1 : Hp) : Prop := ∃ W : Nat → Nat → St → Hp → Prop, (∃ m, W 0 m σ H1) ∧ ∀ i m σ H, W i m σ H →
  (J.stop i H ∧ D.nx σ H) ∨ (J.go i H ∧ ∃ N : St → Hp → Prop, (∀ σ' H', N σ' H' → ∃ m', m' < m ∧ W (i + 1) m' σ' H') ∧ ∀ x H', J.yld i H x H' → g x σ H' fun σ2 H2 => tb { D with nx := N, ct := N, bk := D.nx } σ2 H2)
variable {g : TG} {tb' : TS}
theorem n_for {wi : TI} (q : N B L (fun H => wi σ H (Lp g ts (onE D (tz D)) σ))) : N B L (fun H => tSeq (tFor wi g ts) tz D σ H) := q
def IL (K : PySem.W.Frag) (R : It → Hp → Prop) (x : V) (H1 : Hp) : Prop := ∃ a, x = .ref a ∧ (∃ xs, SqL K H1 a xs) ∧ R (Itl K a) H1
def ILT (K : PySem.W.Frag) (R : It → Hp → Prop) (x : V) (H1 : Hp) : Prop := ∃ a, x = .ref a ∧ (∃ xs, SqT K H1 a xs) ∧ R (Itt K a) H1
theorem n_iList {tl : TE} {R : It → Hp → Prop} (q : N B L (fun H => tl σ H (IL K R))) : N B L (fun H => iList K tl σ H R) := q
theorem n_iTup {tl : TE} {R : It → Hp → Prop} (q : N B L (fun H => tl σ H (ILT K R))) : N B L (fun H => iTup K tl σ H R) := q
/-- the turns of a walk that yields xs one by one and changes nothing -/
theorem lp_core {J : It} (n : Nat) (yl : Nat → V) (Pv : Nat → St → Own → Prop)
    (hgo : ∀ i σ L H, Pv i σ L → i < n → SI B L H → J.go i H) (hst : ∀ σ L H, Pv n σ L → SI B L H → J.stop n H) (hy : ∀ i σ L H x H', Pv i σ L → i < n → SI B L H → J.yld i H x H' → H' = H ∧ x = yl i)
    (h0 : Pv 0 σ L) (hs : ∀ i σ L, i < n → Pv i σ L → N B L (fun H => g (yl i) σ H fun σ2 H2 => ts (loE D (KI B (Pv (i + 1)))) σ2 H2))
    (hd : ∀ σ L, Pv n σ L → N B L (D.nx σ)) : N B L (fun H => Lp g ts D σ J H) := by
  intro H s
  refine ⟨fun i m σ H => m = n - i ∧ i ≤ n ∧ ∃ L, SI B L H ∧ Pv i σ L, ⟨n, by omega, Nat.zero_le _, L, s, h0⟩, ?_⟩
  rintro i m σ H ⟨rfl, hi, L, s, p⟩
  by_cases hlt : i < n
  · refine .inr ⟨hgo i σ L H p hlt s, KI B (Pv (i + 1)), fun σ' H' ⟨L', s', p'⟩ => ⟨n - (i + 1), by omega, rfl, hlt, L', s', p'⟩, fun x H' hx => ?_⟩
    obtain ⟨rfl, rfl⟩ := hy i σ L H x H' p hlt s hx
    exact hs i σ L hlt p _ s
  · have e : i = n := by omega
    subst e
    exact .inl ⟨hst σ L H p s, hd σ L p H s⟩
theorem n_lpL (Pv : Nat → St → Own → Prop) (hq : ∀ i σ L, i ≤ xs.length → Pv i σ L → Sq K B L a xs) (h0 : Pv 0 σ L)
    (hs : ∀ i σ L (hi : i < xs.length), Pv i σ L → N B L (fun H => g xs[i] σ H fun σ2 H2 => ts (loE D (KI B (Pv (i + 1)))) σ2 H2))
    (hd : ∀ σ L, Pv xs.length σ L → N B L (D.nx σ)) : N B L (fun H => IL K (Lp g ts D σ) (.ref a) H) := by
  intro H s
  refine ⟨a, rfl, ⟨xs, hq 0 σ L (Nat.zero_le _) h0 H s⟩, ?_⟩
  refine lp_core (J := Itl K a) xs.length (fun i => xs.getD i .non) Pv (fun i σ L H p hi s => ⟨xs, xs[i], hq i σ L (Nat.le_of_lt hi) p H s, List.getElem?_eq_getElem hi⟩) (fun σ L H p s => ⟨xs, hq _ σ L (Nat.le_refl _) p H s, Nat.le_refl _⟩) ?_ h0 ?_ hd H s
  · rintro i σ L H x H' p hi s ⟨e, hx⟩
    have := hx xs (hq i σ L (Nat.le_of_lt hi) p H s)
    refine ⟨e, ?_⟩
    rw [List.getElem?_eq_getElem hi] at this
    show x = xs.getD i .non
    rw [List.getD_eq_getElem?_getD, List.getElem?_eq_getElem hi]
    exact (Option.some.inj this).symm
  · intro i σ L hi p
    have e : xs.getD i .non = xs[i] := by rw [List.getD_eq_getElem?_getD, List.getElem?_eq_getElem hi]; rfl
    show N B L (fun H => g (xs.getD i .non) σ H _)
    rw [e]
    exact hs i σ L hi p
theorem n_lpT (Pv : Nat → St → Own → Prop) (hq : ∀ i σ L, i ≤ xs.length → Pv i σ L → Tp K B L a xs) (h0 : Pv 0 σ L)
    (hs : ∀ i σ L (hi : i < xs.length), Pv i σ L → N B L (fun H => g xs[i] σ H fun σ2 H2 => ts (loE D (KI B (Pv (i + 1)))) σ2 H2))
    (hd : ∀ σ L, Pv xs.length σ L → N B L (D.nx σ)) : N B L (fun H => ILT K (Lp g ts D σ) (.ref a) H) := by
  intro H s
  refine ⟨a, rfl, ⟨xs, hq 0 σ L (Nat.zero_le _) h0 H s⟩, ?_⟩
  refine lp_core (J := Itt K a) xs.length (fun i => xs.getD i .non) Pv (fun i σ L H p hi s => ⟨xs, xs[i], hq i σ L (Nat.le_of_lt hi) p H s, List.getElem?_eq_getElem hi⟩) (fun σ L H p s => ⟨xs, hq _ σ L (Nat.le_refl _) p H s, Nat.le_refl _⟩) ?_ h0 ?_ hd H s
  · rintro i σ L H x H' p hi s ⟨e, hx⟩
    have := hx xs (hq i σ L (Nat.le_of_lt hi) p H s)
    refine ⟨e, ?_⟩
    rw [List.getElem?_eq_getElem hi] at this
    show x = xs.getD i .non
    rw [List.getD_eq_getElem?_getD, List.getElem?_eq_getElem hi]
    exact (Option.some.inj this).symm
  · intro i σ L hi p
    have e : xs.getD i .non = xs[i] := by rw [List.getD_eq_getElem?_getD, List.getElem?_eq_getElem hi]; rfl
    show N B L (fun H => g (xs.getD i .non) σ H _)
    rw [e]
    exact hs i σ L hi p
/-- range -/
def IR1 (R : It → Hp → Prop) (vs : List V) (H1 : Hp) : Prop := ∃ j : Int, vs = [.int j] ∧ -(2 ^ 62) ≤ j ∧ j < 2 ^ 62 ∧ R (Itr 0 j.toNat) H1
def IR2 (R : It → Hp → Prop) (vs : List V) (H1 : Hp) : Prop := ∃ i j : Int, vs = [.int i, .int j] ∧ (-(2 ^ 62) ≤ i ∧ i < 2 ^ 62 ∧ -(2 ^ 62) ≤ j ∧ j < 2 ^ 62) ∧ R (Itr i (j - i).toNat) H1
theorem n_iR1 {tr : TA} {R : It → Hp → Prop} (q : N B L (fun H => tr σ H (IR1 R))) : N B L (fun H => iRng1 tr σ H R) := q
theorem n_iR2 {tr : TA} {R : It → Hp → Prop} (q : N B L (fun H => tr σ H (IR2 R))) : N B L (fun H => iRng2 tr σ H R) := q
theorem n_lpR {lo : Int} {n : Nat} (Pv : Nat → St → Own → Prop) (h0 : Pv 0 σ L)
    (hs : ∀ i σ L, i < n → Pv i σ L → N B L (fun H => g (.int (lo + i)) σ H fun σ2 H2 => ts (loE D (KI B (Pv (i + 1)))) σ2 H2))
    (hd : ∀ σ L, Pv n σ L → N B L (D.nx σ)) : N B L (fun H => Lp g ts D σ (Itr lo n) H) :=
  lp_core (J := Itr lo n) n (fun i => .int (lo + i)) Pv (fun i σ L H p hi s => hi) (fun σ L H p s => Nat.le_refl _) (fun i σ L H x H' p hi s h => h) h0 hs hd
theorem n_lpR1 (Pv : Nat → St → Own → Prop) (hb : -(2 ^ 62) ≤ j ∧ j < 2 ^ 62) (h0 : Pv 0 σ L)
    (hs : ∀ (i : Nat) σ L, (i : Int) < j → Pv i σ L → N B L (fun H => g (.int i) σ H fun σ2 H2 => ts (loE D (KI B (Pv (i + 1)))) σ2 H2))
    (hd : ∀ σ L, Pv j.toNat σ L → N B L (D.nx σ)) : N B L (fun H => IR1 (Lp g ts D σ) [.int j] H) := fun H s => ⟨j, rfl, hb.1, hb.2,
  n_lpR (lo := 0) (n := j.toNat) Pv h0 (fun i σ L hi p => by rw [Int.zero_add]; exact hs i σ L (by omega) p) hd H s⟩
theorem n_lpR2 (Pv : Nat → St → Own → Prop) (hb : -(2 ^ 62) ≤ i ∧ i < 2 ^ 62 ∧ -(2 ^ 62) ≤ j ∧ j < 2 ^ 62) (h0 : Pv 0 σ L)
    (hs : ∀ (n : Nat) σ L, i + (n : Int) < j → Pv n σ L → N B L (fun H => g (.int (i + n)) σ H fun σ2 H2 => ts (loE D (KI B (Pv (n + 1)))) σ2 H2))
    (hd : ∀ σ L, Pv (j - i).toNat σ L → N B L (D.nx σ)) : N B L (fun H => IR2 (Lp g ts D σ) [.int i, .int j] H) := fun H s => ⟨i, j, rfl, hb,
  n_lpR (lo := i) (n := (j - i).toNat) Pv h0 (fun n σ L hi p => hs n σ L (by omega) p) hd H s⟩
/-- reversed -/
def IV (K : PySem.W.Frag) (R : It → Hp → Prop) (vs : List V) (H1 : Hp) : Prop := ∃ (a : Addr) (xs : List V), vs = [.ref a] ∧ SqL K H1 a xs ∧ R (Itv K a xs.length) H1
theorem n_iV {tr : TA} {R : It → Hp → Prop} (q : N B L (fun H => tr σ H (IV K R))) : N B L (fun H => iRev K tr σ H R) := q
theorem n_lpV (Pv : Nat → St → Own → Prop) (hq : ∀ i σ L, i ≤ xs.length → Pv i σ L → Sq K B L a xs) (h0 : Pv 0 σ L)
    (hs : ∀ i σ L (hi : i < xs.length), Pv i σ L → N B L (fun H => g (xs[xs.length - 1 - i]'(by omega)) σ H fun σ2 H2 => ts (loE D (KI B (Pv (i + 1)))) σ2 H2))
    (hd : ∀ σ L, Pv xs.length σ L → N B L (D.nx σ)) : N B L (fun H => IV K (Lp g ts D σ) [.ref a] H) := by
  intro H s
  refine ⟨a, xs, rfl, hq 0 σ L (Nat.zero_le _) h0 H s, ?_⟩
  refine lp_core (J := Itv K a xs.length) xs.length (fun i => xs.getD (xs.length - 1 - i) .non) Pv (fun i σ L H p hi s => ⟨hi, xs, xs[xs.length - 1 - i]'(by omega), hq i σ L (Nat.le_of_lt hi) p H s, List.getElem?_eq_getElem (by omega)⟩) (fun σ L H p s => Nat.le_refl _) ?_ h0 ?_ hd H s
  · rintro i σ L H x H' p hi s ⟨e, hx⟩
    have := hx xs (hq i σ L (Nat.le_of_lt hi) p H s)
    refine ⟨e, ?_⟩
    have hlt : xs.length - 1 - i < xs.length := by omega
    rw [List.getElem?_eq_getElem hlt] at this
    show x = xs.getD (xs.length - 1 - i) .non
    rw [List.getD_eq_getElem?_getD, List.getElem?_eq_getElem hlt]
    exact (Option.some.inj this).symm
  · intro i σ L hi p
    have hlt : xs.length - 1 - i < xs.length := by omega
    have e : xs.getD (xs.length - 1 - i) .non = xs[xs.length - 1 - i] := by rw [List.getD_eq_getElem?_getD, List.getElem?_eq_getElem hlt]; rfl
    show N B L (fun H => g (xs.getD (xs.length - 1 - i) .non) σ H _)
    rw [e]
    exact hs i σ L hi p
/-- enumerate, to two names -/
def IE (K : PySem.W.Frag) (R : It → Hp → Prop) (vs : List V) (H1 : Hp) : Prop := ∃ a xs, vs = [.ref a] ∧ SqL K H1 a xs ∧ R (Ite K a) H1
theorem n_iE {tr : TA} {R : It → Hp → Prop} (q : N B L (fun H => tr σ H (IE K R))) : N B L (fun H => iEnum K tr σ H R) := q
theorem n_lpE {n m : Nat} (Pv : Nat → St → Own → Prop) (hq : ∀ i σ L, i ≤ xs.length → Pv i σ L → Sq K B L a xs) (h0 : Pv 0 σ L)
    (hs : ∀ i σ L (hi : i < xs.length), Pv i σ L → N B L (fun H => ts (loE D (KI B (Pv (i + 1)))) ((σ.set n (some (.int i))).set m (some xs[i])) H))
    (hd : ∀ σ L, Pv xs.length σ L → N B L (D.nx σ)) : N B L (fun H => IE K (Lp (gTup K 2 (gCons (gName n) (gCons (gName m) gNil))) ts D σ) [.ref a] H) := by
  intro H s
  refine ⟨a, xs, rfl, hq 0 σ L (Nat.zero_le _) h0 H s, ?_⟩
  refine ⟨fun i m σ H => m = xs.length - i ∧ i ≤ xs.length ∧ ∃ L, SI B L H ∧ Pv i σ L, ⟨xs.length, by omega, Nat.zero_le _, L, s, h0⟩, ?_⟩
  rintro i m' σ H ⟨rfl, hi, L, s, p⟩
  have hsq := hq i σ L hi p H s
  by_cases hlt : i < xs.length
  · refine .inr ⟨⟨xs, xs[i], hsq, List.getElem?_eq_getElem hlt⟩, KI B (Pv (i + 1)), fun σ' H' ⟨L', s', p'⟩ => ⟨xs.length - (i + 1), by omega, rfl, hlt, L', s', p'⟩, fun v H' hx => ?_⟩
    obtain ⟨T, x, rfl, nT, rfl, hx⟩ := hx
    have := hx xs hsq
    rw [List.getElem?_eq_getElem hlt] at this
    cases this
    have s2 : SI B ((T, .tup [.int i, xs[i]]) :: L) (upd H T (.tup [.int i, xs[i]])) := s.new nT
    refine ⟨T, [.int i, xs[i]], rfl, SqT.of upd_same, rfl, _, _, rfl, _, _, rfl, rfl, ?_⟩
    exact n_sub (L' := L) (List.sublist_cons_self _ _) (hs i σ L hlt p) _ s2
  · have e : i = xs.length := by omega
    subst e
    exact .inl ⟨⟨xs, hsq, Nat.le_refl _⟩, hd σ L p H s⟩
/-- zip of two lists, to two names -/
def IZ (K : PySem.W.Frag) (R : It → Hp → Prop) (vs : List V) (H1 : Hp) : Prop := ∃ a b xs ys, vs = [.ref a, .ref b] ∧ SqL K H1 a xs ∧ SqL K H1 b ys ∧ R (Itz K a b) H1
theorem n_iZ {tr : TA} {R : It → Hp → Prop} (q : N B L (fun H => tr σ H (IZ K R))) : N B L (fun H => iZip K tr σ H R) := q
theorem n_lpZ {n m : Nat} {c : Addr} (Pv : Nat → St → Own → Prop) (hq : ∀ i σ L, i ≤ min xs.length ys.length → Pv i σ L → Sq K B L a xs ∧ Sq K B L c ys) (h0 : Pv 0 σ L)
    (hs : ∀ i σ L (hi : i < xs.length) (hj : i < ys.length), Pv i σ L → N B L (fun H => ts (loE D (KI B (Pv (i + 1)))) ((σ.set n (some xs[i])).set m (some ys[i])) H))
    (hd : ∀ σ L, Pv (min xs.length ys.length) σ L → N B L (D.nx σ)) : N B L (fun H => IZ K (Lp (gTup K 2 (gCons (gName n) (gCons (gName m) gNil))) ts D σ) [.ref a, .ref c] H) := by
  intro H s
  obtain ⟨q1, q2⟩ := hq 0 σ L (Nat.zero_le _) h0
  refine ⟨a, c, xs, ys, rfl, q1 H s, q2 H s, ?_⟩
  refine ⟨fun i m σ H => m = min xs.length ys.length - i ∧ i ≤ min xs.length ys.length ∧ ∃ L, SI B L H ∧ Pv i σ L, ⟨min xs.length ys.length, by omega, Nat.zero_le _, L, s, h0⟩, ?_⟩
  rintro i m' σ H ⟨rfl, hi, L, s, p⟩
  obtain ⟨q1, q2⟩ := hq i σ L hi p
  by_cases hlt : i < min xs.length ys.length
  · have hx1 : i < xs.length := by omega
    have hy1 : i < ys.length := by omega
    refine .inr ⟨⟨xs, ys, xs[i], ys[i], q1 H s, q2 H s, List.getElem?_eq_getElem hx1, List.getElem?_eq_getElem hy1⟩, KI B (Pv (i + 1)), fun σ' H' ⟨L', s', p'⟩ => ⟨min xs.length ys.length - (i + 1), by omega, rfl, hlt, L', s', p'⟩, fun v H' hx => ?_⟩
    obtain ⟨T, x, y, rfl, nT, rfl, hx, hy⟩ := hx
    have e1 := hx xs (q1 H s)
    have e2 := hy ys (q2 H s)
    rw [List.getElem?_eq_getElem hx1] at e1
    rw [List.getElem?_eq_getElem hy1] at e2
    cases e1; cases e2
    have s2 : SI B ((T, .tup [xs[i], ys[i]]) :: L) (upd H T (.tup [xs[i], ys[i]])) := s.new nT
    refine ⟨T, [xs[i], ys[i]], rfl, SqT.of upd_same, rfl, _, _, rfl, _, _, rfl, rfl, ?_⟩
    exact n_sub (L' := L) (List.sublist_cons_self _ _) (hs i σ L hx1 hy1 p) _ s2
  · have e : i = min xs.length ys.length := by omega
    subst e
    refine .inl ⟨⟨xs, ys, q1 H s, q2 H s, ?_⟩, hd σ L p H s⟩
    omega
/-- while -/
def WK (B : Hp) (Pv : Nat → St → Own → Prop) (m : Nat) (tb : TS) (D : Ends) (σ : St) (H1 : Hp) : Prop := ∃ N : St → Hp → Prop, (∀ σ' H', N σ' H' → ∃ m', m' < m ∧ KI B (Pv m') σ' H') ∧ tb { D with nx := N, ct := N, bk := D.nx } σ H1
theorem n_wk {Pv : Nat → St → Own → Prop} {m : Nat} (q : N B L (fun H => ts (loE D (KW B Pv m)) σ H)) : N B L (fun H => WK B Pv m ts D σ H) :=
  fun H s => ⟨KW B Pv m, fun σ' H' ⟨m', L', lt, s', p⟩ => ⟨m', lt, L', s', p⟩, q H s⟩
theorem n_while (Pv : Nat → St → Own → Prop) (m0 : Nat) (h0 : Pv m0 σ L)
    (hs : ∀ m σ L, Pv m σ L → N B L (fun H => t σ H fun b H1 => if b = true then WK B Pv m ts (onE D (tz D)) σ H1 else tz D σ H1)) : N B L (fun H => tSeq (tWhile t ts) tz D σ H) := by
  intro H s
  refine ⟨fun m σ H => KI B (Pv m) σ H, ⟨m0, L, s, h0⟩, ?_⟩
  rintro m σ H ⟨L, s, p⟩
  exact hs m σ L p H s

/-! ### comprehensions -/
/-- a comprehension's question behind what it walks -/
def Lc (g : TG) (tt : TT) (te : TE) (vs : List Nat) (σ : St) (Q : VK) (J : It) (H1 : Hp) : Prop := ∀ D, H1 D = none → ∃ W : Nat → Nat → Hp → Prop, (∃ m, W 0 m (upd H1 D (.lst []))) ∧ ∀ i m H, W i m H →
  (J.stop i H ∧ Q (.ref D) H) ∨ (J.go i H ∧ ∃ Nx : Hp → Prop, (∀ H', Nx H' → ∃ m', m' < m ∧ W (i + 1) m' H') ∧ ∀ x H', J.yld i H x H' → g x (wipe σ vs) H' fun σ2 H2 => wipe σ2 vs = wipe σ vs ∧ tt σ2 H2 fun b H3 =>
    if b = true then te σ2 H3 fun y H4 => ∃ acc, H4 D = some (.lst acc) ∧ acc.length < sizeLine ∧ Nx (upd H4 D (.lst (acc ++ [y]))) else Nx H3)
variable {tt : TT} {vs : List Nat}
theorem n_lc {wi : TI} (q : N B L (fun H => wi σ H (Lc g tt te vs σ Q))) : N B L (fun H => tLc wi g tt te vs σ H Q) := q
/-- behind an element: it is put to the list at D (the last of what is owned by the comprehension) -/
def Put (B : Hp) (D : Addr) (acc : List V) (P : List V → Own → Prop) (y : V) (H4 : Hp) : Prop := ∃ Lm L4, SI B (Lm ++ (D, .lst acc) :: L4) H4 ∧ acc.length < sizeLine ∧ P (acc ++ [y]) (Lm ++ L4)
/-- no element -/
def NoPut (B : Hp) (D : Addr) (acc : List V) (P : List V → Own → Prop) (H3 : Hp) : Prop := ∃ Lm L4, SI B (Lm ++ (D, .lst acc) :: L4) H3 ∧ P acc (Lm ++ L4)
theorem put_upd {D : Addr} {acc : List V} {Lm L4 : Own} {H4 : Hp} (s : SI B (Lm ++ (D, .lst acc) :: L4) H4) : H4 D = some (.lst acc) ∧ SI B ((D, .lst (acc ++ [y])) :: (Lm ++ L4)) (upd H4 D (.lst (acc ++ [y]))) := by
  have s2 : SI B ((D, .lst acc) :: (Lm ++ L4)) H4 := s.perm List.perm_middle
  exact ⟨s2.at (i := 0) rfl, s2.set (i := 0) rfl⟩
/-- behind an element's value -/
theorem lc_core {J : It} (n : Nat) (yl : Nat → V) (Pv : Nat → List V → Own → Prop)
    (hgo : ∀ i acc L H, Pv i acc L → i < n → SI B L H → J.go i H) (hst : ∀ acc L H, Pv n acc L → SI B L H → J.stop n H) (hy : ∀ i acc L H x H', Pv i acc L → i < n → SI B L H → J.yld i H x H' → H' = H ∧ x = yl i)
    (h0 : Pv 0 [] L) (hs : ∀ i acc L D, i < n → Pv i acc L → N B ((D, .lst acc) :: L) (fun H => g (yl i) (wipe σ vs) H fun σ2 H2 => wipe σ2 vs = wipe σ vs ∧ tt σ2 H2 fun b H3 =>
      if b = true then te σ2 H3 (fun y H4 => ∃ acc, H4 D = some (.lst acc) ∧ acc.length < sizeLine ∧ (∃ L, SI B L (upd H4 D (.lst (acc ++ [y]))) ∧ ∃ a L', L = (D, .lst a) :: L' ∧ Pv (i + 1) a L')) else (∃ L, SI B L H3 ∧ ∃ a L', L = (D, .lst a) :: L' ∧ Pv (i + 1) a L')))
    (hd : ∀ acc L D, Pv n acc L → N B ((D, .lst acc) :: L) (Q (.ref D))) : N B L (fun H => Lc g tt te vs σ Q J H) := by
  intro H s D hD
  have e0 : ∀ {a : List V} {L : Own} {H : Hp}, SI B ((D, .lst a) :: L) H → SI B L H := fun s => s.sub (List.sublist_cons_self _ _)
  refine ⟨fun i m H => m = n - i ∧ i ≤ n ∧ ∃ L, SI B L H ∧ ∃ a L', L = (D, .lst a) :: L' ∧ Pv i a L', ⟨n, by omega, Nat.zero_le _, _, s.new hD, [], L, rfl, h0⟩, ?_⟩
  rintro i m H ⟨rfl, hi, _, s, acc, L', rfl, p⟩
  by_cases hlt : i < n
  · refine .inr ⟨hgo i acc L' H p hlt (e0 s), fun H' => ∃ L, SI B L H' ∧ ∃ a L', L = (D, .lst a) :: L' ∧ Pv (i + 1) a L', fun H' h => ⟨n - (i + 1), by omega, rfl, hlt, h⟩, fun x H' hx => ?_⟩
    obtain ⟨rfl, rfl⟩ := hy i acc L' H x H' p hlt (e0 s) hx
    exact hs i acc L' D hlt p _ s
  · have e : i = n := by omega
    subst e
    exact .inl ⟨hst acc L' H p (e0 s), hd acc L' D p H s⟩
/-- the element's end -/
theorem n_put {D : Addr} {acc : List V} {L4 : Own} {P : List V → Own → Prop} (Lm : Own) (e : L = Lm ++ (D, .lst acc) :: L4) (hz : acc.length < sizeLine) (h : P (acc ++ [y]) L') (s : L'.Sublist (Lm ++ L4)) :
    N B L (fun H4 => ∃ acc, H4 D = some (.lst acc) ∧ acc.length < sizeLine ∧ (∃ L, SI B L (upd H4 D (.lst (acc ++ [y]))) ∧ ∃ a L', L = (D, .lst a) :: L' ∧ P a L')) := by
  subst e
  intro H x
  obtain ⟨a, b⟩ := put_upd (y := y) x
  exact ⟨acc, a, hz, _, b.sub (s.cons₂ _), _, _, rfl, h⟩
theorem n_noput {D : Addr} {acc : List V} {L4 : Own} {P : List V → Own → Prop} (Lm : Own) (e : L = Lm ++ (D, .lst acc) :: L4) (h : P acc L') (s : L'.Sublist (Lm ++ L4)) :
    N B L (fun H3 => ∃ L, SI B L H3 ∧ ∃ a L', L = (D, .lst a) :: L' ∧ P a L') := by
  subst e
  intro H x
  have s2 : SI B ((D, .lst acc) :: (Lm ++ L4)) H := x.perm List.perm_middle
  exact ⟨_, s2.sub (s.cons₂ _), _, _, rfl, h⟩
theorem n_wiped {k : Hp → Prop} {σ' : St} (e : wipe σ' vs = wipe σ vs) (q : N B L k) : N B L (fun H => wipe σ' vs = wipe σ vs ∧ k H) := fun H s => ⟨e, q H s⟩
theorem n_yes {QB : Bool → Hp → Prop} (q : N B L (QB true)) : N B L (fun H => tYes σ H QB) := q
theorem n_lcL (Pv : Nat → List V → Own → Prop) (hq : ∀ i acc L, i ≤ xs.length → Pv i acc L → Sq K B L a xs) (h0 : Pv 0 [] L)
    (hs : ∀ i acc L D (hi : i < xs.length), Pv i acc L → N B ((D, .lst acc) :: L) (fun H => g xs[i] (wipe σ vs) H fun σ2 H2 => wipe σ2 vs = wipe σ vs ∧ tt σ2 H2 fun b H3 =>
      if b = true then te σ2 H3 (fun y H4 => ∃ acc, H4 D = some (.lst acc) ∧ acc.length < sizeLine ∧ (∃ L, SI B L (upd H4 D (.lst (acc ++ [y]))) ∧ ∃ a L', L = (D, .lst a) :: L' ∧ Pv (i + 1) a L')) else (∃ L, SI B L H3 ∧ ∃ a L', L = (D, .lst a) :: L' ∧ Pv (i + 1) a L')))
    (hd : ∀ acc L D, Pv xs.length acc L → N B ((D, .lst acc) :: L) (Q (.ref D))) : N B L (fun H => IL K (Lc g tt te vs σ Q) (.ref a) H) := by
  intro H s
  refine ⟨a, rfl, ⟨xs, hq 0 [] L (Nat.zero_le _) h0 H s⟩, ?_⟩
  refine lc_core (J := Itl K a) xs.length (fun i => xs.getD i .non) Pv (fun i σ L H p hi s => ⟨xs, xs[i], hq i σ L (Nat.le_of_lt hi) p H s, List.getElem?_eq_getElem hi⟩) (fun σ L H p s => ⟨xs, hq _ σ L (Nat.le_refl _) p H s, Nat.le_refl _⟩) ?_ h0 ?_ hd H s
  · rintro i σ L H x H' p hi s ⟨e, hx⟩
    have := hx xs (hq i σ L (Nat.le_of_lt hi) p H s)
    refine ⟨e, ?_⟩
    rw [List.getElem?_eq_getElem hi] at this
    show x = xs.getD i .non
    rw [List.getD_eq_getElem?_getD, List.getElem?_eq_getElem hi]
    exact (Option.some.inj this).symm
  · intro i acc L D hi p
    have e : xs.getD i .non = xs[i] := by rw [List.getD_eq_getElem?_getD, List.getElem?_eq_getElem hi]; rfl
    show N B _ (fun H => g (xs.getD i .non) (wipe σ vs) H _)
    rw [e]
    exact hs i acc L D hi p
theorem n_lcR {lo : Int} {n : Nat} (Pv : Nat → List V → Own → Prop) (h0 : Pv 0 [] L)
    (hs : ∀ i acc L D, i < n → Pv i acc L → N B ((D, .lst acc) :: L) (fun H => g (.int (lo + i)) (wipe σ vs) H fun σ2 H2 => wipe σ2 vs = wipe σ vs ∧ tt σ2 H2 fun b H3 =>
      if b = true then te σ2 H3 (fun y H4 => ∃ acc, H4 D = some (.lst acc) ∧ acc.length < sizeLine ∧ (∃ L, SI B L (upd H4 D (.lst (acc ++ [y]))) ∧ ∃ a L', L = (D, .lst a) :: L' ∧ Pv (i + 1) a L')) else (∃ L, SI B L H3 ∧ ∃ a L', L = (D, .lst a) :: L' ∧ Pv (i + 1) a L')))
    (hd : ∀ acc L D, Pv n acc L → N B ((D, .lst acc) :: L) (Q (.ref D))) : N B L (fun H => Lc g tt te vs σ Q (Itr lo n) H) :=
  lc_core (J := Itr lo n) n (fun i => .int (lo + i)) Pv (fun i σ L H p hi s => hi) (fun σ L H p s => Nat.le_refl _) (fun i σ L H x H' p hi s h => h) h0 hs hd
theorem n_lcR1 (Pv : Nat → List V → Own → Prop) (hb : -(2 ^ 62) ≤ j ∧ j < 2 ^ 62) (h0 : Pv 0 [] L)
    (hs : ∀ (i : Nat) acc L D, (i : Int) < j → Pv i acc L → N B ((D, .lst acc) :: L) (fun H => g (.int i) (wipe σ vs) H fun σ2 H2 => wipe σ2 vs = wipe σ vs ∧ tt σ2 H2 fun b H3 =>
      if b = true then te σ2 H3 (fun y H4 => ∃ acc, H4 D = some (.lst acc) ∧ acc.length < sizeLine ∧ (∃ L, SI B L (upd H4 D (.lst (acc ++ [y]))) ∧ ∃ a L', L = (D, .lst a) :: L' ∧ Pv (i + 1) a L')) else (∃ L, SI B L H3 ∧ ∃ a L', L = (D, .lst a) :: L' ∧ Pv (i + 1) a L')))
    (hd : ∀ acc L D, Pv j.toNat acc L → N B ((D, .lst acc) :: L) (Q (.ref D))) : N B L (fun H => IR1 (Lc g tt te vs σ Q) [.int j] H) := fun H s => ⟨j, rfl, hb.1, hb.2,
  n_lcR (lo := 0) (n := j.toNat) Pv h0 (fun i acc L D hi p => by rw [Int.zero_add]; exact hs i acc L D (by omega) p) hd H s⟩
end
end Sk
namespace Sk
open PySem PySem.Spec PyProof.Rows L2
/-! ### defs -/
structure Ok (P : Program) (w : World) (K : PySem.W.Frag) (mg : Str → Option Value) (base : Heap) (k : Nat) (x : Str) (ps : List Str) (sp : Sp) : Prop where
  ex : ∃ f fd, FnOk P w K mg base CX0 k f fd ps sp ∧ mg x = some (.ref f) ∧ PySem.W.keepIn K (.ref f) = true ∧ Binds K fd ps []
theorem Ok.intro {P : Program} {w : World} {K : PySem.W.Frag} {mg : Str → Option Value} {base : Heap} {k : Nat} {x : Str} {ps : List Str} {sp : Sp} {f : Addr} {fd : FuncData} (F : FnOk P w K mg base CX0 k f fd ps sp) (g : mg x = some (.ref f)) (kp : PySem.W.keepIn K (.ref f) = true) (b : Binds K fd ps []) : Ok P w K mg base k x ps sp := ⟨⟨f, fd, F, g, kp, b⟩⟩
section
variable {X : Cx} {k : Nat} {x : Str} {ps : List Str} {sp : Sp} {p pos : Pos} {e : Expr} {es : List Expr} {t : TA}
theorem pe_ok (O : Ok X.prog X.w X.K X.mg X.base k x ps sp) (hr : Room k X.A) (hg : Gl X x) (ha : PA X (e :: es) t) (hdb : (x == ("__debug__" : Str)) = false := by decide)
    (he : starEach (e :: es) X.env = (false, eval e X.env) :: starEach es X.env := by rfl) (hpl : (backTo pos (starEach es X.env)).any (·.1) = false := by rfl) : PE X (.Call (.Name x p) (e :: es) [] pos) (tCall sp [] E0 t) := by
  obtain ⟨f, fd, F, g, kp, b⟩ := O.ex
  exact pe_call F hr hg g kp b .nil pass0 ha hdb he hpl
end
/-! ### more values -/
section
variable {K : PySem.W.Frag} {B : Hp} {L : Own} {Q : VK} {i : Int} {b : Bool} {s : Str}
theorem n_isi_int {T : String} (h : kitB "int" T = some b) (q : N B L (Q (.bl b))) : N B L (fun H => rIsi K [.int i, .ty T] H Q) := fun H s => ⟨_, _, _, _, b, rfl, .ty T, .base (.int i), kit_ty h, q H s⟩
theorem n_isi_bl {T : String} {c : Bool} (h : kitB "bool" T = some b) (q : N B L (Q (.bl b))) : N B L (fun H => rIsi K [.bl c, .ty T] H Q) := fun H s => ⟨_, _, _, _, b, rfl, .ty T, .base (.bl c), kit_ty h, q H s⟩
theorem n_isi_str {T : String} (h : kitB "str" T = some b) (q : N B L (Q (.bl b))) : N B L (fun H => rIsi K [.str s, .ty T] H Q) := fun H x => ⟨_, _, _, _, b, rfl, .ty T, .base (.str s), kit_ty h, q H x⟩
theorem n_isi_non {T : String} (h : kitB "NoneType" T = some b) (q : N B L (Q (.bl b))) : N B L (fun H => rIsi K [.non, .ty T] H Q) := fun H x => ⟨_, _, _, _, b, rfl, .ty T, .base .non, kit_ty h, q H x⟩
theorem n_isi_lst {T : String} {a : Addr} {xs : List V} (hs : Is B L a (.lst xs)) (h : kitB "list" T = some b) (q : N B L (Q (.bl b))) : N B L (fun H => rIsi K [.ref a, .ty T] H Q) := fun H x => ⟨_, _, _, _, b, rfl, .ty T, .base (.lst (hs H x)), kit_ty h, q H x⟩
theorem n_isi_tup {T : String} {a : Addr} {xs : List V} (hs : Is B L a (.tup xs)) (h : kitB "tuple" T = some b) (q : N B L (Q (.bl b))) : N B L (fun H => rIsi K [.ref a, .ty T] H Q) := fun H x => ⟨_, _, _, _, b, rfl, .ty T, .base (.tup (hs H x)), kit_ty h, q H x⟩
end
/-! ### data at any depth -/
section
variable {K : PySem.W.Frag} {B : Hp} {L L' : Own} {Q : VK} {i : Int} {b : Bool} {a c p : Addr} {v x y : V} {d e : PyData} {ns ms : List Int} {xs : List V} {k : Hp → Prop}
def Da (K : PySem.W.Frag) (B : Hp) (L : Own) (v : V) (d : PyData) : Prop := ∀ H, SI B L H → Dp K H v d
theorem n_eqD (h1 : Da K B L x d) (h2 : Da K B L y e) (s1 : SeqAt.shaped d = true) (s2 : SeqAt.shaped e = true) (q : N B L (Q (.bl (PyData.eqv d e)))) : N B L (fun H => uEq K x y H Q) := fun H s => .inr ⟨d, e, h1 H s, h2 H s, s1, s2, q H s⟩
theorem n_neD (h1 : Da K B L x d) (h2 : Da K B L y e) (s1 : SeqAt.shaped d = true) (s2 : SeqAt.shaped e = true) (q : N B L (Q (.bl (!PyData.eqv d e)))) : N B L (fun H => uNe K x y H Q) := fun H s => .inr ⟨d, e, h1 H s, h2 H s, s1, s2, q H s⟩
theorem dpAll_ints {H : Hp} : ∀ ns : List Int, DpAll K H (ns.map V.int) (ns.map PyData.int)
  | [] => .nil
  | n :: r => .cons (.int n) (dpAll_ints r)
theorem da_ints (h : Sq K B L a (ns.map V.int)) : Da K B L (.ref a) (.list (ns.map PyData.int)) := fun H s => .lst (h H s) (dpAll_ints ns)
theorem da_intsT (h : Tp K B L a (ns.map V.int)) : Da K B L (.ref a) (.tuple (ns.map PyData.int)) := fun H s => .tup (h H s) (dpAll_ints ns)
theorem da_int : Da K B L (.int i) (.int i) := fun _ _ => .int i
theorem can_ints : ∀ ns : List Int, PyData.canLayAll0 (ns.map PyData.int) = true ∧ PyData.depthAll (ns.map PyData.int) = 0
  | [] => ⟨rfl, rfl⟩
  | n :: r => by
    obtain ⟨h1, h2⟩ := can_ints r
    refine ⟨?_, ?_⟩
    · show (true && PyData.canLayAll0 (r.map PyData.int)) = true
      rw [h1]; rfl
    · show max 0 (PyData.depthAll (r.map PyData.int)) = 0
      rw [h2]; rfl
theorem shaped_ints (ns : List Int) : SeqAt.shaped (.list (ns.map PyData.int)) = true := by
  obtain ⟨h1, h2⟩ := can_ints ns
  show (PyData.canLayAll0 (ns.map PyData.int) && decide (PyData.depthAll (ns.map PyData.int) + 1 ≤ 64)) = true
  rw [h1, h2]; rfl
theorem shaped_intsT (ns : List Int) : SeqAt.shaped (.tuple (ns.map PyData.int)) = true := shaped_ints ns
theorem eqvAll_ints : ∀ ns ms : List Int, PyData.eqvAll (ns.map PyData.int) (ms.map PyData.int) = decide (ns = ms)
  | [], [] => rfl
  | [], m :: r => by
    rw [decide_eq_false (fun e => nomatch e)]
    exact PyData.eqvAll.eq_3 _ _
  | n :: r, [] => by
    rw [decide_eq_false (fun e => nomatch e)]
    exact PyData.eqvAll.eq_4 _ _
  | n :: r, m :: r' => by
    rw [List.map_cons, List.map_cons, PyData.eqvAll, eqvAll_ints r r', PyData.eqv]
    by_cases h1 : n = m
    · subst h1
      by_cases h2 : r = r'
      · subst h2; simp
      · rw [decide_eq_false h2, decide_eq_false (fun e => h2 (List.cons.inj e).2)]; simp
    · rw [decide_eq_false (fun e => h1 (List.cons.inj e).1), beq_eq_false_iff_ne.mpr h1]; rfl
theorem eqv_ints (ns ms : List Int) : PyData.eqv (.list (ns.map PyData.int)) (.list (ms.map PyData.int)) = decide (ns = ms) := by
  rw [PyData.eqv]; exact eqvAll_ints ns ms
theorem n_eqLi (h1 : Sq K B L a (ns.map V.int)) (h2 : Sq K B L c (ms.map V.int)) (q : N B L (Q (.bl (decide (ns = ms))))) : N B L (fun H => uEq K (.ref a) (.ref c) H Q) :=
  n_eqD (da_ints h1) (da_ints h2) (shaped_ints _) (shaped_ints _) (by rw [eqv_ints]; exact q)
theorem n_neLi (h1 : Sq K B L a (ns.map V.int)) (h2 : Sq K B L c (ms.map V.int)) (q : N B L (Q (.bl (!decide (ns = ms))))) : N B L (fun H => uNe K (.ref a) (.ref c) H Q) :=
  n_neD (da_ints h1) (da_ints h2) (shaped_ints _) (shaped_ints _) (by rw [eqv_ints]; exact q)
/-! ### lists of ints -/
theorem at_ints {z : Int} (h0 : 0 ≤ z) (h1 : z < ns.length) : atI (ns.map V.int) z = some (.int (ns.getD z.toNat 0)) := by
  obtain ⟨n, rfl⟩ := Int.eq_ofNat_of_zero_le h0
  refine atI_nat ?_
  have h : n < ns.length := by omega
  rw [List.getElem?_map, Int.toNat_natCast, List.getD_eq_getElem?_getD, List.getElem?_eq_getElem h]
  rfl
theorem n_ixLi (hs : Sq K B L a (ns.map V.int)) (h0 : 0 ≤ i) (h1 : i < ns.length) (q : N B L (Q (.int (ns.getD i.toNat 0)))) : N B L (fun H => rIx K (.ref a) (.int i) H Q) := n_ixL hs (at_ints h0 h1) q
variable {D : Ends} {ts : TS} {σ : St} {g : TG}
theorem n_lpLi (ns : List Int) (Pv : Nat → St → Own → Prop) (hq : ∀ i σ L, i ≤ ns.length → Pv i σ L → Sq K B L a (ns.map V.int)) (h0 : Pv 0 σ L)
    (hs : ∀ i σ L (hi : i < ns.length), Pv i σ L → N B L (fun H => g (.int ns[i]) σ H fun σ2 H2 => ts (loE D (KI B (Pv (i + 1)))) σ2 H2))
    (hd : ∀ σ L, Pv ns.length σ L → N B L (D.nx σ)) : N B L (fun H => IL K (Lp g ts D σ) (.ref a) H) := by
  have e : (ns.map V.int).length = ns.length := List.length_map _
  refine n_lpL (xs := ns.map V.int) Pv (fun i σ L h p => hq i σ L (by omega) p) h0 (fun i σ L h p => ?_) (fun σ L p => hd σ L (by rw [← e]; exact p))
  have q := hs i σ L (by omega) p
  rw [List.getElem_map]
  exact q
theorem n_lpVi (ns : List Int) (Pv : Nat → St → Own → Prop) (hq : ∀ i σ L, i ≤ ns.length → Pv i σ L → Sq K B L a (ns.map V.int)) (h0 : Pv 0 σ L)
    (hs : ∀ i σ L (hi : i < ns.length), Pv i σ L → N B L (fun H => g (.int (ns[ns.length - 1 - i]'(by omega))) σ H fun σ2 H2 => ts (loE D (KI B (Pv (i + 1)))) σ2 H2))
    (hd : ∀ σ L, Pv ns.length σ L → N B L (D.nx σ)) : N B L (fun H => IV K (Lp g ts D σ) [.ref a] H) := by
  have e : (ns.map V.int).length = ns.length := List.length_map _
  refine n_lpV (xs := ns.map V.int) Pv (fun i σ L h p => hq i σ L (by omega) p) h0 (fun i σ L h p => ?_) (fun σ L p => hd σ L (by rw [← e]; exact p))
  have q := hs i σ L (by omega) p
  rw [List.getElem_map]
  simp only [e]
  exact q
theorem n_lpEi {n m : Nat} (ns : List Int) (Pv : Nat → St → Own → Prop) (hq : ∀ i σ L, i ≤ ns.length → Pv i σ L → Sq K B L a (ns.map V.int)) (h0 : Pv 0 σ L)
    (hs : ∀ (i : Nat) σ L (hi : i < ns.length), Pv i σ L → N B L (fun H => ts (loE D (KI B (Pv (i + 1)))) ((σ.set n (some (.int i))).set m (some (.int ns[i]))) H))
    (hd : ∀ σ L, Pv ns.length σ L → N B L (D.nx σ)) : N B L (fun H => IE K (Lp (gTup K 2 (gCons (gName n) (gCons (gName m) gNil))) ts D σ) [.ref a] H) := by
  have e : (ns.map V.int).length = ns.length := List.length_map _
  refine n_lpE (xs := ns.map V.int) Pv (fun i σ L h p => hq i σ L (by omega) p) h0 (fun i σ L h p => ?_) (fun σ L p => hd σ L (by rw [← e]; exact p))
  have q := hs i σ L (by omega) p
  rw [List.getElem_map]
  exact q
theorem N.go {B : Hp} {k : Hp → Prop} (h : N B [] k) : k B := h B (SI.refl B)
theorem take_step {α : Type} {xs : List α} {i : Nat} (h : i < xs.length) : xs.take (i + 1) = xs.take i ++ [xs[i]] := by
  rw [List.take_add_one, List.getElem?_eq_getElem h]; rfl
end
/-! ### lending one object -/
section
variable {K : PySem.W.Frag} {B : Hp} {L L' : Own} {Q : VK} {p a : Addr} {o : HO} {i : Nat} {H : Hp}
theorem perm_at {α : Type} : ∀ {L : List α} {i : Nat} {x : α}, L[i]? = some x → L.Perm (x :: L.eraseIdx i)
  | [], i, x, h => by simp at h
  | y :: r, 0, x, h => by
    have e : y = x := Option.some.inj h
    subst e
    exact .refl _
  | y :: r, i + 1, x, h => (List.Perm.cons y (perm_at (L := r) (i := i) (x := x) h)).trans (List.Perm.swap x y _)
theorem perm_set {α : Type} : ∀ {L : List α} {i : Nat} {x : α} (y : α), L[i]? = some x → (y :: L.eraseIdx i).Perm (L.set i y)
  | [], i, x, y, h => by simp at h
  | z :: r, 0, x, y, h => .refl _
  | z :: r, i + 1, x, y, h => (List.Perm.swap z y _).trans (List.Perm.cons z (perm_set (L := r) (i := i) (x := x) y h))
theorem lend1 (s : SI B L H) (hi : L[i]? = some (p, o)) : ∃ B', SI B' [(p, o)] H ∧ ∀ o' Ln H', SI B' (Ln ++ [(p, o')]) H' → SI B (Ln ++ L.set i (p, o')) H' := by
  have s2 : SI B ([(p, o)] ++ L.eraseIdx i) H := s.perm (perm_at hi)
  refine ⟨_, s2.lend, fun o' Ln H' h => ?_⟩
  have s3 : SI B ((Ln ++ [(p, o')]) ++ L.eraseIdx i) H' := s2.back h
  rw [List.append_assoc] at s3
  exact s3.perm (List.Perm.append_left Ln (perm_set (p, o') hi))
/-- the element's end, its new objects put behind the others -/
theorem n_putA {y : V} {D : Addr} {acc : List V} {L4 : Own} {P : List V → Own → Prop} (Lm : Own) (e : L = Lm ++ (D, .lst acc) :: L4) (hz : acc.length < sizeLine) (h : P (acc ++ [y]) L') (s : L'.Sublist (L4 ++ Lm)) :
    N B L (fun H4 => ∃ acc, H4 D = some (.lst acc) ∧ acc.length < sizeLine ∧ (∃ L, SI B L (upd H4 D (.lst (acc ++ [y]))) ∧ ∃ a L', L = (D, .lst a) :: L' ∧ P a L')) := by
  subst e
  intro H x
  obtain ⟨a, b⟩ := put_upd (y := y) x
  exact ⟨acc, a, hz, _, (b.perm (List.Perm.cons _ List.perm_append_comm)).sub (s.cons₂ _), _, _, rfl, h⟩
def cutI (xs : List Int) (lo hi : Option Int) : List Int := (xs.drop (HT.sIx xs.length 0 lo)).take (HT.sIx xs.length xs.length hi - HT.sIx xs.length 0 lo)
theorem cutV_ints (xs : List Int) (lo hi : Option Int) : cutV (xs.map V.int) lo hi = (cutI xs lo hi).map V.int := by
  unfold cutV cutI
  rw [List.length_map, List.map_take, List.map_drop]
theorem n_slLi {ns : List Int} {lo hi : Option Int} (hs : Sq K B L a (ns.map V.int)) (q : ∀ p, N B ((p, .lst ((cutI ns lo hi).map V.int)) :: L) (Q (.ref p))) : N B L (fun H => rSlL K (.ref a) lo hi H Q) :=
  n_slL hs (by rw [cutV_ints]; exact q)
theorem cutI_len (xs : List Int) (lo hi : Option Int) : (cutI xs lo hi).length ≤ xs.length := by
  unfold cutI
  rw [List.length_take, List.length_drop]
  omega
theorem cutI_nat (xs : List Int) (a b : Nat) : cutI xs (some (a : Int)) (some (b : Int)) = (xs.drop a).take (b - a) := by
  unfold cutI
  rw [HT.sIx_nat, HT.sIx_nat]
  by_cases h : a ≤ xs.length
  · rw [Nat.min_eq_left h]
    by_cases h2 : b ≤ xs.length
    · rw [Nat.min_eq_left h2]
    · rw [Nat.min_eq_right (by omega), List.take_of_length_le (by rw [List.length_drop]; exact Nat.le_refl _), List.take_of_length_le (by rw [List.length_drop]; omega)]
  · have e1 : xs.drop (min a xs.length) = [] := List.drop_eq_nil_of_le (by omega)
    have e2 : xs.drop a = [] := List.drop_eq_nil_of_le (by omega)
    rw [e1, e2, List.take_nil, List.take_nil]
theorem cutI_to (xs : List Int) (b : Nat) : cutI xs none (some (b : Int)) = xs.take b := by
  have := cutI_nat xs 0 b
  simpa [cutI, HT.sIx] using this
theorem cutI_from (xs : List Int) (a : Nat) : cutI xs (some (a : Int)) none = xs.drop a := by
  unfold cutI
  rw [HT.sIx_nat, HT.sIx_none]
  by_cases h : a ≤ xs.length
  · rw [Nat.min_eq_left h, List.take_of_length_le (by rw [List.length_drop]; exact Nat.le_refl _)]
  · have e1 : xs.drop (min a xs.length) = [] := List.drop_eq_nil_of_le (by omega)
    have e2 : xs.drop a = [] := List.drop_eq_nil_of_le (by omega)
    rw [e1, e2, List.take_nil]
theorem pool_set {pool : Own} {j : Nat} {q : Addr × HO} (o : HO) (h : pool[j]? = some q) {α : Type} (f : Addr → α) : (pool.set j (q.1, o)).map (fun x => f x.1) = pool.map (fun x => f x.1) := by
  apply List.ext_getElem?
  intro n
  rw [List.getElem?_map, List.getElem?_map, List.getElem?_set]
  split
  · rename_i e; subst e
    obtain ⟨hj, e⟩ := List.getElem?_eq_some_iff.mp h
    rw [if_pos hj, List.getElem?_eq_getElem hj, e]; rfl
  · rfl
theorem pool_all {P : Addr × HO → Prop} {pool : Own} {j : Nat} {q : Addr × HO} (h : ∀ x ∈ pool, P x) (hq : P q) : ∀ x ∈ pool.set j q, P x := fun x hx => by
  rcases List.mem_or_eq_of_mem_set hx with h2 | rfl
  · exact h x h2
  · exact hq
end
theorem sz_ok {n : Nat} (h : n ≤ 10000000) : n ≤ sizeLine := Nat.le_trans h (by decide)
theorem sz_lt {n : Nat} (h : n < 10000000) : n < sizeLine := Nat.lt_of_lt_of_le h (by decide)
theorem own_ix {L : Own} {x : Addr × HO} (n : Nat) (h : L[n]? = some x) : L[n]? = some x := h
theorem set_app {α : Type} (x : α) (pool : List α) (j : Nat) : ∀ pre : List α, (pre ++ pool).set (pre.length + j) x = pre ++ pool.set j x
  | [] => by simp
  | a :: r => by
    have e : (a :: r).length + j = (r.length + j) + 1 := by rw [List.length_cons]; omega
    rw [e]
    show a :: (r ++ pool).set (r.length + j) x = a :: (r ++ pool.set j x)
    rw [set_app x pool j r]
theorem get_app {α : Type} (pool : List α) (j : Nat) : ∀ pre : List α, (pre ++ pool)[pre.length + j]? = pool[j]?
  | [] => by simp
  | a :: r => by
    have e : (a :: r).length + j = (r.length + j) + 1 := by rw [List.length_cons]; omega
    rw [e]
    show (r ++ pool)[r.length + j]? = pool[j]?
    exact get_app pool j r
theorem set_at {α : Type} {pool : List α} {j : Nat} {q x : α} (h : pool[j]? = some q) : (pool.set j x)[j]? = some x := by
  rw [List.getElem?_set_self (List.getElem?_eq_some_iff.mp h).1]
section
variable {K : PySem.W.Frag} {B : Hp} {L : Own} {Q : VK} {l c : Addr} {ns ms : List Int} {i v : Int} {n : Nat} {k : Hp → Prop}
theorem n_catLi (hl : Is B L l (.lst (ns.map V.int))) (hc : Is B L c (.lst (ms.map V.int))) (hn : ns.length + ms.length ≤ sizeLine) (q : ∀ p, N B ((p, .lst ((ns ++ ms).map V.int)) :: L) (Q (.ref p))) : N B L (fun H => uAdd K (.ref l) (.ref c) H Q) :=
  n_cat hl hc (by rw [List.length_map, List.length_map]; exact hn) (by rw [← List.map_append]; exact q)
theorem n_appendLi (hi : L[n]? = some (l, .lst (ns.map V.int))) (hz : ns.length < sizeLine) (q : N B (L.set n (l, .lst ((ns ++ [v]).map V.int))) (Q .non)) : N B L (fun H => rAppend (.ref l) [.int v] H Q) :=
  n_append hi (by rw [List.length_map]; exact hz) (by rw [List.map_append] at q; exact q)
theorem ixN_nat (h0 : 0 ≤ i) (h1 : i < n) : ixN n i = some i.toNat := by
  unfold ixN
  rw [if_pos h0, if_pos h1]
theorem n_setLi (hi : L[n]? = some (l, .lst (ns.map V.int))) (h0 : 0 ≤ i) (h1 : i < ns.length) (q : N B (L.set n (l, .lst ((ns.set i.toNat v).map V.int))) k) : N B L (fun H => rSetL (.ref l) (.int i) (.int v) H k) :=
  n_setL (m := i.toNat) hi (ixN_nat h0 (by rw [List.length_map]; exact h1)) (by rw [← List.map_set]; exact q)
end
/-! ### promises used -/
section
variable {B : Hp} {L L' : Own} {H : Hp} {k : Hp → Prop} {p : Addr} {o o' : HO} {i : Nat}
theorem N.lift (s : SI B L H) (h : N B (L' ++ L) k) : N H L' k := fun H' s' => h H' (s.trans s')
/-- one object handed in is changed; Ln are new -/
def NO (B : Hp) (p : Addr) (Ln : Own) (o : HO) (k : Hp → Prop) : Prop := N B (Ln ++ [(p, o)]) k
/-- the same for whoever calls: p stands at place i -/
def NC (B : Hp) (L : Own) (i : Nat) (p : Addr) (Ln : Own) (o : HO) (k : Hp → Prop) : Prop := N B (Ln ++ L.set i (p, o)) k
theorem NO.lift {B' : Hp} (s : ∀ o' Ln H', SI B' (Ln ++ [(p, o')]) H' → SI B (Ln ++ L.set i (p, o')) H') {Ln : Own} (h : NC B L i p Ln o' k) : NO B' p Ln o' k := fun H' s' => h H' (s _ _ _ s')
theorem N.go1 (s : SI B [(p, o)] H) (h : N B [(p, o)] k) : k H := h H s
end
/-! ### numbers -/
section
variable {K : PySem.W.Frag} {B : Hp} {L : Own} {Q : VK} {i j : Int} {σ : St} {te : TE} {vs : List Nat} {m : Nat} {a : Addr}
theorem n_and1 (q : N B L (Q (.int (i % 2)))) : N B L (fun H => uAnd (.int i) (.int 1) H Q) := n_and_ (by
  have e := PySem.W.kbt_mask i 1
  rw [show ((2 : Int) ^ 1 - 1) = 1 by decide, show ((2 : Int) ^ 1) = 2 by decide] at e
  rw [e]; exact q)
theorem n_and127 (q : N B L (Q (.int (i % 128)))) : N B L (fun H => uAnd (.int i) (.int 127) H Q) := n_and_ (by
  have e := PySem.W.kbt_mask i 7
  rw [show ((2 : Int) ^ 7 - 1) = 127 by decide, show ((2 : Int) ^ 7) = 128 by decide] at e
  rw [e]; exact q)
theorem n_orL {k : Nat} (h0 : 0 ≤ i) (h1 : 0 ≤ j) (h2 : j < 2 ^ k) (q : N B L (Q (.int (i * 2 ^ k + j)))) : N B L (fun H => uOr (.int (i * 2 ^ k)) (.int j) H Q) := n_or_ (by rw [or_low h0 h1 h2]; exact q)
def BitsK (Q : VK) (x : V) (H1 : Hp) : Prop := ∃ i, x = .int i ∧ Q (.int (Builtin.Int.intBits i : Nat)) H1
theorem n_bits (q : N B L (fun H => te σ H (BitsK Q))) : N B L (fun H => tBits te σ H Q) := q
theorem n_bits2 (q : N B L (Q (.int (Builtin.Int.intBits i : Nat)))) : N B L (fun H => BitsK Q (.int i) H) := fun H s => ⟨i, rfl, q H s⟩
theorem pow_lt_of {w n : Int} {k : Nat} (h : 1 * 2 ^ w.toNat ≤ n) (hn : n < 2 ^ k) : w < k := by
  have h1 : ((2 : Int) ^ w.toNat) < 2 ^ k := by omega
  have h2 : (2 : Nat) ^ w.toNat < 2 ^ k := by
    have e1 : ((2 : Int) ^ w.toNat) = ((2 ^ w.toNat : Nat) : Int) := by push_cast; rfl
    have e2 : ((2 : Int) ^ k) = ((2 ^ k : Nat) : Int) := by push_cast; rfl
    rw [e1, e2] at h1
    exact Int.ofNat_lt.mp h1
  have h3 := (Nat.pow_lt_pow_iff_right (by decide : 1 < 2)).mp h2
  omega
theorem cpow1 {w : Int} (h0 : 0 ≤ w) (h1 : w ≤ 1000000) : CPow 1 w := ⟨h0, h1, by decide⟩
theorem intBits_lt {n : Int} {k : Nat} (h0 : 0 ≤ n) (h : n < 2 ^ k) : Builtin.Int.intBits n ≤ k := by
  rw [PySem.intBits_le_iff]
  have e2 : ((2 : Int) ^ k) = ((2 ^ k : Nat) : Int) := by push_cast; rfl
  rw [e2] at h
  omega
theorem cshl7 {n : Int} {k : Nat} {j : Int} (h0 : 0 ≤ n) (h : n < 2 ^ k) (j0 : 0 ≤ j) (hk : (k : Int) + j ≤ 134217728) : CShl n j := ⟨j0, by have := intBits_lt h0 h; omega⟩
/-- a comprehension over range whose element is an int told by its turn -/
theorem n_lcMap (f : Nat → Int) (hb : j ≤ 100000) (hj : 0 ≤ j) (hw : ∀ x, wipe ((wipe σ vs).set m x) vs = wipe σ vs)
    (he : ∀ (i : Nat) D acc (Q' : VK), (i : Int) < j → N B ((D, .lst acc) :: L) (Q' (.int (f i))) → N B ((D, .lst acc) :: L) (fun H => te ((wipe σ vs).set m (some (.int i))) H Q'))
    (hd : ∀ D, N B ((D, .lst (((List.range j.toNat).map f).map V.int)) :: L) (Q (.ref D))) : N B L (fun H => IR1 (Lc (gName m) tYes te vs σ Q) [.int j] H) := by
  refine n_lcR1 (fun i acc L' => acc = ((List.range i).map f).map V.int ∧ L' = L) ⟨by omega, by omega⟩ ⟨rfl, rfl⟩ ?_ ?_
  · rintro i acc L' D hi ⟨rfl, rfl⟩
    refine n_gName ?_
    refine n_wiped (hw _) ?_
    refine n_yes ?_
    refine n_iteT ?_
    refine he i D _ _ hi ?_
    refine n_put [] rfl ?_ ⟨?_, rfl⟩ (List.Sublist.refl _)
    · rw [List.length_map, List.length_map, List.length_range]
      exact sz_lt (by omega)
    · rw [List.range_succ, List.map_append, List.map_append]; rfl
  · rintro acc L' D ⟨rfl, rfl⟩
    exact hd D
/-- .. over a list of ints -/
theorem n_lcMapL (ns : List Int) (f : Int → Int) (hb : ns.length ≤ 100000) (hq : Sq K B L a (ns.map V.int)) (hw : ∀ x, wipe ((wipe σ vs).set m x) vs = wipe σ vs)
    (he : ∀ (x : Int) D acc (Q' : VK), x ∈ ns → N B ((D, .lst acc) :: L) (Q' (.int (f x))) → N B ((D, .lst acc) :: L) (fun H => te ((wipe σ vs).set m (some (.int x))) H Q'))
    (hd : ∀ D, N B ((D, .lst ((ns.map f).map V.int)) :: L) (Q (.ref D))) : N B L (fun H => IL K (Lc (gName m) tYes te vs σ Q) (.ref a) H) := by
  refine n_lcL (xs := ns.map V.int) (fun i acc L' => acc = ((ns.take i).map f).map V.int ∧ L' = L) (fun i acc L' _ p => by rw [p.2]; exact hq) ⟨rfl, rfl⟩ ?_ ?_
  · rintro i acc L' D hi ⟨rfl, rfl⟩
    have hi' : i < ns.length := by rw [List.length_map] at hi; exact hi
    rw [List.getElem_map]
    refine n_gName ?_
    refine n_wiped (hw _) ?_
    refine n_yes ?_
    refine n_iteT ?_
    refine he ns[i] D _ _ (List.getElem_mem hi') ?_
    refine n_put [] rfl ?_ ⟨?_, rfl⟩ (List.Sublist.refl _)
    · rw [List.length_map, List.length_map, List.length_take]
      exact sz_lt (by omega)
    · rw [take_step hi', List.map_append, List.map_append]; rfl
  · rintro acc L' D ⟨rfl, rfl⟩
    rw [List.length_map, List.take_length]
    exact hd D
theorem n_repLi {l : Addr} {ns : List Int} (hl : Is B L l (.lst (ns.map V.int))) (h0 : 0 ≤ j) (h1 : j ≤ 1000000) (hn : ns.length * j.toNat ≤ sizeLine) (q : ∀ p, N B ((p, .lst ((List.replicate j.toNat ns).flatten.map V.int)) :: L) (Q (.ref p))) : N B L (fun H => uMul (.ref l) (.int j) H Q) :=
  n_rep hl (by omega) (by omega) (by rw [List.length_map]; exact hn) (by
    have e : (List.replicate j.toNat (ns.map V.int)).flatten = (List.replicate j.toNat ns).flatten.map V.int := by rw [List.map_flatten, List.map_replicate]
    rw [e]; exact q)
end
theorem n_iteFe {B : Hp} {L : Own} {b : Bool} {k1 k2 : Hp → Prop} (e : b = false) (h : N B L k2) : N B L (fun H => if b = true then k1 H else k2 H) := by subst e; exact n_iteF h
theorem n_iteTe {B : Hp} {L : Own} {b : Bool} {k1 k2 : Hp → Prop} (e : b = true) (h : N B L k1) : N B L (fun H => if b = true then k1 H else k2 H) := by subst e; exact n_iteT h
section
variable {B : Hp} {L : Own} {t u : TT} {ta tb : TE} {σ : St} {QB : Bool → Hp → Prop} {Q : VK} {b : Bool}
theorem n_orC (q : N B L (fun H => t σ H fun c H1 => if c = true then QB true H1 else u σ H1 QB)) : N B L (fun H => tOr t u σ H QB) := q
theorem n_andC (q : N B L (fun H => t σ H fun c H1 => if c = true then u σ H1 QB else QB false H1)) : N B L (fun H => tAnd t u σ H QB) := q
def OrK (tb : TE) (σ : St) (Q : VK) (x : V) (H1 : Hp) : Prop := ∃ c, x = .bl c ∧ if c = true then Q (.bl true) H1 else tb σ H1 Q
def AndK (tb : TE) (σ : St) (Q : VK) (x : V) (H1 : Hp) : Prop := ∃ c, x = .bl c ∧ if c = true then tb σ H1 Q else Q (.bl false) H1
theorem n_orCV (q : N B L (fun H => ta σ H (OrK tb σ Q))) : N B L (fun H => tOrV ta tb σ H Q) := q
theorem n_andCV (q : N B L (fun H => ta σ H (AndK tb σ Q))) : N B L (fun H => tAndV ta tb σ H Q) := q
theorem n_orK (q : N B L (fun H => if b = true then Q (.bl true) H else tb σ H Q)) : N B L (fun H => OrK tb σ Q (.bl b) H) := fun H s => ⟨b, rfl, q H s⟩
theorem n_andK (q : N B L (fun H => if b = true then tb σ H Q else Q (.bl false) H)) : N B L (fun H => AndK tb σ Q (.bl b) H) := fun H s => ⟨b, rfl, q H s⟩
end
end Sk
namespace Sk
open PySem PySem.Spec PyProof.Rows L2
/-! ### the base grows -/
section
variable {B B' B0 H H' : Hp} {L L' : Own} {p a : Addr} {o : HO} {i : Nat} {K : PySem.W.Frag} {xs : List V} {v : V} {d : PyData} {k : Hp → Prop}
theorem SI.put (s : SI B L H) (hi : L[i]? = some (p, o)) : SI (upd B p o) (L.eraseIdx i) H := by
  have s2 : SI B ((p, o) :: L.eraseIdx i) H := s.perm (perm_at hi)
  have hp := (s2.own _ (List.mem_cons_self)).1
  have nd := s2.nd
  rw [List.map_cons, List.nodup_cons] at nd
  refine ⟨fun b u e => ?_, fun q hq => ?_, nd.2⟩
  · by_cases hb : b = p
    · subst hb
      rw [upd_same] at e
      cases e
      exact (s2.own _ (List.mem_cons_self)).2
    · rw [upd_ne hb] at e
      exact s2.ext _ _ e
  · obtain ⟨h1, h2⟩ := s2.own q (List.mem_cons_of_mem _ hq)
    refine ⟨?_, h2⟩
    rw [upd_ne (fun e => nd.1 (List.mem_map.mpr ⟨q, hq, e⟩))]
    exact h1
theorem same_put (hp : B p = none) : Same B (upd B p o) := fun b u e => by rw [upd_ne (ne_of_none e hp)]; exact e
theorem SI.mono (s : Same B B') (h : SI B' L H) : SI B L H := ⟨s.trans h.ext, fun q hq => ⟨s.free (h.own q hq).1, (h.own q hq).2⟩, h.nd⟩
/-- an object that is changed no more -/
theorem n_freeze (i : Nat) (hi : L[i]? = some (p, o)) (q : ∀ B', Same B B' → B' p = some o → N B' (L.eraseIdx i) k) : N B L k := fun H s =>
  q _ (same_put (s.free hi)) upd_same H (s.put hi)
theorem Sq.mono (s : Same B B') (h : Sq K B L a xs) : Sq K B' L a xs := fun H x => h H (x.mono s)
theorem Tp.mono (s : Same B B') (h : Tp K B L a xs) : Tp K B' L a xs := fun H x => h H (x.mono s)
theorem Is.mono (s : Same B B') (h : Is B L a o) : Is B' L a o := fun H x => h H (x.mono s)
theorem Da.mono (s : Same B B') (h : Da K B L v d) : Da K B' L v d := fun H x => h H (x.mono s)
theorem Tp.sub (h : Tp K B L a xs) (s : L.Sublist L') : Tp K B L' a xs := fun H x => h H (x.sub s)
theorem Da.sub (h : Da K B L v d) (s : L.Sublist L') : Da K B L' v d := fun H x => h H (x.sub s)
theorem Sq.nil (h : Sq K B [] a xs) : Sq K B L a xs := h.sub (List.nil_sublist _)
theorem Tp.nil (h : Tp K B [] a xs) : Tp K B L a xs := h.sub (List.nil_sublist _)
theorem Is.nil (h : Is B [] a o) : Is B L a o := h.sub (List.nil_sublist _)
theorem Da.nil (h : Da K B [] v d) : Da K B L v d := h.sub (List.nil_sublist _)
theorem is_in (h : B p = some o) : Is B [] p o := is_old h
theorem n_tup2F {Q : VK} (hn : xs.length ≤ sizeLine) (q : ∀ p B', Same B B' → B' p = some (.tup xs) → N B' L (Q (.ref p))) : N B L (fun H1 => TupK Q xs H1) :=
  n_tup2 hn fun p => n_freeze 0 rfl (q p)
/-- behind a turn, the base grown -/
def KG (B : Hp) (P : Hp → St → Own → Prop) : St → Hp → Prop := fun σ H => ∃ B' L, Same B B' ∧ SI B' L H ∧ P B' σ L
def KGW (B : Hp) (P : Nat → Hp → St → Own → Prop) (m : Nat) : St → Hp → Prop := fun σ H => ∃ B' m' L, Same B B' ∧ m' < m ∧ SI B' L H ∧ P m' B' σ L
variable {σ : St} {D : Ends} {ts tz : TS} {t : TT} {g : TG} {ns : List Int} {j lo : Int}
theorem n_kg {P : Hp → St → Own → Prop} (sm : Same B0 B) (h : P B σ L') (s : L'.Sublist L) : N B L (KG B0 P σ) := fun H x => ⟨B, L', sm, x.sub s, h⟩
theorem n_kgw {P : Nat → Hp → St → Own → Prop} {m m' : Nat} (sm : Same B0 B) (h : P m' B σ L') (lt : m' < m) (s : L'.Sublist L) : N B L (KGW B0 P m σ) := fun H x => ⟨B, m', L', sm, lt, x.sub s, h⟩
theorem lp_coreB {J : It} (n : Nat) (yl : Nat → V) (Pv : Nat → Hp → St → Own → Prop)
    (hgo : ∀ i B' σ L H, Same B B' → Pv i B' σ L → i < n → SI B' L H → J.go i H) (hst : ∀ B' σ L H, Same B B' → Pv n B' σ L → SI B' L H → J.stop n H)
    (hy : ∀ i B' σ L H x H', Same B B' → Pv i B' σ L → i < n → SI B' L H → J.yld i H x H' → H' = H ∧ x = yl i)
    (h0 : Pv 0 B σ L) (hs : ∀ i B' σ L, Same B B' → i < n → Pv i B' σ L → N B' L (fun H => g (yl i) σ H fun σ2 H2 => ts (loE D (KG B' (Pv (i + 1)))) σ2 H2))
    (hd : ∀ B' σ L, Same B B' → Pv n B' σ L → N B' L (D.nx σ)) : N B L (fun H => Lp g ts D σ J H) := by
  intro H s
  refine ⟨fun i m σ H => m = n - i ∧ i ≤ n ∧ ∃ B' L, Same B B' ∧ SI B' L H ∧ Pv i B' σ L, ⟨n, by omega, Nat.zero_le _, B, L, (Same.refl _), s, h0⟩, ?_⟩
  rintro i m σ H ⟨rfl, hi, B', L, sm, s, p⟩
  by_cases hlt : i < n
  · refine .inr ⟨hgo i B' σ L H sm p hlt s, KG B' (Pv (i + 1)), fun σ' H' ⟨B2, L', sm2, s', p'⟩ => ⟨n - (i + 1), by omega, rfl, hlt, B2, L', sm.trans sm2, s', p'⟩, fun x H' hx => ?_⟩
    obtain ⟨rfl, rfl⟩ := hy i B' σ L H x H' sm p hlt s hx
    exact hs i B' σ L sm hlt p _ s
  · have e : i = n := by omega
    subst e
    exact .inl ⟨hst B' σ L H sm p s, hd B' σ L sm p H s⟩
theorem n_lpLB (xs : List V) (Pv : Nat → Hp → St → Own → Prop) (hq : ∀ i B' σ L, Same B B' → i ≤ xs.length → Pv i B' σ L → Sq K B' L a xs) (h0 : Pv 0 B σ L)
    (hs : ∀ i B' σ L (hi : i < xs.length), Same B B' → Pv i B' σ L → N B' L (fun H => g xs[i] σ H fun σ2 H2 => ts (loE D (KG B' (Pv (i + 1)))) σ2 H2))
    (hd : ∀ B' σ L, Same B B' → Pv xs.length B' σ L → N B' L (D.nx σ)) : N B L (fun H => IL K (Lp g ts D σ) (.ref a) H) := by
  intro H s
  refine ⟨a, rfl, ⟨xs, hq 0 B σ L (Same.refl _) (Nat.zero_le _) h0 H s⟩, ?_⟩
  refine lp_coreB (J := Itl K a) xs.length (fun i => xs.getD i .non) Pv (fun i B' σ L H sm p hi s => ⟨xs, xs[i], hq i B' σ L sm (Nat.le_of_lt hi) p H s, List.getElem?_eq_getElem hi⟩) (fun B' σ L H sm p s => ⟨xs, hq _ B' σ L sm (Nat.le_refl _) p H s, Nat.le_refl _⟩) ?_ h0 ?_ hd H s
  · rintro i B' σ L H x H' sm p hi s ⟨e, hx⟩
    have := hx xs (hq i B' σ L sm (Nat.le_of_lt hi) p H s)
    refine ⟨e, ?_⟩
    rw [List.getElem?_eq_getElem hi] at this
    show x = xs.getD i .non
    rw [List.getD_eq_getElem?_getD, List.getElem?_eq_getElem hi]
    exact (Option.some.inj this).symm
  · intro i B' σ L sm hi p
    have e : xs.getD i .non = xs[i] := by rw [List.getD_eq_getElem?_getD, List.getElem?_eq_getElem hi]; rfl
    show N B' L (fun H => g (xs.getD i .non) σ H _)
    rw [e]
    exact hs i B' σ L hi sm p
theorem n_lpTB (xs : List V) (Pv : Nat → Hp → St → Own → Prop) (hq : ∀ i B' σ L, Same B B' → i ≤ xs.length → Pv i B' σ L → Tp K B' L a xs) (h0 : Pv 0 B σ L)
    (hs : ∀ i B' σ L (hi : i < xs.length), Same B B' → Pv i B' σ L → N B' L (fun H => g xs[i] σ H fun σ2 H2 => ts (loE D (KG B' (Pv (i + 1)))) σ2 H2))
    (hd : ∀ B' σ L, Same B B' → Pv xs.length B' σ L → N B' L (D.nx σ)) : N B L (fun H => ILT K (Lp g ts D σ) (.ref a) H) := by
  intro H s
  refine ⟨a, rfl, ⟨xs, hq 0 B σ L (Same.refl _) (Nat.zero_le _) h0 H s⟩, ?_⟩
  refine lp_coreB (J := Itt K a) xs.length (fun i => xs.getD i .non) Pv (fun i B' σ L H sm p hi s => ⟨xs, xs[i], hq i B' σ L sm (Nat.le_of_lt hi) p H s, List.getElem?_eq_getElem hi⟩) (fun B' σ L H sm p s => ⟨xs, hq _ B' σ L sm (Nat.le_refl _) p H s, Nat.le_refl _⟩) ?_ h0 ?_ hd H s
  · rintro i B' σ L H x H' sm p hi s ⟨e, hx⟩
    have := hx xs (hq i B' σ L sm (Nat.le_of_lt hi) p H s)
    refine ⟨e, ?_⟩
    rw [List.getElem?_eq_getElem hi] at this
    show x = xs.getD i .non
    rw [List.getD_eq_getElem?_getD, List.getElem?_eq_getElem hi]
    exact (Option.some.inj this).symm
  · intro i B' σ L sm hi p
    have e : xs.getD i .non = xs[i] := by rw [List.getD_eq_getElem?_getD, List.getElem?_eq_getElem hi]; rfl
    show N B' L (fun H => g (xs.getD i .non) σ H _)
    rw [e]
    exact hs i B' σ L hi sm p
theorem n_lpLiB (ns : List Int) (Pv : Nat → Hp → St → Own → Prop) (hq : ∀ i B' σ L, Same B B' → i ≤ ns.length → Pv i B' σ L → Sq K B' L a (ns.map V.int)) (h0 : Pv 0 B σ L)
    (hs : ∀ i B' σ L (hi : i < ns.length), Same B B' → Pv i B' σ L → N B' L (fun H => g (.int ns[i]) σ H fun σ2 H2 => ts (loE D (KG B' (Pv (i + 1)))) σ2 H2))
    (hd : ∀ B' σ L, Same B B' → Pv ns.length B' σ L → N B' L (D.nx σ)) : N B L (fun H => IL K (Lp g ts D σ) (.ref a) H) := by
  have e : (ns.map V.int).length = ns.length := List.length_map _
  refine n_lpLB (ns.map V.int) Pv (fun i B' σ L sm h p => hq i B' σ L sm (by omega) p) h0 (fun i B' σ L h sm p => ?_) (fun B' σ L sm p => hd B' σ L sm (by rw [← e]; exact p))
  have q := hs i B' σ L (by omega) sm p
  rw [List.getElem_map]
  exact q
theorem n_lpRB {n : Nat} (Pv : Nat → Hp → St → Own → Prop) (h0 : Pv 0 B σ L)
    (hs : ∀ i B' σ L, Same B B' → i < n → Pv i B' σ L → N B' L (fun H => g (.int (lo + i)) σ H fun σ2 H2 => ts (loE D (KG B' (Pv (i + 1)))) σ2 H2))
    (hd : ∀ B' σ L, Same B B' → Pv n B' σ L → N B' L (D.nx σ)) : N B L (fun H => Lp g ts D σ (Itr lo n) H) :=
  lp_coreB (J := Itr lo n) n (fun i => .int (lo + i)) Pv (fun i B' σ L H sm p hi s => hi) (fun B' σ L H sm p s => Nat.le_refl _) (fun i B' σ L H x H' sm p hi s h => h) h0 hs hd
theorem n_lpR1B (Pv : Nat → Hp → St → Own → Prop) (hb : -(2 ^ 62) ≤ j ∧ j < 2 ^ 62) (h0 : Pv 0 B σ L)
    (hs : ∀ (i : Nat) B' σ L, Same B B' → (i : Int) < j → Pv i B' σ L → N B' L (fun H => g (.int i) σ H fun σ2 H2 => ts (loE D (KG B' (Pv (i + 1)))) σ2 H2))
    (hd : ∀ B' σ L, Same B B' → Pv j.toNat B' σ L → N B' L (D.nx σ)) : N B L (fun H => IR1 (Lp g ts D σ) [.int j] H) := fun H s => ⟨j, rfl, hb.1, hb.2,
  n_lpRB (lo := 0) (n := j.toNat) Pv h0 (fun i B' σ L sm hi p => by rw [Int.zero_add]; exact hs i B' σ L sm (by omega) p) hd H s⟩
theorem n_lpR2B {i0 : Int} (Pv : Nat → Hp → St → Own → Prop) (hb : -(2 ^ 62) ≤ i0 ∧ i0 < 2 ^ 62 ∧ -(2 ^ 62) ≤ j ∧ j < 2 ^ 62) (h0 : Pv 0 B σ L)
    (hs : ∀ (n : Nat) B' σ L, Same B B' → i0 + (n : Int) < j → Pv n B' σ L → N B' L (fun H => g (.int (i0 + n)) σ H fun σ2 H2 => ts (loE D (KG B' (Pv (n + 1)))) σ2 H2))
    (hd : ∀ B' σ L, Same B B' → Pv (j - i0).toNat B' σ L → N B' L (D.nx σ)) : N B L (fun H => IR2 (Lp g ts D σ) [.int i0, .int j] H) := fun H s => ⟨i0, j, rfl, hb,
  n_lpRB (lo := i0) (n := (j - i0).toNat) Pv h0 (fun n B' σ L sm hi p => hs n B' σ L sm (by omega) p) hd H s⟩
theorem n_lpEB {n m : Nat} (xs : List V) (Pv : Nat → Hp → St → Own → Prop) (hq : ∀ i B' σ L, Same B B' → i ≤ xs.length → Pv i B' σ L → Sq K B' L a xs) (h0 : Pv 0 B σ L)
    (hs : ∀ (i : Nat) B' σ L (hi : i < xs.length), Same B B' → Pv i B' σ L → N B' L (fun H => ts (loE D (KG B' (Pv (i + 1)))) ((σ.set n (some (.int i))).set m (some xs[i])) H))
    (hd : ∀ B' σ L, Same B B' → Pv xs.length B' σ L → N B' L (D.nx σ)) : N B L (fun H => IE K (Lp (gTup K 2 (gCons (gName n) (gCons (gName m) gNil))) ts D σ) [.ref a] H) := by
  intro H s
  refine ⟨a, xs, rfl, hq 0 B σ L (Same.refl _) (Nat.zero_le _) h0 H s, ?_⟩
  refine ⟨fun i m σ H => m = xs.length - i ∧ i ≤ xs.length ∧ ∃ B' L, Same B B' ∧ SI B' L H ∧ Pv i B' σ L, ⟨xs.length, by omega, Nat.zero_le _, B, L, (Same.refl _), s, h0⟩, ?_⟩
  rintro i m' σ H ⟨rfl, hi, B', L, sm, s, p⟩
  have hsq := hq i B' σ L sm hi p H s
  by_cases hlt : i < xs.length
  · refine .inr ⟨⟨xs, xs[i], hsq, List.getElem?_eq_getElem hlt⟩, KG B' (Pv (i + 1)), fun σ' H' ⟨B2, L', sm2, s', p'⟩ => ⟨xs.length - (i + 1), by omega, rfl, hlt, B2, L', sm.trans sm2, s', p'⟩, fun v H' hx => ?_⟩
    obtain ⟨T, x, rfl, nT, rfl, hx⟩ := hx
    have := hx xs hsq
    rw [List.getElem?_eq_getElem hlt] at this
    cases this
    have s2 : SI B' ((T, .tup [.int i, xs[i]]) :: L) (upd H T (.tup [.int i, xs[i]])) := s.new nT
    refine ⟨T, [.int i, xs[i]], rfl, SqT.of upd_same, rfl, _, _, rfl, _, _, rfl, rfl, ?_⟩
    exact n_sub (L' := L) (List.sublist_cons_self _ _) (hs i B' σ L hlt sm p) _ s2
  · have e : i = xs.length := by omega
    subst e
    exact .inl ⟨⟨xs, hsq, Nat.le_refl _⟩, hd B' σ L sm p H s⟩
theorem n_wkB {Pv : Nat → Hp → St → Own → Prop} {m : Nat} (q : N B L (fun H => ts (loE D (KGW B Pv m)) σ H)) : N B L (fun H => ∃ N : St → Hp → Prop, (∀ σ' H', N σ' H' → ∃ m', m' < m ∧ KG B (Pv m') σ' H') ∧ ts { D with nx := N, ct := N, bk := D.nx } σ H) :=
  fun H s => ⟨KGW B Pv m, fun σ' H' ⟨B', m', L', sm, lt, s', p⟩ => ⟨m', lt, B', L', sm, s', p⟩, q H s⟩
def WKB (B : Hp) (Pv : Nat → Hp → St → Own → Prop) (m : Nat) (tb : TS) (D : Ends) (σ : St) (H1 : Hp) : Prop := ∃ N : St → Hp → Prop, (∀ σ' H', N σ' H' → ∃ m', m' < m ∧ KG B (Pv m') σ' H') ∧ tb { D with nx := N, ct := N, bk := D.nx } σ H1
theorem n_wkG {B2 : Hp} {Pv : Nat → Hp → St → Own → Prop} {m : Nat} (sm : Same B B2) (q : N B2 L (fun H => ts (loE D (KGW B Pv m)) σ H)) : N B2 L (fun H => WKB B Pv m ts D σ H) :=
  fun H s => ⟨KGW B Pv m, fun σ' H' ⟨B', m', L', sm, lt, s', p⟩ => ⟨m', lt, B', L', sm, s', p⟩, q H s⟩
theorem n_whileB (Pv : Nat → Hp → St → Own → Prop) (m0 : Nat) (h0 : Pv m0 B σ L)
    (hs : ∀ m B' σ L, Same B B' → Pv m B' σ L → N B' L (fun H => t σ H fun b H1 => if b = true then WKB B Pv m ts (onE D (tz D)) σ H1 else tz D σ H1)) : N B L (fun H => tSeq (tWhile t ts) tz D σ H) := by
  intro H s
  refine ⟨fun m σ H => KG B (Pv m) σ H, ⟨m0, B, L, (Same.refl _), s, h0⟩, ?_⟩
  rintro m σ H ⟨B', L, sm, s, p⟩
  exact hs m B' σ L sm p H s
theorem n_cutB {D : Ends} (M : Hp → St → Own → Prop) (h : N B L (fun H => tSeq ts tNext (onE D (KG B M)) σ H)) (q : ∀ B' σ' L', Same B B' → M B' σ' L' → N B' L' (fun H => tz D σ' H)) : N B L (fun H => Evl.tCut ts tz D σ H) :=
  fun H s => ⟨KG B M, h H s, fun σ' H' ⟨B', L', sm, s', m⟩ => q B' σ' L' sm m H' s'⟩
end
/-! ### calls, whatever is raised -/
def tCl (sp : Sp) (E : St → XK) (t : TA) : TE := fun σ H Q => t σ H fun vs H1 => sp vs H1 Q (E σ)
def MtK (C : Addr) (m : Str) (sp : Sp) (E : St → XK) (t : TA) (σ : St) (Q : VK) (x : V) (H1 : Hp) : Prop := ∃ a dx fs, x = .ref a ∧ H1 a = some (.ins C dx fs) ∧ fs.lookup m = none ∧ t σ H1 fun vs H2 => sp (x :: vs) H2 Q (E σ)
def tMt (C : Addr) (m : Str) (sp : Sp) (E : St → XK) (ta : TE) (t : TA) : TE := fun σ H Q => ta σ H (MtK C m sp E t σ Q)
def MkK (C : Addr) (sp : Sp) (E : XK) (Q : VK) (vs : List V) (H1 : Hp) : Prop := ∀ x dx, H1 x = none → H1 dx = none → dx ≠ x →
  sp (.ref x :: vs) (upd (upd H1 dx (.own x)) x (.ins C dx [])) (fun v H2 => v = .non ∧ Q (.ref x) H2) E
def tMkk (C : Addr) (sp : Sp) (E : St → XK) (t : TA) : TE := fun σ H Q => t σ H (MkK C sp (E σ) Q)
structure OkC (P : Program) (w : World) (K : PySem.W.Frag) (mg : Str → Option Value) (base : Heap) (CX : CXT) (k : Nat) (x : Str) (ps : List Str) (sp : Sp) : Prop where
  ex : ∃ f fd, FnOk P w K mg base CX k f fd ps sp ∧ mg x = some (.ref f) ∧ PySem.W.keepIn K (.ref f) = true ∧ Binds K fd ps []
structure OkM (P : Program) (w : World) (K : PySem.W.Frag) (mg : Str → Option Value) (base : Heap) (CX : CXT) (k : Nat) (C : Addr) (m : Str) (ps : List Str) (sp : Sp) : Prop where
  ex : ∃ f fd, FnOk P w K mg base CX k f fd ps sp ∧ Meth K C m f ∧ Binds K fd ps []
  cl : Cls K C
structure OkI (P : Program) (w : World) (K : PySem.W.Frag) (mg : Str → Option Value) (base : Heap) (CX : CXT) (k : Nat) (x : Str) (C : Addr) (ps : List Str) (sp : Sp) : Prop where
  ex : ∃ f fd, FnOk P w K mg base CX k f fd ps sp ∧ Mk K C f ∧ mg x = some (.ref C) ∧ Binds K fd ps []
section
variable {X : Cx} {CX : CXT} {k : Nat} {x m : Str} {ps : List Str} {sp : Sp} {p pos apos : Pos} {e o : Expr} {es : List Expr} {t : TA} {ta : TE} {E : St → XK} {C f : Addr} {fd : FuncData}
theorem run_make' {pins : List (Addr × Obj)} {σ : St} {H : Hp} {s : Shared} {Q : VK} {us : List Value} {vs : List V} (M : Mk X.K C f) (F : FnOk X.prog X.w X.K X.mg X.base CX k f fd ps sp) (hr : Room (k + 1) X.A) (hb : Binds X.K fd ps [])
    (hx : PassesAt CX X σ (E σ)) (I : Inv X pins σ H s) (r : Vals vs us) (h : MkK C sp (E σ) Q vs H) : wpAny (model X.prog X.w) X.A (call (.ref C) us) (EP X pins σ Q) X.xe s := by
  have hq := h (s.heap.objs.size + 1) s.heap.objs.size (I.hok.fresh (Nat.le_succ _)) (I.hok.fresh (Nat.le_refl _)) (Nat.ne_of_lt (Nat.lt_succ_self _))
  have I2 := Inv.made (C := C) I
  have r2 : Vals (V.ref (s.heap.objs.size + 1) :: vs) (Value.ref (s.heap.objs.size + 1) :: us) := .cons rfl r
  have hl : (Value.ref (s.heap.objs.size + 1) :: us).length = ps.length := by rw [← r2.length]; exact F.len _ _ _ _ hq
  have b := hb _ (Value.ref (s.heap.objs.size + 1) :: us) I2.kIn (by rw [List.append_nil]; exact hl)
  rw [List.append_nil] at b
  refine wpAny_call (make_map (f := f) I.kIn M.makes M.init (beq_iff_eq.mp M.fn) (codeAny_mono (F.run _ X.stack _ _ ⟨Value.ref (s.heap.objs.size + 1) :: us, []⟩ (Value.ref (s.heap.objs.size + 1) :: us) _ _ (E σ) (hr.make C us [])
    (I2.env0.make C us []) b r2 hq) fun r s' hq' => ?_))
  cases r with
  | error e => exact hx pins _ _ e s' I2 hq'
  | ok fl =>
    cases fl with
    | ret u =>
      obtain ⟨v, H', I3, rv, ev, q3⟩ := I2.after hq'
      subst ev
      exact ⟨rv, ⟨V.ref (s.heap.objs.size + 1), H', I3, rfl, q3⟩⟩
    | next => exact False.elim hq'
    | brk => exact False.elim hq'
    | cont => exact False.elim hq'
theorem pe_cl (O : OkC X.prog X.w X.K X.mg X.base CX k x ps sp) (hr : Room k X.A) (hg : Gl X x) (hx : ∀ σ, PassesAt CX X σ (E σ)) (ha : PA X (e :: es) t) (hdb : (x == ("__debug__" : Str)) = false := by decide)
    (he : starEach (e :: es) X.env = (false, eval e X.env) :: starEach es X.env := by rfl) (hpl : (backTo pos (starEach es X.env)).any (·.1) = false := by rfl) : PE X (.Call (.Name x p) (e :: es) [] pos) (tCl sp E t) := by
  obtain ⟨f, fd, F, g, kp, b⟩ := O.ex
  exact pe_callS F hr hg g kp b hx ha hdb he hpl
theorem pe_cl0 (O : OkC X.prog X.w X.K X.mg X.base CX k x ps sp) (hr : Room k X.A) (hg : Gl X x) (hx : ∀ σ, PassesAt CX X σ (E σ)) (hdb : (x == ("__debug__" : Str)) = false := by decide) : PE X (.Call (.Name x p) [] [] pos) (tCl sp E tNil) := by
  obtain ⟨f, fd, F, g, kp, b⟩ := O.ex
  refine ⟨fun pins s σ H Q I h => ?_⟩
  refine wpAny_Call_Name_kw (ld_glob I hg g ?_ hdb)
  exact PySem.W.callWith_K0 (first := []) I.kIn kp (run_fnS (us := []) (vs := []) F hr b (hx σ) I .nil h)
theorem pe_mt {pl : Sem Bool} (O : OkM X.prog X.w X.K X.mg X.base CX k C m ps sp) (he : PE X o ta) (hr : Room k X.A) (hx : ∀ σ, PassesAt CX X σ (E σ)) (ha : PA X (e :: es) t)
    (hst : starEach (e :: es) X.env = (false, eval e X.env) :: starEach es X.env := by rfl) (hpl : (backTo pos (starEach es X.env)).any (·.1) = false := by rfl)
    (ht : eval (.Call (.Attribute o m apos) (e :: es) [] pos) X.env = (do
      let ov ← eval o X.env
      standAt apos.atName
      let (f, first) ← holding [ov] (getMethod ov m pl)
      callWith pos f first (backTo pos (starEach (e :: es) X.env)) (backToKw pos (keywordEach [] X.env))) := by rfl) :
    PE X (.Call (.Attribute o m apos) (e :: es) [] pos) (tMt C m sp E ta t) := by
  obtain ⟨f, fd, F, hm, hb⟩ := O.ex
  refine ⟨fun pins s σ H Q I h => ?_⟩
  refine PySem.W.methodCall_KW (pl := pl) (thn (he.run pins s σ H _ I h) fun u s1 ⟨x, H1, I1, rx, a, dx, fs, ex, ea, l, q⟩ => ?_) ht
  subst ex
  obtain rfl : u = Value.ref a := rx
  refine getmeth_ok I1 ea O.cl hm l ?_
  refine PySem.W.callWith_K (first := [.ref a]) (h₀ := X.base) I1.ok.mod.kin hm.kp (thn (ha.run pos pins s1 σ H1 _ I1 q) fun us s2 ⟨vs, H2, I2, r, q2⟩ => ⟨I2.kIn, ?_⟩) hst hpl
  exact run_fnS (us := .ref a :: us) (vs := .ref a :: vs) F hr hb (hx σ) I2 (.cons rfl r) q2
theorem pe_mt0 {pl : Sem Bool} (O : OkM X.prog X.w X.K X.mg X.base CX k C m ps sp) (he : PE X o ta) (hr : Room k X.A) (hx : ∀ σ, PassesAt CX X σ (E σ))
    (ht : eval (.Call (.Attribute o m apos) [] [] pos) X.env = (do
      let ov ← eval o X.env
      standAt apos.atName
      let (f, first) ← holding [ov] (getMethod ov m pl)
      callWith pos f first (backTo pos (starEach [] X.env)) (backToKw pos (keywordEach [] X.env))) := by rfl) :
    PE X (.Call (.Attribute o m apos) [] [] pos) (tMt C m sp E ta tNil) := by
  obtain ⟨f, fd, F, hm, hb⟩ := O.ex
  refine ⟨fun pins s σ H Q I h => ?_⟩
  refine PySem.W.methodCall_KW (pl := pl) (thn (he.run pins s σ H _ I h) fun u s1 ⟨x, H1, I1, rx, a, dx, fs, ex, ea, l, q⟩ => ?_) ht
  subst ex
  obtain rfl : u = Value.ref a := rx
  refine getmeth_ok I1 ea O.cl hm l ?_
  exact PySem.W.callWith_K0 (first := [.ref a]) I1.kIn hm.kp (run_fnS (us := [.ref a]) (vs := [.ref a]) F hr hb (hx σ) I1 (.cons rfl .nil) q)
theorem pe_mkk (O : OkI X.prog X.w X.K X.mg X.base CX k x C ps sp) (hr : Room (k + 1) X.A) (hg : Gl X x) (hx : ∀ σ, PassesAt CX X σ (E σ)) (ha : PA X (e :: es) t) (hdb : (x == ("__debug__" : Str)) = false := by decide)
    (he : starEach (e :: es) X.env = (false, eval e X.env) :: starEach es X.env := by rfl) (hpl : (backTo pos (starEach es X.env)).any (·.1) = false := by rfl) : PE X (.Call (.Name x p) (e :: es) [] pos) (tMkk C sp E t) := by
  obtain ⟨f, fd, F, M, g, b⟩ := O.ex
  refine ⟨fun pins s σ H Q I h => ?_⟩
  refine wpAny_Call_Name_kw (ld_glob I hg g ?_ hdb)
  refine PySem.W.callWith_K (h₀ := X.base) I.ok.mod.kin M.kp (thn (ha.run pos pins s σ H _ I h) fun us s1 ⟨vs, H1, I1, r, q⟩ => ⟨I1.kIn, ?_⟩) he hpl
  exact run_make' M F hr b (hx σ) I1 r q
theorem pe_mkk0 (O : OkI X.prog X.w X.K X.mg X.base CX k x C ps sp) (hr : Room (k + 1) X.A) (hg : Gl X x) (hx : ∀ σ, PassesAt CX X σ (E σ)) (hdb : (x == ("__debug__" : Str)) = false := by decide) : PE X (.Call (.Name x p) [] [] pos) (tMkk C sp E tNil) := by
  obtain ⟨f, fd, F, M, g, b⟩ := O.ex
  refine ⟨fun pins s σ H Q I h => ?_⟩
  refine wpAny_Call_Name_kw (ld_glob I hg g ?_ hdb)
  exact PySem.W.callWith_K0 (first := []) I.kIn M.kp (run_make' (us := []) (vs := []) M F hr b (hx σ) I .nil h)
/-! what is let out -/
abbrev W0 : WX := fun _ _ _ _ => False
abbrev CXN := L2N.CX
theorem tk0 : L2N.Takes X W0 := fun _ _ x => by
  obtain ⟨_, _, _, _, _, _, _, _, _, _, _, _, _, _, _, _, z⟩ := x
  exact z.elim
theorem pass00 {W : WX} : ∀ σ, PassesAt CX0 X σ (WE W σ) := fun _ _ _ _ _ _ _ h => h.elim
theorem passN {W : WX} (tk : L2N.Takes X W) : ∀ σ, PassesAt (CXN X.prog X.w) X σ (WE W σ) := fun σ => L2N.passAt tk σ
end
section
variable {P : Program} {w : World} {K : PySem.W.Frag} {mg : Str → Option Value} {base : Heap}
theorem okN {x qual : Str} {st : Stmt} {f : Addr} {fd : FuncData} {N ps : List Str} {k : Nat} {sp : Sp} (F : Fun K x qual st f fd) (S : FnScope N ps (defScope st)) (len : ∀ vs H Q E, sp vs H Q E → vs.length = ps.length)
    (hbody : ∀ (cdv : Value) (A : Around) (outer : List Env) (s : Shared) (H : Hp) (vs : List V) (Q : VK) (E : XK), Room k (A.deeper (envOfC qual (defScope st) s.heap.objs.size f cdv)) → sp vs H Q E →
      ∃ t, PSs (cxOf (CXN P w) P w K mg base N qual (defScope st) f cdv A outer s H E) (defBody st) t ∧ t { nx := fun _ H' => Q .non H', rt := Q } (start N vs) H) : FnOk P w K mg base (CXN P w) (k + 1) f fd ps sp := by
  obtain ⟨oc, od, kV, doc, pm, an, cdv, ct, osl, rfl, lk, hcd⟩ := F.ex
  exact fn_of lk hcd S len fun A outer s H vs Q E hr hsp => hbody cdv A outer s H vs Q E hr hsp
end
/-! readings -/
def tRs (C : Addr) (W : WX) : TS := fun _ σ H => W (.ref C) none σ H
section
variable {K : PySem.W.Frag} {B : Hp} {L : Own} {Q : VK} {σ : St} {ta te to : TE} {t : TA} {sp : Sp} {E : St → XK} {C a : Addr} {m f : Str} {v y : V} {vs : List V} {fs fs' r r' : List (Str × V)} {dx : Addr} {D : Ends} {tz : TS} {W : WX} {E' : XK} {g : Str} {k : Hp → Prop} {n : Nat}
theorem n_cl (q : N B L (fun H => t σ H fun vs H1 => sp vs H1 Q (E σ))) : N B L (fun H => tCl sp E t σ H Q) := q
theorem n_mt (q : N B L (fun H => ta σ H (MtK C m sp E t σ Q))) : N B L (fun H => tMt C m sp E ta t σ H Q) := q
theorem n_mtK (h : Is B L a (.ins C dx fs)) (l : fs.lookup m = none) (q : N B L (fun H => t σ H fun vs H2 => sp (.ref a :: vs) H2 Q (E σ))) : N B L (fun H => MtK C m sp E t σ Q (.ref a) H) :=
  fun H s => ⟨a, dx, fs, rfl, h H s, l, q H s⟩
theorem n_mkk (q : N B L (fun H => t σ H (MkK C sp (E σ) Q))) : N B L (fun H => tMkk C sp E t σ H Q) := q
theorem n_mkK (q : ∀ x dx, N B ((x, .ins C dx []) :: L) (fun H => sp (.ref x :: vs) H (fun v H2 => v = .non ∧ Q (.ref x) H2) E')) : N B L (fun H => MkK C sp E' Q vs H) := fun H s x dx hx hd ne =>
  q x dx _ (((s.new (o := .own x) hd).new (p := x) (by rw [upd_ne (fun e => ne e.symm)]; exact hx)).sub (.cons₂ _ (.cons _ (.refl _))))
theorem n_nonA {x : V} (q : N B L k) (e : x = .non) : N B L (fun H => x = .non ∧ k H) := fun H s => ⟨e, q H s⟩
theorem n_rs (q : N B L (W (.ref C) none σ)) : N B L (fun H => tSeq (tRs C W) tz D σ H) := q
/-! fields -/
theorem lk_hit : List.lookup f ((f, v) :: r) = some v := by simp [List.lookup]
theorem lk_miss (h : (f == g) = false) : List.lookup f ((g, v) :: r) = List.lookup f r := by simp [List.lookup, h]
theorem lk_nil : List.lookup f ([] : List (Str × V)) = none := rfl
theorem pf_nil : putF f y [] = [(f, y)] := rfl
theorem pf_hit : putF f y ((f, v) :: r) = (f, y) :: r := by
  show (if f = f then _ else _) = _
  rw [if_pos rfl]
theorem pf_miss (h : ¬ g = f) (e : putF f y r = r') : putF f y ((g, v) :: r) = (g, v) :: r' := by
  show (if g = f then _ else _) = _
  rw [if_neg h, e]
def FldK (K : PySem.W.Frag) (f : Str) (Q : VK) (x : V) (H1 : Hp) : Prop := ∃ a C dx fs v, x = .ref a ∧ H1 a = some (.ins C dx fs) ∧ Cls K C ∧ NoAttr K C f ∧ fs.lookup f = some v ∧ Q v H1
theorem n_fld (q : N B L (fun H => ta σ H (FldK K f Q))) : N B L (fun H => tFld K ta f σ H Q) := q
theorem n_fldK (h : Is B L a (.ins C dx fs)) (c : Cls K C) (na : NoAttr K C f) (l : fs.lookup f = some v) (q : N B L (Q v)) : N B L (fun H => FldK K f Q (.ref a) H) := fun H s => ⟨a, C, dx, fs, v, rfl, h H s, c, na, l, q H s⟩
def SfK (K : PySem.W.Frag) (f : Str) (y : V) (k : Hp → Prop) (x : V) (H2 : Hp) : Prop := ∃ a C dx fs, x = .ref a ∧ H2 a = some (.ins C dx fs) ∧ Cls K C ∧ NoAttr K C f ∧ fs.length < 1000 ∧ k (upd H2 a (.ins C dx (putF f y fs)))
theorem n_asgF (q : N B L (fun H => te σ H fun y H1 => ta σ H1 (SfK K f y (tz D σ)))) : N B L (fun H => tSeq (sFld K ta te f) tz D σ H) := q
theorem n_sfK (hi : L[n]? = some (a, .ins C dx fs)) (c : Cls K C) (na : NoAttr K C f) (hl : fs.length < 1000) (e : putF f y fs = fs') (q : N B (L.set n (a, .ins C dx fs')) k) : N B L (fun H => SfK K f y k (.ref a) H) := fun H s =>
  ⟨a, C, dx, fs, rfl, s.at hi, c, na, hl, by rw [e]; exact q _ (s.set hi)⟩
def Fa2 (C a : Addr) (f : Str) (k : Hp → Prop) (z : V) (H3 : Hp) : Prop := ∃ dx' fs', H3 a = some (.ins C dx' fs') ∧ fs'.length < 1000 ∧ k (upd H3 a (.ins C dx' (putF f z fs')))
def FaK (K : PySem.W.Frag) (f : Str) (te : TE) (rd : V → V → Hp → VK → Prop) (σ : St) (k : Hp → Prop) (x : V) (H1 : Hp) : Prop := ∃ a C dx fs v, x = .ref a ∧ H1 a = some (.ins C dx fs) ∧ Cls K C ∧ NoAttr K C f ∧ fs.lookup f = some v ∧ te σ H1 fun y H2 => rd v y H2 (Fa2 C a f k)
theorem n_asgFa {rd : V → V → Hp → VK → Prop} (q : N B L (fun H => ta σ H (FaK K f te rd σ (tz D σ)))) : N B L (fun H => tSeq (sFldAug K ta te rd f) tz D σ H) := q
theorem n_faK {rd : V → V → Hp → VK → Prop} (h : Is B L a (.ins C dx fs)) (c : Cls K C) (na : NoAttr K C f) (l : fs.lookup f = some v) (q : N B L (fun H => te σ H fun y H2 => rd v y H2 (Fa2 C a f k))) : N B L (fun H => FaK K f te rd σ k (.ref a) H) :=
  fun H s => ⟨a, C, dx, fs, v, rfl, h H s, c, na, l, q H s⟩
theorem n_fa2 (hi : L[n]? = some (a, .ins C dx fs)) (hl : fs.length < 1000) (e : putF f y fs = fs') (q : N B (L.set n (a, .ins C dx fs')) k) : N B L (fun H => Fa2 C a f k y H) := fun H s =>
  ⟨dx, fs, s.at hi, hl, by rw [e]; exact q _ (s.set hi)⟩
end
/-! one object lent -/
section
variable {B : Hp} {L L' : Own} {k : Hp → Prop} {p : Addr} {o o' : HO} {i : Nat}
/-- one object handed in is changed; Ln are new; G the rest -/
abbrev NP (B : Hp) (Ln : Own) (p : Addr) (o : HO) (G : Own) (k : Hp → Prop) : Prop := N B (Ln ++ (p, o) :: G) k
abbrev NQ (B : Hp) (Ln : Own) (p : Addr) (o : HO) (L : Own) (i : Nat) (k : Hp → Prop) : Prop := N B (Ln ++ L.set i (p, o)) k
theorem NP.of {Ln : Own} (hi : L[i]? = some (p, o)) (h : NQ B Ln p o' L i k) : NP B Ln p o' (L.eraseIdx i) k := n_perm (List.Perm.append_left Ln (perm_set (p, o') hi)) h
theorem SI.front {H : Hp} (s : SI B L H) (hi : L[i]? = some (p, o)) : SI B ((p, o) :: L.eraseIdx i) H := s.perm (perm_at hi)
end
end Sk
namespace Sk
open PySem PySem.Spec PyProof.Rows L2
section
variable {B B' : Hp} {L L' : Own} {p a c : Addr} {o : HO} {K : PySem.W.Frag} {xs ys : List V} {os : List HO} {v : V} {k : Hp → Prop} {Q : VK} {σ : St} {D : Ends} {ts : TS} {g : TG} {ns ms : List Int} {i j lo : Int} {n : Nat} {tr : TA}
/-! range with a step -/
def IR3 (R : It → Hp → Prop) (vs : List V) (H1 : Hp) : Prop := ∃ (i j c : Int) (n : Nat), vs = [.int i, .int j, .int c] ∧ RgC i j c n ∧ R (Itc i c n) H1
theorem n_iR3 {R : It → Hp → Prop} (q : N B L (fun H => tr σ H (IR3 R))) : N B L (fun H => iRng3 tr σ H R) := q
theorem rgc_up {c : Int} (hc : 1 ≤ c) (hc2 : c < 1073741824) (h0 : 0 ≤ j) (h1 : j < 2 ^ 61) : RgC 0 j c ((j + c - 1) / c).toNat := by
  have q0 : 0 ≤ (j + c - 1) / c := Int.ediv_nonneg (by omega) (by omega)
  have q1 : (j + c - 1) / c ≤ j + c - 1 := Int.ediv_le_self _ (by omega)
  refine ⟨by omega, by omega, ?_, ?_⟩
  · unfold Builtin.Range.small
    rw [rangeSize_pos hc h0]
    simp only [Builtin.Range.rangeFitsLong, Bool.and_eq_true, Bool.or_eq_true, decide_eq_true_eq, beq_iff_eq, if_pos (show c > 0 by omega)]
    omega
  · rw [rangeSize_pos hc h0]
    omega
theorem n_lpR3 {c : Int} (Pv : Nat → St → Own → Prop) (hc : 1 ≤ c) (hc2 : c < 1073741824) (hj0 : 0 ≤ j) (hj1 : j < 2 ^ 61) (h0 : Pv 0 σ L)
    (hs : ∀ (i : Nat) σ L, (i : Int) < (j + c - 1) / c → Pv i σ L → N B L (fun H => g (.int (i * c)) σ H fun σ2 H2 => ts (loE D (KI B (Pv (i + 1)))) σ2 H2))
    (hd : ∀ σ L, Pv ((j + c - 1) / c).toNat σ L → N B L (D.nx σ)) : N B L (fun H => IR3 (Lp g ts D σ) [.int 0, .int j, .int c] H) := fun H s => ⟨0, j, c, _, rfl, rgc_up hc hc2 hj0 hj1,
  lp_core (J := Itc 0 c _) _ (fun i => .int (0 + (i : Nat) * c)) Pv (fun i σ L H p hi s => hi) (fun σ L H p s => Nat.le_refl _) (fun i σ L H x H' p hi s h => h) h0 (fun i σ L hi p => by
    have hi' : (i : Int) < (j + c - 1) / c := by omega
    rw [Int.zero_add]; exact hs i σ L hi' p) hd H s⟩
theorem n_extendLi {m : Nat} {l c : Addr} (hi : L[m]? = some (l, .lst (ns.map V.int))) (hc : Is B L c (.lst (ms.map V.int))) (hz : ns.length + ms.length ≤ sizeLine) (q : N B (L.set m (l, .lst ((ns ++ ms).map V.int))) (Q .non)) : N B L (fun H => rExtend (.ref l) [.ref c] H Q) :=
  n_extend hi hc (by rw [List.length_map, List.length_map]; exact hz) (by rw [← List.map_append]; exact q)
/-! objects that stand -/
def Objs (B : Hp) (vs : List V) (os : List HO) : Prop := ∃ ps : List Addr, vs = ps.map V.ref ∧ ps.length = os.length ∧ ∀ (i : Nat) p o, ps[i]? = some p → os[i]? = some o → B p = some o
theorem Objs.nil : Objs B [] [] := ⟨[], rfl, rfl, fun i p o h => by simp at h⟩
theorem Objs.mono (s : Same B B') (h : Objs B xs os) : Objs B' xs os := by
  obtain ⟨ps, h1, h2, h3⟩ := h
  exact ⟨ps, h1, h2, fun i p o a b => s _ _ (h3 i p o a b)⟩
theorem Objs.len (h : Objs B xs os) : xs.length = os.length := by
  obtain ⟨ps, rfl, h2, h3⟩ := h
  rw [List.length_map, h2]
theorem Objs.snoc (h : Objs B xs os) (hp : B p = some o) : Objs B (xs ++ [.ref p]) (os ++ [o]) := by
  obtain ⟨ps, rfl, h2, h3⟩ := h
  refine ⟨ps ++ [p], by rw [List.map_append]; rfl, by rw [List.length_append, List.length_append, h2]; rfl, fun i q o' a b => ?_⟩
  rw [List.getElem?_append] at a b
  rw [h2] at a
  split at a
  · rename_i hlt
    rw [if_pos hlt] at b
    exact h3 i q o' a b
  · rename_i hge
    rw [if_neg hge] at b
    have e : i - os.length = 0 := by
      by_cases hz : i - os.length = 0
      · exact hz
      · obtain ⟨m, hm⟩ := Nat.exists_eq_succ_of_ne_zero hz
        rw [hm] at a; simp at a
    rw [e] at a b
    cases a; cases b
    exact hp
theorem Objs.cons (hp : B p = some o) (h : Objs B xs os) : Objs B (.ref p :: xs) (o :: os) := by
  obtain ⟨ps, rfl, h2, h3⟩ := h
  refine ⟨p :: ps, rfl, by rw [List.length_cons, List.length_cons, h2], fun i q o' a b => ?_⟩
  cases i with
  | zero => cases a; cases b; exact hp
  | succ i => exact h3 i q o' a b
theorem Objs.at (h : Objs B xs os) {i : Nat} (hi : i < os.length) : ∃ p, xs[i]? = some (.ref p) ∧ B p = some os[i] := by
  obtain ⟨ps, rfl, h2, h3⟩ := h
  have hi' : i < ps.length := by omega
  exact ⟨ps[i], by rw [List.getElem?_map, List.getElem?_eq_getElem hi']; rfl, h3 i _ _ (List.getElem?_eq_getElem hi') (List.getElem?_eq_getElem hi)⟩
theorem Objs.drop (h : Objs B xs os) (m : Nat) : Objs B (xs.drop m) (os.drop m) := by
  obtain ⟨ps, rfl, h2, h3⟩ := h
  refine ⟨ps.drop m, by rw [List.map_drop], by rw [List.length_drop, List.length_drop, h2], fun i p o a b => ?_⟩
  rw [List.getElem?_drop] at a b
  exact h3 _ p o a b
theorem Objs.take (h : Objs B xs os) (m : Nat) : Objs B (xs.take m) (os.take m) := by
  obtain ⟨ps, rfl, h2, h3⟩ := h
  refine ⟨ps.take m, by rw [List.map_take], by rw [List.length_take, List.length_take, h2], fun i p o a b => ?_⟩
  rw [List.getElem?_take] at a b
  split at a
  · rename_i hlt
    rw [if_pos hlt] at b
    exact h3 _ p o a b
  · cases a
theorem Objs.app {ys : List V} {os' : List HO} (h : Objs B xs os) (h' : Objs B ys os') : Objs B (xs ++ ys) (os ++ os') := by
  obtain ⟨ps, rfl, h2, h3⟩ := h
  obtain ⟨qs, rfl, h4, h5⟩ := h'
  refine ⟨ps ++ qs, by rw [List.map_append], by rw [List.length_append, List.length_append, h2, h4], fun i q o' a b => ?_⟩
  rw [List.getElem?_append] at a b
  rw [h2] at a
  split at a
  · rename_i hlt
    rw [if_pos hlt] at b
    exact h3 i q o' a b
  · rename_i hge
    rw [if_neg hge] at b
    exact h5 _ q o' a b
/-- a list of objects that stand, walked -/
theorem n_lpOB (os : List HO) (Pv : Nat → Hp → St → Own → Prop) (ho : Objs B xs os) (hq : ∀ i B' σ L, Same B B' → i ≤ os.length → Pv i B' σ L → Sq K B' L a xs) (h0 : Pv 0 B σ L)
    (hs : ∀ i B' σ L p (hi : i < os.length), Same B B' → Pv i B' σ L → B' p = some os[i] → N B' L (fun H => g (.ref p) σ H fun σ2 H2 => ts (loE D (KG B' (Pv (i + 1)))) σ2 H2))
    (hd : ∀ B' σ L, Same B B' → Pv os.length B' σ L → N B' L (D.nx σ)) : N B L (fun H => IL K (Lp g ts D σ) (.ref a) H) := by
  have e := ho.len
  refine n_lpLB xs Pv (fun i B' σ L sm h p => hq i B' σ L sm (by omega) p) h0 (fun i B' σ L hi sm p => ?_) (fun B' σ L sm p => hd B' σ L sm (by rw [← e]; exact p))
  obtain ⟨q, e1, e2⟩ := ho.at (i := i) (by omega)
  rw [List.getElem?_eq_getElem hi] at e1
  rw [Option.some.inj e1]
  exact hs i B' σ L q (by omega) sm p (sm _ _ e2)
theorem n_lpOm {α : Type} (f : α → HO) (ds : List α) (Pv : Nat → Hp → St → Own → Prop) (ho : Objs B xs (ds.map f)) (hq : ∀ i B' σ L, Same B B' → i ≤ ds.length → Pv i B' σ L → Sq K B' L a xs) (h0 : Pv 0 B σ L)
    (hs : ∀ i B' σ L p (hi : i < ds.length), Same B B' → Pv i B' σ L → B' p = some (f ds[i]) → N B' L (fun H => g (.ref p) σ H fun σ2 H2 => ts (loE D (KG B' (Pv (i + 1)))) σ2 H2))
    (hd : ∀ B' σ L, Same B B' → Pv ds.length B' σ L → N B' L (D.nx σ)) : N B L (fun H => IL K (Lp g ts D σ) (.ref a) H) := by
  have e : (ds.map f).length = ds.length := List.length_map _
  refine n_lpOB (ds.map f) Pv ho (fun i B' σ L sm h p => hq i B' σ L sm (by omega) p) h0 (fun i B' σ L p hi sm q hp => ?_) (fun B' σ L sm p => hd B' σ L sm (by rw [← e]; exact p))
  rw [List.getElem_map] at hp
  exact hs i B' σ L p (by omega) sm q hp
theorem n_lpEiB {n m : Nat} (ns : List Int) (Pv : Nat → Hp → St → Own → Prop) (hq : ∀ i B' σ L, Same B B' → i ≤ ns.length → Pv i B' σ L → Sq K B' L a (ns.map V.int)) (h0 : Pv 0 B σ L)
    (hs : ∀ (i : Nat) B' σ L (hi : i < ns.length), Same B B' → Pv i B' σ L → N B' L (fun H => ts (loE D (KG B' (Pv (i + 1)))) ((σ.set n (some (.int i))).set m (some (.int ns[i]))) H))
    (hd : ∀ B' σ L, Same B B' → Pv ns.length B' σ L → N B' L (D.nx σ)) : N B L (fun H => IE K (Lp (gTup K 2 (gCons (gName n) (gCons (gName m) gNil))) ts D σ) [.ref a] H) := by
  have e : (ns.map V.int).length = ns.length := List.length_map _
  refine n_lpEB (ns.map V.int) Pv (fun i B' σ L sm h p => hq i B' σ L sm (by omega) p) h0 (fun i B' σ L h sm p => ?_) (fun B' σ L sm p => hd B' σ L sm (by rw [← e]; exact p))
  have q := hs i B' σ L (by omega) sm p
  rw [List.getElem_map]
  exact q
theorem pow2_mono {a b : Nat} (h : a ≤ b) : (2 : Int) ^ a ≤ 2 ^ b := by
  have e1 : ((2 : Int) ^ a) = ((2 ^ a : Nat) : Int) := by push_cast; rfl
  have e2 : ((2 : Int) ^ b) = ((2 ^ b : Nat) : Int) := by push_cast; rfl
  rw [e1, e2]
  exact Int.ofNat_le.mpr (Nat.pow_le_pow_right (by decide) h)
theorem rep_flat (n : Nat) (x : Int) : (List.replicate n [x]).flatten = List.replicate n x := by
  induction n with
  | zero => rfl
  | succ n ih => rw [List.replicate_succ, List.flatten_cons, ih]; rfl
theorem n_tl {x : Addr × HO} (q : N B L k) : N B (x :: L) k := n_sub (List.sublist_cons_self _ _) q
theorem n_appendR {l : Addr} {m : Nat} (hi : L[m]? = some (l, .lst xs)) (hz : xs.length < sizeLine) (q : N B (L.set m (l, .lst (xs ++ [v]))) (Q .non)) : N B L (fun H => rAppend (.ref l) [v] H Q) := n_append hi hz q
end
end Sk
namespace Sk
open PySem PySem.Spec PyProof.Rows L2
/-! ### an exception held -/
def asE (D : Ends) (i : Nat) : Ends := { nx := fun σ' H' => D.nx (σ'.set i none) H', rt := D.rt, bk := fun σ' H' => D.bk (σ'.set i none) H', ct := fun σ' H' => D.ct (σ'.set i none) H' }
theorem asE_nx {D : Ends} {i : Nat} {σ : St} : (asE D i).nx σ = D.nx (σ.set i none) := rfl
theorem asE_rt {D : Ends} {i : Nat} : (asE D i).rt = D.rt := rfl
theorem asE_bk {D : Ends} {i : Nat} {σ : St} : (asE D i).bk σ = D.bk (σ.set i none) := rfl
theorem asE_ct {D : Ends} {i : Nat} {σ : St} : (asE D i).ct σ = D.ct (σ.set i none) := rfl
def tTryAs (K : PySem.W.Frag) (c : Value) (i : Nat) (tb : WX → TS) (ts : Addr → Value → Option Addr → TS) (Wout : WX) : TS := fun D σ H => tb (wAs K c i ts Wout D) D σ H
def tTryOn (K : PySem.W.Frag) (c : Value) (tb : WX → TS) (ts : Addr → Value → Option Addr → TS) (Wout : WX) : TS := fun D σ H => tb (wOnly K c ts Wout D) D σ H
/-- isinstance(e, c) or isinstance(e, (c, ..)), e held at a -/
def rIsX (K : PySem.W.Frag) (a : Addr) (cls : Value) (d : Option Addr) : List V → Hp → VK → Prop := fun xs H Q => ∃ (D : Addr) (c : V), cls = .ref D ∧ d = none ∧ ExcC K D ∧ xs = [.ref a, c] ∧
  ((∃ cv b, (∀ u, RelV c u → u = cv) ∧ PySem.W.kitOne K (.ref D) cv = some b ∧ Q (.bl b) H) ∨ ∃ tp cs us b, c = .ref tp ∧ H tp = some (.tup cs) ∧ Paired ClsV cs us ∧ PySem.W.kitAny K (.ref D) us = some b ∧ Q (.bl b) H)
theorem call_isX {X : Cx} {a : Addr} {oe : Obj} {pn : List (Addr × Obj)} {cls : Value} {d : Option Addr} (hz : Zc cls d oe) (hf : ∃ vs, oe.data = .fields vs) : CallR (X.suite a ((a, oe) :: pn)) (.builtin "isinstance") (rIsX X.K a cls d) := by
  intro pins s σ H xs us Q I r h
  obtain ⟨D, c, rfl, rfl, C, rfl, h⟩ := h
  cases r with
  | cons rx rr =>
    cases rr with
    | cons rt rr =>
      cases rr
      cases rx
      obtain ⟨hget, _⟩ := I.pin (a, oe) (List.mem_append.mpr (.inl List.mem_cons_self))
      obtain ⟨vs, hv⟩ := hf
      have J : PySem.W.InstAt s.heap a oe D none := by
        obtain ⟨oc, od, oda, osl⟩ := oe
        obtain ⟨h1, h2⟩ := hz
        dsimp only at h1 h2 hv
        subst h1 h2 hv
        exact ⟨hget, rfl, rfl, trivial⟩
      rcases h with ⟨cv, b, hcv, e, q⟩ | ⟨tp, cs, us, b, rfl, hT, k, e, q⟩
      · have ec := hcv _ rt
        subst ec
        exact PySem.W.kia_one (PySem.W.handS_kitx_exc C.hg C.hk C.hs C.hd C.ha C.hn C.ht C.hm) I.kIn J e (fun z => nomatch z) fun tk => ⟨.bl b, H, I.kept (t' := tk) fun _ _ z => z, rfl, q⟩
      · cases rt
        obtain ⟨_, its, rv, o, h1, h2, n, h3⟩ := (show ObjOk X.prog X.w H s.heap tp (.tup cs) from I.hok tp _ hT)
        have e3 := ClsV.all k rv
        subst e3
        obtain ⟨oc, od, dt, sl⟩ := o
        simp only at h2 h3
        subst h2 h3
        exact PySem.W.kia_tup (PySem.W.handS_kitx_exc C.hg C.hk C.hs C.hd C.ha C.hn C.ht C.hm) I.kIn J h1 e (fun z => nomatch z) fun tk => ⟨.bl b, H, I.tok tk, rfl, q⟩
section
variable {K : PySem.W.Frag} {B : Hp} {L : Own} {Q : VK} {σ : St} {D : Ends} {tz : TS} {tb : WX → TS} {ts : Addr → Value → Option Addr → TS} {W : WX} {c cls : Value} {d : Option Addr} {i : Nat} {a C tp : Addr} {b : Bool} {cs : List V} {us : List Value}
theorem n_tryAs (q : N B L (fun H => tb (wAs K c i ts W (onE D (tz D))) (onE D (tz D)) σ H)) : N B L (fun H => tSeq (tTryAs K c i tb ts W) tz D σ H) := q
theorem n_tryOn (q : N B L (fun H => tb (wOnly K c ts W (onE D (tz D))) (onE D (tz D)) σ H)) : N B L (fun H => tSeq (tTryOn K c tb ts W) tz D σ H) := q
theorem n_wAs (em : PySem.W.exmOne K cls c = some true) (q : ∀ a, N B L (fun H => ts a cls d (asE D i) (σ.set i (some (.ref a))) H)) : N B L (fun H => wAs K c i ts W D cls d σ H) := fun H s => ⟨true, em, fun _ a _ => q a H s, fun h => nomatch h⟩
theorem n_wOn (em : PySem.W.exmOne K cls c = some true) (q : ∀ a, N B L (fun H => ts a cls d D σ H)) : N B L (fun H => wOnly K c ts W D cls d σ H) := fun H s => ⟨true, em, fun _ a _ => q a H s, fun h => nomatch h⟩
theorem n_isX1 {D : Addr} (X : ExcC K D) (h : PySem.W.kitOne K (.ref D) (.ref C) = some b) (q : N B L (Q (.bl b))) : N B L (fun H => rIsX K a (.ref D) none [.ref a, .ref C] H Q) := fun H s => ⟨D, _, rfl, rfl, X, rfl, .inl ⟨_, b, fun _ r => r, h, q H s⟩⟩
theorem n_isX2 {D : Addr} {T : String} (X : ExcC K D) (h : PySem.W.kitOne K (.ref D) (.type T) = some b) (q : N B L (Q (.bl b))) : N B L (fun H => rIsX K a (.ref D) none [.ref a, .ty T] H Q) := fun H s => ⟨D, _, rfl, rfl, X, rfl, .inl ⟨_, b, fun _ r => r, h, q H s⟩⟩
theorem n_isXT {D : Addr} (X : ExcC K D) (ht : Is B L tp (.tup cs)) (hp : Paired ClsV cs us) (h : PySem.W.kitAny K (.ref D) us = some b) (q : N B L (Q (.bl b))) : N B L (fun H => rIsX K a (.ref D) none [.ref a, .ref tp] H Q) :=
  fun H s => ⟨D, _, rfl, rfl, X, rfl, .inr ⟨tp, cs, us, b, rfl, ht H s, hp, h, q H s⟩⟩
end
def uMax2 : List V → Hp → VK → Prop := fun xs H Q => ∃ i j, xs = [.int i, .int j] ∧ Q (.int (if j > i then j else i)) H
def uMin2 : List V → Hp → VK → Prop := fun xs H Q => ∃ i j, xs = [.int i, .int j] ∧ Q (.int (if j < i then j else i)) H
def uAbs : List V → Hp → VK → Prop := fun xs H Q => ∃ i, xs = [.int i] ∧ Q (.int (if i < 0 then -i else i)) H
def uInt : List V → Hp → VK → Prop := fun xs H Q => ((∃ i, xs = [.int i] ∧ Q (.int i) H) ∨ ∃ k, xs = [.bl k] ∧ Q (.int (if k then 1 else 0)) H) ∨ ∃ a n, xs = [.str a] ∧ PySem.intText? a = some n ∧ a.length ≤ 640 ∧ Q (.int n) H
theorem call_uInt {X : Cx} : CallR X (.type "int") uInt := call_int1.or call_int_str
section
variable {K : PySem.W.Frag} {B : Hp} {L : Own} {Q : VK} {i j : Int} {b : Bool}
theorem n_max2 (q : N B L (Q (.int (max i j)))) : N B L (fun H => uMax2 [.int i, .int j] H Q) := fun H s => ⟨i, j, rfl, by
  have e : (if j > i then j else i) = max i j := by omega
  rw [e]; exact q H s⟩
theorem n_min2 (q : N B L (Q (.int (min i j)))) : N B L (fun H => uMin2 [.int i, .int j] H Q) := fun H s => ⟨i, j, rfl, by
  have e : (if j < i then j else i) = min i j := by omega
  rw [e]; exact q H s⟩
theorem n_intI (q : N B L (Q (.int i))) : N B L (fun H => uInt [.int i] H Q) := fun H s => .inl (.inl ⟨i, rfl, q H s⟩)
theorem n_intB (q : N B L (Q (.int (if b then 1 else 0)))) : N B L (fun H => uInt [.bl b] H Q) := fun H s => .inl (.inr ⟨b, rfl, q H s⟩)
end
section
variable {K : PySem.W.Frag} {B : Hp} {L : Own} {Q : VK} {s1 s2 : Str} {v : V} {p : Addr} {xs : List V} {ds : List PyData}
theorem n_eqSt (h : s1 = s2) (q : N B L (Q (.bl true))) : N B L (fun H => uEq K (.str s1) (.str s2) H Q) := n_eqS (by rw [decide_eq_true h]; exact q)
theorem n_eqSf (h : ¬ s1 = s2) (q : N B L (Q (.bl false))) : N B L (fun H => uEq K (.str s1) (.str s2) H Q) := n_eqS (by rw [decide_eq_false h]; exact q)
theorem n_neSt (h : ¬ s1 = s2) (q : N B L (Q (.bl true))) : N B L (fun H => uNe K (.str s1) (.str s2) H Q) := n_neS (by rw [decide_eq_false h]; exact q)
theorem n_neSf (h : s1 = s2) (q : N B L (Q (.bl false))) : N B L (fun H => uNe K (.str s1) (.str s2) H Q) := n_neS (by rw [decide_eq_true h]; exact q)
def DaA (K : PySem.W.Frag) (B : Hp) (L : Own) (xs : List V) (ds : List PyData) : Prop := ∀ H, SI B L H → DpAll K H xs ds
theorem da_str : Da K B L (.str s1) (.str s1) := fun _ _ => .str s1
theorem da_bl {b : Bool} : Da K B L (.bl b) (.bool b) := fun _ _ => .bl b
theorem da_non : Da K B L .non .none := fun _ _ => .non
theorem da_tup (h : Tp K B L p xs) (a : DaA K B L xs ds) : Da K B L (.ref p) (.tuple ds) := fun H s => .tup (h H s) (a H s)
theorem da_lst (h : Sq K B L p xs) (a : DaA K B L xs ds) : Da K B L (.ref p) (.list ds) := fun H s => .lst (h H s) (a H s)
theorem daA_nil : DaA K B L [] [] := fun _ _ => .nil
theorem daA_cons {d : PyData} (h : Da K B L v d) (a : DaA K B L xs ds) : DaA K B L (v :: xs) (d :: ds) := fun H s => .cons (h H s) (a H s)
theorem getD_all {α : Type} {P : α → Prop} {l : List α} {i : Nat} {z : α} (h : ∀ x ∈ l, P x) (h0 : P z) : P (l.getD i z) := by
  rw [List.getD_eq_getElem?_getD]
  by_cases hi : i < l.length
  · rw [List.getElem?_eq_getElem hi]; exact h _ (List.getElem_mem hi)
  · rw [List.getElem?_eq_none (by omega)]; exact h0
end
theorem n_lenLi {K : PySem.W.Frag} {B : Hp} {L : Own} {Q : VK} {a : Addr} {ns : List Int} (h : Sq K B L a (ns.map V.int)) (q : N B L (Q (.int ns.length))) : N B L (fun H => uLen K [.ref a] H Q) := n_len h (by rw [List.length_map]; exact q)
theorem n_front {B : Hp} {L : Own} {k : Hp → Prop} {x : Addr × HO} (i : Nat) (hi : L[i]? = some x) (q : N B (x :: L.eraseIdx i) k) : N B L k := n_perm (perm_at hi) q
end Sk
namespace Sk
open PySem PySem.Spec PyProof.Rows L2
/-! ### lists side by side -/
def All2 {α β : Type} (R : α → β → Prop) (xs : List α) (ys : List β) : Prop := xs.length = ys.length ∧ ∀ (i : Nat) x y, xs[i]? = some x → ys[i]? = some y → R x y
section
variable {α β : Type} {R R' : α → β → Prop} {xs xs' : List α} {ys ys' : List β} {x : α} {y : β}
theorem All2.nil : All2 R [] [] := ⟨rfl, fun i x y h => by simp at h⟩
theorem All2.imp (f : ∀ x y, R x y → R' x y) (h : All2 R xs ys) : All2 R' xs ys := ⟨h.1, fun i x y a b => f _ _ (h.2 i x y a b)⟩
theorem All2.len (h : All2 R xs ys) : xs.length = ys.length := h.1
theorem All2.cons (hp : R x y) (h : All2 R xs ys) : All2 R (x :: xs) (y :: ys) := by
  refine ⟨by rw [List.length_cons, List.length_cons, h.1], fun i a b e f => ?_⟩
  cases i with
  | zero => cases e; cases f; exact hp
  | succ i => exact h.2 i a b e f
theorem All2.app (h : All2 R xs ys) (h' : All2 R xs' ys') : All2 R (xs ++ xs') (ys ++ ys') := by
  refine ⟨by rw [List.length_append, List.length_append, h.1, h'.1], fun i a b e f => ?_⟩
  rw [List.getElem?_append] at e f
  rw [h.1] at e
  split at e
  · rename_i hlt
    rw [if_pos hlt] at f
    exact h.2 i a b e f
  · rename_i hge
    rw [if_neg hge] at f
    exact h'.2 _ a b e f
theorem All2.snoc (h : All2 R xs ys) (hp : R x y) : All2 R (xs ++ [x]) (ys ++ [y]) := h.app (.cons hp .nil)
theorem All2.at (h : All2 R xs ys) {i : Nat} (hi : i < ys.length) : ∃ x, xs[i]? = some x ∧ R x ys[i] := by
  have hi' : i < xs.length := by rw [h.1]; exact hi
  exact ⟨xs[i], List.getElem?_eq_getElem hi', h.2 i _ _ (List.getElem?_eq_getElem hi') (List.getElem?_eq_getElem hi)⟩
theorem All2.drop (h : All2 R xs ys) (m : Nat) : All2 R (xs.drop m) (ys.drop m) := by
  refine ⟨by rw [List.length_drop, List.length_drop, h.1], fun i a b e f => ?_⟩
  rw [List.getElem?_drop] at e f
  exact h.2 _ a b e f
theorem All2.take (h : All2 R xs ys) (m : Nat) : All2 R (xs.take m) (ys.take m) := by
  refine ⟨by rw [List.length_take, List.length_take, h.1], fun i a b e f => ?_⟩
  rw [List.getElem?_take] at e f
  split at e
  · rename_i hlt
    rw [if_pos hlt] at f
    exact h.2 _ a b e f
  · cases e
theorem All2.map {γ : Type} {S : α → γ → Prop} (f : β → γ) (g : ∀ x y, R x y → S x (f y)) (h : All2 R xs ys) : All2 S xs (ys.map f) := by
  refine ⟨by rw [List.length_map, h.1], fun i a b e1 e2 => ?_⟩
  rw [List.getElem?_map] at e2
  cases e3 : ys[i]? with
  | none => rw [e3] at e2; cases e2
  | some y => rw [e3] at e2; cases e2; exact g _ _ (h.2 i a y e1 e3)
end
section
variable {B B' : Hp} {L L' : Own} {p a c : Addr} {o : HO} {K : PySem.W.Frag} {xs ys : List V} {v : V} {k : Hp → Prop} {Q : VK} {σ : St} {D : Ends} {ts : TS} {g : TG} {ns : List Int} {i j : Int} {n : Nat}
/-- a list of values of one kind, walked -/
theorem n_lpA {α : Type} {R : Hp → V → α → Prop} (ds : List α) (Pv : Nat → Hp → St → Own → Prop) (mono : ∀ B B' v d, Same B B' → R B v d → R B' v d) (ho : All2 (R B) xs ds) (hq : ∀ i B' σ L, Same B B' → i ≤ ds.length → Pv i B' σ L → Sq K B' L a xs) (h0 : Pv 0 B σ L)
    (hs : ∀ i B' σ L v (hi : i < ds.length), Same B B' → Pv i B' σ L → R B' v ds[i] → N B' L (fun H => g v σ H fun σ2 H2 => ts (loE D (KG B' (Pv (i + 1)))) σ2 H2))
    (hd : ∀ B' σ L, Same B B' → Pv ds.length B' σ L → N B' L (D.nx σ)) : N B L (fun H => IL K (Lp g ts D σ) (.ref a) H) := by
  have e := ho.len
  refine n_lpLB xs Pv (fun i B' σ L sm h p => hq i B' σ L sm (by omega) p) h0 (fun i B' σ L hi sm p => ?_) (fun B' σ L sm p => hd B' σ L sm (by rw [← e]; exact p))
  obtain ⟨q, e1, e2⟩ := ho.at (i := i) (by omega)
  rw [List.getElem?_eq_getElem hi] at e1
  rw [Option.some.inj e1]
  exact hs i B' σ L q (by omega) sm p (mono _ _ _ _ sm e2)
/-- an item from the end -/
theorem n_ixLiN (hs : Sq K B L a (ns.map V.int)) (h0 : 0 < j) (h1 : j ≤ ns.length) (q : N B L (Q (.int (ns.getD (ns.length - j.toNat) 0)))) : N B L (fun H => rIx K (.ref a) (.int (-j)) H Q) := by
  refine n_ixL hs ?_ q
  unfold atI ixN
  rw [if_neg (by omega), List.length_map, if_pos (by omega)]
  show (ns.map V.int)[(-j + ns.length).toNat]? = _
  rw [show (-j + (ns.length : Int)).toNat = ns.length - j.toNat by omega, List.getElem?_map, List.getD_eq_getElem?_getD, List.getElem?_eq_getElem (show ns.length - j.toNat < ns.length by omega)]
  rfl
end
/-! ### data that is compared -/
def rank : PyData → Nat
  | .list xs | .tuple xs => PyData.depthAll xs + 1
  | _ => 0
mutual
theorem eqv_self : ∀ d : PyData, d.canLay0 = true → PyData.eqv d d = true
  | .none, _ => by simp [PyData.eqv]
  | .bool b, _ => by simp [PyData.eqv]
  | .int i, _ => by simp [PyData.eqv]
  | .str x, _ => by simp [PyData.eqv]
  | .list xs, h => by
    simp only [PyData.canLay0] at h
    simp only [PyData.eqv]
    exact eqvAll_self xs h
  | .tuple xs, h => by
    simp only [PyData.canLay0] at h
    simp only [PyData.eqv]
    exact eqvAll_self xs h
  | .dict kvs, h => by simp [PyData.canLay0] at h
theorem eqvAll_self : ∀ ds : List PyData, PyData.canLayAll0 ds = true → PyData.eqvAll ds ds = true
  | [], _ => by simp [PyData.eqvAll]
  | d :: r, h => by
    simp only [PyData.canLayAll0, Bool.and_eq_true] at h
    simp only [PyData.eqvAll, eqv_self d h.1, eqvAll_self r h.2, Bool.and_self]
end
/-- may be compared: no dict, not deep -/
def Cmp (k : Nat) (d : PyData) : Prop := d.canLay0 = true ∧ d.depth ≤ k
theorem Cmp.shaped {k : Nat} {d : PyData} (h : Cmp k d) (hk : k ≤ 64) : SeqAt.shaped d = true := by
  show (d.canLay0 && decide (d.depth ≤ 64)) = true
  rw [h.1, decide_eq_true (Nat.le_trans h.2 hk)]; rfl
theorem Cmp.int {k : Nat} {i : Int} : Cmp k (.int i) := ⟨rfl, Nat.zero_le _⟩
theorem Cmp.bool {k : Nat} {b : Bool} : Cmp k (.bool b) := ⟨rfl, Nat.zero_le _⟩
theorem Cmp.all {k : Nat} : ∀ {ds : List PyData}, (∀ d ∈ ds, Cmp k d) → PyData.canLayAll0 ds = true ∧ PyData.depthAll ds ≤ k
  | [], _ => ⟨rfl, Nat.zero_le _⟩
  | d :: r, h => by
    obtain ⟨h1, h2⟩ := h d (List.mem_cons_self)
    obtain ⟨h3, h4⟩ := Cmp.all (ds := r) fun x hx => h x (List.mem_cons_of_mem _ hx)
    refine ⟨?_, ?_⟩
    · show (d.canLay0 && PyData.canLayAll0 r) = true
      rw [h1, h3]; rfl
    · show max d.depth (PyData.depthAll r) ≤ k
      omega
theorem Cmp.list {k : Nat} {ds : List PyData} (h : ∀ d ∈ ds, Cmp k d) : Cmp (k + 1) (.list ds) := by
  obtain ⟨h1, h2⟩ := Cmp.all h
  exact ⟨h1, Nat.succ_le_succ h2⟩
theorem Cmp.tuple {k : Nat} {ds : List PyData} (h : ∀ d ∈ ds, Cmp k d) : Cmp (k + 1) (.tuple ds) := by
  obtain ⟨h1, h2⟩ := Cmp.all h
  exact ⟨h1, Nat.succ_le_succ h2⟩
theorem Cmp.map {α : Type} {k : Nat} {xs : List α} {f : α → PyData} (h : ∀ x ∈ xs, Cmp k (f x)) : ∀ d ∈ xs.map f, Cmp k d := by
  intro d hd
  obtain ⟨x, hx, rfl⟩ := List.mem_map.mp hd
  exact h x hx
section
variable {K : PySem.W.Frag} {B : Hp} {L : Own} {Q : VK} {x y : V} {d : PyData} {k : Nat} {xs : List V} {ds : List PyData}
theorem n_eqSelf (h1 : Da K B L x d) (h2 : Da K B L y d) (c : Cmp k d) (hk : k ≤ 64) (q : N B L (Q (.bl true))) : N B L (fun H => uEq K x y H Q) := n_eqD h1 h2 (c.shaped hk) (c.shaped hk) (by rw [eqv_self d c.1]; exact q)
theorem n_neSelf (h1 : Da K B L x d) (h2 : Da K B L y d) (c : Cmp k d) (hk : k ≤ 64) (q : N B L (Q (.bl false))) : N B L (fun H => uNe K x y H Q) := n_neD h1 h2 (c.shaped hk) (c.shaped hk) (by rw [eqv_self d c.1]; exact q)
theorem daA_of : ∀ {xs : List V} {ds : List PyData}, All2 (Da K B L) xs ds → DaA K B L xs ds
  | [], [], _ => daA_nil
  | [], d :: r, h => by have := h.1; simp at this
  | x :: xs, [], h => by have := h.1; simp at this
  | x :: xs, d :: ds, h => daA_cons (h.2 0 x d rfl rfl) (daA_of ⟨Nat.succ.inj h.1, fun i a b e f => h.2 (i + 1) a b e f⟩)
end
section
variable {K : PySem.W.Frag} {B : Hp} {L : Own} {Q : VK} {a c : Addr} {ns : List Int} {xs : List V}
theorem n_eqNil (h1 : Sq K B L a (ns.map V.int)) (h2 : Is B L c (.lst [])) (q : N B L (Q (.bl (decide (ns = []))))) : N B L (fun H => uEq K (.ref a) (.ref c) H Q) := n_eqLi (ms := []) h1 (is_sq h2) q
theorem n_neNil (h1 : Sq K B L a (ns.map V.int)) (h2 : Is B L c (.lst [])) (q : N B L (Q (.bl (!decide (ns = []))))) : N B L (fun H => uNe K (.ref a) (.ref c) H Q) := n_neLi (ms := []) h1 (is_sq h2) q
end
section
variable {B : Hp} {L : Own} {Q : VK} {a : Addr} {i : Int}
theorem n_isN0 (q : N B L (Q (.bl true))) : N B L (fun H => uIsN .non .non H Q) := n_isN (by rw [decide_eq_true rfl]; exact q)
theorem n_isNr (q : N B L (Q (.bl false))) : N B L (fun H => uIsN (.ref a) .non H Q) := n_isN (by rw [decide_eq_false (fun h => nomatch h)]; exact q)
theorem n_isNi (q : N B L (Q (.bl false))) : N B L (fun H => uIsN (.int i) .non H Q) := n_isN (by rw [decide_eq_false (fun h => nomatch h)]; exact q)
theorem n_notN0 (q : N B L (Q (.bl false))) : N B L (fun H => uNotN .non .non H Q) := n_notN (by rw [decide_eq_true rfl]; exact q)
theorem n_notNr (q : N B L (Q (.bl true))) : N B L (fun H => uNotN (.ref a) .non H Q) := n_notN (by rw [decide_eq_false (fun h => nomatch h)]; exact q)
theorem n_notNi (q : N B L (Q (.bl true))) : N B L (fun H => uNotN (.int i) .non H Q) := n_notN (by rw [decide_eq_false (fun h => nomatch h)]; exact q)
end
theorem n_base {B B' : Hp} {L : Own} {k : Hp → Prop} (sm : Same B B') (h : N B L k) : N B' L k := fun H s => h H (s.mono sm)
theorem at_last {α : Type} (xs : List α) (x : α) : atI (xs ++ [x]) (-1) = some x := by
  unfold atI ixN
  rw [if_neg (by decide), List.length_append, if_pos (by show -((xs.length + 1 : Nat) : Int) ≤ -1; omega)]
  show (xs ++ [x])[(-1 + ((xs.length + 1 : Nat) : Int)).toNat]? = _
  rw [show (-1 + ((xs.length + 1 : Nat) : Int)).toNat = xs.length by omega, List.getElem?_append_right (Nat.le_refl _), Nat.sub_self]
  rfl
end Sk
namespace Sk
open PySem PySem.Spec PyProof.Rows L2
/-! ### a chain of three comparisons -/
def tChain3 (r r' r'' : R2) (ta tb tc td : TE) : TE := fun σ H Q => ta σ H fun x H1 => tb σ H1 fun y H2 => r x y H2 fun z H3 => ∃ k, z = .bl k ∧
  (if k = true then tc σ H3 fun w' H4 => r' y w' H4 fun z2 H5 => ∃ k2, z2 = .bl k2 ∧ (if k2 = true then td σ H5 fun v' H6 => r'' w' v' H6 Q else Q (.bl false) H5) else Q (.bl false) H3)
section
variable {X : Cx} {a b c d : Expr} {ta tb tc td : TE} {pos : Pos} {op op' op'' : CmpOp} {r r' r'' : R2}
theorem pe_chain3 (ho : OpR X (compareOp op) r) (ho' : OpR X (compareOp op') r') (ho'' : OpR X (compareOp op'') r'') (ha : PE X a ta) (hb : PE X b tb) (hc : PE X c tc) (hd : PE X d td)
    (hm : lastMarks [op, op', op''] [b, c, d] = false := by with_unfolding_all rfl) : PE X (.Compare a [op, op', op''] [b, c, d] pos) (tChain3 r r' r'' ta tb tc td) := by
  refine ⟨fun pins s σ H Q I h => ?_⟩
  refine Compare_chain (thn (ha.run pins s σ H _ I h) fun v s1 ⟨x, H1, I1, r1, q1⟩ => chain_link (thn (hb.run pins s1 σ H1 _ I1 q1) fun u s2 ⟨y, H2, I2, r2, q2⟩ =>
    thn (ho pins s2 σ H2 x y v u _ I2 r1 r2 q2) fun d1 s3 ⟨z, H3, I3, r3, k, e, q3⟩ => ?_)) hm
  subst e
  cases r3
  refine wpAny_truthy_bool ?_
  cases k with
  | false => exact ite_ff ⟨.bl false, H3, I3, rfl, q3⟩
  | true =>
    refine ite_tt (chain_link (thn (hc.run pins s3 σ H3 _ I3 q3) fun w' s4 ⟨z', H4, I4, r4, q4⟩ => thn (ho' pins s4 σ H4 y z' u w' _ I4 r2 r4 q4) fun d2 s5 ⟨z2, H5, I5, r5, k2, e2, q5⟩ => ?_))
    subst e2
    cases r5
    refine wpAny_truthy_bool ?_
    cases k2 with
    | false => exact ite_ff ⟨.bl false, H5, I5, rfl, q5⟩
    | true => exact ite_tt (chain_last (thn (hd.run pins s5 σ H5 _ I5 q5) fun v' s6 ⟨z3, H6, I6, r6, q6⟩ => ho'' pins s6 σ H6 z' z3 w' v' Q I6 r4 r6 q6))
theorem pt_chain3 (ho : OpR X (compareOp op) r) (ho' : OpR X (compareOp op') r') (ho'' : OpR X (compareOp op'') r'') (ha : PE X a ta) (hb : PE X b tb) (hc : PE X c tc) (hd : PE X d td)
    (hm : lastMarks [op, op', op''] [b, c, d] = false := by with_unfolding_all rfl) : PT X (.Compare a [op, op', op''] [b, c, d] pos) (tTest (tChain3 r r' r'' ta tb tc td)) := by
  refine ⟨fun pins s σ H Q I h => ?_⟩
  refine isTrue_chain (thn (ha.run pins s σ H _ I h) fun v s1 ⟨x, H1, I1, r1, q1⟩ => test_link (thn (hb.run pins s1 σ H1 _ I1 q1) fun u s2 ⟨y, H2, I2, r2, q2⟩ =>
    thn (ho pins s2 σ H2 x y v u _ I2 r1 r2 q2) fun d1 s3 ⟨z, H3, I3, r3, k, e, q3⟩ => ?_)) hm
  subst e
  cases r3
  refine wpAny_truthy_bool ?_
  cases k with
  | false =>
    obtain ⟨k', e', q'⟩ := q3
    cases e'
    exact ite_ff ⟨H3, I3, q'⟩
  | true =>
    refine ite_tt (test_link (thn (hc.run pins s3 σ H3 _ I3 q3) fun w' s4 ⟨z', H4, I4, r4, q4⟩ => thn (ho' pins s4 σ H4 y z' u w' _ I4 r2 r4 q4) fun d2 s5 ⟨z2, H5, I5, r5, k2, e2, q5⟩ => ?_))
    subst e2
    cases r5
    refine wpAny_truthy_bool ?_
    cases k2 with
    | false =>
      obtain ⟨k', e', q'⟩ := q5
      cases e'
      exact ite_ff ⟨H5, I5, q'⟩
    | true =>
      refine ite_tt (test_last (thn (hd.run pins s5 σ H5 _ I5 q5) fun v' s6 ⟨z3, H6, I6, r6, q6⟩ => thn (ho'' pins s6 σ H6 z' z3 w' v' _ I6 r4 r6 q6) fun d3 s7 ⟨z4, H7, I7, r7, k3, e3, q7⟩ => ?_))
      subst e3
      cases r7
      exact wpAny_truthy_bool ⟨H7, I7, q7⟩
end
theorem n_chain3 {B : Hp} {L : Own} {r r' r'' : R2} {ta tb tc td : TE} {σ : St} {Q : VK} (q : N B L (fun H => ta σ H fun x H1 => tb σ H1 fun y H2 => r x y H2 fun z H3 => ∃ k, z = .bl k ∧
  (if k = true then tc σ H3 fun w' H4 => r' y w' H4 fun z2 H5 => ∃ k2, z2 = .bl k2 ∧ (if k2 = true then td σ H5 fun v' H6 => r'' w' v' H6 Q else Q (.bl false) H5) else Q (.bl false) H3))) : N B L (fun H => tChain3 r r' r'' ta tb tc td σ H Q) := q
/-- zip of two lists, any target: each turn's pair is new -/
theorem n_lpZg {K : PySem.W.Frag} {B : Hp} {L : Own} {a c : Addr} {xs ys : List V} {g : TG} {ts : TS} {D : Ends} {σ : St} (Pv : Nat → St → Own → Prop) (hq : ∀ i σ L, i ≤ min xs.length ys.length → Pv i σ L → Sq K B L a xs ∧ Sq K B L c ys) (h0 : Pv 0 σ L)
    (hs : ∀ i σ L T (hi : i < xs.length) (hj : i < ys.length), Pv i σ L → N B ((T, .tup [xs[i], ys[i]]) :: L) (fun H => g (.ref T) σ H fun σ2 H2 => ts (loE D (KI B (Pv (i + 1)))) σ2 H2))
    (hd : ∀ σ L, Pv (min xs.length ys.length) σ L → N B L (D.nx σ)) : N B L (fun H => IZ K (Lp g ts D σ) [.ref a, .ref c] H) := by
  intro H s
  obtain ⟨q1, q2⟩ := hq 0 σ L (Nat.zero_le _) h0
  refine ⟨a, c, xs, ys, rfl, q1 H s, q2 H s, ?_⟩
  refine ⟨fun i m σ H => m = min xs.length ys.length - i ∧ i ≤ min xs.length ys.length ∧ ∃ L, SI B L H ∧ Pv i σ L, ⟨min xs.length ys.length, by omega, Nat.zero_le _, L, s, h0⟩, ?_⟩
  rintro i m' σ H ⟨rfl, hi, L, s, p⟩
  obtain ⟨q1, q2⟩ := hq i σ L hi p
  by_cases hlt : i < min xs.length ys.length
  · have hx1 : i < xs.length := by omega
    have hy1 : i < ys.length := by omega
    refine .inr ⟨⟨xs, ys, xs[i], ys[i], q1 H s, q2 H s, List.getElem?_eq_getElem hx1, List.getElem?_eq_getElem hy1⟩, KI B (Pv (i + 1)), fun σ' H' ⟨L', s', p'⟩ => ⟨min xs.length ys.length - (i + 1), by omega, rfl, hlt, L', s', p'⟩, fun v H' hx => ?_⟩
    obtain ⟨T, x, y, rfl, nT, rfl, hx, hy⟩ := hx
    have e1 := hx xs (q1 H s)
    have e2 := hy ys (q2 H s)
    rw [List.getElem?_eq_getElem hx1] at e1
    rw [List.getElem?_eq_getElem hy1] at e2
    cases e1; cases e2
    exact hs i σ L T hx1 hy1 p _ (s.new nT)
  · have e : i = min xs.length ys.length := by omega
    subst e
    refine .inl ⟨⟨xs, ys, q1 H s, q2 H s, ?_⟩, hd σ L p H s⟩
    omega
theorem getD_drop' (bs : List Int) (m i : Nat) : (bs.drop m).getD i 0 = bs.getD (m + i) 0 := by
  rw [List.getD_eq_getElem?_getD, List.getD_eq_getElem?_getD, List.getElem?_drop]
theorem n_gConsT {B : Hp} {L : Own} {g : TG} {gs : TGs} {v : V} {xs : List V} {σ : St} {k : St → Hp → Prop} (q : N B L (fun H => g v σ H fun σ2 H2 => gs xs σ2 H2 k)) : N B L (fun H => gCons g gs (v :: xs) σ H k) := fun H s => ⟨v, xs, rfl, q H s⟩
end Sk
/-! ### zip of a list and a reversed list -/
namespace Sk
open PySem PySem.Spec PyProof.Rows L2
section
variable {prog : Program} {w : World} {A : Around} {E : Value → Shared → Prop} {s : Shared}
theorem drawRev_item {it l : Addr} {i : Nat} {items : Array Value} {x : Value} {Q : Value → Shared → Prop} (hit : s.heap.IsRevIter it l (i : Int)) (hl : s.heap.IsList l items) (hx : items[i]? = some x)
    (hQ : ∀ h', h'.IsRevIter it l ((i : Int) - 1) → Heap.SameBut it s.heap h' → Q x { s with heap := h' }) : wpAny (model prog w) A (Builtin.SmallTypes.nextOf (.ref it)) Q E s := by
  obtain ⟨o, ho, hc, hd⟩ := id hit
  obtain ⟨ol, hol, _, nl, hdl⟩ := hl
  unfold Builtin.SmallTypes.nextOf
  refine wpAny_bind (wpAny_callSpecial?_slot (name := Str.ofString "__next__") hit.typeIs F.slot_lri_next (wpAny_call_entry F.slot_lri_next hit.typeIs F.entry_lri_next ?_ (F.args_lri_next_1 _)))
  unfold Builtin.«list_reverseiterator.__next__»
  refine wpAny_bind (wpAny_of_eq (a := (Value.ref it, [])) rfl ?_)
  try dsimp only
  refine wpAny_bind (wpAny_field ho hd (x := rawInt (i : Int)) rfl ?_)
  show wpAny _ _ (if (i : Int) < 0 then _ else _) _ _ s
  rw [if_neg (by omega)]
  show wpAny _ _ (field (.ref it) 0 >>= _) _ _ s
  refine wpAny_bind (wpAny_field ho hd (x := .ref l) rfl ?_)
  show wpAny _ _ (seqItems? (.ref l) >>= _) _ _ s
  refine wpAny_bind (wpAny_seqItems hol hdl ?_)
  simp only [Int.toNat_natCast, hx]
  refine wpAny_bind (wpAny_setField ho hd (by simp) ?_)
  first
  | refine wpAny_pure ⟨x, rfl, wpAny_pure (hQ _ ?_ (Heap.SameBut.update ..))⟩
  | refine wpAny_bind (wpAny_pure (wpAny_pure ⟨x, rfl, wpAny_pure (hQ _ ?_ (Heap.SameBut.update ..))⟩))
  exact ⟨_, Heap.get?_update_self _ ho (Obj.isFreed_of_fields (Obj.data_mapFields hd _)), (Obj.cls_mapFields ..).trans hc, by
    rw [Obj.data_mapFields hd]; simp⟩
theorem drawRev_end {it l : Addr} {Q : Value → Shared → Prop} (hh : A.handled = none) (hit : s.heap.IsRevIter it l (-1))
    (hE : ∀ h' e, Heap.ExtBut it s.heap h' → (∃ o, h'.get? e = some o ∧ o.cls = .type "StopIteration") → E (.ref e) { s with heap := h' }) : wpAny (model prog w) A (Builtin.SmallTypes.nextOf (.ref it)) Q E s := by
  obtain ⟨o, ho, hc, hd⟩ := id hit
  unfold Builtin.SmallTypes.nextOf
  refine wpAny_bind (wpAny_callSpecial?_slot (name := Str.ofString "__next__") hit.typeIs F.slot_lri_next (wpAny_call_entry F.slot_lri_next hit.typeIs F.entry_lri_next ?_ (F.args_lri_next_1 _)))
  unfold Builtin.«list_reverseiterator.__next__»
  refine wpAny_bind (wpAny_of_eq (a := (Value.ref it, [])) rfl ?_)
  try dsimp only
  refine wpAny_bind (wpAny_field ho hd (x := rawInt (-1)) rfl ?_)
  show wpAny _ _ (if (-1 : Int) < 0 then _ else _) _ _ s
  rw [if_pos (by decide)]
  refine wpAny_bind (wpAny_rule ?_)
  first
  | show wpAny _ _ (newExc (.type "StopIteration") [] >>= _) _ _ _
  | (refine wpAny_bind ?_; show wpAny _ _ (newExc (.type "StopIteration") [] >>= _) _ _ _)
  refine wpAny_bind ?_
  simp only [newExc, newTuple]
  refine wpAny_bind (wpAny_newObj_type ?_ (by size_fits))
  refine wpAny_bind (m := firstArgMember _ _) (wpAny_of_eq (a := Value.none) (by first | rfl | (simp only [firstArgMember]; rfl)) ?_)
  refine wpAny_newObj_type ?_ (by size_fits)
  simp only [raiseNew]
  refine wpAny_bind (wpAny_handled ?_)
  first | rw [show A.in1.handled = none from hh] | rw [hh]
  refine wpAny_bind (wpAny_pure (wpAny_throw ?_))
  exact hE _ _ (((Heap.ExtBut.refl _ _).push _).push _) ⟨_, Heap.get?_push_size _ rfl, rfl⟩
theorem draws_rev (hh : A.handled = none) (it l : Addr) (hne : l ≠ it) (items : Array Value) :
    Draws prog w A it [it, l] items.size (fun i v => items[items.size - 1 - i]? = some v) (fun i h => i ≤ items.size ∧ h.IsRevIter it l ((items.size : Int) - 1 - (i : Int)) ∧ h.IsList l items) where
  live := fun i h st => by obtain ⟨_, ⟨o, e, _⟩, _⟩ := st; exact ⟨o, e⟩
  frame := fun i h h' st k => ⟨st.1, st.2.1.at fun o e => k it (by simp) o e, st.2.2.at fun o e => k l (by simp) o e⟩
  item := fun i s Q E hi st hQ => by
    obtain ⟨h1, h2, h3⟩ := st
    have e1 : (items.size : Int) - 1 - (i : Int) = ((items.size - 1 - i : Nat) : Int) := by omega
    rw [e1] at h2
    have hx : items[items.size - 1 - i]? = some items[items.size - 1 - i] := Array.getElem?_eq_getElem (by omega)
    refine drawRev_item h2 h3 hx fun h' st' sb => hQ _ h' s.toks hx ⟨hi, ?_, h3.at fun o e => (sb.2 l hne).trans e⟩ sb
    have e2 : (items.size : Int) - 1 - ((i + 1 : Nat) : Int) = ((items.size - 1 - i : Nat) : Int) - 1 := by omega
    rw [e2]
    exact st'
  done := fun s Q E st hE => by
    obtain ⟨h1, h2, h3⟩ := st
    have e1 : (items.size : Int) - 1 - (items.size : Int) = -1 := by omega
    rw [e1] at h2
    exact drawRev_end hh h2 hE
abbrev zr1 (h : Heap) (l1 : Addr) : Heap := h.push { cls := .type "list_iterator", data := .fields #[.ref l1, .int 0 0] }
abbrev zr2 (h : Heap) (l1 it : Addr) : Heap := (zr1 h l1).push { cls := .type "tuple", data := .seq #[.ref h.objs.size, .ref it] }
abbrev zr3 (h : Heap) (l1 it : Addr) : Heap := (zr2 h l1 it).push { cls := .type "tuple", data := .seq #[.none, .none] }
abbrev zr4 (h : Heap) (l1 it : Addr) : Heap := (zr3 h l1 it).push { cls := .type "zip", data := .fields #[.none, .bool false, .bool false, .ref (zr1 h l1).objs.size, .ref (zr2 h l1 it).objs.size] }
theorem meets_zipR (l1 it l2 : Addr) (xs : Array Value) (i : Int) :
    Meets (Builtin.«zip.__new__» ⟨[.type "zip", .ref l1, .ref it], []⟩) (fun _ R s => s.heap.IsList l1 xs ∧ s.heap.IsRevIter it l2 i ∧
      R (.ok (.ret (.ref (zr3 s.heap l1 it).objs.size))) { s with heap := zr4 s.heap l1 it }) :=
  .of_wp fun prog w A R s h => by
    obtain ⟨hp, g, d, tk, os⟩ := s; obtain ⟨hl1, hl2, h⟩ := h
    have hsub := sub_zip
    have hL1 : Heap.IsList (Shared.heap ⟨hp, g, d, tk, os⟩) l1 xs := hl1
    have hL2 : Heap.IsRevIter (Shared.heap ⟨hp.push { cls := .type "list_iterator", data := .fields #[.ref l1, .int 0 0] }, g, d, tk, os⟩) it l2 i := hl2.at fun o e => Heap.get?_push_of_some _ e
    wp_walk using wpAny_pyIter_list hL1, wpAny_pyIter_revIter hL2
    exact ⟨_, rfl, h⟩
theorem call_zipR {l1 it l2 : Addr} {xs : Array Value} {i : Int} {Q : Value → Shared → Prop} (hl1 : s.heap.IsList l1 xs) (hl2 : s.heap.IsRevIter it l2 i)
    (h : ∀ h', IsZip h' (s.heap.objs.size + 3) (s.heap.objs.size + 1) (s.heap.objs.size + 2) .none → IsTupOf2 h' (s.heap.objs.size + 1) (.ref s.heap.objs.size) (.ref it) →
      IsTupOf2 h' (s.heap.objs.size + 2) .none .none → h'.IsListIter s.heap.objs.size l1 0 → (∀ c o, s.heap.get? c = some o → h'.get? c = some o) → Q (.ref (s.heap.objs.size + 3)) { s with heap := h' }) :
    wpAny (model prog w) A (call (.type "zip") [.ref l1, .ref it]) Q E s := by
  refine callType_new F.called_zip (by decide) (F.typeCall_zip_2 _ _) (F.newCall_zip_2 _ _) (fun obj => F.args_object_init_3 obj _ _) F.entry_zip_new (meets_zipR l1 it l2 xs i) ⟨hl1, hl2, ?_⟩
  have z1 : (zr1 s.heap l1).objs.size = s.heap.objs.size + 1 := Heap.size_push ..
  have z2 : (zr2 s.heap l1 it).objs.size = s.heap.objs.size + 2 := by rw [Heap.size_push, z1]
  have z3 : (zr3 s.heap l1 it).objs.size = s.heap.objs.size + 3 := by rw [Heap.size_push, z2]
  have g4 : (zr4 s.heap l1 it).get? (zr3 s.heap l1 it).objs.size = some _ := Heap.get?_push_size _ rfl
  have g3 : (zr4 s.heap l1 it).get? (zr2 s.heap l1 it).objs.size = some _ := Heap.get?_push_of_some _ (Heap.get?_push_size _ rfl)
  have g2 : (zr4 s.heap l1 it).get? (zr1 s.heap l1).objs.size = some _ := Heap.get?_push_of_some _ (Heap.get?_push_of_some _ (Heap.get?_push_size _ rfl))
  have g1 : (zr4 s.heap l1 it).get? s.heap.objs.size = some _ := Heap.get?_push_of_some _ (Heap.get?_push_of_some _ (Heap.get?_push_of_some _ (Heap.get?_push_size _ rfl)))
  show _ ∧ _
  rw [z1, z2, z3] at g4
  rw [z2] at g3
  rw [z1] at g2
  rw [z3]
  exact ⟨⟨_, g4, rfl⟩, h _ g4 g2 g3 ⟨_, g1, rfl, rfl⟩ fun c o x => Heap.get?_push_of_some _ (Heap.get?_push_of_some _ (Heap.get?_push_of_some _ (Heap.get?_push_of_some _ x)))⟩
end
/-- a list at a and, from its end on, the list at b (of n items) -/
def Itzr (K : PySem.W.Frag) (a b : Addr) (n : Nat) : It :=
  ⟨fun i H => i < n ∧ ∃ (xs ys : List V) (x y : V), SqL K H a xs ∧ SqL K H b ys ∧ xs[i]? = some x ∧ ys.length = n ∧ ys[n - 1 - i]? = some y,
    fun i H v H' => ∃ T x y, v = .ref T ∧ H T = none ∧ H' = upd H T (.tup [x, y]) ∧ (∀ xs, SqL K H a xs → xs[i]? = some x) ∧ ∀ ys, SqL K H b ys → ys[n - 1 - i]? = some y,
    fun i H => ∃ xs ys : List V, SqL K H a xs ∧ SqL K H b ys ∧ ys.length = n ∧ i ≤ xs.length ∧ i ≤ n ∧ (xs.length = i ∨ n = i)⟩
theorem turn_zipR {P : Program} {w : World} {K : PySem.W.Frag} {elts : List Expr} {kk : Nat} {tpos : Pos} {a b z TI TO i1 i2 : Addr} (n : Nat) (S : ZipSep2 z TI TO i1 i2 [i1, a] [i2, b]) (hai : a ≠ i1) (hbi : b ≠ i2) :
    Turn P w K (.Tuple elts kk tpos) (Itzr K a b n) [z, TI, TO, i1, i2] z (fun i h => IsZip h z TI TO .none ∧ IsTupOf2 h TI (.ref i1) (.ref i2) ∧ (∃ x y, IsTupOf2 h TO x y) ∧ h.IsListIter i1 a i ∧ i ≤ n ∧ h.IsRevIter i2 b ((n : Int) - 1 - (i : Int))) where
  mem := by simp
  obj := fun i h st c hc => by
    obtain ⟨hz, hTI, ⟨x, y, hTO⟩, ⟨o1, e1, _, d1⟩, _, ⟨o2, e2, _, d2⟩⟩ := st
    have e' : c = z ∨ c = TI ∨ c = TO ∨ c = i1 ∨ c = i2 := by simpa using hc
    rcases e' with q | q | q | q | q
    · rw [q]; exact ⟨_, hz, fun v q => nomatch q⟩
    · rw [q]; exact ⟨_, hTI, fun v q => nomatch q⟩
    · rw [q]; exact ⟨_, hTO, fun v q => nomatch q⟩
    · rw [q]; exact ⟨o1, e1, fun v q => by rw [d1] at q; cases q⟩
    · rw [q]; exact ⟨o2, e2, fun v q => by rw [d2] at q; cases q⟩
  keep := fun i h h' st k => by
    obtain ⟨hz, hTI, ⟨x, y, hTO⟩, h1, hi, h2⟩ := st
    exact ⟨k z (by simp) _ hz, k TI (by simp) _ hTI, ⟨x, y, k TO (by simp) _ hTO⟩, h1.at fun o q => k i1 (by simp) o q, hi, h2.at fun o q => k i2 (by simp) o q⟩
  item := by
    intro X hP hw hK hc i pins s σ H E I hf st hg
    subst hP hw hK
    obtain ⟨hz, hTI, ⟨x0, y0, hTO⟩, h1, hin, h2⟩ := st
    obtain ⟨hlt, xs, ys, x, y, hqx, hqy, hx, hyn, hy⟩ := hg
    obtain ⟨its, rv, p, _⟩ := I.list hqx
    obtain ⟨its2, rv2, p2, _⟩ := I.list hqy
    obtain ⟨u, hu, ru⟩ := rv.get hx
    obtain ⟨u2, hu2, ru2⟩ := rv2.get hy
    have l1 := rv.length
    have l2 := rv2.length
    have hzl : z < s.heap.objs.size := Heap.lt_size hz
    have hsz2 : its2.toArray.size = n := by simp only [List.size_toArray]; omega
    have hxl : i < its.toArray.size := by
      obtain ⟨hh, _⟩ := List.getElem?_eq_some_iff.mp hu
      simpa using hh
    have hcalm : X.A.in1.handled = none := I.ok.hd hc
    refine wpAny_pyNext_zipD2_item S (Draws.list hcalm i1 a hai its.toArray) (draws_rev hcalm i2 b hbi its2.toArray) hz hTI hTO (i := i) ⟨h1, p.isList⟩ ⟨by omega, by rw [hsz2]; exact h2, p2.isList⟩ hxl (by omega) fun v1 v2 h' tk y1 y2 z' TO' d1 d2 hT hsz hk => ?_
    have ev1 : v1 = u := by
      have : its.toArray[i]? = some u := by simpa using hu
      rw [this] at y1
      exact (Option.some.inj y1).symm
    have ev2 : v2 = u2 := by
      have : its2.toArray[its2.toArray.size - 1 - i]? = some u2 := by rw [hsz2]; simpa using hu2
      rw [this] at y2
      exact (Option.some.inj y2).symm
    subst ev1 ev2
    refine ⟨_, rfl, wpAny_letOwnedTupleGo_zip (s := { s with heap := h', toks := tk }) z' fun h'' z'' sb => ?_⟩
    have hT2 : h''.get? s.heap.objs.size = some { cls := .type "tuple", data := .seq #[v1, v2] } := (sb.2 _ (Nat.ne_of_gt hzl)).trans hT
    have new : ObjOk X.prog X.w (upd H s.heap.objs.size (.tup [x, y])) h'' s.heap.objs.size (.tup [x, y]) :=
      ⟨by show 2 ≤ sizeLine; decide, [v1, v2], .cons ru (.cons ru2 .nil), ⟨_, hT2, rfl, _, rfl⟩⟩
    have I1 : Inv X pins σ (upd H s.heap.objs.size (.tup [x, y])) { s with heap := h'', toks := tk } :=
      I.turnedNew (t' := tk) (ch := [z, TI, TO, i1, i2]) (fun c o hb q => (sb.2 c (fun q' => hb (by simp [q']))).trans (hk c o (fun q' => hb (by simp [q'])) (fun q' => hb (by simp [q'])) (fun q' => hb (by simp [q'])) (fun q' => hb (by simp [q'])) q)) hf (Nat.le_refl _) new
    obtain ⟨d1, _⟩ := d1
    obtain ⟨d3, d2, _⟩ := d2
    rw [hsz2] at d2 d3
    refine ⟨.ref s.heap.objs.size, _, I1, rfl, ⟨_, x, y, rfl, I.hok.fresh (Nat.le_refl _), rfl, fun l hl => by rw [I.list_inj hl hqx]; exact hx, fun l hl => by rw [I.list_inj hl hqy]; exact hy⟩, ⟨z'', ?_, ⟨v1, v2, ?_⟩, ?_, d3, ?_⟩, fun c hcm => ?_⟩
    · exact (sb.2 _ S.TIz).trans (hk _ _ S.TIz S.TITO S.TIi1 S.TIi2 hTI)
    · exact (sb.2 _ S.TOz).trans TO'
    · exact d1.at fun o q => (sb.2 _ S.zi1.symm).trans q
    · exact d2.at fun o q => (sb.2 _ S.zi2.symm).trans q
    · have hlt : c < s.heap.objs.size := by
        have e' : c = z ∨ c = TI ∨ c = TO ∨ c = i1 ∨ c = i2 := by simpa using hcm
        rcases e' with q | q | q | q | q
        · rw [q]; exact hzl
        · rw [q]; exact Heap.lt_size hTI
        · rw [q]; exact Heap.lt_size hTO
        · rw [q]; obtain ⟨_, e1, _⟩ := h1; exact Heap.lt_size e1
        · rw [q]; obtain ⟨_, e2, _⟩ := h2; exact Heap.lt_size e2
      rw [upd_ne (Nat.ne_of_lt hlt)]
      exact (hf c hcm).1
  done := by
    intro X hP hw hK hc i pins s σ H E I hf st hg
    subst hP hw hK
    obtain ⟨hz, hTI, ⟨x0, y0, hTO⟩, h1, hin, h2⟩ := st
    obtain ⟨xs, ys, hqx, hqy, hyn, hxl, hyl, hend⟩ := hg
    obtain ⟨its, rv, p, _⟩ := I.list hqx
    obtain ⟨its2, rv2, p2, _⟩ := I.list hqy
    have l1 := rv.length
    have l2 := rv2.length
    have hsz1 : its.toArray.size = xs.length := by simp only [List.size_toArray]; omega
    have hsz2 : its2.toArray.size = n := by simp only [List.size_toArray]; omega
    have hcalm : X.A.in1.handled = none := I.ok.hd hc
    exact wpAny_pyNext_zipD2_end S (Draws.list hcalm i1 a hai its.toArray) (draws_rev hcalm i2 b hbi its2.toArray) hz hTI hTO (i := i) ⟨h1, p.isList⟩ ⟨by omega, by rw [hsz2]; exact h2, p2.isList⟩ (by omega) (by omega) (by omega) fun h' tk hk => ⟨rfl, I.turnedL (t' := tk) (ch := [z, TI, TO, i1, i2]) (fun c o hb q =>
      hk c o (fun q' => hb (by simp [q'])) (fun q' => hb (by simp [q'])) (fun q' => hb (by simp [q'])) (fun q' => hb (by simp [q'])) q) hf⟩
  self := fun A i s Q E st h => wpAny_pyIter_zip st.1 h
def iZipR (K : PySem.W.Frag) (t1 t2 : TE) : TI := fun σ H R => t1 σ H fun x H1 => t2 σ H1 fun y H2 => ∃ a b xs ys, x = .ref a ∧ y = .ref b ∧ SqL K H2 a xs ∧ SqL K H2 b ys ∧ R (Itzr K a b ys.length) H2
theorem zsep (M a b : Nat) (ha : a < M) (hb : b < M) : ZipSep2 (M + 1 + 3) (M + 1 + 1) (M + 1 + 2) (M + 1) M [M + 1, a] [M, b] := by
  constructor <;> first
    | (refine PySem.W.neN ?_; omega)
    | (intro hm; rcases List.mem_cons.mp hm with hm | hm <;> first | (exact absurd hm (PySem.W.neN (by omega))) | (rcases List.mem_cons.mp hm with hm | hm <;> first | (exact absurd hm (PySem.W.neN (by omega))) | exact absurd hm List.not_mem_nil))
    | simp
theorem pi_zipR {X : Cx} {e e2 : Expr} {t1 t2 : TE} {p pr pos posr tpos : Pos} {elts : List Expr} {kk : Nat} (hg : Gl X "zip") (hm : X.mg "zip" = none) (hgr : Gl X "reversed") (hmr : X.mg "reversed" = none) (h1 : PE X e t1) (h2 : PE X e2 t2)
    (hs : starEach [e, .Call (.Name "reversed" pr) [e2] [] posr] X.env = (false, eval e X.env) :: starEach [.Call (.Name "reversed" pr) [e2] [] posr] X.env := by rfl)
    (hs2 : starEach [.Call (.Name "reversed" pr) [e2] [] posr] X.env = [(false, eval (.Call (.Name "reversed" pr) [e2] [] posr) X.env)] := by rfl) (hs3 : starEach [e2] X.env = [(false, eval e2 X.env)] := by rfl)
    (hpl : (backTo pos (starEach [.Call (.Name "reversed" pr) [e2] [] posr] X.env)).any (·.1) = false := by rfl) :
    PI X (.Tuple elts kk tpos) (.Call (.Name "zip" p) [e, .Call (.Name "reversed" pr) [e2] [] posr] [] pos) (iZipR X.K t1 t2) := by
  refine ⟨fun pins s σ H R I h => ?_⟩
  refine Call_ (ld_blt I hg hm PyProof.Rows.boot_zip (PyProof.Rows.callWith_type1 ?_ hs hpl))
  rw [hs]
  show wpAny _ _ (spliced ((false, eval e X.env) :: backTo pos (starEach [.Call (.Name "reversed" pr) [e2] [] posr] X.env))) _ _ s
  refine Calls.spliced_cons (thn (h1.run pins s σ H _ I h) fun u1 s1 ⟨x, H1, I1, r1, q1⟩ => ?_)
  rw [hs2]
  show wpAny _ _ (spliced [(false, eval (.Call (.Name "reversed" pr) [e2] [] posr) X.env)]) _ _ s1
  refine Calls.spliced_cons ?_
  refine Call_ (ld_blt I1 hgr hmr PyProof.Rows.boot_reversed (PyProof.Rows.callWith_type1 (thn ((pa_cons h2 pa_nil hs3).run posr pins s1 σ H1 (fun vs H2 => match vs with
    | [y] => ∃ a b xs ys, x = .ref a ∧ y = .ref b ∧ SqL X.K H2 a xs ∧ SqL X.K H2 b ys ∧ R (Itzr X.K a b ys.length) H2
    | _ => False) I1 q1) fun us s2 ⟨vs, H2, I2, r2, q2⟩ => ?_) hs3 rfl))
  cases r2 with
  | nil => exact q2.elim
  | cons r rr =>
    cases rr with
    | cons r' rr' => exact q2.elim
    | nil =>
    obtain ⟨a, b, xs, ys, ex, ey, hqx, hqy, q⟩ := q2
    subst ex
    subst ey
    cases r
    cases r1
    obtain ⟨its, rv, p1, _⟩ := I2.list hqx
    obtain ⟨its2, rv2, p2, _⟩ := I2.list hqy
    have l2 := rv2.length
    have la : a < s2.heap.objs.size := p1.lt
    have lb : b < s2.heap.objs.size := p2.lt
    refine call_reversed_list p2.isList (Calls.spliced_nil ?_)
    have kp : ∀ c o, s2.heap.get? c = some o → (s2.heap.push (revObj b ((its2.toArray.size : Int) - 1))).get? c = some o := fun c o e => Heap.get?_push_of_some _ e
    have hrev : (s2.heap.push (revObj b ((its2.toArray.size : Int) - 1))).IsRevIter s2.heap.objs.size b ((its2.toArray.size : Int) - 1) := ⟨_, Heap.get?_push_size _ rfl, rfl, rfl⟩
    have hM : (s2.heap.push (revObj b ((its2.toArray.size : Int) - 1))).objs.size = s2.heap.objs.size + 1 := Heap.size_push ..
    refine call_zipR (s := { s2 with heap := s2.heap.push (revObj b ((its2.toArray.size : Int) - 1)) }) (p1.isList.at fun o e => kp a o e) hrev fun h' hz hTI hTO hi1 hk => wpAny_pyIter_zip hz ?_
    have hk2 : ∀ c o, s2.heap.get? c = some o → h'.get? c = some o := fun c o e => hk c o (kp c o e)
    have I3 : Inv X pins σ H2 { s2 with heap := h' } := I2.kept (t' := s2.toks) hk2
    simp only [hM] at hz hTI hTO hi1
    have hrev' := hrev.at fun o e => hk _ o e
    have hn : (its2.toArray.size : Int) - 1 = (ys.length : Int) - 1 - ((0 : Nat) : Int) := by simp only [List.size_toArray]; omega
    rw [hn] at hrev'
    have S := zsep s2.heap.objs.size a b la lb
    refine ⟨s2.heap.objs.size + 1 + 3, [s2.heap.objs.size + 1 + 3, s2.heap.objs.size + 1 + 1, s2.heap.objs.size + 1 + 2, s2.heap.objs.size + 1, s2.heap.objs.size], _, _, H2, congrArg (fun n : Nat => Value.ref (n + 3)) hM, I3, turn_zipR ys.length S (Nat.ne_of_lt (Nat.lt_succ_of_lt la)) (Nat.ne_of_lt lb), ⟨hz, hTI, ⟨_, _, hTO⟩, hi1, Nat.zero_le _, hrev'⟩, fun c hcm => ?_, q⟩
    have e' : c = s2.heap.objs.size + 1 + 3 ∨ c = s2.heap.objs.size + 1 + 1 ∨ c = s2.heap.objs.size + 1 + 2 ∨ c = s2.heap.objs.size + 1 ∨ c = s2.heap.objs.size := by simpa using hcm
    have hle : s2.heap.objs.size ≤ c := by
      rcases e' with z | z | z | z | z <;> rw [z]
      · exact Nat.le_add_right _ 4
      · exact Nat.le_add_right _ 2
      · exact Nat.le_add_right _ 3
      · exact Nat.le_add_right _ 1
      · exact Nat.le_refl _
    exact I2.fpOk hle (I2.hok.fresh hle)
def IZR (K : PySem.W.Frag) (R : It → Hp → Prop) (x y : V) (H2 : Hp) : Prop := ∃ a b xs ys, x = .ref a ∧ y = .ref b ∧ SqL K H2 a xs ∧ SqL K H2 b ys ∧ R (Itzr K a b ys.length) H2
theorem n_iZR {K : PySem.W.Frag} {B : Hp} {L : Own} {t1 t2 : TE} {R : It → Hp → Prop} {σ : St} (q : N B L (fun H => t1 σ H fun x H1 => t2 σ H1 fun y H2 => IZR K R x y H2)) : N B L (fun H => iZipR K t1 t2 σ H R) := q
/-- zip of a list and a reversed list: each turn's pair is new -/
theorem n_lpZr {K : PySem.W.Frag} {B : Hp} {L : Own} {a c : Addr} {xs ys : List V} {g : TG} {ts : TS} {D : Ends} {σ : St} (Pv : Nat → St → Own → Prop) (hq : ∀ i σ L, i ≤ min xs.length ys.length → Pv i σ L → Sq K B L a xs ∧ Sq K B L c ys) (h0 : Pv 0 σ L)
    (hs : ∀ i σ L T (hi : i < xs.length) (hj : i < ys.length), Pv i σ L → N B ((T, .tup [xs[i], ys[ys.length - 1 - i]]) :: L) (fun H => g (.ref T) σ H fun σ2 H2 => ts (loE D (KI B (Pv (i + 1)))) σ2 H2))
    (hd : ∀ σ L, Pv (min xs.length ys.length) σ L → N B L (D.nx σ)) : N B L (fun H => IZR K (Lp g ts D σ) (.ref a) (.ref c) H) := by
  intro H s
  obtain ⟨q1, q2⟩ := hq 0 σ L (Nat.zero_le _) h0
  refine ⟨a, c, xs, ys, rfl, rfl, q1 H s, q2 H s, ?_⟩
  refine ⟨fun i m σ H => m = min xs.length ys.length - i ∧ i ≤ min xs.length ys.length ∧ ∃ L, SI B L H ∧ Pv i σ L, ⟨min xs.length ys.length, by omega, Nat.zero_le _, L, s, h0⟩, ?_⟩
  rintro i m' σ H ⟨rfl, hi, L, s, p⟩
  obtain ⟨q1, q2⟩ := hq i σ L hi p
  by_cases hlt : i < min xs.length ys.length
  · have hx1 : i < xs.length := by omega
    have hy1 : i < ys.length := by omega
    have hy2 : ys.length - 1 - i < ys.length := by omega
    refine .inr ⟨⟨hy1, xs, ys, xs[i], ys[ys.length - 1 - i], q1 H s, q2 H s, List.getElem?_eq_getElem hx1, rfl, List.getElem?_eq_getElem hy2⟩, KI B (Pv (i + 1)), fun σ' H' ⟨L', s', p'⟩ => ⟨min xs.length ys.length - (i + 1), by omega, rfl, hlt, L', s', p'⟩, fun v H' hx => ?_⟩
    obtain ⟨T, x, y, rfl, nT, rfl, hx, hy⟩ := hx
    have e1 := hx xs (q1 H s)
    have e2 := hy ys (q2 H s)
    rw [List.getElem?_eq_getElem hx1] at e1
    rw [List.getElem?_eq_getElem hy2] at e2
    cases e1; cases e2
    exact hs i σ L T hx1 hy1 p _ (s.new nT)
  · have e : i = min xs.length ys.length := by omega
    subst e
    refine .inl ⟨⟨xs, ys, q1 H s, q2 H s, rfl, ?_, ?_, ?_⟩, hd σ L p H s⟩ <;> omega
end Sk
namespace Sk
open PySem PySem.Spec PyProof.Rows L2
/-! ### lists of lists -/
section
variable {B B' : Hp} {L L' G : Own} {p a c l : Addr} {o : HO} {K : PySem.W.Frag} {xs ys : List V} {v : V} {k : Hp → Prop} {Q : VK} {σ : St} {D : Ends} {ts : TS} {g : TG} {ns : List Int} {i j : Int} {n : Nat}
theorem is_mem (h : (a, o) ∈ L) : Is B L a o := fun _ s => (s.own _ h).2
theorem sq_mem (h : (a, .lst xs) ∈ L) : Sq K B L a xs := is_sq (is_mem h)
/-- new lists of ints -/
def pool (ps : List Addr) (bs : List (List Int)) : Own := List.zipWith (fun p b => (p, HO.lst (b.map V.int))) ps bs
theorem pool_len (ps : List Addr) (bs : List (List Int)) : (pool ps bs).length = min ps.length bs.length := List.length_zipWith
theorem pool_at {ps : List Addr} {bs : List (List Int)} {i : Nat} {b : List Int} (h1 : ps[i]? = some p) (h2 : bs[i]? = some b) : (pool ps bs)[i]? = some (p, .lst (b.map V.int)) := by
  unfold pool
  rw [List.getElem?_zipWith, h1, h2]
theorem pool_snoc {ps : List Addr} {bs : List (List Int)} (p : Addr) (b : List Int) (h : ps.length = bs.length) : pool (ps ++ [p]) (bs ++ [b]) = pool ps bs ++ [(p, .lst (b.map V.int))] := by
  unfold pool
  rw [List.zipWith_append h]; rfl
theorem pool_put (p : Addr) (b : List Int) : ∀ (ps : List Addr) (bs : List (List Int)) (i : Nat), ps[i]? = some p → (pool ps bs).set i (p, .lst (b.map V.int)) = pool ps (bs.set i b)
  | [], bs, i, h => by simp at h
  | q :: ps, [], i, h => by simp [pool]
  | q :: ps, b' :: bs, 0, h => by
    have e : q = p := Option.some.inj h
    subst e
    rfl
  | q :: ps, b' :: bs, i + 1, h => by
    have := pool_put p b ps bs i h
    unfold pool at this ⊢
    rw [List.zipWith_cons_cons, List.set_cons_succ, this, List.set_cons_succ, List.zipWith_cons_cons]
theorem flat_step {bs : List (List Int)} {i : Nat} (h : i < bs.length) : (bs.take (i + 1)).flatten = (bs.take i).flatten ++ bs[i] := by
  rw [take_step h, List.flatten_append, List.flatten_cons, List.flatten_nil, List.append_nil]
theorem flat_le (bs : List (List Int)) (i : Nat) : (bs.take i).flatten.length ≤ bs.flatten.length := by
  have h1 : bs.flatten = (bs.take i).flatten ++ (bs.drop i).flatten := by rw [← List.flatten_append, List.take_append_drop]
  rw [h1, List.length_append]; omega
/-- a value that is a list of ints -/
def LiAt (B : Hp) (L : Own) (v : V) (b : List Int) : Prop := ∃ p, v = .ref p ∧ Is B L p (.lst (b.map V.int))
theorem LiAt.sub {b : List Int} (h : LiAt B L v b) (s : L.Sublist L') : LiAt B L' v b := by
  obtain ⟨p, e, h⟩ := h
  exact ⟨p, e, h.sub s⟩
theorem LiAt.mono {b : List Int} (h : LiAt B L v b) (s : Same B B') : LiAt B' L v b := by
  obtain ⟨p, e, h⟩ := h
  exact ⟨p, e, h.mono s⟩
theorem LiAt.da {b : List Int} (h : LiAt B L v b) : Da K B L v (.list (b.map PyData.int)) := by
  obtain ⟨p, rfl, h⟩ := h
  exact da_ints (is_sq h)
abbrev Lis (B : Hp) (L : Own) (vs : List V) (bs : List (List Int)) : Prop := All2 (LiAt B L) vs bs
theorem Lis.sub {bs : List (List Int)} (h : Lis B L xs bs) (s : L.Sublist L') : Lis B L' xs bs := h.imp fun _ _ x => x.sub s
theorem Lis.mono {bs : List (List Int)} (h : Lis B L xs bs) (s : Same B B') : Lis B' L xs bs := h.imp fun _ _ x => x.mono s
theorem lis_pool {ps : List Addr} {bs : List (List Int)} (e : ps.length = bs.length) : Lis B (L' ++ (pool ps bs ++ L)) (ps.map V.ref) bs := by
  refine ⟨by rw [List.length_map, e], fun i x b h1 h2 => ?_⟩
  rw [List.getElem?_map] at h1
  cases h3 : ps[i]? with
  | none => rw [h3] at h1; cases h1
  | some p =>
    rw [h3] at h1
    cases h1
    exact ⟨p, rfl, is_mem (List.mem_append_right _ (List.mem_append_left _ (List.mem_of_getElem? (pool_at h3 h2))))⟩
theorem lis_pool0 {ps : List Addr} {bs : List (List Int)} (e : ps.length = bs.length) : Lis B (pool ps bs ++ L) (ps.map V.ref) bs := lis_pool (L' := []) e
theorem pool_mem {ps : List Addr} {bs : List (List Int)} {b : List Int} (i : Nat) (S : Own) (h1 : ps[i]? = some p) (h2 : bs[i]? = some b) : Is B (S ++ (pool ps bs ++ G)) p (.lst (b.map V.int)) :=
  is_mem (List.mem_append_right _ (List.mem_append_left _ (List.mem_of_getElem? (pool_at h1 h2))))
/-- new lists that are changed no more -/
theorem n_freezeAll : ∀ (ps : List Addr) (bs : List (List Int)) {B : Hp} (e : ps.length = bs.length) (_ : ∀ B', Same B B' → Lis B' [] (ps.map V.ref) bs → N B' L k), N B (pool ps bs ++ L) k
  | [], [], B, e, q => q B (Same.refl _) .nil
  | [], b :: bs, B, e, q => by simp at e
  | p :: ps, [], B, e, q => by simp at e
  | p :: ps, b :: bs, B, e, q => by
    refine n_freeze 0 rfl fun B1 sm1 h1 => ?_
    refine n_freezeAll ps bs (Nat.succ.inj e) fun B2 sm2 h2 => q B2 (sm1.trans sm2) (.cons ⟨p, rfl, is_old (sm2 _ _ h1)⟩ h2)
def dLi (b : List Int) : PyData := .list (b.map PyData.int)
def dLis (bs : List (List Int)) : PyData := .list (bs.map dLi)
theorem da_lis {bs : List (List Int)} (h : Sq K B L a xs) (hv : Lis B L xs bs) : Da K B L (.ref a) (dLis bs) := da_lst h (daA_of (hv.map dLi fun _ _ x => x.da))
theorem cmp_li (b : List Int) : Cmp 1 (dLi b) := Cmp.list (Cmp.map fun _ _ => Cmp.int)
theorem cmp_lis (bs : List (List Int)) : Cmp 2 (dLis bs) := Cmp.list (Cmp.map fun b _ => cmp_li b)
/-- a list of values of one kind, walked; nothing of them is changed -/
theorem n_lpP {α : Type} {R : V → α → Prop} (ds : List α) (Pv : Nat → St → Own → Prop) (ho : All2 R xs ds) (hq : ∀ i σ L, i ≤ ds.length → Pv i σ L → Sq K B L a xs) (h0 : Pv 0 σ L)
    (hs : ∀ i σ L v (hi : i < ds.length), Pv i σ L → R v ds[i] → N B L (fun H => g v σ H fun σ2 H2 => ts (loE D (KI B (Pv (i + 1)))) σ2 H2))
    (hd : ∀ σ L, Pv ds.length σ L → N B L (D.nx σ)) : N B L (fun H => IL K (Lp g ts D σ) (.ref a) H) := by
  have e := ho.len
  refine n_lpL (xs := xs) Pv (fun i σ L h p => hq i σ L (by omega) p) h0 (fun i σ L hi p => ?_) (fun σ L p => hd σ L (by rw [← e]; exact p))
  obtain ⟨q, e1, e2⟩ := ho.at (i := i) (by omega)
  rw [List.getElem?_eq_getElem hi] at e1
  rw [Option.some.inj e1]
  exact hs i σ L q (by omega) p e2
theorem n_lpEP {α : Type} {R : V → α → Prop} {n m : Nat} (ds : List α) (Pv : Nat → St → Own → Prop) (ho : All2 R xs ds) (hq : ∀ i σ L, i ≤ ds.length → Pv i σ L → Sq K B L a xs) (h0 : Pv 0 σ L)
    (hs : ∀ (i : Nat) σ L v (hi : i < ds.length), Pv i σ L → R v ds[i] → N B L (fun H => ts (loE D (KI B (Pv (i + 1)))) ((σ.set n (some (.int i))).set m (some v)) H))
    (hd : ∀ σ L, Pv ds.length σ L → N B L (D.nx σ)) : N B L (fun H => IE K (Lp (gTup K 2 (gCons (gName n) (gCons (gName m) gNil))) ts D σ) [.ref a] H) := by
  have e := ho.len
  refine n_lpE (xs := xs) Pv (fun i σ L h p => hq i σ L (by omega) p) h0 (fun i σ L hi p => ?_) (fun σ L p => hd σ L (by rw [← e]; exact p))
  obtain ⟨q, e1, e2⟩ := ho.at (i := i) (by omega)
  rw [List.getElem?_eq_getElem hi] at e1
  rw [Option.some.inj e1]
  exact hs i σ L q (by omega) p e2
theorem mix_at {α : Type} (f : α → α) {bs : List α} {i : Nat} (h : i < bs.length) : ((bs.take i).map f ++ bs.drop i)[i]? = some bs[i] := by
  have hl : ((bs.take i).map f).length = i := by rw [List.length_map, List.length_take]; omega
  rw [List.getElem?_append_right (by omega), hl, Nat.sub_self, List.drop_eq_getElem_cons h]; rfl
theorem mix_set {α : Type} (f : α → α) {bs : List α} {i : Nat} (h : i < bs.length) : ((bs.take i).map f ++ bs.drop i).set i (f bs[i]) = (bs.take (i + 1)).map f ++ bs.drop (i + 1) := by
  have hl : ((bs.take i).map f).length = i := by rw [List.length_map, List.length_take]; omega
  rw [List.set_append_right _ _ (by omega), hl, Nat.sub_self, List.drop_eq_getElem_cons h, List.set_cons_zero, take_step h, List.map_append, List.append_assoc]; rfl
/-- one of many new lists grows -/
theorem n_appendP {ps : List Addr} {bs : List (List Int)} {b : List Int} (i : Nat) (S : Own) (h1 : ps[i]? = some l) (h2 : bs[i]? = some b) (hz : b.length < sizeLine) (q : N B (S ++ (pool ps (bs.set i (b ++ [j])) ++ G)) (Q .non)) :
    N B (S ++ (pool ps bs ++ G)) (fun H => rAppend (.ref l) [.int j] H Q) := by
  have hp := pool_at (p := l) h1 h2
  have hlt := (List.getElem?_eq_some_iff.mp hp).1
  refine n_appendLi (n := S.length + i) ((get_app _ _ S).trans ?_) hz ?_
  · rw [List.getElem?_append_left hlt]; exact hp
  · rw [set_app, List.set_append_left _ _ hlt, pool_put l (b ++ [j]) ps bs i h1]
    exact q
end
/-! ### comprehensions, the base grown -/
section
variable {B B' B0 H H' : Hp} {L L' : Own} {p a : Addr} {o : HO} {i : Nat} {K : PySem.W.Frag} {xs : List V} {v y : V} {d : PyData} {k : Hp → Prop} {σ : St} {D : Ends} {t : TT} {g : TG} {ns : List Int} {j lo : Int} {tt : TT} {te : TE} {vs : List Nat} {Q : VK}
/-- behind an element: what is put, or nothing -/
def PutB (B : Hp) (D : Addr) (P : Hp → List V → Own → Prop) (y : V) (H4 : Hp) : Prop := ∃ acc, H4 D = some (.lst acc) ∧ acc.length < sizeLine ∧ ∃ B2 L, Same B B2 ∧ SI B2 L (upd H4 D (.lst (acc ++ [y]))) ∧ ∃ a L', L = (D, .lst a) :: L' ∧ P B2 a L'
def NoPutB (B : Hp) (D : Addr) (P : Hp → List V → Own → Prop) (H3 : Hp) : Prop := ∃ B2 L, Same B B2 ∧ SI B2 L H3 ∧ ∃ a L', L = (D, .lst a) :: L' ∧ P B2 a L'
theorem lc_coreB {J : It} (n : Nat) (yl : Nat → V) (Pv : Nat → Hp → List V → Own → Prop)
    (hgo : ∀ i B' acc L H, Same B B' → Pv i B' acc L → i < n → SI B' L H → J.go i H) (hst : ∀ B' acc L H, Same B B' → Pv n B' acc L → SI B' L H → J.stop n H) (hy : ∀ i B' acc L H x H', Same B B' → Pv i B' acc L → i < n → SI B' L H → J.yld i H x H' → H' = H ∧ x = yl i)
    (h0 : Pv 0 B [] L) (hs : ∀ i B' acc L D, Same B B' → i < n → Pv i B' acc L → N B' ((D, .lst acc) :: L) (fun H => g (yl i) (wipe σ vs) H fun σ2 H2 => wipe σ2 vs = wipe σ vs ∧ tt σ2 H2 fun b H3 =>
      if b = true then te σ2 H3 (PutB B' D (Pv (i + 1))) else NoPutB B' D (Pv (i + 1)) H3))
    (hd : ∀ B' acc L D, Same B B' → Pv n B' acc L → N B' ((D, .lst acc) :: L) (Q (.ref D))) : N B L (fun H => Lc g tt te vs σ Q J H) := by
  intro H s D hD
  have e0 : ∀ {B : Hp} {a : List V} {L : Own} {H : Hp}, SI B ((D, .lst a) :: L) H → SI B L H := fun s => s.sub (List.sublist_cons_self _ _)
  refine ⟨fun i m H => m = n - i ∧ i ≤ n ∧ ∃ B' L, Same B B' ∧ SI B' L H ∧ ∃ a L', L = (D, .lst a) :: L' ∧ Pv i B' a L', ⟨n, by omega, Nat.zero_le _, B, _, Same.refl _, s.new hD, [], L, rfl, h0⟩, ?_⟩
  rintro i m H ⟨rfl, hi, B', _, sm, s, acc, L', rfl, p⟩
  by_cases hlt : i < n
  · refine .inr ⟨hgo i B' acc L' H sm p hlt (e0 s), fun H' => ∃ B2 L, Same B' B2 ∧ SI B2 L H' ∧ ∃ a L', L = (D, .lst a) :: L' ∧ Pv (i + 1) B2 a L', fun H' ⟨B2, L2, sm2, s2, r⟩ => ⟨n - (i + 1), by omega, rfl, hlt, B2, L2, sm.trans sm2, s2, r⟩, fun x H' hx => ?_⟩
    obtain ⟨rfl, rfl⟩ := hy i B' acc L' H x H' sm p hlt (e0 s) hx
    exact hs i B' acc L' D sm hlt p _ s
  · have e : i = n := by omega
    subst e
    exact .inl ⟨hst B' acc L' H sm p (e0 s), hd B' acc L' D sm p H s⟩
theorem n_putB {D : Addr} {acc : List V} {L4 : Own} {P : Hp → List V → Own → Prop} (sm : Same B0 B) (Lm : Own) (e : L = Lm ++ (D, .lst acc) :: L4) (hz : acc.length < sizeLine) (h : P B (acc ++ [y]) L') (s : L'.Sublist (Lm ++ L4)) : N B L (PutB B0 D P y) := by
  subst e
  intro H x
  obtain ⟨a, b⟩ := put_upd (y := y) x
  exact ⟨acc, a, hz, B, _, sm, b.sub (s.cons₂ _), _, _, rfl, h⟩
theorem n_noputB {D : Addr} {acc : List V} {L4 : Own} {P : Hp → List V → Own → Prop} (sm : Same B0 B) (Lm : Own) (e : L = Lm ++ (D, .lst acc) :: L4) (h : P B acc L') (s : L'.Sublist (Lm ++ L4)) : N B L (NoPutB B0 D P) := by
  subst e
  intro H x
  have s2 : SI B ((D, .lst acc) :: (Lm ++ L4)) H := x.perm List.perm_middle
  exact ⟨B, _, sm, s2.sub (s.cons₂ _), _, _, rfl, h⟩
theorem n_lcLB (xs : List V) (Pv : Nat → Hp → List V → Own → Prop) (hq : ∀ i B' acc L, Same B B' → i ≤ xs.length → Pv i B' acc L → Sq K B' L a xs) (h0 : Pv 0 B [] L)
    (hs : ∀ i B' acc L D (hi : i < xs.length), Same B B' → Pv i B' acc L → N B' ((D, .lst acc) :: L) (fun H => g xs[i] (wipe σ vs) H fun σ2 H2 => wipe σ2 vs = wipe σ vs ∧ tt σ2 H2 fun b H3 =>
      if b = true then te σ2 H3 (PutB B' D (Pv (i + 1))) else NoPutB B' D (Pv (i + 1)) H3))
    (hd : ∀ B' acc L D, Same B B' → Pv xs.length B' acc L → N B' ((D, .lst acc) :: L) (Q (.ref D))) : N B L (fun H => IL K (Lc g tt te vs σ Q) (.ref a) H) := by
  intro H s
  refine ⟨a, rfl, ⟨xs, hq 0 B [] L (Same.refl _) (Nat.zero_le _) h0 H s⟩, ?_⟩
  refine lc_coreB (J := Itl K a) xs.length (fun i => xs.getD i .non) Pv (fun i B' σ L H sm p hi s => ⟨xs, xs[i], hq i B' σ L sm (Nat.le_of_lt hi) p H s, List.getElem?_eq_getElem hi⟩) (fun B' σ L H sm p s => ⟨xs, hq _ B' σ L sm (Nat.le_refl _) p H s, Nat.le_refl _⟩) ?_ h0 ?_ hd H s
  · rintro i B' σ L H x H' sm p hi s ⟨e, hx⟩
    have := hx xs (hq i B' σ L sm (Nat.le_of_lt hi) p H s)
    refine ⟨e, ?_⟩
    rw [List.getElem?_eq_getElem hi] at this
    show x = xs.getD i .non
    rw [List.getD_eq_getElem?_getD, List.getElem?_eq_getElem hi]
    exact (Option.some.inj this).symm
  · intro i B' acc L D sm hi p
    have e : xs.getD i .non = xs[i] := by rw [List.getD_eq_getElem?_getD, List.getElem?_eq_getElem hi]; rfl
    show N B' _ (fun H => g (xs.getD i .non) (wipe σ vs) H _)
    rw [e]
    exact hs i B' acc L D hi sm p
/-- .. over a list of values of one kind -/
theorem n_lcPB {α : Type} {R : V → α → Prop} (ds : List α) (Pv : Nat → Hp → List V → Own → Prop) (ho : All2 R xs ds) (hq : ∀ i B' acc L, Same B B' → i ≤ ds.length → Pv i B' acc L → Sq K B' L a xs) (h0 : Pv 0 B [] L)
    (hs : ∀ i B' acc L D v (hi : i < ds.length), Same B B' → Pv i B' acc L → R v ds[i] → N B' ((D, .lst acc) :: L) (fun H => g v (wipe σ vs) H fun σ2 H2 => wipe σ2 vs = wipe σ vs ∧ tt σ2 H2 fun b H3 =>
      if b = true then te σ2 H3 (PutB B' D (Pv (i + 1))) else NoPutB B' D (Pv (i + 1)) H3))
    (hd : ∀ B' acc L D, Same B B' → Pv ds.length B' acc L → N B' ((D, .lst acc) :: L) (Q (.ref D))) : N B L (fun H => IL K (Lc g tt te vs σ Q) (.ref a) H) := by
  have e := ho.len
  refine n_lcLB xs Pv (fun i B' acc L sm h p => hq i B' acc L sm (by omega) p) h0 (fun i B' acc L D hi sm p => ?_) (fun B' acc L D sm p => hd B' acc L D sm (by rw [← e]; exact p))
  obtain ⟨q, e1, e2⟩ := ho.at (i := i) (by omega)
  rw [List.getElem?_eq_getElem hi] at e1
  rw [Option.some.inj e1]
  exact hs i B' acc L D q (by omega) sm p e2
theorem n_lcRB {lo : Int} {n : Nat} (Pv : Nat → Hp → List V → Own → Prop) (h0 : Pv 0 B [] L)
    (hs : ∀ i B' acc L D, Same B B' → i < n → Pv i B' acc L → N B' ((D, .lst acc) :: L) (fun H => g (.int (lo + i)) (wipe σ vs) H fun σ2 H2 => wipe σ2 vs = wipe σ vs ∧ tt σ2 H2 fun b H3 =>
      if b = true then te σ2 H3 (PutB B' D (Pv (i + 1))) else NoPutB B' D (Pv (i + 1)) H3))
    (hd : ∀ B' acc L D, Same B B' → Pv n B' acc L → N B' ((D, .lst acc) :: L) (Q (.ref D))) : N B L (fun H => Lc g tt te vs σ Q (Itr lo n) H) :=
  lc_coreB (J := Itr lo n) n (fun i => .int (lo + i)) Pv (fun i B' σ L H sm p hi s => hi) (fun B' σ L H sm p s => Nat.le_refl _) (fun i B' σ L H x H' sm p hi s h => h) h0 hs hd
theorem n_lcR1B (Pv : Nat → Hp → List V → Own → Prop) (hb : -(2 ^ 62) ≤ j ∧ j < 2 ^ 62) (h0 : Pv 0 B [] L)
    (hs : ∀ (i : Nat) B' acc L D, Same B B' → (i : Int) < j → Pv i B' acc L → N B' ((D, .lst acc) :: L) (fun H => g (.int i) (wipe σ vs) H fun σ2 H2 => wipe σ2 vs = wipe σ vs ∧ tt σ2 H2 fun b H3 =>
      if b = true then te σ2 H3 (PutB B' D (Pv (i + 1))) else NoPutB B' D (Pv (i + 1)) H3))
    (hd : ∀ B' acc L D, Same B B' → Pv j.toNat B' acc L → N B' ((D, .lst acc) :: L) (Q (.ref D))) : N B L (fun H => IR1 (Lc g tt te vs σ Q) [.int j] H) := fun H s => ⟨j, rfl, hb.1, hb.2,
  n_lcRB (lo := 0) (n := j.toNat) Pv h0 (fun i B' acc L D sm hi p => by rw [Int.zero_add]; exact hs i B' acc L D sm (by omega) p) hd H s⟩
end
end Sk
namespace Sk
open PySem PySem.Spec PyProof.Rows L2
/-! ### max(.., default=), list.index, list.pop(i) -/
/-- max(ns, default=n) -/
def mxD (n : Int) : List Int → Int
  | [] => n
  | x :: r => r.foldl max x
theorem foldl_max_spec : ∀ (r : List Int) (x : Int), (r.foldl max x ∈ x :: r) ∧ ∀ y ∈ x :: r, y ≤ r.foldl max x
  | [], x => ⟨List.mem_cons_self, fun y h => by rcases List.mem_cons.mp h with rfl | h; exact Int.le_refl _; cases h⟩
  | y :: r, x => by
    obtain ⟨h1, h2⟩ := foldl_max_spec r (max x y)
    rw [List.foldl_cons]
    refine ⟨?_, fun z hz => ?_⟩
    · rcases List.mem_cons.mp h1 with h | h
      · rw [h]
        by_cases e : x ≤ y
        · rw [show max x y = y by omega]; exact List.mem_cons_of_mem _ List.mem_cons_self
        · rw [show max x y = x by omega]; exact List.mem_cons_self
      · exact List.mem_cons_of_mem _ (List.mem_cons_of_mem _ h)
    · have h3 := h2 (max x y) List.mem_cons_self
      rcases List.mem_cons.mp hz with rfl | hz
      · omega
      · rcases List.mem_cons.mp hz with rfl | hz
        · omega
        · exact h2 z (List.mem_cons_of_mem _ hz)
theorem mxD_spec {ns : List Int} {n : Int} (h : ns ≠ []) : mxD n ns ∈ ns ∧ ∀ y ∈ ns, y ≤ mxD n ns := by
  cases ns with
  | nil => exact absurd rfl h
  | cons x r => exact foldl_max_spec r x
def rMaxDf (K : PySem.W.Frag) : List V → List V → Hp → VK → Prop := fun vs zs H Q => ∃ (a : Addr) (ns : List Int) (n : Int), vs = [V.ref a] ∧ zs = [.int n] ∧ SqL K H a (ns.map V.int) ∧ Q (.int (mxD n ns)) H
theorem depthAll_ints : ∀ ns : List Int, PyData.depthAll (ns.map PyData.int) ≤ 1
  | [] => by simp [PyData.depthAll]
  | n :: r => by
    have := depthAll_ints r
    simp only [List.map_cons, PyData.depthAll, PyData.depth]
    omega
theorem alikeAll_ints (ns : List Int) : PySem.W.AlikeAll (ns.map PyData.int) := by
  refine ⟨fun x hx y hy => ?_, fun x hx => ?_⟩
  · obtain ⟨i, _, rfl⟩ := List.mem_map.mp hx
    obtain ⟨j, _, rfl⟩ := List.mem_map.mp hy
    simp [PySem.W.alike]
  · obtain ⟨i, _, rfl⟩ := List.mem_map.mp hx
    intro h
    cases h
theorem cr_maxDf {X : Cx} (hc : X.calm = true) (hu : X.A.units + 64 < cLine) : CallRK X (.builtin "max") [Str.ofString "default"] (rMaxDf X.K) := by
  intro pins s σ H vs zs us ws Q I r rz h
  obtain ⟨a, ns, n, rfl, rfl, hs, q⟩ := h
  obtain rfl := Vals.ref1 r
  obtain ⟨w1, rfl, t, rfl⟩ := vals1 rz
  obtain ⟨its, rv, hl, hz⟩ := I.list hs
  obtain ⟨as, hr⟩ := Dp.readsAll I _ _ its (dpAll_ints ns) rv
  have hd := depthAll_ints ns
  show wpAny _ _ (call (.builtin "max") [.ref a] [(Str.ofString "default", Value.int n t)]) _ _ _
  refine PySem.W.max_list_default (I.ok.hd hc) hl.isList hr (alikeAll_ints ns) (by omega) (fun h0 h' tk k => ?_) (fun y ys i v h' tk bs e hv r k => ?_)
  · obtain rfl := List.map_eq_nil_iff.mp h0
    exact ⟨.int _, H, I.kept k, ⟨_, rfl⟩, q⟩
  · cases ns with
    | nil => cases e
    | cons m r' =>
      cases e
      rw [PySem.W.maxD_ints] at r
      cases r
      exact ⟨.int _, H, I.kept k, ⟨_, rfl⟩, q⟩
section
variable {B : Hp} {L : Own} {K : PySem.W.Frag} {a l : Addr} {xs : List V} {v : V} {ns : List Int} {i n : Int} {σ : St} {Q : VK} {m : Nat}
theorem n_ckw {r : List V → List V → Hp → VK → Prop} {t tk : TA} (q : N B L (fun H => t σ H fun vs H1 => tk σ H1 fun zs H2 => r vs zs H2 Q)) : N B L (fun H => tCKw r t tk σ H Q) := q
theorem n_maxDf (h : Sq K B L a (ns.map V.int)) (q : N B L (Q (.int (mxD n ns)))) : N B L (fun H => rMaxDf K [.ref a] [.int n] H Q) := fun H s => ⟨a, ns, n, rfl, rfl, h H s, q H s⟩
/-- the first place of an int that is there -/
theorem n_indexI (h : Sq K B L a (ns.map V.int)) (hm : i ∈ ns) (q : N B L (Q (.int (ns.idxOf i : Nat)))) : N B L (fun H => rIndex K (.ref a) [.int i] H Q) := by
  intro H s
  have hi := List.idxOf_lt_length_iff.mpr hm
  refine ⟨a, ns.map V.int, .int i, ns.idxOf i, .int i, rfl, rfl, h H s, rfl, ?_, ?_, ?_, fun k z' hk hz => ?_, q H s⟩
  · rw [List.all_map]
    exact List.all_eq_true.mpr fun x _ => rfl
  · rw [List.getElem?_map, List.getElem?_eq_getElem hi, List.getElem_idxOf hi]; rfl
  · simp [eqV]
  · rw [List.getElem?_map] at hz
    have hkl : k < ns.length := by omega
    rw [List.getElem?_eq_getElem hkl] at hz
    obtain rfl := Option.some.inj hz
    have := List.not_of_lt_findIdx (p := (· == i)) (xs := ns) (i := k) hk
    simpa [eqV] using this
theorem n_popAt {k : Nat} {j : Int} (hi : L[m]? = some (l, .lst xs)) (h0 : 0 ≤ j) (h1 : j < xs.length) (hz : xs.length ≤ 2 ^ 62) (hk : xs[j.toNat]? = some v) (q : N B (L.set m (l, .lst (xs.eraseIdx j.toNat))) (Q v)) : N B L (fun H => rPopAt (.ref l) [.int j] H Q) :=
  fun H s => ⟨l, xs, j, j.toNat, v, rfl, rfl, s.at hi, by omega, by omega, by unfold seqIndex?; simp; omega, hk, q _ (s.set hi)⟩
end
end Sk
namespace Sk
open PySem PySem.Spec PyProof.Rows L2
/-! ### texts -/
abbrev strI (i : Int) : Str := toString i
def rLenS : List V → Hp → VK → Prop := fun xs H Q => ∃ z : Str, xs = [.str z] ∧ z.length ≤ sizeLine ∧ Q (.int z.length) H
def rIntS : List V → Hp → VK → Prop := fun xs H Q => ∃ (a : Str) (n : Int), xs = [.str a] ∧ PySem.intText? a = some n ∧ a.length ≤ 640 ∧ Q (.int n) H
def rStrI : List V → Hp → VK → Prop := fun xs H Q => ∃ i : Int, xs = [.int i] ∧ i.natAbs.log2 < 1920 ∧ Q (.str (strI i)) H
def rInSg : R2 := fun x y H Q => ∃ (c : Nat) (z : Str), x = .str ⟨#[c]⟩ ∧ y = .str z ∧ Q (.bl (decide (c ∈ z.cps.toList))) H
def rNiSg : R2 := fun x y H Q => ∃ (c : Nat) (z : Str), x = .str ⟨#[c]⟩ ∧ y = .str z ∧ Q (.bl (!decide (c ∈ z.cps.toList))) H
def rSplit : V → List V → Hp → VK → Prop := fun x xs H Q => ∃ (a b : Str), x = .str a ∧ xs = [.str b] ∧ (b.length == 0) = false ∧ a.length + 2 ≤ sizeLine ∧ rNewStrs (Txt.split a b) H Q
def rJoin (K : PySem.W.Frag) : V → List V → Hp → VK → Prop := fun x xs H Q => ∃ (a : Str) (p : Addr), ∃ ys : List Str, x = .str a ∧ xs = [.ref p] ∧ (SqL K H p (ys.map V.str) ∨ SqT K H p (ys.map V.str)) ∧ (ys.map (·.length)).sum + ys.length * a.length ≤ 16777216 ∧ Q (.str (Txt.join a ys)) H
section
variable {X : Cx}
theorem cr_lenS : CallR X (.builtin "len") rLenS := call_len_str
theorem cr_intS : CallR X (.type "int") rIntS := call_int_str
theorem cr_strI : CallR X (.type "str") rStrI := call_str_int
theorem op_inSg : OpR X (compareOp .In) rInSg := op_in_sign
theorem op_niSg : OpR X (compareOp .NotIn) rNiSg := op_notIn_sign
theorem mr_split : MtR X "str.split" rSplit := mt_split
theorem mr_join : MtR X "str.join" (rJoin X.K) := mt_join
end
section
variable {B : Hp} {L : Own} {K : PySem.W.Frag} {p : Addr} {a b z : Str} {ys : List Str} {i : Int} {n : Nat} {σ : St} {Q : VK} {k : Hp → Prop} {D : Ends} {ts : TS} {g : TG} {c : Nat}
theorem n_m1 {r : V → List V → Hp → VK → Prop} {to te : TE} (q : N B L (fun H => to σ H fun x H1 => (∃ a, x = .str a) ∧ te σ H1 fun y H2 => r x [y] H2 Q)) : N B L (fun H => tM1 r to te σ H Q) := q
theorem n_isS (q : N B L k) : N B L (fun H => (∃ a, V.str z = .str a) ∧ k H) := fun H s => ⟨⟨z, rfl⟩, q H s⟩
theorem n_lenS (hz : z.length ≤ sizeLine) (q : N B L (Q (.int z.length))) : N B L (fun H => rLenS [.str z] H Q) := fun H s => ⟨z, rfl, hz, q H s⟩
theorem n_intS (hi : PySem.intText? a = some i) (hz : a.length ≤ 640) (q : N B L (Q (.int i))) : N B L (fun H => rIntS [.str a] H Q) := fun H s => ⟨a, i, rfl, hi, hz, q H s⟩
theorem n_strI (hz : i.natAbs.log2 < 1920) (q : N B L (Q (.str (strI i)))) : N B L (fun H => rStrI [.int i] H Q) := fun H s => ⟨i, rfl, hz, q H s⟩
theorem n_inSg (q : N B L (Q (.bl (decide (c ∈ z.cps.toList))))) : N B L (fun H => rInSg (.str ⟨#[c]⟩) (.str z) H Q) := fun H s => ⟨c, z, rfl, rfl, q H s⟩
theorem n_niSg (q : N B L (Q (.bl (!decide (c ∈ z.cps.toList))))) : N B L (fun H => rNiSg (.str ⟨#[c]⟩) (.str z) H Q) := fun H s => ⟨c, z, rfl, rfl, q H s⟩
theorem n_split (hb : (b.length == 0) = false) (hz : a.length + 2 ≤ sizeLine) (q : ∀ p, N B ((p, .lst ((Txt.split a b).map V.str)) :: L) (Q (.ref p))) : N B L (fun H => rSplit (.str a) [.str b] H Q) :=
  fun H s => ⟨a, b, rfl, rfl, hb, hz, fun p hp => q p _ (s.new hp)⟩
theorem n_join (h : Sq K B L p (ys.map V.str)) (hz : (ys.map (·.length)).sum + ys.length * a.length ≤ 16777216) (q : N B L (Q (.str (Txt.join a ys)))) : N B L (fun H => rJoin K (.str a) [.ref p] H Q) :=
  fun H s => ⟨a, p, ys, rfl, rfl, .inl (h H s), hz, q H s⟩
theorem n_ixS (hz : z.length ≤ sizeLine) (hc : atI z.cps.toList i = some c) (q : N B L (Q (.str ⟨#[c]⟩))) : N B L (fun H => rIx K (.str z) (.int i) H Q) := fun H s => .inr (.inr ⟨z, i, c, rfl, rfl, hz, hc, q H s⟩)
theorem n_iStr {te : TE} {R : It → Hp → Prop} (q : N B L (fun H => te σ H fun v H1 => ∃ x, v = .str x ∧ R (Its x) H1)) : N B L (fun H => iStr te σ H R) := q
/-- a text walked, sign by sign -/
theorem n_lpS (Pv : Nat → St → Own → Prop) (h0 : Pv 0 σ L)
    (hs : ∀ i σ L (hi : i < z.cps.toList.length), Pv i σ L → N B L (fun H => g (.str ⟨#[z.cps.toList[i]]⟩) σ H fun σ2 H2 => ts (loE D (KI B (Pv (i + 1)))) σ2 H2))
    (hd : ∀ σ L, Pv z.cps.toList.length σ L → N B L (D.nx σ)) : N B L (fun H => ∃ x, V.str z = .str x ∧ Lp g ts D σ (Its x) H) := by
  intro H s
  refine ⟨z, rfl, ?_⟩
  refine lp_core (J := Its z) z.cps.toList.length (fun i => .str ⟨#[z.cps.toList.getD i 0]⟩) Pv (fun i σ L H p hi s => ?_) (fun σ L H p s => ?_) (fun i σ L H x H' p hi s h => ?_) h0 (fun i σ L hi p => ?_) hd H s
  · show i < z.cps.size
    rwa [← Array.length_toList]
  · show z.cps.size ≤ _
    rw [← Array.length_toList]; exact Nat.le_refl _
  · obtain ⟨e, c, hc, hx⟩ := h
    refine ⟨e, ?_⟩
    rw [hx, List.getD_eq_getElem?_getD, Array.getElem?_toList, hc]; rfl
  · have e : z.cps.toList.getD i 0 = z.cps.toList[i] := by rw [List.getD_eq_getElem?_getD, List.getElem?_eq_getElem hi]; rfl
    show N B L (fun H => g (.str ⟨#[z.cps.toList.getD i 0]⟩) σ H _)
    rw [e]
    exact hs i σ L hi p
theorem n_strIs (h0 : 0 ≤ i) (h1 : i < 2 ^ 62) (q : N B L (Q (.str (strI i)))) : N B L (fun H => rStrI [.int i] H Q) := n_strI (by
  have h2 : i.natAbs < 2 ^ 62 := by omega
  by_cases e : i.natAbs = 0
  · rw [e]; decide
  · have := (Nat.log2_lt e).mpr h2
    omega) q
theorem strs_len {b : Nat} : ∀ {ys : List Str}, (∀ y ∈ ys, y.length ≤ b) → (ys.map (·.length)).sum ≤ b * ys.length
  | [], _ => Nat.le_refl _
  | y :: ys, h => by
    have h1 := h y List.mem_cons_self
    have h2 := strs_len (ys := ys) fun z hz => h z (List.mem_cons_of_mem _ hz)
    rw [List.map_cons, List.sum_cons, List.length_cons, Nat.mul_add]
    omega
end
section
variable {B : Hp} {L : Own} {K : PySem.W.Frag} {a : Addr} {σ : St} {Q : VK} {te : TE} {vs : List Nat} {m : Nat}
/-- [e for x in xs], nothing else changed -/
theorem n_lcG (xs ys : List V) (e : xs.length = ys.length) (hb : xs.length ≤ 100000) (hq : Sq K B L a xs) (hw : ∀ x, wipe ((wipe σ vs).set m x) vs = wipe σ vs)
    (he : ∀ (i : Nat) D acc (Q' : VK) (h1 : i < xs.length) (h2 : i < ys.length), N B ((D, .lst acc) :: L) (Q' ys[i]) → N B ((D, .lst acc) :: L) (fun H => te ((wipe σ vs).set m (some xs[i])) H Q'))
    (hd : ∀ D, N B ((D, .lst ys) :: L) (Q (.ref D))) : N B L (fun H => IL K (Lc (gName m) tYes te vs σ Q) (.ref a) H) := by
  refine n_lcL (xs := xs) (fun i acc L' => acc = ys.take i ∧ L' = L) (fun i acc L' _ p => by rw [p.2]; exact hq) ⟨rfl, rfl⟩ ?_ ?_
  · rintro i acc L' D hi ⟨rfl, rfl⟩
    have h2 : i < ys.length := by omega
    refine n_gName ?_
    refine n_wiped (hw _) ?_
    refine n_yes ?_
    refine he i D _ _ hi h2 ?_
    refine n_put [] rfl (by rw [List.length_take, sizeLine_eq]; omega) ⟨?_, rfl⟩ (.refl _)
    rw [take_step h2]
  · rintro acc L' D ⟨rfl, rfl⟩
    rw [e, List.take_length]
    exact hd D
end
end Sk
namespace Sk
open PySem PySem.Spec PyProof.Rows L2
/-! ### dicts -/
def DgK (Q : VK) (x y : V) (H : Hp) : Prop := ∃ a v, x = .ref a ∧ DGet H a y (some v) ∧ Q v H
def DinK (Q : VK) (y x : V) (H : Hp) : Prop := ∃ a o, x = .ref a ∧ DGet H a y o ∧ Q (.bl o.isSome) H
def DniK (Q : VK) (y x : V) (H : Hp) : Prop := ∃ a o, x = .ref a ∧ DGet H a y o ∧ Q (.bl (!o.isSome)) H
def DpK (v : V) (k : Hp → Prop) (x y : V) (H : Hp) : Prop := ∃ a H4, x = .ref a ∧ DPut H a y v H4 ∧ k H4
def Da2 (a : Addr) (y : V) (k : Hp → Prop) (z : V) (H4 : Hp) : Prop := ∃ H5, DPut H4 a y z H5 ∧ k H5
def DaK (tv : TE) (rd : V → V → Hp → VK → Prop) (σ : St) (k : Hp → Prop) (x y : V) (H : Hp) : Prop := ∃ a v, x = .ref a ∧ DGet H a y (some v) ∧ tv σ H fun y2 H3 => rd v y2 H3 (Da2 a y k)
def Dg1 (ty : TE) (σ : St) (Q : VK) (x : V) (H1 : Hp) : Prop := ∃ a, x = .ref a ∧ IsD H1 a ∧ ty σ H1 fun y H2 => ∃ o, DGet H2 a y o ∧ Q (o.getD .non) H2
def Dg2b (a : Addr) (Q : VK) (y z : V) (H3 : Hp) : Prop := ∃ o, DGet H3 a y o ∧ Q (o.getD z) H3
def Dg2 (ty tx : TE) (σ : St) (Q : VK) (x : V) (H1 : Hp) : Prop := ∃ a, x = .ref a ∧ IsD H1 a ∧ ty σ H1 fun y H2 => tx σ H2 fun z H3 => Dg2b a Q y z H3
def Dp1b (a : Addr) (Q : VK) (y : V) (H2 : Hp) : Prop := ∃ kvs k v, H2 a = some (.dK kvs) ∧ y = kV k ∧ valV kvs k = some v ∧ Q v (upd H2 a (.dK (dropK kvs k)))
def Dp1 (ty : TE) (σ : St) (Q : VK) (x : V) (H1 : Hp) : Prop := ∃ a, x = .ref a ∧ IsD H1 a ∧ ty σ H1 (Dp1b a Q)
section
variable {B : Hp} {L : Own} {σ : St} {Q : VK} {td ty tv tx : TE} {d p : Addr} {kvs : List (Key × V)} {tvs : List (List Key × V)} {i : Int} {s : Str} {v x y z : V} {k : Hp → Prop} {D : Ends} {tz : TS} {n : Nat} {rd : V → V → Hp → VK → Prop} {ks : List Key} {o : Option V} {b : Bool}
theorem n_dnew (q : ∀ p, N B ((p, .dK []) :: L) (Q (.ref p))) : N B L (fun H => tDNewK σ H Q) := fun H s p hp => q p _ (s.new hp)
theorem n_dnewT (q : ∀ p, N B ((p, .dT []) :: L) (Q (.ref p))) : N B L (fun H => tDNewT σ H Q) := fun H s p hp => q p _ (s.new hp)
theorem n_dget (q : N B L (fun H => td σ H fun x H1 => ty σ H1 fun y H2 => DgK Q x y H2)) : N B L (fun H => tDGet td ty σ H Q) := q
theorem n_din (q : N B L (fun H => ty σ H fun y H1 => td σ H1 fun x H2 => DinK Q y x H2)) : N B L (fun H => tDIn ty td σ H Q) := q
theorem n_dni (q : N B L (fun H => ty σ H fun y H1 => td σ H1 fun x H2 => DniK Q y x H2)) : N B L (fun H => tDNotIn ty td σ H Q) := q
theorem n_asgD (q : N B L (fun H => tv σ H fun v H1 => td σ H1 fun x H2 => ty σ H2 fun y H3 => DpK v (tz D σ) x y H3)) : N B L (fun H => tSeq (sDPut td ty tv) tz D σ H) := q
theorem n_asgDa (q : N B L (fun H => td σ H fun x H1 => ty σ H1 fun y H2 => DaK tv rd σ (tz D σ) x y H2)) : N B L (fun H => tSeq (sDAug td ty tv rd) tz D σ H) := q
theorem n_dg1 (q : N B L (fun H => td σ H (Dg1 ty σ Q))) : N B L (fun H => tDGet1 td ty σ H Q) := q
theorem n_dg2 (q : N B L (fun H => td σ H (Dg2 ty tx σ Q))) : N B L (fun H => tDGet2 td ty tx σ H Q) := q
theorem n_dp1 (q : N B L (fun H => td σ H (Dp1 ty σ Q))) : N B L (fun H => tDPop1 td ty σ H Q) := q
/-! int keys -/
theorem dget_i {H : Hp} (h : H d = some (.dK kvs)) : DGet H d (.int i) (valV kvs (Sum.inl i)) := DGet.k (k := Sum.inl i) h
theorem n_dgI (h : Is B L d (.dK kvs)) (e : valV kvs (Sum.inl i) = some v) (q : N B L (Q v)) : N B L (fun H => DgK Q (.ref d) (.int i) H) := fun H s => ⟨d, v, rfl, by rw [← e]; exact dget_i (h H s), q H s⟩
theorem n_dinI (h : Is B L d (.dK kvs)) (q : N B L (Q (.bl (valV kvs (Sum.inl i)).isSome))) : N B L (fun H => DinK Q (.int i) (.ref d) H) := fun H s => ⟨d, _, rfl, dget_i (h H s), q H s⟩
theorem n_dniI (h : Is B L d (.dK kvs)) (q : N B L (Q (.bl (!(valV kvs (Sum.inl i)).isSome)))) : N B L (fun H => DniK Q (.int i) (.ref d) H) := fun H s => ⟨d, _, rfl, dget_i (h H s), q H s⟩
theorem n_dpI (hi : L[n]? = some (d, .dK kvs)) (hl : kvs.length < sizeLine) (q : N B (L.set n (d, .dK (putK kvs (Sum.inl i) v))) k) : N B L (fun H => DpK v k (.ref d) (.int i) H) :=
  fun H s => ⟨d, _, rfl, DPut.k (k := Sum.inl i) (s.at hi) hl, q _ (s.set hi)⟩
theorem n_daI (h : Is B L d (.dK kvs)) (e : valV kvs (Sum.inl i) = some v) (q : N B L (fun H => tv σ H fun y2 H3 => rd v y2 H3 (Da2 d (.int i) k))) : N B L (fun H => DaK tv rd σ k (.ref d) (.int i) H) := fun H s => ⟨d, v, rfl, by rw [← e]; exact dget_i (h H s), q H s⟩
theorem n_da2I (hi : L[n]? = some (d, .dK kvs)) (hl : kvs.length < sizeLine) (q : N B (L.set n (d, .dK (putK kvs (Sum.inl i) v))) k) : N B L (fun H => Da2 d (.int i) k v H) :=
  fun H s => ⟨_, DPut.k (k := Sum.inl i) (s.at hi) hl, q _ (s.set hi)⟩
theorem n_dg1K (h : Is B L d (.dK kvs)) (q : N B L (fun H => ty σ H fun y H2 => ∃ o, DGet H2 d y o ∧ Q (o.getD .non) H2)) : N B L (fun H => Dg1 ty σ Q (.ref d) H) := fun H s => ⟨d, rfl, .inl ⟨_, .inl (h H s)⟩, q H s⟩
theorem n_dg1I (h : Is B L d (.dK kvs)) (q : N B L (Q ((valV kvs (Sum.inl i)).getD .non))) : N B L (fun H => ∃ o, DGet H d (.int i) o ∧ Q (o.getD .non) H) := fun H s => ⟨_, dget_i (h H s), q H s⟩
theorem n_dg2K (h : Is B L d (.dK kvs)) (q : N B L (fun H => ty σ H fun y H2 => tx σ H2 fun z H3 => Dg2b d Q y z H3)) : N B L (fun H => Dg2 ty tx σ Q (.ref d) H) := fun H s => ⟨d, rfl, .inl ⟨_, .inl (h H s)⟩, q H s⟩
theorem n_dg2I (h : Is B L d (.dK kvs)) (q : N B L (Q ((valV kvs (Sum.inl i)).getD z))) : N B L (fun H => Dg2b d Q (.int i) z H) := fun H s => ⟨_, dget_i (h H s), q H s⟩
theorem n_dp1K (h : Is B L d (.dK kvs)) (q : N B L (fun H => ty σ H (Dp1b d Q))) : N B L (fun H => Dp1 ty σ Q (.ref d) H) := fun H s => ⟨d, rfl, .inl ⟨_, .inl (h H s)⟩, q H s⟩
theorem n_dp1I (hi : L[n]? = some (d, .dK kvs)) (e : valV kvs (Sum.inl i) = some v) (q : N B (L.set n (d, .dK (dropK kvs (Sum.inl i)))) (Q v)) : N B L (fun H => Dp1b d Q (.int i) H) := fun H s => ⟨kvs, Sum.inl i, v, s.at hi, rfl, e, q _ (s.set hi)⟩
/-! text keys -/
theorem dget_s {H : Hp} (h : H d = some (.dK kvs)) : DGet H d (.str s) (valV kvs (Sum.inr s)) := DGet.k (k := Sum.inr s) h
theorem n_dgS (h : Is B L d (.dK kvs)) (e : valV kvs (Sum.inr s) = some v) (q : N B L (Q v)) : N B L (fun H => DgK Q (.ref d) (.str s) H) := fun H x => ⟨d, v, rfl, by rw [← e]; exact dget_s (h H x), q H x⟩
theorem n_dinS (h : Is B L d (.dK kvs)) (q : N B L (Q (.bl (valV kvs (Sum.inr s)).isSome))) : N B L (fun H => DinK Q (.str s) (.ref d) H) := fun H x => ⟨d, _, rfl, dget_s (h H x), q H x⟩
theorem n_dniS (h : Is B L d (.dK kvs)) (q : N B L (Q (.bl (!(valV kvs (Sum.inr s)).isSome)))) : N B L (fun H => DniK Q (.str s) (.ref d) H) := fun H x => ⟨d, _, rfl, dget_s (h H x), q H x⟩
theorem n_dpS (hi : L[n]? = some (d, .dK kvs)) (hl : kvs.length < sizeLine) (q : N B (L.set n (d, .dK (putK kvs (Sum.inr s) v))) k) : N B L (fun H => DpK v k (.ref d) (.str s) H) :=
  fun H x => ⟨d, _, rfl, DPut.k (k := Sum.inr s) (x.at hi) hl, q _ (x.set hi)⟩
theorem n_dg1S (h : Is B L d (.dK kvs)) (q : N B L (Q ((valV kvs (Sum.inr s)).getD .non))) : N B L (fun H => ∃ o, DGet H d (.str s) o ∧ Q (o.getD .non) H) := fun H x => ⟨_, dget_s (h H x), q H x⟩
theorem n_dg2S (h : Is B L d (.dK kvs)) (q : N B L (Q ((valV kvs (Sum.inr s)).getD z))) : N B L (fun H => Dg2b d Q (.str s) z H) := fun H x => ⟨_, dget_s (h H x), q H x⟩
theorem n_dp1S (hi : L[n]? = some (d, .dK kvs)) (e : valV kvs (Sum.inr s) = some v) (q : N B (L.set n (d, .dK (dropK kvs (Sum.inr s)))) (Q v)) : N B L (fun H => Dp1b d Q (.str s) H) := fun H x => ⟨kvs, Sum.inr s, v, x.at hi, rfl, e, q _ (x.set hi)⟩
/-! tuple keys: the tuple at p tells the ints ns -/
abbrev ksI (ns : List Int) : List Key := ns.map Sum.inl
theorem ksI_v (ns : List Int) : (ksI ns).map kV = ns.map V.int := by
  rw [List.map_map]; rfl
variable {ns : List Int}
theorem dget_t {H : Hp} (h : H d = some (.dT tvs)) (hp : H p = some (.tup (ns.map V.int))) : DGet H d (.ref p) (valV tvs (ksI ns)) := DGet.t h (by rw [ksI_v]; exact hp)
theorem n_dgT (h : Is B L d (.dT tvs)) (hp : Is B L p (.tup (ns.map V.int))) (e : valV tvs (ksI ns) = some v) (q : N B L (Q v)) : N B L (fun H => DgK Q (.ref d) (.ref p) H) := fun H s => ⟨d, v, rfl, by rw [← e]; exact dget_t (h H s) (hp H s), q H s⟩
theorem n_dinT (h : Is B L d (.dT tvs)) (hp : Is B L p (.tup (ns.map V.int))) (q : N B L (Q (.bl (valV tvs (ksI ns)).isSome))) : N B L (fun H => DinK Q (.ref p) (.ref d) H) := fun H s => ⟨d, _, rfl, dget_t (h H s) (hp H s), q H s⟩
theorem n_dniT (h : Is B L d (.dT tvs)) (hp : Is B L p (.tup (ns.map V.int))) (q : N B L (Q (.bl (!(valV tvs (ksI ns)).isSome)))) : N B L (fun H => DniK Q (.ref p) (.ref d) H) := fun H s => ⟨d, _, rfl, dget_t (h H s) (hp H s), q H s⟩
theorem n_dpT (hi : L[n]? = some (d, .dT tvs)) (hp : Is B L p (.tup (ns.map V.int))) (hl : tvs.length < sizeLine) (q : N B (L.set n (d, .dT (putK tvs (ksI ns) v))) k) : N B L (fun H => DpK v k (.ref d) (.ref p) H) :=
  fun H s => ⟨d, _, rfl, DPut.t (s.at hi) (by rw [ksI_v]; exact hp H s) hl, q _ (s.set hi)⟩
end
theorem n_rAdd {B : Hp} {L : Own} {Q : VK} {i j : Int} (q : N B L (Q (.int (i + j)))) : N B L (fun H => rAdd (.int i) (.int j) H Q) := fun H s => ⟨i, j, rfl, rfl, q H s⟩
theorem n_rSub {B : Hp} {L : Own} {Q : VK} {i j : Int} (q : N B L (Q (.int (i - j)))) : N B L (fun H => rSub (.int i) (.int j) H Q) := fun H s => ⟨i, j, rfl, rfl, q H s⟩
/-! dicts of ints -/
abbrev dI (ms : List (Int × V)) : List (Key × V) := ms.map fun p => (Sum.inl p.1, p.2)
def getI (ms : List (Int × V)) (k : Int) : Option V := (ms.find? fun p => decide (p.1 = k)).map (·.2)
def putI (ms : List (Int × V)) (k : Int) (v : V) : List (Int × V) := if (ms.any fun p => decide (p.1 = k)) = true then ms.map (fun p => if p.1 = k then (p.1, v) else p) else ms ++ [(k, v)]
theorem dec_inl {i j : Int} : decide ((Sum.inl i : Key) = Sum.inl j) = decide (i = j) := by
  by_cases h : i = j
  · rw [decide_eq_true h, decide_eq_true (by rw [h])]
  · rw [decide_eq_false h, decide_eq_false (fun e => h (Sum.inl.inj e))]
theorem valV_dI (k : Int) : ∀ ms : List (Int × V), valV (dI ms) (Sum.inl k) = getI ms k
  | [] => rfl
  | p :: r => by
    have ih := valV_dI k r
    unfold valV getI at ih ⊢
    rw [show dI (p :: r) = (Sum.inl p.1, p.2) :: dI r from rfl, List.find?_cons, List.find?_cons]
    show Option.map _ (match decide ((Sum.inl p.1 : Key) = Sum.inl k) with | true => _ | false => _) = _
    rw [dec_inl]
    cases decide (p.1 = k)
    · exact ih
    · rfl
theorem any_dI (k : Int) : ∀ ms : List (Int × V), ((dI ms).any fun kv => decide (kv.1 = Sum.inl k)) = ms.any fun p => decide (p.1 = k)
  | [] => rfl
  | p :: r => by
    rw [show dI (p :: r) = (Sum.inl p.1, p.2) :: dI r from rfl, List.any_cons, List.any_cons, any_dI k r]
    show (decide ((Sum.inl p.1 : Key) = Sum.inl k) || _) = _
    rw [dec_inl]
theorem putK_dI (ms : List (Int × V)) (k : Int) (v : V) : putK (dI ms) (Sum.inl k) v = dI (putI ms k v) := by
  unfold putK putI
  rw [any_dI]
  split
  · show List.map _ (List.map _ ms) = List.map _ (List.map _ ms)
    rw [List.map_map, List.map_map]
    refine List.map_congr_left fun p _ => ?_
    show (if (Sum.inl p.1 : Key) = Sum.inl k then _ else _) = ((fun p : Int × V => ((Sum.inl p.1 : Key), p.2)) (if p.1 = k then _ else _))
    by_cases h : p.1 = k
    · rw [if_pos h, if_pos (by rw [h])]
    · rw [if_neg h, if_neg (fun e => h (Sum.inl.inj e))]
  · show _ = List.map _ (ms ++ _)
    rw [List.map_append]; rfl
theorem putI_new {ms : List (Int × V)} {k : Int} {v : V} (h : ¬ k ∈ ms.map (·.1)) : putI ms k v = ms ++ [(k, v)] := by
  unfold putI
  rw [if_neg]
  intro hh
  obtain ⟨p, hp, e⟩ := List.any_eq_true.mp hh
  exact h (List.mem_map.mpr ⟨p, hp, of_decide_eq_true e⟩)
theorem getI_mem {ms : List (Int × V)} (hn : (ms.map (·.1)).Nodup) {k : Int} {v : V} (h : (k, v) ∈ ms) : getI ms k = some v := by
  induction ms with
  | nil => cases h
  | cons p r ih =>
    rw [List.map_cons, List.nodup_cons] at hn
    unfold getI at ih ⊢
    rw [List.find?_cons]
    rcases List.mem_cons.mp h with e | h
    · subst e
      rw [decide_eq_true rfl]; rfl
    · have : ¬ p.1 = k := fun e => hn.1 (by rw [e]; exact List.mem_map.mpr ⟨_, h, rfl⟩)
      rw [decide_eq_false this]
      exact ih hn.2 h
theorem getI_none {ms : List (Int × V)} {k : Int} (h : ¬ k ∈ ms.map (·.1)) : getI ms k = none := by
  unfold getI
  rw [List.find?_eq_none.mpr fun p hp => by
    intro e
    exact h (List.mem_map.mpr ⟨p, hp, of_decide_eq_true e⟩)]; rfl
section
variable {B : Hp} {L : Own} {K : PySem.W.Frag} {a l : Addr} {xs : List V} {v : V} {ns : List Int} {Q : VK} {m : Nat}
theorem n_sum (h : Sq K B L a (ns.map V.int)) (q : N B L (Q (.int ns.sum))) : N B L (fun H => rSum K [.ref a] H Q) := fun H s => ⟨a, ns, rfl, h H s, q H s⟩
theorem n_maxL (h : Sq K B L a (ns.map V.int)) (hn : 0 < ns.length) (q : ∀ m, m ∈ ns → (∀ y ∈ ns, y ≤ m) → N B L (Q (.int m))) : N B L (fun H => rMax K [.ref a] H Q) := fun H s => ⟨a, ns, rfl, h H s, hn, fun m h1 h2 => q m h1 h2 H s⟩
theorem n_minL (h : Sq K B L a (ns.map V.int)) (hn : 0 < ns.length) (q : ∀ m, m ∈ ns → (∀ y ∈ ns, m ≤ y) → N B L (Q (.int m))) : N B L (fun H => rMin K [.ref a] H Q) := fun H s => ⟨a, ns, rfl, h H s, hn, fun m h1 h2 => q m h1 h2 H s⟩
theorem n_popL (hi : L[m]? = some (l, .lst (xs ++ [v]))) (q : N B (L.set m (l, .lst xs)) (Q v)) : N B L (fun H => rPop (.ref l) [] H Q) := fun H s => ⟨l, _, v, rfl, rfl, s.at hi, by
  rw [List.length_append, List.getElem?_append_right (by show xs.length ≤ xs.length + 1 - 1; omega)]
  show [v][xs.length + 1 - 1 - xs.length]? = some v
  rw [show xs.length + 1 - 1 - xs.length = 0 by omega]; rfl, by rw [List.dropLast_concat]; exact q _ (s.set hi)⟩
end
theorem All2.erase {α β : Type} {R : α → β → Prop} {xs : List α} {ys : List β} (h : All2 R xs ys) (i : Nat) : All2 R (xs.eraseIdx i) (ys.eraseIdx i) := by
  rw [List.eraseIdx_eq_take_drop_succ, List.eraseIdx_eq_take_drop_succ]
  exact (h.take i).app (h.drop (i + 1))
theorem All2.getD {α β : Type} {R : α → β → Prop} {xs : List α} {ys : List β} (h : All2 R xs ys) {i : Nat} (a : α) (b : β) (hi : i < ys.length) : R (xs.getD i a) (ys.getD i b) := by
  obtain ⟨x, e, r⟩ := h.at hi
  rw [List.getD_eq_getElem?_getD, e, List.getD_eq_getElem?_getD, List.getElem?_eq_getElem hi]
  exact r
theorem n_ixP {B : Hp} {L : Own} {K : PySem.W.Frag} {Q : VK} {a : Addr} {i : Int} {ns : List Int} {P : Int → Prop} (hP : ∀ x ∈ ns, P x) (hs : Sq K B L a (ns.map V.int)) (h0 : 0 ≤ i) (h1 : i < ns.length) (q : ∀ d, P d → N B L (Q (.int d))) : N B L (fun H => rIx K (.ref a) (.int i) H Q) :=
  n_ixLi hs h0 h1 (q _ (by
    rw [List.getD_eq_getElem?_getD, List.getElem?_eq_getElem (show i.toNat < ns.length by omega)]
    exact hP _ (List.getElem_mem _)))
theorem mul_bd {a b x y : Int} (h0 : 0 ≤ a) (h1 : a ≤ x) (h2 : 0 ≤ b) (h3 : b ≤ y) : 0 ≤ a * b ∧ a * b ≤ x * y := ⟨Int.mul_nonneg h0 h2, Int.mul_le_mul h1 h3 h2 (Int.le_trans h0 h1)⟩
theorem n_ixLast {B : Hp} {L : Own} {K : PySem.W.Frag} {Q : VK} {a : Addr} {z : Int} {ns : List Int} (hs : Sq K B L a ((ns ++ [z]).map V.int)) (q : N B L (Q (.int z))) : N B L (fun H => rIx K (.ref a) (.int (-1)) H Q) :=
  n_ixL hs (by rw [List.map_append]; exact at_last _ _) q
theorem all2_two {α β : Type} {R : α → β → Prop} {xs : List α} {b c : β} (h : All2 R xs [b, c]) : ∃ x y, xs = [x, y] ∧ R x b ∧ R y c := by
  obtain ⟨h1, h2⟩ := h
  match xs, h1, h2 with
  | [x, y], _, h2 => exact ⟨x, y, rfl, h2 0 x b rfl rfl, h2 1 y c rfl rfl⟩
end Sk
namespace Sk
open PySem PySem.Spec PyProof.Rows L2
/-! ### pairs of ints; what is sorted -/
/-- a value that is a pair of ints, in the base -/
def PairAt (B : Hp) (v : V) (t : Int × Int) : Prop := ∃ p, v = .ref p ∧ B p = some (.tup [.int t.1, .int t.2])
theorem PairAt.mono {B B' : Hp} {v : V} {t : Int × Int} (h : PairAt B v t) (s : Same B B') : PairAt B' v t := by
  obtain ⟨p, e, h⟩ := h
  exact ⟨p, e, s _ _ h⟩
theorem pairs_mono {B B' : Hp} {vs : List V} {cs : List (Int × Int)} (h : All2 (PairAt B) vs cs) (s : Same B B') : All2 (PairAt B') vs cs := h.imp fun _ _ x => x.mono s
def dPair (t : Int × Int) : PyData := .tuple [.int t.1, .int t.2]
def dPairs (cs : List (Int × Int)) : PyData := .list (cs.map dPair)
theorem PairAt.da {K : PySem.W.Frag} {B : Hp} {L : Own} {v : V} {t : Int × Int} (h : PairAt B v t) : Da K B L v (dPair t) := by
  obtain ⟨p, rfl, hp⟩ := h
  exact da_tup (tp_old (SqT.of hp)) (daA_cons da_int (daA_cons da_int daA_nil))
theorem pairs_da {K : PySem.W.Frag} {B : Hp} {L : Own} {a : Addr} {vs : List V} {cs : List (Int × Int)} (h : Sq K B L a vs) (hv : All2 (PairAt B) vs cs) : Da K B L (.ref a) (dPairs cs) := da_lst h (daA_of (hv.map dPair fun _ _ x => x.da))
theorem pairs_cmp (cs : List (Int × Int)) : Cmp 2 (dPairs cs) := Cmp.list (Cmp.map fun t _ => Cmp.tuple (k := 0) (fun d hd => by
  rcases List.mem_cons.mp hd with rfl | hd
  · exact Cmp.int
  · rw [List.mem_singleton] at hd; subst hd; exact Cmp.int))
theorem atI_of {xs : List V} {v : V} {z : Int} {i : Nat} (e : z = i) (h : xs[i]? = some v) : atI xs z = some v := by
  subst e
  exact atI_nat h

theorem PairAt.inj {B : Hp} {v : V} {s t : Int × Int} (h : PairAt B v s) (h' : PairAt B v t) : s = t := by
  obtain ⟨p, rfl, h⟩ := h
  obtain ⟨q, e, h'⟩ := h'
  cases e
  rw [h] at h'
  have e2 := Option.some.inj h'
  injection e2 with e3
  have e4 := (List.cons.inj e3).1
  have e5 := (List.cons.inj (List.cons.inj e3).2).1
  exact Prod.ext (V.int.inj e4) (V.int.inj e5)
open Classical in
noncomputable def keyP (B : Hp) (v : V) : Int × Int := if h : ∃ t, PairAt B v t then h.choose else (0, 0)
theorem keyP_eq {B : Hp} {v : V} {t : Int × Int} (h : PairAt B v t) : keyP B v = t := by
  unfold keyP
  rw [dif_pos ⟨t, h⟩]
  exact (⟨t, h⟩ : ∃ t, PairAt B v t).choose_spec.inj h
theorem keyP_map {B : Hp} : ∀ {vs : List V} {cs : List (Int × Int)}, All2 (PairAt B) vs cs → vs.map (keyP B) = cs
  | [], [], _ => rfl
  | [], c :: cs, h => by have := h.1; simp at this
  | v :: vs, [], h => by have := h.1; simp at this
  | v :: vs, c :: cs, h => by
    rw [List.map_cons, keyP_eq (h.2 0 v c rfl rfl), keyP_map (vs := vs) (cs := cs) ⟨Nat.succ.inj h.1, fun i x y a b => h.2 (i + 1) x y a b⟩]
abbrev leP (p q : Int × Int) : Bool := decide (p.1 < q.1 ∨ (p.1 = q.1 ∧ p.2 ≤ q.2))
def sortP (cs : List (Int × Int)) : List (Int × Int) := cs.mergeSort leP
theorem sortP_perm (cs : List (Int × Int)) : (sortP cs).Perm cs := List.mergeSort_perm cs leP
theorem sortP_srt (cs : List (Int × Int)) : (sortP cs).Pairwise fun p q => leP p q = true :=
  List.pairwise_mergeSort (le := leP) (fun a b c h1 h2 => by
    have h1 := of_decide_eq_true h1
    have h2 := of_decide_eq_true h2
    exact decide_eq_true (by omega)) (fun a b => by
    unfold leP
    rw [Bool.or_eq_true, decide_eq_true_eq, decide_eq_true_eq]
    omega) cs
theorem sort_uniq {α : Type} {le : α → α → Bool} (anti : ∀ a b, le a b = true → le b a = true → a = b) : ∀ {l m : List α}, l.Perm m → l.Pairwise (fun a b => le a b = true) → m.Pairwise (fun a b => le a b = true) → l = m
  | [], m, p, _, _ => (List.Perm.nil_eq p)
  | a :: l, [], p, _, _ => (List.not_perm_nil_cons _ _ p.symm).elim
  | a :: l, b :: m, p, h1, h2 => by
    have e : a = b := by
      rcases List.mem_cons.mp (p.mem_iff.mp List.mem_cons_self) with e | ha
      · exact e
      · rcases List.mem_cons.mp (p.mem_iff.mpr List.mem_cons_self) with e | hb
        · exact e.symm
        · exact anti _ _ ((List.pairwise_cons.mp h1).1 _ hb) ((List.pairwise_cons.mp h2).1 _ ha)
    subst e
    rw [sort_uniq anti (List.Perm.cons_inv p) (List.pairwise_cons.mp h1).2 (List.pairwise_cons.mp h2).2]
theorem leP_anti (a b : Int × Int) (h1 : leP a b = true) (h2 : leP b a = true) : a = b := by
  have h1 := of_decide_eq_true h1
  have h2 := of_decide_eq_true h2
  exact Prod.ext (by omega) (by omega)
theorem all2_perm {α β : Type} {R : α → β → Prop} {k : α → β} {xs ys : List α} (hx : ∀ x ∈ xs, R x (k x)) (p : ys.Perm xs) : All2 R ys (ys.map k) := by
  refine ⟨(List.length_map _).symm, fun i x y h1 h2 => ?_⟩
  rw [List.getElem?_map, h1] at h2
  cases h2
  exact hx x (p.mem_iff.mp (List.mem_of_getElem? h1))
theorem all2_mem {α β : Type} {R : α → β → Prop} {xs : List α} {ys : List β} (h : All2 R xs ys) {x : α} (hx : x ∈ xs) : ∃ y ∈ ys, R x y := by
  obtain ⟨i, hi⟩ := List.mem_iff_getElem?.mp hx
  have hlt : i < ys.length := by rw [← h.1]; exact (List.getElem?_eq_some_iff.mp hi).1
  exact ⟨ys[i], List.getElem_mem hlt, h.2 i x _ hi (List.getElem?_eq_getElem hlt)⟩
/-- sorted(a list of pairs of ints) -/
theorem n_sortP {B : Hp} {L : Own} {K : PySem.W.Frag} {Q : VK} {a : Addr} {vs : List V} {cs : List (Int × Int)} (h : Sq K B L a vs) (hv : All2 (PairAt B) vs cs) (q : ∀ p ys, All2 (PairAt B) ys (sortP cs) → N B ((p, .lst ys) :: L) (Q (.ref p))) : N B L (fun H => rSortedPO K [.ref a] H Q) := by
  intro H s
  have hk := keyP_map hv
  have hx : ∀ x ∈ vs, PairAt B x (keyP B x) := fun x hx => by
    obtain ⟨y, _, r⟩ := all2_mem hv hx
    rw [keyP_eq r]; exact r
  refine ⟨a, vs, keyP B, rfl, h H s, fun x hm => ?_, fun ys p hs hb hp => ?_⟩
  · obtain ⟨t, e, ht⟩ := hx x hm
    exact ⟨t, e, s.ext _ _ ht⟩
  · refine q p ys ?_ _ (s.new hp)
    have e : ys.map (keyP B) = sortP cs := by
      refine sort_uniq leP_anti ?_ ?_ (sortP_srt cs)
      · refine (hb.perm.map _).trans ?_
        rw [hk]
        exact (sortP_perm cs).symm
      · refine List.pairwise_map.mpr (hs.imp fun {x y} hxy => ?_)
        have := SrtO.lexB_no.mp hxy
        exact decide_eq_true (by omega)
    rw [← e]
    exact all2_perm hx hb.perm
def sortI (ns : List Int) : List Int := ns.mergeSort (fun a b => decide (a ≤ b))
theorem sortI_perm (ns : List Int) : (sortI ns).Perm ns := List.mergeSort_perm ns _
theorem sortI_srt (ns : List Int) : (sortI ns).Pairwise (· ≤ ·) :=
  (List.pairwise_mergeSort (le := fun a b : Int => decide (a ≤ b)) (fun a b c h1 h2 => by
    have h1 := of_decide_eq_true h1
    have h2 := of_decide_eq_true h2
    exact decide_eq_true (by omega)) (fun a b => by
    rw [Bool.or_eq_true, decide_eq_true_eq, decide_eq_true_eq]
    omega) ns).imp fun h => of_decide_eq_true h
theorem sortI_uniq {ns ms : List Int} (p : ns.Perm ms) (h : ns.Pairwise (· ≤ ·)) : ns = sortI ms :=
  sort_uniq (le := fun a b : Int => decide (a ≤ b)) (fun a b h1 h2 => by
    have h1 := of_decide_eq_true h1
    have h2 := of_decide_eq_true h2
    omega) (p.trans (sortI_perm ms).symm) (h.imp fun h => decide_eq_true h) ((sortI_srt ms).imp fun h => decide_eq_true h)
theorem n_sortI {B : Hp} {L : Own} {K : PySem.W.Frag} {Q : VK} {a : Addr} {ns : List Int} (h : Sq K B L a (ns.map V.int)) (q : ∀ p, N B ((p, .lst ((sortI ns).map V.int)) :: L) (Q (.ref p))) : N B L (fun H => rSortedI K [.ref a] H Q) := fun H s =>
  ⟨a, ns, rfl, h H s, fun ns' p hp hs hn => by
    rw [sortI_uniq hp hs]
    exact q p _ (s.new hn)⟩
end Sk
/-! ### triples of ints, sorted -/
namespace SrtO3
open PySem PySem.Spec PyProof.Rows SrtO
abbrev I3 := Int × Int × Int
def lex3 (p q : I3) : Bool := if p.1 = q.1 then (if p.2.1 = q.2.1 then decide (p.2.2 < q.2.2) else decide (p.2.1 < q.2.1)) else decide (p.1 < q.1)
theorem lex3_iff {p q : I3} : lex3 p q = true ↔ p.1 < q.1 ∨ (p.1 = q.1 ∧ (p.2.1 < q.2.1 ∨ (p.2.1 = q.2.1 ∧ p.2.2 < q.2.2))) := by
  unfold lex3
  by_cases e : p.1 = q.1
  · rw [if_pos e]
    by_cases e2 : p.2.1 = q.2.1
    · rw [if_pos e2, decide_eq_true_eq]; omega
    · rw [if_neg e2, decide_eq_true_eq]; omega
  · rw [if_neg e, decide_eq_true_eq]; omega
theorem lex3_no {p q : I3} : lex3 p q = false ↔ ¬ (p.1 < q.1 ∨ (p.1 = q.1 ∧ (p.2.1 < q.2.1 ∨ (p.2.1 = q.2.1 ∧ p.2.2 < q.2.2)))) := by
  rw [← lex3_iff]
  cases lex3 p q <;> simp
theorem swo3 {α : Type} (k : α → I3) : Swo fun v u => lex3 (k v) (k u) := by
  refine ⟨fun x y h => ?_, fun x y z h1 h2 => ?_⟩
  · have a := lex3_iff.mp h
    refine lex3_no.mpr ?_
    omega
  · have a := lex3_no.mp h1
    have b := lex3_no.mp h2
    refine lex3_no.mpr ?_
    omega
def IsTri (h : Heap) (v : Value) (x y z : Int) : Prop := ∃ a o t u r n, v = .ref a ∧ h.get? a = some o ∧ o.cls = .type "tuple" ∧ o.data = .seq #[.int x t, .int y u, .int z r] n
theorem IsTri.keeps {h h' : Heap} {v : Value} {x y z : Int} (p : IsTri h v x y z) (k : ∀ b o, h.get? b = some o → o.cls = .type "tuple" → h'.get? b = some o) : IsTri h' v x y z := by
  obtain ⟨a, o, t, u, r, n, e, ho, hc, hd⟩ := p
  exact ⟨a, o, t, u, r, n, e, k _ _ ho hc, hc, hd⟩
theorem firsts3 {h : Heap} : ∀ {vs : List Value}, (∀ v ∈ vs, ∃ x y z, IsTri h v x y z) → ∃ fs : List Value, PySem.W.KatTups h vs fs ∧ fs.length = vs.length ∧ ∀ f ∈ fs, ∃ x t, f = Value.int x t
  | [], _ => ⟨[], PySem.W.KatTups.nil, rfl, fun _ hm => by simp at hm⟩
  | v :: vs, hp => by
    obtain ⟨fs, h1, h2, h3⟩ := firsts3 (vs := vs) fun v' hm => hp v' (List.mem_cons_of_mem _ hm)
    obtain ⟨x, y, z, a, o, t, u, r, n, e, ho, hc, hd⟩ := hp v (List.mem_cons_self ..)
    subst e
    refine ⟨.int x t :: fs, PySem.W.KatTups.cons ho hc hd rfl h1, by rw [List.length_cons, List.length_cons, h2], fun f hm => ?_⟩
    rcases List.mem_cons.mp hm with rfl | hm
    · exact ⟨x, t, rfl⟩
    · exact h3 f hm
section
variable {prog : Program} {w : World} {A : Around} {s : Shared} {E : Value → Shared → Prop}
theorem tri_cmp {vs : List Value} {k : Value → I3} (hp : ∀ v ∈ vs, IsTri s.heap v (k v).1 (k v).2.1 (k v).2.2) : SrtO.Cmp prog w A s (tuples' true) (fun p => p.1 ∈ vs) (lt2 fun v u => lex3 (k v) (k u)) := by
  intro p q hm hm'
  have h1 := hp _ hm
  have h2 := hp _ hm'
  show wpAny (model prog w) A (keyLt' (tuples' true) p.1 q.1) (fun r s' => s' = s ∧ r = lex3 (k p.1) (k q.1)) (fun _ _ => False) s
  unfold lex3
  generalize (k p.1).1 = x at h1 ⊢
  generalize (k p.1).2.1 = y at h1 ⊢
  generalize (k p.1).2.2 = z at h1 ⊢
  generalize (k q.1).1 = x' at h2 ⊢
  generalize (k q.1).2.1 = y' at h2 ⊢
  generalize (k q.1).2.2 = z' at h2 ⊢
  obtain ⟨a, o, t, u, r, n, e, ho, hc, hd⟩ := h1
  obtain ⟨a', o', t', u', r', n', e', ho', hc', hd'⟩ := h2
  rw [e, e']
  refine PySem.W.kat_lt ho hd ho' hd' ?_
  show PySem.W.KatLex prog w A true (decide (3 < 3)) _ [(.int x t, .int x' t'), (.int y u, .int y' u'), (.int z r, .int z' r')] 0 s
  refine PySem.W.kat_cons (SeqAt.EqAt.int_int x t x' t' prog w _ _ ?_)
  refine PySem.W.kat_go (fun e1 => ?_) (fun e1 => ?_)
  · have ex : x = x' := by simpa using e1
    rw [if_pos ex]
    refine PySem.W.kat_yes (PySem.W.kat_cons (SeqAt.EqAt.int_int y u y' u' prog w _ _ ?_))
    refine PySem.W.kat_go (fun e2 => ?_) (fun e2 => ?_)
    · have ey : y = y' := by simpa using e2
      rw [if_pos ey]
      refine PySem.W.kat_yes (PySem.W.kat_cons (SeqAt.EqAt.int_int z r z' r' prog w _ _ ?_))
      refine PySem.W.kat_go (fun e4 => ?_) (fun e4 => ?_)
      · have ez : z = z' := by simpa using e4
        have e3 : decide (z < z') = false := by
          rw [ez]
          exact decide_eq_false (Int.lt_irrefl _)
        exact PySem.W.kat_yes (PySem.W.kat_nil ⟨rfl, e3.symm⟩)
      · refine PySem.W.kat_no (PySem.W.kat_one _ _ (PyProof.Rows.lt_int ?_))
        exact (show s = s ∧ decide (z < z') = decide (z < z') from ⟨rfl, rfl⟩)
    · have ey : ¬ y = y' := by simpa using e2
      rw [if_neg ey]
      refine PySem.W.kat_no (PySem.W.kat_one _ _ (PyProof.Rows.lt_int ?_))
      exact (show s = s ∧ decide (y < y') = decide (y < y') from ⟨rfl, rfl⟩)
  · have ex : ¬ x = x' := by simpa using e1
    rw [if_neg ex]
    exact PySem.W.kat_no (oneLt_int ⟨rfl, rfl⟩)
theorem tri_sortable {a : Addr} {vs : List Value} {k : Value → I3} (h0 : 0 < vs.length) (hp : ∀ v ∈ vs, IsTri s.heap v (k v).1 (k v).2.1 (k v).2.2) (ha : ∀ o, s.heap.get? a = some o → o.cls ≠ .type "tuple") : SortableO prog w A s a vs fun v u => lex3 (k v) (k u) := by
  intro h' keep
  have hp' : ∀ v ∈ vs, IsTri h' v (k v).1 (k v).2.1 (k v).2.2 := fun v hm => (hp v hm).keeps fun b o e c => keep b o (fun z => by subst z; exact ha o e c) e
  obtain ⟨fs, h1, h2, h3⟩ := firsts3 fun v hm => ⟨_, _, _, hp' v hm⟩
  refine ⟨tuples' true, fun Q E hq => ?_, tri_cmp hp'⟩
  refine PySem.W.kat_kind (T := .type "int") h1 (by omega) (fun f hm => ?_) (by rfl) ?_
  · obtain ⟨x, t, rfl⟩ := h3 f hm
    exact PySem.W.Looks.now
  · have e : (Value.type "int" != Value.type "tuple") = true := by first | decide +kernel | rfl | decide
    rw [e]
    exact hq
theorem sorted_tri {l : Addr} {vs : List Value} {k : Value → I3} {Q : Value → Shared → Prop} (hl : s.heap.IsList l vs.toArray) (hz : vs.length ≤ sizeLine) (hp : ∀ v ∈ vs, IsTri s.heap v (k v).1 (k v).2.1 (k v).2.2)
    (h : ∀ (h' : Heap) (d : Addr) (out : List Value), Srtd (fun v u => lex3 (k v) (k u)) out → Stb (fun v u => lex3 (k v) (k u)) out vs → (∀ b o, s.heap.get? b = some o → h'.get? b = some o) → s.heap.objs.size ≤ d → (∃ n, h'.get? d = some (seqObj "list" out.toArray n)) → Q (.ref d) { s with heap := h' }) :
    wpAny (model prog w) A (call (.builtin "sorted") [.ref l]) Q E s := by
  refine sorted_ord (swo3 k) hl hz (fun h2 h₁ a ha kk => ?_) fun out hs hb => ?_
  · refine tri_sortable (s := { s with heap := h₁ }) (by omega) (fun v hm => (hp v hm).keeps fun b o e _ => (kk b o e).2) fun o e => ?_
    have e' : some o = some (seqObj "list" vs.toArray 0) := e.symm.trans ha
    cases e'
    intro c
    exact absurd (Value.type.inj c) (by decide)
  · exact h _ _ out hs hb (fun b o e => sortedAll_old e) (Nat.le_succ _) (sortedAll_at s.heap vs out.toArray)
end
end SrtO3
namespace Sk
open PySem PySem.Spec PyProof.Rows L2
abbrev I3 := SrtO3.I3
def rSorted3 (K : PySem.W.Frag) : List V → Hp → VK → Prop := fun vs H Q => ∃ (a : Addr) (xs : List V) (k : V → I3), vs = [V.ref a] ∧ SqL K H a xs ∧ (∀ x ∈ xs, ∃ t, x = V.ref t ∧ H t = some (.tup [.int (k x).1, .int (k x).2.1, .int (k x).2.2])) ∧
  ∀ ys p, SrtO.Srtd (fun x y => SrtO3.lex3 (k x) (k y)) ys → SrtO.Stb (fun x y => SrtO3.lex3 (k x) (k y)) ys xs → H p = none → Q (.ref p) (upd H p (.lst ys))
theorem vals3' {x y z : V} {us : List Value} (r : Vals [x, y, z] us) : ∃ u w' t', us = [u, w', t'] ∧ RelV x u ∧ RelV y w' ∧ RelV z t' := by
  cases r with
  | cons a r =>
    cases r with
    | cons b r =>
      cases r with
      | cons c r =>
        cases r
        exact ⟨_, _, _, rfl, a, b, c⟩
theorem cr_sorted3 {X : Cx} : CallR X (.builtin "sorted") (rSorted3 X.K) := by
  intro pins s σ H vs us Q I r h
  obtain ⟨a, xs, k, rfl, hs, hx, q⟩ := h
  obtain ⟨its, rv, hl, hz⟩ := I.list hs
  obtain ⟨u, rfl, ru⟩ := vals1 r
  obtain rfl : u = Value.ref a := ru
  obtain ⟨e1, e2⟩ := refs_back rv fun x m => by
    obtain ⟨t, e, _⟩ := hx x m
    exact ⟨t, e⟩
  refine SrtO3.sorted_tri (k := fun u => k (backV u)) hl.isList (by rw [← rv.length]; exact hz) (fun v hv => ?_) fun h' d out h1 h2 kp hd hn => ?_
  · obtain ⟨t, rfl⟩ := e2 v hv
    have hm : V.ref t ∈ xs := by rw [e1]; exact List.mem_map.mpr ⟨_, hv, rfl⟩
    obtain ⟨t', e, ht⟩ := hx _ hm
    cases e
    obtain ⟨_, its2, r2, o, ho, hc, n, hd⟩ := I.hok _ _ ht
    obtain ⟨u1, u2, u3, rfl, ri, rj, rk⟩ := vals3' r2
    obtain ⟨t1, rfl⟩ := ri
    obtain ⟨t2, rfl⟩ := rj
    obtain ⟨t3, rfl⟩ := rk
    exact ⟨t, o, t1, t2, t3, n, rfl, ho, hc, hd⟩
  · have h3 : ∀ u ∈ out, ∃ a, u = Value.ref a := fun u hu => e2 u (h2.perm.mem_iff.mp hu)
    obtain ⟨n, hn⟩ := hn
    have hb : SrtO.Stb (fun x y => SrtO3.lex3 (k x) (k y)) (out.map backV) xs := by
      rw [e1]
      exact SrtO.Stb.map (SrtO3.swo3 k) backV h2
    refine ⟨.ref d, upd H d (.lst (out.map backV)), I.laid (t' := s.toks) kp hd ⟨?_, out, n, vals_back h3, hn⟩, rfl, q _ d (SrtO.srtd_map h1) hb (I.hok.fresh hd)⟩
    rw [List.length_map, h2.perm.length_eq, ← rv.length]
    exact hz
def TriAt (B : Hp) (v : V) (t : I3) : Prop := ∃ p, v = .ref p ∧ B p = some (.tup [.int t.1, .int t.2.1, .int t.2.2])
theorem TriAt.mono {B B' : Hp} {v : V} {t : I3} (h : TriAt B v t) (s : Same B B') : TriAt B' v t := by
  obtain ⟨p, e, h⟩ := h
  exact ⟨p, e, s _ _ h⟩
theorem TriAt.inj {B : Hp} {v : V} {s t : I3} (h : TriAt B v s) (h' : TriAt B v t) : s = t := by
  obtain ⟨p, rfl, h⟩ := h
  obtain ⟨q, e, h'⟩ := h'
  cases e
  rw [h] at h'
  have e2 := Option.some.inj h'
  injection e2 with e3
  have e4 := (List.cons.inj e3).1
  have e5 := (List.cons.inj (List.cons.inj e3).2).1
  have e6 := (List.cons.inj (List.cons.inj (List.cons.inj e3).2).2).1
  exact Prod.ext (V.int.inj e4) (Prod.ext (V.int.inj e5) (V.int.inj e6))
open Classical in
noncomputable def key3 (B : Hp) (v : V) : I3 := if h : ∃ t, TriAt B v t then h.choose else (0, 0, 0)
theorem key3_eq {B : Hp} {v : V} {t : I3} (h : TriAt B v t) : key3 B v = t := by
  unfold key3
  rw [dif_pos ⟨t, h⟩]
  exact (⟨t, h⟩ : ∃ t, TriAt B v t).choose_spec.inj h
theorem key3_map {B : Hp} : ∀ {vs : List V} {cs : List I3}, All2 (TriAt B) vs cs → vs.map (key3 B) = cs
  | [], [], _ => rfl
  | [], c :: cs, h => by have := h.1; simp at this
  | v :: vs, [], h => by have := h.1; simp at this
  | v :: vs, c :: cs, h => by
    rw [List.map_cons, key3_eq (h.2 0 v c rfl rfl), key3_map (vs := vs) (cs := cs) ⟨Nat.succ.inj h.1, fun i x y a b => h.2 (i + 1) x y a b⟩]
/-- sorted(a list of triples of ints): some order of them, rising -/
theorem n_sort3 {B : Hp} {L : Own} {K : PySem.W.Frag} {Q : VK} {a : Addr} {vs : List V} {cs : List I3} (h : Sq K B L a vs) (hv : All2 (TriAt B) vs cs)
    (q : ∀ p ys ds, All2 (TriAt B) ys ds → ds.Perm cs → ds.Pairwise (fun x y => SrtO3.lex3 y x = false) → N B ((p, .lst ys) :: L) (Q (.ref p))) : N B L (fun H => rSorted3 K [.ref a] H Q) := by
  intro H s
  have hk := key3_map hv
  have hx : ∀ x ∈ vs, TriAt B x (key3 B x) := fun x hx => by
    obtain ⟨y, _, r⟩ := all2_mem hv hx
    rw [key3_eq r]; exact r
  refine ⟨a, vs, key3 B, rfl, h H s, fun x hm => ?_, fun ys p hs hb hp => ?_⟩
  · obtain ⟨t, e, ht⟩ := hx x hm
    exact ⟨t, e, s.ext _ _ ht⟩
  · exact q p ys (ys.map (key3 B)) (all2_perm hx hb.perm) (by rw [← hk]; exact hb.perm.map _) (List.pairwise_map.mpr hs) _ (s.new hp)
end Sk
namespace Sk
open PySem PySem.Spec PyProof.Rows L2
section
variable {B : Hp} {L : Own} {K : PySem.W.Frag} {a : Addr} {σ : St} {Q : VK} {te : TE} {vs' : List Nat} {m n : Nat}
/-- [e for x, y in pairs], nothing else changed -/
theorem n_lcPairs {vs : List V} {cs : List (Int × Int)} (f : Int × Int → V) (hv : All2 (PairAt B) vs cs) (hb : cs.length ≤ 100000) (hq : Sq K B L a vs) (hw : ∀ x y, wipe (((wipe σ vs').set n x).set m y) vs' = wipe σ vs')
    (he : ∀ c ∈ cs, ∀ D acc (Q' : VK), N B ((D, .lst acc) :: L) (Q' (f c)) → N B ((D, .lst acc) :: L) (fun H => te (((wipe σ vs').set n (some (.int c.1))).set m (some (.int c.2))) H Q'))
    (hd : ∀ D, N B ((D, .lst (cs.map f)) :: L) (Q (.ref D))) : N B L (fun H => IL K (Lc (gTup K 2 (gCons (gName n) (gCons (gName m) gNil))) tYes te vs' σ Q) (.ref a) H) := by
  have hl := hv.len
  refine n_lcL (xs := vs) (fun i acc L' => acc = (cs.take i).map f ∧ L' = L) (fun i acc L' _ p => by rw [p.2]; exact hq) ⟨rfl, rfl⟩ ?_ ?_
  · rintro i acc L' D hi ⟨rfl, rfl⟩
    have hi2 : i < cs.length := by omega
    obtain ⟨v, e, pp, rfl, hp⟩ := hv.at hi2
    rw [List.getElem?_eq_getElem hi] at e
    rw [Option.some.inj e]
    refine n_gTup (tp_old (SqT.of hp)) rfl ?_
    refine n_gCons (n_gCons (n_gNil ?_))
    refine n_wiped (hw _ _) ?_
    refine n_yes ?_
    refine n_iteT ?_
    refine he _ (List.getElem_mem hi2) D _ _ ?_
    refine n_put [] rfl (by rw [List.length_map, List.length_take, sizeLine_eq]; omega) ⟨?_, rfl⟩ (.refl _)
    rw [take_step hi2, List.map_append]; rfl
  · rintro acc L' D ⟨rfl, rfl⟩
    rw [hl, List.take_length]
    exact hd D
end
theorem All2.set {α β : Type} {R : α → β → Prop} {xs : List α} {ys : List β} {i : Nat} {x : α} {y : β} (h : All2 R xs ys) (r : R x y) : All2 R (xs.set i x) (ys.set i y) := by
  refine ⟨by rw [List.length_set, List.length_set, h.1], fun j a b e1 e2 => ?_⟩
  rw [List.getElem?_set] at e1 e2
  rw [← h.1] at e2
  split at e1
  · rename_i hij
    rw [if_pos hij] at e2
    split at e1
    · rename_i hlt
      rw [if_pos hlt] at e2
      cases e1; cases e2
      exact r
    · cases e1
  · rename_i hij
    rw [if_neg hij] at e2
    exact h.2 j a b e1 e2
theorem getD_lt {α : Type} {xs : List α} {d : α} {i : Nat} (h : i < xs.length) : xs.getD i d = xs[i] := by
  rw [List.getD_eq_getElem?_getD, List.getElem?_eq_getElem h]; rfl
end Sk
namespace Sk
open PySem PySem.Spec PyProof.Rows L2
/-! ### calls of a local that is one of several defs -/
structure Alt (X : Cx) (k : Nat) (E : St → XK) (p : Addr × Sp) : Prop where
  ex : ∃ (CX : CXT) (k' : Nat) (fd : FuncData) (ps : List Str), k' ≤ k ∧ FnOk X.prog X.w X.K X.mg X.base CX k' p.1 fd ps p.2 ∧ PySem.W.keepIn X.K (.ref p.1) = true ∧ Binds X.K fd ps [] ∧ ∀ σ, PassesAt CX X σ (E σ)
theorem OkC.alt {X : Cx} {CX : CXT} {k k' : Nat} {x : Str} {ps : List Str} {sp : Sp} {E : St → XK} {f0 : Addr} (O : OkC X.prog X.w X.K X.mg X.base CX k' x ps sp) (hm : X.mg x = some (.ref f0)) (hk : k' ≤ k) (hx : ∀ σ, PassesAt CX X σ (E σ)) : Alt X k E (f0, sp) := by
  obtain ⟨f, fd, F, g, kp, b⟩ := O.ex
  rw [hm] at g
  cases g
  exact ⟨⟨CX, k', fd, ps, hk, F, kp, b, hx⟩⟩
theorem altN {X : Cx} {k : Nat} {E : St → XK} : ∀ p ∈ ([] : List (Addr × Sp)), Alt X k E p := fun p h => nomatch h
theorem altC {X : Cx} {k : Nat} {E : St → XK} {p : Addr × Sp} {S : List (Addr × Sp)} (h : Alt X k E p) (hs : ∀ p ∈ S, Alt X k E p) : ∀ q ∈ p :: S, Alt X k E q := fun q hq => by
  rcases List.mem_cons.mp hq with rfl | hq
  · exact h
  · exact hs q hq
def tClV (i : Nat) (S : List (Addr × Sp)) (E : St → XK) (t : TA) : TE := fun σ H Q => ∃ p ∈ S, σ[i]? = some (some (.ref p.1)) ∧ t σ H fun vs H1 => p.2 vs H1 Q (E σ)
theorem pe_clV {X : Cx} {k i : Nat} {S : List (Addr × Sp)} {E : St → XK} {x : Str} {p pos : Pos} {e : Expr} {es : List Expr} {t : TA} (A : ∀ q ∈ S, Alt X k E q) (hr : Room k X.A) (hN : X.N[i]? = some x) (hv : Vis X.env.scope x) (ha : PA X (e :: es) t)
    (hdb : (x == ("__debug__" : Str)) = false := by decide) (hcd : (x == ("__classdict__" : Str)) = false := by decide)
    (he : starEach (e :: es) X.env = (false, eval e X.env) :: starEach es X.env := by rfl) (hpl : (backTo pos (starEach es X.env)).any (·.1) = false := by rfl) : PE X (.Call (.Name x p) (e :: es) [] pos) (tClV i S E t) := by
  refine ⟨fun pins s σ H Q I h => ?_⟩
  obtain ⟨⟨f, sp⟩, hp, hs, ht⟩ := h
  obtain ⟨CX, k', fd, ps, hk, F, kp, b, hx⟩ := (A _ hp).ex
  refine wpAny_Call_Name_kw (thn ((pe_var (pos := p) hN hv hdb hcd).run pins s σ H (fun v H1 => v = .ref f ∧ H1 = H) I ⟨.ref f, hs, rfl, rfl⟩) fun u s1 ⟨v, H1, I1, r1, q1⟩ => ?_)
  obtain ⟨rfl, rfl⟩ := q1
  cases r1
  refine PySem.W.callWith_K (h₀ := X.base) I.ok.mod.kin kp (thn (ha.run pos pins s1 σ _ _ I1 ht) fun us s2 ⟨vs, H2, I2, r, q⟩ => ⟨I2.kIn, ?_⟩) he hpl
  exact run_fnS F (hr.mono hk) b (hx σ) I2 r q
theorem n_clV {B : Hp} {L : Own} {i : Nat} {S : List (Addr × Sp)} {E : St → XK} {t : TA} {σ : St} {Q : VK} {f : Addr} {sp : Sp} (hp : (f, sp) ∈ S) (hs : σ[i]? = some (some (.ref f))) (q : N B L (fun H => t σ H fun vs H1 => sp vs H1 Q (E σ))) : N B L (fun H => tClV i S E t σ H Q) := fun H s => ⟨(f, sp), hp, hs, q H s⟩
/-- a named block of a reading -/
class Unf (t : TS) (t' : outParam TS) : Prop where
  eq : t = t'
theorem n_unf {B : Hp} {L : Own} {t t' : TS} [h : Unf t t'] {D : Ends} {σ : L2.St} (q : N B L (fun H => t' D σ H)) : N B L (fun H => t D σ H) := by
  rw [h.eq]; exact q
def rSortedDI : List V → Hp → VK → Prop := fun xs H Q => ∃ (a : Addr) (kvs : List (Key × V)) (ks : List Int), xs = [.ref a] ∧ Rd H a (.dK kvs) ∧ kvs.map (·.1) = ks.map Sum.inl ∧ ks.length < 64 ∧
    ∀ (ys : List Int) (p : Addr), ys.Perm ks → ys.Pairwise (· ≤ ·) → H p = none → Q (.ref p) (upd H p (.lst (ys.map V.int)))
theorem cr_sortedDI {X : Cx} (hc : X.calm = true) : CallR X (.builtin "sorted") rSortedDI := call_sortedDI hc
theorem n_sortDI {B : Hp} {L : Own} {Q : VK} {a : Addr} {ms : List (Int × V)} (h : Is B L a (.dK (dI ms))) (hl : ms.length < 64) (q : ∀ p, N B ((p, .lst ((sortI (ms.map (·.1))).map V.int)) :: L) (Q (.ref p))) : N B L (fun H => rSortedDI [.ref a] H Q) := fun H s =>
  ⟨a, _, ms.map (·.1), rfl, .inl (h H s), by rw [List.map_map, List.map_map]; rfl, by rw [List.length_map]; exact hl, fun ys p hp hs hn => by
    rw [sortI_uniq hp hs]
    exact q p _ (s.new hn)⟩
theorem n_dg2D {B : Hp} {L : Own} {Q : VK} {d : Addr} {ms : List (Int × V)} {i : Int} {z : V} (h : Is B L d (.dK (dI ms))) (q : N B L (Q ((getI ms i).getD z))) : N B L (fun H => Dg2b d Q (.int i) z H) := n_dg2I h (by rw [valV_dI]; exact q)
/-- many new objects that are changed no more -/
theorem n_freezeMap {α : Type} {L : Own} {k : Hp → Prop} (g : α → Addr) (o : α → HO) : ∀ (cs : List α) {B : Hp} (_ : ∀ B', Same B B' → (∀ c ∈ cs, B' (g c) = some (o c)) → N B' L k), N B (cs.map (fun c => (g c, o c)) ++ L) k
  | [], B, q => q B (Same.refl _) fun c h => nomatch h
  | c :: cs, B, q => by
    refine n_freeze 0 rfl fun B1 sm1 h1 => ?_
    refine n_freezeMap g o cs fun B2 sm2 h2 => q B2 (sm1.trans sm2) fun d hd => ?_
    rcases List.mem_cons.mp hd with rfl | hd
    · exact sm2 _ _ h1
    · exact h2 d hd
end Sk
/-! ### set(list of ints) -/
namespace SetL
open PySem PySem.Spec PyProof.Rows L2
section
variable {P : Program} {w : World} {A : Around} {E : Value → Shared → Prop} {s : Shared}
abbrev newSet (w : World) : Obj := { cls := .type "set", dict := none, data := .set #[] 0 (.fresh 0 0 (!w.params.followText "set-order")) }
set_option maxRecDepth 100000 in
set_option maxHeartbeats 3200000 in
theorem set_of_list {l : Addr} {xs : Array Value} (ns : List Int) {Q : Value → Shared → Prop} (calm : A.handled = none) (isl : s.heap.IsList l xs) (hin : IntsAre xs.toList ns) (few : ns.length + 1 < scanBound)
    (q : ∀ (h2 : Heap) (tk c : Nat), SetR w h2 s.heap.objs.size (fun j => decide (j ∈ ns)) c → c ≤ ns.length → (∀ b o, s.heap.get? b = some o → h2.get? b = some o) → Q (.ref s.heap.objs.size) { s with heap := h2, toks := tk }) :
    wpAny (model P w) A (call (.type "set") [.ref l]) Q E s := by
  have sz : xs.size = ns.length := by have z := IntsAre.length hin; rw [Array.length_toList] at z; exact z
  obtain ⟨_, _, hmro⟩ := F.called_set.mro
  have hmade := F.called_set.made
  have hsub := F.called_set.sub
  refine wpAny_call (codeAny_of_tree ?_)
  show wpAny _ _ (callAny (.type "set") _) _ _ _
  refine wpAny_pure ⟨Code.quiet_builtin _ (by decide +kernel), codeAny_builtin F.entry_type_call ?_⟩
  rw [Around.under_plain (weight_type_call_type "set" [.ref l] []) rfl]
  have h1 := F.called_set.notType
  have h2 := F.called_set.canCreate
  have h3 := F.typeCall_set_1 (.ref l)
  repeat (any_goals first | assumption | wp_step)
  refine codeAny_mono (code_set_led1 (.ref l) (E := E) (Q₁ := fun v t => v = .ref s.heap.objs.size ∧ t = { s with heap := s.heap.push (newSet w) }) ⟨rfl, rfl⟩) fun r t hr => ?_
  match r, hr with
  | .error _, hr => exact hr
  | .ok .next, hr => exact hr.elim
  | .ok .brk, hr => exact hr.elim
  | .ok .cont, hr => exact hr.elim
  | .ok (.ret v), hr =>
  obtain ⟨rfl, rfl⟩ := hr
  have at0 : (s.heap.push (newSet w)).get? s.heap.objs.size = some (newSet w) := Heap.get?_push_size _ rfl
  have ty0 : Shared.TypeIs { s with heap := s.heap.push (newSet w) } (.ref s.heap.objs.size) "set" := ⟨_, at0, rfl⟩
  have hli := F.called_set.init.lookup
  have hbi := F.called_set.init.bind (.ref s.heap.objs.size)
  repeat (any_goals first | assumption | wp_step)
  refine codeAny_mono (codeAny_call_builtin (R := wants (fun v t => v = .none ∧ ∃ g tk c, t = { s with heap := g, toks := tk } ∧ SetR w g s.heap.objs.size (fun j => decide (j ∈ ns)) c ∧ c ≤ ns.length ∧ (∀ b o, s.heap.get? b = some o → g.get? b = some o)) E)
    F.called_set.init.plain F.entry_set_init (check_set_init_1 ty0 ?_)) fun r t hr => ?_
  · obtain ⟨⟨oc, od, dt, sl⟩, hol, hoc, nl, hdt⟩ := isl
    simp only at hoc hdt
    subst hoc hdt
    have hol1 : (s.heap.push (newSet w)).get? l = some { cls := .type "list", dict := od, data := .seq xs nl, slots := sl } := Heap.get?_push_of_some _ hol
    have e1 := F.sub_list_set
    have e2 := F.sub_list_frozenset
    have e3 : (Value.type "list" == Value.type "dict") = false := by decide
    have isl1 : (s.heap.push (newSet w)).IsList l xs := ⟨_, hol1, rfl, nl, rfl⟩
    unfold Builtin.«set.__init__» noKeywords Builtin.Frozenset.updateFrom
    generalize eI : pyIter = PI
    wp_walk
    subst eI
    refine wpAny_pyIter_list isl1 (wpAny_bind (wpAny_runValue ?_))
    have llt : l < s.heap.objs.size := Heap.lt_size hol
    have sz1 : (s.heap.push (newSet w)).objs.size = s.heap.objs.size + 1 := Heap.size_push ..
    have ne1 : l ≠ (s.heap.push (newSet w)).objs.size := by rw [sz1]; exact Nat.ne_of_lt (Nat.lt_succ_of_lt llt)
    have nin : s.heap.objs.size ∉ [(s.heap.push (newSet w)).objs.size, l] := by
      rw [sz1]
      intro hm
      rcases List.mem_cons.mp hm with e | hm
      · exact absurd e (Nat.ne_of_lt (Nat.lt_succ_self _))
      · exact absurd (List.mem_singleton.mp hm) (Nat.ne_of_gt llt)
    have vals : ∀ (i : Nat) (v : Value), xs[i]? = some v → ∃ k t, ns[i]? = some k ∧ v = .int k t := fun i v hv => by
      have hi : i < ns.length := by rw [← sz]; exact (Array.getElem?_eq_some_iff.mp hv).1
      obtain ⟨t, e⟩ := IntsAre.int_at hin i v (by rw [Array.getElem?_toList]; exact hv)
      exact ⟨ns[i], t, List.getElem?_eq_getElem hi, by rw [e, List.getD_eq_getElem?_getD, List.getElem?_eq_getElem hi]; rfl⟩
    have at1 : ((s.heap.push (newSet w)).push { cls := .type "list_iterator", data := .fields #[.ref l, .int 0 0] }).get? s.heap.objs.size = some (newSet w) := Heap.get?_push_of_some _ at0
    refine set_update_ints ((Walks.list (by simp [calm]) _ l ne1 xs).toS) s.heap.objs.size nin ns sz few vals (xs.size - 0) 0 _ (by omega) (Nat.zero_le _) ⟨⟨_, Heap.get?_push_size _ rfl, rfl, rfl⟩, isl1.push _⟩ ⟨0, Nat.le_refl 0, setR_new_at at1⟩ ?_
    rintro ⟨g, g2, d2, tk2, os2⟩ c mv hc hR
    obtain rfl : g2 = s.gens := mv.gens
    obtain rfl : d2 = s.drawn := mv.drawn
    obtain rfl : os2 = s.os := mv.os
    show wpAny _ _ _ _ _ _
    refine wpAny_pure ?_
    show wpAny _ _ (ret Value.none) _ _ _
    refine wpAny_pure ⟨rfl, g, tk2, c, rfl, hR, by omega, fun b o e => ?_⟩
    have b0 : b < s.heap.objs.size := Heap.lt_size e
    refine mv.heap b o (fun hm => ?_) (Heap.get?_push_of_some _ (Heap.get?_push_of_some _ e))
    rcases List.mem_cons.mp hm with z | hm
    · exact absurd z (Nat.ne_of_lt b0)
    · have z := List.mem_singleton.mp hm
      rw [sz1] at z
      exact absurd z (Nat.ne_of_lt (Nat.lt_succ_of_lt b0))
  · match r, hr with
    | .error _, hr => exact hr
    | .ok .next, hr => exact hr.elim
    | .ok .brk, hr => exact hr.elim
    | .ok .cont, hr => exact hr.elim
    | .ok (.ret v), hr =>
    obtain ⟨rfl, g, tk, c, rfl, hR, hc, hk⟩ := hr
    repeat (any_goals first | assumption | wp_step)
    exact q _ _ _ hR hc hk
end
end SetL
namespace Sk
open PySem PySem.Spec PyProof.Rows L2
section
variable {B : Hp} {L : Own} {σ : St} {Q : VK} {g : TG} {tt : TT} {te : TE} {vs : List Nat} {i0 j : Int} {K : PySem.W.Frag} {w : World} {a : Addr} {ns : List Int} {i : Int}
theorem n_lcR2B (Pv : Nat → Hp → List V → Own → Prop) (hb : -(2 ^ 62) ≤ i0 ∧ i0 < 2 ^ 62 ∧ -(2 ^ 62) ≤ j ∧ j < 2 ^ 62) (h0 : Pv 0 B [] L)
    (hs : ∀ (n : Nat) B' acc L D, Same B B' → i0 + (n : Int) < j → Pv n B' acc L → N B' ((D, .lst acc) :: L) (fun H => g (.int (i0 + n)) (wipe σ vs) H fun σ2 H2 => wipe σ2 vs = wipe σ vs ∧ tt σ2 H2 fun b H3 =>
      if b = true then te σ2 H3 (PutB B' D (Pv (n + 1))) else NoPutB B' D (Pv (n + 1)) H3))
    (hd : ∀ B' acc L D, Same B B' → Pv (j - i0).toNat B' acc L → N B' ((D, .lst acc) :: L) (Q (.ref D))) : N B L (fun H => IR2 (Lc g tt te vs σ Q) [.int i0, .int j] H) := fun H s => ⟨i0, j, rfl, hb,
  n_lcRB (lo := i0) (n := (j - i0).toNat) Pv h0 (fun n B' acc L D sm hi p => hs n B' acc L D sm (by omega) p) hd H s⟩
/-- set(xs), and sorted(set(xs)) -/
def rSetLi (K : PySem.W.Frag) (w : World) : List V → Hp → VK → Prop := fun xs H Q => ∃ (a : Addr) (ns : List Int), xs = [.ref a] ∧ SqL K H a (ns.map V.int) ∧ ns.length ≤ 1000 ∧ ∀ p c, c ≤ ns.length → H p = none → Q (.ref p) (upd H p (SetO w p (fun j => decide (j ∈ ns)) c))
theorem cr_setLi {X : Cx} (hc : X.calm = true) : CallR X (.type "set") (rSetLi X.K X.w) := by
  intro pins s σ H xs us Q I r h
  obtain ⟨a, ns, rfl, hq, hl, q⟩ := h
  obtain ⟨u, rfl, ru⟩ := vals1 r
  obtain rfl : u = Value.ref a := ru
  obtain ⟨its, rv, pl, hz⟩ := I.list hq
  refine SetL.set_of_list ns (I.ok.hd hc) pl.isList (ints_of_vals rv) (by unfold scanBound; omega) fun h2 tk c R hcn k => ?_
  exact ⟨.ref _, upd H s.heap.objs.size (SetO X.w s.heap.objs.size (fun j => decide (j ∈ ns)) c), I.laid (t' := tk) (fun b u e => k b u e) (Nat.le_refl _) (setO_new R), rfl, q _ c hcn (I.hok.fresh (Nat.le_refl _))⟩
theorem cr_setLiW {X : Cx} {w : World} (h : w = X.w) (hc : X.calm = true) : CallR X (.type "set") (rSetLi X.K w) := by subst h; exact cr_setLi hc
theorem cr_sortedSetW {X : Cx} {w : World} (h : w = X.w) (hc : X.calm = true) : CallR X (.builtin "sorted") (rSortedSet w) := by subst h; exact cr_sortedSet hc
theorem n_setLi' (h : Sq K B L a (ns.map V.int)) (hl : ns.length ≤ 1000) (q : ∀ p c, c ≤ ns.length → N B ((p, SetO w p (fun j => decide (j ∈ ns)) c) :: L) (Q (.ref p))) : N B L (fun H => rSetLi K w [.ref a] H Q) := fun H s =>
  ⟨a, ns, rfl, h H s, hl, fun p c hc hp => q p c hc _ (s.new hp)⟩
theorem n_sortSet {S : Int → Bool} {c : Nat} (h : Is B L a (SetO w a S c)) (hc : c < 64) (q : ∀ p (ks : List Int), ks.Pairwise (· < ·) → (∀ k : Int, k ∈ ks ↔ S k = true) → N B ((p, .lst (ks.map V.int)) :: L) (Q (.ref p))) : N B L (fun H => rSortedSet w [.ref a] H Q) := fun H s =>
  ⟨a, S, c, rfl, h H s, hc, fun ks p h1 h2 _ hp => q p ks h1 h2 _ (s.new hp)⟩
theorem n_count (h : Sq K B L a (ns.map V.int)) (q : N B L (Q (.int (ns.count i : Nat)))) : N B L (fun H => rCntI K (.ref a) [.int i] H Q) := fun H s => ⟨a, ns, i, rfl, rfl, h H s, q H s⟩
end
end Sk
namespace Sk
open PySem PySem.Spec PyProof.Rows L2
section
variable {K : PySem.W.Frag} {B : Hp} {L : Own} {a : Addr} {ns : List Int} {i : Int} {Q : VK}
theorem inV_ints (ns : List Int) (i : Int) : inV (.int i) (ns.map V.int) = decide (i ∈ ns) := by
  rw [Bool.eq_iff_iff, decide_eq_true_iff]
  simp [inV, eqV]
theorem n_inLi (hs : Sq K B L a (ns.map V.int)) (q : N B L (Q (.bl (decide (i ∈ ns))))) : N B L (fun H => rIn K false (.int i) (.ref a) H Q) := fun H s =>
  ⟨a, ns.map V.int, rfl, .inl (hs H s), rfl, by rw [List.all_map]; exact List.all_eq_true.mpr fun x _ => rfl, by rw [if_neg (by decide), inV_ints]; exact q H s⟩
theorem n_niLi (hs : Sq K B L a (ns.map V.int)) (q : N B L (Q (.bl (!decide (i ∈ ns))))) : N B L (fun H => rIn K true (.int i) (.ref a) H Q) := fun H s =>
  ⟨a, ns.map V.int, rfl, .inl (hs H s), rfl, by rw [List.all_map]; exact List.all_eq_true.mpr fun x _ => rfl, by rw [if_pos rfl, inV_ints]; exact q H s⟩
theorem n_inTi (hs : Tp K B L a (ns.map V.int)) (q : N B L (Q (.bl (decide (i ∈ ns))))) : N B L (fun H => rIn K false (.int i) (.ref a) H Q) := fun H s =>
  ⟨a, ns.map V.int, rfl, .inr (hs H s), rfl, by rw [List.all_map]; exact List.all_eq_true.mpr fun x _ => rfl, by rw [if_neg (by decide), inV_ints]; exact q H s⟩
theorem n_niTi (hs : Tp K B L a (ns.map V.int)) (q : N B L (Q (.bl (!decide (i ∈ ns))))) : N B L (fun H => rIn K true (.int i) (.ref a) H Q) := fun H s =>
  ⟨a, ns.map V.int, rfl, .inr (hs H s), rfl, by rw [List.all_map]; exact List.all_eq_true.mpr fun x _ => rfl, by rw [if_pos rfl, inV_ints]; exact q H s⟩
end
end Sk
/-! ### try .. except (A, B, C): suite that raises -/
namespace TryT
open PySem PySem.Spec PyProof.Rows L2 L2H HotX
theorem takesN_of {X : Cx} {W : WX} (t : L2.Takes X W) : L2N.Takes X W := fun u s' ⟨a, B, sI, pn, σ, H, cls, d, e, J, nb, up, sky, r⟩ =>
  t u s' ⟨a, B, sI, pn, σ, H, cls, d, e, J, nb, up, by
    rcases sky with ⟨h1, h2, h3, oe, vs, he, hz, r⟩ | h | h
    · exact .inl ⟨h1, h2, h3, oe, vs, he, hz.zc, r⟩
    · exact .inr (.inl (flyingZ_imp (fun o z => z.zc) h))
    · exact .inr (.inr ⟨h.1, h.2.1, h.2.2.1, tracedZ_imp (fun o z => z.zc) h.2.2.2⟩), r⟩
theorem flying_on {B h g : Heap} {l : List Env} {a : Addr} {Z : Obj → Prop} (x : HandSPX.FlyingZ B l a Z h) (k : ∀ b o, h.get? b = some o → g.get? b = some o) : HandSPX.FlyingZ B l a Z g := by
  obtain ⟨st, ne, ff, oe, vs, T, oT, ts, q1, q2, q3, q4, q5, q6, q7, q8, q9⟩ := x
  exact ⟨fun b o e => k b o (st b o e), ne, ff.of_keeps fun b o e _ => ⟨o, k b o e, rfl⟩, oe, vs, T, oT, ts, k _ _ q1, q2, q3, q4, q5, q6, k _ _ q7, q8, q9⟩
/-- a clause's test: of an exception of class cls it answers b -/
def ClT (X : Cx) (te : Expr) (xm : Value → Bool → Prop) : Prop :=
  ∀ (a : Addr) (oe : Obj) (pn pins : List (Addr × Obj)) (σ : L2.St) (H : Hp) (s : Shared) (cls : Value) (b : Bool) (Q : Bool → Shared → Prop) (E : Value → Shared → Prop), Inv (X.suite a ((a, oe) :: pn)) pins σ H s → s.heap.get? a = some oe → oe.cls = cls → xm cls b →
    (∀ g, (∀ q o, s.heap.get? q = some o → g.get? q = some o) → Q b { s with heap := g }) → wpAny (model X.prog X.w) (X.A.mark (some (.ref a))) (eval te X.env) (fun c s1 => wpAny (model X.prog X.w) (X.A.mark (some (.ref a))) (excMatches (.ref a) c) Q E s1) E s
theorem looks_cls {X : Cx} {s : Shared} {a : Addr} {oe : Obj} {cls : Value} (e : s.heap.get? a = some oe) (c : oe.cls = cls) : PySem.W.Looks (model X.prog X.w) s.heap (typeOf (.ref a)) cls := fun A Q E s' k q => wpAny_typeOf_ref (k _ _ e) (by rw [c]; exact q)
theorem read_name {X : Cx} {x : Str} {c : Value} {np : Pos} {a : Addr} {oe : Obj} {pn pins : List (Addr × Obj)} {σ : L2.St} {H : Hp} {s : Shared} {Q : Value → Shared → Prop} {E : Value → Shared → Prop} (hc : Names X x c) (J : Inv (X.suite a ((a, oe) :: pn)) pins σ H s) (q : Q c s) :
    wpAny (model X.prog X.w) (X.A.mark (some (.ref a))) (eval (.Name x np) X.env) Q E s := by
  obtain ⟨hg, hd, hm | ⟨hm, hv, hn⟩⟩ := hc
  · exact ld_glob (X := X.suite a ((a, oe) :: pn)) J hg hm q hd
  · exact ld_blt (X := X.suite a ((a, oe) :: pn)) J hg hm hv q hn hd
theorem clt_name {X : Cx} {x : Str} {c : Value} {np : Pos} (hc : Names X x c) : ClT X (.Name x np) (fun cls b => PySem.W.exmOne X.K cls c = some b) := fun a oe pn pins σ H s cls b Q E J he hcl hx q =>
  read_name hc J ((PySem.W.exm_one (M := model X.prog X.w) J.kIn (looks_cls he hcl) hx).here (q s.heap fun _ _ z => z))
theorem clt_tup3 {X : Cx} {x1 x2 x3 : Str} {c1 c2 c3 : Value} {p1 p2 p3 tp : Pos} {kk : Nat} (n1 : Names X x1 c1) (n2 : Names X x2 c2) (n3 : Names X x3 c3) :
    ClT X (.Tuple [.Name x1 p1, .Name x2 p2, .Name x3 p3] kk tp) (fun cls b => PySem.W.exmAny X.K cls [c1, c2, c3] = some b) := fun a oe pn pins σ H s cls b Q E J he hcl hx q => by
  have kp : ∀ q o, s.heap.get? q = some o → (s.heap.push { cls := .type "tuple", data := .seq [c1, c2, c3].toArray }).get? q = some o := fun _ _ z => Heap.get?_push_of_some _ z
  refine wpAny_Tuple (wpAny_items_cons (read_name n1 J (wpAny_items_cons (read_name n2 J (wpAny_items_cons (read_name n3 J (wpAny_items_nil ⟨by size_fits, ?_⟩)))))))
  exact (PySem.W.exm_tup3 (M := model X.prog X.w) (J.kIn.keeps kp) ((looks_cls he hcl).keeps kp) (Heap.get?_push_size s.heap rfl) hx).here (q _ kp)
/-- what such a clause wishes of an exception of the body -/
def wCl (xm : Value → Bool → Prop) (ts : Addr → Value → Option Addr → TS) (Wo : WX) (D : Ends) : WX := fun cls d σ H => ∃ b, xm cls b ∧ (b = true → ∀ a, H a = none → ts a cls d D σ H) ∧ (b = false → Wo cls d σ H)
section
variable {X : Cx} {te : Expr} {xm : Value → Bool → Prop} {bd su : List Stmt} {b₀ : Stmt} {p0 p1 : Pos} {tb : WX → TS} {ts : Addr → Value → Option Addr → TS} {Wo : WX}
theorem ps_tryT (hs : X.stack = X.env :: X.outer) (hf : X.env.frame = some X.env.locals) (ct : ClT X te xm) (pa : ∀ hd : Option Value, PassesOwnAt (model X.prog X.w) (X.A.mark hd) X.A X.env X.xe) (tk : L2.Takes X Wo)
    (hb : ∀ (W : WX) (pn : List (Addr × Obj)) (xe : Value → Shared → Prop), L2N.Takes (X.tr pn xe) W → PassesOwn (model X.prog X.w) X.A X.env xe → PSs (X.tr pn xe) bd (tb W))
    (hsu : ∀ (a : Addr) (oe : Obj) (cls : Value) (d : Option Addr) (pn : List (Addr × Obj)), L2N.Zn cls d oe → (∃ vs, oe.data = .fields vs) → L2.Takes (suiteX X a ((a, oe) :: pn)) Wo → HotC (suiteX X a ((a, oe) :: pn)) →
      PSs (suiteX X a ((a, oe) :: pn)) (b₀ :: su) (ts a cls d)) :
    PS X (.Try bd [.ExceptHandler (some te) none (b₀ :: su) p1] [] [] p0) (fun D σ H => tb (wCl xm ts Wo D) D σ H) := by
  refine ⟨fun pins s σ H D I h => ?_⟩
  have ok := I.ok
  have fr : X.A.frames = some (X.env :: X.outer) := by rw [ok.frames, hs]
  refine wpAny_Try_except ?_
  refine wpAny_mono ((hb (wCl xm ts Wo D) (X.pn ++ pins) (fun e s₁ => wpAny (model X.prog X.w) X.A (noteFrame e X.env) (fun _ s₂ => wpAny (model X.prog X.w) X.A (setFlight e none) (fun _ s₃ =>
    wpAny (model X.prog X.w) X.A (handleBy e X.env [.ExceptHandler (some te) none (b₀ :: su) p1]) (SP X pins D) X.xe s₃) X.xe s₂) X.xe s₁) (fun u t x => ?_) PassesOwn.looking).run [] s σ H D (I.toTry _) h) (fun f t x => ?_) (fun _ _ z => z)
  · obtain ⟨a, B, sI, pn', σ', H', cls, d, rfl, J', nb, up, sky, na, os, ag, b, hx, hyes, hno⟩ := x
    have J : Inv X pins σ' H' sI := J'.ofTry ok
    show wpAny (model X.prog X.w) X.A (noteFrame (.ref a) X.env) _ _ _
    refine L2N.Sky.land L2N.Zn.steady fr hf (B := B) (a := a) (Z := L2N.Zn cls d) (L := X.env.locals) (by rw [← hs]; exact sky) fun h3 fl up3 => ?_
    have J3 : Inv X pins σ' H' { t with heap := h3 } := J.landed nb fl.1 (up.trans up3) os ag
    obtain ⟨oe, vs, he, hz, hd⟩ := fl.there
    have far : a ∉ frs (X.env :: X.outer) := fun hm => by
      obtain ⟨_, o2, e2, no⟩ := fl.2.2.1.mem hm
      rw [he] at e2
      cases e2
      exact no _ hd
    have nL : a ≠ X.env.locals := fun z => far (List.mem_filterMap.mpr ⟨X.env, List.mem_cons_self, by rw [hf, z]⟩)
    have nF : a ∉ X.fs := fun hm => by
      obtain ⟨e, m, q⟩ := List.mem_filterMap.mp hm
      exact far (List.mem_filterMap.mpr ⟨e, List.mem_cons_of_mem _ m, q⟩)
    refine wpAny_handleBy_cons (codeAny_handlers_test ?_) (fun z => nomatch z)
    refine ct a oe _ _ _ _ _ _ _ _ _ (J3.suite he hd na nL nF) he hz.1 hx fun g kg => ?_
    have fg := flying_on fl kg
    have ug : t.heap.UpToSlots g := up3.trans (Heap.UpToSlots.of_keeps kg)
    cases b with
    | true =>
      refine codeAny_handlers_suite ?_
      refine HandSPX.lands_againZ (s := { t with heap := g }) fg fun h4 f4 u4 => ?_
      have J4 : Inv X pins σ' H' { t with heap := h4 } := J.landed nb f4.1 ((up.trans ug).trans u4) os ag
      obtain ⟨o4, v4, he4, hz4, hd4⟩ := f4.there
      refine wpAny_mono ((hsu a o4 cls d (X.pn ++ pins) hz4 ⟨_, hd4⟩ (fun u2 s2 x2 => ?_) ⟨(a, o4), ⟨rfl, v4, hd4, hz4.2.2 v4 hd4⟩, List.mem_cons_self⟩).run [] _ _ H' _ (suiteX_of (J4.suite he4 hd4 na nL nF)) (hyes rfl a na)) (fun f s6 x6 => ?_) (fun e6 s6 z => pa (some (.ref a)) e6 s6 z)
      · obtain ⟨a2, B2, sI2, pn2, σ2, H2, cls2, d2, e2, I2, r2⟩ := x2
        exact tk u2 s2 ⟨a2, B2, sI2, pins, σ2, H2, cls2, d2, e2, unsuiteX I2 ok, r2⟩
      · match f, x6 with
        | .next, ⟨_, _, S6, q6⟩ => exact ⟨_, _, unsuiteX S6 ok, q6⟩
        | .brk, ⟨_, _, S6, q6⟩ => exact ⟨_, _, unsuiteX S6 ok, q6⟩
        | .cont, ⟨_, _, S6, q6⟩ => exact ⟨_, _, unsuiteX S6 ok, q6⟩
        | .ret _, ⟨_, _, _, S6, r6, q6⟩ => exact ⟨_, _, _, unsuiteX S6 ok, r6, q6⟩
    | false =>
      show wpAny _ X.A (handleBy (.ref a) X.env []) _ _ _
      refine wpAny_handleBy_nil ?_
      obtain ⟨_, _, _, o5, v5, T, oT, t5, he5, hz5, hd5, h15, _⟩ := id fg
      unfold PySem.passOn
      refine wpAny_bind (wpAny_field (s := { t with heap := g }) he5 hd5 h15 ?_)
      rw [if_neg (show ¬ ((Value.ref T == Value.none) = true) from by simp)]
      have fin : wpAny (model X.prog X.w) X.A (setFlight (.ref a) X.env.frame) (fun _ s4 => wpAny (model X.prog X.w) X.A (throw (.ref a) : Sem Flow) (SP X pins D) X.xe s4) X.xe { t with heap := g } := by
        rw [hf]
        refine HandSPX.setFlight_upZ (s := { t with heap := g }) (flyingZ_imp (fun o z => z.zc) fg) fun h4 hh u4 => wpAny_throw (tk _ _ ?_)
        exact ⟨a, B, sI, pins, σ', H', cls, d, rfl, J, nb, (up.trans ug).trans u4, .inr (.inr (by rw [hs]; exact hh)), na, os, ag, hno rfl⟩
      first | exact wpAny_bind (wpAny_pure (wpAny_bind fin)) | exact wpAny_bind fin
  · match f, x with
    | .next, ⟨σ', H', J', q⟩ => exact wpAny_execs_nil ⟨σ', H', J'.ofTry ok, q⟩
    | .brk, ⟨σ', H', J', q⟩ => exact ⟨σ', H', J'.ofTry ok, q⟩
    | .cont, ⟨σ', H', J', q⟩ => exact ⟨σ', H', J'.ofTry ok, q⟩
    | .ret _, ⟨v, σ', H', J', r, q⟩ => exact ⟨v, σ', H', J'.ofTry ok, r, q⟩
end
/-! ### range of any length -/
theorem turn_long {P : Program} {w : World} {K : PySem.W.Frag} {tg : Expr} (it : Addr) (lo : Int) (n : Nat) : Turn P w K tg (Itr lo n) [it] it (fun i h => IsLongIter h it (lo + (i : Nat) * 1) ((n : Int) - (i : Nat)) 1) where
  mem := List.mem_singleton.mpr rfl
  obj := fun i h st b hb => by
    obtain rfl := List.mem_singleton.mp hb
    exact ⟨_, st, fun v z => Data.noConfusion (show Data.fields _ = Data.cell v from z)⟩
  keep := fun i h g st k => k it (List.mem_singleton.mpr rfl) _ st
  item := by
    intro X hP hw hK hc i pins s σ H E I hf st hg
    subst hP hw hK
    obtain ⟨f0, f1, f2, f3, f4, f5⟩ := hf it (List.mem_singleton.mpr rfl)
    refine (Walks.longrange (prog := X.prog) (w := X.w) (I.ok.hd hc) it lo 1 n).item i s _ _ hg st fun v g tk hv st2 kk => ?_
    obtain ⟨t, rfl⟩ := hv
    have J : Inv X pins σ H { s with heap := g, toks := tk } := I.turned (fun b o hb e => kk b o (fun z => hb (List.mem_singleton.mp z)) e) f0 f1 f3 f4 f5
    refine ⟨_, rfl, go_of (s := { s with heap := g, toks := tk }) (n := "longrange_iterator") st2 rfl rfl (by decide) ⟨.int (lo + i), H, J, ⟨t, by rw [Int.mul_one]⟩, ⟨rfl, rfl⟩, st2, fun b hb => (hf b hb).1⟩⟩
  done := by
    intro X hP hw hK hc i pins s σ H E I hf st hg
    subst hP hw hK
    obtain ⟨f0, f1, f2, f3, f4, f5⟩ := hf it (List.mem_singleton.mpr rfl)
    have hg2 : n ≤ i := hg
    exact wpAny_pyNext_long_end (I.ok.hd hc) st (by omega) fun g eb => ⟨rfl, I.turned (t' := s.toks) (fun b o hb e => eb b o hb e) f0 f1 f3 f4 f5⟩
  self := fun _ _ _ _ _ st h => wpAny_pyIter_longiter st h
def iRngL (ta : TA) : TI := fun σ H R => ta σ H fun vs H1 => ∃ j : Int, vs = [.int j] ∧ 0 ≤ j ∧ R (Itr 0 j.toNat) H1
theorem pi_rangeL {X : Cx} {tg a : Expr} {ta : TA} {p pos : Pos} (hg : Gl X "range") (hm : X.mg "range" = none) (ha : PA X [a] ta) (hs : starEach [a] X.env = [(false, eval a X.env)] := by rfl) : PI X tg (.Call (.Name "range" p) [a] [] pos) (iRngL ta) := by
  refine ⟨fun pins s σ H R I h => ?_⟩
  refine Call_ (ld_blt I hg hm boot_range (PyProof.Rows.callWith_type1 (thn (ha.run pos pins s σ H _ I h) fun us s1 ⟨vs, H1, I1, r1, j, e, j0, q⟩ => ?_) hs rfl))
  subst e
  cases r1 with
  | cons r rr =>
  cases rr
  obtain ⟨t, rfl⟩ := r
  by_cases hj : j < 2 ^ 62
  · exact call_range_1 (range_it I1 (by omega) (by omega) (by omega) hj (by simpa using q))
  refine call_range_1 ?_
  cases hsm : Builtin.Range.small 0 j 1 with
  | true =>
    refine wpAny_pyIter_range (IsRange.new ..) hsm ?_
    refine ⟨_, [_], _, _, H1, rfl, I1.kept (t' := _) fun b o e => Heap.get?_push_of_some _ (Heap.get?_push_of_some _ e), turn_range _ 0 j.toNat, ?_, fun b hb => ?_, q⟩
    · have e2 : ((j.toNat : Nat) : Int) - ((0 : Nat) : Int) = Builtin.Range.rangeSize 0 j 1 := by rw [rangeSize_one]; split <;> omega
      show IsRangeIter _ _ (0 + ((0 : Nat) : Int) * 1) (((j.toNat : Nat) : Int) - ((0 : Nat) : Int)) 1
      rw [show (0 : Int) + ((0 : Nat) : Int) * 1 = 0 by simp, e2]
      exact Heap.get?_push_size _ rfl
    · obtain rfl := List.mem_singleton.mp hb
      exact (I1.kept (t' := s1.toks) fun b o e => Heap.get?_push_of_some _ e).fpOk (Nat.le_refl _) ((I1.kept (t' := s1.toks) fun b o e => Heap.get?_push_of_some _ e).hok.fresh (Nat.le_refl _))
  | false =>
    refine wpAny_pyIter_longrange (IsRange.new ..) hsm ?_
    refine ⟨_, [_], _, _, H1, rfl, I1.kept (t' := _) fun b o e => Heap.get?_push_of_some _ (Heap.get?_push_of_some _ e), turn_long _ 0 j.toNat, ?_, fun b hb => ?_, q⟩
    · have e2 : ((j.toNat : Nat) : Int) - ((0 : Nat) : Int) = Builtin.Range.rangeSize 0 j 1 := by rw [rangeSize_one]; split <;> omega
      show IsLongIter _ _ (0 + ((0 : Nat) : Int) * 1) (((j.toNat : Nat) : Int) - ((0 : Nat) : Int)) 1
      rw [show (0 : Int) + ((0 : Nat) : Int) * 1 = 0 by simp, e2]
      exact Heap.get?_push_size _ rfl
    · obtain rfl := List.mem_singleton.mp hb
      exact (I1.kept (t' := s1.toks) fun b o e => Heap.get?_push_of_some _ e).fpOk (Nat.le_refl _) ((I1.kept (t' := s1.toks) fun b o e => Heap.get?_push_of_some _ e).hok.fresh (Nat.le_refl _))
end TryT
namespace Sk
open PySem PySem.Spec PyProof.Rows L2
abbrev CXL := L2.CX
theorem tk02 {X : Cx} : L2.Takes X W0 := fun _ _ ⟨_, _, _, _, _, _, _, _, _, _, _, _, _, _, _, _, z⟩ => z.elim
theorem passL {X : Cx} {W : WX} (tk : L2.Takes X W) : ∀ σ, PassesAt (CXL X.prog X.w) X σ (WE W σ) := fun σ => L2.passAt tk σ
theorem okL {P : Program} {w : World} {K : PySem.W.Frag} {mg : Str → Option Value} {base : Heap} {x qual : Str} {st : Stmt} {f : Addr} {fd : FuncData} {N ps : List Str} {k : Nat} {sp : Sp} (F : Fun K x qual st f fd) (S : FnScope N ps (defScope st)) (len : ∀ vs H Q E, sp vs H Q E → vs.length = ps.length)
    (hbody : ∀ (cdv : Value) (A : Around) (outer : List Env) (s : Shared) (H : Hp) (vs : List V) (Q : VK) (E : XK), Room k (A.deeper (envOfC qual (defScope st) s.heap.objs.size f cdv)) → sp vs H Q E →
      ∃ t, PSs (cxOf (CXL P w) P w K mg base N qual (defScope st) f cdv A outer s H E) (defBody st) t ∧ t { nx := fun _ H' => Q .non H', rt := Q } (start N vs) H) : FnOk P w K mg base (CXL P w) (k + 1) f fd ps sp := by
  obtain ⟨oc, od, kV, doc, pm, an, cdv, ct, osl, rfl, lk, hcd⟩ := F.ex
  exact fn_of lk hcd S len fun A outer s H vs Q E hr hsp => hbody cdv A outer s H vs Q E hr hsp
abbrev xmN (K : PySem.W.Frag) (c : Value) : Value → Bool → Prop := fun cls b => PySem.W.exmOne K cls c = some b
abbrev xmT (K : PySem.W.Frag) (cs : List Value) : Value → Bool → Prop := fun cls b => PySem.W.exmAny K cls cs = some b
theorem exmAny3 {K : PySem.W.Frag} {cls c1 c2 c3 : Value} {b1 b2 b3 : Bool} (h1 : PySem.W.exmOne K cls c1 = some b1) (h2 : PySem.W.exmOne K cls c2 = some b2) (h3 : PySem.W.exmOne K cls c3 = some b3) : PySem.W.exmAny K cls [c1, c2, c3] = some (b1 || (b2 || (b3 || false))) := by
  unfold PySem.W.exmAny
  rw [h1]
  unfold PySem.W.exmAny
  rw [h2]
  unfold PySem.W.exmAny
  rw [h3]
  unfold PySem.W.exmAny
  rfl
def tTryT (xm : Value → Bool → Prop) (tb : WX → TS) (ts : Addr → Value → Option Addr → TS) (Wout : WX) : TS := fun D σ H => tb (TryT.wCl xm ts Wout D) D σ H
def rTupOf (K : PySem.W.Frag) : List V → Hp → VK → Prop := fun xs H Q => ∃ p ys, xs = [.ref p] ∧ ((SqL K H p ys ∧ ∀ l, H l = none → Q (.ref l) (upd H l (.tup ys))) ∨ (SqT K H p ys ∧ Q (.ref p) H))
theorem cr_tupOf {X : Cx} : CallR X (.type "tuple") (rTupOf X.K) := call_tuple_of
section
variable {K : PySem.W.Frag} {B : Hp} {L : Own} {Q : VK} {σ : St} {D : Ends} {tz ts : TS} {tb : WX → TS} {su : Addr → Value → Option Addr → TS} {W : WX} {cls : Value} {d : Option Addr} {a c : Addr} {b : Bool} {xm : Value → Bool → Prop} {xs ys : List V} {ns ms : List Int} {tr : TA} {g : TG} {j : Int}
theorem n_tryT (q : N B L (fun H => tb (TryT.wCl xm su W (onE D (tz D))) (onE D (tz D)) σ H)) : N B L (fun H => tSeq (tTryT xm tb su W) tz D σ H) := q
theorem n_wCl (em : xm cls true) (q : ∀ a, N B L (fun H => su a cls d D σ H)) : N B L (fun H => TryT.wCl xm su W D cls d σ H) := fun H s => ⟨true, em, fun _ a _ => q a H s, fun h => nomatch h⟩
theorem n_wClF (em : xm cls false) (q : N B L (fun H => W cls d σ H)) : N B L (fun H => TryT.wCl xm su W D cls d σ H) := fun H s => ⟨false, em, (fun h => nomatch h), fun _ => q H s⟩
theorem n_wAsF {i : Nat} {cv : Value} (em : PySem.W.exmOne K cls cv = some false) (q : N B L (fun H => W cls d σ H)) : N B L (fun H => wAs K cv i su W D cls d σ H) := fun H s => ⟨false, em, (fun h => nomatch h), fun _ => q H s⟩
theorem n_wOnF {cv : Value} (em : PySem.W.exmOne K cls cv = some false) (q : N B L (fun H => W cls d σ H)) : N B L (fun H => wOnly K cv su W D cls d σ H) := fun H s => ⟨false, em, (fun h => nomatch h), fun _ => q H s⟩
theorem n_tupOf (h : Sq K B L a xs) (q : ∀ p, N B ((p, .tup xs) :: L) (Q (.ref p))) : N B L (fun H => rTupOf K [.ref a] H Q) := fun H s => ⟨a, xs, rfl, .inl ⟨h H s, fun p hp => q p _ (s.new hp)⟩⟩
theorem n_catT (hl : Tp K B L a xs) (hc : Tp K B L c ys) (hx : xs ≠ []) (hy : ys ≠ []) (hn : xs.length + ys.length ≤ sizeLine) (q : ∀ p, N B ((p, .tup (xs ++ ys)) :: L) (Q (.ref p))) : N B L (fun H => uAdd K (.ref a) (.ref c) H Q) :=
  fun H s => .inr (.inr ⟨a, c, xs, ys, rfl, rfl, hl H s, hc H s, hn, fun e => absurd e hx, fun _ e => absurd e hy, fun _ _ p hp => q p _ (s.new hp)⟩)
/-- range of any length -/
def IRL (R : It → Hp → Prop) (vs : List V) (H1 : Hp) : Prop := ∃ j : Int, vs = [.int j] ∧ 0 ≤ j ∧ R (Itr 0 j.toNat) H1
theorem n_iRL {R : It → Hp → Prop} (q : N B L (fun H => tr σ H (IRL R))) : N B L (fun H => TryT.iRngL tr σ H R) := q
theorem n_lpRL (Pv : Nat → Hp → St → Own → Prop) (hj : 0 ≤ j) (h0 : Pv 0 B σ L)
    (hs : ∀ (i : Nat) B' σ L, Same B B' → (i : Int) < j → Pv i B' σ L → N B' L (fun H => g (.int i) σ H fun σ2 H2 => ts (loE D (KG B' (Pv (i + 1)))) σ2 H2))
    (hd : ∀ B' σ L, Same B B' → Pv j.toNat B' σ L → N B' L (D.nx σ)) : N B L (fun H => IRL (Lp g ts D σ) [.int j] H) := fun H s => ⟨j, rfl, hj,
  n_lpRB (lo := 0) (n := j.toNat) Pv h0 (fun i B' σ L sm hi p => by rw [Int.zero_add]; exact hs i B' σ L sm (by omega) p) hd H s⟩
end
end Sk
/-! ### a comprehension whose element may raise -/
namespace CompX
open PySem PySem.Spec PyProof.Rows L2
theorem hide_one (h : Heap) (C : Addr) : ∃ G : Heap, (∀ b, b ≠ C → G.get? b = h.get? b) ∧ G.get? C = none := by
  obtain ⟨G, g1, g2⟩ := restrict h fun b => decide (b ≠ C)
  exact ⟨G, fun b hb => g1 b (decide_eq_true hb), g2 C (decide_eq_false fun z => z rfl)⟩
section
variable {X : Cx} {W : WX} {pins : List (Addr × Obj)} {σ : L2.St} {H3 : Hp} {s3 : Shared} {scope : Scope} {ce : Env} {fp : List Addr}
/-- what a call within the block lets out goes on in the def -/
theorem goes_out (hs : X.stack = X.env :: X.outer) (hf : X.env.frame = some X.env.locals) (tk : L2N.Takes X W) (I3 : Inv X pins σ H3 s3) (f3 : ∀ b ∈ fp, FpOk X pins H3 b ∧ b < s3.heap.objs.size) (eL : ce.locals = s3.heap.objs.size) (eF : ce.frame = X.env.frame) (pn : List (Addr × Obj)) (σ' : L2.St) :
    PassesAt (L2N.CX X.prog X.w) ((X.blk s3 H3 scope ce fp).tr pn (notedBy (model X.prog X.w) X.A ce (CompFails (model X.prog X.w) X.A X.xe ce))) σ' (WE (fun cls d _ H => W cls d σ H) σ') := by
  intro pins' H1 s1 e s' J c
  obtain ⟨a, B, H', cls, d, rfl, fl, hok, ub, na, os, ag, w⟩ := c
  have fr : X.A.frames = some (X.env :: X.outer) := by rw [I3.ok.frames, hs]
  have fl : HandSPX.FlyingZ B (X.env :: X.outer) a (L2N.Zn cls d) s'.heap := by rw [← hs]; exact fl
  have ub : UB (frs X.stack) H1 H' s1.heap B s'.heap := ub
  have ba : Un (frs X.stack) fp H3 H1 s3.heap s1.heap := J.base
  obtain ⟨m, nm, _⟩ := J.loc
  have nm : s1.heap.Ns ce.locals m := nm
  have C1 : H1 ce.locals = none := J.free
  have C3 : s3.heap.get? ce.locals = none := by
    cases q : s3.heap.get? ce.locals with
    | none => rfl
    | some o => exact absurd (Heap.lt_size q) (by rw [eL]; exact Nat.lt_irrefl _)
  have Cf : ce.locals ∉ frs X.stack := fun hm => by
    obtain ⟨_, o, e, _⟩ := I3.stack.mem hm
    rw [C3] at e
    cases e
  obtain ⟨oC, es, ep, eC, dC⟩ := id nm
  have bC : B.get? ce.locals = some oC := ub.keep _ _ eC C1 Cf
  have C2 : H' ce.locals = none := ub.free _ _ eC C1
  have bF : ∀ b ∈ frs X.stack, B.get? b = none := fun b hb => by
    rw [hs] at hb
    exact (fl.2.2.1.mem hb).1
  have en : noteFrame (.ref a) ce = noteFrame (.ref a) X.env := by unfold noteFrame PySem.frameOf; rw [eF]
  show wpAny _ _ (noteFrame (.ref a) ce) _ _ s'
  rw [en]
  refine PXN.looks_onZ L2N.Zn.steady fr hf fl fun h1 hd1 u1 => ?_
  have nm1 : h1.Ns ce.locals m := ⟨oC, es, ep, hd1.1 _ _ bC, dC⟩
  refine ⟨m, nm1, fun g m' ng sb => ?_⟩
  -- the ground without the block
  obtain ⟨B2, b1, b2⟩ := hide_one B ce.locals
  obtain ⟨G, g1, g2⟩ := restrict s'.heap fun b => decide (b ≠ ce.locals) && ((B.get? b).isSome || decide (b ∈ frs X.stack))
  have gB : ∀ b o, b ≠ ce.locals → B.get? b = some o → G.get? b = some o := fun b o nb e => by
    rw [g1 b (by simp [e, nb])]
    exact fl.1 b o e
  have gF : ∀ b, b ∈ frs X.stack → G.get? b = s'.heap.get? b := fun b hb => g1 b (by
    have : b ≠ ce.locals := fun z => Cf (z ▸ hb)
    simp [hb, this])
  have og : ∀ b o, G.get? b = some o → b ≠ ce.locals ∧ s'.heap.get? b = some o ∧ ((B.get? b).isSome = true ∨ b ∈ frs X.stack) := fun b o e => by
    cases q : (decide (b ≠ ce.locals) && ((B.get? b).isSome || decide (b ∈ frs X.stack))) with
    | false => rw [g2 b q] at e; cases e
    | true =>
      rw [g1 b q] at e
      simp only [Bool.and_eq_true, Bool.or_eq_true, decide_eq_true_eq] at q
      exact ⟨q.1, e, q.2⟩
  have hd2 : HandSPX.HeldZ B2 (X.env :: X.outer) a (L2N.Zn cls d) X.env.locals g := by
    obtain ⟨st, ne, ff, oe, vs, T, oT, ts, q1, q2, q3, q4, q5, q6, q7, q8, q9⟩ := hd1
    have aC : a ≠ ce.locals := fun z => by
      rw [z, st _ _ bC] at q1
      cases q1
      rw [dC.1] at q3
      cases q3
    have tC : T ≠ ce.locals := fun z => by
      rw [z, st _ _ bC] at q7
      cases q7
      rw [dC.1] at q8
      cases q8
    refine ⟨fun b o e => ?_, ?_, ?_, oe, vs, T, oT, ts, (sb.2 _ aC).trans q1, q2, q3, q4, ?_, q6, (sb.2 _ tC).trans q7, q8, q9⟩
    · have nb : b ≠ ce.locals := fun z => by rw [z, b2] at e; cases e
      rw [b1 b nb] at e
      exact (sb.2 b nb).trans (st b o e)
    · rw [b1 a aC]; exact ne
    · refine funFrames_none (Heap.FunFrames.sameBut sb ng ff) fun b hb => ?_
      have hb' : b ∈ frs X.stack := by rw [hs]; exact hb
      rw [b1 b (fun z => Cf (z ▸ hb'))]
      exact bF b hb'
    · rw [b1 T tC]; exact q5
  obtain ⟨_, _, _, oe, vs, T, oT, ts, q1, q2, q3, q4, _⟩ := id hd2
  unfold PySem.passOn
  refine wpAny_bind (wpAny_field (s := { s' with heap := g }) q1 q3 q4 ?_)
  rw [if_neg (show ¬ ((Value.ref T == Value.none) = true) from by simp)]
  have fin : wpAny (model X.prog X.w) X.A (setFlight (.ref a) ce.frame) (fun _ s4 => wpAny (model X.prog X.w) X.A (throw (.ref a) : Sem Value) (fun _ _ => False) X.xe s4) X.xe { s' with heap := g } := by
    rw [eF, hf]
    refine HandSPX.setFlight_onZ (s := { s' with heap := g }) hd2 fun h4 hd4 u4 => wpAny_throw (tk _ _ ?_)
    refine ⟨a, B2, { s3 with heap := G, gens := s'.gens, drawn := s'.drawn, toks := s'.toks }, pins, σ, H', cls, d, rfl, ?_, fun b o e hb => ?_, fun b o e hn => ?_, .inr (.inr (by rw [hs]; exact hd4)), na, (os.trans J.os), ag, w⟩
    · refine I3.call (ch := fp) ⟨fun b o e n hb hx => ?_, fun b o e n hb hx => ?_, fun b o e n hx => ?_, fun b o e hx => ?_, fun b xs e => ub.tups _ _ (ba.tups _ _ e), fun b o u e => ub.frzs _ _ _ (ba.frzs _ _ _ e), fun b ps e => ?_⟩ (fun b ob e => ?_) ag fun b hb => ⟨(f3 b hb).1.2.2.2.1, (f3 b hb).1.2.1, (f3 b hb).1.2.2.2.2.1, (f3 b hb).1.2.2.2.2.2⟩
      · exact gB b o (fun z => by rw [z, C3] at e; cases e) (ub.keep b o (ba.keep b o e n hb hx) (ba.free b o e n hx) hb)
      · obtain ⟨sl, e1⟩ := ba.slot b o e n hb hx
        obtain ⟨sl2, e2⟩ := ub.slot b _ e1 hb
        exact ⟨sl2, by rw [gF b hb]; exact e2⟩
      · obtain ⟨o1, e1⟩ := ba.there b o e hx
        exact ub.free b o1 e1 (ba.free b o e n hx)
      · obtain ⟨o1, e1⟩ := ba.there b o e hx
        by_cases hb : b ∈ frs X.stack
        · obtain ⟨sl, e2⟩ := ub.slot b _ e1 hb
          exact ⟨_, by rw [gF b hb]; exact e2⟩
        · obtain ⟨o2, e2⟩ := ub.there b o1 e1 hb
          exact ⟨o2, gB b o2 (fun z => by rw [z, C3] at e; cases e) e2⟩
      · obtain ⟨m1, e1⟩ := ba.tbls b ps e
        obtain ⟨m2, e2⟩ := ub.tbls b _ e1
        exact ⟨m1 ++ m2, by rw [e2, Array.append_assoc]⟩
      · refine (hok b ob e).stay (fun c u hc q => gB c u (fun z => ?_) q) (fun _ q => q) fun _ _ q => q
        subst z
        rcases hc with hc | hc
        · rw [← hc, C2] at e; cases e
        · rw [C2] at hc; cases hc
    · obtain ⟨nb, e1, hor⟩ := og b o e
      rcases hor with hor | hor
      · obtain ⟨o', q⟩ := Option.isSome_iff_exists.mp hor
        have z := fl.1 b o' q
        rw [e1] at z
        cases z
        rw [b1 b nb]; exact q
      · exact absurd hor hb
    · obtain ⟨nb, e1, _⟩ := og b o e
      obtain ⟨sl, e2⟩ := u1 b o e1 hn
      obtain ⟨sl2, e3⟩ := u4 b _ ((sb.2 b nb).trans e2) hn
      exact ⟨sl2, e3⟩
  first | exact wpAny_bind (wpAny_pure (wpAny_bind fin)) | exact wpAny_bind fin
end
theorem ends_out {M : Model} {A : Around} {E : Value → Shared → Prop} {use : Option (Value → Sem Unit)} {Q : Value → Shared → Prop} {acc x : Value} {ce : Env} {s' : Shared} (h : CompFails M A E ce x s') : compEnds M A E use Q acc ce (.error x) s' := by
  cases use <;> exact h
theorem noted_out {M : Model} {A : Around} {E : Value → Shared → Prop} {use : Option (Value → Sem Unit)} {Q : Value → Shared → Prop} {acc x : Value} {ce : Env} {s' : Shared} (h : notedBy M A ce (CompFails M A E ce) x s') : notedBy M A ce (fun e s2 => compEnds M A E use Q acc ce (.error e) s2) x s' :=
  wpAny_mono h (fun _ _ c => ends_out c) fun _ _ c => ends_out c
def tLcX (wi : TI) (g : TG) (tt : TT) (te : WX → TE) (vs : List Nat) (W : WX) : TE := fun σ H Q => tLc wi g tt (te fun cls d _ H' => W cls d σ H') vs σ H Q
/-- the element's premise -/
abbrev EltOk (X : Cx) (scope : Scope) (elt : Expr) (te : WX → TE) : Prop := ∀ (s : Shared) (H : Hp) (C : Addr) (cl : List (Str × Addr)) (fp : List Addr) (pn : List (Addr × Obj)) (xe : Value → Shared → Prop) (V : WX),
  (∀ σ', PassesAt (L2N.CX X.prog X.w) ((X.blk s H scope (compEnvC scope cl C X.env) fp).tr pn xe) σ' (WE V σ')) → PE ((X.blk s H scope (compEnvC scope cl C X.env) fp).tr pn xe) elt (te V)
section
variable {X : Cx} {W : WX}
theorem lc_out {pins : List (Addr × Obj)} {s : Shared} {σ : L2.St} {H : Hp} {Q : VK} {elt tg iter : Expr} {ifs : List Expr} {scope : Scope} {own : List (Str × Nat)} {pos pos' : Pos} {wi : TI} {g : TG} {tt : TT} {te : WX → TE} {use : Option (Value → Sem Unit)} {Qf : Value → Shared → Prop}
    (hs' : X.stack = X.env :: X.outer) (hf : X.env.frame = some X.env.locals) (tk : L2N.Takes X W) (hc : X.calm = true) (hN : X.N.Nodup) (I : Inv X pins σ H s) (hi : PI X tg iter wi) (ok : BlkOk X.N X.env.scope scope own)
    (hg : ∀ (z : Shared) (Hz : Hp) (C : Addr) (cl : List (Str × Addr)) (fp : List Addr), PG (X.blk z Hz scope (compEnvC scope cl C X.env) fp) tg g)
    (ht : ∀ (z : Shared) (Hz : Hp) (C : Addr) (cl : List (Str × Addr)) (fp : List Addr), PTs (X.blk z Hz scope (compEnvC scope cl C X.env) fp) ifs tt)
    (he : EltOk X scope elt te) (hfold : ∀ x, foldedSetIterable iter X.env x = pure x) (h : tLcX wi g tt te (own.map (·.2)) W σ H Q)
    (hEnd : ∀ D (ce : Env) s9 m H9, Inv X pins σ H9 s9 → Q (.ref D) H9 → s9.heap.Ns ce.locals m → FpOk X pins H9 ce.locals → compEnds (model X.prog X.w) X.A X.xe use Qf (.ref D) ce (.ok .next) s9) :
    wpAny (model X.prog X.w) X.A (comprehension (.ListComp elt [⟨tg, iter, ifs, 0⟩] scope pos) scope X.env pos' (newList []) false (eval iter X.env) use) Qf X.xe s := by
  have free : ∀ z ∈ scope.names, z.2 = .free → ∃ c, X.env.cells.lookup z.1 = some c := fun z hz e => (ok.free z hz e).elim (fun k => I.ok.has _ (.inl k)) fun k => I.ok.has _ (.inr k)
  refine comprehension_at (use := use) rfl hfold (closure_ok free) ok.kind (fun z hz e => by rw [ok.uniq z hz, e]) (thn (hi.run pins s σ H _ I h) fun xv s1 hx => thn hx fun itv s2 h2 => ?_)
  obtain ⟨it, fp, tn, J, H2, rfl, I2, T, st2, f2, q⟩ := h2
  refine wpAny_newObj_type (newEnv_comp ?_) (by show 0 ≤ sizeLine; decide)
  generalize eD : s2.heap.objs.size = D
  have nD : H2 D = none := I2.hok.fresh (Nat.le_of_eq eD)
  obtain ⟨Wm, ⟨m0, w0⟩, turn⟩ := q D nD
  generalize e3 : ({ s2 with heap := s2.heap.push { cls := .type "list", data := .seq ([] : List Value).toArray } } : Shared) = s3
  have I3 : Inv X pins σ (upd H2 D (.lst [])) s3 := by
    rw [← e3]
    exact I2.laid (t' := s2.toks) (fun b o e => Heap.get?_push_of_some _ e) (Nat.le_of_eq eD) ⟨Nat.zero_le _, [], 0, .nil, by rw [← eD]; exact Heap.get?_push_size _ rfl⟩
  have hp3 : s3.heap = s2.heap.push { cls := .type "list", data := .seq ([] : List Value).toArray } := by rw [← e3]
  have f3 : ∀ b ∈ fp, FpOk X pins (upd H2 D (.lst [])) b ∧ b < s3.heap.objs.size := fun b hb => by
    obtain ⟨o, eo, _⟩ := T.obj _ _ st2 b hb
    have lt := Heap.lt_size eo
    exact ⟨⟨by rw [upd_ne (by rw [← eD]; exact Nat.ne_of_lt lt)]; exact (f2 b hb).1, (f2 b hb).2⟩, by rw [hp3, Heap.size_push]; exact Nat.lt_succ_of_lt lt⟩
  have st3 : tn 0 s3.heap := T.keep _ _ _ st2 fun b _ o e => by rw [hp3]; exact Heap.get?_push_of_some _ e
  have I4 := block_start I3 ok hN f3
  generalize ecl : cellsFrom (s3.heap.objs.size + 1) scope.names (cloFrom X.env.cells scope.names []) = cl at I4
  have pg := hg s3 (upd H2 D (.lst [])) s3.heap.objs.size cl fp
  have pt := ht s3 (upd H2 D (.lst [])) s3.heap.objs.size cl fp
  have pe := he s3 (upd H2 D (.lst [])) s3.heap.objs.size cl fp
  show codeAny _ _ (.compStart (.ListComp elt [⟨tg, iter, ifs, 0⟩] scope pos) 0 (.ref it) (.ref D) (compEnvC scope cl s3.heap.objs.size X.env))
    (compEnds (model X.prog X.w) X.A X.xe use Qf (.ref D) (compEnvC scope cl s3.heap.objs.size X.env)) { s3 with heap := pushCells (s3.heap.push { cls := .type "dict", data := .dict #[] }) scope.names }
  have nfp : ∀ b ∈ fp, (upd H2 D (.lst [])) b = none := fun b hb => (f3 b hb).1.1
  generalize ece : compEnvC scope cl s3.heap.objs.size X.env = ce at I4 pg pt pe ⊢
  have cL : ce.locals = s3.heap.objs.size := by subst ece; rfl
  have cF : ce.frame = X.env.frame := by subst ece; rfl
  generalize eH : upd H2 D (.lst []) = H3 at I3 I4 pg pt pe w0 nfp f3
  have out := fun pn σ' => goes_out (scope := scope) (ce := ce) hs' hf tk I3 f3 cL cF pn σ'
  generalize e4 : ({ s3 with heap := pushCells (s3.heap.push { cls := .type "dict", data := .dict #[] }) scope.names } : Shared) = s4 at I4 ⊢
  have st4 : tn 0 s4.heap := T.keep _ _ _ st3 fun b _ o e => by rw [← e4]; exact pushCells_keeps _ _ _ _ (Heap.get?_push_of_some _ e)
  have foot : ∀ {σ' : L2.St} {H' : Hp} {z : Shared}, Inv (X.blk s3 H3 scope ce fp) [] σ' H' z → (∀ b ∈ fp, H' b = none) → ∀ b ∈ fp, FpOk (X.blk s3 H3 scope ce fp) [] H' b := fun {σ' H' z} I' hn b hb =>
    ⟨hn b hb, (I'.ok.exf b hb).1, I'.ok.exfs b hb, .inl hb, fun x c e => (I'.ok.exf b hb).2 x c e, fun p hp => absurd (show p ∈ ([] : List (Addr × Obj)) ++ [] from hp) (by simp)⟩
  have loop : codeAny (model X.prog X.w) X.A (.compLoop (.ListComp elt [⟨tg, iter, ifs, 0⟩] scope pos) 0 (.ref it) (.ref D) ce) (compEnds (model X.prog X.w) X.A X.xe use Qf (.ref D) ce) s4 := by
    refine compLoop_any (fun n z => ∃ i Hz, Inv (X.blk s3 H3 scope ce fp) [] (wipe σ (own.map (·.2))) Hz z ∧ tn i z.heap ∧ (∀ b ∈ fp, Hz b = none) ∧ Wm i n Hz) ?_ m0 ⟨0, H3, I4, st4, nfp, w0⟩
    rintro n s5 ⟨i, H5, I5, st5, n5, w5⟩
    rcases turn i n H5 w5 with ⟨stop, qq⟩ | ⟨go, Nx, hNx, step⟩
    · refine thnF (T.done (X.blk s3 H3 scope ce fp) rfl rfl rfl hc i [] s5 _ H5 (fun _ _ => False) I5 (foot I5 n5) st5 stop) fun r s6 ⟨hr, I6⟩ => ?_
      subst hr
      have I7 : Inv X pins σ H5 s6 := I3.call' (ch := fp) I6.os I6.base I6.hok I6.bare fun b hb => ⟨(f3 b hb).1.2.2.2.1, (f3 b hb).1.2.1, (f3 b hb).1.2.2.2.2.1, (f3 b hb).1.2.2.2.2.2⟩
      have nC : H5 ce.locals = none := I6.free
      obtain ⟨m, hn, _⟩ := I6.loc
      exact hEnd D ce s6 m H5 I7 qq hn (I3.fpOk (Nat.le_of_eq cL.symm) nC)
    · refine thnF (T.item (X.blk s3 H3 scope ce fp) rfl rfl rfl hc i [] s5 _ H5 (fun _ _ => False) I5 (foot I5 n5) st5 go) fun r s6 ⟨u, hr, h6⟩ => ?_
      subst hr
      refine thnF h6 fun _ s7 ⟨x, H7, I7, r7, y7, st7, n7⟩ => ?_
      refine thnF (pg.run _ s7 _ H7 x u _ (I7.pinned (foot I7 n7) (T.obj _ _ st7)) r7 (step x H7 y7)) fun _ s8 ⟨σ8, H8, I8, hw8, q8⟩ => ?_
      refine thnF (pt.run _ s8 σ8 H8 _ I8 q8) fun b s9 ⟨H9, I9, q9⟩ => ?_
      have fin : ∀ {z : Shared} {Hz : Hp}, Inv (X.blk s3 H3 scope ce fp) ([] ++ pinsAt fp s7.heap) σ8 Hz z → Nx Hz → ∃ m, m < n ∧ ∃ i Hz, Inv (X.blk s3 H3 scope ce fp) [] (wipe σ (own.map (·.2))) Hz z ∧ tn i z.heap ∧ (∀ b ∈ fp, Hz b = none) ∧ Wm i m Hz := fun {z Hz} Iz nx => by
        obtain ⟨m1, lt1, w1⟩ := hNx Hz nx
        have still : ∀ b ∈ fp, ∀ o, s7.heap.get? b = some o → z.heap.get? b = some o ∧ Hz b = none := fun b hb o e =>
          let t := Iz.pin (b, o) (List.mem_append_right _ (List.mem_append_right _ (mem_pinsAt hb e)))
          ⟨t.1, t.2.1⟩
        refine ⟨m1, lt1, i + 1, Hz, (Iz.unpinned (pins := [])).weak (by rw [← hw8, wipe_length]) (fun j v e => ?_), T.keep _ _ _ st7 fun b hb o e => (still b hb o e).1, fun b hb => ?_, w1⟩
        · rw [← hw8] at e
          exact (wipe_some e).1
        · obtain ⟨o, e, _⟩ := T.obj _ _ st7 b hb
          exact (still b hb o e).2
      cases b with
      | false =>
        simp only [Bool.false_eq_true, if_false] at q9 ⊢
        exact fin I9 q9
      | true =>
        simp only [if_true] at q9 ⊢
        have okB := I9.ok
        refine wpAny_mono ((pe _ _ _ fun σ' => out ((X.blk s3 H3 scope ce fp).pn ++ ([] ++ pinsAt fp s7.heap)) σ').run [] s9 σ8 H9 _ (I9.toTry _) q9) (fun v s10 z10 => ?_) (fun _ _ z => noted_out z)
        obtain ⟨yv, H10, I10, r10, acc, hD10, hz10, nx⟩ := z10
        exact app_ok (X := X.blk s3 H3 scope ce fp) (I10.ofTry okB) hD10 hz10 r10 fun s11 I11 => fin I11 nx
  exact codeAny_compStart_list loop (T.self X.A 0 _ _ _ st4 loop)
theorem pe_lcX {elt tg iter : Expr} {ifs : List Expr} {scope : Scope} {own : List (Str × Nat)} {pos : Pos} {wi : TI} {g : TG} {tt : TT} {te : WX → TE} (hs' : X.stack = X.env :: X.outer) (hf : X.env.frame = some X.env.locals) (tk : L2N.Takes X W) (hc : X.calm = true) (hN : X.N.Nodup) (hi : PI X tg iter wi) (ok : BlkOk X.N X.env.scope scope own)
    (hg : ∀ (z : Shared) (Hz : Hp) (C : Addr) (cl : List (Str × Addr)) (fp : List Addr), PG (X.blk z Hz scope (compEnvC scope cl C X.env) fp) tg g)
    (ht : ∀ (z : Shared) (Hz : Hp) (C : Addr) (cl : List (Str × Addr)) (fp : List Addr), PTs (X.blk z Hz scope (compEnvC scope cl C X.env) fp) ifs tt)
    (he : EltOk X scope elt te) (hfold : ∀ x, foldedSetIterable iter X.env x = pure x := by intro _; rfl) : PE X (.ListComp elt [⟨tg, iter, ifs, 0⟩] scope pos) (tLcX wi g tt te (own.map (·.2)) W) := by
  refine ⟨fun pins s σ H Q I h => ?_⟩
  rw [eval_ListComp]
  refine lc_out hs' hf tk hc hN I hi ok hg ht he hfold h fun D ce s9 m H9 I9 q hn f => ⟨m, hn, fun h2 sb => ?_⟩
  obtain ⟨f0, f1, f2, f3, f4, f5⟩ := f
  exact ⟨.ref D, H9, I9.turned (t' := s9.toks) (fun b o hb e => (sb.2 b hb).trans e) f0 f1 f3 f4 f5, rfl, q⟩
theorem ps_setLcX {i : Nat} {y : Str} {py : Pos} {elt tg iter : Expr} {ifs : List Expr} {scope : Scope} {own : List (Str × Nat)} {pos spos : Pos} {wi : TI} {g : TG} {tt : TT} {te : WX → TE} (hs' : X.stack = X.env :: X.outer) (hf : X.env.frame = some X.env.locals) (tk : L2N.Takes X W) (hc : X.calm = true) (hN : X.N.Nodup) (hy : X.N[i]? = some y) (hyl : X.env.scope.names.lookup y = some .local)
    (hsw : swapsWith (.ListComp elt [⟨tg, iter, ifs, 0⟩] scope pos) (some (.Name y py)) spos.line X.env = pure true) (hi : PI X tg iter wi) (ok : BlkOk X.N X.env.scope scope own)
    (hg : ∀ (z : Shared) (Hz : Hp) (C : Addr) (cl : List (Str × Addr)) (fp : List Addr), PG (X.blk z Hz scope (compEnvC scope cl C X.env) fp) tg g)
    (ht : ∀ (z : Shared) (Hz : Hp) (C : Addr) (cl : List (Str × Addr)) (fp : List Addr), PTs (X.blk z Hz scope (compEnvC scope cl C X.env) fp) ifs tt)
    (he : EltOk X scope elt te) (hfold : ∀ x, foldedSetIterable iter X.env x = pure x := by intro _; rfl) : PS X (.Assign [.Name y py] (.ListComp elt [⟨tg, iter, ifs, 0⟩] scope pos) spos) (tAsg (tLcX wi g tt te (own.map (·.2)) W) (gName i)) := by
  refine ⟨fun pins s σ H D I h => ?_⟩
  rw [exec_Assign_Name_used _ _ _ _ hsw]
  refine wpAny_bind (wpAny_standAt (wpAny_bind ?_))
  show wpAny _ X.A (do let _ ← comprehension (.ListComp elt [⟨tg, iter, ifs, 0⟩] scope pos) scope X.env (firstIterPos [⟨tg, iter, ifs, 0⟩] pos) (newList []) false (eval iter X.env) (some (assign (.Name y py) X.env))) _ _ s
  have h : tLcX wi g tt te (own.map (·.2)) W σ H (fun x H1 => gName i x σ H1 D.nx) := h
  refine wpAny_bind (thn (lc_out (Qf := fun _ z => SP X pins D .next z) hs' hf tk hc hN I hi ok hg ht he hfold h fun Ls ce s9 m H9 I9 q hn f => ?_) fun _ _ hq => wpAny_pure (wpAny_pure hq))
  show wpAny _ _ (assign (.Name y py) X.env (.ref Ls)) _ _ _
  refine wpAny_assign_Name (store_ok2 (v := V.ref Ls) I9 hN hy (.inl hyl) rfl (fun s10 I10 ⟨a, sb, ha⟩ => ?_) (.inr hyl))
  obtain ⟨f0, f1, f2, f3, f4, f5⟩ := f
  have nCa : ce.locals ≠ a := ha.elim (fun z => by rw [z]; exact f1) fun z e => f4 y a z e.symm
  exact ⟨m, hn.sameBut sb nCa, fun h11 sb2 => ⟨_, H9, I10.turned (t' := s10.toks) (fun b o hb e => (sb2.2 b hb).trans e) f0 f1 f3 f4 f5, q⟩⟩
end
end CompX
namespace Sk
open PySem PySem.Spec PyProof.Rows L2
theorem n_lcX {B : Hp} {L : Own} {Q : VK} {σ : St} {wi : TI} {g : TG} {tt : TT} {te : WX → TE} {vs : List Nat} {W : WX} (q : N B L (fun H => wi σ H (Lc g tt (te fun cls d _ H' => W cls d σ H') vs σ Q))) : N B L (fun H => CompX.tLcX wi g tt te vs W σ H Q) := q
end Sk
/-! ### more of texts: repeated, x or y, walked by a comprehension -/
namespace Sk
open PySem PySem.Spec PyProof.Rows L2
def repS (z : Str) (n : Nat) : Str := ⟨(List.replicate n z.cps).foldl (· ++ ·) #[]⟩
def rMulS : R2 := fun x y H Q => ∃ (z : Str) (n : Nat), x = .str z ∧ y = .int n ∧ (1 < n ∧ n < 2 ^ 30) ∧ (0 < z.length ∧ z.length < 2 ^ 20) ∧ (Builtin.Str.tooLong (z.length * n) = false ∧ (repS z n).length ≤ sizeLine) ∧ Q (.str (repS z n)) H
theorem op_mulS {X : Cx} : OpR X (binaryOp .Mult) rMulS := by
  intro pins s σ H x y v u Q I rx ry h
  obtain ⟨z, n, rfl, rfl, ⟨h1, h2⟩, ⟨h3, h4⟩, ⟨h5, h6⟩, q⟩ := h
  obtain ⟨t, rfl⟩ := rx
  obtain ⟨t', rfl⟩ := ry
  have e1 : ¬ (n : Int) < 1 := by omega
  have e2 : ((n : Int) == 1 || z.length == 0) = false := by
    rw [Bool.or_eq_false_iff]
    exact ⟨by simpa using by omega, by simpa using by omega⟩
  refine P.mul_str ?_ (fun _ _ => ?_) (fun _ _ => by rw [Int.toNat_natCast]; exact h5) ?_
  · rw [Bool.or_eq_false_iff]
    exact ⟨decide_eq_false (by omega), decide_eq_false (by omega)⟩
  · have h7 : (2 ^ 20 : Int) ≤ (2 ^ 63 - 1) / (n : Int) := Int.le_ediv_of_mul_le (by omega) (by omega)
    omega
  · rw [if_neg e1, e2, Int.toNat_natCast]
    exact ⟨h6, .str (repS z n), H, I.tok _, ⟨_, rfl⟩, q⟩
section
variable {B : Hp} {L : Own} {K : PySem.W.Frag} {σ : St} {Q : VK} {z : Str} {n : Nat} {ta tb : TE}
theorem n_mulS (h1 : 1 < n ∧ n < 2 ^ 30) (h2 : 0 < z.length ∧ z.length < 2 ^ 20) (h3 : Builtin.Str.tooLong (z.length * n) = false ∧ (repS z n).length ≤ sizeLine) (q : N B L (Q (.str (repS z n)))) : N B L (fun H => rMulS (.str z) (.int n) H Q) := fun H s => ⟨z, n, rfl, rfl, h1, h2, h3, q H s⟩
theorem n_orT (q : N B L (fun H => ta σ H fun x H1 => ∃ k, TruV K x H1 k ∧ if k = true then Q x H1 else tb σ H1 Q)) : N B L (fun H => tOrT K ta tb σ H Q) := q
theorem n_orS {k : Str → Hp → Prop} {k2 : Hp → Prop} (hz : z.length ≤ sizeLine) (q1 : z.length ≠ 0 → N B L (k z)) (q2 : z.length = 0 → N B L k2) : N B L (fun H => ∃ c, TruV K (.str z) H c ∧ if c = true then k z H else k2 H) := by
  intro H s
  by_cases h : z.length = 0
  · exact ⟨false, ⟨hz, by rw [h]; rfl⟩, q2 h H s⟩
  · refine ⟨true, ⟨hz, ?_⟩, q1 h H s⟩
    symm
    simpa using h
variable {g : TG} {tt : TT} {te : TE} {vs : List Nat}
/-- [e for sign in text if t] -/
theorem n_lcS (Pv : Nat → List V → Own → Prop) (h0 : Pv 0 [] L)
    (hs : ∀ i acc L D (hi : i < z.cps.toList.length), Pv i acc L → N B ((D, .lst acc) :: L) (fun H => g (.str ⟨#[z.cps.toList[i]]⟩) (wipe σ vs) H fun σ2 H2 => wipe σ2 vs = wipe σ vs ∧ tt σ2 H2 fun b H3 =>
      if b = true then te σ2 H3 (fun y H4 => ∃ acc, H4 D = some (.lst acc) ∧ acc.length < sizeLine ∧ (∃ L, SI B L (upd H4 D (.lst (acc ++ [y]))) ∧ ∃ a L', L = (D, .lst a) :: L' ∧ Pv (i + 1) a L')) else (∃ L, SI B L H3 ∧ ∃ a L', L = (D, .lst a) :: L' ∧ Pv (i + 1) a L')))
    (hd : ∀ acc L D, Pv z.cps.toList.length acc L → N B ((D, .lst acc) :: L) (Q (.ref D))) : N B L (fun H => ∃ x, V.str z = .str x ∧ Lc g tt te vs σ Q (Its x) H) := by
  intro H s
  refine ⟨z, rfl, ?_⟩
  refine lc_core (J := Its z) z.cps.toList.length (fun i => .str ⟨#[z.cps.toList.getD i 0]⟩) Pv (fun i acc L H p hi s => ?_) (fun acc L H p s => ?_) (fun i acc L H x H' p hi s h => ?_) h0 (fun i acc L D hi p => ?_) hd H s
  · show i < z.cps.size
    rwa [← Array.length_toList]
  · show z.cps.size ≤ _
    rw [← Array.length_toList]; exact Nat.le_refl _
  · obtain ⟨e, c, hc, hx⟩ := h
    refine ⟨e, ?_⟩
    rw [hx, List.getD_eq_getElem?_getD, Array.getElem?_toList, hc]; rfl
  · have e : z.cps.toList.getD i 0 = z.cps.toList[i] := by rw [List.getD_eq_getElem?_getD, List.getElem?_eq_getElem hi]; rfl
    show N B _ (fun H => g (.str ⟨#[z.cps.toList.getD i 0]⟩) (wipe σ vs) H _)
    rw [e]
    exact hs i acc L D hi p
end
end Sk
namespace Sk
open PySem PySem.Spec PyProof.Rows L2
section
variable {B : Hp} {L : Own} {K : PySem.W.Frag} {σ : St} {Q : VK} {z : Str}
theorem n_slS {lo hi : Option Int} (hz : z.length ≤ sizeLine) (q : N B L (Q (.str (cutS z lo hi)))) : N B L (fun H => rSlS (.str z) lo hi H Q) := fun H s => ⟨z, rfl, hz, q H s⟩
end
end Sk
namespace Gk57
open PySem PySem.Spec PyProof.Rows L2 Sk
local macro_rules | `(tactic| walk_at "sk bs") => `(tactic| (simp only [Bool.not_true, Bool.not_false, Bool.or_false, Bool.false_or, Bool.or_true, Bool.true_or, Bool.and_true, Bool.true_and, Bool.and_false, Bool.false_and, Bool.or_self, Bool.and_self, decide_true, decide_false, eq_self, bne_self_eq_false, beq_self_eq_true]))
local macro_rules | `(tactic| walk_at "sk om") => `(tactic| ((try simp only [Bool.not_eq_false', Bool.not_eq_true', Bool.and_eq_true, Bool.or_eq_true, Bool.and_eq_false_iff, Bool.or_eq_false_iff, decide_eq_true_eq, decide_eq_false_iff_not, Bool.not_true, Bool.not_false, Bool.false_or, Bool.true_and, Bool.and_true, Bool.or_false, List.length_map, eq_self, Decidable.not_not, true_and, and_true, Bool.true_eq_false, Bool.false_eq_true, false_or, or_false]); all_goals omega))
local macro_rules | `(tactic| walk_at "sk ix") => `(tactic| first | exact own_ix 0 rfl | exact own_ix 1 rfl | exact own_ix 2 rfl | exact own_ix 3 rfl | exact own_ix 4 rfl | exact own_ix 5 rfl | exact own_ix 6 rfl | exact own_ix 7 rfl | exact own_ix 8 rfl | exact own_ix 9 rfl | exact own_ix 10 rfl | exact own_ix 11 rfl | fail "sk")
local macro_rules | `(tactic| walk_at "sk len") => `(tactic| ((first | refine sz_ok ?_ | refine sz_lt ?_ | skip); first | assumption | omega | ((try simp only [List.length_cons, List.length_nil, List.length_append, List.length_map, List.length_set, List.length_replicate, List.length_take, List.length_range, List.length_drop, List.length_reverse, List.length_tail]); first | done | omega)))
local macro_rules | `(tactic| walk_at "sk sd") => `(tactic| first | with_reducible assumption | omega | (simp only [Int.toNat_natCast]; first | omega | exact Or.inr ⟨by omega, by omega⟩ | exact Or.inl ⟨by omega, by omega⟩) | exact cpow1 (by omega) (by omega) | exact ⟨by omega, by omega⟩ | assumption | decide | exact rfl | exact Or.inl ⟨by omega, by omega⟩ | exact Or.inr ⟨by omega, by omega⟩ | exact ⟨by omega, by omega⟩ | fail "sk")
local macro_rules | `(tactic| walk_at "sk sq") => `(tactic| first | exact sq_own 0 rfl | exact sq_own 1 rfl | exact sq_own 2 rfl | exact sq_own 3 rfl | exact sq_own 4 rfl | exact sq_own 5 rfl | exact sq_own 6 rfl | exact sq_own 7 rfl | exact sq_own 8 rfl | exact sq_own 9 rfl | exact sq_own 10 rfl | exact sq_own 11 rfl | assumption | (apply sq_old; assumption) | (apply sq_old; apply SqL.of; assumption) | (apply is_sq; assumption) | (apply Sq.sub; (next => assumption); (next => walk_at "sk sub")) | (apply is_sq; apply Is.sub; (next => assumption); (next => walk_at "sk sub")) | (apply Sq.mono; (next => assumption); walk_at "sk sq") | fail "sk")
local macro_rules | `(tactic| walk_at "sk tp") => `(tactic| first | exact tp_own 0 rfl | exact tp_own 1 rfl | exact tp_own 2 rfl | exact tp_own 3 rfl | exact tp_own 4 rfl | exact tp_own 5 rfl | exact tp_own 6 rfl | exact tp_own 7 rfl | exact tp_own 8 rfl | exact tp_own 9 rfl | exact tp_own 10 rfl | exact tp_own 11 rfl | assumption | (apply tp_old; assumption) | (apply tp_old; apply SqT.of; assumption) | (apply Tp.sub; (next => assumption); (next => walk_at "sk sub")) | (apply Tp.mono; (next => assumption); walk_at "sk tp") | fail "sk")
local macro_rules | `(tactic| walk_at "sk is") => `(tactic| first | exact is_own 0 rfl | exact is_own 1 rfl | exact is_own 2 rfl | exact is_own 3 rfl | exact is_own 4 rfl | exact is_own 5 rfl | exact is_own 6 rfl | exact is_own 7 rfl | exact is_own 8 rfl | exact is_own 9 rfl | exact is_own 10 rfl | exact is_own 11 rfl | assumption | (apply is_old; assumption) | (apply Is.sub; (next => assumption); (next => walk_at "sk sub")) | (apply Is.mono; (next => assumption); walk_at "sk is") | fail "sk")
local macro_rules | `(tactic| walk_at "sk da") => `(tactic| first | assumption | exact da_int | exact da_str | exact da_bl | exact da_non | exact Da.nil (by assumption) | (apply Da.sub; (next => assumption); (next => walk_at "sk sub")) | (apply da_ints; walk_at "sk sq") | (apply Da.mono; (next => assumption); walk_at "sk da") | fail "sk")
local macro_rules | `(tactic| walk_at "sk sm") => `(tactic| first | assumption | exact (Same.refl _) | (refine Same.trans ?_ (by assumption); walk_at "sk sm") | fail "sk")
local macro_rules | `(tactic| walk_at "sk lk") => `(tactic| first | exact lk_hit | exact lk_nil | (refine (lk_miss (by decide +kernel)).trans ?_; walk_at "sk lk") | fail "sk")
local macro_rules | `(tactic| walk_at "sk pf") => `(tactic| first | exact pf_nil | exact pf_hit | (apply pf_miss; (next => decide +kernel); walk_at "sk pf") | fail "sk")
local macro_rules | `(tactic| walk_at "sk dd") => `(tactic| first | walk_at "sk da" | (apply da_tup; (next => walk_at "sk tp"); repeat (first | exact daA_nil | (apply daA_cons; (next => walk_at "sk dd")))) | (apply da_lst; (next => walk_at "sk sq"); repeat (first | exact daA_nil | (apply daA_cons; (next => walk_at "sk dd")))) | fail "sk")
local macro_rules | `(tactic| walk_at "sk pd") => `(tactic| first | exact Paired.nil | (apply Paired.cons; (next => first | exact ClsV.own _ | exact ClsV.ty _); walk_at "sk pd") | fail "sk")
local macro_rules | `(tactic| walk_at "sk sub") => `(tactic| first | exact List.Sublist.refl _ | exact List.nil_sublist _ | (refine List.Sublist.cons₂ _ ?_; walk_at "sk sub") | (refine List.Sublist.cons _ ?_; walk_at "sk sub") | fail "sk")
local macro_rules | `(tactic| walk_at "sk st") => `(tactic| with_reducible first
  | (apply n_chain2; (next => (with_unfolding_all intro hb Qb qb; (try simp only [decide_eq_true_eq, decide_eq_false_iff_not, Bool.not_eq_true', Bool.and_eq_true, Bool.or_eq_true] at hb); walk_at "sk stp"; with_unfolding_all exact qb)))
  | (refine n_c ?_) | (apply n_var; (next => with_unfolding_all exact rfl)) | (refine n_op ?_)
  | (refine n_asg ?_) | (refine n_cons ?_) | (refine n_nil ?_) | (refine n_test ?_) | (refine n_tB ?_) | (refine n_bl ?_) | (refine n_cb ?_) | (refine n_call ?_)
  | (refine n_add ?_) | (refine n_sub_ ?_)
  | (apply n_mod; (next => with_unfolding_all walk_at "sk sd")) | (apply n_div; (next => with_unfolding_all walk_at "sk sd"); (next => with_unfolding_all walk_at "sk sd"))
  | (apply n_mul; (next => with_unfolding_all walk_at "sk sd")) | (apply n_pow; (next => with_unfolding_all walk_at "sk sd"); (try simp only [Int.reduceToNat, Int.reducePow])) | (apply n_shl; (next => with_unfolding_all walk_at "sk sd")) | (apply n_shr; (next => with_unfolding_all walk_at "sk sd"))
  | (refine n_and1 ?_) | (refine n_and127 ?_) | (refine n_and_ ?_) | (refine n_bits ?_) | (refine n_bits2 ?_)
  | (apply n_eqSt; (next => with_unfolding_all exact rfl)) | (apply n_eqSf; (next => decide +kernel)) | (apply n_neSf; (next => with_unfolding_all exact rfl)) | (apply n_neSt; (next => decide +kernel))
  | (refine n_eq ?_) | (refine n_ne ?_) | (refine n_lt ?_) | (refine n_le ?_) | (refine n_gt ?_) | (refine n_ge ?_) | (refine n_eqS ?_) | (refine n_neS ?_) | (refine n_eqB ?_) | (refine n_neB ?_) | (refine n_isN0 ?_) | (refine n_isNr ?_) | (refine n_isNi ?_) | (refine n_notN0 ?_) | (refine n_notNr ?_) | (refine n_notNi ?_)
  | (refine n_un ?_) | (refine n_neg ?_) | (refine n_not ?_) | (refine n_notV ?_) | (refine n_chain ?_) | (refine n_chain3 ?_)
  | (refine n_lst ?_) | (refine n_tup ?_) | (apply n_lst2; (next => with_unfolding_all walk_at "sk len"); intro p) | (apply n_tup2; (next => with_unfolding_all walk_at "sk len"); intro p)
  | (apply n_lenLi; (next => with_unfolding_all walk_at "sk sq")) | (apply n_len; (next => with_unfolding_all walk_at "sk sq")) | (apply n_lenT; (next => with_unfolding_all walk_at "sk tp"))
  | (apply n_listOf; (next => with_unfolding_all walk_at "sk sq"); intro p)
  | (apply n_ixL; (next => with_unfolding_all walk_at "sk sq"); (next => with_unfolding_all exact rfl))
  | (apply n_ixT; (next => with_unfolding_all walk_at "sk tp"); (next => with_unfolding_all exact rfl))
  | (apply n_ixLast; (next => with_unfolding_all walk_at "sk sq"))
  | (apply n_ixLiN; (next => with_unfolding_all walk_at "sk sq"); (next => with_unfolding_all walk_at "sk sd"); (next => with_unfolding_all walk_at "sk sd"))
  | (apply n_ixLi; (next => with_unfolding_all walk_at "sk sq"); (next => with_unfolding_all walk_at "sk sd"); (next => with_unfolding_all walk_at "sk sd"))
  | (refine n_sl ?_) | (refine n_noPart ?_) | (refine n_part ?_) | (refine n_int ?_) | (apply n_slLi; (next => with_unfolding_all walk_at "sk sq"); intro p) | (apply n_slL; (next => with_unfolding_all walk_at "sk sq"); intro p)
  | (apply n_eqNil; (next => with_unfolding_all walk_at "sk sq"); (next => with_unfolding_all walk_at "sk is")) | (apply n_neNil; (next => with_unfolding_all walk_at "sk sq"); (next => with_unfolding_all walk_at "sk is"))
  | (apply n_eqLi; (next => with_unfolding_all walk_at "sk sq"); (next => with_unfolding_all walk_at "sk sq"))
  | (apply n_neLi; (next => with_unfolding_all walk_at "sk sq"); (next => with_unfolding_all walk_at "sk sq"))
  | (apply n_isi_int (b := true); (next => with_unfolding_all exact rfl)) | (apply n_isi_int (b := false); (next => with_unfolding_all exact rfl)) | (apply n_isi_bl (b := true); (next => with_unfolding_all exact rfl)) | (apply n_isi_bl (b := false); (next => with_unfolding_all exact rfl)) | (apply n_isi_str (b := true); (next => with_unfolding_all exact rfl)) | (apply n_isi_str (b := false); (next => with_unfolding_all exact rfl)) | (apply n_isi_non (b := true); (next => with_unfolding_all exact rfl)) | (apply n_isi_non (b := false); (next => with_unfolding_all exact rfl))
  | (apply n_isi_lst (b := true); (next => with_unfolding_all walk_at "sk is"); (next => with_unfolding_all exact rfl)) | (apply n_isi_lst (b := false); (next => with_unfolding_all walk_at "sk is"); (next => with_unfolding_all exact rfl)) | (apply n_isi_tup (b := true); (next => with_unfolding_all walk_at "sk is"); (next => with_unfolding_all exact rfl)) | (apply n_isi_tup (b := false); (next => with_unfolding_all walk_at "sk is"); (next => with_unfolding_all exact rfl))
  | (refine n_unf ?_)
  | (refine n_next ?_; try dsimp only [onE_nx, onE_rt, onE_bk, onE_ct, loE_nx, loE_rt, loE_bk, loE_ct, endE_rt, endE_nx, asE_nx, asE_rt, asE_bk, asE_ct]) | (refine n_ret ?_; try dsimp only [onE_nx, onE_rt, onE_bk, onE_ct, loE_nx, loE_rt, loE_bk, loE_ct, endE_rt, endE_nx, asE_nx, asE_rt, asE_bk, asE_ct]) | (refine n_retN ?_; try dsimp only [onE_nx, onE_rt, onE_bk, onE_ct, loE_nx, loE_rt, loE_bk, loE_ct, endE_rt, endE_nx, asE_nx, asE_rt, asE_bk, asE_ct]) | (refine n_if ?_) | (refine n_drop ?_) | (refine n_seqNext ?_) | (refine n_seqBrk ?_; try dsimp only [onE_nx, onE_rt, onE_bk, onE_ct, loE_nx, loE_rt, loE_bk, loE_ct, endE_rt, endE_nx, asE_nx, asE_rt, asE_bk, asE_ct]) | (refine n_seqCont ?_; try dsimp only [onE_nx, onE_rt, onE_bk, onE_ct, loE_nx, loE_rt, loE_bk, loE_ct, endE_rt, endE_nx, asE_nx, asE_rt, asE_bk, asE_ct])
  | (apply n_aug; (next => with_unfolding_all exact rfl)) | (refine n_ip ?_)
  | (refine n_asgS ?_) | (refine n_asgT ?_) | (refine n_gCons ?_) | (refine n_gConsT ?_) | (refine n_gNil ?_) | (refine n_gName ?_) | (apply n_gTup; (next => with_unfolding_all walk_at "sk tp"); (next => with_unfolding_all exact rfl))
  | (refine n_bm ?_) | (apply n_tyL; (next => with_unfolding_all walk_at "sk sq"))
  | (apply n_appendLi; (next => with_unfolding_all walk_at "sk ix"); (next => with_unfolding_all walk_at "sk len"))
  | (apply n_setLi; (next => with_unfolding_all walk_at "sk ix"); (next => with_unfolding_all walk_at "sk sd"); (next => with_unfolding_all walk_at "sk sd"))
  | (apply n_extendLi; (next => with_unfolding_all walk_at "sk ix"); (next => with_unfolding_all walk_at "sk is"); (next => with_unfolding_all walk_at "sk len")) | (refine n_iR3 ?_)
  | (apply n_catLi; (next => with_unfolding_all walk_at "sk is"); (next => with_unfolding_all walk_at "sk is"); (next => with_unfolding_all walk_at "sk len"); intro p)
  | (apply n_cat; (next => with_unfolding_all walk_at "sk is"); (next => with_unfolding_all walk_at "sk is"); (next => with_unfolding_all walk_at "sk len"); intro p)
  | (apply n_append; (next => with_unfolding_all walk_at "sk ix"); (next => with_unfolding_all walk_at "sk len"))
  | (apply n_setL; (next => with_unfolding_all walk_at "sk ix"); (next => with_unfolding_all exact rfl))
  | (refine n_for ?_) | (refine n_iList ?_) | (refine n_iTup ?_) | (refine n_iR1 ?_) | (refine n_iR2 ?_) | (refine n_iE ?_) | (refine n_iV ?_) | (refine n_iZ ?_) | (refine n_iZR ?_) | (refine n_lc ?_) | (refine n_lcX ?_) | (refine n_yes ?_) | (apply n_wiped; (next => with_unfolding_all exact rfl))
  | (apply n_inLi; (next => with_unfolding_all walk_at "sk sq")) | (apply n_niLi; (next => with_unfolding_all walk_at "sk sq")) | (apply n_count; (next => with_unfolding_all walk_at "sk sq"))
  | (refine n_iteT ?_) | (refine n_iteF ?_) | (apply n_iteFe; (next => with_unfolding_all exact rfl)) | (apply n_iteTe; (next => with_unfolding_all exact rfl))
  | (apply n_and; (next => (with_unfolding_all intro Qb qb; walk_at "sk stp"; with_unfolding_all exact qb)); (next => (with_unfolding_all intro hb Qb qb; (try simp only [decide_eq_true_eq, decide_eq_false_iff_not, Bool.not_eq_true', Bool.and_eq_true, Bool.or_eq_true] at hb); walk_at "sk stp"; with_unfolding_all exact qb)))
  | (apply n_or; (next => (with_unfolding_all intro Qb qb; walk_at "sk stp"; with_unfolding_all exact qb)); (next => (with_unfolding_all intro hb Qb qb; (try simp only [decide_eq_true_eq, decide_eq_false_iff_not, Bool.not_eq_false', Bool.and_eq_true, Bool.or_eq_true] at hb); walk_at "sk stp"; with_unfolding_all exact qb)))
  | (apply n_andV; (next => (with_unfolding_all intro Qb qb; walk_at "sk stp"; with_unfolding_all exact qb)); (next => (with_unfolding_all intro hb Qb qb; (try simp only [decide_eq_true_eq, decide_eq_false_iff_not, Bool.not_eq_true', Bool.and_eq_true, Bool.or_eq_true] at hb); walk_at "sk stp"; with_unfolding_all exact qb)))
  | (apply n_orV; (next => (with_unfolding_all intro Qb qb; walk_at "sk stp"; with_unfolding_all exact qb)); (next => (with_unfolding_all intro hb Qb qb; (try simp only [decide_eq_true_eq, decide_eq_false_iff_not, Bool.not_eq_false', Bool.and_eq_true, Bool.or_eq_true] at hb); walk_at "sk stp"; with_unfolding_all exact qb)))
  | (refine n_cl ?_) | (refine n_mt ?_) | (refine n_mkk ?_) | (refine n_mkK ?_; intro x dx) | (apply n_mtK; (next => with_unfolding_all walk_at "sk is"); (next => with_unfolding_all walk_at "sk lk"))
  | (refine n_fld ?_) | (apply n_fldK; (next => with_unfolding_all walk_at "sk is"); (next => with_unfolding_all walk_at "sk cl"); (next => with_unfolding_all walk_at "sk na"); (next => with_unfolding_all walk_at "sk lk"))
  | (refine n_asgF ?_) | (apply n_sfK; (next => with_unfolding_all walk_at "sk ix"); (next => with_unfolding_all walk_at "sk cl"); (next => with_unfolding_all walk_at "sk na"); (next => with_unfolding_all walk_at "sk len"); (next => with_unfolding_all walk_at "sk pf"))
  | (refine n_asgFa ?_) | (apply n_faK; (next => with_unfolding_all walk_at "sk is"); (next => with_unfolding_all walk_at "sk cl"); (next => with_unfolding_all walk_at "sk na"); (next => with_unfolding_all walk_at "sk lk"))
  | (apply n_fa2; (next => with_unfolding_all walk_at "sk ix"); (next => with_unfolding_all walk_at "sk len"); (next => with_unfolding_all walk_at "sk pf"))
  | (refine n_tryT ?_) | (apply n_wCl; (next => with_unfolding_all walk_at "sk em"); intro ea) | (apply n_wClF; (next => with_unfolding_all walk_at "sk em")) | (refine n_iRL ?_) | (apply n_tupOf; (next => with_unfolding_all walk_at "sk sq"); intro p) | (apply n_dgT; (next => with_unfolding_all walk_at "sk is"); (next => with_unfolding_all walk_at "sk is"); (next => assumption))
  | (refine n_tryAs ?_) | (refine n_tryOn ?_) | (apply n_wAs; (next => with_unfolding_all walk_at "sk em"); intro ea) | (apply n_wOn; (next => with_unfolding_all walk_at "sk em"); intro ea)
  | (apply n_isX1; (next => with_unfolding_all walk_at "sk kx"); (next => with_unfolding_all walk_at "sk kit")) | (apply n_isX2; (next => with_unfolding_all walk_at "sk kx"); (next => with_unfolding_all walk_at "sk kit"))
  | (apply n_isXT; (next => with_unfolding_all walk_at "sk kx"); (next => with_unfolding_all walk_at "sk is"); (next => with_unfolding_all walk_at "sk pd"); (next => with_unfolding_all walk_at "sk kit"))
  | (apply n_ixS; (next => with_unfolding_all walk_at "sk len"); (next => assumption))
  | (apply n_intS; (next => assumption); (next => with_unfolding_all walk_at "sk sd"))
  | (refine n_ckw ?_) | (apply n_maxDf; (next => with_unfolding_all walk_at "sk sq")) | (refine n_m1 ?_) | (refine n_isS ?_) | (refine n_inSg ?_) | (refine n_niSg ?_) | (refine n_iStr ?_) | (apply n_lenS; (next => with_unfolding_all walk_at "sk len")) | (apply n_strIs; (next => with_unfolding_all walk_at "sk sd"); (next => with_unfolding_all walk_at "sk sd"))
  | (apply n_dnew; intro p) | (apply n_dnewT; intro p) | (refine n_dget ?_) | (refine n_din ?_) | (refine n_dni ?_) | (refine n_asgD ?_) | (refine n_asgDa ?_) | (refine n_dg1 ?_) | (refine n_dg2 ?_) | (refine n_dp1 ?_)
  | (apply n_dgI; (next => with_unfolding_all walk_at "sk is"); (next => assumption)) | (apply n_dgS; (next => with_unfolding_all walk_at "sk is"); (next => assumption)) | (apply n_dgT; (next => with_unfolding_all walk_at "sk is"); (next => with_unfolding_all walk_at "sk is"); (next => assumption))
  | (apply n_dinI; (next => with_unfolding_all walk_at "sk is")) | (apply n_dinS; (next => with_unfolding_all walk_at "sk is")) | (apply n_dinT; (next => with_unfolding_all walk_at "sk is"); (next => with_unfolding_all walk_at "sk is"))
  | (apply n_dniI; (next => with_unfolding_all walk_at "sk is")) | (apply n_dniS; (next => with_unfolding_all walk_at "sk is")) | (apply n_dniT; (next => with_unfolding_all walk_at "sk is"); (next => with_unfolding_all walk_at "sk is"))
  | (apply n_dpI; (next => with_unfolding_all walk_at "sk ix"); (next => with_unfolding_all walk_at "sk len")) | (apply n_dpS; (next => with_unfolding_all walk_at "sk ix"); (next => with_unfolding_all walk_at "sk len")) | (apply n_dpT; (next => with_unfolding_all walk_at "sk ix"); (next => with_unfolding_all walk_at "sk is"); (next => with_unfolding_all walk_at "sk len"))
  | (refine n_rAdd ?_) | (refine n_rSub ?_) | (apply n_daI; (next => with_unfolding_all walk_at "sk is"); (next => assumption)) | (apply n_da2I; (next => with_unfolding_all walk_at "sk ix"); (next => with_unfolding_all walk_at "sk len"))
  | (apply n_dg1K; (next => with_unfolding_all walk_at "sk is")) | (refine n_dg1I (by walk_at "sk is") ?_) | (refine n_dg1S (by walk_at "sk is") ?_) | (apply n_dg2K; (next => with_unfolding_all walk_at "sk is")) | (apply n_dg2I; (next => with_unfolding_all walk_at "sk is")) | (apply n_dg2S; (next => with_unfolding_all walk_at "sk is"))
  | (apply n_dp1K; (next => with_unfolding_all walk_at "sk is")) | (apply n_dp1I; (next => with_unfolding_all walk_at "sk ix"); (next => assumption)) | (apply n_dp1S; (next => with_unfolding_all walk_at "sk ix"); (next => assumption))
  | (apply n_sortI; (next => with_unfolding_all walk_at "sk sq"); intro p) | (apply n_sum; (next => with_unfolding_all walk_at "sk sq")) | (refine n_bm0 ?_) | (apply n_popL; (next => with_unfolding_all walk_at "sk ix"))
  | (refine n_max2 ?_) | (refine n_min2 ?_) | (refine n_intI ?_) | (refine n_intB ?_)
  | (refine n_rs ?_) | (refine n_nonA ?_ rfl)
  | (refine n_orC ?_) | (refine n_andC ?_) | (refine n_orCV ?_) | (refine n_andCV ?_) | (refine n_orK ?_) | (refine n_andK ?_)
  | (apply n_iteFe; (next => walk_at "sk bs")) | (apply n_iteTe; (next => walk_at "sk bs")) | (apply n_iteFe; (next => with_unfolding_all walk_at "sk om")) | (apply n_iteTe; (next => with_unfolding_all walk_at "sk om"))
  | (dsimp only [onE_nx, onE_rt, onE_bk, onE_ct, loE_nx, loE_rt, loE_bk, loE_ct, endE_rt, endE_nx, asE_nx, asE_rt, asE_bk, asE_ct]))
local macro_rules | `(tactic| walk_at "sk mulW") => `(tactic| (with_reducible apply n_mulW; (next => (unfold CMulW; decide +kernel)); (try simp only [Int.reduceMul])))
local macro_rules | `(tactic| walk_at "sk stp") => `(tactic| repeat walk_at "sk st")
def topS (i : Nat) : Stmt := PySem.Challenge.pw_seekpress_k57_texts_refused.main.body.getD i (.Pass ⟨0, 0, 0, 0⟩)
structure Ads where
  c_NoText : Addr
  c_PressError : Addr
  c_Twice : Addr
  c_NoThing : Addr
  c_NoRule : Addr
  c_NoRow : Addr
  c_NoRepeat : Addr
  c_NoPlace : Addr
  c_NoName : Addr
  c_NoMake : Addr
  c_NoKids : Addr
  c_NoHold : Addr
  c_NoCode : Addr
  c_NoBlock : Addr
  c_NoBits : Addr
  c_Broken : Addr
structure Fct (K : PySem.W.Frag) (A : Ads) : Prop where
  e_NoText : ExcC K A.c_NoText
  m_NoText_PressError : PySem.W.exmOne K (.ref A.c_NoText) (.ref A.c_PressError) = some true
  kk_NoText_0 : PySem.W.kitAny K (.ref A.c_NoText) [(.ref A.c_NoRepeat), (.ref A.c_NoRow), (.ref A.c_NoRule), (.ref A.c_NoThing), (.ref A.c_Twice)] = some false
  kk_NoText_1 : PySem.W.kitAny K (.ref A.c_NoText) [(.ref A.c_Broken), (.ref A.c_NoBits), (.ref A.c_NoBlock), (.ref A.c_NoCode), (.ref A.c_NoHold), (.ref A.c_NoKids), (.ref A.c_NoMake), (.ref A.c_NoName), (.ref A.c_NoPlace)] = some false
  kk_NoText_2 : PySem.W.kitOne K (.ref A.c_NoText) (.ref A.c_NoText) = some true
  kk_NoText_3 : PySem.W.kitOne K (.ref A.c_NoText) (.type "ValueError") = some true
local macro_rules | `(tactic| walk_at "sk cl") => `(tactic| first | exact trivial)
local macro_rules | `(tactic| walk_at "sk na") => `(tactic| first | exact trivial)
local macro_rules | `(tactic| walk_at "sk kx") => `(tactic| first | exact (‹Fct _ _›).e_NoText)
local macro_rules | `(tactic| walk_at "sk em") => `(tactic| first | exact (‹Fct _ _›).m_NoText_PressError)
local macro_rules | `(tactic| walk_at "sk kit") => `(tactic| first | exact (‹Fct _ _›).kk_NoText_0 | exact (‹Fct _ _›).kk_NoText_1 | exact (‹Fct _ _›).kk_NoText_2 | exact (‹Fct _ _›).kk_NoText_3)
structure Txt (K : PySem.W.Frag) (mg : Str → Option Value) (A : Ads) : Prop where
  fct : Fct K A
  b_ValueError : mg "ValueError" = none
  b_int : mg "int" = none
  b_isinstance : mg "isinstance" = none
  b_len : mg "len" = none
  b_max : mg "max" = none
  b_range : mg "range" = none
  b_str : mg "str" = none
  c_FIGURES : ∃ u, mg "FIGURES" = some u ∧ RelV (.str "0123456789") u
  c_GREATEST : ∃ u, mg "GREATEST" = some u ∧ RelV (.int (255)) u
  g_NoText : mg "NoText" = some (.ref A.c_NoText)
  g_PressError : mg "PressError" = some (.ref A.c_PressError)
  g_Twice : mg "Twice" = some (.ref A.c_Twice)
  g_NoThing : mg "NoThing" = some (.ref A.c_NoThing)
  g_NoRule : mg "NoRule" = some (.ref A.c_NoRule)
  g_NoRow : mg "NoRow" = some (.ref A.c_NoRow)
  g_NoRepeat : mg "NoRepeat" = some (.ref A.c_NoRepeat)
  g_NoPlace : mg "NoPlace" = some (.ref A.c_NoPlace)
  g_NoName : mg "NoName" = some (.ref A.c_NoName)
  g_NoMake : mg "NoMake" = some (.ref A.c_NoMake)
  g_NoKids : mg "NoKids" = some (.ref A.c_NoKids)
  g_NoHold : mg "NoHold" = some (.ref A.c_NoHold)
  g_NoCode : mg "NoCode" = some (.ref A.c_NoCode)
  g_NoBlock : mg "NoBlock" = some (.ref A.c_NoBlock)
  g_NoBits : mg "NoBits" = some (.ref A.c_NoBits)
  g_Broken : mg "Broken" = some (.ref A.c_Broken)
  x_NoText : PySem.W.excIn K A.c_NoText [.type "ValueError", .type "Exception", .type "BaseException", .type "object"] "ValueError.__new__" = true
  k_NoText : PySem.W.keepIn K (.ref A.c_NoText) = true
  s_NoText : PySem.W.subIn K (.ref A.c_NoText) (.type "BaseException") = some true
  t_NoText : PySem.W.typeIn K (.ref A.c_NoText) = some (.type "type")
def Draw (o : HO) : Prop := ∃ x : Int, o = .lst [.int x] ∧ 0 ≤ x
abbrev s_w_take : Stmt := topS 24
abbrev N_w_take : List Str := ["_law_draw", "_law_many", "_law_digit"]
theorem sc_w_take : FnScope N_w_take ["_law_draw", "_law_many"] (defScope s_w_take) := ⟨rfl, rfl, rfl, by decide +kernel, rfl, by decide +kernel, by decide +kernel⟩







def sp_w_take (K : PySem.W.Frag) (A : Ads) : Sp := fun zvs zH Q E => ∃ (B : Hp) (G : Own) (p : Addr) (o : HO) (m : Int), zvs = [.ref p, .int m] ∧ SI B ((p, o) :: G) zH ∧ (Draw o) ∧ (0 < m ∧ m < 2 ^ 200) ∧ (∀ o' d, Draw o' → 0 ≤ d → d < m → NP B [] p o' G (Q (.int d)))
theorem len_w_take {K : PySem.W.Frag} {A : Ads} : ∀ vs H Q E, sp_w_take K A vs H Q E → vs.length = 2 := by
  intro vs H Q E h
  obtain ⟨_, _, _, _, _, rfl, _⟩ := h
  rfl
def x_w_take_0 (K : PySem.W.Frag) (A : Ads) (E : XK) : TS :=
  (tSeq (tAsg (tOp uDiv (tOp (rIx K) (tVar 0) (tC (.int (0)))) (tVar 1)) (gSub (tVar 0) (tC (.int (0))) rSetL))
    (tSeq (tRet (tVar 2))
    tNext))
instance {K : PySem.W.Frag} {A : Ads} {E : XK} : Unf (x_w_take_0 K A E) (
  (tSeq (tAsg (tOp uDiv (tOp (rIx K) (tVar 0) (tC (.int (0)))) (tVar 1)) (gSub (tVar 0) (tC (.int (0))) rSetL))
    (tSeq (tRet (tVar 2))
    tNext))) := ⟨rfl⟩
def t_w_take (K : PySem.W.Frag) (A : Ads) (E : XK) : TS :=
  (tSeq (tAsg (tOp uMod (tOp (rIx K) (tVar 0) (tC (.int (0)))) (tVar 1)) (gName 2))
    (x_w_take_0 K A E))
theorem pure_w_take {K : PySem.W.Frag} {A : Ads} (T : Fct K A) (vs : List V) (H : Hp) (Q : VK) (E : XK) (h : sp_w_take K A vs H Q E) : t_w_take K A E (endE Q) (L2.start N_w_take vs) H := by
  obtain ⟨B, G, p, o, m, rfl, zs, ho, hm, k⟩ := h
  refine (?_ : N B ((p, o) :: G) (fun H => t_w_take K A E (endE Q) (L2.start N_w_take [.ref p, .int m]) H)) H zs
  clear zs
  unfold t_w_take

  obtain ⟨x, rfl, hx⟩ := ho
  obtain ⟨m0, m1⟩ := hm
  walk_at "sk stp"
  refine n_divW (wide_div (b := 200) m0 (by omega) (by decide) (by decide)) ?_
  walk_at "sk stp"
  exact k _ _ ⟨_, rfl, Int.ediv_nonneg hx (by omega)⟩ (Int.emod_nonneg _ (by omega)) (Int.emod_lt_of_pos _ m0)
theorem raw_w_take {P : Program} {w : World} {K : PySem.W.Frag} {mg : Str → Option Value} {base : Heap} {A : Ads} {f : Addr} {fd : FuncData} (F : Fun K "_law_take" "_law_take" s_w_take f fd) (T : Txt K mg A) : FnOk P w K mg base CX0 1 f fd ["_law_draw", "_law_many"] (sp_w_take K A) := by
  refine F.ok sc_w_take (fun vs H Q E h => len_w_take vs H Q E h) (fun cdv Ar outer s H vs Q E hr h => ⟨t_w_take K A E, PSs.nox ?_, pure_w_take T.fct vs H Q E h⟩)
  have nd := sc_w_take.nd
  exact (pss_cons (ps_set (i := 2) nd rfl (Or.inl rfl) (pe_op op_uMod (pe_ix ix_seq (pv 0) pe_int (fun _ _ => rfl)) (pv 1)))
    (pss_cons (ps_asg (pe_op op_uDiv (pe_ix ix_seq (pv 0) pe_int (fun _ _ => rfl)) (pv 1)) (pg_sub (pv 0) pe_int set_list))
    (pss_cons (ps_ret (pv 2))
    pss_nil)))
theorem use_w_take {K : PySem.W.Frag} {A : Ads} {B : Hp} {L : Own} {Q : VK} {E : XK} {p : Addr} {o : HO} {m : Int} (i : Nat) (hi : L[i]? = some (p, o)) (ho : Draw o) (hm : 0 < m ∧ m < 2 ^ 200) (zq : ∀ o' d, Draw o' → 0 ≤ d → d < m → NQ B [] p o' L i (Q (.int d))) : N B L (fun H => sp_w_take K A [.ref p, .int m] H Q E) := fun zH zs => ⟨B, _, _, _, _, rfl, zs.front hi, ho, hm, by (intros; first | (refine NP.of hi ?_; apply zq <;> assumption) | (apply zq <;> assumption))⟩

abbrev s_w_purse : Stmt := topS 25
abbrev N_w_purse : List Str := ["_law_script", "_law_k", "_law_cell", "_law_digits", "_law_mix", "_law_come", "_law_j"]
theorem sc_w_purse : FnScope N_w_purse ["_law_script", "_law_k"] (defScope s_w_purse) := ⟨rfl, rfl, rfl, by decide +kernel, rfl, by decide +kernel, by decide +kernel⟩








def sp_w_purse (K : PySem.W.Frag) (A : Ads) : Sp := fun zvs zH Q E => ∃ (B : Hp) (G : Own) (a : Addr) (ns : List Int) (k0 : Int), zvs = [.ref a, .int k0] ∧ SI B G zH ∧ (Sq K B G a (ns.map V.int)) ∧ (0 ≤ k0 ∧ k0 ≤ 100) ∧ (ns.length ≤ 63) ∧ (∀ p o, Draw o → N B ((p, o) :: G) (Q (.ref p)))
theorem len_w_purse {K : PySem.W.Frag} {A : Ads} : ∀ vs H Q E, sp_w_purse K A vs H Q E → vs.length = 2 := by
  intro vs H Q E h
  obtain ⟨_, _, _, _, _, rfl, _⟩ := h
  rfl
def x_w_purse_0 (K : PySem.W.Frag) (A : Ads) (E : XK) : TS :=
  (tSeq (tAsg (tOp uMod (tOp (uAdd K) (tOp (uAdd K) (tOp (uAdd K) (tOp uMul (tVar 4) (tC (.int (48271)))) (tOp uMul (tVar 6) (tVar 6))) (tOp uMul (tC (.int (7))) (tVar 1))) (tC (.int (1)))) (tC (.int (2147483647)))) (gName 4))
    (tSeq (tAsg (tOp (uAdd K) (tOp uMul (tVar 5) (tC (.int (2147483647)))) (tVar 4)) (gName 5))
    tNext))
instance {K : PySem.W.Frag} {A : Ads} {E : XK} : Unf (x_w_purse_0 K A E) (
  (tSeq (tAsg (tOp uMod (tOp (uAdd K) (tOp (uAdd K) (tOp (uAdd K) (tOp uMul (tVar 4) (tC (.int (48271)))) (tOp uMul (tVar 6) (tVar 6))) (tOp uMul (tC (.int (7))) (tVar 1))) (tC (.int (1)))) (tC (.int (2147483647)))) (gName 4))
    (tSeq (tAsg (tOp (uAdd K) (tOp uMul (tVar 5) (tC (.int (2147483647)))) (tVar 4)) (gName 5))
    tNext))) := ⟨rfl⟩
def x_w_purse_1 (K : PySem.W.Frag) (A : Ads) (E : XK) : TS :=
  (tSeq (tFor (iRng1 (tCons (tC (.int (16))) tNil)) (gName 6)
    (x_w_purse_0 K A E))
    (tSeq (tRet (tLst (tCons (tVar 5) tNil)))
    tNext))
instance {K : PySem.W.Frag} {A : Ads} {E : XK} : Unf (x_w_purse_1 K A E) (
  (tSeq (tFor (iRng1 (tCons (tC (.int (16))) tNil)) (gName 6)
    (x_w_purse_0 K A E))
    (tSeq (tRet (tLst (tCons (tVar 5) tNil)))
    tNext))) := ⟨rfl⟩
def x_w_purse_2 (K : PySem.W.Frag) (A : Ads) (E : XK) : TS :=
  (tSeq (tAsg (tOp uMod (tOp (uAdd K) (tVar 2) (tCB (uLen K) (tCons (tVar 0) tNil))) (tC (.int (2147483647)))) (gName 4))
    (tSeq (tAsg (tC (.int (0))) (gName 5))
    (x_w_purse_1 K A E)))
instance {K : PySem.W.Frag} {A : Ads} {E : XK} : Unf (x_w_purse_2 K A E) (
  (tSeq (tAsg (tOp uMod (tOp (uAdd K) (tVar 2) (tCB (uLen K) (tCons (tVar 0) tNil))) (tC (.int (2147483647)))) (gName 4))
    (tSeq (tAsg (tC (.int (0))) (gName 5))
    (x_w_purse_1 K A E)))) := ⟨rfl⟩
def x_w_purse_3 (K : PySem.W.Frag) (A : Ads) (E : XK) : TS :=
  (tSeq (tIfS (tTest (tOp uGe (tVar 3) (tOp uPow (tC (.int (10))) (tC (.int (18))))))
    (tSeq (tRet (tLst (tCons (tVar 3) tNil)))
    tNext)
    tNext)
    (x_w_purse_2 K A E))
instance {K : PySem.W.Frag} {A : Ads} {E : XK} : Unf (x_w_purse_3 K A E) (
  (tSeq (tIfS (tTest (tOp uGe (tVar 3) (tOp uPow (tC (.int (10))) (tC (.int (18))))))
    (tSeq (tRet (tLst (tCons (tVar 3) tNil)))
    tNext)
    tNext)
    (x_w_purse_2 K A E))) := ⟨rfl⟩
def x_w_purse_4 (K : PySem.W.Frag) (A : Ads) (E : XK) : TS :=
  (tSeq (tAsg (tOp uMod (tVar 2) (tOp uMul (tOp uMul (tOp uPow (tC (.int (10))) (tC (.int (60)))) (tOp uPow (tC (.int (10))) (tC (.int (60))))) (tOp uPow (tC (.int (10))) (tC (.int (30)))))) (gName 3))
    (x_w_purse_3 K A E))
instance {K : PySem.W.Frag} {A : Ads} {E : XK} : Unf (x_w_purse_4 K A E) (
  (tSeq (tAsg (tOp uMod (tVar 2) (tOp uMul (tOp uMul (tOp uPow (tC (.int (10))) (tC (.int (60)))) (tOp uPow (tC (.int (10))) (tC (.int (60))))) (tOp uPow (tC (.int (10))) (tC (.int (30)))))) (gName 3))
    (x_w_purse_3 K A E))) := ⟨rfl⟩
def x_w_purse_5 (K : PySem.W.Frag) (A : Ads) (E : XK) : TS :=
  (Evl.tCut (tIfS (tTest (tOp uLt (tVar 1) (tCB (uLen K) (tCons (tVar 0) tNil))))
    (tSeq (tAsg (tOp (rIx K) (tVar 0) (tVar 1)) (gName 2))
    tNext)
    tNext)
    (x_w_purse_4 K A E))
instance {K : PySem.W.Frag} {A : Ads} {E : XK} : Unf (x_w_purse_5 K A E) (
  (Evl.tCut (tIfS (tTest (tOp uLt (tVar 1) (tCB (uLen K) (tCons (tVar 0) tNil))))
    (tSeq (tAsg (tOp (rIx K) (tVar 0) (tVar 1)) (gName 2))
    tNext)
    tNext)
    (x_w_purse_4 K A E))) := ⟨rfl⟩
def t_w_purse (K : PySem.W.Frag) (A : Ads) (E : XK) : TS :=
  (tSeq (tAsg (tC (.int (0))) (gName 2))
    (x_w_purse_5 K A E))
theorem pure_w_purse {K : PySem.W.Frag} {A : Ads} (T : Fct K A) (vs : List V) (H : Hp) (Q : VK) (E : XK) (h : sp_w_purse K A vs H Q E) : t_w_purse K A E (endE Q) (L2.start N_w_purse vs) H := by
  obtain ⟨B, G, a, ns, k0, rfl, zs, hs, h0, hl, k⟩ := h
  refine (?_ : N B G (fun H => t_w_purse K A E (endE Q) (L2.start N_w_purse [.ref a, .int k0]) H)) H zs
  clear zs
  unfold t_w_purse

  walk_at "sk stp"
  refine n_cut (fun σ L => ∃ c : Int, σ = [some (.ref a), some (.int k0), some (.int c), none, none, none, none] ∧ G = L) ?_ ?_
  · walk_at "sk stp"
    refine n_iteD (fun hb => ?_) (fun hb => ?_)
    · walk_at "sk stp"
      exact n_ki ⟨_, rfl, rfl⟩ (.refl _)
    · walk_at "sk stp"
      exact n_ki ⟨_, rfl, rfl⟩ (.refl _)
  · rintro σ L ⟨c, rfl, rfl⟩
    walk_at "sk stp"
    walk_at "sk mulW"
    walk_at "sk stp"
    walk_at "sk mulW"
    walk_at "sk stp"
    refine n_iteD (fun hb => ?_) (fun hb => ?_)
    · walk_at "sk stp"
      exact k _ _ ⟨_, rfl, by omega⟩
    · walk_at "sk stp"
      refine n_lpR1 (fun i σ L => ∃ (mx cm : Int) (d : Int) (y : Option V), σ = [some (.ref a), some (.int k0), some (.int c), some (.int d), some (.int mx), some (.int cm), y] ∧ G = L ∧ 0 ≤ mx ∧ mx < 2147483647 ∧ 0 ≤ cm) (by decide) ⟨_, _, _, none, rfl, rfl, by omega, by omega, by decide⟩ ?_ ?_
      · rintro i σ L hi ⟨mx, cm, d, y, rfl, rfl, h1, h2, h3⟩
        walk_at "sk stp"
        exact n_ki ⟨_, _, _, _, rfl, rfl, by omega, by omega, by omega⟩ (.refl _)
      · rintro σ L ⟨mx, cm, d, y, rfl, rfl, h1, h2, h3⟩
        walk_at "sk stp"
        exact k _ _ ⟨_, rfl, h3⟩
theorem raw_w_purse {P : Program} {w : World} {K : PySem.W.Frag} {mg : Str → Option Value} {base : Heap} {A : Ads} {f : Addr} {fd : FuncData} (F : Fun K "_law_purse" "_law_purse" s_w_purse f fd) (T : Txt K mg A) : FnOk P w K mg base CX0 1 f fd ["_law_script", "_law_k"] (sp_w_purse K A) := by
  refine F.ok sc_w_purse (fun vs H Q E h => len_w_purse vs H Q E h) (fun cdv Ar outer s H vs Q E hr h => ⟨t_w_purse K A E, PSs.nox ?_, pure_w_purse T.fct vs H Q E h⟩)
  have nd := sc_w_purse.nd
  exact (pss_cons (ps_set (i := 2) nd rfl (Or.inl rfl) pe_int)
    (Evl.pss_cut (ps_if (pt_cmpR op_uLt (pv 1) (pe_callB call_uLen (by rfl) T.b_len boot_len (pa_cons (pv 0) pa_nil)) (nomark _)) (pss_cons (ps_set (i := 2) nd rfl (Or.inl rfl) (pe_ix ix_seq (pv 0) (pv 1) (fun _ _ => rfl)))
    pss_nil) pss_nil)
    (pss_cons (ps_set (i := 3) nd rfl (Or.inl rfl) (pe_op op_uMod (pv 2) (pe_op op_uMul (pe_op op_uMul (pe_op op_uPow pe_int pe_int) (pe_op op_uPow pe_int pe_int)) (pe_op op_uPow pe_int pe_int))))
    (pss_cons (ps_if (pt_cmpR op_uGe (pv 3) (pe_op op_uPow pe_int pe_int) (nomark _)) (pss_cons (ps_ret (pe_lst (pa_cons (pv 3) pa_nil)))
    pss_nil) pss_nil)
    (pss_cons (ps_set (i := 4) nd rfl (Or.inl rfl) (pe_op op_uMod (pe_op op_uAdd (pv 2) (pe_callB call_uLen (by rfl) T.b_len boot_len (pa_cons (pv 0) pa_nil))) pe_int))
    (pss_cons (ps_set (i := 5) nd rfl (Or.inl rfl) pe_int)
    (pss_cons (ps_for PassesOwn.never rfl (pi_range1 (by rfl) T.b_range (pa_cons pe_int pa_nil)) (pg_name (i := 6) nd rfl (Or.inl rfl))
    (pss_cons (ps_set (i := 4) nd rfl (Or.inl rfl) (pe_op op_uMod (pe_op op_uAdd (pe_op op_uAdd (pe_op op_uAdd (pe_op op_uMul (pv 4) pe_int) (pe_op op_uMul (pv 6) (pv 6))) (pe_op op_uMul pe_int (pv 1))) pe_int) pe_int))
    (pss_cons (ps_set (i := 5) nd rfl (Or.inl rfl) (pe_op op_uAdd (pe_op op_uMul (pv 5) pe_int) (pv 4)))
    pss_nil)))
    (pss_cons (ps_ret (pe_lst (pa_cons (pv 5) pa_nil)))
    pss_nil))))))))
theorem use_w_purse {K : PySem.W.Frag} {A : Ads} {B : Hp} {G : Own} {Q : VK} {E : XK} {a : Addr} {ns : List Int} {k0 : Int} (hs : Sq K B G a (ns.map V.int)) (h0 : 0 ≤ k0 ∧ k0 ≤ 100) (hl : ns.length ≤ 63) (zq : ∀ p o, Draw o → N B ((p, o) :: G) (Q (.ref p))) : N B G (fun H => sp_w_purse K A [.ref a, .int k0] H Q E) := fun zH zs => ⟨B, _, _, _, _, rfl, zs, hs, h0, hl, zq⟩








def IsText (ds : List Int) : Prop := ∀ d ∈ ds, 0 ≤ d ∧ d < 256
theorem words_ok : ∀ m : Fin 256, (1 ≤ (strI (m.val : Int)).length ∧ (strI (m.val : Int)).length ≤ 3) ∧ (∃ c, atI (strI (m.val : Int)).cps.toList 0 = some c ∧ (decide ((⟨#[c]⟩ : Str) = "0") && !decide (strI (m.val : Int) = "0")) = false) ∧ (∀ c ∈ (strI (m.val : Int)).cps.toList, c ∈ ("0123456789" : Str).cps.toList) := by
  have h : ∀ m : Fin 256, (1 ≤ (strI (m.val : Int)).length ∧ (strI (m.val : Int)).length ≤ 3) ∧ ((atI (strI (m.val : Int)).cps.toList 0).any fun c => !(decide ((⟨#[c]⟩ : Str) = "0") && !decide (strI (m.val : Int) = "0"))) = true ∧ (∀ c ∈ (strI (m.val : Int)).cps.toList, c ∈ ("0123456789" : Str).cps.toList) := by decide +kernel
  intro m
  obtain ⟨h1, h2, h3⟩ := h m
  refine ⟨h1, ?_, h3⟩
  cases e : atI (strI (m.val : Int)).cps.toList 0 with
  | none => rw [e] at h2; cases h2
  | some c =>
    rw [e] at h2
    refine ⟨c, rfl, ?_⟩
    have h2' : (!(decide ((⟨#[c]⟩ : Str) = "0") && !decide (strI (m.val : Int) = "0"))) = true := h2
    cases hb : (decide ((⟨#[c]⟩ : Str) = "0") && !decide (strI (m.val : Int) = "0")) with
    | false => rfl
    | true => rw [hb] at h2'; cases h2'
theorem word_ok {m : Int} (h0 : 0 ≤ m) (h1 : m < 256) : (1 ≤ (strI m).length ∧ (strI m).length ≤ 3) ∧ (∃ c, atI (strI m).cps.toList 0 = some c ∧ (decide ((⟨#[c]⟩ : Str) = "0") && !decide (strI m = "0")) = false) ∧ (∀ c ∈ (strI m).cps.toList, c ∈ ("0123456789" : Str).cps.toList) := by
  have h := words_ok ⟨m.toNat, by omega⟩
  rw [show ((⟨m.toNat, by omega⟩ : Fin 256).val : Int) = m by show ((m.toNat : Nat) : Int) = m; omega] at h
  exact h
theorem word_int {m : Int} (h0 : 0 ≤ m) (h1 : m < 256) : intText? (strI m) = some m := PySem.W.KIN.num_reads h0 (by omega)
def showT (ms : List Int) : Str := if ms = [] then "none" else Txt.join " " (ms.map strI)
theorem showT_split {ms : List Int} (hm : IsText ms) (h : ms ≠ []) : Txt.split (Txt.join " " (ms.map strI)) " " = ms.map strI := by
  refine TL.split_join (s := 32) (S := []) rfl (by decide +kernel) (by simpa using h) fun p hp => ?_
  obtain ⟨m, hmm, rfl⟩ := List.mem_map.mp hp
  intro h32
  have := (word_ok (hm m hmm).1 (hm m hmm).2).2.2 32 h32
  revert this
  decide
theorem showT_ne {ms : List Int} (hm : IsText ms) (h : ms ≠ []) : ¬ Txt.join (" " : Str) (ms.map strI) = ("none" : Str) := by
  intro e
  have h1 := showT_split hm h
  rw [e, show Txt.split ("none" : Str) (" " : Str) = [("none" : Str)] by decide +kernel] at h1
  cases ms with
  | nil => exact h rfl
  | cons m r =>
    rw [List.map_cons] at h1
    have h2 := (List.cons.inj h1).1
    have h3 := (word_ok (hm m List.mem_cons_self).1 (hm m List.mem_cons_self).2).2.2 110
    rw [← h2] at h3
    have := h3 (by decide)
    revert this
    decide
theorem words_len {ms : List Int} (hm : IsText ms) (hl : ms.length ≤ 100000) : ((ms.map strI).map (·.length)).sum + (ms.map strI).length * (" " : Str).length ≤ 16777216 := by
  have := strs_len (b := 3) (ys := ms.map strI) fun y hy => by
    obtain ⟨m, hmm, rfl⟩ := List.mem_map.mp hy
    exact (word_ok (hm m hmm).1 (hm m hmm).2).1.2
  rw [List.length_map] at this ⊢
  rw [show (" " : Str).length = 1 from rfl]
  omega
theorem join_len {b : Nat} (ys : List Str) (h : ∀ y ∈ ys, y.length ≤ b) : (Txt.join " " ys).length ≤ (b + 1) * ys.length := by
  cases ys with
  | nil => exact Nat.zero_le _
  | cons a r =>
    have e : (Txt.join " " (a :: r)).length = ((a :: r).map (·.length)).sum + r.length * (" " : Str).length := by
      rw [TL.join_eq, len_join_cons]
    have := strs_len h
    rw [e, show (" " : Str).length = 1 from rfl, List.length_cons, Nat.add_mul]
    rw [List.length_cons] at this
    omega
/-! what a text writes -/
def figs : List Nat := ("0123456789" : Str).cps.toList
def wchk (w : Str) : Bool := match intText? w, atI w.cps.toList 0 with
  | some n, some c => decide (0 ≤ n) && decide (n ≤ 999) && ((decide ((⟨#[c]⟩ : Str) = "0") && !decide (w = "0")) == !decide (w = strI n))
  | _, _ => false
theorem w1 : ∀ a ∈ figs, wchk ⟨#[a]⟩ = true := by decide +kernel
theorem w2 : ∀ a ∈ figs, ∀ b ∈ figs, wchk ⟨#[a, b]⟩ = true := by decide +kernel
theorem w3 : ∀ a ∈ figs, ∀ b ∈ figs, ∀ c ∈ figs, wchk ⟨#[a, b, c]⟩ = true := by decide +kernel
def wordOk (w : Str) : Prop := 1 ≤ w.length ∧ w.length ≤ 3 ∧ ∀ c ∈ w.cps.toList, c ∈ figs
instance (w : Str) : Decidable (wordOk w) := inferInstanceAs (Decidable (_ ∧ _ ∧ _))
theorem word_chk {w : Str} (h : wordOk w) : wchk w = true := by
  obtain ⟨h1, h2, h3⟩ := h
  have e : w = ⟨w.cps.toList.toArray⟩ := by cases w; rfl
  have hl : w.cps.toList.length = w.length := by cases w; exact Array.length_toList
  generalize w.cps.toList = l at *
  subst e
  match l, hl, h3 with
  | [], hl, _ => rw [List.length_nil] at hl; omega
  | [a], _, h3 => exact w1 a (h3 a (by simp))
  | [a, b], _, h3 => exact w2 a (h3 a (by simp)) b (h3 b (by simp))
  | [a, b, c], _, h3 => exact w3 a (h3 a (by simp)) b (h3 b (by simp)) c (h3 c (by simp))
  | a :: b :: c :: d :: r, hl, _ => simp only [List.length_cons] at hl; omega
theorem word_facts {w : Str} (h : wordOk w) : ∃ n c, intText? w = some n ∧ atI w.cps.toList 0 = some c ∧ (0 ≤ n ∧ n ≤ 999) ∧ ((decide ((⟨#[c]⟩ : Str) = "0") && !decide (w = "0")) = true ↔ ¬ w = strI n) := by
  have h := word_chk h
  unfold wchk at h
  split at h
  · rename_i n c e1 e2
    refine ⟨n, c, e1, e2, ?_, ?_⟩
    · simp only [Bool.and_eq_true, decide_eq_true_eq] at h
      exact h.1
    · rw [Bool.and_eq_true] at h
      have h2 := eq_of_beq h.2
      rw [h2]
      simp
  · cases h
def markOf (w : Str) : Option Int := if wordOk w then (match intText? w with
  | some n => if w = strI n ∧ n ≤ 255 then some n else none
  | none => none) else none
theorem markOf_some {w : Str} {m : Int} (h : markOf w = some m) : wordOk w ∧ w = strI m ∧ 0 ≤ m ∧ m ≤ 255 := by
  unfold markOf at h
  split at h
  · rename_i hw
    obtain ⟨n, c, e1, _, e3, _⟩ := word_facts hw
    rw [e1] at h
    dsimp only at h
    split at h
    · rename_i h2
      cases h
      exact ⟨hw, h2.1, e3.1, h2.2⟩
    · cases h
  · cases h
def readW : List Str → Option (List Int)
  | [] => some []
  | w :: r => match markOf w with
    | none => none
    | some m => match readW r with
      | none => none
      | some ms => some (m :: ms)
theorem readW_app : ∀ (a b : List Str), readW (a ++ b) = match readW a, readW b with | some x, some y => some (x ++ y) | _, _ => none
  | [], b => by
    show readW b = match some [], readW b with | some x, some y => some (x ++ y) | _, _ => none
    cases readW b <;> rfl
  | w :: r, b => by
    rw [List.cons_append, readW, readW_app r b, readW]
    cases markOf w with
    | none => rfl
    | some m => cases readW r with
      | none => rfl
      | some x => cases readW b <;> rfl
theorem readW_some : ∀ {ws : List Str} {ms : List Int}, readW ws = some ms → ms.map strI = ws ∧ IsText ms
  | [], ms, h => by cases h; exact ⟨rfl, fun d hd => nomatch hd⟩
  | w :: r, ms, h => by
    rw [readW] at h
    cases e : markOf w with
    | none => rw [e] at h; cases h
    | some m =>
      rw [e] at h
      dsimp only at h
      cases e2 : readW r with
      | none => rw [e2] at h; cases h
      | some x =>
        rw [e2] at h
        cases h
        obtain ⟨a, b⟩ := readW_some e2
        obtain ⟨_, c, d0, d1⟩ := markOf_some e
        refine ⟨by rw [List.map_cons, a, ← c], fun d hd => ?_⟩
        rcases List.mem_cons.mp hd with rfl | hd
        · omega
        · exact b d hd
theorem readW_bad {ws : List Str} {i : Nat} (hi : i < ws.length) (hm : markOf ws[i] = none) : readW ws = none := by
  have e : ws = ws.take i ++ ws[i] :: ws.drop (i + 1) := by rw [← List.drop_eq_getElem_cons hi, List.take_append_drop]
  have h1 : readW (ws[i] :: ws.drop (i + 1)) = none := by rw [readW, hm]
  have h2 := readW_app (ws.take i) (ws[i] :: ws.drop (i + 1))
  rw [h1, ← e] at h2
  rw [h2]
  cases readW (ws.take i) <;> rfl
theorem readW_snoc {ws : List Str} {i : Nat} {ms : List Int} {m : Int} (hi : i < ws.length) (h : readW (ws.take i) = some ms) (hm : markOf ws[i] = some m) : readW (ws.take (i + 1)) = some (ms ++ [m]) := by
  have h1 : readW [ws[i]] = some [m] := by rw [readW, hm]; rfl
  rw [take_step hi, readW_app, h, h1]
theorem le_sum {x : Nat} : ∀ {l : List Nat}, x ∈ l → x ≤ l.sum
  | a :: r, h => by
    rw [List.sum_cons]
    rcases List.mem_cons.mp h with rfl | h
    · omega
    · have := le_sum h; omega
theorem split_words_len (t : Str) : (Txt.split t " ").length ≤ t.length + 1 ∧ ∀ w ∈ Txt.split t " ", w.length ≤ t.length + 1 := by
  have h := split_weight t " " (by decide)
  refine ⟨by omega, fun w hw => ?_⟩
  have := le_sum (List.mem_map.mpr ⟨w, hw, rfl⟩ : w.length ∈ (Txt.split t " ").map (·.length))
  omega
def badA : List Str := ["", " ", "none ", " none", "None", "none none", "none 1", "1 none", "256", "1000", "-1", "-0"]
def badB : List Str := ["+1", "00", "01", "1  2", " 1", "1 ", "1,2", "1.0", "1e2", "0x1", "1\t2", "1\n2", "1\n"]
def badC : List Str := ["999", "12 256", "256 1", "a", "1 a 2"]
def badD : List Str := ["2 03", "1_0", "255 2555", "1;2", "1/2", "--1", "0 00", "no", "1 -2", repS "1" 60]
def badL : List Str := badA ++ badB ++ badC ++ badD
def readT (t : Str) : Option (List Int) := if t = "none" then some [] else readW (Txt.split t " ")
theorem at_str {z : Str} {i : Int} (h0 : 0 ≤ i) (h1 : i < z.length) : ∃ c, atI z.cps.toList i = some c := by
  obtain ⟨n, rfl⟩ := Int.eq_ofNat_of_zero_le h0
  have hl : z.cps.toList.length = z.length := Array.length_toList
  exact ⟨_, atI_nat (List.getElem?_eq_getElem (show n < z.cps.toList.length by omega))⟩
theorem at_first {z : Str} (h : 1 ≤ z.length) : ∃ c, atI z.cps.toList 0 = some c := at_str (Int.le_refl _) (by omega)
theorem split_ne (t : Str) : Txt.split t " " ≠ [] := by
  intro e
  have h := StrLaws.join_split t " "
  rw [e] at h
  rw [← h] at e
  exact absurd e (by decide +kernel)
theorem readT_len {t : Str} {ms : List Int} (h : readT t = some ms) : ms.length ≤ t.length + 1 := by
  unfold readT at h
  split at h
  · cases h; exact Nat.zero_le _
  · have h1 := congrArg List.length (readW_some h).1
    rw [List.length_map] at h1
    have := (split_words_len t).1
    omega
theorem bad_all : (badL.all fun s => decide (readT s = none) && decide (s.length ≤ 100)) = true := by decide +kernel
theorem bad_ok {s : Str} (h : s ∈ badL) : readT s = none ∧ s.length ≤ 100 := by
  have := List.all_eq_true.mp bad_all s h
  rw [Bool.and_eq_true, decide_eq_true_eq, decide_eq_true_eq] at this
  exact this
theorem readT_show {t : Str} {ms : List Int} (h : readT t = some ms) : showT ms = t ∧ IsText ms := by
  unfold readT at h
  split at h
  · rename_i e
    cases h
    exact ⟨by rw [e]; rfl, fun d hd => nomatch hd⟩
  · obtain ⟨a, b⟩ := readW_some h
    refine ⟨?_, b⟩
    have hne : ms ≠ [] := by
      rintro rfl
      exact split_ne t a.symm
    rw [showT, if_neg hne, a]
    rw [TL.join_eq]
    exact StrLaws.join_split t " "


abbrev s_show_marks : Stmt := topS 20
abbrev N_show_marks : List Str := ["marks", "mark"]
theorem sc_show_marks : FnScope N_show_marks ["marks"] (defScope s_show_marks) := ⟨rfl, rfl, rfl, by decide +kernel, rfl, by decide +kernel, by decide +kernel⟩







def sp_show_marks (K : PySem.W.Frag) (A : Ads) : Sp := fun zvs zH Q E => ∃ (B : Hp) (G : Own) (a : Addr) (ms : List Int), zvs = [.ref a] ∧ SI B G zH ∧ (Sq K B G a (ms.map V.int)) ∧ (IsText ms) ∧ (ms.length ≤ 100000) ∧ (N B G (Q (.str (showT ms))))
theorem len_show_marks {K : PySem.W.Frag} {A : Ads} : ∀ vs H Q E, sp_show_marks K A vs H Q E → vs.length = 1 := by
  intro vs H Q E h
  obtain ⟨_, _, _, _, rfl, _⟩ := h
  rfl
def x_show_marks_0 (K : PySem.W.Frag) (A : Ads) (E : XK) : TS :=
  (tSeq (tRet (tM1 (rJoin K) (tC (.str " ")) (tLc (iList K (tVar 0)) (gName 1) tYes (tCB rStrI (tCons (tVar 1) tNil)) [1])))
    tNext)
instance {K : PySem.W.Frag} {A : Ads} {E : XK} : Unf (x_show_marks_0 K A E) (
  (tSeq (tRet (tM1 (rJoin K) (tC (.str " ")) (tLc (iList K (tVar 0)) (gName 1) tYes (tCB rStrI (tCons (tVar 1) tNil)) [1])))
    tNext)) := ⟨rfl⟩
def t_show_marks (K : PySem.W.Frag) (A : Ads) (E : XK) : TS :=
  (tSeq (tIfS (tTest (tOp (uEq K) (tCB (uLen K) (tCons (tVar 0) tNil)) (tC (.int (0)))))
    (tSeq (tRet (tC (.str "none")))
    tNext)
    tNext)
    (x_show_marks_0 K A E))
theorem pure_show_marks {K : PySem.W.Frag} {A : Ads} (T : Fct K A) (vs : List V) (H : Hp) (Q : VK) (E : XK) (h : sp_show_marks K A vs H Q E) : t_show_marks K A E (endE Q) (L2.start N_show_marks vs) H := by
  obtain ⟨B, G, a, ms, rfl, zs, hs, hm, hl, k⟩ := h
  refine (?_ : N B G (fun H => t_show_marks K A E (endE Q) (L2.start N_show_marks [.ref a]) H)) H zs
  clear zs
  unfold t_show_marks

  walk_at "sk stp"
  refine n_iteD (fun h => ?_) (fun h => ?_)
  · rw [showT, if_pos (List.length_eq_zero_iff.mp (by omega))] at k
    walk_at "sk stp"
    exact k
  · rw [showT, if_neg (fun e => h (by rw [e]; rfl))] at k
    walk_at "sk stp"
    refine n_lcG (ms.map V.int) ((ms.map strI).map V.str) (by simp) (by rw [List.length_map]; exact hl) hs (fun _ => rfl) ?_ fun D => ?_
    · intro i D acc Q' h1 h2 q
      rw [List.getElem_map, List.getElem_map] at q
      rw [List.getElem_map]
      have := hm _ (List.getElem_mem (by rw [List.length_map] at h1; exact h1 : i < ms.length))
      walk_at "sk stp"
      exact q
    · refine n_join (by walk_at "sk sq") (words_len hm hl) ?_
      exact n_tl k
theorem raw_show_marks {P : Program} {w : World} {K : PySem.W.Frag} {mg : Str → Option Value} {base : Heap} {A : Ads} {f : Addr} {fd : FuncData} (F : Fun K "show_marks" "show_marks" s_show_marks f fd) (T : Txt K mg A) : FnOk P w K mg base CX0 1 f fd ["marks"] (sp_show_marks K A) := by
  refine F.ok sc_show_marks (fun vs H Q E h => len_show_marks vs H Q E h) (fun cdv Ar outer s H vs Q E hr h => ⟨t_show_marks K A E, PSs.nox ?_, pure_show_marks T.fct vs H Q E h⟩)
  have nd := sc_show_marks.nd
  exact (pss_cons (ps_if (pt_cmpR (op_uEq hr.units) (pe_callB call_uLen (by rfl) T.b_len boot_len (pa_cons (pv 0) pa_nil)) pe_int (nomark _)) (pss_cons (ps_ret pe_str)
    pss_nil) pss_nil)
    (pss_cons (ps_ret (pe_m1 PySem.F.slot_str_join PySem.F.type_str_join mr_join pe_str (pe_lc (own := [("mark", 1)]) (by rfl) nd (pi_list (pv 0)) (blkOk_by (N := N_show_marks) (sc := defScope s_show_marks) (own := [("mark", 1)]) (by decide +kernel)) (fun _ _ _ _ _ => (pg_name (i := 1) nd rfl (Or.inl rfl))) (fun _ _ _ _ _ => pts_nil) (fun _ _ _ _ _ => (pe_callTy cr_strI (by rfl) T.b_str boot_str (pa_cons (pv 1) pa_nil))))))
    pss_nil))
theorem use_show_marks {K : PySem.W.Frag} {A : Ads} {B : Hp} {G : Own} {Q : VK} {E : XK} {a : Addr} {ms : List Int} (hs : Sq K B G a (ms.map V.int)) (hm : IsText ms) (hl : ms.length ≤ 100000) (zq : N B G (Q (.str (showT ms)))) : N B G (fun H => sp_show_marks K A [.ref a] H Q E) := fun zH zs => ⟨B, _, _, _, rfl, zs, hs, hm, hl, zq⟩
local macro_rules | `(tactic| walk_at "sk st") => `(tactic| with_reducible (apply use_show_marks; (next => with_unfolding_all walk_at "sk sq"); (next => with_unfolding_all walk_at "sk sd"); (next => with_unfolding_all walk_at "sk len"); (skip)))

abbrev s_read_mark : Stmt := topS 21
abbrev N_read_mark : List Str := ["word", "sign"]
theorem sc_read_mark : FnScope N_read_mark ["word"] (defScope s_read_mark) := ⟨rfl, rfl, rfl, by decide +kernel, rfl, by decide +kernel, by decide +kernel⟩






def sp_read_mark (K : PySem.W.Frag) (A : Ads) : Sp := fun zvs zH Q E => ∃ (B : Hp) (G : Own) (w : Str), zvs = [.str w] ∧ SI B G zH ∧ (w.length ≤ 2000) ∧ (∀ m, markOf w = some m → N B G (Q (.int m))) ∧ (markOf w = none → N B G (fun H => E (.ref A.c_NoText) none H))
theorem len_read_mark {K : PySem.W.Frag} {A : Ads} : ∀ vs H Q E, sp_read_mark K A vs H Q E → vs.length = 1 := by
  intro vs H Q E h
  obtain ⟨_, _, _, rfl, _⟩ := h
  rfl
def x_read_mark_0 (K : PySem.W.Frag) (A : Ads) (E : XK) : TS :=
  (tSeq (tIfS (tTest (tOp uGt (tCB rIntS (tCons (tVar 0) tNil)) (tC (.int (255)))))
    (tSeq (tRs A.c_NoText (fun cls d _ H => E cls d H))
    tNext)
    tNext)
    (tSeq (tRet (tCB rIntS (tCons (tVar 0) tNil)))
    tNext))
instance {K : PySem.W.Frag} {A : Ads} {E : XK} : Unf (x_read_mark_0 K A E) (
  (tSeq (tIfS (tTest (tOp uGt (tCB rIntS (tCons (tVar 0) tNil)) (tC (.int (255)))))
    (tSeq (tRs A.c_NoText (fun cls d _ H => E cls d H))
    tNext)
    tNext)
    (tSeq (tRet (tCB rIntS (tCons (tVar 0) tNil)))
    tNext))) := ⟨rfl⟩
def x_read_mark_1 (K : PySem.W.Frag) (A : Ads) (E : XK) : TS :=
  (tSeq (tFor (iStr (tVar 0)) (gName 1)
    (tSeq (tIfS (tTest (tOp rNiSg (tVar 1) (tC (.str "0123456789"))))
    (tSeq (tRs A.c_NoText (fun cls d _ H => E cls d H))
    tNext)
    tNext)
    tNext))
    (x_read_mark_0 K A E))
instance {K : PySem.W.Frag} {A : Ads} {E : XK} : Unf (x_read_mark_1 K A E) (
  (tSeq (tFor (iStr (tVar 0)) (gName 1)
    (tSeq (tIfS (tTest (tOp rNiSg (tVar 1) (tC (.str "0123456789"))))
    (tSeq (tRs A.c_NoText (fun cls d _ H => E cls d H))
    tNext)
    tNext)
    tNext))
    (x_read_mark_0 K A E))) := ⟨rfl⟩
def t_read_mark (K : PySem.W.Frag) (A : Ads) (E : XK) : TS :=
  (tSeq (tIfS (tOr (tNot (tTest (tChain uLe uLe (tC (.int (1))) (tCB rLenS (tCons (tVar 0) tNil)) (tC (.int (3)))))) (tAnd (tTest (tOp (uEq K) (tOp (rIx K) (tVar 0) (tC (.int (0)))) (tC (.str "0")))) (tTest (tOp (uNe K) (tVar 0) (tC (.str "0"))))))
    (tSeq (tRs A.c_NoText (fun cls d _ H => E cls d H))
    tNext)
    tNext)
    (x_read_mark_1 K A E))
theorem pure_read_mark {K : PySem.W.Frag} {A : Ads} (T : Fct K A) (vs : List V) (H : Hp) (Q : VK) (E : XK) (h : sp_read_mark K A vs H Q E) : t_read_mark K A E (endE Q) (L2.start N_read_mark vs) H := by
  obtain ⟨B, G, w, rfl, zs, hl, k, k2⟩ := h
  refine (?_ : N B G (fun H => t_read_mark K A E (endE Q) (L2.start N_read_mark [.str w]) H)) H zs
  clear zs
  unfold t_read_mark

  have hll : w.cps.toList.length = w.length := Array.length_toList
  walk_at "sk stp"
  refine n_ite (fun hb => ?_) (fun hb => ?_)
  · have hn : markOf w = none := if_neg fun h => by
      obtain ⟨a, b, _⟩ := h
      simp at hb
      omega
    walk_at "sk stp"
    exact k2 hn
  have hl1 : 1 ≤ w.length ∧ w.length ≤ 3 := by
    simp at hb
    omega
  obtain ⟨c, hc⟩ := at_first (z := w) hl1.1
  walk_at "sk stp"
  refine n_ite (fun hz => ?_) (fun hz => ?_)
  · have hn : markOf w = none := by
      by_cases hw : wordOk w
      · obtain ⟨n, c', e1, e2, e3, e4⟩ := word_facts hw
        rw [hc] at e2
        cases e2
        unfold markOf
        rw [if_pos hw, e1]
        exact if_neg fun h => e4.mp hz h.1
      · exact if_neg hw
    walk_at "sk stp"
    exact k2 hn
  walk_at "sk stp"
  refine n_lpS (fun i σ L => ∃ (y : Option V), σ = [some (.str w), y] ∧ G = L ∧ ∀ x ∈ w.cps.toList.take i, x ∈ figs) ⟨_, rfl, rfl, by intro x hx; cases hx⟩ ?_ ?_
  · rintro i σ L hi ⟨y, rfl, rfl, hf⟩
    by_cases hx : w.cps.toList[i] ∈ ("0123456789" : Str).cps.toList
    · walk_at "sk stp"
      refine n_ki ⟨_, rfl, rfl, fun x hm => ?_⟩ (.refl _)
      rw [take_step hi] at hm
      rcases List.mem_append.mp hm with hm | hm
      · exact hf x hm
      · rw [List.mem_singleton.mp hm]; exact hx
    · walk_at "sk stp"
      exact k2 (if_neg fun h => hx (h.2.2 _ (List.getElem_mem hi)))
  rintro σ L ⟨y, rfl, rfl, hf⟩
  rw [List.take_length] at hf
  have hw : wordOk w := ⟨hl1.1, hl1.2, hf⟩
  obtain ⟨n, c', e1, e2, e3, e4⟩ := word_facts hw
  rw [hc] at e2
  cases e2
  have hwn : w = strI n := Decidable.byContradiction fun h => by have := e4.mpr h; rw [hz] at this; cases this
  have hm : markOf w = if w = strI n ∧ n ≤ 255 then some n else none := by
    unfold markOf
    rw [if_pos hw, e1]
  walk_at "sk stp"
  refine n_iteD (fun h => ?_) (fun h => ?_)
  · walk_at "sk stp"
    exact k2 (by rw [hm, if_neg (by rintro ⟨_, h2⟩; omega)])
  · walk_at "sk stp"
    exact k n (by rw [hm, if_pos ⟨hwn, by omega⟩])
theorem raw_read_mark {P : Program} {w : World} {K : PySem.W.Frag} {mg : Str → Option Value} {base : Heap} {A : Ads} {f : Addr} {fd : FuncData} (F : Fun K "read_mark" "read_mark" s_read_mark f fd) (T : Txt K mg A) : FnOk P w K mg base (CXN P w) 1 f fd ["word"] (sp_read_mark K A) := by
  refine okN F sc_read_mark (fun vs H Q E h => len_read_mark vs H Q E h) (fun cdv Ar outer s H vs Q E hr h => ⟨t_read_mark K A E, ?_, pure_read_mark T.fct vs H Q E h⟩)
  have nd := sc_read_mark.nd
  exact (pss_cons (ps_if (PW.pt (pw_or (pt_not (pt_chain op_uLe op_uLe pe_int (pe_callB cr_lenS (by rfl) T.b_len boot_len (pa_cons (pv 0) pa_nil)) pe_int)) (pw_or1 (PW.pt (pw_and (pt_cmpR (op_uEq hr.units) (pe_ix ix_seq (pv 0) pe_int (fun _ _ => rfl)) pe_str (nomark _)) (pw_and1 (pt_cmpR (op_uNe hr.units) (pv 0) pe_str (nomark _)))))))) (pss_cons (L2N.ps_raise rfl (L2N.takes_of rfl rfl rfl rfl) (L2N.pmk_own PySem.F.excBase_ValueError T.x_NoText T.g_NoText T.k_NoText (raises_own T.s_NoText T.t_NoText) (by rfl)))
    pss_nil) pss_nil)
    (pss_cons (ps_for (passes_of rfl) rfl (pi_str (pv 0)) (pg_name (i := 1) nd rfl (Or.inl rfl))
    (pss_cons (ps_if (pt_cmpR op_niSg (pv 1) (pe_glob (by rfl) T.c_FIGURES.choose_spec.1 T.c_FIGURES.choose_spec.2) (by rfl)) (pss_cons (L2N.ps_raise rfl (L2N.takes_of rfl rfl rfl rfl) (L2N.pmk_own PySem.F.excBase_ValueError T.x_NoText T.g_NoText T.k_NoText (raises_own T.s_NoText T.t_NoText) (by rfl)))
    pss_nil) pss_nil)
    pss_nil))
    (pss_cons (ps_if (pt_cmpR op_uGt (pe_callTy cr_intS (by rfl) T.b_int boot_int (pa_cons (pv 0) pa_nil)) (pe_glob (by rfl) T.c_GREATEST.choose_spec.1 T.c_GREATEST.choose_spec.2) (nomark _)) (pss_cons (L2N.ps_raise rfl (L2N.takes_of rfl rfl rfl rfl) (L2N.pmk_own PySem.F.excBase_ValueError T.x_NoText T.g_NoText T.k_NoText (raises_own T.s_NoText T.t_NoText) (by rfl)))
    pss_nil) pss_nil)
    (pss_cons (ps_ret (pe_callTy cr_intS (by rfl) T.b_int boot_int (pa_cons (pv 0) pa_nil)))
    pss_nil))))
theorem use_read_mark {K : PySem.W.Frag} {A : Ads} {B : Hp} {G : Own} {Q : VK} {E : XK} {w : Str} (hl : w.length ≤ 2000) (zq : ∀ m, markOf w = some m → N B G (Q (.int m))) (zq2 : markOf w = none → N B G (fun H => E (.ref A.c_NoText) none H)) : N B G (fun H => sp_read_mark K A [.str w] H Q E) := fun zH zs => ⟨B, _, _, rfl, zs, hl, zq, zq2⟩

abbrev s_read_marks : Stmt := topS 22
abbrev N_read_marks : List Str := ["text", "word"]
theorem sc_read_marks : FnScope N_read_marks ["text"] (defScope s_read_marks) := ⟨rfl, rfl, rfl, by decide +kernel, rfl, by decide +kernel, by decide +kernel⟩






def sp_read_marks (K : PySem.W.Frag) (A : Ads) : Sp := fun zvs zH Q E => ∃ (B : Hp) (G : Own) (t : Str), zvs = [.str t] ∧ SI B G zH ∧ (t.length ≤ 1000) ∧ (∀ q ms, readT t = some ms → N B ((q, .lst (ms.map V.int)) :: G) (Q (.ref q))) ∧ (readT t = none → N B G (fun H => E (.ref A.c_NoText) none H))
theorem len_read_marks {K : PySem.W.Frag} {A : Ads} : ∀ vs H Q E, sp_read_marks K A vs H Q E → vs.length = 1 := by
  intro vs H Q E h
  obtain ⟨_, _, _, rfl, _⟩ := h
  rfl
def x_read_marks_0 (K : PySem.W.Frag) (A : Ads) (E : XK) : TS :=
  (tSeq (tRet (CompX.tLcX (iList K (tM1 rSplit (tVar 0) (tC (.str " ")))) (gName 1) tYes (fun V1 => (tCl (sp_read_mark K A) (WE V1) (tCons (tVar 1) tNil))) [1] (fun cls d _ H => E cls d H)))
    tNext)
instance {K : PySem.W.Frag} {A : Ads} {E : XK} : Unf (x_read_marks_0 K A E) (
  (tSeq (tRet (CompX.tLcX (iList K (tM1 rSplit (tVar 0) (tC (.str " ")))) (gName 1) tYes (fun V1 => (tCl (sp_read_mark K A) (WE V1) (tCons (tVar 1) tNil))) [1] (fun cls d _ H => E cls d H)))
    tNext)) := ⟨rfl⟩
def t_read_marks (K : PySem.W.Frag) (A : Ads) (E : XK) : TS :=
  (tSeq (tIfS (tTest (tOp (uEq K) (tVar 0) (tC (.str "none"))))
    (tSeq (tRet (tLst tNil))
    tNext)
    tNext)
    (x_read_marks_0 K A E))
theorem pure_read_marks {K : PySem.W.Frag} {A : Ads} (T : Fct K A) (vs : List V) (H : Hp) (Q : VK) (E : XK) (h : sp_read_marks K A vs H Q E) : t_read_marks K A E (endE Q) (L2.start N_read_marks vs) H := by
  obtain ⟨B, G, t, rfl, zs, hl, k, k2⟩ := h
  refine (?_ : N B G (fun H => t_read_marks K A E (endE Q) (L2.start N_read_marks [.str t]) H)) H zs
  clear zs
  unfold t_read_marks

  walk_at "sk stp"
  refine n_iteD (fun h => ?_) (fun h => ?_)
  · walk_at "sk stp"
    exact k _ [] (if_pos h)
  have hr : readT t = readW (Txt.split t " ") := if_neg h
  have hsw := split_words_len t
  walk_at "sk stp"
  refine n_split rfl (by rw [sizeLine_eq]; omega) fun p => ?_
  generalize Txt.split t " " = ws at *
  refine n_lcL (xs := ws.map V.str) (fun i acc L => ∃ ms, acc = ms.map V.int ∧ L = (p, .lst (ws.map V.str)) :: G ∧ readW (ws.take i) = some ms) (fun i acc L _ ⟨ms, _, e, _⟩ => by rw [e]; walk_at "sk sq") ⟨[], rfl, rfl, rfl⟩ ?_ ?_
  · rintro i acc L D hi ⟨ms, rfl, rfl, hms⟩
    have hi' : i < ws.length := by rw [List.length_map] at hi; exact hi
    have hwl := hsw.2 _ (List.getElem_mem hi')
    rw [List.getElem_map]
    have hml := (readW_some hms).1
    have hml := congrArg List.length hml
    rw [List.length_map, List.length_take] at hml
    walk_at "sk stp"
    refine use_read_mark (w := ws[i]) (by omega) (fun m hm => ?_) (fun hm => ?_)
    · refine n_put [] rfl (by rw [List.length_map, sizeLine_eq]; omega) ⟨ms ++ [m], by rw [List.map_append]; rfl, rfl, readW_snoc hi' hms hm⟩ (.refl _)
    · exact n_sub (by walk_at "sk sub") (k2 (by rw [hr]; exact readW_bad hi' hm))
  · rintro acc L D ⟨ms, rfl, rfl, hms⟩
    rw [List.length_map, List.take_length] at hms
    exact n_sub (by walk_at "sk sub") (k D ms (by rw [hr]; exact hms))
theorem raw_read_marks {P : Program} {w : World} {K : PySem.W.Frag} {mg : Str → Option Value} {base : Heap} {A : Ads} {f : Addr} {fd : FuncData} (F : Fun K "read_marks" "read_marks" s_read_marks f fd) (T : Txt K mg A) (O_read_mark : OkC P w K mg base (CXN P w) 1 "read_mark" ["word"] (sp_read_mark K A)) : FnOk P w K mg base (CXN P w) 2 f fd ["text"] (sp_read_marks K A) := by
  refine okN F sc_read_marks (fun vs H Q E h => len_read_marks vs H Q E h) (fun cdv Ar outer s H vs Q E hr h => ⟨t_read_marks K A E, ?_, pure_read_marks T.fct vs H Q E h⟩)
  have nd := sc_read_marks.nd
  exact (pss_cons (ps_if (pt_cmpR (op_uEq hr.units) (pv 0) pe_str (nomark _)) (pss_cons (ps_ret (pe_lst pa_nil))
    pss_nil) pss_nil)
    (pss_cons (ps_ret (CompX.pe_lcX (own := [("word", 1)]) rfl rfl (L2N.takes_of rfl rfl rfl rfl) (by rfl) nd (pi_list (pe_m1 PySem.F.slot_str_split PySem.F.type_str_split mr_split (pv 0) pe_str)) (blkOk_by (N := N_read_marks) (sc := defScope s_read_marks) (own := [("word", 1)]) (by decide +kernel)) (fun _ _ _ _ _ => (pg_name (i := 1) nd rfl (Or.inl rfl))) (fun _ _ _ _ _ => pts_nil) (fun _ _ _ _ _ _ _ V1 psV1 => (pe_cl (E := WE V1) O_read_mark (hr.mono (by decide)) (by rfl) psV1 (pa_cons (pv 1) pa_nil)))))
    pss_nil))
theorem use_read_marks {K : PySem.W.Frag} {A : Ads} {B : Hp} {G : Own} {Q : VK} {E : XK} {t : Str} (hl : t.length ≤ 1000) (zq : ∀ q ms, readT t = some ms → N B ((q, .lst (ms.map V.int)) :: G) (Q (.ref q))) (zq2 : readT t = none → N B G (fun H => E (.ref A.c_NoText) none H)) : N B G (fun H => sp_read_marks K A [.str t] H Q E) := fun zH zs => ⟨B, _, _, rfl, zs, hl, zq, zq2⟩

abbrev s_w_said : Stmt := topS 26
abbrev N_w_said : List Str := ["_law_text", "_law_found", "e"]
theorem sc_w_said : FnScope N_w_said ["_law_text"] (defScope s_w_said) := ⟨rfl, rfl, rfl, by decide +kernel, rfl, by decide +kernel, by decide +kernel⟩






def sp_w_said (K : PySem.W.Frag) (A : Ads) : Sp := fun zvs zH Q E => ∃ (B : Hp) (G : Own) (t : Str), zvs = [.str t] ∧ SI B G zH ∧ (t.length ≤ 1000) ∧ (∀ q ms, readT t = some ms → N B ((q, .lst (ms.map V.int)) :: G) (Q (.ref q))) ∧ (readT t = none → N B G (Q .non))
theorem len_w_said {K : PySem.W.Frag} {A : Ads} : ∀ vs H Q E, sp_w_said K A vs H Q E → vs.length = 1 := by
  intro vs H Q E h
  obtain ⟨_, _, _, rfl, _⟩ := h
  rfl
def t_w_said (K : PySem.W.Frag) (A : Ads) (E : XK) : TS :=
  (tSeq (tAsg (tC .non) (gName 1))
    (tSeq (tTryAs K (.ref A.c_PressError) 2 (fun W1 => (tSeq (tAsg (tCl (sp_read_marks K A) (WE W1) (tCons (tVar 0) tNil)) (gName 1))
    tNext)) (fun xa cls xd => (tSeq (tIfS (tOr (tNot (tB (tCB (rIsX K xa cls xd) (tCons (tVar 2) (tCons (tC (.ref A.c_NoText)) tNil))))) (tNot (tB (tCB (rIsX K xa cls xd) (tCons (tVar 2) (tCons (tC (.ty "ValueError")) tNil))))))
    (tSeq (tAsg (tLst (tCons (tUn (rU fun i => .int (-i)) (tC (.int (1)))) tNil)) (gName 1))
    tNext)
    tNext)
    (tSeq (tIfS (tB (tCB (rIsX K xa cls xd) (tCons (tVar 2) (tCons (tTup (tCons (tC (.ref A.c_Broken)) (tCons (tC (.ref A.c_NoBits)) (tCons (tC (.ref A.c_NoBlock)) (tCons (tC (.ref A.c_NoCode)) (tCons (tC (.ref A.c_NoHold)) (tCons (tC (.ref A.c_NoKids)) (tCons (tC (.ref A.c_NoMake)) (tCons (tC (.ref A.c_NoName)) (tCons (tC (.ref A.c_NoPlace)) tNil)))))))))) tNil))))
    (tSeq (tAsg (tLst (tCons (tUn (rU fun i => .int (-i)) (tC (.int (1)))) tNil)) (gName 1))
    tNext)
    tNext)
    (tSeq (tIfS (tB (tCB (rIsX K xa cls xd) (tCons (tVar 2) (tCons (tTup (tCons (tC (.ref A.c_NoRepeat)) (tCons (tC (.ref A.c_NoRow)) (tCons (tC (.ref A.c_NoRule)) (tCons (tC (.ref A.c_NoThing)) (tCons (tC (.ref A.c_Twice)) tNil)))))) tNil))))
    (tSeq (tAsg (tLst (tCons (tUn (rU fun i => .int (-i)) (tC (.int (1)))) tNil)) (gName 1))
    tNext)
    tNext)
    tNext)))) W0)
    (tSeq (tRet (tVar 1))
    tNext)))
theorem pure_w_said {K : PySem.W.Frag} {A : Ads} (T : Fct K A) (vs : List V) (H : Hp) (Q : VK) (E : XK) (h : sp_w_said K A vs H Q E) : t_w_said K A E (endE Q) (L2.start N_w_said vs) H := by
  obtain ⟨B, G, t, rfl, zs, hl, k, k2⟩ := h
  refine (?_ : N B G (fun H => t_w_said K A E (endE Q) (L2.start N_w_said [.str t]) H)) H zs
  clear zs
  unfold t_w_said

  walk_at "sk stp"
  refine use_read_marks (t := t) hl (fun q ms h => ?_) (fun h => ?_)
  · walk_at "sk stp"
    exact n_sub (by walk_at "sk sub") (k q ms h)
  · walk_at "sk stp"
    exact n_sub (by walk_at "sk sub") (k2 h)
theorem raw_w_said {P : Program} {w : World} {K : PySem.W.Frag} {mg : Str → Option Value} {base : Heap} {A : Ads} {f : Addr} {fd : FuncData} (F : Fun K "_law_said" "_law_said" s_w_said f fd) (T : Txt K mg A) (O_read_marks : OkC P w K mg base (CXN P w) 2 "read_marks" ["text"] (sp_read_marks K A)) : FnOk P w K mg base CX0 3 f fd ["_law_text"] (sp_w_said K A) := by
  refine F.ok sc_w_said (fun vs H Q E h => len_w_said vs H Q E h) (fun cdv Ar outer s H vs Q E hr h => ⟨t_w_said K A E, PSs.nox ?_, pure_w_said T.fct vs H Q E h⟩)
  have nd := sc_w_said.nd
  exact (pss_cons (ps_set (i := 1) nd rfl (Or.inl rfl) pe_non)
    (pss_cons (L2N.ps_try_as (i := 2) rfl rfl nd rfl rfl ⟨by rfl, by decide, .inl T.g_PressError⟩ tk0 (fun W1 pn xe tk1 po1 => (pss_cons (ps_set (i := 1) nd rfl (Or.inl rfl) (pe_cl (E := WE W1) O_read_marks (hr.mono (by decide)) (by rfl) (passN tk1) (pa_cons (pv 0) pa_nil)))
    pss_nil)) (fun xa oe cls xd pn hz hf => (pss_cons (ps_if (PW.pt (pw_or (pt_not (pt_val (pe_callB (call_isX hz.zc hf) (by rfl) T.b_isinstance boot_isinstance (pa_cons (pv 2) (pa_cons (pe_glob (v := .ref A.c_NoText) (by rfl) T.g_NoText rfl) pa_nil))))) (pw_or1 (pt_not (pt_val (pe_callB (call_isX hz.zc hf) (by rfl) T.b_isinstance boot_isinstance (pa_cons (pv 2) (pa_cons (pe_bltn (v := .ty "ValueError") (by rfl) T.b_ValueError (by decide +kernel) rfl) pa_nil)))))))) (pss_cons (ps_set (i := 1) nd rfl (Or.inl rfl) (pe_lst (pa_cons (pe_un un_neg pe_int) pa_nil)))
    pss_nil) pss_nil)
    (pss_cons (ps_if (pt_val (pe_callB (call_isX hz.zc hf) (by rfl) T.b_isinstance boot_isinstance (pa_cons (pv 2) (pa_cons (pe_tup (pa_cons (pe_glob (v := .ref A.c_Broken) (by rfl) T.g_Broken rfl) (pa_cons (pe_glob (v := .ref A.c_NoBits) (by rfl) T.g_NoBits rfl) (pa_cons (pe_glob (v := .ref A.c_NoBlock) (by rfl) T.g_NoBlock rfl) (pa_cons (pe_glob (v := .ref A.c_NoCode) (by rfl) T.g_NoCode rfl) (pa_cons (pe_glob (v := .ref A.c_NoHold) (by rfl) T.g_NoHold rfl) (pa_cons (pe_glob (v := .ref A.c_NoKids) (by rfl) T.g_NoKids rfl) (pa_cons (pe_glob (v := .ref A.c_NoMake) (by rfl) T.g_NoMake rfl) (pa_cons (pe_glob (v := .ref A.c_NoName) (by rfl) T.g_NoName rfl) (pa_cons (pe_glob (v := .ref A.c_NoPlace) (by rfl) T.g_NoPlace rfl) pa_nil)))))))))) pa_nil)))) (pss_cons (ps_set (i := 1) nd rfl (Or.inl rfl) (pe_lst (pa_cons (pe_un un_neg pe_int) pa_nil)))
    pss_nil) pss_nil)
    (pss_cons (ps_if (pt_val (pe_callB (call_isX hz.zc hf) (by rfl) T.b_isinstance boot_isinstance (pa_cons (pv 2) (pa_cons (pe_tup (pa_cons (pe_glob (v := .ref A.c_NoRepeat) (by rfl) T.g_NoRepeat rfl) (pa_cons (pe_glob (v := .ref A.c_NoRow) (by rfl) T.g_NoRow rfl) (pa_cons (pe_glob (v := .ref A.c_NoRule) (by rfl) T.g_NoRule rfl) (pa_cons (pe_glob (v := .ref A.c_NoThing) (by rfl) T.g_NoThing rfl) (pa_cons (pe_glob (v := .ref A.c_Twice) (by rfl) T.g_Twice rfl) pa_nil)))))) pa_nil)))) (pss_cons (ps_set (i := 1) nd rfl (Or.inl rfl) (pe_lst (pa_cons (pe_un un_neg pe_int) pa_nil)))
    pss_nil) pss_nil)
    pss_nil)))))
    (pss_cons (ps_ret (pv 1))
    pss_nil)))
theorem use_w_said {K : PySem.W.Frag} {A : Ads} {B : Hp} {G : Own} {Q : VK} {E : XK} {t : Str} (hl : t.length ≤ 1000) (zq : ∀ q ms, readT t = some ms → N B ((q, .lst (ms.map V.int)) :: G) (Q (.ref q))) (zq2 : readT t = none → N B G (Q .non)) : N B G (fun H => sp_w_said K A [.str t] H Q E) := fun zH zs => ⟨B, _, _, rfl, zs, hl, zq, zq2⟩

abbrev s_w_due : Stmt := topS 27
abbrev N_w_due : List Str := ["_law_text", "_law_marks", "_law_word", "_law_figures", "_law_sign"]
theorem sc_w_due : FnScope N_w_due ["_law_text"] (defScope s_w_due) := ⟨rfl, rfl, rfl, by decide +kernel, rfl, by decide +kernel, by decide +kernel⟩






def sp_w_due (K : PySem.W.Frag) (A : Ads) : Sp := fun zvs zH Q E => ∃ (B : Hp) (G : Own) (t : Str), zvs = [.str t] ∧ SI B G zH ∧ (t.length ≤ 1000) ∧ (∀ q ms, readT t = some ms → N B ((q, .lst (ms.map V.int)) :: G) (Q (.ref q))) ∧ (readT t = none → N B G (Q .non))
theorem len_w_due {K : PySem.W.Frag} {A : Ads} : ∀ vs H Q E, sp_w_due K A vs H Q E → vs.length = 1 := by
  intro vs H Q E h
  obtain ⟨_, _, _, rfl, _⟩ := h
  rfl
def x_w_due_0 (K : PySem.W.Frag) (A : Ads) (E : XK) : TS :=
  (tSeq (tIfS (tOr (tNot (tTest (tChain3 uLt (uEq K) uLt (tC (.int (0))) (tCB (uLen K) (tCons (tVar 3) tNil)) (tCB rLenS (tCons (tVar 2) tNil)) (tC (.int (4)))))) (tOr (tTest (tOp (uNe K) (tVar 2) (tCB rStrI (tCons (tCB rIntS (tCons (tVar 2) tNil)) tNil)))) (tTest (tOp uGt (tCB rIntS (tCons (tVar 2) tNil)) (tC (.int (255)))))))
    (tSeq (tRet (tC .non))
    tNext)
    tNext)
    (tSeq (tDrop (tBM K "list" rAppend (tVar 1) (tCons (tCB rIntS (tCons (tVar 2) tNil)) tNil)))
    tNext))
instance {K : PySem.W.Frag} {A : Ads} {E : XK} : Unf (x_w_due_0 K A E) (
  (tSeq (tIfS (tOr (tNot (tTest (tChain3 uLt (uEq K) uLt (tC (.int (0))) (tCB (uLen K) (tCons (tVar 3) tNil)) (tCB rLenS (tCons (tVar 2) tNil)) (tC (.int (4)))))) (tOr (tTest (tOp (uNe K) (tVar 2) (tCB rStrI (tCons (tCB rIntS (tCons (tVar 2) tNil)) tNil)))) (tTest (tOp uGt (tCB rIntS (tCons (tVar 2) tNil)) (tC (.int (255)))))))
    (tSeq (tRet (tC .non))
    tNext)
    tNext)
    (tSeq (tDrop (tBM K "list" rAppend (tVar 1) (tCons (tCB rIntS (tCons (tVar 2) tNil)) tNil)))
    tNext))) := ⟨rfl⟩
def x_w_due_1 (K : PySem.W.Frag) (A : Ads) (E : XK) : TS :=
  (tSeq (tFor (iList K (tM1 rSplit (tVar 0) (tC (.str " ")))) (gName 2)
    (tSeq (tAsg (tLc (iStr (tVar 2)) (gName 4) (tTest (tOp rInSg (tVar 4) (tC (.str "0123456789")))) (tVar 4) [4]) (gName 3))
    (x_w_due_0 K A E)))
    (tSeq (tRet (tVar 1))
    tNext))
instance {K : PySem.W.Frag} {A : Ads} {E : XK} : Unf (x_w_due_1 K A E) (
  (tSeq (tFor (iList K (tM1 rSplit (tVar 0) (tC (.str " ")))) (gName 2)
    (tSeq (tAsg (tLc (iStr (tVar 2)) (gName 4) (tTest (tOp rInSg (tVar 4) (tC (.str "0123456789")))) (tVar 4) [4]) (gName 3))
    (x_w_due_0 K A E)))
    (tSeq (tRet (tVar 1))
    tNext))) := ⟨rfl⟩
def t_w_due (K : PySem.W.Frag) (A : Ads) (E : XK) : TS :=
  (tSeq (tIfS (tTest (tOp (uEq K) (tVar 0) (tC (.str "none"))))
    (tSeq (tRet (tLst tNil))
    tNext)
    tNext)
    (tSeq (tAsg (tLst tNil) (gName 1))
    (x_w_due_1 K A E)))
theorem pure_w_due {K : PySem.W.Frag} {A : Ads} (T : Fct K A) (vs : List V) (H : Hp) (Q : VK) (E : XK) (h : sp_w_due K A vs H Q E) : t_w_due K A E (endE Q) (L2.start N_w_due vs) H := by
  obtain ⟨B, G, t, rfl, zs, hl, k, k2⟩ := h
  refine (?_ : N B G (fun H => t_w_due K A E (endE Q) (L2.start N_w_due [.str t]) H)) H zs
  clear zs
  unfold t_w_due

  walk_at "sk stp"
  refine n_iteD (fun h => ?_) (fun h => ?_)
  · walk_at "sk stp"
    exact k _ [] (if_pos h)
  have hr : readT t = readW (Txt.split t " ") := if_neg h
  have hsw := split_words_len t
  walk_at "sk stp"
  rename_i pm
  refine n_split rfl (by rw [sizeLine_eq]; omega) fun p => ?_
  generalize Txt.split t " " = ws at *
  refine n_lpL (xs := ws.map V.str) (fun i σ L => ∃ (ms : List Int) (y2 y3 y4 : Option V), σ = [some (.str t), some (.ref pm), y2, y3, y4] ∧ L = (p, .lst (ws.map V.str)) :: (pm, .lst (ms.map V.int)) :: G ∧ readW (ws.take i) = some ms) (fun i σ L _ ⟨ms, _, _, _, _, e, _⟩ => by rw [e]; walk_at "sk sq") ⟨[], _, _, _, rfl, rfl, rfl⟩ ?_ ?_
  · rintro i σ L hi ⟨ms, y2, y3, y4, rfl, rfl, hms⟩
    have hi' : i < ws.length := by rw [List.length_map] at hi; exact hi
    have hwl := hsw.2 _ (List.getElem_mem hi')
    rw [List.getElem_map]
    have hml := (readW_some hms).1
    have hml := congrArg List.length hml
    rw [List.length_map, List.length_take] at hml
    have hmk : ∀ m, markOf ws[i] = some m → readW (ws.take (i + 1)) = some (ms ++ [m]) := fun m hm => readW_snoc hi' hms hm
    have hmb : markOf ws[i] = none → readT t = none := fun hm => by rw [hr]; exact readW_bad hi' hm
    generalize ws[i] = w at *
    have hll : w.cps.toList.length = w.length := Array.length_toList
    walk_at "sk stp"
    refine n_lcS (fun j acc L' => acc = ((w.cps.toList.take j).filter fun c => decide (c ∈ figs)).map (fun c => V.str ⟨#[c]⟩) ∧ L' = (p, .lst (ws.map V.str)) :: (pm, .lst (ms.map V.int)) :: G) ⟨rfl, rfl⟩ ?_ ?_
    · rintro j acc L' D hj ⟨rfl, rfl⟩
      have hfl := List.length_filter_le (fun c => decide (c ∈ figs)) (w.cps.toList.take j)
      rw [List.length_take] at hfl
      have e1 : w.cps.toList.take (j + 1) = w.cps.toList.take j ++ [w.cps.toList[j]] := take_step hj
      walk_at "sk stp"
      refine n_iteD (fun hc => ?_) (fun hc => ?_)
      · have hc' : decide (w.cps.toList[j] ∈ figs) = true := decide_eq_true hc
        walk_at "sk stp"
        refine n_put [] rfl (by rw [List.length_map, sizeLine_eq]; omega) ⟨?_, rfl⟩ (.refl _)
        rw [e1, List.filter_append, List.map_append, show [w.cps.toList[j]].filter (fun c => decide (c ∈ figs)) = [w.cps.toList[j]] from List.filter_cons_of_pos (p := fun c => decide (c ∈ figs)) hc']; rfl
      · have hc' : ¬ decide (w.cps.toList[j] ∈ figs) = true := fun h => hc (of_decide_eq_true h)
        refine n_noput [] rfl ⟨?_, rfl⟩ (.refl _)
        rw [e1, List.filter_append, show [w.cps.toList[j]].filter (fun c => decide (c ∈ figs)) = [] from List.filter_cons_of_neg (p := fun c => decide (c ∈ figs)) hc', List.append_nil]
    · rintro acc L' D ⟨rfl, rfl⟩
      rw [List.take_length]
      have hfl := List.length_filter_le (fun c => decide (c ∈ figs)) w.cps.toList
      have hfe : (w.cps.toList.filter fun c => decide (c ∈ figs)).length = w.cps.toList.length ↔ ∀ a ∈ w.cps.toList, decide (a ∈ figs) = true := List.length_filter_eq_length_iff
      have hFl : ((w.cps.toList.filter fun c => decide (c ∈ figs)).map fun c => V.str ⟨#[c]⟩).length = (w.cps.toList.filter fun c => decide (c ∈ figs)).length := List.length_map _
      rw [hll] at hfe hfl
      generalize ((w.cps.toList.filter fun c => decide (c ∈ figs)).map fun c => V.str ⟨#[c]⟩) = F at *
      generalize (w.cps.toList.filter fun c => decide (c ∈ figs)).length = fl at *
      walk_at "sk stp"
      refine n_iteD (fun h1 => ?_) (fun h1 => ?_)
      rotate_left
      · have hb := hmb (if_neg fun hw => by
          have := hfe.mpr fun a ha => decide_eq_true (hw.2.2 a ha)
          have := hw.1
          omega)
        walk_at "sk stp"
        exact n_sub (by walk_at "sk sub") (k2 hb)
      walk_at "sk stp"
      refine n_ite (fun h2 => ?_) (fun h2 => ?_)
      · have hb := hmb (if_neg fun hw => by
          have := hfe.mpr fun a ha => decide_eq_true (hw.2.2 a ha)
          have := hw.2.1
          simp at h2
          omega)
        walk_at "sk stp"
        exact n_sub (by walk_at "sk sub") (k2 hb)
      have h2 : F.length = w.length ∧ w.length < 4 := by
        simp at h2
        omega
      have hw : wordOk w := ⟨by omega, by omega, fun a ha => of_decide_eq_true (hfe.mp (by omega) a ha)⟩
      obtain ⟨n, c, e1, e2, e3, e4⟩ := word_facts hw
      have hm : markOf w = if w = strI n ∧ n ≤ 255 then some n else none := by
        unfold markOf
        rw [if_pos hw, e1]
      walk_at "sk stp"
      refine n_ite (fun hb => ?_) (fun hb => ?_)
      · have hn := hmb (by
          rw [hm, if_neg]
          rintro ⟨h4, h5⟩
          simp [h4] at hb
          omega)
        walk_at "sk stp"
        exact n_sub (by walk_at "sk sub") (k2 hn)
      have h4 : w = strI n ∧ n ≤ 255 := by
        simp at hb
        exact ⟨hb.1, by omega⟩
      have hms2 := hmk n (by rw [hm, if_pos h4])
      walk_at "sk stp"
      refine n_ki (L' := (p, .lst (ws.map V.str)) :: (pm, .lst ((ms ++ [n]).map V.int)) :: G) ⟨ms ++ [n], _, _, _, rfl, rfl, hms2⟩ (by rw [List.map_append]; walk_at "sk sub")
  · rintro σ L ⟨ms, y2, y3, y4, rfl, rfl, hms⟩
    rw [List.length_map, List.take_length] at hms
    walk_at "sk stp"
    exact n_sub (by walk_at "sk sub") (k pm ms (by rw [hr]; exact hms))
theorem raw_w_due {P : Program} {w : World} {K : PySem.W.Frag} {mg : Str → Option Value} {base : Heap} {A : Ads} {f : Addr} {fd : FuncData} (F : Fun K "_law_due" "_law_due" s_w_due f fd) (T : Txt K mg A) : FnOk P w K mg base CX0 1 f fd ["_law_text"] (sp_w_due K A) := by
  refine F.ok sc_w_due (fun vs H Q E h => len_w_due vs H Q E h) (fun cdv Ar outer s H vs Q E hr h => ⟨t_w_due K A E, PSs.nox ?_, pure_w_due T.fct vs H Q E h⟩)
  have nd := sc_w_due.nd
  exact (pss_cons (ps_if (pt_cmpR (op_uEq hr.units) (pv 0) pe_str (nomark _)) (pss_cons (ps_ret (pe_lst pa_nil))
    pss_nil) pss_nil)
    (pss_cons (ps_set (i := 1) nd rfl (Or.inl rfl) (pe_lst pa_nil))
    (pss_cons (ps_for PassesOwn.never rfl (pi_list (pe_m1 PySem.F.slot_str_split PySem.F.type_str_split mr_split (pv 0) pe_str)) (pg_name (i := 2) nd rfl (Or.inl rfl))
    (pss_cons (ps_setLc (i := 3) (own := [("_law_sign", 4)]) (by rfl) nd rfl rfl (sw_true rfl rfl rfl (by decide +kernel)) (pi_str (pv 2)) (blkOk_by (N := N_w_due) (sc := defScope s_w_due) (own := [("_law_sign", 4)]) (by decide +kernel)) (fun _ _ _ _ _ => (pg_name (i := 4) nd rfl (Or.inl rfl))) (fun _ _ _ _ _ => (pts_one (pt_cmpR op_inSg (pv 4) pe_str (by rfl)))) (fun _ _ _ _ _ => (pv 4)))
    (pss_cons (ps_if (PW.pt (pw_or (pt_not (pt_chain3 op_uLt (op_uEq hr.units) op_uLt pe_int (pe_callB call_uLen (by rfl) T.b_len boot_len (pa_cons (pv 3) pa_nil)) (pe_callB cr_lenS (by rfl) T.b_len boot_len (pa_cons (pv 2) pa_nil)) pe_int)) (pw_or (pt_cmpR (op_uNe hr.units) (pv 2) (pe_callTy cr_strI (by rfl) T.b_str boot_str (pa_cons (pe_callTy cr_intS (by rfl) T.b_int boot_int (pa_cons (pv 2) pa_nil)) pa_nil)) (nomark _)) (pw_or1 (pt_cmpR op_uGt (pe_callTy cr_intS (by rfl) T.b_int boot_int (pa_cons (pv 2) pa_nil)) pe_int (nomark _)))))) (pss_cons (ps_ret pe_non)
    pss_nil) pss_nil)
    (pss_cons (ps_expr (pe_bm PySem.F.plainAttrs_list PySem.F.slot_list_append PySem.F.type_list_append mt_append (pv 1) (pa_cons (pe_callTy cr_intS (by rfl) T.b_int boot_int (pa_cons (pv 2) pa_nil)) pa_nil)))
    pss_nil))))
    (pss_cons (ps_ret (pv 1))
    pss_nil))))
theorem use_w_due {K : PySem.W.Frag} {A : Ads} {B : Hp} {G : Own} {Q : VK} {E : XK} {t : Str} (hl : t.length ≤ 1000) (zq : ∀ q ms, readT t = some ms → N B ((q, .lst (ms.map V.int)) :: G) (Q (.ref q))) (zq2 : readT t = none → N B G (Q .non)) : N B G (fun H => sp_w_due K A [.str t] H Q E) := fun zH zs => ⟨B, _, _, rfl, zs, hl, zq, zq2⟩

abbrev s_w_other : Stmt := topS 28
abbrev N_w_other : List Str := ["_law_draw", "_law_text", "_law_signs", "_law_at", "_law_sign", "_law_kind"]
theorem sc_w_other : FnScope N_w_other ["_law_draw", "_law_text"] (defScope s_w_other) := ⟨rfl, rfl, rfl, by decide +kernel, rfl, by decide +kernel, by decide +kernel⟩







def sp_w_other (K : PySem.W.Frag) (A : Ads) : Sp := fun zvs zH Q E => ∃ (B : Hp) (G : Own) (p : Addr) (o : HO) (t : Str), zvs = [.ref p, .str t] ∧ SI B ((p, o) :: G) zH ∧ (Draw o) ∧ (t.length ≤ 100) ∧ (∀ (o' : HO) (s : Str), Draw o' → s.length ≤ 400 → NP B [] p o' G (Q (.str s)))
theorem len_w_other {K : PySem.W.Frag} {A : Ads} : ∀ vs H Q E, sp_w_other K A vs H Q E → vs.length = 2 := by
  intro vs H Q E h
  obtain ⟨_, _, _, _, _, rfl, _⟩ := h
  rfl
def x_w_other_0 (K : PySem.W.Frag) (A : Ads) (E : XK) : TS :=
  (tSeq (tRet (tOp (uAdd K) (tOp (uAdd K) (tSl rSlS (tVar 1) tNoPart (tPart (tVar 3))) (tSl rSlS (tVar 1) (tPart (tCB uMax2 (tCons (tC (.int (0))) (tCons (tOp uSub (tVar 3) (tC (.int (3)))) tNil)))) (tPart (tVar 3)))) (tSl rSlS (tVar 1) (tPart (tVar 3)) tNoPart)))
    tNext)
instance {K : PySem.W.Frag} {A : Ads} {E : XK} : Unf (x_w_other_0 K A E) (
  (tSeq (tRet (tOp (uAdd K) (tOp (uAdd K) (tSl rSlS (tVar 1) tNoPart (tPart (tVar 3))) (tSl rSlS (tVar 1) (tPart (tCB uMax2 (tCons (tC (.int (0))) (tCons (tOp uSub (tVar 3) (tC (.int (3)))) tNil)))) (tPart (tVar 3)))) (tSl rSlS (tVar 1) (tPart (tVar 3)) tNoPart)))
    tNext)) := ⟨rfl⟩
def x_w_other_1 (K : PySem.W.Frag) (A : Ads) (E : XK) : TS :=
  (tSeq (tIfS (tTest (tOp (uEq K) (tVar 5) (tC (.int (2)))))
    (tSeq (tRet (tOp (uAdd K) (tOp (uAdd K) (tSl rSlS (tVar 1) tNoPart (tPart (tVar 3))) (tVar 4)) (tSl rSlS (tVar 1) (tPart (tOp (uAdd K) (tVar 3) (tC (.int (1))))) tNoPart)))
    tNext)
    tNext)
    (x_w_other_0 K A E))
instance {K : PySem.W.Frag} {A : Ads} {E : XK} : Unf (x_w_other_1 K A E) (
  (tSeq (tIfS (tTest (tOp (uEq K) (tVar 5) (tC (.int (2)))))
    (tSeq (tRet (tOp (uAdd K) (tOp (uAdd K) (tSl rSlS (tVar 1) tNoPart (tPart (tVar 3))) (tVar 4)) (tSl rSlS (tVar 1) (tPart (tOp (uAdd K) (tVar 3) (tC (.int (1))))) tNoPart)))
    tNext)
    tNext)
    (x_w_other_0 K A E))) := ⟨rfl⟩
def x_w_other_2 (K : PySem.W.Frag) (A : Ads) (E : XK) : TS :=
  (tSeq (tIfS (tTest (tOp (uEq K) (tVar 5) (tC (.int (1)))))
    (tSeq (tRet (tOp (uAdd K) (tSl rSlS (tVar 1) tNoPart (tPart (tVar 3))) (tSl rSlS (tVar 1) (tPart (tOp (uAdd K) (tVar 3) (tC (.int (1))))) tNoPart)))
    tNext)
    tNext)
    (x_w_other_1 K A E))
instance {K : PySem.W.Frag} {A : Ads} {E : XK} : Unf (x_w_other_2 K A E) (
  (tSeq (tIfS (tTest (tOp (uEq K) (tVar 5) (tC (.int (1)))))
    (tSeq (tRet (tOp (uAdd K) (tSl rSlS (tVar 1) tNoPart (tPart (tVar 3))) (tSl rSlS (tVar 1) (tPart (tOp (uAdd K) (tVar 3) (tC (.int (1))))) tNoPart)))
    tNext)
    tNext)
    (x_w_other_1 K A E))) := ⟨rfl⟩
def x_w_other_3 (K : PySem.W.Frag) (A : Ads) (E : XK) : TS :=
  (tSeq (tIfS (tTest (tOp (uEq K) (tVar 5) (tC (.int (0)))))
    (tSeq (tRet (tOp (uAdd K) (tOp (uAdd K) (tSl rSlS (tVar 1) tNoPart (tPart (tVar 3))) (tVar 4)) (tSl rSlS (tVar 1) (tPart (tVar 3)) tNoPart)))
    tNext)
    tNext)
    (x_w_other_2 K A E))
instance {K : PySem.W.Frag} {A : Ads} {E : XK} : Unf (x_w_other_3 K A E) (
  (tSeq (tIfS (tTest (tOp (uEq K) (tVar 5) (tC (.int (0)))))
    (tSeq (tRet (tOp (uAdd K) (tOp (uAdd K) (tSl rSlS (tVar 1) tNoPart (tPart (tVar 3))) (tVar 4)) (tSl rSlS (tVar 1) (tPart (tVar 3)) tNoPart)))
    tNext)
    tNext)
    (x_w_other_2 K A E))) := ⟨rfl⟩
def x_w_other_4 (K : PySem.W.Frag) (A : Ads) (E : XK) : TS :=
  (tSeq (tAsg (tCl (sp_w_take K A) (WE W0) (tCons (tVar 0) (tCons (tC (.int (4))) tNil))) (gName 5))
    (x_w_other_3 K A E))
instance {K : PySem.W.Frag} {A : Ads} {E : XK} : Unf (x_w_other_4 K A E) (
  (tSeq (tAsg (tCl (sp_w_take K A) (WE W0) (tCons (tVar 0) (tCons (tC (.int (4))) tNil))) (gName 5))
    (x_w_other_3 K A E))) := ⟨rfl⟩
def x_w_other_5 (K : PySem.W.Frag) (A : Ads) (E : XK) : TS :=
  (tSeq (tAsg (tOp (rIx K) (tVar 2) (tCl (sp_w_take K A) (WE W0) (tCons (tVar 0) (tCons (tCB rLenS (tCons (tVar 2) tNil)) tNil)))) (gName 4))
    (x_w_other_4 K A E))
instance {K : PySem.W.Frag} {A : Ads} {E : XK} : Unf (x_w_other_5 K A E) (
  (tSeq (tAsg (tOp (rIx K) (tVar 2) (tCl (sp_w_take K A) (WE W0) (tCons (tVar 0) (tCons (tCB rLenS (tCons (tVar 2) tNil)) tNil)))) (gName 4))
    (x_w_other_4 K A E))) := ⟨rfl⟩
def x_w_other_6 (K : PySem.W.Frag) (A : Ads) (E : XK) : TS :=
  (tSeq (tAsg (tCl (sp_w_take K A) (WE W0) (tCons (tVar 0) (tCons (tOp (uAdd K) (tCB rLenS (tCons (tVar 1) tNil)) (tC (.int (1)))) tNil))) (gName 3))
    (x_w_other_5 K A E))
instance {K : PySem.W.Frag} {A : Ads} {E : XK} : Unf (x_w_other_6 K A E) (
  (tSeq (tAsg (tCl (sp_w_take K A) (WE W0) (tCons (tVar 0) (tCons (tOp (uAdd K) (tCB rLenS (tCons (tVar 1) tNil)) (tC (.int (1)))) tNil))) (gName 3))
    (x_w_other_5 K A E))) := ⟨rfl⟩
def t_w_other (K : PySem.W.Frag) (A : Ads) (E : XK) : TS :=
  (tSeq (tAsg (tC (.str " !\"#$&'()*+,-./0123456789:;<=>?@ABCDEFGHIJKLMNOPQRSTUVWXYZ[\\]^_`abcdefghijklmnopqrstuvwxyz{|}~\n\t")) (gName 2))
    (x_w_other_6 K A E))
theorem pure_w_other {K : PySem.W.Frag} {A : Ads} (T : Fct K A) (vs : List V) (H : Hp) (Q : VK) (E : XK) (h : sp_w_other K A vs H Q E) : t_w_other K A E (endE Q) (L2.start N_w_other vs) H := by
  obtain ⟨B, G, p, o, t, rfl, zs, ho, hl, k⟩ := h
  refine (?_ : N B ((p, o) :: G) (fun H => t_w_other K A E (endE Q) (L2.start N_w_other [.ref p, .str t]) H)) H zs
  clear zs
  unfold t_w_other

  walk_at "sk stp"
  refine use_w_take (o := o) 0 rfl ho (by omega) fun o1 at' ho1 a0 a1 => ?_
  walk_at "sk stp"
  obtain ⟨S, hS⟩ : ∃ S : Str, S = " !\"#$&'()*+,-./0123456789:;<=>?@ABCDEFGHIJKLMNOPQRSTUVWXYZ[\\]^_`abcdefghijklmnopqrstuvwxyz{|}~\n\t" := ⟨_, rfl⟩
  have hSl : 1 ≤ S.length ∧ S.length ≤ 100 := by rw [hS]; decide +kernel
  rw [← hS]
  clear hS
  refine n_lenS (by rw [sizeLine_eq]; omega) ?_
  walk_at "sk stp"
  refine use_w_take (o := o1) 0 rfl ho1 (by omega) fun o2 i ho2 i0 i1 => ?_
  obtain ⟨c, hc⟩ := at_str i0 i1
  walk_at "sk stp"
  have hc1 : (⟨#[c]⟩ : Str).length = 1 := rfl
  generalize (⟨#[c]⟩ : Str) = C at *
  walk_at "sk stp"
  refine use_w_take (o := o2) 0 rfl ho2 (by decide) fun o3 kd ho3 k0 k1 => ?_
  have hz : t.length ≤ sizeLine := by rw [sizeLine_eq]; omega
  have hcs : ∀ lo hi, (cutS t lo hi).length ≤ 100 := fun lo hi => Nat.le_trans (cutS_length t lo hi) hl
  have app : ∀ (a b : Str), (a ++ b).length = a.length + b.length := Str.length_append
  walk_at "sk stp"
  refine n_iteD (fun h0 => ?_) (fun h0 => ?_)
  · walk_at "sk stp"
    refine n_slS hz ?_
    have c1 := hcs none (some at')
    walk_at "sk stp"
    refine n_addS (by rw [sizeLine_eq]; omega) ?_
    walk_at "sk stp"
    refine n_slS hz ?_
    have c2 := hcs (some at') none
    refine n_addS (by rw [app, sizeLine_eq]; omega) ?_
    exact n_sub (by walk_at "sk sub") (k o3 _ ho3 (by rw [app, app]; omega))
  walk_at "sk stp"
  refine n_iteD (fun h1 => ?_) (fun h1 => ?_)
  · walk_at "sk stp"
    refine n_slS hz ?_
    have c1 := hcs none (some at')
    walk_at "sk stp"
    refine n_slS hz ?_
    have c2 := hcs (some (at' + 1)) none
    refine n_addS (by rw [sizeLine_eq]; omega) ?_
    exact n_sub (by walk_at "sk sub") (k o3 _ ho3 (by rw [app]; omega))
  walk_at "sk stp"
  refine n_iteD (fun h2 => ?_) (fun h2 => ?_)
  · walk_at "sk stp"
    refine n_slS hz ?_
    have c1 := hcs none (some at')
    walk_at "sk stp"
    refine n_addS (by rw [sizeLine_eq]; omega) ?_
    walk_at "sk stp"
    refine n_slS hz ?_
    have c2 := hcs (some (at' + 1)) none
    refine n_addS (by rw [app, sizeLine_eq]; omega) ?_
    exact n_sub (by walk_at "sk sub") (k o3 _ ho3 (by rw [app, app]; omega))
  walk_at "sk stp"
  refine n_slS hz ?_
  have c1 := hcs none (some at')
  walk_at "sk stp"
  refine n_slS hz ?_
  have c2 := hcs (some (max 0 (at' - 3))) (some at')
  refine n_addS (by rw [sizeLine_eq]; omega) ?_
  walk_at "sk stp"
  refine n_slS hz ?_
  have c3 := hcs (some at') none
  refine n_addS (by rw [app, sizeLine_eq]; omega) ?_
  exact n_sub (by walk_at "sk sub") (k o3 _ ho3 (by rw [app, app]; omega))
theorem raw_w_other {P : Program} {w : World} {K : PySem.W.Frag} {mg : Str → Option Value} {base : Heap} {A : Ads} {f : Addr} {fd : FuncData} (F : Fun K "_law_other" "_law_other" s_w_other f fd) (T : Txt K mg A) (O_w_take : OkC P w K mg base CX0 1 "_law_take" ["_law_draw", "_law_many"] (sp_w_take K A)) : FnOk P w K mg base CX0 2 f fd ["_law_draw", "_law_text"] (sp_w_other K A) := by
  refine F.ok sc_w_other (fun vs H Q E h => len_w_other vs H Q E h) (fun cdv Ar outer s H vs Q E hr h => ⟨t_w_other K A E, PSs.nox ?_, pure_w_other T.fct vs H Q E h⟩)
  have nd := sc_w_other.nd
  exact (pss_cons (ps_set (i := 2) nd rfl (Or.inl rfl) pe_str)
    (pss_cons (ps_set (i := 3) nd rfl (Or.inl rfl) (pe_cl (E := WE W0) O_w_take (hr.mono (by decide)) (by rfl) pass00 (pa_cons (pv 0) (pa_cons (pe_op op_uAdd (pe_callB cr_lenS (by rfl) T.b_len boot_len (pa_cons (pv 1) pa_nil)) pe_int) pa_nil))))
    (pss_cons (ps_set (i := 4) nd rfl (Or.inl rfl) (pe_ix ix_seq (pv 2) (pe_cl (E := WE W0) O_w_take (hr.mono (by decide)) (by rfl) pass00 (pa_cons (pv 0) (pa_cons (pe_callB cr_lenS (by rfl) T.b_len boot_len (pa_cons (pv 2) pa_nil)) pa_nil))) (fun _ _ => rfl)))
    (pss_cons (ps_set (i := 5) nd rfl (Or.inl rfl) (pe_cl (E := WE W0) O_w_take (hr.mono (by decide)) (by rfl) pass00 (pa_cons (pv 0) (pa_cons pe_int pa_nil))))
    (pss_cons (ps_if (pt_cmpR (op_uEq hr.units) (pv 5) pe_int (nomark _)) (pss_cons (ps_ret (pe_op op_uAdd (pe_op op_uAdd (pe_slice sl_str (pv 1) po_none (po_some (pv 3))) (pv 4)) (pe_slice sl_str (pv 1) (po_some (pv 3)) po_none)))
    pss_nil) pss_nil)
    (pss_cons (ps_if (pt_cmpR (op_uEq hr.units) (pv 5) pe_int (nomark _)) (pss_cons (ps_ret (pe_op op_uAdd (pe_slice sl_str (pv 1) po_none (po_some (pv 3))) (pe_slice sl_str (pv 1) (po_some (pe_op op_uAdd (pv 3) pe_int)) po_none)))
    pss_nil) pss_nil)
    (pss_cons (ps_if (pt_cmpR (op_uEq hr.units) (pv 5) pe_int (nomark _)) (pss_cons (ps_ret (pe_op op_uAdd (pe_op op_uAdd (pe_slice sl_str (pv 1) po_none (po_some (pv 3))) (pv 4)) (pe_slice sl_str (pv 1) (po_some (pe_op op_uAdd (pv 3) pe_int)) po_none)))
    pss_nil) pss_nil)
    (pss_cons (ps_ret (pe_op op_uAdd (pe_op op_uAdd (pe_slice sl_str (pv 1) po_none (po_some (pv 3))) (pe_slice sl_str (pv 1) (po_some (pe_callB (call_max2 rfl) (by rfl) T.b_max boot_max (pa_cons pe_int (pa_cons (pe_op op_uSub (pv 3) pe_int) pa_nil)))) (po_some (pv 3)))) (pe_slice sl_str (pv 1) (po_some (pv 3)) po_none)))
    pss_nil))))))))
theorem use_w_other {K : PySem.W.Frag} {A : Ads} {B : Hp} {L : Own} {Q : VK} {E : XK} {p : Addr} {o : HO} {t : Str} (i : Nat) (hi : L[i]? = some (p, o)) (ho : Draw o) (hl : t.length ≤ 100) (zq : ∀ (o' : HO) (s : Str), Draw o' → s.length ≤ 400 → NQ B [] p o' L i (Q (.str s))) : N B L (fun H => sp_w_other K A [.ref p, .str t] H Q E) := fun zH zs => ⟨B, _, _, _, _, rfl, zs.front hi, ho, hl, by (intros; first | (refine NP.of hi ?_; apply zq <;> assumption) | (apply zq <;> assumption))⟩

abbrev s_w_no_text : Stmt := topS 29
abbrev N_w_no_text : List Str := ["_law_draw", "_law_some"]
theorem sc_w_no_text : FnScope N_w_no_text ["_law_draw"] (defScope s_w_no_text) := ⟨rfl, rfl, rfl, by decide +kernel, rfl, by decide +kernel, by decide +kernel⟩






def sp_w_no_text (K : PySem.W.Frag) (A : Ads) : Sp := fun zvs zH Q E => ∃ (B : Hp) (G : Own) (p : Addr) (o : HO), zvs = [.ref p] ∧ SI B ((p, o) :: G) zH ∧ (Draw o) ∧ (∀ (o' : HO) (s : Str), Draw o' → s ∈ badL → NP B [] p o' G (Q (.str s)))
theorem len_w_no_text {K : PySem.W.Frag} {A : Ads} : ∀ vs H Q E, sp_w_no_text K A vs H Q E → vs.length = 1 := by
  intro vs H Q E h
  obtain ⟨_, _, _, _, rfl, _⟩ := h
  rfl
def x_w_no_text_0 (K : PySem.W.Frag) (A : Ads) (E : XK) : TS :=
  (tSeq (tRet (tOp (rIx K) (tVar 1) (tCl (sp_w_take K A) (WE W0) (tCons (tVar 0) (tCons (tCB (uLen K) (tCons (tVar 1) tNil)) tNil)))))
    tNext)
instance {K : PySem.W.Frag} {A : Ads} {E : XK} : Unf (x_w_no_text_0 K A E) (
  (tSeq (tRet (tOp (rIx K) (tVar 1) (tCl (sp_w_take K A) (WE W0) (tCons (tVar 0) (tCons (tCB (uLen K) (tCons (tVar 1) tNil)) tNil)))))
    tNext)) := ⟨rfl⟩
def x_w_no_text_1 (K : PySem.W.Frag) (A : Ads) (E : XK) : TS :=
  (tSeq (tAsg (tOp (uAdd K) (tVar 1) (tLst (tCons (tC (.str "2 03")) (tCons (tC (.str "1_0")) (tCons (tC (.str "255 2555")) (tCons (tC (.str "1;2")) (tCons (tC (.str "1/2")) (tCons (tC (.str "--1")) (tCons (tC (.str "0 00")) (tCons (tC (.str "no")) (tCons (tC (.str "1 -2")) (tCons (tOp rMulS (tC (.str "1")) (tC (.int (60)))) tNil)))))))))))) (gName 1))
    (x_w_no_text_0 K A E))
instance {K : PySem.W.Frag} {A : Ads} {E : XK} : Unf (x_w_no_text_1 K A E) (
  (tSeq (tAsg (tOp (uAdd K) (tVar 1) (tLst (tCons (tC (.str "2 03")) (tCons (tC (.str "1_0")) (tCons (tC (.str "255 2555")) (tCons (tC (.str "1;2")) (tCons (tC (.str "1/2")) (tCons (tC (.str "--1")) (tCons (tC (.str "0 00")) (tCons (tC (.str "no")) (tCons (tC (.str "1 -2")) (tCons (tOp rMulS (tC (.str "1")) (tC (.int (60)))) tNil)))))))))))) (gName 1))
    (x_w_no_text_0 K A E))) := ⟨rfl⟩
def x_w_no_text_2 (K : PySem.W.Frag) (A : Ads) (E : XK) : TS :=
  (tSeq (tAsg (tOp (uAdd K) (tVar 1) (tLst (tCons (tC (.str "999")) (tCons (tC (.str "12 256")) (tCons (tC (.str "256 1")) (tCons (tC (.str "a")) (tCons (tC (.str "1 a 2")) tNil))))))) (gName 1))
    (x_w_no_text_1 K A E))
instance {K : PySem.W.Frag} {A : Ads} {E : XK} : Unf (x_w_no_text_2 K A E) (
  (tSeq (tAsg (tOp (uAdd K) (tVar 1) (tLst (tCons (tC (.str "999")) (tCons (tC (.str "12 256")) (tCons (tC (.str "256 1")) (tCons (tC (.str "a")) (tCons (tC (.str "1 a 2")) tNil))))))) (gName 1))
    (x_w_no_text_1 K A E))) := ⟨rfl⟩
def x_w_no_text_3 (K : PySem.W.Frag) (A : Ads) (E : XK) : TS :=
  (tSeq (tAsg (tOp (uAdd K) (tVar 1) (tLst (tCons (tC (.str "+1")) (tCons (tC (.str "00")) (tCons (tC (.str "01")) (tCons (tC (.str "1  2")) (tCons (tC (.str " 1")) (tCons (tC (.str "1 ")) (tCons (tC (.str "1,2")) (tCons (tC (.str "1.0")) (tCons (tC (.str "1e2")) (tCons (tC (.str "0x1")) (tCons (tC (.str "1\t2")) (tCons (tC (.str "1\n2")) (tCons (tC (.str "1\n")) tNil))))))))))))))) (gName 1))
    (x_w_no_text_2 K A E))
instance {K : PySem.W.Frag} {A : Ads} {E : XK} : Unf (x_w_no_text_3 K A E) (
  (tSeq (tAsg (tOp (uAdd K) (tVar 1) (tLst (tCons (tC (.str "+1")) (tCons (tC (.str "00")) (tCons (tC (.str "01")) (tCons (tC (.str "1  2")) (tCons (tC (.str " 1")) (tCons (tC (.str "1 ")) (tCons (tC (.str "1,2")) (tCons (tC (.str "1.0")) (tCons (tC (.str "1e2")) (tCons (tC (.str "0x1")) (tCons (tC (.str "1\t2")) (tCons (tC (.str "1\n2")) (tCons (tC (.str "1\n")) tNil))))))))))))))) (gName 1))
    (x_w_no_text_2 K A E))) := ⟨rfl⟩
def t_w_no_text (K : PySem.W.Frag) (A : Ads) (E : XK) : TS :=
  (tSeq (tAsg (tLst (tCons (tC (.str "")) (tCons (tC (.str " ")) (tCons (tC (.str "none ")) (tCons (tC (.str " none")) (tCons (tC (.str "None")) (tCons (tC (.str "none none")) (tCons (tC (.str "none 1")) (tCons (tC (.str "1 none")) (tCons (tC (.str "256")) (tCons (tC (.str "1000")) (tCons (tC (.str "-1")) (tCons (tC (.str "-0")) tNil))))))))))))) (gName 1))
    (x_w_no_text_3 K A E))
theorem pure_w_no_text {K : PySem.W.Frag} {A : Ads} (T : Fct K A) (vs : List V) (H : Hp) (Q : VK) (E : XK) (h : sp_w_no_text K A vs H Q E) : t_w_no_text K A E (endE Q) (L2.start N_w_no_text vs) H := by
  obtain ⟨B, G, p, o, rfl, zs, ho, k⟩ := h
  refine (?_ : N B ((p, o) :: G) (fun H => t_w_no_text K A E (endE Q) (L2.start N_w_no_text [.ref p]) H)) H zs
  clear zs
  unfold t_w_no_text

  walk_at "sk stp"
  rename_i _ _ _ _ p0
  refine n_mulS (n := 60) (by decide) (by decide) ⟨by decide +kernel, by decide +kernel⟩ ?_
  walk_at "sk stp"
  rename_i p1
  show N B ((p1, .lst (badL.map V.str)) :: _) _
  refine n_sub (L' := (p1, .lst (badL.map V.str)) :: (p, o) :: G) (by walk_at "sk sub") ?_
  have hbl : badL.length = 40 := by decide +kernel
  refine use_w_take (o := o) 1 rfl ho (by decide +kernel) fun o1 i ho1 i0 i1 => ?_
  have i2 : i < 40 := i1
  obtain ⟨n, rfl⟩ := Int.eq_ofNat_of_zero_le i0
  have hn : n < badL.length := by rw [hbl]; omega
  refine n_ixL (xs := badL.map V.str) (v := .str badL[n]) (sq_own 0 rfl) (atI_nat (by rw [List.getElem?_map, List.getElem?_eq_getElem hn]; rfl)) ?_
  exact n_sub (by walk_at "sk sub") (k o1 _ ho1 (List.getElem_mem hn))
theorem raw_w_no_text {P : Program} {w : World} {K : PySem.W.Frag} {mg : Str → Option Value} {base : Heap} {A : Ads} {f : Addr} {fd : FuncData} (F : Fun K "_law_no_text" "_law_no_text" s_w_no_text f fd) (T : Txt K mg A) (O_w_take : OkC P w K mg base CX0 1 "_law_take" ["_law_draw", "_law_many"] (sp_w_take K A)) : FnOk P w K mg base CX0 2 f fd ["_law_draw"] (sp_w_no_text K A) := by
  refine F.ok sc_w_no_text (fun vs H Q E h => len_w_no_text vs H Q E h) (fun cdv Ar outer s H vs Q E hr h => ⟨t_w_no_text K A E, PSs.nox ?_, pure_w_no_text T.fct vs H Q E h⟩)
  have nd := sc_w_no_text.nd
  exact (pss_cons (ps_set (i := 1) nd rfl (Or.inl rfl) (pe_lst (pa_cons pe_str (pa_cons pe_str (pa_cons pe_str (pa_cons pe_str (pa_cons pe_str (pa_cons pe_str (pa_cons pe_str (pa_cons pe_str (pa_cons pe_str (pa_cons pe_str (pa_cons pe_str (pa_cons pe_str pa_nil))))))))))))))
    (pss_cons (ps_set (i := 1) nd rfl (Or.inl rfl) (pe_op op_uAdd (pv 1) (pe_lst (pa_cons pe_str (pa_cons pe_str (pa_cons pe_str (pa_cons pe_str (pa_cons pe_str (pa_cons pe_str (pa_cons pe_str (pa_cons pe_str (pa_cons pe_str (pa_cons pe_str (pa_cons pe_str (pa_cons pe_str (pa_cons pe_str pa_nil))))))))))))))))
    (pss_cons (ps_set (i := 1) nd rfl (Or.inl rfl) (pe_op op_uAdd (pv 1) (pe_lst (pa_cons pe_str (pa_cons pe_str (pa_cons pe_str (pa_cons pe_str (pa_cons pe_str pa_nil))))))))
    (pss_cons (ps_set (i := 1) nd rfl (Or.inl rfl) (pe_op op_uAdd (pv 1) (pe_lst (pa_cons pe_str (pa_cons pe_str (pa_cons pe_str (pa_cons pe_str (pa_cons pe_str (pa_cons pe_str (pa_cons pe_str (pa_cons pe_str (pa_cons pe_str (pa_cons (pe_op op_mulS pe_str pe_int) pa_nil)))))))))))))
    (pss_cons (ps_ret (pe_ix ix_seq (pv 1) (pe_cl (E := WE W0) O_w_take (hr.mono (by decide)) (by rfl) pass00 (pa_cons (pv 0) (pa_cons (pe_callB call_uLen (by rfl) T.b_len boot_len (pa_cons (pv 1) pa_nil)) pa_nil))) (fun _ _ => rfl)))
    pss_nil)))))
theorem use_w_no_text {K : PySem.W.Frag} {A : Ads} {B : Hp} {L : Own} {Q : VK} {E : XK} {p : Addr} {o : HO} (i : Nat) (hi : L[i]? = some (p, o)) (ho : Draw o) (zq : ∀ (o' : HO) (s : Str), Draw o' → s ∈ badL → NQ B [] p o' L i (Q (.str s))) : N B L (fun H => sp_w_no_text K A [.ref p] H Q E) := fun zH zs => ⟨B, _, _, _, rfl, zs.front hi, ho, by (intros; first | (refine NP.of hi ?_; apply zq <;> assumption) | (apply zq <;> assumption))⟩


theorem n_orC {B : Hp} {L : Own} {K : PySem.W.Frag} {σ : Sk.St} {Q : VK} {z c : Str} (P : Str → Prop) (h1 : P z) (h2 : P c) (hz : z.length ≤ sizeLine) (q : ∀ s, P s → N B L (Q (.str s))) : N B L (fun H => ∃ b, TruV K (.str z) H b ∧ if b = true then Q (.str z) H else tC (.str c) σ H Q) := by
  intro H s
  by_cases h : z.length = 0
  · exact ⟨false, ⟨hz, by rw [h]; rfl⟩, q c h2 H s⟩
  · refine ⟨true, ⟨hz, ?_⟩, q z h1 H s⟩
    symm
    simpa using h
abbrev s_law : Stmt := topS 30
abbrev N_law : List Str := ["_law_script", "_law_draw", "_law_k", "_law_text", "_law_odd", "_law_due_here", "_law_found"]
theorem sc_law : FnScope N_law ["_law_script"] (defScope s_law) := ⟨rfl, rfl, rfl, by decide +kernel, rfl, by decide +kernel, by decide +kernel⟩






def sp_law (K : PySem.W.Frag) (A : Ads) : Sp := fun zvs zH Q E => ∃ (B : Hp) (G : Own) (a : Addr) (ns : List Int), zvs = [.ref a] ∧ SI B G zH ∧ (SqL K B a (ns.map V.int)) ∧ (ns.length ≤ 63) ∧ (∀ B', Same B B' → N B' G (Q (.bl true)))
theorem len_law {K : PySem.W.Frag} {A : Ads} : ∀ vs H Q E, sp_law K A vs H Q E → vs.length = 1 := by
  intro vs H Q E h
  obtain ⟨_, _, _, _, rfl, _⟩ := h
  rfl
def x_law_0 (K : PySem.W.Frag) (A : Ads) (E : XK) : TS :=
  (tSeq (tIfS (tOr (tTest (tOp (uNe K) (tVar 6) (tVar 5))) (tAnd (tTest (tOp uNotN (tVar 5) (tC .non))) (tTest (tOp (uNe K) (tCl (sp_show_marks K A) (WE W0) (tCons (tVar 6) tNil)) (tVar 4)))))
    (tSeq (tRet (tC (.bl false)))
    tNext)
    tNext)
    tNext)
instance {K : PySem.W.Frag} {A : Ads} {E : XK} : Unf (x_law_0 K A E) (
  (tSeq (tIfS (tOr (tTest (tOp (uNe K) (tVar 6) (tVar 5))) (tAnd (tTest (tOp uNotN (tVar 5) (tC .non))) (tTest (tOp (uNe K) (tCl (sp_show_marks K A) (WE W0) (tCons (tVar 6) tNil)) (tVar 4)))))
    (tSeq (tRet (tC (.bl false)))
    tNext)
    tNext)
    tNext)) := ⟨rfl⟩
def x_law_1 (K : PySem.W.Frag) (A : Ads) (E : XK) : TS :=
  (tSeq (tAsg (tCl (sp_w_due K A) (WE W0) (tCons (tVar 4) tNil)) (gName 5))
    (tSeq (tAsg (tCl (sp_w_said K A) (WE W0) (tCons (tVar 4) tNil)) (gName 6))
    (x_law_0 K A E)))
instance {K : PySem.W.Frag} {A : Ads} {E : XK} : Unf (x_law_1 K A E) (
  (tSeq (tAsg (tCl (sp_w_due K A) (WE W0) (tCons (tVar 4) tNil)) (gName 5))
    (tSeq (tAsg (tCl (sp_w_said K A) (WE W0) (tCons (tVar 4) tNil)) (gName 6))
    (x_law_0 K A E)))) := ⟨rfl⟩
def x_law_2 (K : PySem.W.Frag) (A : Ads) (E : XK) : TS :=
  (tSeq (tIfS (tTest (tOp uNotN (tCl (sp_w_said K A) (WE W0) (tCons (tCl (sp_w_no_text K A) (WE W0) (tCons (tVar 1) tNil)) tNil)) (tC .non)))
    (tSeq (tRet (tC (.bl false)))
    tNext)
    tNext)
    (tSeq (tAsg (tCl (sp_w_other K A) (WE W0) (tCons (tVar 1) (tCons (tVar 3) tNil))) (gName 4))
    (x_law_1 K A E)))
instance {K : PySem.W.Frag} {A : Ads} {E : XK} : Unf (x_law_2 K A E) (
  (tSeq (tIfS (tTest (tOp uNotN (tCl (sp_w_said K A) (WE W0) (tCons (tCl (sp_w_no_text K A) (WE W0) (tCons (tVar 1) tNil)) tNil)) (tC .non)))
    (tSeq (tRet (tC (.bl false)))
    tNext)
    tNext)
    (tSeq (tAsg (tCl (sp_w_other K A) (WE W0) (tCons (tVar 1) (tCons (tVar 3) tNil))) (gName 4))
    (x_law_1 K A E)))) := ⟨rfl⟩
def x_law_3 (K : PySem.W.Frag) (A : Ads) (E : XK) : TS :=
  (tSeq (tRet (tOp (uEq K) (tCl (sp_w_said K A) (WE W0) (tCons (tVar 3) tNil)) (tCl (sp_w_due K A) (WE W0) (tCons (tVar 3) tNil))))
    tNext)
instance {K : PySem.W.Frag} {A : Ads} {E : XK} : Unf (x_law_3 K A E) (
  (tSeq (tRet (tOp (uEq K) (tCl (sp_w_said K A) (WE W0) (tCons (tVar 3) tNil)) (tCl (sp_w_due K A) (WE W0) (tCons (tVar 3) tNil))))
    tNext)) := ⟨rfl⟩
def x_law_4 (K : PySem.W.Frag) (A : Ads) (E : XK) : TS :=
  (tSeq (tFor (iRng1 (tCons (tC (.int (8))) tNil)) (gName 2)
    (tSeq (tAsg (tCl (sp_w_purse K A) (WE W0) (tCons (tVar 0) (tCons (tOp (uAdd K) (tC (.int (1))) (tVar 2)) tNil))) (gName 1))
    (x_law_2 K A E)))
    (x_law_3 K A E))
instance {K : PySem.W.Frag} {A : Ads} {E : XK} : Unf (x_law_4 K A E) (
  (tSeq (tFor (iRng1 (tCons (tC (.int (8))) tNil)) (gName 2)
    (tSeq (tAsg (tCl (sp_w_purse K A) (WE W0) (tCons (tVar 0) (tCons (tOp (uAdd K) (tC (.int (1))) (tVar 2)) tNil))) (gName 1))
    (x_law_2 K A E)))
    (x_law_3 K A E))) := ⟨rfl⟩
def x_law_5 (K : PySem.W.Frag) (A : Ads) (E : XK) : TS :=
  (tSeq (tAsg (tOrT K (tM1 (rJoin K) (tC (.str " ")) (tLc (iRng1 (tCons (tCl (sp_w_take K A) (WE W0) (tCons (tVar 1) (tCons (tC (.int (13))) tNil))) tNil)) (gName 2) tYes (tCB rStrI (tCons (tCl (sp_w_take K A) (WE W0) (tCons (tVar 1) (tCons (tC (.int (256))) tNil))) tNil)) [2])) (tC (.str "none"))) (gName 3))
    (x_law_4 K A E))
instance {K : PySem.W.Frag} {A : Ads} {E : XK} : Unf (x_law_5 K A E) (
  (tSeq (tAsg (tOrT K (tM1 (rJoin K) (tC (.str " ")) (tLc (iRng1 (tCons (tCl (sp_w_take K A) (WE W0) (tCons (tVar 1) (tCons (tC (.int (13))) tNil))) tNil)) (gName 2) tYes (tCB rStrI (tCons (tCl (sp_w_take K A) (WE W0) (tCons (tVar 1) (tCons (tC (.int (256))) tNil))) tNil)) [2])) (tC (.str "none"))) (gName 3))
    (x_law_4 K A E))) := ⟨rfl⟩
def t_law (K : PySem.W.Frag) (A : Ads) (E : XK) : TS :=
  (tSeq (tAsg (tCl (sp_w_purse K A) (WE W0) (tCons (tVar 0) (tCons (tC (.int (0))) tNil))) (gName 1))
    (x_law_5 K A E))
theorem pure_law {K : PySem.W.Frag} {A : Ads} (T : Fct K A) (vs : List V) (H : Hp) (Q : VK) (E : XK) (h : sp_law K A vs H Q E) : t_law K A E (endE Q) (L2.start N_law vs) H := by
  obtain ⟨B, G, a, ns, rfl, zs, hs, hl, k⟩ := h
  refine (?_ : N B G (fun H => t_law K A E (endE Q) (L2.start N_law [.ref a]) H)) H zs
  clear zs
  unfold t_law

  walk_at "sk stp"
  refine use_w_purse (sq_old hs) (by decide) hl fun pp o ho => ?_
  walk_at "sk stp"
  refine n_orT ?_
  walk_at "sk stp"
  refine use_w_take (o := o) 0 rfl ho (by decide) fun o1 m ho1 m0 m1 => ?_
  walk_at "sk stp"
  refine n_lcR1 (fun i acc L => ∃ (o : HO) (ms : List Int), acc = (ms.map strI).map V.str ∧ L = (pp, o) :: G ∧ Draw o ∧ IsText ms ∧ ms.length = i) (by omega) ⟨o1, [], rfl, rfl, ho1, (fun d hd => nomatch hd), rfl⟩ ?_ ?_
  · rintro i acc L D hi ⟨o, ms, rfl, rfl, ho, hd, hml⟩
    walk_at "sk stp"
    refine use_w_take (o := o) 1 rfl ho (by decide) fun o2 d ho2 d0 d1 => ?_
    walk_at "sk stp"
    refine n_put [] rfl (by rw [List.length_map, List.length_map, sizeLine_eq]; omega) ⟨o2, ms ++ [d], by rw [List.map_append, List.map_append]; rfl, rfl, ho2, fun x hx => ?_, by rw [List.length_append, hml]; rfl⟩ (.refl _)
    rcases List.mem_append.mp hx with hx | hx
    · exact hd x hx
    · rw [List.mem_singleton.mp hx]; exact ⟨d0, d1⟩
  rintro acc L D ⟨o2, ms, rfl, rfl, ho2, hd, hml⟩
  have hj := join_len (b := 3) (ms.map strI) fun y hy => by
    obtain ⟨m, hmm, rfl⟩ := List.mem_map.mp hy
    exact (word_ok (hd m hmm).1 (hd m hmm).2).1.2
  rw [List.length_map] at hj
  walk_at "sk stp"
  refine n_join (by walk_at "sk sq") (words_len hd (by omega)) ?_
  generalize Txt.join " " (ms.map strI) = t0 at *
  refine n_orC (c := "none") (fun s => s.length ≤ 60) (show t0.length ≤ 60 by omega) (by decide +kernel) (by rw [sizeLine_eq]; omega) fun t htl => ?_
  refine n_sub (L' := G) (by walk_at "sk sub") ?_
  walk_at "sk stp"
  refine n_lpR1 (fun i σ L => ∃ (y1 y2 y4 y5 y6 : Option V), σ = [some (.ref a), y1, y2, some (.str t), y4, y5, y6] ∧ G = L) (by decide) ⟨_, _, _, _, _, rfl, rfl⟩ ?_ ?_
  · rintro i σ L hi ⟨y1, y2, y4, y5, y6, rfl, rfl⟩
    walk_at "sk stp"
    refine use_w_purse (sq_old hs) (by omega) hl fun pd o3 ho3 => ?_
    walk_at "sk stp"
    refine use_w_no_text 0 rfl ho3 fun o4 s ho4 hsb => ?_
    obtain ⟨b1, b2⟩ := bad_ok hsb
    walk_at "sk stp"
    refine use_w_said (t := s) (by omega) (fun q ms h => by rw [b1] at h; cases h) (fun _ => ?_)
    walk_at "sk stp"
    refine use_w_other 0 rfl ho4 (by omega) fun o5 od ho5 hol => ?_
    walk_at "sk stp"
    refine use_w_due (t := od) (by omega) (fun q ms h => ?_) (fun h => ?_)
    · obtain ⟨e1, e2⟩ := readT_show h
      have hml := readT_len h
      walk_at "sk stp"
      refine use_w_said (t := od) (by omega) (fun q2 ms2 h2 => ?_) (fun h2 => by rw [h] at h2; cases h2)
      rw [h] at h2
      cases h2
      walk_at "sk stp"
      exact n_ki (L' := G) ⟨_, _, _, _, _, rfl, rfl⟩ (by walk_at "sk sub")
    · walk_at "sk stp"
      refine use_w_said (t := od) (by omega) (fun q2 ms2 h2 => by rw [h] at h2; cases h2) (fun h2 => ?_)
      walk_at "sk stp"
      refine n_neD da_non da_non rfl rfl ?_
      rw [show PyData.eqv .none .none = true from rfl]
      walk_at "sk stp"
      exact n_ki (L' := G) ⟨_, _, _, _, _, rfl, rfl⟩ (by walk_at "sk sub")
  rintro σ L ⟨y1, y2, y4, y5, y6, rfl, rfl⟩
  walk_at "sk stp"
  cases hr : readT t with
  | none =>
    refine use_w_said (t := t) (by omega) (fun q2 ms2 h2 => by rw [hr] at h2; cases h2) (fun h2 => ?_)
    walk_at "sk stp"
    refine use_w_due (t := t) (by omega) (fun q2 ms2 h2 => by rw [hr] at h2; cases h2) (fun h2 => ?_)
    walk_at "sk stp"
    refine n_eqD da_non da_non rfl rfl ?_
    rw [show PyData.eqv .none .none = true from rfl]
    exact k _ (Same.refl _)
  | some ms =>
    have hml := readT_len hr
    refine use_w_said (t := t) (by omega) (fun q2 ms2 h2 => ?_) (fun h2 => by rw [hr] at h2; cases h2)
    rw [hr] at h2
    cases h2
    walk_at "sk stp"
    refine use_w_due (t := t) (by omega) (fun q3 ms3 h3 => ?_) (fun h2 => by rw [hr] at h2; cases h2)
    rw [hr] at h3
    cases h3
    walk_at "sk stp"
    rw [decide_eq_true (show ms = ms from rfl)]
    exact n_sub (L' := G) (by walk_at "sk sub") (k _ (Same.refl _))
theorem raw_law {P : Program} {w : World} {K : PySem.W.Frag} {mg : Str → Option Value} {base : Heap} {A : Ads} {f : Addr} {fd : FuncData} (F : Fun K "law" "law" s_law f fd) (T : Txt K mg A) (O_show_marks : OkC P w K mg base CX0 1 "show_marks" ["marks"] (sp_show_marks K A)) (O_w_take : OkC P w K mg base CX0 1 "_law_take" ["_law_draw", "_law_many"] (sp_w_take K A)) (O_w_purse : OkC P w K mg base CX0 1 "_law_purse" ["_law_script", "_law_k"] (sp_w_purse K A)) (O_w_said : OkC P w K mg base CX0 3 "_law_said" ["_law_text"] (sp_w_said K A)) (O_w_due : OkC P w K mg base CX0 1 "_law_due" ["_law_text"] (sp_w_due K A)) (O_w_other : OkC P w K mg base CX0 2 "_law_other" ["_law_draw", "_law_text"] (sp_w_other K A)) (O_w_no_text : OkC P w K mg base CX0 2 "_law_no_text" ["_law_draw"] (sp_w_no_text K A)) : FnOk P w K mg base CX0 4 f fd ["_law_script"] (sp_law K A) := by
  refine F.ok sc_law (fun vs H Q E h => len_law vs H Q E h) (fun cdv Ar outer s H vs Q E hr h => ⟨t_law K A E, PSs.nox ?_, pure_law T.fct vs H Q E h⟩)
  have nd := sc_law.nd
  exact (pss_cons (ps_set (i := 1) nd rfl (Or.inr rfl) (pe_cl (E := WE W0) O_w_purse (hr.mono (by decide)) (by rfl) pass00 (pa_cons (pv 0) (pa_cons pe_int pa_nil))))
    (pss_cons (ps_set (i := 3) nd rfl (Or.inl rfl) (pe_orT (pe_m1 PySem.F.slot_str_join PySem.F.type_str_join mr_join pe_str (pe_lc (own := [("_law_k", 2)]) (by rfl) nd (pi_range1 (by rfl) T.b_range (pa_cons (pe_cl (E := WE W0) O_w_take (hr.mono (by decide)) (by rfl) pass00 (pa_cons (pv 1) (pa_cons pe_int pa_nil))) pa_nil)) (blkOk_by (N := N_law) (sc := defScope s_law) (own := [("_law_k", 2)]) (by decide +kernel)) (fun _ _ _ _ _ => (pg_name (i := 2) nd rfl (Or.inl rfl))) (fun _ _ _ _ _ => pts_nil) (fun _ _ _ _ _ => (pe_callTy cr_strI (by rfl) T.b_str boot_str (pa_cons (pe_cl (E := WE W0) O_w_take (hr.mono (by decide)) (by rfl) pass00 (pa_cons (pv 1) (pa_cons pe_int pa_nil))) pa_nil))))) (pe_one pe_str)))
    (pss_cons (ps_for PassesOwn.never rfl (pi_range1 (by rfl) T.b_range (pa_cons pe_int pa_nil)) (pg_name (i := 2) nd rfl (Or.inl rfl))
    (pss_cons (ps_set (i := 1) nd rfl (Or.inr rfl) (pe_cl (E := WE W0) O_w_purse (hr.mono (by decide)) (by rfl) pass00 (pa_cons (pv 0) (pa_cons (pe_op op_uAdd pe_int (pv 2)) pa_nil))))
    (pss_cons (ps_if (pt_cmpR op_uNotN (pe_cl (E := WE W0) O_w_said (hr.mono (by decide)) (by rfl) pass00 (pa_cons (pe_cl (E := WE W0) O_w_no_text (hr.mono (by decide)) (by rfl) pass00 (pa_cons (pv 1) pa_nil)) pa_nil)) pe_non (nomark _)) (pss_cons (ps_ret pe_bl)
    pss_nil) pss_nil)
    (pss_cons (ps_set (i := 4) nd rfl (Or.inl rfl) (pe_cl (E := WE W0) O_w_other (hr.mono (by decide)) (by rfl) pass00 (pa_cons (pv 1) (pa_cons (pv 3) pa_nil))))
    (pss_cons (ps_set (i := 5) nd rfl (Or.inl rfl) (pe_cl (E := WE W0) O_w_due (hr.mono (by decide)) (by rfl) pass00 (pa_cons (pv 4) pa_nil)))
    (pss_cons (ps_set (i := 6) nd rfl (Or.inl rfl) (pe_cl (E := WE W0) O_w_said (hr.mono (by decide)) (by rfl) pass00 (pa_cons (pv 4) pa_nil)))
    (pss_cons (ps_if (PW.pt (pw_or (pt_cmpR (op_uNe hr.units) (pv 6) (pv 5) (nomark _)) (pw_or1 (PW.pt (pw_and (pt_cmpR op_uNotN (pv 5) pe_non (nomark _)) (pw_and1 (pt_cmpR (op_uNe hr.units) (pe_cl (E := WE W0) O_show_marks (hr.mono (by decide)) (by rfl) pass00 (pa_cons (pv 6) pa_nil)) (pv 4) (nomark _)))))))) (pss_cons (ps_ret pe_bl)
    pss_nil) pss_nil)
    pss_nil)))))))
    (pss_cons (ps_ret (pe_cmpR (op_uEq hr.units) (pe_cl (E := WE W0) O_w_said (hr.mono (by decide)) (by rfl) pass00 (pa_cons (pv 3) pa_nil)) (pe_cl (E := WE W0) O_w_due (hr.mono (by decide)) (by rfl) pass00 (pa_cons (pv 3) pa_nil)) (nomark _)))
    pss_nil))))
theorem use_law {K : PySem.W.Frag} {A : Ads} {B : Hp} {G : Own} {Q : VK} {E : XK} {a : Addr} {ns : List Int} (hs : SqL K B a (ns.map V.int)) (hl : ns.length ≤ 63) (zq : ∀ B', Same B B' → N B' G (Q (.bl true))) : N B G (fun H => sp_law K A [.ref a] H Q E) := fun zH zs => ⟨B, _, _, _, rfl, zs, hs, hl, zq⟩

def spW (K : PySem.W.Frag) : Sp := fun vs H Q _ => ∃ (a : Addr) (ns : List Int), vs = [.ref a] ∧ SqL K H a (ns.map V.int) ∧ ns.length ≤ 63 ∧ ∀ H', SI H [] H' → Q (.bl true) H'
theorem spW_to {K : PySem.W.Frag} (A : Ads) {vs : List V} {H : Hp} {Q : VK} {E : XK} (h : spW K vs H Q E) : sp_law K A vs H Q E := by
  obtain ⟨a, ns, rfl, hs, hl, q⟩ := h
  exact ⟨H, [], a, ns, rfl, SI.refl H, hs, hl, fun B' sm H' s => q H' (s.mono sm)⟩
theorem all_mk {l : PySem.W.OpenLaw} {w : World} {K : PySem.W.Frag} {h : Heap} {mg : Str → Option Value} {fa : Addr} (X : K.In h) (G : h.Ns mainGlobals mg) (hfa : mg "law" = some (.ref fa))
    {c_NoText : Addr} {c_PressError : Addr} {c_Twice : Addr} {c_NoThing : Addr} {c_NoRule : Addr} {c_NoRow : Addr} {c_NoRepeat : Addr} {c_NoPlace : Addr} {c_NoName : Addr} {c_NoMake : Addr} {c_NoKids : Addr} {c_NoHold : Addr} {c_NoCode : Addr} {c_NoBlock : Addr} {c_NoBits : Addr} {c_Broken : Addr} {f_w_take : Addr} {od_w_take an_w_take : Option Addr} {sl_w_take : Array (Option Value)} {oc_w_take kV_w_take dc_w_take pm_w_take cd_w_take ct_w_take : Value} {f_w_purse : Addr} {od_w_purse an_w_purse : Option Addr} {sl_w_purse : Array (Option Value)} {oc_w_purse kV_w_purse dc_w_purse pm_w_purse cd_w_purse ct_w_purse : Value} {f_show_marks : Addr} {od_show_marks an_show_marks : Option Addr} {sl_show_marks : Array (Option Value)} {oc_show_marks kV_show_marks dc_show_marks pm_show_marks cd_show_marks ct_show_marks : Value} {f_read_mark : Addr} {od_read_mark an_read_mark : Option Addr} {sl_read_mark : Array (Option Value)} {oc_read_mark kV_read_mark dc_read_mark pm_read_mark cd_read_mark ct_read_mark : Value} {f_read_marks : Addr} {od_read_marks an_read_marks : Option Addr} {sl_read_marks : Array (Option Value)} {oc_read_marks kV_read_marks dc_read_marks pm_read_marks cd_read_marks ct_read_marks : Value} {f_w_said : Addr} {od_w_said an_w_said : Option Addr} {sl_w_said : Array (Option Value)} {oc_w_said kV_w_said dc_w_said pm_w_said cd_w_said ct_w_said : Value} {f_w_due : Addr} {od_w_due an_w_due : Option Addr} {sl_w_due : Array (Option Value)} {oc_w_due kV_w_due dc_w_due pm_w_due cd_w_due ct_w_due : Value} {f_w_other : Addr} {od_w_other an_w_other : Option Addr} {sl_w_other : Array (Option Value)} {oc_w_other kV_w_other dc_w_other pm_w_other cd_w_other ct_w_other : Value} {f_w_no_text : Addr} {od_w_no_text an_w_no_text : Option Addr} {sl_w_no_text : Array (Option Value)} {oc_w_no_text kV_w_no_text dc_w_no_text pm_w_no_text cd_w_no_text ct_w_no_text : Value} {f_law : Addr} {od_law an_law : Option Addr} {sl_law : Array (Option Value)} {oc_law kV_law dc_law pm_law cd_law ct_law : Value} {t_FIGURES : Tok} {t_GREATEST : Tok}
    (a_c_NoText : PySem.W.nsIn K mainGlobals "NoText" = some (some (.ref c_NoText)))
    (kc_NoText : PySem.W.keepIn K (.ref c_NoText) = true)
    (x_NoText : PySem.W.excIn K c_NoText [.type "ValueError", .type "Exception", .type "BaseException", .type "object"] "ValueError.__new__" = true)
    (s_NoText : PySem.W.subIn K (.ref c_NoText) (.type "BaseException") = some true)
    (t_NoText : PySem.W.typeIn K (.ref c_NoText) = some (.type "type"))
    (a_c_PressError : PySem.W.nsIn K mainGlobals "PressError" = some (some (.ref c_PressError)))
    (kc_PressError : PySem.W.keepIn K (.ref c_PressError) = true)
    (a_c_Twice : PySem.W.nsIn K mainGlobals "Twice" = some (some (.ref c_Twice)))
    (kc_Twice : PySem.W.keepIn K (.ref c_Twice) = true)
    (a_c_NoThing : PySem.W.nsIn K mainGlobals "NoThing" = some (some (.ref c_NoThing)))
    (kc_NoThing : PySem.W.keepIn K (.ref c_NoThing) = true)
    (a_c_NoRule : PySem.W.nsIn K mainGlobals "NoRule" = some (some (.ref c_NoRule)))
    (kc_NoRule : PySem.W.keepIn K (.ref c_NoRule) = true)
    (a_c_NoRow : PySem.W.nsIn K mainGlobals "NoRow" = some (some (.ref c_NoRow)))
    (kc_NoRow : PySem.W.keepIn K (.ref c_NoRow) = true)
    (a_c_NoRepeat : PySem.W.nsIn K mainGlobals "NoRepeat" = some (some (.ref c_NoRepeat)))
    (kc_NoRepeat : PySem.W.keepIn K (.ref c_NoRepeat) = true)
    (a_c_NoPlace : PySem.W.nsIn K mainGlobals "NoPlace" = some (some (.ref c_NoPlace)))
    (kc_NoPlace : PySem.W.keepIn K (.ref c_NoPlace) = true)
    (a_c_NoName : PySem.W.nsIn K mainGlobals "NoName" = some (some (.ref c_NoName)))
    (kc_NoName : PySem.W.keepIn K (.ref c_NoName) = true)
    (a_c_NoMake : PySem.W.nsIn K mainGlobals "NoMake" = some (some (.ref c_NoMake)))
    (kc_NoMake : PySem.W.keepIn K (.ref c_NoMake) = true)
    (a_c_NoKids : PySem.W.nsIn K mainGlobals "NoKids" = some (some (.ref c_NoKids)))
    (kc_NoKids : PySem.W.keepIn K (.ref c_NoKids) = true)
    (a_c_NoHold : PySem.W.nsIn K mainGlobals "NoHold" = some (some (.ref c_NoHold)))
    (kc_NoHold : PySem.W.keepIn K (.ref c_NoHold) = true)
    (a_c_NoCode : PySem.W.nsIn K mainGlobals "NoCode" = some (some (.ref c_NoCode)))
    (kc_NoCode : PySem.W.keepIn K (.ref c_NoCode) = true)
    (a_c_NoBlock : PySem.W.nsIn K mainGlobals "NoBlock" = some (some (.ref c_NoBlock)))
    (kc_NoBlock : PySem.W.keepIn K (.ref c_NoBlock) = true)
    (a_c_NoBits : PySem.W.nsIn K mainGlobals "NoBits" = some (some (.ref c_NoBits)))
    (kc_NoBits : PySem.W.keepIn K (.ref c_NoBits) = true)
    (a_c_Broken : PySem.W.nsIn K mainGlobals "Broken" = some (some (.ref c_Broken)))
    (kc_Broken : PySem.W.keepIn K (.ref c_Broken) = true)
    (hs_PressError : PySem.W.subIn K (.ref c_PressError) (.type "BaseException") = some true)
    (hh_PressError : PySem.W.hasDictIn K c_PressError = true)
    (ht_PressError : PySem.W.typeIn K (.ref c_PressError) = some (.type "type"))
    (qe_NoText_hg : PySem.W.findIn K (.ref c_NoText) "__getattribute__" = some (some (.builtin "BaseException.__getattribute__")))
    (qe_NoText_hk : PySem.W.findIn K (.ref c_NoText) "__getattr__" = some none)
    (qe_NoText_hs : PySem.W.subIn K (.ref c_NoText) (.type "BaseException") = some true)
    (qe_NoText_hd : PySem.W.hasDictIn K c_NoText = true)
    (qe_NoText_ha : PySem.W.findIn K (.ref c_NoText) "__class__" = some (some (.builtin "object.__class__")))
    (qe_NoText_hn : PySem.W.specialIn K (.builtin "object.__class__") "__get__" = some (some (.builtin "getset_descriptor.__get__")))
    (qe_NoText_ht : PySem.W.takesIn K (.builtin "object.__class__") = some true)
    (qe_NoText_hm : PySem.W.mroIn K c_NoText (.type "object") = some true)
    (qm_NoText_PressError : PySem.W.subIn K (.ref c_NoText) (.ref c_PressError) = some true)
    (qkk_NoText_0 : PySem.W.kitAny K (.ref c_NoText) [(.ref c_NoRepeat), (.ref c_NoRow), (.ref c_NoRule), (.ref c_NoThing), (.ref c_Twice)] = some false)
    (qkk_NoText_1 : PySem.W.kitAny K (.ref c_NoText) [(.ref c_Broken), (.ref c_NoBits), (.ref c_NoBlock), (.ref c_NoCode), (.ref c_NoHold), (.ref c_NoKids), (.ref c_NoMake), (.ref c_NoName), (.ref c_NoPlace)] = some false)
    (qkk_NoText_2 : PySem.W.kitOne K (.ref c_NoText) (.ref c_NoText) = some true)
    (qkk_NoText_3 : PySem.W.kitOne K (.ref c_NoText) (.type "ValueError") = some true)
    (a_w_take : PySem.W.nsIn K mainGlobals "_law_take" = some (some (.ref f_w_take)))
    (l_w_take : K.lookup f_w_take = some ⟨oc_w_take, od_w_take, .func (PySem.W.fnOf "_law_take" "_law_take" (defArgs s_w_take) (defBody s_w_take) (defScope s_w_take) .none kV_w_take dc_w_take pm_w_take an_w_take cd_w_take ct_w_take), sl_w_take⟩)
    (c_w_take : PySem.W.codeIn K cd_w_take "_law_take" = true)
    (k_w_take : PySem.W.keepIn K (.ref f_w_take) = true)
    (a_w_purse : PySem.W.nsIn K mainGlobals "_law_purse" = some (some (.ref f_w_purse)))
    (l_w_purse : K.lookup f_w_purse = some ⟨oc_w_purse, od_w_purse, .func (PySem.W.fnOf "_law_purse" "_law_purse" (defArgs s_w_purse) (defBody s_w_purse) (defScope s_w_purse) .none kV_w_purse dc_w_purse pm_w_purse an_w_purse cd_w_purse ct_w_purse), sl_w_purse⟩)
    (c_w_purse : PySem.W.codeIn K cd_w_purse "_law_purse" = true)
    (k_w_purse : PySem.W.keepIn K (.ref f_w_purse) = true)
    (a_show_marks : PySem.W.nsIn K mainGlobals "show_marks" = some (some (.ref f_show_marks)))
    (l_show_marks : K.lookup f_show_marks = some ⟨oc_show_marks, od_show_marks, .func (PySem.W.fnOf "show_marks" "show_marks" (defArgs s_show_marks) (defBody s_show_marks) (defScope s_show_marks) .none kV_show_marks dc_show_marks pm_show_marks an_show_marks cd_show_marks ct_show_marks), sl_show_marks⟩)
    (c_show_marks : PySem.W.codeIn K cd_show_marks "show_marks" = true)
    (k_show_marks : PySem.W.keepIn K (.ref f_show_marks) = true)
    (a_read_mark : PySem.W.nsIn K mainGlobals "read_mark" = some (some (.ref f_read_mark)))
    (l_read_mark : K.lookup f_read_mark = some ⟨oc_read_mark, od_read_mark, .func (PySem.W.fnOf "read_mark" "read_mark" (defArgs s_read_mark) (defBody s_read_mark) (defScope s_read_mark) .none kV_read_mark dc_read_mark pm_read_mark an_read_mark cd_read_mark ct_read_mark), sl_read_mark⟩)
    (c_read_mark : PySem.W.codeIn K cd_read_mark "read_mark" = true)
    (k_read_mark : PySem.W.keepIn K (.ref f_read_mark) = true)
    (a_read_marks : PySem.W.nsIn K mainGlobals "read_marks" = some (some (.ref f_read_marks)))
    (l_read_marks : K.lookup f_read_marks = some ⟨oc_read_marks, od_read_marks, .func (PySem.W.fnOf "read_marks" "read_marks" (defArgs s_read_marks) (defBody s_read_marks) (defScope s_read_marks) .none kV_read_marks dc_read_marks pm_read_marks an_read_marks cd_read_marks ct_read_marks), sl_read_marks⟩)
    (c_read_marks : PySem.W.codeIn K cd_read_marks "read_marks" = true)
    (k_read_marks : PySem.W.keepIn K (.ref f_read_marks) = true)
    (a_w_said : PySem.W.nsIn K mainGlobals "_law_said" = some (some (.ref f_w_said)))
    (l_w_said : K.lookup f_w_said = some ⟨oc_w_said, od_w_said, .func (PySem.W.fnOf "_law_said" "_law_said" (defArgs s_w_said) (defBody s_w_said) (defScope s_w_said) .none kV_w_said dc_w_said pm_w_said an_w_said cd_w_said ct_w_said), sl_w_said⟩)
    (c_w_said : PySem.W.codeIn K cd_w_said "_law_said" = true)
    (k_w_said : PySem.W.keepIn K (.ref f_w_said) = true)
    (a_w_due : PySem.W.nsIn K mainGlobals "_law_due" = some (some (.ref f_w_due)))
    (l_w_due : K.lookup f_w_due = some ⟨oc_w_due, od_w_due, .func (PySem.W.fnOf "_law_due" "_law_due" (defArgs s_w_due) (defBody s_w_due) (defScope s_w_due) .none kV_w_due dc_w_due pm_w_due an_w_due cd_w_due ct_w_due), sl_w_due⟩)
    (c_w_due : PySem.W.codeIn K cd_w_due "_law_due" = true)
    (k_w_due : PySem.W.keepIn K (.ref f_w_due) = true)
    (a_w_other : PySem.W.nsIn K mainGlobals "_law_other" = some (some (.ref f_w_other)))
    (l_w_other : K.lookup f_w_other = some ⟨oc_w_other, od_w_other, .func (PySem.W.fnOf "_law_other" "_law_other" (defArgs s_w_other) (defBody s_w_other) (defScope s_w_other) .none kV_w_other dc_w_other pm_w_other an_w_other cd_w_other ct_w_other), sl_w_other⟩)
    (c_w_other : PySem.W.codeIn K cd_w_other "_law_other" = true)
    (k_w_other : PySem.W.keepIn K (.ref f_w_other) = true)
    (a_w_no_text : PySem.W.nsIn K mainGlobals "_law_no_text" = some (some (.ref f_w_no_text)))
    (l_w_no_text : K.lookup f_w_no_text = some ⟨oc_w_no_text, od_w_no_text, .func (PySem.W.fnOf "_law_no_text" "_law_no_text" (defArgs s_w_no_text) (defBody s_w_no_text) (defScope s_w_no_text) .none kV_w_no_text dc_w_no_text pm_w_no_text an_w_no_text cd_w_no_text ct_w_no_text), sl_w_no_text⟩)
    (c_w_no_text : PySem.W.codeIn K cd_w_no_text "_law_no_text" = true)
    (k_w_no_text : PySem.W.keepIn K (.ref f_w_no_text) = true)
    (a_law : PySem.W.nsIn K mainGlobals "law" = some (some (.ref f_law)))
    (l_law : K.lookup f_law = some ⟨oc_law, od_law, .func (PySem.W.fnOf "law" "law" (defArgs s_law) (defBody s_law) (defScope s_law) .none kV_law dc_law pm_law an_law cd_law ct_law), sl_law⟩)
    (c_law : PySem.W.codeIn K cd_law "law" = true)
    (k_law : PySem.W.keepIn K (.ref f_law) = true)
    (z_ValueError : PySem.W.nsIn K mainGlobals "ValueError" = some none)
    (z_int : PySem.W.nsIn K mainGlobals "int" = some none)
    (z_isinstance : PySem.W.nsIn K mainGlobals "isinstance" = some none)
    (z_len : PySem.W.nsIn K mainGlobals "len" = some none)
    (z_max : PySem.W.nsIn K mainGlobals "max" = some none)
    (z_range : PySem.W.nsIn K mainGlobals "range" = some none)
    (z_str : PySem.W.nsIn K mainGlobals "str" = some none)
    (z_FIGURES : PySem.W.nsIn K mainGlobals "FIGURES" = some (some (.str "0123456789" t_FIGURES)))
    (z_GREATEST : PySem.W.nsIn K mainGlobals "GREATEST" = some (some (.int (255) t_GREATEST)))
    : ∃ (A : Ads) (fd : FuncData), (∀ (s : Shared) (v : Value), BindsTo s fd ⟨[v], []⟩ [("_law_script", v)]) ∧ ∀ base : Heap, K.In base → base.Ns mainGlobals mg → FnOk l.prog w K mg base CX0 4 fa fd ["_law_script"] (sp_law K A) := by
  have e := hfa.symm.trans (PySem.W.mg_of X G a_law)
  cases e
  have Fc : Fct K ⟨c_NoText, c_PressError, c_Twice, c_NoThing, c_NoRule, c_NoRow, c_NoRepeat, c_NoPlace, c_NoName, c_NoMake, c_NoKids, c_NoHold, c_NoCode, c_NoBlock, c_NoBits, c_Broken⟩ := ⟨⟨qe_NoText_hg, qe_NoText_hk, qe_NoText_hs, qe_NoText_hd, qe_NoText_ha, qe_NoText_hn, qe_NoText_ht, qe_NoText_hm⟩, PySem.W.exm_ref hs_PressError hh_PressError ht_PressError qm_NoText_PressError, qkk_NoText_0, qkk_NoText_1, qkk_NoText_2, qkk_NoText_3⟩
  have T : Txt K mg ⟨c_NoText, c_PressError, c_Twice, c_NoThing, c_NoRule, c_NoRow, c_NoRepeat, c_NoPlace, c_NoName, c_NoMake, c_NoKids, c_NoHold, c_NoCode, c_NoBlock, c_NoBits, c_Broken⟩ := ⟨Fc, PySem.W.mg_none_of X G z_ValueError, PySem.W.mg_none_of X G z_int, PySem.W.mg_none_of X G z_isinstance, PySem.W.mg_none_of X G z_len, PySem.W.mg_none_of X G z_max, PySem.W.mg_none_of X G z_range, PySem.W.mg_none_of X G z_str, ⟨_, PySem.W.mg_of X G z_FIGURES, ⟨_, rfl⟩⟩, ⟨_, PySem.W.mg_of X G z_GREATEST, ⟨_, rfl⟩⟩, PySem.W.mg_of X G a_c_NoText, PySem.W.mg_of X G a_c_PressError, PySem.W.mg_of X G a_c_Twice, PySem.W.mg_of X G a_c_NoThing, PySem.W.mg_of X G a_c_NoRule, PySem.W.mg_of X G a_c_NoRow, PySem.W.mg_of X G a_c_NoRepeat, PySem.W.mg_of X G a_c_NoPlace, PySem.W.mg_of X G a_c_NoName, PySem.W.mg_of X G a_c_NoMake, PySem.W.mg_of X G a_c_NoKids, PySem.W.mg_of X G a_c_NoHold, PySem.W.mg_of X G a_c_NoCode, PySem.W.mg_of X G a_c_NoBlock, PySem.W.mg_of X G a_c_NoBits, PySem.W.mg_of X G a_c_Broken, x_NoText, kc_NoText, s_NoText, t_NoText⟩
  refine ⟨⟨c_NoText, c_PressError, c_Twice, c_NoThing, c_NoRule, c_NoRow, c_NoRepeat, c_NoPlace, c_NoName, c_NoMake, c_NoKids, c_NoHold, c_NoCode, c_NoBlock, c_NoBits, c_Broken⟩, PySem.W.fnOf "law" "law" (defArgs s_law) (defBody s_law) (defScope s_law) .none kV_law dc_law pm_law an_law cd_law ct_law, fun s v => .of_eq rfl, fun base _ _ => ?_⟩
  have F_w_take := fun_mk (st := s_w_take) l_w_take c_w_take k_w_take
  have b_w_take := F_w_take.binds (ps := ["_law_draw", "_law_many"]) fun _ _ _ _ _ _ us hl => match us, hl with | [_, _], _ => rfl
  have O_w_take : OkC l.prog w K mg base CX0 1 "_law_take" ["_law_draw", "_law_many"] (sp_w_take K _) := ⟨⟨_, _, raw_w_take F_w_take T, PySem.W.mg_of X G a_w_take, k_w_take, b_w_take⟩⟩
  have F_w_purse := fun_mk (st := s_w_purse) l_w_purse c_w_purse k_w_purse
  have b_w_purse := F_w_purse.binds (ps := ["_law_script", "_law_k"]) fun _ _ _ _ _ _ us hl => match us, hl with | [_, _], _ => rfl
  have O_w_purse : OkC l.prog w K mg base CX0 1 "_law_purse" ["_law_script", "_law_k"] (sp_w_purse K _) := ⟨⟨_, _, raw_w_purse F_w_purse T, PySem.W.mg_of X G a_w_purse, k_w_purse, b_w_purse⟩⟩
  have F_show_marks := fun_mk (st := s_show_marks) l_show_marks c_show_marks k_show_marks
  have b_show_marks := F_show_marks.binds (ps := ["marks"]) fun _ _ _ _ _ _ us hl => match us, hl with | [_], _ => rfl
  have O_show_marks : OkC l.prog w K mg base CX0 1 "show_marks" ["marks"] (sp_show_marks K _) := ⟨⟨_, _, raw_show_marks F_show_marks T, PySem.W.mg_of X G a_show_marks, k_show_marks, b_show_marks⟩⟩
  have F_read_mark := fun_mk (st := s_read_mark) l_read_mark c_read_mark k_read_mark
  have b_read_mark := F_read_mark.binds (ps := ["word"]) fun _ _ _ _ _ _ us hl => match us, hl with | [_], _ => rfl
  have O_read_mark : OkC l.prog w K mg base (CXN l.prog w) 1 "read_mark" ["word"] (sp_read_mark K _) := ⟨⟨_, _, raw_read_mark F_read_mark T, PySem.W.mg_of X G a_read_mark, k_read_mark, b_read_mark⟩⟩
  have F_read_marks := fun_mk (st := s_read_marks) l_read_marks c_read_marks k_read_marks
  have b_read_marks := F_read_marks.binds (ps := ["text"]) fun _ _ _ _ _ _ us hl => match us, hl with | [_], _ => rfl
  have O_read_marks : OkC l.prog w K mg base (CXN l.prog w) 2 "read_marks" ["text"] (sp_read_marks K _) := ⟨⟨_, _, raw_read_marks F_read_marks T O_read_mark, PySem.W.mg_of X G a_read_marks, k_read_marks, b_read_marks⟩⟩
  have F_w_said := fun_mk (st := s_w_said) l_w_said c_w_said k_w_said
  have b_w_said := F_w_said.binds (ps := ["_law_text"]) fun _ _ _ _ _ _ us hl => match us, hl with | [_], _ => rfl
  have O_w_said : OkC l.prog w K mg base CX0 3 "_law_said" ["_law_text"] (sp_w_said K _) := ⟨⟨_, _, raw_w_said F_w_said T O_read_marks, PySem.W.mg_of X G a_w_said, k_w_said, b_w_said⟩⟩
  have F_w_due := fun_mk (st := s_w_due) l_w_due c_w_due k_w_due
  have b_w_due := F_w_due.binds (ps := ["_law_text"]) fun _ _ _ _ _ _ us hl => match us, hl with | [_], _ => rfl
  have O_w_due : OkC l.prog w K mg base CX0 1 "_law_due" ["_law_text"] (sp_w_due K _) := ⟨⟨_, _, raw_w_due F_w_due T, PySem.W.mg_of X G a_w_due, k_w_due, b_w_due⟩⟩
  have F_w_other := fun_mk (st := s_w_other) l_w_other c_w_other k_w_other
  have b_w_other := F_w_other.binds (ps := ["_law_draw", "_law_text"]) fun _ _ _ _ _ _ us hl => match us, hl with | [_, _], _ => rfl
  have O_w_other : OkC l.prog w K mg base CX0 2 "_law_other" ["_law_draw", "_law_text"] (sp_w_other K _) := ⟨⟨_, _, raw_w_other F_w_other T O_w_take, PySem.W.mg_of X G a_w_other, k_w_other, b_w_other⟩⟩
  have F_w_no_text := fun_mk (st := s_w_no_text) l_w_no_text c_w_no_text k_w_no_text
  have b_w_no_text := F_w_no_text.binds (ps := ["_law_draw"]) fun _ _ _ _ _ _ us hl => match us, hl with | [_], _ => rfl
  have O_w_no_text : OkC l.prog w K mg base CX0 2 "_law_no_text" ["_law_draw"] (sp_w_no_text K _) := ⟨⟨_, _, raw_w_no_text F_w_no_text T O_w_take, PySem.W.mg_of X G a_w_no_text, k_w_no_text, b_w_no_text⟩⟩
  exact raw_law (fun_mk (st := s_law) l_law c_law k_law) T O_show_marks O_w_take O_w_purse O_w_said O_w_due O_w_other O_w_no_text
theorem walk {l : PySem.W.OpenLaw} {q : Program} {loose : List Str} {XP : (Str → Option Value) → Heap → Prop} {YP : World → Heap → Prop} {d : DefRec} {K : Params → PySem.W.Frag} (hn : l.most = some 63) (hdf : d.params.defaults = [])
    (hY : ∀ (w : World) (h : Heap), YP w h → (K w.params).In h)
    (F : ∀ (w : World) (mg : Str → Option Value) (fa : Addr) (h : Heap), (K w.params).In h → h.Ns mainGlobals mg → mg d.name = some (.ref fa) →
      ∃ (A : Ads) (fd : FuncData), (∀ (s : Shared) (u : Value), BindsTo s fd ⟨[u], []⟩ [("_law_script", u)]) ∧ ∀ base : Heap, (K w.params).In base → base.Ns mainGlobals mg → FnOk l.prog w (K w.params) mg base CX0 4 fa fd ["_law_script"] (sp_law (K w.params) A)) :
    PySem.W.WalkO q loose XP YP l.row.toRowW d [] (fun f vs => PySem.call f vs) :=
  L2.walk_of (n := 63) (k := 4) (x := "_law_script") (CX := fun _ => CX0) (sp := fun w => spW (K w.params)) hn (by decide) hdf ⟨rfl, by decide, by decide⟩ hY (fun w mg fa h kx ns e => by
    obtain ⟨A, fd, b, f⟩ := F w mg fa h kx ns e
    exact ⟨fd, b, fun base k2 n2 => (f base k2 n2).imp fun vs H Q E z => spW_to A z⟩) (fun _ _ a ns hl _ hS => ⟨a, ns, rfl, hS, hl, fun _ _ => rfl⟩) fun _ _ _ _ _ z => z
end Gk57
open PySem PySem.W PyProof.Rows in
set_option maxRecDepth 100000 in
set_option maxHeartbeats 0 in
theorem PySem.Challenge.cw_seekpress_k57_texts_refused_holds : PySem.Challenge.rw_seekpress_k57_texts_refused.Holds := by
  w_on; o_law; k_head; (case hw => w_witness2)
  k_fill
  refine Gk57.walk (l := PySem.Challenge.rw_seekpress_k57_texts_refused) rfl rfl (fun w h Y => PySem.W.kIn_of Y) ?F
  case F =>
    intro w mg fa h KX G hmg
    refine' Gk57.all_mk KX G hmg ?a_c_NoText ?kc_NoText ?x_NoText ?s_NoText ?t_NoText ?a_c_PressError ?kc_PressError ?a_c_Twice ?kc_Twice ?a_c_NoThing ?kc_NoThing ?a_c_NoRule ?kc_NoRule ?a_c_NoRow ?kc_NoRow ?a_c_NoRepeat ?kc_NoRepeat ?a_c_NoPlace ?kc_NoPlace ?a_c_NoName ?kc_NoName ?a_c_NoMake ?kc_NoMake ?a_c_NoKids ?kc_NoKids ?a_c_NoHold ?kc_NoHold ?a_c_NoCode ?kc_NoCode ?a_c_NoBlock ?kc_NoBlock ?a_c_NoBits ?kc_NoBits ?a_c_Broken ?kc_Broken ?hs_PressError ?hh_PressError ?ht_PressError ?qe_NoText_hg ?qe_NoText_hk ?qe_NoText_hs ?qe_NoText_hd ?qe_NoText_ha ?qe_NoText_hn ?qe_NoText_ht ?qe_NoText_hm ?qm_NoText_PressError ?qkk_NoText_0 ?qkk_NoText_1 ?qkk_NoText_2 ?qkk_NoText_3 ?a_w_take ?l_w_take ?c_w_take ?k_w_take ?a_w_purse ?l_w_purse ?c_w_purse ?k_w_purse ?a_show_marks ?l_show_marks ?c_show_marks ?k_show_marks ?a_read_mark ?l_read_mark ?c_read_mark ?k_read_mark ?a_read_marks ?l_read_marks ?c_read_marks ?k_read_marks ?a_w_said ?l_w_said ?c_w_said ?k_w_said ?a_w_due ?l_w_due ?c_w_due ?k_w_due ?a_w_other ?l_w_other ?c_w_other ?k_w_other ?a_w_no_text ?l_w_no_text ?c_w_no_text ?k_w_no_text ?a_law ?l_law ?c_law ?k_law ?z_ValueError ?z_int ?z_isinstance ?z_len ?z_max ?z_range ?z_str ?z_FIGURES ?z_GREATEST
    (case a_c_NoText => k_is)
    (case kc_NoText => k_is)
    (case x_NoText => k_exc)
    (case s_NoText => k_is)
    (case t_NoText => k_is)
    (case a_c_PressError => k_is)
    (case kc_PressError => k_is)
    (case a_c_Twice => k_is)
    (case kc_Twice => k_is)
    (case a_c_NoThing => k_is)
    (case kc_NoThing => k_is)
    (case a_c_NoRule => k_is)
    (case kc_NoRule => k_is)
    (case a_c_NoRow => k_is)
    (case kc_NoRow => k_is)
    (case a_c_NoRepeat => k_is)
    (case kc_NoRepeat => k_is)
    (case a_c_NoPlace => k_is)
    (case kc_NoPlace => k_is)
    (case a_c_NoName => k_is)
    (case kc_NoName => k_is)
    (case a_c_NoMake => k_is)
    (case kc_NoMake => k_is)
    (case a_c_NoKids => k_is)
    (case kc_NoKids => k_is)
    (case a_c_NoHold => k_is)
    (case kc_NoHold => k_is)
    (case a_c_NoCode => k_is)
    (case kc_NoCode => k_is)
    (case a_c_NoBlock => k_is)
    (case kc_NoBlock => k_is)
    (case a_c_NoBits => k_is)
    (case kc_NoBits => k_is)
    (case a_c_Broken => k_is)
    (case kc_Broken => k_is)
    (case hs_PressError => k_is)
    (case hh_PressError => k_is)
    (case ht_PressError => k_is)
    (case qe_NoText_hg => k_is)
    (case qe_NoText_hk => k_is)
    (case qe_NoText_hs => k_is)
    (case qe_NoText_hd => k_is)
    (case qe_NoText_ha => k_is)
    (case qe_NoText_hn => k_is)
    (case qe_NoText_ht => k_is)
    (case qe_NoText_hm => k_is)
    (case qm_NoText_PressError => k_is)
    (case qkk_NoText_0 => kit_is)
    (case qkk_NoText_1 => kit_is)
    (case qkk_NoText_2 => kit_is)
    (case qkk_NoText_3 => kit_is)
    (case a_w_take => k_is)
    (case l_w_take => k_is)
    (case c_w_take => k_is)
    (case k_w_take => k_is)
    (case a_w_purse => k_is)
    (case l_w_purse => k_is)
    (case c_w_purse => k_is)
    (case k_w_purse => k_is)
    (case a_show_marks => k_is)
    (case l_show_marks => k_is)
    (case c_show_marks => k_is)
    (case k_show_marks => k_is)
    (case a_read_mark => k_is)
    (case l_read_mark => k_is)
    (case c_read_mark => k_is)
    (case k_read_mark => k_is)
    (case a_read_marks => k_is)
    (case l_read_marks => k_is)
    (case c_read_marks => k_is)
    (case k_read_marks => k_is)
    (case a_w_said => k_is)
    (case l_w_said => k_is)
    (case c_w_said => k_is)
    (case k_w_said => k_is)
    (case a_w_due => k_is)
    (case l_w_due => k_is)
    (case c_w_due => k_is)
    (case k_w_due => k_is)
    (case a_w_other => k_is)
    (case l_w_other => k_is)
    (case c_w_other => k_is)
    (case k_w_other => k_is)
    (case a_w_no_text => k_is)
    (case l_w_no_text => k_is)
    (case c_w_no_text => k_is)
    (case k_w_no_text => k_is)
    (case a_law => k_is)
    (case l_law => k_is)
    (case c_law => k_is)
    (case k_law => k_is)
    (case z_ValueError => k_is)
    (case z_int => k_is)
    (case z_isinstance => k_is)
    (case z_len => k_is)
    (case z_max => k_is)
    (case z_range => k_is)
    (case z_str => k_is)
    (case z_FIGURES => k_is)
    (case z_GREATEST => k_is)


