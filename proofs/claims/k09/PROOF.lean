import PyProof.Rows.All
import Wide.All
import OpenK.AllK
import Wide.FinOn
import HandS.ForMost
import HandS.ForExc
import HandS.IsInst
import HandS.WideBits
import HandS.More
import HandS.Evl
import HandS.TupAny
import HandS.ExcCtx
import HandS.ExcIs
import HandS.TryMany
import KE.KRevIter
import KE.GoesZip
import PyProof.Draws
import KE.IntBitsLaws
import KE.KBits
import KE.DataMinMax
import HandS.SortKw
import HandS.SortRule
import HandS.SortInts
import HandS.Deep
import KE.KIntText
import PySem.Challenge.RW_seekpress_k09_behind_a_cut
set_option Elab.async false
set_option linter.all false
set_option maxRecDepth 100000
set_option maxHeartbeats 4000000
/-! Sk: readings walked over what one owns. SI B L H: the heap H is the base B and, apart from it, the objects of L. -/
namespace Sk
open PySem PySem.Spec PyProof.Rows L2

abbrev St := L2.St
abbrev Own := List (Addr × HO)
structure SI (B : Hp) (L : Own) (H : Hp) : Prop where
  ext : Same B H
  own : ∀ q ∈ L, B q.1 = none ∧ H q.1 = some q.2
  nd : (L.map (·.1)).Nodup
section
variable {B H H' : Hp} {L L' Lr Lin Lout : Own} {p : Addr} {o o' : HO} {i : Nat}
theorem SI.refl (H : Hp) : SI H [] H := ⟨Same.refl H, by simp, by simp⟩
theorem SI.at (h : SI B L H) (hi : L[i]? = some (p, o)) : H p = some o := (h.own _ (List.mem_of_getElem? hi)).2
theorem SI.free (h : SI B L H) (hi : L[i]? = some (p, o)) : B p = none := (h.own _ (List.mem_of_getElem? hi)).1
theorem SI.new (h : SI B L H) (hp : H p = none) : SI B ((p, o) :: L) (upd H p o) where
  ext := fun b u e => by rw [upd_ne (ne_of_none (h.ext b u e) hp)]; exact h.ext b u e
  own := fun q hq => by
    rcases List.mem_cons.mp hq with rfl | hq
    · exact ⟨h.ext.free hp, upd_same⟩
    · obtain ⟨a, b⟩ := h.own q hq
      exact ⟨a, by rw [upd_ne (ne_of_none b hp)]; exact b⟩
  nd := by
    rw [List.map_cons, List.nodup_cons]
    refine ⟨fun hm => ?_, h.nd⟩
    obtain ⟨q, hq, e⟩ := List.mem_map.mp hm
    have := (h.own q hq).2
    rw [show q.1 = p from e, hp] at this
    cases this
theorem SI.set (h : SI B L H) (hi : L[i]? = some (p, o)) : SI B (L.set i (p, o')) (upd H p o') where
  ext := fun b u e => by
    rw [upd_ne (ne_of_none e (h.free hi))]
    exact h.ext b u e
  own := fun q hq => by
    obtain ⟨j, hj, e⟩ := List.mem_iff_getElem.mp hq
    rw [List.length_set] at hj
    rw [List.getElem_set] at e
    split at e
    · subst e
      exact ⟨h.free hi, upd_same⟩
    · rename_i hij
      subst e
      obtain ⟨a, b⟩ := h.own L[j] (List.getElem_mem _)
      refine ⟨a, ?_⟩
      have hne : L[j].1 ≠ p := fun e => by
        obtain ⟨hi', ei⟩ := List.getElem?_eq_some_iff.mp hi
        have hi2 : i < (L.map (·.1)).length := by rw [List.length_map]; exact hi'
        have hj2 : j < (L.map (·.1)).length := by rw [List.length_map]; exact hj
        have q : (L.map (·.1))[i] = (L.map (·.1))[j] := by
          rw [List.getElem_map, List.getElem_map, ei, e]
        exact hij ((List.getElem_inj h.nd).mp q)
      rw [upd_ne hne]
      exact b
  nd := by
    have e : (L.set i (p, o')).map (·.1) = L.map (·.1) := by
      rw [List.map_set]
      obtain ⟨hi', ei⟩ := List.getElem?_eq_some_iff.mp hi
      apply List.ext_getElem
      · simp
      · intro n h1 h2
        rw [List.getElem_set]
        split
        · rename_i e; subst e
          rw [List.getElem_map, ei]
        · rfl
    rw [e]
    exact h.nd
theorem SI.sub (h : SI B L H) (s : L'.Sublist L) : SI B L' H :=
  ⟨h.ext, fun q hq => h.own q (s.subset hq), h.nd.sublist (s.map _)⟩
theorem SI.perm (h : SI B L H) (s : L.Perm L') : SI B L' H :=
  ⟨h.ext, fun q hq => h.own q (s.mem_iff.mpr hq), (s.map _).nodup_iff.mp h.nd⟩
theorem SI.trans (h : SI B L H) (h' : SI H L' H') : SI B (L' ++ L) H' where
  ext := h.ext.trans h'.ext
  own := fun q hq => by
    rcases List.mem_append.mp hq with hq | hq
    · obtain ⟨a, b⟩ := h'.own q hq
      exact ⟨h.ext.free a, b⟩
    · obtain ⟨a, b⟩ := h.own q hq
      exact ⟨a, h'.ext _ _ b⟩
  nd := by
    rw [List.map_append, List.nodup_append]
    refine ⟨h'.nd, h.nd, fun a ha b hb e => ?_⟩
    obtain ⟨q, hq, rfl⟩ := List.mem_map.mp ha
    obtain ⟨r, hr, rfl⟩ := List.mem_map.mp hb
    have x := (h'.own q hq).1
    rw [e, (h.own r hr).2] at x
    cases x
/-- the heap without some addresses -/
def del (H : Hp) (ps : List Addr) : Hp := fun a => if a ∈ ps then none else H a
theorem del_in {ps : List Addr} (h : p ∈ ps) : del H ps p = none := by unfold del; rw [if_pos h]
theorem del_out {ps : List Addr} (h : p ∉ ps) : del H ps p = H p := by unfold del; rw [if_neg h]
/-- what is lent: the objects of Lin; the rest stands in the base -/
theorem SI.lend (h : SI B (Lin ++ Lr) H) : SI (del H (Lin.map (·.1))) Lin H where
  ext := fun b u e => by
    unfold del at e
    split at e
    · cases e
    · exact e
  own := fun q hq => ⟨del_in (List.mem_map.mpr ⟨q, hq, rfl⟩), (h.own q (List.mem_append_left _ hq)).2⟩
  nd := by
    have n := h.nd
    rw [List.map_append] at n
    exact (List.nodup_append.mp n).1
/-- what is given back -/
theorem SI.back (h : SI B (Lin ++ Lr) H) (h' : SI (del H (Lin.map (·.1))) Lout H') : SI B (Lout ++ Lr) H' where
  ext := fun b u e => by
    refine h'.ext b u ?_
    rw [del_out fun hm => ?_]
    · exact h.ext b u e
    · obtain ⟨q, hq, rfl⟩ := List.mem_map.mp hm
      rw [(h.own q (List.mem_append_left _ hq)).1] at e
      cases e
  own := fun q hq => by
    rcases List.mem_append.mp hq with hq | hq
    · obtain ⟨a, b⟩ := h'.own q hq
      refine ⟨?_, b⟩
      by_cases hm : q.1 ∈ Lin.map (·.1)
      · obtain ⟨r, hr, e⟩ := List.mem_map.mp hm
        rw [← e]
        exact (h.own r (List.mem_append_left _ hr)).1
      · rw [del_out hm] at a
        exact h.ext.free a
    · obtain ⟨a, b⟩ := h.own q (List.mem_append_right _ hq)
      refine ⟨a, h'.ext _ _ ?_⟩
      rw [del_out fun hm => ?_]
      · exact b
      · have n := h.nd
        rw [List.map_append, List.nodup_append] at n
        exact n.2.2 _ hm _ (List.mem_map.mpr ⟨q, hq, rfl⟩) rfl
  nd := by
    have n := h.nd
    rw [List.map_append, List.nodup_append] at n
    rw [List.map_append, List.nodup_append]
    refine ⟨h'.nd, n.2.1, fun a ha b hb e => ?_⟩
    obtain ⟨q, hq, rfl⟩ := List.mem_map.mp ha
    obtain ⟨r, hr, rfl⟩ := List.mem_map.mp hb
    have x := (h'.own q hq).1
    rw [e, del_out fun hm => n.2.2 _ hm _ (List.mem_map.mpr ⟨r, hr, rfl⟩) rfl, (h.own r (List.mem_append_right _ hr)).2] at x
    cases x
end

/-! ### ends -/
def onE (D : Ends) (n : St → Hp → Prop) : Ends := { D with nx := n }
def loE (D : Ends) (n : St → Hp → Prop) : Ends := { D with nx := n, ct := n, bk := D.nx }
def endE (Q : VK) : Ends := { nx := fun _ H' => Q .non H', rt := Q }
theorem onE_nx {D : Ends} {n : St → Hp → Prop} : (onE D n).nx = n := rfl
theorem onE_rt {D : Ends} {n : St → Hp → Prop} : (onE D n).rt = D.rt := rfl
theorem onE_bk {D : Ends} {n : St → Hp → Prop} : (onE D n).bk = D.bk := rfl
theorem onE_ct {D : Ends} {n : St → Hp → Prop} : (onE D n).ct = D.ct := rfl
theorem loE_nx {D : Ends} {n : St → Hp → Prop} : (loE D n).nx = n := rfl
theorem loE_rt {D : Ends} {n : St → Hp → Prop} : (loE D n).rt = D.rt := rfl
theorem loE_bk {D : Ends} {n : St → Hp → Prop} : (loE D n).bk = D.nx := rfl
theorem loE_ct {D : Ends} {n : St → Hp → Prop} : (loE D n).ct = n := rfl
theorem endE_rt {Q : VK} : (endE Q).rt = Q := rfl
theorem endE_nx {Q : VK} : (endE Q).nx = fun _ H' => Q .non H' := rfl

/-! ### the goal's form -/
def N (B : Hp) (L : Own) (k : Hp → Prop) : Prop := ∀ H, SI B L H → k H
/-- behind a turn: what is owned, by a word -/
def KI (B : Hp) (P : St → Own → Prop) : St → Hp → Prop := fun σ H => ∃ L, SI B L H ∧ P σ L
def KW (B : Hp) (P : Nat → St → Own → Prop) (m : Nat) : St → Hp → Prop := fun σ H => ∃ m' L, m' < m ∧ SI B L H ∧ P m' σ L
def Sq (K : PySem.W.Frag) (B : Hp) (L : Own) (a : Addr) (xs : List V) : Prop := ∀ H, SI B L H → SqL K H a xs
def Tp (K : PySem.W.Frag) (B : Hp) (L : Own) (a : Addr) (xs : List V) : Prop := ∀ H, SI B L H → SqT K H a xs
def Is (B : Hp) (L : Own) (a : Addr) (o : HO) : Prop := ∀ H, SI B L H → H a = some o
theorem same_tup {K : PySem.W.Frag} {H H' : Hp} {a : Addr} {xs : List V} (e : Same H H') (h : SqT K H a xs) : SqT K H' a xs := by
  rcases h with (h | ⟨o, h⟩) | h
  · exact .inl (.inl (e _ _ h))
  · exact .inl (.inr ⟨o, e _ _ h⟩)
  · exact .inr h
section
variable {K : PySem.W.Frag} {B : Hp} {L L' : Own} {a p : Addr} {o : HO} {xs ys : List V} {k : Hp → Prop}
theorem sq_own (i : Nat) (h : L[i]? = some (a, .lst xs)) : Sq K B L a xs := fun _ s => SqL.of (s.at h)
theorem sq_old (h : SqL K B a xs) : Sq K B L a xs := fun _ s => s.ext.seq h
theorem tp_own (i : Nat) (h : L[i]? = some (a, .tup xs)) : Tp K B L a xs := fun _ s => SqT.of (s.at h)
theorem tp_old (h : SqT K B a xs) : Tp K B L a xs := fun _ s => same_tup s.ext h
theorem is_own (i : Nat) (h : L[i]? = some (a, o)) : Is B L a o := fun _ s => s.at h
theorem is_old (h : B a = some o) : Is B L a o := fun _ s => s.ext _ _ h
theorem is_sq (h : Is B L a (.lst xs)) : Sq K B L a xs := fun H s => SqL.of (h H s)
theorem Is.sub (h : Is B L a o) (s : L.Sublist L') : Is B L' a o := fun H x => h H (x.sub s)
theorem Sq.sub (h : Sq K B L a xs) (s : L.Sublist L') : Sq K B L' a xs := fun H x => h H (x.sub s)
theorem Sq.app (h : Sq K B L a xs) : Sq K B (L' ++ L) a xs := h.sub (List.sublist_append_right L' L)
theorem n_sub (s : L'.Sublist L) (h : N B L' k) : N B L k := fun H x => h H (x.sub s)
theorem n_perm (s : L.Perm L') (h : N B L' k) : N B L k := fun H x => h H (x.perm s)
theorem n_own {L'' : Own} (e : L = L'') (h : N B L'' k) : N B L k := by rw [e]; exact h
theorem n_of (h : ∀ H, SI B L H → k H) : N B L k := h

/-! ### operators of any kind -/
def rStrAdd : R2 := fun x y H Q => ∃ i j, x = .str i ∧ y = .str j ∧ i.length + j.length ≤ sizeLine ∧ Q (.str (i ++ j)) H
def uAdd (K : PySem.W.Frag) : R2 := fun x y H Q => (rI0 (fun i j => .int (i + j)) x y H Q ∨ rStrAdd x y H Q) ∨ (rCat x y H Q ∨ rCatA K x y H Q)
def uSub : R2 := rI0 fun i j => .int (i - j)
def uMul : R2 := fun x y H Q => (rI CMul (fun i j => .int (i * j)) x y H Q ∨ rI CMulW (fun i j => .int (i * j)) x y H Q) ∨ rRep x y H Q
def uDiv : R2 := fun x y H Q => rI CDiv (fun i j => .int (i / j)) x y H Q ∨ rI CDivW (fun i j => .int (i / j)) x y H Q
def uMod : R2 := rI (fun _ j => 0 < j) fun i j => .int (i % j)
def uPow : R2 := rI CPow fun i j => .int (i ^ j.toNat)
def uShl : R2 := fun x y H Q => rI CPow (fun i j => .int (i * 2 ^ j.toNat)) x y H Q ∨ rI CShl (fun i j => .int (i * 2 ^ j.toNat)) x y H Q
def uShr : R2 := rI (fun _ j => 0 ≤ j) fun i j => .int (i / 2 ^ j.toNat)
def uAnd : R2 := rI0 fun i j => .int (Builtin.bitAnd i j)
def uOr : R2 := rI0 fun i j => .int (Builtin.bitOr i j)
def uXor : R2 := rI0 fun i j => .int (Builtin.bitXor i j)
def uEq (K : PySem.W.Frag) : R2 := fun x y H Q => rEq x y H Q ∨ rEqD K x y H Q
def uNe (K : PySem.W.Frag) : R2 := fun x y H Q => rNe x y H Q ∨ rNeD K x y H Q
def uLt : R2 := rI0 fun i j => .bl (decide (i < j))
def uLe : R2 := rI0 fun i j => .bl (decide (i ≤ j))
def uGt : R2 := rI0 fun i j => .bl (decide (j < i))
def uGe : R2 := rI0 fun i j => .bl (decide (j ≤ i))
def uIsN : R2 := fun x y H Q => y = .non ∧ Q (.bl (decide (x = .non))) H
def uNotN : R2 := fun x y H Q => y = .non ∧ Q (.bl (!decide (x = .non))) H
def uLen (K : PySem.W.Frag) : List V → Hp → VK → Prop := fun xs H Q => ∃ p ys, xs = [.ref p] ∧ (SqL K H p ys ∨ SqT K H p ys) ∧ Q (.int ys.length) H
def uListOf (K : PySem.W.Frag) : List V → Hp → VK → Prop := fun xs H Q => ∃ p ys, xs = [.ref p] ∧ (SqL K H p ys ∨ SqT K H p ys) ∧ ∀ l, H l = none → Q (.ref l) (upd H l (.lst ys))
def rInsert : V → List V → Hp → VK → Prop := fun x vs H Q => ∃ (l : Addr) (xs : List V) (i : Int) (y : V), x = .ref l ∧ vs = [.int i, y] ∧ H l = some (.lst xs) ∧ xs.length < sizeLine ∧ 0 ≤ i ∧ i < 2 ^ 63 ∧
    Q .non (upd H l (.lst (xs.take i.toNat ++ [y] ++ xs.drop i.toNat)))
section
variable {X : Cx}
theorem op_uAdd : OpR X (binaryOp .Add) (uAdd X.K) := (op_add.or op_add_str).or (op_cat.or op_catA)
theorem op_uSub : OpR X (binaryOp .Sub) uSub := op_sub
theorem op_uMul : OpR X (binaryOp .Mult) uMul := (op_mul.or op_mulW).or op_rep
theorem op_uDiv : OpR X (binaryOp .FloorDiv) uDiv := op_fdiv.or op_fdivW
theorem op_uMod : OpR X (binaryOp .Mod) uMod := op_mod
theorem op_uPow : OpR X (binaryOp .Pow) uPow := op_pow
theorem op_uShl : OpR X (binaryOp .LShift) uShl := op_shl.or op_shlW
theorem op_uShr : OpR X (binaryOp .RShift) uShr := op_shr
theorem op_uAnd : OpR X (binaryOp .BitAnd) uAnd := op_and
theorem op_uOr : OpR X (binaryOp .BitOr) uOr := op_or
theorem op_uXor : OpR X (binaryOp .BitXor) uXor := op_xor
theorem op_uEq (hu : X.A.units + 64 < cLine) : OpR X (compareOp .Eq) (uEq X.K) := op_eq.or (op_eqD hu)
theorem op_uNe (hu : X.A.units + 64 < cLine) : OpR X (compareOp .NotEq) (uNe X.K) := op_ne.or (op_neD hu)
theorem op_uLt : OpR X (compareOp .Lt) uLt := op_lt
theorem op_uLe : OpR X (compareOp .LtE) uLe := op_le
theorem op_uGt : OpR X (compareOp .Gt) uGt := op_gt
theorem op_uGe : OpR X (compareOp .GtE) uGe := op_ge
theorem op_uIsN : OpR X (compareOp .Is) uIsN := op_isN
theorem op_uNotN : OpR X (compareOp .IsNot) uNotN := op_notN
theorem call_uLen : CallR X (.builtin "len") (uLen X.K) := call_len_seq
theorem call_uList : CallR X (.type "list") (uListOf X.K) := call_list_of
theorem mt_uInsert : MtM X "list.insert" rInsert := mt_insert
end

/-! ### expressions -/
variable {σ : St} {Q : VK} {v x y : V} {ta tb te : TE} {t u : TT} {b : Bool} {QB : Bool → Hp → Prop}
theorem n_var {i : Nat} (h : σ[i]? = some (some v)) (q : N B L (Q v)) : N B L (fun H => tVar i σ H Q) := fun H s => ⟨v, h, q H s⟩
theorem n_c (q : N B L (Q v)) : N B L (fun H => tC v σ H Q) := q
theorem n_op {r : R2} (q : N B L (fun H => ta σ H fun x H1 => tb σ H1 fun y H2 => r x y H2 Q)) : N B L (fun H => tOp r ta tb σ H Q) := q
theorem n_un {r : V → Hp → VK → Prop} (q : N B L (fun H => ta σ H fun x H1 => r x H1 Q)) : N B L (fun H => tUn r ta σ H Q) := q
theorem n_nil {QA : List V → Hp → Prop} (q : N B L (QA [])) : N B L (fun H => tNil σ H QA) := q
theorem n_cons {tr : TA} {QA : List V → Hp → Prop} (q : N B L (fun H => ta σ H fun x H1 => tr σ H1 fun xs H2 => QA (x :: xs) H2)) : N B L (fun H => tCons ta tr σ H QA) := q
theorem n_cb {r : List V → Hp → VK → Prop} {tr : TA} (q : N B L (fun H => tr σ H fun vs H1 => r vs H1 Q)) : N B L (fun H => tCB r tr σ H Q) := q
theorem n_call {sp : Sp} {dvs : List V} {E : XK} {tr : TA} (q : N B L (fun H => tr σ H fun vs H1 => sp (vs ++ dvs) H1 Q E)) : N B L (fun H => tCall sp dvs E tr σ H Q) := q
theorem n_test (q : N B L (fun H => te σ H fun x H' => ∃ k, x = .bl k ∧ QB k H')) : N B L (fun H => tTest te σ H QB) := q
theorem n_tB (q : N B L (fun H => te σ H fun x H' => ∃ k, x = .bl k ∧ QB k H')) : N B L (fun H => tB te σ H QB) := q
theorem n_bl (q : N B L (QB b)) : N B L (fun H => ∃ k, V.bl b = V.bl k ∧ QB k H) := fun H s => ⟨b, rfl, q H s⟩
theorem n_blV (q : N B L (Q (.bl b))) : N B L (fun H => Q (.bl b) H) := q
/-- a test's answer, told once for whatever follows -/
def ET (B : Hp) (L : Own) (t : TT) (σ : St) (b : Bool) : Prop := ∀ QB : Bool → Hp → Prop, N B L (QB b) → N B L (fun H => t σ H QB)
def EV (B : Hp) (L : Own) (t : TE) (σ : St) (v : V) : Prop := ∀ Q : VK, N B L (Q v) → N B L (fun H => t σ H Q)
theorem n_and {a c : Bool} (h1 : ET B L t σ a) (h2 : a = true → ET B L u σ c) (q : N B L (QB (a && c))) : N B L (fun H => tAnd t u σ H QB) := by
  refine h1 (fun c H1 => if c = true then u σ H1 QB else QB false H1) fun H s => ?_
  cases a with
  | true => exact h2 rfl QB q H s
  | false => exact q H s
theorem n_or {a c : Bool} (h1 : ET B L t σ a) (h2 : a = false → ET B L u σ c) (q : N B L (QB (a || c))) : N B L (fun H => tOr t u σ H QB) := by
  refine h1 (fun c H1 => if c = true then QB true H1 else u σ H1 QB) fun H s => ?_
  cases a with
  | true => exact q H s
  | false => exact h2 rfl QB q H s
theorem n_not (q : N B L (fun H => t σ H fun c H1 => QB (!c) H1)) : N B L (fun H => tNot t σ H QB) := q
theorem n_andV {a c : Bool} (h1 : EV B L ta σ (.bl a)) (h2 : a = true → EV B L tb σ (.bl c)) (q : N B L (Q (.bl (a && c)))) : N B L (fun H => tAndV ta tb σ H Q) := by
  refine h1 (fun x H1 => ∃ c, x = .bl c ∧ if c = true then tb σ H1 Q else Q (.bl false) H1) fun H s => ⟨a, rfl, ?_⟩
  cases a with
  | true => exact h2 rfl Q q H s
  | false => exact q H s
theorem n_orV {a c : Bool} (h1 : EV B L ta σ (.bl a)) (h2 : a = false → EV B L tb σ (.bl c)) (q : N B L (Q (.bl (a || c)))) : N B L (fun H => tOrV ta tb σ H Q) := by
  refine h1 (fun x H1 => ∃ c, x = .bl c ∧ if c = true then Q (.bl true) H1 else tb σ H1 Q) fun H s => ⟨a, rfl, ?_⟩
  cases a with
  | true => exact q H s
  | false => exact h2 rfl Q q H s
theorem n_notV (q : N B L (fun H => ta σ H fun x H1 => ∃ c, x = .bl c ∧ Q (.bl (!c)) H1)) : N B L (fun H => tNotV ta σ H Q) := q
theorem n_ifE (q : N B L (fun H => t σ H fun c H1 => if c = true then ta σ H1 Q else tb σ H1 Q)) : N B L (fun H => tIf t ta tb σ H Q) := q
theorem n_chain {r r' : R2} {tc : TE} (q : N B L (fun H => ta σ H fun x H1 => tb σ H1 fun y H2 => r x y H2 fun z H3 => ∃ k, z = .bl k ∧ (if k = true then tc σ H3 fun w' H4 => r' y w' H4 Q else Q (.bl false) H3))) : N B L (fun H => tChain r r' ta tb tc σ H Q) := q
/-- the chain's second half, where the value is a truth -/
theorem n_chain2 {r' : R2} {tc : TE} {c : Bool} (h2 : b = true → ∀ Q' : VK, N B L (Q' (.bl c)) → N B L (fun H => tc σ H fun w' H4 => r' y w' H4 Q')) (q : N B L (Q (.bl (b && c)))) :
    N B L (fun H3 => ∃ k, V.bl b = V.bl k ∧ (if k = true then tc σ H3 fun w' H4 => r' y w' H4 Q else Q (.bl false) H3)) := fun H s => ⟨b, rfl, by
  cases b with
  | true => exact h2 rfl Q q H s
  | false => exact q H s⟩
theorem n_ite {k1 k2 : Hp → Prop} (h1 : b = true → N B L k1) (h2 : b = false → N B L k2) : N B L (fun H => if b = true then k1 H else k2 H) := fun H s => by
  cases b with
  | true => exact h1 rfl H s
  | false => exact h2 rfl H s
theorem n_iteD {c : Prop} [Decidable c] {k1 k2 : Hp → Prop} (h1 : c → N B L k1) (h2 : ¬ c → N B L k2) : N B L (fun H => if decide c = true then k1 H else k2 H) :=
  n_ite (fun h => h1 (of_decide_eq_true h)) (fun h => h2 (of_decide_eq_false h))
theorem n_iteND {c : Prop} [Decidable c] {k1 k2 : Hp → Prop} (h1 : ¬ c → N B L k1) (h2 : c → N B L k2) : N B L (fun H => if (!decide c) = true then k1 H else k2 H) :=
  n_ite (fun h => h1 (fun hc => by rw [decide_eq_true hc] at h; cases h)) (fun h => h2 (Classical.byContradiction fun hc => by rw [decide_eq_false hc] at h; cases h))
theorem n_iteT {k1 k2 : Hp → Prop} (h1 : N B L k1) : N B L (fun H => if true = true then k1 H else k2 H) := n_ite (fun _ => h1) (fun h => nomatch h)
theorem n_iteF {k1 k2 : Hp → Prop} (h1 : N B L k2) : N B L (fun H => if false = true then k1 H else k2 H) := n_ite (fun h => nomatch h) (fun _ => h1)

/-! ### operators -/
variable {i j : Int} {s1 s2 : Str}
theorem n_rI {C : Int → Int → Prop} {g : Int → Int → V} (h : C i j) (q : N B L (Q (g i j))) : N B L (fun H => rI C g (.int i) (.int j) H Q) := fun H s => ⟨i, j, rfl, rfl, h, q H s⟩
theorem n_rI0 {g : Int → Int → V} (q : N B L (Q (g i j))) : N B L (fun H => rI0 g (.int i) (.int j) H Q) := fun H s => ⟨i, j, rfl, rfl, q H s⟩
theorem n_add (q : N B L (Q (.int (i + j)))) : N B L (fun H => uAdd K (.int i) (.int j) H Q) := fun H s => .inl (.inl ⟨i, j, rfl, rfl, q H s⟩)
theorem n_addS (h : s1.length + s2.length ≤ sizeLine) (q : N B L (Q (.str (s1 ++ s2)))) : N B L (fun H => uAdd K (.str s1) (.str s2) H Q) := fun H s => .inl (.inr ⟨s1, s2, rfl, rfl, h, q H s⟩)
theorem n_sub_ (q : N B L (Q (.int (i - j)))) : N B L (fun H => uSub (.int i) (.int j) H Q) := fun H s => ⟨i, j, rfl, rfl, q H s⟩
theorem n_mul (h : CMul i j) (q : N B L (Q (.int (i * j)))) : N B L (fun H => uMul (.int i) (.int j) H Q) := fun H s => .inl (.inl ⟨i, j, rfl, rfl, h, q H s⟩)
theorem n_mulW (h : CMulW i j) (q : N B L (Q (.int (i * j)))) : N B L (fun H => uMul (.int i) (.int j) H Q) := fun H s => .inl (.inr ⟨i, j, rfl, rfl, h, q H s⟩)
theorem n_div (h0 : 0 < j) (h1 : j < 1073741824) (q : N B L (Q (.int (i / j)))) : N B L (fun H => uDiv (.int i) (.int j) H Q) := fun H s => .inl ⟨i, j, rfl, rfl, ⟨h0, h1⟩, q H s⟩
theorem n_divW (h : CDivW i j) (q : N B L (Q (.int (i / j)))) : N B L (fun H => uDiv (.int i) (.int j) H Q) := fun H s => .inr ⟨i, j, rfl, rfl, h, q H s⟩
theorem n_mod (h0 : 0 < j) (q : N B L (Q (.int (i % j)))) : N B L (fun H => uMod (.int i) (.int j) H Q) := fun H s => ⟨i, j, rfl, rfl, h0, q H s⟩
theorem n_pow (h : CPow i j) (q : N B L (Q (.int (i ^ j.toNat)))) : N B L (fun H => uPow (.int i) (.int j) H Q) := fun H s => ⟨i, j, rfl, rfl, h, q H s⟩
theorem n_shl (h : CPow i j) (q : N B L (Q (.int (i * 2 ^ j.toNat)))) : N B L (fun H => uShl (.int i) (.int j) H Q) := fun H s => .inl ⟨i, j, rfl, rfl, h, q H s⟩
theorem n_shlW (h : CShl i j) (q : N B L (Q (.int (i * 2 ^ j.toNat)))) : N B L (fun H => uShl (.int i) (.int j) H Q) := fun H s => .inr ⟨i, j, rfl, rfl, h, q H s⟩
theorem n_shr (h : 0 ≤ j) (q : N B L (Q (.int (i / 2 ^ j.toNat)))) : N B L (fun H => uShr (.int i) (.int j) H Q) := fun H s => ⟨i, j, rfl, rfl, h, q H s⟩
theorem n_and_ (q : N B L (Q (.int (Builtin.bitAnd i j)))) : N B L (fun H => uAnd (.int i) (.int j) H Q) := fun H s => ⟨i, j, rfl, rfl, q H s⟩
theorem n_or_ (q : N B L (Q (.int (Builtin.bitOr i j)))) : N B L (fun H => uOr (.int i) (.int j) H Q) := fun H s => ⟨i, j, rfl, rfl, q H s⟩
theorem dec_int : decide (V.int i = V.int j) = decide (i = j) := by
  by_cases h : i = j
  · rw [decide_eq_true h, decide_eq_true (by rw [h])]
  · rw [decide_eq_false h, decide_eq_false (fun e => h (V.int.inj e))]
theorem dec_str : decide (V.str s1 = V.str s2) = decide (s1 = s2) := by
  by_cases h : s1 = s2
  · rw [decide_eq_true h, decide_eq_true (by rw [h])]
  · rw [decide_eq_false h, decide_eq_false (fun e => h (V.str.inj e))]
theorem n_eq (q : N B L (Q (.bl (decide (i = j))))) : N B L (fun H => uEq K (.int i) (.int j) H Q) := fun H s => .inl ⟨rfl, by rw [dec_int]; exact q H s⟩
theorem n_ne (q : N B L (Q (.bl (!decide (i = j))))) : N B L (fun H => uNe K (.int i) (.int j) H Q) := fun H s => .inl ⟨rfl, by rw [dec_int]; exact q H s⟩
theorem n_eqS (q : N B L (Q (.bl (decide (s1 = s2))))) : N B L (fun H => uEq K (.str s1) (.str s2) H Q) := fun H s => .inl ⟨rfl, by rw [dec_str]; exact q H s⟩
theorem n_neS (q : N B L (Q (.bl (!decide (s1 = s2))))) : N B L (fun H => uNe K (.str s1) (.str s2) H Q) := fun H s => .inl ⟨rfl, by rw [dec_str]; exact q H s⟩
theorem n_eqB {a c : Bool} (q : N B L (Q (.bl (a == c)))) : N B L (fun H => uEq K (.bl a) (.bl c) H Q) := fun H s => .inl ⟨rfl, by
  have e : decide (V.bl a = V.bl c) = (a == c) := by cases a <;> cases c <;> rfl
  rw [e]; exact q H s⟩
theorem n_neB {a c : Bool} (q : N B L (Q (.bl (a != c)))) : N B L (fun H => uNe K (.bl a) (.bl c) H Q) := fun H s => .inl ⟨rfl, by
  have e : (!decide (V.bl a = V.bl c)) = (a != c) := by cases a <;> cases c <;> rfl
  rw [e]; exact q H s⟩
theorem n_lt (q : N B L (Q (.bl (decide (i < j))))) : N B L (fun H => uLt (.int i) (.int j) H Q) := fun H s => ⟨i, j, rfl, rfl, q H s⟩
theorem n_le (q : N B L (Q (.bl (decide (i ≤ j))))) : N B L (fun H => uLe (.int i) (.int j) H Q) := fun H s => ⟨i, j, rfl, rfl, q H s⟩
theorem n_gt (q : N B L (Q (.bl (decide (j < i))))) : N B L (fun H => uGt (.int i) (.int j) H Q) := fun H s => ⟨i, j, rfl, rfl, q H s⟩
theorem n_ge (q : N B L (Q (.bl (decide (j ≤ i))))) : N B L (fun H => uGe (.int i) (.int j) H Q) := fun H s => ⟨i, j, rfl, rfl, q H s⟩
theorem n_neg {g : Int → V} (q : N B L (Q (g i))) : N B L (fun H => rU g (.int i) H Q) := fun H s => ⟨i, rfl, q H s⟩
theorem n_isN (q : N B L (Q (.bl (decide (x = .non))))) : N B L (fun H => uIsN x .non H Q) := fun H s => ⟨rfl, q H s⟩
theorem n_notN (q : N B L (Q (.bl (!decide (x = .non))))) : N B L (fun H => uNotN x .non H Q) := fun H s => ⟨rfl, q H s⟩
theorem n_cat {zs : List V} {l c : Addr} (hl : Is B L l (.lst xs)) (hc : Is B L c (.lst zs)) (hn : xs.length + zs.length ≤ sizeLine) (q : ∀ p, N B ((p, .lst (xs ++ zs)) :: L) (Q (.ref p))) : N B L (fun H => uAdd K (.ref l) (.ref c) H Q) :=
  fun H s => .inr (.inl ⟨l, c, xs, zs, rfl, rfl, hl H s, hc H s, hn, fun p hp => q p _ (s.new hp)⟩)
theorem n_rep {l : Addr} (hl : Is B L l (.lst xs)) (h0 : -(2 ^ 63) ≤ j) (h1 : j < 2 ^ 63) (hn : xs.length * j.toNat ≤ sizeLine) (q : ∀ p, N B ((p, .lst (List.replicate j.toNat xs).flatten) :: L) (Q (.ref p))) : N B L (fun H => uMul (.ref l) (.int j) H Q) :=
  fun H s => .inr ⟨l, j, xs, rfl, rfl, hl H s, h0, h1, hn, fun p hp => q p _ (s.new hp)⟩
theorem n_len (h : Sq K B L a xs) (q : N B L (Q (.int xs.length))) : N B L (fun H => uLen K [.ref a] H Q) := fun H s => ⟨a, xs, rfl, .inl (h H s), q H s⟩
theorem n_lenT (h : Tp K B L a xs) (q : N B L (Q (.int xs.length))) : N B L (fun H => uLen K [.ref a] H Q) := fun H s => ⟨a, xs, rfl, .inr (h H s), q H s⟩
theorem n_listOf (h : Sq K B L a xs) (q : ∀ p, N B ((p, .lst xs) :: L) (Q (.ref p))) : N B L (fun H => uListOf K [.ref a] H Q) := fun H s => ⟨a, xs, rfl, .inl (h H s), fun p hp => q p _ (s.new hp)⟩
theorem n_listOfT (h : Tp K B L a xs) (q : ∀ p, N B ((p, .lst xs) :: L) (Q (.ref p))) : N B L (fun H => uListOf K [.ref a] H Q) := fun H s => ⟨a, xs, rfl, .inr (h H s), fun p hp => q p _ (s.new hp)⟩
def LstK (Q : VK) (xs : List V) (H1 : Hp) : Prop := xs.length ≤ sizeLine ∧ ∀ p, H1 p = none → Q (.ref p) (upd H1 p (.lst xs))
def TupK (Q : VK) (xs : List V) (H1 : Hp) : Prop := xs.length ≤ sizeLine ∧ ∀ p, H1 p = none → Q (.ref p) (upd H1 p (.tup xs))
theorem n_lst {tr : TA} (q : N B L (fun H => tr σ H (LstK Q))) : N B L (fun H => tLst tr σ H Q) := q
theorem n_lst2 (hn : xs.length ≤ sizeLine) (q : ∀ p, N B ((p, .lst xs) :: L) (Q (.ref p))) : N B L (fun H1 => LstK Q xs H1) := fun H s => ⟨hn, fun p hp => q p _ (s.new hp)⟩
theorem n_tup {tr : TA} (q : N B L (fun H => tr σ H (TupK Q))) : N B L (fun H => tTup tr σ H Q) := q
theorem n_tup2 (hn : xs.length ≤ sizeLine) (q : ∀ p, N B ((p, .tup xs) :: L) (Q (.ref p))) : N B L (fun H1 => TupK Q xs H1) := fun H s => ⟨hn, fun p hp => q p _ (s.new hp)⟩
theorem n_ixL (hs : Sq K B L a xs) (h : atI xs i = some v) (q : N B L (Q v)) : N B L (fun H => rIx K (.ref a) (.int i) H Q) := fun H s => .inl ⟨a, xs, i, v, rfl, rfl, hs H s, h, q H s⟩
theorem n_ixT (hs : Tp K B L a xs) (h : atI xs i = some v) (q : N B L (Q v)) : N B L (fun H => rIx K (.ref a) (.int i) H Q) := fun H s => .inr (.inl ⟨a, xs, i, v, rfl, rfl, hs H s, h, q H s⟩)
theorem n_sl {r : V → Option Int → Option Int → Hp → VK → Prop} {tl th : TO} (q : N B L (fun H => te σ H fun x H1 => tl σ H1 fun l H2 => th σ H2 fun u H3 => r x l u H3 Q)) : N B L (fun H => tSl r te tl th σ H Q) := q
theorem n_noPart {QO : Option Int → Hp → Prop} (q : N B L (QO none)) : N B L (fun H => tNoPart σ H QO) := q
def PartK (QO : Option Int → Hp → Prop) (x : V) (H1 : Hp) : Prop := ∃ i, x = .int i ∧ QO (some i) H1
theorem n_part {QO : Option Int → Hp → Prop} (q : N B L (fun H => te σ H (PartK QO))) : N B L (fun H => tPart te σ H QO) := q
theorem n_int {QO : Option Int → Hp → Prop} (q : N B L (QO (some i))) : N B L (fun H => PartK QO (.int i) H) := fun H s => ⟨i, rfl, q H s⟩
theorem n_slL {lo hi : Option Int} (hs : Sq K B L a xs) (q : ∀ p, N B ((p, .lst (cutV xs lo hi)) :: L) (Q (.ref p))) : N B L (fun H => rSlL K (.ref a) lo hi H Q) := fun H s => ⟨a, xs, rfl, hs H s, fun p hp => q p _ (s.new hp)⟩

/-! ### statements -/
variable {D : Ends} {ts tz tw : TS}
theorem n_next (q : N B L (D.nx σ)) : N B L (fun H => tNext D σ H) := q
theorem n_brk (q : N B L (D.bk σ)) : N B L (fun H => tBreak D σ H) := q
theorem n_cont (q : N B L (D.ct σ)) : N B L (fun H => tCont D σ H) := q
theorem n_asg {n : Nat} (q : N B L (fun H => te σ H fun x H1 => tz D (σ.set n (some x)) H1)) : N B L (fun H => tSeq (tAsg te (gName n)) tz D σ H) := q
theorem n_asgT {n : Nat} {gs : TGs} (q : N B L (fun H => te σ H fun x H1 => gTup K n gs x σ H1 (tz D))) : N B L (fun H => tSeq (tAsg te (gTup K n gs)) tz D σ H) := q
theorem n_asgS {to ti : TE} {se : TSet} (q : N B L (fun H => te σ H fun x H1 => to σ H1 fun o H2 => ti σ H2 fun n H3 => se o n x H3 (tz D σ))) : N B L (fun H => tSeq (tAsg te (gSub to ti se)) tz D σ H) := q
theorem n_gTup {n : Nat} {gs : TGs} {k : St → Hp → Prop} (hs : Tp K B L a xs) (hl : xs.length = n) (q : N B L (fun H => gs xs σ H k)) : N B L (fun H => gTup K n gs (.ref a) σ H k) := fun H s => ⟨a, xs, rfl, hs H s, hl, q H s⟩
theorem n_gName {n : Nat} {k : St → Hp → Prop} (q : N B L (k (σ.set n (some v)))) : N B L (fun H => gName n v σ H k) := q
theorem n_gCons {n : Nat} {gs : TGs} {k : St → Hp → Prop} (q : N B L (fun H => gs xs (σ.set n (some v)) H k)) : N B L (fun H => gCons (gName n) gs (v :: xs) σ H k) := fun H s => ⟨v, xs, rfl, q H s⟩
theorem n_gNil {k : St → Hp → Prop} (q : N B L (k σ)) : N B L (fun H => gNil [] σ H k) := fun H s => ⟨rfl, q H s⟩
theorem n_drop (q : N B L (fun H => te σ H fun _ H1 => tz D σ H1)) : N B L (fun H => tSeq (tDrop te) tz D σ H) := q
theorem n_ret (q : N B L (fun H => te σ H D.rt)) : N B L (fun H => tSeq (tRet te) tz D σ H) := q
theorem n_retN (q : N B L (D.rt .non)) : N B L (fun H => tSeq tRetN tz D σ H) := q
theorem n_seqBrk (q : N B L (D.bk σ)) : N B L (fun H => tSeq tBreak tz D σ H) := q
theorem n_seqCont (q : N B L (D.ct σ)) : N B L (fun H => tSeq tCont tz D σ H) := q
theorem n_seqNext (q : N B L (fun H => tz D σ H)) : N B L (fun H => tSeq tNext tz D σ H) := q
theorem n_if (q : N B L (fun H => t σ H fun b H1 => if b = true then ts (onE D (tz D)) σ H1 else tw (onE D (tz D)) σ H1)) : N B L (fun H => tSeq (tIfS t ts tw) tz D σ H) := q
theorem n_aug {n : Nat} {f : Int → Int → Int} {c : Int} (h : σ[n]? = some (some (.int c))) (q : N B L (fun H => te σ H fun y H1 => ipI f (.int c) y H1 fun z H2 => tz D (σ.set n (some z)) H2)) : N B L (fun H => tSeq (tAug n te (ipI f)) tz D σ H) := fun H s => ⟨_, h, q H s⟩
theorem n_ip {f : Int → Int → Int} (q : N B L (Q (.int (f i j)))) : N B L (fun H => ipI f (.int i) (.int j) H Q) := fun H s => ⟨i, j, rfl, rfl, q H s⟩
theorem n_cut {D : Ends} (M : St → Own → Prop) (h : N B L (fun H => tSeq ts tNext (onE D (KI B M)) σ H)) (k : ∀ σ' L', M σ' L' → N B L' (fun H => tz D σ' H)) : N B L (fun H => Evl.tCut ts tz D σ H) :=
  fun H s => ⟨KI B M, h H s, fun σ' H' ⟨L', s', m⟩ => k σ' L' m H' s'⟩
/-- behind a turn -/
theorem n_ki {P : St → Own → Prop} (h : P σ L') (s : L'.Sublist L) : N B L (KI B P σ) := fun H x => ⟨L', x.sub s, h⟩
theorem n_kiP {P : St → Own → Prop} {L'' : Own} (h : P σ L'') (s : L'.Sublist L) (e : L'.Perm L'') : N B L (KI B P σ) := fun H x => ⟨L'', (x.sub s).perm e, h⟩
theorem n_kw {P : Nat → St → Own → Prop} {m m' : Nat} (h : P m' σ L') (lt : m' < m) (s : L'.Sublist L) : N B L (KW B P m σ) := fun H x => ⟨m', L', lt, x.sub s, h⟩

/-! ### methods of lists -/
theorem n_bm {T : String} {r : V → List V → Hp → VK → Prop} {tr : TA} (q : N B L (fun H => te σ H fun x H1 => tyV K T x H1 ∧ tr σ H1 fun xs H2 => r x xs H2 Q)) : N B L (fun H => tBM K T r te tr σ H Q) := q
theorem n_bm0 {T : String} {r : V → List V → Hp → VK → Prop} (q : N B L (fun H => te σ H fun x H1 => tyV K T x H1 ∧ r x [] H1 Q)) : N B L (fun H => tBM0 K T r te σ H Q) := q
theorem n_tyL {k : Hp → Prop} (hs : Sq K B L a xs) (q : N B L k) : N B L (fun H => tyV K "list" (.ref a) H ∧ k H) := fun H s => ⟨.inl ⟨rfl, xs, hs H s⟩, q H s⟩
theorem n_append {n : Nat} {l : Addr} (hi : L[n]? = some (l, .lst xs)) (hz : xs.length < sizeLine) (q : N B (L.set n (l, .lst (xs ++ [v]))) (Q .non)) : N B L (fun H => rAppend (.ref l) [v] H Q) :=
  fun H s => ⟨l, xs, v, rfl, rfl, s.at hi, hz, q _ (s.set hi)⟩
theorem n_extend {n : Nat} {l c : Addr} (hi : L[n]? = some (l, .lst xs)) (hc : Is B L c (.lst ys)) (hz : xs.length + ys.length ≤ sizeLine) (q : N B (L.set n (l, .lst (xs ++ ys))) (Q .non)) : N B L (fun H => rExtend (.ref l) [.ref c] H Q) :=
  fun H s => ⟨l, c, xs, ys, rfl, rfl, s.at hi, hc H s, hz, q _ (s.set hi)⟩
theorem n_insert {n : Nat} {l : Addr} (hi : L[n]? = some (l, .lst xs)) (hz : xs.length < sizeLine) (h0 : 0 ≤ i) (h1 : i < 2 ^ 63) (q : N B (L.set n (l, .lst (xs.take i.toNat ++ [v] ++ xs.drop i.toNat))) (Q .non)) : N B L (fun H => rInsert (.ref l) [.int i, v] H Q) :=
  fun H s => ⟨l, xs, i, v, rfl, rfl, s.at hi, hz, h0, h1, q _ (s.set hi)⟩
theorem n_setL {n m : Nat} {l : Addr} {k : Hp → Prop} (hi : L[n]? = some (l, .lst xs)) (hj : ixN xs.length i = some m) (q : N B (L.set n (l, .lst (xs.set m v))) k) : N B L (fun H => rSetL (.ref l) (.int i) v H k) :=
  fun H s => ⟨l, xs, i, m, rfl, rfl, s.at hi, hj, q _ (s.set hi)⟩

/-! ### loops -/
/-- a for's question behind what it walks -/
def Lp (g : TG) (tb : TS) (D : Ends) (σ : St) (J : It) (H1 : Hp) : Prop := ∃ W : Nat → Nat → St → Hp → Prop, (∃ m, W 0 m σ H1) ∧ ∀ i m σ H, W i m σ H →
  (J.stop i H ∧ D.nx σ H) ∨ (J.go i H ∧ ∃ N : St → Hp → Prop, (∀ σ' H', N σ' H' → ∃ m', m' < m ∧ W (i + 1) m' σ' H') ∧ ∀ x H', J.yld i H x H' → g x σ H' fun σ2 H2 => tb { D with nx := N, ct := N, bk := D.nx } σ2 H2)
variable {g : TG} {tb' : TS}
theorem n_for {wi : TI} (q : N B L (fun H => wi σ H (Lp g ts (onE D (tz D)) σ))) : N B L (fun H => tSeq (tFor wi g ts) tz D σ H) := q
def IL (K : PySem.W.Frag) (R : It → Hp → Prop) (x : V) (H1 : Hp) : Prop := ∃ a, x = .ref a ∧ (∃ xs, SqL K H1 a xs) ∧ R (Itl K a) H1
def ILT (K : PySem.W.Frag) (R : It → Hp → Prop) (x : V) (H1 : Hp) : Prop := ∃ a, x = .ref a ∧ (∃ xs, SqT K H1 a xs) ∧ R (Itt K a) H1
theorem n_iList {tl : TE} {R : It → Hp → Prop} (q : N B L (fun H => tl σ H (IL K R))) : N B L (fun H => iList K tl σ H R) := q
theorem n_iTup {tl : TE} {R : It → Hp → Prop} (q : N B L (fun H => tl σ H (ILT K R))) : N B L (fun H => iTup K tl σ H R) := q
/-- the turns of a walk that yields xs one by one and changes nothing -/
theorem lp_core {J : It} (n : Nat) (yl : Nat → V) (Pv : Nat → St → Own → Prop)
    (hgo : ∀ i σ L H, Pv i σ L → i < n → SI B L H → J.go i H) (hst : ∀ σ L H, Pv n σ L → SI B L H → J.stop n H) (hy : ∀ i σ L H x H', Pv i σ L → i < n → SI B L H → J.yld i H x H' → H' = H ∧ x = yl i)
    (h0 : Pv 0 σ L) (hs : ∀ i σ L, i < n → Pv i σ L → N B L (fun H => g (yl i) σ H fun σ2 H2 => ts (loE D (KI B (Pv (i + 1)))) σ2 H2))
    (hd : ∀ σ L, Pv n σ L → N B L (D.nx σ)) : N B L (fun H => Lp g ts D σ J H) := by
  intro H s
  refine ⟨fun i m σ H => m = n - i ∧ i ≤ n ∧ ∃ L, SI B L H ∧ Pv i σ L, ⟨n, by omega, Nat.zero_le _, L, s, h0⟩, ?_⟩
  rintro i m σ H ⟨rfl, hi, L, s, p⟩
  by_cases hlt : i < n
  · refine .inr ⟨hgo i σ L H p hlt s, KI B (Pv (i + 1)), fun σ' H' ⟨L', s', p'⟩ => ⟨n - (i + 1), by omega, rfl, hlt, L', s', p'⟩, fun x H' hx => ?_⟩
    obtain ⟨rfl, rfl⟩ := hy i σ L H x H' p hlt s hx
    exact hs i σ L hlt p _ s
  · have e : i = n := by omega
    subst e
    exact .inl ⟨hst σ L H p s, hd σ L p H s⟩
theorem n_lpL (Pv : Nat → St → Own → Prop) (hq : ∀ i σ L, i ≤ xs.length → Pv i σ L → Sq K B L a xs) (h0 : Pv 0 σ L)
    (hs : ∀ i σ L (hi : i < xs.length), Pv i σ L → N B L (fun H => g xs[i] σ H fun σ2 H2 => ts (loE D (KI B (Pv (i + 1)))) σ2 H2))
    (hd : ∀ σ L, Pv xs.length σ L → N B L (D.nx σ)) : N B L (fun H => IL K (Lp g ts D σ) (.ref a) H) := by
  intro H s
  refine ⟨a, rfl, ⟨xs, hq 0 σ L (Nat.zero_le _) h0 H s⟩, ?_⟩
  refine lp_core (J := Itl K a) xs.length (fun i => xs.getD i .non) Pv (fun i σ L H p hi s => ⟨xs, xs[i], hq i σ L (Nat.le_of_lt hi) p H s, List.getElem?_eq_getElem hi⟩) (fun σ L H p s => ⟨xs, hq _ σ L (Nat.le_refl _) p H s, Nat.le_refl _⟩) ?_ h0 ?_ hd H s
  · rintro i σ L H x H' p hi s ⟨e, hx⟩
    have := hx xs (hq i σ L (Nat.le_of_lt hi) p H s)
    refine ⟨e, ?_⟩
    rw [List.getElem?_eq_getElem hi] at this
    show x = xs.getD i .non
    rw [List.getD_eq_getElem?_getD, List.getElem?_eq_getElem hi]
    exact (Option.some.inj this).symm
  · intro i σ L hi p
    have e : xs.getD i .non = xs[i] := by rw [List.getD_eq_getElem?_getD, List.getElem?_eq_getElem hi]; rfl
    show N B L (fun H => g (xs.getD i .non) σ H _)
    rw [e]
    exact hs i σ L hi p
theorem n_lpT (Pv : Nat → St → Own → Prop) (hq : ∀ i σ L, i ≤ xs.length → Pv i σ L → Tp K B L a xs) (h0 : Pv 0 σ L)
    (hs : ∀ i σ L (hi : i < xs.length), Pv i σ L → N B L (fun H => g xs[i] σ H fun σ2 H2 => ts (loE D (KI B (Pv (i + 1)))) σ2 H2))
    (hd : ∀ σ L, Pv xs.length σ L → N B L (D.nx σ)) : N B L (fun H => ILT K (Lp g ts D σ) (.ref a) H) := by
  intro H s
  refine ⟨a, rfl, ⟨xs, hq 0 σ L (Nat.zero_le _) h0 H s⟩, ?_⟩
  refine lp_core (J := Itt K a) xs.length (fun i => xs.getD i .non) Pv (fun i σ L H p hi s => ⟨xs, xs[i], hq i σ L (Nat.le_of_lt hi) p H s, List.getElem?_eq_getElem hi⟩) (fun σ L H p s => ⟨xs, hq _ σ L (Nat.le_refl _) p H s, Nat.le_refl _⟩) ?_ h0 ?_ hd H s
  · rintro i σ L H x H' p hi s ⟨e, hx⟩
    have := hx xs (hq i σ L (Nat.le_of_lt hi) p H s)
    refine ⟨e, ?_⟩
    rw [List.getElem?_eq_getElem hi] at this
    show x = xs.getD i .non
    rw [List.getD_eq_getElem?_getD, List.getElem?_eq_getElem hi]
    exact (Option.some.inj this).symm
  · intro i σ L hi p
    have e : xs.getD i .non = xs[i] := by rw [List.getD_eq_getElem?_getD, List.getElem?_eq_getElem hi]; rfl
    show N B L (fun H => g (xs.getD i .non) σ H _)
    rw [e]
    exact hs i σ L hi p
/-- range -/
def IR1 (R : It → Hp → Prop) (vs : List V) (H1 : Hp) : Prop := ∃ j : Int, vs = [.int j] ∧ -(2 ^ 62) ≤ j ∧ j < 2 ^ 62 ∧ R (Itr 0 j.toNat) H1
def IR2 (R : It → Hp → Prop) (vs : List V) (H1 : Hp) : Prop := ∃ i j : Int, vs = [.int i, .int j] ∧ (-(2 ^ 62) ≤ i ∧ i < 2 ^ 62 ∧ -(2 ^ 62) ≤ j ∧ j < 2 ^ 62) ∧ R (Itr i (j - i).toNat) H1
theorem n_iR1 {tr : TA} {R : It → Hp → Prop} (q : N B L (fun H => tr σ H (IR1 R))) : N B L (fun H => iRng1 tr σ H R) := q
theorem n_iR2 {tr : TA} {R : It → Hp → Prop} (q : N B L (fun H => tr σ H (IR2 R))) : N B L (fun H => iRng2 tr σ H R) := q
theorem n_lpR {lo : Int} {n : Nat} (Pv : Nat → St → Own → Prop) (h0 : Pv 0 σ L)
    (hs : ∀ i σ L, i < n → Pv i σ L → N B L (fun H => g (.int (lo + i)) σ H fun σ2 H2 => ts (loE D (KI B (Pv (i + 1)))) σ2 H2))
    (hd : ∀ σ L, Pv n σ L → N B L (D.nx σ)) : N B L (fun H => Lp g ts D σ (Itr lo n) H) :=
  lp_core (J := Itr lo n) n (fun i => .int (lo + i)) Pv (fun i σ L H p hi s => hi) (fun σ L H p s => Nat.le_refl _) (fun i σ L H x H' p hi s h => h) h0 hs hd
theorem n_lpR1 (Pv : Nat → St → Own → Prop) (hb : -(2 ^ 62) ≤ j ∧ j < 2 ^ 62) (h0 : Pv 0 σ L)
    (hs : ∀ (i : Nat) σ L, (i : Int) < j → Pv i σ L → N B L (fun H => g (.int i) σ H fun σ2 H2 => ts (loE D (KI B (Pv (i + 1)))) σ2 H2))
    (hd : ∀ σ L, Pv j.toNat σ L → N B L (D.nx σ)) : N B L (fun H => IR1 (Lp g ts D σ) [.int j] H) := fun H s => ⟨j, rfl, hb.1, hb.2,
  n_lpR (lo := 0) (n := j.toNat) Pv h0 (fun i σ L hi p => by rw [Int.zero_add]; exact hs i σ L (by omega) p) hd H s⟩
theorem n_lpR2 (Pv : Nat → St → Own → Prop) (hb : -(2 ^ 62) ≤ i ∧ i < 2 ^ 62 ∧ -(2 ^ 62) ≤ j ∧ j < 2 ^ 62) (h0 : Pv 0 σ L)
    (hs : ∀ (n : Nat) σ L, i + (n : Int) < j → Pv n σ L → N B L (fun H => g (.int (i + n)) σ H fun σ2 H2 => ts (loE D (KI B (Pv (n + 1)))) σ2 H2))
    (hd : ∀ σ L, Pv (j - i).toNat σ L → N B L (D.nx σ)) : N B L (fun H => IR2 (Lp g ts D σ) [.int i, .int j] H) := fun H s => ⟨i, j, rfl, hb,
  n_lpR (lo := i) (n := (j - i).toNat) Pv h0 (fun n σ L hi p => hs n σ L (by omega) p) hd H s⟩
/-- reversed -/
def IV (K : PySem.W.Frag) (R : It → Hp → Prop) (vs : List V) (H1 : Hp) : Prop := ∃ (a : Addr) (xs : List V), vs = [.ref a] ∧ SqL K H1 a xs ∧ R (Itv K a xs.length) H1
theorem n_iV {tr : TA} {R : It → Hp → Prop} (q : N B L (fun H => tr σ H (IV K R))) : N B L (fun H => iRev K tr σ H R) := q
theorem n_lpV (Pv : Nat → St → Own → Prop) (hq : ∀ i σ L, i ≤ xs.length → Pv i σ L → Sq K B L a xs) (h0 : Pv 0 σ L)
    (hs : ∀ i σ L (hi : i < xs.length), Pv i σ L → N B L (fun H => g (xs[xs.length - 1 - i]'(by omega)) σ H fun σ2 H2 => ts (loE D (KI B (Pv (i + 1)))) σ2 H2))
    (hd : ∀ σ L, Pv xs.length σ L → N B L (D.nx σ)) : N B L (fun H => IV K (Lp g ts D σ) [.ref a] H) := by
  intro H s
  refine ⟨a, xs, rfl, hq 0 σ L (Nat.zero_le _) h0 H s, ?_⟩
  refine lp_core (J := Itv K a xs.length) xs.length (fun i => xs.getD (xs.length - 1 - i) .non) Pv (fun i σ L H p hi s => ⟨hi, xs, xs[xs.length - 1 - i]'(by omega), hq i σ L (Nat.le_of_lt hi) p H s, List.getElem?_eq_getElem (by omega)⟩) (fun σ L H p s => Nat.le_refl _) ?_ h0 ?_ hd H s
  · rintro i σ L H x H' p hi s ⟨e, hx⟩
    have := hx xs (hq i σ L (Nat.le_of_lt hi) p H s)
    refine ⟨e, ?_⟩
    have hlt : xs.length - 1 - i < xs.length := by omega
    rw [List.getElem?_eq_getElem hlt] at this
    show x = xs.getD (xs.length - 1 - i) .non
    rw [List.getD_eq_getElem?_getD, List.getElem?_eq_getElem hlt]
    exact (Option.some.inj this).symm
  · intro i σ L hi p
    have hlt : xs.length - 1 - i < xs.length := by omega
    have e : xs.getD (xs.length - 1 - i) .non = xs[xs.length - 1 - i] := by rw [List.getD_eq_getElem?_getD, List.getElem?_eq_getElem hlt]; rfl
    show N B L (fun H => g (xs.getD (xs.length - 1 - i) .non) σ H _)
    rw [e]
    exact hs i σ L hi p
/-- enumerate, to two names -/
def IE (K : PySem.W.Frag) (R : It → Hp → Prop) (vs : List V) (H1 : Hp) : Prop := ∃ a xs, vs = [.ref a] ∧ SqL K H1 a xs ∧ R (Ite K a) H1
theorem n_iE {tr : TA} {R : It → Hp → Prop} (q : N B L (fun H => tr σ H (IE K R))) : N B L (fun H => iEnum K tr σ H R) := q
theorem n_lpE {n m : Nat} (Pv : Nat → St → Own → Prop) (hq : ∀ i σ L, i ≤ xs.length → Pv i σ L → Sq K B L a xs) (h0 : Pv 0 σ L)
    (hs : ∀ i σ L (hi : i < xs.length), Pv i σ L → N B L (fun H => ts (loE D (KI B (Pv (i + 1)))) ((σ.set n (some (.int i))).set m (some xs[i])) H))
    (hd : ∀ σ L, Pv xs.length σ L → N B L (D.nx σ)) : N B L (fun H => IE K (Lp (gTup K 2 (gCons (gName n) (gCons (gName m) gNil))) ts D σ) [.ref a] H) := by
  intro H s
  refine ⟨a, xs, rfl, hq 0 σ L (Nat.zero_le _) h0 H s, ?_⟩
  refine ⟨fun i m σ H => m = xs.length - i ∧ i ≤ xs.length ∧ ∃ L, SI B L H ∧ Pv i σ L, ⟨xs.length, by omega, Nat.zero_le _, L, s, h0⟩, ?_⟩
  rintro i m' σ H ⟨rfl, hi, L, s, p⟩
  have hsq := hq i σ L hi p H s
  by_cases hlt : i < xs.length
  · refine .inr ⟨⟨xs, xs[i], hsq, List.getElem?_eq_getElem hlt⟩, KI B (Pv (i + 1)), fun σ' H' ⟨L', s', p'⟩ => ⟨xs.length - (i + 1), by omega, rfl, hlt, L', s', p'⟩, fun v H' hx => ?_⟩
    obtain ⟨T, x, rfl, nT, rfl, hx⟩ := hx
    have := hx xs hsq
    rw [List.getElem?_eq_getElem hlt] at this
    cases this
    have s2 : SI B ((T, .tup [.int i, xs[i]]) :: L) (upd H T (.tup [.int i, xs[i]])) := s.new nT
    refine ⟨T, [.int i, xs[i]], rfl, SqT.of upd_same, rfl, _, _, rfl, _, _, rfl, rfl, ?_⟩
    exact n_sub (L' := L) (List.sublist_cons_self _ _) (hs i σ L hlt p) _ s2
  · have e : i = xs.length := by omega
    subst e
    exact .inl ⟨⟨xs, hsq, Nat.le_refl _⟩, hd σ L p H s⟩
/-- zip of two lists, to two names -/
def IZ (K : PySem.W.Frag) (R : It → Hp → Prop) (vs : List V) (H1 : Hp) : Prop := ∃ a b xs ys, vs = [.ref a, .ref b] ∧ SqL K H1 a xs ∧ SqL K H1 b ys ∧ R (Itz K a b) H1
theorem n_iZ {tr : TA} {R : It → Hp → Prop} (q : N B L (fun H => tr σ H (IZ K R))) : N B L (fun H => iZip K tr σ H R) := q
theorem n_lpZ {n m : Nat} {c : Addr} (Pv : Nat → St → Own → Prop) (hq : ∀ i σ L, i ≤ min xs.length ys.length → Pv i σ L → Sq K B L a xs ∧ Sq K B L c ys) (h0 : Pv 0 σ L)
    (hs : ∀ i σ L (hi : i < xs.length) (hj : i < ys.length), Pv i σ L → N B L (fun H => ts (loE D (KI B (Pv (i + 1)))) ((σ.set n (some xs[i])).set m (some ys[i])) H))
    (hd : ∀ σ L, Pv (min xs.length ys.length) σ L → N B L (D.nx σ)) : N B L (fun H => IZ K (Lp (gTup K 2 (gCons (gName n) (gCons (gName m) gNil))) ts D σ) [.ref a, .ref c] H) := by
  intro H s
  obtain ⟨q1, q2⟩ := hq 0 σ L (Nat.zero_le _) h0
  refine ⟨a, c, xs, ys, rfl, q1 H s, q2 H s, ?_⟩
  refine ⟨fun i m σ H => m = min xs.length ys.length - i ∧ i ≤ min xs.length ys.length ∧ ∃ L, SI B L H ∧ Pv i σ L, ⟨min xs.length ys.length, by omega, Nat.zero_le _, L, s, h0⟩, ?_⟩
  rintro i m' σ H ⟨rfl, hi, L, s, p⟩
  obtain ⟨q1, q2⟩ := hq i σ L hi p
  by_cases hlt : i < min xs.length ys.length
  · have hx1 : i < xs.length := by omega
    have hy1 : i < ys.length := by omega
    refine .inr ⟨⟨xs, ys, xs[i], ys[i], q1 H s, q2 H s, List.getElem?_eq_getElem hx1, List.getElem?_eq_getElem hy1⟩, KI B (Pv (i + 1)), fun σ' H' ⟨L', s', p'⟩ => ⟨min xs.length ys.length - (i + 1), by omega, rfl, hlt, L', s', p'⟩, fun v H' hx => ?_⟩
    obtain ⟨T, x, y, rfl, nT, rfl, hx, hy⟩ := hx
    have e1 := hx xs (q1 H s)
    have e2 := hy ys (q2 H s)
    rw [List.getElem?_eq_getElem hx1] at e1
    rw [List.getElem?_eq_getElem hy1] at e2
    cases e1; cases e2
    have s2 : SI B ((T, .tup [xs[i], ys[i]]) :: L) (upd H T (.tup [xs[i], ys[i]])) := s.new nT
    refine ⟨T, [xs[i], ys[i]], rfl, SqT.of upd_same, rfl, _, _, rfl, _, _, rfl, rfl, ?_⟩
    exact n_sub (L' := L) (List.sublist_cons_self _ _) (hs i σ L hx1 hy1 p) _ s2
  · have e : i = min xs.length ys.length := by omega
    subst e
    refine .inl ⟨⟨xs, ys, q1 H s, q2 H s, ?_⟩, hd σ L p H s⟩
    omega
/-- while -/
def WK (B : Hp) (Pv : Nat → St → Own → Prop) (m : Nat) (tb : TS) (D : Ends) (σ : St) (H1 : Hp) : Prop := ∃ N : St → Hp → Prop, (∀ σ' H', N σ' H' → ∃ m', m' < m ∧ KI B (Pv m') σ' H') ∧ tb { D with nx := N, ct := N, bk := D.nx } σ H1
theorem n_wk {Pv : Nat → St → Own → Prop} {m : Nat} (q : N B L (fun H => ts (loE D (KW B Pv m)) σ H)) : N B L (fun H => WK B Pv m ts D σ H) :=
  fun H s => ⟨KW B Pv m, fun σ' H' ⟨m', L', lt, s', p⟩ => ⟨m', lt, L', s', p⟩, q H s⟩
theorem n_while (Pv : Nat → St → Own → Prop) (m0 : Nat) (h0 : Pv m0 σ L)
    (hs : ∀ m σ L, Pv m σ L → N B L (fun H => t σ H fun b H1 => if b = true then WK B Pv m ts (onE D (tz D)) σ H1 else tz D σ H1)) : N B L (fun H => tSeq (tWhile t ts) tz D σ H) := by
  intro H s
  refine ⟨fun m σ H => KI B (Pv m) σ H, ⟨m0, L, s, h0⟩, ?_⟩
  rintro m σ H ⟨L, s, p⟩
  exact hs m σ L p H s

/-! ### comprehensions -/
/-- a comprehension's question behind what it walks -/
def Lc (g : TG) (tt : TT) (te : TE) (vs : List Nat) (σ : St) (Q : VK) (J : It) (H1 : Hp) : Prop := ∀ D, H1 D = none → ∃ W : Nat → Nat → Hp → Prop, (∃ m, W 0 m (upd H1 D (.lst []))) ∧ ∀ i m H, W i m H →
  (J.stop i H ∧ Q (.ref D) H) ∨ (J.go i H ∧ ∃ Nx : Hp → Prop, (∀ H', Nx H' → ∃ m', m' < m ∧ W (i + 1) m' H') ∧ ∀ x H', J.yld i H x H' → g x (wipe σ vs) H' fun σ2 H2 => wipe σ2 vs = wipe σ vs ∧ tt σ2 H2 fun b H3 =>
    if b = true then te σ2 H3 fun y H4 => ∃ acc, H4 D = some (.lst acc) ∧ acc.length < sizeLine ∧ Nx (upd H4 D (.lst (acc ++ [y]))) else Nx H3)
variable {tt : TT} {vs : List Nat}
theorem n_lc {wi : TI} (q : N B L (fun H => wi σ H (Lc g tt te vs σ Q))) : N B L (fun H => tLc wi g tt te vs σ H Q) := q
/-- behind an element: it is put to the list at D (the last of what is owned by the comprehension) -/
def Put (B : Hp) (D : Addr) (acc : List V) (P : List V → Own → Prop) (y : V) (H4 : Hp) : Prop := ∃ Lm L4, SI B (Lm ++ (D, .lst acc) :: L4) H4 ∧ acc.length < sizeLine ∧ P (acc ++ [y]) (Lm ++ L4)
/-- no element -/
def NoPut (B : Hp) (D : Addr) (acc : List V) (P : List V → Own → Prop) (H3 : Hp) : Prop := ∃ Lm L4, SI B (Lm ++ (D, .lst acc) :: L4) H3 ∧ P acc (Lm ++ L4)
theorem put_upd {D : Addr} {acc : List V} {Lm L4 : Own} {H4 : Hp} (s : SI B (Lm ++ (D, .lst acc) :: L4) H4) : H4 D = some (.lst acc) ∧ SI B ((D, .lst (acc ++ [y])) :: (Lm ++ L4)) (upd H4 D (.lst (acc ++ [y]))) := by
  have s2 : SI B ((D, .lst acc) :: (Lm ++ L4)) H4 := s.perm List.perm_middle
  exact ⟨s2.at (i := 0) rfl, s2.set (i := 0) rfl⟩
/-- behind an element's value -/
theorem lc_core {J : It} (n : Nat) (yl : Nat → V) (Pv : Nat → List V → Own → Prop)
    (hgo : ∀ i acc L H, Pv i acc L → i < n → SI B L H → J.go i H) (hst : ∀ acc L H, Pv n acc L → SI B L H → J.stop n H) (hy : ∀ i acc L H x H', Pv i acc L → i < n → SI B L H → J.yld i H x H' → H' = H ∧ x = yl i)
    (h0 : Pv 0 [] L) (hs : ∀ i acc L D, i < n → Pv i acc L → N B ((D, .lst acc) :: L) (fun H => g (yl i) (wipe σ vs) H fun σ2 H2 => wipe σ2 vs = wipe σ vs ∧ tt σ2 H2 fun b H3 =>
      if b = true then te σ2 H3 (fun y H4 => ∃ acc, H4 D = some (.lst acc) ∧ acc.length < sizeLine ∧ (∃ L, SI B L (upd H4 D (.lst (acc ++ [y]))) ∧ ∃ a L', L = (D, .lst a) :: L' ∧ Pv (i + 1) a L')) else (∃ L, SI B L H3 ∧ ∃ a L', L = (D, .lst a) :: L' ∧ Pv (i + 1) a L')))
    (hd : ∀ acc L D, Pv n acc L → N B ((D, .lst acc) :: L) (Q (.ref D))) : N B L (fun H => Lc g tt te vs σ Q J H) := by
  intro H s D hD
  have e0 : ∀ {a : List V} {L : Own} {H : Hp}, SI B ((D, .lst a) :: L) H → SI B L H := fun s => s.sub (List.sublist_cons_self _ _)
  refine ⟨fun i m H => m = n - i ∧ i ≤ n ∧ ∃ L, SI B L H ∧ ∃ a L', L = (D, .lst a) :: L' ∧ Pv i a L', ⟨n, by omega, Nat.zero_le _, _, s.new hD, [], L, rfl, h0⟩, ?_⟩
  rintro i m H ⟨rfl, hi, _, s, acc, L', rfl, p⟩
  by_cases hlt : i < n
  · refine .inr ⟨hgo i acc L' H p hlt (e0 s), fun H' => ∃ L, SI B L H' ∧ ∃ a L', L = (D, .lst a) :: L' ∧ Pv (i + 1) a L', fun H' h => ⟨n - (i + 1), by omega, rfl, hlt, h⟩, fun x H' hx => ?_⟩
    obtain ⟨rfl, rfl⟩ := hy i acc L' H x H' p hlt (e0 s) hx
    exact hs i acc L' D hlt p _ s
  · have e : i = n := by omega
    subst e
    exact .inl ⟨hst acc L' H p (e0 s), hd acc L' D p H s⟩
/-- the element's end -/
theorem n_put {D : Addr} {acc : List V} {L4 : Own} {P : List V → Own → Prop} (Lm : Own) (e : L = Lm ++ (D, .lst acc) :: L4) (hz : acc.length < sizeLine) (h : P (acc ++ [y]) L') (s : L'.Sublist (Lm ++ L4)) :
    N B L (fun H4 => ∃ acc, H4 D = some (.lst acc) ∧ acc.length < sizeLine ∧ (∃ L, SI B L (upd H4 D (.lst (acc ++ [y]))) ∧ ∃ a L', L = (D, .lst a) :: L' ∧ P a L')) := by
  subst e
  intro H x
  obtain ⟨a, b⟩ := put_upd (y := y) x
  exact ⟨acc, a, hz, _, b.sub (s.cons₂ _), _, _, rfl, h⟩
theorem n_noput {D : Addr} {acc : List V} {L4 : Own} {P : List V → Own → Prop} (Lm : Own) (e : L = Lm ++ (D, .lst acc) :: L4) (h : P acc L') (s : L'.Sublist (Lm ++ L4)) :
    N B L (fun H3 => ∃ L, SI B L H3 ∧ ∃ a L', L = (D, .lst a) :: L' ∧ P a L') := by
  subst e
  intro H x
  have s2 : SI B ((D, .lst acc) :: (Lm ++ L4)) H := x.perm List.perm_middle
  exact ⟨_, s2.sub (s.cons₂ _), _, _, rfl, h⟩
theorem n_wiped {k : Hp → Prop} {σ' : St} (e : wipe σ' vs = wipe σ vs) (q : N B L k) : N B L (fun H => wipe σ' vs = wipe σ vs ∧ k H) := fun H s => ⟨e, q H s⟩
theorem n_yes {QB : Bool → Hp → Prop} (q : N B L (QB true)) : N B L (fun H => tYes σ H QB) := q
theorem n_lcL (Pv : Nat → List V → Own → Prop) (hq : ∀ i acc L, i ≤ xs.length → Pv i acc L → Sq K B L a xs) (h0 : Pv 0 [] L)
    (hs : ∀ i acc L D (hi : i < xs.length), Pv i acc L → N B ((D, .lst acc) :: L) (fun H => g xs[i] (wipe σ vs) H fun σ2 H2 => wipe σ2 vs = wipe σ vs ∧ tt σ2 H2 fun b H3 =>
      if b = true then te σ2 H3 (fun y H4 => ∃ acc, H4 D = some (.lst acc) ∧ acc.length < sizeLine ∧ (∃ L, SI B L (upd H4 D (.lst (acc ++ [y]))) ∧ ∃ a L', L = (D, .lst a) :: L' ∧ Pv (i + 1) a L')) else (∃ L, SI B L H3 ∧ ∃ a L', L = (D, .lst a) :: L' ∧ Pv (i + 1) a L')))
    (hd : ∀ acc L D, Pv xs.length acc L → N B ((D, .lst acc) :: L) (Q (.ref D))) : N B L (fun H => IL K (Lc g tt te vs σ Q) (.ref a) H) := by
  intro H s
  refine ⟨a, rfl, ⟨xs, hq 0 [] L (Nat.zero_le _) h0 H s⟩, ?_⟩
  refine lc_core (J := Itl K a) xs.length (fun i => xs.getD i .non) Pv (fun i σ L H p hi s => ⟨xs, xs[i], hq i σ L (Nat.le_of_lt hi) p H s, List.getElem?_eq_getElem hi⟩) (fun σ L H p s => ⟨xs, hq _ σ L (Nat.le_refl _) p H s, Nat.le_refl _⟩) ?_ h0 ?_ hd H s
  · rintro i σ L H x H' p hi s ⟨e, hx⟩
    have := hx xs (hq i σ L (Nat.le_of_lt hi) p H s)
    refine ⟨e, ?_⟩
    rw [List.getElem?_eq_getElem hi] at this
    show x = xs.getD i .non
    rw [List.getD_eq_getElem?_getD, List.getElem?_eq_getElem hi]
    exact (Option.some.inj this).symm
  · intro i acc L D hi p
    have e : xs.getD i .non = xs[i] := by rw [List.getD_eq_getElem?_getD, List.getElem?_eq_getElem hi]; rfl
    show N B _ (fun H => g (xs.getD i .non) (wipe σ vs) H _)
    rw [e]
    exact hs i acc L D hi p
theorem n_lcR {lo : Int} {n : Nat} (Pv : Nat → List V → Own → Prop) (h0 : Pv 0 [] L)
    (hs : ∀ i acc L D, i < n → Pv i acc L → N B ((D, .lst acc) :: L) (fun H => g (.int (lo + i)) (wipe σ vs) H fun σ2 H2 => wipe σ2 vs = wipe σ vs ∧ tt σ2 H2 fun b H3 =>
      if b = true then te σ2 H3 (fun y H4 => ∃ acc, H4 D = some (.lst acc) ∧ acc.length < sizeLine ∧ (∃ L, SI B L (upd H4 D (.lst (acc ++ [y]))) ∧ ∃ a L', L = (D, .lst a) :: L' ∧ Pv (i + 1) a L')) else (∃ L, SI B L H3 ∧ ∃ a L', L = (D, .lst a) :: L' ∧ Pv (i + 1) a L')))
    (hd : ∀ acc L D, Pv n acc L → N B ((D, .lst acc) :: L) (Q (.ref D))) : N B L (fun H => Lc g tt te vs σ Q (Itr lo n) H) :=
  lc_core (J := Itr lo n) n (fun i => .int (lo + i)) Pv (fun i σ L H p hi s => hi) (fun σ L H p s => Nat.le_refl _) (fun i σ L H x H' p hi s h => h) h0 hs hd
theorem n_lcR1 (Pv : Nat → List V → Own → Prop) (hb : -(2 ^ 62) ≤ j ∧ j < 2 ^ 62) (h0 : Pv 0 [] L)
    (hs : ∀ (i : Nat) acc L D, (i : Int) < j → Pv i acc L → N B ((D, .lst acc) :: L) (fun H => g (.int i) (wipe σ vs) H fun σ2 H2 => wipe σ2 vs = wipe σ vs ∧ tt σ2 H2 fun b H3 =>
      if b = true then te σ2 H3 (fun y H4 => ∃ acc, H4 D = some (.lst acc) ∧ acc.length < sizeLine ∧ (∃ L, SI B L (upd H4 D (.lst (acc ++ [y]))) ∧ ∃ a L', L = (D, .lst a) :: L' ∧ Pv (i + 1) a L')) else (∃ L, SI B L H3 ∧ ∃ a L', L = (D, .lst a) :: L' ∧ Pv (i + 1) a L')))
    (hd : ∀ acc L D, Pv j.toNat acc L → N B ((D, .lst acc) :: L) (Q (.ref D))) : N B L (fun H => IR1 (Lc g tt te vs σ Q) [.int j] H) := fun H s => ⟨j, rfl, hb.1, hb.2,
  n_lcR (lo := 0) (n := j.toNat) Pv h0 (fun i acc L D hi p => by rw [Int.zero_add]; exact hs i acc L D (by omega) p) hd H s⟩
end
end Sk
namespace Sk
open PySem PySem.Spec PyProof.Rows L2
/-! ### defs -/
structure Ok (P : Program) (w : World) (K : PySem.W.Frag) (mg : Str → Option Value) (base : Heap) (k : Nat) (x : Str) (ps : List Str) (sp : Sp) : Prop where
  ex : ∃ f fd, FnOk P w K mg base CX0 k f fd ps sp ∧ mg x = some (.ref f) ∧ PySem.W.keepIn K (.ref f) = true ∧ Binds K fd ps []
theorem Ok.intro {P : Program} {w : World} {K : PySem.W.Frag} {mg : Str → Option Value} {base : Heap} {k : Nat} {x : Str} {ps : List Str} {sp : Sp} {f : Addr} {fd : FuncData} (F : FnOk P w K mg base CX0 k f fd ps sp) (g : mg x = some (.ref f)) (kp : PySem.W.keepIn K (.ref f) = true) (b : Binds K fd ps []) : Ok P w K mg base k x ps sp := ⟨⟨f, fd, F, g, kp, b⟩⟩
section
variable {X : Cx} {k : Nat} {x : Str} {ps : List Str} {sp : Sp} {p pos : Pos} {e : Expr} {es : List Expr} {t : TA}
theorem pe_ok (O : Ok X.prog X.w X.K X.mg X.base k x ps sp) (hr : Room k X.A) (hg : Gl X x) (ha : PA X (e :: es) t) (hdb : (x == ("__debug__" : Str)) = false := by decide)
    (he : starEach (e :: es) X.env = (false, eval e X.env) :: starEach es X.env := by rfl) (hpl : (backTo pos (starEach es X.env)).any (·.1) = false := by rfl) : PE X (.Call (.Name x p) (e :: es) [] pos) (tCall sp [] E0 t) := by
  obtain ⟨f, fd, F, g, kp, b⟩ := O.ex
  exact pe_call F hr hg g kp b .nil pass0 ha hdb he hpl
end
/-! ### more values -/
section
variable {K : PySem.W.Frag} {B : Hp} {L : Own} {Q : VK} {i : Int} {b : Bool} {s : Str}
theorem n_isi_int {T : String} (h : kitB "int" T = some b) (q : N B L (Q (.bl b))) : N B L (fun H => rIsi K [.int i, .ty T] H Q) := fun H s => ⟨_, _, _, _, b, rfl, .ty T, .base (.int i), kit_ty h, q H s⟩
theorem n_isi_bl {T : String} {c : Bool} (h : kitB "bool" T = some b) (q : N B L (Q (.bl b))) : N B L (fun H => rIsi K [.bl c, .ty T] H Q) := fun H s => ⟨_, _, _, _, b, rfl, .ty T, .base (.bl c), kit_ty h, q H s⟩
theorem n_isi_str {T : String} (h : kitB "str" T = some b) (q : N B L (Q (.bl b))) : N B L (fun H => rIsi K [.str s, .ty T] H Q) := fun H x => ⟨_, _, _, _, b, rfl, .ty T, .base (.str s), kit_ty h, q H x⟩
theorem n_isi_non {T : String} (h : kitB "NoneType" T = some b) (q : N B L (Q (.bl b))) : N B L (fun H => rIsi K [.non, .ty T] H Q) := fun H x => ⟨_, _, _, _, b, rfl, .ty T, .base .non, kit_ty h, q H x⟩
theorem n_isi_lst {T : String} {a : Addr} {xs : List V} (hs : Is B L a (.lst xs)) (h : kitB "list" T = some b) (q : N B L (Q (.bl b))) : N B L (fun H => rIsi K [.ref a, .ty T] H Q) := fun H x => ⟨_, _, _, _, b, rfl, .ty T, .base (.lst (hs H x)), kit_ty h, q H x⟩
theorem n_isi_tup {T : String} {a : Addr} {xs : List V} (hs : Is B L a (.tup xs)) (h : kitB "tuple" T = some b) (q : N B L (Q (.bl b))) : N B L (fun H => rIsi K [.ref a, .ty T] H Q) := fun H x => ⟨_, _, _, _, b, rfl, .ty T, .base (.tup (hs H x)), kit_ty h, q H x⟩
end
/-! ### data at any depth -/
section
variable {K : PySem.W.Frag} {B : Hp} {L L' : Own} {Q : VK} {i : Int} {b : Bool} {a c p : Addr} {v x y : V} {d e : PyData} {ns ms : List Int} {xs : List V} {k : Hp → Prop}
def Da (K : PySem.W.Frag) (B : Hp) (L : Own) (v : V) (d : PyData) : Prop := ∀ H, SI B L H → Dp K H v d
theorem n_eqD (h1 : Da K B L x d) (h2 : Da K B L y e) (s1 : SeqAt.shaped d = true) (s2 : SeqAt.shaped e = true) (q : N B L (Q (.bl (PyData.eqv d e)))) : N B L (fun H => uEq K x y H Q) := fun H s => .inr ⟨d, e, h1 H s, h2 H s, s1, s2, q H s⟩
theorem n_neD (h1 : Da K B L x d) (h2 : Da K B L y e) (s1 : SeqAt.shaped d = true) (s2 : SeqAt.shaped e = true) (q : N B L (Q (.bl (!PyData.eqv d e)))) : N B L (fun H => uNe K x y H Q) := fun H s => .inr ⟨d, e, h1 H s, h2 H s, s1, s2, q H s⟩
theorem dpAll_ints {H : Hp} : ∀ ns : List Int, DpAll K H (ns.map V.int) (ns.map PyData.int)
  | [] => .nil
  | n :: r => .cons (.int n) (dpAll_ints r)
theorem da_ints (h : Sq K B L a (ns.map V.int)) : Da K B L (.ref a) (.list (ns.map PyData.int)) := fun H s => .lst (h H s) (dpAll_ints ns)
theorem da_intsT (h : Tp K B L a (ns.map V.int)) : Da K B L (.ref a) (.tuple (ns.map PyData.int)) := fun H s => .tup (h H s) (dpAll_ints ns)
theorem da_int : Da K B L (.int i) (.int i) := fun _ _ => .int i
theorem can_ints : ∀ ns : List Int, PyData.canLayAll0 (ns.map PyData.int) = true ∧ PyData.depthAll (ns.map PyData.int) = 0
  | [] => ⟨rfl, rfl⟩
  | n :: r => by
    obtain ⟨h1, h2⟩ := can_ints r
    refine ⟨?_, ?_⟩
    · show (true && PyData.canLayAll0 (r.map PyData.int)) = true
      rw [h1]; rfl
    · show max 0 (PyData.depthAll (r.map PyData.int)) = 0
      rw [h2]; rfl
theorem shaped_ints (ns : List Int) : SeqAt.shaped (.list (ns.map PyData.int)) = true := by
  obtain ⟨h1, h2⟩ := can_ints ns
  show (PyData.canLayAll0 (ns.map PyData.int) && decide (PyData.depthAll (ns.map PyData.int) + 1 ≤ 64)) = true
  rw [h1, h2]; rfl
theorem shaped_intsT (ns : List Int) : SeqAt.shaped (.tuple (ns.map PyData.int)) = true := shaped_ints ns
theorem eqvAll_ints : ∀ ns ms : List Int, PyData.eqvAll (ns.map PyData.int) (ms.map PyData.int) = decide (ns = ms)
  | [], [] => rfl
  | [], m :: r => by
    rw [decide_eq_false (fun e => nomatch e)]
    exact PyData.eqvAll.eq_3 _ _
  | n :: r, [] => by
    rw [decide_eq_false (fun e => nomatch e)]
    exact PyData.eqvAll.eq_4 _ _
  | n :: r, m :: r' => by
    rw [List.map_cons, List.map_cons, PyData.eqvAll, eqvAll_ints r r', PyData.eqv]
    by_cases h1 : n = m
    · subst h1
      by_cases h2 : r = r'
      · subst h2; simp
      · rw [decide_eq_false h2, decide_eq_false (fun e => h2 (List.cons.inj e).2)]; simp
    · rw [decide_eq_false (fun e => h1 (List.cons.inj e).1), beq_eq_false_iff_ne.mpr h1]; rfl
theorem eqv_ints (ns ms : List Int) : PyData.eqv (.list (ns.map PyData.int)) (.list (ms.map PyData.int)) = decide (ns = ms) := by
  rw [PyData.eqv]; exact eqvAll_ints ns ms
theorem n_eqLi (h1 : Sq K B L a (ns.map V.int)) (h2 : Sq K B L c (ms.map V.int)) (q : N B L (Q (.bl (decide (ns = ms))))) : N B L (fun H => uEq K (.ref a) (.ref c) H Q) :=
  n_eqD (da_ints h1) (da_ints h2) (shaped_ints _) (shaped_ints _) (by rw [eqv_ints]; exact q)
theorem n_neLi (h1 : Sq K B L a (ns.map V.int)) (h2 : Sq K B L c (ms.map V.int)) (q : N B L (Q (.bl (!decide (ns = ms))))) : N B L (fun H => uNe K (.ref a) (.ref c) H Q) :=
  n_neD (da_ints h1) (da_ints h2) (shaped_ints _) (shaped_ints _) (by rw [eqv_ints]; exact q)
/-! ### lists of ints -/
theorem at_ints {z : Int} (h0 : 0 ≤ z) (h1 : z < ns.length) : atI (ns.map V.int) z = some (.int (ns.getD z.toNat 0)) := by
  obtain ⟨n, rfl⟩ := Int.eq_ofNat_of_zero_le h0
  refine atI_nat ?_
  have h : n < ns.length := by omega
  rw [List.getElem?_map, Int.toNat_natCast, List.getD_eq_getElem?_getD, List.getElem?_eq_getElem h]
  rfl
theorem n_ixLi (hs : Sq K B L a (ns.map V.int)) (h0 : 0 ≤ i) (h1 : i < ns.length) (q : N B L (Q (.int (ns.getD i.toNat 0)))) : N B L (fun H => rIx K (.ref a) (.int i) H Q) := n_ixL hs (at_ints h0 h1) q
variable {D : Ends} {ts : TS} {σ : St} {g : TG}
theorem n_lpLi (ns : List Int) (Pv : Nat → St → Own → Prop) (hq : ∀ i σ L, i ≤ ns.length → Pv i σ L → Sq K B L a (ns.map V.int)) (h0 : Pv 0 σ L)
    (hs : ∀ i σ L (hi : i < ns.length), Pv i σ L → N B L (fun H => g (.int ns[i]) σ H fun σ2 H2 => ts (loE D (KI B (Pv (i + 1)))) σ2 H2))
    (hd : ∀ σ L, Pv ns.length σ L → N B L (D.nx σ)) : N B L (fun H => IL K (Lp g ts D σ) (.ref a) H) := by
  have e : (ns.map V.int).length = ns.length := List.length_map _
  refine n_lpL (xs := ns.map V.int) Pv (fun i σ L h p => hq i σ L (by omega) p) h0 (fun i σ L h p => ?_) (fun σ L p => hd σ L (by rw [← e]; exact p))
  have q := hs i σ L (by omega) p
  rw [List.getElem_map]
  exact q
theorem n_lpVi (ns : List Int) (Pv : Nat → St → Own → Prop) (hq : ∀ i σ L, i ≤ ns.length → Pv i σ L → Sq K B L a (ns.map V.int)) (h0 : Pv 0 σ L)
    (hs : ∀ i σ L (hi : i < ns.length), Pv i σ L → N B L (fun H => g (.int (ns[ns.length - 1 - i]'(by omega))) σ H fun σ2 H2 => ts (loE D (KI B (Pv (i + 1)))) σ2 H2))
    (hd : ∀ σ L, Pv ns.length σ L → N B L (D.nx σ)) : N B L (fun H => IV K (Lp g ts D σ) [.ref a] H) := by
  have e : (ns.map V.int).length = ns.length := List.length_map _
  refine n_lpV (xs := ns.map V.int) Pv (fun i σ L h p => hq i σ L (by omega) p) h0 (fun i σ L h p => ?_) (fun σ L p => hd σ L (by rw [← e]; exact p))
  have q := hs i σ L (by omega) p
  rw [List.getElem_map]
  simp only [e]
  exact q
theorem n_lpEi {n m : Nat} (ns : List Int) (Pv : Nat → St → Own → Prop) (hq : ∀ i σ L, i ≤ ns.length → Pv i σ L → Sq K B L a (ns.map V.int)) (h0 : Pv 0 σ L)
    (hs : ∀ (i : Nat) σ L (hi : i < ns.length), Pv i σ L → N B L (fun H => ts (loE D (KI B (Pv (i + 1)))) ((σ.set n (some (.int i))).set m (some (.int ns[i]))) H))
    (hd : ∀ σ L, Pv ns.length σ L → N B L (D.nx σ)) : N B L (fun H => IE K (Lp (gTup K 2 (gCons (gName n) (gCons (gName m) gNil))) ts D σ) [.ref a] H) := by
  have e : (ns.map V.int).length = ns.length := List.length_map _
  refine n_lpE (xs := ns.map V.int) Pv (fun i σ L h p => hq i σ L (by omega) p) h0 (fun i σ L h p => ?_) (fun σ L p => hd σ L (by rw [← e]; exact p))
  have q := hs i σ L (by omega) p
  rw [List.getElem_map]
  exact q
theorem N.go {B : Hp} {k : Hp → Prop} (h : N B [] k) : k B := h B (SI.refl B)
theorem take_step {α : Type} {xs : List α} {i : Nat} (h : i < xs.length) : xs.take (i + 1) = xs.take i ++ [xs[i]] := by
  rw [List.take_add_one, List.getElem?_eq_getElem h]; rfl
end
/-! ### lending one object -/
section
variable {K : PySem.W.Frag} {B : Hp} {L L' : Own} {Q : VK} {p a : Addr} {o : HO} {i : Nat} {H : Hp}
theorem perm_at {α : Type} : ∀ {L : List α} {i : Nat} {x : α}, L[i]? = some x → L.Perm (x :: L.eraseIdx i)
  | [], i, x, h => by simp at h
  | y :: r, 0, x, h => by
    have e : y = x := Option.some.inj h
    subst e
    exact .refl _
  | y :: r, i + 1, x, h => (List.Perm.cons y (perm_at (L := r) (i := i) (x := x) h)).trans (List.Perm.swap x y _)
theorem perm_set {α : Type} : ∀ {L : List α} {i : Nat} {x : α} (y : α), L[i]? = some x → (y :: L.eraseIdx i).Perm (L.set i y)
  | [], i, x, y, h => by simp at h
  | z :: r, 0, x, y, h => .refl _
  | z :: r, i + 1, x, y, h => (List.Perm.swap z y _).trans (List.Perm.cons z (perm_set (L := r) (i := i) (x := x) y h))
theorem lend1 (s : SI B L H) (hi : L[i]? = some (p, o)) : ∃ B', SI B' [(p, o)] H ∧ ∀ o' Ln H', SI B' (Ln ++ [(p, o')]) H' → SI B (Ln ++ L.set i (p, o')) H' := by
  have s2 : SI B ([(p, o)] ++ L.eraseIdx i) H := s.perm (perm_at hi)
  refine ⟨_, s2.lend, fun o' Ln H' h => ?_⟩
  have s3 : SI B ((Ln ++ [(p, o')]) ++ L.eraseIdx i) H' := s2.back h
  rw [List.append_assoc] at s3
  exact s3.perm (List.Perm.append_left Ln (perm_set (p, o') hi))
/-- the element's end, its new objects put behind the others -/
theorem n_putA {y : V} {D : Addr} {acc : List V} {L4 : Own} {P : List V → Own → Prop} (Lm : Own) (e : L = Lm ++ (D, .lst acc) :: L4) (hz : acc.length < sizeLine) (h : P (acc ++ [y]) L') (s : L'.Sublist (L4 ++ Lm)) :
    N B L (fun H4 => ∃ acc, H4 D = some (.lst acc) ∧ acc.length < sizeLine ∧ (∃ L, SI B L (upd H4 D (.lst (acc ++ [y]))) ∧ ∃ a L', L = (D, .lst a) :: L' ∧ P a L')) := by
  subst e
  intro H x
  obtain ⟨a, b⟩ := put_upd (y := y) x
  exact ⟨acc, a, hz, _, (b.perm (List.Perm.cons _ List.perm_append_comm)).sub (s.cons₂ _), _, _, rfl, h⟩
def cutI (xs : List Int) (lo hi : Option Int) : List Int := (xs.drop (HT.sIx xs.length 0 lo)).take (HT.sIx xs.length xs.length hi - HT.sIx xs.length 0 lo)
theorem cutV_ints (xs : List Int) (lo hi : Option Int) : cutV (xs.map V.int) lo hi = (cutI xs lo hi).map V.int := by
  unfold cutV cutI
  rw [List.length_map, List.map_take, List.map_drop]
theorem n_slLi {ns : List Int} {lo hi : Option Int} (hs : Sq K B L a (ns.map V.int)) (q : ∀ p, N B ((p, .lst ((cutI ns lo hi).map V.int)) :: L) (Q (.ref p))) : N B L (fun H => rSlL K (.ref a) lo hi H Q) :=
  n_slL hs (by rw [cutV_ints]; exact q)
theorem cutI_len (xs : List Int) (lo hi : Option Int) : (cutI xs lo hi).length ≤ xs.length := by
  unfold cutI
  rw [List.length_take, List.length_drop]
  omega
theorem cutI_nat (xs : List Int) (a b : Nat) : cutI xs (some (a : Int)) (some (b : Int)) = (xs.drop a).take (b - a) := by
  unfold cutI
  rw [HT.sIx_nat, HT.sIx_nat]
  by_cases h : a ≤ xs.length
  · rw [Nat.min_eq_left h]
    by_cases h2 : b ≤ xs.length
    · rw [Nat.min_eq_left h2]
    · rw [Nat.min_eq_right (by omega), List.take_of_length_le (by rw [List.length_drop]; exact Nat.le_refl _), List.take_of_length_le (by rw [List.length_drop]; omega)]
  · have e1 : xs.drop (min a xs.length) = [] := List.drop_eq_nil_of_le (by omega)
    have e2 : xs.drop a = [] := List.drop_eq_nil_of_le (by omega)
    rw [e1, e2, List.take_nil, List.take_nil]
theorem cutI_to (xs : List Int) (b : Nat) : cutI xs none (some (b : Int)) = xs.take b := by
  have := cutI_nat xs 0 b
  simpa [cutI, HT.sIx] using this
theorem cutI_from (xs : List Int) (a : Nat) : cutI xs (some (a : Int)) none = xs.drop a := by
  unfold cutI
  rw [HT.sIx_nat, HT.sIx_none]
  by_cases h : a ≤ xs.length
  · rw [Nat.min_eq_left h, List.take_of_length_le (by rw [List.length_drop]; exact Nat.le_refl _)]
  · have e1 : xs.drop (min a xs.length) = [] := List.drop_eq_nil_of_le (by omega)
    have e2 : xs.drop a = [] := List.drop_eq_nil_of_le (by omega)
    rw [e1, e2, List.take_nil]
theorem pool_set {pool : Own} {j : Nat} {q : Addr × HO} (o : HO) (h : pool[j]? = some q) {α : Type} (f : Addr → α) : (pool.set j (q.1, o)).map (fun x => f x.1) = pool.map (fun x => f x.1) := by
  apply List.ext_getElem?
  intro n
  rw [List.getElem?_map, List.getElem?_map, List.getElem?_set]
  split
  · rename_i e; subst e
    obtain ⟨hj, e⟩ := List.getElem?_eq_some_iff.mp h
    rw [if_pos hj, List.getElem?_eq_getElem hj, e]; rfl
  · rfl
theorem pool_all {P : Addr × HO → Prop} {pool : Own} {j : Nat} {q : Addr × HO} (h : ∀ x ∈ pool, P x) (hq : P q) : ∀ x ∈ pool.set j q, P x := fun x hx => by
  rcases List.mem_or_eq_of_mem_set hx with h2 | rfl
  · exact h x h2
  · exact hq
end
theorem sz_ok {n : Nat} (h : n ≤ 10000000) : n ≤ sizeLine := Nat.le_trans h (by decide)
theorem sz_lt {n : Nat} (h : n < 10000000) : n < sizeLine := Nat.lt_of_lt_of_le h (by decide)
theorem own_ix {L : Own} {x : Addr × HO} (n : Nat) (h : L[n]? = some x) : L[n]? = some x := h
theorem set_app {α : Type} (x : α) (pool : List α) (j : Nat) : ∀ pre : List α, (pre ++ pool).set (pre.length + j) x = pre ++ pool.set j x
  | [] => by simp
  | a :: r => by
    have e : (a :: r).length + j = (r.length + j) + 1 := by rw [List.length_cons]; omega
    rw [e]
    show a :: (r ++ pool).set (r.length + j) x = a :: (r ++ pool.set j x)
    rw [set_app x pool j r]
theorem get_app {α : Type} (pool : List α) (j : Nat) : ∀ pre : List α, (pre ++ pool)[pre.length + j]? = pool[j]?
  | [] => by simp
  | a :: r => by
    have e : (a :: r).length + j = (r.length + j) + 1 := by rw [List.length_cons]; omega
    rw [e]
    show (r ++ pool)[r.length + j]? = pool[j]?
    exact get_app pool j r
theorem set_at {α : Type} {pool : List α} {j : Nat} {q x : α} (h : pool[j]? = some q) : (pool.set j x)[j]? = some x := by
  rw [List.getElem?_set_self (List.getElem?_eq_some_iff.mp h).1]
section
variable {K : PySem.W.Frag} {B : Hp} {L : Own} {Q : VK} {l c : Addr} {ns ms : List Int} {i v : Int} {n : Nat} {k : Hp → Prop}
theorem n_catLi (hl : Is B L l (.lst (ns.map V.int))) (hc : Is B L c (.lst (ms.map V.int))) (hn : ns.length + ms.length ≤ sizeLine) (q : ∀ p, N B ((p, .lst ((ns ++ ms).map V.int)) :: L) (Q (.ref p))) : N B L (fun H => uAdd K (.ref l) (.ref c) H Q) :=
  n_cat hl hc (by rw [List.length_map, List.length_map]; exact hn) (by rw [← List.map_append]; exact q)
theorem n_appendLi (hi : L[n]? = some (l, .lst (ns.map V.int))) (hz : ns.length < sizeLine) (q : N B (L.set n (l, .lst ((ns ++ [v]).map V.int))) (Q .non)) : N B L (fun H => rAppend (.ref l) [.int v] H Q) :=
  n_append hi (by rw [List.length_map]; exact hz) (by rw [List.map_append] at q; exact q)
theorem ixN_nat (h0 : 0 ≤ i) (h1 : i < n) : ixN n i = some i.toNat := by
  unfold ixN
  rw [if_pos h0, if_pos h1]
theorem n_setLi (hi : L[n]? = some (l, .lst (ns.map V.int))) (h0 : 0 ≤ i) (h1 : i < ns.length) (q : N B (L.set n (l, .lst ((ns.set i.toNat v).map V.int))) k) : N B L (fun H => rSetL (.ref l) (.int i) (.int v) H k) :=
  n_setL (m := i.toNat) hi (ixN_nat h0 (by rw [List.length_map]; exact h1)) (by rw [← List.map_set]; exact q)
end
/-! ### promises used -/
section
variable {B : Hp} {L L' : Own} {H : Hp} {k : Hp → Prop} {p : Addr} {o o' : HO} {i : Nat}
theorem N.lift (s : SI B L H) (h : N B (L' ++ L) k) : N H L' k := fun H' s' => h H' (s.trans s')
/-- one object handed in is changed; Ln are new -/
def NO (B : Hp) (p : Addr) (Ln : Own) (o : HO) (k : Hp → Prop) : Prop := N B (Ln ++ [(p, o)]) k
/-- the same for whoever calls: p stands at place i -/
def NC (B : Hp) (L : Own) (i : Nat) (p : Addr) (Ln : Own) (o : HO) (k : Hp → Prop) : Prop := N B (Ln ++ L.set i (p, o)) k
theorem NO.lift {B' : Hp} (s : ∀ o' Ln H', SI B' (Ln ++ [(p, o')]) H' → SI B (Ln ++ L.set i (p, o')) H') {Ln : Own} (h : NC B L i p Ln o' k) : NO B' p Ln o' k := fun H' s' => h H' (s _ _ _ s')
theorem N.go1 (s : SI B [(p, o)] H) (h : N B [(p, o)] k) : k H := h H s
end
/-! ### numbers -/
section
variable {K : PySem.W.Frag} {B : Hp} {L : Own} {Q : VK} {i j : Int} {σ : St} {te : TE} {vs : List Nat} {m : Nat} {a : Addr}
theorem n_and1 (q : N B L (Q (.int (i % 2)))) : N B L (fun H => uAnd (.int i) (.int 1) H Q) := n_and_ (by
  have e := PySem.W.kbt_mask i 1
  rw [show ((2 : Int) ^ 1 - 1) = 1 by decide, show ((2 : Int) ^ 1) = 2 by decide] at e
  rw [e]; exact q)
theorem n_and127 (q : N B L (Q (.int (i % 128)))) : N B L (fun H => uAnd (.int i) (.int 127) H Q) := n_and_ (by
  have e := PySem.W.kbt_mask i 7
  rw [show ((2 : Int) ^ 7 - 1) = 127 by decide, show ((2 : Int) ^ 7) = 128 by decide] at e
  rw [e]; exact q)
theorem n_orL {k : Nat} (h0 : 0 ≤ i) (h1 : 0 ≤ j) (h2 : j < 2 ^ k) (q : N B L (Q (.int (i * 2 ^ k + j)))) : N B L (fun H => uOr (.int (i * 2 ^ k)) (.int j) H Q) := n_or_ (by rw [or_low h0 h1 h2]; exact q)
def BitsK (Q : VK) (x : V) (H1 : Hp) : Prop := ∃ i, x = .int i ∧ Q (.int (Builtin.Int.intBits i : Nat)) H1
theorem n_bits (q : N B L (fun H => te σ H (BitsK Q))) : N B L (fun H => tBits te σ H Q) := q
theorem n_bits2 (q : N B L (Q (.int (Builtin.Int.intBits i : Nat)))) : N B L (fun H => BitsK Q (.int i) H) := fun H s => ⟨i, rfl, q H s⟩
theorem pow_lt_of {w n : Int} {k : Nat} (h : 1 * 2 ^ w.toNat ≤ n) (hn : n < 2 ^ k) : w < k := by
  have h1 : ((2 : Int) ^ w.toNat) < 2 ^ k := by omega
  have h2 : (2 : Nat) ^ w.toNat < 2 ^ k := by
    have e1 : ((2 : Int) ^ w.toNat) = ((2 ^ w.toNat : Nat) : Int) := by push_cast; rfl
    have e2 : ((2 : Int) ^ k) = ((2 ^ k : Nat) : Int) := by push_cast; rfl
    rw [e1, e2] at h1
    exact Int.ofNat_lt.mp h1
  have h3 := (Nat.pow_lt_pow_iff_right (by decide : 1 < 2)).mp h2
  omega
theorem cpow1 {w : Int} (h0 : 0 ≤ w) (h1 : w ≤ 1000000) : CPow 1 w := ⟨h0, h1, by decide⟩
theorem intBits_lt {n : Int} {k : Nat} (h0 : 0 ≤ n) (h : n < 2 ^ k) : Builtin.Int.intBits n ≤ k := by
  rw [PySem.intBits_le_iff]
  have e2 : ((2 : Int) ^ k) = ((2 ^ k : Nat) : Int) := by push_cast; rfl
  rw [e2] at h
  omega
theorem cshl7 {n : Int} {k : Nat} {j : Int} (h0 : 0 ≤ n) (h : n < 2 ^ k) (j0 : 0 ≤ j) (hk : (k : Int) + j ≤ 134217728) : CShl n j := ⟨j0, by have := intBits_lt h0 h; omega⟩
/-- a comprehension over range whose element is an int told by its turn -/
theorem n_lcMap (f : Nat → Int) (hb : j ≤ 100000) (hj : 0 ≤ j) (hw : ∀ x, wipe ((wipe σ vs).set m x) vs = wipe σ vs)
    (he : ∀ (i : Nat) D acc (Q' : VK), (i : Int) < j → N B ((D, .lst acc) :: L) (Q' (.int (f i))) → N B ((D, .lst acc) :: L) (fun H => te ((wipe σ vs).set m (some (.int i))) H Q'))
    (hd : ∀ D, N B ((D, .lst (((List.range j.toNat).map f).map V.int)) :: L) (Q (.ref D))) : N B L (fun H => IR1 (Lc (gName m) tYes te vs σ Q) [.int j] H) := by
  refine n_lcR1 (fun i acc L' => acc = ((List.range i).map f).map V.int ∧ L' = L) ⟨by omega, by omega⟩ ⟨rfl, rfl⟩ ?_ ?_
  · rintro i acc L' D hi ⟨rfl, rfl⟩
    refine n_gName ?_
    refine n_wiped (hw _) ?_
    refine n_yes ?_
    refine n_iteT ?_
    refine he i D _ _ hi ?_
    refine n_put [] rfl ?_ ⟨?_, rfl⟩ (List.Sublist.refl _)
    · rw [List.length_map, List.length_map, List.length_range]
      exact sz_lt (by omega)
    · rw [List.range_succ, List.map_append, List.map_append]; rfl
  · rintro acc L' D ⟨rfl, rfl⟩
    exact hd D
/-- .. over a list of ints -/
theorem n_lcMapL (ns : List Int) (f : Int → Int) (hb : ns.length ≤ 100000) (hq : Sq K B L a (ns.map V.int)) (hw : ∀ x, wipe ((wipe σ vs).set m x) vs = wipe σ vs)
    (he : ∀ (x : Int) D acc (Q' : VK), x ∈ ns → N B ((D, .lst acc) :: L) (Q' (.int (f x))) → N B ((D, .lst acc) :: L) (fun H => te ((wipe σ vs).set m (some (.int x))) H Q'))
    (hd : ∀ D, N B ((D, .lst ((ns.map f).map V.int)) :: L) (Q (.ref D))) : N B L (fun H => IL K (Lc (gName m) tYes te vs σ Q) (.ref a) H) := by
  refine n_lcL (xs := ns.map V.int) (fun i acc L' => acc = ((ns.take i).map f).map V.int ∧ L' = L) (fun i acc L' _ p => by rw [p.2]; exact hq) ⟨rfl, rfl⟩ ?_ ?_
  · rintro i acc L' D hi ⟨rfl, rfl⟩
    have hi' : i < ns.length := by rw [List.length_map] at hi; exact hi
    rw [List.getElem_map]
    refine n_gName ?_
    refine n_wiped (hw _) ?_
    refine n_yes ?_
    refine n_iteT ?_
    refine he ns[i] D _ _ (List.getElem_mem hi') ?_
    refine n_put [] rfl ?_ ⟨?_, rfl⟩ (List.Sublist.refl _)
    · rw [List.length_map, List.length_map, List.length_take]
      exact sz_lt (by omega)
    · rw [take_step hi', List.map_append, List.map_append]; rfl
  · rintro acc L' D ⟨rfl, rfl⟩
    rw [List.length_map, List.take_length]
    exact hd D
theorem n_repLi {l : Addr} {ns : List Int} (hl : Is B L l (.lst (ns.map V.int))) (h0 : 0 ≤ j) (h1 : j ≤ 1000000) (hn : ns.length * j.toNat ≤ sizeLine) (q : ∀ p, N B ((p, .lst ((List.replicate j.toNat ns).flatten.map V.int)) :: L) (Q (.ref p))) : N B L (fun H => uMul (.ref l) (.int j) H Q) :=
  n_rep hl (by omega) (by omega) (by rw [List.length_map]; exact hn) (by
    have e : (List.replicate j.toNat (ns.map V.int)).flatten = (List.replicate j.toNat ns).flatten.map V.int := by rw [List.map_flatten, List.map_replicate]
    rw [e]; exact q)
end
theorem n_iteFe {B : Hp} {L : Own} {b : Bool} {k1 k2 : Hp → Prop} (e : b = false) (h : N B L k2) : N B L (fun H => if b = true then k1 H else k2 H) := by subst e; exact n_iteF h
theorem n_iteTe {B : Hp} {L : Own} {b : Bool} {k1 k2 : Hp → Prop} (e : b = true) (h : N B L k1) : N B L (fun H => if b = true then k1 H else k2 H) := by subst e; exact n_iteT h
section
variable {B : Hp} {L : Own} {t u : TT} {ta tb : TE} {σ : St} {QB : Bool → Hp → Prop} {Q : VK} {b : Bool}
theorem n_orC (q : N B L (fun H => t σ H fun c H1 => if c = true then QB true H1 else u σ H1 QB)) : N B L (fun H => tOr t u σ H QB) := q
theorem n_andC (q : N B L (fun H => t σ H fun c H1 => if c = true then u σ H1 QB else QB false H1)) : N B L (fun H => tAnd t u σ H QB) := q
def OrK (tb : TE) (σ : St) (Q : VK) (x : V) (H1 : Hp) : Prop := ∃ c, x = .bl c ∧ if c = true then Q (.bl true) H1 else tb σ H1 Q
def AndK (tb : TE) (σ : St) (Q : VK) (x : V) (H1 : Hp) : Prop := ∃ c, x = .bl c ∧ if c = true then tb σ H1 Q else Q (.bl false) H1
theorem n_orCV (q : N B L (fun H => ta σ H (OrK tb σ Q))) : N B L (fun H => tOrV ta tb σ H Q) := q
theorem n_andCV (q : N B L (fun H => ta σ H (AndK tb σ Q))) : N B L (fun H => tAndV ta tb σ H Q) := q
theorem n_orK (q : N B L (fun H => if b = true then Q (.bl true) H else tb σ H Q)) : N B L (fun H => OrK tb σ Q (.bl b) H) := fun H s => ⟨b, rfl, q H s⟩
theorem n_andK (q : N B L (fun H => if b = true then tb σ H Q else Q (.bl false) H)) : N B L (fun H => AndK tb σ Q (.bl b) H) := fun H s => ⟨b, rfl, q H s⟩
end
end Sk
namespace Sk
open PySem PySem.Spec PyProof.Rows L2
/-! ### the base grows -/
section
variable {B B' B0 H H' : Hp} {L L' : Own} {p a : Addr} {o : HO} {i : Nat} {K : PySem.W.Frag} {xs : List V} {v : V} {d : PyData} {k : Hp → Prop}
theorem SI.put (s : SI B L H) (hi : L[i]? = some (p, o)) : SI (upd B p o) (L.eraseIdx i) H := by
  have s2 : SI B ((p, o) :: L.eraseIdx i) H := s.perm (perm_at hi)
  have hp := (s2.own _ (List.mem_cons_self)).1
  have nd := s2.nd
  rw [List.map_cons, List.nodup_cons] at nd
  refine ⟨fun b u e => ?_, fun q hq => ?_, nd.2⟩
  · by_cases hb : b = p
    · subst hb
      rw [upd_same] at e
      cases e
      exact (s2.own _ (List.mem_cons_self)).2
    · rw [upd_ne hb] at e
      exact s2.ext _ _ e
  · obtain ⟨h1, h2⟩ := s2.own q (List.mem_cons_of_mem _ hq)
    refine ⟨?_, h2⟩
    rw [upd_ne (fun e => nd.1 (List.mem_map.mpr ⟨q, hq, e⟩))]
    exact h1
theorem same_put (hp : B p = none) : Same B (upd B p o) := fun b u e => by rw [upd_ne (ne_of_none e hp)]; exact e
theorem SI.mono (s : Same B B') (h : SI B' L H) : SI B L H := ⟨s.trans h.ext, fun q hq => ⟨s.free (h.own q hq).1, (h.own q hq).2⟩, h.nd⟩
/-- an object that is changed no more -/
theorem n_freeze (i : Nat) (hi : L[i]? = some (p, o)) (q : ∀ B', Same B B' → B' p = some o → N B' (L.eraseIdx i) k) : N B L k := fun H s =>
  q _ (same_put (s.free hi)) upd_same H (s.put hi)
theorem Sq.mono (s : Same B B') (h : Sq K B L a xs) : Sq K B' L a xs := fun H x => h H (x.mono s)
theorem Tp.mono (s : Same B B') (h : Tp K B L a xs) : Tp K B' L a xs := fun H x => h H (x.mono s)
theorem Is.mono (s : Same B B') (h : Is B L a o) : Is B' L a o := fun H x => h H (x.mono s)
theorem Da.mono (s : Same B B') (h : Da K B L v d) : Da K B' L v d := fun H x => h H (x.mono s)
theorem Tp.sub (h : Tp K B L a xs) (s : L.Sublist L') : Tp K B L' a xs := fun H x => h H (x.sub s)
theorem Da.sub (h : Da K B L v d) (s : L.Sublist L') : Da K B L' v d := fun H x => h H (x.sub s)
theorem Sq.nil (h : Sq K B [] a xs) : Sq K B L a xs := h.sub (List.nil_sublist _)
theorem Tp.nil (h : Tp K B [] a xs) : Tp K B L a xs := h.sub (List.nil_sublist _)
theorem Is.nil (h : Is B [] a o) : Is B L a o := h.sub (List.nil_sublist _)
theorem Da.nil (h : Da K B [] v d) : Da K B L v d := h.sub (List.nil_sublist _)
theorem is_in (h : B p = some o) : Is B [] p o := is_old h
theorem n_tup2F {Q : VK} (hn : xs.length ≤ sizeLine) (q : ∀ p B', Same B B' → B' p = some (.tup xs) → N B' L (Q (.ref p))) : N B L (fun H1 => TupK Q xs H1) :=
  n_tup2 hn fun p => n_freeze 0 rfl (q p)
/-- behind a turn, the base grown -/
def KG (B : Hp) (P : Hp → St → Own → Prop) : St → Hp → Prop := fun σ H => ∃ B' L, Same B B' ∧ SI B' L H ∧ P B' σ L
def KGW (B : Hp) (P : Nat → Hp → St → Own → Prop) (m : Nat) : St → Hp → Prop := fun σ H => ∃ B' m' L, Same B B' ∧ m' < m ∧ SI B' L H ∧ P m' B' σ L
variable {σ : St} {D : Ends} {ts tz : TS} {t : TT} {g : TG} {ns : List Int} {j lo : Int}
theorem n_kg {P : Hp → St → Own → Prop} (sm : Same B0 B) (h : P B σ L') (s : L'.Sublist L) : N B L (KG B0 P σ) := fun H x => ⟨B, L', sm, x.sub s, h⟩
theorem n_kgw {P : Nat → Hp → St → Own → Prop} {m m' : Nat} (sm : Same B0 B) (h : P m' B σ L') (lt : m' < m) (s : L'.Sublist L) : N B L (KGW B0 P m σ) := fun H x => ⟨B, m', L', sm, lt, x.sub s, h⟩
theorem lp_coreB {J : It} (n : Nat) (yl : Nat → V) (Pv : Nat → Hp → St → Own → Prop)
    (hgo : ∀ i B' σ L H, Same B B' → Pv i B' σ L → i < n → SI B' L H → J.go i H) (hst : ∀ B' σ L H, Same B B' → Pv n B' σ L → SI B' L H → J.stop n H)
    (hy : ∀ i B' σ L H x H', Same B B' → Pv i B' σ L → i < n → SI B' L H → J.yld i H x H' → H' = H ∧ x = yl i)
    (h0 : Pv 0 B σ L) (hs : ∀ i B' σ L, Same B B' → i < n → Pv i B' σ L → N B' L (fun H => g (yl i) σ H fun σ2 H2 => ts (loE D (KG B' (Pv (i + 1)))) σ2 H2))
    (hd : ∀ B' σ L, Same B B' → Pv n B' σ L → N B' L (D.nx σ)) : N B L (fun H => Lp g ts D σ J H) := by
  intro H s
  refine ⟨fun i m σ H => m = n - i ∧ i ≤ n ∧ ∃ B' L, Same B B' ∧ SI B' L H ∧ Pv i B' σ L, ⟨n, by omega, Nat.zero_le _, B, L, (Same.refl _), s, h0⟩, ?_⟩
  rintro i m σ H ⟨rfl, hi, B', L, sm, s, p⟩
  by_cases hlt : i < n
  · refine .inr ⟨hgo i B' σ L H sm p hlt s, KG B' (Pv (i + 1)), fun σ' H' ⟨B2, L', sm2, s', p'⟩ => ⟨n - (i + 1), by omega, rfl, hlt, B2, L', sm.trans sm2, s', p'⟩, fun x H' hx => ?_⟩
    obtain ⟨rfl, rfl⟩ := hy i B' σ L H x H' sm p hlt s hx
    exact hs i B' σ L sm hlt p _ s
  · have e : i = n := by omega
    subst e
    exact .inl ⟨hst B' σ L H sm p s, hd B' σ L sm p H s⟩
theorem n_lpLB (xs : List V) (Pv : Nat → Hp → St → Own → Prop) (hq : ∀ i B' σ L, Same B B' → i ≤ xs.length → Pv i B' σ L → Sq K B' L a xs) (h0 : Pv 0 B σ L)
    (hs : ∀ i B' σ L (hi : i < xs.length), Same B B' → Pv i B' σ L → N B' L (fun H => g xs[i] σ H fun σ2 H2 => ts (loE D (KG B' (Pv (i + 1)))) σ2 H2))
    (hd : ∀ B' σ L, Same B B' → Pv xs.length B' σ L → N B' L (D.nx σ)) : N B L (fun H => IL K (Lp g ts D σ) (.ref a) H) := by
  intro H s
  refine ⟨a, rfl, ⟨xs, hq 0 B σ L (Same.refl _) (Nat.zero_le _) h0 H s⟩, ?_⟩
  refine lp_coreB (J := Itl K a) xs.length (fun i => xs.getD i .non) Pv (fun i B' σ L H sm p hi s => ⟨xs, xs[i], hq i B' σ L sm (Nat.le_of_lt hi) p H s, List.getElem?_eq_getElem hi⟩) (fun B' σ L H sm p s => ⟨xs, hq _ B' σ L sm (Nat.le_refl _) p H s, Nat.le_refl _⟩) ?_ h0 ?_ hd H s
  · rintro i B' σ L H x H' sm p hi s ⟨e, hx⟩
    have := hx xs (hq i B' σ L sm (Nat.le_of_lt hi) p H s)
    refine ⟨e, ?_⟩
    rw [List.getElem?_eq_getElem hi] at this
    show x = xs.getD i .non
    rw [List.getD_eq_getElem?_getD, List.getElem?_eq_getElem hi]
    exact (Option.some.inj this).symm
  · intro i B' σ L sm hi p
    have e : xs.getD i .non = xs[i] := by rw [List.getD_eq_getElem?_getD, List.getElem?_eq_getElem hi]; rfl
    show N B' L (fun H => g (xs.getD i .non) σ H _)
    rw [e]
    exact hs i B' σ L hi sm p
theorem n_lpTB (xs : List V) (Pv : Nat → Hp → St → Own → Prop) (hq : ∀ i B' σ L, Same B B' → i ≤ xs.length → Pv i B' σ L → Tp K B' L a xs) (h0 : Pv 0 B σ L)
    (hs : ∀ i B' σ L (hi : i < xs.length), Same B B' → Pv i B' σ L → N B' L (fun H => g xs[i] σ H fun σ2 H2 => ts (loE D (KG B' (Pv (i + 1)))) σ2 H2))
    (hd : ∀ B' σ L, Same B B' → Pv xs.length B' σ L → N B' L (D.nx σ)) : N B L (fun H => ILT K (Lp g ts D σ) (.ref a) H) := by
  intro H s
  refine ⟨a, rfl, ⟨xs, hq 0 B σ L (Same.refl _) (Nat.zero_le _) h0 H s⟩, ?_⟩
  refine lp_coreB (J := Itt K a) xs.length (fun i => xs.getD i .non) Pv (fun i B' σ L H sm p hi s => ⟨xs, xs[i], hq i B' σ L sm (Nat.le_of_lt hi) p H s, List.getElem?_eq_getElem hi⟩) (fun B' σ L H sm p s => ⟨xs, hq _ B' σ L sm (Nat.le_refl _) p H s, Nat.le_refl _⟩) ?_ h0 ?_ hd H s
  · rintro i B' σ L H x H' sm p hi s ⟨e, hx⟩
    have := hx xs (hq i B' σ L sm (Nat.le_of_lt hi) p H s)
    refine ⟨e, ?_⟩
    rw [List.getElem?_eq_getElem hi] at this
    show x = xs.getD i .non
    rw [List.getD_eq_getElem?_getD, List.getElem?_eq_getElem hi]
    exact (Option.some.inj this).symm
  · intro i B' σ L sm hi p
    have e : xs.getD i .non = xs[i] := by rw [List.getD_eq_getElem?_getD, List.getElem?_eq_getElem hi]; rfl
    show N B' L (fun H => g (xs.getD i .non) σ H _)
    rw [e]
    exact hs i B' σ L hi sm p
theorem n_lpLiB (ns : List Int) (Pv : Nat → Hp → St → Own → Prop) (hq : ∀ i B' σ L, Same B B' → i ≤ ns.length → Pv i B' σ L → Sq K B' L a (ns.map V.int)) (h0 : Pv 0 B σ L)
    (hs : ∀ i B' σ L (hi : i < ns.length), Same B B' → Pv i B' σ L → N B' L (fun H => g (.int ns[i]) σ H fun σ2 H2 => ts (loE D (KG B' (Pv (i + 1)))) σ2 H2))
    (hd : ∀ B' σ L, Same B B' → Pv ns.length B' σ L → N B' L (D.nx σ)) : N B L (fun H => IL K (Lp g ts D σ) (.ref a) H) := by
  have e : (ns.map V.int).length = ns.length := List.length_map _
  refine n_lpLB (ns.map V.int) Pv (fun i B' σ L sm h p => hq i B' σ L sm (by omega) p) h0 (fun i B' σ L h sm p => ?_) (fun B' σ L sm p => hd B' σ L sm (by rw [← e]; exact p))
  have q := hs i B' σ L (by omega) sm p
  rw [List.getElem_map]
  exact q
theorem n_lpRB {n : Nat} (Pv : Nat → Hp → St → Own → Prop) (h0 : Pv 0 B σ L)
    (hs : ∀ i B' σ L, Same B B' → i < n → Pv i B' σ L → N B' L (fun H => g (.int (lo + i)) σ H fun σ2 H2 => ts (loE D (KG B' (Pv (i + 1)))) σ2 H2))
    (hd : ∀ B' σ L, Same B B' → Pv n B' σ L → N B' L (D.nx σ)) : N B L (fun H => Lp g ts D σ (Itr lo n) H) :=
  lp_coreB (J := Itr lo n) n (fun i => .int (lo + i)) Pv (fun i B' σ L H sm p hi s => hi) (fun B' σ L H sm p s => Nat.le_refl _) (fun i B' σ L H x H' sm p hi s h => h) h0 hs hd
theorem n_lpR1B (Pv : Nat → Hp → St → Own → Prop) (hb : -(2 ^ 62) ≤ j ∧ j < 2 ^ 62) (h0 : Pv 0 B σ L)
    (hs : ∀ (i : Nat) B' σ L, Same B B' → (i : Int) < j → Pv i B' σ L → N B' L (fun H => g (.int i) σ H fun σ2 H2 => ts (loE D (KG B' (Pv (i + 1)))) σ2 H2))
    (hd : ∀ B' σ L, Same B B' → Pv j.toNat B' σ L → N B' L (D.nx σ)) : N B L (fun H => IR1 (Lp g ts D σ) [.int j] H) := fun H s => ⟨j, rfl, hb.1, hb.2,
  n_lpRB (lo := 0) (n := j.toNat) Pv h0 (fun i B' σ L sm hi p => by rw [Int.zero_add]; exact hs i B' σ L sm (by omega) p) hd H s⟩
theorem n_lpR2B {i0 : Int} (Pv : Nat → Hp → St → Own → Prop) (hb : -(2 ^ 62) ≤ i0 ∧ i0 < 2 ^ 62 ∧ -(2 ^ 62) ≤ j ∧ j < 2 ^ 62) (h0 : Pv 0 B σ L)
    (hs : ∀ (n : Nat) B' σ L, Same B B' → i0 + (n : Int) < j → Pv n B' σ L → N B' L (fun H => g (.int (i0 + n)) σ H fun σ2 H2 => ts (loE D (KG B' (Pv (n + 1)))) σ2 H2))
    (hd : ∀ B' σ L, Same B B' → Pv (j - i0).toNat B' σ L → N B' L (D.nx σ)) : N B L (fun H => IR2 (Lp g ts D σ) [.int i0, .int j] H) := fun H s => ⟨i0, j, rfl, hb,
  n_lpRB (lo := i0) (n := (j - i0).toNat) Pv h0 (fun n B' σ L sm hi p => hs n B' σ L sm (by omega) p) hd H s⟩
theorem n_lpEB {n m : Nat} (xs : List V) (Pv : Nat → Hp → St → Own → Prop) (hq : ∀ i B' σ L, Same B B' → i ≤ xs.length → Pv i B' σ L → Sq K B' L a xs) (h0 : Pv 0 B σ L)
    (hs : ∀ (i : Nat) B' σ L (hi : i < xs.length), Same B B' → Pv i B' σ L → N B' L (fun H => ts (loE D (KG B' (Pv (i + 1)))) ((σ.set n (some (.int i))).set m (some xs[i])) H))
    (hd : ∀ B' σ L, Same B B' → Pv xs.length B' σ L → N B' L (D.nx σ)) : N B L (fun H => IE K (Lp (gTup K 2 (gCons (gName n) (gCons (gName m) gNil))) ts D σ) [.ref a] H) := by
  intro H s
  refine ⟨a, xs, rfl, hq 0 B σ L (Same.refl _) (Nat.zero_le _) h0 H s, ?_⟩
  refine ⟨fun i m σ H => m = xs.length - i ∧ i ≤ xs.length ∧ ∃ B' L, Same B B' ∧ SI B' L H ∧ Pv i B' σ L, ⟨xs.length, by omega, Nat.zero_le _, B, L, (Same.refl _), s, h0⟩, ?_⟩
  rintro i m' σ H ⟨rfl, hi, B', L, sm, s, p⟩
  have hsq := hq i B' σ L sm hi p H s
  by_cases hlt : i < xs.length
  · refine .inr ⟨⟨xs, xs[i], hsq, List.getElem?_eq_getElem hlt⟩, KG B' (Pv (i + 1)), fun σ' H' ⟨B2, L', sm2, s', p'⟩ => ⟨xs.length - (i + 1), by omega, rfl, hlt, B2, L', sm.trans sm2, s', p'⟩, fun v H' hx => ?_⟩
    obtain ⟨T, x, rfl, nT, rfl, hx⟩ := hx
    have := hx xs hsq
    rw [List.getElem?_eq_getElem hlt] at this
    cases this
    have s2 : SI B' ((T, .tup [.int i, xs[i]]) :: L) (upd H T (.tup [.int i, xs[i]])) := s.new nT
    refine ⟨T, [.int i, xs[i]], rfl, SqT.of upd_same, rfl, _, _, rfl, _, _, rfl, rfl, ?_⟩
    exact n_sub (L' := L) (List.sublist_cons_self _ _) (hs i B' σ L hlt sm p) _ s2
  · have e : i = xs.length := by omega
    subst e
    exact .inl ⟨⟨xs, hsq, Nat.le_refl _⟩, hd B' σ L sm p H s⟩
theorem n_wkB {Pv : Nat → Hp → St → Own → Prop} {m : Nat} (q : N B L (fun H => ts (loE D (KGW B Pv m)) σ H)) : N B L (fun H => ∃ N : St → Hp → Prop, (∀ σ' H', N σ' H' → ∃ m', m' < m ∧ KG B (Pv m') σ' H') ∧ ts { D with nx := N, ct := N, bk := D.nx } σ H) :=
  fun H s => ⟨KGW B Pv m, fun σ' H' ⟨B', m', L', sm, lt, s', p⟩ => ⟨m', lt, B', L', sm, s', p⟩, q H s⟩
def WKB (B : Hp) (Pv : Nat → Hp → St → Own → Prop) (m : Nat) (tb : TS) (D : Ends) (σ : St) (H1 : Hp) : Prop := ∃ N : St → Hp → Prop, (∀ σ' H', N σ' H' → ∃ m', m' < m ∧ KG B (Pv m') σ' H') ∧ tb { D with nx := N, ct := N, bk := D.nx } σ H1
theorem n_wkG {B2 : Hp} {Pv : Nat → Hp → St → Own → Prop} {m : Nat} (sm : Same B B2) (q : N B2 L (fun H => ts (loE D (KGW B Pv m)) σ H)) : N B2 L (fun H => WKB B Pv m ts D σ H) :=
  fun H s => ⟨KGW B Pv m, fun σ' H' ⟨B', m', L', sm, lt, s', p⟩ => ⟨m', lt, B', L', sm, s', p⟩, q H s⟩
theorem n_whileB (Pv : Nat → Hp → St → Own → Prop) (m0 : Nat) (h0 : Pv m0 B σ L)
    (hs : ∀ m B' σ L, Same B B' → Pv m B' σ L → N B' L (fun H => t σ H fun b H1 => if b = true then WKB B Pv m ts (onE D (tz D)) σ H1 else tz D σ H1)) : N B L (fun H => tSeq (tWhile t ts) tz D σ H) := by
  intro H s
  refine ⟨fun m σ H => KG B (Pv m) σ H, ⟨m0, B, L, (Same.refl _), s, h0⟩, ?_⟩
  rintro m σ H ⟨B', L, sm, s, p⟩
  exact hs m B' σ L sm p H s
theorem n_cutB {D : Ends} (M : Hp → St → Own → Prop) (h : N B L (fun H => tSeq ts tNext (onE D (KG B M)) σ H)) (q : ∀ B' σ' L', Same B B' → M B' σ' L' → N B' L' (fun H => tz D σ' H)) : N B L (fun H => Evl.tCut ts tz D σ H) :=
  fun H s => ⟨KG B M, h H s, fun σ' H' ⟨B', L', sm, s', m⟩ => q B' σ' L' sm m H' s'⟩
end
/-! ### calls, whatever is raised -/
def tCl (sp : Sp) (E : St → XK) (t : TA) : TE := fun σ H Q => t σ H fun vs H1 => sp vs H1 Q (E σ)
def MtK (C : Addr) (m : Str) (sp : Sp) (E : St → XK) (t : TA) (σ : St) (Q : VK) (x : V) (H1 : Hp) : Prop := ∃ a dx fs, x = .ref a ∧ H1 a = some (.ins C dx fs) ∧ fs.lookup m = none ∧ t σ H1 fun vs H2 => sp (x :: vs) H2 Q (E σ)
def tMt (C : Addr) (m : Str) (sp : Sp) (E : St → XK) (ta : TE) (t : TA) : TE := fun σ H Q => ta σ H (MtK C m sp E t σ Q)
def MkK (C : Addr) (sp : Sp) (E : XK) (Q : VK) (vs : List V) (H1 : Hp) : Prop := ∀ x dx, H1 x = none → H1 dx = none → dx ≠ x →
  sp (.ref x :: vs) (upd (upd H1 dx (.own x)) x (.ins C dx [])) (fun v H2 => v = .non ∧ Q (.ref x) H2) E
def tMkk (C : Addr) (sp : Sp) (E : St → XK) (t : TA) : TE := fun σ H Q => t σ H (MkK C sp (E σ) Q)
structure OkC (P : Program) (w : World) (K : PySem.W.Frag) (mg : Str → Option Value) (base : Heap) (CX : CXT) (k : Nat) (x : Str) (ps : List Str) (sp : Sp) : Prop where
  ex : ∃ f fd, FnOk P w K mg base CX k f fd ps sp ∧ mg x = some (.ref f) ∧ PySem.W.keepIn K (.ref f) = true ∧ Binds K fd ps []
structure OkM (P : Program) (w : World) (K : PySem.W.Frag) (mg : Str → Option Value) (base : Heap) (CX : CXT) (k : Nat) (C : Addr) (m : Str) (ps : List Str) (sp : Sp) : Prop where
  ex : ∃ f fd, FnOk P w K mg base CX k f fd ps sp ∧ Meth K C m f ∧ Binds K fd ps []
  cl : Cls K C
structure OkI (P : Program) (w : World) (K : PySem.W.Frag) (mg : Str → Option Value) (base : Heap) (CX : CXT) (k : Nat) (x : Str) (C : Addr) (ps : List Str) (sp : Sp) : Prop where
  ex : ∃ f fd, FnOk P w K mg base CX k f fd ps sp ∧ Mk K C f ∧ mg x = some (.ref C) ∧ Binds K fd ps []
section
variable {X : Cx} {CX : CXT} {k : Nat} {x m : Str} {ps : List Str} {sp : Sp} {p pos apos : Pos} {e o : Expr} {es : List Expr} {t : TA} {ta : TE} {E : St → XK} {C f : Addr} {fd : FuncData}
theorem run_make' {pins : List (Addr × Obj)} {σ : St} {H : Hp} {s : Shared} {Q : VK} {us : List Value} {vs : List V} (M : Mk X.K C f) (F : FnOk X.prog X.w X.K X.mg X.base CX k f fd ps sp) (hr : Room (k + 1) X.A) (hb : Binds X.K fd ps [])
    (hx : PassesAt CX X σ (E σ)) (I : Inv X pins σ H s) (r : Vals vs us) (h : MkK C sp (E σ) Q vs H) : wpAny (model X.prog X.w) X.A (call (.ref C) us) (EP X pins σ Q) X.xe s := by
  have hq := h (s.heap.objs.size + 1) s.heap.objs.size (I.hok.fresh (Nat.le_succ _)) (I.hok.fresh (Nat.le_refl _)) (Nat.ne_of_lt (Nat.lt_succ_self _))
  have I2 := Inv.made (C := C) I
  have r2 : Vals (V.ref (s.heap.objs.size + 1) :: vs) (Value.ref (s.heap.objs.size + 1) :: us) := .cons rfl r
  have hl : (Value.ref (s.heap.objs.size + 1) :: us).length = ps.length := by rw [← r2.length]; exact F.len _ _ _ _ hq
  have b := hb _ (Value.ref (s.heap.objs.size + 1) :: us) I2.kIn (by rw [List.append_nil]; exact hl)
  rw [List.append_nil] at b
  refine wpAny_call (make_map (f := f) I.kIn M.makes M.init (beq_iff_eq.mp M.fn) (codeAny_mono (F.run _ X.stack _ _ ⟨Value.ref (s.heap.objs.size + 1) :: us, []⟩ (Value.ref (s.heap.objs.size + 1) :: us) _ _ (E σ) (hr.make C us [])
    (I2.env0.make C us []) b r2 hq) fun r s' hq' => ?_))
  cases r with
  | error e => exact hx pins _ _ e s' I2 hq'
  | ok fl =>
    cases fl with
    | ret u =>
      obtain ⟨v, H', I3, rv, ev, q3⟩ := I2.after hq'
      subst ev
      exact ⟨rv, ⟨V.ref (s.heap.objs.size + 1), H', I3, rfl, q3⟩⟩
    | next => exact False.elim hq'
    | brk => exact False.elim hq'
    | cont => exact False.elim hq'
theorem pe_cl (O : OkC X.prog X.w X.K X.mg X.base CX k x ps sp) (hr : Room k X.A) (hg : Gl X x) (hx : ∀ σ, PassesAt CX X σ (E σ)) (ha : PA X (e :: es) t) (hdb : (x == ("__debug__" : Str)) = false := by decide)
    (he : starEach (e :: es) X.env = (false, eval e X.env) :: starEach es X.env := by rfl) (hpl : (backTo pos (starEach es X.env)).any (·.1) = false := by rfl) : PE X (.Call (.Name x p) (e :: es) [] pos) (tCl sp E t) := by
  obtain ⟨f, fd, F, g, kp, b⟩ := O.ex
  exact pe_callS F hr hg g kp b hx ha hdb he hpl
theorem pe_cl0 (O : OkC X.prog X.w X.K X.mg X.base CX k x ps sp) (hr : Room k X.A) (hg : Gl X x) (hx : ∀ σ, PassesAt CX X σ (E σ)) (hdb : (x == ("__debug__" : Str)) = false := by decide) : PE X (.Call (.Name x p) [] [] pos) (tCl sp E tNil) := by
  obtain ⟨f, fd, F, g, kp, b⟩ := O.ex
  refine ⟨fun pins s σ H Q I h => ?_⟩
  refine wpAny_Call_Name_kw (ld_glob I hg g ?_ hdb)
  exact PySem.W.callWith_K0 (first := []) I.kIn kp (run_fnS (us := []) (vs := []) F hr b (hx σ) I .nil h)
theorem pe_mt {pl : Sem Bool} (O : OkM X.prog X.w X.K X.mg X.base CX k C m ps sp) (he : PE X o ta) (hr : Room k X.A) (hx : ∀ σ, PassesAt CX X σ (E σ)) (ha : PA X (e :: es) t)
    (hst : starEach (e :: es) X.env = (false, eval e X.env) :: starEach es X.env := by rfl) (hpl : (backTo pos (starEach es X.env)).any (·.1) = false := by rfl)
    (ht : eval (.Call (.Attribute o m apos) (e :: es) [] pos) X.env = (do
      let ov ← eval o X.env
      standAt apos.atName
      let (f, first) ← holding [ov] (getMethod ov m pl)
      callWith pos f first (backTo pos (starEach (e :: es) X.env)) (backToKw pos (keywordEach [] X.env))) := by rfl) :
    PE X (.Call (.Attribute o m apos) (e :: es) [] pos) (tMt C m sp E ta t) := by
  obtain ⟨f, fd, F, hm, hb⟩ := O.ex
  refine ⟨fun pins s σ H Q I h => ?_⟩
  refine PySem.W.methodCall_KW (pl := pl) (thn (he.run pins s σ H _ I h) fun u s1 ⟨x, H1, I1, rx, a, dx, fs, ex, ea, l, q⟩ => ?_) ht
  subst ex
  obtain rfl : u = Value.ref a := rx
  refine getmeth_ok I1 ea O.cl hm l ?_
  refine PySem.W.callWith_K (first := [.ref a]) (h₀ := X.base) I1.ok.mod.kin hm.kp (thn (ha.run pos pins s1 σ H1 _ I1 q) fun us s2 ⟨vs, H2, I2, r, q2⟩ => ⟨I2.kIn, ?_⟩) hst hpl
  exact run_fnS (us := .ref a :: us) (vs := .ref a :: vs) F hr hb (hx σ) I2 (.cons rfl r) q2
theorem pe_mt0 {pl : Sem Bool} (O : OkM X.prog X.w X.K X.mg X.base CX k C m ps sp) (he : PE X o ta) (hr : Room k X.A) (hx : ∀ σ, PassesAt CX X σ (E σ))
    (ht : eval (.Call (.Attribute o m apos) [] [] pos) X.env = (do
      let ov ← eval o X.env
      standAt apos.atName
      let (f, first) ← holding [ov] (getMethod ov m pl)
      callWith pos f first (backTo pos (starEach [] X.env)) (backToKw pos (keywordEach [] X.env))) := by rfl) :
    PE X (.Call (.Attribute o m apos) [] [] pos) (tMt C m sp E ta tNil) := by
  obtain ⟨f, fd, F, hm, hb⟩ := O.ex
  refine ⟨fun pins s σ H Q I h => ?_⟩
  refine PySem.W.methodCall_KW (pl := pl) (thn (he.run pins s σ H _ I h) fun u s1 ⟨x, H1, I1, rx, a, dx, fs, ex, ea, l, q⟩ => ?_) ht
  subst ex
  obtain rfl : u = Value.ref a := rx
  refine getmeth_ok I1 ea O.cl hm l ?_
  exact PySem.W.callWith_K0 (first := [.ref a]) I1.kIn hm.kp (run_fnS (us := [.ref a]) (vs := [.ref a]) F hr hb (hx σ) I1 (.cons rfl .nil) q)
theorem pe_mkk (O : OkI X.prog X.w X.K X.mg X.base CX k x C ps sp) (hr : Room (k + 1) X.A) (hg : Gl X x) (hx : ∀ σ, PassesAt CX X σ (E σ)) (ha : PA X (e :: es) t) (hdb : (x == ("__debug__" : Str)) = false := by decide)
    (he : starEach (e :: es) X.env = (false, eval e X.env) :: starEach es X.env := by rfl) (hpl : (backTo pos (starEach es X.env)).any (·.1) = false := by rfl) : PE X (.Call (.Name x p) (e :: es) [] pos) (tMkk C sp E t) := by
  obtain ⟨f, fd, F, M, g, b⟩ := O.ex
  refine ⟨fun pins s σ H Q I h => ?_⟩
  refine wpAny_Call_Name_kw (ld_glob I hg g ?_ hdb)
  refine PySem.W.callWith_K (h₀ := X.base) I.ok.mod.kin M.kp (thn (ha.run pos pins s σ H _ I h) fun us s1 ⟨vs, H1, I1, r, q⟩ => ⟨I1.kIn, ?_⟩) he hpl
  exact run_make' M F hr b (hx σ) I1 r q
theorem pe_mkk0 (O : OkI X.prog X.w X.K X.mg X.base CX k x C ps sp) (hr : Room (k + 1) X.A) (hg : Gl X x) (hx : ∀ σ, PassesAt CX X σ (E σ)) (hdb : (x == ("__debug__" : Str)) = false := by decide) : PE X (.Call (.Name x p) [] [] pos) (tMkk C sp E tNil) := by
  obtain ⟨f, fd, F, M, g, b⟩ := O.ex
  refine ⟨fun pins s σ H Q I h => ?_⟩
  refine wpAny_Call_Name_kw (ld_glob I hg g ?_ hdb)
  exact PySem.W.callWith_K0 (first := []) I.kIn M.kp (run_make' (us := []) (vs := []) M F hr b (hx σ) I .nil h)
/-! what is let out -/
abbrev W0 : WX := fun _ _ _ _ => False
abbrev CXN := L2N.CX
theorem tk0 : L2N.Takes X W0 := fun _ _ x => by
  obtain ⟨_, _, _, _, _, _, _, _, _, _, _, _, _, _, _, _, z⟩ := x
  exact z.elim
theorem pass00 {W : WX} : ∀ σ, PassesAt CX0 X σ (WE W σ) := fun _ _ _ _ _ _ _ h => h.elim
theorem passN {W : WX} (tk : L2N.Takes X W) : ∀ σ, PassesAt (CXN X.prog X.w) X σ (WE W σ) := fun σ => L2N.passAt tk σ
end
section
variable {P : Program} {w : World} {K : PySem.W.Frag} {mg : Str → Option Value} {base : Heap}
theorem okN {x qual : Str} {st : Stmt} {f : Addr} {fd : FuncData} {N ps : List Str} {k : Nat} {sp : Sp} (F : Fun K x qual st f fd) (S : FnScope N ps (defScope st)) (len : ∀ vs H Q E, sp vs H Q E → vs.length = ps.length)
    (hbody : ∀ (cdv : Value) (A : Around) (outer : List Env) (s : Shared) (H : Hp) (vs : List V) (Q : VK) (E : XK), Room k (A.deeper (envOfC qual (defScope st) s.heap.objs.size f cdv)) → sp vs H Q E →
      ∃ t, PSs (cxOf (CXN P w) P w K mg base N qual (defScope st) f cdv A outer s H E) (defBody st) t ∧ t { nx := fun _ H' => Q .non H', rt := Q } (start N vs) H) : FnOk P w K mg base (CXN P w) (k + 1) f fd ps sp := by
  obtain ⟨oc, od, kV, doc, pm, an, cdv, ct, osl, rfl, lk, hcd⟩ := F.ex
  exact fn_of lk hcd S len fun A outer s H vs Q E hr hsp => hbody cdv A outer s H vs Q E hr hsp
end
/-! readings -/
def tRs (C : Addr) (W : WX) : TS := fun _ σ H => W (.ref C) none σ H
section
variable {K : PySem.W.Frag} {B : Hp} {L : Own} {Q : VK} {σ : St} {ta te to : TE} {t : TA} {sp : Sp} {E : St → XK} {C a : Addr} {m f : Str} {v y : V} {vs : List V} {fs fs' r r' : List (Str × V)} {dx : Addr} {D : Ends} {tz : TS} {W : WX} {E' : XK} {g : Str} {k : Hp → Prop} {n : Nat}
theorem n_cl (q : N B L (fun H => t σ H fun vs H1 => sp vs H1 Q (E σ))) : N B L (fun H => tCl sp E t σ H Q) := q
theorem n_mt (q : N B L (fun H => ta σ H (MtK C m sp E t σ Q))) : N B L (fun H => tMt C m sp E ta t σ H Q) := q
theorem n_mtK (h : Is B L a (.ins C dx fs)) (l : fs.lookup m = none) (q : N B L (fun H => t σ H fun vs H2 => sp (.ref a :: vs) H2 Q (E σ))) : N B L (fun H => MtK C m sp E t σ Q (.ref a) H) :=
  fun H s => ⟨a, dx, fs, rfl, h H s, l, q H s⟩
theorem n_mkk (q : N B L (fun H => t σ H (MkK C sp (E σ) Q))) : N B L (fun H => tMkk C sp E t σ H Q) := q
theorem n_mkK (q : ∀ x dx, N B ((x, .ins C dx []) :: L) (fun H => sp (.ref x :: vs) H (fun v H2 => v = .non ∧ Q (.ref x) H2) E')) : N B L (fun H => MkK C sp E' Q vs H) := fun H s x dx hx hd ne =>
  q x dx _ (((s.new (o := .own x) hd).new (p := x) (by rw [upd_ne (fun e => ne e.symm)]; exact hx)).sub (.cons₂ _ (.cons _ (.refl _))))
theorem n_nonA {x : V} (q : N B L k) (e : x = .non) : N B L (fun H => x = .non ∧ k H) := fun H s => ⟨e, q H s⟩
theorem n_rs (q : N B L (W (.ref C) none σ)) : N B L (fun H => tSeq (tRs C W) tz D σ H) := q
/-! fields -/
theorem lk_hit : List.lookup f ((f, v) :: r) = some v := by simp [List.lookup]
theorem lk_miss (h : (f == g) = false) : List.lookup f ((g, v) :: r) = List.lookup f r := by simp [List.lookup, h]
theorem lk_nil : List.lookup f ([] : List (Str × V)) = none := rfl
theorem pf_nil : putF f y [] = [(f, y)] := rfl
theorem pf_hit : putF f y ((f, v) :: r) = (f, y) :: r := by
  show (if f = f then _ else _) = _
  rw [if_pos rfl]
theorem pf_miss (h : ¬ g = f) (e : putF f y r = r') : putF f y ((g, v) :: r) = (g, v) :: r' := by
  show (if g = f then _ else _) = _
  rw [if_neg h, e]
def FldK (K : PySem.W.Frag) (f : Str) (Q : VK) (x : V) (H1 : Hp) : Prop := ∃ a C dx fs v, x = .ref a ∧ H1 a = some (.ins C dx fs) ∧ Cls K C ∧ NoAttr K C f ∧ fs.lookup f = some v ∧ Q v H1
theorem n_fld (q : N B L (fun H => ta σ H (FldK K f Q))) : N B L (fun H => tFld K ta f σ H Q) := q
theorem n_fldK (h : Is B L a (.ins C dx fs)) (c : Cls K C) (na : NoAttr K C f) (l : fs.lookup f = some v) (q : N B L (Q v)) : N B L (fun H => FldK K f Q (.ref a) H) := fun H s => ⟨a, C, dx, fs, v, rfl, h H s, c, na, l, q H s⟩
def SfK (K : PySem.W.Frag) (f : Str) (y : V) (k : Hp → Prop) (x : V) (H2 : Hp) : Prop := ∃ a C dx fs, x = .ref a ∧ H2 a = some (.ins C dx fs) ∧ Cls K C ∧ NoAttr K C f ∧ fs.length < 1000 ∧ k (upd H2 a (.ins C dx (putF f y fs)))
theorem n_asgF (q : N B L (fun H => te σ H fun y H1 => ta σ H1 (SfK K f y (tz D σ)))) : N B L (fun H => tSeq (sFld K ta te f) tz D σ H) := q
theorem n_sfK (hi : L[n]? = some (a, .ins C dx fs)) (c : Cls K C) (na : NoAttr K C f) (hl : fs.length < 1000) (e : putF f y fs = fs') (q : N B (L.set n (a, .ins C dx fs')) k) : N B L (fun H => SfK K f y k (.ref a) H) := fun H s =>
  ⟨a, C, dx, fs, rfl, s.at hi, c, na, hl, by rw [e]; exact q _ (s.set hi)⟩
def Fa2 (C a : Addr) (f : Str) (k : Hp → Prop) (z : V) (H3 : Hp) : Prop := ∃ dx' fs', H3 a = some (.ins C dx' fs') ∧ fs'.length < 1000 ∧ k (upd H3 a (.ins C dx' (putF f z fs')))
def FaK (K : PySem.W.Frag) (f : Str) (te : TE) (rd : V → V → Hp → VK → Prop) (σ : St) (k : Hp → Prop) (x : V) (H1 : Hp) : Prop := ∃ a C dx fs v, x = .ref a ∧ H1 a = some (.ins C dx fs) ∧ Cls K C ∧ NoAttr K C f ∧ fs.lookup f = some v ∧ te σ H1 fun y H2 => rd v y H2 (Fa2 C a f k)
theorem n_asgFa {rd : V → V → Hp → VK → Prop} (q : N B L (fun H => ta σ H (FaK K f te rd σ (tz D σ)))) : N B L (fun H => tSeq (sFldAug K ta te rd f) tz D σ H) := q
theorem n_faK {rd : V → V → Hp → VK → Prop} (h : Is B L a (.ins C dx fs)) (c : Cls K C) (na : NoAttr K C f) (l : fs.lookup f = some v) (q : N B L (fun H => te σ H fun y H2 => rd v y H2 (Fa2 C a f k))) : N B L (fun H => FaK K f te rd σ k (.ref a) H) :=
  fun H s => ⟨a, C, dx, fs, v, rfl, h H s, c, na, l, q H s⟩
theorem n_fa2 (hi : L[n]? = some (a, .ins C dx fs)) (hl : fs.length < 1000) (e : putF f y fs = fs') (q : N B (L.set n (a, .ins C dx fs')) k) : N B L (fun H => Fa2 C a f k y H) := fun H s =>
  ⟨dx, fs, s.at hi, hl, by rw [e]; exact q _ (s.set hi)⟩
end
/-! one object lent -/
section
variable {B : Hp} {L L' : Own} {k : Hp → Prop} {p : Addr} {o o' : HO} {i : Nat}
/-- one object handed in is changed; Ln are new; G the rest -/
abbrev NP (B : Hp) (Ln : Own) (p : Addr) (o : HO) (G : Own) (k : Hp → Prop) : Prop := N B (Ln ++ (p, o) :: G) k
abbrev NQ (B : Hp) (Ln : Own) (p : Addr) (o : HO) (L : Own) (i : Nat) (k : Hp → Prop) : Prop := N B (Ln ++ L.set i (p, o)) k
theorem NP.of {Ln : Own} (hi : L[i]? = some (p, o)) (h : NQ B Ln p o' L i k) : NP B Ln p o' (L.eraseIdx i) k := n_perm (List.Perm.append_left Ln (perm_set (p, o') hi)) h
theorem SI.front {H : Hp} (s : SI B L H) (hi : L[i]? = some (p, o)) : SI B ((p, o) :: L.eraseIdx i) H := s.perm (perm_at hi)
end
end Sk
namespace Sk
open PySem PySem.Spec PyProof.Rows L2
section
variable {B B' : Hp} {L L' : Own} {p a c : Addr} {o : HO} {K : PySem.W.Frag} {xs ys : List V} {os : List HO} {v : V} {k : Hp → Prop} {Q : VK} {σ : St} {D : Ends} {ts : TS} {g : TG} {ns ms : List Int} {i j lo : Int} {n : Nat} {tr : TA}
/-! range with a step -/
def IR3 (R : It → Hp → Prop) (vs : List V) (H1 : Hp) : Prop := ∃ (i j c : Int) (n : Nat), vs = [.int i, .int j, .int c] ∧ RgC i j c n ∧ R (Itc i c n) H1
theorem n_iR3 {R : It → Hp → Prop} (q : N B L (fun H => tr σ H (IR3 R))) : N B L (fun H => iRng3 tr σ H R) := q
theorem rgc_up {c : Int} (hc : 1 ≤ c) (hc2 : c < 1073741824) (h0 : 0 ≤ j) (h1 : j < 2 ^ 61) : RgC 0 j c ((j + c - 1) / c).toNat := by
  have q0 : 0 ≤ (j + c - 1) / c := Int.ediv_nonneg (by omega) (by omega)
  have q1 : (j + c - 1) / c ≤ j + c - 1 := Int.ediv_le_self _ (by omega)
  refine ⟨by omega, by omega, ?_, ?_⟩
  · unfold Builtin.Range.small
    rw [rangeSize_pos hc h0]
    simp only [Builtin.Range.rangeFitsLong, Bool.and_eq_true, Bool.or_eq_true, decide_eq_true_eq, beq_iff_eq, if_pos (show c > 0 by omega)]
    omega
  · rw [rangeSize_pos hc h0]
    omega
theorem n_lpR3 {c : Int} (Pv : Nat → St → Own → Prop) (hc : 1 ≤ c) (hc2 : c < 1073741824) (hj0 : 0 ≤ j) (hj1 : j < 2 ^ 61) (h0 : Pv 0 σ L)
    (hs : ∀ (i : Nat) σ L, (i : Int) < (j + c - 1) / c → Pv i σ L → N B L (fun H => g (.int (i * c)) σ H fun σ2 H2 => ts (loE D (KI B (Pv (i + 1)))) σ2 H2))
    (hd : ∀ σ L, Pv ((j + c - 1) / c).toNat σ L → N B L (D.nx σ)) : N B L (fun H => IR3 (Lp g ts D σ) [.int 0, .int j, .int c] H) := fun H s => ⟨0, j, c, _, rfl, rgc_up hc hc2 hj0 hj1,
  lp_core (J := Itc 0 c _) _ (fun i => .int (0 + (i : Nat) * c)) Pv (fun i σ L H p hi s => hi) (fun σ L H p s => Nat.le_refl _) (fun i σ L H x H' p hi s h => h) h0 (fun i σ L hi p => by
    have hi' : (i : Int) < (j + c - 1) / c := by omega
    rw [Int.zero_add]; exact hs i σ L hi' p) hd H s⟩
theorem n_extendLi {m : Nat} {l c : Addr} (hi : L[m]? = some (l, .lst (ns.map V.int))) (hc : Is B L c (.lst (ms.map V.int))) (hz : ns.length + ms.length ≤ sizeLine) (q : N B (L.set m (l, .lst ((ns ++ ms).map V.int))) (Q .non)) : N B L (fun H => rExtend (.ref l) [.ref c] H Q) :=
  n_extend hi hc (by rw [List.length_map, List.length_map]; exact hz) (by rw [← List.map_append]; exact q)
/-! objects that stand -/
def Objs (B : Hp) (vs : List V) (os : List HO) : Prop := ∃ ps : List Addr, vs = ps.map V.ref ∧ ps.length = os.length ∧ ∀ (i : Nat) p o, ps[i]? = some p → os[i]? = some o → B p = some o
theorem Objs.nil : Objs B [] [] := ⟨[], rfl, rfl, fun i p o h => by simp at h⟩
theorem Objs.mono (s : Same B B') (h : Objs B xs os) : Objs B' xs os := by
  obtain ⟨ps, h1, h2, h3⟩ := h
  exact ⟨ps, h1, h2, fun i p o a b => s _ _ (h3 i p o a b)⟩
theorem Objs.len (h : Objs B xs os) : xs.length = os.length := by
  obtain ⟨ps, rfl, h2, h3⟩ := h
  rw [List.length_map, h2]
theorem Objs.snoc (h : Objs B xs os) (hp : B p = some o) : Objs B (xs ++ [.ref p]) (os ++ [o]) := by
  obtain ⟨ps, rfl, h2, h3⟩ := h
  refine ⟨ps ++ [p], by rw [List.map_append]; rfl, by rw [List.length_append, List.length_append, h2]; rfl, fun i q o' a b => ?_⟩
  rw [List.getElem?_append] at a b
  rw [h2] at a
  split at a
  · rename_i hlt
    rw [if_pos hlt] at b
    exact h3 i q o' a b
  · rename_i hge
    rw [if_neg hge] at b
    have e : i - os.length = 0 := by
      by_cases hz : i - os.length = 0
      · exact hz
      · obtain ⟨m, hm⟩ := Nat.exists_eq_succ_of_ne_zero hz
        rw [hm] at a; simp at a
    rw [e] at a b
    cases a; cases b
    exact hp
theorem Objs.cons (hp : B p = some o) (h : Objs B xs os) : Objs B (.ref p :: xs) (o :: os) := by
  obtain ⟨ps, rfl, h2, h3⟩ := h
  refine ⟨p :: ps, rfl, by rw [List.length_cons, List.length_cons, h2], fun i q o' a b => ?_⟩
  cases i with
  | zero => cases a; cases b; exact hp
  | succ i => exact h3 i q o' a b
theorem Objs.at (h : Objs B xs os) {i : Nat} (hi : i < os.length) : ∃ p, xs[i]? = some (.ref p) ∧ B p = some os[i] := by
  obtain ⟨ps, rfl, h2, h3⟩ := h
  have hi' : i < ps.length := by omega
  exact ⟨ps[i], by rw [List.getElem?_map, List.getElem?_eq_getElem hi']; rfl, h3 i _ _ (List.getElem?_eq_getElem hi') (List.getElem?_eq_getElem hi)⟩
theorem Objs.drop (h : Objs B xs os) (m : Nat) : Objs B (xs.drop m) (os.drop m) := by
  obtain ⟨ps, rfl, h2, h3⟩ := h
  refine ⟨ps.drop m, by rw [List.map_drop], by rw [List.length_drop, List.length_drop, h2], fun i p o a b => ?_⟩
  rw [List.getElem?_drop] at a b
  exact h3 _ p o a b
theorem Objs.take (h : Objs B xs os) (m : Nat) : Objs B (xs.take m) (os.take m) := by
  obtain ⟨ps, rfl, h2, h3⟩ := h
  refine ⟨ps.take m, by rw [List.map_take], by rw [List.length_take, List.length_take, h2], fun i p o a b => ?_⟩
  rw [List.getElem?_take] at a b
  split at a
  · rename_i hlt
    rw [if_pos hlt] at b
    exact h3 _ p o a b
  · cases a
theorem Objs.app {ys : List V} {os' : List HO} (h : Objs B xs os) (h' : Objs B ys os') : Objs B (xs ++ ys) (os ++ os') := by
  obtain ⟨ps, rfl, h2, h3⟩ := h
  obtain ⟨qs, rfl, h4, h5⟩ := h'
  refine ⟨ps ++ qs, by rw [List.map_append], by rw [List.length_append, List.length_append, h2, h4], fun i q o' a b => ?_⟩
  rw [List.getElem?_append] at a b
  rw [h2] at a
  split at a
  · rename_i hlt
    rw [if_pos hlt] at b
    exact h3 i q o' a b
  · rename_i hge
    rw [if_neg hge] at b
    exact h5 _ q o' a b
/-- a list of objects that stand, walked -/
theorem n_lpOB (os : List HO) (Pv : Nat → Hp → St → Own → Prop) (ho : Objs B xs os) (hq : ∀ i B' σ L, Same B B' → i ≤ os.length → Pv i B' σ L → Sq K B' L a xs) (h0 : Pv 0 B σ L)
    (hs : ∀ i B' σ L p (hi : i < os.length), Same B B' → Pv i B' σ L → B' p = some os[i] → N B' L (fun H => g (.ref p) σ H fun σ2 H2 => ts (loE D (KG B' (Pv (i + 1)))) σ2 H2))
    (hd : ∀ B' σ L, Same B B' → Pv os.length B' σ L → N B' L (D.nx σ)) : N B L (fun H => IL K (Lp g ts D σ) (.ref a) H) := by
  have e := ho.len
  refine n_lpLB xs Pv (fun i B' σ L sm h p => hq i B' σ L sm (by omega) p) h0 (fun i B' σ L hi sm p => ?_) (fun B' σ L sm p => hd B' σ L sm (by rw [← e]; exact p))
  obtain ⟨q, e1, e2⟩ := ho.at (i := i) (by omega)
  rw [List.getElem?_eq_getElem hi] at e1
  rw [Option.some.inj e1]
  exact hs i B' σ L q (by omega) sm p (sm _ _ e2)
theorem n_lpOm {α : Type} (f : α → HO) (ds : List α) (Pv : Nat → Hp → St → Own → Prop) (ho : Objs B xs (ds.map f)) (hq : ∀ i B' σ L, Same B B' → i ≤ ds.length → Pv i B' σ L → Sq K B' L a xs) (h0 : Pv 0 B σ L)
    (hs : ∀ i B' σ L p (hi : i < ds.length), Same B B' → Pv i B' σ L → B' p = some (f ds[i]) → N B' L (fun H => g (.ref p) σ H fun σ2 H2 => ts (loE D (KG B' (Pv (i + 1)))) σ2 H2))
    (hd : ∀ B' σ L, Same B B' → Pv ds.length B' σ L → N B' L (D.nx σ)) : N B L (fun H => IL K (Lp g ts D σ) (.ref a) H) := by
  have e : (ds.map f).length = ds.length := List.length_map _
  refine n_lpOB (ds.map f) Pv ho (fun i B' σ L sm h p => hq i B' σ L sm (by omega) p) h0 (fun i B' σ L p hi sm q hp => ?_) (fun B' σ L sm p => hd B' σ L sm (by rw [← e]; exact p))
  rw [List.getElem_map] at hp
  exact hs i B' σ L p (by omega) sm q hp
theorem n_lpEiB {n m : Nat} (ns : List Int) (Pv : Nat → Hp → St → Own → Prop) (hq : ∀ i B' σ L, Same B B' → i ≤ ns.length → Pv i B' σ L → Sq K B' L a (ns.map V.int)) (h0 : Pv 0 B σ L)
    (hs : ∀ (i : Nat) B' σ L (hi : i < ns.length), Same B B' → Pv i B' σ L → N B' L (fun H => ts (loE D (KG B' (Pv (i + 1)))) ((σ.set n (some (.int i))).set m (some (.int ns[i]))) H))
    (hd : ∀ B' σ L, Same B B' → Pv ns.length B' σ L → N B' L (D.nx σ)) : N B L (fun H => IE K (Lp (gTup K 2 (gCons (gName n) (gCons (gName m) gNil))) ts D σ) [.ref a] H) := by
  have e : (ns.map V.int).length = ns.length := List.length_map _
  refine n_lpEB (ns.map V.int) Pv (fun i B' σ L sm h p => hq i B' σ L sm (by omega) p) h0 (fun i B' σ L h sm p => ?_) (fun B' σ L sm p => hd B' σ L sm (by rw [← e]; exact p))
  have q := hs i B' σ L (by omega) sm p
  rw [List.getElem_map]
  exact q
theorem pow2_mono {a b : Nat} (h : a ≤ b) : (2 : Int) ^ a ≤ 2 ^ b := by
  have e1 : ((2 : Int) ^ a) = ((2 ^ a : Nat) : Int) := by push_cast; rfl
  have e2 : ((2 : Int) ^ b) = ((2 ^ b : Nat) : Int) := by push_cast; rfl
  rw [e1, e2]
  exact Int.ofNat_le.mpr (Nat.pow_le_pow_right (by decide) h)
theorem rep_flat (n : Nat) (x : Int) : (List.replicate n [x]).flatten = List.replicate n x := by
  induction n with
  | zero => rfl
  | succ n ih => rw [List.replicate_succ, List.flatten_cons, ih]; rfl
theorem n_tl {x : Addr × HO} (q : N B L k) : N B (x :: L) k := n_sub (List.sublist_cons_self _ _) q
theorem n_appendR {l : Addr} {m : Nat} (hi : L[m]? = some (l, .lst xs)) (hz : xs.length < sizeLine) (q : N B (L.set m (l, .lst (xs ++ [v]))) (Q .non)) : N B L (fun H => rAppend (.ref l) [v] H Q) := n_append hi hz q
end
end Sk
namespace Sk
open PySem PySem.Spec PyProof.Rows L2
/-! ### an exception held -/
def asE (D : Ends) (i : Nat) : Ends := { nx := fun σ' H' => D.nx (σ'.set i none) H', rt := D.rt, bk := fun σ' H' => D.bk (σ'.set i none) H', ct := fun σ' H' => D.ct (σ'.set i none) H' }
theorem asE_nx {D : Ends} {i : Nat} {σ : St} : (asE D i).nx σ = D.nx (σ.set i none) := rfl
theorem asE_rt {D : Ends} {i : Nat} : (asE D i).rt = D.rt := rfl
theorem asE_bk {D : Ends} {i : Nat} {σ : St} : (asE D i).bk σ = D.bk (σ.set i none) := rfl
theorem asE_ct {D : Ends} {i : Nat} {σ : St} : (asE D i).ct σ = D.ct (σ.set i none) := rfl
def tTryAs (K : PySem.W.Frag) (c : Value) (i : Nat) (tb : WX → TS) (ts : Addr → Value → Option Addr → TS) (Wout : WX) : TS := fun D σ H => tb (wAs K c i ts Wout D) D σ H
def tTryOn (K : PySem.W.Frag) (c : Value) (tb : WX → TS) (ts : Addr → Value → Option Addr → TS) (Wout : WX) : TS := fun D σ H => tb (wOnly K c ts Wout D) D σ H
/-- isinstance(e, c) or isinstance(e, (c, ..)), e held at a -/
def rIsX (K : PySem.W.Frag) (a : Addr) (cls : Value) (d : Option Addr) : List V → Hp → VK → Prop := fun xs H Q => ∃ (D : Addr) (c : V), cls = .ref D ∧ d = none ∧ ExcC K D ∧ xs = [.ref a, c] ∧
  ((∃ cv b, (∀ u, RelV c u → u = cv) ∧ PySem.W.kitOne K (.ref D) cv = some b ∧ Q (.bl b) H) ∨ ∃ tp cs us b, c = .ref tp ∧ H tp = some (.tup cs) ∧ Paired ClsV cs us ∧ PySem.W.kitAny K (.ref D) us = some b ∧ Q (.bl b) H)
theorem call_isX {X : Cx} {a : Addr} {oe : Obj} {pn : List (Addr × Obj)} {cls : Value} {d : Option Addr} (hz : Zc cls d oe) (hf : ∃ vs, oe.data = .fields vs) : CallR (X.suite a ((a, oe) :: pn)) (.builtin "isinstance") (rIsX X.K a cls d) := by
  intro pins s σ H xs us Q I r h
  obtain ⟨D, c, rfl, rfl, C, rfl, h⟩ := h
  cases r with
  | cons rx rr =>
    cases rr with
    | cons rt rr =>
      cases rr
      cases rx
      obtain ⟨hget, _⟩ := I.pin (a, oe) (List.mem_append.mpr (.inl List.mem_cons_self))
      obtain ⟨vs, hv⟩ := hf
      have J : PySem.W.InstAt s.heap a oe D none := by
        obtain ⟨oc, od, oda, osl⟩ := oe
        obtain ⟨h1, h2⟩ := hz
        dsimp only at h1 h2 hv
        subst h1 h2 hv
        exact ⟨hget, rfl, rfl, trivial⟩
      rcases h with ⟨cv, b, hcv, e, q⟩ | ⟨tp, cs, us, b, rfl, hT, k, e, q⟩
      · have ec := hcv _ rt
        subst ec
        exact PySem.W.kia_one (PySem.W.handS_kitx_exc C.hg C.hk C.hs C.hd C.ha C.hn C.ht C.hm) I.kIn J e (fun z => nomatch z) fun tk => ⟨.bl b, H, I.kept (t' := tk) fun _ _ z => z, rfl, q⟩
      · cases rt
        obtain ⟨_, its, rv, o, h1, h2, n, h3⟩ := (show ObjOk X.prog X.w H s.heap tp (.tup cs) from I.hok tp _ hT)
        have e3 := ClsV.all k rv
        subst e3
        obtain ⟨oc, od, dt, sl⟩ := o
        simp only at h2 h3
        subst h2 h3
        exact PySem.W.kia_tup (PySem.W.handS_kitx_exc C.hg C.hk C.hs C.hd C.ha C.hn C.ht C.hm) I.kIn J h1 e (fun z => nomatch z) fun tk => ⟨.bl b, H, I.tok tk, rfl, q⟩
section
variable {K : PySem.W.Frag} {B : Hp} {L : Own} {Q : VK} {σ : St} {D : Ends} {tz : TS} {tb : WX → TS} {ts : Addr → Value → Option Addr → TS} {W : WX} {c cls : Value} {d : Option Addr} {i : Nat} {a C tp : Addr} {b : Bool} {cs : List V} {us : List Value}
theorem n_tryAs (q : N B L (fun H => tb (wAs K c i ts W (onE D (tz D))) (onE D (tz D)) σ H)) : N B L (fun H => tSeq (tTryAs K c i tb ts W) tz D σ H) := q
theorem n_tryOn (q : N B L (fun H => tb (wOnly K c ts W (onE D (tz D))) (onE D (tz D)) σ H)) : N B L (fun H => tSeq (tTryOn K c tb ts W) tz D σ H) := q
theorem n_wAs (em : PySem.W.exmOne K cls c = some true) (q : ∀ a, N B L (fun H => ts a cls d (asE D i) (σ.set i (some (.ref a))) H)) : N B L (fun H => wAs K c i ts W D cls d σ H) := fun H s => ⟨true, em, fun _ a _ => q a H s, fun h => nomatch h⟩
theorem n_wOn (em : PySem.W.exmOne K cls c = some true) (q : ∀ a, N B L (fun H => ts a cls d D σ H)) : N B L (fun H => wOnly K c ts W D cls d σ H) := fun H s => ⟨true, em, fun _ a _ => q a H s, fun h => nomatch h⟩
theorem n_isX1 {D : Addr} (X : ExcC K D) (h : PySem.W.kitOne K (.ref D) (.ref C) = some b) (q : N B L (Q (.bl b))) : N B L (fun H => rIsX K a (.ref D) none [.ref a, .ref C] H Q) := fun H s => ⟨D, _, rfl, rfl, X, rfl, .inl ⟨_, b, fun _ r => r, h, q H s⟩⟩
theorem n_isX2 {D : Addr} {T : String} (X : ExcC K D) (h : PySem.W.kitOne K (.ref D) (.type T) = some b) (q : N B L (Q (.bl b))) : N B L (fun H => rIsX K a (.ref D) none [.ref a, .ty T] H Q) := fun H s => ⟨D, _, rfl, rfl, X, rfl, .inl ⟨_, b, fun _ r => r, h, q H s⟩⟩
theorem n_isXT {D : Addr} (X : ExcC K D) (ht : Is B L tp (.tup cs)) (hp : Paired ClsV cs us) (h : PySem.W.kitAny K (.ref D) us = some b) (q : N B L (Q (.bl b))) : N B L (fun H => rIsX K a (.ref D) none [.ref a, .ref tp] H Q) :=
  fun H s => ⟨D, _, rfl, rfl, X, rfl, .inr ⟨tp, cs, us, b, rfl, ht H s, hp, h, q H s⟩⟩
end
def uMax2 : List V → Hp → VK → Prop := fun xs H Q => ∃ i j, xs = [.int i, .int j] ∧ Q (.int (if j > i then j else i)) H
def uMin2 : List V → Hp → VK → Prop := fun xs H Q => ∃ i j, xs = [.int i, .int j] ∧ Q (.int (if j < i then j else i)) H
def uAbs : List V → Hp → VK → Prop := fun xs H Q => ∃ i, xs = [.int i] ∧ Q (.int (if i < 0 then -i else i)) H
def uInt : List V → Hp → VK → Prop := fun xs H Q => ((∃ i, xs = [.int i] ∧ Q (.int i) H) ∨ ∃ k, xs = [.bl k] ∧ Q (.int (if k then 1 else 0)) H) ∨ ∃ a n, xs = [.str a] ∧ PySem.intText? a = some n ∧ a.length ≤ 640 ∧ Q (.int n) H
theorem call_uInt {X : Cx} : CallR X (.type "int") uInt := call_int1.or call_int_str
section
variable {K : PySem.W.Frag} {B : Hp} {L : Own} {Q : VK} {i j : Int} {b : Bool}
theorem n_max2 (q : N B L (Q (.int (max i j)))) : N B L (fun H => uMax2 [.int i, .int j] H Q) := fun H s => ⟨i, j, rfl, by
  have e : (if j > i then j else i) = max i j := by omega
  rw [e]; exact q H s⟩
theorem n_min2 (q : N B L (Q (.int (min i j)))) : N B L (fun H => uMin2 [.int i, .int j] H Q) := fun H s => ⟨i, j, rfl, by
  have e : (if j < i then j else i) = min i j := by omega
  rw [e]; exact q H s⟩
theorem n_intI (q : N B L (Q (.int i))) : N B L (fun H => uInt [.int i] H Q) := fun H s => .inl (.inl ⟨i, rfl, q H s⟩)
theorem n_intB (q : N B L (Q (.int (if b then 1 else 0)))) : N B L (fun H => uInt [.bl b] H Q) := fun H s => .inl (.inr ⟨b, rfl, q H s⟩)
end
section
variable {K : PySem.W.Frag} {B : Hp} {L : Own} {Q : VK} {s1 s2 : Str} {v : V} {p : Addr} {xs : List V} {ds : List PyData}
theorem n_eqSt (h : s1 = s2) (q : N B L (Q (.bl true))) : N B L (fun H => uEq K (.str s1) (.str s2) H Q) := n_eqS (by rw [decide_eq_true h]; exact q)
theorem n_eqSf (h : ¬ s1 = s2) (q : N B L (Q (.bl false))) : N B L (fun H => uEq K (.str s1) (.str s2) H Q) := n_eqS (by rw [decide_eq_false h]; exact q)
theorem n_neSt (h : ¬ s1 = s2) (q : N B L (Q (.bl true))) : N B L (fun H => uNe K (.str s1) (.str s2) H Q) := n_neS (by rw [decide_eq_false h]; exact q)
theorem n_neSf (h : s1 = s2) (q : N B L (Q (.bl false))) : N B L (fun H => uNe K (.str s1) (.str s2) H Q) := n_neS (by rw [decide_eq_true h]; exact q)
def DaA (K : PySem.W.Frag) (B : Hp) (L : Own) (xs : List V) (ds : List PyData) : Prop := ∀ H, SI B L H → DpAll K H xs ds
theorem da_str : Da K B L (.str s1) (.str s1) := fun _ _ => .str s1
theorem da_bl {b : Bool} : Da K B L (.bl b) (.bool b) := fun _ _ => .bl b
theorem da_non : Da K B L .non .none := fun _ _ => .non
theorem da_tup (h : Tp K B L p xs) (a : DaA K B L xs ds) : Da K B L (.ref p) (.tuple ds) := fun H s => .tup (h H s) (a H s)
theorem da_lst (h : Sq K B L p xs) (a : DaA K B L xs ds) : Da K B L (.ref p) (.list ds) := fun H s => .lst (h H s) (a H s)
theorem daA_nil : DaA K B L [] [] := fun _ _ => .nil
theorem daA_cons {d : PyData} (h : Da K B L v d) (a : DaA K B L xs ds) : DaA K B L (v :: xs) (d :: ds) := fun H s => .cons (h H s) (a H s)
theorem getD_all {α : Type} {P : α → Prop} {l : List α} {i : Nat} {z : α} (h : ∀ x ∈ l, P x) (h0 : P z) : P (l.getD i z) := by
  rw [List.getD_eq_getElem?_getD]
  by_cases hi : i < l.length
  · rw [List.getElem?_eq_getElem hi]; exact h _ (List.getElem_mem hi)
  · rw [List.getElem?_eq_none (by omega)]; exact h0
end
theorem n_lenLi {K : PySem.W.Frag} {B : Hp} {L : Own} {Q : VK} {a : Addr} {ns : List Int} (h : Sq K B L a (ns.map V.int)) (q : N B L (Q (.int ns.length))) : N B L (fun H => uLen K [.ref a] H Q) := n_len h (by rw [List.length_map]; exact q)
theorem n_front {B : Hp} {L : Own} {k : Hp → Prop} {x : Addr × HO} (i : Nat) (hi : L[i]? = some x) (q : N B (x :: L.eraseIdx i) k) : N B L k := n_perm (perm_at hi) q
end Sk
namespace Sk
open PySem PySem.Spec PyProof.Rows L2
/-! ### lists side by side -/
def All2 {α β : Type} (R : α → β → Prop) (xs : List α) (ys : List β) : Prop := xs.length = ys.length ∧ ∀ (i : Nat) x y, xs[i]? = some x → ys[i]? = some y → R x y
section
variable {α β : Type} {R R' : α → β → Prop} {xs xs' : List α} {ys ys' : List β} {x : α} {y : β}
theorem All2.nil : All2 R [] [] := ⟨rfl, fun i x y h => by simp at h⟩
theorem All2.imp (f : ∀ x y, R x y → R' x y) (h : All2 R xs ys) : All2 R' xs ys := ⟨h.1, fun i x y a b => f _ _ (h.2 i x y a b)⟩
theorem All2.len (h : All2 R xs ys) : xs.length = ys.length := h.1
theorem All2.cons (hp : R x y) (h : All2 R xs ys) : All2 R (x :: xs) (y :: ys) := by
  refine ⟨by rw [List.length_cons, List.length_cons, h.1], fun i a b e f => ?_⟩
  cases i with
  | zero => cases e; cases f; exact hp
  | succ i => exact h.2 i a b e f
theorem All2.app (h : All2 R xs ys) (h' : All2 R xs' ys') : All2 R (xs ++ xs') (ys ++ ys') := by
  refine ⟨by rw [List.length_append, List.length_append, h.1, h'.1], fun i a b e f => ?_⟩
  rw [List.getElem?_append] at e f
  rw [h.1] at e
  split at e
  · rename_i hlt
    rw [if_pos hlt] at f
    exact h.2 i a b e f
  · rename_i hge
    rw [if_neg hge] at f
    exact h'.2 _ a b e f
theorem All2.snoc (h : All2 R xs ys) (hp : R x y) : All2 R (xs ++ [x]) (ys ++ [y]) := h.app (.cons hp .nil)
theorem All2.at (h : All2 R xs ys) {i : Nat} (hi : i < ys.length) : ∃ x, xs[i]? = some x ∧ R x ys[i] := by
  have hi' : i < xs.length := by rw [h.1]; exact hi
  exact ⟨xs[i], List.getElem?_eq_getElem hi', h.2 i _ _ (List.getElem?_eq_getElem hi') (List.getElem?_eq_getElem hi)⟩
theorem All2.drop (h : All2 R xs ys) (m : Nat) : All2 R (xs.drop m) (ys.drop m) := by
  refine ⟨by rw [List.length_drop, List.length_drop, h.1], fun i a b e f => ?_⟩
  rw [List.getElem?_drop] at e f
  exact h.2 _ a b e f
theorem All2.take (h : All2 R xs ys) (m : Nat) : All2 R (xs.take m) (ys.take m) := by
  refine ⟨by rw [List.length_take, List.length_take, h.1], fun i a b e f => ?_⟩
  rw [List.getElem?_take] at e f
  split at e
  · rename_i hlt
    rw [if_pos hlt] at f
    exact h.2 _ a b e f
  · cases e
theorem All2.map {γ : Type} {S : α → γ → Prop} (f : β → γ) (g : ∀ x y, R x y → S x (f y)) (h : All2 R xs ys) : All2 S xs (ys.map f) := by
  refine ⟨by rw [List.length_map, h.1], fun i a b e1 e2 => ?_⟩
  rw [List.getElem?_map] at e2
  cases e3 : ys[i]? with
  | none => rw [e3] at e2; cases e2
  | some y => rw [e3] at e2; cases e2; exact g _ _ (h.2 i a y e1 e3)
end
section
variable {B B' : Hp} {L L' : Own} {p a c : Addr} {o : HO} {K : PySem.W.Frag} {xs ys : List V} {v : V} {k : Hp → Prop} {Q : VK} {σ : St} {D : Ends} {ts : TS} {g : TG} {ns : List Int} {i j : Int} {n : Nat}
/-- a list of values of one kind, walked -/
theorem n_lpA {α : Type} {R : Hp → V → α → Prop} (ds : List α) (Pv : Nat → Hp → St → Own → Prop) (mono : ∀ B B' v d, Same B B' → R B v d → R B' v d) (ho : All2 (R B) xs ds) (hq : ∀ i B' σ L, Same B B' → i ≤ ds.length → Pv i B' σ L → Sq K B' L a xs) (h0 : Pv 0 B σ L)
    (hs : ∀ i B' σ L v (hi : i < ds.length), Same B B' → Pv i B' σ L → R B' v ds[i] → N B' L (fun H => g v σ H fun σ2 H2 => ts (loE D (KG B' (Pv (i + 1)))) σ2 H2))
    (hd : ∀ B' σ L, Same B B' → Pv ds.length B' σ L → N B' L (D.nx σ)) : N B L (fun H => IL K (Lp g ts D σ) (.ref a) H) := by
  have e := ho.len
  refine n_lpLB xs Pv (fun i B' σ L sm h p => hq i B' σ L sm (by omega) p) h0 (fun i B' σ L hi sm p => ?_) (fun B' σ L sm p => hd B' σ L sm (by rw [← e]; exact p))
  obtain ⟨q, e1, e2⟩ := ho.at (i := i) (by omega)
  rw [List.getElem?_eq_getElem hi] at e1
  rw [Option.some.inj e1]
  exact hs i B' σ L q (by omega) sm p (mono _ _ _ _ sm e2)
/-- an item from the end -/
theorem n_ixLiN (hs : Sq K B L a (ns.map V.int)) (h0 : 0 < j) (h1 : j ≤ ns.length) (q : N B L (Q (.int (ns.getD (ns.length - j.toNat) 0)))) : N B L (fun H => rIx K (.ref a) (.int (-j)) H Q) := by
  refine n_ixL hs ?_ q
  unfold atI ixN
  rw [if_neg (by omega), List.length_map, if_pos (by omega)]
  show (ns.map V.int)[(-j + ns.length).toNat]? = _
  rw [show (-j + (ns.length : Int)).toNat = ns.length - j.toNat by omega, List.getElem?_map, List.getD_eq_getElem?_getD, List.getElem?_eq_getElem (show ns.length - j.toNat < ns.length by omega)]
  rfl
end
/-! ### data that is compared -/
def rank : PyData → Nat
  | .list xs | .tuple xs => PyData.depthAll xs + 1
  | _ => 0
mutual
theorem eqv_self : ∀ d : PyData, d.canLay0 = true → PyData.eqv d d = true
  | .none, _ => by simp [PyData.eqv]
  | .bool b, _ => by simp [PyData.eqv]
  | .int i, _ => by simp [PyData.eqv]
  | .str x, _ => by simp [PyData.eqv]
  | .list xs, h => by
    simp only [PyData.canLay0] at h
    simp only [PyData.eqv]
    exact eqvAll_self xs h
  | .tuple xs, h => by
    simp only [PyData.canLay0] at h
    simp only [PyData.eqv]
    exact eqvAll_self xs h
  | .dict kvs, h => by simp [PyData.canLay0] at h
theorem eqvAll_self : ∀ ds : List PyData, PyData.canLayAll0 ds = true → PyData.eqvAll ds ds = true
  | [], _ => by simp [PyData.eqvAll]
  | d :: r, h => by
    simp only [PyData.canLayAll0, Bool.and_eq_true] at h
    simp only [PyData.eqvAll, eqv_self d h.1, eqvAll_self r h.2, Bool.and_self]
end
/-- may be compared: no dict, not deep -/
def Cmp (k : Nat) (d : PyData) : Prop := d.canLay0 = true ∧ d.depth ≤ k
theorem Cmp.shaped {k : Nat} {d : PyData} (h : Cmp k d) (hk : k ≤ 64) : SeqAt.shaped d = true := by
  show (d.canLay0 && decide (d.depth ≤ 64)) = true
  rw [h.1, decide_eq_true (Nat.le_trans h.2 hk)]; rfl
theorem Cmp.int {k : Nat} {i : Int} : Cmp k (.int i) := ⟨rfl, Nat.zero_le _⟩
theorem Cmp.bool {k : Nat} {b : Bool} : Cmp k (.bool b) := ⟨rfl, Nat.zero_le _⟩
theorem Cmp.all {k : Nat} : ∀ {ds : List PyData}, (∀ d ∈ ds, Cmp k d) → PyData.canLayAll0 ds = true ∧ PyData.depthAll ds ≤ k
  | [], _ => ⟨rfl, Nat.zero_le _⟩
  | d :: r, h => by
    obtain ⟨h1, h2⟩ := h d (List.mem_cons_self)
    obtain ⟨h3, h4⟩ := Cmp.all (ds := r) fun x hx => h x (List.mem_cons_of_mem _ hx)
    refine ⟨?_, ?_⟩
    · show (d.canLay0 && PyData.canLayAll0 r) = true
      rw [h1, h3]; rfl
    · show max d.depth (PyData.depthAll r) ≤ k
      omega
theorem Cmp.list {k : Nat} {ds : List PyData} (h : ∀ d ∈ ds, Cmp k d) : Cmp (k + 1) (.list ds) := by
  obtain ⟨h1, h2⟩ := Cmp.all h
  exact ⟨h1, Nat.succ_le_succ h2⟩
theorem Cmp.tuple {k : Nat} {ds : List PyData} (h : ∀ d ∈ ds, Cmp k d) : Cmp (k + 1) (.tuple ds) := by
  obtain ⟨h1, h2⟩ := Cmp.all h
  exact ⟨h1, Nat.succ_le_succ h2⟩
theorem Cmp.map {α : Type} {k : Nat} {xs : List α} {f : α → PyData} (h : ∀ x ∈ xs, Cmp k (f x)) : ∀ d ∈ xs.map f, Cmp k d := by
  intro d hd
  obtain ⟨x, hx, rfl⟩ := List.mem_map.mp hd
  exact h x hx
section
variable {K : PySem.W.Frag} {B : Hp} {L : Own} {Q : VK} {x y : V} {d : PyData} {k : Nat} {xs : List V} {ds : List PyData}
theorem n_eqSelf (h1 : Da K B L x d) (h2 : Da K B L y d) (c : Cmp k d) (hk : k ≤ 64) (q : N B L (Q (.bl true))) : N B L (fun H => uEq K x y H Q) := n_eqD h1 h2 (c.shaped hk) (c.shaped hk) (by rw [eqv_self d c.1]; exact q)
theorem n_neSelf (h1 : Da K B L x d) (h2 : Da K B L y d) (c : Cmp k d) (hk : k ≤ 64) (q : N B L (Q (.bl false))) : N B L (fun H => uNe K x y H Q) := n_neD h1 h2 (c.shaped hk) (c.shaped hk) (by rw [eqv_self d c.1]; exact q)
theorem daA_of : ∀ {xs : List V} {ds : List PyData}, All2 (Da K B L) xs ds → DaA K B L xs ds
  | [], [], _ => daA_nil
  | [], d :: r, h => by have := h.1; simp at this
  | x :: xs, [], h => by have := h.1; simp at this
  | x :: xs, d :: ds, h => daA_cons (h.2 0 x d rfl rfl) (daA_of ⟨Nat.succ.inj h.1, fun i a b e f => h.2 (i + 1) a b e f⟩)
end
section
variable {K : PySem.W.Frag} {B : Hp} {L : Own} {Q : VK} {a c : Addr} {ns : List Int} {xs : List V}
theorem n_eqNil (h1 : Sq K B L a (ns.map V.int)) (h2 : Is B L c (.lst [])) (q : N B L (Q (.bl (decide (ns = []))))) : N B L (fun H => uEq K (.ref a) (.ref c) H Q) := n_eqLi (ms := []) h1 (is_sq h2) q
theorem n_neNil (h1 : Sq K B L a (ns.map V.int)) (h2 : Is B L c (.lst [])) (q : N B L (Q (.bl (!decide (ns = []))))) : N B L (fun H => uNe K (.ref a) (.ref c) H Q) := n_neLi (ms := []) h1 (is_sq h2) q
end
section
variable {B : Hp} {L : Own} {Q : VK} {a : Addr} {i : Int}
theorem n_isN0 (q : N B L (Q (.bl true))) : N B L (fun H => uIsN .non .non H Q) := n_isN (by rw [decide_eq_true rfl]; exact q)
theorem n_isNr (q : N B L (Q (.bl false))) : N B L (fun H => uIsN (.ref a) .non H Q) := n_isN (by rw [decide_eq_false (fun h => nomatch h)]; exact q)
theorem n_isNi (q : N B L (Q (.bl false))) : N B L (fun H => uIsN (.int i) .non H Q) := n_isN (by rw [decide_eq_false (fun h => nomatch h)]; exact q)
theorem n_notN0 (q : N B L (Q (.bl false))) : N B L (fun H => uNotN .non .non H Q) := n_notN (by rw [decide_eq_true rfl]; exact q)
theorem n_notNr (q : N B L (Q (.bl true))) : N B L (fun H => uNotN (.ref a) .non H Q) := n_notN (by rw [decide_eq_false (fun h => nomatch h)]; exact q)
theorem n_notNi (q : N B L (Q (.bl true))) : N B L (fun H => uNotN (.int i) .non H Q) := n_notN (by rw [decide_eq_false (fun h => nomatch h)]; exact q)
end
theorem n_base {B B' : Hp} {L : Own} {k : Hp → Prop} (sm : Same B B') (h : N B L k) : N B' L k := fun H s => h H (s.mono sm)
theorem at_last {α : Type} (xs : List α) (x : α) : atI (xs ++ [x]) (-1) = some x := by
  unfold atI ixN
  rw [if_neg (by decide), List.length_append, if_pos (by show -((xs.length + 1 : Nat) : Int) ≤ -1; omega)]
  show (xs ++ [x])[(-1 + ((xs.length + 1 : Nat) : Int)).toNat]? = _
  rw [show (-1 + ((xs.length + 1 : Nat) : Int)).toNat = xs.length by omega, List.getElem?_append_right (Nat.le_refl _), Nat.sub_self]
  rfl
end Sk
namespace Sk
open PySem PySem.Spec PyProof.Rows L2
/-! ### a chain of three comparisons -/
def tChain3 (r r' r'' : R2) (ta tb tc td : TE) : TE := fun σ H Q => ta σ H fun x H1 => tb σ H1 fun y H2 => r x y H2 fun z H3 => ∃ k, z = .bl k ∧
  (if k = true then tc σ H3 fun w' H4 => r' y w' H4 fun z2 H5 => ∃ k2, z2 = .bl k2 ∧ (if k2 = true then td σ H5 fun v' H6 => r'' w' v' H6 Q else Q (.bl false) H5) else Q (.bl false) H3)
section
variable {X : Cx} {a b c d : Expr} {ta tb tc td : TE} {pos : Pos} {op op' op'' : CmpOp} {r r' r'' : R2}
theorem pe_chain3 (ho : OpR X (compareOp op) r) (ho' : OpR X (compareOp op') r') (ho'' : OpR X (compareOp op'') r'') (ha : PE X a ta) (hb : PE X b tb) (hc : PE X c tc) (hd : PE X d td)
    (hm : lastMarks [op, op', op''] [b, c, d] = false := by with_unfolding_all rfl) : PE X (.Compare a [op, op', op''] [b, c, d] pos) (tChain3 r r' r'' ta tb tc td) := by
  refine ⟨fun pins s σ H Q I h => ?_⟩
  refine Compare_chain (thn (ha.run pins s σ H _ I h) fun v s1 ⟨x, H1, I1, r1, q1⟩ => chain_link (thn (hb.run pins s1 σ H1 _ I1 q1) fun u s2 ⟨y, H2, I2, r2, q2⟩ =>
    thn (ho pins s2 σ H2 x y v u _ I2 r1 r2 q2) fun d1 s3 ⟨z, H3, I3, r3, k, e, q3⟩ => ?_)) hm
  subst e
  cases r3
  refine wpAny_truthy_bool ?_
  cases k with
  | false => exact ite_ff ⟨.bl false, H3, I3, rfl, q3⟩
  | true =>
    refine ite_tt (chain_link (thn (hc.run pins s3 σ H3 _ I3 q3) fun w' s4 ⟨z', H4, I4, r4, q4⟩ => thn (ho' pins s4 σ H4 y z' u w' _ I4 r2 r4 q4) fun d2 s5 ⟨z2, H5, I5, r5, k2, e2, q5⟩ => ?_))
    subst e2
    cases r5
    refine wpAny_truthy_bool ?_
    cases k2 with
    | false => exact ite_ff ⟨.bl false, H5, I5, rfl, q5⟩
    | true => exact ite_tt (chain_last (thn (hd.run pins s5 σ H5 _ I5 q5) fun v' s6 ⟨z3, H6, I6, r6, q6⟩ => ho'' pins s6 σ H6 z' z3 w' v' Q I6 r4 r6 q6))
theorem pt_chain3 (ho : OpR X (compareOp op) r) (ho' : OpR X (compareOp op') r') (ho'' : OpR X (compareOp op'') r'') (ha : PE X a ta) (hb : PE X b tb) (hc : PE X c tc) (hd : PE X d td)
    (hm : lastMarks [op, op', op''] [b, c, d] = false := by with_unfolding_all rfl) : PT X (.Compare a [op, op', op''] [b, c, d] pos) (tTest (tChain3 r r' r'' ta tb tc td)) := by
  refine ⟨fun pins s σ H Q I h => ?_⟩
  refine isTrue_chain (thn (ha.run pins s σ H _ I h) fun v s1 ⟨x, H1, I1, r1, q1⟩ => test_link (thn (hb.run pins s1 σ H1 _ I1 q1) fun u s2 ⟨y, H2, I2, r2, q2⟩ =>
    thn (ho pins s2 σ H2 x y v u _ I2 r1 r2 q2) fun d1 s3 ⟨z, H3, I3, r3, k, e, q3⟩ => ?_)) hm
  subst e
  cases r3
  refine wpAny_truthy_bool ?_
  cases k with
  | false =>
    obtain ⟨k', e', q'⟩ := q3
    cases e'
    exact ite_ff ⟨H3, I3, q'⟩
  | true =>
    refine ite_tt (test_link (thn (hc.run pins s3 σ H3 _ I3 q3) fun w' s4 ⟨z', H4, I4, r4, q4⟩ => thn (ho' pins s4 σ H4 y z' u w' _ I4 r2 r4 q4) fun d2 s5 ⟨z2, H5, I5, r5, k2, e2, q5⟩ => ?_))
    subst e2
    cases r5
    refine wpAny_truthy_bool ?_
    cases k2 with
    | false =>
      obtain ⟨k', e', q'⟩ := q5
      cases e'
      exact ite_ff ⟨H5, I5, q'⟩
    | true =>
      refine ite_tt (test_last (thn (hd.run pins s5 σ H5 _ I5 q5) fun v' s6 ⟨z3, H6, I6, r6, q6⟩ => thn (ho'' pins s6 σ H6 z' z3 w' v' _ I6 r4 r6 q6) fun d3 s7 ⟨z4, H7, I7, r7, k3, e3, q7⟩ => ?_))
      subst e3
      cases r7
      exact wpAny_truthy_bool ⟨H7, I7, q7⟩
end
theorem n_chain3 {B : Hp} {L : Own} {r r' r'' : R2} {ta tb tc td : TE} {σ : St} {Q : VK} (q : N B L (fun H => ta σ H fun x H1 => tb σ H1 fun y H2 => r x y H2 fun z H3 => ∃ k, z = .bl k ∧
  (if k = true then tc σ H3 fun w' H4 => r' y w' H4 fun z2 H5 => ∃ k2, z2 = .bl k2 ∧ (if k2 = true then td σ H5 fun v' H6 => r'' w' v' H6 Q else Q (.bl false) H5) else Q (.bl false) H3))) : N B L (fun H => tChain3 r r' r'' ta tb tc td σ H Q) := q
/-- zip of two lists, any target: each turn's pair is new -/
theorem n_lpZg {K : PySem.W.Frag} {B : Hp} {L : Own} {a c : Addr} {xs ys : List V} {g : TG} {ts : TS} {D : Ends} {σ : St} (Pv : Nat → St → Own → Prop) (hq : ∀ i σ L, i ≤ min xs.length ys.length → Pv i σ L → Sq K B L a xs ∧ Sq K B L c ys) (h0 : Pv 0 σ L)
    (hs : ∀ i σ L T (hi : i < xs.length) (hj : i < ys.length), Pv i σ L → N B ((T, .tup [xs[i], ys[i]]) :: L) (fun H => g (.ref T) σ H fun σ2 H2 => ts (loE D (KI B (Pv (i + 1)))) σ2 H2))
    (hd : ∀ σ L, Pv (min xs.length ys.length) σ L → N B L (D.nx σ)) : N B L (fun H => IZ K (Lp g ts D σ) [.ref a, .ref c] H) := by
  intro H s
  obtain ⟨q1, q2⟩ := hq 0 σ L (Nat.zero_le _) h0
  refine ⟨a, c, xs, ys, rfl, q1 H s, q2 H s, ?_⟩
  refine ⟨fun i m σ H => m = min xs.length ys.length - i ∧ i ≤ min xs.length ys.length ∧ ∃ L, SI B L H ∧ Pv i σ L, ⟨min xs.length ys.length, by omega, Nat.zero_le _, L, s, h0⟩, ?_⟩
  rintro i m' σ H ⟨rfl, hi, L, s, p⟩
  obtain ⟨q1, q2⟩ := hq i σ L hi p
  by_cases hlt : i < min xs.length ys.length
  · have hx1 : i < xs.length := by omega
    have hy1 : i < ys.length := by omega
    refine .inr ⟨⟨xs, ys, xs[i], ys[i], q1 H s, q2 H s, List.getElem?_eq_getElem hx1, List.getElem?_eq_getElem hy1⟩, KI B (Pv (i + 1)), fun σ' H' ⟨L', s', p'⟩ => ⟨min xs.length ys.length - (i + 1), by omega, rfl, hlt, L', s', p'⟩, fun v H' hx => ?_⟩
    obtain ⟨T, x, y, rfl, nT, rfl, hx, hy⟩ := hx
    have e1 := hx xs (q1 H s)
    have e2 := hy ys (q2 H s)
    rw [List.getElem?_eq_getElem hx1] at e1
    rw [List.getElem?_eq_getElem hy1] at e2
    cases e1; cases e2
    exact hs i σ L T hx1 hy1 p _ (s.new nT)
  · have e : i = min xs.length ys.length := by omega
    subst e
    refine .inl ⟨⟨xs, ys, q1 H s, q2 H s, ?_⟩, hd σ L p H s⟩
    omega
theorem getD_drop' (bs : List Int) (m i : Nat) : (bs.drop m).getD i 0 = bs.getD (m + i) 0 := by
  rw [List.getD_eq_getElem?_getD, List.getD_eq_getElem?_getD, List.getElem?_drop]
theorem n_gConsT {B : Hp} {L : Own} {g : TG} {gs : TGs} {v : V} {xs : List V} {σ : St} {k : St → Hp → Prop} (q : N B L (fun H => g v σ H fun σ2 H2 => gs xs σ2 H2 k)) : N B L (fun H => gCons g gs (v :: xs) σ H k) := fun H s => ⟨v, xs, rfl, q H s⟩
end Sk
/-! ### zip of a list and a reversed list -/
namespace Sk
open PySem PySem.Spec PyProof.Rows L2
section
variable {prog : Program} {w : World} {A : Around} {E : Value → Shared → Prop} {s : Shared}
theorem drawRev_item {it l : Addr} {i : Nat} {items : Array Value} {x : Value} {Q : Value → Shared → Prop} (hit : s.heap.IsRevIter it l (i : Int)) (hl : s.heap.IsList l items) (hx : items[i]? = some x)
    (hQ : ∀ h', h'.IsRevIter it l ((i : Int) - 1) → Heap.SameBut it s.heap h' → Q x { s with heap := h' }) : wpAny (model prog w) A (Builtin.SmallTypes.nextOf (.ref it)) Q E s := by
  obtain ⟨o, ho, hc, hd⟩ := id hit
  obtain ⟨ol, hol, _, nl, hdl⟩ := hl
  unfold Builtin.SmallTypes.nextOf
  refine wpAny_bind (wpAny_callSpecial?_slot (name := Str.ofString "__next__") hit.typeIs F.slot_lri_next (wpAny_call_entry F.slot_lri_next hit.typeIs F.entry_lri_next ?_ (F.args_lri_next_1 _)))
  unfold Builtin.«list_reverseiterator.__next__»
  refine wpAny_bind (wpAny_of_eq (a := (Value.ref it, [])) rfl ?_)
  try dsimp only
  refine wpAny_bind (wpAny_field ho hd (x := rawInt (i : Int)) rfl ?_)
  show wpAny _ _ (if (i : Int) < 0 then _ else _) _ _ s
  rw [if_neg (by omega)]
  show wpAny _ _ (field (.ref it) 0 >>= _) _ _ s
  refine wpAny_bind (wpAny_field ho hd (x := .ref l) rfl ?_)
  show wpAny _ _ (seqItems? (.ref l) >>= _) _ _ s
  refine wpAny_bind (wpAny_seqItems hol hdl ?_)
  simp only [Int.toNat_natCast, hx]
  refine wpAny_bind (wpAny_setField ho hd (by simp) ?_)
  first
  | refine wpAny_pure ⟨x, rfl, wpAny_pure (hQ _ ?_ (Heap.SameBut.update ..))⟩
  | refine wpAny_bind (wpAny_pure (wpAny_pure ⟨x, rfl, wpAny_pure (hQ _ ?_ (Heap.SameBut.update ..))⟩))
  exact ⟨_, Heap.get?_update_self _ ho (Obj.isFreed_of_fields (Obj.data_mapFields hd _)), (Obj.cls_mapFields ..).trans hc, by
    rw [Obj.data_mapFields hd]; simp⟩
theorem drawRev_end {it l : Addr} {Q : Value → Shared → Prop} (hh : A.handled = none) (hit : s.heap.IsRevIter it l (-1))
    (hE : ∀ h' e, Heap.ExtBut it s.heap h' → (∃ o, h'.get? e = some o ∧ o.cls = .type "StopIteration") → E (.ref e) { s with heap := h' }) : wpAny (model prog w) A (Builtin.SmallTypes.nextOf (.ref it)) Q E s := by
  obtain ⟨o, ho, hc, hd⟩ := id hit
  unfold Builtin.SmallTypes.nextOf
  refine wpAny_bind (wpAny_callSpecial?_slot (name := Str.ofString "__next__") hit.typeIs F.slot_lri_next (wpAny_call_entry F.slot_lri_next hit.typeIs F.entry_lri_next ?_ (F.args_lri_next_1 _)))
  unfold Builtin.«list_reverseiterator.__next__»
  refine wpAny_bind (wpAny_of_eq (a := (Value.ref it, [])) rfl ?_)
  try dsimp only
  refine wpAny_bind (wpAny_field ho hd (x := rawInt (-1)) rfl ?_)
  show wpAny _ _ (if (-1 : Int) < 0 then _ else _) _ _ s
  rw [if_pos (by decide)]
  refine wpAny_bind (wpAny_rule ?_)
  first
  | show wpAny _ _ (newExc (.type "StopIteration") [] >>= _) _ _ _
  | (refine wpAny_bind ?_; show wpAny _ _ (newExc (.type "StopIteration") [] >>= _) _ _ _)
  refine wpAny_bind ?_
  simp only [newExc, newTuple]
  refine wpAny_bind (wpAny_newObj_type ?_ (by size_fits))
  refine wpAny_bind (m := firstArgMember _ _) (wpAny_of_eq (a := Value.none) (by first | rfl | (simp only [firstArgMember]; rfl)) ?_)
  refine wpAny_newObj_type ?_ (by size_fits)
  simp only [raiseNew]
  refine wpAny_bind (wpAny_handled ?_)
  first | rw [show A.in1.handled = none from hh] | rw [hh]
  refine wpAny_bind (wpAny_pure (wpAny_throw ?_))
  exact hE _ _ (((Heap.ExtBut.refl _ _).push _).push _) ⟨_, Heap.get?_push_size _ rfl, rfl⟩
theorem draws_rev (hh : A.handled = none) (it l : Addr) (hne : l ≠ it) (items : Array Value) :
    Draws prog w A it [it, l] items.size (fun i v => items[items.size - 1 - i]? = some v) (fun i h => i ≤ items.size ∧ h.IsRevIter it l ((items.size : Int) - 1 - (i : Int)) ∧ h.IsList l items) where
  live := fun i h st => by obtain ⟨_, ⟨o, e, _⟩, _⟩ := st; exact ⟨o, e⟩
  frame := fun i h h' st k => ⟨st.1, st.2.1.at fun o e => k it (by simp) o e, st.2.2.at fun o e => k l (by simp) o e⟩
  item := fun i s Q E hi st hQ => by
    obtain ⟨h1, h2, h3⟩ := st
    have e1 : (items.size : Int) - 1 - (i : Int) = ((items.size - 1 - i : Nat) : Int) := by omega
    rw [e1] at h2
    have hx : items[items.size - 1 - i]? = some items[items.size - 1 - i] := Array.getElem?_eq_getElem (by omega)
    refine drawRev_item h2 h3 hx fun h' st' sb => hQ _ h' s.toks hx ⟨hi, ?_, h3.at fun o e => (sb.2 l hne).trans e⟩ sb
    have e2 : (items.size : Int) - 1 - ((i + 1 : Nat) : Int) = ((items.size - 1 - i : Nat) : Int) - 1 := by omega
    rw [e2]
    exact st'
  done := fun s Q E st hE => by
    obtain ⟨h1, h2, h3⟩ := st
    have e1 : (items.size : Int) - 1 - (items.size : Int) = -1 := by omega
    rw [e1] at h2
    exact drawRev_end hh h2 hE
abbrev zr1 (h : Heap) (l1 : Addr) : Heap := h.push { cls := .type "list_iterator", data := .fields #[.ref l1, .int 0 0] }
abbrev zr2 (h : Heap) (l1 it : Addr) : Heap := (zr1 h l1).push { cls := .type "tuple", data := .seq #[.ref h.objs.size, .ref it] }
abbrev zr3 (h : Heap) (l1 it : Addr) : Heap := (zr2 h l1 it).push { cls := .type "tuple", data := .seq #[.none, .none] }
abbrev zr4 (h : Heap) (l1 it : Addr) : Heap := (zr3 h l1 it).push { cls := .type "zip", data := .fields #[.none, .bool false, .bool false, .ref (zr1 h l1).objs.size, .ref (zr2 h l1 it).objs.size] }
theorem meets_zipR (l1 it l2 : Addr) (xs : Array Value) (i : Int) :
    Meets (Builtin.«zip.__new__» ⟨[.type "zip", .ref l1, .ref it], []⟩) (fun _ R s => s.heap.IsList l1 xs ∧ s.heap.IsRevIter it l2 i ∧
      R (.ok (.ret (.ref (zr3 s.heap l1 it).objs.size))) { s with heap := zr4 s.heap l1 it }) :=
  .of_wp fun prog w A R s h => by
    obtain ⟨hp, g, d, tk, os⟩ := s; obtain ⟨hl1, hl2, h⟩ := h
    have hsub := sub_zip
    have hL1 : Heap.IsList (Shared.heap ⟨hp, g, d, tk, os⟩) l1 xs := hl1
    have hL2 : Heap.IsRevIter (Shared.heap ⟨hp.push { cls := .type "list_iterator", data := .fields #[.ref l1, .int 0 0] }, g, d, tk, os⟩) it l2 i := hl2.at fun o e => Heap.get?_push_of_some _ e
    wp_walk using wpAny_pyIter_list hL1, wpAny_pyIter_revIter hL2
    exact ⟨_, rfl, h⟩
theorem call_zipR {l1 it l2 : Addr} {xs : Array Value} {i : Int} {Q : Value → Shared → Prop} (hl1 : s.heap.IsList l1 xs) (hl2 : s.heap.IsRevIter it l2 i)
    (h : ∀ h', IsZip h' (s.heap.objs.size + 3) (s.heap.objs.size + 1) (s.heap.objs.size + 2) .none → IsTupOf2 h' (s.heap.objs.size + 1) (.ref s.heap.objs.size) (.ref it) →
      IsTupOf2 h' (s.heap.objs.size + 2) .none .none → h'.IsListIter s.heap.objs.size l1 0 → (∀ c o, s.heap.get? c = some o → h'.get? c = some o) → Q (.ref (s.heap.objs.size + 3)) { s with heap := h' }) :
    wpAny (model prog w) A (call (.type "zip") [.ref l1, .ref it]) Q E s := by
  refine callType_new F.called_zip (by decide) (F.typeCall_zip_2 _ _) (F.newCall_zip_2 _ _) (fun obj => F.args_object_init_3 obj _ _) F.entry_zip_new (meets_zipR l1 it l2 xs i) ⟨hl1, hl2, ?_⟩
  have z1 : (zr1 s.heap l1).objs.size = s.heap.objs.size + 1 := Heap.size_push ..
  have z2 : (zr2 s.heap l1 it).objs.size = s.heap.objs.size + 2 := by rw [Heap.size_push, z1]
  have z3 : (zr3 s.heap l1 it).objs.size = s.heap.objs.size + 3 := by rw [Heap.size_push, z2]
  have g4 : (zr4 s.heap l1 it).get? (zr3 s.heap l1 it).objs.size = some _ := Heap.get?_push_size _ rfl
  have g3 : (zr4 s.heap l1 it).get? (zr2 s.heap l1 it).objs.size = some _ := Heap.get?_push_of_some _ (Heap.get?_push_size _ rfl)
  have g2 : (zr4 s.heap l1 it).get? (zr1 s.heap l1).objs.size = some _ := Heap.get?_push_of_some _ (Heap.get?_push_of_some _ (Heap.get?_push_size _ rfl))
  have g1 : (zr4 s.heap l1 it).get? s.heap.objs.size = some _ := Heap.get?_push_of_some _ (Heap.get?_push_of_some _ (Heap.get?_push_of_some _ (Heap.get?_push_size _ rfl)))
  show _ ∧ _
  rw [z1, z2, z3] at g4
  rw [z2] at g3
  rw [z1] at g2
  rw [z3]
  exact ⟨⟨_, g4, rfl⟩, h _ g4 g2 g3 ⟨_, g1, rfl, rfl⟩ fun c o x => Heap.get?_push_of_some _ (Heap.get?_push_of_some _ (Heap.get?_push_of_some _ (Heap.get?_push_of_some _ x)))⟩
end
/-- a list at a and, from its end on, the list at b (of n items) -/
def Itzr (K : PySem.W.Frag) (a b : Addr) (n : Nat) : It :=
  ⟨fun i H => i < n ∧ ∃ (xs ys : List V) (x y : V), SqL K H a xs ∧ SqL K H b ys ∧ xs[i]? = some x ∧ ys.length = n ∧ ys[n - 1 - i]? = some y,
    fun i H v H' => ∃ T x y, v = .ref T ∧ H T = none ∧ H' = upd H T (.tup [x, y]) ∧ (∀ xs, SqL K H a xs → xs[i]? = some x) ∧ ∀ ys, SqL K H b ys → ys[n - 1 - i]? = some y,
    fun i H => ∃ xs ys : List V, SqL K H a xs ∧ SqL K H b ys ∧ ys.length = n ∧ i ≤ xs.length ∧ i ≤ n ∧ (xs.length = i ∨ n = i)⟩
theorem turn_zipR {P : Program} {w : World} {K : PySem.W.Frag} {elts : List Expr} {kk : Nat} {tpos : Pos} {a b z TI TO i1 i2 : Addr} (n : Nat) (S : ZipSep2 z TI TO i1 i2 [i1, a] [i2, b]) (hai : a ≠ i1) (hbi : b ≠ i2) :
    Turn P w K (.Tuple elts kk tpos) (Itzr K a b n) [z, TI, TO, i1, i2] z (fun i h => IsZip h z TI TO .none ∧ IsTupOf2 h TI (.ref i1) (.ref i2) ∧ (∃ x y, IsTupOf2 h TO x y) ∧ h.IsListIter i1 a i ∧ i ≤ n ∧ h.IsRevIter i2 b ((n : Int) - 1 - (i : Int))) where
  mem := by simp
  obj := fun i h st c hc => by
    obtain ⟨hz, hTI, ⟨x, y, hTO⟩, ⟨o1, e1, _, d1⟩, _, ⟨o2, e2, _, d2⟩⟩ := st
    have e' : c = z ∨ c = TI ∨ c = TO ∨ c = i1 ∨ c = i2 := by simpa using hc
    rcases e' with q | q | q | q | q
    · rw [q]; exact ⟨_, hz, fun v q => nomatch q⟩
    · rw [q]; exact ⟨_, hTI, fun v q => nomatch q⟩
    · rw [q]; exact ⟨_, hTO, fun v q => nomatch q⟩
    · rw [q]; exact ⟨o1, e1, fun v q => by rw [d1] at q; cases q⟩
    · rw [q]; exact ⟨o2, e2, fun v q => by rw [d2] at q; cases q⟩
  keep := fun i h h' st k => by
    obtain ⟨hz, hTI, ⟨x, y, hTO⟩, h1, hi, h2⟩ := st
    exact ⟨k z (by simp) _ hz, k TI (by simp) _ hTI, ⟨x, y, k TO (by simp) _ hTO⟩, h1.at fun o q => k i1 (by simp) o q, hi, h2.at fun o q => k i2 (by simp) o q⟩
  item := by
    intro X hP hw hK hc i pins s σ H E I hf st hg
    subst hP hw hK
    obtain ⟨hz, hTI, ⟨x0, y0, hTO⟩, h1, hin, h2⟩ := st
    obtain ⟨hlt, xs, ys, x, y, hqx, hqy, hx, hyn, hy⟩ := hg
    obtain ⟨its, rv, p, _⟩ := I.list hqx
    obtain ⟨its2, rv2, p2, _⟩ := I.list hqy
    obtain ⟨u, hu, ru⟩ := rv.get hx
    obtain ⟨u2, hu2, ru2⟩ := rv2.get hy
    have l1 := rv.length
    have l2 := rv2.length
    have hzl : z < s.heap.objs.size := Heap.lt_size hz
    have hsz2 : its2.toArray.size = n := by simp only [List.size_toArray]; omega
    have hxl : i < its.toArray.size := by
      obtain ⟨hh, _⟩ := List.getElem?_eq_some_iff.mp hu
      simpa using hh
    have hcalm : X.A.in1.handled = none := I.ok.hd hc
    refine wpAny_pyNext_zipD2_item S (Draws.list hcalm i1 a hai its.toArray) (draws_rev hcalm i2 b hbi its2.toArray) hz hTI hTO (i := i) ⟨h1, p.isList⟩ ⟨by omega, by rw [hsz2]; exact h2, p2.isList⟩ hxl (by omega) fun v1 v2 h' tk y1 y2 z' TO' d1 d2 hT hsz hk => ?_
    have ev1 : v1 = u := by
      have : its.toArray[i]? = some u := by simpa using hu
      rw [this] at y1
      exact (Option.some.inj y1).symm
    have ev2 : v2 = u2 := by
      have : its2.toArray[its2.toArray.size - 1 - i]? = some u2 := by rw [hsz2]; simpa using hu2
      rw [this] at y2
      exact (Option.some.inj y2).symm
    subst ev1 ev2
    refine ⟨_, rfl, wpAny_letOwnedTupleGo_zip (s := { s with heap := h', toks := tk }) z' fun h'' z'' sb => ?_⟩
    have hT2 : h''.get? s.heap.objs.size = some { cls := .type "tuple", data := .seq #[v1, v2] } := (sb.2 _ (Nat.ne_of_gt hzl)).trans hT
    have new : ObjOk X.prog X.w (upd H s.heap.objs.size (.tup [x, y])) h'' s.heap.objs.size (.tup [x, y]) :=
      ⟨by show 2 ≤ sizeLine; decide, [v1, v2], .cons ru (.cons ru2 .nil), ⟨_, hT2, rfl, _, rfl⟩⟩
    have I1 : Inv X pins σ (upd H s.heap.objs.size (.tup [x, y])) { s with heap := h'', toks := tk } :=
      I.turnedNew (t' := tk) (ch := [z, TI, TO, i1, i2]) (fun c o hb q => (sb.2 c (fun q' => hb (by simp [q']))).trans (hk c o (fun q' => hb (by simp [q'])) (fun q' => hb (by simp [q'])) (fun q' => hb (by simp [q'])) (fun q' => hb (by simp [q'])) q)) hf (Nat.le_refl _) new
    obtain ⟨d1, _⟩ := d1
    obtain ⟨d3, d2, _⟩ := d2
    rw [hsz2] at d2 d3
    refine ⟨.ref s.heap.objs.size, _, I1, rfl, ⟨_, x, y, rfl, I.hok.fresh (Nat.le_refl _), rfl, fun l hl => by rw [I.list_inj hl hqx]; exact hx, fun l hl => by rw [I.list_inj hl hqy]; exact hy⟩, ⟨z'', ?_, ⟨v1, v2, ?_⟩, ?_, d3, ?_⟩, fun c hcm => ?_⟩
    · exact (sb.2 _ S.TIz).trans (hk _ _ S.TIz S.TITO S.TIi1 S.TIi2 hTI)
    · exact (sb.2 _ S.TOz).trans TO'
    · exact d1.at fun o q => (sb.2 _ S.zi1.symm).trans q
    · exact d2.at fun o q => (sb.2 _ S.zi2.symm).trans q
    · have hlt : c < s.heap.objs.size := by
        have e' : c = z ∨ c = TI ∨ c = TO ∨ c = i1 ∨ c = i2 := by simpa using hcm
        rcases e' with q | q | q | q | q
        · rw [q]; exact hzl
        · rw [q]; exact Heap.lt_size hTI
        · rw [q]; exact Heap.lt_size hTO
        · rw [q]; obtain ⟨_, e1, _⟩ := h1; exact Heap.lt_size e1
        · rw [q]; obtain ⟨_, e2, _⟩ := h2; exact Heap.lt_size e2
      rw [upd_ne (Nat.ne_of_lt hlt)]
      exact (hf c hcm).1
  done := by
    intro X hP hw hK hc i pins s σ H E I hf st hg
    subst hP hw hK
    obtain ⟨hz, hTI, ⟨x0, y0, hTO⟩, h1, hin, h2⟩ := st
    obtain ⟨xs, ys, hqx, hqy, hyn, hxl, hyl, hend⟩ := hg
    obtain ⟨its, rv, p, _⟩ := I.list hqx
    obtain ⟨its2, rv2, p2, _⟩ := I.list hqy
    have l1 := rv.length
    have l2 := rv2.length
    have hsz1 : its.toArray.size = xs.length := by simp only [List.size_toArray]; omega
    have hsz2 : its2.toArray.size = n := by simp only [List.size_toArray]; omega
    have hcalm : X.A.in1.handled = none := I.ok.hd hc
    exact wpAny_pyNext_zipD2_end S (Draws.list hcalm i1 a hai its.toArray) (draws_rev hcalm i2 b hbi its2.toArray) hz hTI hTO (i := i) ⟨h1, p.isList⟩ ⟨by omega, by rw [hsz2]; exact h2, p2.isList⟩ (by omega) (by omega) (by omega) fun h' tk hk => ⟨rfl, I.turnedL (t' := tk) (ch := [z, TI, TO, i1, i2]) (fun c o hb q =>
      hk c o (fun q' => hb (by simp [q'])) (fun q' => hb (by simp [q'])) (fun q' => hb (by simp [q'])) (fun q' => hb (by simp [q'])) q) hf⟩
  self := fun A i s Q E st h => wpAny_pyIter_zip st.1 h
def iZipR (K : PySem.W.Frag) (t1 t2 : TE) : TI := fun σ H R => t1 σ H fun x H1 => t2 σ H1 fun y H2 => ∃ a b xs ys, x = .ref a ∧ y = .ref b ∧ SqL K H2 a xs ∧ SqL K H2 b ys ∧ R (Itzr K a b ys.length) H2
theorem zsep (M a b : Nat) (ha : a < M) (hb : b < M) : ZipSep2 (M + 1 + 3) (M + 1 + 1) (M + 1 + 2) (M + 1) M [M + 1, a] [M, b] := by
  constructor <;> first
    | (refine PySem.W.neN ?_; omega)
    | (intro hm; rcases List.mem_cons.mp hm with hm | hm <;> first | (exact absurd hm (PySem.W.neN (by omega))) | (rcases List.mem_cons.mp hm with hm | hm <;> first | (exact absurd hm (PySem.W.neN (by omega))) | exact absurd hm List.not_mem_nil))
    | simp
theorem pi_zipR {X : Cx} {e e2 : Expr} {t1 t2 : TE} {p pr pos posr tpos : Pos} {elts : List Expr} {kk : Nat} (hg : Gl X "zip") (hm : X.mg "zip" = none) (hgr : Gl X "reversed") (hmr : X.mg "reversed" = none) (h1 : PE X e t1) (h2 : PE X e2 t2)
    (hs : starEach [e, .Call (.Name "reversed" pr) [e2] [] posr] X.env = (false, eval e X.env) :: starEach [.Call (.Name "reversed" pr) [e2] [] posr] X.env := by rfl)
    (hs2 : starEach [.Call (.Name "reversed" pr) [e2] [] posr] X.env = [(false, eval (.Call (.Name "reversed" pr) [e2] [] posr) X.env)] := by rfl) (hs3 : starEach [e2] X.env = [(false, eval e2 X.env)] := by rfl)
    (hpl : (backTo pos (starEach [.Call (.Name "reversed" pr) [e2] [] posr] X.env)).any (·.1) = false := by rfl) :
    PI X (.Tuple elts kk tpos) (.Call (.Name "zip" p) [e, .Call (.Name "reversed" pr) [e2] [] posr] [] pos) (iZipR X.K t1 t2) := by
  refine ⟨fun pins s σ H R I h => ?_⟩
  refine Call_ (ld_blt I hg hm PyProof.Rows.boot_zip (PyProof.Rows.callWith_type1 ?_ hs hpl))
  rw [hs]
  show wpAny _ _ (spliced ((false, eval e X.env) :: backTo pos (starEach [.Call (.Name "reversed" pr) [e2] [] posr] X.env))) _ _ s
  refine Calls.spliced_cons (thn (h1.run pins s σ H _ I h) fun u1 s1 ⟨x, H1, I1, r1, q1⟩ => ?_)
  rw [hs2]
  show wpAny _ _ (spliced [(false, eval (.Call (.Name "reversed" pr) [e2] [] posr) X.env)]) _ _ s1
  refine Calls.spliced_cons ?_
  refine Call_ (ld_blt I1 hgr hmr PyProof.Rows.boot_reversed (PyProof.Rows.callWith_type1 (thn ((pa_cons h2 pa_nil hs3).run posr pins s1 σ H1 (fun vs H2 => match vs with
    | [y] => ∃ a b xs ys, x = .ref a ∧ y = .ref b ∧ SqL X.K H2 a xs ∧ SqL X.K H2 b ys ∧ R (Itzr X.K a b ys.length) H2
    | _ => False) I1 q1) fun us s2 ⟨vs, H2, I2, r2, q2⟩ => ?_) hs3 rfl))
  cases r2 with
  | nil => exact q2.elim
  | cons r rr =>
    cases rr with
    | cons r' rr' => exact q2.elim
    | nil =>
    obtain ⟨a, b, xs, ys, ex, ey, hqx, hqy, q⟩ := q2
    subst ex
    subst ey
    cases r
    cases r1
    obtain ⟨its, rv, p1, _⟩ := I2.list hqx
    obtain ⟨its2, rv2, p2, _⟩ := I2.list hqy
    have l2 := rv2.length
    have la : a < s2.heap.objs.size := p1.lt
    have lb : b < s2.heap.objs.size := p2.lt
    refine call_reversed_list p2.isList (Calls.spliced_nil ?_)
    have kp : ∀ c o, s2.heap.get? c = some o → (s2.heap.push (revObj b ((its2.toArray.size : Int) - 1))).get? c = some o := fun c o e => Heap.get?_push_of_some _ e
    have hrev : (s2.heap.push (revObj b ((its2.toArray.size : Int) - 1))).IsRevIter s2.heap.objs.size b ((its2.toArray.size : Int) - 1) := ⟨_, Heap.get?_push_size _ rfl, rfl, rfl⟩
    have hM : (s2.heap.push (revObj b ((its2.toArray.size : Int) - 1))).objs.size = s2.heap.objs.size + 1 := Heap.size_push ..
    refine call_zipR (s := { s2 with heap := s2.heap.push (revObj b ((its2.toArray.size : Int) - 1)) }) (p1.isList.at fun o e => kp a o e) hrev fun h' hz hTI hTO hi1 hk => wpAny_pyIter_zip hz ?_
    have hk2 : ∀ c o, s2.heap.get? c = some o → h'.get? c = some o := fun c o e => hk c o (kp c o e)
    have I3 : Inv X pins σ H2 { s2 with heap := h' } := I2.kept (t' := s2.toks) hk2
    simp only [hM] at hz hTI hTO hi1
    have hrev' := hrev.at fun o e => hk _ o e
    have hn : (its2.toArray.size : Int) - 1 = (ys.length : Int) - 1 - ((0 : Nat) : Int) := by simp only [List.size_toArray]; omega
    rw [hn] at hrev'
    have S := zsep s2.heap.objs.size a b la lb
    refine ⟨s2.heap.objs.size + 1 + 3, [s2.heap.objs.size + 1 + 3, s2.heap.objs.size + 1 + 1, s2.heap.objs.size + 1 + 2, s2.heap.objs.size + 1, s2.heap.objs.size], _, _, H2, congrArg (fun n : Nat => Value.ref (n + 3)) hM, I3, turn_zipR ys.length S (Nat.ne_of_lt (Nat.lt_succ_of_lt la)) (Nat.ne_of_lt lb), ⟨hz, hTI, ⟨_, _, hTO⟩, hi1, Nat.zero_le _, hrev'⟩, fun c hcm => ?_, q⟩
    have e' : c = s2.heap.objs.size + 1 + 3 ∨ c = s2.heap.objs.size + 1 + 1 ∨ c = s2.heap.objs.size + 1 + 2 ∨ c = s2.heap.objs.size + 1 ∨ c = s2.heap.objs.size := by simpa using hcm
    have hle : s2.heap.objs.size ≤ c := by
      rcases e' with z | z | z | z | z <;> rw [z]
      · exact Nat.le_add_right _ 4
      · exact Nat.le_add_right _ 2
      · exact Nat.le_add_right _ 3
      · exact Nat.le_add_right _ 1
      · exact Nat.le_refl _
    exact I2.fpOk hle (I2.hok.fresh hle)
def IZR (K : PySem.W.Frag) (R : It → Hp → Prop) (x y : V) (H2 : Hp) : Prop := ∃ a b xs ys, x = .ref a ∧ y = .ref b ∧ SqL K H2 a xs ∧ SqL K H2 b ys ∧ R (Itzr K a b ys.length) H2
theorem n_iZR {K : PySem.W.Frag} {B : Hp} {L : Own} {t1 t2 : TE} {R : It → Hp → Prop} {σ : St} (q : N B L (fun H => t1 σ H fun x H1 => t2 σ H1 fun y H2 => IZR K R x y H2)) : N B L (fun H => iZipR K t1 t2 σ H R) := q
/-- zip of a list and a reversed list: each turn's pair is new -/
theorem n_lpZr {K : PySem.W.Frag} {B : Hp} {L : Own} {a c : Addr} {xs ys : List V} {g : TG} {ts : TS} {D : Ends} {σ : St} (Pv : Nat → St → Own → Prop) (hq : ∀ i σ L, i ≤ min xs.length ys.length → Pv i σ L → Sq K B L a xs ∧ Sq K B L c ys) (h0 : Pv 0 σ L)
    (hs : ∀ i σ L T (hi : i < xs.length) (hj : i < ys.length), Pv i σ L → N B ((T, .tup [xs[i], ys[ys.length - 1 - i]]) :: L) (fun H => g (.ref T) σ H fun σ2 H2 => ts (loE D (KI B (Pv (i + 1)))) σ2 H2))
    (hd : ∀ σ L, Pv (min xs.length ys.length) σ L → N B L (D.nx σ)) : N B L (fun H => IZR K (Lp g ts D σ) (.ref a) (.ref c) H) := by
  intro H s
  obtain ⟨q1, q2⟩ := hq 0 σ L (Nat.zero_le _) h0
  refine ⟨a, c, xs, ys, rfl, rfl, q1 H s, q2 H s, ?_⟩
  refine ⟨fun i m σ H => m = min xs.length ys.length - i ∧ i ≤ min xs.length ys.length ∧ ∃ L, SI B L H ∧ Pv i σ L, ⟨min xs.length ys.length, by omega, Nat.zero_le _, L, s, h0⟩, ?_⟩
  rintro i m' σ H ⟨rfl, hi, L, s, p⟩
  obtain ⟨q1, q2⟩ := hq i σ L hi p
  by_cases hlt : i < min xs.length ys.length
  · have hx1 : i < xs.length := by omega
    have hy1 : i < ys.length := by omega
    have hy2 : ys.length - 1 - i < ys.length := by omega
    refine .inr ⟨⟨hy1, xs, ys, xs[i], ys[ys.length - 1 - i], q1 H s, q2 H s, List.getElem?_eq_getElem hx1, rfl, List.getElem?_eq_getElem hy2⟩, KI B (Pv (i + 1)), fun σ' H' ⟨L', s', p'⟩ => ⟨min xs.length ys.length - (i + 1), by omega, rfl, hlt, L', s', p'⟩, fun v H' hx => ?_⟩
    obtain ⟨T, x, y, rfl, nT, rfl, hx, hy⟩ := hx
    have e1 := hx xs (q1 H s)
    have e2 := hy ys (q2 H s)
    rw [List.getElem?_eq_getElem hx1] at e1
    rw [List.getElem?_eq_getElem hy2] at e2
    cases e1; cases e2
    exact hs i σ L T hx1 hy1 p _ (s.new nT)
  · have e : i = min xs.length ys.length := by omega
    subst e
    refine .inl ⟨⟨xs, ys, q1 H s, q2 H s, rfl, ?_, ?_, ?_⟩, hd σ L p H s⟩ <;> omega
end Sk
namespace Sk
open PySem PySem.Spec PyProof.Rows L2
/-! ### lists of lists -/
section
variable {B B' : Hp} {L L' G : Own} {p a c l : Addr} {o : HO} {K : PySem.W.Frag} {xs ys : List V} {v : V} {k : Hp → Prop} {Q : VK} {σ : St} {D : Ends} {ts : TS} {g : TG} {ns : List Int} {i j : Int} {n : Nat}
theorem is_mem (h : (a, o) ∈ L) : Is B L a o := fun _ s => (s.own _ h).2
theorem sq_mem (h : (a, .lst xs) ∈ L) : Sq K B L a xs := is_sq (is_mem h)
/-- new lists of ints -/
def pool (ps : List Addr) (bs : List (List Int)) : Own := List.zipWith (fun p b => (p, HO.lst (b.map V.int))) ps bs
theorem pool_len (ps : List Addr) (bs : List (List Int)) : (pool ps bs).length = min ps.length bs.length := List.length_zipWith
theorem pool_at {ps : List Addr} {bs : List (List Int)} {i : Nat} {b : List Int} (h1 : ps[i]? = some p) (h2 : bs[i]? = some b) : (pool ps bs)[i]? = some (p, .lst (b.map V.int)) := by
  unfold pool
  rw [List.getElem?_zipWith, h1, h2]
theorem pool_snoc {ps : List Addr} {bs : List (List Int)} (p : Addr) (b : List Int) (h : ps.length = bs.length) : pool (ps ++ [p]) (bs ++ [b]) = pool ps bs ++ [(p, .lst (b.map V.int))] := by
  unfold pool
  rw [List.zipWith_append h]; rfl
theorem pool_put (p : Addr) (b : List Int) : ∀ (ps : List Addr) (bs : List (List Int)) (i : Nat), ps[i]? = some p → (pool ps bs).set i (p, .lst (b.map V.int)) = pool ps (bs.set i b)
  | [], bs, i, h => by simp at h
  | q :: ps, [], i, h => by simp [pool]
  | q :: ps, b' :: bs, 0, h => by
    have e : q = p := Option.some.inj h
    subst e
    rfl
  | q :: ps, b' :: bs, i + 1, h => by
    have := pool_put p b ps bs i h
    unfold pool at this ⊢
    rw [List.zipWith_cons_cons, List.set_cons_succ, this, List.set_cons_succ, List.zipWith_cons_cons]
theorem flat_step {bs : List (List Int)} {i : Nat} (h : i < bs.length) : (bs.take (i + 1)).flatten = (bs.take i).flatten ++ bs[i] := by
  rw [take_step h, List.flatten_append, List.flatten_cons, List.flatten_nil, List.append_nil]
theorem flat_le (bs : List (List Int)) (i : Nat) : (bs.take i).flatten.length ≤ bs.flatten.length := by
  have h1 : bs.flatten = (bs.take i).flatten ++ (bs.drop i).flatten := by rw [← List.flatten_append, List.take_append_drop]
  rw [h1, List.length_append]; omega
/-- a value that is a list of ints -/
def LiAt (B : Hp) (L : Own) (v : V) (b : List Int) : Prop := ∃ p, v = .ref p ∧ Is B L p (.lst (b.map V.int))
theorem LiAt.sub {b : List Int} (h : LiAt B L v b) (s : L.Sublist L') : LiAt B L' v b := by
  obtain ⟨p, e, h⟩ := h
  exact ⟨p, e, h.sub s⟩
theorem LiAt.mono {b : List Int} (h : LiAt B L v b) (s : Same B B') : LiAt B' L v b := by
  obtain ⟨p, e, h⟩ := h
  exact ⟨p, e, h.mono s⟩
theorem LiAt.da {b : List Int} (h : LiAt B L v b) : Da K B L v (.list (b.map PyData.int)) := by
  obtain ⟨p, rfl, h⟩ := h
  exact da_ints (is_sq h)
abbrev Lis (B : Hp) (L : Own) (vs : List V) (bs : List (List Int)) : Prop := All2 (LiAt B L) vs bs
theorem Lis.sub {bs : List (List Int)} (h : Lis B L xs bs) (s : L.Sublist L') : Lis B L' xs bs := h.imp fun _ _ x => x.sub s
theorem Lis.mono {bs : List (List Int)} (h : Lis B L xs bs) (s : Same B B') : Lis B' L xs bs := h.imp fun _ _ x => x.mono s
theorem lis_pool {ps : List Addr} {bs : List (List Int)} (e : ps.length = bs.length) : Lis B (L' ++ (pool ps bs ++ L)) (ps.map V.ref) bs := by
  refine ⟨by rw [List.length_map, e], fun i x b h1 h2 => ?_⟩
  rw [List.getElem?_map] at h1
  cases h3 : ps[i]? with
  | none => rw [h3] at h1; cases h1
  | some p =>
    rw [h3] at h1
    cases h1
    exact ⟨p, rfl, is_mem (List.mem_append_right _ (List.mem_append_left _ (List.mem_of_getElem? (pool_at h3 h2))))⟩
theorem lis_pool0 {ps : List Addr} {bs : List (List Int)} (e : ps.length = bs.length) : Lis B (pool ps bs ++ L) (ps.map V.ref) bs := lis_pool (L' := []) e
theorem pool_mem {ps : List Addr} {bs : List (List Int)} {b : List Int} (i : Nat) (S : Own) (h1 : ps[i]? = some p) (h2 : bs[i]? = some b) : Is B (S ++ (pool ps bs ++ G)) p (.lst (b.map V.int)) :=
  is_mem (List.mem_append_right _ (List.mem_append_left _ (List.mem_of_getElem? (pool_at h1 h2))))
/-- new lists that are changed no more -/
theorem n_freezeAll : ∀ (ps : List Addr) (bs : List (List Int)) {B : Hp} (e : ps.length = bs.length) (_ : ∀ B', Same B B' → Lis B' [] (ps.map V.ref) bs → N B' L k), N B (pool ps bs ++ L) k
  | [], [], B, e, q => q B (Same.refl _) .nil
  | [], b :: bs, B, e, q => by simp at e
  | p :: ps, [], B, e, q => by simp at e
  | p :: ps, b :: bs, B, e, q => by
    refine n_freeze 0 rfl fun B1 sm1 h1 => ?_
    refine n_freezeAll ps bs (Nat.succ.inj e) fun B2 sm2 h2 => q B2 (sm1.trans sm2) (.cons ⟨p, rfl, is_old (sm2 _ _ h1)⟩ h2)
def dLi (b : List Int) : PyData := .list (b.map PyData.int)
def dLis (bs : List (List Int)) : PyData := .list (bs.map dLi)
theorem da_lis {bs : List (List Int)} (h : Sq K B L a xs) (hv : Lis B L xs bs) : Da K B L (.ref a) (dLis bs) := da_lst h (daA_of (hv.map dLi fun _ _ x => x.da))
theorem cmp_li (b : List Int) : Cmp 1 (dLi b) := Cmp.list (Cmp.map fun _ _ => Cmp.int)
theorem cmp_lis (bs : List (List Int)) : Cmp 2 (dLis bs) := Cmp.list (Cmp.map fun b _ => cmp_li b)
/-- a list of values of one kind, walked; nothing of them is changed -/
theorem n_lpP {α : Type} {R : V → α → Prop} (ds : List α) (Pv : Nat → St → Own → Prop) (ho : All2 R xs ds) (hq : ∀ i σ L, i ≤ ds.length → Pv i σ L → Sq K B L a xs) (h0 : Pv 0 σ L)
    (hs : ∀ i σ L v (hi : i < ds.length), Pv i σ L → R v ds[i] → N B L (fun H => g v σ H fun σ2 H2 => ts (loE D (KI B (Pv (i + 1)))) σ2 H2))
    (hd : ∀ σ L, Pv ds.length σ L → N B L (D.nx σ)) : N B L (fun H => IL K (Lp g ts D σ) (.ref a) H) := by
  have e := ho.len
  refine n_lpL (xs := xs) Pv (fun i σ L h p => hq i σ L (by omega) p) h0 (fun i σ L hi p => ?_) (fun σ L p => hd σ L (by rw [← e]; exact p))
  obtain ⟨q, e1, e2⟩ := ho.at (i := i) (by omega)
  rw [List.getElem?_eq_getElem hi] at e1
  rw [Option.some.inj e1]
  exact hs i σ L q (by omega) p e2
theorem n_lpEP {α : Type} {R : V → α → Prop} {n m : Nat} (ds : List α) (Pv : Nat → St → Own → Prop) (ho : All2 R xs ds) (hq : ∀ i σ L, i ≤ ds.length → Pv i σ L → Sq K B L a xs) (h0 : Pv 0 σ L)
    (hs : ∀ (i : Nat) σ L v (hi : i < ds.length), Pv i σ L → R v ds[i] → N B L (fun H => ts (loE D (KI B (Pv (i + 1)))) ((σ.set n (some (.int i))).set m (some v)) H))
    (hd : ∀ σ L, Pv ds.length σ L → N B L (D.nx σ)) : N B L (fun H => IE K (Lp (gTup K 2 (gCons (gName n) (gCons (gName m) gNil))) ts D σ) [.ref a] H) := by
  have e := ho.len
  refine n_lpE (xs := xs) Pv (fun i σ L h p => hq i σ L (by omega) p) h0 (fun i σ L hi p => ?_) (fun σ L p => hd σ L (by rw [← e]; exact p))
  obtain ⟨q, e1, e2⟩ := ho.at (i := i) (by omega)
  rw [List.getElem?_eq_getElem hi] at e1
  rw [Option.some.inj e1]
  exact hs i σ L q (by omega) p e2
theorem mix_at {α : Type} (f : α → α) {bs : List α} {i : Nat} (h : i < bs.length) : ((bs.take i).map f ++ bs.drop i)[i]? = some bs[i] := by
  have hl : ((bs.take i).map f).length = i := by rw [List.length_map, List.length_take]; omega
  rw [List.getElem?_append_right (by omega), hl, Nat.sub_self, List.drop_eq_getElem_cons h]; rfl
theorem mix_set {α : Type} (f : α → α) {bs : List α} {i : Nat} (h : i < bs.length) : ((bs.take i).map f ++ bs.drop i).set i (f bs[i]) = (bs.take (i + 1)).map f ++ bs.drop (i + 1) := by
  have hl : ((bs.take i).map f).length = i := by rw [List.length_map, List.length_take]; omega
  rw [List.set_append_right _ _ (by omega), hl, Nat.sub_self, List.drop_eq_getElem_cons h, List.set_cons_zero, take_step h, List.map_append, List.append_assoc]; rfl
/-- one of many new lists grows -/
theorem n_appendP {ps : List Addr} {bs : List (List Int)} {b : List Int} (i : Nat) (S : Own) (h1 : ps[i]? = some l) (h2 : bs[i]? = some b) (hz : b.length < sizeLine) (q : N B (S ++ (pool ps (bs.set i (b ++ [j])) ++ G)) (Q .non)) :
    N B (S ++ (pool ps bs ++ G)) (fun H => rAppend (.ref l) [.int j] H Q) := by
  have hp := pool_at (p := l) h1 h2
  have hlt := (List.getElem?_eq_some_iff.mp hp).1
  refine n_appendLi (n := S.length + i) ((get_app _ _ S).trans ?_) hz ?_
  · rw [List.getElem?_append_left hlt]; exact hp
  · rw [set_app, List.set_append_left _ _ hlt, pool_put l (b ++ [j]) ps bs i h1]
    exact q
end
/-! ### comprehensions, the base grown -/
section
variable {B B' B0 H H' : Hp} {L L' : Own} {p a : Addr} {o : HO} {i : Nat} {K : PySem.W.Frag} {xs : List V} {v y : V} {d : PyData} {k : Hp → Prop} {σ : St} {D : Ends} {t : TT} {g : TG} {ns : List Int} {j lo : Int} {tt : TT} {te : TE} {vs : List Nat} {Q : VK}
/-- behind an element: what is put, or nothing -/
def PutB (B : Hp) (D : Addr) (P : Hp → List V → Own → Prop) (y : V) (H4 : Hp) : Prop := ∃ acc, H4 D = some (.lst acc) ∧ acc.length < sizeLine ∧ ∃ B2 L, Same B B2 ∧ SI B2 L (upd H4 D (.lst (acc ++ [y]))) ∧ ∃ a L', L = (D, .lst a) :: L' ∧ P B2 a L'
def NoPutB (B : Hp) (D : Addr) (P : Hp → List V → Own → Prop) (H3 : Hp) : Prop := ∃ B2 L, Same B B2 ∧ SI B2 L H3 ∧ ∃ a L', L = (D, .lst a) :: L' ∧ P B2 a L'
theorem lc_coreB {J : It} (n : Nat) (yl : Nat → V) (Pv : Nat → Hp → List V → Own → Prop)
    (hgo : ∀ i B' acc L H, Same B B' → Pv i B' acc L → i < n → SI B' L H → J.go i H) (hst : ∀ B' acc L H, Same B B' → Pv n B' acc L → SI B' L H → J.stop n H) (hy : ∀ i B' acc L H x H', Same B B' → Pv i B' acc L → i < n → SI B' L H → J.yld i H x H' → H' = H ∧ x = yl i)
    (h0 : Pv 0 B [] L) (hs : ∀ i B' acc L D, Same B B' → i < n → Pv i B' acc L → N B' ((D, .lst acc) :: L) (fun H => g (yl i) (wipe σ vs) H fun σ2 H2 => wipe σ2 vs = wipe σ vs ∧ tt σ2 H2 fun b H3 =>
      if b = true then te σ2 H3 (PutB B' D (Pv (i + 1))) else NoPutB B' D (Pv (i + 1)) H3))
    (hd : ∀ B' acc L D, Same B B' → Pv n B' acc L → N B' ((D, .lst acc) :: L) (Q (.ref D))) : N B L (fun H => Lc g tt te vs σ Q J H) := by
  intro H s D hD
  have e0 : ∀ {B : Hp} {a : List V} {L : Own} {H : Hp}, SI B ((D, .lst a) :: L) H → SI B L H := fun s => s.sub (List.sublist_cons_self _ _)
  refine ⟨fun i m H => m = n - i ∧ i ≤ n ∧ ∃ B' L, Same B B' ∧ SI B' L H ∧ ∃ a L', L = (D, .lst a) :: L' ∧ Pv i B' a L', ⟨n, by omega, Nat.zero_le _, B, _, Same.refl _, s.new hD, [], L, rfl, h0⟩, ?_⟩
  rintro i m H ⟨rfl, hi, B', _, sm, s, acc, L', rfl, p⟩
  by_cases hlt : i < n
  · refine .inr ⟨hgo i B' acc L' H sm p hlt (e0 s), fun H' => ∃ B2 L, Same B' B2 ∧ SI B2 L H' ∧ ∃ a L', L = (D, .lst a) :: L' ∧ Pv (i + 1) B2 a L', fun H' ⟨B2, L2, sm2, s2, r⟩ => ⟨n - (i + 1), by omega, rfl, hlt, B2, L2, sm.trans sm2, s2, r⟩, fun x H' hx => ?_⟩
    obtain ⟨rfl, rfl⟩ := hy i B' acc L' H x H' sm p hlt (e0 s) hx
    exact hs i B' acc L' D sm hlt p _ s
  · have e : i = n := by omega
    subst e
    exact .inl ⟨hst B' acc L' H sm p (e0 s), hd B' acc L' D sm p H s⟩
theorem n_putB {D : Addr} {acc : List V} {L4 : Own} {P : Hp → List V → Own → Prop} (sm : Same B0 B) (Lm : Own) (e : L = Lm ++ (D, .lst acc) :: L4) (hz : acc.length < sizeLine) (h : P B (acc ++ [y]) L') (s : L'.Sublist (Lm ++ L4)) : N B L (PutB B0 D P y) := by
  subst e
  intro H x
  obtain ⟨a, b⟩ := put_upd (y := y) x
  exact ⟨acc, a, hz, B, _, sm, b.sub (s.cons₂ _), _, _, rfl, h⟩
theorem n_noputB {D : Addr} {acc : List V} {L4 : Own} {P : Hp → List V → Own → Prop} (sm : Same B0 B) (Lm : Own) (e : L = Lm ++ (D, .lst acc) :: L4) (h : P B acc L') (s : L'.Sublist (Lm ++ L4)) : N B L (NoPutB B0 D P) := by
  subst e
  intro H x
  have s2 : SI B ((D, .lst acc) :: (Lm ++ L4)) H := x.perm List.perm_middle
  exact ⟨B, _, sm, s2.sub (s.cons₂ _), _, _, rfl, h⟩
theorem n_lcLB (xs : List V) (Pv : Nat → Hp → List V → Own → Prop) (hq : ∀ i B' acc L, Same B B' → i ≤ xs.length → Pv i B' acc L → Sq K B' L a xs) (h0 : Pv 0 B [] L)
    (hs : ∀ i B' acc L D (hi : i < xs.length), Same B B' → Pv i B' acc L → N B' ((D, .lst acc) :: L) (fun H => g xs[i] (wipe σ vs) H fun σ2 H2 => wipe σ2 vs = wipe σ vs ∧ tt σ2 H2 fun b H3 =>
      if b = true then te σ2 H3 (PutB B' D (Pv (i + 1))) else NoPutB B' D (Pv (i + 1)) H3))
    (hd : ∀ B' acc L D, Same B B' → Pv xs.length B' acc L → N B' ((D, .lst acc) :: L) (Q (.ref D))) : N B L (fun H => IL K (Lc g tt te vs σ Q) (.ref a) H) := by
  intro H s
  refine ⟨a, rfl, ⟨xs, hq 0 B [] L (Same.refl _) (Nat.zero_le _) h0 H s⟩, ?_⟩
  refine lc_coreB (J := Itl K a) xs.length (fun i => xs.getD i .non) Pv (fun i B' σ L H sm p hi s => ⟨xs, xs[i], hq i B' σ L sm (Nat.le_of_lt hi) p H s, List.getElem?_eq_getElem hi⟩) (fun B' σ L H sm p s => ⟨xs, hq _ B' σ L sm (Nat.le_refl _) p H s, Nat.le_refl _⟩) ?_ h0 ?_ hd H s
  · rintro i B' σ L H x H' sm p hi s ⟨e, hx⟩
    have := hx xs (hq i B' σ L sm (Nat.le_of_lt hi) p H s)
    refine ⟨e, ?_⟩
    rw [List.getElem?_eq_getElem hi] at this
    show x = xs.getD i .non
    rw [List.getD_eq_getElem?_getD, List.getElem?_eq_getElem hi]
    exact (Option.some.inj this).symm
  · intro i B' acc L D sm hi p
    have e : xs.getD i .non = xs[i] := by rw [List.getD_eq_getElem?_getD, List.getElem?_eq_getElem hi]; rfl
    show N B' _ (fun H => g (xs.getD i .non) (wipe σ vs) H _)
    rw [e]
    exact hs i B' acc L D hi sm p
/-- .. over a list of values of one kind -/
theorem n_lcPB {α : Type} {R : V → α → Prop} (ds : List α) (Pv : Nat → Hp → List V → Own → Prop) (ho : All2 R xs ds) (hq : ∀ i B' acc L, Same B B' → i ≤ ds.length → Pv i B' acc L → Sq K B' L a xs) (h0 : Pv 0 B [] L)
    (hs : ∀ i B' acc L D v (hi : i < ds.length), Same B B' → Pv i B' acc L → R v ds[i] → N B' ((D, .lst acc) :: L) (fun H => g v (wipe σ vs) H fun σ2 H2 => wipe σ2 vs = wipe σ vs ∧ tt σ2 H2 fun b H3 =>
      if b = true then te σ2 H3 (PutB B' D (Pv (i + 1))) else NoPutB B' D (Pv (i + 1)) H3))
    (hd : ∀ B' acc L D, Same B B' → Pv ds.length B' acc L → N B' ((D, .lst acc) :: L) (Q (.ref D))) : N B L (fun H => IL K (Lc g tt te vs σ Q) (.ref a) H) := by
  have e := ho.len
  refine n_lcLB xs Pv (fun i B' acc L sm h p => hq i B' acc L sm (by omega) p) h0 (fun i B' acc L D hi sm p => ?_) (fun B' acc L D sm p => hd B' acc L D sm (by rw [← e]; exact p))
  obtain ⟨q, e1, e2⟩ := ho.at (i := i) (by omega)
  rw [List.getElem?_eq_getElem hi] at e1
  rw [Option.some.inj e1]
  exact hs i B' acc L D q (by omega) sm p e2
theorem n_lcRB {lo : Int} {n : Nat} (Pv : Nat → Hp → List V → Own → Prop) (h0 : Pv 0 B [] L)
    (hs : ∀ i B' acc L D, Same B B' → i < n → Pv i B' acc L → N B' ((D, .lst acc) :: L) (fun H => g (.int (lo + i)) (wipe σ vs) H fun σ2 H2 => wipe σ2 vs = wipe σ vs ∧ tt σ2 H2 fun b H3 =>
      if b = true then te σ2 H3 (PutB B' D (Pv (i + 1))) else NoPutB B' D (Pv (i + 1)) H3))
    (hd : ∀ B' acc L D, Same B B' → Pv n B' acc L → N B' ((D, .lst acc) :: L) (Q (.ref D))) : N B L (fun H => Lc g tt te vs σ Q (Itr lo n) H) :=
  lc_coreB (J := Itr lo n) n (fun i => .int (lo + i)) Pv (fun i B' σ L H sm p hi s => hi) (fun B' σ L H sm p s => Nat.le_refl _) (fun i B' σ L H x H' sm p hi s h => h) h0 hs hd
theorem n_lcR1B (Pv : Nat → Hp → List V → Own → Prop) (hb : -(2 ^ 62) ≤ j ∧ j < 2 ^ 62) (h0 : Pv 0 B [] L)
    (hs : ∀ (i : Nat) B' acc L D, Same B B' → (i : Int) < j → Pv i B' acc L → N B' ((D, .lst acc) :: L) (fun H => g (.int i) (wipe σ vs) H fun σ2 H2 => wipe σ2 vs = wipe σ vs ∧ tt σ2 H2 fun b H3 =>
      if b = true then te σ2 H3 (PutB B' D (Pv (i + 1))) else NoPutB B' D (Pv (i + 1)) H3))
    (hd : ∀ B' acc L D, Same B B' → Pv j.toNat B' acc L → N B' ((D, .lst acc) :: L) (Q (.ref D))) : N B L (fun H => IR1 (Lc g tt te vs σ Q) [.int j] H) := fun H s => ⟨j, rfl, hb.1, hb.2,
  n_lcRB (lo := 0) (n := j.toNat) Pv h0 (fun i B' acc L D sm hi p => by rw [Int.zero_add]; exact hs i B' acc L D sm (by omega) p) hd H s⟩
end
end Sk
namespace Sk
open PySem PySem.Spec PyProof.Rows L2
/-! ### max(.., default=), list.index, list.pop(i) -/
/-- max(ns, default=n) -/
def mxD (n : Int) : List Int → Int
  | [] => n
  | x :: r => r.foldl max x
theorem foldl_max_spec : ∀ (r : List Int) (x : Int), (r.foldl max x ∈ x :: r) ∧ ∀ y ∈ x :: r, y ≤ r.foldl max x
  | [], x => ⟨List.mem_cons_self, fun y h => by rcases List.mem_cons.mp h with rfl | h; exact Int.le_refl _; cases h⟩
  | y :: r, x => by
    obtain ⟨h1, h2⟩ := foldl_max_spec r (max x y)
    rw [List.foldl_cons]
    refine ⟨?_, fun z hz => ?_⟩
    · rcases List.mem_cons.mp h1 with h | h
      · rw [h]
        by_cases e : x ≤ y
        · rw [show max x y = y by omega]; exact List.mem_cons_of_mem _ List.mem_cons_self
        · rw [show max x y = x by omega]; exact List.mem_cons_self
      · exact List.mem_cons_of_mem _ (List.mem_cons_of_mem _ h)
    · have h3 := h2 (max x y) List.mem_cons_self
      rcases List.mem_cons.mp hz with rfl | hz
      · omega
      · rcases List.mem_cons.mp hz with rfl | hz
        · omega
        · exact h2 z (List.mem_cons_of_mem _ hz)
theorem mxD_spec {ns : List Int} {n : Int} (h : ns ≠ []) : mxD n ns ∈ ns ∧ ∀ y ∈ ns, y ≤ mxD n ns := by
  cases ns with
  | nil => exact absurd rfl h
  | cons x r => exact foldl_max_spec r x
def rMaxDf (K : PySem.W.Frag) : List V → List V → Hp → VK → Prop := fun vs zs H Q => ∃ (a : Addr) (ns : List Int) (n : Int), vs = [V.ref a] ∧ zs = [.int n] ∧ SqL K H a (ns.map V.int) ∧ Q (.int (mxD n ns)) H
theorem depthAll_ints : ∀ ns : List Int, PyData.depthAll (ns.map PyData.int) ≤ 1
  | [] => by simp [PyData.depthAll]
  | n :: r => by
    have := depthAll_ints r
    simp only [List.map_cons, PyData.depthAll, PyData.depth]
    omega
theorem alikeAll_ints (ns : List Int) : PySem.W.AlikeAll (ns.map PyData.int) := by
  refine ⟨fun x hx y hy => ?_, fun x hx => ?_⟩
  · obtain ⟨i, _, rfl⟩ := List.mem_map.mp hx
    obtain ⟨j, _, rfl⟩ := List.mem_map.mp hy
    simp [PySem.W.alike]
  · obtain ⟨i, _, rfl⟩ := List.mem_map.mp hx
    intro h
    cases h
theorem cr_maxDf {X : Cx} (hc : X.calm = true) (hu : X.A.units + 64 < cLine) : CallRK X (.builtin "max") [Str.ofString "default"] (rMaxDf X.K) := by
  intro pins s σ H vs zs us ws Q I r rz h
  obtain ⟨a, ns, n, rfl, rfl, hs, q⟩ := h
  obtain rfl := Vals.ref1 r
  obtain ⟨w1, rfl, t, rfl⟩ := vals1 rz
  obtain ⟨its, rv, hl, hz⟩ := I.list hs
  obtain ⟨as, hr⟩ := Dp.readsAll I _ _ its (dpAll_ints ns) rv
  have hd := depthAll_ints ns
  show wpAny _ _ (call (.builtin "max") [.ref a] [(Str.ofString "default", Value.int n t)]) _ _ _
  refine PySem.W.max_list_default (I.ok.hd hc) hl.isList hr (alikeAll_ints ns) (by omega) (fun h0 h' tk k => ?_) (fun y ys i v h' tk bs e hv r k => ?_)
  · obtain rfl := List.map_eq_nil_iff.mp h0
    exact ⟨.int _, H, I.kept k, ⟨_, rfl⟩, q⟩
  · cases ns with
    | nil => cases e
    | cons m r' =>
      cases e
      rw [PySem.W.maxD_ints] at r
      cases r
      exact ⟨.int _, H, I.kept k, ⟨_, rfl⟩, q⟩
section
variable {B : Hp} {L : Own} {K : PySem.W.Frag} {a l : Addr} {xs : List V} {v : V} {ns : List Int} {i n : Int} {σ : St} {Q : VK} {m : Nat}
theorem n_ckw {r : List V → List V → Hp → VK → Prop} {t tk : TA} (q : N B L (fun H => t σ H fun vs H1 => tk σ H1 fun zs H2 => r vs zs H2 Q)) : N B L (fun H => tCKw r t tk σ H Q) := q
theorem n_maxDf (h : Sq K B L a (ns.map V.int)) (q : N B L (Q (.int (mxD n ns)))) : N B L (fun H => rMaxDf K [.ref a] [.int n] H Q) := fun H s => ⟨a, ns, n, rfl, rfl, h H s, q H s⟩
/-- the first place of an int that is there -/
theorem n_indexI (h : Sq K B L a (ns.map V.int)) (hm : i ∈ ns) (q : N B L (Q (.int (ns.idxOf i : Nat)))) : N B L (fun H => rIndex K (.ref a) [.int i] H Q) := by
  intro H s
  have hi := List.idxOf_lt_length_iff.mpr hm
  refine ⟨a, ns.map V.int, .int i, ns.idxOf i, .int i, rfl, rfl, h H s, rfl, ?_, ?_, ?_, fun k z' hk hz => ?_, q H s⟩
  · rw [List.all_map]
    exact List.all_eq_true.mpr fun x _ => rfl
  · rw [List.getElem?_map, List.getElem?_eq_getElem hi, List.getElem_idxOf hi]; rfl
  · simp [eqV]
  · rw [List.getElem?_map] at hz
    have hkl : k < ns.length := by omega
    rw [List.getElem?_eq_getElem hkl] at hz
    obtain rfl := Option.some.inj hz
    have := List.not_of_lt_findIdx (p := (· == i)) (xs := ns) (i := k) hk
    simpa [eqV] using this
theorem n_popAt {k : Nat} {j : Int} (hi : L[m]? = some (l, .lst xs)) (h0 : 0 ≤ j) (h1 : j < xs.length) (hz : xs.length ≤ 2 ^ 62) (hk : xs[j.toNat]? = some v) (q : N B (L.set m (l, .lst (xs.eraseIdx j.toNat))) (Q v)) : N B L (fun H => rPopAt (.ref l) [.int j] H Q) :=
  fun H s => ⟨l, xs, j, j.toNat, v, rfl, rfl, s.at hi, by omega, by omega, by unfold seqIndex?; simp; omega, hk, q _ (s.set hi)⟩
end
end Sk
namespace Sk
open PySem PySem.Spec PyProof.Rows L2
/-! ### texts -/
abbrev strI (i : Int) : Str := toString i
def rLenS : List V → Hp → VK → Prop := fun xs H Q => ∃ z : Str, xs = [.str z] ∧ z.length ≤ sizeLine ∧ Q (.int z.length) H
def rIntS : List V → Hp → VK → Prop := fun xs H Q => ∃ (a : Str) (n : Int), xs = [.str a] ∧ PySem.intText? a = some n ∧ a.length ≤ 640 ∧ Q (.int n) H
def rStrI : List V → Hp → VK → Prop := fun xs H Q => ∃ i : Int, xs = [.int i] ∧ i.natAbs.log2 < 1920 ∧ Q (.str (strI i)) H
def rInSg : R2 := fun x y H Q => ∃ (c : Nat) (z : Str), x = .str ⟨#[c]⟩ ∧ y = .str z ∧ Q (.bl (decide (c ∈ z.cps.toList))) H
def rNiSg : R2 := fun x y H Q => ∃ (c : Nat) (z : Str), x = .str ⟨#[c]⟩ ∧ y = .str z ∧ Q (.bl (!decide (c ∈ z.cps.toList))) H
def rSplit : V → List V → Hp → VK → Prop := fun x xs H Q => ∃ (a b : Str), x = .str a ∧ xs = [.str b] ∧ (b.length == 0) = false ∧ a.length + 2 ≤ sizeLine ∧ rNewStrs (Txt.split a b) H Q
def rJoin (K : PySem.W.Frag) : V → List V → Hp → VK → Prop := fun x xs H Q => ∃ (a : Str) (p : Addr), ∃ ys : List Str, x = .str a ∧ xs = [.ref p] ∧ (SqL K H p (ys.map V.str) ∨ SqT K H p (ys.map V.str)) ∧ (ys.map (·.length)).sum + ys.length * a.length ≤ 16777216 ∧ Q (.str (Txt.join a ys)) H
section
variable {X : Cx}
theorem cr_lenS : CallR X (.builtin "len") rLenS := call_len_str
theorem cr_intS : CallR X (.type "int") rIntS := call_int_str
theorem cr_strI : CallR X (.type "str") rStrI := call_str_int
theorem op_inSg : OpR X (compareOp .In) rInSg := op_in_sign
theorem op_niSg : OpR X (compareOp .NotIn) rNiSg := op_notIn_sign
theorem mr_split : MtR X "str.split" rSplit := mt_split
theorem mr_join : MtR X "str.join" (rJoin X.K) := mt_join
end
section
variable {B : Hp} {L : Own} {K : PySem.W.Frag} {p : Addr} {a b z : Str} {ys : List Str} {i : Int} {n : Nat} {σ : St} {Q : VK} {k : Hp → Prop} {D : Ends} {ts : TS} {g : TG} {c : Nat}
theorem n_m1 {r : V → List V → Hp → VK → Prop} {to te : TE} (q : N B L (fun H => to σ H fun x H1 => (∃ a, x = .str a) ∧ te σ H1 fun y H2 => r x [y] H2 Q)) : N B L (fun H => tM1 r to te σ H Q) := q
theorem n_isS (q : N B L k) : N B L (fun H => (∃ a, V.str z = .str a) ∧ k H) := fun H s => ⟨⟨z, rfl⟩, q H s⟩
theorem n_lenS (hz : z.length ≤ sizeLine) (q : N B L (Q (.int z.length))) : N B L (fun H => rLenS [.str z] H Q) := fun H s => ⟨z, rfl, hz, q H s⟩
theorem n_intS (hi : PySem.intText? a = some i) (hz : a.length ≤ 640) (q : N B L (Q (.int i))) : N B L (fun H => rIntS [.str a] H Q) := fun H s => ⟨a, i, rfl, hi, hz, q H s⟩
theorem n_strI (hz : i.natAbs.log2 < 1920) (q : N B L (Q (.str (strI i)))) : N B L (fun H => rStrI [.int i] H Q) := fun H s => ⟨i, rfl, hz, q H s⟩
theorem n_inSg (q : N B L (Q (.bl (decide (c ∈ z.cps.toList))))) : N B L (fun H => rInSg (.str ⟨#[c]⟩) (.str z) H Q) := fun H s => ⟨c, z, rfl, rfl, q H s⟩
theorem n_niSg (q : N B L (Q (.bl (!decide (c ∈ z.cps.toList))))) : N B L (fun H => rNiSg (.str ⟨#[c]⟩) (.str z) H Q) := fun H s => ⟨c, z, rfl, rfl, q H s⟩
theorem n_split (hb : (b.length == 0) = false) (hz : a.length + 2 ≤ sizeLine) (q : ∀ p, N B ((p, .lst ((Txt.split a b).map V.str)) :: L) (Q (.ref p))) : N B L (fun H => rSplit (.str a) [.str b] H Q) :=
  fun H s => ⟨a, b, rfl, rfl, hb, hz, fun p hp => q p _ (s.new hp)⟩
theorem n_join (h : Sq K B L p (ys.map V.str)) (hz : (ys.map (·.length)).sum + ys.length * a.length ≤ 16777216) (q : N B L (Q (.str (Txt.join a ys)))) : N B L (fun H => rJoin K (.str a) [.ref p] H Q) :=
  fun H s => ⟨a, p, ys, rfl, rfl, .inl (h H s), hz, q H s⟩
theorem n_ixS (hz : z.length ≤ sizeLine) (hc : atI z.cps.toList i = some c) (q : N B L (Q (.str ⟨#[c]⟩))) : N B L (fun H => rIx K (.str z) (.int i) H Q) := fun H s => .inr (.inr ⟨z, i, c, rfl, rfl, hz, hc, q H s⟩)
theorem n_iStr {te : TE} {R : It → Hp → Prop} (q : N B L (fun H => te σ H fun v H1 => ∃ x, v = .str x ∧ R (Its x) H1)) : N B L (fun H => iStr te σ H R) := q
/-- a text walked, sign by sign -/
theorem n_lpS (Pv : Nat → St → Own → Prop) (h0 : Pv 0 σ L)
    (hs : ∀ i σ L (hi : i < z.cps.toList.length), Pv i σ L → N B L (fun H => g (.str ⟨#[z.cps.toList[i]]⟩) σ H fun σ2 H2 => ts (loE D (KI B (Pv (i + 1)))) σ2 H2))
    (hd : ∀ σ L, Pv z.cps.toList.length σ L → N B L (D.nx σ)) : N B L (fun H => ∃ x, V.str z = .str x ∧ Lp g ts D σ (Its x) H) := by
  intro H s
  refine ⟨z, rfl, ?_⟩
  refine lp_core (J := Its z) z.cps.toList.length (fun i => .str ⟨#[z.cps.toList.getD i 0]⟩) Pv (fun i σ L H p hi s => ?_) (fun σ L H p s => ?_) (fun i σ L H x H' p hi s h => ?_) h0 (fun i σ L hi p => ?_) hd H s
  · show i < z.cps.size
    rwa [← Array.length_toList]
  · show z.cps.size ≤ _
    rw [← Array.length_toList]; exact Nat.le_refl _
  · obtain ⟨e, c, hc, hx⟩ := h
    refine ⟨e, ?_⟩
    rw [hx, List.getD_eq_getElem?_getD, Array.getElem?_toList, hc]; rfl
  · have e : z.cps.toList.getD i 0 = z.cps.toList[i] := by rw [List.getD_eq_getElem?_getD, List.getElem?_eq_getElem hi]; rfl
    show N B L (fun H => g (.str ⟨#[z.cps.toList.getD i 0]⟩) σ H _)
    rw [e]
    exact hs i σ L hi p
theorem n_strIs (h0 : 0 ≤ i) (h1 : i < 2 ^ 62) (q : N B L (Q (.str (strI i)))) : N B L (fun H => rStrI [.int i] H Q) := n_strI (by
  have h2 : i.natAbs < 2 ^ 62 := by omega
  by_cases e : i.natAbs = 0
  · rw [e]; decide
  · have := (Nat.log2_lt e).mpr h2
    omega) q
theorem strs_len {b : Nat} : ∀ {ys : List Str}, (∀ y ∈ ys, y.length ≤ b) → (ys.map (·.length)).sum ≤ b * ys.length
  | [], _ => Nat.le_refl _
  | y :: ys, h => by
    have h1 := h y List.mem_cons_self
    have h2 := strs_len (ys := ys) fun z hz => h z (List.mem_cons_of_mem _ hz)
    rw [List.map_cons, List.sum_cons, List.length_cons, Nat.mul_add]
    omega
end
section
variable {B : Hp} {L : Own} {K : PySem.W.Frag} {a : Addr} {σ : St} {Q : VK} {te : TE} {vs : List Nat} {m : Nat}
/-- [e for x in xs], nothing else changed -/
theorem n_lcG (xs ys : List V) (e : xs.length = ys.length) (hb : xs.length ≤ 100000) (hq : Sq K B L a xs) (hw : ∀ x, wipe ((wipe σ vs).set m x) vs = wipe σ vs)
    (he : ∀ (i : Nat) D acc (Q' : VK) (h1 : i < xs.length) (h2 : i < ys.length), N B ((D, .lst acc) :: L) (Q' ys[i]) → N B ((D, .lst acc) :: L) (fun H => te ((wipe σ vs).set m (some xs[i])) H Q'))
    (hd : ∀ D, N B ((D, .lst ys) :: L) (Q (.ref D))) : N B L (fun H => IL K (Lc (gName m) tYes te vs σ Q) (.ref a) H) := by
  refine n_lcL (xs := xs) (fun i acc L' => acc = ys.take i ∧ L' = L) (fun i acc L' _ p => by rw [p.2]; exact hq) ⟨rfl, rfl⟩ ?_ ?_
  · rintro i acc L' D hi ⟨rfl, rfl⟩
    have h2 : i < ys.length := by omega
    refine n_gName ?_
    refine n_wiped (hw _) ?_
    refine n_yes ?_
    refine he i D _ _ hi h2 ?_
    refine n_put [] rfl (by rw [List.length_take, sizeLine_eq]; omega) ⟨?_, rfl⟩ (.refl _)
    rw [take_step h2]
  · rintro acc L' D ⟨rfl, rfl⟩
    rw [e, List.take_length]
    exact hd D
end
end Sk
namespace Sk
open PySem PySem.Spec PyProof.Rows L2
/-! ### dicts -/
def DgK (Q : VK) (x y : V) (H : Hp) : Prop := ∃ a v, x = .ref a ∧ DGet H a y (some v) ∧ Q v H
def DinK (Q : VK) (y x : V) (H : Hp) : Prop := ∃ a o, x = .ref a ∧ DGet H a y o ∧ Q (.bl o.isSome) H
def DniK (Q : VK) (y x : V) (H : Hp) : Prop := ∃ a o, x = .ref a ∧ DGet H a y o ∧ Q (.bl (!o.isSome)) H
def DpK (v : V) (k : Hp → Prop) (x y : V) (H : Hp) : Prop := ∃ a H4, x = .ref a ∧ DPut H a y v H4 ∧ k H4
def Da2 (a : Addr) (y : V) (k : Hp → Prop) (z : V) (H4 : Hp) : Prop := ∃ H5, DPut H4 a y z H5 ∧ k H5
def DaK (tv : TE) (rd : V → V → Hp → VK → Prop) (σ : St) (k : Hp → Prop) (x y : V) (H : Hp) : Prop := ∃ a v, x = .ref a ∧ DGet H a y (some v) ∧ tv σ H fun y2 H3 => rd v y2 H3 (Da2 a y k)
def Dg1 (ty : TE) (σ : St) (Q : VK) (x : V) (H1 : Hp) : Prop := ∃ a, x = .ref a ∧ IsD H1 a ∧ ty σ H1 fun y H2 => ∃ o, DGet H2 a y o ∧ Q (o.getD .non) H2
def Dg2b (a : Addr) (Q : VK) (y z : V) (H3 : Hp) : Prop := ∃ o, DGet H3 a y o ∧ Q (o.getD z) H3
def Dg2 (ty tx : TE) (σ : St) (Q : VK) (x : V) (H1 : Hp) : Prop := ∃ a, x = .ref a ∧ IsD H1 a ∧ ty σ H1 fun y H2 => tx σ H2 fun z H3 => Dg2b a Q y z H3
def Dp1b (a : Addr) (Q : VK) (y : V) (H2 : Hp) : Prop := ∃ kvs k v, H2 a = some (.dK kvs) ∧ y = kV k ∧ valV kvs k = some v ∧ Q v (upd H2 a (.dK (dropK kvs k)))
def Dp1 (ty : TE) (σ : St) (Q : VK) (x : V) (H1 : Hp) : Prop := ∃ a, x = .ref a ∧ IsD H1 a ∧ ty σ H1 (Dp1b a Q)
section
variable {B : Hp} {L : Own} {σ : St} {Q : VK} {td ty tv tx : TE} {d p : Addr} {kvs : List (Key × V)} {tvs : List (List Key × V)} {i : Int} {s : Str} {v x y z : V} {k : Hp → Prop} {D : Ends} {tz : TS} {n : Nat} {rd : V → V → Hp → VK → Prop} {ks : List Key} {o : Option V} {b : Bool}
theorem n_dnew (q : ∀ p, N B ((p, .dK []) :: L) (Q (.ref p))) : N B L (fun H => tDNewK σ H Q) := fun H s p hp => q p _ (s.new hp)
theorem n_dnewT (q : ∀ p, N B ((p, .dT []) :: L) (Q (.ref p))) : N B L (fun H => tDNewT σ H Q) := fun H s p hp => q p _ (s.new hp)
theorem n_dget (q : N B L (fun H => td σ H fun x H1 => ty σ H1 fun y H2 => DgK Q x y H2)) : N B L (fun H => tDGet td ty σ H Q) := q
theorem n_din (q : N B L (fun H => ty σ H fun y H1 => td σ H1 fun x H2 => DinK Q y x H2)) : N B L (fun H => tDIn ty td σ H Q) := q
theorem n_dni (q : N B L (fun H => ty σ H fun y H1 => td σ H1 fun x H2 => DniK Q y x H2)) : N B L (fun H => tDNotIn ty td σ H Q) := q
theorem n_asgD (q : N B L (fun H => tv σ H fun v H1 => td σ H1 fun x H2 => ty σ H2 fun y H3 => DpK v (tz D σ) x y H3)) : N B L (fun H => tSeq (sDPut td ty tv) tz D σ H) := q
theorem n_asgDa (q : N B L (fun H => td σ H fun x H1 => ty σ H1 fun y H2 => DaK tv rd σ (tz D σ) x y H2)) : N B L (fun H => tSeq (sDAug td ty tv rd) tz D σ H) := q
theorem n_dg1 (q : N B L (fun H => td σ H (Dg1 ty σ Q))) : N B L (fun H => tDGet1 td ty σ H Q) := q
theorem n_dg2 (q : N B L (fun H => td σ H (Dg2 ty tx σ Q))) : N B L (fun H => tDGet2 td ty tx σ H Q) := q
theorem n_dp1 (q : N B L (fun H => td σ H (Dp1 ty σ Q))) : N B L (fun H => tDPop1 td ty σ H Q) := q
/-! int keys -/
theorem dget_i {H : Hp} (h : H d = some (.dK kvs)) : DGet H d (.int i) (valV kvs (Sum.inl i)) := DGet.k (k := Sum.inl i) h
theorem n_dgI (h : Is B L d (.dK kvs)) (e : valV kvs (Sum.inl i) = some v) (q : N B L (Q v)) : N B L (fun H => DgK Q (.ref d) (.int i) H) := fun H s => ⟨d, v, rfl, by rw [← e]; exact dget_i (h H s), q H s⟩
theorem n_dinI (h : Is B L d (.dK kvs)) (q : N B L (Q (.bl (valV kvs (Sum.inl i)).isSome))) : N B L (fun H => DinK Q (.int i) (.ref d) H) := fun H s => ⟨d, _, rfl, dget_i (h H s), q H s⟩
theorem n_dniI (h : Is B L d (.dK kvs)) (q : N B L (Q (.bl (!(valV kvs (Sum.inl i)).isSome)))) : N B L (fun H => DniK Q (.int i) (.ref d) H) := fun H s => ⟨d, _, rfl, dget_i (h H s), q H s⟩
theorem n_dpI (hi : L[n]? = some (d, .dK kvs)) (hl : kvs.length < sizeLine) (q : N B (L.set n (d, .dK (putK kvs (Sum.inl i) v))) k) : N B L (fun H => DpK v k (.ref d) (.int i) H) :=
  fun H s => ⟨d, _, rfl, DPut.k (k := Sum.inl i) (s.at hi) hl, q _ (s.set hi)⟩
theorem n_daI (h : Is B L d (.dK kvs)) (e : valV kvs (Sum.inl i) = some v) (q : N B L (fun H => tv σ H fun y2 H3 => rd v y2 H3 (Da2 d (.int i) k))) : N B L (fun H => DaK tv rd σ k (.ref d) (.int i) H) := fun H s => ⟨d, v, rfl, by rw [← e]; exact dget_i (h H s), q H s⟩
theorem n_da2I (hi : L[n]? = some (d, .dK kvs)) (hl : kvs.length < sizeLine) (q : N B (L.set n (d, .dK (putK kvs (Sum.inl i) v))) k) : N B L (fun H => Da2 d (.int i) k v H) :=
  fun H s => ⟨_, DPut.k (k := Sum.inl i) (s.at hi) hl, q _ (s.set hi)⟩
theorem n_dg1K (h : Is B L d (.dK kvs)) (q : N B L (fun H => ty σ H fun y H2 => ∃ o, DGet H2 d y o ∧ Q (o.getD .non) H2)) : N B L (fun H => Dg1 ty σ Q (.ref d) H) := fun H s => ⟨d, rfl, .inl ⟨_, .inl (h H s)⟩, q H s⟩
theorem n_dg1I (h : Is B L d (.dK kvs)) (q : N B L (Q ((valV kvs (Sum.inl i)).getD .non))) : N B L (fun H => ∃ o, DGet H d (.int i) o ∧ Q (o.getD .non) H) := fun H s => ⟨_, dget_i (h H s), q H s⟩
theorem n_dg2K (h : Is B L d (.dK kvs)) (q : N B L (fun H => ty σ H fun y H2 => tx σ H2 fun z H3 => Dg2b d Q y z H3)) : N B L (fun H => Dg2 ty tx σ Q (.ref d) H) := fun H s => ⟨d, rfl, .inl ⟨_, .inl (h H s)⟩, q H s⟩
theorem n_dg2I (h : Is B L d (.dK kvs)) (q : N B L (Q ((valV kvs (Sum.inl i)).getD z))) : N B L (fun H => Dg2b d Q (.int i) z H) := fun H s => ⟨_, dget_i (h H s), q H s⟩
theorem n_dp1K (h : Is B L d (.dK kvs)) (q : N B L (fun H => ty σ H (Dp1b d Q))) : N B L (fun H => Dp1 ty σ Q (.ref d) H) := fun H s => ⟨d, rfl, .inl ⟨_, .inl (h H s)⟩, q H s⟩
theorem n_dp1I (hi : L[n]? = some (d, .dK kvs)) (e : valV kvs (Sum.inl i) = some v) (q : N B (L.set n (d, .dK (dropK kvs (Sum.inl i)))) (Q v)) : N B L (fun H => Dp1b d Q (.int i) H) := fun H s => ⟨kvs, Sum.inl i, v, s.at hi, rfl, e, q _ (s.set hi)⟩
/-! text keys -/
theorem dget_s {H : Hp} (h : H d = some (.dK kvs)) : DGet H d (.str s) (valV kvs (Sum.inr s)) := DGet.k (k := Sum.inr s) h
theorem n_dgS (h : Is B L d (.dK kvs)) (e : valV kvs (Sum.inr s) = some v) (q : N B L (Q v)) : N B L (fun H => DgK Q (.ref d) (.str s) H) := fun H x => ⟨d, v, rfl, by rw [← e]; exact dget_s (h H x), q H x⟩
theorem n_dinS (h : Is B L d (.dK kvs)) (q : N B L (Q (.bl (valV kvs (Sum.inr s)).isSome))) : N B L (fun H => DinK Q (.str s) (.ref d) H) := fun H x => ⟨d, _, rfl, dget_s (h H x), q H x⟩
theorem n_dniS (h : Is B L d (.dK kvs)) (q : N B L (Q (.bl (!(valV kvs (Sum.inr s)).isSome)))) : N B L (fun H => DniK Q (.str s) (.ref d) H) := fun H x => ⟨d, _, rfl, dget_s (h H x), q H x⟩
theorem n_dpS (hi : L[n]? = some (d, .dK kvs)) (hl : kvs.length < sizeLine) (q : N B (L.set n (d, .dK (putK kvs (Sum.inr s) v))) k) : N B L (fun H => DpK v k (.ref d) (.str s) H) :=
  fun H x => ⟨d, _, rfl, DPut.k (k := Sum.inr s) (x.at hi) hl, q _ (x.set hi)⟩
theorem n_dg1S (h : Is B L d (.dK kvs)) (q : N B L (Q ((valV kvs (Sum.inr s)).getD .non))) : N B L (fun H => ∃ o, DGet H d (.str s) o ∧ Q (o.getD .non) H) := fun H x => ⟨_, dget_s (h H x), q H x⟩
theorem n_dg2S (h : Is B L d (.dK kvs)) (q : N B L (Q ((valV kvs (Sum.inr s)).getD z))) : N B L (fun H => Dg2b d Q (.str s) z H) := fun H x => ⟨_, dget_s (h H x), q H x⟩
theorem n_dp1S (hi : L[n]? = some (d, .dK kvs)) (e : valV kvs (Sum.inr s) = some v) (q : N B (L.set n (d, .dK (dropK kvs (Sum.inr s)))) (Q v)) : N B L (fun H => Dp1b d Q (.str s) H) := fun H x => ⟨kvs, Sum.inr s, v, x.at hi, rfl, e, q _ (x.set hi)⟩
/-! tuple keys: the tuple at p tells the ints ns -/
abbrev ksI (ns : List Int) : List Key := ns.map Sum.inl
theorem ksI_v (ns : List Int) : (ksI ns).map kV = ns.map V.int := by
  rw [List.map_map]; rfl
variable {ns : List Int}
theorem dget_t {H : Hp} (h : H d = some (.dT tvs)) (hp : H p = some (.tup (ns.map V.int))) : DGet H d (.ref p) (valV tvs (ksI ns)) := DGet.t h (by rw [ksI_v]; exact hp)
theorem n_dgT (h : Is B L d (.dT tvs)) (hp : Is B L p (.tup (ns.map V.int))) (e : valV tvs (ksI ns) = some v) (q : N B L (Q v)) : N B L (fun H => DgK Q (.ref d) (.ref p) H) := fun H s => ⟨d, v, rfl, by rw [← e]; exact dget_t (h H s) (hp H s), q H s⟩
theorem n_dinT (h : Is B L d (.dT tvs)) (hp : Is B L p (.tup (ns.map V.int))) (q : N B L (Q (.bl (valV tvs (ksI ns)).isSome))) : N B L (fun H => DinK Q (.ref p) (.ref d) H) := fun H s => ⟨d, _, rfl, dget_t (h H s) (hp H s), q H s⟩
theorem n_dniT (h : Is B L d (.dT tvs)) (hp : Is B L p (.tup (ns.map V.int))) (q : N B L (Q (.bl (!(valV tvs (ksI ns)).isSome)))) : N B L (fun H => DniK Q (.ref p) (.ref d) H) := fun H s => ⟨d, _, rfl, dget_t (h H s) (hp H s), q H s⟩
theorem n_dpT (hi : L[n]? = some (d, .dT tvs)) (hp : Is B L p (.tup (ns.map V.int))) (hl : tvs.length < sizeLine) (q : N B (L.set n (d, .dT (putK tvs (ksI ns) v))) k) : N B L (fun H => DpK v k (.ref d) (.ref p) H) :=
  fun H s => ⟨d, _, rfl, DPut.t (s.at hi) (by rw [ksI_v]; exact hp H s) hl, q _ (s.set hi)⟩
end
theorem n_rAdd {B : Hp} {L : Own} {Q : VK} {i j : Int} (q : N B L (Q (.int (i + j)))) : N B L (fun H => rAdd (.int i) (.int j) H Q) := fun H s => ⟨i, j, rfl, rfl, q H s⟩
theorem n_rSub {B : Hp} {L : Own} {Q : VK} {i j : Int} (q : N B L (Q (.int (i - j)))) : N B L (fun H => rSub (.int i) (.int j) H Q) := fun H s => ⟨i, j, rfl, rfl, q H s⟩
/-! dicts of ints -/
abbrev dI (ms : List (Int × V)) : List (Key × V) := ms.map fun p => (Sum.inl p.1, p.2)
def getI (ms : List (Int × V)) (k : Int) : Option V := (ms.find? fun p => decide (p.1 = k)).map (·.2)
def putI (ms : List (Int × V)) (k : Int) (v : V) : List (Int × V) := if (ms.any fun p => decide (p.1 = k)) = true then ms.map (fun p => if p.1 = k then (p.1, v) else p) else ms ++ [(k, v)]
theorem dec_inl {i j : Int} : decide ((Sum.inl i : Key) = Sum.inl j) = decide (i = j) := by
  by_cases h : i = j
  · rw [decide_eq_true h, decide_eq_true (by rw [h])]
  · rw [decide_eq_false h, decide_eq_false (fun e => h (Sum.inl.inj e))]
theorem valV_dI (k : Int) : ∀ ms : List (Int × V), valV (dI ms) (Sum.inl k) = getI ms k
  | [] => rfl
  | p :: r => by
    have ih := valV_dI k r
    unfold valV getI at ih ⊢
    rw [show dI (p :: r) = (Sum.inl p.1, p.2) :: dI r from rfl, List.find?_cons, List.find?_cons]
    show Option.map _ (match decide ((Sum.inl p.1 : Key) = Sum.inl k) with | true => _ | false => _) = _
    rw [dec_inl]
    cases decide (p.1 = k)
    · exact ih
    · rfl
theorem any_dI (k : Int) : ∀ ms : List (Int × V), ((dI ms).any fun kv => decide (kv.1 = Sum.inl k)) = ms.any fun p => decide (p.1 = k)
  | [] => rfl
  | p :: r => by
    rw [show dI (p :: r) = (Sum.inl p.1, p.2) :: dI r from rfl, List.any_cons, List.any_cons, any_dI k r]
    show (decide ((Sum.inl p.1 : Key) = Sum.inl k) || _) = _
    rw [dec_inl]
theorem putK_dI (ms : List (Int × V)) (k : Int) (v : V) : putK (dI ms) (Sum.inl k) v = dI (putI ms k v) := by
  unfold putK putI
  rw [any_dI]
  split
  · show List.map _ (List.map _ ms) = List.map _ (List.map _ ms)
    rw [List.map_map, List.map_map]
    refine List.map_congr_left fun p _ => ?_
    show (if (Sum.inl p.1 : Key) = Sum.inl k then _ else _) = ((fun p : Int × V => ((Sum.inl p.1 : Key), p.2)) (if p.1 = k then _ else _))
    by_cases h : p.1 = k
    · rw [if_pos h, if_pos (by rw [h])]
    · rw [if_neg h, if_neg (fun e => h (Sum.inl.inj e))]
  · show _ = List.map _ (ms ++ _)
    rw [List.map_append]; rfl
theorem putI_new {ms : List (Int × V)} {k : Int} {v : V} (h : ¬ k ∈ ms.map (·.1)) : putI ms k v = ms ++ [(k, v)] := by
  unfold putI
  rw [if_neg]
  intro hh
  obtain ⟨p, hp, e⟩ := List.any_eq_true.mp hh
  exact h (List.mem_map.mpr ⟨p, hp, of_decide_eq_true e⟩)
theorem getI_mem {ms : List (Int × V)} (hn : (ms.map (·.1)).Nodup) {k : Int} {v : V} (h : (k, v) ∈ ms) : getI ms k = some v := by
  induction ms with
  | nil => cases h
  | cons p r ih =>
    rw [List.map_cons, List.nodup_cons] at hn
    unfold getI at ih ⊢
    rw [List.find?_cons]
    rcases List.mem_cons.mp h with e | h
    · subst e
      rw [decide_eq_true rfl]; rfl
    · have : ¬ p.1 = k := fun e => hn.1 (by rw [e]; exact List.mem_map.mpr ⟨_, h, rfl⟩)
      rw [decide_eq_false this]
      exact ih hn.2 h
theorem getI_none {ms : List (Int × V)} {k : Int} (h : ¬ k ∈ ms.map (·.1)) : getI ms k = none := by
  unfold getI
  rw [List.find?_eq_none.mpr fun p hp => by
    intro e
    exact h (List.mem_map.mpr ⟨p, hp, of_decide_eq_true e⟩)]; rfl
section
variable {B : Hp} {L : Own} {K : PySem.W.Frag} {a l : Addr} {xs : List V} {v : V} {ns : List Int} {Q : VK} {m : Nat}
theorem n_sum (h : Sq K B L a (ns.map V.int)) (q : N B L (Q (.int ns.sum))) : N B L (fun H => rSum K [.ref a] H Q) := fun H s => ⟨a, ns, rfl, h H s, q H s⟩
theorem n_maxL (h : Sq K B L a (ns.map V.int)) (hn : 0 < ns.length) (q : ∀ m, m ∈ ns → (∀ y ∈ ns, y ≤ m) → N B L (Q (.int m))) : N B L (fun H => rMax K [.ref a] H Q) := fun H s => ⟨a, ns, rfl, h H s, hn, fun m h1 h2 => q m h1 h2 H s⟩
theorem n_minL (h : Sq K B L a (ns.map V.int)) (hn : 0 < ns.length) (q : ∀ m, m ∈ ns → (∀ y ∈ ns, m ≤ y) → N B L (Q (.int m))) : N B L (fun H => rMin K [.ref a] H Q) := fun H s => ⟨a, ns, rfl, h H s, hn, fun m h1 h2 => q m h1 h2 H s⟩
theorem n_popL (hi : L[m]? = some (l, .lst (xs ++ [v]))) (q : N B (L.set m (l, .lst xs)) (Q v)) : N B L (fun H => rPop (.ref l) [] H Q) := fun H s => ⟨l, _, v, rfl, rfl, s.at hi, by
  rw [List.length_append, List.getElem?_append_right (by show xs.length ≤ xs.length + 1 - 1; omega)]
  show [v][xs.length + 1 - 1 - xs.length]? = some v
  rw [show xs.length + 1 - 1 - xs.length = 0 by omega]; rfl, by rw [List.dropLast_concat]; exact q _ (s.set hi)⟩
end
theorem All2.erase {α β : Type} {R : α → β → Prop} {xs : List α} {ys : List β} (h : All2 R xs ys) (i : Nat) : All2 R (xs.eraseIdx i) (ys.eraseIdx i) := by
  rw [List.eraseIdx_eq_take_drop_succ, List.eraseIdx_eq_take_drop_succ]
  exact (h.take i).app (h.drop (i + 1))
theorem All2.getD {α β : Type} {R : α → β → Prop} {xs : List α} {ys : List β} (h : All2 R xs ys) {i : Nat} (a : α) (b : β) (hi : i < ys.length) : R (xs.getD i a) (ys.getD i b) := by
  obtain ⟨x, e, r⟩ := h.at hi
  rw [List.getD_eq_getElem?_getD, e, List.getD_eq_getElem?_getD, List.getElem?_eq_getElem hi]
  exact r
theorem n_ixP {B : Hp} {L : Own} {K : PySem.W.Frag} {Q : VK} {a : Addr} {i : Int} {ns : List Int} {P : Int → Prop} (hP : ∀ x ∈ ns, P x) (hs : Sq K B L a (ns.map V.int)) (h0 : 0 ≤ i) (h1 : i < ns.length) (q : ∀ d, P d → N B L (Q (.int d))) : N B L (fun H => rIx K (.ref a) (.int i) H Q) :=
  n_ixLi hs h0 h1 (q _ (by
    rw [List.getD_eq_getElem?_getD, List.getElem?_eq_getElem (show i.toNat < ns.length by omega)]
    exact hP _ (List.getElem_mem _)))
theorem mul_bd {a b x y : Int} (h0 : 0 ≤ a) (h1 : a ≤ x) (h2 : 0 ≤ b) (h3 : b ≤ y) : 0 ≤ a * b ∧ a * b ≤ x * y := ⟨Int.mul_nonneg h0 h2, Int.mul_le_mul h1 h3 h2 (Int.le_trans h0 h1)⟩
theorem n_ixLast {B : Hp} {L : Own} {K : PySem.W.Frag} {Q : VK} {a : Addr} {z : Int} {ns : List Int} (hs : Sq K B L a ((ns ++ [z]).map V.int)) (q : N B L (Q (.int z))) : N B L (fun H => rIx K (.ref a) (.int (-1)) H Q) :=
  n_ixL hs (by rw [List.map_append]; exact at_last _ _) q
theorem all2_two {α β : Type} {R : α → β → Prop} {xs : List α} {b c : β} (h : All2 R xs [b, c]) : ∃ x y, xs = [x, y] ∧ R x b ∧ R y c := by
  obtain ⟨h1, h2⟩ := h
  match xs, h1, h2 with
  | [x, y], _, h2 => exact ⟨x, y, rfl, h2 0 x b rfl rfl, h2 1 y c rfl rfl⟩
end Sk
namespace Sk
open PySem PySem.Spec PyProof.Rows L2
/-! ### pairs of ints; what is sorted -/
/-- a value that is a pair of ints, in the base -/
def PairAt (B : Hp) (v : V) (t : Int × Int) : Prop := ∃ p, v = .ref p ∧ B p = some (.tup [.int t.1, .int t.2])
theorem PairAt.mono {B B' : Hp} {v : V} {t : Int × Int} (h : PairAt B v t) (s : Same B B') : PairAt B' v t := by
  obtain ⟨p, e, h⟩ := h
  exact ⟨p, e, s _ _ h⟩
theorem pairs_mono {B B' : Hp} {vs : List V} {cs : List (Int × Int)} (h : All2 (PairAt B) vs cs) (s : Same B B') : All2 (PairAt B') vs cs := h.imp fun _ _ x => x.mono s
def dPair (t : Int × Int) : PyData := .tuple [.int t.1, .int t.2]
def dPairs (cs : List (Int × Int)) : PyData := .list (cs.map dPair)
theorem PairAt.da {K : PySem.W.Frag} {B : Hp} {L : Own} {v : V} {t : Int × Int} (h : PairAt B v t) : Da K B L v (dPair t) := by
  obtain ⟨p, rfl, hp⟩ := h
  exact da_tup (tp_old (SqT.of hp)) (daA_cons da_int (daA_cons da_int daA_nil))
theorem pairs_da {K : PySem.W.Frag} {B : Hp} {L : Own} {a : Addr} {vs : List V} {cs : List (Int × Int)} (h : Sq K B L a vs) (hv : All2 (PairAt B) vs cs) : Da K B L (.ref a) (dPairs cs) := da_lst h (daA_of (hv.map dPair fun _ _ x => x.da))
theorem pairs_cmp (cs : List (Int × Int)) : Cmp 2 (dPairs cs) := Cmp.list (Cmp.map fun t _ => Cmp.tuple (k := 0) (fun d hd => by
  rcases List.mem_cons.mp hd with rfl | hd
  · exact Cmp.int
  · rw [List.mem_singleton] at hd; subst hd; exact Cmp.int))
theorem atI_of {xs : List V} {v : V} {z : Int} {i : Nat} (e : z = i) (h : xs[i]? = some v) : atI xs z = some v := by
  subst e
  exact atI_nat h

theorem PairAt.inj {B : Hp} {v : V} {s t : Int × Int} (h : PairAt B v s) (h' : PairAt B v t) : s = t := by
  obtain ⟨p, rfl, h⟩ := h
  obtain ⟨q, e, h'⟩ := h'
  cases e
  rw [h] at h'
  have e2 := Option.some.inj h'
  injection e2 with e3
  have e4 := (List.cons.inj e3).1
  have e5 := (List.cons.inj (List.cons.inj e3).2).1
  exact Prod.ext (V.int.inj e4) (V.int.inj e5)
open Classical in
noncomputable def keyP (B : Hp) (v : V) : Int × Int := if h : ∃ t, PairAt B v t then h.choose else (0, 0)
theorem keyP_eq {B : Hp} {v : V} {t : Int × Int} (h : PairAt B v t) : keyP B v = t := by
  unfold keyP
  rw [dif_pos ⟨t, h⟩]
  exact (⟨t, h⟩ : ∃ t, PairAt B v t).choose_spec.inj h
theorem keyP_map {B : Hp} : ∀ {vs : List V} {cs : List (Int × Int)}, All2 (PairAt B) vs cs → vs.map (keyP B) = cs
  | [], [], _ => rfl
  | [], c :: cs, h => by have := h.1; simp at this
  | v :: vs, [], h => by have := h.1; simp at this
  | v :: vs, c :: cs, h => by
    rw [List.map_cons, keyP_eq (h.2 0 v c rfl rfl), keyP_map (vs := vs) (cs := cs) ⟨Nat.succ.inj h.1, fun i x y a b => h.2 (i + 1) x y a b⟩]
abbrev leP (p q : Int × Int) : Bool := decide (p.1 < q.1 ∨ (p.1 = q.1 ∧ p.2 ≤ q.2))
def sortP (cs : List (Int × Int)) : List (Int × Int) := cs.mergeSort leP
theorem sortP_perm (cs : List (Int × Int)) : (sortP cs).Perm cs := List.mergeSort_perm cs leP
theorem sortP_srt (cs : List (Int × Int)) : (sortP cs).Pairwise fun p q => leP p q = true :=
  List.pairwise_mergeSort (le := leP) (fun a b c h1 h2 => by
    have h1 := of_decide_eq_true h1
    have h2 := of_decide_eq_true h2
    exact decide_eq_true (by omega)) (fun a b => by
    unfold leP
    rw [Bool.or_eq_true, decide_eq_true_eq, decide_eq_true_eq]
    omega) cs
theorem sort_uniq {α : Type} {le : α → α → Bool} (anti : ∀ a b, le a b = true → le b a = true → a = b) : ∀ {l m : List α}, l.Perm m → l.Pairwise (fun a b => le a b = true) → m.Pairwise (fun a b => le a b = true) → l = m
  | [], m, p, _, _ => (List.Perm.nil_eq p)
  | a :: l, [], p, _, _ => (List.not_perm_nil_cons _ _ p.symm).elim
  | a :: l, b :: m, p, h1, h2 => by
    have e : a = b := by
      rcases List.mem_cons.mp (p.mem_iff.mp List.mem_cons_self) with e | ha
      · exact e
      · rcases List.mem_cons.mp (p.mem_iff.mpr List.mem_cons_self) with e | hb
        · exact e.symm
        · exact anti _ _ ((List.pairwise_cons.mp h1).1 _ hb) ((List.pairwise_cons.mp h2).1 _ ha)
    subst e
    rw [sort_uniq anti (List.Perm.cons_inv p) (List.pairwise_cons.mp h1).2 (List.pairwise_cons.mp h2).2]
theorem leP_anti (a b : Int × Int) (h1 : leP a b = true) (h2 : leP b a = true) : a = b := by
  have h1 := of_decide_eq_true h1
  have h2 := of_decide_eq_true h2
  exact Prod.ext (by omega) (by omega)
theorem all2_perm {α β : Type} {R : α → β → Prop} {k : α → β} {xs ys : List α} (hx : ∀ x ∈ xs, R x (k x)) (p : ys.Perm xs) : All2 R ys (ys.map k) := by
  refine ⟨(List.length_map _).symm, fun i x y h1 h2 => ?_⟩
  rw [List.getElem?_map, h1] at h2
  cases h2
  exact hx x (p.mem_iff.mp (List.mem_of_getElem? h1))
theorem all2_mem {α β : Type} {R : α → β → Prop} {xs : List α} {ys : List β} (h : All2 R xs ys) {x : α} (hx : x ∈ xs) : ∃ y ∈ ys, R x y := by
  obtain ⟨i, hi⟩ := List.mem_iff_getElem?.mp hx
  have hlt : i < ys.length := by rw [← h.1]; exact (List.getElem?_eq_some_iff.mp hi).1
  exact ⟨ys[i], List.getElem_mem hlt, h.2 i x _ hi (List.getElem?_eq_getElem hlt)⟩
/-- sorted(a list of pairs of ints) -/
theorem n_sortP {B : Hp} {L : Own} {K : PySem.W.Frag} {Q : VK} {a : Addr} {vs : List V} {cs : List (Int × Int)} (h : Sq K B L a vs) (hv : All2 (PairAt B) vs cs) (q : ∀ p ys, All2 (PairAt B) ys (sortP cs) → N B ((p, .lst ys) :: L) (Q (.ref p))) : N B L (fun H => rSortedPO K [.ref a] H Q) := by
  intro H s
  have hk := keyP_map hv
  have hx : ∀ x ∈ vs, PairAt B x (keyP B x) := fun x hx => by
    obtain ⟨y, _, r⟩ := all2_mem hv hx
    rw [keyP_eq r]; exact r
  refine ⟨a, vs, keyP B, rfl, h H s, fun x hm => ?_, fun ys p hs hb hp => ?_⟩
  · obtain ⟨t, e, ht⟩ := hx x hm
    exact ⟨t, e, s.ext _ _ ht⟩
  · refine q p ys ?_ _ (s.new hp)
    have e : ys.map (keyP B) = sortP cs := by
      refine sort_uniq leP_anti ?_ ?_ (sortP_srt cs)
      · refine (hb.perm.map _).trans ?_
        rw [hk]
        exact (sortP_perm cs).symm
      · refine List.pairwise_map.mpr (hs.imp fun {x y} hxy => ?_)
        have := SrtO.lexB_no.mp hxy
        exact decide_eq_true (by omega)
    rw [← e]
    exact all2_perm hx hb.perm
def sortI (ns : List Int) : List Int := ns.mergeSort (fun a b => decide (a ≤ b))
theorem sortI_perm (ns : List Int) : (sortI ns).Perm ns := List.mergeSort_perm ns _
theorem sortI_srt (ns : List Int) : (sortI ns).Pairwise (· ≤ ·) :=
  (List.pairwise_mergeSort (le := fun a b : Int => decide (a ≤ b)) (fun a b c h1 h2 => by
    have h1 := of_decide_eq_true h1
    have h2 := of_decide_eq_true h2
    exact decide_eq_true (by omega)) (fun a b => by
    rw [Bool.or_eq_true, decide_eq_true_eq, decide_eq_true_eq]
    omega) ns).imp fun h => of_decide_eq_true h
theorem sortI_uniq {ns ms : List Int} (p : ns.Perm ms) (h : ns.Pairwise (· ≤ ·)) : ns = sortI ms :=
  sort_uniq (le := fun a b : Int => decide (a ≤ b)) (fun a b h1 h2 => by
    have h1 := of_decide_eq_true h1
    have h2 := of_decide_eq_true h2
    omega) (p.trans (sortI_perm ms).symm) (h.imp fun h => decide_eq_true h) ((sortI_srt ms).imp fun h => decide_eq_true h)
theorem n_sortI {B : Hp} {L : Own} {K : PySem.W.Frag} {Q : VK} {a : Addr} {ns : List Int} (h : Sq K B L a (ns.map V.int)) (q : ∀ p, N B ((p, .lst ((sortI ns).map V.int)) :: L) (Q (.ref p))) : N B L (fun H => rSortedI K [.ref a] H Q) := fun H s =>
  ⟨a, ns, rfl, h H s, fun ns' p hp hs hn => by
    rw [sortI_uniq hp hs]
    exact q p _ (s.new hn)⟩
end Sk
/-! ### triples of ints, sorted -/
namespace SrtO3
open PySem PySem.Spec PyProof.Rows SrtO
abbrev I3 := Int × Int × Int
def lex3 (p q : I3) : Bool := if p.1 = q.1 then (if p.2.1 = q.2.1 then decide (p.2.2 < q.2.2) else decide (p.2.1 < q.2.1)) else decide (p.1 < q.1)
theorem lex3_iff {p q : I3} : lex3 p q = true ↔ p.1 < q.1 ∨ (p.1 = q.1 ∧ (p.2.1 < q.2.1 ∨ (p.2.1 = q.2.1 ∧ p.2.2 < q.2.2))) := by
  unfold lex3
  by_cases e : p.1 = q.1
  · rw [if_pos e]
    by_cases e2 : p.2.1 = q.2.1
    · rw [if_pos e2, decide_eq_true_eq]; omega
    · rw [if_neg e2, decide_eq_true_eq]; omega
  · rw [if_neg e, decide_eq_true_eq]; omega
theorem lex3_no {p q : I3} : lex3 p q = false ↔ ¬ (p.1 < q.1 ∨ (p.1 = q.1 ∧ (p.2.1 < q.2.1 ∨ (p.2.1 = q.2.1 ∧ p.2.2 < q.2.2)))) := by
  rw [← lex3_iff]
  cases lex3 p q <;> simp
theorem swo3 {α : Type} (k : α → I3) : Swo fun v u => lex3 (k v) (k u) := by
  refine ⟨fun x y h => ?_, fun x y z h1 h2 => ?_⟩
  · have a := lex3_iff.mp h
    refine lex3_no.mpr ?_
    omega
  · have a := lex3_no.mp h1
    have b := lex3_no.mp h2
    refine lex3_no.mpr ?_
    omega
def IsTri (h : Heap) (v : Value) (x y z : Int) : Prop := ∃ a o t u r n, v = .ref a ∧ h.get? a = some o ∧ o.cls = .type "tuple" ∧ o.data = .seq #[.int x t, .int y u, .int z r] n
theorem IsTri.keeps {h h' : Heap} {v : Value} {x y z : Int} (p : IsTri h v x y z) (k : ∀ b o, h.get? b = some o → o.cls = .type "tuple" → h'.get? b = some o) : IsTri h' v x y z := by
  obtain ⟨a, o, t, u, r, n, e, ho, hc, hd⟩ := p
  exact ⟨a, o, t, u, r, n, e, k _ _ ho hc, hc, hd⟩
theorem firsts3 {h : Heap} : ∀ {vs : List Value}, (∀ v ∈ vs, ∃ x y z, IsTri h v x y z) → ∃ fs : List Value, PySem.W.KatTups h vs fs ∧ fs.length = vs.length ∧ ∀ f ∈ fs, ∃ x t, f = Value.int x t
  | [], _ => ⟨[], PySem.W.KatTups.nil, rfl, fun _ hm => by simp at hm⟩
  | v :: vs, hp => by
    obtain ⟨fs, h1, h2, h3⟩ := firsts3 (vs := vs) fun v' hm => hp v' (List.mem_cons_of_mem _ hm)
    obtain ⟨x, y, z, a, o, t, u, r, n, e, ho, hc, hd⟩ := hp v (List.mem_cons_self ..)
    subst e
    refine ⟨.int x t :: fs, PySem.W.KatTups.cons ho hc hd rfl h1, by rw [List.length_cons, List.length_cons, h2], fun f hm => ?_⟩
    rcases List.mem_cons.mp hm with rfl | hm
    · exact ⟨x, t, rfl⟩
    · exact h3 f hm
section
variable {prog : Program} {w : World} {A : Around} {s : Shared} {E : Value → Shared → Prop}
theorem tri_cmp {vs : List Value} {k : Value → I3} (hp : ∀ v ∈ vs, IsTri s.heap v (k v).1 (k v).2.1 (k v).2.2) : SrtO.Cmp prog w A s (tuples' true) (fun p => p.1 ∈ vs) (lt2 fun v u => lex3 (k v) (k u)) := by
  intro p q hm hm'
  have h1 := hp _ hm
  have h2 := hp _ hm'
  show wpAny (model prog w) A (keyLt' (tuples' true) p.1 q.1) (fun r s' => s' = s ∧ r = lex3 (k p.1) (k q.1)) (fun _ _ => False) s
  unfold lex3
  generalize (k p.1).1 = x at h1 ⊢
  generalize (k p.1).2.1 = y at h1 ⊢
  generalize (k p.1).2.2 = z at h1 ⊢
  generalize (k q.1).1 = x' at h2 ⊢
  generalize (k q.1).2.1 = y' at h2 ⊢
  generalize (k q.1).2.2 = z' at h2 ⊢
  obtain ⟨a, o, t, u, r, n, e, ho, hc, hd⟩ := h1
  obtain ⟨a', o', t', u', r', n', e', ho', hc', hd'⟩ := h2
  rw [e, e']
  refine PySem.W.kat_lt ho hd ho' hd' ?_
  show PySem.W.KatLex prog w A true (decide (3 < 3)) _ [(.int x t, .int x' t'), (.int y u, .int y' u'), (.int z r, .int z' r')] 0 s
  refine PySem.W.kat_cons (SeqAt.EqAt.int_int x t x' t' prog w _ _ ?_)
  refine PySem.W.kat_go (fun e1 => ?_) (fun e1 => ?_)
  · have ex : x = x' := by simpa using e1
    rw [if_pos ex]
    refine PySem.W.kat_yes (PySem.W.kat_cons (SeqAt.EqAt.int_int y u y' u' prog w _ _ ?_))
    refine PySem.W.kat_go (fun e2 => ?_) (fun e2 => ?_)
    · have ey : y = y' := by simpa using e2
      rw [if_pos ey]
      refine PySem.W.kat_yes (PySem.W.kat_cons (SeqAt.EqAt.int_int z r z' r' prog w _ _ ?_))
      refine PySem.W.kat_go (fun e4 => ?_) (fun e4 => ?_)
      · have ez : z = z' := by simpa using e4
        have e3 : decide (z < z') = false := by
          rw [ez]
          exact decide_eq_false (Int.lt_irrefl _)
        exact PySem.W.kat_yes (PySem.W.kat_nil ⟨rfl, e3.symm⟩)
      · refine PySem.W.kat_no (PySem.W.kat_one _ _ (PyProof.Rows.lt_int ?_))
        exact (show s = s ∧ decide (z < z') = decide (z < z') from ⟨rfl, rfl⟩)
    · have ey : ¬ y = y' := by simpa using e2
      rw [if_neg ey]
      refine PySem.W.kat_no (PySem.W.kat_one _ _ (PyProof.Rows.lt_int ?_))
      exact (show s = s ∧ decide (y < y') = decide (y < y') from ⟨rfl, rfl⟩)
  · have ex : ¬ x = x' := by simpa using e1
    rw [if_neg ex]
    exact PySem.W.kat_no (oneLt_int ⟨rfl, rfl⟩)
theorem tri_sortable {a : Addr} {vs : List Value} {k : Value → I3} (h0 : 0 < vs.length) (hp : ∀ v ∈ vs, IsTri s.heap v (k v).1 (k v).2.1 (k v).2.2) (ha : ∀ o, s.heap.get? a = some o → o.cls ≠ .type "tuple") : SortableO prog w A s a vs fun v u => lex3 (k v) (k u) := by
  intro h' keep
  have hp' : ∀ v ∈ vs, IsTri h' v (k v).1 (k v).2.1 (k v).2.2 := fun v hm => (hp v hm).keeps fun b o e c => keep b o (fun z => by subst z; exact ha o e c) e
  obtain ⟨fs, h1, h2, h3⟩ := firsts3 fun v hm => ⟨_, _, _, hp' v hm⟩
  refine ⟨tuples' true, fun Q E hq => ?_, tri_cmp hp'⟩
  refine PySem.W.kat_kind (T := .type "int") h1 (by omega) (fun f hm => ?_) (by rfl) ?_
  · obtain ⟨x, t, rfl⟩ := h3 f hm
    exact PySem.W.Looks.now
  · have e : (Value.type "int" != Value.type "tuple") = true := by first | decide +kernel | rfl | decide
    rw [e]
    exact hq
theorem sorted_tri {l : Addr} {vs : List Value} {k : Value → I3} {Q : Value → Shared → Prop} (hl : s.heap.IsList l vs.toArray) (hz : vs.length ≤ sizeLine) (hp : ∀ v ∈ vs, IsTri s.heap v (k v).1 (k v).2.1 (k v).2.2)
    (h : ∀ (h' : Heap) (d : Addr) (out : List Value), Srtd (fun v u => lex3 (k v) (k u)) out → Stb (fun v u => lex3 (k v) (k u)) out vs → (∀ b o, s.heap.get? b = some o → h'.get? b = some o) → s.heap.objs.size ≤ d → (∃ n, h'.get? d = some (seqObj "list" out.toArray n)) → Q (.ref d) { s with heap := h' }) :
    wpAny (model prog w) A (call (.builtin "sorted") [.ref l]) Q E s := by
  refine sorted_ord (swo3 k) hl hz (fun h2 h₁ a ha kk => ?_) fun out hs hb => ?_
  · refine tri_sortable (s := { s with heap := h₁ }) (by omega) (fun v hm => (hp v hm).keeps fun b o e _ => (kk b o e).2) fun o e => ?_
    have e' : some o = some (seqObj "list" vs.toArray 0) := e.symm.trans ha
    cases e'
    intro c
    exact absurd (Value.type.inj c) (by decide)
  · exact h _ _ out hs hb (fun b o e => sortedAll_old e) (Nat.le_succ _) (sortedAll_at s.heap vs out.toArray)
end
end SrtO3
namespace Sk
open PySem PySem.Spec PyProof.Rows L2
abbrev I3 := SrtO3.I3
def rSorted3 (K : PySem.W.Frag) : List V → Hp → VK → Prop := fun vs H Q => ∃ (a : Addr) (xs : List V) (k : V → I3), vs = [V.ref a] ∧ SqL K H a xs ∧ (∀ x ∈ xs, ∃ t, x = V.ref t ∧ H t = some (.tup [.int (k x).1, .int (k x).2.1, .int (k x).2.2])) ∧
  ∀ ys p, SrtO.Srtd (fun x y => SrtO3.lex3 (k x) (k y)) ys → SrtO.Stb (fun x y => SrtO3.lex3 (k x) (k y)) ys xs → H p = none → Q (.ref p) (upd H p (.lst ys))
theorem vals3' {x y z : V} {us : List Value} (r : Vals [x, y, z] us) : ∃ u w' t', us = [u, w', t'] ∧ RelV x u ∧ RelV y w' ∧ RelV z t' := by
  cases r with
  | cons a r =>
    cases r with
    | cons b r =>
      cases r with
      | cons c r =>
        cases r
        exact ⟨_, _, _, rfl, a, b, c⟩
theorem cr_sorted3 {X : Cx} : CallR X (.builtin "sorted") (rSorted3 X.K) := by
  intro pins s σ H vs us Q I r h
  obtain ⟨a, xs, k, rfl, hs, hx, q⟩ := h
  obtain ⟨its, rv, hl, hz⟩ := I.list hs
  obtain ⟨u, rfl, ru⟩ := vals1 r
  obtain rfl : u = Value.ref a := ru
  obtain ⟨e1, e2⟩ := refs_back rv fun x m => by
    obtain ⟨t, e, _⟩ := hx x m
    exact ⟨t, e⟩
  refine SrtO3.sorted_tri (k := fun u => k (backV u)) hl.isList (by rw [← rv.length]; exact hz) (fun v hv => ?_) fun h' d out h1 h2 kp hd hn => ?_
  · obtain ⟨t, rfl⟩ := e2 v hv
    have hm : V.ref t ∈ xs := by rw [e1]; exact List.mem_map.mpr ⟨_, hv, rfl⟩
    obtain ⟨t', e, ht⟩ := hx _ hm
    cases e
    obtain ⟨_, its2, r2, o, ho, hc, n, hd⟩ := I.hok _ _ ht
    obtain ⟨u1, u2, u3, rfl, ri, rj, rk⟩ := vals3' r2
    obtain ⟨t1, rfl⟩ := ri
    obtain ⟨t2, rfl⟩ := rj
    obtain ⟨t3, rfl⟩ := rk
    exact ⟨t, o, t1, t2, t3, n, rfl, ho, hc, hd⟩
  · have h3 : ∀ u ∈ out, ∃ a, u = Value.ref a := fun u hu => e2 u (h2.perm.mem_iff.mp hu)
    obtain ⟨n, hn⟩ := hn
    have hb : SrtO.Stb (fun x y => SrtO3.lex3 (k x) (k y)) (out.map backV) xs := by
      rw [e1]
      exact SrtO.Stb.map (SrtO3.swo3 k) backV h2
    refine ⟨.ref d, upd H d (.lst (out.map backV)), I.laid (t' := s.toks) kp hd ⟨?_, out, n, vals_back h3, hn⟩, rfl, q _ d (SrtO.srtd_map h1) hb (I.hok.fresh hd)⟩
    rw [List.length_map, h2.perm.length_eq, ← rv.length]
    exact hz
def TriAt (B : Hp) (v : V) (t : I3) : Prop := ∃ p, v = .ref p ∧ B p = some (.tup [.int t.1, .int t.2.1, .int t.2.2])
theorem TriAt.mono {B B' : Hp} {v : V} {t : I3} (h : TriAt B v t) (s : Same B B') : TriAt B' v t := by
  obtain ⟨p, e, h⟩ := h
  exact ⟨p, e, s _ _ h⟩
theorem TriAt.inj {B : Hp} {v : V} {s t : I3} (h : TriAt B v s) (h' : TriAt B v t) : s = t := by
  obtain ⟨p, rfl, h⟩ := h
  obtain ⟨q, e, h'⟩ := h'
  cases e
  rw [h] at h'
  have e2 := Option.some.inj h'
  injection e2 with e3
  have e4 := (List.cons.inj e3).1
  have e5 := (List.cons.inj (List.cons.inj e3).2).1
  have e6 := (List.cons.inj (List.cons.inj (List.cons.inj e3).2).2).1
  exact Prod.ext (V.int.inj e4) (Prod.ext (V.int.inj e5) (V.int.inj e6))
open Classical in
noncomputable def key3 (B : Hp) (v : V) : I3 := if h : ∃ t, TriAt B v t then h.choose else (0, 0, 0)
theorem key3_eq {B : Hp} {v : V} {t : I3} (h : TriAt B v t) : key3 B v = t := by
  unfold key3
  rw [dif_pos ⟨t, h⟩]
  exact (⟨t, h⟩ : ∃ t, TriAt B v t).choose_spec.inj h
theorem key3_map {B : Hp} : ∀ {vs : List V} {cs : List I3}, All2 (TriAt B) vs cs → vs.map (key3 B) = cs
  | [], [], _ => rfl
  | [], c :: cs, h => by have := h.1; simp at this
  | v :: vs, [], h => by have := h.1; simp at this
  | v :: vs, c :: cs, h => by
    rw [List.map_cons, key3_eq (h.2 0 v c rfl rfl), key3_map (vs := vs) (cs := cs) ⟨Nat.succ.inj h.1, fun i x y a b => h.2 (i + 1) x y a b⟩]
/-- sorted(a list of triples of ints): some order of them, rising -/
theorem n_sort3 {B : Hp} {L : Own} {K : PySem.W.Frag} {Q : VK} {a : Addr} {vs : List V} {cs : List I3} (h : Sq K B L a vs) (hv : All2 (TriAt B) vs cs)
    (q : ∀ p ys ds, All2 (TriAt B) ys ds → ds.Perm cs → ds.Pairwise (fun x y => SrtO3.lex3 y x = false) → N B ((p, .lst ys) :: L) (Q (.ref p))) : N B L (fun H => rSorted3 K [.ref a] H Q) := by
  intro H s
  have hk := key3_map hv
  have hx : ∀ x ∈ vs, TriAt B x (key3 B x) := fun x hx => by
    obtain ⟨y, _, r⟩ := all2_mem hv hx
    rw [key3_eq r]; exact r
  refine ⟨a, vs, key3 B, rfl, h H s, fun x hm => ?_, fun ys p hs hb hp => ?_⟩
  · obtain ⟨t, e, ht⟩ := hx x hm
    exact ⟨t, e, s.ext _ _ ht⟩
  · exact q p ys (ys.map (key3 B)) (all2_perm hx hb.perm) (by rw [← hk]; exact hb.perm.map _) (List.pairwise_map.mpr hs) _ (s.new hp)
end Sk
namespace Sk
open PySem PySem.Spec PyProof.Rows L2
section
variable {B : Hp} {L : Own} {K : PySem.W.Frag} {a : Addr} {σ : St} {Q : VK} {te : TE} {vs' : List Nat} {m n : Nat}
/-- [e for x, y in pairs], nothing else changed -/
theorem n_lcPairs {vs : List V} {cs : List (Int × Int)} (f : Int × Int → V) (hv : All2 (PairAt B) vs cs) (hb : cs.length ≤ 100000) (hq : Sq K B L a vs) (hw : ∀ x y, wipe (((wipe σ vs').set n x).set m y) vs' = wipe σ vs')
    (he : ∀ c ∈ cs, ∀ D acc (Q' : VK), N B ((D, .lst acc) :: L) (Q' (f c)) → N B ((D, .lst acc) :: L) (fun H => te (((wipe σ vs').set n (some (.int c.1))).set m (some (.int c.2))) H Q'))
    (hd : ∀ D, N B ((D, .lst (cs.map f)) :: L) (Q (.ref D))) : N B L (fun H => IL K (Lc (gTup K 2 (gCons (gName n) (gCons (gName m) gNil))) tYes te vs' σ Q) (.ref a) H) := by
  have hl := hv.len
  refine n_lcL (xs := vs) (fun i acc L' => acc = (cs.take i).map f ∧ L' = L) (fun i acc L' _ p => by rw [p.2]; exact hq) ⟨rfl, rfl⟩ ?_ ?_
  · rintro i acc L' D hi ⟨rfl, rfl⟩
    have hi2 : i < cs.length := by omega
    obtain ⟨v, e, pp, rfl, hp⟩ := hv.at hi2
    rw [List.getElem?_eq_getElem hi] at e
    rw [Option.some.inj e]
    refine n_gTup (tp_old (SqT.of hp)) rfl ?_
    refine n_gCons (n_gCons (n_gNil ?_))
    refine n_wiped (hw _ _) ?_
    refine n_yes ?_
    refine n_iteT ?_
    refine he _ (List.getElem_mem hi2) D _ _ ?_
    refine n_put [] rfl (by rw [List.length_map, List.length_take, sizeLine_eq]; omega) ⟨?_, rfl⟩ (.refl _)
    rw [take_step hi2, List.map_append]; rfl
  · rintro acc L' D ⟨rfl, rfl⟩
    rw [hl, List.take_length]
    exact hd D
end
theorem All2.set {α β : Type} {R : α → β → Prop} {xs : List α} {ys : List β} {i : Nat} {x : α} {y : β} (h : All2 R xs ys) (r : R x y) : All2 R (xs.set i x) (ys.set i y) := by
  refine ⟨by rw [List.length_set, List.length_set, h.1], fun j a b e1 e2 => ?_⟩
  rw [List.getElem?_set] at e1 e2
  rw [← h.1] at e2
  split at e1
  · rename_i hij
    rw [if_pos hij] at e2
    split at e1
    · rename_i hlt
      rw [if_pos hlt] at e2
      cases e1; cases e2
      exact r
    · cases e1
  · rename_i hij
    rw [if_neg hij] at e2
    exact h.2 j a b e1 e2
theorem getD_lt {α : Type} {xs : List α} {d : α} {i : Nat} (h : i < xs.length) : xs.getD i d = xs[i] := by
  rw [List.getD_eq_getElem?_getD, List.getElem?_eq_getElem h]; rfl
end Sk
namespace Sk
open PySem PySem.Spec PyProof.Rows L2
/-! ### calls of a local that is one of several defs -/
structure Alt (X : Cx) (k : Nat) (E : St → XK) (p : Addr × Sp) : Prop where
  ex : ∃ (CX : CXT) (k' : Nat) (fd : FuncData) (ps : List Str), k' ≤ k ∧ FnOk X.prog X.w X.K X.mg X.base CX k' p.1 fd ps p.2 ∧ PySem.W.keepIn X.K (.ref p.1) = true ∧ Binds X.K fd ps [] ∧ ∀ σ, PassesAt CX X σ (E σ)
theorem OkC.alt {X : Cx} {CX : CXT} {k k' : Nat} {x : Str} {ps : List Str} {sp : Sp} {E : St → XK} {f0 : Addr} (O : OkC X.prog X.w X.K X.mg X.base CX k' x ps sp) (hm : X.mg x = some (.ref f0)) (hk : k' ≤ k) (hx : ∀ σ, PassesAt CX X σ (E σ)) : Alt X k E (f0, sp) := by
  obtain ⟨f, fd, F, g, kp, b⟩ := O.ex
  rw [hm] at g
  cases g
  exact ⟨⟨CX, k', fd, ps, hk, F, kp, b, hx⟩⟩
theorem altN {X : Cx} {k : Nat} {E : St → XK} : ∀ p ∈ ([] : List (Addr × Sp)), Alt X k E p := fun p h => nomatch h
theorem altC {X : Cx} {k : Nat} {E : St → XK} {p : Addr × Sp} {S : List (Addr × Sp)} (h : Alt X k E p) (hs : ∀ p ∈ S, Alt X k E p) : ∀ q ∈ p :: S, Alt X k E q := fun q hq => by
  rcases List.mem_cons.mp hq with rfl | hq
  · exact h
  · exact hs q hq
def tClV (i : Nat) (S : List (Addr × Sp)) (E : St → XK) (t : TA) : TE := fun σ H Q => ∃ p ∈ S, σ[i]? = some (some (.ref p.1)) ∧ t σ H fun vs H1 => p.2 vs H1 Q (E σ)
theorem pe_clV {X : Cx} {k i : Nat} {S : List (Addr × Sp)} {E : St → XK} {x : Str} {p pos : Pos} {e : Expr} {es : List Expr} {t : TA} (A : ∀ q ∈ S, Alt X k E q) (hr : Room k X.A) (hN : X.N[i]? = some x) (hv : Vis X.env.scope x) (ha : PA X (e :: es) t)
    (hdb : (x == ("__debug__" : Str)) = false := by decide) (hcd : (x == ("__classdict__" : Str)) = false := by decide)
    (he : starEach (e :: es) X.env = (false, eval e X.env) :: starEach es X.env := by rfl) (hpl : (backTo pos (starEach es X.env)).any (·.1) = false := by rfl) : PE X (.Call (.Name x p) (e :: es) [] pos) (tClV i S E t) := by
  refine ⟨fun pins s σ H Q I h => ?_⟩
  obtain ⟨⟨f, sp⟩, hp, hs, ht⟩ := h
  obtain ⟨CX, k', fd, ps, hk, F, kp, b, hx⟩ := (A _ hp).ex
  refine wpAny_Call_Name_kw (thn ((pe_var (pos := p) hN hv hdb hcd).run pins s σ H (fun v H1 => v = .ref f ∧ H1 = H) I ⟨.ref f, hs, rfl, rfl⟩) fun u s1 ⟨v, H1, I1, r1, q1⟩ => ?_)
  obtain ⟨rfl, rfl⟩ := q1
  cases r1
  refine PySem.W.callWith_K (h₀ := X.base) I.ok.mod.kin kp (thn (ha.run pos pins s1 σ _ _ I1 ht) fun us s2 ⟨vs, H2, I2, r, q⟩ => ⟨I2.kIn, ?_⟩) he hpl
  exact run_fnS F (hr.mono hk) b (hx σ) I2 r q
theorem n_clV {B : Hp} {L : Own} {i : Nat} {S : List (Addr × Sp)} {E : St → XK} {t : TA} {σ : St} {Q : VK} {f : Addr} {sp : Sp} (hp : (f, sp) ∈ S) (hs : σ[i]? = some (some (.ref f))) (q : N B L (fun H => t σ H fun vs H1 => sp vs H1 Q (E σ))) : N B L (fun H => tClV i S E t σ H Q) := fun H s => ⟨(f, sp), hp, hs, q H s⟩
/-- a named block of a reading -/
class Unf (t : TS) (t' : outParam TS) : Prop where
  eq : t = t'
theorem n_unf {B : Hp} {L : Own} {t t' : TS} [h : Unf t t'] {D : Ends} {σ : L2.St} (q : N B L (fun H => t' D σ H)) : N B L (fun H => t D σ H) := by
  rw [h.eq]; exact q
def rSortedDI : List V → Hp → VK → Prop := fun xs H Q => ∃ (a : Addr) (kvs : List (Key × V)) (ks : List Int), xs = [.ref a] ∧ Rd H a (.dK kvs) ∧ kvs.map (·.1) = ks.map Sum.inl ∧ ks.length < 64 ∧
    ∀ (ys : List Int) (p : Addr), ys.Perm ks → ys.Pairwise (· ≤ ·) → H p = none → Q (.ref p) (upd H p (.lst (ys.map V.int)))
theorem cr_sortedDI {X : Cx} (hc : X.calm = true) : CallR X (.builtin "sorted") rSortedDI := call_sortedDI hc
theorem n_sortDI {B : Hp} {L : Own} {Q : VK} {a : Addr} {ms : List (Int × V)} (h : Is B L a (.dK (dI ms))) (hl : ms.length < 64) (q : ∀ p, N B ((p, .lst ((sortI (ms.map (·.1))).map V.int)) :: L) (Q (.ref p))) : N B L (fun H => rSortedDI [.ref a] H Q) := fun H s =>
  ⟨a, _, ms.map (·.1), rfl, .inl (h H s), by rw [List.map_map, List.map_map]; rfl, by rw [List.length_map]; exact hl, fun ys p hp hs hn => by
    rw [sortI_uniq hp hs]
    exact q p _ (s.new hn)⟩
theorem n_dg2D {B : Hp} {L : Own} {Q : VK} {d : Addr} {ms : List (Int × V)} {i : Int} {z : V} (h : Is B L d (.dK (dI ms))) (q : N B L (Q ((getI ms i).getD z))) : N B L (fun H => Dg2b d Q (.int i) z H) := n_dg2I h (by rw [valV_dI]; exact q)
/-- many new objects that are changed no more -/
theorem n_freezeMap {α : Type} {L : Own} {k : Hp → Prop} (g : α → Addr) (o : α → HO) : ∀ (cs : List α) {B : Hp} (_ : ∀ B', Same B B' → (∀ c ∈ cs, B' (g c) = some (o c)) → N B' L k), N B (cs.map (fun c => (g c, o c)) ++ L) k
  | [], B, q => q B (Same.refl _) fun c h => nomatch h
  | c :: cs, B, q => by
    refine n_freeze 0 rfl fun B1 sm1 h1 => ?_
    refine n_freezeMap g o cs fun B2 sm2 h2 => q B2 (sm1.trans sm2) fun d hd => ?_
    rcases List.mem_cons.mp hd with rfl | hd
    · exact sm2 _ _ h1
    · exact h2 d hd
end Sk
namespace Gk09
open PySem PySem.Spec PyProof.Rows L2 Sk
local macro_rules | `(tactic| walk_at "sk bs") => `(tactic| (simp only [Bool.not_true, Bool.not_false, Bool.or_false, Bool.false_or, Bool.or_true, Bool.true_or, Bool.and_true, Bool.true_and, Bool.and_false, Bool.false_and, Bool.or_self, Bool.and_self, decide_true, decide_false, eq_self, bne_self_eq_false, beq_self_eq_true]))
local macro_rules | `(tactic| walk_at "sk om") => `(tactic| ((try simp only [Bool.not_eq_false', Bool.not_eq_true', Bool.and_eq_true, Bool.or_eq_true, Bool.and_eq_false_iff, Bool.or_eq_false_iff, decide_eq_true_eq, decide_eq_false_iff_not, Bool.not_true, Bool.not_false, Bool.false_or, Bool.true_and, Bool.and_true, Bool.or_false, List.length_map, eq_self, Decidable.not_not, true_and, and_true, Bool.true_eq_false, Bool.false_eq_true, false_or, or_false]); all_goals omega))
local macro_rules | `(tactic| walk_at "sk ix") => `(tactic| first | exact own_ix 0 rfl | exact own_ix 1 rfl | exact own_ix 2 rfl | exact own_ix 3 rfl | exact own_ix 4 rfl | exact own_ix 5 rfl | exact own_ix 6 rfl | exact own_ix 7 rfl | exact own_ix 8 rfl | exact own_ix 9 rfl | exact own_ix 10 rfl | exact own_ix 11 rfl | fail "sk")
local macro_rules | `(tactic| walk_at "sk len") => `(tactic| ((first | refine sz_ok ?_ | refine sz_lt ?_ | skip); first | assumption | omega | ((try simp only [List.length_cons, List.length_nil, List.length_append, List.length_map, List.length_set, List.length_replicate, List.length_take, List.length_range, List.length_drop, List.length_reverse, List.length_tail]); first | done | omega)))
local macro_rules | `(tactic| walk_at "sk sd") => `(tactic| first | with_reducible assumption | omega | exact cpow1 (by omega) (by omega) | exact ⟨by omega, by omega⟩ | assumption | decide | exact rfl | exact Or.inl ⟨by omega, by omega⟩ | exact Or.inr ⟨by omega, by omega⟩ | exact ⟨by omega, by omega⟩ | fail "sk")
local macro_rules | `(tactic| walk_at "sk sq") => `(tactic| first | exact sq_own 0 rfl | exact sq_own 1 rfl | exact sq_own 2 rfl | exact sq_own 3 rfl | exact sq_own 4 rfl | exact sq_own 5 rfl | exact sq_own 6 rfl | exact sq_own 7 rfl | exact sq_own 8 rfl | exact sq_own 9 rfl | exact sq_own 10 rfl | exact sq_own 11 rfl | assumption | (apply sq_old; assumption) | (apply sq_old; apply SqL.of; assumption) | (apply is_sq; assumption) | (apply Sq.sub; (next => assumption); (next => walk_at "sk sub")) | (apply is_sq; apply Is.sub; (next => assumption); (next => walk_at "sk sub")) | (apply Sq.mono; (next => assumption); walk_at "sk sq") | fail "sk")
local macro_rules | `(tactic| walk_at "sk tp") => `(tactic| first | exact tp_own 0 rfl | exact tp_own 1 rfl | exact tp_own 2 rfl | exact tp_own 3 rfl | exact tp_own 4 rfl | exact tp_own 5 rfl | exact tp_own 6 rfl | exact tp_own 7 rfl | exact tp_own 8 rfl | exact tp_own 9 rfl | exact tp_own 10 rfl | exact tp_own 11 rfl | assumption | (apply tp_old; assumption) | (apply tp_old; apply SqT.of; assumption) | (apply Tp.sub; (next => assumption); (next => walk_at "sk sub")) | (apply Tp.mono; (next => assumption); walk_at "sk tp") | fail "sk")
local macro_rules | `(tactic| walk_at "sk is") => `(tactic| first | exact is_own 0 rfl | exact is_own 1 rfl | exact is_own 2 rfl | exact is_own 3 rfl | exact is_own 4 rfl | exact is_own 5 rfl | exact is_own 6 rfl | exact is_own 7 rfl | exact is_own 8 rfl | exact is_own 9 rfl | exact is_own 10 rfl | exact is_own 11 rfl | assumption | (apply is_old; assumption) | (apply Is.sub; (next => assumption); (next => walk_at "sk sub")) | (apply Is.mono; (next => assumption); walk_at "sk is") | fail "sk")
local macro_rules | `(tactic| walk_at "sk da") => `(tactic| first | assumption | exact da_int | exact da_str | exact da_bl | exact da_non | exact Da.nil (by assumption) | (apply Da.sub; (next => assumption); (next => walk_at "sk sub")) | (apply da_ints; walk_at "sk sq") | (apply Da.mono; (next => assumption); walk_at "sk da") | fail "sk")
local macro_rules | `(tactic| walk_at "sk sm") => `(tactic| first | assumption | exact (Same.refl _) | (refine Same.trans ?_ (by assumption); walk_at "sk sm") | fail "sk")
local macro_rules | `(tactic| walk_at "sk lk") => `(tactic| first | exact lk_hit | exact lk_nil | (refine (lk_miss (by decide +kernel)).trans ?_; walk_at "sk lk") | fail "sk")
local macro_rules | `(tactic| walk_at "sk pf") => `(tactic| first | exact pf_nil | exact pf_hit | (apply pf_miss; (next => decide +kernel); walk_at "sk pf") | fail "sk")
local macro_rules | `(tactic| walk_at "sk dd") => `(tactic| first | walk_at "sk da" | (apply da_tup; (next => walk_at "sk tp"); repeat (first | exact daA_nil | (apply daA_cons; (next => walk_at "sk dd")))) | (apply da_lst; (next => walk_at "sk sq"); repeat (first | exact daA_nil | (apply daA_cons; (next => walk_at "sk dd")))) | fail "sk")
local macro_rules | `(tactic| walk_at "sk pd") => `(tactic| first | exact Paired.nil | (apply Paired.cons; (next => first | exact ClsV.own _ | exact ClsV.ty _); walk_at "sk pd") | fail "sk")
local macro_rules | `(tactic| walk_at "sk sub") => `(tactic| first | exact List.Sublist.refl _ | exact List.nil_sublist _ | (refine List.Sublist.cons₂ _ ?_; walk_at "sk sub") | (refine List.Sublist.cons _ ?_; walk_at "sk sub") | fail "sk")
local macro_rules | `(tactic| walk_at "sk st") => `(tactic| with_reducible first
  | (apply n_chain2; (next => (with_unfolding_all intro hb Qb qb; (try simp only [decide_eq_true_eq, decide_eq_false_iff_not, Bool.not_eq_true', Bool.and_eq_true, Bool.or_eq_true] at hb); walk_at "sk stp"; with_unfolding_all exact qb)))
  | (refine n_c ?_) | (apply n_var; (next => with_unfolding_all exact rfl)) | (refine n_op ?_)
  | (refine n_asg ?_) | (refine n_cons ?_) | (refine n_nil ?_) | (refine n_test ?_) | (refine n_tB ?_) | (refine n_bl ?_) | (refine n_cb ?_) | (refine n_call ?_)
  | (refine n_add ?_) | (refine n_sub_ ?_)
  | (apply n_mod; (next => with_unfolding_all walk_at "sk sd")) | (apply n_div; (next => with_unfolding_all walk_at "sk sd"); (next => with_unfolding_all walk_at "sk sd"))
  | (apply n_mul; (next => with_unfolding_all walk_at "sk sd")) | (apply n_pow; (next => with_unfolding_all walk_at "sk sd"); (try simp only [Int.reduceToNat, Int.reducePow])) | (apply n_shl; (next => with_unfolding_all walk_at "sk sd")) | (apply n_shr; (next => with_unfolding_all walk_at "sk sd"))
  | (refine n_and1 ?_) | (refine n_and127 ?_) | (refine n_and_ ?_) | (refine n_bits ?_) | (refine n_bits2 ?_)
  | (apply n_eqSt; (next => with_unfolding_all exact rfl)) | (apply n_eqSf; (next => decide +kernel)) | (apply n_neSf; (next => with_unfolding_all exact rfl)) | (apply n_neSt; (next => decide +kernel))
  | (refine n_eq ?_) | (refine n_ne ?_) | (refine n_lt ?_) | (refine n_le ?_) | (refine n_gt ?_) | (refine n_ge ?_) | (refine n_eqS ?_) | (refine n_neS ?_) | (refine n_eqB ?_) | (refine n_neB ?_) | (refine n_isN0 ?_) | (refine n_isNr ?_) | (refine n_isNi ?_) | (refine n_notN0 ?_) | (refine n_notNr ?_) | (refine n_notNi ?_)
  | (refine n_un ?_) | (refine n_neg ?_) | (refine n_not ?_) | (refine n_notV ?_) | (refine n_chain ?_) | (refine n_chain3 ?_)
  | (refine n_lst ?_) | (refine n_tup ?_) | (apply n_lst2; (next => with_unfolding_all walk_at "sk len"); intro p) | (apply n_tup2; (next => with_unfolding_all walk_at "sk len"); intro p)
  | (apply n_lenLi; (next => with_unfolding_all walk_at "sk sq")) | (apply n_len; (next => with_unfolding_all walk_at "sk sq")) | (apply n_lenT; (next => with_unfolding_all walk_at "sk tp"))
  | (apply n_listOf; (next => with_unfolding_all walk_at "sk sq"); intro p)
  | (apply n_ixL; (next => with_unfolding_all walk_at "sk sq"); (next => with_unfolding_all exact rfl))
  | (apply n_ixT; (next => with_unfolding_all walk_at "sk tp"); (next => with_unfolding_all exact rfl))
  | (apply n_ixLast; (next => with_unfolding_all walk_at "sk sq"))
  | (apply n_ixLiN; (next => with_unfolding_all walk_at "sk sq"); (next => with_unfolding_all walk_at "sk sd"); (next => with_unfolding_all walk_at "sk sd"))
  | (apply n_ixLi; (next => with_unfolding_all walk_at "sk sq"); (next => with_unfolding_all walk_at "sk sd"); (next => with_unfolding_all walk_at "sk sd"))
  | (refine n_sl ?_) | (refine n_noPart ?_) | (refine n_part ?_) | (refine n_int ?_) | (apply n_slLi; (next => with_unfolding_all walk_at "sk sq"); intro p) | (apply n_slL; (next => with_unfolding_all walk_at "sk sq"); intro p)
  | (apply n_eqNil; (next => with_unfolding_all walk_at "sk sq"); (next => with_unfolding_all walk_at "sk is")) | (apply n_neNil; (next => with_unfolding_all walk_at "sk sq"); (next => with_unfolding_all walk_at "sk is"))
  | (apply n_eqLi; (next => with_unfolding_all walk_at "sk sq"); (next => with_unfolding_all walk_at "sk sq"))
  | (apply n_neLi; (next => with_unfolding_all walk_at "sk sq"); (next => with_unfolding_all walk_at "sk sq"))
  | (apply n_isi_int (b := true); (next => with_unfolding_all exact rfl)) | (apply n_isi_int (b := false); (next => with_unfolding_all exact rfl)) | (apply n_isi_bl (b := true); (next => with_unfolding_all exact rfl)) | (apply n_isi_bl (b := false); (next => with_unfolding_all exact rfl)) | (apply n_isi_str (b := true); (next => with_unfolding_all exact rfl)) | (apply n_isi_str (b := false); (next => with_unfolding_all exact rfl)) | (apply n_isi_non (b := true); (next => with_unfolding_all exact rfl)) | (apply n_isi_non (b := false); (next => with_unfolding_all exact rfl))
  | (apply n_isi_lst (b := true); (next => with_unfolding_all walk_at "sk is"); (next => with_unfolding_all exact rfl)) | (apply n_isi_lst (b := false); (next => with_unfolding_all walk_at "sk is"); (next => with_unfolding_all exact rfl)) | (apply n_isi_tup (b := true); (next => with_unfolding_all walk_at "sk is"); (next => with_unfolding_all exact rfl)) | (apply n_isi_tup (b := false); (next => with_unfolding_all walk_at "sk is"); (next => with_unfolding_all exact rfl))
  | (refine n_unf ?_)
  | (refine n_next ?_; try dsimp only [onE_nx, onE_rt, onE_bk, onE_ct, loE_nx, loE_rt, loE_bk, loE_ct, endE_rt, endE_nx, asE_nx, asE_rt, asE_bk, asE_ct]) | (refine n_ret ?_; try dsimp only [onE_nx, onE_rt, onE_bk, onE_ct, loE_nx, loE_rt, loE_bk, loE_ct, endE_rt, endE_nx, asE_nx, asE_rt, asE_bk, asE_ct]) | (refine n_retN ?_; try dsimp only [onE_nx, onE_rt, onE_bk, onE_ct, loE_nx, loE_rt, loE_bk, loE_ct, endE_rt, endE_nx, asE_nx, asE_rt, asE_bk, asE_ct]) | (refine n_if ?_) | (refine n_drop ?_) | (refine n_seqNext ?_) | (refine n_seqBrk ?_; try dsimp only [onE_nx, onE_rt, onE_bk, onE_ct, loE_nx, loE_rt, loE_bk, loE_ct, endE_rt, endE_nx, asE_nx, asE_rt, asE_bk, asE_ct]) | (refine n_seqCont ?_; try dsimp only [onE_nx, onE_rt, onE_bk, onE_ct, loE_nx, loE_rt, loE_bk, loE_ct, endE_rt, endE_nx, asE_nx, asE_rt, asE_bk, asE_ct])
  | (apply n_aug; (next => with_unfolding_all exact rfl)) | (refine n_ip ?_)
  | (refine n_asgS ?_) | (refine n_asgT ?_) | (refine n_gCons ?_) | (refine n_gConsT ?_) | (refine n_gNil ?_) | (refine n_gName ?_) | (apply n_gTup; (next => with_unfolding_all walk_at "sk tp"); (next => with_unfolding_all exact rfl))
  | (refine n_bm ?_) | (apply n_tyL; (next => with_unfolding_all walk_at "sk sq"))
  | (apply n_appendLi; (next => with_unfolding_all walk_at "sk ix"); (next => with_unfolding_all walk_at "sk len"))
  | (apply n_setLi; (next => with_unfolding_all walk_at "sk ix"); (next => with_unfolding_all walk_at "sk sd"); (next => with_unfolding_all walk_at "sk sd"))
  | (apply n_extendLi; (next => with_unfolding_all walk_at "sk ix"); (next => with_unfolding_all walk_at "sk is"); (next => with_unfolding_all walk_at "sk len")) | (refine n_iR3 ?_)
  | (apply n_catLi; (next => with_unfolding_all walk_at "sk is"); (next => with_unfolding_all walk_at "sk is"); (next => with_unfolding_all walk_at "sk len"); intro p)
  | (apply n_cat; (next => with_unfolding_all walk_at "sk is"); (next => with_unfolding_all walk_at "sk is"); (next => with_unfolding_all walk_at "sk len"); intro p)
  | (apply n_append; (next => with_unfolding_all walk_at "sk ix"); (next => with_unfolding_all walk_at "sk len"))
  | (apply n_setL; (next => with_unfolding_all walk_at "sk ix"); (next => with_unfolding_all exact rfl))
  | (refine n_for ?_) | (refine n_iList ?_) | (refine n_iTup ?_) | (refine n_iR1 ?_) | (refine n_iR2 ?_) | (refine n_iE ?_) | (refine n_iV ?_) | (refine n_iZ ?_) | (refine n_iZR ?_) | (refine n_lc ?_) | (refine n_yes ?_) | (apply n_wiped; (next => with_unfolding_all exact rfl))
  | (refine n_iteT ?_) | (refine n_iteF ?_) | (apply n_iteFe; (next => with_unfolding_all exact rfl)) | (apply n_iteTe; (next => with_unfolding_all exact rfl))
  | (apply n_and; (next => (with_unfolding_all intro Qb qb; walk_at "sk stp"; with_unfolding_all exact qb)); (next => (with_unfolding_all intro hb Qb qb; (try simp only [decide_eq_true_eq, decide_eq_false_iff_not, Bool.not_eq_true', Bool.and_eq_true, Bool.or_eq_true] at hb); walk_at "sk stp"; with_unfolding_all exact qb)))
  | (apply n_or; (next => (with_unfolding_all intro Qb qb; walk_at "sk stp"; with_unfolding_all exact qb)); (next => (with_unfolding_all intro hb Qb qb; (try simp only [decide_eq_true_eq, decide_eq_false_iff_not, Bool.not_eq_false', Bool.and_eq_true, Bool.or_eq_true] at hb); walk_at "sk stp"; with_unfolding_all exact qb)))
  | (apply n_andV; (next => (with_unfolding_all intro Qb qb; walk_at "sk stp"; with_unfolding_all exact qb)); (next => (with_unfolding_all intro hb Qb qb; (try simp only [decide_eq_true_eq, decide_eq_false_iff_not, Bool.not_eq_true', Bool.and_eq_true, Bool.or_eq_true] at hb); walk_at "sk stp"; with_unfolding_all exact qb)))
  | (apply n_orV; (next => (with_unfolding_all intro Qb qb; walk_at "sk stp"; with_unfolding_all exact qb)); (next => (with_unfolding_all intro hb Qb qb; (try simp only [decide_eq_true_eq, decide_eq_false_iff_not, Bool.not_eq_false', Bool.and_eq_true, Bool.or_eq_true] at hb); walk_at "sk stp"; with_unfolding_all exact qb)))
  | (refine n_cl ?_) | (refine n_mt ?_) | (refine n_mkk ?_) | (refine n_mkK ?_; intro x dx) | (apply n_mtK; (next => with_unfolding_all walk_at "sk is"); (next => with_unfolding_all walk_at "sk lk"))
  | (refine n_fld ?_) | (apply n_fldK; (next => with_unfolding_all walk_at "sk is"); (next => with_unfolding_all walk_at "sk cl"); (next => with_unfolding_all walk_at "sk na"); (next => with_unfolding_all walk_at "sk lk"))
  | (refine n_asgF ?_) | (apply n_sfK; (next => with_unfolding_all walk_at "sk ix"); (next => with_unfolding_all walk_at "sk cl"); (next => with_unfolding_all walk_at "sk na"); (next => with_unfolding_all walk_at "sk len"); (next => with_unfolding_all walk_at "sk pf"))
  | (refine n_asgFa ?_) | (apply n_faK; (next => with_unfolding_all walk_at "sk is"); (next => with_unfolding_all walk_at "sk cl"); (next => with_unfolding_all walk_at "sk na"); (next => with_unfolding_all walk_at "sk lk"))
  | (apply n_fa2; (next => with_unfolding_all walk_at "sk ix"); (next => with_unfolding_all walk_at "sk len"); (next => with_unfolding_all walk_at "sk pf"))
  | (refine n_tryAs ?_) | (refine n_tryOn ?_) | (apply n_wAs; (next => with_unfolding_all walk_at "sk em"); intro ea) | (apply n_wOn; (next => with_unfolding_all walk_at "sk em"); intro ea)
  | (apply n_isX1; (next => with_unfolding_all walk_at "sk kx"); (next => with_unfolding_all walk_at "sk kit")) | (apply n_isX2; (next => with_unfolding_all walk_at "sk kx"); (next => with_unfolding_all walk_at "sk kit"))
  | (apply n_isXT; (next => with_unfolding_all walk_at "sk kx"); (next => with_unfolding_all walk_at "sk is"); (next => with_unfolding_all walk_at "sk pd"); (next => with_unfolding_all walk_at "sk kit"))
  | (apply n_ixS; (next => with_unfolding_all walk_at "sk len"); (next => assumption))
  | (apply n_intS; (next => assumption); (next => with_unfolding_all walk_at "sk sd"))
  | (refine n_ckw ?_) | (apply n_maxDf; (next => with_unfolding_all walk_at "sk sq")) | (refine n_m1 ?_) | (refine n_isS ?_) | (refine n_inSg ?_) | (refine n_niSg ?_) | (refine n_iStr ?_) | (apply n_lenS; (next => with_unfolding_all walk_at "sk len")) | (apply n_strIs; (next => with_unfolding_all walk_at "sk sd"); (next => with_unfolding_all walk_at "sk sd"))
  | (apply n_dnew; intro p) | (apply n_dnewT; intro p) | (refine n_dget ?_) | (refine n_din ?_) | (refine n_dni ?_) | (refine n_asgD ?_) | (refine n_asgDa ?_) | (refine n_dg1 ?_) | (refine n_dg2 ?_) | (refine n_dp1 ?_)
  | (apply n_dgI; (next => with_unfolding_all walk_at "sk is"); (next => assumption)) | (apply n_dgS; (next => with_unfolding_all walk_at "sk is"); (next => assumption)) | (apply n_dgT; (next => with_unfolding_all walk_at "sk is"); (next => with_unfolding_all walk_at "sk is"); (next => assumption))
  | (apply n_dinI; (next => with_unfolding_all walk_at "sk is")) | (apply n_dinS; (next => with_unfolding_all walk_at "sk is")) | (apply n_dinT; (next => with_unfolding_all walk_at "sk is"); (next => with_unfolding_all walk_at "sk is"))
  | (apply n_dniI; (next => with_unfolding_all walk_at "sk is")) | (apply n_dniS; (next => with_unfolding_all walk_at "sk is")) | (apply n_dniT; (next => with_unfolding_all walk_at "sk is"); (next => with_unfolding_all walk_at "sk is"))
  | (apply n_dpI; (next => with_unfolding_all walk_at "sk ix"); (next => with_unfolding_all walk_at "sk len")) | (apply n_dpS; (next => with_unfolding_all walk_at "sk ix"); (next => with_unfolding_all walk_at "sk len")) | (apply n_dpT; (next => with_unfolding_all walk_at "sk ix"); (next => with_unfolding_all walk_at "sk is"); (next => with_unfolding_all walk_at "sk len"))
  | (refine n_rAdd ?_) | (refine n_rSub ?_) | (apply n_daI; (next => with_unfolding_all walk_at "sk is"); (next => assumption)) | (apply n_da2I; (next => with_unfolding_all walk_at "sk ix"); (next => with_unfolding_all walk_at "sk len"))
  | (apply n_dg1K; (next => with_unfolding_all walk_at "sk is")) | (refine n_dg1I (by walk_at "sk is") ?_) | (refine n_dg1S (by walk_at "sk is") ?_) | (apply n_dg2K; (next => with_unfolding_all walk_at "sk is")) | (apply n_dg2I; (next => with_unfolding_all walk_at "sk is")) | (apply n_dg2S; (next => with_unfolding_all walk_at "sk is"))
  | (apply n_dp1K; (next => with_unfolding_all walk_at "sk is")) | (apply n_dp1I; (next => with_unfolding_all walk_at "sk ix"); (next => assumption)) | (apply n_dp1S; (next => with_unfolding_all walk_at "sk ix"); (next => assumption))
  | (apply n_sortI; (next => with_unfolding_all walk_at "sk sq"); intro p) | (apply n_sum; (next => with_unfolding_all walk_at "sk sq")) | (refine n_bm0 ?_) | (apply n_popL; (next => with_unfolding_all walk_at "sk ix"))
  | (refine n_max2 ?_) | (refine n_min2 ?_) | (refine n_intI ?_) | (refine n_intB ?_)
  | (refine n_rs ?_) | (refine n_nonA ?_ rfl)
  | (refine n_orC ?_) | (refine n_andC ?_) | (refine n_orCV ?_) | (refine n_andCV ?_) | (refine n_orK ?_) | (refine n_andK ?_)
  | (apply n_iteFe; (next => walk_at "sk bs")) | (apply n_iteTe; (next => walk_at "sk bs")) | (apply n_iteFe; (next => with_unfolding_all walk_at "sk om")) | (apply n_iteTe; (next => with_unfolding_all walk_at "sk om"))
  | (dsimp only [onE_nx, onE_rt, onE_bk, onE_ct, loE_nx, loE_rt, loE_bk, loE_ct, endE_rt, endE_nx, asE_nx, asE_rt, asE_bk, asE_ct]))
local macro_rules | `(tactic| walk_at "sk mulW") => `(tactic| (with_reducible apply n_mulW; (next => (unfold CMulW; decide +kernel)); (try simp only [Int.reduceMul])))
local macro_rules | `(tactic| walk_at "sk stp") => `(tactic| repeat walk_at "sk st")
def topS (i : Nat) : Stmt := PySem.Challenge.pw_seekpress_k09_behind_a_cut.main.body.getD i (.Pass ⟨0, 0, 0, 0⟩)
structure Ads where
  c_Rule : Addr
  c_NoRule : Addr
  a_FACTORS : Addr
structure Fct (K : PySem.W.Frag) (A : Ads) : Prop where
  cl_Rule : Cls K A.c_Rule
  n_Rule_kids_most : NoAttr K A.c_Rule "kids_most"
  n_Rule_least : NoAttr K A.c_Rule "least"
  n_Rule_most : NoAttr K A.c_Rule "most"
  n_Rule_share : NoAttr K A.c_Rule "share"
  v_FACTORS : ∀ H, SqL K H A.a_FACTORS [(.int (11)), (.int (5)), (.int (1))]
local macro_rules | `(tactic| walk_at "sk cl") => `(tactic| first | exact (‹Fct _ _›).cl_Rule)
local macro_rules | `(tactic| walk_at "sk na") => `(tactic| first | exact (‹Fct _ _›).n_Rule_kids_most | exact (‹Fct _ _›).n_Rule_least | exact (‹Fct _ _›).n_Rule_most | exact (‹Fct _ _›).n_Rule_share)
local macro_rules | `(tactic| walk_at "sk sq") => `(tactic| first | exact sq_old ((‹Fct _ _›).v_FACTORS _))
local macro_rules | `(tactic| walk_at "sk tp") => `(tactic| first | exact tp_old ((‹Fct _ _›).v_FACTORS _))
structure Txt (K : PySem.W.Frag) (mg : Str → Option Value) (A : Ads) : Prop where
  fct : Fct K A
  b_bool : mg "bool" = none
  b_enumerate : mg "enumerate" = none
  b_int : mg "int" = none
  b_isinstance : mg "isinstance" = none
  b_len : mg "len" = none
  b_min : mg "min" = none
  b_range : mg "range" = none
  b_reversed : mg "reversed" = none
  b_zip : mg "zip" = none
  c_FACTORS : mg "FACTORS" = some (.ref A.a_FACTORS)
  c_FEWEST_KIDS : ∃ u, mg "FEWEST_KIDS" = some u ∧ RelV (.int (2)) u
  c_FEWEST_MARKS : ∃ u, mg "FEWEST_MARKS" = some u ∧ RelV (.int (3)) u
  c_MOST_KIDS : ∃ u, mg "MOST_KIDS" = some u ∧ RelV (.int (8)) u
  c_MOST_MARKS : ∃ u, mg "MOST_MARKS" = some u ∧ RelV (.int (48)) u
  c_MOST_PART : ∃ u, mg "MOST_PART" = some u ∧ RelV (.int (64)) u
  g_Rule : mg "Rule" = some (.ref A.c_Rule)
  g_NoRule : mg "NoRule" = some (.ref A.c_NoRule)
  x_NoRule : PySem.W.excIn K A.c_NoRule [.type "ValueError", .type "Exception", .type "BaseException", .type "object"] "ValueError.__new__" = true
  k_NoRule : PySem.W.keepIn K (.ref A.c_NoRule) = true
  s_NoRule : PySem.W.subIn K (.ref A.c_NoRule) (.type "BaseException") = some true
  t_NoRule : PySem.W.typeIn K (.ref A.c_NoRule) = some (.type "type")
abbrev s_w_cell : Stmt := topS 19
abbrev N_w_cell : List Str := ["_law_script", "_law_k"]
theorem sc_w_cell : FnScope N_w_cell ["_law_script", "_law_k"] (defScope s_w_cell) := ⟨rfl, rfl, rfl, by decide +kernel, rfl, by decide +kernel, by decide +kernel⟩






def sp_w_cell (K : PySem.W.Frag) (A : Ads) : Sp := fun zvs zH Q E => ∃ (B : Hp) (G : Own) (a : Addr) (ns : List Int) (k0 : Int), zvs = [.ref a, .int k0] ∧ SI B G zH ∧ (Sq K B G a (ns.map V.int)) ∧ (0 ≤ k0) ∧ (N B G (Q (.int (ns.getD k0.toNat 0))))
theorem len_w_cell {K : PySem.W.Frag} {A : Ads} : ∀ vs H Q E, sp_w_cell K A vs H Q E → vs.length = 2 := by
  intro vs H Q E h
  obtain ⟨_, _, _, _, _, rfl, _⟩ := h
  rfl
def t_w_cell (K : PySem.W.Frag) (A : Ads) (E : XK) : TS :=
  (tSeq (tIfS (tTest (tOp uLt (tVar 1) (tCB (uLen K) (tCons (tVar 0) tNil))))
    (tSeq (tRet (tOp (rIx K) (tVar 0) (tVar 1)))
    tNext)
    tNext)
    (tSeq (tRet (tC (.int (0))))
    tNext))
theorem pure_w_cell {K : PySem.W.Frag} {A : Ads} (T : Fct K A) (vs : List V) (H : Hp) (Q : VK) (E : XK) (h : sp_w_cell K A vs H Q E) : t_w_cell K A E (endE Q) (L2.start N_w_cell vs) H := by
  obtain ⟨B, G, a, ns, k0, rfl, zs, hs, h0, k⟩ := h
  refine (?_ : N B G (fun H => t_w_cell K A E (endE Q) (L2.start N_w_cell [.ref a, .int k0]) H)) H zs
  clear zs
  unfold t_w_cell

  walk_at "sk stp"
  try rw [List.length_map]
  refine n_iteD (fun hb => ?_) (fun hb => ?_)
  · walk_at "sk stp"
    exact k
  · walk_at "sk stp"
    have e : ns.getD k0.toNat 0 = 0 := by rw [List.getD_eq_getElem?_getD, List.getElem?_eq_none (by omega)]; rfl
    rw [e] at k
    exact k
theorem raw_w_cell {P : Program} {w : World} {K : PySem.W.Frag} {mg : Str → Option Value} {base : Heap} {A : Ads} {f : Addr} {fd : FuncData} (F : Fun K "_law_cell" "_law_cell" s_w_cell f fd) (T : Txt K mg A) : FnOk P w K mg base CX0 1 f fd ["_law_script", "_law_k"] (sp_w_cell K A) := by
  refine F.ok sc_w_cell (fun vs H Q E h => len_w_cell vs H Q E h) (fun cdv Ar outer s H vs Q E hr h => ⟨t_w_cell K A E, PSs.nox ?_, pure_w_cell T.fct vs H Q E h⟩)
  have nd := sc_w_cell.nd
  exact (pss_cons (ps_if (pt_cmpR op_uLt (pv 1) (pe_callB call_uLen (by rfl) T.b_len boot_len (pa_cons (pv 0) pa_nil)) (nomark _)) (pss_cons (ps_ret (pe_ix ix_seq (pv 0) (pv 1) (fun _ _ => rfl)))
    pss_nil) pss_nil)
    (pss_cons (ps_ret pe_int)
    pss_nil))
theorem use_w_cell {K : PySem.W.Frag} {A : Ads} {B : Hp} {G : Own} {Q : VK} {E : XK} {a : Addr} {ns : List Int} {k0 : Int} (hs : Sq K B G a (ns.map V.int)) (h0 : 0 ≤ k0) (zq : N B G (Q (.int (ns.getD k0.toNat 0)))) : N B G (fun H => sp_w_cell K A [.ref a, .int k0] H Q E) := fun zH zs => ⟨B, _, _, _, _, rfl, zs, hs, h0, zq⟩
local macro_rules | `(tactic| walk_at "sk st") => `(tactic| with_reducible (apply use_w_cell; (next => with_unfolding_all walk_at "sk sq"); (next => with_unfolding_all walk_at "sk sd"); (skip)))

def Purse (o : HO) : Prop := ∃ x f : Int, o = .lst [.int x, .int f] ∧ 0 ≤ x ∧ (f = 0 ∨ f = 1)
abbrev s_w_purse : Stmt := topS 20
abbrev N_w_purse : List Str := ["_law_cell_here", "_law_way", "_law_large"]
theorem sc_w_purse : FnScope N_w_purse ["_law_cell_here", "_law_way"] (defScope s_w_purse) := ⟨rfl, rfl, rfl, by decide +kernel, rfl, by decide +kernel, by decide +kernel⟩





def sp_w_purse (K : PySem.W.Frag) (A : Ads) : Sp := fun zvs zH Q E => ∃ (B : Hp) (G : Own) (c w : Int), zvs = [.int c, .int w] ∧ SI B G zH ∧ (0 ≤ w ∧ w ≤ 1000) ∧ (∀ p o, Purse o → N B ((p, o) :: G) (Q (.ref p)))
theorem len_w_purse {K : PySem.W.Frag} {A : Ads} : ∀ vs H Q E, sp_w_purse K A vs H Q E → vs.length = 2 := by
  intro vs H Q E h
  obtain ⟨_, _, _, _, rfl, _⟩ := h
  rfl
def x_w_purse_0 (K : PySem.W.Frag) (A : Ads) (E : XK) : TS :=
  (tSeq (tRet (tLst (tCons (tOp (uAdd K) (tOp uMod (tVar 0) (tC (.int (2147483647)))) (tOp uMul (tOp uMul (tC (.int (7919))) (tVar 1)) (tVar 1))) (tCons (tC (.int (1))) tNil))))
    tNext)
instance {K : PySem.W.Frag} {A : Ads} {E : XK} : Unf (x_w_purse_0 K A E) (
  (tSeq (tRet (tLst (tCons (tOp (uAdd K) (tOp uMod (tVar 0) (tC (.int (2147483647)))) (tOp uMul (tOp uMul (tC (.int (7919))) (tVar 1)) (tVar 1))) (tCons (tC (.int (1))) tNil))))
    tNext)) := ⟨rfl⟩
def x_w_purse_1 (K : PySem.W.Frag) (A : Ads) (E : XK) : TS :=
  (tSeq (tIfS (tTest (tOp uGe (tVar 2) (tOp uPow (tC (.int (10))) (tC (.int (18))))))
    (tSeq (tRet (tLst (tCons (tVar 2) (tCons (tC (.int (0))) tNil))))
    tNext)
    tNext)
    (x_w_purse_0 K A E))
instance {K : PySem.W.Frag} {A : Ads} {E : XK} : Unf (x_w_purse_1 K A E) (
  (tSeq (tIfS (tTest (tOp uGe (tVar 2) (tOp uPow (tC (.int (10))) (tC (.int (18))))))
    (tSeq (tRet (tLst (tCons (tVar 2) (tCons (tC (.int (0))) tNil))))
    tNext)
    tNext)
    (x_w_purse_0 K A E))) := ⟨rfl⟩
def t_w_purse (K : PySem.W.Frag) (A : Ads) (E : XK) : TS :=
  (tSeq (tAsg (tOp uMod (tVar 0) (tOp uMul (tOp uPow (tC (.int (10))) (tC (.int (60)))) (tOp uPow (tC (.int (10))) (tC (.int (60)))))) (gName 2))
    (x_w_purse_1 K A E))
theorem pure_w_purse {K : PySem.W.Frag} {A : Ads} (T : Fct K A) (vs : List V) (H : Hp) (Q : VK) (E : XK) (h : sp_w_purse K A vs H Q E) : t_w_purse K A E (endE Q) (L2.start N_w_purse vs) H := by
  obtain ⟨B, G, c, w, rfl, zs, hw, k⟩ := h
  refine (?_ : N B G (fun H => t_w_purse K A E (endE Q) (L2.start N_w_purse [.int c, .int w]) H)) H zs
  clear zs
  unfold t_w_purse

  walk_at "sk stp"
  walk_at "sk mulW"
  walk_at "sk stp"
  refine n_iteD (fun hb => ?_) (fun hb => ?_)
  · walk_at "sk stp"
    exact k _ _ ⟨_, _, rfl, by omega, .inl rfl⟩
  · walk_at "sk stp"
    refine k _ _ ⟨_, _, rfl, ?_, .inr rfl⟩
    have h1 : 0 ≤ 7919 * w * w := Int.mul_nonneg (by omega) hw.1
    omega
theorem raw_w_purse {P : Program} {w : World} {K : PySem.W.Frag} {mg : Str → Option Value} {base : Heap} {A : Ads} {f : Addr} {fd : FuncData} (F : Fun K "_law_purse" "_law_purse" s_w_purse f fd) (T : Txt K mg A) : FnOk P w K mg base CX0 1 f fd ["_law_cell_here", "_law_way"] (sp_w_purse K A) := by
  refine F.ok sc_w_purse (fun vs H Q E h => len_w_purse vs H Q E h) (fun cdv Ar outer s H vs Q E hr h => ⟨t_w_purse K A E, PSs.nox ?_, pure_w_purse T.fct vs H Q E h⟩)
  have nd := sc_w_purse.nd
  exact (pss_cons (ps_set (i := 2) nd rfl (Or.inl rfl) (pe_op op_uMod (pv 0) (pe_op op_uMul (pe_op op_uPow pe_int pe_int) (pe_op op_uPow pe_int pe_int))))
    (pss_cons (ps_if (pt_cmpR op_uGe (pv 2) (pe_op op_uPow pe_int pe_int) (nomark _)) (pss_cons (ps_ret (pe_lst (pa_cons (pv 2) (pa_cons pe_int pa_nil))))
    pss_nil) pss_nil)
    (pss_cons (ps_ret (pe_lst (pa_cons (pe_op op_uAdd (pe_op op_uMod (pv 0) pe_int) (pe_op op_uMul (pe_op op_uMul pe_int (pv 1)) (pv 1))) (pa_cons pe_int pa_nil))))
    pss_nil)))
theorem use_w_purse {K : PySem.W.Frag} {A : Ads} {B : Hp} {G : Own} {Q : VK} {E : XK} {c w : Int} (hw : 0 ≤ w ∧ w ≤ 1000) (zq : ∀ p o, Purse o → N B ((p, o) :: G) (Q (.ref p))) : N B G (fun H => sp_w_purse K A [.int c, .int w] H Q E) := fun zH zs => ⟨B, _, _, _, rfl, zs, hw, zq⟩

abbrev s_w_take : Stmt := topS 21
abbrev N_w_take : List Str := ["_law_purse_here", "_law_many", "_law_digit"]
theorem sc_w_take : FnScope N_w_take ["_law_purse_here", "_law_many"] (defScope s_w_take) := ⟨rfl, rfl, rfl, by decide +kernel, rfl, by decide +kernel, by decide +kernel⟩







def sp_w_take (K : PySem.W.Frag) (A : Ads) : Sp := fun zvs zH Q E => ∃ (B : Hp) (G : Own) (p : Addr) (o : HO) (m : Int), zvs = [.ref p, .int m] ∧ SI B ((p, o) :: G) zH ∧ (Purse o) ∧ (0 < m ∧ m < 1073741824) ∧ (∀ o' d, Purse o' → 0 ≤ d → d < m → NP B [] p o' G (Q (.int d)))
theorem len_w_take {K : PySem.W.Frag} {A : Ads} : ∀ vs H Q E, sp_w_take K A vs H Q E → vs.length = 2 := by
  intro vs H Q E h
  obtain ⟨_, _, _, _, _, rfl, _⟩ := h
  rfl
def x_w_take_0 (K : PySem.W.Frag) (A : Ads) (E : XK) : TS :=
  (tSeq (tRet (tOp uMod (tOp uDiv (tOp uMod (tOp uMul (tOp (rIx K) (tVar 0) (tC (.int (0)))) (tC (.int (69621)))) (tC (.int (2147483629)))) (tC (.int (5)))) (tVar 1)))
    tNext)
instance {K : PySem.W.Frag} {A : Ads} {E : XK} : Unf (x_w_take_0 K A E) (
  (tSeq (tRet (tOp uMod (tOp uDiv (tOp uMod (tOp uMul (tOp (rIx K) (tVar 0) (tC (.int (0)))) (tC (.int (69621)))) (tC (.int (2147483629)))) (tC (.int (5)))) (tVar 1)))
    tNext)) := ⟨rfl⟩
def x_w_take_1 (K : PySem.W.Frag) (A : Ads) (E : XK) : TS :=
  (tSeq (tAsg (tOp uDiv (tOp (rIx K) (tVar 0) (tC (.int (0)))) (tVar 1)) (gSub (tVar 0) (tC (.int (0))) rSetL))
    (tSeq (tRet (tVar 2))
    tNext))
instance {K : PySem.W.Frag} {A : Ads} {E : XK} : Unf (x_w_take_1 K A E) (
  (tSeq (tAsg (tOp uDiv (tOp (rIx K) (tVar 0) (tC (.int (0)))) (tVar 1)) (gSub (tVar 0) (tC (.int (0))) rSetL))
    (tSeq (tRet (tVar 2))
    tNext))) := ⟨rfl⟩
def x_w_take_2 (K : PySem.W.Frag) (A : Ads) (E : XK) : TS :=
  (tSeq (tAsg (tOp uMod (tOp (uAdd K) (tOp uMul (tOp (rIx K) (tVar 0) (tC (.int (0)))) (tC (.int (48271)))) (tC (.int (12345)))) (tC (.int (2147483647)))) (gSub (tVar 0) (tC (.int (0))) rSetL))
    (x_w_take_0 K A E))
instance {K : PySem.W.Frag} {A : Ads} {E : XK} : Unf (x_w_take_2 K A E) (
  (tSeq (tAsg (tOp uMod (tOp (uAdd K) (tOp uMul (tOp (rIx K) (tVar 0) (tC (.int (0)))) (tC (.int (48271)))) (tC (.int (12345)))) (tC (.int (2147483647)))) (gSub (tVar 0) (tC (.int (0))) rSetL))
    (x_w_take_0 K A E))) := ⟨rfl⟩
def t_w_take (K : PySem.W.Frag) (A : Ads) (E : XK) : TS :=
  (tSeq (tIfS (tTest (tOp (uEq K) (tOp (rIx K) (tVar 0) (tC (.int (1)))) (tC (.int (0)))))
    (tSeq (tAsg (tOp uMod (tOp (rIx K) (tVar 0) (tC (.int (0)))) (tVar 1)) (gName 2))
    (x_w_take_1 K A E))
    tNext)
    (x_w_take_2 K A E))
theorem pure_w_take {K : PySem.W.Frag} {A : Ads} (T : Fct K A) (vs : List V) (H : Hp) (Q : VK) (E : XK) (h : sp_w_take K A vs H Q E) : t_w_take K A E (endE Q) (L2.start N_w_take vs) H := by
  obtain ⟨B, G, p, o, m, rfl, zs, ho, hm, k⟩ := h
  refine (?_ : N B ((p, o) :: G) (fun H => t_w_take K A E (endE Q) (L2.start N_w_take [.ref p, .int m]) H)) H zs
  clear zs
  unfold t_w_take

  obtain ⟨x, f, rfl, hx, hf⟩ := ho
  obtain ⟨m0, m1⟩ := hm
  walk_at "sk stp"
  refine n_iteD (fun hb => ?_) (fun hb => ?_)
  · walk_at "sk stp"
    exact k _ _ ⟨_, _, rfl, Int.ediv_nonneg hx (by omega), hf⟩ (Int.emod_nonneg _ (by omega)) (Int.emod_lt_of_pos _ m0)
  · walk_at "sk stp"
    exact k _ _ ⟨_, _, rfl, Int.emod_nonneg _ (by omega), hf⟩ (Int.emod_nonneg _ (by omega)) (Int.emod_lt_of_pos _ m0)
theorem raw_w_take {P : Program} {w : World} {K : PySem.W.Frag} {mg : Str → Option Value} {base : Heap} {A : Ads} {f : Addr} {fd : FuncData} (F : Fun K "_law_take" "_law_take" s_w_take f fd) (T : Txt K mg A) : FnOk P w K mg base CX0 1 f fd ["_law_purse_here", "_law_many"] (sp_w_take K A) := by
  refine F.ok sc_w_take (fun vs H Q E h => len_w_take vs H Q E h) (fun cdv Ar outer s H vs Q E hr h => ⟨t_w_take K A E, PSs.nox ?_, pure_w_take T.fct vs H Q E h⟩)
  have nd := sc_w_take.nd
  exact (pss_cons (ps_if (pt_cmpR (op_uEq hr.units) (pe_ix ix_seq (pv 0) pe_int (fun _ _ => rfl)) pe_int (nomark _)) (pss_cons (ps_set (i := 2) nd rfl (Or.inl rfl) (pe_op op_uMod (pe_ix ix_seq (pv 0) pe_int (fun _ _ => rfl)) (pv 1)))
    (pss_cons (ps_asg (pe_op op_uDiv (pe_ix ix_seq (pv 0) pe_int (fun _ _ => rfl)) (pv 1)) (pg_sub (pv 0) pe_int set_list))
    (pss_cons (ps_ret (pv 2))
    pss_nil))) pss_nil)
    (pss_cons (ps_asg (pe_op op_uMod (pe_op op_uAdd (pe_op op_uMul (pe_ix ix_seq (pv 0) pe_int (fun _ _ => rfl)) pe_int) pe_int) pe_int) (pg_sub (pv 0) pe_int set_list))
    (pss_cons (ps_ret (pe_op op_uMod (pe_op op_uDiv (pe_op op_uMod (pe_op op_uMul (pe_ix ix_seq (pv 0) pe_int (fun _ _ => rfl)) pe_int) pe_int) pe_int) (pv 1)))
    pss_nil)))
theorem use_w_take {K : PySem.W.Frag} {A : Ads} {B : Hp} {L : Own} {Q : VK} {E : XK} {p : Addr} {o : HO} {m : Int} (i : Nat) (hi : L[i]? = some (p, o)) (ho : Purse o) (hm : 0 < m ∧ m < 1073741824) (zq : ∀ o' d, Purse o' → 0 ≤ d → d < m → NQ B [] p o' L i (Q (.int d))) : N B L (fun H => sp_w_take K A [.ref p, .int m] H Q E) := fun zH zs => ⟨B, _, _, _, _, rfl, zs.front hi, ho, hm, by (intros; first | (refine NP.of hi ?_; apply zq <;> assumption) | (apply zq <;> assumption))⟩

abbrev s_is_whole : Stmt := topS 16
abbrev N_is_whole : List Str := ["thing"]
theorem sc_is_whole : FnScope N_is_whole ["thing"] (defScope s_is_whole) := ⟨rfl, rfl, rfl, by decide +kernel, rfl, by decide +kernel, by decide +kernel⟩




def sp_is_whole (K : PySem.W.Frag) (A : Ads) : Sp := fun zvs zH Q E => ∃ (B : Hp) (G : Own) (i : Int), zvs = [.int i] ∧ SI B G zH ∧ (N B G (Q (.bl true)))
theorem len_is_whole {K : PySem.W.Frag} {A : Ads} : ∀ vs H Q E, sp_is_whole K A vs H Q E → vs.length = 1 := by
  intro vs H Q E h
  obtain ⟨_, _, _, rfl, _⟩ := h
  rfl
def t_is_whole (K : PySem.W.Frag) (A : Ads) (E : XK) : TS :=
  (tSeq (tRet (tAndV (tCB (rIsi K) (tCons (tVar 0) (tCons (tC (.ty "int")) tNil))) (tNotV (tCB (rIsi K) (tCons (tVar 0) (tCons (tC (.ty "bool")) tNil))))))
    tNext)
theorem pure_is_whole {K : PySem.W.Frag} {A : Ads} (T : Fct K A) (vs : List V) (H : Hp) (Q : VK) (E : XK) (h : sp_is_whole K A vs H Q E) : t_is_whole K A E (endE Q) (L2.start N_is_whole vs) H := by
  obtain ⟨B, G, i, rfl, zs, k⟩ := h
  refine (?_ : N B G (fun H => t_is_whole K A E (endE Q) (L2.start N_is_whole [.int i]) H)) H zs
  clear zs
  unfold t_is_whole

  walk_at "sk stp"
  exact k
theorem raw_is_whole {P : Program} {w : World} {K : PySem.W.Frag} {mg : Str → Option Value} {base : Heap} {A : Ads} {f : Addr} {fd : FuncData} (F : Fun K "is_whole" "is_whole" s_is_whole f fd) (T : Txt K mg A) : FnOk P w K mg base CX0 1 f fd ["thing"] (sp_is_whole K A) := by
  refine F.ok sc_is_whole (fun vs H Q E h => len_is_whole vs H Q E h) (fun cdv Ar outer s H vs Q E hr h => ⟨t_is_whole K A E, PSs.nox ?_, pure_is_whole T.fct vs H Q E h⟩)
  have nd := sc_is_whole.nd
  exact (pss_cons (ps_ret (pe_and (pe_callB call_isi (by rfl) T.b_isinstance boot_isinstance (pa_cons (pv 0) (pa_cons (pe_bltn (v := .ty "int") (by rfl) T.b_int boot_int rfl) pa_nil))) (pe_one (pe_not (pe_callB call_isi (by rfl) T.b_isinstance boot_isinstance (pa_cons (pv 0) (pa_cons (pe_bltn (v := .ty "bool") (by rfl) T.b_bool boot_bool rfl) pa_nil)))))))
    pss_nil)
theorem use_is_whole {K : PySem.W.Frag} {A : Ads} {B : Hp} {G : Own} {Q : VK} {E : XK} {i : Int} (zq : N B G (Q (.bl true))) : N B G (fun H => sp_is_whole K A [.int i] H Q E) := fun zH zs => ⟨B, _, _, rfl, zs, zq⟩
local macro_rules | `(tactic| walk_at "sk st") => `(tactic| with_reducible (apply use_is_whole; (skip)))

structure R4 where
  p : Int
  l : Int
  m : Int
  k : Int
def R4.ok (r : R4) : Prop := (1 ≤ r.p ∧ r.p ≤ 64) ∧ (3 ≤ r.l ∧ r.l ≤ r.m ∧ r.m ≤ 48) ∧ 2 ≤ r.k ∧ r.k ≤ 8
def ruleO (A : Ads) (dx : Addr) (r : R4) : HO := .ins A.c_Rule dx [("share", .int r.p), ("least", .int r.l), ("most", .int r.m), ("kids_most", .int r.k)]
def fourO (r : R4) : HO := .tup [.int r.p, .int r.l, .int r.m, .int r.k]
abbrev s_Rule___init__ : Stmt := inClass (topS 17) 0
abbrev N_Rule___init__ : List Str := ["self", "part", "least", "most", "kids", "thing"]
theorem sc_Rule___init__ : FnScope N_Rule___init__ ["self", "part", "least", "most", "kids"] (defScope s_Rule___init__) := ⟨rfl, rfl, rfl, by decide +kernel, rfl, by decide +kernel, by decide +kernel⟩






def sp_Rule___init__ (K : PySem.W.Frag) (A : Ads) : Sp := fun zvs zH Q E => ∃ (B : Hp) (G : Own) (p dx : Addr) (r : R4), zvs = [.ref p, .int r.p, .int r.l, .int r.m, .int r.k] ∧ SI B ((p, .ins A.c_Rule dx []) :: G) zH ∧ (r.ok) ∧ (NP B [] p (ruleO A dx r) G (Q .non))
theorem len_Rule___init__ {K : PySem.W.Frag} {A : Ads} : ∀ vs H Q E, sp_Rule___init__ K A vs H Q E → vs.length = 5 := by
  intro vs H Q E h
  obtain ⟨_, _, _, _, _, rfl, _⟩ := h
  rfl
def x_Rule___init___0 (K : PySem.W.Frag) (A : Ads) (E : XK) : TS :=
  (tSeq (sFld K (tVar 0) (tVar 2) "least")
    (tSeq (sFld K (tVar 0) (tVar 3) "most")
    (tSeq (sFld K (tVar 0) (tVar 4) "kids_most")
    tNext)))
instance {K : PySem.W.Frag} {A : Ads} {E : XK} : Unf (x_Rule___init___0 K A E) (
  (tSeq (sFld K (tVar 0) (tVar 2) "least")
    (tSeq (sFld K (tVar 0) (tVar 3) "most")
    (tSeq (sFld K (tVar 0) (tVar 4) "kids_most")
    tNext)))) := ⟨rfl⟩
def x_Rule___init___1 (K : PySem.W.Frag) (A : Ads) (E : XK) : TS :=
  (tSeq (tIfS (tNot (tTest (tChain uLe uLe (tC (.int (2))) (tVar 4) (tC (.int (8))))))
    (tSeq (tRs A.c_NoRule (fun cls d _ H => E cls d H))
    tNext)
    tNext)
    (tSeq (sFld K (tVar 0) (tVar 1) "share")
    (x_Rule___init___0 K A E)))
instance {K : PySem.W.Frag} {A : Ads} {E : XK} : Unf (x_Rule___init___1 K A E) (
  (tSeq (tIfS (tNot (tTest (tChain uLe uLe (tC (.int (2))) (tVar 4) (tC (.int (8))))))
    (tSeq (tRs A.c_NoRule (fun cls d _ H => E cls d H))
    tNext)
    tNext)
    (tSeq (sFld K (tVar 0) (tVar 1) "share")
    (x_Rule___init___0 K A E)))) := ⟨rfl⟩
def x_Rule___init___2 (K : PySem.W.Frag) (A : Ads) (E : XK) : TS :=
  (tSeq (tIfS (tOr (tNot (tTest (tChain uLe uLe (tC (.int (1))) (tVar 1) (tC (.int (64)))))) (tNot (tTest (tChain3 uLe uLe uLe (tC (.int (3))) (tVar 2) (tVar 3) (tC (.int (48)))))))
    (tSeq (tRs A.c_NoRule (fun cls d _ H => E cls d H))
    tNext)
    tNext)
    (x_Rule___init___1 K A E))
instance {K : PySem.W.Frag} {A : Ads} {E : XK} : Unf (x_Rule___init___2 K A E) (
  (tSeq (tIfS (tOr (tNot (tTest (tChain uLe uLe (tC (.int (1))) (tVar 1) (tC (.int (64)))))) (tNot (tTest (tChain3 uLe uLe uLe (tC (.int (3))) (tVar 2) (tVar 3) (tC (.int (48)))))))
    (tSeq (tRs A.c_NoRule (fun cls d _ H => E cls d H))
    tNext)
    tNext)
    (x_Rule___init___1 K A E))) := ⟨rfl⟩
def t_Rule___init__ (K : PySem.W.Frag) (A : Ads) (E : XK) : TS :=
  (tSeq (tFor (iList K (tLst (tCons (tVar 1) (tCons (tVar 2) (tCons (tVar 3) (tCons (tVar 4) tNil)))))) (gName 5)
    (tSeq (tIfS (tNot (tB (tCl (sp_is_whole K A) (WE (fun cls d _ H => E cls d H)) (tCons (tVar 5) tNil))))
    (tSeq (tRs A.c_NoRule (fun cls d _ H => E cls d H))
    tNext)
    tNext)
    tNext))
    (x_Rule___init___2 K A E))
theorem pure_Rule___init__ {K : PySem.W.Frag} {A : Ads} (T : Fct K A) (vs : List V) (H : Hp) (Q : VK) (E : XK) (h : sp_Rule___init__ K A vs H Q E) : t_Rule___init__ K A E (endE Q) (L2.start N_Rule___init__ vs) H := by
  obtain ⟨B, G, p, dx, r, rfl, zs, hr, k⟩ := h
  refine (?_ : N B ((p, .ins A.c_Rule dx []) :: G) (fun H => t_Rule___init__ K A E (endE Q) (L2.start N_Rule___init__ [.ref p, .int r.p, .int r.l, .int r.m, .int r.k]) H)) H zs
  clear zs
  unfold t_Rule___init__

  obtain ⟨p1, l1, m1, k1⟩ := r
  obtain ⟨⟨a1, a2⟩, ⟨a3, a4, a5⟩, a6, a7⟩ := hr
  dsimp only at a1 a2 a3 a4 a5 a6 a7
  walk_at "sk stp"
  rename_i q
  refine n_lpLi [p1, l1, m1, k1] (fun i σ L => ∃ (y : Option V), σ = [some (.ref p), some (.int p1), some (.int l1), some (.int m1), some (.int k1), y] ∧ L = (q, .lst ([p1, l1, m1, k1].map V.int)) :: (p, .ins A.c_Rule dx []) :: G) ?_ ⟨_, rfl, rfl⟩ ?_ ?_
  · rintro i σ L _ ⟨y, rfl, rfl⟩
    walk_at "sk sq"
  · rintro i σ L hi ⟨y, rfl, rfl⟩
    generalize [p1, l1, m1, k1][i] = z
    walk_at "sk stp"
    exact n_ki ⟨_, rfl, rfl⟩ (.refl _)
  · rintro σ L ⟨y, rfl, rfl⟩
    walk_at "sk stp"
    exact n_tl k
theorem raw_Rule___init__ {P : Program} {w : World} {K : PySem.W.Frag} {mg : Str → Option Value} {base : Heap} {A : Ads} {f : Addr} {fd : FuncData} (F : Fun K "__init__" "Rule.__init__" s_Rule___init__ f fd) (T : Txt K mg A) (O_is_whole : OkC P w K mg base CX0 1 "is_whole" ["thing"] (sp_is_whole K A)) : FnOk P w K mg base (CXN P w) 2 f fd ["self", "part", "least", "most", "kids"] (sp_Rule___init__ K A) := by
  refine okN F sc_Rule___init__ (fun vs H Q E h => len_Rule___init__ vs H Q E h) (fun cdv Ar outer s H vs Q E hr h => ⟨t_Rule___init__ K A E, ?_, pure_Rule___init__ T.fct vs H Q E h⟩)
  have nd := sc_Rule___init__.nd
  exact (pss_cons (ps_for (passes_of rfl) rfl (pi_list (pe_lst (pa_cons (pv 1) (pa_cons (pv 2) (pa_cons (pv 3) (pa_cons (pv 4) pa_nil)))))) (pg_name (i := 5) nd rfl (Or.inl rfl))
    (pss_cons (ps_if (pt_not (pt_val (pe_cl (E := WE (fun cls d _ H => E cls d H)) O_is_whole (hr.mono (by decide)) (by rfl) pass00 (pa_cons (pv 5) pa_nil)))) (pss_cons (L2N.ps_raise rfl (L2N.takes_of rfl rfl rfl rfl) (L2N.pmk_own PySem.F.excBase_ValueError T.x_NoRule T.g_NoRule T.k_NoRule (raises_own T.s_NoRule T.t_NoRule) (by rfl)))
    pss_nil) pss_nil)
    pss_nil))
    (pss_cons (ps_if (PW.pt (pw_or (pt_not (pt_chain op_uLe op_uLe pe_int (pv 1) (pe_glob (by rfl) T.c_MOST_PART.choose_spec.1 T.c_MOST_PART.choose_spec.2))) (pw_or1 (pt_not (pt_chain3 op_uLe op_uLe op_uLe (pe_glob (by rfl) T.c_FEWEST_MARKS.choose_spec.1 T.c_FEWEST_MARKS.choose_spec.2) (pv 2) (pv 3) (pe_glob (by rfl) T.c_MOST_MARKS.choose_spec.1 T.c_MOST_MARKS.choose_spec.2)))))) (pss_cons (L2N.ps_raise rfl (L2N.takes_of rfl rfl rfl rfl) (L2N.pmk_own PySem.F.excBase_ValueError T.x_NoRule T.g_NoRule T.k_NoRule (raises_own T.s_NoRule T.t_NoRule) (by rfl)))
    pss_nil) pss_nil)
    (pss_cons (ps_if (pt_not (pt_chain op_uLe op_uLe (pe_glob (by rfl) T.c_FEWEST_KIDS.choose_spec.1 T.c_FEWEST_KIDS.choose_spec.2) (pv 4) (pe_glob (by rfl) T.c_MOST_KIDS.choose_spec.1 T.c_MOST_KIDS.choose_spec.2))) (pss_cons (L2N.ps_raise rfl (L2N.takes_of rfl rfl rfl rfl) (L2N.pmk_own PySem.F.excBase_ValueError T.x_NoRule T.g_NoRule T.k_NoRule (raises_own T.s_NoRule T.t_NoRule) (by rfl)))
    pss_nil) pss_nil)
    (pss_cons (ps_fld (pv 0) (pv 1) rfl)
    (pss_cons (ps_fld (pv 0) (pv 2) rfl)
    (pss_cons (ps_fld (pv 0) (pv 3) rfl)
    (pss_cons (ps_fld (pv 0) (pv 4) rfl)
    pss_nil)))))))
theorem use_Rule___init__ {K : PySem.W.Frag} {A : Ads} {B : Hp} {L : Own} {Q : VK} {E : XK} {p dx : Addr} {r : R4} (i : Nat) (hi : L[i]? = some (p, .ins A.c_Rule dx [])) (hr : r.ok) (zq : NQ B [] p (ruleO A dx r) L i (Q .non)) : N B L (fun H => sp_Rule___init__ K A [.ref p, .int r.p, .int r.l, .int r.m, .int r.k] H Q E) := fun zH zs => ⟨B, _, _, _, _, rfl, zs.front hi, hr, by (intros; first | (refine NP.of hi ?_; apply zq <;> assumption) | (apply zq <;> assumption))⟩
local macro_rules | `(tactic| walk_at "sk st") => `(tactic| with_reducible (apply use_Rule___init__; (next => with_unfolding_all walk_at "sk ix"); (next => with_unfolding_all walk_at "sk sd"); (skip)))

theorem getD_mem {P : Int → Prop} {l : List Int} {i : Int} (h : ∀ x ∈ l, P x) (h0 : 0 ≤ i) (h1 : i < l.length) : P (l.getD i.toNat 0) := by
  rw [List.getD_eq_getElem?_getD, List.getElem?_eq_getElem (show i.toNat < l.length by omega)]
  exact h _ (List.getElem_mem _)
abbrev s_w_rule : Stmt := topS 22
abbrev N_w_rule : List Str := ["_law_purse_here", "_law_part", "_law_least", "_law_most"]
theorem sc_w_rule : FnScope N_w_rule ["_law_purse_here"] (defScope s_w_rule) := ⟨rfl, rfl, rfl, by decide +kernel, rfl, by decide +kernel, by decide +kernel⟩







def sp_w_rule (K : PySem.W.Frag) (A : Ads) : Sp := fun zvs zH Q E => ∃ (B : Hp) (G : Own) (p : Addr) (o : HO), zvs = [.ref p] ∧ SI B ((p, o) :: G) zH ∧ (Purse o) ∧ (∀ o' tp (r : R4), Purse o' → r.ok → NP B [(tp, fourO r)] p o' G (Q (.ref tp)))
theorem len_w_rule {K : PySem.W.Frag} {A : Ads} : ∀ vs H Q E, sp_w_rule K A vs H Q E → vs.length = 1 := by
  intro vs H Q E h
  obtain ⟨_, _, _, _, rfl, _⟩ := h
  rfl
def x_w_rule_0 (K : PySem.W.Frag) (A : Ads) (E : XK) : TS :=
  (tSeq (tRet (tTup (tCons (tVar 1) (tCons (tVar 2) (tCons (tVar 3) (tCons (tOp (uAdd K) (tC (.int (2))) (tCl (sp_w_take K A) (WE W0) (tCons (tVar 0) (tCons (tC (.int (7))) tNil)))) tNil))))))
    tNext)
instance {K : PySem.W.Frag} {A : Ads} {E : XK} : Unf (x_w_rule_0 K A E) (
  (tSeq (tRet (tTup (tCons (tVar 1) (tCons (tVar 2) (tCons (tVar 3) (tCons (tOp (uAdd K) (tC (.int (2))) (tCl (sp_w_take K A) (WE W0) (tCons (tVar 0) (tCons (tC (.int (7))) tNil)))) tNil))))))
    tNext)) := ⟨rfl⟩
def x_w_rule_1 (K : PySem.W.Frag) (A : Ads) (E : XK) : TS :=
  (tSeq (tAsg (tOp (uAdd K) (tVar 2) (tOp (rIx K) (tLst (tCons (tC (.int (0))) (tCons (tC (.int (1))) (tCons (tC (.int (3))) (tCons (tC (.int (6))) (tCons (tOp uSub (tC (.int (48))) (tVar 2)) tNil)))))) (tCl (sp_w_take K A) (WE W0) (tCons (tVar 0) (tCons (tC (.int (5))) tNil))))) (gName 3))
    (x_w_rule_0 K A E))
instance {K : PySem.W.Frag} {A : Ads} {E : XK} : Unf (x_w_rule_1 K A E) (
  (tSeq (tAsg (tOp (uAdd K) (tVar 2) (tOp (rIx K) (tLst (tCons (tC (.int (0))) (tCons (tC (.int (1))) (tCons (tC (.int (3))) (tCons (tC (.int (6))) (tCons (tOp uSub (tC (.int (48))) (tVar 2)) tNil)))))) (tCl (sp_w_take K A) (WE W0) (tCons (tVar 0) (tCons (tC (.int (5))) tNil))))) (gName 3))
    (x_w_rule_0 K A E))) := ⟨rfl⟩
def x_w_rule_2 (K : PySem.W.Frag) (A : Ads) (E : XK) : TS :=
  (tSeq (tAsg (tOp (uAdd K) (tC (.int (3))) (tOp (rIx K) (tLst (tCons (tC (.int (0))) (tCons (tC (.int (1))) (tCons (tC (.int (2))) (tCons (tC (.int (5))) (tCons (tC (.int (9))) tNil)))))) (tCl (sp_w_take K A) (WE W0) (tCons (tVar 0) (tCons (tC (.int (5))) tNil))))) (gName 2))
    (x_w_rule_1 K A E))
instance {K : PySem.W.Frag} {A : Ads} {E : XK} : Unf (x_w_rule_2 K A E) (
  (tSeq (tAsg (tOp (uAdd K) (tC (.int (3))) (tOp (rIx K) (tLst (tCons (tC (.int (0))) (tCons (tC (.int (1))) (tCons (tC (.int (2))) (tCons (tC (.int (5))) (tCons (tC (.int (9))) tNil)))))) (tCl (sp_w_take K A) (WE W0) (tCons (tVar 0) (tCons (tC (.int (5))) tNil))))) (gName 2))
    (x_w_rule_1 K A E))) := ⟨rfl⟩
def x_w_rule_3 (K : PySem.W.Frag) (A : Ads) (E : XK) : TS :=
  (Evl.tCut (tIfS (tTest (tOp (uEq K) (tCl (sp_w_take K A) (WE W0) (tCons (tVar 0) (tCons (tC (.int (4))) tNil))) (tC (.int (1)))))
    (tSeq (tAsg (tOp (uAdd K) (tC (.int (1))) (tCl (sp_w_take K A) (WE W0) (tCons (tVar 0) (tCons (tC (.int (64))) tNil)))) (gName 1))
    tNext)
    tNext)
    (x_w_rule_2 K A E))
instance {K : PySem.W.Frag} {A : Ads} {E : XK} : Unf (x_w_rule_3 K A E) (
  (Evl.tCut (tIfS (tTest (tOp (uEq K) (tCl (sp_w_take K A) (WE W0) (tCons (tVar 0) (tCons (tC (.int (4))) tNil))) (tC (.int (1)))))
    (tSeq (tAsg (tOp (uAdd K) (tC (.int (1))) (tCl (sp_w_take K A) (WE W0) (tCons (tVar 0) (tCons (tC (.int (64))) tNil)))) (gName 1))
    tNext)
    tNext)
    (x_w_rule_2 K A E))) := ⟨rfl⟩
def t_w_rule (K : PySem.W.Frag) (A : Ads) (E : XK) : TS :=
  (tSeq (tAsg (tOp (rIx K) (tLst (tCons (tC (.int (1))) (tCons (tC (.int (2))) (tCons (tC (.int (3))) (tCons (tC (.int (5))) (tCons (tC (.int (7))) (tCons (tC (.int (64))) tNil))))))) (tCl (sp_w_take K A) (WE W0) (tCons (tVar 0) (tCons (tC (.int (6))) tNil)))) (gName 1))
    (x_w_rule_3 K A E))
theorem pure_w_rule {K : PySem.W.Frag} {A : Ads} (T : Fct K A) (vs : List V) (H : Hp) (Q : VK) (E : XK) (h : sp_w_rule K A vs H Q E) : t_w_rule K A E (endE Q) (L2.start N_w_rule vs) H := by
  obtain ⟨B, G, p, o, rfl, zs, ho, k⟩ := h
  refine (?_ : N B ((p, o) :: G) (fun H => t_w_rule K A E (endE Q) (L2.start N_w_rule [.ref p]) H)) H zs
  clear zs
  unfold t_w_rule

  walk_at "sk stp"
  refine use_w_take (o := o) 1 rfl ho (by decide) fun o1 i ho1 i0 i1 => ?_
  refine n_ixLi (ns := [1, 2, 3, 5, 7, 64]) (sq_own 0 rfl) i0 i1 ?_
  have hp := getD_mem (P := fun d => 1 ≤ d ∧ d ≤ 64) (l := [1, 2, 3, 5, 7, 64]) (by decide) i0 i1
  generalize List.getD ([1, 2, 3, 5, 7, 64] : List Int) i.toNat 0 = pv at hp ⊢
  walk_at "sk stp"
  refine n_cut (fun σ L => ∃ (o : HO) (pv : Int), σ = [some (.ref p), some (.int pv), none, none] ∧ L = (p, o) :: G ∧ Purse o ∧ 1 ≤ pv ∧ pv ≤ 64) ?_ ?_
  · walk_at "sk stp"
    refine use_w_take (o := o1) 1 rfl ho1 (by decide) fun o2 j ho2 j0 j1 => ?_
    walk_at "sk stp"
    refine n_iteD (fun hb => ?_) (fun hb => ?_)
    · walk_at "sk stp"
      refine use_w_take 1 rfl ho2 (by decide) fun o3 q ho3 q0 q1 => ?_
      walk_at "sk stp"
      exact n_ki ⟨o3, _, rfl, rfl, ho3, by omega, by omega⟩ (by walk_at "sk sub")
    · walk_at "sk stp"
      exact n_ki (L' := (p, o2) :: G) ⟨o2, _, rfl, rfl, ho2, hp.1, hp.2⟩ (by walk_at "sk sub")
  · rintro σ L ⟨o2, pv, rfl, rfl, ho2, hp0, hp1⟩
    walk_at "sk stp"
    refine use_w_take (o := o2) 1 rfl ho2 (by decide) fun o3 a ho3 a0 a1 => ?_
    refine n_ixLi (ns := [0, 1, 2, 5, 9]) (sq_own 0 rfl) a0 a1 ?_
    have hl := getD_mem (P := fun d => 0 ≤ d ∧ d ≤ 9) (l := [0, 1, 2, 5, 9]) (by decide) a0 a1
    generalize List.getD ([0, 1, 2, 5, 9] : List Int) a.toNat 0 = lv at hl ⊢
    walk_at "sk stp"
    refine use_w_take (o := o3) 2 rfl ho3 (by decide) fun o4 b ho4 b0 b1 => ?_
    refine n_ixLi (ns := [0, 1, 3, 6, 48 - (3 + lv)]) (sq_own 0 rfl) b0 b1 ?_
    have hm := getD_mem (P := fun d => 0 ≤ d ∧ 3 + lv + d ≤ 48) (l := [0, 1, 3, 6, 48 - (3 + lv)]) (by intro x hx; simp only [List.mem_cons, List.not_mem_nil, or_false] at hx; omega) b0 b1
    generalize List.getD [0, 1, 3, 6, 48 - (3 + lv)] b.toNat 0 = mv at hm ⊢
    walk_at "sk stp"
    refine use_w_take (o := o4) 2 rfl ho4 (by decide) fun o5 c ho5 c0 c1 => ?_
    walk_at "sk stp"
    rename_i tp
    exact n_sub (L' := (tp, _) :: (p, o5) :: G) (by walk_at "sk sub") (k o5 tp ⟨pv, 3 + lv, 3 + lv + mv, 2 + c⟩ ho5 ⟨⟨hp0, hp1⟩, ⟨by dsimp only; omega, by dsimp only; omega, by dsimp only; omega⟩, by dsimp only; omega, by dsimp only; omega⟩)
theorem raw_w_rule {P : Program} {w : World} {K : PySem.W.Frag} {mg : Str → Option Value} {base : Heap} {A : Ads} {f : Addr} {fd : FuncData} (F : Fun K "_law_rule" "_law_rule" s_w_rule f fd) (T : Txt K mg A) (O_w_take : OkC P w K mg base CX0 1 "_law_take" ["_law_purse_here", "_law_many"] (sp_w_take K A)) : FnOk P w K mg base CX0 2 f fd ["_law_purse_here"] (sp_w_rule K A) := by
  refine F.ok sc_w_rule (fun vs H Q E h => len_w_rule vs H Q E h) (fun cdv Ar outer s H vs Q E hr h => ⟨t_w_rule K A E, PSs.nox ?_, pure_w_rule T.fct vs H Q E h⟩)
  have nd := sc_w_rule.nd
  exact (pss_cons (ps_set (i := 1) nd rfl (Or.inl rfl) (pe_ix ix_seq (pe_lst (pa_cons pe_int (pa_cons pe_int (pa_cons pe_int (pa_cons pe_int (pa_cons pe_int (pa_cons pe_int pa_nil))))))) (pe_cl (E := WE W0) O_w_take (hr.mono (by decide)) (by rfl) pass00 (pa_cons (pv 0) (pa_cons pe_int pa_nil))) (fun _ _ => rfl)))
    (Evl.pss_cut (ps_if (pt_cmpR (op_uEq hr.units) (pe_cl (E := WE W0) O_w_take (hr.mono (by decide)) (by rfl) pass00 (pa_cons (pv 0) (pa_cons pe_int pa_nil))) pe_int (nomark _)) (pss_cons (ps_set (i := 1) nd rfl (Or.inl rfl) (pe_op op_uAdd pe_int (pe_cl (E := WE W0) O_w_take (hr.mono (by decide)) (by rfl) pass00 (pa_cons (pv 0) (pa_cons pe_int pa_nil)))))
    pss_nil) pss_nil)
    (pss_cons (ps_set (i := 2) nd rfl (Or.inl rfl) (pe_op op_uAdd pe_int (pe_ix ix_seq (pe_lst (pa_cons pe_int (pa_cons pe_int (pa_cons pe_int (pa_cons pe_int (pa_cons pe_int pa_nil)))))) (pe_cl (E := WE W0) O_w_take (hr.mono (by decide)) (by rfl) pass00 (pa_cons (pv 0) (pa_cons pe_int pa_nil))) (fun _ _ => rfl))))
    (pss_cons (ps_set (i := 3) nd rfl (Or.inl rfl) (pe_op op_uAdd (pv 2) (pe_ix ix_seq (pe_lst (pa_cons pe_int (pa_cons pe_int (pa_cons pe_int (pa_cons pe_int (pa_cons (pe_op op_uSub pe_int (pv 2)) pa_nil)))))) (pe_cl (E := WE W0) O_w_take (hr.mono (by decide)) (by rfl) pass00 (pa_cons (pv 0) (pa_cons pe_int pa_nil))) (fun _ _ => rfl))))
    (pss_cons (ps_ret (pe_tup (pa_cons (pv 1) (pa_cons (pv 2) (pa_cons (pv 3) (pa_cons (pe_op op_uAdd pe_int (pe_cl (E := WE W0) O_w_take (hr.mono (by decide)) (by rfl) pass00 (pa_cons (pv 0) (pa_cons pe_int pa_nil)))) pa_nil))))))
    pss_nil)))))
theorem use_w_rule {K : PySem.W.Frag} {A : Ads} {B : Hp} {L : Own} {Q : VK} {E : XK} {p : Addr} {o : HO} (i : Nat) (hi : L[i]? = some (p, o)) (ho : Purse o) (zq : ∀ o' tp (r : R4), Purse o' → r.ok → NQ B [(tp, fourO r)] p o' L i (Q (.ref tp))) : N B L (fun H => sp_w_rule K A [.ref p] H Q E) := fun zH zs => ⟨B, _, _, _, rfl, zs.front hi, ho, by (intros; first | (refine NP.of hi ?_; apply zq <;> assumption) | (apply zq <;> assumption))⟩

abbrev s_w_text : Stmt := topS 23
abbrev N_w_text : List Str := ["_law_purse_here", "_law_most", "_law_k", "_law_few", "_law_text_here"]
theorem sc_w_text : FnScope N_w_text ["_law_purse_here", "_law_most"] (defScope s_w_text) := ⟨rfl, rfl, rfl, by decide +kernel, rfl, by decide +kernel, by decide +kernel⟩







def sp_w_text (K : PySem.W.Frag) (A : Ads) : Sp := fun zvs zH Q E => ∃ (B : Hp) (G : Own) (p : Addr) (o : HO) (most : Int), zvs = [.ref p, .int most] ∧ SI B ((p, o) :: G) zH ∧ (Purse o) ∧ (0 ≤ most ∧ most ≤ 1000) ∧ (∀ o' pq (ss : List Int), Purse o' → (∀ d ∈ ss, 0 ≤ d ∧ d ≤ 255) → (ss.length : Int) ≤ most → NP B [(pq, .lst (ss.map V.int))] p o' G (Q (.ref pq)))
theorem len_w_text {K : PySem.W.Frag} {A : Ads} : ∀ vs H Q E, sp_w_text K A vs H Q E → vs.length = 2 := by
  intro vs H Q E h
  obtain ⟨_, _, _, _, _, rfl, _⟩ := h
  rfl
def x_w_text_0 (K : PySem.W.Frag) (A : Ads) (E : XK) : TS :=
  (tSeq (tIfS (tTest (tOp (uEq K) (tCl (sp_w_take K A) (WE W0) (tCons (tVar 0) (tCons (tC (.int (5))) tNil))) (tC (.int (1)))))
    (tSeq (tDrop (tBM K "list" rAppend (tVar 4) (tCons (tCl (sp_w_take K A) (WE W0) (tCons (tVar 0) (tCons (tC (.int (256))) tNil))) tNil)))
    tNext)
    (tSeq (tDrop (tBM K "list" rAppend (tVar 4) (tCons (tOp (rIx K) (tVar 3) (tCl (sp_w_take K A) (WE W0) (tCons (tVar 0) (tCons (tCB (uLen K) (tCons (tVar 3) tNil)) tNil)))) tNil)))
    tNext))
    tNext)
instance {K : PySem.W.Frag} {A : Ads} {E : XK} : Unf (x_w_text_0 K A E) (
  (tSeq (tIfS (tTest (tOp (uEq K) (tCl (sp_w_take K A) (WE W0) (tCons (tVar 0) (tCons (tC (.int (5))) tNil))) (tC (.int (1)))))
    (tSeq (tDrop (tBM K "list" rAppend (tVar 4) (tCons (tCl (sp_w_take K A) (WE W0) (tCons (tVar 0) (tCons (tC (.int (256))) tNil))) tNil)))
    tNext)
    (tSeq (tDrop (tBM K "list" rAppend (tVar 4) (tCons (tOp (rIx K) (tVar 3) (tCl (sp_w_take K A) (WE W0) (tCons (tVar 0) (tCons (tCB (uLen K) (tCons (tVar 3) tNil)) tNil)))) tNil)))
    tNext))
    tNext)) := ⟨rfl⟩
def x_w_text_1 (K : PySem.W.Frag) (A : Ads) (E : XK) : TS :=
  (tSeq (tFor (iRng1 (tCons (tCl (sp_w_take K A) (WE W0) (tCons (tVar 0) (tCons (tOp (uAdd K) (tVar 1) (tC (.int (1)))) tNil))) tNil)) (gName 2)
    (x_w_text_0 K A E))
    (tSeq (tRet (tVar 4))
    tNext))
instance {K : PySem.W.Frag} {A : Ads} {E : XK} : Unf (x_w_text_1 K A E) (
  (tSeq (tFor (iRng1 (tCons (tCl (sp_w_take K A) (WE W0) (tCons (tVar 0) (tCons (tOp (uAdd K) (tVar 1) (tC (.int (1)))) tNil))) tNil)) (gName 2)
    (x_w_text_0 K A E))
    (tSeq (tRet (tVar 4))
    tNext))) := ⟨rfl⟩
def t_w_text (K : PySem.W.Frag) (A : Ads) (E : XK) : TS :=
  (tSeq (tAsg (tLc (iRng1 (tCons (tOp (uAdd K) (tC (.int (1))) (tCl (sp_w_take K A) (WE W0) (tCons (tVar 0) (tCons (tC (.int (4))) tNil)))) tNil)) (gName 2) tYes (tCl (sp_w_take K A) (WE W0) (tCons (tVar 0) (tCons (tC (.int (256))) tNil))) [2]) (gName 3))
    (tSeq (tAsg (tLst tNil) (gName 4))
    (x_w_text_1 K A E)))
theorem pure_w_text {K : PySem.W.Frag} {A : Ads} (T : Fct K A) (vs : List V) (H : Hp) (Q : VK) (E : XK) (h : sp_w_text K A vs H Q E) : t_w_text K A E (endE Q) (L2.start N_w_text vs) H := by
  obtain ⟨B, G, p, o, most, rfl, zs, ho, hmo, k⟩ := h
  refine (?_ : N B ((p, o) :: G) (fun H => t_w_text K A E (endE Q) (L2.start N_w_text [.ref p, .int most]) H)) H zs
  clear zs
  unfold t_w_text

  obtain ⟨mo0, mo1⟩ := hmo
  walk_at "sk stp"
  refine use_w_take (o := o) 0 rfl ho (by decide) fun o1 c ho1 hc0 hc1 => ?_
  walk_at "sk stp"
  refine n_lcR1 (fun i acc L => ∃ (o : HO) (ds : List Int), acc = ds.map V.int ∧ L = (p, o) :: G ∧ Purse o ∧ (∀ d ∈ ds, 0 ≤ d ∧ d ≤ 255) ∧ ds.length = i) (by omega) ⟨o1, [], rfl, rfl, ho1, (fun d hd => nomatch hd), rfl⟩ ?_ ?_
  · rintro i acc L D hi ⟨o, ds, rfl, rfl, ho, hd, hl⟩
    walk_at "sk stp"
    refine use_w_take (o := o) 1 rfl ho (by decide) fun o2 d ho2 hd0 hd1 => ?_
    refine n_put [] rfl (by walk_at "sk len") ⟨o2, ds ++ [d], ?_, rfl, ho2, ?_, ?_⟩ (.refl _)
    · rw [List.map_append]; rfl
    · intro x hx
      rcases List.mem_append.mp hx with h | h
      · exact hd x h
      · rw [List.mem_singleton] at h; subst h; exact ⟨hd0, by omega⟩
    · rw [List.length_append, hl]; rfl
  · rintro acc L D ⟨o2, fw, rfl, rfl, ho2, hd, hl⟩
    have hsl : 1 ≤ fw.length ∧ fw.length ≤ 5 := by omega
    clear hl
    walk_at "sk stp"
    rename_i pq
    refine use_w_take (o := o2) 2 rfl ho2 (by omega) fun o3 m ho3 hm0 hm1 => ?_
    refine n_lpR1 (fun i σ L => ∃ (o : HO) (ss : List Int) (y : Option V), σ = [some (.ref p), some (.int most), y, some (.ref D), some (.ref pq)] ∧ L = (pq, .lst (ss.map V.int)) :: (D, .lst (fw.map V.int)) :: (p, o) :: G ∧ Purse o ∧ (∀ d ∈ ss, 0 ≤ d ∧ d ≤ 255) ∧ ss.length = i) (by omega) ⟨o3, [], _, rfl, rfl, ho3, (fun d hd => nomatch hd), rfl⟩ ?_ ?_
    · rintro i σ L hi ⟨o, ss, y, rfl, rfl, ho, hss, hl⟩
      walk_at "sk stp"
      refine use_w_take 2 rfl ho (by decide) fun o4 d ho4 d0 d1 => ?_
      walk_at "sk stp"
      have fin : ∀ e, 0 ≤ e ∧ e ≤ 255 → ∀ d' ∈ ss ++ [e], 0 ≤ d' ∧ d' ≤ 255 := by
        intro e he x hx
        rcases List.mem_append.mp hx with h | h
        · exact hss x h
        · rw [List.mem_singleton] at h; subst h; exact he
      refine n_iteD (fun hb => ?_) (fun hb => ?_)
      · walk_at "sk stp"
        refine use_w_take 2 rfl ho4 (by decide) fun o5 e ho5 e0 e1 => ?_
        walk_at "sk stp"
        exact n_ki ⟨o5, ss ++ [e], _, rfl, rfl, ho5, fin e ⟨e0, by omega⟩, by rw [List.length_append, hl]; rfl⟩ (.refl _)
      · walk_at "sk stp"
        refine use_w_take 2 rfl ho4 (by omega) fun o5 e ho5 e0 e1 => ?_
        have hg := getD_mem (P := fun d => 0 ≤ d ∧ d ≤ 255) hd e0 e1
        walk_at "sk stp"
        exact n_ki ⟨o5, ss ++ [_], _, rfl, rfl, ho5, fin _ hg, by rw [List.length_append, hl]; rfl⟩ (.refl _)
    · rintro σ L ⟨o, ss, y, rfl, rfl, ho, hss, hl⟩
      walk_at "sk stp"
      exact n_sub (L' := (pq, _) :: (p, o) :: G) (by walk_at "sk sub") (k o pq ss ho hss (by omega))
theorem raw_w_text {P : Program} {w : World} {K : PySem.W.Frag} {mg : Str → Option Value} {base : Heap} {A : Ads} {f : Addr} {fd : FuncData} (F : Fun K "_law_text" "_law_text" s_w_text f fd) (T : Txt K mg A) (O_w_take : OkC P w K mg base CX0 1 "_law_take" ["_law_purse_here", "_law_many"] (sp_w_take K A)) : FnOk P w K mg base CX0 2 f fd ["_law_purse_here", "_law_most"] (sp_w_text K A) := by
  refine F.ok sc_w_text (fun vs H Q E h => len_w_text vs H Q E h) (fun cdv Ar outer s H vs Q E hr h => ⟨t_w_text K A E, PSs.nox ?_, pure_w_text T.fct vs H Q E h⟩)
  have nd := sc_w_text.nd
  exact (pss_cons (ps_setLc (i := 3) (own := [("_law_k", 2)]) (by rfl) nd rfl rfl (sw_true rfl rfl rfl (by decide +kernel)) (pi_range1 (by rfl) T.b_range (pa_cons (pe_op op_uAdd pe_int (pe_cl (E := WE W0) O_w_take (hr.mono (by decide)) (by rfl) pass00 (pa_cons (pv 0) (pa_cons pe_int pa_nil)))) pa_nil)) (blkOk_by (N := N_w_text) (sc := defScope s_w_text) (own := [("_law_k", 2)]) (by decide +kernel)) (fun _ _ _ _ _ => (pg_name (i := 2) nd rfl (Or.inl rfl))) (fun _ _ _ _ _ => pts_nil) (fun _ _ _ _ _ => (pe_cl (E := WE W0) O_w_take (hr.mono (by decide)) (by rfl) pass00 (pa_cons (pv 0) (pa_cons pe_int pa_nil)))))
    (pss_cons (ps_set (i := 4) nd rfl (Or.inl rfl) (pe_lst pa_nil))
    (pss_cons (ps_for PassesOwn.never rfl (pi_range1 (by rfl) T.b_range (pa_cons (pe_cl (E := WE W0) O_w_take (hr.mono (by decide)) (by rfl) pass00 (pa_cons (pv 0) (pa_cons (pe_op op_uAdd (pv 1) pe_int) pa_nil))) pa_nil)) (pg_name (i := 2) nd rfl (Or.inl rfl))
    (pss_cons (ps_if (pt_cmpR (op_uEq hr.units) (pe_cl (E := WE W0) O_w_take (hr.mono (by decide)) (by rfl) pass00 (pa_cons (pv 0) (pa_cons pe_int pa_nil))) pe_int (nomark _)) (pss_cons (ps_expr (pe_bm PySem.F.plainAttrs_list PySem.F.slot_list_append PySem.F.type_list_append mt_append (pv 4) (pa_cons (pe_cl (E := WE W0) O_w_take (hr.mono (by decide)) (by rfl) pass00 (pa_cons (pv 0) (pa_cons pe_int pa_nil))) pa_nil)))
    pss_nil) (pss_cons (ps_expr (pe_bm PySem.F.plainAttrs_list PySem.F.slot_list_append PySem.F.type_list_append mt_append (pv 4) (pa_cons (pe_ix ix_seq (pv 3) (pe_cl (E := WE W0) O_w_take (hr.mono (by decide)) (by rfl) pass00 (pa_cons (pv 0) (pa_cons (pe_callB call_uLen (by rfl) T.b_len boot_len (pa_cons (pv 3) pa_nil)) pa_nil))) (fun _ _ => rfl)) pa_nil)))
    pss_nil))
    pss_nil))
    (pss_cons (ps_ret (pv 4))
    pss_nil))))
theorem use_w_text {K : PySem.W.Frag} {A : Ads} {B : Hp} {L : Own} {Q : VK} {E : XK} {p : Addr} {o : HO} {most : Int} (i : Nat) (hi : L[i]? = some (p, o)) (ho : Purse o) (hmo : 0 ≤ most ∧ most ≤ 1000) (zq : ∀ o' pq (ss : List Int), Purse o' → (∀ d ∈ ss, 0 ≤ d ∧ d ≤ 255) → (ss.length : Int) ≤ most → NQ B [(pq, .lst (ss.map V.int))] p o' L i (Q (.ref pq))) : N B L (fun H => sp_w_text K A [.ref p, .int most] H Q E) := fun zH zs => ⟨B, _, _, _, _, rfl, zs.front hi, ho, hmo, by (intros; first | (refine NP.of hi ?_; apply zq <;> assumption) | (apply zq <;> assumption))⟩

def sgnN (xs : List Int) : Nat → Int
  | 0 => 0
  | i + 1 => sgnN xs i + ([11, 5, 1] : List Int).getD i 0 * xs.getD (xs.length - 1 - i) 0
def sgn (xs : List Int) : Int := sgnN xs (min 3 xs.length)
theorem sgnN_bd (xs : List Int) (i : Nat) (hm : ∀ d ∈ xs, 0 ≤ d ∧ d ≤ 255) (hi : i ≤ 3) : 0 ≤ sgnN xs i ∧ sgnN xs i ≤ 2805 * i := by
  induction i with
  | zero => exact ⟨Int.le_refl _, Int.le_refl _⟩
  | succ i ih =>
    obtain ⟨h0, h1⟩ := ih (by omega)
    have b2 : 0 ≤ xs.getD (xs.length - 1 - i) 0 ∧ xs.getD (xs.length - 1 - i) 0 ≤ 255 := by
      rw [List.getD_eq_getElem?_getD]
      cases h : xs[xs.length - 1 - i]? with
      | none => exact ⟨by decide, by decide⟩
      | some v => exact hm _ (List.mem_of_getElem? h)
    have es : sgnN xs (i + 1) = sgnN xs i + ([11, 5, 1] : List Int).getD i 0 * xs.getD (xs.length - 1 - i) 0 := rfl
    rw [es]
    generalize xs.getD (xs.length - 1 - i) 0 = m at b2 ⊢
    have : i = 0 ∨ i = 1 ∨ i = 2 := by omega
    rcases this with rfl | rfl | rfl
    · show 0 ≤ sgnN xs 0 + 11 * m ∧ _ ≤ _; show _ ∧ sgnN xs 0 + 11 * m ≤ _; omega
    · show 0 ≤ sgnN xs 1 + 5 * m ∧ _ ≤ _; show _ ∧ sgnN xs 1 + 5 * m ≤ _; omega
    · show 0 ≤ sgnN xs 2 + 1 * m ∧ _ ≤ _; show _ ∧ sgnN xs 2 + 1 * m ≤ _; omega
abbrev s_sign_of : Stmt := topS 3
abbrev N_sign_of : List Str := ["text", "sign", "factor", "mark"]
theorem sc_sign_of : FnScope N_sign_of ["text"] (defScope s_sign_of) := ⟨rfl, rfl, rfl, by decide +kernel, rfl, by decide +kernel, by decide +kernel⟩






def sp_sign_of (K : PySem.W.Frag) (A : Ads) : Sp := fun zvs zH Q E => ∃ (B : Hp) (G : Own) (a : Addr) (xs : List Int), zvs = [.ref a] ∧ SI B G zH ∧ (Sq K B G a (xs.map V.int)) ∧ (∀ d ∈ xs, 0 ≤ d ∧ d ≤ 255) ∧ (N B G (Q (.int (sgn xs))))
theorem len_sign_of {K : PySem.W.Frag} {A : Ads} : ∀ vs H Q E, sp_sign_of K A vs H Q E → vs.length = 1 := by
  intro vs H Q E h
  obtain ⟨_, _, _, _, rfl, _⟩ := h
  rfl
def x_sign_of_0 (K : PySem.W.Frag) (A : Ads) (E : XK) : TS :=
  (tSeq (tFor (iZipR K (tC (.ref A.a_FACTORS)) (tVar 0)) (gTup K 2 (gCons (gName 2) (gCons (gName 3) gNil)))
    (tSeq (tAug 1 (tOp uMul (tVar 2) (tVar 3)) (ipI fun i j => i + j))
    tNext))
    (tSeq (tRet (tVar 1))
    tNext))
instance {K : PySem.W.Frag} {A : Ads} {E : XK} : Unf (x_sign_of_0 K A E) (
  (tSeq (tFor (iZipR K (tC (.ref A.a_FACTORS)) (tVar 0)) (gTup K 2 (gCons (gName 2) (gCons (gName 3) gNil)))
    (tSeq (tAug 1 (tOp uMul (tVar 2) (tVar 3)) (ipI fun i j => i + j))
    tNext))
    (tSeq (tRet (tVar 1))
    tNext))) := ⟨rfl⟩
def t_sign_of (K : PySem.W.Frag) (A : Ads) (E : XK) : TS :=
  (tSeq (tAsg (tC (.int (0))) (gName 1))
    (x_sign_of_0 K A E))
theorem pure_sign_of {K : PySem.W.Frag} {A : Ads} (T : Fct K A) (vs : List V) (H : Hp) (Q : VK) (E : XK) (h : sp_sign_of K A vs H Q E) : t_sign_of K A E (endE Q) (L2.start N_sign_of vs) H := by
  obtain ⟨B, G, a, xs, rfl, zs, hs, hm, k⟩ := h
  refine (?_ : N B G (fun H => t_sign_of K A E (endE Q) (L2.start N_sign_of [.ref a]) H)) H zs
  clear zs
  unfold t_sign_of

  walk_at "sk stp"
  refine n_lpZr (xs := ([11, 5, 1] : List Int).map V.int) (ys := xs.map V.int) (fun i σ L => ∃ (y y2 : Option V), σ = [some (.ref a), some (.int (sgnN xs i)), y, y2] ∧ G = L) ?_ ⟨_, _, rfl, rfl⟩ ?_ ?_
  · rintro i σ L hi ⟨y, y2, rfl, rfl⟩
    exact ⟨fun H _ => T.v_FACTORS H, hs⟩
  · rintro i σ L D hi hj ⟨y, y2, rfl, rfl⟩
    have h3 : i < 3 := hi
    have hj' : i < xs.length := by simpa using hj
    have hb := sgnN_bd xs i hm (by omega)
    have e1 : ([11, 5, 1].map V.int : List V)[i] = .int (([11, 5, 1] : List Int).getD i 0) := by
      rw [List.getElem_map, List.getD_eq_getElem?_getD, List.getElem?_eq_getElem h3]; rfl
    have e2 : (xs.map V.int)[(xs.map V.int).length - 1 - i] = .int (xs.getD (xs.length - 1 - i) 0) := by
      rw [List.getElem_map, List.getD_eq_getElem?_getD, List.getElem?_eq_getElem (show xs.length - 1 - i < xs.length by omega)]
      simp only [List.length_map]; rfl
    have b1 : 0 ≤ ([11, 5, 1] : List Int).getD i 0 ∧ ([11, 5, 1] : List Int).getD i 0 ≤ 11 := by
      have : i = 0 ∨ i = 1 ∨ i = 2 := by omega
      rcases this with rfl | rfl | rfl <;> decide
    have b2 : 0 ≤ xs.getD (xs.length - 1 - i) 0 ∧ xs.getD (xs.length - 1 - i) 0 ≤ 255 := by
      rw [List.getD_eq_getElem?_getD, List.getElem?_eq_getElem (show xs.length - 1 - i < xs.length by omega)]
      exact hm _ (List.getElem_mem _)
    have es : sgnN xs (i + 1) = sgnN xs i + ([11, 5, 1] : List Int).getD i 0 * xs.getD (xs.length - 1 - i) 0 := rfl
    rw [e1, e2, es]
    generalize ([11, 5, 1] : List Int).getD i 0 = f at b1 ⊢
    generalize xs.getD (xs.length - 1 - i) 0 = m at b2 ⊢
    generalize sgnN xs i = w at hb ⊢
    walk_at "sk stp"
    exact n_ki ⟨_, _, rfl, rfl⟩ (by walk_at "sk sub")
  · rintro σ L ⟨y, y2, rfl, rfl⟩
    walk_at "sk stp"
    have e : min ([11, 5, 1].map V.int : List V).length (xs.map V.int).length = min 3 xs.length := by rw [List.length_map, List.length_map]; rfl
    rw [e]
    exact k
theorem raw_sign_of {P : Program} {w : World} {K : PySem.W.Frag} {mg : Str → Option Value} {base : Heap} {A : Ads} {f : Addr} {fd : FuncData} (F : Fun K "sign_of" "sign_of" s_sign_of f fd) (T : Txt K mg A) : FnOk P w K mg base CX0 1 f fd ["text"] (sp_sign_of K A) := by
  refine F.ok sc_sign_of (fun vs H Q E h => len_sign_of vs H Q E h) (fun cdv Ar outer s H vs Q E hr h => ⟨t_sign_of K A E, PSs.nox ?_, pure_sign_of T.fct vs H Q E h⟩)
  have nd := sc_sign_of.nd
  exact (pss_cons (ps_set (i := 1) nd rfl (Or.inl rfl) pe_int)
    (pss_cons (ps_for PassesOwn.never rfl (pi_zipR (by rfl) T.b_zip (by rfl) T.b_reversed (pe_glob (v := .ref A.a_FACTORS) (by rfl) T.c_FACTORS rfl) (pv 0)) (pg_tup rfl (pgs_cons (pg_name (i := 2) nd rfl (Or.inl rfl)) (pgs_cons (pg_name (i := 3) nd rfl (Or.inl rfl)) pgs_nil)))
    (pss_cons (ps_aug (i := 1) nd rfl (Or.inl rfl) (pe_op op_uMul (pv 2) (pv 3)) ip_add)
    pss_nil))
    (pss_cons (ps_ret (pv 1))
    pss_nil)))
theorem use_sign_of {K : PySem.W.Frag} {A : Ads} {B : Hp} {G : Own} {Q : VK} {E : XK} {a : Addr} {xs : List Int} (hs : Sq K B G a (xs.map V.int)) (hm : ∀ d ∈ xs, 0 ≤ d ∧ d ≤ 255) (zq : N B G (Q (.int (sgn xs)))) : N B G (fun H => sp_sign_of K A [.ref a] H Q E) := fun zH zs => ⟨B, _, _, _, rfl, zs, hs, hm, zq⟩
local macro_rules | `(tactic| walk_at "sk st") => `(tactic| with_reducible (apply use_sign_of; (next => with_unfolding_all walk_at "sk sq"); (next => with_unfolding_all walk_at "sk sd"); (skip)))

def lsN (ys : List Int) : Nat → Int
  | 0 => 0
  | i + 1 => lsN ys i + ys.getD i 0 * ([1, 5, 11] : List Int).getD (3 - ys.length + i) 0
theorem cutI_last3 (xs : List Int) : cutI xs (some (-3)) none = xs.drop (xs.length - 3) := by
  unfold cutI
  simp only [HT.sIx]
  rw [if_pos (by decide), show ((-3 : Int) + (xs.length : Int)).toNat = xs.length - 3 by omega]
  exact List.take_of_length_le (by rw [List.length_drop]; omega)
theorem lsN_sgn : ∀ xs : List Int, lsN (xs.drop (xs.length - 3)) (xs.drop (xs.length - 3)).length = sgn xs
  | [] => rfl
  | [a] => by show 0 + a * 11 = 0 + 11 * a; omega
  | [a, b] => by show 0 + a * 5 + b * 11 = 0 + 11 * b + 5 * a; omega
  | a :: b :: c :: t => by
    generalize hx : a :: b :: c :: t = xs
    have c3 : 3 ≤ xs.length := by rw [← hx]; simp
    have hl : (xs.drop (xs.length - 3)).length = 3 := by rw [List.length_drop]; omega
    unfold sgn
    rw [hl, show min 3 xs.length = 3 by omega]
    simp only [lsN, sgnN, hl, getD_drop']
    show _ + _ * (1 : Int) + _ * (5 : Int) + _ * (11 : Int) = _ + 11 * _ + 5 * _ + 1 * _
    rw [show xs.length - 3 + 0 = xs.length - 1 - 2 by omega, show xs.length - 3 + (0 + 1) = xs.length - 1 - 1 by omega, show xs.length - 3 + (0 + 1 + 1) = xs.length - 1 - 0 by omega]
    omega
theorem lsN_bd (ys : List Int) (i : Nat) (hm : ∀ d ∈ ys, 0 ≤ d ∧ d ≤ 255) (hi : i ≤ 3) : 0 ≤ lsN ys i ∧ lsN ys i ≤ 2805 * i := by
  induction i with
  | zero => exact ⟨Int.le_refl _, Int.le_refl _⟩
  | succ i ih =>
    obtain ⟨h0, h1⟩ := ih (by omega)
    have b2 : 0 ≤ ys.getD i 0 ∧ ys.getD i 0 ≤ 255 := by
      rw [List.getD_eq_getElem?_getD]
      cases h : ys[i]? with
      | none => exact ⟨by decide, by decide⟩
      | some v => exact hm _ (List.mem_of_getElem? h)
    have b1 : ∀ j : Nat, 0 ≤ ([1, 5, 11] : List Int).getD j 0 ∧ ([1, 5, 11] : List Int).getD j 0 ≤ 11
      | 0 => by decide
      | 1 => by decide
      | 2 => by decide
      | j + 3 => ⟨by show (0 : Int) ≤ 0; decide, by show (0 : Int) ≤ 11; decide⟩
    have b3 := b1 (3 - ys.length + i)
    have es : lsN ys (i + 1) = lsN ys i + ys.getD i 0 * ([1, 5, 11] : List Int).getD (3 - ys.length + i) 0 := rfl
    rw [es]
    generalize ys.getD i 0 = m at b2 ⊢
    generalize ([1, 5, 11] : List Int).getD (3 - ys.length + i) 0 = f at b3 ⊢
    have c1 := Int.mul_nonneg b2.1 b3.1
    have c2 : m * f ≤ 255 * 11 := Int.mul_le_mul b2.2 b3.2 b3.1 (by decide)
    omega
def clsd (r : R4) (xs : List Int) : Bool := decide ((xs.length : Int) = r.m) || (decide (r.l ≤ (xs.length : Int)) && decide (sgn xs % r.p = 0))
abbrev s_is_closed : Stmt := topS 4
abbrev N_is_closed : List Str := ["text", "rule"]
theorem sc_is_closed : FnScope N_is_closed ["text", "rule"] (defScope s_is_closed) := ⟨rfl, rfl, rfl, by decide +kernel, rfl, by decide +kernel, by decide +kernel⟩









def sp_is_closed (K : PySem.W.Frag) (A : Ads) : Sp := fun zvs zH Q E => ∃ (B : Hp) (G : Own) (a f dx : Addr) (xs : List Int) (r : R4), zvs = [.ref a, .ref f] ∧ SI B G zH ∧ (Sq K B G a (xs.map V.int)) ∧ (∀ d ∈ xs, 0 ≤ d ∧ d ≤ 255) ∧ (xs.length ≤ 60) ∧ (Is B G f (ruleO A dx r)) ∧ (r.ok) ∧ (N B G (Q (.bl (clsd r xs))))
theorem len_is_closed {K : PySem.W.Frag} {A : Ads} : ∀ vs H Q E, sp_is_closed K A vs H Q E → vs.length = 2 := by
  intro vs H Q E h
  obtain ⟨_, _, _, _, _, _, _, rfl, _⟩ := h
  rfl
def x_is_closed_0 (K : PySem.W.Frag) (A : Ads) (E : XK) : TS :=
  (tSeq (tRet (tAndV (tOp uGe (tCB (uLen K) (tCons (tVar 0) tNil)) (tFld K (tVar 1) "least")) (tOp (uEq K) (tOp uMod (tCl (sp_sign_of K A) (WE W0) (tCons (tVar 0) tNil)) (tFld K (tVar 1) "share")) (tC (.int (0))))))
    tNext)
instance {K : PySem.W.Frag} {A : Ads} {E : XK} : Unf (x_is_closed_0 K A E) (
  (tSeq (tRet (tAndV (tOp uGe (tCB (uLen K) (tCons (tVar 0) tNil)) (tFld K (tVar 1) "least")) (tOp (uEq K) (tOp uMod (tCl (sp_sign_of K A) (WE W0) (tCons (tVar 0) tNil)) (tFld K (tVar 1) "share")) (tC (.int (0))))))
    tNext)) := ⟨rfl⟩
def t_is_closed (K : PySem.W.Frag) (A : Ads) (E : XK) : TS :=
  (tSeq (tIfS (tTest (tOp (uEq K) (tCB (uLen K) (tCons (tVar 0) tNil)) (tFld K (tVar 1) "most")))
    (tSeq (tRet (tC (.bl true)))
    tNext)
    tNext)
    (x_is_closed_0 K A E))
theorem pure_is_closed {K : PySem.W.Frag} {A : Ads} (T : Fct K A) (vs : List V) (H : Hp) (Q : VK) (E : XK) (h : sp_is_closed K A vs H Q E) : t_is_closed K A E (endE Q) (L2.start N_is_closed vs) H := by
  obtain ⟨B, G, a, f, dx, xs, r, rfl, zs, hs, hm, hl, hf, hr, k⟩ := h
  refine (?_ : N B G (fun H => t_is_closed K A E (endE Q) (L2.start N_is_closed [.ref a, .ref f]) H)) H zs
  clear zs
  unfold t_is_closed

  obtain ⟨⟨a1, a2⟩, ⟨a3, a4, a5⟩, a6, a7⟩ := hr
  unfold clsd at k
  walk_at "sk stp"
  refine n_iteD (fun hb => ?_) (fun hb => ?_)
  · rw [decide_eq_true hb, Bool.true_or] at k
    walk_at "sk stp"
    exact k
  · rw [decide_eq_false hb, Bool.false_or] at k
    walk_at "sk stp"
    exact k
theorem raw_is_closed {P : Program} {w : World} {K : PySem.W.Frag} {mg : Str → Option Value} {base : Heap} {A : Ads} {f : Addr} {fd : FuncData} (F : Fun K "is_closed" "is_closed" s_is_closed f fd) (T : Txt K mg A) (O_sign_of : OkC P w K mg base CX0 1 "sign_of" ["text"] (sp_sign_of K A)) : FnOk P w K mg base CX0 2 f fd ["text", "rule"] (sp_is_closed K A) := by
  refine F.ok sc_is_closed (fun vs H Q E h => len_is_closed vs H Q E h) (fun cdv Ar outer s H vs Q E hr h => ⟨t_is_closed K A E, PSs.nox ?_, pure_is_closed T.fct vs H Q E h⟩)
  have nd := sc_is_closed.nd
  exact (pss_cons (ps_if (pt_cmpR (op_uEq hr.units) (pe_callB call_uLen (by rfl) T.b_len boot_len (pa_cons (pv 0) pa_nil)) (pe_fld (pv 1) rfl) (nomark _)) (pss_cons (ps_ret pe_bl)
    pss_nil) pss_nil)
    (pss_cons (ps_ret (pe_and (pe_cmpR op_uGe (pe_callB call_uLen (by rfl) T.b_len boot_len (pa_cons (pv 0) pa_nil)) (pe_fld (pv 1) rfl) (nomark _)) (pe_one (pe_cmpR (op_uEq hr.units) (pe_op op_uMod (pe_cl (E := WE W0) O_sign_of (hr.mono (by decide)) (by rfl) pass00 (pa_cons (pv 0) pa_nil)) (pe_fld (pv 1) rfl)) pe_int (nomark _)))))
    pss_nil))
theorem use_is_closed {K : PySem.W.Frag} {A : Ads} {B : Hp} {G : Own} {Q : VK} {E : XK} {a f dx : Addr} {xs : List Int} {r : R4} (hs : Sq K B G a (xs.map V.int)) (hm : ∀ d ∈ xs, 0 ≤ d ∧ d ≤ 255) (hl : xs.length ≤ 60) (hf : Is B G f (ruleO A dx r)) (hr : r.ok) (zq : N B G (Q (.bl (clsd r xs)))) : N B G (fun H => sp_is_closed K A [.ref a, .ref f] H Q E) := fun zH zs => ⟨B, _, _, _, _, _, _, rfl, zs, hs, hm, hl, hf, hr, zq⟩
local macro_rules | `(tactic| walk_at "sk st") => `(tactic| with_reducible (apply use_is_closed; (next => with_unfolding_all walk_at "sk sq"); (next => with_unfolding_all walk_at "sk sd"); (next => with_unfolding_all walk_at "sk len"); (next => with_unfolding_all walk_at "sk is"); (next => with_unfolding_all walk_at "sk sd"); (skip)))

/-- the blocks of a text, the first marks of the first one taken -/
def blks (r : R4) : List Int → List Int → List (List Int)
  | b, [] => if b = [] then [] else [b]
  | b, m :: rest => if clsd r (b ++ [m]) then (b ++ [m]) :: blks r [] rest else blks r (b ++ [m]) rest
def Opn (r : R4) (b : List Int) : Prop := ∀ s, 1 ≤ s → s ≤ b.length → clsd r (b.take s) = false
theorem Opn.nil (r : R4) : Opn r [] := fun s h1 h2 => by simp at h2; omega
theorem Opn.snoc {r : R4} {b : List Int} {m : Int} (h : Opn r b) (hc : clsd r (b ++ [m]) = false) : Opn r (b ++ [m]) := fun s h1 h2 => by
  rw [List.length_append] at h2
  have h2' : s ≤ b.length + 1 := h2
  by_cases e : s = b.length + 1
  · rw [List.take_of_length_le (by rw [List.length_append]; show b.length + 1 ≤ s; omega)]; exact hc
  · rw [List.take_append_of_le_length (by omega)]
    exact h s h1 (by omega)
theorem clsd_most {r : R4} {b : List Int} (h : (b.length : Int) = r.m) : clsd r b = true := by
  unfold clsd
  rw [decide_eq_true h, Bool.true_or]
theorem Opn.lt {r : R4} {b : List Int} (hr : r.ok) (h : Opn r b) : (b.length : Int) < r.m := by
  obtain ⟨_, ⟨a3, a4, a5⟩, _⟩ := hr
  apply Classical.byContradiction
  intro hn
  have e := h r.m.toNat (by omega) (by omega)
  rw [clsd_most (by rw [List.length_take]; omega)] at e
  cases e
theorem blks_flat (r : R4) : ∀ (xs b : List Int), (blks r b xs).flatten = b ++ xs
  | [], b => by
    rw [blks]
    split
    · rename_i h; subst h; rfl
    · simp
  | m :: rest, b => by
    rw [blks]
    split
    · rw [List.flatten_cons, blks_flat r rest []]; simp
    · rw [blks_flat r rest (b ++ [m])]; simp
theorem blks_ok {r : R4} (hr : r.ok) : ∀ (xs b : List Int), Opn r b → ∀ (i : Nat) c, (blks r b xs)[i]? = some c → c ≠ [] ∧ (∀ s, 1 ≤ s → s < c.length → clsd r (c.take s) = false) ∧ (i + 1 < (blks r b xs).length → clsd r c = true) ∧ (c.length : Int) ≤ r.m
  | [], b, h, i, c, hc => by
    rw [blks] at hc ⊢
    split at hc
    · simp at hc
    · rename_i hb
      rw [if_neg hb]
      cases i with
      | succ i => simp at hc
      | zero =>
        have e : b = c := Option.some.inj hc
        subst e
        exact ⟨hb, fun s h1 h2 => h s h1 (by omega), fun h => by simp at h, Int.le_of_lt (h.lt hr)⟩
  | m :: rest, b, h, i, c, hc => by
    rw [blks] at hc ⊢
    have hl := h.lt hr
    split at hc
    · rename_i hm
      rw [if_pos hm]
      cases i with
      | zero =>
        have e : b ++ [m] = c := Option.some.inj hc
        subst e
        refine ⟨by simp, fun s h1 h2 => ?_, fun _ => hm, ?_⟩
        · rw [List.length_append] at h2
          have h2' : s < b.length + 1 := h2
          rw [List.take_append_of_le_length (by omega)]
          exact h s h1 (by omega)
        · rw [List.length_append]; show ((b.length + 1 : Nat) : Int) ≤ _; omega
      | succ i =>
        obtain ⟨h1, h2, h3, h4⟩ := blks_ok hr rest [] (Opn.nil r) i c hc
        exact ⟨h1, h2, fun hh => h3 (by rw [List.length_cons] at hh; omega), h4⟩
    · rename_i hm
      rw [if_neg hm]
      have hm' : clsd r (b ++ [m]) = false := by cases hh : clsd r (b ++ [m]) with | true => exact absurd hh hm | false => rfl
      exact blks_ok hr rest (b ++ [m]) (h.snoc hm') i c hc
theorem blks_mem (r : R4) {xs b c : List Int} (hc : c ∈ blks r b xs) {d : Int} (hd : d ∈ c) : d ∈ b ++ xs := by
  rw [← blks_flat r xs b]
  exact List.mem_flatten.mpr ⟨c, hc, hd⟩
theorem blks_len {r : R4} (hr : r.ok) (xs : List Int) : (blks r [] xs).length ≤ xs.length := by
  have h : ∀ bs : List (List Int), (∀ c ∈ bs, c ≠ []) → bs.length ≤ bs.flatten.length := by
    intro bs
    induction bs with
    | nil => intro _; exact Nat.zero_le _
    | cons b bs ih =>
      intro h
      have h1 := ih fun c hc => h c (List.mem_cons_of_mem _ hc)
      have h2 : 0 < b.length := List.length_pos_iff.mpr (h b List.mem_cons_self)
      rw [List.length_cons, List.flatten_cons, List.length_append]
      omega
  have e := blks_flat r xs []
  have := h (blks r [] xs) fun c hc => by
    obtain ⟨i, hi⟩ := List.mem_iff_getElem?.mp hc
    exact (blks_ok hr xs [] (Opn.nil r) i c hi).1
  rw [e] at this
  exact this
/-- the cuts behind the blocks, the first one beginning at a place -/
def cutsF (r : R4) : Int → List (List Int) → List Int
  | _, [] => []
  | p, b :: bs => if clsd r b then (p + b.length) :: cutsF r (p + b.length) bs else cutsF r (p + b.length) bs
def cutsL (r : R4) (xs : List Int) : List Int := 0 :: cutsF r 0 (blks r [] xs)
theorem cutsF_len (r : R4) : ∀ (bs : List (List Int)) (p : Int), (cutsF r p bs).length ≤ bs.length
  | [], p => Nat.le_refl _
  | b :: bs, p => by
    rw [cutsF]
    have := cutsF_len r bs (p + b.length)
    split
    · rw [List.length_cons, List.length_cons]; omega
    · rw [List.length_cons]; omega
theorem cutsF_le (r : R4) : ∀ (bs : List (List Int)) (p : Int), ∀ c ∈ cutsF r p bs, p ≤ c ∧ c ≤ p + bs.flatten.length
  | [], p, c, h => nomatch h
  | b :: bs, p, c, h => by
    rw [cutsF] at h
    have := cutsF_le r bs (p + b.length) c
    rw [List.flatten_cons, List.length_append]
    split at h
    · rcases List.mem_cons.mp h with h | h
      · omega
      · have := this h; omega
    · have := this h; omega
theorem cutsL_last (r : R4) (xs : List Int) : 0 ≤ (cutsL r xs).getD ((cutsL r xs).length - 1) 0 ∧ (cutsL r xs).getD ((cutsL r xs).length - 1) 0 ≤ xs.length := by
  refine getD_all (P := fun c => 0 ≤ c ∧ c ≤ (xs.length : Int)) (fun c hc => ?_) ⟨Int.le_refl _, by omega⟩
  rcases List.mem_cons.mp hc with rfl | h
  · omega
  · have := cutsF_le r _ 0 c h
    rw [blks_flat] at this
    rw [show ([] ++ xs : List Int) = xs from rfl] at this
    omega
theorem cutsF_snoc (r : R4) (b : List Int) : ∀ (bs : List (List Int)) (p : Int), cutsF r p (bs ++ [b]) = cutsF r p bs ++ (if clsd r b then [p + bs.flatten.length + b.length] else [])
  | [], p => by simp [cutsF]
  | c :: bs, p => by
    have ih := cutsF_snoc r b bs (p + c.length)
    have e : p + (c :: bs).flatten.length = p + c.length + bs.flatten.length := by rw [List.flatten_cons, List.length_append]; omega
    rw [List.cons_append, cutsF, cutsF, ih, e]
    split <;> rfl
abbrev s_blocks_of : Stmt := topS 5
abbrev N_blocks_of : List Str := ["text", "rule", "found", "block", "mark"]
theorem sc_blocks_of : FnScope N_blocks_of ["text", "rule"] (defScope s_blocks_of) := ⟨rfl, rfl, rfl, by decide +kernel, rfl, by decide +kernel, by decide +kernel⟩









def sp_blocks_of (K : PySem.W.Frag) (A : Ads) : Sp := fun zvs zH Q E => ∃ (B : Hp) (G : Own) (a f dx : Addr) (xs : List Int) (r : R4), zvs = [.ref a, .ref f] ∧ SI B G zH ∧ (Sq K B G a (xs.map V.int)) ∧ (∀ d ∈ xs, 0 ≤ d ∧ d ≤ 255) ∧ (xs.length ≤ 100000) ∧ (Is B G f (ruleO A dx r)) ∧ (r.ok) ∧ (∀ q ps, ps.length = (blks r [] xs).length → N B ((q, .lst (ps.map V.ref)) :: (pool ps (blks r [] xs) ++ G)) (Q (.ref q)))
theorem len_blocks_of {K : PySem.W.Frag} {A : Ads} : ∀ vs H Q E, sp_blocks_of K A vs H Q E → vs.length = 2 := by
  intro vs H Q E h
  obtain ⟨_, _, _, _, _, _, _, rfl, _⟩ := h
  rfl
def x_blocks_of_0 (K : PySem.W.Frag) (A : Ads) (E : XK) : TS :=
  (tSeq (tIfS (tB (tCl (sp_is_closed K A) (WE W0) (tCons (tVar 3) (tCons (tVar 1) tNil))))
    (tSeq (tDrop (tBM K "list" rAppend (tVar 2) (tCons (tVar 3) tNil)))
    (tSeq (tAsg (tLst tNil) (gName 3))
    tNext))
    tNext)
    tNext)
instance {K : PySem.W.Frag} {A : Ads} {E : XK} : Unf (x_blocks_of_0 K A E) (
  (tSeq (tIfS (tB (tCl (sp_is_closed K A) (WE W0) (tCons (tVar 3) (tCons (tVar 1) tNil))))
    (tSeq (tDrop (tBM K "list" rAppend (tVar 2) (tCons (tVar 3) tNil)))
    (tSeq (tAsg (tLst tNil) (gName 3))
    tNext))
    tNext)
    tNext)) := ⟨rfl⟩
def x_blocks_of_1 (K : PySem.W.Frag) (A : Ads) (E : XK) : TS :=
  (tSeq (tIfS (tTest (tOp (uNe K) (tVar 3) (tLst tNil)))
    (tSeq (tDrop (tBM K "list" rAppend (tVar 2) (tCons (tVar 3) tNil)))
    tNext)
    tNext)
    (tSeq (tRet (tVar 2))
    tNext))
instance {K : PySem.W.Frag} {A : Ads} {E : XK} : Unf (x_blocks_of_1 K A E) (
  (tSeq (tIfS (tTest (tOp (uNe K) (tVar 3) (tLst tNil)))
    (tSeq (tDrop (tBM K "list" rAppend (tVar 2) (tCons (tVar 3) tNil)))
    tNext)
    tNext)
    (tSeq (tRet (tVar 2))
    tNext))) := ⟨rfl⟩
def x_blocks_of_2 (K : PySem.W.Frag) (A : Ads) (E : XK) : TS :=
  (tSeq (tFor (iList K (tVar 0)) (gName 4)
    (tSeq (tDrop (tBM K "list" rAppend (tVar 3) (tCons (tVar 4) tNil)))
    (x_blocks_of_0 K A E)))
    (x_blocks_of_1 K A E))
instance {K : PySem.W.Frag} {A : Ads} {E : XK} : Unf (x_blocks_of_2 K A E) (
  (tSeq (tFor (iList K (tVar 0)) (gName 4)
    (tSeq (tDrop (tBM K "list" rAppend (tVar 3) (tCons (tVar 4) tNil)))
    (x_blocks_of_0 K A E)))
    (x_blocks_of_1 K A E))) := ⟨rfl⟩
def t_blocks_of (K : PySem.W.Frag) (A : Ads) (E : XK) : TS :=
  (tSeq (tAsg (tLst tNil) (gName 2))
    (tSeq (tAsg (tLst tNil) (gName 3))
    (x_blocks_of_2 K A E)))
theorem pure_blocks_of {K : PySem.W.Frag} {A : Ads} (T : Fct K A) (vs : List V) (H : Hp) (Q : VK) (E : XK) (h : sp_blocks_of K A vs H Q E) : t_blocks_of K A E (endE Q) (L2.start N_blocks_of vs) H := by
  obtain ⟨B, G, a, f, dx, xs, r, rfl, zs, hs, hm, hl, hf, hr, k⟩ := h
  refine (?_ : N B G (fun H => t_blocks_of K A E (endE Q) (L2.start N_blocks_of [.ref a, .ref f]) H)) H zs
  clear zs
  unfold t_blocks_of

  walk_at "sk stp"
  rename_i q pb
  refine n_lpLi xs (fun i σ L => ∃ (b : List Int) (ps : List Addr) (bs : List (List Int)) (pb : Addr) (y : Option V), σ = [some (.ref a), some (.ref f), some (.ref q), some (.ref pb), y] ∧ L = (pb, .lst (b.map V.int)) :: (q, .lst (ps.map V.ref)) :: (pool ps bs ++ G) ∧ ps.length = bs.length ∧ bs ++ blks r b (xs.drop i) = blks r [] xs ∧ bs.length ≤ i ∧ Opn r b ∧ ∀ d ∈ b, 0 ≤ d ∧ d ≤ 255) ?_ ⟨[], [], [], pb, _, rfl, rfl, rfl, rfl, Nat.zero_le _, Opn.nil r, (fun d hd => nomatch hd)⟩ ?_ ?_
  · rintro i σ L _ ⟨b, ps, bs, pb, y, rfl, rfl, _⟩
    exact hs.sub ((List.sublist_append_right _ _).cons _ |>.cons _)
  · rintro i σ L hi ⟨b, ps, bs, pb, y, rfl, rfl, he, hb, hbl, ho, hbm⟩
    rw [List.drop_eq_getElem_cons hi, blks] at hb
    have hz := hm _ (List.getElem_mem hi)
    generalize xs[i] = z at hb hz ⊢
    have hlt := ho.lt hr
    have hmo : r.m ≤ 48 := hr.2.1.2.2
    walk_at "sk stp"
    have hbm' : ∀ d ∈ b ++ [z], 0 ≤ d ∧ d ≤ 255 := fun d hd => by
      rcases List.mem_append.mp hd with h | h
      · exact hbm d h
      · rw [List.mem_singleton] at h; subst h; exact hz
    refine use_is_closed (r := r) (dx := dx) (sq_own 0 rfl) hbm' (by rw [List.length_append]; show b.length + 1 ≤ _; omega) (hf.sub ((List.sublist_append_right _ _).cons _ |>.cons _)) hr ?_
    walk_at "sk stp"
    refine n_ite (fun h => ?_) (fun h => ?_)
    · rw [if_pos h] at hb
      walk_at "sk stp"
      rename_i pn
      refine n_perm (L' := (pn, .lst []) :: (q, .lst ((ps ++ [pb]).map V.ref)) :: (pool (ps ++ [pb]) (bs ++ [b ++ [z]]) ++ G)) ?_ ?_
      · rw [pool_snoc _ _ he, List.map_append (f := V.ref)]
        refine List.Perm.cons _ ?_
        refine (List.Perm.swap _ _ _).trans (List.Perm.cons _ ?_)
        rw [List.append_assoc]
        exact List.perm_middle.symm
      · exact n_ki ⟨[], ps ++ [pb], bs ++ [b ++ [z]], pn, _, rfl, rfl, by rw [List.length_append, List.length_append, he]; rfl, by rw [List.append_assoc]; exact hb, by rw [List.length_append]; show _ + 1 ≤ _; omega, Opn.nil r, (fun d hd => nomatch hd)⟩ (.refl _)
    · rw [if_neg (by rw [h]; decide)] at hb
      walk_at "sk stp"
      exact n_ki ⟨b ++ [z], ps, bs, pb, _, rfl, rfl, he, hb, by omega, ho.snoc h, hbm'⟩ (.refl _)
  · rintro σ L ⟨b, ps, bs, pb, y, rfl, rfl, he, hb, hbl, ho, hbm⟩
    rw [List.drop_length, blks] at hb
    walk_at "sk stp"
    refine n_iteND (fun h => ?_) (fun h => ?_)
    · rw [if_neg h] at hb
      walk_at "sk stp"
      refine n_sub (L' := (pb, .lst (b.map V.int)) :: (q, .lst ((ps ++ [pb]).map V.ref)) :: (pool ps bs ++ G)) (by rw [List.map_append]; walk_at "sk sub") ?_
      refine n_perm (L' := (q, .lst ((ps ++ [pb]).map V.ref)) :: (pool (ps ++ [pb]) (bs ++ [b]) ++ G)) ?_ ?_
      · rw [pool_snoc _ _ he]
        refine (List.Perm.swap _ _ _).trans (List.Perm.cons _ ?_)
        rw [List.append_assoc]
        exact List.perm_middle.symm
      · rw [hb]
        exact k q _ (by rw [← hb, List.length_append, List.length_append, he]; rfl)
    · rw [if_pos h, List.append_nil] at hb
      walk_at "sk stp"
      refine n_sub (L' := (q, .lst (ps.map V.ref)) :: (pool ps bs ++ G)) (by walk_at "sk sub") ?_
      rw [hb]
      exact k q ps (by rw [← hb, he])
theorem raw_blocks_of {P : Program} {w : World} {K : PySem.W.Frag} {mg : Str → Option Value} {base : Heap} {A : Ads} {f : Addr} {fd : FuncData} (F : Fun K "blocks_of" "blocks_of" s_blocks_of f fd) (T : Txt K mg A) (O_is_closed : OkC P w K mg base CX0 2 "is_closed" ["text", "rule"] (sp_is_closed K A)) : FnOk P w K mg base CX0 3 f fd ["text", "rule"] (sp_blocks_of K A) := by
  refine F.ok sc_blocks_of (fun vs H Q E h => len_blocks_of vs H Q E h) (fun cdv Ar outer s H vs Q E hr h => ⟨t_blocks_of K A E, PSs.nox ?_, pure_blocks_of T.fct vs H Q E h⟩)
  have nd := sc_blocks_of.nd
  exact (pss_cons (ps_set (i := 2) nd rfl (Or.inl rfl) (pe_lst pa_nil))
    (pss_cons (ps_set (i := 3) nd rfl (Or.inl rfl) (pe_lst pa_nil))
    (pss_cons (ps_for PassesOwn.never rfl (pi_list (pv 0)) (pg_name (i := 4) nd rfl (Or.inl rfl))
    (pss_cons (ps_expr (pe_bm PySem.F.plainAttrs_list PySem.F.slot_list_append PySem.F.type_list_append mt_append (pv 3) (pa_cons (pv 4) pa_nil)))
    (pss_cons (ps_if (pt_val (pe_cl (E := WE W0) O_is_closed (hr.mono (by decide)) (by rfl) pass00 (pa_cons (pv 3) (pa_cons (pv 1) pa_nil)))) (pss_cons (ps_expr (pe_bm PySem.F.plainAttrs_list PySem.F.slot_list_append PySem.F.type_list_append mt_append (pv 2) (pa_cons (pv 3) pa_nil)))
    (pss_cons (ps_set (i := 3) nd rfl (Or.inl rfl) (pe_lst pa_nil))
    pss_nil)) pss_nil)
    pss_nil)))
    (pss_cons (ps_if (pt_cmpR (op_uNe hr.units) (pv 3) (pe_lst pa_nil) (nomark _)) (pss_cons (ps_expr (pe_bm PySem.F.plainAttrs_list PySem.F.slot_list_append PySem.F.type_list_append mt_append (pv 2) (pa_cons (pv 3) pa_nil)))
    pss_nil) pss_nil)
    (pss_cons (ps_ret (pv 2))
    pss_nil)))))
theorem use_blocks_of {K : PySem.W.Frag} {A : Ads} {B : Hp} {G : Own} {Q : VK} {E : XK} {a f dx : Addr} {xs : List Int} {r : R4} (hs : Sq K B G a (xs.map V.int)) (hm : ∀ d ∈ xs, 0 ≤ d ∧ d ≤ 255) (hl : xs.length ≤ 100000) (hf : Is B G f (ruleO A dx r)) (hr : r.ok) (zq : ∀ q ps, ps.length = (blks r [] xs).length → N B ((q, .lst (ps.map V.ref)) :: (pool ps (blks r [] xs) ++ G)) (Q (.ref q))) : N B G (fun H => sp_blocks_of K A [.ref a, .ref f] H Q E) := fun zH zs => ⟨B, _, _, _, _, _, _, rfl, zs, hs, hm, hl, hf, hr, zq⟩

theorem use_blocks_ofF {K : PySem.W.Frag} {A : Ads} {B : Hp} {G : Own} {Q : VK} {E : XK} {a f dx : Addr} {xs : List Int} {r : R4} (hs : Sq K B G a (xs.map V.int)) (hm : ∀ d ∈ xs, 0 ≤ d ∧ d ≤ 255) (hl : xs.length ≤ 100000) (hf : Is B G f (ruleO A dx r)) (hr : r.ok)
    (zq : ∀ B' q vs, Same B B' → Lis B' [] vs (blks r [] xs) → N B' ((q, .lst vs) :: G) (Q (.ref q))) : N B G (fun H => sp_blocks_of K A [.ref a, .ref f] H Q E) :=
  use_blocks_of hs hm hl hf hr fun q ps he => n_perm (List.perm_middle.symm) (n_freezeAll ps (blks r [] xs) he fun B' sm h => zq B' q _ sm h)
abbrev s_cuts_of : Stmt := topS 6
abbrev N_cuts_of : List Str := ["text", "rule", "found", "place", "block"]
theorem sc_cuts_of : FnScope N_cuts_of ["text", "rule"] (defScope s_cuts_of) := ⟨rfl, rfl, rfl, by decide +kernel, rfl, by decide +kernel, by decide +kernel⟩









def sp_cuts_of (K : PySem.W.Frag) (A : Ads) : Sp := fun zvs zH Q E => ∃ (B : Hp) (G : Own) (a f dx : Addr) (xs : List Int) (r : R4), zvs = [.ref a, .ref f] ∧ SI B G zH ∧ (Sq K B G a (xs.map V.int)) ∧ (∀ d ∈ xs, 0 ≤ d ∧ d ≤ 255) ∧ (xs.length ≤ 100000) ∧ (Is B G f (ruleO A dx r)) ∧ (r.ok) ∧ (∀ B' q, Same B B' → N B' ((q, .lst ((cutsL r xs).map V.int)) :: G) (Q (.ref q)))
theorem len_cuts_of {K : PySem.W.Frag} {A : Ads} : ∀ vs H Q E, sp_cuts_of K A vs H Q E → vs.length = 2 := by
  intro vs H Q E h
  obtain ⟨_, _, _, _, _, _, _, rfl, _⟩ := h
  rfl
def x_cuts_of_0 (K : PySem.W.Frag) (A : Ads) (E : XK) : TS :=
  (tSeq (tIfS (tB (tCl (sp_is_closed K A) (WE W0) (tCons (tVar 4) (tCons (tVar 1) tNil))))
    (tSeq (tDrop (tBM K "list" rAppend (tVar 2) (tCons (tVar 3) tNil)))
    tNext)
    tNext)
    tNext)
instance {K : PySem.W.Frag} {A : Ads} {E : XK} : Unf (x_cuts_of_0 K A E) (
  (tSeq (tIfS (tB (tCl (sp_is_closed K A) (WE W0) (tCons (tVar 4) (tCons (tVar 1) tNil))))
    (tSeq (tDrop (tBM K "list" rAppend (tVar 2) (tCons (tVar 3) tNil)))
    tNext)
    tNext)
    tNext)) := ⟨rfl⟩
def x_cuts_of_1 (K : PySem.W.Frag) (A : Ads) (E : XK) : TS :=
  (tSeq (tFor (iList K (tCl (sp_blocks_of K A) (WE W0) (tCons (tVar 0) (tCons (tVar 1) tNil)))) (gName 4)
    (tSeq (tAug 3 (tCB (uLen K) (tCons (tVar 4) tNil)) (ipI fun i j => i + j))
    (x_cuts_of_0 K A E)))
    (tSeq (tRet (tVar 2))
    tNext))
instance {K : PySem.W.Frag} {A : Ads} {E : XK} : Unf (x_cuts_of_1 K A E) (
  (tSeq (tFor (iList K (tCl (sp_blocks_of K A) (WE W0) (tCons (tVar 0) (tCons (tVar 1) tNil)))) (gName 4)
    (tSeq (tAug 3 (tCB (uLen K) (tCons (tVar 4) tNil)) (ipI fun i j => i + j))
    (x_cuts_of_0 K A E)))
    (tSeq (tRet (tVar 2))
    tNext))) := ⟨rfl⟩
def t_cuts_of (K : PySem.W.Frag) (A : Ads) (E : XK) : TS :=
  (tSeq (tAsg (tLst (tCons (tC (.int (0))) tNil)) (gName 2))
    (tSeq (tAsg (tC (.int (0))) (gName 3))
    (x_cuts_of_1 K A E)))
theorem pure_cuts_of {K : PySem.W.Frag} {A : Ads} (T : Fct K A) (vs : List V) (H : Hp) (Q : VK) (E : XK) (h : sp_cuts_of K A vs H Q E) : t_cuts_of K A E (endE Q) (L2.start N_cuts_of vs) H := by
  obtain ⟨B, G, a, f, dx, xs, r, rfl, zs, hs, hm, hl, hf, hr, k⟩ := h
  refine (?_ : N B G (fun H => t_cuts_of K A E (endE Q) (L2.start N_cuts_of [.ref a, .ref f]) H)) H zs
  clear zs
  unfold t_cuts_of

  walk_at "sk stp"
  rename_i q
  refine use_blocks_ofF (r := r) (dx := dx) (hs.sub (List.sublist_cons_self _ _)) hm hl (hf.sub (List.sublist_cons_self _ _)) hr fun B1 qb vs sm1 hv => ?_
  have hf1 := hf.mono sm1
  have hbl := blks_len hr xs
  have hok := blks_ok hr xs [] (Opn.nil r)
  have hmem : ∀ c ∈ blks r [] xs, ∀ d ∈ c, 0 ≤ d ∧ d ≤ 255 := fun c hc d hd => hm d (blks_mem r hc hd)
  unfold cutsL at k
  generalize blks r [] xs = bs at *
  walk_at "sk stp"
  refine n_lpP bs (fun i σ L => ∃ (y : Option V), σ = [some (.ref a), some (.ref f), some (.ref q), some (.int ((bs.take i).flatten.length : Nat)), y] ∧ L = (qb, .lst vs) :: (q, .lst ((0 :: cutsF r 0 (bs.take i)).map V.int)) :: G) hv ?_ ⟨_, rfl, ?_⟩ ?_ ?_
  · rintro i σ L _ ⟨y, rfl, rfl⟩
    walk_at "sk sq"
  · rfl
  · rintro i σ L v hi ⟨y, rfl, rfl⟩ ⟨pb, rfl, hb⟩
    have hbi := hok i _ (List.getElem?_eq_getElem hi)
    have hmi := hmem _ (List.getElem_mem hi)
    have e1 : bs.take (i + 1) = bs.take i ++ [bs[i]] := take_step hi
    have e2 : ((bs.take (i + 1)).flatten.length : Int) = (bs.take i).flatten.length + bs[i].length := by rw [flat_step hi, List.length_append]; omega
    have e3 := cutsF_snoc r bs[i] (bs.take i) 0
    rw [← e1, Int.zero_add] at e3
    have hcl := cutsF_len r (bs.take i) 0
    rw [List.length_take] at hcl
    rw [e3, e2]
    generalize bs[i] = b at *
    have hmo : r.m ≤ 48 := hr.2.1.2.2
    walk_at "sk stp"
    refine n_ite (fun h => ?_) (fun h => ?_)
    · rw [if_pos h]
      walk_at "sk stp"
      exact n_ki ⟨_, rfl, rfl⟩ (.refl _)
    · rw [if_neg (by rw [h]; decide), List.append_nil]
      walk_at "sk stp"
      exact n_ki ⟨_, rfl, rfl⟩ (.refl _)
  · rintro σ L ⟨y, rfl, rfl⟩
    rw [List.take_length]
    walk_at "sk stp"
    exact n_sub (by walk_at "sk sub") (k _ q sm1)
theorem raw_cuts_of {P : Program} {w : World} {K : PySem.W.Frag} {mg : Str → Option Value} {base : Heap} {A : Ads} {f : Addr} {fd : FuncData} (F : Fun K "cuts_of" "cuts_of" s_cuts_of f fd) (T : Txt K mg A) (O_is_closed : OkC P w K mg base CX0 2 "is_closed" ["text", "rule"] (sp_is_closed K A)) (O_blocks_of : OkC P w K mg base CX0 3 "blocks_of" ["text", "rule"] (sp_blocks_of K A)) : FnOk P w K mg base CX0 4 f fd ["text", "rule"] (sp_cuts_of K A) := by
  refine F.ok sc_cuts_of (fun vs H Q E h => len_cuts_of vs H Q E h) (fun cdv Ar outer s H vs Q E hr h => ⟨t_cuts_of K A E, PSs.nox ?_, pure_cuts_of T.fct vs H Q E h⟩)
  have nd := sc_cuts_of.nd
  exact (pss_cons (ps_set (i := 2) nd rfl (Or.inl rfl) (pe_lst (pa_cons pe_int pa_nil)))
    (pss_cons (ps_set (i := 3) nd rfl (Or.inl rfl) pe_int)
    (pss_cons (ps_for PassesOwn.never rfl (pi_list (pe_cl (E := WE W0) O_blocks_of (hr.mono (by decide)) (by rfl) pass00 (pa_cons (pv 0) (pa_cons (pv 1) pa_nil)))) (pg_name (i := 4) nd rfl (Or.inl rfl))
    (pss_cons (ps_aug (i := 3) nd rfl (Or.inl rfl) (pe_callB call_uLen (by rfl) T.b_len boot_len (pa_cons (pv 4) pa_nil)) ip_add)
    (pss_cons (ps_if (pt_val (pe_cl (E := WE W0) O_is_closed (hr.mono (by decide)) (by rfl) pass00 (pa_cons (pv 4) (pa_cons (pv 1) pa_nil)))) (pss_cons (ps_expr (pe_bm PySem.F.plainAttrs_list PySem.F.slot_list_append PySem.F.type_list_append mt_append (pv 2) (pa_cons (pv 3) pa_nil)))
    pss_nil) pss_nil)
    pss_nil)))
    (pss_cons (ps_ret (pv 2))
    pss_nil))))
theorem use_cuts_of {K : PySem.W.Frag} {A : Ads} {B : Hp} {G : Own} {Q : VK} {E : XK} {a f dx : Addr} {xs : List Int} {r : R4} (hs : Sq K B G a (xs.map V.int)) (hm : ∀ d ∈ xs, 0 ≤ d ∧ d ≤ 255) (hl : xs.length ≤ 100000) (hf : Is B G f (ruleO A dx r)) (hr : r.ok) (zq : ∀ B' q, Same B B' → N B' ((q, .lst ((cutsL r xs).map V.int)) :: G) (Q (.ref q))) : N B G (fun H => sp_cuts_of K A [.ref a, .ref f] H Q E) := fun zH zs => ⟨B, _, _, _, _, _, _, rfl, zs, hs, hm, hl, hf, hr, zq⟩


/-- a block that is closed, and no shorter beginning of it -/
def ClB (r : R4) (c : List Int) : Prop := c ≠ [] ∧ (∀ s, 1 ≤ s → s < c.length → clsd r (c.take s) = false) ∧ clsd r c = true
theorem blks_cl {r : R4} (ys : List Int) : ∀ (t b : List Int), t ≠ [] → (∀ s, b.length < s → s < (b ++ t).length → clsd r ((b ++ t).take s) = false) → clsd r (b ++ t) = true → blks r b (t ++ ys) = (b ++ t) :: blks r [] ys
  | [], _, h, _, _ => absurd rfl h
  | m :: t, b, _, h1, h2 => by
    rw [List.cons_append, blks]
    cases t with
    | nil => rw [if_pos h2]; rfl
    | cons m2 t2 =>
      have e : b ++ m :: m2 :: t2 = (b ++ [m]) ++ (m2 :: t2) := by simp
      have hn : clsd r (b ++ [m]) = false := by
        have := h1 (b.length + 1) (by omega) (by rw [List.length_append, List.length_cons, List.length_cons]; omega)
        rw [e, List.take_append_of_le_length (by rw [List.length_append]; exact Nat.le_refl _), List.take_of_length_le (by rw [List.length_append]; exact Nat.le_refl _)] at this
        exact this
      rw [if_neg (by rw [hn]; decide), e]
      refine blks_cl ys (m2 :: t2) (b ++ [m]) (by simp) (fun s a1 a2 => ?_) (by rw [← e]; exact h2)
      rw [← e] at a2 ⊢
      rw [List.length_append] at a1
      exact h1 s (by have : [m].length = 1 := rfl; omega) a2
theorem blks_one {r : R4} {c : List Int} (h : ClB r c) (ys : List Int) : blks r [] (c ++ ys) = c :: blks r [] ys :=
  blks_cl ys c [] h.1 (fun s a1 a2 => h.2.1 s a1 a2) h.2.2
theorem blks_many {r : R4} : ∀ {cs : List (List Int)}, (∀ c ∈ cs, ClB r c) → ∀ ys, blks r [] (cs.flatten ++ ys) = cs ++ blks r [] ys
  | [], _, _ => rfl
  | c :: cs, h, ys => by
    rw [List.flatten_cons, List.append_assoc, blks_one (h c List.mem_cons_self), blks_many (fun d hd => h d (List.mem_cons_of_mem _ hd)) ys]; rfl
/-- the closed blocks, and what is left -/
theorem blks_split {r : R4} (hr : r.ok) (xs : List Int) : ∃ cs tl, blks r [] xs = cs ++ tl ∧ (∀ c ∈ cs, ClB r c) ∧ (tl = [] ∨ ∃ c, tl = [c] ∧ clsd r c = false) := by
  have hok := blks_ok hr xs [] (Opn.nil r)
  generalize blks r [] xs = bs at hok
  rcases List.eq_nil_or_concat bs with rfl | ⟨cs, c, rfl⟩
  · exact ⟨[], [], rfl, (fun c h => nomatch h), .inl rfl⟩
  · rw [List.concat_eq_append] at hok ⊢
    have hcs : ∀ d ∈ cs, ClB r d := fun d hd => by
      obtain ⟨i, hi, rfl⟩ := List.mem_iff_getElem.mp hd
      obtain ⟨a1, a2, a3, _⟩ := hok i cs[i] (by rw [List.getElem?_append_left hi, List.getElem?_eq_getElem hi])
      exact ⟨a1, a2, a3 (by rw [List.length_append]; show i + 1 < cs.length + 1; omega)⟩
    obtain ⟨a1, a2, _, _⟩ := hok cs.length c (by rw [List.getElem?_append_right (Nat.le_refl _), Nat.sub_self]; rfl)
    cases hc : clsd r c with
    | true =>
      refine ⟨cs ++ [c], [], by rw [List.append_nil], fun d hd => ?_, .inl rfl⟩
      rcases List.mem_append.mp hd with hd | hd
      · exact hcs d hd
      · rw [List.mem_singleton.mp hd]; exact ⟨a1, a2, hc⟩
    | false => exact ⟨cs, [c], rfl, hcs, .inr ⟨c, rfl, hc⟩⟩
def preL (cs : List (List Int)) (k : Nat) : Nat := (cs.take k).flatten.length
theorem cutsF_closed {r : R4} : ∀ {cs : List (List Int)}, (∀ c ∈ cs, ClB r c) → ∀ (tl : List (List Int)) (p : Int), (tl = [] ∨ ∃ c, tl = [c] ∧ clsd r c = false) → cutsF r p (cs ++ tl) = (List.range cs.length).map fun k => p + preL cs (k + 1)
  | [], _, tl, p, ht => by
    rcases ht with rfl | ⟨c, rfl, hc⟩
    · rfl
    · rw [List.nil_append, cutsF, if_neg (by rw [hc]; decide)]; rfl
  | c :: cs, h, tl, p, ht => by
    rw [List.cons_append, cutsF, if_pos (h c List.mem_cons_self).2.2, cutsF_closed (fun d hd => h d (List.mem_cons_of_mem _ hd)) tl _ ht, List.length_cons, List.range_succ_eq_map, List.map_cons, List.map_map]
    congr 1
    · show p + c.length = p + (((c :: cs).take 1).flatten.length : Nat)
      simp
    · refine List.map_congr_left fun k _ => ?_
      show p + c.length + ((cs.take (k + 1)).flatten.length : Nat) = p + (((c :: cs).take (k + 1 + 1)).flatten.length : Nat)
      rw [List.take_succ_cons, List.flatten_cons, List.length_append]
      omega
theorem cutsL_eq {r : R4} {xs : List Int} {cs tl : List (List Int)} (h : blks r [] xs = cs ++ tl) (hc : ∀ c ∈ cs, ClB r c) (ht : tl = [] ∨ ∃ c, tl = [c] ∧ clsd r c = false) : cutsL r xs = (List.range (cs.length + 1)).map fun k => (preL cs k : Int) := by
  unfold cutsL
  rw [h, cutsF_closed hc tl 0 ht, List.range_succ_eq_map, List.map_cons, List.map_map]
  congr 1
  refine List.map_congr_left fun k _ => ?_
  show 0 + (preL cs (k + 1) : Int) = (preL cs (k + 1) : Nat)
  omega
/-- behind a cut the blocks are those of what stands behind it -/
theorem blks_drop {r : R4} {xs : List Int} {cs tl : List (List Int)} (h : blks r [] xs = cs ++ tl) (hc : ∀ c ∈ cs, ClB r c) {k : Nat} (hk : k ≤ cs.length) : blks r [] (xs.drop (preL cs k)) = (blks r [] xs).drop k := by
  have hx : xs = cs.flatten ++ tl.flatten := by
    have := blks_flat r xs []
    rw [h, List.flatten_append, List.nil_append] at this
    exact this.symm
  have htl : blks r [] tl.flatten = tl := by
    have := blks_many hc tl.flatten
    rw [← hx, h] at this
    exact (List.append_cancel_left this).symm
  have e1 : cs.flatten = (cs.take k).flatten ++ (cs.drop k).flatten := by rw [← List.flatten_append, List.take_append_drop]
  have e2 : xs.drop (preL cs k) = (cs.drop k).flatten ++ tl.flatten := by
    rw [hx, e1, List.append_assoc]
    exact List.drop_left
  rw [e2, blks_many (fun c hcm => hc c (List.mem_of_mem_drop hcm)), htl, h, List.drop_append_of_le_length hk]
/-- what begins with closed blocks has them -/
theorem blks_early {r : R4} {xs : List Int} {cs tl : List (List Int)} (h : blks r [] xs = cs ++ tl) (hc : ∀ c ∈ cs, ClB r c) {k : Nat} (hk : k ≤ cs.length) (ys : List Int) : blks r [] (xs.take (preL cs k) ++ ys) = (blks r [] xs).take k ++ blks r [] ys := by
  have hx : xs = cs.flatten ++ tl.flatten := by
    have := blks_flat r xs []
    rw [h, List.flatten_append, List.nil_append] at this
    exact this.symm
  have e1 : cs.flatten = (cs.take k).flatten ++ (cs.drop k).flatten := by rw [← List.flatten_append, List.take_append_drop]
  have e2 : xs.take (preL cs k) = (cs.take k).flatten := by
    rw [hx, e1, List.append_assoc]
    exact List.take_left
  rw [e2, blks_many (fun c hcm => hc c (List.mem_of_mem_take hcm)), h, List.take_append_of_le_length hk]
theorem n_lcE {K : PySem.W.Frag} {B : Hp} {L : Own} {a : Addr} {xs : List V} {tt : TT} {te : TE} {vs : List Nat} {σ : L2.St} {Q : VK} {n m : Nat} (Pv : Nat → List V → Own → Prop) (hq : ∀ i acc L, i ≤ xs.length → Pv i acc L → Sq K B L a xs) (h0 : Pv 0 [] L)
    (hs : ∀ i acc L D (hi : i < xs.length), Pv i acc L → N B ((D, .lst acc) :: L) (fun H => wipe (((wipe σ vs).set n (some (.int i))).set m (some xs[i])) vs = wipe σ vs ∧ tt (((wipe σ vs).set n (some (.int i))).set m (some xs[i])) H fun b H3 =>
      if b = true then te (((wipe σ vs).set n (some (.int i))).set m (some xs[i])) H3 (fun y H4 => ∃ acc, H4 D = some (.lst acc) ∧ acc.length < sizeLine ∧ (∃ L, SI B L (upd H4 D (.lst (acc ++ [y]))) ∧ ∃ a L', L = (D, .lst a) :: L' ∧ Pv (i + 1) a L')) else (∃ L, SI B L H3 ∧ ∃ a L', L = (D, .lst a) :: L' ∧ Pv (i + 1) a L')))
    (hd : ∀ acc L D, Pv xs.length acc L → N B ((D, .lst acc) :: L) (Q (.ref D))) : N B L (fun H => IE K (Lc (gTup K 2 (gCons (gName n) (gCons (gName m) gNil))) tt te vs σ Q) [.ref a] H) := by
  intro H s
  refine ⟨a, xs, rfl, hq 0 [] L (Nat.zero_le _) h0 H s, ?_⟩
  intro D hD
  refine ⟨fun i m H => m = xs.length - i ∧ i ≤ xs.length ∧ ∃ L, SI B L H ∧ ∃ acc L', L = (D, .lst acc) :: L' ∧ Pv i acc L', ⟨xs.length, by omega, Nat.zero_le _, _, s.new hD, [], L, rfl, h0⟩, ?_⟩
  rintro i m' H ⟨rfl, hi, _, s, acc, L', rfl, p⟩
  have s0 : SI B L' H := s.sub (List.sublist_cons_self _ _)
  have hsq := hq i acc L' hi p H s0
  by_cases hlt : i < xs.length
  · refine .inr ⟨⟨xs, xs[i], hsq, List.getElem?_eq_getElem hlt⟩, fun H' => ∃ L, SI B L H' ∧ ∃ a L', L = (D, .lst a) :: L' ∧ Pv (i + 1) a L', fun H' h => ⟨xs.length - (i + 1), by omega, rfl, hlt, h⟩, fun v H' hx => ?_⟩
    obtain ⟨T, x, rfl, nT, rfl, hx⟩ := hx
    have := hx xs hsq
    rw [List.getElem?_eq_getElem hlt] at this
    cases this
    have s2 := s.new (o := .tup [.int i, xs[i]]) nT
    refine ⟨T, [.int i, xs[i]], rfl, SqT.of upd_same, rfl, _, _, rfl, _, _, rfl, rfl, ?_⟩
    exact n_sub (List.sublist_cons_self _ _) (hs i acc L' D hlt p) _ s2
  · have e : i = xs.length := by omega
    subst e
    exact .inl ⟨⟨xs, hsq, Nat.le_refl _⟩, hd acc L' D p H s⟩
theorem cutV_from (xs : List V) (a : Nat) : cutV xs (some (a : Int)) none = xs.drop a := by
  unfold cutV
  rw [HT.sIx_nat, HT.sIx_none]
  by_cases h : a ≤ xs.length
  · rw [Nat.min_eq_left h, List.take_of_length_le (by rw [List.length_drop]; exact Nat.le_refl _)]
  · have e1 : xs.drop (min a xs.length) = [] := List.drop_eq_nil_of_le (by omega)
    have e2 : xs.drop a = [] := List.drop_eq_nil_of_le (by omega)
    rw [e1, e2, List.take_nil]
theorem cutV_to (xs : List V) (b : Nat) : cutV xs none (some (b : Int)) = xs.take b := by
  unfold cutV
  rw [HT.sIx_nat]
  show (xs.drop 0).take (min b xs.length - 0) = _
  rw [List.drop_zero, Nat.sub_zero]
  by_cases h : b ≤ xs.length
  · rw [Nat.min_eq_left h]
  · rw [Nat.min_eq_right (by omega), List.take_of_length_le (Nat.le_refl _), List.take_of_length_le (by omega)]
theorem preL_le {r : R4} {xs : List Int} {cs tl : List (List Int)} (h : blks r [] xs = cs ++ tl) (k : Nat) : preL cs k ≤ xs.length := by
  have := blks_flat r xs []
  rw [h, List.flatten_append, List.nil_append] at this
  have e := congrArg List.length this
  rw [List.length_append] at e
  have := flat_le cs k
  unfold preL
  omega
theorem n_inI {K : PySem.W.Frag} {B : Hp} {L : Own} {a : Addr} {ns : List Int} {i : Int} {Q : VK} (hs : Sq K B L a (ns.map V.int)) (q : N B L (Q (.bl (decide (i ∈ ns))))) : N B L (fun H => rIn K false (.int i) (.ref a) H Q) := by
  intro H s
  refine ⟨a, ns.map V.int, rfl, .inl (hs H s), rfl, ?_, ?_⟩
  · rw [List.all_map]; exact List.all_eq_true.mpr fun x _ => rfl
  · have e : inV (.int i) (ns.map V.int) = decide (i ∈ ns) := by
      rw [Bool.eq_iff_iff, decide_eq_true_iff]
      simp [inV, eqV]
    rw [if_neg (by decide), e]
    exact q H s
theorem preL_zero (cs : List (List Int)) : preL cs 0 = 0 := rfl
/-- the last place that a test takes, of a row whose first place it takes -/
theorem last_of {n : Nat} {p : Nat → Bool} (h : p 0 = true) : ∃ ys k, (List.range (n + 1)).filter p = ys ++ [k] ∧ k ≤ n ∧ p k = true := by
  rcases List.eq_nil_or_concat ((List.range (n + 1)).filter p) with e | ⟨ys, k, e⟩
  · have : 0 ∈ (List.range (n + 1)).filter p := List.mem_filter.mpr ⟨List.mem_range.mpr (by omega), h⟩
    rw [e] at this; cases this
  · have : k ∈ (List.range (n + 1)).filter p := by rw [e]; simp
    have := List.mem_filter.mp this
    exact ⟨ys, k, by rw [e, List.concat_eq_append], by have := List.mem_range.mp this.1; omega, this.2⟩
/-- a value of a row stands at its first place -/
theorem at_idx {n : Nat} {f : Nat → Int} {z : Int} (h : z ∈ (List.range n).map f) : ((List.range n).map f).idxOf z < n ∧ f (((List.range n).map f).idxOf z) = z := by
  have h1 := List.idxOf_lt_length_iff.mpr h
  have h2 := List.getElem_idxOf h1
  rw [List.getElem_map, List.getElem_range] at h2
  rw [List.length_map, List.length_range] at h1
  exact ⟨h1, h2⟩
theorem drop_same {xs ms : List Int} {n1 n2 z w : Nat} (h : n1 ≤ xs.length) (hz : n2 ≤ z) (hw : w + n2 = z + n1 + ms.length) : (xs.take n1 ++ (ms ++ xs.drop n2)).drop w = xs.drop z := by
  have e : w = (xs.take n1).length + (ms.length + (z - n2)) := by rw [List.length_take]; omega
  rw [e, List.drop_length_add_append, List.drop_length_add_append, List.drop_drop]
  congr 1
  omega

abbrev s_w_each_cut : Stmt := topS 24
abbrev N_w_each_cut : List Str := ["_law_text_here", "_law_rule_here", "_law_blocks", "_law_cuts", "_law_k", "_law_cut"]
theorem sc_w_each_cut : FnScope N_w_each_cut ["_law_text_here", "_law_rule_here"] (defScope s_w_each_cut) := ⟨rfl, rfl, rfl, by decide +kernel, rfl, by decide +kernel, by decide +kernel⟩









def sp_w_each_cut (K : PySem.W.Frag) (A : Ads) : Sp := fun zvs zH Q E => ∃ (B : Hp) (G : Own) (a f dx : Addr) (xs : List Int) (r : R4), zvs = [.ref a, .ref f] ∧ SI B G zH ∧ (Sq K B G a (xs.map V.int)) ∧ (∀ d ∈ xs, 0 ≤ d ∧ d ≤ 255) ∧ (xs.length ≤ 1000) ∧ (Is B G f (ruleO A dx r)) ∧ (r.ok) ∧ (∀ B', Same B B' → N B' G (Q (.bl true)))
theorem len_w_each_cut {K : PySem.W.Frag} {A : Ads} : ∀ vs H Q E, sp_w_each_cut K A vs H Q E → vs.length = 2 := by
  intro vs H Q E h
  obtain ⟨_, _, _, _, _, _, _, rfl, _⟩ := h
  rfl
def x_w_each_cut_0 (K : PySem.W.Frag) (A : Ads) (E : XK) : TS :=
  (tSeq (tIfS (tTest (tOp (uNe K) (tCl (sp_blocks_of K A) (WE W0) (tCons (tSl (rSlL K) (tVar 0) (tPart (tVar 5)) tNoPart) (tCons (tVar 1) tNil))) (tSl (rSlL K) (tVar 2) (tPart (tVar 4)) tNoPart)))
    (tSeq (tRet (tC (.bl false)))
    tNext)
    tNext)
    tNext)
instance {K : PySem.W.Frag} {A : Ads} {E : XK} : Unf (x_w_each_cut_0 K A E) (
  (tSeq (tIfS (tTest (tOp (uNe K) (tCl (sp_blocks_of K A) (WE W0) (tCons (tSl (rSlL K) (tVar 0) (tPart (tVar 5)) tNoPart) (tCons (tVar 1) tNil))) (tSl (rSlL K) (tVar 2) (tPart (tVar 4)) tNoPart)))
    (tSeq (tRet (tC (.bl false)))
    tNext)
    tNext)
    tNext)) := ⟨rfl⟩
def x_w_each_cut_1 (K : PySem.W.Frag) (A : Ads) (E : XK) : TS :=
  (tSeq (tFor (iEnum K (tCons (tVar 3) tNil)) (gTup K 2 (gCons (gName 4) (gCons (gName 5) gNil)))
    (x_w_each_cut_0 K A E))
    (tSeq (tRet (tC (.bl true)))
    tNext))
instance {K : PySem.W.Frag} {A : Ads} {E : XK} : Unf (x_w_each_cut_1 K A E) (
  (tSeq (tFor (iEnum K (tCons (tVar 3) tNil)) (gTup K 2 (gCons (gName 4) (gCons (gName 5) gNil)))
    (x_w_each_cut_0 K A E))
    (tSeq (tRet (tC (.bl true)))
    tNext))) := ⟨rfl⟩
def x_w_each_cut_2 (K : PySem.W.Frag) (A : Ads) (E : XK) : TS :=
  (tSeq (tAsg (tCl (sp_cuts_of K A) (WE W0) (tCons (tVar 0) (tCons (tVar 1) tNil))) (gName 3))
    (x_w_each_cut_1 K A E))
instance {K : PySem.W.Frag} {A : Ads} {E : XK} : Unf (x_w_each_cut_2 K A E) (
  (tSeq (tAsg (tCl (sp_cuts_of K A) (WE W0) (tCons (tVar 0) (tCons (tVar 1) tNil))) (gName 3))
    (x_w_each_cut_1 K A E))) := ⟨rfl⟩
def t_w_each_cut (K : PySem.W.Frag) (A : Ads) (E : XK) : TS :=
  (tSeq (tAsg (tCl (sp_blocks_of K A) (WE W0) (tCons (tVar 0) (tCons (tVar 1) tNil))) (gName 2))
    (x_w_each_cut_2 K A E))
theorem pure_w_each_cut {K : PySem.W.Frag} {A : Ads} (T : Fct K A) (vs : List V) (H : Hp) (Q : VK) (E : XK) (h : sp_w_each_cut K A vs H Q E) : t_w_each_cut K A E (endE Q) (L2.start N_w_each_cut vs) H := by
  obtain ⟨B, G, a, f, dx, xs, r, rfl, zs, hs, hm, hl, hf, hr, k⟩ := h
  refine (?_ : N B G (fun H => t_w_each_cut K A E (endE Q) (L2.start N_w_each_cut [.ref a, .ref f]) H)) H zs
  clear zs
  unfold t_w_each_cut

  walk_at "sk stp"
  refine use_blocks_ofF (r := r) (dx := dx) hs hm (by omega) hf hr fun B1 qb vs sm1 hv => ?_
  have hs := hs.mono sm1
  have hf := hf.mono sm1
  walk_at "sk stp"
  refine use_cuts_of (xs := xs) (r := r) (dx := dx) (hs.sub (by walk_at "sk sub")) hm (by omega) (hf.sub (by walk_at "sk sub")) hr fun B2 qc sm2 => ?_
  have hs := hs.mono sm2
  have hf := hf.mono sm2
  have hv := hv.mono sm2
  obtain ⟨cs, tl, hb, hc, ht⟩ := blks_split hr xs
  rw [cutsL_eq hb hc ht]
  have hpl : ((List.range (cs.length + 1)).map fun k => (preL cs k : Int)).length = cs.length + 1 := by rw [List.length_map, List.length_range]
  have hbl := blks_len hr xs
  have hcl : cs.length ≤ (blks r [] xs).length := by rw [hb, List.length_append]; omega
  have hvl := hv.len
  have hd := fun k (hk : k ≤ cs.length) => blks_drop hb hc hk
  walk_at "sk stp"
  refine n_lpEiB ((List.range (cs.length + 1)).map fun k => (preL cs k : Int)) (fun i B' σ L => ∃ (y4 y5 : Option V), σ = [some (.ref a), some (.ref f), some (.ref qb), some (.ref qc), y4, y5] ∧ L = (qc, .lst (((List.range (cs.length + 1)).map fun k => (preL cs k : Int)).map V.int)) :: (qb, .lst vs) :: G) ?_ ⟨_, _, rfl, rfl⟩ ?_ ?_
  · rintro i B' σ L sm _ ⟨y4, y5, rfl, rfl⟩
    walk_at "sk sq"
  · rintro i B' σ L hi sm ⟨y4, y5, rfl, rfl⟩
    rw [hpl] at hi
    rw [List.getElem_map, List.getElem_range]
    have hs := hs.mono sm
    have hf := hf.mono sm
    have hv := hv.mono sm
    have hk : i ≤ cs.length := by omega
    walk_at "sk stp"
    rw [cutI_from]
    rename_i pd
    refine use_blocks_ofF (xs := xs.drop (preL cs i)) (r := r) (dx := dx) (sq_own 0 rfl) (fun d hd => hm d (List.mem_of_mem_drop hd)) (by rw [List.length_drop]; omega) (hf.sub (by walk_at "sk sub")) hr fun B3 qd ws sm3 hw => ?_
    rw [hd i hk] at hw
    have hv := hv.mono sm3
    walk_at "sk stp"
    rw [cutV_from]
    refine n_neSelf (d := dLis ((blks r [] xs).drop i)) (da_lis (by walk_at "sk sq") (hw.sub (List.nil_sublist _))) (da_lis (sq_own 0 rfl) (Lis.sub (hv.drop i) (List.nil_sublist _))) (cmp_lis _) (by decide) ?_
    walk_at "sk stp"
    exact n_kg sm3 ⟨_, _, rfl, rfl⟩ (by walk_at "sk sub")
  · rintro B' σ L sm ⟨y4, y5, rfl, rfl⟩
    walk_at "sk stp"
    exact n_sub (by walk_at "sk sub") (k _ ((sm1.trans sm2).trans sm))
theorem raw_w_each_cut {P : Program} {w : World} {K : PySem.W.Frag} {mg : Str → Option Value} {base : Heap} {A : Ads} {f : Addr} {fd : FuncData} (F : Fun K "_law_each_cut" "_law_each_cut" s_w_each_cut f fd) (T : Txt K mg A) (O_blocks_of : OkC P w K mg base CX0 3 "blocks_of" ["text", "rule"] (sp_blocks_of K A)) (O_cuts_of : OkC P w K mg base CX0 4 "cuts_of" ["text", "rule"] (sp_cuts_of K A)) : FnOk P w K mg base CX0 5 f fd ["_law_text_here", "_law_rule_here"] (sp_w_each_cut K A) := by
  refine F.ok sc_w_each_cut (fun vs H Q E h => len_w_each_cut vs H Q E h) (fun cdv Ar outer s H vs Q E hr h => ⟨t_w_each_cut K A E, PSs.nox ?_, pure_w_each_cut T.fct vs H Q E h⟩)
  have nd := sc_w_each_cut.nd
  exact (pss_cons (ps_set (i := 2) nd rfl (Or.inl rfl) (pe_cl (E := WE W0) O_blocks_of (hr.mono (by decide)) (by rfl) pass00 (pa_cons (pv 0) (pa_cons (pv 1) pa_nil))))
    (pss_cons (ps_set (i := 3) nd rfl (Or.inl rfl) (pe_cl (E := WE W0) O_cuts_of (hr.mono (by decide)) (by rfl) pass00 (pa_cons (pv 0) (pa_cons (pv 1) pa_nil))))
    (pss_cons (ps_for PassesOwn.never rfl (pi_enum (by rfl) T.b_enumerate (pa_cons (pv 3) pa_nil)) (pg_tup rfl (pgs_cons (pg_name (i := 4) nd rfl (Or.inl rfl)) (pgs_cons (pg_name (i := 5) nd rfl (Or.inl rfl)) pgs_nil)))
    (pss_cons (ps_if (pt_cmpR (op_uNe hr.units) (pe_cl (E := WE W0) O_blocks_of (hr.mono (by decide)) (by rfl) pass00 (pa_cons (pe_slice sl_list (pv 0) (po_some (pv 5)) po_none) (pa_cons (pv 1) pa_nil))) (pe_slice sl_list (pv 2) (po_some (pv 4)) po_none) (nomark _)) (pss_cons (ps_ret pe_bl)
    pss_nil) pss_nil)
    pss_nil))
    (pss_cons (ps_ret pe_bl)
    pss_nil))))
theorem use_w_each_cut {K : PySem.W.Frag} {A : Ads} {B : Hp} {G : Own} {Q : VK} {E : XK} {a f dx : Addr} {xs : List Int} {r : R4} (hs : Sq K B G a (xs.map V.int)) (hm : ∀ d ∈ xs, 0 ≤ d ∧ d ≤ 255) (hl : xs.length ≤ 1000) (hf : Is B G f (ruleO A dx r)) (hr : r.ok) (zq : ∀ B', Same B B' → N B' G (Q (.bl true))) : N B G (fun H => sp_w_each_cut K A [.ref a, .ref f] H Q E) := fun zH zs => ⟨B, _, _, _, _, _, _, rfl, zs, hs, hm, hl, hf, hr, zq⟩


abbrev s_w_change_good : Stmt := topS 25
abbrev N_w_change_good : List Str := ["_law_text_here", "_law_a", "_law_b", "_law_marks", "_law_rule_here", "_law_new", "_law_old_blocks", "_law_new_blocks", "_law_old_cuts", "_law_new_cuts", "_law_early", "_law_both", "_law_late", "_law_again", "_law_cut", "_law_k"]
theorem sc_w_change_good : FnScope N_w_change_good ["_law_text_here", "_law_a", "_law_b", "_law_marks", "_law_rule_here"] (defScope s_w_change_good) := ⟨rfl, rfl, rfl, by decide +kernel, rfl, by decide +kernel, by decide +kernel⟩













def sp_w_change_good (K : PySem.W.Frag) (A : Ads) : Sp := fun zvs zH Q E => ∃ (B : Hp) (G : Own) (a c f dx : Addr) (xs ms : List Int) (n1 n2 : Nat) (r : R4), zvs = [.ref a, .int n1, .int n2, .ref c, .ref f] ∧ SI B G zH ∧ (Is B G a (.lst (xs.map V.int))) ∧ (∀ d ∈ xs, 0 ≤ d ∧ d ≤ 255) ∧ (xs.length ≤ 1000) ∧ (Is B G c (.lst (ms.map V.int))) ∧ (∀ d ∈ ms, 0 ≤ d ∧ d ≤ 255) ∧ (ms.length ≤ 1000) ∧ (n1 ≤ n2 ∧ n2 ≤ xs.length) ∧ (Is B G f (ruleO A dx r)) ∧ (r.ok) ∧ (∀ B', Same B B' → N B' G (Q (.bl true)))
theorem len_w_change_good {K : PySem.W.Frag} {A : Ads} : ∀ vs H Q E, sp_w_change_good K A vs H Q E → vs.length = 5 := by
  intro vs H Q E h
  obtain ⟨_, _, _, _, _, _, _, _, _, _, _, rfl, _⟩ := h
  rfl
def x_w_change_good_0 (K : PySem.W.Frag) (A : Ads) (E : XK) : TS :=
  (tSeq (tRet (tOp (uEq K) (tSl (rSlL K) (tVar 7) (tPart (tVar 13)) tNoPart) (tSl (rSlL K) (tVar 6) (tPart (tVar 12)) tNoPart)))
    tNext)
instance {K : PySem.W.Frag} {A : Ads} {E : XK} : Unf (x_w_change_good_0 K A E) (
  (tSeq (tRet (tOp (uEq K) (tSl (rSlL K) (tVar 7) (tPart (tVar 13)) tNoPart) (tSl (rSlL K) (tVar 6) (tPart (tVar 12)) tNoPart)))
    tNext)) := ⟨rfl⟩
def x_w_change_good_1 (K : PySem.W.Frag) (A : Ads) (E : XK) : TS :=
  (tSeq (tAsg (tBM K "list" (rIndex K) (tVar 9) (tCons (tOp (uAdd K) (tOp uSub (tOp (rIx K) (tVar 11) (tC (.int (0)))) (tCB (uLen K) (tCons (tVar 0) tNil))) (tCB (uLen K) (tCons (tVar 5) tNil))) tNil)) (gName 13))
    (x_w_change_good_0 K A E))
instance {K : PySem.W.Frag} {A : Ads} {E : XK} : Unf (x_w_change_good_1 K A E) (
  (tSeq (tAsg (tBM K "list" (rIndex K) (tVar 9) (tCons (tOp (uAdd K) (tOp uSub (tOp (rIx K) (tVar 11) (tC (.int (0)))) (tCB (uLen K) (tCons (tVar 0) tNil))) (tCB (uLen K) (tCons (tVar 5) tNil))) tNil)) (gName 13))
    (x_w_change_good_0 K A E))) := ⟨rfl⟩
def x_w_change_good_2 (K : PySem.W.Frag) (A : Ads) (E : XK) : TS :=
  (tSeq (tAsg (tBM K "list" (rIndex K) (tVar 8) (tCons (tOp (rIx K) (tVar 11) (tC (.int (0)))) tNil)) (gName 12))
    (x_w_change_good_1 K A E))
instance {K : PySem.W.Frag} {A : Ads} {E : XK} : Unf (x_w_change_good_2 K A E) (
  (tSeq (tAsg (tBM K "list" (rIndex K) (tVar 8) (tCons (tOp (rIx K) (tVar 11) (tC (.int (0)))) tNil)) (gName 12))
    (x_w_change_good_1 K A E))) := ⟨rfl⟩
def x_w_change_good_3 (K : PySem.W.Frag) (A : Ads) (E : XK) : TS :=
  (tSeq (tIfS (tTest (tOp (uEq K) (tVar 11) (tLst tNil)))
    (tSeq (tRet (tC (.bl true)))
    tNext)
    tNext)
    (x_w_change_good_2 K A E))
instance {K : PySem.W.Frag} {A : Ads} {E : XK} : Unf (x_w_change_good_3 K A E) (
  (tSeq (tIfS (tTest (tOp (uEq K) (tVar 11) (tLst tNil)))
    (tSeq (tRet (tC (.bl true)))
    tNext)
    tNext)
    (x_w_change_good_2 K A E))) := ⟨rfl⟩
def x_w_change_good_4 (K : PySem.W.Frag) (A : Ads) (E : XK) : TS :=
  (tSeq (tAsg (tLc (iList K (tVar 8)) (gName 14) (tAnd (tTest (tOp uGe (tVar 14) (tVar 2))) (tTest (tOp (rIn K false) (tOp (uAdd K) (tOp uSub (tVar 14) (tCB (uLen K) (tCons (tVar 0) tNil))) (tCB (uLen K) (tCons (tVar 5) tNil))) (tVar 9)))) (tVar 14) [14]) (gName 11))
    (x_w_change_good_3 K A E))
instance {K : PySem.W.Frag} {A : Ads} {E : XK} : Unf (x_w_change_good_4 K A E) (
  (tSeq (tAsg (tLc (iList K (tVar 8)) (gName 14) (tAnd (tTest (tOp uGe (tVar 14) (tVar 2))) (tTest (tOp (rIn K false) (tOp (uAdd K) (tOp uSub (tVar 14) (tCB (uLen K) (tCons (tVar 0) tNil))) (tCB (uLen K) (tCons (tVar 5) tNil))) (tVar 9)))) (tVar 14) [14]) (gName 11))
    (x_w_change_good_3 K A E))) := ⟨rfl⟩
def x_w_change_good_5 (K : PySem.W.Frag) (A : Ads) (E : XK) : TS :=
  (tSeq (tIfS (tTest (tOp (uNe K) (tSl (rSlL K) (tVar 7) tNoPart (tPart (tVar 10))) (tSl (rSlL K) (tVar 6) tNoPart (tPart (tVar 10)))))
    (tSeq (tRet (tC (.bl false)))
    tNext)
    tNext)
    (x_w_change_good_4 K A E))
instance {K : PySem.W.Frag} {A : Ads} {E : XK} : Unf (x_w_change_good_5 K A E) (
  (tSeq (tIfS (tTest (tOp (uNe K) (tSl (rSlL K) (tVar 7) tNoPart (tPart (tVar 10))) (tSl (rSlL K) (tVar 6) tNoPart (tPart (tVar 10)))))
    (tSeq (tRet (tC (.bl false)))
    tNext)
    tNext)
    (x_w_change_good_4 K A E))) := ⟨rfl⟩
def x_w_change_good_6 (K : PySem.W.Frag) (A : Ads) (E : XK) : TS :=
  (tSeq (tAsg (tOp (rIx K) (tLc (iEnum K (tCons (tVar 8) tNil)) (gTup K 2 (gCons (gName 15) (gCons (gName 14) gNil))) (tTest (tOp uLe (tVar 14) (tVar 1))) (tVar 15) [15, 14]) (tUn (rU fun i => .int (-i)) (tC (.int (1))))) (gName 10))
    (x_w_change_good_5 K A E))
instance {K : PySem.W.Frag} {A : Ads} {E : XK} : Unf (x_w_change_good_6 K A E) (
  (tSeq (tAsg (tOp (rIx K) (tLc (iEnum K (tCons (tVar 8) tNil)) (gTup K 2 (gCons (gName 15) (gCons (gName 14) gNil))) (tTest (tOp uLe (tVar 14) (tVar 1))) (tVar 15) [15, 14]) (tUn (rU fun i => .int (-i)) (tC (.int (1))))) (gName 10))
    (x_w_change_good_5 K A E))) := ⟨rfl⟩
def x_w_change_good_7 (K : PySem.W.Frag) (A : Ads) (E : XK) : TS :=
  (tSeq (tAsg (tCl (sp_cuts_of K A) (WE W0) (tCons (tVar 5) (tCons (tVar 4) tNil))) (gName 9))
    (x_w_change_good_6 K A E))
instance {K : PySem.W.Frag} {A : Ads} {E : XK} : Unf (x_w_change_good_7 K A E) (
  (tSeq (tAsg (tCl (sp_cuts_of K A) (WE W0) (tCons (tVar 5) (tCons (tVar 4) tNil))) (gName 9))
    (x_w_change_good_6 K A E))) := ⟨rfl⟩
def x_w_change_good_8 (K : PySem.W.Frag) (A : Ads) (E : XK) : TS :=
  (tSeq (tAsg (tCl (sp_cuts_of K A) (WE W0) (tCons (tVar 0) (tCons (tVar 4) tNil))) (gName 8))
    (x_w_change_good_7 K A E))
instance {K : PySem.W.Frag} {A : Ads} {E : XK} : Unf (x_w_change_good_8 K A E) (
  (tSeq (tAsg (tCl (sp_cuts_of K A) (WE W0) (tCons (tVar 0) (tCons (tVar 4) tNil))) (gName 8))
    (x_w_change_good_7 K A E))) := ⟨rfl⟩
def x_w_change_good_9 (K : PySem.W.Frag) (A : Ads) (E : XK) : TS :=
  (tSeq (tAsg (tCl (sp_blocks_of K A) (WE W0) (tCons (tVar 5) (tCons (tVar 4) tNil))) (gName 7))
    (x_w_change_good_8 K A E))
instance {K : PySem.W.Frag} {A : Ads} {E : XK} : Unf (x_w_change_good_9 K A E) (
  (tSeq (tAsg (tCl (sp_blocks_of K A) (WE W0) (tCons (tVar 5) (tCons (tVar 4) tNil))) (gName 7))
    (x_w_change_good_8 K A E))) := ⟨rfl⟩
def x_w_change_good_10 (K : PySem.W.Frag) (A : Ads) (E : XK) : TS :=
  (tSeq (tAsg (tCl (sp_blocks_of K A) (WE W0) (tCons (tVar 0) (tCons (tVar 4) tNil))) (gName 6))
    (x_w_change_good_9 K A E))
instance {K : PySem.W.Frag} {A : Ads} {E : XK} : Unf (x_w_change_good_10 K A E) (
  (tSeq (tAsg (tCl (sp_blocks_of K A) (WE W0) (tCons (tVar 0) (tCons (tVar 4) tNil))) (gName 6))
    (x_w_change_good_9 K A E))) := ⟨rfl⟩
def t_w_change_good (K : PySem.W.Frag) (A : Ads) (E : XK) : TS :=
  (tSeq (tAsg (tOp (uAdd K) (tOp (uAdd K) (tSl (rSlL K) (tVar 0) tNoPart (tPart (tVar 1))) (tVar 3)) (tSl (rSlL K) (tVar 0) (tPart (tVar 2)) tNoPart)) (gName 5))
    (x_w_change_good_10 K A E))
theorem pure_w_change_good {K : PySem.W.Frag} {A : Ads} (T : Fct K A) (vs : List V) (H : Hp) (Q : VK) (E : XK) (h : sp_w_change_good K A vs H Q E) : t_w_change_good K A E (endE Q) (L2.start N_w_change_good vs) H := by
  obtain ⟨B, G, a, c, f, dx, xs, ms, n1, n2, r, rfl, zs, hs, hm, hl, hc0, hm2, hl2, hn, hf, hr, k⟩ := h
  refine (?_ : N B G (fun H => t_w_change_good K A E (endE Q) (L2.start N_w_change_good [.ref a, .int n1, .int n2, .ref c, .ref f]) H)) H zs
  clear zs
  unfold t_w_change_good

  have kPost := k
  walk_at "sk stp"
  rw [cutI_to]
  have l1 : (xs.take n1).length = n1 := by rw [List.length_take]; omega
  have l2 : (xs.drop n2).length = xs.length - n2 := List.length_drop
  refine n_catLi (ns := xs.take n1) (ms := ms) (is_own 0 rfl) (hc0.sub (by walk_at "sk sub")) (by rw [sizeLine_eq]; omega) fun p1 => ?_
  walk_at "sk stp"
  rw [cutI_from]
  refine n_catLi (ns := xs.take n1 ++ ms) (ms := xs.drop n2) (is_own 1 rfl) (is_own 0 rfl) (by rw [List.length_append, sizeLine_eq]; omega) fun p2 => ?_
  rw [List.append_assoc]
  generalize hnw : xs.take n1 ++ (ms ++ xs.drop n2) = nw
  have lnw : nw.length + n2 = n1 + ms.length + xs.length := by rw [← hnw, List.length_append, List.length_append]; omega
  have hm3 : ∀ d ∈ nw, 0 ≤ d ∧ d ≤ 255 := fun d hd => by
    rw [← hnw] at hd
    rcases List.mem_append.mp hd with hd | hd
    · exact hm d (List.mem_of_mem_take hd)
    · rcases List.mem_append.mp hd with hd | hd
      · exact hm2 d hd
      · exact hm d (List.mem_of_mem_drop hd)
  refine n_sub (L' := (p2, .lst (nw.map V.int)) :: G) (by walk_at "sk sub") ?_
  walk_at "sk stp"
  refine use_blocks_ofF (xs := xs) (r := r) (dx := dx) (is_sq (hs.sub (by walk_at "sk sub"))) hm (by omega) (hf.sub (by walk_at "sk sub")) hr fun B1 qa vs sm1 hv => ?_
  have hs := hs.mono sm1
  have hf := hf.mono sm1
  walk_at "sk stp"
  refine use_blocks_ofF (xs := nw) (r := r) (dx := dx) (sq_own 1 rfl) hm3 (by omega) (hf.sub (by walk_at "sk sub")) hr fun B2 qb ws sm2 hw => ?_
  have hs := hs.mono sm2
  have hf := hf.mono sm2
  have hv := hv.mono sm2
  walk_at "sk stp"
  refine use_cuts_of (xs := xs) (r := r) (dx := dx) (is_sq (hs.sub (by walk_at "sk sub"))) hm (by omega) (hf.sub (by walk_at "sk sub")) hr fun B3 qc sm3 => ?_
  have hs := hs.mono sm3
  have hf := hf.mono sm3
  have hv := hv.mono sm3
  have hw := hw.mono sm3
  walk_at "sk stp"
  refine use_cuts_of (xs := nw) (r := r) (dx := dx) (sq_own 3 rfl) hm3 (by omega) (hf.sub (by walk_at "sk sub")) hr fun B4 qd sm4 => ?_
  have hs := hs.mono sm4
  have hv := hv.mono sm4
  have hw := hw.mono sm4
  obtain ⟨cs, tl, hb, hc, ht⟩ := blks_split hr xs
  obtain ⟨cs2, tl2, hb2, hc2, ht2⟩ := blks_split hr nw
  rw [cutsL_eq hb hc ht, cutsL_eq hb2 hc2 ht2]
  walk_at "sk stp"
  have hpz : (0 : Nat) ≤ n1 := Nat.zero_le _
  obtain ⟨ys, k, hyk, hk, hkp⟩ := last_of (n := cs.length) (p := fun k => decide (preL cs k ≤ n1)) (by rw [preL_zero]; exact decide_eq_true hpz)
  have hkp : preL cs k ≤ n1 := of_decide_eq_true hkp
  generalize hoc : ((List.range (cs.length + 1)).map fun k => (preL cs k : Int)) = oc
  generalize hnc : ((List.range (cs2.length + 1)).map fun k => (preL cs2 k : Int)) = nc
  have hol : oc.length = cs.length + 1 := by rw [← hoc, List.length_map, List.length_range]
  have hog : ∀ i (h : i < oc.length), oc[i] = (preL cs i : Int) := fun i h => by subst hoc; rw [List.getElem_map, List.getElem_range]
  have hcl := blks_len hr xs
  have hcl2 : cs.length ≤ (blks r [] xs).length := by rw [hb, List.length_append]; omega
  refine n_lcE (xs := oc.map V.int) (fun i acc L => acc = (((List.range i).filter fun k => decide (preL cs k ≤ n1)).map fun k => ((k : Nat) : Int)).map V.int ∧ L = (qd, .lst (nc.map V.int)) :: (qc, .lst (oc.map V.int)) :: (qb, .lst ws) :: (qa, .lst vs) :: (p2, .lst (nw.map V.int)) :: G) ?_ ⟨rfl, rfl⟩ ?_ ?_
  · rintro i acc L _ ⟨-, rfl⟩
    walk_at "sk sq"
  · rintro i acc L D hi ⟨rfl, rfl⟩
    rw [List.length_map, hol] at hi
    rw [List.getElem_map, hog]
    walk_at "sk stp"
    have hlen : ((((List.range i).filter fun k => decide (preL cs k ≤ n1)).map fun k => ((k : Nat) : Int)).map V.int).length ≤ i := by
      rw [List.length_map, List.length_map]
      exact Nat.le_trans (List.length_filter_le ..) (by rw [List.length_range]; exact Nat.le_refl _)
    by_cases hq : preL cs i ≤ n1
    · simp only [show decide ((preL cs i : Int) ≤ (n1 : Int)) = true from decide_eq_true (by omega), if_true]
      walk_at "sk stp"
      refine n_put [] rfl (by rw [sizeLine_eq]; omega) ⟨?_, rfl⟩ (by walk_at "sk sub")
      rw [List.range_succ, List.filter_append, List.map_append, List.map_append]
      congr 1
      simp [List.filter, hq]
    · simp only [show decide ((preL cs i : Int) ≤ (n1 : Int)) = false from decide_eq_false (by omega), if_false]
      refine n_noput [] rfl ⟨?_, rfl⟩ (by walk_at "sk sub")
      rw [List.range_succ, List.filter_append, List.map_append, List.map_append]
      simp [List.filter, hq]
  · rintro acc L D ⟨rfl, rfl⟩
    rw [List.length_map, hol, hyk, List.map_append]
    walk_at "sk stp"
    rw [cutV_to, cutV_to]
    have hpre : xs.take n1 = xs.take (preL cs k) ++ (xs.take n1).drop (preL cs k) := by
      have := (List.take_append_drop (preL cs k) (xs.take n1)).symm
      rwa [List.take_take, Nat.min_eq_left hkp] at this
    have htk : (blks r [] nw).take k = (blks r [] xs).take k := by
      rw [← hnw, hpre, List.append_assoc, blks_early hb hc hk, List.take_append_of_le_length (by rw [List.length_take]; omega), List.take_of_length_le (by rw [List.length_take]; omega)]
    have hw3 := hw.take k
    rw [htk] at hw3
    refine n_neSelf (d := dLis ((blks r [] xs).take k)) (da_lis (sq_own 1 rfl) (Lis.sub hw3 (List.nil_sublist _))) (da_lis (sq_own 0 rfl) (Lis.sub (hv.take k) (List.nil_sublist _))) (cmp_lis _) (by decide) ?_
    refine n_sub (L' := (qd, .lst (nc.map V.int)) :: (qc, .lst (oc.map V.int)) :: (qb, .lst ws) :: (qa, .lst vs) :: (p2, .lst (nw.map V.int)) :: G) (by walk_at "sk sub") ?_
    walk_at "sk stp"
    let tst : Int → Bool := fun z => decide ((n2 : Int) ≤ z ∧ z - xs.length + nw.length ∈ nc)
    refine n_lcL (xs := oc.map V.int) (fun i acc L => acc = ((oc.take i).filter tst).map V.int ∧ L = (qd, .lst (nc.map V.int)) :: (qc, .lst (oc.map V.int)) :: (qb, .lst ws) :: (qa, .lst vs) :: (p2, .lst (nw.map V.int)) :: G) ?_ ⟨rfl, rfl⟩ ?_ ?_
    · rintro i acc L _ ⟨-, rfl⟩
      walk_at "sk sq"
    · rintro i acc L D hi ⟨rfl, rfl⟩
      rw [List.length_map, hol] at hi
      rw [List.getElem_map]
      have hio : i < oc.length := by omega
      have hlen : (((oc.take i).filter tst).map V.int).length ≤ i := by
        rw [List.length_map]
        exact Nat.le_trans (List.length_filter_le ..) (by rw [List.length_take]; omega)
      have hts : ((oc.take (i + 1)).filter tst).map V.int = ((oc.take i).filter tst).map V.int ++ (if tst oc[i] then [V.int oc[i]] else []) := by
        rw [List.take_succ_eq_append_getElem hio, List.filter_append, List.map_append]
        congr 1
        by_cases h : tst oc[i] = true
        · simp [List.filter, h]
        · simp [List.filter, h]
      rw [hts]
      walk_at "sk stp"
      by_cases h1 : (n2 : Int) ≤ oc[i]
      · simp only [show decide ((n2 : Int) ≤ oc[i]) = true from decide_eq_true h1, if_true]
        walk_at "sk stp"
        refine n_inI (ns := nc) (sq_own 1 rfl) ?_
        walk_at "sk stp"
        by_cases h2 : oc[i] - (xs.length : Int) + (nw.length : Int) ∈ nc
        · have h3 : tst oc[i] = true := decide_eq_true ⟨h1, h2⟩
          simp only [decide_eq_true h2, if_true]
          walk_at "sk stp"
          refine n_put [] rfl (by rw [sizeLine_eq]; omega) ⟨?_, rfl⟩ (by walk_at "sk sub")
          rw [if_pos h3]
        · have h3 : ¬ tst oc[i] = true := fun h => h2 (of_decide_eq_true h).2
          simp only [decide_eq_false h2, if_false, Bool.false_eq_true]
          refine n_noput [] rfl ⟨?_, rfl⟩ (by walk_at "sk sub")
          rw [if_neg h3, List.append_nil]
      · have h3 : ¬ tst oc[i] = true := fun h => h1 (of_decide_eq_true h).1
        simp only [show decide ((n2 : Int) ≤ oc[i]) = false from decide_eq_false h1, if_false, Bool.false_eq_true]
        refine n_noput [] rfl ⟨?_, rfl⟩ (by walk_at "sk sub")
        rw [if_neg h3, List.append_nil]
    · rintro acc L D ⟨rfl, rfl⟩
      rw [List.length_map, List.take_length]
      have hbm : ∀ z ∈ oc.filter tst, z ∈ oc ∧ (n2 : Int) ≤ z ∧ z - xs.length + nw.length ∈ nc := fun z hz => ⟨(List.mem_filter.mp hz).1, of_decide_eq_true (List.mem_filter.mp hz).2⟩
      generalize oc.filter tst = bo at hbm
      have smA := ((sm1.trans sm2).trans sm3).trans sm4
      walk_at "sk stp"
      cases bo with
      | nil =>
        simp only [decide_true, if_true]
        walk_at "sk stp"
        exact n_sub (by walk_at "sk sub") (kPost _ smA)
      | cons z zs =>
        obtain ⟨m1, m2, m3⟩ := hbm z List.mem_cons_self
        simp only [show decide (z :: zs = []) = false from rfl, if_false, Bool.false_eq_true]
        refine n_sub (L' := (D, .lst ((z :: zs).map V.int)) :: (qd, .lst (nc.map V.int)) :: (qc, .lst (oc.map V.int)) :: (qb, .lst ws) :: (qa, .lst vs) :: (p2, .lst (nw.map V.int)) :: G) (by walk_at "sk sub") ?_
        have x1 := m1
        rw [← hoc] at x1
        obtain ⟨y1, y2⟩ := at_idx x1
        rw [hoc] at y1 y2
        have x3 := m3
        rw [← hnc] at x3
        obtain ⟨y3, y4⟩ := at_idx x3
        rw [hnc] at y3 y4
        have e1 := blks_drop hb hc (k := oc.idxOf z) (by omega)
        have e2 := blks_drop hb2 hc2 (k := nc.idxOf (z - xs.length + nw.length)) (by omega)
        have e3 : nw.drop (preL cs2 (nc.idxOf (z - xs.length + nw.length))) = xs.drop (preL cs (oc.idxOf z)) := by
          rw [← hnw]
          refine drop_same (by omega) (by omega) ?_
          rw [hnw]
          omega
        rw [e3, e1] at e2
        walk_at "sk stp"
        refine n_ixLi (ns := z :: zs) (sq_own 0 rfl) (by decide) (by rw [List.length_cons]; omega) ?_
        rw [show (z :: zs).getD (0 : Int).toNat 0 = z from rfl]
        walk_at "sk stp"
        refine n_indexI (ns := oc) (sq_own 2 rfl) m1 ?_
        walk_at "sk stp"
        refine n_ixLi (ns := z :: zs) (sq_own 0 rfl) (by decide) (by rw [List.length_cons]; omega) ?_
        rw [show (z :: zs).getD (0 : Int).toNat 0 = z from rfl]
        walk_at "sk stp"
        refine n_indexI (ns := nc) (sq_own 1 rfl) m3 ?_
        walk_at "sk stp"
        rw [cutV_from, cutV_from]
        have hw4 := hw.drop (nc.idxOf (z - xs.length + nw.length))
        rw [← e2] at hw4
        refine n_eqSelf (d := dLis ((blks r [] xs).drop (oc.idxOf z))) (da_lis (sq_own 1 rfl) (Lis.sub hw4 (List.nil_sublist _))) (da_lis (sq_own 0 rfl) (Lis.sub (hv.drop (oc.idxOf z)) (List.nil_sublist _))) (cmp_lis _) (by decide) ?_
        walk_at "sk stp"
        exact n_sub (by walk_at "sk sub") (kPost _ smA)
theorem raw_w_change_good {P : Program} {w : World} {K : PySem.W.Frag} {mg : Str → Option Value} {base : Heap} {A : Ads} {f : Addr} {fd : FuncData} (F : Fun K "_law_change_good" "_law_change_good" s_w_change_good f fd) (T : Txt K mg A) (O_blocks_of : OkC P w K mg base CX0 3 "blocks_of" ["text", "rule"] (sp_blocks_of K A)) (O_cuts_of : OkC P w K mg base CX0 4 "cuts_of" ["text", "rule"] (sp_cuts_of K A)) : FnOk P w K mg base CX0 5 f fd ["_law_text_here", "_law_a", "_law_b", "_law_marks", "_law_rule_here"] (sp_w_change_good K A) := by
  refine F.ok sc_w_change_good (fun vs H Q E h => len_w_change_good vs H Q E h) (fun cdv Ar outer s H vs Q E hr h => ⟨t_w_change_good K A E, PSs.nox ?_, pure_w_change_good T.fct vs H Q E h⟩)
  have nd := sc_w_change_good.nd
  exact (pss_cons (ps_set (i := 5) nd rfl (Or.inr rfl) (pe_op op_uAdd (pe_op op_uAdd (pe_slice sl_list (pv 0) po_none (po_some (pv 1))) (pv 3)) (pe_slice sl_list (pv 0) (po_some (pv 2)) po_none)))
    (pss_cons (ps_set (i := 6) nd rfl (Or.inl rfl) (pe_cl (E := WE W0) O_blocks_of (hr.mono (by decide)) (by rfl) pass00 (pa_cons (pv 0) (pa_cons (pv 4) pa_nil))))
    (pss_cons (ps_set (i := 7) nd rfl (Or.inl rfl) (pe_cl (E := WE W0) O_blocks_of (hr.mono (by decide)) (by rfl) pass00 (pa_cons (pv 5) (pa_cons (pv 4) pa_nil))))
    (pss_cons (ps_set (i := 8) nd rfl (Or.inl rfl) (pe_cl (E := WE W0) O_cuts_of (hr.mono (by decide)) (by rfl) pass00 (pa_cons (pv 0) (pa_cons (pv 4) pa_nil))))
    (pss_cons (ps_set (i := 9) nd rfl (Or.inr rfl) (pe_cl (E := WE W0) O_cuts_of (hr.mono (by decide)) (by rfl) pass00 (pa_cons (pv 5) (pa_cons (pv 4) pa_nil))))
    (pss_cons (ps_set (i := 10) nd rfl (Or.inl rfl) (pe_ix ix_seq (pe_lc (own := [("_law_k", 15), ("_law_cut", 14)]) (by rfl) nd (pi_enum (by rfl) T.b_enumerate (pa_cons (pv 8) pa_nil)) (blkOk_by (N := N_w_change_good) (sc := defScope s_w_change_good) (own := [("_law_k", 15), ("_law_cut", 14)]) (by decide +kernel)) (fun _ _ _ _ _ => (pg_tup rfl (pgs_cons (pg_name (i := 15) nd rfl (Or.inl rfl)) (pgs_cons (pg_name (i := 14) nd rfl (Or.inl rfl)) pgs_nil)))) (fun _ _ _ _ _ => (pts_one (pt_cmpR op_uLe (pv 14) (pv 1) (nomark _)))) (fun _ _ _ _ _ => (pv 15))) (pe_un un_neg pe_int) (fun _ _ => rfl)))
    (pss_cons (ps_if (pt_cmpR (op_uNe hr.units) (pe_slice sl_list (pv 7) po_none (po_some (pv 10))) (pe_slice sl_list (pv 6) po_none (po_some (pv 10))) (nomark _)) (pss_cons (ps_ret pe_bl)
    pss_nil) pss_nil)
    (pss_cons (ps_setLc (i := 11) (own := [("_law_cut", 14)]) (by rfl) nd rfl rfl (sw_true rfl rfl rfl (by decide +kernel)) (pi_list (pv 8)) (blkOk_by (N := N_w_change_good) (sc := defScope s_w_change_good) (own := [("_law_cut", 14)]) (by decide +kernel)) (fun _ _ _ _ _ => (pg_name (i := 14) nd rfl (Or.inl rfl))) (fun _ _ _ _ _ => (pts_one (PW.pt (pw_and (pt_cmpR op_uGe (pv 14) (pv 2) (nomark _)) (pw_and1 (pt_cmpR op_in_seq (pe_op op_uAdd (pe_op op_uSub (pv 14) (pe_callB call_uLen (by rfl) T.b_len boot_len (pa_cons (pv 0) pa_nil))) (pe_callB call_uLen (by rfl) T.b_len boot_len (pa_cons (pv 5) pa_nil))) (pv 9) (by rfl))))))) (fun _ _ _ _ _ => (pv 14)))
    (pss_cons (ps_if (pt_cmpR (op_uEq hr.units) (pv 11) (pe_lst pa_nil) (nomark _)) (pss_cons (ps_ret pe_bl)
    pss_nil) pss_nil)
    (pss_cons (ps_set (i := 12) nd rfl (Or.inl rfl) (pe_bm PySem.F.plainAttrs_list PySem.F.slot_list_index PySem.F.type_list_index mt_index (pv 8) (pa_cons (pe_ix ix_seq (pv 11) pe_int (fun _ _ => rfl)) pa_nil)))
    (pss_cons (ps_set (i := 13) nd rfl (Or.inl rfl) (pe_bm PySem.F.plainAttrs_list PySem.F.slot_list_index PySem.F.type_list_index mt_index (pv 9) (pa_cons (pe_op op_uAdd (pe_op op_uSub (pe_ix ix_seq (pv 11) pe_int (fun _ _ => rfl)) (pe_callB call_uLen (by rfl) T.b_len boot_len (pa_cons (pv 0) pa_nil))) (pe_callB call_uLen (by rfl) T.b_len boot_len (pa_cons (pv 5) pa_nil))) pa_nil)))
    (pss_cons (ps_ret (pe_cmpR (op_uEq hr.units) (pe_slice sl_list (pv 7) (po_some (pv 13)) po_none) (pe_slice sl_list (pv 6) (po_some (pv 12)) po_none) (nomark _)))
    pss_nil))))))))))))
theorem use_w_change_good {K : PySem.W.Frag} {A : Ads} {B : Hp} {G : Own} {Q : VK} {E : XK} {a c f dx : Addr} {xs ms : List Int} {n1 n2 : Nat} {r : R4} (hs : Is B G a (.lst (xs.map V.int))) (hm : ∀ d ∈ xs, 0 ≤ d ∧ d ≤ 255) (hl : xs.length ≤ 1000) (hc0 : Is B G c (.lst (ms.map V.int))) (hm2 : ∀ d ∈ ms, 0 ≤ d ∧ d ≤ 255) (hl2 : ms.length ≤ 1000) (hn : n1 ≤ n2 ∧ n2 ≤ xs.length) (hf : Is B G f (ruleO A dx r)) (hr : r.ok) (zq : ∀ B', Same B B' → N B' G (Q (.bl true))) : N B G (fun H => sp_w_change_good K A [.ref a, .int n1, .int n2, .ref c, .ref f] H Q E) := fun zH zs => ⟨B, _, _, _, _, _, _, _, _, _, _, rfl, zs, hs, hm, hl, hc0, hm2, hl2, hn, hf, hr, zq⟩


abbrev s_law : Stmt := topS 26
abbrev N_law : List Str := ["_law_script", "_law_head", "_law_purse_here", "_law_text_here", "_law_four", "_law_rule_here", "_law_k", "_law_cell_here", "_law_other", "_law_a", "_law_b", "_law_more", "_law_first"]
theorem sc_law : FnScope N_law ["_law_script"] (defScope s_law) := ⟨rfl, rfl, rfl, by decide +kernel, rfl, by decide +kernel, by decide +kernel⟩






def sp_law (K : PySem.W.Frag) (A : Ads) : Sp := fun zvs zH Q E => ∃ (B : Hp) (G : Own) (a : Addr) (ns : List Int), zvs = [.ref a] ∧ SI B G zH ∧ (SqL K B a (ns.map V.int)) ∧ (ns.length ≤ 63) ∧ (∀ B', Same B B' → N B' G (Q (.bl true)))
theorem len_law {K : PySem.W.Frag} {A : Ads} : ∀ vs H Q E, sp_law K A vs H Q E → vs.length = 1 := by
  intro vs H Q E h
  obtain ⟨_, _, _, _, rfl, _⟩ := h
  rfl
def x_law_0 (K : PySem.W.Frag) (A : Ads) (E : XK) : TS :=
  (tSeq (tRet (tOp (uEq K) (tCl (sp_blocks_of K A) (WE W0) (tCons (tOp (uAdd K) (tVar 12) (tVar 11)) (tCons (tVar 5) tNil))) (tOp (uAdd K) (tCl (sp_blocks_of K A) (WE W0) (tCons (tVar 12) (tCons (tVar 5) tNil))) (tCl (sp_blocks_of K A) (WE W0) (tCons (tVar 11) (tCons (tVar 5) tNil))))))
    tNext)
instance {K : PySem.W.Frag} {A : Ads} {E : XK} : Unf (x_law_0 K A E) (
  (tSeq (tRet (tOp (uEq K) (tCl (sp_blocks_of K A) (WE W0) (tCons (tOp (uAdd K) (tVar 12) (tVar 11)) (tCons (tVar 5) tNil))) (tOp (uAdd K) (tCl (sp_blocks_of K A) (WE W0) (tCons (tVar 12) (tCons (tVar 5) tNil))) (tCl (sp_blocks_of K A) (WE W0) (tCons (tVar 11) (tCons (tVar 5) tNil))))))
    tNext)) := ⟨rfl⟩
def x_law_1 (K : PySem.W.Frag) (A : Ads) (E : XK) : TS :=
  (tSeq (tAsg (tSl (rSlL K) (tVar 3) tNoPart (tPart (tOp (rIx K) (tCl (sp_cuts_of K A) (WE W0) (tCons (tVar 3) (tCons (tVar 5) tNil))) (tUn (rU fun i => .int (-i)) (tC (.int (1))))))) (gName 12))
    (x_law_0 K A E))
instance {K : PySem.W.Frag} {A : Ads} {E : XK} : Unf (x_law_1 K A E) (
  (tSeq (tAsg (tSl (rSlL K) (tVar 3) tNoPart (tPart (tOp (rIx K) (tCl (sp_cuts_of K A) (WE W0) (tCons (tVar 3) (tCons (tVar 5) tNil))) (tUn (rU fun i => .int (-i)) (tC (.int (1))))))) (gName 12))
    (x_law_0 K A E))) := ⟨rfl⟩
def x_law_2 (K : PySem.W.Frag) (A : Ads) (E : XK) : TS :=
  (tSeq (tIfS (tNot (tB (tCl (sp_w_change_good K A) (WE W0) (tCons (tVar 3) (tCons (tVar 9) (tCons (tVar 10) (tCons (tCl (sp_w_text K A) (WE W0) (tCons (tVar 8) (tCons (tC (.int (20))) tNil))) (tCons (tVar 5) tNil))))))))
    (tSeq (tRet (tC (.bl false)))
    tNext)
    tNext)
    tNext)
instance {K : PySem.W.Frag} {A : Ads} {E : XK} : Unf (x_law_2 K A E) (
  (tSeq (tIfS (tNot (tB (tCl (sp_w_change_good K A) (WE W0) (tCons (tVar 3) (tCons (tVar 9) (tCons (tVar 10) (tCons (tCl (sp_w_text K A) (WE W0) (tCons (tVar 8) (tCons (tC (.int (20))) tNil))) (tCons (tVar 5) tNil))))))))
    (tSeq (tRet (tC (.bl false)))
    tNext)
    tNext)
    tNext)) := ⟨rfl⟩
def x_law_3 (K : PySem.W.Frag) (A : Ads) (E : XK) : TS :=
  (tSeq (tAsg (tOp (uAdd K) (tVar 9) (tCl (sp_w_take K A) (WE W0) (tCons (tVar 8) (tCons (tOp (uAdd K) (tCB uMin2 (tCons (tC (.int (20))) (tCons (tOp uSub (tCB (uLen K) (tCons (tVar 3) tNil)) (tVar 9)) tNil))) (tC (.int (1)))) tNil)))) (gName 10))
    (x_law_2 K A E))
instance {K : PySem.W.Frag} {A : Ads} {E : XK} : Unf (x_law_3 K A E) (
  (tSeq (tAsg (tOp (uAdd K) (tVar 9) (tCl (sp_w_take K A) (WE W0) (tCons (tVar 8) (tCons (tOp (uAdd K) (tCB uMin2 (tCons (tC (.int (20))) (tCons (tOp uSub (tCB (uLen K) (tCons (tVar 3) tNil)) (tVar 9)) tNil))) (tC (.int (1)))) tNil)))) (gName 10))
    (x_law_2 K A E))) := ⟨rfl⟩
def x_law_4 (K : PySem.W.Frag) (A : Ads) (E : XK) : TS :=
  (tSeq (tAsg (tCl (sp_w_take K A) (WE W0) (tCons (tVar 8) (tCons (tOp (uAdd K) (tCB (uLen K) (tCons (tVar 3) tNil)) (tC (.int (1)))) tNil))) (gName 9))
    (x_law_3 K A E))
instance {K : PySem.W.Frag} {A : Ads} {E : XK} : Unf (x_law_4 K A E) (
  (tSeq (tAsg (tCl (sp_w_take K A) (WE W0) (tCons (tVar 8) (tCons (tOp (uAdd K) (tCB (uLen K) (tCons (tVar 3) tNil)) (tC (.int (1)))) tNil))) (gName 9))
    (x_law_3 K A E))) := ⟨rfl⟩
def x_law_5 (K : PySem.W.Frag) (A : Ads) (E : XK) : TS :=
  (tSeq (tAsg (tCl (sp_w_text K A) (WE W0) (tCons (tCl (sp_w_purse K A) (WE W0) (tCons (tCl (sp_w_cell K A) (WE W0) (tCons (tVar 0) (tCons (tC (.int (3))) tNil))) (tCons (tC (.int (9))) tNil))) (tCons (tC (.int (40))) tNil))) (gName 11))
    (x_law_1 K A E))
instance {K : PySem.W.Frag} {A : Ads} {E : XK} : Unf (x_law_5 K A E) (
  (tSeq (tAsg (tCl (sp_w_text K A) (WE W0) (tCons (tCl (sp_w_purse K A) (WE W0) (tCons (tCl (sp_w_cell K A) (WE W0) (tCons (tVar 0) (tCons (tC (.int (3))) tNil))) (tCons (tC (.int (9))) tNil))) (tCons (tC (.int (40))) tNil))) (gName 11))
    (x_law_1 K A E))) := ⟨rfl⟩
def x_law_6 (K : PySem.W.Frag) (A : Ads) (E : XK) : TS :=
  (tSeq (tFor (iEnum K (tCons (tOp (uAdd K) (tLst (tCons (tCl (sp_w_cell K A) (WE W0) (tCons (tVar 0) (tCons (tC (.int (3))) tNil))) tNil)) (tSl (rSlL K) (tVar 0) (tPart (tC (.int (4)))) (tPart (tC (.int (9)))))) tNil)) (gTup K 2 (gCons (gName 6) (gCons (gName 7) gNil)))
    (tSeq (tAsg (tCl (sp_w_purse K A) (WE W0) (tCons (tVar 7) (tCons (tVar 6) tNil))) (gName 8))
    (x_law_4 K A E)))
    (x_law_5 K A E))
instance {K : PySem.W.Frag} {A : Ads} {E : XK} : Unf (x_law_6 K A E) (
  (tSeq (tFor (iEnum K (tCons (tOp (uAdd K) (tLst (tCons (tCl (sp_w_cell K A) (WE W0) (tCons (tVar 0) (tCons (tC (.int (3))) tNil))) tNil)) (tSl (rSlL K) (tVar 0) (tPart (tC (.int (4)))) (tPart (tC (.int (9)))))) tNil)) (gTup K 2 (gCons (gName 6) (gCons (gName 7) gNil)))
    (tSeq (tAsg (tCl (sp_w_purse K A) (WE W0) (tCons (tVar 7) (tCons (tVar 6) tNil))) (gName 8))
    (x_law_4 K A E)))
    (x_law_5 K A E))) := ⟨rfl⟩
def x_law_7 (K : PySem.W.Frag) (A : Ads) (E : XK) : TS :=
  (tSeq (tIfS (tNot (tB (tCl (sp_w_each_cut K A) (WE W0) (tCons (tVar 3) (tCons (tVar 5) tNil)))))
    (tSeq (tRet (tC (.bl false)))
    tNext)
    tNext)
    (x_law_6 K A E))
instance {K : PySem.W.Frag} {A : Ads} {E : XK} : Unf (x_law_7 K A E) (
  (tSeq (tIfS (tNot (tB (tCl (sp_w_each_cut K A) (WE W0) (tCons (tVar 3) (tCons (tVar 5) tNil)))))
    (tSeq (tRet (tC (.bl false)))
    tNext)
    tNext)
    (x_law_6 K A E))) := ⟨rfl⟩
def x_law_8 (K : PySem.W.Frag) (A : Ads) (E : XK) : TS :=
  (tSeq (tAsg (tMkk A.c_Rule (sp_Rule___init__ K A) (WE W0) (tCons (tOp (rIx K) (tVar 4) (tC (.int (0)))) (tCons (tOp (rIx K) (tVar 4) (tC (.int (1)))) (tCons (tOp (rIx K) (tVar 4) (tC (.int (2)))) (tCons (tOp (rIx K) (tVar 4) (tC (.int (3)))) tNil))))) (gName 5))
    (x_law_7 K A E))
instance {K : PySem.W.Frag} {A : Ads} {E : XK} : Unf (x_law_8 K A E) (
  (tSeq (tAsg (tMkk A.c_Rule (sp_Rule___init__ K A) (WE W0) (tCons (tOp (rIx K) (tVar 4) (tC (.int (0)))) (tCons (tOp (rIx K) (tVar 4) (tC (.int (1)))) (tCons (tOp (rIx K) (tVar 4) (tC (.int (2)))) (tCons (tOp (rIx K) (tVar 4) (tC (.int (3)))) tNil))))) (gName 5))
    (x_law_7 K A E))) := ⟨rfl⟩
def x_law_9 (K : PySem.W.Frag) (A : Ads) (E : XK) : TS :=
  (tSeq (tAsg (tCl (sp_w_rule K A) (WE W0) (tCons (tCl (sp_w_purse K A) (WE W0) (tCons (tCl (sp_w_cell K A) (WE W0) (tCons (tVar 0) (tCons (tC (.int (2))) tNil))) (tCons (tC (.int (5))) tNil))) tNil)) (gName 4))
    (x_law_8 K A E))
instance {K : PySem.W.Frag} {A : Ads} {E : XK} : Unf (x_law_9 K A E) (
  (tSeq (tAsg (tCl (sp_w_rule K A) (WE W0) (tCons (tCl (sp_w_purse K A) (WE W0) (tCons (tCl (sp_w_cell K A) (WE W0) (tCons (tVar 0) (tCons (tC (.int (2))) tNil))) (tCons (tC (.int (5))) tNil))) tNil)) (gName 4))
    (x_law_8 K A E))) := ⟨rfl⟩
def x_law_10 (K : PySem.W.Frag) (A : Ads) (E : XK) : TS :=
  (tSeq (tAsg (tCl (sp_w_text K A) (WE W0) (tCons (tVar 2) (tCons (tOp (rIx K) (tLst (tCons (tC (.int (40))) (tCons (tC (.int (120))) tNil))) (tOp uMod (tVar 1) (tC (.int (2))))) tNil))) (gName 3))
    (x_law_9 K A E))
instance {K : PySem.W.Frag} {A : Ads} {E : XK} : Unf (x_law_10 K A E) (
  (tSeq (tAsg (tCl (sp_w_text K A) (WE W0) (tCons (tVar 2) (tCons (tOp (rIx K) (tLst (tCons (tC (.int (40))) (tCons (tC (.int (120))) tNil))) (tOp uMod (tVar 1) (tC (.int (2))))) tNil))) (gName 3))
    (x_law_9 K A E))) := ⟨rfl⟩
def x_law_11 (K : PySem.W.Frag) (A : Ads) (E : XK) : TS :=
  (tSeq (tAsg (tCl (sp_w_purse K A) (WE W0) (tCons (tCl (sp_w_cell K A) (WE W0) (tCons (tVar 0) (tCons (tC (.int (1))) tNil))) (tCons (tC (.int (2))) tNil))) (gName 2))
    (x_law_10 K A E))
instance {K : PySem.W.Frag} {A : Ads} {E : XK} : Unf (x_law_11 K A E) (
  (tSeq (tAsg (tCl (sp_w_purse K A) (WE W0) (tCons (tCl (sp_w_cell K A) (WE W0) (tCons (tVar 0) (tCons (tC (.int (1))) tNil))) (tCons (tC (.int (2))) tNil))) (gName 2))
    (x_law_10 K A E))) := ⟨rfl⟩
def t_law (K : PySem.W.Frag) (A : Ads) (E : XK) : TS :=
  (tSeq (tAsg (tCl (sp_w_cell K A) (WE W0) (tCons (tVar 0) (tCons (tC (.int (0))) tNil))) (gName 1))
    (x_law_11 K A E))
theorem pure_law {K : PySem.W.Frag} {A : Ads} (T : Fct K A) (vs : List V) (H : Hp) (Q : VK) (E : XK) (h : sp_law K A vs H Q E) : t_law K A E (endE Q) (L2.start N_law vs) H := by
  obtain ⟨B, G, a, ns, rfl, zs, hs, hl, k⟩ := h
  refine (?_ : N B G (fun H => t_law K A E (endE Q) (L2.start N_law [.ref a]) H)) H zs
  clear zs
  unfold t_law

  have kPost := k
  walk_at "sk stp"
  refine use_w_purse (by decide) fun p1 o1 ho1 => ?_
  walk_at "sk stp"
  refine n_ixLi (ns := [40, 120]) (sq_own 0 rfl) (by omega) (by show _ < (2 : Int); omega) ?_
  have hmost := getD_mem (P := fun d => 0 ≤ d ∧ d ≤ 200) (l := [40, 120]) (i := ns.getD (Int.toNat 0) 0 % 2) (by decide) (by omega) (by show _ < (2 : Int); omega)
  generalize List.getD ([40, 120] : List Int) (ns.getD (Int.toNat 0) 0 % 2).toNat 0 = mo at hmost ⊢
  refine n_sub (L' := (p1, o1) :: G) (by walk_at "sk sub") ?_
  walk_at "sk stp"
  refine use_w_text 0 rfl ho1 (by omega) fun o2 pq ss ho2 hss hsl => ?_
  refine n_freeze 0 rfl fun B1 sm1 hpq => ?_
  have hs1 := sm1.seq hs
  walk_at "sk stp"
  refine use_w_purse (by decide) fun p3 o3 ho3 => ?_
  walk_at "sk stp"
  refine use_w_rule 0 rfl ho3 fun o4 f1 r1 ho4 hr1 => ?_
  refine n_freeze 0 rfl fun B2 sm2 hf1 => ?_
  walk_at "sk stp"
  rename_i rl1 dx1
  refine n_freeze 0 rfl fun B3 sm3 hrl => ?_
  have hpq := sm3 _ _ (sm2 _ _ hpq)
  have hs := sm3.seq (sm2.seq hs1)
  have sm := ((sm1.trans sm2).trans sm3)
  clear sm1 sm2 sm3 hs1 hf1
  refine n_sub (L' := G) (by walk_at "sk sub") ?_
  refine use_w_each_cut (xs := ss) (r := r1) (dx := dx1) (sq_old (SqL.of hpq)) hss (by omega) (is_old hrl) hr1 fun B4 sm4 => ?_
  have hpq := sm4 _ _ hpq
  have hrl := sm4 _ _ hrl
  have hs := sm4.seq hs
  have sm := sm.trans sm4
  walk_at "sk stp"
  have hcl : (cutI ns (some 4) (some 9)).length ≤ 63 := Nat.le_trans (cutI_len ..) hl
  refine n_catLi (ns := [_]) (ms := cutI ns (some 4) (some 9)) (is_own 1 rfl) (is_own 0 rfl) (by rw [sizeLine_eq]; show 1 + _ ≤ _; omega) fun pc => ?_
  have hcl2 : ([ns.getD (Int.toNat 3) 0] ++ cutI ns (some 4) (some 9)).length ≤ 64 := by rw [List.length_append]; show 1 + _ ≤ _; omega
  generalize [ns.getD (Int.toNat 3) 0] ++ cutI ns (some 4) (some 9) = cl at hcl2 ⊢
  refine n_sub (L' := (pc, .lst (cl.map V.int)) :: G) (by walk_at "sk sub") ?_
  generalize ns.getD (Int.toNat 0) 0 = hd at *
  walk_at "sk stp"
  refine n_lpEiB cl (fun i B' σ L => ∃ (y6 y7 y8 y9 y10 : Option V), σ = [some (.ref a), some (.int hd), some (.ref p1), some (.ref pq), some (.ref f1), some (.ref rl1), y6, y7, y8, y9, y10, none, none] ∧ L = (pc, .lst (cl.map V.int)) :: G) ?_ ⟨_, _, _, _, _, rfl, rfl⟩ ?_ ?_
  · rintro i B' σ L _ _ ⟨y6, y7, y8, y9, y10, rfl, rfl⟩
    walk_at "sk sq"
  · rintro i B' σ L hi sm2 ⟨y6, y7, y8, y9, y10, rfl, rfl⟩
    have hpq := sm2 _ _ hpq
    have hrl := sm2 _ _ hrl
    generalize cl[i] = cc
    walk_at "sk stp"
    refine use_w_purse (by omega) fun p5 o5 ho5 => ?_
    walk_at "sk stp"
    refine use_w_take 0 rfl ho5 (by omega) fun o6 d1 ho6 d10 d11 => ?_
    obtain ⟨n1, rfl⟩ := Int.eq_ofNat_of_zero_le d10
    walk_at "sk stp"
    refine use_w_take 0 rfl ho6 (by omega) fun o7 d2 ho7 d20 d21 => ?_
    obtain ⟨n2, rfl⟩ := Int.eq_ofNat_of_zero_le d20
    walk_at "sk stp"
    refine use_w_text 0 rfl ho7 (by omega) fun o8 pm ms ho8 hms hml => ?_
    refine n_freeze 0 rfl fun B5 sm5 hpm => ?_
    walk_at "sk stp"
    refine n_sub (L' := (p5, o8) :: (pc, .lst (cl.map V.int)) :: G) (by walk_at "sk sub") ?_
    rw [← Int.natCast_add]
    refine use_w_change_good (xs := ss) (ms := ms) (r := r1) (dx := dx1) (is_old (sm5 _ _ hpq)) hss (by omega) (is_old hpm) hms (by omega) ⟨by omega, by omega⟩ (is_old (sm5 _ _ hrl)) hr1 fun B6 sm6 => ?_
    walk_at "sk stp"
    exact n_kg (sm5.trans sm6) ⟨_, _, _, _, _, rfl, rfl⟩ (by walk_at "sk sub")
  · rintro B' σ L sm2 ⟨y6, y7, y8, y9, y10, rfl, rfl⟩
    have hpq := sm2 _ _ hpq
    have hrl := sm2 _ _ hrl
    have hs := sm2.seq hs
    have sm := sm.trans sm2
    refine n_sub (L' := G) (by walk_at "sk sub") ?_
    walk_at "sk stp"
    refine use_w_purse (by decide) fun p6 o6 ho6 => ?_
    walk_at "sk stp"
    refine use_w_text 0 rfl ho6 (by decide) fun o7 pm ms ho7 hms hml => ?_
    refine n_freeze 0 rfl fun B5 sm5 hpm => ?_
    have hpq := sm5 _ _ hpq
    have hrl := sm5 _ _ hrl
    have sm := sm.trans sm5
    walk_at "sk stp"
    refine n_sub (L' := G) (by walk_at "sk sub") ?_
    refine use_cuts_of (xs := ss) (r := r1) (dx := dx1) (sq_old (SqL.of hpq)) hss (by omega) (is_old hrl) hr1 fun B6 qc sm6 => ?_
    have hpq := sm6 _ _ hpq
    have hrl := sm6 _ _ hrl
    have hpm := sm6 _ _ hpm
    have sm := sm.trans sm6
    obtain ⟨cs, tl, hb, hc, ht⟩ := blks_split hr1 ss
    rw [cutsL_eq hb hc ht, List.range_succ, List.map_append]
    walk_at "sk stp"
    rw [cutI_to]
    rename_i pf
    generalize hfs : ss.take (preL cs cs.length) = fs
    have hfl : fs.length ≤ ss.length := by rw [← hfs, List.length_take]; omega
    have hfm : ∀ d ∈ fs, 0 ≤ d ∧ d ≤ 255 := fun d hd => hss d (List.mem_of_mem_take (hfs ▸ hd))
    have e1 : blks r1 [] (fs ++ ms) = blks r1 [] fs ++ blks r1 [] ms := by
      have x1 := blks_early hb hc (Nat.le_refl _) ms
      have x2 := blks_early hb hc (Nat.le_refl _) []
      rw [List.append_nil, show blks r1 [] [] = [] from rfl, List.append_nil] at x2
      rw [hfs] at x1 x2
      rw [x1, x2]
    refine n_sub (L' := (pf, .lst (fs.map V.int)) :: G) (by walk_at "sk sub") ?_
    refine n_catLi (ns := fs) (ms := ms) (is_own 0 rfl) (is_old hpm) (by rw [sizeLine_eq]; omega) fun pt => ?_
    walk_at "sk stp"
    have hbt := blks_len hr1 (fs ++ ms)
    rw [e1, List.length_append, List.length_append] at hbt
    refine use_blocks_ofF (xs := fs ++ ms) (r := r1) (dx := dx1) (sq_own 0 rfl) (fun d hd => (List.mem_append.mp hd).elim (hfm d) (hms d)) (by rw [List.length_append]; omega) (is_old hrl) hr1 fun B7 qa us sm7 hu => ?_
    have hpm := sm7 _ _ hpm
    have hrl := sm7 _ _ hrl
    have sm := sm.trans sm7
    walk_at "sk stp"
    refine use_blocks_ofF (xs := fs) (r := r1) (dx := dx1) (sq_own 2 rfl) hfm (by omega) (is_old hrl) hr1 fun B8 qb vs sm8 hv => ?_
    have hpm := sm8 _ _ hpm
    have hrl := sm8 _ _ hrl
    have sm := sm.trans sm8
    have hu := hu.mono sm8
    walk_at "sk stp"
    refine use_blocks_ofF (xs := ms) (r := r1) (dx := dx1) (sq_old (SqL.of hpm)) hms (by omega) (is_old hrl) hr1 fun B9 qd ws sm9 hw => ?_
    have sm := sm.trans sm9
    have hu := hu.mono sm9
    have hv := hv.mono sm9
    have lv := hv.len
    have lw := hw.len
    walk_at "sk stp"
    have hvw := hv.app hw
    rw [← e1] at hvw
    refine n_eqSelf (d := dLis (blks r1 [] (fs ++ ms))) (da_lis (by walk_at "sk sq") (Lis.sub hu (List.nil_sublist _))) (da_lis (sq_own 0 rfl) (Lis.sub hvw (List.nil_sublist _))) (cmp_lis _) (by decide) ?_
    exact n_sub (by walk_at "sk sub") (kPost _ sm)
theorem raw_law {P : Program} {w : World} {K : PySem.W.Frag} {mg : Str → Option Value} {base : Heap} {A : Ads} {f : Addr} {fd : FuncData} (F : Fun K "law" "law" s_law f fd) (T : Txt K mg A) (O_blocks_of : OkC P w K mg base CX0 3 "blocks_of" ["text", "rule"] (sp_blocks_of K A)) (O_cuts_of : OkC P w K mg base CX0 4 "cuts_of" ["text", "rule"] (sp_cuts_of K A)) (O_Rule___init__ : OkI P w K mg base (CXN P w) 2 "Rule" A.c_Rule ["self", "part", "least", "most", "kids"] (sp_Rule___init__ K A)) (O_w_cell : OkC P w K mg base CX0 1 "_law_cell" ["_law_script", "_law_k"] (sp_w_cell K A)) (O_w_purse : OkC P w K mg base CX0 1 "_law_purse" ["_law_cell_here", "_law_way"] (sp_w_purse K A)) (O_w_take : OkC P w K mg base CX0 1 "_law_take" ["_law_purse_here", "_law_many"] (sp_w_take K A)) (O_w_rule : OkC P w K mg base CX0 2 "_law_rule" ["_law_purse_here"] (sp_w_rule K A)) (O_w_text : OkC P w K mg base CX0 2 "_law_text" ["_law_purse_here", "_law_most"] (sp_w_text K A)) (O_w_each_cut : OkC P w K mg base CX0 5 "_law_each_cut" ["_law_text_here", "_law_rule_here"] (sp_w_each_cut K A)) (O_w_change_good : OkC P w K mg base CX0 5 "_law_change_good" ["_law_text_here", "_law_a", "_law_b", "_law_marks", "_law_rule_here"] (sp_w_change_good K A)) : FnOk P w K mg base CX0 6 f fd ["_law_script"] (sp_law K A) := by
  refine F.ok sc_law (fun vs H Q E h => len_law vs H Q E h) (fun cdv Ar outer s H vs Q E hr h => ⟨t_law K A E, PSs.nox ?_, pure_law T.fct vs H Q E h⟩)
  have nd := sc_law.nd
  exact (pss_cons (ps_set (i := 1) nd rfl (Or.inl rfl) (pe_cl (E := WE W0) O_w_cell (hr.mono (by decide)) (by rfl) pass00 (pa_cons (pv 0) (pa_cons pe_int pa_nil))))
    (pss_cons (ps_set (i := 2) nd rfl (Or.inl rfl) (pe_cl (E := WE W0) O_w_purse (hr.mono (by decide)) (by rfl) pass00 (pa_cons (pe_cl (E := WE W0) O_w_cell (hr.mono (by decide)) (by rfl) pass00 (pa_cons (pv 0) (pa_cons pe_int pa_nil))) (pa_cons pe_int pa_nil))))
    (pss_cons (ps_set (i := 3) nd rfl (Or.inl rfl) (pe_cl (E := WE W0) O_w_text (hr.mono (by decide)) (by rfl) pass00 (pa_cons (pv 2) (pa_cons (pe_ix ix_seq (pe_lst (pa_cons pe_int (pa_cons pe_int pa_nil))) (pe_op op_uMod (pv 1) pe_int) (fun _ _ => rfl)) pa_nil))))
    (pss_cons (ps_set (i := 4) nd rfl (Or.inl rfl) (pe_cl (E := WE W0) O_w_rule (hr.mono (by decide)) (by rfl) pass00 (pa_cons (pe_cl (E := WE W0) O_w_purse (hr.mono (by decide)) (by rfl) pass00 (pa_cons (pe_cl (E := WE W0) O_w_cell (hr.mono (by decide)) (by rfl) pass00 (pa_cons (pv 0) (pa_cons pe_int pa_nil))) (pa_cons pe_int pa_nil))) pa_nil)))
    (pss_cons (ps_set (i := 5) nd rfl (Or.inl rfl) (pe_mkk (E := WE W0) O_Rule___init__ (hr.mono (by decide)) (by rfl) (passN tk0) (pa_cons (pe_ix ix_seq (pv 4) pe_int (fun _ _ => rfl)) (pa_cons (pe_ix ix_seq (pv 4) pe_int (fun _ _ => rfl)) (pa_cons (pe_ix ix_seq (pv 4) pe_int (fun _ _ => rfl)) (pa_cons (pe_ix ix_seq (pv 4) pe_int (fun _ _ => rfl)) pa_nil))))))
    (pss_cons (ps_if (pt_not (pt_val (pe_cl (E := WE W0) O_w_each_cut (hr.mono (by decide)) (by rfl) pass00 (pa_cons (pv 3) (pa_cons (pv 5) pa_nil))))) (pss_cons (ps_ret pe_bl)
    pss_nil) pss_nil)
    (pss_cons (ps_for PassesOwn.never rfl (pi_enum (by rfl) T.b_enumerate (pa_cons (pe_op op_uAdd (pe_lst (pa_cons (pe_cl (E := WE W0) O_w_cell (hr.mono (by decide)) (by rfl) pass00 (pa_cons (pv 0) (pa_cons pe_int pa_nil))) pa_nil)) (pe_slice sl_list (pv 0) (po_some pe_int) (po_some pe_int))) pa_nil)) (pg_tup rfl (pgs_cons (pg_name (i := 6) nd rfl (Or.inl rfl)) (pgs_cons (pg_name (i := 7) nd rfl (Or.inl rfl)) pgs_nil)))
    (pss_cons (ps_set (i := 8) nd rfl (Or.inl rfl) (pe_cl (E := WE W0) O_w_purse (hr.mono (by decide)) (by rfl) pass00 (pa_cons (pv 7) (pa_cons (pv 6) pa_nil))))
    (pss_cons (ps_set (i := 9) nd rfl (Or.inl rfl) (pe_cl (E := WE W0) O_w_take (hr.mono (by decide)) (by rfl) pass00 (pa_cons (pv 8) (pa_cons (pe_op op_uAdd (pe_callB call_uLen (by rfl) T.b_len boot_len (pa_cons (pv 3) pa_nil)) pe_int) pa_nil))))
    (pss_cons (ps_set (i := 10) nd rfl (Or.inl rfl) (pe_op op_uAdd (pv 9) (pe_cl (E := WE W0) O_w_take (hr.mono (by decide)) (by rfl) pass00 (pa_cons (pv 8) (pa_cons (pe_op op_uAdd (pe_callB (call_min2 rfl) (by rfl) T.b_min boot_min (pa_cons pe_int (pa_cons (pe_op op_uSub (pe_callB call_uLen (by rfl) T.b_len boot_len (pa_cons (pv 3) pa_nil)) (pv 9)) pa_nil))) pe_int) pa_nil)))))
    (pss_cons (ps_if (pt_not (pt_val (pe_cl (E := WE W0) O_w_change_good (hr.mono (by decide)) (by rfl) pass00 (pa_cons (pv 3) (pa_cons (pv 9) (pa_cons (pv 10) (pa_cons (pe_cl (E := WE W0) O_w_text (hr.mono (by decide)) (by rfl) pass00 (pa_cons (pv 8) (pa_cons pe_int pa_nil))) (pa_cons (pv 5) pa_nil)))))))) (pss_cons (ps_ret pe_bl)
    pss_nil) pss_nil)
    pss_nil)))))
    (pss_cons (ps_set (i := 11) nd rfl (Or.inl rfl) (pe_cl (E := WE W0) O_w_text (hr.mono (by decide)) (by rfl) pass00 (pa_cons (pe_cl (E := WE W0) O_w_purse (hr.mono (by decide)) (by rfl) pass00 (pa_cons (pe_cl (E := WE W0) O_w_cell (hr.mono (by decide)) (by rfl) pass00 (pa_cons (pv 0) (pa_cons pe_int pa_nil))) (pa_cons pe_int pa_nil))) (pa_cons pe_int pa_nil))))
    (pss_cons (ps_set (i := 12) nd rfl (Or.inl rfl) (pe_slice sl_list (pv 3) po_none (po_some (pe_ix ix_seq (pe_cl (E := WE W0) O_cuts_of (hr.mono (by decide)) (by rfl) pass00 (pa_cons (pv 3) (pa_cons (pv 5) pa_nil))) (pe_un un_neg pe_int) (fun _ _ => rfl)))))
    (pss_cons (ps_ret (pe_cmpR (op_uEq hr.units) (pe_cl (E := WE W0) O_blocks_of (hr.mono (by decide)) (by rfl) pass00 (pa_cons (pe_op op_uAdd (pv 12) (pv 11)) (pa_cons (pv 5) pa_nil))) (pe_op op_uAdd (pe_cl (E := WE W0) O_blocks_of (hr.mono (by decide)) (by rfl) pass00 (pa_cons (pv 12) (pa_cons (pv 5) pa_nil))) (pe_cl (E := WE W0) O_blocks_of (hr.mono (by decide)) (by rfl) pass00 (pa_cons (pv 11) (pa_cons (pv 5) pa_nil)))) (nomark _)))
    pss_nil))))))))))
theorem use_law {K : PySem.W.Frag} {A : Ads} {B : Hp} {G : Own} {Q : VK} {E : XK} {a : Addr} {ns : List Int} (hs : SqL K B a (ns.map V.int)) (hl : ns.length ≤ 63) (zq : ∀ B', Same B B' → N B' G (Q (.bl true))) : N B G (fun H => sp_law K A [.ref a] H Q E) := fun zH zs => ⟨B, _, _, _, rfl, zs, hs, hl, zq⟩

def spW (K : PySem.W.Frag) : Sp := fun vs H Q _ => ∃ (a : Addr) (ns : List Int), vs = [.ref a] ∧ SqL K H a (ns.map V.int) ∧ ns.length ≤ 63 ∧ ∀ H', SI H [] H' → Q (.bl true) H'
theorem spW_to {K : PySem.W.Frag} (A : Ads) {vs : List V} {H : Hp} {Q : VK} {E : XK} (h : spW K vs H Q E) : sp_law K A vs H Q E := by
  obtain ⟨a, ns, rfl, hs, hl, q⟩ := h
  exact ⟨H, [], a, ns, rfl, SI.refl H, hs, hl, fun B' sm H' s => q H' (s.mono sm)⟩
theorem all_mk {l : PySem.W.OpenLaw} {w : World} {K : PySem.W.Frag} {h : Heap} {mg : Str → Option Value} {fa : Addr} (X : K.In h) (G : h.Ns mainGlobals mg) (hfa : mg "law" = some (.ref fa))
    {c_Rule : Addr} {c_NoRule : Addr} {a_FACTORS : Addr} {f_w_cell : Addr} {od_w_cell an_w_cell : Option Addr} {sl_w_cell : Array (Option Value)} {oc_w_cell kV_w_cell dc_w_cell pm_w_cell cd_w_cell ct_w_cell : Value} {f_w_purse : Addr} {od_w_purse an_w_purse : Option Addr} {sl_w_purse : Array (Option Value)} {oc_w_purse kV_w_purse dc_w_purse pm_w_purse cd_w_purse ct_w_purse : Value} {f_w_take : Addr} {od_w_take an_w_take : Option Addr} {sl_w_take : Array (Option Value)} {oc_w_take kV_w_take dc_w_take pm_w_take cd_w_take ct_w_take : Value} {f_is_whole : Addr} {od_is_whole an_is_whole : Option Addr} {sl_is_whole : Array (Option Value)} {oc_is_whole kV_is_whole dc_is_whole pm_is_whole cd_is_whole ct_is_whole : Value} {f_Rule___init__ : Addr} {od_Rule___init__ an_Rule___init__ : Option Addr} {sl_Rule___init__ : Array (Option Value)} {oc_Rule___init__ kV_Rule___init__ dc_Rule___init__ pm_Rule___init__ cd_Rule___init__ ct_Rule___init__ : Value} {f_w_rule : Addr} {od_w_rule an_w_rule : Option Addr} {sl_w_rule : Array (Option Value)} {oc_w_rule kV_w_rule dc_w_rule pm_w_rule cd_w_rule ct_w_rule : Value} {f_w_text : Addr} {od_w_text an_w_text : Option Addr} {sl_w_text : Array (Option Value)} {oc_w_text kV_w_text dc_w_text pm_w_text cd_w_text ct_w_text : Value} {f_sign_of : Addr} {od_sign_of an_sign_of : Option Addr} {sl_sign_of : Array (Option Value)} {oc_sign_of kV_sign_of dc_sign_of pm_sign_of cd_sign_of ct_sign_of : Value} {f_is_closed : Addr} {od_is_closed an_is_closed : Option Addr} {sl_is_closed : Array (Option Value)} {oc_is_closed kV_is_closed dc_is_closed pm_is_closed cd_is_closed ct_is_closed : Value} {f_blocks_of : Addr} {od_blocks_of an_blocks_of : Option Addr} {sl_blocks_of : Array (Option Value)} {oc_blocks_of kV_blocks_of dc_blocks_of pm_blocks_of cd_blocks_of ct_blocks_of : Value} {f_cuts_of : Addr} {od_cuts_of an_cuts_of : Option Addr} {sl_cuts_of : Array (Option Value)} {oc_cuts_of kV_cuts_of dc_cuts_of pm_cuts_of cd_cuts_of ct_cuts_of : Value} {f_w_each_cut : Addr} {od_w_each_cut an_w_each_cut : Option Addr} {sl_w_each_cut : Array (Option Value)} {oc_w_each_cut kV_w_each_cut dc_w_each_cut pm_w_each_cut cd_w_each_cut ct_w_each_cut : Value} {f_w_change_good : Addr} {od_w_change_good an_w_change_good : Option Addr} {sl_w_change_good : Array (Option Value)} {oc_w_change_good kV_w_change_good dc_w_change_good pm_w_change_good cd_w_change_good ct_w_change_good : Value} {f_law : Addr} {od_law an_law : Option Addr} {sl_law : Array (Option Value)} {oc_law kV_law dc_law pm_law cd_law ct_law : Value} {sl_FACTORS : Array (Option Value)} {nn_FACTORS : Nat} {t0_FACTORS : Tok} {t1_FACTORS : Tok} {t2_FACTORS : Tok} {t_FEWEST_KIDS : Tok} {t_FEWEST_MARKS : Tok} {t_MOST_KIDS : Tok} {t_MOST_MARKS : Tok} {t_MOST_PART : Tok}
    (a_c_Rule : PySem.W.nsIn K mainGlobals "Rule" = some (some (.ref c_Rule)))
    (kc_Rule : PySem.W.keepIn K (.ref c_Rule) = true)
    (pg_Rule : PySem.W.plainGet K c_Rule Str.empty = true)
    (hd_Rule : PySem.W.hasDictIn K c_Rule = true)
    (po_Rule : PySem.W.plainOver K c_Rule = true)
    (sa_Rule : PySem.W.findIn K (.ref c_Rule) "__setattr__" = some (some (.builtin "object.__setattr__")))
    (mk_Rule : PySem.W.makesIn K c_Rule = true)
    (n_Rule_kids_most : PySem.W.findIn K (.ref c_Rule) "kids_most" = some none)
    (n_Rule_least : PySem.W.findIn K (.ref c_Rule) "least" = some none)
    (n_Rule_most : PySem.W.findIn K (.ref c_Rule) "most" = some none)
    (n_Rule_share : PySem.W.findIn K (.ref c_Rule) "share" = some none)
    (a_c_NoRule : PySem.W.nsIn K mainGlobals "NoRule" = some (some (.ref c_NoRule)))
    (kc_NoRule : PySem.W.keepIn K (.ref c_NoRule) = true)
    (x_NoRule : PySem.W.excIn K c_NoRule [.type "ValueError", .type "Exception", .type "BaseException", .type "object"] "ValueError.__new__" = true)
    (s_NoRule : PySem.W.subIn K (.ref c_NoRule) (.type "BaseException") = some true)
    (t_NoRule : PySem.W.typeIn K (.ref c_NoRule) = some (.type "type"))
    (a_w_cell : PySem.W.nsIn K mainGlobals "_law_cell" = some (some (.ref f_w_cell)))
    (l_w_cell : K.lookup f_w_cell = some ⟨oc_w_cell, od_w_cell, .func (PySem.W.fnOf "_law_cell" "_law_cell" (defArgs s_w_cell) (defBody s_w_cell) (defScope s_w_cell) .none kV_w_cell dc_w_cell pm_w_cell an_w_cell cd_w_cell ct_w_cell), sl_w_cell⟩)
    (c_w_cell : PySem.W.codeIn K cd_w_cell "_law_cell" = true)
    (k_w_cell : PySem.W.keepIn K (.ref f_w_cell) = true)
    (a_w_purse : PySem.W.nsIn K mainGlobals "_law_purse" = some (some (.ref f_w_purse)))
    (l_w_purse : K.lookup f_w_purse = some ⟨oc_w_purse, od_w_purse, .func (PySem.W.fnOf "_law_purse" "_law_purse" (defArgs s_w_purse) (defBody s_w_purse) (defScope s_w_purse) .none kV_w_purse dc_w_purse pm_w_purse an_w_purse cd_w_purse ct_w_purse), sl_w_purse⟩)
    (c_w_purse : PySem.W.codeIn K cd_w_purse "_law_purse" = true)
    (k_w_purse : PySem.W.keepIn K (.ref f_w_purse) = true)
    (a_w_take : PySem.W.nsIn K mainGlobals "_law_take" = some (some (.ref f_w_take)))
    (l_w_take : K.lookup f_w_take = some ⟨oc_w_take, od_w_take, .func (PySem.W.fnOf "_law_take" "_law_take" (defArgs s_w_take) (defBody s_w_take) (defScope s_w_take) .none kV_w_take dc_w_take pm_w_take an_w_take cd_w_take ct_w_take), sl_w_take⟩)
    (c_w_take : PySem.W.codeIn K cd_w_take "_law_take" = true)
    (k_w_take : PySem.W.keepIn K (.ref f_w_take) = true)
    (a_is_whole : PySem.W.nsIn K mainGlobals "is_whole" = some (some (.ref f_is_whole)))
    (l_is_whole : K.lookup f_is_whole = some ⟨oc_is_whole, od_is_whole, .func (PySem.W.fnOf "is_whole" "is_whole" (defArgs s_is_whole) (defBody s_is_whole) (defScope s_is_whole) .none kV_is_whole dc_is_whole pm_is_whole an_is_whole cd_is_whole ct_is_whole), sl_is_whole⟩)
    (c_is_whole : PySem.W.codeIn K cd_is_whole "is_whole" = true)
    (k_is_whole : PySem.W.keepIn K (.ref f_is_whole) = true)
    (a_Rule___init__ : PySem.W.findIn K (.ref c_Rule) "__init__" = some (some (.ref f_Rule___init__)))
    (i_Rule___init__ : PySem.W.isFn K (.ref f_Rule___init__) = true)
    (l_Rule___init__ : K.lookup f_Rule___init__ = some ⟨oc_Rule___init__, od_Rule___init__, .func (PySem.W.fnOf "__init__" "Rule.__init__" (defArgs s_Rule___init__) (defBody s_Rule___init__) (defScope s_Rule___init__) .none kV_Rule___init__ dc_Rule___init__ pm_Rule___init__ an_Rule___init__ cd_Rule___init__ ct_Rule___init__), sl_Rule___init__⟩)
    (c_Rule___init__ : PySem.W.codeIn K cd_Rule___init__ "Rule.__init__" = true)
    (k_Rule___init__ : PySem.W.keepIn K (.ref f_Rule___init__) = true)
    (a_w_rule : PySem.W.nsIn K mainGlobals "_law_rule" = some (some (.ref f_w_rule)))
    (l_w_rule : K.lookup f_w_rule = some ⟨oc_w_rule, od_w_rule, .func (PySem.W.fnOf "_law_rule" "_law_rule" (defArgs s_w_rule) (defBody s_w_rule) (defScope s_w_rule) .none kV_w_rule dc_w_rule pm_w_rule an_w_rule cd_w_rule ct_w_rule), sl_w_rule⟩)
    (c_w_rule : PySem.W.codeIn K cd_w_rule "_law_rule" = true)
    (k_w_rule : PySem.W.keepIn K (.ref f_w_rule) = true)
    (a_w_text : PySem.W.nsIn K mainGlobals "_law_text" = some (some (.ref f_w_text)))
    (l_w_text : K.lookup f_w_text = some ⟨oc_w_text, od_w_text, .func (PySem.W.fnOf "_law_text" "_law_text" (defArgs s_w_text) (defBody s_w_text) (defScope s_w_text) .none kV_w_text dc_w_text pm_w_text an_w_text cd_w_text ct_w_text), sl_w_text⟩)
    (c_w_text : PySem.W.codeIn K cd_w_text "_law_text" = true)
    (k_w_text : PySem.W.keepIn K (.ref f_w_text) = true)
    (a_sign_of : PySem.W.nsIn K mainGlobals "sign_of" = some (some (.ref f_sign_of)))
    (l_sign_of : K.lookup f_sign_of = some ⟨oc_sign_of, od_sign_of, .func (PySem.W.fnOf "sign_of" "sign_of" (defArgs s_sign_of) (defBody s_sign_of) (defScope s_sign_of) .none kV_sign_of dc_sign_of pm_sign_of an_sign_of cd_sign_of ct_sign_of), sl_sign_of⟩)
    (c_sign_of : PySem.W.codeIn K cd_sign_of "sign_of" = true)
    (k_sign_of : PySem.W.keepIn K (.ref f_sign_of) = true)
    (a_is_closed : PySem.W.nsIn K mainGlobals "is_closed" = some (some (.ref f_is_closed)))
    (l_is_closed : K.lookup f_is_closed = some ⟨oc_is_closed, od_is_closed, .func (PySem.W.fnOf "is_closed" "is_closed" (defArgs s_is_closed) (defBody s_is_closed) (defScope s_is_closed) .none kV_is_closed dc_is_closed pm_is_closed an_is_closed cd_is_closed ct_is_closed), sl_is_closed⟩)
    (c_is_closed : PySem.W.codeIn K cd_is_closed "is_closed" = true)
    (k_is_closed : PySem.W.keepIn K (.ref f_is_closed) = true)
    (a_blocks_of : PySem.W.nsIn K mainGlobals "blocks_of" = some (some (.ref f_blocks_of)))
    (l_blocks_of : K.lookup f_blocks_of = some ⟨oc_blocks_of, od_blocks_of, .func (PySem.W.fnOf "blocks_of" "blocks_of" (defArgs s_blocks_of) (defBody s_blocks_of) (defScope s_blocks_of) .none kV_blocks_of dc_blocks_of pm_blocks_of an_blocks_of cd_blocks_of ct_blocks_of), sl_blocks_of⟩)
    (c_blocks_of : PySem.W.codeIn K cd_blocks_of "blocks_of" = true)
    (k_blocks_of : PySem.W.keepIn K (.ref f_blocks_of) = true)
    (a_cuts_of : PySem.W.nsIn K mainGlobals "cuts_of" = some (some (.ref f_cuts_of)))
    (l_cuts_of : K.lookup f_cuts_of = some ⟨oc_cuts_of, od_cuts_of, .func (PySem.W.fnOf "cuts_of" "cuts_of" (defArgs s_cuts_of) (defBody s_cuts_of) (defScope s_cuts_of) .none kV_cuts_of dc_cuts_of pm_cuts_of an_cuts_of cd_cuts_of ct_cuts_of), sl_cuts_of⟩)
    (c_cuts_of : PySem.W.codeIn K cd_cuts_of "cuts_of" = true)
    (k_cuts_of : PySem.W.keepIn K (.ref f_cuts_of) = true)
    (a_w_each_cut : PySem.W.nsIn K mainGlobals "_law_each_cut" = some (some (.ref f_w_each_cut)))
    (l_w_each_cut : K.lookup f_w_each_cut = some ⟨oc_w_each_cut, od_w_each_cut, .func (PySem.W.fnOf "_law_each_cut" "_law_each_cut" (defArgs s_w_each_cut) (defBody s_w_each_cut) (defScope s_w_each_cut) .none kV_w_each_cut dc_w_each_cut pm_w_each_cut an_w_each_cut cd_w_each_cut ct_w_each_cut), sl_w_each_cut⟩)
    (c_w_each_cut : PySem.W.codeIn K cd_w_each_cut "_law_each_cut" = true)
    (k_w_each_cut : PySem.W.keepIn K (.ref f_w_each_cut) = true)
    (a_w_change_good : PySem.W.nsIn K mainGlobals "_law_change_good" = some (some (.ref f_w_change_good)))
    (l_w_change_good : K.lookup f_w_change_good = some ⟨oc_w_change_good, od_w_change_good, .func (PySem.W.fnOf "_law_change_good" "_law_change_good" (defArgs s_w_change_good) (defBody s_w_change_good) (defScope s_w_change_good) .none kV_w_change_good dc_w_change_good pm_w_change_good an_w_change_good cd_w_change_good ct_w_change_good), sl_w_change_good⟩)
    (c_w_change_good : PySem.W.codeIn K cd_w_change_good "_law_change_good" = true)
    (k_w_change_good : PySem.W.keepIn K (.ref f_w_change_good) = true)
    (a_law : PySem.W.nsIn K mainGlobals "law" = some (some (.ref f_law)))
    (l_law : K.lookup f_law = some ⟨oc_law, od_law, .func (PySem.W.fnOf "law" "law" (defArgs s_law) (defBody s_law) (defScope s_law) .none kV_law dc_law pm_law an_law cd_law ct_law), sl_law⟩)
    (c_law : PySem.W.codeIn K cd_law "law" = true)
    (k_law : PySem.W.keepIn K (.ref f_law) = true)
    (z_bool : PySem.W.nsIn K mainGlobals "bool" = some none)
    (z_enumerate : PySem.W.nsIn K mainGlobals "enumerate" = some none)
    (z_int : PySem.W.nsIn K mainGlobals "int" = some none)
    (z_isinstance : PySem.W.nsIn K mainGlobals "isinstance" = some none)
    (z_len : PySem.W.nsIn K mainGlobals "len" = some none)
    (z_min : PySem.W.nsIn K mainGlobals "min" = some none)
    (z_range : PySem.W.nsIn K mainGlobals "range" = some none)
    (z_reversed : PySem.W.nsIn K mainGlobals "reversed" = some none)
    (z_zip : PySem.W.nsIn K mainGlobals "zip" = some none)
    (z_FACTORS : PySem.W.nsIn K mainGlobals "FACTORS" = some (some (.ref a_FACTORS)))
    (y_FACTORS : K.lookup a_FACTORS = some ⟨.type "list", none, .seq #[(.int (11) t0_FACTORS), (.int (5) t1_FACTORS), (.int (1) t2_FACTORS)] nn_FACTORS, sl_FACTORS⟩)
    (z_FEWEST_KIDS : PySem.W.nsIn K mainGlobals "FEWEST_KIDS" = some (some (.int (2) t_FEWEST_KIDS)))
    (z_FEWEST_MARKS : PySem.W.nsIn K mainGlobals "FEWEST_MARKS" = some (some (.int (3) t_FEWEST_MARKS)))
    (z_MOST_KIDS : PySem.W.nsIn K mainGlobals "MOST_KIDS" = some (some (.int (8) t_MOST_KIDS)))
    (z_MOST_MARKS : PySem.W.nsIn K mainGlobals "MOST_MARKS" = some (some (.int (48) t_MOST_MARKS)))
    (z_MOST_PART : PySem.W.nsIn K mainGlobals "MOST_PART" = some (some (.int (64) t_MOST_PART)))
    : ∃ (A : Ads) (fd : FuncData), (∀ (s : Shared) (v : Value), BindsTo s fd ⟨[v], []⟩ [("_law_script", v)]) ∧ ∀ base : Heap, K.In base → base.Ns mainGlobals mg → FnOk l.prog w K mg base CX0 6 fa fd ["_law_script"] (sp_law K A) := by
  have e := hfa.symm.trans (PySem.W.mg_of X G a_law)
  cases e
  have Fc : Fct K ⟨c_Rule, c_NoRule, a_FACTORS⟩ := ⟨⟨pg_Rule, hd_Rule, po_Rule, sa_Rule⟩, n_Rule_kids_most, n_Rule_least, n_Rule_most, n_Rule_share, fun H => .inr ⟨_, _, _, y_FACTORS, rfl, rfl, rfl, by rw [sizeLine_eq]; exact (by decide : 3 ≤ 16777216), (.cons ⟨_, rfl⟩ (.cons ⟨_, rfl⟩ (.cons ⟨_, rfl⟩ .nil)))⟩⟩
  have T : Txt K mg ⟨c_Rule, c_NoRule, a_FACTORS⟩ := ⟨Fc, PySem.W.mg_none_of X G z_bool, PySem.W.mg_none_of X G z_enumerate, PySem.W.mg_none_of X G z_int, PySem.W.mg_none_of X G z_isinstance, PySem.W.mg_none_of X G z_len, PySem.W.mg_none_of X G z_min, PySem.W.mg_none_of X G z_range, PySem.W.mg_none_of X G z_reversed, PySem.W.mg_none_of X G z_zip, PySem.W.mg_of X G z_FACTORS, ⟨_, PySem.W.mg_of X G z_FEWEST_KIDS, ⟨_, rfl⟩⟩, ⟨_, PySem.W.mg_of X G z_FEWEST_MARKS, ⟨_, rfl⟩⟩, ⟨_, PySem.W.mg_of X G z_MOST_KIDS, ⟨_, rfl⟩⟩, ⟨_, PySem.W.mg_of X G z_MOST_MARKS, ⟨_, rfl⟩⟩, ⟨_, PySem.W.mg_of X G z_MOST_PART, ⟨_, rfl⟩⟩, PySem.W.mg_of X G a_c_Rule, PySem.W.mg_of X G a_c_NoRule, x_NoRule, kc_NoRule, s_NoRule, t_NoRule⟩
  refine ⟨⟨c_Rule, c_NoRule, a_FACTORS⟩, PySem.W.fnOf "law" "law" (defArgs s_law) (defBody s_law) (defScope s_law) .none kV_law dc_law pm_law an_law cd_law ct_law, fun s v => .of_eq rfl, fun base _ _ => ?_⟩
  have F_w_cell := fun_mk (st := s_w_cell) l_w_cell c_w_cell k_w_cell
  have b_w_cell := F_w_cell.binds (ps := ["_law_script", "_law_k"]) fun _ _ _ _ _ _ us hl => match us, hl with | [_, _], _ => rfl
  have O_w_cell : OkC l.prog w K mg base CX0 1 "_law_cell" ["_law_script", "_law_k"] (sp_w_cell K _) := ⟨⟨_, _, raw_w_cell F_w_cell T, PySem.W.mg_of X G a_w_cell, k_w_cell, b_w_cell⟩⟩
  have F_w_purse := fun_mk (st := s_w_purse) l_w_purse c_w_purse k_w_purse
  have b_w_purse := F_w_purse.binds (ps := ["_law_cell_here", "_law_way"]) fun _ _ _ _ _ _ us hl => match us, hl with | [_, _], _ => rfl
  have O_w_purse : OkC l.prog w K mg base CX0 1 "_law_purse" ["_law_cell_here", "_law_way"] (sp_w_purse K _) := ⟨⟨_, _, raw_w_purse F_w_purse T, PySem.W.mg_of X G a_w_purse, k_w_purse, b_w_purse⟩⟩
  have F_w_take := fun_mk (st := s_w_take) l_w_take c_w_take k_w_take
  have b_w_take := F_w_take.binds (ps := ["_law_purse_here", "_law_many"]) fun _ _ _ _ _ _ us hl => match us, hl with | [_, _], _ => rfl
  have O_w_take : OkC l.prog w K mg base CX0 1 "_law_take" ["_law_purse_here", "_law_many"] (sp_w_take K _) := ⟨⟨_, _, raw_w_take F_w_take T, PySem.W.mg_of X G a_w_take, k_w_take, b_w_take⟩⟩
  have F_is_whole := fun_mk (st := s_is_whole) l_is_whole c_is_whole k_is_whole
  have b_is_whole := F_is_whole.binds (ps := ["thing"]) fun _ _ _ _ _ _ us hl => match us, hl with | [_], _ => rfl
  have O_is_whole : OkC l.prog w K mg base CX0 1 "is_whole" ["thing"] (sp_is_whole K _) := ⟨⟨_, _, raw_is_whole F_is_whole T, PySem.W.mg_of X G a_is_whole, k_is_whole, b_is_whole⟩⟩
  have F_Rule___init__ := fun_mk (st := s_Rule___init__) l_Rule___init__ c_Rule___init__ k_Rule___init__
  have b_Rule___init__ := F_Rule___init__.binds (ps := ["self", "part", "least", "most", "kids"]) fun _ _ _ _ _ _ us hl => match us, hl with | [_, _, _, _, _], _ => rfl
  have O_Rule___init__ : OkI l.prog w K mg base (CXN l.prog w) 2 "Rule" c_Rule ["self", "part", "least", "most", "kids"] (sp_Rule___init__ K _) := ⟨⟨_, _, raw_Rule___init__ F_Rule___init__ T O_is_whole, ⟨mk_Rule, a_Rule___init__, i_Rule___init__, kc_Rule⟩, PySem.W.mg_of X G a_c_Rule, b_Rule___init__⟩⟩
  have F_w_rule := fun_mk (st := s_w_rule) l_w_rule c_w_rule k_w_rule
  have b_w_rule := F_w_rule.binds (ps := ["_law_purse_here"]) fun _ _ _ _ _ _ us hl => match us, hl with | [_], _ => rfl
  have O_w_rule : OkC l.prog w K mg base CX0 2 "_law_rule" ["_law_purse_here"] (sp_w_rule K _) := ⟨⟨_, _, raw_w_rule F_w_rule T O_w_take, PySem.W.mg_of X G a_w_rule, k_w_rule, b_w_rule⟩⟩
  have F_w_text := fun_mk (st := s_w_text) l_w_text c_w_text k_w_text
  have b_w_text := F_w_text.binds (ps := ["_law_purse_here", "_law_most"]) fun _ _ _ _ _ _ us hl => match us, hl with | [_, _], _ => rfl
  have O_w_text : OkC l.prog w K mg base CX0 2 "_law_text" ["_law_purse_here", "_law_most"] (sp_w_text K _) := ⟨⟨_, _, raw_w_text F_w_text T O_w_take, PySem.W.mg_of X G a_w_text, k_w_text, b_w_text⟩⟩
  have F_sign_of := fun_mk (st := s_sign_of) l_sign_of c_sign_of k_sign_of
  have b_sign_of := F_sign_of.binds (ps := ["text"]) fun _ _ _ _ _ _ us hl => match us, hl with | [_], _ => rfl
  have O_sign_of : OkC l.prog w K mg base CX0 1 "sign_of" ["text"] (sp_sign_of K _) := ⟨⟨_, _, raw_sign_of F_sign_of T, PySem.W.mg_of X G a_sign_of, k_sign_of, b_sign_of⟩⟩
  have F_is_closed := fun_mk (st := s_is_closed) l_is_closed c_is_closed k_is_closed
  have b_is_closed := F_is_closed.binds (ps := ["text", "rule"]) fun _ _ _ _ _ _ us hl => match us, hl with | [_, _], _ => rfl
  have O_is_closed : OkC l.prog w K mg base CX0 2 "is_closed" ["text", "rule"] (sp_is_closed K _) := ⟨⟨_, _, raw_is_closed F_is_closed T O_sign_of, PySem.W.mg_of X G a_is_closed, k_is_closed, b_is_closed⟩⟩
  have F_blocks_of := fun_mk (st := s_blocks_of) l_blocks_of c_blocks_of k_blocks_of
  have b_blocks_of := F_blocks_of.binds (ps := ["text", "rule"]) fun _ _ _ _ _ _ us hl => match us, hl with | [_, _], _ => rfl
  have O_blocks_of : OkC l.prog w K mg base CX0 3 "blocks_of" ["text", "rule"] (sp_blocks_of K _) := ⟨⟨_, _, raw_blocks_of F_blocks_of T O_is_closed, PySem.W.mg_of X G a_blocks_of, k_blocks_of, b_blocks_of⟩⟩
  have F_cuts_of := fun_mk (st := s_cuts_of) l_cuts_of c_cuts_of k_cuts_of
  have b_cuts_of := F_cuts_of.binds (ps := ["text", "rule"]) fun _ _ _ _ _ _ us hl => match us, hl with | [_, _], _ => rfl
  have O_cuts_of : OkC l.prog w K mg base CX0 4 "cuts_of" ["text", "rule"] (sp_cuts_of K _) := ⟨⟨_, _, raw_cuts_of F_cuts_of T O_is_closed O_blocks_of, PySem.W.mg_of X G a_cuts_of, k_cuts_of, b_cuts_of⟩⟩
  have F_w_each_cut := fun_mk (st := s_w_each_cut) l_w_each_cut c_w_each_cut k_w_each_cut
  have b_w_each_cut := F_w_each_cut.binds (ps := ["_law_text_here", "_law_rule_here"]) fun _ _ _ _ _ _ us hl => match us, hl with | [_, _], _ => rfl
  have O_w_each_cut : OkC l.prog w K mg base CX0 5 "_law_each_cut" ["_law_text_here", "_law_rule_here"] (sp_w_each_cut K _) := ⟨⟨_, _, raw_w_each_cut F_w_each_cut T O_blocks_of O_cuts_of, PySem.W.mg_of X G a_w_each_cut, k_w_each_cut, b_w_each_cut⟩⟩
  have F_w_change_good := fun_mk (st := s_w_change_good) l_w_change_good c_w_change_good k_w_change_good
  have b_w_change_good := F_w_change_good.binds (ps := ["_law_text_here", "_law_a", "_law_b", "_law_marks", "_law_rule_here"]) fun _ _ _ _ _ _ us hl => match us, hl with | [_, _, _, _, _], _ => rfl
  have O_w_change_good : OkC l.prog w K mg base CX0 5 "_law_change_good" ["_law_text_here", "_law_a", "_law_b", "_law_marks", "_law_rule_here"] (sp_w_change_good K _) := ⟨⟨_, _, raw_w_change_good F_w_change_good T O_blocks_of O_cuts_of, PySem.W.mg_of X G a_w_change_good, k_w_change_good, b_w_change_good⟩⟩
  exact raw_law (fun_mk (st := s_law) l_law c_law k_law) T O_blocks_of O_cuts_of O_Rule___init__ O_w_cell O_w_purse O_w_take O_w_rule O_w_text O_w_each_cut O_w_change_good
theorem walk {l : PySem.W.OpenLaw} {q : Program} {loose : List Str} {XP : (Str → Option Value) → Heap → Prop} {YP : World → Heap → Prop} {d : DefRec} {K : Params → PySem.W.Frag} (hn : l.most = some 63) (hdf : d.params.defaults = [])
    (hY : ∀ (w : World) (h : Heap), YP w h → (K w.params).In h)
    (F : ∀ (w : World) (mg : Str → Option Value) (fa : Addr) (h : Heap), (K w.params).In h → h.Ns mainGlobals mg → mg d.name = some (.ref fa) →
      ∃ (A : Ads) (fd : FuncData), (∀ (s : Shared) (u : Value), BindsTo s fd ⟨[u], []⟩ [("_law_script", u)]) ∧ ∀ base : Heap, (K w.params).In base → base.Ns mainGlobals mg → FnOk l.prog w (K w.params) mg base CX0 6 fa fd ["_law_script"] (sp_law (K w.params) A)) :
    PySem.W.WalkO q loose XP YP l.row.toRowW d [] (fun f vs => PySem.call f vs) :=
  L2.walk_of (n := 63) (k := 6) (x := "_law_script") (CX := fun _ => CX0) (sp := fun w => spW (K w.params)) hn (by decide) hdf ⟨rfl, by decide, by decide⟩ hY (fun w mg fa h kx ns e => by
    obtain ⟨A, fd, b, f⟩ := F w mg fa h kx ns e
    exact ⟨fd, b, fun base k2 n2 => (f base k2 n2).imp fun vs H Q E z => spW_to A z⟩) (fun _ _ a ns hl _ hS => ⟨a, ns, rfl, hS, hl, fun _ _ => rfl⟩) fun _ _ _ _ _ z => z
end Gk09
open PySem PySem.W PyProof.Rows in
set_option maxRecDepth 100000 in
set_option maxHeartbeats 0 in
theorem PySem.Challenge.cw_seekpress_k09_behind_a_cut_holds : PySem.Challenge.rw_seekpress_k09_behind_a_cut.Holds := by
  w_on; o_law; k_head; (case hw => w_witness2)
  k_fill
  refine Gk09.walk (l := PySem.Challenge.rw_seekpress_k09_behind_a_cut) rfl rfl (fun w h Y => PySem.W.kIn_of Y) ?F
  case F =>
    intro w mg fa h KX G hmg
    refine' Gk09.all_mk KX G hmg ?a_c_Rule ?kc_Rule ?pg_Rule ?hd_Rule ?po_Rule ?sa_Rule ?mk_Rule ?n_Rule_kids_most ?n_Rule_least ?n_Rule_most ?n_Rule_share ?a_c_NoRule ?kc_NoRule ?x_NoRule ?s_NoRule ?t_NoRule ?a_w_cell ?l_w_cell ?c_w_cell ?k_w_cell ?a_w_purse ?l_w_purse ?c_w_purse ?k_w_purse ?a_w_take ?l_w_take ?c_w_take ?k_w_take ?a_is_whole ?l_is_whole ?c_is_whole ?k_is_whole ?a_Rule___init__ ?i_Rule___init__ ?l_Rule___init__ ?c_Rule___init__ ?k_Rule___init__ ?a_w_rule ?l_w_rule ?c_w_rule ?k_w_rule ?a_w_text ?l_w_text ?c_w_text ?k_w_text ?a_sign_of ?l_sign_of ?c_sign_of ?k_sign_of ?a_is_closed ?l_is_closed ?c_is_closed ?k_is_closed ?a_blocks_of ?l_blocks_of ?c_blocks_of ?k_blocks_of ?a_cuts_of ?l_cuts_of ?c_cuts_of ?k_cuts_of ?a_w_each_cut ?l_w_each_cut ?c_w_each_cut ?k_w_each_cut ?a_w_change_good ?l_w_change_good ?c_w_change_good ?k_w_change_good ?a_law ?l_law ?c_law ?k_law ?z_bool ?z_enumerate ?z_int ?z_isinstance ?z_len ?z_min ?z_range ?z_reversed ?z_zip ?z_FACTORS ?y_FACTORS ?z_FEWEST_KIDS ?z_FEWEST_MARKS ?z_MOST_KIDS ?z_MOST_MARKS ?z_MOST_PART
    (case a_c_Rule => k_is)
    (case kc_Rule => k_is)
    (case pg_Rule => k_is)
    (case hd_Rule => k_is)
    (case po_Rule => k_is)
    (case sa_Rule => k_is)
    (case mk_Rule => k_is)
    (case n_Rule_kids_most => k_is)
    (case n_Rule_least => k_is)
    (case n_Rule_most => k_is)
    (case n_Rule_share => k_is)
    (case a_c_NoRule => k_is)
    (case kc_NoRule => k_is)
    (case x_NoRule => k_exc)
    (case s_NoRule => k_is)
    (case t_NoRule => k_is)
    (case a_w_cell => k_is)
    (case l_w_cell => k_is)
    (case c_w_cell => k_is)
    (case k_w_cell => k_is)
    (case a_w_purse => k_is)
    (case l_w_purse => k_is)
    (case c_w_purse => k_is)
    (case k_w_purse => k_is)
    (case a_w_take => k_is)
    (case l_w_take => k_is)
    (case c_w_take => k_is)
    (case k_w_take => k_is)
    (case a_is_whole => k_is)
    (case l_is_whole => k_is)
    (case c_is_whole => k_is)
    (case k_is_whole => k_is)
    (case a_Rule___init__ => k_is)
    (case i_Rule___init__ => k_is)
    (case l_Rule___init__ => k_is)
    (case c_Rule___init__ => k_is)
    (case k_Rule___init__ => k_is)
    (case a_w_rule => k_is)
    (case l_w_rule => k_is)
    (case c_w_rule => k_is)
    (case k_w_rule => k_is)
    (case a_w_text => k_is)
    (case l_w_text => k_is)
    (case c_w_text => k_is)
    (case k_w_text => k_is)
    (case a_sign_of => k_is)
    (case l_sign_of => k_is)
    (case c_sign_of => k_is)
    (case k_sign_of => k_is)
    (case a_is_closed => k_is)
    (case l_is_closed => k_is)
    (case c_is_closed => k_is)
    (case k_is_closed => k_is)
    (case a_blocks_of => k_is)
    (case l_blocks_of => k_is)
    (case c_blocks_of => k_is)
    (case k_blocks_of => k_is)
    (case a_cuts_of => k_is)
    (case l_cuts_of => k_is)
    (case c_cuts_of => k_is)
    (case k_cuts_of => k_is)
    (case a_w_each_cut => k_is)
    (case l_w_each_cut => k_is)
    (case c_w_each_cut => k_is)
    (case k_w_each_cut => k_is)
    (case a_w_change_good => k_is)
    (case l_w_change_good => k_is)
    (case c_w_change_good => k_is)
    (case k_w_change_good => k_is)
    (case a_law => k_is)
    (case l_law => k_is)
    (case c_law => k_is)
    (case k_law => k_is)
    (case z_bool => k_is)
    (case z_enumerate => k_is)
    (case z_int => k_is)
    (case z_isinstance => k_is)
    (case z_len => k_is)
    (case z_min => k_is)
    (case z_range => k_is)
    (case z_reversed => k_is)
    (case z_zip => k_is)
    (case z_FACTORS => k_is)
    (case y_FACTORS => k_is)
    (case z_FEWEST_KIDS => k_is)
    (case z_FEWEST_MARKS => k_is)
    (case z_MOST_KIDS => k_is)
    (case z_MOST_MARKS => k_is)
    (case z_MOST_PART => k_is)


