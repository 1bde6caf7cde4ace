import PyProof.Rows.All
import Wide.All
import OpenK.AllK
import Wide.FinOn
import KE.KUnpackStar
import HandS.ForMost
import HandS.Flow
import HandS.IsInst
import HandS.Zip
import HandS.Wide
import HandS.WideBits
import HandS.TupAny
import HandS.StrMore
import HandS.More
import HandS.TryOnly
import HandS.Codes
import HandS.EndBits
import PyProof.StrOps2
import HandS.ReplaceLit
import HandS.ReplaceList
import HandS.Style
import KE.IntBitsLaws
import PySem.Challenge.RW_pagemaker_k01_names_and_paths
set_option Elab.async false
set_option linter.all false
set_option maxRecDepth 100000
set_option maxHeartbeats 4000000
/-! my own rules over the hand layer -/
namespace L2
open PySem PySem.Spec PyProof.Rows

/-! ### readings by short names -/
abbrev zAdd : R2 := rI0 fun i j => .int (i + j)
abbrev zSub : R2 := rI0 fun i j => .int (i - j)
abbrev zMul : R2 := rI CMulX fun i j => .int (i * j)
abbrev zFdv : R2 := rI CDivW fun i j => .int (i / j)
abbrev zMod : R2 := rI (fun _ j => 0 < j) fun i j => .int (i % j)
abbrev zPow : R2 := rI CPow fun i j => .int (i ^ j.toNat)
abbrev zLt : R2 := rI0 fun i j => .bl (decide (i < j))
abbrev zLtE : R2 := rI0 fun i j => .bl (decide (i ≤ j))
abbrev zGt : R2 := rI0 fun i j => .bl (decide (j < i))
abbrev zGtE : R2 := rI0 fun i j => .bl (decide (j ≤ i))
abbrev zNeg : V → Hp → VK → Prop := rU fun i => .int (-i)
abbrev zAddS : R2 := fun x y H Q => ∃ i j, x = .str i ∧ y = .str j ∧ i.length + j.length ≤ sizeLine ∧ Q (.str (i ++ j)) H
abbrev zLtS : R2 := fun x y H Q => ∃ i j, x = .str i ∧ y = .str j ∧ Q (.bl (decide (i.cps.toList < j.cps.toList))) H
abbrev zLtES : R2 := fun x y H Q => ∃ i j, x = .str i ∧ y = .str j ∧ Q (.bl (!decide (j.cps.toList < i.cps.toList))) H
abbrev zInSg : R2 := fun x y H Q => ∃ (c : Nat) (z : Str), x = .str ⟨#[c]⟩ ∧ y = .str z ∧ Q (.bl (decide (c ∈ z.cps.toList))) H
abbrev zNotInSg : R2 := fun x y H Q => ∃ (c : Nat) (z : Str), x = .str ⟨#[c]⟩ ∧ y = .str z ∧ Q (.bl (!decide (c ∈ z.cps.toList))) H
abbrev zLenS : List V → Hp → VK → Prop := fun xs H Q => ∃ z, xs = [.str z] ∧ z.length ≤ sizeLine ∧ Q (.int z.length) H
abbrev zLenQ (K : PySem.W.Frag) : List V → Hp → VK → Prop := fun xs H Q => ∃ p ys, xs = [.ref p] ∧ (SqL K H p ys ∨ SqT K H p ys) ∧ Q (.int ys.length) H
abbrev zLenA (K : PySem.W.Frag) : List V → Hp → VK → Prop := fun xs H Q => ∃ x n, xs = [x] ∧ LenV K x H n ∧ Q (.int n) H
abbrev zAbs : List V → Hp → VK → Prop := fun xs H Q => ∃ i, xs = [.int i] ∧ Q (.int (if i < 0 then -i else i)) H
abbrev zInt1 : List V → Hp → VK → Prop := fun xs H Q => (∃ i, xs = [.int i] ∧ Q (.int i) H) ∨ ∃ k, xs = [.bl k] ∧ Q (.int (if k then 1 else 0)) H
abbrev zListOf (K : PySem.W.Frag) : List V → Hp → VK → Prop := fun xs H Q => ∃ p ys, xs = [.ref p] ∧ (SqL K H p ys ∨ SqT K H p ys) ∧ ∀ l, H l = none → Q (.ref l) (upd H l (.lst ys))
abbrev zTupleOf (K : PySem.W.Frag) : List V → Hp → VK → Prop := fun xs H Q => ∃ p ys, xs = [.ref p] ∧ ((SqL K H p ys ∧ ∀ l, H l = none → Q (.ref l) (upd H l (.tup ys))) ∨ (SqT K H p ys ∧ Q (.ref p) H))
abbrev zMax2 : List V → Hp → VK → Prop := fun xs H Q => ∃ i j, xs = [.int i, .int j] ∧ Q (.int (if j > i then j else i)) H
abbrev zMin2 : List V → Hp → VK → Prop := fun xs H Q => ∃ i j, xs = [.int i, .int j] ∧ Q (.int (if j < i then j else i)) H
abbrev zSplit : V → List V → Hp → VK → Prop := fun x xs H Q => ∃ a b, x = .str a ∧ xs = [.str b] ∧ (b.length == 0) = false ∧ a.length + 2 ≤ sizeLine ∧ rNewStrs (Txt.split a b) H Q
abbrev zPartition : V → List V → Hp → VK → Prop := fun x xs H Q => ∃ a b, x = .str a ∧ xs = [.str b] ∧ (b.length == 0) = false ∧ a.length ≤ sizeLine ∧ ∀ p, H p = none → Q (.ref p) (upd H p (.tup [.str (Txt.partition a b).1, .str (Txt.partition a b).2.1, .str (Txt.partition a b).2.2]))
abbrev zJoin (K : PySem.W.Frag) : V → List V → Hp → VK → Prop := fun x xs H Q => ∃ a p, ∃ ys : List Str, x = .str a ∧ xs = [.ref p] ∧ (SqL K H p (ys.map V.str) ∨ SqT K H p (ys.map V.str)) ∧ (ys.map (·.length)).sum + ys.length * a.length ≤ 16777216 ∧ Q (.str (Txt.join a ys)) H
abbrev zStartswith : V → List V → Hp → VK → Prop := fun x xs H Q => ∃ a b, x = .str a ∧ xs = [.str b] ∧ Q (.bl (Txt.startswith a b)) H
abbrev zFind3 : V → List V → Hp → VK → Prop := fun x xs H Q => ∃ (a b : Str) (i : Int), x = .str a ∧ xs = [.str b, .int i] ∧ Q (.int (Txt.find3 a b i)) H
abbrev zGtS : R2 := fun x y H Q => ∃ i j, x = .str i ∧ y = .str j ∧ Q (.bl (decide (j.cps.toList < i.cps.toList))) H
abbrev zGtES : R2 := fun x y H Q => ∃ i j, x = .str i ∧ y = .str j ∧ Q (.bl (!decide (i.cps.toList < j.cps.toList))) H
abbrev zInSt : R2 := fun x y H Q => ∃ i j, x = .str i ∧ y = .str j ∧ Q (.bl (!(Builtin.Str.occurrences j i 0 j.length 1).isEmpty)) H
abbrev zNotInSt : R2 := fun x y H Q => ∃ i j, x = .str i ∧ y = .str j ∧ Q (.bl (!(!(Builtin.Str.occurrences j i 0 j.length 1).isEmpty))) H
abbrev zIsN : R2 := fun x y H Q => y = .non ∧ Q (.bl (decide (x = .non))) H
abbrev zIsNotN : R2 := fun x y H Q => y = .non ∧ Q (.bl (!decide (x = .non))) H
abbrev zRepS : R2 := fun x y H Q => ∃ (z : Str) (n : Int), x = .str z ∧ y = .int n ∧ 2 ≤ n ∧ n ≤ 1000 ∧ 1 ≤ z.length ∧ z.length ≤ 1000 ∧ Q (.str ⟨(List.replicate n.toNat z.cps).foldl (· ++ ·) #[]⟩) H
abbrev zOr (r r' : R2) : R2 := fun x y H Q => r x y H Q ∨ r' x y H Q
abbrev zTruth (K : PySem.W.Frag) (te : TE) : TT := fun σ H Q => te σ H fun x H' => ∃ k, TruV K x H' k ∧ Q k H'
section
variable {X : Cx}
theorem oAdd : OpR X (binaryOp .Add) zAdd := op_add
theorem oSub : OpR X (binaryOp .Sub) zSub := op_sub
theorem oMul : OpR X (binaryOp .Mult) zMul := op_mulX
theorem oFdv : OpR X (binaryOp .FloorDiv) zFdv := op_fdivW
theorem oMod : OpR X (binaryOp .Mod) zMod := op_mod
theorem oPow : OpR X (binaryOp .Pow) zPow := op_pow
theorem oAddS : OpR X (binaryOp .Add) zAddS := op_add_str
theorem oCat : OpR X (binaryOp .Add) rCat := op_cat
theorem oCatA : OpR X (binaryOp .Add) (rCatA X.K) := op_catA
theorem oRep : OpR X (binaryOp .Mult) rRep := op_rep
theorem oLt : OpR X (compareOp .Lt) zLt := op_lt
theorem oLtE : OpR X (compareOp .LtE) zLtE := op_le
theorem oGt : OpR X (compareOp .Gt) zGt := op_gt
theorem oGtE : OpR X (compareOp .GtE) zGtE := op_ge
theorem oLtS : OpR X (compareOp .Lt) zLtS := op_lt_str
theorem oLtES : OpR X (compareOp .LtE) zLtES := op_le_str
theorem oGtS : OpR X (compareOp .Gt) zGtS := op_gt_str
theorem oGtES : OpR X (compareOp .GtE) zGtES := op_ge_str
theorem oEq : OpR X (compareOp .Eq) rEq := op_eq
theorem oNotEq : OpR X (compareOp .NotEq) rNe := op_ne
theorem oEqD (hu : X.A.units + 64 < cLine) : OpR X (compareOp .Eq) (rEqD X.K) := op_eqD hu
theorem oNotEqD (hu : X.A.units + 64 < cLine) : OpR X (compareOp .NotEq) (rNeD X.K) := op_neD hu
theorem oInSg : OpR X (compareOp .In) zInSg := op_in_sign
theorem oNotInSg : OpR X (compareOp .NotIn) zNotInSg := op_notIn_sign
theorem oInSt : OpR X (compareOp .In) zInSt := op_in_str
theorem oNotInSt : OpR X (compareOp .NotIn) zNotInSt := op_notin_str
theorem oInQ : OpR X (compareOp .In) (rIn X.K false) := op_in_seq
theorem oNotInQ : OpR X (compareOp .NotIn) (rIn X.K true) := op_notIn_seq
theorem oIsN : OpR X (compareOp .Is) zIsN := op_isN
theorem oIsNotN : OpR X (compareOp .IsNot) zIsNotN := op_notN
end
section
variable {X : Cx} {pos : Pos}
/-! ### calls by keywords alone -/
theorem pe_callK0 {CX : CXT} {k : Nat} {f : Addr} {fd : FuncData} {ps ks : List Str} {sp : Sp} {x : Str} {p : Pos} {kws : List Keyword} {E : XK} {tk : TA} {g : List Value → List Value → List Value} {gV : List V → List V → List V}
    (F : FnOk X.prog X.w X.K X.mg X.base CX k f fd ps sp) (hr : Room k X.A) (hg : Gl X x) (hm : X.mg x = some (.ref f)) (hk : PySem.W.keepIn X.K (.ref f) = true) (hb : KBinds X.K fd ps ks g gV) (hx : Passes CX X E)
    (hkw : PK X kws tk) (hall : (backToKw pos (keywordEach kws X.env)).all (·.1.isSome) = true := by rfl) (hks : (backToKw pos (keywordEach kws X.env)).filterMap (·.1) = ks := by rfl)
    (hdb : (x == ("__debug__" : Str)) = false := by decide)
    (hpl : ((backTo pos (starEach [] X.env)).any (·.1) || (backToKw pos (keywordEach kws X.env)).any (·.1.isNone)) = false := by rfl) :
    PE X (.Call (.Name x p) [] kws pos) (tCallK sp gV E tNil tk) := by
  refine ⟨fun pins s σ H Q I h => ?_⟩
  refine wpAny_Call_Name_kw (ld_glob I hg hm ?_ hdb)
  refine PySem.W.callWith_KW0 (h₀ := X.base) I.ok.mod.kin hk hall ?_ hpl
  refine thn (hkw.run pos pins s σ H _ I h) fun ws s2 ⟨zs, H2, I2, rz, q2⟩ => ⟨I2.kIn, ?_⟩
  rw [hks]
  exact run_fnk F hr hb hx I2 .nil rz q2
/-! ### a, *b = a list -/
theorem pgs_star {e : Expr} {p : Pos} {es : List Expr} {t : TG} {u : TGs} (h1 : PG X e t) (h2 : PGs X es u)
    (hs : (assignEach (.Starred e p :: es) X.env).map (·.2) = assign e X.env :: (assignEach es X.env).map (·.2) := by rfl) : PGs X (.Starred e p :: es) (gCons t u) := by
  refine ⟨fun pins s σ H vs us Q I r h => ?_⟩
  obtain ⟨v, vr, e1, h⟩ := h
  subst e1
  cases r with
  | cons r rr =>
    rw [hs]
    refine assignInOrder_cons (thn (h1.run pins s σ H _ _ _ I r h) fun _ s1 ⟨σ1, H1, I1, q1⟩ => ?_)
    exact h2.run pins s1 σ1 H1 _ _ Q I1 rr q1
def gStarL (K : PySem.W.Frag) (n i : Nat) (t : TGs) : TG := fun v σ H Q => ∃ a xs, v = .ref a ∧ SqL K H a xs ∧ n ≤ xs.length + 1 ∧
  ∀ D, H D = none → t (xs.take i ++ [.ref D] ++ (xs.drop i).drop (xs.length + 1 - n)) σ (upd H D (.lst ((xs.drop i).take (xs.length + 1 - n)))) Q
def gStarT (K : PySem.W.Frag) (n i : Nat) (t : TGs) : TG := fun v σ H Q => ∃ a xs, v = .ref a ∧ SqT K H a xs ∧ n ≤ xs.length + 1 ∧
  ∀ D, H D = none → t (xs.take i ++ [.ref D] ++ (xs.drop i).drop (xs.length + 1 - n)) σ (upd H D (.lst ((xs.drop i).take (xs.length + 1 - n)))) Q
theorem pg_starL {es : List Expr} {k : Nat} {t : TGs} {n i : Nat} (hc : X.calm = true) (h : PGs X es t) (hn : (assignEach es X.env).length = n := by rfl) (hst : (assignEach es X.env).findIdx? (·.1) = some i := by rfl) (hi : i < n := by decide) :
    PG X (.Tuple es k pos) (gStarL X.K n i t) := by
  refine ⟨fun pins s σ H v u Q I r hw => ?_⟩
  obtain ⟨a, xs, e1, hq, hl, hw⟩ := hw
  subst e1
  cases r
  obtain ⟨its, rv, pl, hz⟩ := I.list hq
  have hA := I.ok.hd hc
  have hL := pl.isList
  have hlen : its.toArray.size = xs.length := by rw [List.size_toArray]; exact rv.length.symm
  rw [PyProof.Rows.assign_Tuple]
  refine wpAny_bind (wpAny_standAt ?_)
  unfold unpack
  rw [hn, hst]
  refine wpAny_bind (wpAny_holding ?_)
  have hlt : a ≠ s.heap.objs.size := by obtain ⟨o, ho, _⟩ := hL; exact Nat.ne_of_lt (Heap.lt_size ho)
  unfold unpackItems
  refine wpAny_bind ?_
  unfold notIterableAtAll
  refine wpAny_bind (wpAny_specialOf hL.typeIs slot_list_iter.lookup ?_)
  refine wpAny_pure ?_
  simp only [Bool.false_eq_true, if_false]
  refine wpAny_bind (wpAny_holding (wpAny_pyIter_list hL ?_))
  refine wpAny_bind (wpAny_holding (PySem.W.kun_draw hlt i 0 _ _ ⟨_, Heap.get?_push_size _ rfl, rfl, rfl⟩ (hL.push _) (by omega) fun h₁ hit₁ hs₁ => ?_))
  have hl₁ : h₁.IsList a its.toArray := (hL.push _).extBut hs₁.extBut hlt
  rw [Nat.zero_add] at hit₁
  have hit₁' := hit₁
  obtain ⟨oi, hoi, _⟩ := hit₁'
  have hl₁' := hl₁
  obtain ⟨ol, hol, _⟩ := hl₁'
  rw [List.drop_zero]
  have hfl : (its.toArray.toList.take i).length = i := by rw [List.length_take, Array.length_toList]; omega
  rw [if_neg (show ¬ ((its.toArray.toList.take i).length < i) by rw [hfl]; omega)]
  refine wpAny_bind (wpAny_holding (PySem.W.kun_collect (s := { s with heap := h₁ }) (T := "list_iterator") (.inr (.inr (.inl rfl))) (Walks.list (A := X.A.in1) hA s.heap.objs.size a hlt its.toArray) (fun j u st => st.1.typeIs) (k := i) (by omega) ⟨hit₁, hl₁⟩ (Heap.lt_size hoi) (Heap.lt_size hol) (fun h₂ tk hk => ?_) (by rw [hlen]; exact hz)))
  have hrl : (its.toArray.toList.drop i).length = its.toArray.size - i := by rw [List.length_drop, Array.length_toList]
  have hmid : (its.toArray.toList.drop i).length - (n - 1 - i) = its.toArray.size + 1 - n := by rw [hrl]; omega
  show wpAny _ _ (if (its.toArray.toList.drop i).length < n - 1 - i then _ else _) _ _ _
  rw [if_neg (by rw [hrl]; omega)]
  show wpAny _ _ (newList ((its.toArray.toList.drop i).take ((its.toArray.toList.drop i).length - (n - 1 - i))) >>= fun d => pure (its.toArray.toList.take i ++ [d] ++ (its.toArray.toList.drop i).drop ((its.toArray.toList.drop i).length - (n - 1 - i)))) _ _ _
  rw [hmid, hlen]
  have I2 : Inv X pins σ H { s with heap := h₂, toks := tk } := I.kept (t' := tk) fun b o e => hk b o (Nat.ne_of_lt (Heap.lt_size e)) (hs₁.extBut b o (Nat.ne_of_lt (Heap.lt_size e)) (Heap.get?_push_of_some _ e))
  have hp := I2.hok.fresh (Nat.le_refl _)
  have rd : Vals (xs.drop i) (its.drop i) := rv.drop i
  have hm : (its.drop i).take (xs.length + 1 - n) = ((its.toArray.toList.drop i).take (xs.length + 1 - n)) := by simp
  refine wpAny_bind (wpAny_newList (s := { s with heap := h₂, toks := tk }) (wpAny_pure ?_) ?_)
  · have I3 := I2.laid (o := .lst ((xs.drop i).take (xs.length + 1 - n))) (t' := tk) (h' := h₂.push { cls := .type "list", data := .seq ((its.toArray.toList.drop i).take (xs.length + 1 - n)).toArray }) (fun b u q => Heap.get?_push_of_some _ q) (Nat.le_refl _)
      ⟨by rw [List.length_take, List.length_drop]; omega, (its.drop i).take (xs.length + 1 - n), _, rd.take _, by rw [hm]; exact Heap.get?_push_size _ rfl⟩
    refine h.run pins _ σ _ (xs.take i ++ [.ref _] ++ (xs.drop i).drop (xs.length + 1 - n)) _ Q I3 ?_ (hw _ hp)
    have e2 : its.toArray.toList = its := by simp
    rw [e2]
    exact ((rv.take i).append (Paired.cons (show RelV (.ref _) (Value.ref _) from rfl) .nil)).append (rd.drop _)
  · rw [List.length_take, hrl, hlen]
    show min _ _ ≤ sizeLine
    omega
/-- text * n, n at least 2 and the text not empty -/
theorem oRepS : OpR X (binaryOp .Mult) zRepS := by
  intro pins s σ H x y v u Q I rx ry h
  obtain ⟨z, n, rfl, rfl, h1, h2, h3, h4, q⟩ := h
  obtain ⟨t, rfl⟩ := rx
  obtain ⟨t', rfl⟩ := ry
  have hlt : ¬ n < 1 := by omega
  have hne : (n == 1 || z.length == 0) = false := by
    rw [Bool.or_eq_false_iff]
    exact ⟨beq_eq_false_iff_ne.mpr (by omega), beq_eq_false_iff_ne.mpr (by omega)⟩
  have hz : z.length * n.toNat ≤ 1000 * 1000 := Nat.mul_le_mul h4 (by omega)
  refine PySem.P.mul_str ?_ (fun _ _ => ?_) (fun _ _ => ?_) ?_
  · rw [Bool.or_eq_false_iff]
    exact ⟨decide_eq_false (by omega), decide_eq_false (by omega)⟩
  · have e : (2 ^ 63 - 1 : Int) / n ≥ (2 ^ 63 - 1) / 1000 := by
      have a : (2 ^ 63 - 1 : Int) / 1000 * n ≤ 2 ^ 63 - 1 := by
        have b : (2 ^ 63 - 1 : Int) / 1000 = 9223372036854775 := by decide
        rw [b]
        omega
      exact Int.le_ediv_of_mul_le (by omega) a
    have b : (2 ^ 63 - 1 : Int) / 1000 = 9223372036854775 := by decide
    omega
  · unfold PySem.Builtin.Str.tooLong
    exact decide_eq_false (by show ¬ z.length * n.toNat > 2 ^ 24; omega)
  · rw [if_neg hlt]
    simp only [hne, Bool.false_eq_true, if_false]
    refine ⟨?_, ⟨.str _, H, I.tok _, ⟨_, rfl⟩, q⟩⟩
    have : ∀ (m : Nat) (acc : Array Nat), ((List.replicate m z.cps).foldl (· ++ ·) acc).size = acc.size + m * z.cps.size := by
      intro m
      induction m with
      | zero => intro acc; simp
      | succ m ih => intro acc; rw [List.replicate_succ, List.foldl_cons, ih, Array.size_append, Nat.succ_mul]; omega
    show ((List.replicate n.toNat z.cps).foldl (· ++ ·) #[]).size ≤ sizeLine
    rw [this]
    show 0 + n.toNat * z.length ≤ sizeLine
    rw [Nat.mul_comm, sizeLine_eq]
    omega
end
end L2

namespace CwR
open PySem PySem.Spec PyProof.Rows L2
section
variable {X : Cx} {a b e : Expr} {es : List Expr} {ta tb te : TE} {t : TA} {pos : Pos}
theorem pet_ix {r : R2} (hr : IxR X r) (ha : PET X a ta) (hb : PE X b tb) (hs : PlainIx b) : PET X (.Subscript a b pos) (tOp r ta tb) := by
  intro pins s σ H Q h0 I h
  refine Subscript_ (thn (ha pins s σ H _ h0 I h) fun v s1 ⟨x, H1, I1, r1, q1⟩ => ?_)
  refine thn (hb.run pins s1 σ H1 _ I1 q1) fun u s2 ⟨y, H2, I2, r2, q2⟩ => ?_
  exact hr a b pins s2 σ H2 x y v u Q I2 r1 r2 q2 (hs _ _)
theorem pat_one (ha : PET X e te) (hs : starEach [e] X.env = [(false, eval e X.env)] := by rfl) : PAT X [e] (tCons te tNil) := by
  intro pos pins s σ H Q h0 I h
  rw [hs]
  show wpAny _ _ (spliced ((false, eval e X.env) :: backTo pos [])) _ _ s
  refine Calls.spliced_cons (thn (ha pins s σ H _ h0 I h) fun u s1 ⟨x, H1, I1, r1, q1⟩ => ?_)
  exact Calls.spliced_nil ⟨[x], H1, I1, .cons r1 .nil, q1⟩
theorem pet_lst (h : PAT X es t) : PET X (.List es pos) (tLst t) := by
  intro pins s σ H Q h0 I hq
  refine wpAny_List_spliced (thn (h pos pins s σ H _ h0 I hq) fun us s1 ⟨xs, H1, I1, r, z, q⟩ => ⟨by rw [← r.length]; exact z, ?_⟩)
  have hf : H1 s1.heap.objs.size = none := I1.hok.fresh (Nat.le_refl _)
  refine ⟨.ref s1.heap.objs.size, upd H1 s1.heap.objs.size (.lst xs), I1.laid (t' := s1.toks) (fun b u e => Heap.get?_push_of_some _ e) (Nat.le_refl _) ?_, rfl, q _ hf⟩
  exact ⟨z, us, 0, r, Heap.get?_push_size _ rfl⟩
end
end CwR

/-! heaps in two layers (what stands for ever; what is mine to change), data, readings step by step -/
namespace L2
open PySem PySem.Spec PyProof.Rows

/-! ### steps of heaps: Hs stands for ever, H is the whole, M may have changed -/
structure Go (M : List Addr) (Hs H Hs' H' : Hp) : Prop where
  p : Same Hs Hs'
  sub : Same Hs' H'
  new : ∀ a, Hs' a ≠ none → Hs a = none → H a = none
  keep : ∀ a o, a ∉ M → H a = some o → H' a = some o
  there : ∀ a, H a ≠ none → H' a ≠ none
theorem same_upd {H : Hp} {p : Addr} {o : HO} (h : H p = none) : Same H (upd H p o) := fun b x e => by
  rw [upd_ne (ne_of_none e h)]
  exact e
theorem none_sub {Hs H : Hp} (s : Same Hs H) {p : Addr} (h : H p = none) : Hs p = none := s.free h
theorem some_ne {o : Option HO} {u : HO} (h : o = some u) : o ≠ none := by rw [h]; exact fun z => nomatch z
theorem ne_some {o : Option HO} (h : o ≠ none) : ∃ u, o = some u := by
  cases o with
  | none => exact absurd rfl h
  | some u => exact ⟨u, rfl⟩
theorem same_upd2 {Hs H : Hp} (s : Same Hs H) {p : Addr} {o : HO} : Same (upd Hs p o) (upd H p o) := fun b x e => by
  by_cases hb : b = p
  · rw [hb, upd_same] at e
    rw [hb, upd_same]
    exact e
  · rw [upd_ne hb] at e
    rw [upd_ne hb]
    exact s b x e
theorem same_cell {Hs H : Hp} (s : Same Hs H) {p : Addr} {o : HO} (h : Hs p = none) : Same Hs (upd H p o) := fun b x e => by
  rw [upd_ne (ne_of_none e h)]
  exact s b x e
section
variable {M N : List Addr} {Hs H Hs' H' Hs2 H2 : Hp} {p : Addr} {o : HO}
theorem Go.refl (s : Same Hs H) : Go M Hs H Hs H := ⟨Same.refl _, s, fun _ h1 h2 => absurd h2 h1, fun _ _ _ h => h, fun _ h => h⟩
theorem Go.call (g : Go M Hs H Hs' H') (c : Go N Hs' H' Hs2 H2) (hN : ∀ a, a ∈ N → a ∈ M ∨ H a = none) : Go M Hs H Hs2 H2 where
  p := g.p.trans c.p
  sub := c.sub
  new := fun a h1 h2 => by
    cases e : Hs' a with
    | none =>
      have h3 := c.new a h1 e
      cases e2 : H a with
      | none => rfl
      | some u => exact absurd h3 (g.there a (some_ne e2))
    | some u => exact g.new a (some_ne e) h2
  keep := fun a u h1 h2 => by
    refine c.keep a u (fun z => ?_) (g.keep a u h1 h2)
    rcases hN a z with h | h
    · exact h1 h
    · rw [h] at h2
      cases h2
  there := fun a h => c.there a (g.there a h)
theorem Go.trans (g : Go M Hs H Hs' H') (c : Go M Hs' H' Hs2 H2) : Go M Hs H Hs2 H2 := g.call c fun _ h => .inl h
theorem Go.pure (g : Go M Hs H Hs' H') (c : Go [] Hs' H' Hs2 H2) : Go M Hs H Hs2 H2 := g.call c fun _ h => nomatch h
theorem Go.mono (g : Go M Hs H Hs' H') (h : ∀ a, a ∈ M → a ∈ N) : Go N Hs H Hs' H' := ⟨g.p, g.sub, g.new, fun a u h1 h2 => g.keep a u (fun z => h1 (h a z)) h2, g.there⟩
theorem Go.any (g : Go [] Hs H Hs' H') : Go N Hs H Hs' H' := g.mono fun _ h => nomatch h
/-- a new object that stands for ever -/
theorem Go.laid (s : Same Hs H) (hp : H p = none) : Go M Hs H (upd Hs p o) (upd H p o) := by
  refine ⟨same_upd (none_sub s hp), same_upd2 s, fun a h1 h2 => ?_, fun a u _ h => same_upd hp a u h, fun a h => ?_⟩
  · by_cases e : a = p
    · rw [e]
      exact hp
    · rw [upd_ne e] at h1
      exact absurd h2 h1
  · obtain ⟨u, e⟩ := ne_some h
    exact some_ne (same_upd hp a u e)
/-- a new object that will change -/
theorem Go.cell (s : Same Hs H) (hp : H p = none) : Go M Hs H Hs (upd H p o) := by
  refine ⟨Same.refl _, same_cell s (none_sub s hp), fun a h1 h2 => absurd h2 h1, fun a u _ h => same_upd hp a u h, fun a h => ?_⟩
  obtain ⟨u, e⟩ := ne_some h
  exact some_ne (same_upd hp a u e)
/-- a cell is changed -/
theorem Go.put (s : Same Hs H) (hp : Hs p = none) (hm : p ∈ M) : Go M Hs H Hs (upd H p o) := by
  refine ⟨Same.refl _, same_cell s hp, fun a h1 h2 => absurd h2 h1, fun a u h1 h => ?_, fun a h => ?_⟩
  · rw [upd_ne (fun z => h1 (by rw [z]; exact hm))]
    exact h
  · by_cases e : a = p
    · rw [e, upd_same]
      exact fun z => nomatch z
    · rw [upd_ne e]
      exact h
/-- a cell that changes no more -/
theorem Go.freeze (s : Same Hs H) (h : H p = some o) (hp : Hs p = none) : Same (upd Hs p o) H := fun b x e => by
  by_cases hb : b = p
  · rw [hb, upd_same] at e
    rw [hb, ← e]
    exact h
  · rw [upd_ne hb] at e
    exact s b x e
theorem Go.frozen (g : Go M Hs H Hs' H') (h : H' p = some o) (h0 : H p = none) (hp : Hs' p = none) : Go M Hs H (upd Hs' p o) H' := by
  refine ⟨g.p.trans (same_upd hp), Go.freeze g.sub h hp, fun a h1 h2 => ?_, g.keep, g.there⟩
  by_cases e : a = p
  · rw [e]
    exact h0
  · rw [upd_ne e] at h1
    exact g.new a h1 h2
/-- behind a step a cell is none of what stands -/
theorem Go.off (c : Go N Hs H Hs' H') (h : H p = some o) (hs : Hs p = none) : Hs' p = none := by
  cases e : Hs' p with
  | none => rfl
  | some u =>
    have := c.new p (some_ne e) hs
    rw [h] at this
    cases this
theorem Go.fresh (c : Go N Hs H Hs' H') (h : H' p = none) : H p = none := by
  cases e : H p with
  | none => rfl
  | some u => exact absurd h (c.there p (some_ne e))
end
/-- a step seen from a def's entry -/
structure Gone (M : List Addr) (Hs H Hs' H' : Hp) : Prop where
  g : Go M Hs H Hs' H'
section
variable {M N : List Addr} {Hs H Hs' H' Hs2 H2 : Hp} {p : Addr} {o : HO}
theorem Gone.refl (s : Same Hs H) : Gone M Hs H Hs H := ⟨Go.refl s⟩
theorem Gone.call (g : Gone M Hs H Hs' H') (c : Go N Hs' H' Hs2 H2) (hN : ∀ a, a ∈ N → a ∈ M ∨ H a = none) : Gone M Hs H Hs2 H2 := ⟨g.g.call c hN⟩
theorem Gone.trans (g : Gone M Hs H Hs' H') (c : Go M Hs' H' Hs2 H2) : Gone M Hs H Hs2 H2 := ⟨g.g.trans c⟩
theorem Gone.pure (g : Gone M Hs H Hs' H') (c : Go [] Hs' H' Hs2 H2) : Gone M Hs H Hs2 H2 := ⟨g.g.pure c⟩
theorem Gone.put (g : Gone M Hs H Hs' H') (hs : Hs' p = none) (hm : p ∈ M ∨ H p = none) : Gone M Hs H Hs' (upd H' p o) :=
  g.call (N := [p]) (Go.put g.g.sub hs (List.mem_singleton.mpr rfl)) fun a ha => by rw [List.mem_singleton.mp ha]; exact hm
theorem Gone.frozen (g : Gone M Hs H Hs' H') (h : H' p = some o) (h0 : H p = none) (hp : Hs' p = none) : Gone M Hs H (upd Hs' p o) H' := ⟨g.g.frozen h h0 hp⟩
end

/-! ### what stays -/
section
variable {K : PySem.W.Frag} {H H' : Hp} {a : Addr} {xs : List V}
theorem Same.sqt (e : Same H H') (h : SqT K H a xs) : SqT K H' a xs := by
  rcases h with (h | ⟨o, h⟩) | h
  · exact .inl (.inl (e _ _ h))
  · exact .inl (.inr ⟨o, e _ _ h⟩)
  · exact .inr h
mutual
theorem Same.dp (e : Same H H') : ∀ {v : V} {d : PyData}, Dp K H v d → Dp K H' v d
  | _, _, .non => .non
  | _, _, .bl b => .bl b
  | _, _, .int i => .int i
  | _, _, .str x => .str x
  | _, _, .lst h r => .lst (e.seq h) (Same.dps e r)
  | _, _, .tup h r => .tup (e.sqt h) (Same.dps e r)
theorem Same.dps (e : Same H H') : ∀ {vs : List V} {ds : List PyData}, DpAll K H vs ds → DpAll K H' vs ds
  | _, _, .nil => .nil
  | _, _, .cons h r => .cons (Same.dp e h) (Same.dps e r)
end
end

/-! ### readings, step by step -/
section
variable {σ : St} {H Hs : Hp} {Q : VK} {v x y : V} {i : Nat} {K : PySem.W.Frag} {ta tb tc te : TE} {tt tu : TT} {t u : TS} {D : Ends} {ar : TA} {g : TG} {gs : TGs}
theorem x_var (h : σ[i]? = some (some v)) (q : Q v H) : tVar i σ H Q := ⟨v, h, q⟩
theorem x_c (q : Q v H) : tC v σ H Q := q
theorem x_op {r : R2} (q : ta σ H fun x H1 => tb σ H1 fun y H2 => r x y H2 Q) : tOp r ta tb σ H Q := q
theorem x_un {r : V → Hp → VK → Prop} (q : ta σ H fun x H1 => r x H1 Q) : tUn r ta σ H Q := q
theorem x_seq (q : t { D with nx := u D } σ H) : tSeq t u D σ H := q
theorem x_asg (q : te σ H fun x H1 => g x σ H1 D.nx) : tAsg te g D σ H := q
theorem x_name {Qs : St → Hp → Prop} (q : Qs (σ.set i (some v)) H) : gName i v σ H Qs := q
theorem x_ret (q : te σ H D.rt) : tRet te D σ H := q
theorem x_drop (q : te σ H fun _ H1 => D.nx σ H1) : tDrop te D σ H := q
theorem x_next (q : D.nx σ H) : tNext D σ H := q
theorem x_ifs (q : tt σ H fun b H1 => if b = true then t D σ H1 else u D σ H1) : tIfS tt t u D σ H := q
theorem x_test {Qb : Bool → Hp → Prop} (q : te σ H fun x H' => ∃ k, x = .bl k ∧ Qb k H') : tTest te σ H Qb := q
theorem x_tB {Qb : Bool → Hp → Prop} (q : te σ H fun x H' => ∃ k, x = .bl k ∧ Qb k H') : tB te σ H Qb := q
theorem x_bl {b : Bool} {P : Bool → Prop} (q : P b) : ∃ k, V.bl b = .bl k ∧ P k := ⟨b, rfl, q⟩
theorem x_nil {Qa : List V → Hp → Prop} (q : Qa [] H) : tNil σ H Qa := q
theorem x_cons {Qa : List V → Hp → Prop} (q : ta σ H fun x H1 => ar σ H1 fun xs H2 => Qa (x :: xs) H2) : tCons ta ar σ H Qa := q
theorem x_cb {r : List V → Hp → VK → Prop} (q : ar σ H fun vs H1 => r vs H1 Q) : tCB r ar σ H Q := q
theorem x_not {Qb : Bool → Hp → Prop} (q : tt σ H fun c H1 => Qb (!c) H1) : tNot tt σ H Qb := q
theorem x_and {Qb : Bool → Hp → Prop} (q : tt σ H fun c H1 => if c = true then tu σ H1 Qb else Qb false H1) : tAnd tt tu σ H Qb := q
theorem x_or {Qb : Bool → Hp → Prop} (q : tt σ H fun c H1 => if c = true then Qb true H1 else tu σ H1 Qb) : tOr tt tu σ H Qb := q
theorem x_andV (q : ta σ H fun x H1 => ∃ c, x = .bl c ∧ if c = true then tb σ H1 Q else Q (.bl false) H1) : tAndV ta tb σ H Q := q
theorem x_orV (q : ta σ H fun x H1 => ∃ c, x = .bl c ∧ if c = true then Q (.bl true) H1 else tb σ H1 Q) : tOrV ta tb σ H Q := q
theorem x_notV (q : ta σ H fun x H1 => ∃ c, x = .bl c ∧ Q (.bl (!c)) H1) : tNotV ta σ H Q := q
theorem x_if (q : tt σ H fun c H1 => if c = true then ta σ H1 Q else tb σ H1 Q) : tIf tt ta tb σ H Q := q
theorem x_chain {r r' : R2} (q : ta σ H fun x H1 => tb σ H1 fun y H2 => r x y H2 fun z H3 => ∃ k, z = .bl k ∧ (if k = true then tc σ H3 fun w' H4 => r' y w' H4 Q else Q (.bl false) H3)) : tChain r r' ta tb tc σ H Q := q
theorem x_I0 {f : Int → Int → V} {i j : Int} (q : Q (f i j) H) : rI0 f (.int i) (.int j) H Q := ⟨i, j, rfl, rfl, q⟩
theorem x_I {C : Int → Int → Prop} {f : Int → Int → V} {i j : Int} (c : C i j) (q : Q (f i j) H) : rI C f (.int i) (.int j) H Q := ⟨i, j, rfl, rfl, c, q⟩
theorem x_U {f : Int → V} {i : Int} (q : Q (f i) H) : rU f (.int i) H Q := ⟨i, rfl, q⟩
theorem x_eq (h : scal x y = true) (q : Q (.bl (decide (x = y))) H) : rEq x y H Q := ⟨h, q⟩
theorem x_ne (h : scal x y = true) (q : Q (.bl (!decide (x = y))) H) : rNe x y H Q := ⟨h, q⟩
theorem x_ixL {a : Addr} {xs : List V} {i : Int} (h : SqL K H a xs) (e : atI xs i = some v) (q : Q v H) : rIxL K (.ref a) (.int i) H Q := ⟨a, xs, i, v, rfl, rfl, h, e, q⟩
theorem x_ixT {a : Addr} {xs : List V} {i : Int} (h : SqT K H a xs) (e : atI xs i = some v) (q : Q v H) : rIxT K (.ref a) (.int i) H Q := ⟨a, xs, i, v, rfl, rfl, h, e, q⟩
theorem x_ixS {z : Str} {i : Int} {c : Nat} (h : z.length ≤ sizeLine) (e : atI z.cps.toList i = some c) (q : Q (.str ⟨#[c]⟩) H) : rIxS (.str z) (.int i) H Q := ⟨z, i, c, rfl, rfl, h, e, q⟩
theorem x_addS {z w : Str} (h : z.length + w.length ≤ sizeLine) (q : Q (.str (z ++ w)) H) : zAddS (.str z) (.str w) H Q := ⟨z, w, rfl, rfl, h, q⟩
theorem x_tupA (q : ar σ H fun xs H1 => xs.length ≤ sizeLine ∧ ∀ p, H1 p = none → Q (.ref p) (upd H1 p (.tup xs))) : tTup ar σ H Q := q
theorem x_lstA (q : ar σ H fun xs H1 => xs.length ≤ sizeLine ∧ ∀ p, H1 p = none → Q (.ref p) (upd H1 p (.lst xs))) : tLst ar σ H Q := q
theorem x_bm {T : String} {r : V → List V → Hp → VK → Prop} (q : ta σ H fun x H1 => tyV K T x H1 ∧ ar σ H1 fun xs H2 => r x xs H2 Q) : tBM K T r ta ar σ H Q := q
theorem x_call {sp : Sp} {dvs : List V} {E : XK} (q : ar σ H fun vs H1 => sp (vs ++ dvs) H1 Q E) : tCall sp dvs E ar σ H Q := q
theorem x_callK {sp : Sp} {gV : List V → List V → List V} {E : XK} {ak : TA} (q : ar σ H fun vs H1 => ak σ H1 fun zs H2 => sp (gV vs zs) H2 Q E) : tCallK sp gV E ar ak σ H Q := q
theorem x_m1 {r : V → List V → Hp → VK → Prop} (q : ta σ H fun x H1 => (∃ a, x = .str a) ∧ te σ H1 fun y H2 => r x [y] H2 Q) : tM1 r ta te σ H Q := q
theorem x_isstr {z : Str} {P : Prop} (q : P) : (∃ a, V.str z = .str a) ∧ P := ⟨⟨z, rfl⟩, q⟩
theorem x_sub {ts : TSet} {Qs : St → Hp → Prop} (q : ta σ H fun o H1 => tb σ H1 fun i H2 => ts o i v H2 fun H3 => Qs σ H3) : gSub ta tb ts v σ H Qs := q
theorem x_setL {a : Addr} {xs : List V} {k : Int} {j : Nat} {Qh : Hp → Prop} (h : H a = some (.lst xs)) (e : ixN xs.length k = some j) (q : Qh (upd H a (.lst (xs.set j v)))) : rSetL (.ref a) (.int k) v H Qh := ⟨a, xs, k, j, rfl, rfl, h, e, q⟩
end

/-! ### the box of draws: [digits, seed, how many] -/
def BoxAt (H : Hp) (b : Addr) (k : Nat) : Prop := ∃ x y z : Int, H b = some (.lst [.int x, .int y, .int z]) ∧ 0 ≤ x ∧ 0 ≤ y ∧ y < 4611686018427387904 ∧ 0 ≤ z ∧ z + k ≤ 1099511627776
theorem BoxAt.some {H : Hp} {b : Addr} {k : Nat} (h : BoxAt H b k) : ∃ o, H b = some o := let ⟨_, _, _, e, _⟩ := h; ⟨_, e⟩
theorem BoxAt.mono {H : Hp} {b : Addr} {k j : Nat} (h : BoxAt H b k) (l : j ≤ k) : BoxAt H b j := let ⟨x, y, z, e, a, b, c, d, f⟩ := h; ⟨x, y, z, e, a, b, c, d, by omega⟩
theorem BoxAt.keep {M : List Addr} {Hs H Hs' H' : Hp} {b : Addr} {k : Nat} (h : BoxAt H b k) (c : Go M Hs H Hs' H') (n : b ∉ M) : BoxAt H' b k := let ⟨x, y, z, e, a, b, cc, d, f⟩ := h; ⟨x, y, z, c.keep _ _ n e, a, b, cc, d, f⟩
theorem BoxAt.off {M : List Addr} {Hs H Hs' H' : Hp} {b : Addr} {k : Nat} (h : BoxAt H b k) (c : Go M Hs H Hs' H') (n : Hs b = none) : Hs' b = none := let ⟨_, _, _, e, _⟩ := h; c.off e n
end L2

/-! ### what the common promises speak of -/
namespace L2
open PySem PySem.Spec PyProof.Rows
/-- what is picked from: a list, a tuple, a text's signs -/
def PickV (K : PySem.W.Frag) (Hs : Hp) (y : V) (xs : List V) : Prop :=
  (∃ l, y = .ref l ∧ (SqL K Hs l xs ∨ SqT K Hs l xs)) ∨ ∃ z : Str, y = .str z ∧ z.length ≤ sizeLine ∧ xs = z.cps.toList.map fun c => V.str ⟨#[c]⟩
/-- a NAME, sign by sign -/
def nameL (l : List Nat) : Bool := decide (1 ≤ l.length) && decide (l.length ≤ 8) && l.all fun c => decide (97 ≤ c) && decide (c ≤ 122)
def nameB (z : Str) : Bool := nameL z.cps.toList
/-- a list's pieces between strokes -/
def cutL (s : Nat) : List Nat → List (List Nat)
  | [] => [[]]
  | c :: r => if c = s then [] :: cutL s r else match cutL s r with
    | [] => [[c]]
    | p :: ps => (c :: p) :: ps
def tagL : List Nat := [116, 97, 103]
def pathL (l : List Nat) : Bool := decide ((cutL 47 l).length ≤ 3) && decide ((cutL 47 l).head? ≠ some tagL) && (cutL 47 l).all nameL
def pathB (z : Str) : Bool := pathL z.cps.toList
def nameD : PyData → Bool
  | .str z => nameB z
  | _ => false
def pathD : PyData → Bool
  | .str z => pathB z
  | _ => false
def NamesOk (names : List Str) : Prop := (∀ x ∈ names, nameB x = true) ∧ names.Nodup
/-- no dict, all within the lines -/
def fitD : PyData → Bool
  | .str z => decide (z.length ≤ 100000) && PyData.strOk z
  | .list ds => decide (ds.length ≤ 100000) && fitAll ds
  | .tuple ds => decide (ds.length ≤ 100000) && fitAll ds
  | .dict _ => false
  | _ => true
where fitAll : List PyData → Bool
  | [] => true
  | d :: ds => fitD d && fitAll ds
/-- alike kind by kind -/
def sameD : PyData → PyData → Bool
  | .none, .none => true
  | .bool a, .bool b => decide (a = b)
  | .int a, .int b => decide (a = b)
  | .str a, .str b => decide (a = b)
  | .list as, .list bs => sameAll as bs
  | .tuple as, .tuple bs => sameAll as bs
  | _, _ => false
where sameAll : List PyData → List PyData → Bool
  | [], [] => true
  | a :: as, b :: bs => sameD a b && sameAll as bs
  | _, _ => false
end L2

namespace L2
open PySem PySem.Spec PyProof.Rows
section
variable {σ : St} {H Hs : Hp} {Q : VK} {v x y : V} {i : Nat} {K : PySem.W.Frag} {ta tb tc te : TE} {tt tu : TT} {t u : TS} {D : Ends} {ar : TA} {g : TG} {gs : TGs}
theorem x_lenL {a : Addr} {xs : List V} (h : SqL K H a xs) (q : Q (.int xs.length) H) : zLenQ K [.ref a] H Q := ⟨a, xs, rfl, .inl h, q⟩
theorem x_lenT {a : Addr} {xs : List V} (h : SqT K H a xs) (q : Q (.int xs.length) H) : zLenQ K [.ref a] H Q := ⟨a, xs, rfl, .inr h, q⟩
theorem x_lenS {z : Str} (h : z.length ≤ sizeLine) (q : Q (.int z.length) H) : zLenS [.str z] H Q := ⟨z, rfl, h, q⟩
theorem x_abs {i : Int} (q : Q (.int (i.natAbs : Int)) H) : zAbs [.int i] H Q := ⟨i, rfl, by
  have e : (if i < 0 then -i else i) = (i.natAbs : Int) := by split <;> omega
  rw [e]
  exact q⟩
theorem x_int1b {b : Bool} (q : Q (.int (if b then 1 else 0)) H) : zInt1 [.bl b] H Q := .inr ⟨b, rfl, q⟩
theorem x_all {a : Addr} {bs : List Bool} (h : SqL K H a (bs.map V.bl)) (q : Q (.bl (bs.all id)) H) : rAll K [.ref a] H Q := ⟨a, bs, rfl, h, q⟩
theorem x_append {a : Addr} {xs : List V} (h : H a = some (.lst xs)) (l : xs.length < sizeLine) (q : Q .non (upd H a (.lst (xs ++ [v])))) : rAppend (.ref a) [v] H Q := ⟨a, xs, v, rfl, rfl, h, l, q⟩
theorem x_tyL {a : Addr} {xs : List V} {P : Prop} (h : SqL K H a xs) (q : P) : tyV K "list" (.ref a) H ∧ P := ⟨.inl ⟨rfl, _, h⟩, q⟩
theorem x_slL {a : Addr} {xs : List V} {lo hi : Option Int} (h : SqL K H a xs) (q : ∀ p, H p = none → Q (.ref p) (upd H p (.lst (cutV xs lo hi)))) : rSlL K (.ref a) lo hi H Q := ⟨a, xs, rfl, h, q⟩
theorem x_slS {z : Str} {lo hi : Option Int} (h : z.length ≤ sizeLine) (q : Q (.str (cutS z lo hi)) H) : rSlS (.str z) lo hi H Q := ⟨z, rfl, h, q⟩
theorem x_sl {r : V → Option Int → Option Int → Hp → VK → Prop} {tl th : TO} (q : te σ H fun x H1 => tl σ H1 fun lo H2 => th σ H2 fun hi H3 => r x lo hi H3 Q) : tSl r te tl th σ H Q := q
theorem x_nopart {Qo : Option Int → Hp → Prop} (q : Qo none H) : tNoPart σ H Qo := q
theorem x_part {Qo : Option Int → Hp → Prop} (q : te σ H fun x H1 => ∃ i, x = .int i ∧ Qo (some i) H1) : tPart te σ H Qo := q
theorem x_isint {i : Int} {P : Int → Prop} (q : P i) : ∃ j, V.int i = .int j ∧ P j := ⟨i, rfl, q⟩
theorem x_listOf {a : Addr} {xs : List V} (h : SqL K H a xs) (q : ∀ l, H l = none → Q (.ref l) (upd H l (.lst xs))) : zListOf K [.ref a] H Q := ⟨a, xs, rfl, .inl h, q⟩
theorem x_gcons {t : TG} {u : TGs} {r : List V} {Qs : St → Hp → Prop} (q : t v σ H fun σ' H' => u r σ' H' Qs) : gCons t u (v :: r) σ H Qs := ⟨v, r, rfl, q⟩
theorem x_gnil {Qs : St → Hp → Prop} (q : Qs σ H) : gNil [] σ H Qs := ⟨rfl, q⟩
theorem x_gtup {a : Addr} {xs : List V} {n : Nat} {t : TGs} {Qs : St → Hp → Prop} (h : SqT K H a xs) (l : xs.length = n) (q : t xs σ H Qs) : gTup K n t (.ref a) σ H Qs := ⟨a, xs, rfl, h, l, q⟩
theorem x_addSx {z w : Str} (h : z.length + w.length ≤ sizeLine) (q : Q (.str (z ++ w)) H) : zAddS (.str z) (.str w) H Q := ⟨z, w, rfl, rfl, h, q⟩
theorem x_par {i j : Nat} {v w : V} (q : D.nx ((σ.set i (some v)).set j (some w)) H) : ∃ v' w', [v, w] = [v', w'] ∧ D.nx ((σ.set i (some v')).set j (some w')) H := ⟨v, w, rfl, q⟩
theorem x_tpar {i j : Nat} (q : ar σ H fun vs H1 => ∃ v w, vs = [v, w] ∧ D.nx ((σ.set i (some v)).set j (some w)) H1) : tPar i j ar D σ H := q
theorem x_for {wi : TI} {tb : TS} (q : wi σ H fun J H1 => ∃ W : Nat → Nat → St → Hp → Prop, (∃ m, W 0 m σ H1) ∧ ∀ i m σ H, W i m σ H →
  (J.stop i H ∧ D.nx σ H) ∨ (J.go i H ∧ ∃ N : St → Hp → Prop, (∀ σ' H', N σ' H' → ∃ m', m' < m ∧ W (i + 1) m' σ' H') ∧ ∀ x H', J.yld i H x H' → g x σ H' fun σ2 H2 => tb { D with nx := N, ct := N, bk := D.nx } σ2 H2)) : tFor wi g tb D σ H := q
theorem x_rng1 {ta : TA} {R : It → Hp → Prop} (q : ta σ H fun vs H1 => ∃ j : Int, vs = [.int j] ∧ -(2 ^ 62) ≤ j ∧ j < 2 ^ 62 ∧ R (Itr 0 j.toNat) H1) : iRng1 ta σ H R := q
theorem x_rng1v {j : Int} {P : Int → Prop} (h1 : -(2 ^ 62) ≤ j) (h2 : j < 2 ^ 62) (q : P j) : ∃ i : Int, [V.int j] = [.int i] ∧ -(2 ^ 62) ≤ i ∧ i < 2 ^ 62 ∧ P i := ⟨j, rfl, h1, h2, q⟩
theorem x_istr {R : It → Hp → Prop} (q : te σ H fun v H1 => ∃ x, v = .str x ∧ R (Its x) H1) : iStr te σ H R := q
theorem x_strv {z : Str} {P : Str → Prop} (q : P z) : ∃ x, V.str z = .str x ∧ P x := ⟨z, rfl, q⟩
theorem x_ilist {tl : TE} {R : It → Hp → Prop} (q : tl σ H fun x H1 => ∃ a, x = .ref a ∧ (∃ xs, SqL K H1 a xs) ∧ R (Itl K a) H1) : iList K tl σ H R := q
theorem x_ilistv {a : Addr} {xs : List V} {P : Addr → Prop} (h : SqL K H a xs) (q : P a) : ∃ b, V.ref a = .ref b ∧ (∃ xs, SqL K H b xs) ∧ P b := ⟨a, rfl, ⟨xs, h⟩, q⟩
theorem x_ienum {ta : TA} {R : It → Hp → Prop} (q : ta σ H fun vs H1 => ∃ a xs, vs = [.ref a] ∧ SqL K H1 a xs ∧ R (Ite K a) H1) : iEnum K ta σ H R := q
theorem x_ienumv {a : Addr} {xs : List V} {P : Addr → Prop} (h : SqL K H a xs) (q : P a) : ∃ b xs, [V.ref a] = [.ref b] ∧ SqL K H b xs ∧ P b := ⟨a, xs, rfl, h, q⟩
/-- for over enumerate(a list that stands): the pair is new and forgotten -/
theorem for_enum {a : Addr} {xs : List V} (Pv : Nat → St → Hp → Prop) (h0 : Pv 0 σ H) (hl : ∀ i σ H, i ≤ xs.length → Pv i σ H → SqL K H a xs)
    (hs : ∀ (i : Nat) x σ H T, xs[i]? = some x → Pv i σ H → H T = none → g (.ref T) σ (upd H T (.tup [.int (i : Nat), x])) fun σ2 H2 => t { D with nx := Pv (i + 1), ct := Pv (i + 1), bk := D.nx } σ2 H2) (hd : ∀ σ H, Pv xs.length σ H → D.nx σ H) :
    ∃ W : Nat → Nat → St → Hp → Prop, (∃ m, W 0 m σ H) ∧ ∀ i m σ H, W i m σ H →
      ((Ite K a).stop i H ∧ D.nx σ H) ∨ ((Ite K a).go i H ∧ ∃ N : St → Hp → Prop, (∀ σ' H', N σ' H' → ∃ m', m' < m ∧ W (i + 1) m' σ' H') ∧ ∀ x H', (Ite K a).yld i H x H' → g x σ H' fun σ2 H2 => t { D with nx := N, ct := N, bk := D.nx } σ2 H2) := by
  refine ⟨fun i m σ H => m = xs.length - i ∧ i ≤ xs.length ∧ Pv i σ H, ⟨xs.length, by simp, Nat.zero_le _, h0⟩, ?_⟩
  rintro i m σ H ⟨rfl, hi, p⟩
  have q := hl i σ H hi p
  by_cases hlt : i < xs.length
  · refine .inr ⟨⟨xs, xs[i], q, by simp [hlt]⟩, Pv (i + 1), fun σ' H' p' => ⟨xs.length - (i + 1), by omega, rfl, hlt, p'⟩, fun x H' y => ?_⟩
    obtain ⟨T, z, rfl, hT, rfl, f⟩ := y
    have e := f _ q
    exact hs i z σ H T e p hT
  · have e : i = xs.length := by omega
    subst e
    exact .inl ⟨⟨xs, q, Nat.le_refl _⟩, hd σ H p⟩
/-- for over a text's signs -/
theorem for_str {z : Str} (Pv : Nat → St → Hp → Prop) (h0 : Pv 0 σ H)
    (hs : ∀ (i : Nat) c σ H, z.cps.toList[i]? = some c → Pv i σ H → g (.str ⟨#[c]⟩) σ H fun σ2 H2 => t { D with nx := Pv (i + 1), ct := Pv (i + 1), bk := D.nx } σ2 H2) (hd : ∀ σ H, Pv z.cps.toList.length σ H → D.nx σ H) :
    ∃ W : Nat → Nat → St → Hp → Prop, (∃ m, W 0 m σ H) ∧ ∀ i m σ H, W i m σ H →
      ((Its z).stop i H ∧ D.nx σ H) ∨ ((Its z).go i H ∧ ∃ N : St → Hp → Prop, (∀ σ' H', N σ' H' → ∃ m', m' < m ∧ W (i + 1) m' σ' H') ∧ ∀ x H', (Its z).yld i H x H' → g x σ H' fun σ2 H2 => t { D with nx := N, ct := N, bk := D.nx } σ2 H2) := by
  have el : z.cps.toList.length = z.cps.size := by simp
  refine ⟨fun i m σ H => m = z.cps.size - i ∧ i ≤ z.cps.size ∧ Pv i σ H, ⟨z.cps.size, by simp, Nat.zero_le _, h0⟩, ?_⟩
  rintro i m σ H ⟨rfl, hi, p⟩
  by_cases hlt : i < z.cps.size
  · refine .inr ⟨hlt, Pv (i + 1), fun σ' H' p' => ⟨z.cps.size - (i + 1), by omega, rfl, hlt, p'⟩, fun x H' y => ?_⟩
    obtain ⟨e, c, hc, rfl⟩ := y
    subst e
    exact hs i c σ H' (by simpa using hc) p
  · have e : i = z.cps.size := by omega
    subst e
    exact .inl ⟨Nat.le_refl _, hd σ H (by rw [el]; exact p)⟩
end
end L2

namespace L2
open PySem PySem.Spec PyProof.Rows
theorem wide_pos {j : Int} (h : 0 < j) (h2 : j < 4611686018427387904) {i : Int} : CDivW i j := ⟨h, (wide_div (i := i) (b := 62) h (by omega) (by decide) (by decide)).2⟩
theorem mulx_small {i j : Int} (h1 : i.natAbs < 18446744073709551616) (h2 : j.natAbs < 18446744073709551616) : CMulX i j := mulx_ok (a := 64) (b := 64) h1 h2 (by decide)
end L2

namespace L2
open PySem PySem.Spec PyProof.Rows
section
variable {Hs H : Hp} {p : Addr} {o : HO} {α β γ : Type} {a : α} {b : β} {c : γ}
/-- a new object that stands for ever -/
theorem x_new2 {F : α → Hp → Prop} (s : Same Hs H) (hp : H p = none) (q : ∀ Hs1 H1, Go [] Hs H Hs1 H1 → Hs1 p = some o → F a H1) : F a (upd H p o) := q _ _ (Go.laid s hp) upd_same
theorem x_new3 {F : α → Hp → β → Prop} (s : Same Hs H) (hp : H p = none) (q : ∀ Hs1 H1, Go [] Hs H Hs1 H1 → Hs1 p = some o → F a H1 b) : F a (upd H p o) b := q _ _ (Go.laid s hp) upd_same
theorem x_new4 {F : α → Hp → β → γ → Prop} (s : Same Hs H) (hp : H p = none) (q : ∀ Hs1 H1, Go [] Hs H Hs1 H1 → Hs1 p = some o → F a H1 b c) : F a (upd H p o) b c := q _ _ (Go.laid s hp) upd_same
/-- a new object that will change -/
theorem x_cell2 {F : α → Hp → Prop} (s : Same Hs H) (hp : H p = none) (q : ∀ H1, Go [] Hs H Hs H1 → Hs p = none → H1 p = some o → F a H1) : F a (upd H p o) := q _ (Go.cell s hp) (none_sub s hp) upd_same
theorem x_cell3 {F : α → Hp → β → Prop} (s : Same Hs H) (hp : H p = none) (q : ∀ H1, Go [] Hs H Hs H1 → Hs p = none → H1 p = some o → F a H1 b) : F a (upd H p o) b := q _ (Go.cell s hp) (none_sub s hp) upd_same
theorem x_cell4 {F : α → Hp → β → γ → Prop} (s : Same Hs H) (hp : H p = none) (q : ∀ H1, Go [] Hs H Hs H1 → Hs p = none → H1 p = some o → F a H1 b c) : F a (upd H p o) b c := q _ (Go.cell s hp) (none_sub s hp) upd_same
/-- a cell is changed -/
theorem x_put2 {F : α → Hp → Prop} (s : Same Hs H) (hs : Hs p = none) (q : ∀ H1, Go [p] Hs H Hs H1 → H1 p = some o → F a H1) : F a (upd H p o) := q _ (Go.put s hs (List.mem_singleton.mpr rfl)) upd_same
theorem x_put3 {F : α → Hp → β → Prop} (s : Same Hs H) (hs : Hs p = none) (q : ∀ H1, Go [p] Hs H Hs H1 → H1 p = some o → F a H1 b) : F a (upd H p o) b := q _ (Go.put s hs (List.mem_singleton.mpr rfl)) upd_same
end
end L2

namespace L2
open PySem PySem.Spec PyProof.Rows
section
variable {σ : St} {H Hs : Hp} {Q : VK} {v x y : V} {i : Nat} {K : PySem.W.Frag} {ta tb tc te : TE} {tt tu : TT} {t u : TS} {D : Ends} {ar : TA} {g : TG} {gs : TGs}
theorem x_lc {wi : TI} {vs : List Nat} (q : wi σ H fun J H1 => ∀ D, H1 D = none → ∃ W : Nat → Nat → Hp → Prop, (∃ m, W 0 m (upd H1 D (.lst []))) ∧ ∀ i m H, W i m H →
  (J.stop i H ∧ Q (.ref D) H) ∨ (J.go i H ∧ ∃ Nx : Hp → Prop, (∀ H', Nx H' → ∃ m', m' < m ∧ W (i + 1) m' H') ∧ ∀ x H', J.yld i H x H' → g x (wipe σ vs) H' fun σ2 H2 => wipe σ2 vs = wipe σ vs ∧ tt σ2 H2 fun b H3 =>
    if b = true then te σ2 H3 fun y H4 => ∃ acc, H4 D = some (.lst acc) ∧ acc.length < sizeLine ∧ Nx (upd H4 D (.lst (acc ++ [y]))) else Nx H3)) : tLc wi g tt te vs σ H Q := q
theorem x_yes {Qb : Bool → Hp → Prop} (q : Qb true H) : tYes σ H Qb := q
theorem x_cut (M : St → Hp → Prop) (h : t { D with nx := M } σ H) (k : ∀ σ' H', M σ' H' → u D σ' H') : C8.tCut t u D σ H := ⟨M, h, k⟩
theorem x_joinL {a : Str} {p : Addr} {ys : List Str} (h : SqL K H p (ys.map V.str)) (l : (ys.map (·.length)).sum + ys.length * a.length ≤ 16777216) (q : Q (.str (Txt.join a ys)) H) : zJoin K (.str a) [.ref p] H Q := ⟨a, p, ys, rfl, rfl, .inl h, l, q⟩
theorem x_split {a b : Str} (h1 : (b.length == 0) = false) (h2 : a.length + 2 ≤ sizeLine) (q : ∀ p, H p = none → Q (.ref p) (upd H p (.lst ((Txt.split a b).map V.str)))) : zSplit (.str a) [.str b] H Q := ⟨a, b, rfl, rfl, h1, h2, q⟩
theorem x_inL {neg : Bool} {p : Addr} {xs : List V} (h : SqL K H p xs) (h1 : flatV v = true) (h2 : xs.all flatV = true) (q : Q (.bl (if neg then !inV v xs else inV v xs)) H) : rIn K neg v (.ref p) H Q := ⟨p, xs, rfl, .inl h, h1, h2, q⟩
theorem x_inT {neg : Bool} {p : Addr} {xs : List V} (h : SqT K H p xs) (h1 : flatV v = true) (h2 : xs.all flatV = true) (q : Q (.bl (if neg then !inV v xs else inV v xs)) H) : rIn K neg v (.ref p) H Q := ⟨p, xs, rfl, .inr h, h1, h2, q⟩
/-- a comprehension over a text's signs -/
theorem lc_str {Qd : Hp → Prop} {z : Str} {vs : List Nat} {Dl : Addr} {te : TE} (Pv : Nat → Hp → Prop) (h0 : Pv 0 (upd H Dl (.lst [])))
    (hs : ∀ (i : Nat) (c : Nat) H', z.cps.toList[i]? = some c → Pv i H' → g (.str ⟨#[c]⟩) (wipe σ vs) H' fun σ2 H2 => wipe σ2 vs = wipe σ vs ∧ tt σ2 H2 fun b H3 =>
      if b = true then te σ2 H3 fun y H4 => ∃ acc, H4 Dl = some (.lst acc) ∧ acc.length < sizeLine ∧ Pv (i + 1) (upd H4 Dl (.lst (acc ++ [y]))) else Pv (i + 1) H3)
    (hd : ∀ H', Pv z.cps.toList.length H' → Qd H') :
    ∃ W : Nat → Nat → Hp → Prop, (∃ m, W 0 m (upd H Dl (.lst []))) ∧ ∀ i m H, W i m H →
  ((Its z).stop i H ∧ Qd H) ∨ ((Its z).go i H ∧ ∃ Nx : Hp → Prop, (∀ H', Nx H' → ∃ m', m' < m ∧ W (i + 1) m' H') ∧ ∀ x H', (Its z).yld i H x H' → g x (wipe σ vs) H' fun σ2 H2 => wipe σ2 vs = wipe σ vs ∧ tt σ2 H2 fun b H3 =>
    if b = true then te σ2 H3 fun y H4 => ∃ acc, H4 Dl = some (.lst acc) ∧ acc.length < sizeLine ∧ Nx (upd H4 Dl (.lst (acc ++ [y]))) else Nx H3) := by
  have el : z.cps.toList.length = z.cps.size := by simp
  refine ⟨fun i m H => m = z.cps.size - i ∧ i ≤ z.cps.size ∧ Pv i H, ⟨z.cps.size, by simp, Nat.zero_le _, h0⟩, ?_⟩
  rintro i m H ⟨rfl, hi, p⟩
  by_cases hlt : i < z.cps.size
  · refine .inr ⟨hlt, Pv (i + 1), fun H' p' => ⟨z.cps.size - (i + 1), by omega, rfl, hlt, p'⟩, fun x H' y => ?_⟩
    obtain ⟨e, c, hc, rfl⟩ := y
    subst e
    exact hs i c H' (by simpa using hc) p
  · have e : i = z.cps.size := by omega
    subst e
    exact .inl ⟨Nat.le_refl _, hd H (by rw [el]; exact p)⟩
end
theorem flat_strs (ys : List Str) : (ys.map V.str).all flatV = true := by
  rw [List.all_eq_true]
  intro x hx
  obtain ⟨y, _, rfl⟩ := List.mem_map.mp hx
  rfl
theorem inV_strs (x : Str) (ys : List Str) : inV (.str x) (ys.map V.str) = decide (x ∈ ys) := by
  unfold inV
  induction ys with
  | nil => rfl
  | cons y r ih =>
    rw [List.map_cons, List.any_cons, ih]
    have e : eqV (.str y) (.str x) = (y == x) := rfl
    rw [e, Bool.beq_eq_decide_eq]
    by_cases h : x = y
    · subst h; simp
    · have h2 : ¬ y = x := fun z => h z.symm
      simp [h, h2]
end L2

/-! plain laws: names, cuts, the words of texts -/
namespace L2
open PySem PySem.Spec PyProof.Rows TL

/-! ### cuts -/
theorem cut_ne (s : Nat) : ∀ l : List Nat, cutL s l ≠ []
  | [] => by simp [cutL]
  | c :: r => by
    unfold cutL
    split
    · simp
    · split <;> simp
theorem spl_cut (s : Nat) : ∀ (l acc : List Nat), ∃ p ps, cutL s l = p :: ps ∧ spl [s] 0 acc l = (acc ++ p) :: ps
  | [], acc => ⟨[], [], rfl, by rw [spl_nil, List.append_nil]⟩
  | c :: r, acc => by
    by_cases h : c = s
    · subst h
      obtain ⟨p, ps, e1, e2⟩ := spl_cut c r []
      refine ⟨[], p :: ps, ?_, ?_⟩
      · unfold cutL
        rw [if_pos rfl, e1]
      · rw [spl_hit (by unfold pre; simp)]
        show acc :: spl [c] 0 [] r = _
        rw [e2, List.append_nil, List.nil_append]
    · obtain ⟨p, ps, e1, e2⟩ := spl_cut s r (acc ++ [c])
      refine ⟨c :: p, ps, ?_, ?_⟩
      · show (if c = s then [] :: cutL s r else match cutL s r with
          | [] => [[c]]
          | p :: ps => (c :: p) :: ps) = _
        rw [if_neg h, e1]
      · rw [spl_miss (pre_of_head [] r h), e2, List.append_assoc]
        rfl
theorem spl_is_cut (s : Nat) (l : List Nat) : spl [s] 0 [] l = cutL s l := by
  obtain ⟨p, ps, e1, e2⟩ := spl_cut s l []
  rw [e1, e2, List.nil_append]
theorem split_cut (x : Str) {y : Str} {s : Nat} (hy : tl y = [s]) (hs : s < 256) : (Txt.split x y).map tl = cutL s (tl x) := by
  have hk : y.cps.all (· < 256) = true := by
    rw [← Array.all_toList]
    show (tl y).all _ = true
    rw [hy]
    simp [hs]
  rw [split_spl x y (by rw [hy]; simp) (kind_ok hk), hy, spl_is_cut]
theorem cut_len (s : Nat) : ∀ l : List Nat, (cutL s l).length ≤ l.length + 1
  | [] => by simp [cutL]
  | c :: r => by
    have ih := cut_len s r
    unfold cutL
    split
    · simp; omega
    · split
      · simp
      · rename_i p ps e
        rw [e] at ih
        simp at ih ⊢
        omega
theorem cut_part_len (s : Nat) : ∀ (l p : List Nat), p ∈ cutL s l → p.length ≤ l.length
  | [], p, h => by simp [cutL] at h; rw [h]; simp
  | c :: r, p, h => by
    have ih := cut_part_len s r
    unfold cutL at h
    split at h
    · rcases List.mem_cons.mp h with e | h
      · rw [e]; simp
      · have := ih p h
        simp; omega
    · split at h
      · rw [List.mem_singleton.mp h]; simp
      · rename_i q qs e
        rw [e] at ih
        rcases List.mem_cons.mp h with e2 | h
        · have := ih q (List.mem_cons_self ..)
          rw [e2]; simp; omega
        · have := ih p (List.mem_cons_of_mem _ h)
          simp; omega
/-! ### one sign -/
theorem tl_one (c : Nat) : tl (⟨#[c]⟩ : Str) = [c] := rfl
theorem len_one (c : Nat) : (⟨#[c]⟩ : Str).length = 1 := rfl
/-- signs joined by nothing -/
theorem joinL_nil : ∀ ps : List (List Nat), joinL [] ps = ps.flatten
  | [] => rfl
  | [p] => by simp [joinL]
  | p :: q :: r => by
    show p ++ ([] ++ joinL [] (q :: r)) = _
    rw [joinL_nil (q :: r)]
    simp
theorem join_none (ys : List Str) : tl (Txt.join "" ys) = (ys.map tl).flatten := by
  rw [join_eq, tl_join]
  have : tl ("" : Str) = [] := by decide +kernel
  rw [this, joinL_nil]
theorem join_signs (cs : List Nat) : tl (Txt.join "" (cs.map fun c => ⟨#[c]⟩)) = cs := by
  rw [join_none, List.map_map]
  induction cs with
  | nil => rfl
  | cons c r ih =>
    rw [List.map_cons, List.flatten_cons, ih]
    rfl
/-! ### a name of a list that has none of its ends -/
theorem nodup_le {α : Type} [DecidableEq α] : ∀ (l m : List α), l.Nodup → (∀ x ∈ l, x ∈ m) → l.length ≤ m.length
  | [], m, _, _ => Nat.zero_le _
  | a :: l, m, h, hs => by
    have ha : a ∈ m := hs a (List.mem_cons_self ..)
    have hn := List.nodup_cons.mp h
    have ih := nodup_le l (m.erase a) hn.2 fun x hx => (List.mem_erase_of_ne (fun z => hn.1 (by rw [← z]; exact hx))).mpr (hs x (List.mem_cons_of_mem _ hx))
    rw [List.length_erase_of_mem ha] at ih
    have : 0 < m.length := List.length_pos_of_mem ha
    simp
    omega
def alphaL : List Nat := [97, 98, 99, 100, 101, 102, 103, 104, 105, 106, 107, 108, 109, 110, 111, 112, 113, 114, 115, 116, 117, 118, 119, 120, 121, 122]
theorem tl_alpha : tl ("abcdefghijklmnopqrstuvwxyz" : Str) = alphaL := by decide +kernel
theorem alpha_at : ∀ i : Nat, i < 26 → alphaL[i]? = some (97 + i) := by decide
theorem mem_alpha {c : Nat} : c ∈ alphaL ↔ 97 ≤ c ∧ c ≤ 122 := by
  constructor
  · intro h
    have : ∀ x ∈ alphaL, 97 ≤ x ∧ x ≤ 122 := by decide
    exact this c h
  · intro ⟨h1, h2⟩
    have e := alpha_at (c - 97) (by omega)
    have := List.mem_of_getElem? e
    rw [show 97 + (c - 97) = c by omega] at this
    exact this
theorem name_iff {z : Str} : nameB z = true ↔ 1 ≤ (tl z).length ∧ (tl z).length ≤ 8 ∧ ∀ c ∈ tl z, 97 ≤ c ∧ c ≤ 122 := by
  unfold nameB nameL
  simp only [Bool.and_eq_true, decide_eq_true_eq, List.all_eq_true, and_assoc]
/-- the name behind a turn in which it was taken -/
def bentName (x : Str) (t : Nat) : Str := ⟨((tl x).take 6 ++ [97 + t / 26, 97 + t % 26]).toArray⟩
theorem tl_bent (x : Str) (t : Nat) : tl (bentName x t) = (tl x).take 6 ++ [97 + t / 26, 97 + t % 26] := rfl
theorem bent_ok {x : Str} {t : Nat} (h : nameB x = true) (ht : t ≤ 600) : nameB (bentName x t) = true := by
  rw [name_iff] at h ⊢
  obtain ⟨h1, h2, h3⟩ := h
  rw [tl_bent]
  refine ⟨by simp, by simp; omega, fun c hc => ?_⟩
  rcases List.mem_append.mp hc with hc | hc
  · exact h3 c (List.mem_of_mem_take hc)
  · simp at hc
    rcases hc with rfl | rfl
    · have : t / 26 ≤ 23 := by omega
      omega
    · have : t % 26 < 26 := Nat.mod_lt _ (by decide)
      omega
theorem bent_inj {x y : Str} {s t : Nat} (h : bentName x s = bentName y t) : s = t := by
  have e : tl (bentName x s) = tl (bentName y t) := by rw [h]
  rw [tl_bent, tl_bent] at e
  have e2 := (List.append_inj' e rfl).2
  injection e2 with a b
  injection b with b _
  omega
/-- behind t turns: x is none of them, or t unlike ones of them were gone through -/
def Tried (found : List Str) (t : Nat) (x : Str) : Prop := x ∉ found ∨ ∃ ls : List Str, ls.length = t ∧ ls.Nodup ∧ ∀ y ∈ ls, y ∈ found ∧ ∃ (z : Str) (j : Nat), j < t ∧ y = bentName z j
theorem tried_zero (found : List Str) (x : Str) : Tried found 0 x := .inr ⟨[], rfl, List.nodup_nil, fun _ h => nomatch h⟩
theorem tried_out {found : List Str} {t : Nat} {x : Str} (h : x ∉ found) : Tried found t x := .inl h
theorem tried_next {found : List Str} {t : Nat} {x : Str} (h : Tried found t x) (hx : x ∈ found) : Tried found (t + 1) (bentName x t) := by
  by_cases hb : bentName x t ∈ found
  · rcases h with h | ⟨ls, h1, h2, h3⟩
    · exact absurd hx h
    · refine .inr ⟨bentName x t :: ls, by rw [List.length_cons, h1], List.nodup_cons.mpr ⟨fun hm => ?_, h2⟩, fun y hy => ?_⟩
      · obtain ⟨_, z, j, hj, e⟩ := h3 _ hm
        have := bent_inj e
        omega
      · rcases List.mem_cons.mp hy with rfl | hy
        · exact ⟨hb, x, t, by omega, rfl⟩
        · obtain ⟨a, z, j, hj, e⟩ := h3 y hy
          exact ⟨a, z, j, by omega, e⟩
  · exact .inl hb
theorem tried_end {found : List Str} {x : Str} (h : Tried found (found.length + 1) x) : x ∉ found := by
  rcases h with h | ⟨ls, h1, h2, h3⟩
  · exact h
  · have := nodup_le ls found h2 fun y hy => (h3 y hy).1
    omega
def wordsL : List Str := ["page", "title", "day", "draft", "tags", "under", "old", "in", "use", "pages", "to", "when", "done", "path", "body", "inner", "nowhere", "tag", "none", "make"]
theorem words_split : Txt.split "page title day draft tags under old in use pages to when done path body inner nowhere tag none make" " " = wordsL := by
  refine map_tl_inj ?_
  rw [split_cut (s := 32) _ (by decide +kernel) (by decide)]
  decide +kernel
theorem words_ok : ∀ x ∈ wordsL, nameB x = true := by decide +kernel
end L2
namespace L2
open PySem PySem.Spec PyProof.Rows TL
theorem BoxAt.ne {H : Hp} {b p : Addr} {k : Nat} (h : BoxAt H b k) (n : H p = none) : p ≠ b := by
  obtain ⟨o, e⟩ := h.some
  exact (ne_of_none e n).symm
theorem out1 {p b : Addr} (h : p ≠ b) : p ∉ [b] := by
  rw [List.mem_singleton]
  exact h
theorem sum_ones (cs : List Nat) : ((cs.map fun c => (⟨#[c]⟩ : Str)).map (·.length)).sum = cs.length := by
  induction cs with
  | nil => rfl
  | cons c r ih =>
    rw [List.map_cons, List.map_cons, List.sum_cons, ih, List.length_cons]
    show 1 + r.length = r.length + 1
    omega
theorem take_drop_min {α : Type} (l : List α) (i j : Nat) : (l.drop (min i l.length)).take (min j l.length - min i l.length) = (l.drop i).take (j - i) := by
  rcases Nat.le_total i l.length with h | h
  · rw [Nat.min_eq_left h]
    rcases Nat.le_total j l.length with h2 | h2
    · rw [Nat.min_eq_left h2]
    · rw [Nat.min_eq_right h2, List.take_of_length_le (by rw [List.length_drop]; omega), List.take_of_length_le (by rw [List.length_drop]; omega)]
  · rw [Nat.min_eq_right h, List.drop_length, List.drop_of_length_le h, List.take_nil, List.take_nil]
theorem cutV_lh (xs : List V) (i j : Nat) : cutV xs (some (i : Int)) (some (j : Int)) = (xs.drop i).take (j - i) := by
  unfold cutV
  rw [HT.sIx_nat, HT.sIx_nat, take_drop_min]
theorem cutV_hi (xs : List V) (j : Nat) : cutV xs none (some (j : Int)) = xs.take j := by
  unfold cutV
  rw [HT.sIx_none, HT.sIx_nat, Nat.sub_zero, List.drop_zero]
  have := take_drop_min xs 0 j
  rw [Nat.zero_min, Nat.sub_zero, Nat.sub_zero, List.drop_zero] at this
  exact this
theorem cutV_lo (xs : List V) (i : Nat) : cutV xs (some (i : Int)) none = xs.drop i := by
  unfold cutV
  rw [HT.sIx_none, HT.sIx_nat, List.take_of_length_le (by rw [List.length_drop]; omega)]
  rcases Nat.le_total i xs.length with h | h
  · rw [Nat.min_eq_left h]
  · rw [Nat.min_eq_right h, List.drop_length, List.drop_of_length_le h]
theorem tl_cut_lh (z : Str) (i j : Nat) : tl (cutS z (some (i : Int)) (some (j : Int))) = ((tl z).drop i).take (j - i) := by
  show ((tl z).drop _).take _ = _
  rw [len_tl z, HT.sIx_nat, HT.sIx_nat]
  exact take_drop_min _ i j
theorem tl_cut_hi (z : Str) (j : Nat) : tl (cutS z none (some (j : Int))) = (tl z).take j := by
  show ((tl z).drop _).take _ = _
  rw [len_tl z, HT.sIx_none, HT.sIx_nat, Nat.sub_zero, List.drop_zero]
  have := take_drop_min (tl z) 0 j
  rw [Nat.zero_min, Nat.sub_zero, Nat.sub_zero, List.drop_zero] at this
  exact this
theorem tl_cut_lo (z : Str) (i : Nat) : tl (cutS z (some (i : Int)) none) = (tl z).drop i := by
  show ((tl z).drop _).take _ = _
  rw [len_tl z, HT.sIx_none, HT.sIx_nat, List.take_of_length_le (by rw [List.length_drop]; omega)]
  rcases Nat.le_total i (tl z).length with h | h
  · rw [Nat.min_eq_left h]
  · rw [Nat.min_eq_right h, List.drop_length, List.drop_of_length_le h]
end L2

namespace L2
open PySem PySem.Spec PyProof.Rows TL
theorem BoxAt.put_ne {H : Hp} {b p : Addr} {k : Nat} {o : HO} (h : BoxAt H b k) (n : p ≠ b) : BoxAt (upd H p o) b k := by
  obtain ⟨x, y, z, e, r⟩ := h
  exact ⟨x, y, z, by rw [upd_ne n.symm]; exact e, r⟩
theorem sz_lt {n : Nat} (h : n < 100000) : n < sizeLine := Nat.lt_of_lt_of_le h (by decide)
theorem sz_le {n : Nat} (h : n ≤ 100000) : n ≤ sizeLine := Nat.le_trans h (by decide)
end L2

/-! ### data: their types, isinstance, lengths -/
namespace L2
open PySem PySem.Spec PyProof.Rows TL
def tyN : PyData → String
  | .none => "NoneType"
  | .bool _ => "bool"
  | .int _ => "int"
  | .str _ => "str"
  | .list _ => "list"
  | .tuple _ => "tuple"
  | .dict _ => "dict"
theorem dp_ty {K : PySem.W.Frag} {H : Hp} {v : V} {d : PyData} (h : Dp K H v d) : TyX K H v (.type (tyN d)) := by
  cases h with
  | non => exact .base .non
  | bl b => exact .base (.bl b)
  | int i => exact .base (.int i)
  | str x => exact .base (.str x)
  | lst h r =>
    rcases h with (h | ⟨o, h⟩) | ⟨o, its, n, e, c, _⟩
    · exact .base (.lst h)
    · exact .base (.frz h)
    · exact .kList e c
  | tup h r =>
    rcases h with (h | ⟨o, h⟩) | ⟨o, its, n, e, c, _⟩
    · exact .base (.tup h)
    · exact .fTuple h
    · exact .kTuple e c
def kitBB (a b : String) : Bool := (kitB a b).getD false
theorem kit_all {K : PySem.W.Frag} {a b : String} (h : kitB a b = some (kitBB a b)) : PySem.W.kitOne K (.type a) (.type b) = some (kitBB a b) := kit_ty h
/-- isinstance of data, one class -/
theorem x_isi {K : PySem.W.Frag} {H : Hp} {Q : VK} {v : V} {d : PyData} {T : String} {b : Bool} (h : Dp K H v d) (e : kitB (tyN d) T = some b) (q : Q (.bl b) H) : rIsi K [v, .ty T] H Q := ⟨v, .ty T, _, _, b, rfl, .ty T, dp_ty h, kit_ty e, q⟩
def isD_list : PyData → Bool
  | .list _ => true
  | _ => false
theorem kit_list : ∀ d : PyData, fitD d = true → kitB (tyN d) "list" = some (isD_list d)
  | .none, _ => (by decide +kernel : kitB "NoneType" "list" = some false)
  | .bool _, _ => (by decide +kernel : kitB "bool" "list" = some false)
  | .int _, _ => (by decide +kernel : kitB "int" "list" = some false)
  | .str _, _ => (by decide +kernel : kitB "str" "list" = some false)
  | .list _, _ => (by decide +kernel : kitB "list" "list" = some true)
  | .tuple _, _ => (by decide +kernel : kitB "tuple" "list" = some false)
  | .dict _, h => (Bool.false_ne_true h).elim
def isD_tuple : PyData → Bool
  | .tuple _ => true
  | _ => false
theorem kit_tuple : ∀ d : PyData, fitD d = true → kitB (tyN d) "tuple" = some (isD_tuple d)
  | .none, _ => (by decide +kernel : kitB "NoneType" "tuple" = some false)
  | .bool _, _ => (by decide +kernel : kitB "bool" "tuple" = some false)
  | .int _, _ => (by decide +kernel : kitB "int" "tuple" = some false)
  | .str _, _ => (by decide +kernel : kitB "str" "tuple" = some false)
  | .list _, _ => (by decide +kernel : kitB "list" "tuple" = some false)
  | .tuple _, _ => (by decide +kernel : kitB "tuple" "tuple" = some true)
  | .dict _, h => (Bool.false_ne_true h).elim
def isD_str : PyData → Bool
  | .str _ => true
  | _ => false
theorem kit_str : ∀ d : PyData, fitD d = true → kitB (tyN d) "str" = some (isD_str d)
  | .none, _ => (by decide +kernel : kitB "NoneType" "str" = some false)
  | .bool _, _ => (by decide +kernel : kitB "bool" "str" = some false)
  | .int _, _ => (by decide +kernel : kitB "int" "str" = some false)
  | .str _, _ => (by decide +kernel : kitB "str" "str" = some true)
  | .list _, _ => (by decide +kernel : kitB "list" "str" = some false)
  | .tuple _, _ => (by decide +kernel : kitB "tuple" "str" = some false)
  | .dict _, h => (Bool.false_ne_true h).elim
def isD_bool : PyData → Bool
  | .bool _ => true
  | _ => false
theorem kit_bool : ∀ d : PyData, fitD d = true → kitB (tyN d) "bool" = some (isD_bool d)
  | .none, _ => (by decide +kernel : kitB "NoneType" "bool" = some false)
  | .bool _, _ => (by decide +kernel : kitB "bool" "bool" = some true)
  | .int _, _ => (by decide +kernel : kitB "int" "bool" = some false)
  | .str _, _ => (by decide +kernel : kitB "str" "bool" = some false)
  | .list _, _ => (by decide +kernel : kitB "list" "bool" = some false)
  | .tuple _, _ => (by decide +kernel : kitB "tuple" "bool" = some false)
  | .dict _, h => (Bool.false_ne_true h).elim
def isD_int : PyData → Bool
  | .int _ => true
  | .bool _ => true
  | _ => false
theorem kit_int : ∀ d : PyData, fitD d = true → kitB (tyN d) "int" = some (isD_int d)
  | .none, _ => (by decide +kernel : kitB "NoneType" "int" = some false)
  | .bool _, _ => (by decide +kernel : kitB "bool" "int" = some true)
  | .int _, _ => (by decide +kernel : kitB "int" "int" = some true)
  | .str _, _ => (by decide +kernel : kitB "str" "int" = some false)
  | .list _, _ => (by decide +kernel : kitB "list" "int" = some false)
  | .tuple _, _ => (by decide +kernel : kitB "tuple" "int" = some false)
  | .dict _, h => (Bool.false_ne_true h).elim
def isSeq : PyData → Bool
  | .list _ => true
  | .tuple _ => true
  | _ => false
/-- isinstance(v, (list, tuple)) -/
theorem x_isSeq {K : PySem.W.Frag} {H : Hp} {Q : VK} {v : V} {p : Addr} {d : PyData} (h : Dp K H v d) (f : fitD d = true) (hp : H p = some (.tup [.ty "list", .ty "tuple"])) (q : Q (.bl (isSeq d)) H) : rIsiT K [v, .ref p] H Q := by
  refine ⟨v, p, _, _, [.type "list", .type "tuple"], isSeq d, rfl, hp, .cons (.ty _) (.cons (.ty _) .nil), dp_ty h, ?_, q⟩
  refine kitAny_cons (kit_ty (kit_list d f)) (fun e => kitAny_cons (kit_ty (kit_tuple d f)) (fun e2 => ?_) fun e2 => ?_) fun e => ?_
  · rw [kitAny_nil]
    cases d <;> first | rfl | exact (Bool.noConfusion e) | exact (Bool.noConfusion e2)
  · cases d <;> first | rfl | exact (Bool.noConfusion e2)
  · cases d <;> first | rfl | exact (Bool.noConfusion e)
theorem dps_len {K : PySem.W.Frag} {H : Hp} : ∀ {vs : List V} {ds : List PyData}, DpAll K H vs ds → vs.length = ds.length
  | _, _, .nil => rfl
  | _, _, .cons _ r => congrArg Nat.succ (dps_len r)
theorem dps_get {K : PySem.W.Frag} {H : Hp} : ∀ {vs : List V} {ds : List PyData} {i : Nat} {v : V}, DpAll K H vs ds → vs[i]? = some v → ∃ d, ds[i]? = some d ∧ Dp K H v d
  | _, _, _, _, .nil, e => by simp at e
  | _, _, 0, _, .cons h r, e => by
    simp at e
    subst e
    exact ⟨_, rfl, h⟩
  | _, _, i + 1, _, .cons h r, e => by
    obtain ⟨d, h1, h2⟩ := dps_get (i := i) r (by simpa using e)
    exact ⟨d, by simpa using h1, h2⟩
theorem fit_get : ∀ {ds : List PyData} {i : Nat} {d : PyData}, fitD.fitAll ds = true → ds[i]? = some d → fitD d = true
  | [], _, _, _, e => by simp at e
  | d :: ds, 0, _, h, e => by
    simp at e
    subst e
    unfold fitD.fitAll at h
    exact (Bool.and_eq_true_iff.mp h).1
  | d :: ds, i + 1, _, h, e => by
    unfold fitD.fitAll at h
    exact fit_get (i := i) (Bool.and_eq_true_iff.mp h).2 (by simpa using e)
theorem dep_get : ∀ {ds : List PyData} {i : Nat} {d : PyData}, ds[i]? = some d → PyData.depth d ≤ PyData.depthAll ds
  | [], _, _, e => by simp at e
  | d :: ds, 0, _, e => by
    simp at e
    subst e
    unfold PyData.depthAll
    exact Nat.le_max_left _ _
  | d :: ds, i + 1, _, e => by
    have := dep_get (i := i) (d := _) (ds := ds) (by simpa using e)
    unfold PyData.depthAll
    exact Nat.le_trans this (Nat.le_max_right _ _)
mutual
theorem fit_lay : ∀ d : PyData, fitD d = true → d.canLay0 = true
  | .none, _ => by simp [PyData.canLay0]
  | .bool _, _ => by simp [PyData.canLay0]
  | .int _, _ => by simp [PyData.canLay0]
  | .str z, h => by
    unfold fitD at h
    rw [PyData.canLay0]
    exact (Bool.and_eq_true_iff.mp h).2
  | .list ds, h => by
    unfold fitD at h
    rw [PyData.canLay0]
    exact fits_lay ds (Bool.and_eq_true_iff.mp h).2
  | .tuple ds, h => by
    unfold fitD at h
    rw [PyData.canLay0]
    exact fits_lay ds (Bool.and_eq_true_iff.mp h).2
  | .dict _, h => by
    unfold fitD at h
    exact (Bool.false_ne_true h).elim
theorem fits_lay : ∀ ds : List PyData, fitD.fitAll ds = true → PyData.canLayAll0 ds = true
  | [], _ => by simp [PyData.canLayAll0]
  | d :: ds, h => by
    unfold fitD.fitAll at h
    have h2 := Bool.and_eq_true_iff.mp h
    rw [PyData.canLayAll0, fit_lay d h2.1, fits_lay ds h2.2]
    rfl
end
theorem shaped_fit {d : PyData} (h : fitD d = true) (l : PyData.depth d ≤ 64) : SeqAt.shaped d = true := by
  unfold SeqAt.shaped
  rw [fit_lay d h, decide_eq_true l]
  rfl
/-- all of the pairs alike, told pair by pair -/
def zipSame (as bs : List PyData) (k : Nat) : List Bool := ((as.zip bs).take k).map fun p => sameD p.1 p.2
theorem same_zip : ∀ as bs : List PyData, (decide (as.length = bs.length) && ((as.zip bs).map fun p => sameD p.1 p.2).all id) = sameD.sameAll as bs
  | [], [] => rfl
  | [], _ :: _ => by simp [sameD.sameAll]
  | _ :: _, [] => by simp [sameD.sameAll]
  | a :: as, b :: bs => by
    have ih := same_zip as bs
    rw [List.zip_cons_cons, List.map_cons, List.all_cons]
    unfold sameD.sameAll
    rw [← ih]
    simp only [List.length_cons, Nat.add_right_cancel_iff, id_eq]
    cases sameD a b <;> cases decide (as.length = bs.length) <;> simp
/-- a comprehension over zip of two lists that stand -/
theorem lc_zip {Qd : Hp → Prop} {K : PySem.W.Frag} {σ : St} {H : Hp} {g : TG} {tt : TT} {te : TE} {vs : List Nat} {Dl a b : Addr} {xs ys : List V} (Pv : Nat → Hp → Prop) (h0 : Pv 0 (upd H Dl (.lst [])))
    (hl : ∀ i H, i ≤ min xs.length ys.length → Pv i H → SqL K H a xs ∧ SqL K H b ys)
    (hs : ∀ (i : Nat) x y H' T, xs[i]? = some x → ys[i]? = some y → Pv i H' → H' T = none → g (.ref T) (wipe σ vs) (upd H' T (.tup [x, y])) fun σ2 H2 => wipe σ2 vs = wipe σ vs ∧ tt σ2 H2 fun b H3 =>
      if b = true then te σ2 H3 fun y H4 => ∃ acc, H4 Dl = some (.lst acc) ∧ acc.length < sizeLine ∧ Pv (i + 1) (upd H4 Dl (.lst (acc ++ [y]))) else Pv (i + 1) H3)
    (hd : ∀ H', Pv (min xs.length ys.length) H' → Qd H') :
    ∃ W : Nat → Nat → Hp → Prop, (∃ m, W 0 m (upd H Dl (.lst []))) ∧ ∀ i m H, W i m H →
  ((Itz K a b).stop i H ∧ Qd H) ∨ ((Itz K a b).go i H ∧ ∃ Nx : Hp → Prop, (∀ H', Nx H' → ∃ m', m' < m ∧ W (i + 1) m' H') ∧ ∀ x H', (Itz K a b).yld i H x H' → g x (wipe σ vs) H' fun σ2 H2 => wipe σ2 vs = wipe σ vs ∧ tt σ2 H2 fun b H3 =>
    if b = true then te σ2 H3 fun y H4 => ∃ acc, H4 Dl = some (.lst acc) ∧ acc.length < sizeLine ∧ Nx (upd H4 Dl (.lst (acc ++ [y]))) else Nx H3) := by
  refine ⟨fun i m H => m = min xs.length ys.length - i ∧ i ≤ min xs.length ys.length ∧ Pv i H, ⟨_, rfl, Nat.zero_le _, h0⟩, ?_⟩
  rintro i m H ⟨rfl, hi, p⟩
  obtain ⟨q1, q2⟩ := hl i H hi p
  by_cases hlt : i < min xs.length ys.length
  · have l1 : i < xs.length := by omega
    have l2 : i < ys.length := by omega
    refine .inr ⟨⟨xs, ys, xs[i], ys[i], q1, q2, List.getElem?_eq_getElem l1, List.getElem?_eq_getElem l2⟩, Pv (i + 1), fun H' p' => ⟨min xs.length ys.length - (i + 1), by omega, rfl, hlt, p'⟩, fun x H' y => ?_⟩
    obtain ⟨T, x1, x2, rfl, hT, rfl, f1, f2⟩ := y
    exact hs i x1 x2 H T (f1 _ q1) (f2 _ q2) p hT
  · have e : i = min xs.length ys.length := by omega
    subst e
    refine .inl ⟨⟨xs, ys, q1, q2, ?_⟩, hd H p⟩
    rcases Nat.le_total xs.length ys.length with h | h
    · rw [Nat.min_eq_left h]; exact .inl (Nat.le_refl _)
    · rw [Nat.min_eq_right h]; exact .inr (Nat.le_refl _)
theorem lc_zipT {Qd : Hp → Prop} {K : PySem.W.Frag} {σ : St} {H : Hp} {g : TG} {tt : TT} {te : TE} {vs : List Nat} {Dl a b : Addr} {xs ys : List V} (Pv : Nat → Hp → Prop) (h0 : Pv 0 (upd H Dl (.lst [])))
    (hl : ∀ i H, i ≤ min xs.length ys.length → Pv i H → SqT K H a xs ∧ SqT K H b ys)
    (hs : ∀ (i : Nat) x y H' T, xs[i]? = some x → ys[i]? = some y → Pv i H' → H' T = none → g (.ref T) (wipe σ vs) (upd H' T (.tup [x, y])) fun σ2 H2 => wipe σ2 vs = wipe σ vs ∧ tt σ2 H2 fun b H3 =>
      if b = true then te σ2 H3 fun y H4 => ∃ acc, H4 Dl = some (.lst acc) ∧ acc.length < sizeLine ∧ Pv (i + 1) (upd H4 Dl (.lst (acc ++ [y]))) else Pv (i + 1) H3)
    (hd : ∀ H', Pv (min xs.length ys.length) H' → Qd H') :
    ∃ W : Nat → Nat → Hp → Prop, (∃ m, W 0 m (upd H Dl (.lst []))) ∧ ∀ i m H, W i m H →
  ((RZ.ItzT K a b).stop i H ∧ Qd H) ∨ ((RZ.ItzT K a b).go i H ∧ ∃ Nx : Hp → Prop, (∀ H', Nx H' → ∃ m', m' < m ∧ W (i + 1) m' H') ∧ ∀ x H', (RZ.ItzT K a b).yld i H x H' → g x (wipe σ vs) H' fun σ2 H2 => wipe σ2 vs = wipe σ vs ∧ tt σ2 H2 fun b H3 =>
    if b = true then te σ2 H3 fun y H4 => ∃ acc, H4 Dl = some (.lst acc) ∧ acc.length < sizeLine ∧ Nx (upd H4 Dl (.lst (acc ++ [y]))) else Nx H3) := by
  refine ⟨fun i m H => m = min xs.length ys.length - i ∧ i ≤ min xs.length ys.length ∧ Pv i H, ⟨_, rfl, Nat.zero_le _, h0⟩, ?_⟩
  rintro i m H ⟨rfl, hi, p⟩
  obtain ⟨q1, q2⟩ := hl i H hi p
  by_cases hlt : i < min xs.length ys.length
  · have l1 : i < xs.length := by omega
    have l2 : i < ys.length := by omega
    refine .inr ⟨⟨xs, ys, xs[i], ys[i], q1, q2, List.getElem?_eq_getElem l1, List.getElem?_eq_getElem l2⟩, Pv (i + 1), fun H' p' => ⟨min xs.length ys.length - (i + 1), by omega, rfl, hlt, p'⟩, fun x H' y => ?_⟩
    obtain ⟨T, x1, x2, rfl, hT, rfl, f1, f2⟩ := y
    exact hs i x1 x2 H T (f1 _ q1) (f2 _ q2) p hT
  · have e : i = min xs.length ys.length := by omega
    subst e
    refine .inl ⟨⟨xs, ys, q1, q2, ?_⟩, hd H p⟩
    rcases Nat.le_total xs.length ys.length with h | h
    · rw [Nat.min_eq_left h]; exact .inl (Nat.le_refl _)
    · rw [Nat.min_eq_right h]; exact .inr (Nat.le_refl _)
end L2

namespace L2
open PySem PySem.Spec PyProof.Rows TL
section
variable {σ : St} {H Hs : Hp} {Q : VK} {v x y : V} {K : PySem.W.Frag}
theorem x_eqO {r : R2} (h : scal x y = true) (q : Q (.bl (decide (x = y))) H) : zOr rEq r x y H Q := .inl ⟨h, q⟩
theorem x_eqD {r : R2} {d e : PyData} (h1 : Dp K H x d) (h2 : Dp K H y e) (s1 : SeqAt.shaped d = true) (s2 : SeqAt.shaped e = true) (q : Q (.bl (PyData.eqv d e)) H) : zOr r (rEqD K) x y H Q := .inr ⟨d, e, h1, h2, s1, s2, q⟩
theorem x_lenAL {a : Addr} {xs : List V} (h : SqL K H a xs) (q : Q (.int xs.length) H) : zLenA K [.ref a] H Q := ⟨_, _, rfl, .inl ⟨xs, h, rfl⟩, q⟩
theorem x_lenAT {a : Addr} {xs : List V} (h : SqT K H a xs) (q : Q (.int xs.length) H) : zLenA K [.ref a] H Q := ⟨_, _, rfl, .inr ⟨xs, h, rfl⟩, q⟩
theorem x_isN (q : Q (.bl (decide (x = .non))) H) : zIsN x .non H Q := ⟨rfl, q⟩
theorem x_isNotN (q : Q (.bl (!decide (x = .non))) H) : zIsNotN x .non H Q := ⟨rfl, q⟩
theorem x_izip {ta : TA} {R : It → Hp → Prop} (q : ta σ H fun vs H1 => ∃ a b xs ys, vs = [.ref a, .ref b] ∧ ((SqL K H1 a xs ∧ SqL K H1 b ys ∧ R (Itz K a b) H1) ∨ (SqT K H1 a xs ∧ SqT K H1 b ys ∧ R (RZ.ItzT K a b) H1))) : RZ.iZipA K ta σ H R := q
theorem x_izipL {a b : Addr} {xs ys : List V} {R : It → Prop} (h1 : SqL K H a xs) (h2 : SqL K H b ys) (q : R (Itz K a b)) : ∃ a' b' xs ys, [V.ref a, V.ref b] = [.ref a', .ref b'] ∧ ((SqL K H a' xs ∧ SqL K H b' ys ∧ R (Itz K a' b')) ∨ (SqT K H a' xs ∧ SqT K H b' ys ∧ R (RZ.ItzT K a' b'))) := ⟨a, b, xs, ys, rfl, .inl ⟨h1, h2, q⟩⟩
theorem x_izipT {a b : Addr} {xs ys : List V} {R : It → Prop} (h1 : SqT K H a xs) (h2 : SqT K H b ys) (q : R (RZ.ItzT K a b)) : ∃ a' b' xs ys, [V.ref a, V.ref b] = [.ref a', .ref b'] ∧ ((SqL K H a' xs ∧ SqL K H b' ys ∧ R (Itz K a' b')) ∨ (SqT K H a' xs ∧ SqT K H b' ys ∧ R (RZ.ItzT K a' b'))) := ⟨a, b, xs, ys, rfl, .inr ⟨h1, h2, q⟩⟩
end
theorem zipSame_zero (as bs : List PyData) : zipSame as bs 0 = [] := by
  unfold zipSame
  rw [List.take_zero]
  rfl
theorem zipSame_succ {as bs : List PyData} {i : Nat} {a b : PyData} (h1 : as[i]? = some a) (h2 : bs[i]? = some b) : zipSame as bs (i + 1) = zipSame as bs i ++ [sameD a b] := by
  unfold zipSame
  have e : (as.zip bs)[i]? = some (a, b) := List.getElem?_zip_eq_some.mpr ⟨h1, h2⟩
  rw [List.take_add_one, e]
  simp
theorem zipSame_all {as bs : List PyData} {i : Nat} (h : min as.length bs.length ≤ i) : zipSame as bs i = (as.zip bs).map fun p => sameD p.1 p.2 := by
  unfold zipSame
  rw [List.take_of_length_le (by rw [List.length_zip]; exact h)]
end L2

namespace L2
open PySem PySem.Spec PyProof.Rows TL
section
variable {σ : St} {H Hs : Hp} {Q : VK} {v x y : V} {K : PySem.W.Frag}
theorem x_inSg {c : Nat} {z : Str} (q : Q (.bl (decide (c ∈ tl z))) H) : zInSg (.str ⟨#[c]⟩) (.str z) H Q := ⟨c, z, rfl, rfl, q⟩
theorem x_leS {z w : Str} (q : Q (.bl (!decide (tl w < tl z))) H) : zLtES (.str z) (.str w) H Q := ⟨z, w, rfl, rfl, q⟩
theorem x_ltS {z w : Str} (q : Q (.bl (decide (tl z < tl w))) H) : zLtS (.str z) (.str w) H Q := ⟨z, w, rfl, rfl, q⟩
theorem x_gstarL {a : Addr} {xs : List V} {n i : Nat} {t : TGs} {Qs : St → Hp → Prop} (h : SqL K H a xs) (l : n ≤ xs.length + 1)
    (q : ∀ D, H D = none → t (xs.take i ++ [.ref D] ++ (xs.drop i).drop (xs.length + 1 - n)) σ (upd H D (.lst ((xs.drop i).take (xs.length + 1 - n)))) Qs) : gStarL K n i t (.ref a) σ H Qs := ⟨a, xs, rfl, h, l, q⟩
theorem x_cat {a b : Addr} {xs ys : List V} (h1 : H a = some (.lst xs)) (h2 : H b = some (.lst ys)) (l : xs.length + ys.length ≤ sizeLine) (q : ∀ p, H p = none → Q (.ref p) (upd H p (.lst (xs ++ ys)))) : rCat (.ref a) (.ref b) H Q := ⟨a, b, xs, ys, rfl, rfl, h1, h2, l, q⟩
theorem x_rep {a : Addr} {xs : List V} {k : Int} (h : H a = some (.lst xs)) (h1 : -(2 ^ 63) ≤ k) (h2 : k < 2 ^ 63) (l : xs.length * k.toNat ≤ sizeLine) (q : ∀ p, H p = none → Q (.ref p) (upd H p (.lst (List.replicate k.toNat xs).flatten))) : rRep (.ref a) (.int k) H Q := ⟨a, k, xs, rfl, rfl, h, h1, h2, l, q⟩
end
theorem fit_str {z : Str} (h : fitD (.str z) = true) : z.length ≤ 100000 ∧ PyData.strOk z = true := by
  unfold fitD at h
  have := Bool.and_eq_true_iff.mp h
  exact ⟨of_decide_eq_true this.1, this.2⟩
theorem in_alpha (c : Nat) : decide (c ∈ tl ("abcdefghijklmnopqrstuvwxyz" : Str)) = (decide (97 ≤ c) && decide (c ≤ 122)) := by
  rw [tl_alpha, ← Bool.decide_and]
  exact decide_eq_decide.mpr mem_alpha
theorem bl_take {α : Type} (f : α → Bool) {l : List α} {i : Nat} {c : α} (h : l[i]? = some c) : ((l.take (i + 1)).map fun c => V.bl (f c)) = ((l.take i).map fun c => V.bl (f c)) ++ [V.bl (f c)] := by
  rw [List.take_add_one, h, List.map_append]
  rfl
theorem all_map (f : Nat → Bool) (l : List Nat) : (l.map f).all id = l.all f := by
  rw [List.all_map]
  rfl
theorem nameB_eq (z : Str) : nameB z = (decide (1 ≤ z.length) && decide (z.length ≤ 8) && (tl z).all fun c => decide (97 ≤ c) && decide (c ≤ 122)) := by
  unfold nameB nameL
  rw [len_tl z]
end L2

namespace L2
open PySem PySem.Spec PyProof.Rows TL
theorem cut_mem (s : Nat) : ∀ (l p : List Nat), p ∈ cutL s l → ∀ c ∈ p, c ∈ l
  | [], p, h, c, hc => by simp [cutL] at h; rw [h] at hc; simp at hc
  | d :: r, p, h, c, hc => by
    have ih := cut_mem s r
    unfold cutL at h
    split at h
    · rcases List.mem_cons.mp h with e | h
      · rw [e] at hc; simp at hc
      · exact List.mem_cons_of_mem _ (ih p h c hc)
    · split at h
      · rw [List.mem_singleton.mp h] at hc
        rw [List.mem_singleton.mp hc]
        exact List.mem_cons_self ..
      · rename_i q qs e
        rw [e] at ih
        rcases List.mem_cons.mp h with e2 | h
        · rw [e2] at hc
          rcases List.mem_cons.mp hc with e3 | hc
          · rw [e3]; exact List.mem_cons_self ..
          · exact List.mem_cons_of_mem _ (ih q (List.mem_cons_self ..) c hc)
        · exact List.mem_cons_of_mem _ (ih p (List.mem_cons_of_mem _ h) c hc)
theorem strOk_iff {z : Str} : PyData.strOk z = true ↔ ∀ c ∈ tl z, c < 1114112 := by
  unfold PyData.strOk
  rw [← Array.all_toList, List.all_eq_true]
  constructor
  · intro h c hc
    exact of_decide_eq_true (h c hc)
  · intro h c hc
    exact decide_eq_true (h c hc)
/-- a text of so many signs, all of them signs -/
def TxtOk (n : Nat) (z : Str) : Prop := z.length ≤ n ∧ PyData.strOk z = true
theorem TxtOk.fit {n : Nat} {z : Str} (h : TxtOk n z) (l : n ≤ 100000) : fitD (.str z) = true := by
  unfold fitD
  rw [decide_eq_true (Nat.le_trans h.1 l), h.2]
  rfl
theorem TxtOk.mono {n m : Nat} {z : Str} (h : TxtOk n z) (l : n ≤ m) : TxtOk m z := ⟨Nat.le_trans h.1 l, h.2⟩
theorem name_txt {z : Str} (h : nameB z = true) : TxtOk 8 z := by
  obtain ⟨h1, h2, h3⟩ := name_iff.mp h
  exact ⟨by rw [len_tl]; exact h2, strOk_iff.mpr fun c hc => by have := h3 c hc; omega⟩
/-- a text cut at a sign -/
theorem split_parts (z : Str) {y : Str} {s : Nat} (hy : tl y = [s]) (hs : s < 256) : ∃ f rs, Txt.split z y = f :: rs ∧ cutL s (tl z) = tl f :: rs.map tl ∧ rs.length ≤ z.length ∧
    ∀ p ∈ f :: rs, p.length ≤ z.length ∧ ∀ c ∈ tl p, c ∈ tl z := by
  have e := split_cut z hy hs
  have hl := cut_len s (tl z)
  have h1 := cut_part_len s (tl z)
  have h2 := cut_mem s (tl z)
  rw [← e] at hl h1 h2
  cases hp : Txt.split z y with
  | nil =>
    rw [hp] at e
    exact absurd e.symm (cut_ne s (tl z))
  | cons f rs =>
    rw [hp] at e hl h1 h2
    refine ⟨f, rs, rfl, e.symm, ?_, fun p hm => ?_⟩
    · rw [List.map_cons, List.length_cons, List.length_map] at hl
      rw [len_tl z]
      omega
    · have hm2 : tl p ∈ (f :: rs).map tl := List.mem_map.mpr ⟨p, hm, rfl⟩
      exact ⟨by rw [len_tl p, len_tl z]; exact h1 _ hm2, h2 _ hm2⟩
theorem tl_tag : tl ("tag" : Str) = tagL := by decide +kernel
theorem str_eq_iff {x y : Str} : x = y ↔ tl x = tl y := ⟨fun h => by rw [h], ext_tl⟩
theorem path_parts {z f : Str} {rs : List Str} (e : cutL 47 (tl z) = tl f :: rs.map tl) : pathB z = (decide (rs.length < 3) && (!decide (f = "tag") && (f :: rs).all nameB)) := by
  unfold pathB pathL
  have e1 : z.cps.toList = tl z := rfl
  rw [e1, e]
  have a1 : decide ((tl f :: rs.map tl).length ≤ 3) = decide (rs.length < 3) := by
    rw [List.length_cons, List.length_map]
    exact decide_eq_decide.mpr ⟨fun h => by omega, fun h => by omega⟩
  have a2 : decide ((tl f :: rs.map tl).head? ≠ some tagL) = !decide (f = "tag") := by
    rw [List.head?_cons, ← decide_not]
    refine decide_eq_decide.mpr ?_
    rw [str_eq_iff, tl_tag]
    exact not_congr ⟨Option.some.inj, congrArg some⟩
  have a3 : (tl f :: rs.map tl).all nameL = (f :: rs).all nameB := by
    rw [← List.map_cons, List.all_map]
    rfl
  rw [a1, a2, a3, Bool.and_assoc]
end L2

namespace L2
open PySem PySem.Spec PyProof.Rows TL
theorem Go.forget {M : List Addr} {Hs H Hs' H' : Hp} (g : Go M Hs H Hs' H') : Go M Hs H Hs H' := ⟨Same.refl _, g.p.trans g.sub, fun _ h1 h2 => absurd h2 h1, g.keep, g.there⟩
theorem Go.laidE {M : List Addr} {Hs H : Hp} {p : Addr} {o : HO} (s : Same Hs H) (hp : H p = none) : ∃ Hs1 H1, H1 = upd H p o ∧ Go M Hs H Hs1 H1 ∧ Hs1 p = some o := ⟨_, _, rfl, Go.laid s hp, upd_same⟩
theorem Go.cellE {M : List Addr} {Hs H : Hp} {p : Addr} {o : HO} (s : Same Hs H) (hp : H p = none) : ∃ H1, H1 = upd H p o ∧ Go M Hs H Hs H1 ∧ Hs p = none ∧ H1 p = some o := ⟨_, rfl, Go.cell s hp, none_sub s hp, upd_same⟩
theorem getV_map {α : Type} {f : α → V} {l : List α} {i : Nat} {x : V} (h : (l.map f)[i]? = some x) : ∃ y, l[i]? = some y ∧ x = f y := by
  rw [List.getElem?_map] at h
  cases e : l[i]? with
  | none => rw [e] at h; cases h
  | some w => rw [e] at h; exact ⟨w, rfl, (Option.some.inj h).symm⟩
end L2
namespace L2
open PySem PySem.Spec PyProof.Rows TL
theorem lt_sign (a b : Nat) : decide (([a] : List Nat) < [b]) = decide (a < b) := decide_eq_decide.mpr (by simp [List.cons_lt_cons_iff])
theorem le_a (c : Nat) : (!decide (tl (⟨#[c]⟩ : Str) < tl ("a" : Str))) = decide (97 ≤ c) := by
  rw [show tl ("a" : Str) = [97] by decide +kernel, tl_one, lt_sign, ← decide_not]
  exact decide_eq_decide.mpr (by omega)
theorem le_z (c : Nat) : (!decide (tl ("z" : Str) < tl (⟨#[c]⟩ : Str))) = decide (c ≤ 122) := by
  rw [show tl ("z" : Str) = [122] by decide +kernel, tl_one, lt_sign, ← decide_not]
  exact decide_eq_decide.mpr (by omega)
theorem filter_take_some {α : Type} {p : α → Bool} {l : List α} {i : Nat} {c : α} (h : l[i]? = some c) (hp : p c = true) : (l.take (i + 1)).filter p = (l.take i).filter p ++ [c] := by
  rw [List.take_add_one, h, List.filter_append]
  simp [hp]
theorem filter_take_none {α : Type} {p : α → Bool} {l : List α} {i : Nat} {c : α} (h : l[i]? = some c) (hp : p c = false) : (l.take (i + 1)).filter p = (l.take i).filter p := by
  rw [List.take_add_one, h, List.filter_append]
  simp [hp]
theorem filterD_all {α : Type} [DecidableEq α] (p : α → Bool) (l : List α) : decide (l.filter p = l) = l.all p := by
  rw [Bool.eq_iff_iff, decide_eq_true_iff, List.all_eq_true]
  exact List.filter_eq_self
theorem decV_str (x y : Str) : decide (V.str x = V.str y) = decide (tl x = tl y) := decide_eq_decide.mpr ⟨fun h => by rw [V.str.inj h], fun h => by rw [ext_tl h]⟩
theorem decV_strS (x y : Str) : decide (V.str x = V.str y) = decide (x = y) := decide_eq_decide.mpr ⟨V.str.inj, congrArg V.str⟩
theorem decV_int (x y : Int) : decide (V.int x = V.int y) = decide (x = y) := decide_eq_decide.mpr ⟨V.int.inj, congrArg V.int⟩
theorem decV_bl (x y : Bool) : decide (V.bl x = V.bl y) = decide (x = y) := decide_eq_decide.mpr ⟨V.bl.inj, congrArg V.bl⟩
/-- one sign more behind what is cut -/
theorem cut_snoc_hit (s : Nat) : ∀ l : List Nat, cutL s (l ++ [s]) = cutL s l ++ [[]]
  | [] => by simp [cutL]
  | c :: r => by
    have ih := cut_snoc_hit s r
    show cutL s (c :: (r ++ [s])) = cutL s (c :: r) ++ [[]]
    unfold cutL
    by_cases h : c = s
    · rw [if_pos h, if_pos h, ih]
      rfl
    · rw [if_neg h, if_neg h, ih]
      cases e : cutL s r with
      | nil => exact absurd e (cut_ne s r)
      | cons p ps => rfl
theorem cut_snoc_miss {s c : Nat} (h : c ≠ s) : ∀ (l : List Nat) (ps : List (List Nat)) (p : List Nat), cutL s l = ps ++ [p] → cutL s (l ++ [c]) = ps ++ [p ++ [c]]
  | [], ps, p, e => by
    have e2 : ([[]] : List (List Nat)) = ps ++ [p] := e
    cases ps with
    | nil =>
      have : p = [] := by simpa using e2.symm
      subst this
      show cutL s [c] = _
      unfold cutL
      rw [if_neg h]
      rfl
    | cons q qs => simp at e2
  | d :: r, ps, p, e => by
    show cutL s (d :: (r ++ [c])) = _
    unfold cutL at e ⊢
    by_cases hd : d = s
    · rw [if_pos hd] at e ⊢
      cases ps with
      | nil =>
        have : cutL s r = [] := by
          have := congrArg List.tail e
          simpa using this
        exact absurd this (cut_ne s r)
      | cons q qs =>
        have e1 : q = [] := (List.cons.inj e).1.symm
        have e2 : cutL s r = qs ++ [p] := (List.cons.inj e).2
        rw [cut_snoc_miss h r qs p e2, e1]
        rfl
    · rw [if_neg hd] at e ⊢
      cases er : cutL s r with
      | nil => exact absurd er (cut_ne s r)
      | cons t ts =>
        rw [er] at e
        cases ps with
        | nil =>
          have e1 : d :: t = p ∧ ts = [] := by simpa using e
          rw [cut_snoc_miss h r [] t (by rw [er, e1.2]; rfl), ← e1.1]
          rfl
        | cons q qs =>
          have e1 : q = d :: t := (List.cons.inj e).1.symm
          have e2 : ts = qs ++ [p] := (List.cons.inj e).2
          rw [cut_snoc_miss h r (t :: qs) p (by rw [er, e2]; rfl), e1]
          rfl
theorem atI_end (xs : List V) (y : V) : atI (xs ++ [y]) (-1) = some y := atI_last _ _
theorem ixN_end (xs : List V) (y : V) : ixN (xs ++ [y]).length (-1) = some xs.length := by
  unfold ixN
  rw [List.length_append, List.length_singleton, if_neg (by decide), if_pos (by omega)]
  congr 1
  omega
theorem set_end (xs : List V) (y v : V) : (xs ++ [y]).set xs.length v = xs ++ [v] := by
  rw [List.set_append_right _ _ (Nat.le_refl _), Nat.sub_self]
  rfl
/-- replaced sign by sign -/
theorem repl_one (s : Nat) (z : List Nat) : ∀ l : List Nat, StrLaws.replL [s] z l = l.flatMap fun c => if c = s then z else [c]
  | [] => by rw [StrLaws.replL_nil]; rfl
  | c :: r => by
    have ih := repl_one s z r
    by_cases h : c = s
    · subst h
      rw [StrLaws.replL_hit (by simp) (by simp)]
      simp [ih]
    · rw [StrLaws.replL_miss (by simp [h]), ih]
      simp [h]
end L2
namespace L2
open PySem PySem.Spec PyProof.Rows TL
section
variable {σ : St} {H Hs : Hp} {Q : VK} {v x y : V} {K : PySem.W.Frag} {ar : TA} {D : Ends}
theorem x_tpar3 {i j l : Nat} (q : ar σ H fun vs H1 => ∃ v w x, vs = [v, w, x] ∧ D.nx (((σ.set i (some v)).set j (some w)).set l (some x)) H1) : tPar3 i j l ar D σ H := q
theorem x_par3 {i j l : Nat} {v w x : V} (q : D.nx (((σ.set i (some v)).set j (some w)).set l (some x)) H) : ∃ v' w' x', [v, w, x] = [v', w', x'] ∧ D.nx (((σ.set i (some v')).set j (some w')).set l (some x')) H := ⟨v, w, x, rfl, q⟩
theorem x_repl {z a b : Str} (h : z.length + (z.length + 1) * b.length ≤ 16777216) (q : Q (.str (Txt.replace z a b)) H) : ∃ x, V.str z = .str x ∧ x.length + (x.length + 1) * b.length ≤ 16777216 ∧ Q (.str (Txt.replace x a b)) H := ⟨z, rfl, h, q⟩
end
theorem txt_append {n m : Nat} {x y : Str} (h1 : TxtOk n x) (h2 : TxtOk m y) : TxtOk (n + m) (x ++ y) := by
  refine ⟨by rw [len_tl, tl_append, List.length_append, ← len_tl, ← len_tl]; have := h1.1; have := h2.1; omega, strOk_iff.mpr fun c hc => ?_⟩
  rw [tl_append] at hc
  rcases List.mem_append.mp hc with h | h
  · exact strOk_iff.mp h1.2 c h
  · exact strOk_iff.mp h2.2 c h
theorem len_append (x y : Str) : (x ++ y).length = x.length + y.length := by
  rw [len_tl, tl_append, List.length_append, ← len_tl, ← len_tl]
theorem txt_of {n : Nat} {x y : Str} (h : TxtOk n y) (l : x.length ≤ n) (m : ∀ c ∈ tl x, c ∈ tl y) : TxtOk n x := ⟨l, strOk_iff.mpr fun c hc => strOk_iff.mp h.2 c (m c hc)⟩
theorem txt_hi {n : Nat} {x : Str} (h : TxtOk n x) (j : Nat) : TxtOk n (cutS x none (some (j : Int))) := txt_of h (Nat.le_trans (cutS_length _ _ _) h.1) fun c hc => by
  rw [tl_cut_hi] at hc
  exact List.mem_of_mem_take hc
theorem txt_lo {n : Nat} {x : Str} (h : TxtOk n x) (j : Nat) : TxtOk n (cutS x (some (j : Int)) none) := txt_of h (Nat.le_trans (cutS_length _ _ _) h.1) fun c hc => by
  rw [tl_cut_lo] at hc
  exact List.mem_of_mem_drop hc
theorem txt_lh {n : Nat} {x : Str} (h : TxtOk n x) (i j : Nat) : TxtOk n (cutS x (some (i : Int)) (some (j : Int))) := txt_of h (Nat.le_trans (cutS_length _ _ _) h.1) fun c hc => by
  rw [tl_cut_lh] at hc
  exact List.mem_of_mem_drop (List.mem_of_mem_take hc)
theorem txt_sign {c : Nat} (h : c < 1114112) : TxtOk 1 (⟨#[c]⟩ : Str) := ⟨Nat.le_refl _, strOk_iff.mpr fun d hd => by
  rw [tl_one, List.mem_singleton] at hd
  rw [hd]
  exact h⟩
theorem len_hi (x : Str) (j : Nat) : (cutS x none (some (j : Int))).length = min j x.length := by rw [len_tl, tl_cut_hi, List.length_take, ← len_tl]
theorem len_lo (x : Str) (j : Nat) : (cutS x (some (j : Int)) none).length = x.length - j := by rw [len_tl, tl_cut_lo, List.length_drop, ← len_tl]
theorem flat_len_le (f : Nat → List Nat) (k : Nat) (h : ∀ c, (f c).length ≤ k) : ∀ l : List Nat, (l.flatMap f).length ≤ k * l.length
  | [] => by simp
  | c :: r => by
    have ih := flat_len_le f k h r
    have := h c
    rw [List.flatMap_cons, List.length_append, List.length_cons, Nat.mul_succ]
    omega
theorem txt_repl {n : Nat} {x : Str} (h : TxtOk n x) : TxtOk (2 * n) (Txt.replace x "/" "//") := by
  have e : tl (Txt.replace x "/" "//") = (tl x).flatMap fun c => if c = 47 then [47, 47] else [c] := by
    show (Txt.replace x "/" "//").cps.toList = _
    rw [StrLaws.replace_list (by decide), show ("/" : Str).cps.toList = [47] by decide +kernel, show ("//" : Str).cps.toList = [47, 47] by decide +kernel, repl_one]
  refine ⟨?_, strOk_iff.mpr fun c hc => ?_⟩
  · rw [len_tl, e]
    have := flat_len_le (fun c => if c = 47 then [47, 47] else [c]) 2 (fun c => by split <;> simp) (tl x)
    have := h.1
    rw [len_tl] at this
    omega
  · rw [e] at hc
    obtain ⟨d, hd, hc⟩ := List.mem_flatMap.mp hc
    split at hc
    · simp at hc
      omega
    · rw [List.mem_singleton.mp hc]
      exact strOk_iff.mp h.2 d hd
/-- a text in a list of such texts, by its place -/
theorem at_txt {n : Nat} {ys : List Str} (h : ∀ y ∈ ys, TxtOk n y) {r : Int} (h0 : 0 ≤ r) (h1 : r < ys.length) : ∃ y, atI (ys.map V.str) r = some (.str y) ∧ TxtOk n y ∧ y ∈ ys := by
  obtain ⟨u, rfl⟩ : ∃ u : Nat, r = (u : Int) := ⟨r.toNat, by omega⟩
  have hu : u < ys.length := by omega
  exact ⟨ys[u], atI_nat (by rw [List.getElem?_map, List.getElem?_eq_getElem hu]; rfl), h _ (List.getElem_mem hu), List.getElem_mem hu⟩
end L2

namespace L2
theorem TxtOk.app {n m : Nat} {x y : PySem.Str} (h1 : TxtOk n x) (h2 : TxtOk m y) : TxtOk (n + m) (x ++ y) := txt_append h1 h2
end L2

namespace L2
open PySem PySem.Spec PyProof.Rows TL
theorem txt_join1 {n : Nat} {a : PySem.Str} (ha : TxtOk 1 a) : ∀ {ys : List PySem.Str}, (∀ y ∈ ys, TxtOk n y) → TxtOk ((n + 1) * ys.length) (Txt.join a ys)
  | [], _ => ⟨by rw [join_eq, len_tl, tl_join]; exact Nat.zero_le _, strOk_iff.mpr fun c hc => by rw [join_eq, tl_join] at hc; exact (nomatch hc)⟩
  | [y], h => by
    have hy := h y (List.mem_singleton.mpr rfl)
    refine ⟨?_, strOk_iff.mpr fun c hc => ?_⟩
    · rw [join_eq, len_tl, tl_join]
      have := hy.1
      rw [len_tl] at this
      show (tl y).length ≤ (n + 1) * 1
      omega
    · rw [join_eq, tl_join] at hc
      exact strOk_iff.mp hy.2 c hc
  | y :: z :: r, h => by
    have hy := h y (List.mem_cons_self)
    have ih := txt_join1 ha (ys := z :: r) fun y hy => h y (List.mem_cons_of_mem _ hy)
    have ha1 := ha.1
    have hy1 := hy.1
    have ih1 := ih.1
    rw [join_eq, len_tl, tl_join] at ih1
    rw [len_tl] at ha1 hy1
    refine ⟨?_, strOk_iff.mpr fun c hc => ?_⟩
    · rw [join_eq, len_tl, tl_join]
      show (tl y ++ (tl a ++ joinL (tl a) ((z :: r).map tl))).length ≤ _
      rw [List.length_append, List.length_append]
      show _ ≤ (n + 1) * ((z :: r).length + 1)
      rw [Nat.mul_succ]
      omega
    · rw [join_eq, tl_join] at hc
      have hc : c ∈ tl y ++ (tl a ++ joinL (tl a) ((z :: r).map tl)) := hc
      rcases List.mem_append.mp hc with h1 | h1
      · exact strOk_iff.mp hy.2 c h1
      · rcases List.mem_append.mp h1 with h2 | h2
        · exact strOk_iff.mp ha.2 c h2
        · refine strOk_iff.mp ih.2 c ?_
          rw [join_eq, tl_join]
          exact h2
theorem sum_le_txt {n : Nat} : ∀ {ys : List PySem.Str}, (∀ y ∈ ys, TxtOk n y) → (ys.map (·.length)).sum ≤ n * ys.length
  | [], _ => Nat.zero_le _
  | y :: r, h => by
    have := sum_le_txt (ys := r) fun y hy => h y (List.mem_cons_of_mem _ hy)
    have := (h y (List.mem_cons_self)).1
    rw [List.map_cons, List.sum_cons, List.length_cons, Nat.mul_succ]
    omega
theorem take_true {α : Type} (l : List α) (i : Nat) {c : α} (h : l[i]? = some c) : ((l.take (i + 1)).map fun _ => V.bl true) = ((l.take i).map fun _ => V.bl true) ++ [V.bl true] := by
  rw [List.take_add_one, h, List.map_append]
  rfl
theorem all_true {α : Type} (l : List α) : (l.map fun _ => true).all id = true := by simp
end L2

namespace L2
open PySem PySem.Spec PyProof.Rows
/-- how a call by keywords binds: the positional ones ahead, the keywords in the order of the parameters behind them -/
theorem Fun.kbinds {K : PySem.W.Frag} {x qual : PySem.Str} {st : Stmt} {f : Addr} {fd : FuncData} {ps ks : List PySem.Str} (F : Fun K x qual st f fd)
    (h : ∀ (kV doc pm : Value) (an : Option Addr) (cdv ct : Value) (us ws : List Value), (us ++ ws).length = ps.length → bindArgs (PySem.W.fnOf x qual (defArgs st) (defBody st) (defScope st) .none kV doc pm an cdv ct) ⟨us, ks.zip ws⟩ = pure (ps.zip (us ++ ws))) :
    KBinds K fd ps ks (fun us ws => us ++ ws) (fun vs zs => vs ++ zs) := by
  obtain ⟨oc, od, kV, doc, pm, an, cdv, ct, osl, rfl, lk, hcd⟩ := F.ex
  exact ⟨fun s us ws _ hl => .of_eq (h kV doc pm an cdv ct us ws hl), fun r1 r2 => r1.append r2⟩
end L2

namespace L2
open PySem PySem.Spec PyProof.Rows
theorem bits_lt {ns : List Int} (h : ∀ z ∈ ns, Builtin.Int.intBits z ≤ 1048576) : ∀ z ∈ ns, z.natAbs < 2 ^ 1048576 := fun z hz => PySem.intBits_le_iff.mp (h z hz)
theorem tup_in {K : PySem.W.Frag} {a : Addr} {o : Obj} {its : Array Value} {n : Nat} {xs : List V} (l : K.lookup a = some o) (c : o.cls = .type "tuple") (d : o.data = .seq its n) (s : its.size ≤ sizeLine) (r : Vals xs its.toList) : ∃ (o : Obj) (its : Array Value) (n : Nat), K.lookup a = some o ∧ o.cls = .type "tuple" ∧ o.data = .seq its n ∧ its.size ≤ sizeLine ∧ Vals xs its.toList := ⟨o, its, n, l, c, d, s, r⟩
end L2

namespace K01
open PySem PySem.Spec PyProof.Rows L2
def topS (i : Nat) : Stmt := PySem.Challenge.pw_pagemaker_k01_names_and_paths.main.body.getD i (.Pass ⟨0, 0, 0, 0⟩)
/-! ### is_name -/
abbrev s_is_name : Stmt := topS 5
abbrev N_is_name : List Str := ["thing", "sign"]
abbrev P_is_name : List Str := ["thing"]
theorem sc_is_name : FnScope N_is_name P_is_name (defScope s_is_name) := ⟨rfl, rfl, rfl, by decide +kernel, rfl, by decide +kernel, by decide +kernel⟩
/-! ### is_path -/
abbrev s_is_path : Stmt := topS 6
abbrev N_is_path : List Str := ["thing", "first", "rest", "one"]
abbrev P_is_path : List Str := ["thing"]
theorem sc_is_path : FnScope N_is_path P_is_path (defScope s_is_path) := ⟨rfl, rfl, rfl, by decide +kernel, rfl, by decide +kernel, by decide +kernel⟩
/-! ### _law_dip -/
abbrev s_l_dip : Stmt := topS 11
abbrev N_l_dip : List Str := ["_law_script", "_law_k", "_law_cell"]
abbrev P_l_dip : List Str := ["_law_script", "_law_k"]
theorem sc_l_dip : FnScope N_l_dip P_l_dip (defScope s_l_dip) := ⟨rfl, rfl, rfl, by decide +kernel, rfl, by decide +kernel, by decide +kernel⟩
/-! ### _law_take -/
abbrev s_l_take : Stmt := topS 12
abbrev N_l_take : List Str := ["_law_box", "_law_many", "_law_found", "_law_once", "_law_twice"]
abbrev P_l_take : List Str := ["_law_box", "_law_many"]
theorem sc_l_take : FnScope N_l_take P_l_take (defScope s_l_take) := ⟨rfl, rfl, rfl, by decide +kernel, rfl, by decide +kernel, by decide +kernel⟩
/-! ### _law_folded -/
abbrev s_l_folded : Stmt := topS 13
abbrev N_l_folded : List Str := ["_law_script", "_law_size", "_law_cells", "_law_k", "_law_cell"]
abbrev P_l_folded : List Str := ["_law_script", "_law_size"]
theorem sc_l_folded : FnScope N_l_folded P_l_folded (defScope s_l_folded) := ⟨rfl, rfl, rfl, by decide +kernel, rfl, by decide +kernel, by decide +kernel⟩
/-! ### _law_one_of -/
abbrev s_l_one_of : Stmt := topS 14
abbrev N_l_one_of : List Str := ["_law_box", "_law_some"]
abbrev P_l_one_of : List Str := ["_law_box", "_law_some"]
theorem sc_l_one_of : FnScope N_l_one_of P_l_one_of (defScope s_l_one_of) := ⟨rfl, rfl, rfl, by decide +kernel, rfl, by decide +kernel, by decide +kernel⟩
/-! ### _law_named -/
abbrev s_l_named : Stmt := topS 15
abbrev N_l_named : List Str := ["_law_box", "_law_many", "_law_letters", "_law_found", "_law_words", "_law_k", "_law_turn", "_law_name"]
abbrev P_l_named : List Str := ["_law_box", "_law_many"]
theorem sc_l_named : FnScope N_l_named P_l_named (defScope s_l_named) := ⟨rfl, rfl, rfl, by decide +kernel, rfl, by decide +kernel, by decide +kernel⟩
/-! ### _law_same -/
abbrev s_l_same : Stmt := topS 16
abbrev N_l_same : List Str := ["_law_found", "_law_due", "_law_one", "_law_other"]
abbrev P_l_same : List Str := ["_law_found", "_law_due"]
theorem sc_l_same : FnScope N_l_same P_l_same (defScope s_l_same) := ⟨rfl, rfl, rfl, by decide +kernel, rfl, by decide +kernel, by decide +kernel⟩
/-! ### _law_is_one -/
abbrev s_l_is_one : Stmt := topS 17
abbrev N_l_is_one : List Str := ["_law_text", "_law_sign"]
abbrev P_l_is_one : List Str := ["_law_text"]
theorem sc_l_is_one : FnScope N_l_is_one P_l_is_one (defScope s_l_is_one) := ⟨rfl, rfl, rfl, by decide +kernel, rfl, by decide +kernel, by decide +kernel⟩
/-! ### _law_is_way -/
abbrev s_l_is_way : Stmt := topS 18
abbrev N_l_is_way : List Str := ["_law_text", "_law_names", "_law_at", "_law_sign", "_law_name"]
abbrev P_l_is_way : List Str := ["_law_text"]
theorem sc_l_is_way : FnScope N_l_is_way P_l_is_way (defScope s_l_is_way) := ⟨rfl, rfl, rfl, by decide +kernel, rfl, by decide +kernel, by decide +kernel⟩
/-! ### _law_bent -/
abbrev s_l_bent : Stmt := topS 19
abbrev N_l_bent : List Str := ["_law_box", "_law_text", "_law_signs", "_law_way", "_law_at", "_law_sign", "_law_some"]
abbrev P_l_bent : List Str := ["_law_box", "_law_text"]
theorem sc_l_bent : FnScope N_l_bent P_l_bent (defScope s_l_bent) := ⟨rfl, rfl, rfl, by decide +kernel, rfl, by decide +kernel, by decide +kernel⟩
/-! ### _law_told_right -/
abbrev s_l_told_right : Stmt := topS 20
abbrev N_l_told_right : List Str := ["_law_text", "_law_found"]
abbrev P_l_told_right : List Str := ["_law_text"]
theorem sc_l_told_right : FnScope N_l_told_right P_l_told_right (defScope s_l_told_right) := ⟨rfl, rfl, rfl, by decide +kernel, rfl, by decide +kernel, by decide +kernel⟩
/-! ### _law_right -/
abbrev s_l_right : Stmt := topS 21
abbrev N_l_right : List Str := ["_law_box", "_law_names", "_law_good", "_law_text", "_law_turn"]
abbrev P_l_right : List Str := ["_law_box"]
theorem sc_l_right : FnScope N_l_right P_l_right (defScope s_l_right) := ⟨rfl, rfl, rfl, by decide +kernel, rfl, by decide +kernel, by decide +kernel⟩
/-! ### law -/
abbrev s_law : Stmt := topS 22
abbrev N_law : List Str := ["_law_script", "_law_cells", "_law_fixed", "_law_k", "_law_text"]
abbrev P_law : List Str := ["_law_script"]
theorem sc_law : FnScope N_law P_law (defScope s_law) := ⟨rfl, rfl, rfl, by decide +kernel, rfl, by decide +kernel, by decide +kernel⟩
structure Ad where
  f_is_name : Addr
  d_is_name : FuncData
  f_is_path : Addr
  d_is_path : FuncData
  f_l_dip : Addr
  d_l_dip : FuncData
  f_l_take : Addr
  d_l_take : FuncData
  f_l_folded : Addr
  d_l_folded : FuncData
  f_l_one_of : Addr
  d_l_one_of : FuncData
  f_l_named : Addr
  d_l_named : FuncData
  f_l_same : Addr
  d_l_same : FuncData
  f_l_is_one : Addr
  d_l_is_one : FuncData
  f_l_is_way : Addr
  d_l_is_way : FuncData
  f_l_bent : Addr
  d_l_bent : FuncData
  f_l_told_right : Addr
  d_l_told_right : FuncData
  f_l_right : Addr
  d_l_right : FuncData
  f_law : Addr
  d_law : FuncData
  a_FIELDS : Addr
structure Top (K : PySem.W.Frag) (mg : Str → Option Value) (A : Ad) : Prop where
  F_is_name : Fun K "is_name" "is_name" s_is_name A.f_is_name A.d_is_name
  g_is_name : mg "is_name" = some (.ref A.f_is_name)
  F_is_path : Fun K "is_path" "is_path" s_is_path A.f_is_path A.d_is_path
  g_is_path : mg "is_path" = some (.ref A.f_is_path)
  F_l_dip : Fun K "_law_dip" "_law_dip" s_l_dip A.f_l_dip A.d_l_dip
  g_l_dip : mg "_law_dip" = some (.ref A.f_l_dip)
  F_l_take : Fun K "_law_take" "_law_take" s_l_take A.f_l_take A.d_l_take
  g_l_take : mg "_law_take" = some (.ref A.f_l_take)
  F_l_folded : Fun K "_law_folded" "_law_folded" s_l_folded A.f_l_folded A.d_l_folded
  g_l_folded : mg "_law_folded" = some (.ref A.f_l_folded)
  F_l_one_of : Fun K "_law_one_of" "_law_one_of" s_l_one_of A.f_l_one_of A.d_l_one_of
  g_l_one_of : mg "_law_one_of" = some (.ref A.f_l_one_of)
  F_l_named : Fun K "_law_named" "_law_named" s_l_named A.f_l_named A.d_l_named
  g_l_named : mg "_law_named" = some (.ref A.f_l_named)
  F_l_same : Fun K "_law_same" "_law_same" s_l_same A.f_l_same A.d_l_same
  g_l_same : mg "_law_same" = some (.ref A.f_l_same)
  F_l_is_one : Fun K "_law_is_one" "_law_is_one" s_l_is_one A.f_l_is_one A.d_l_is_one
  g_l_is_one : mg "_law_is_one" = some (.ref A.f_l_is_one)
  F_l_is_way : Fun K "_law_is_way" "_law_is_way" s_l_is_way A.f_l_is_way A.d_l_is_way
  g_l_is_way : mg "_law_is_way" = some (.ref A.f_l_is_way)
  F_l_bent : Fun K "_law_bent" "_law_bent" s_l_bent A.f_l_bent A.d_l_bent
  g_l_bent : mg "_law_bent" = some (.ref A.f_l_bent)
  F_l_told_right : Fun K "_law_told_right" "_law_told_right" s_l_told_right A.f_l_told_right A.d_l_told_right
  g_l_told_right : mg "_law_told_right" = some (.ref A.f_l_told_right)
  F_l_right : Fun K "_law_right" "_law_right" s_l_right A.f_l_right A.d_l_right
  g_l_right : mg "_law_right" = some (.ref A.f_l_right)
  F_law : Fun K "law" "law" s_law A.f_law A.d_law
  g_law : mg "law" = some (.ref A.f_law)
  n_abs : mg "abs" = none
  n_all : mg "all" = none
  n_bool : mg "bool" = none
  n_enumerate : mg "enumerate" = none
  n_int : mg "int" = none
  n_isinstance : mg "isinstance" = none
  n_len : mg "len" = none
  n_list : mg "list" = none
  n_range : mg "range" = none
  n_str : mg "str" = none
  n_tuple : mg "tuple" = none
  n_zip : mg "zip" = none
  c_LETTERS : ∃ u, mg "LETTERS" = some u ∧ RelV (.str "abcdefghijklmnopqrstuvwxyz") u
  c_MOST_LETTERS : ∃ u, mg "MOST_LETTERS" = some u ∧ RelV (.int 8) u
  c_MOST_NAMES : ∃ u, mg "MOST_NAMES" = some u ∧ RelV (.int 3) u
  c_TAG : ∃ u, mg "TAG" = some u ∧ RelV (.str "tag") u
  c_PAGE : ∃ u, mg "PAGE" = some u ∧ RelV (.str "page") u
  c_FIELDS : ∃ u, mg "FIELDS" = some u ∧ RelV (.ref A.a_FIELDS) u
  c_MOST : ∃ u, mg "MOST" = some u ∧ RelV (.int 4) u
  q_FIELDS : ∀ H : Hp, SqT K H A.a_FIELDS [.str "title", .str "path", .str "day", .str "tags", .str "body", .str "inner"]
section
variable {K : PySem.W.Frag} {mg : Str → Option Value} {A : Ad}
theorem Top.k_is_name (T : Top K mg A) : PySem.W.keepIn K (.ref A.f_is_name) = true := T.F_is_name.kp
theorem Top.b_is_name (T : Top K mg A) : Binds K A.d_is_name P_is_name [] := T.F_is_name.binds fun _ _ _ _ _ _ us hl => match us, hl with | [_], _ => rfl
theorem Top.k_is_path (T : Top K mg A) : PySem.W.keepIn K (.ref A.f_is_path) = true := T.F_is_path.kp
theorem Top.b_is_path (T : Top K mg A) : Binds K A.d_is_path P_is_path [] := T.F_is_path.binds fun _ _ _ _ _ _ us hl => match us, hl with | [_], _ => rfl
theorem Top.k_l_dip (T : Top K mg A) : PySem.W.keepIn K (.ref A.f_l_dip) = true := T.F_l_dip.kp
theorem Top.b_l_dip (T : Top K mg A) : Binds K A.d_l_dip P_l_dip [] := T.F_l_dip.binds fun _ _ _ _ _ _ us hl => match us, hl with | [_, _], _ => rfl
theorem Top.k_l_take (T : Top K mg A) : PySem.W.keepIn K (.ref A.f_l_take) = true := T.F_l_take.kp
theorem Top.b_l_take (T : Top K mg A) : Binds K A.d_l_take P_l_take [] := T.F_l_take.binds fun _ _ _ _ _ _ us hl => match us, hl with | [_, _], _ => rfl
theorem Top.k_l_folded (T : Top K mg A) : PySem.W.keepIn K (.ref A.f_l_folded) = true := T.F_l_folded.kp
theorem Top.b_l_folded (T : Top K mg A) : Binds K A.d_l_folded P_l_folded [] := T.F_l_folded.binds fun _ _ _ _ _ _ us hl => match us, hl with | [_, _], _ => rfl
theorem Top.k_l_one_of (T : Top K mg A) : PySem.W.keepIn K (.ref A.f_l_one_of) = true := T.F_l_one_of.kp
theorem Top.b_l_one_of (T : Top K mg A) : Binds K A.d_l_one_of P_l_one_of [] := T.F_l_one_of.binds fun _ _ _ _ _ _ us hl => match us, hl with | [_, _], _ => rfl
theorem Top.k_l_named (T : Top K mg A) : PySem.W.keepIn K (.ref A.f_l_named) = true := T.F_l_named.kp
theorem Top.b_l_named (T : Top K mg A) : Binds K A.d_l_named P_l_named [] := T.F_l_named.binds fun _ _ _ _ _ _ us hl => match us, hl with | [_, _], _ => rfl
theorem Top.k_l_same (T : Top K mg A) : PySem.W.keepIn K (.ref A.f_l_same) = true := T.F_l_same.kp
theorem Top.b_l_same (T : Top K mg A) : Binds K A.d_l_same P_l_same [] := T.F_l_same.binds fun _ _ _ _ _ _ us hl => match us, hl with | [_, _], _ => rfl
theorem Top.k_l_is_one (T : Top K mg A) : PySem.W.keepIn K (.ref A.f_l_is_one) = true := T.F_l_is_one.kp
theorem Top.b_l_is_one (T : Top K mg A) : Binds K A.d_l_is_one P_l_is_one [] := T.F_l_is_one.binds fun _ _ _ _ _ _ us hl => match us, hl with | [_], _ => rfl
theorem Top.k_l_is_way (T : Top K mg A) : PySem.W.keepIn K (.ref A.f_l_is_way) = true := T.F_l_is_way.kp
theorem Top.b_l_is_way (T : Top K mg A) : Binds K A.d_l_is_way P_l_is_way [] := T.F_l_is_way.binds fun _ _ _ _ _ _ us hl => match us, hl with | [_], _ => rfl
theorem Top.k_l_bent (T : Top K mg A) : PySem.W.keepIn K (.ref A.f_l_bent) = true := T.F_l_bent.kp
theorem Top.b_l_bent (T : Top K mg A) : Binds K A.d_l_bent P_l_bent [] := T.F_l_bent.binds fun _ _ _ _ _ _ us hl => match us, hl with | [_, _], _ => rfl
theorem Top.k_l_told_right (T : Top K mg A) : PySem.W.keepIn K (.ref A.f_l_told_right) = true := T.F_l_told_right.kp
theorem Top.b_l_told_right (T : Top K mg A) : Binds K A.d_l_told_right P_l_told_right [] := T.F_l_told_right.binds fun _ _ _ _ _ _ us hl => match us, hl with | [_], _ => rfl
theorem Top.k_l_right (T : Top K mg A) : PySem.W.keepIn K (.ref A.f_l_right) = true := T.F_l_right.kp
theorem Top.b_l_right (T : Top K mg A) : Binds K A.d_l_right P_l_right [] := T.F_l_right.binds fun _ _ _ _ _ _ us hl => match us, hl with | [_], _ => rfl
theorem Top.k_law (T : Top K mg A) : PySem.W.keepIn K (.ref A.f_law) = true := T.F_law.kp
theorem Top.b_law (T : Top K mg A) : Binds K A.d_law P_law [] := T.F_law.binds fun _ _ _ _ _ _ us hl => match us, hl with | [_], _ => rfl
theorem Top.kb_is_path_thing (T : Top K mg A) : KBinds K A.d_is_path P_is_path ["thing"] (fun us ws => us ++ ws) (fun vs zs => vs ++ zs) := T.F_is_path.kbinds fun _ _ _ _ _ _ us ws hl => match us, ws, hl with | [], [_], _ => rfl | [_], [], _ => rfl
theorem Top.kb_is_name_thing (T : Top K mg A) : KBinds K A.d_is_name P_is_name ["thing"] (fun us ws => us ++ ws) (fun vs zs => vs ++ zs) := T.F_is_name.kbinds fun _ _ _ _ _ _ us ws hl => match us, ws, hl with | [], [_], _ => rfl | [_], [], _ => rfl
end
def sp_is_name (K : PySem.W.Frag) : Sp := fun vs H Q _ => ∃ (v : V) (d : PyData), vs = [v] ∧ ∃ Hs, Same Hs H ∧ Dp K Hs v d ∧ fitD d = true ∧
  ∀ H', Go [] Hs H Hs H' → Q (.bl (nameD d)) H'
def t_is_name (K : PySem.W.Frag) (A : Ad) : TS :=
  (tSeq (tIfS (tOr (tNot (tB (tCB (rIsi K) (tCons (tVar 0) (tCons (tC (.ty "str")) tNil))))) (tNot (tTest (tChain zLtE zLtE (tC (.int 1)) (tCB zLenS (tCons (tVar 0) tNil)) (tC (.int 8)))))) (tRet (tC (.bl false))) tNext)
    (tRet (tCB (rAll K) (tCons (tLc (iStr (tVar 0)) (gName 1) tYes (tOp zInSg (tVar 1) (tC (.str "abcdefghijklmnopqrstuvwxyz"))) [1]) tNil))))
def sp_is_path (K : PySem.W.Frag) : Sp := fun vs H Q _ => ∃ (v : V) (d : PyData), vs = [v] ∧ ∃ Hs, Same Hs H ∧ Dp K Hs v d ∧ fitD d = true ∧
  ∀ H', Go [] Hs H Hs H' → Q (.bl (pathD d)) H'
def t_is_path (K : PySem.W.Frag) (A : Ad) : TS :=
  (tSeq (tIfS (tNot (tB (tCB (rIsi K) (tCons (tVar 0) (tCons (tC (.ty "str")) tNil))))) (tRet (tC (.bl false))) tNext)
    (tSeq (tAsg (tM1 zSplit (tVar 0) (tC (.str "/"))) (gStarL K 2 1 (gCons (gName 1) (gCons (gName 2) gNil))))
    (tRet (tAndV (tOp zLt (tCB (zLenQ K) (tCons (tVar 2) tNil)) (tC (.int 3))) (tAndV (tOp rNe (tVar 1) (tC (.str "tag"))) (tCB (rAll K) (tCons (tLc (iList K (tOp rCat (tLst (tCons (tVar 1) tNil)) (tVar 2))) (gName 3) tYes (tCall (sp_is_name K) [] E0 (tCons (tVar 3) tNil)) [3]) tNil)))))))
def sp_l_dip (K : PySem.W.Frag) : Sp := fun vs H Q _ => ∃ (c : Addr) (ns : List Int) (k a : Nat), vs = [.ref c, .int (k : Int)] ∧ ∃ Hs, Same Hs H ∧ SqL K Hs c (ns.map V.int) ∧ (∀ n ∈ ns, n.natAbs < 2 ^ a) ∧ a ≤ 1200000 ∧ k ≤ 1000 ∧
  ∀ H' b, H b = none → Hs b = none → Go [] Hs H Hs H' → BoxAt H' b 1000000000 → Q (.ref b) H'
def t_l_dip (K : PySem.W.Frag) (A : Ad) : TS :=
  (tSeq (tAsg (tIf (tTest (tOp zLt (tVar 1) (tCB (zLenQ K) (tCons (tVar 0) tNil)))) (tOp (rIxL K) (tVar 0) (tVar 1)) (tC (.int 0))) (gName 2))
    (tRet (tLst (tCons (tOp zMul (tCB zAbs (tCons (tVar 2) tNil)) (tCB zInt1 (tCons (tOp zGtE (tCB zAbs (tCons (tVar 2) tNil)) (tOp zPow (tC (.int 10)) (tC (.int 18)))) tNil))) (tCons (tOp zAdd (tOp zAdd (tOp zMod (tVar 2) (tC (.int 2305843009213693951))) (tOp zMul (tC (.int 39373)) (tVar 1))) (tC (.int 17))) (tCons (tC (.int 0)) tNil))))))
def sp_l_take (K : PySem.W.Frag) : Sp := fun vs H Q _ => ∃ (b : Addr) (m : Int) (k : Nat), vs = [.ref b, .int m] ∧ ∃ Hs, Same Hs H ∧ Hs b = none ∧ 0 < m ∧ m < 4611686018427387904 ∧ BoxAt H b (k + 1) ∧
  ∀ H' r, 0 ≤ r → r < m → Go [b] Hs H Hs H' → BoxAt H' b k → Q (.int r) H'
def t_l_take (K : PySem.W.Frag) (A : Ad) : TS :=
  (tSeq (tIfS (tTest (tOp zGt (tOp (rIxL K) (tVar 0) (tC (.int 0))) (tC (.int 0)))) (tSeq (tAsg (tOp zMod (tOp (rIxL K) (tVar 0) (tC (.int 0))) (tVar 1)) (gName 2))
    (tSeq (tAsg (tOp zFdv (tOp (rIxL K) (tVar 0) (tC (.int 0))) (tVar 1)) (gSub (tVar 0) (tC (.int 0)) rSetL))
    (tRet (tVar 2)))) tNext)
    (tSeq (tAsg (tOp zAdd (tOp (rIxL K) (tVar 0) (tC (.int 2))) (tC (.int 1))) (gSub (tVar 0) (tC (.int 2)) rSetL))
    (tSeq (tAsg (tOp zMod (tOp zPow (tOp zAdd (tOp (rIxL K) (tVar 0) (tC (.int 1))) (tOp zMul (tC (.int 39373)) (tOp (rIxL K) (tVar 0) (tC (.int 2))))) (tC (.int 5))) (tC (.int 2147483647))) (gName 3))
    (tSeq (tAsg (tOp zMod (tOp zMul (tOp zAdd (tOp zAdd (tVar 3) (tOp (rIxL K) (tVar 0) (tC (.int 2)))) (tOp zFdv (tOp (rIxL K) (tVar 0) (tC (.int 1))) (tC (.int 1000003)))) (tOp zAdd (tOp zAdd (tOp zMod (tVar 3) (tC (.int 40009))) (tC (.int 7))) (tOp (rIxL K) (tVar 0) (tC (.int 2))))) (tC (.int 2147483629))) (gName 4))
    (tRet (tOp zMod (tOp zFdv (tOp zMod (tOp zAdd (tOp zMul (tVar 4) (tC (.int 48271))) (tVar 3)) (tC (.int 2147483587))) (tC (.int 64))) (tVar 1)))))))
def sp_l_folded (K : PySem.W.Frag) : Sp := fun vs H Q _ => ∃ (c : Addr) (ns : List Int) (n a : Nat), vs = [.ref c, .int (n : Int)] ∧ ∃ Hs, Same Hs H ∧ SqL K Hs c (ns.map V.int) ∧ ns.length ≤ 63 ∧ 0 < n ∧ n ≤ 10 ∧ (∀ z ∈ ns, z.natAbs < 2 ^ a) ∧ a ≤ 1100000 ∧
  ∀ Hs' H' p (ms : List Int), Go [] Hs H Hs' H' → Hs' p = some (.lst (ms.map V.int)) → ms.length = min n ns.length → (∀ z ∈ ms, z.natAbs < 2 ^ (a + 20)) → Q (.ref p) H'
def t_l_folded (K : PySem.W.Frag) (A : Ad) : TS :=
  (tSeq (tAsg (tCB (zListOf K) (tCons (tSl (rSlL K) (tVar 0) tNoPart (tPart (tVar 1))) tNil)) (gName 2))
    (tSeq (tFor (iEnum K (tCons (tSl (rSlL K) (tVar 0) (tPart (tVar 1)) (tPart (tC (.int 63)))) tNil)) (gTup K 2 (gCons (gName 3) (gCons (gName 4) gNil))) (tAsg (tOp zAdd (tOp (rIxL K) (tVar 2) (tOp zMod (tVar 3) (tVar 1))) (tOp zMul (tVar 4) (tOp zAdd (tVar 3) (tC (.int 2))))) (gSub (tVar 2) (tOp zMod (tVar 3) (tVar 1)) rSetL)))
    (tRet (tVar 2))))
def sp_l_one_of (K : PySem.W.Frag) : Sp := fun vs H Q _ => ∃ (b : Addr) (y : V) (xs : List V) (k : Nat), vs = [.ref b, y] ∧ ∃ Hs, Same Hs H ∧ Hs b = none ∧ PickV K Hs y xs ∧ xs ≠ [] ∧ xs.length ≤ 1000000 ∧ BoxAt H b (k + 1) ∧
  ∀ H' x, x ∈ xs → Go [b] Hs H Hs H' → BoxAt H' b k → Q x H'
def t_l_one_of (K : PySem.W.Frag) (A : Ad) : TS :=
  (tRet (tOp (rIx K) (tVar 1) (tCall (sp_l_take K) [] E0 (tCons (tVar 0) (tCons (tCB (zLenA K) (tCons (tVar 1) tNil)) tNil)))))
def sp_l_named (K : PySem.W.Frag) : Sp := fun vs H Q _ => ∃ (b : Addr) (n k : Nat), vs = [.ref b, .int (n : Int)] ∧ ∃ Hs, Same Hs H ∧ Hs b = none ∧ n ≤ 30 ∧ BoxAt H b (k + 20 * n) ∧
  ∀ Hs' H' p (names : List Str), Go [b] Hs H Hs' H' → Hs' p = some (.lst (names.map V.str)) → names.length = n → NamesOk names → BoxAt H' b k → Q (.ref p) H'
def t_l_named (K : PySem.W.Frag) (A : Ad) : TS :=
  (tSeq (tAsg (tTup (tCons (tC (.str "abcdefghijklmnopqrstuvwxyz")) (tCons (tLst tNil) tNil))) (gTup K 2 (gCons (gName 2) (gCons (gName 3) gNil))))
    (tSeq (tAsg (tC (.str "page title day draft tags under old in use pages to when done path body inner nowhere tag none make")) (gName 4))
    (tSeq (tFor (iRng1 (tCons (tVar 1) tNil)) (gName 5) (tSeq (tAsg (tM1 (zJoin K) (tC (.str "")) (tLc (iRng1 (tCons (tOp (rIxL K) (tLst (tCons (tC (.int 1)) (tCons (tC (.int 2)) (tCons (tC (.int 4)) (tCons (tC (.int 8)) tNil))))) (tCall (sp_l_take K) [] E0 (tCons (tVar 0) (tCons (tC (.int 4)) tNil)))) tNil)) (gName 6) tYes (tOp rIxS (tVar 2) (tCall (sp_l_take K) [] E0 (tCons (tVar 0) (tCons (tC (.int 26)) tNil)))) [6])) (gName 7))
    (C8.tCut (tIfS (tTest (tOp rEq (tCall (sp_l_take K) [] E0 (tCons (tVar 0) (tCons (tC (.int 12)) tNil))) (tC (.int 0)))) (tAsg (tOp (rIxL K) (tM1 zSplit (tVar 4) (tC (.str " "))) (tCall (sp_l_take K) [] E0 (tCons (tVar 0) (tCons (tC (.int 20)) tNil)))) (gName 7)) tNext)
    (tSeq (tFor (iRng1 (tCons (tOp zAdd (tCB (zLenQ K) (tCons (tVar 3) tNil)) (tC (.int 1))) tNil)) (gName 6) (tIfS (tTest (tOp (rIn K false) (tVar 7) (tVar 3))) (tAsg (tOp zAddS (tOp zAddS (tSl rSlS (tVar 7) tNoPart (tPart (tC (.int 6)))) (tOp rIxS (tVar 2) (tOp zFdv (tVar 6) (tC (.int 26))))) (tOp rIxS (tVar 2) (tOp zMod (tVar 6) (tC (.int 26))))) (gName 7)) tNext))
    (tDrop (tBM K "list" rAppend (tVar 3) (tCons (tVar 7) tNil)))))))
    (tRet (tVar 3)))))
def sp_l_same_n (n : Nat) (K : PySem.W.Frag) : Sp := fun vs H Q _ => ∃ (v u : V) (d e : PyData), vs = [v, u] ∧ ∃ Hs, Same Hs H ∧ Dp K Hs v d ∧ Dp K Hs u e ∧ fitD d = true ∧ PyData.depth d ≤ 64 ∧ fitD e = true ∧ PyData.depth e < n ∧
  ∀ H', Go [] Hs H Hs H' → Q (.bl (sameD d e)) H'
abbrev sp_l_same (K : PySem.W.Frag) : Sp := sp_l_same_n 6 K
def t_l_same (n : Nat) (K : PySem.W.Frag) (A : Ad) : TS :=
  (tSeq (tIfS (tB (tCB (rIsiT K) (tCons (tVar 1) (tCons (tTup (tCons (tC (.ty "list")) (tCons (tC (.ty "tuple")) tNil))) tNil)))) (tSeq (tIfS (tOr (tTest (tOp rNe (tCB (rIsi K) (tCons (tVar 0) (tCons (tC (.ty "list")) tNil))) (tCB (rIsi K) (tCons (tVar 1) (tCons (tC (.ty "list")) tNil))))) (tTest (tOp rNe (tCB (rIsi K) (tCons (tVar 0) (tCons (tC (.ty "tuple")) tNil))) (tCB (rIsi K) (tCons (tVar 1) (tCons (tC (.ty "tuple")) tNil)))))) (tRet (tC (.bl false))) tNext)
    (tRet (tAndV (tOp rEq (tCB (zLenA K) (tCons (tVar 0) tNil)) (tCB (zLenA K) (tCons (tVar 1) tNil))) (tCB (rAll K) (tCons (tLc (RZ.iZipA K (tCons (tVar 0) (tCons (tVar 1) tNil))) (gTup K 2 (gCons (gName 2) (gCons (gName 3) gNil))) tYes (tCall (sp_l_same_n n K) [] E0 (tCons (tVar 2) (tCons (tVar 3) tNil))) [2, 3]) tNil))))) tNext)
    (tSeq (tIfS (tOr (tTest (tOp zIsN (tVar 1) (tC .non))) (tTest (tOp zIsN (tVar 0) (tC .non)))) (tRet (tAndV (tOp zIsN (tVar 1) (tC .non)) (tOp zIsN (tVar 0) (tC .non)))) tNext)
    (tSeq (tIfS (tOr (tB (tCB (rIsi K) (tCons (tVar 1) (tCons (tC (.ty "bool")) tNil)))) (tB (tCB (rIsi K) (tCons (tVar 1) (tCons (tC (.ty "str")) tNil))))) (tRet (tAndV (tOp rEq (tCB (rIsi K) (tCons (tVar 0) (tCons (tC (.ty "bool")) tNil))) (tCB (rIsi K) (tCons (tVar 1) (tCons (tC (.ty "bool")) tNil)))) (tOp (zOr rEq (rEqD K)) (tVar 0) (tVar 1)))) tNext)
    (tRet (tAndV (tCB (rIsi K) (tCons (tVar 0) (tCons (tC (.ty "int")) tNil))) (tAndV (tNotV (tCB (rIsi K) (tCons (tVar 0) (tCons (tC (.ty "bool")) tNil)))) (tOp (zOr rEq (rEqD K)) (tVar 0) (tVar 1))))))))
def sp_l_is_one (K : PySem.W.Frag) : Sp := fun vs H Q _ => ∃ (z : Str), vs = [.str z] ∧ ∃ Hs, Same Hs H ∧ z.length ≤ 10000 ∧
  ∀ H', Go [] Hs H Hs H' → Q (.bl (nameB z)) H'
def t_l_is_one (K : PySem.W.Frag) (A : Ad) : TS :=
  (tRet (tAndV (tChain zLt zLt (tC (.int 0)) (tCB zLenS (tCons (tVar 0) tNil)) (tC (.int 9))) (tOp rEq (tM1 (zJoin K) (tC (.str "")) (tLc (iStr (tVar 0)) (gName 1) (tTest (tChain zLtES zLtES (tC (.str "a")) (tVar 1) (tC (.str "z")))) (tVar 1) [1])) (tVar 0))))
def sp_l_is_way (K : PySem.W.Frag) : Sp := fun vs H Q _ => ∃ (z : Str), vs = [.str z] ∧ ∃ Hs, Same Hs H ∧ z.length ≤ 10000 ∧
  ∀ H', Go [] Hs H Hs H' → Q (.bl (pathB z)) H'
def t_l_is_way (K : PySem.W.Frag) (A : Ad) : TS :=
  (tSeq (tPar 1 2 (tCons (tLst (tCons (tC (.str "")) tNil)) (tCons (tC (.int 0)) tNil)))
    (tSeq (tFor (iStr (tVar 0)) (gName 3) (tIfS (tTest (tOp rEq (tVar 3) (tC (.str "/")))) (tDrop (tBM K "list" rAppend (tVar 1) (tCons (tC (.str "")) tNil))) (tAsg (tOp zAddS (tOp (rIxL K) (tVar 1) (tUn zNeg (tC (.int 1)))) (tVar 3)) (gSub (tVar 1) (tUn zNeg (tC (.int 1))) rSetL))))
    (tRet (tAndV (tOp zLtE (tCB (zLenQ K) (tCons (tVar 1) tNil)) (tC (.int 3))) (tAndV (tOp rNe (tOp (rIxL K) (tVar 1) (tC (.int 0))) (tC (.str "tag"))) (tCB (rAll K) (tCons (tLc (iList K (tVar 1)) (gName 4) tYes (tCall (sp_l_is_one K) [] E0 (tCons (tVar 4) tNil)) [4]) tNil)))))))
def sp_l_bent (K : PySem.W.Frag) : Sp := fun vs H Q _ => ∃ (b : Addr) (z : Str) (k : Nat), vs = [.ref b, .str z] ∧ ∃ Hs, Same Hs H ∧ Hs b = none ∧ TxtOk 1000 z ∧ BoxAt H b (k + 4) ∧
  ∀ H' (y : Str), TxtOk (2 * z.length + 20) y → Go [b] Hs H Hs H' → BoxAt H' b k → Q (.str y) H'
def t_l_bent (K : PySem.W.Frag) (A : Ad) : TS :=
  (tSeq (tAsg (tC (.str "abcmyz/ A0_-.,*#&<{\n")) (gName 2))
    (tSeq (tPar3 3 4 5 (tCons (tCall (sp_l_take K) [] E0 (tCons (tVar 0) (tCons (tC (.int 9)) tNil))) (tCons (tCall (sp_l_take K) [] E0 (tCons (tVar 0) (tCons (tOp zAdd (tCB zLenS (tCons (tVar 1) tNil)) (tC (.int 1))) tNil))) (tCons (tCall (sp_l_one_of K) [] E0 (tCons (tVar 0) (tCons (tVar 2) tNil))) tNil))))
    (tSeq (tAsg (tLst (tCons (tOp zAddS (tOp zAddS (tSl rSlS (tVar 1) tNoPart (tPart (tVar 4))) (tVar 5)) (tSl rSlS (tVar 1) (tPart (tVar 4)) tNoPart)) (tCons (tOp zAddS (tSl rSlS (tVar 1) tNoPart (tPart (tVar 4))) (tSl rSlS (tVar 1) (tPart (tOp zAdd (tVar 4) (tC (.int 1)))) tNoPart)) (tCons (tOp zAddS (tOp zAddS (tSl rSlS (tVar 1) tNoPart (tPart (tVar 4))) (tVar 5)) (tSl rSlS (tVar 1) (tPart (tOp zAdd (tVar 4) (tC (.int 1)))) tNoPart)) tNil)))) (gName 6))
    (tSeq (tAsg (tOp rCat (tVar 6) (tLst (tCons (tOp zAddS (tVar 1) (tSl rSlS (tC (.str "abcdefgh")) tNoPart (tPart (tOp zAdd (tC (.int 1)) (tCall (sp_l_take K) [] E0 (tCons (tVar 0) (tCons (tC (.int 8)) tNil))))))) (tCons (tOp zAddS (tC (.str "/")) (tVar 1)) (tCons (tOp zAddS (tVar 1) (tC (.str "/"))) (tCons (tOp zAddS (tC (.str "tag/")) (tVar 1)) (tCons (tOp zAddS (tVar 1) (tC (.str "/tag"))) tNil))))))) (gName 6))
    (tRet (tOp (rIxL K) (tOp rCat (tVar 6) (tLst (tCons (CwR.tReplC (tVar 1) "/" "//") tNil))) (tVar 3)))))))
def sp_l_told_right (K : PySem.W.Frag) : Sp := fun vs H Q _ => ∃ (z : Str), vs = [.str z] ∧ ∃ Hs, Same Hs H ∧ TxtOk 10000 z ∧
  ∀ H', Go [] Hs H Hs H' → Q (.bl true) H'
def t_l_told_right (K : PySem.W.Frag) (A : Ad) : TS :=
  (tSeq (tAsg (tLst (tCons (tCall (sp_is_name K) [] E0 (tCons (tVar 0) tNil)) (tCons (tCall (sp_is_path K) [] E0 (tCons (tVar 0) tNil)) (tCons (tCallK (sp_is_name K) (fun vs zs => vs ++ zs) E0 tNil (tCons (tVar 0) tNil)) (tCons (tCallK (sp_is_path K) (fun vs zs => vs ++ zs) E0 tNil (tCons (tVar 0) tNil)) tNil))))) (gName 1))
    (tRet (tCall (sp_l_same K) [] E0 (tCons (tVar 1) (tCons (tOp rRep (tLst (tCons (tCall (sp_l_is_one K) [] E0 (tCons (tVar 0) tNil)) (tCons (tCall (sp_l_is_way K) [] E0 (tCons (tVar 0) tNil)) tNil))) (tC (.int 2))) tNil)))))
def sp_l_right (K : PySem.W.Frag) : Sp := fun vs H Q _ => ∃ (b : Addr), vs = [.ref b] ∧ ∃ Hs, Same Hs H ∧ Hs b = none ∧ BoxAt H b 1000 ∧
  ∀ H', Go [b] Hs H Hs H' → Q (.bl true) H'
def t_l_right (K : PySem.W.Frag) (A : Ad) : TS :=
  (tSeq (tAsg (tCall (sp_l_named K) [] E0 (tCons (tVar 0) (tCons (tC (.int 6)) tNil))) (gName 1))
    (tSeq (tAsg (tLst (tCons (tOp (rIxL K) (tVar 1) (tC (.int 0))) (tCons (tM1 (zJoin K) (tC (.str "/")) (tSl (rSlL K) (tVar 1) (tPart (tC (.int 1))) (tPart (tC (.int 3))))) (tCons (tM1 (zJoin K) (tC (.str "/")) (tSl (rSlL K) (tVar 1) (tPart (tC (.int 3))) (tPart (tC (.int 6))))) (tCons (tOp zAddS (tOp zAddS (tOp (rIxL K) (tVar 1) (tC (.int 0))) (tC (.str "/"))) (tOp (rIxL K) (tVar 1) (tC (.int 0)))) tNil))))) (gName 2))
    (tSeq (tIfS (tNot (tB (tCB (rAll K) (tCons (tLc (iList K (tOp rCat (tVar 2) (tVar 1))) (gName 3) tYes (tCall (sp_l_told_right K) [] E0 (tCons (tVar 3) tNil)) [3]) tNil)))) (tRet (tC (.bl false))) tNext)
    (tSeq (tFor (iRng1 (tCons (tC (.int 16)) tNil)) (gName 4) (tSeq (tAsg (tCall (sp_l_bent K) [] E0 (tCons (tVar 0) (tCons (tCall (sp_l_one_of K) [] E0 (tCons (tVar 0) (tCons (tVar 2) tNil))) tNil))) (gName 3))
    (tIfS (tOr (tNot (tB (tCall (sp_l_told_right K) [] E0 (tCons (tVar 3) tNil)))) (tNot (tB (tCall (sp_l_told_right K) [] E0 (tCons (tCall (sp_l_bent K) [] E0 (tCons (tVar 0) (tCons (tVar 3) tNil))) tNil))))) (tRet (tC (.bl false))) tNext)))
    (tRet (tC (.bl true)))))))
def sp_law (K : PySem.W.Frag) : Sp := fun vs H Q _ => ∃ (c : Addr) (ns : List Int) (a : Nat), vs = [.ref c] ∧ SqL K H c (ns.map V.int) ∧ ns.length ≤ 63 ∧ (∀ z ∈ ns, z.natAbs < 2 ^ a) ∧ a ≤ 1100000 ∧
  ∀ H', Q (.bl true) H'
def t_law (K : PySem.W.Frag) (A : Ad) : TS :=
  (tSeq (tAsg (tCall (sp_l_folded K) [] E0 (tCons (tVar 0) (tCons (tC (.int 4)) tNil))) (gName 1))
    (tSeq (tAsg (tLst (tCons (tC (.str "")) (tCons (tC (.str "tag")) (tCons (tC (.str "tags")) (tCons (tC (.str "tag/a")) (tCons (tC (.str "a/tag")) (tCons (tC (.str "a/tag/tag")) (tCons (tC (.str "ta/g")) (tCons (tC (.str "/")) (tCons (tC (.str "a/")) (tCons (tC (.str "/a")) (tCons (tC (.str "a//b")) (tCons (tC (.str "a/b/c")) (tCons (tC (.str "a/b/c/d")) tNil)))))))))))))) (gName 2))
    (tSeq (tAsg (tOp rCat (tVar 2) (tLst (tCons (tOp zRepS (tC (.str "z")) (tC (.int 8))) (tCons (tOp zRepS (tC (.str "z")) (tC (.int 9))) (tCons (tOp zAddS (tOp zAddS (tOp zRepS (tC (.str "z")) (tC (.int 8))) (tC (.str "/"))) (tOp zRepS (tC (.str "z")) (tC (.int 8)))) (tCons (tC (.str "a b")) (tCons (tC (.str "A")) (tCons (tC (.str "a0")) (tCons (tC (.str " a")) (tCons (tC (.str "a ")) (tCons (tC (.str "a\n")) tNil))))))))))) (gName 2))
    (tSeq (tAsg (tOp rCat (tVar 2) (tLst (tCons (tC (.str "\n")) (tCons (tC (.str "{a}")) (tCons (tC (.str "`")) (tCons (tC (.str "page")) tNil)))))) (gName 2))
    (tSeq (tIfS (tNot (tB (tCB (rAll K) (tCons (tLc (iList K (tVar 2)) (gName 4) tYes (tCall (sp_l_told_right K) [] E0 (tCons (tVar 4) tNil)) [4]) tNil)))) (tRet (tC (.bl false))) tNext)
    (tSeq (tIfS (tNot (tB (tCall (sp_l_same K) [] E0 (tCons (tLst (tCons (tC (.str "page")) (tCons (tC (.ref A.a_FIELDS)) (tCons (tC (.int 4)) tNil)))) (tCons (tLst (tCons (tC (.str "page")) (tCons (tTup (tCons (tC (.str "title")) (tCons (tC (.str "path")) (tCons (tC (.str "day")) (tCons (tC (.str "tags")) (tCons (tC (.str "body")) (tCons (tC (.str "inner")) tNil))))))) (tCons (tC (.int 4)) tNil)))) tNil))))) (tRet (tC (.bl false))) tNext)
    (tRet (tCB (rAll K) (tCons (tLc (iRng1 (tCons (tOp zAdd (tC (.int 1)) (tCB (zLenQ K) (tCons (tVar 1) tNil))) tNil)) (gName 3) tYes (tCall (sp_l_right K) [] E0 (tCons (tCall (sp_l_dip K) [] E0 (tCons (tVar 1) (tCons (tVar 3) tNil))) tNil)) [3]) tNil)))))))))
end K01

namespace K01
open PySem PySem.Spec PyProof.Rows L2 TL
local macro_rules | `(tactic| walk_at "rd1") => `(tactic| first
  | with_reducible refine x_seq ?_ | with_reducible refine x_asg ?_ | with_reducible refine x_name ?_ | with_reducible refine x_ret ?_ | with_reducible refine x_drop ?_
  | with_reducible refine x_next ?_ | with_reducible refine x_ifs ?_ | with_reducible refine x_test ?_ | with_reducible refine x_tB ?_ | with_reducible refine x_bl ?_
  | with_reducible refine x_nil ?_ | with_reducible refine x_cons ?_ | with_reducible refine x_cb ?_ | with_reducible refine x_not ?_ | with_reducible refine x_and ?_ | with_reducible refine x_or ?_
  | with_reducible refine x_andV ?_ | with_reducible refine x_orV ?_ | with_reducible refine x_notV ?_ | with_reducible refine x_if ?_ | with_reducible refine x_chain ?_
  | with_reducible refine x_op ?_ | with_reducible refine x_un ?_ | with_reducible refine x_c ?_ | with_reducible refine x_I0 ?_ | with_reducible refine x_U ?_ | with_reducible refine x_bm ?_
  | with_reducible refine x_call ?_ | with_reducible refine x_callK ?_ | with_reducible refine x_m1 ?_ | with_reducible refine x_isstr ?_ | with_reducible refine x_sub ?_ | with_reducible refine x_lstA ?_ | with_reducible refine x_tupA ?_
  | with_reducible refine x_abs ?_ | with_reducible refine x_int1b ?_ | with_reducible refine x_sl ?_ | with_reducible refine x_nopart ?_ | with_reducible refine x_part ?_ | with_reducible refine x_isint ?_
  | with_reducible refine x_gcons ?_ | with_reducible refine x_gnil ?_ | with_reducible refine x_tpar ?_ | with_reducible refine x_par ?_ | with_reducible refine x_for ?_ | with_reducible refine x_rng1 ?_
  | with_reducible refine x_istr ?_ | with_reducible refine x_strv ?_ | with_reducible refine x_ilist ?_ | with_reducible refine x_ienum ?_
  | with_reducible refine x_isN ?_ | with_reducible refine x_isNotN ?_ | with_reducible refine x_izip ?_
  | with_reducible refine x_tpar3 ?_ | with_reducible refine x_par3 ?_ | with_reducible refine x_slS (by assumption) ?_
  | with_reducible refine x_lc ?_ | with_reducible refine x_yes ?_ | with_reducible refine iteT ?_ | with_reducible refine iteF ?_
  | with_reducible refine x_lenL (by assumption) ?_ | with_reducible refine x_lenT (by assumption) ?_ | with_reducible refine x_lenS (by assumption) ?_
  | ((with_reducible show tVar _ _ _ _); refine ⟨_, rfl, ?_⟩)
  | ((with_reducible apply x_ixL); (first | assumption | exact SqL.of (by assumption)); rfl))
local macro_rules | `(tactic| walk_at "rd") => `(tactic| repeat walk_at "rd1")
local macro_rules | `(tactic| walk_at "sn") => `(tactic| simp only [reduceCtorEq, decide_false, decide_true, Bool.false_eq_true, Bool.not_true, Bool.not_false, if_false, if_true, ite_true, ite_false, isD_list, isD_tuple, isD_str, isD_bool, isD_int, isSeq])
local macro_rules | `(tactic| walk_at "go") => `(tactic| repeat (first | walk_at "rd1" | walk_at "sn"))

section
variable {K : PySem.W.Frag} {mg : Str → Option Value} {A : Ad} {H : Hp} {Q : VK} {E : XK} {vs : List V}
theorem pure_l_take (T : Top K mg A) (h : sp_l_take K vs H Q E) : t_l_take K A { nx := fun _ H' => Q .non H', rt := Q } (start N_l_take vs) H := by
  obtain ⟨b, m, k, rfl, Hs, sb, hb, m0, m1, ⟨x, y, z, e, hx, hy, hy2, hz, hz2⟩, q⟩ := h
  unfold t_l_take
  walk_at "rd"
  refine ite2 (fun c => ?_) (fun c => ?_)
  · have c : 0 < x := of_decide_eq_true c
    walk_at "rd"
    refine x_I m0 ?_
    walk_at "rd"
    refine x_I (wide_pos m0 m1) ?_
    walk_at "rd"
    refine x_setL e rfl ?_
    walk_at "rd"
    exact q _ _ (Int.emod_nonneg _ (by omega)) (Int.emod_lt_of_pos _ m0) (Go.put sb hb (List.mem_singleton.mpr rfl)) ⟨x / m, y, z, upd_same, Int.ediv_nonneg hx (by omega), hy, hy2, hz, by omega⟩
  · walk_at "rd"
    refine x_setL e rfl ?_
    have e1 : (upd H b (.lst [.int x, .int y, .int (z + 1)])) b = some (.lst [.int x, .int y, .int (z + 1)]) := upd_same
    walk_at "rd"
    refine x_I (mulx_small (by omega) (by omega)) ?_
    walk_at "rd"
    refine x_I ⟨by omega, by omega, by omega⟩ ?_
    walk_at "rd"
    refine x_I (show (0 : Int) < 2147483647 by decide) ?_
    have o1 := Int.emod_nonneg ((y + 39373 * (z + 1)) ^ Int.toNat 5) (show (2147483647 : Int) ≠ 0 by decide)
    have o2 := Int.emod_lt_of_pos ((y + 39373 * (z + 1)) ^ Int.toNat 5) (show (0 : Int) < 2147483647 by decide)
    generalize (y + 39373 * (z + 1)) ^ Int.toNat 5 % 2147483647 = once at o1 o2 ⊢
    walk_at "rd"
    refine x_I (wide_pos (by decide) (by decide)) ?_
    walk_at "rd"
    refine x_I (show (0 : Int) < 40009 by decide) ?_
    walk_at "rd"
    have o3 := Int.emod_nonneg once (show (40009 : Int) ≠ 0 by decide)
    have o4 := Int.emod_lt_of_pos once (show (0 : Int) < 40009 by decide)
    refine x_I (mulx_small (by omega) (by omega)) ?_
    walk_at "rd"
    refine x_I (show (0 : Int) < 2147483629 by decide) ?_
    have o5 := Int.emod_nonneg ((once + (z + 1) + y / 1000003) * (once % 40009 + 7 + (z + 1))) (show (2147483629 : Int) ≠ 0 by decide)
    have o6 := Int.emod_lt_of_pos ((once + (z + 1) + y / 1000003) * (once % 40009 + 7 + (z + 1))) (show (0 : Int) < 2147483629 by decide)
    generalize (once + (z + 1) + y / 1000003) * (once % 40009 + 7 + (z + 1)) % 2147483629 = twice at o5 o6 ⊢
    walk_at "rd"
    refine x_I (mulx_small (by omega) (by omega)) ?_
    walk_at "rd"
    refine x_I (show (0 : Int) < 2147483587 by decide) ?_
    walk_at "rd"
    refine x_I (wide_pos (by decide) (by decide)) ?_
    walk_at "rd"
    refine x_I m0 ?_
    exact q _ _ (Int.emod_nonneg _ (by omega)) (Int.emod_lt_of_pos _ m0) (Go.put sb hb (List.mem_singleton.mpr rfl)) ⟨x, y, z + 1, upd_same, hx, hy, hy2, by omega, by omega⟩
theorem pure_l_dip (T : Top K mg A) (h : sp_l_dip K vs H Q E) : t_l_dip K A { nx := fun _ H' => Q .non H', rt := Q } (start N_l_dip vs) H := by
  obtain ⟨c, ns, k, a, rfl, Hs, sb, hc, hb, ha, hk, q⟩ := h
  have hc' := sb.seq hc
  have fin : ∀ z : Int, z.natAbs < 2 ^ (a + 1) → (tRet (tLst (tCons (tOp zMul (tCB zAbs (tCons (tVar 2) tNil)) (tCB zInt1 (tCons (tOp zGtE (tCB zAbs (tCons (tVar 2) tNil)) (tOp zPow (tC (.int 10)) (tC (.int 18)))) tNil))) (tCons (tOp zAdd (tOp zAdd (tOp zMod (tVar 2) (tC (.int 2305843009213693951))) (tOp zMul (tC (.int 39373)) (tVar 1))) (tC (.int 17))) (tCons (tC (.int 0)) tNil))))) { nx := fun _ H' => Q .non H', rt := Q } [some (.ref c), some (.int (k : Int)), some (.int z)] H := by
    intro z hz
    walk_at "rd"
    refine x_I ⟨by decide, by decide, by decide⟩ ?_
    walk_at "rd"
    have h1 : (if decide ((10 : Int) ^ Int.toNat 18 ≤ (z.natAbs : Int)) = true then (1 : Int) else 0).natAbs < 2 ^ 1 := by split <;> decide
    have h0 : 0 ≤ (if decide ((10 : Int) ^ Int.toNat 18 ≤ (z.natAbs : Int)) = true then (1 : Int) else 0) := by split <;> decide
    generalize (if decide ((10 : Int) ^ Int.toNat 18 ≤ (z.natAbs : Int)) = true then (1 : Int) else 0) = w at h1 h0 ⊢
    refine x_I (mulx_ok (a := a + 1) (b := 1) (by rw [Int.natAbs_natCast]; exact hz) h1 (by omega)) ?_
    walk_at "rd"
    refine x_I (show (0 : Int) < 2305843009213693951 by decide) ?_
    walk_at "rd"
    refine x_I (mulx_small (by decide) (by omega)) ?_
    walk_at "rd"
    have o3 := Int.emod_nonneg z (show (2305843009213693951 : Int) ≠ 0 by decide)
    have o4 := Int.emod_lt_of_pos z (show (0 : Int) < 2305843009213693951 by decide)
    refine ⟨by show 3 ≤ sizeLine; decide, fun p hn => x_cell2 sb hn fun H' g hs hp => q H' p hn hs g ⟨_, _, _, hp, Int.mul_nonneg (Int.natCast_nonneg _) h0, by omega, by omega, by decide, by decide⟩⟩
  unfold t_l_dip
  walk_at "rd"
  refine ite2 (fun c => ?_) (fun c => ?_)
  · have c1 : (k : Int) < ((ns.map V.int).length : Int) := of_decide_eq_true c
    have c2 : k < ns.length := by rw [List.length_map] at c1; omega
    have g1 : (ns.map V.int)[k]? = some (.int ns[k]) := by rw [List.getElem?_map, List.getElem?_eq_getElem c2]; rfl
    walk_at "rd"
    refine x_ixL hc' (atI_nat g1) ?_
    refine x_name ?_
    have := hb ns[k] (List.getElem_mem c2)
    exact fin _ (by rw [Nat.pow_succ]; omega)
  · refine x_c (x_name ?_)
    exact fin 0 (Nat.two_pow_pos _)
theorem pure_l_one_of (T : Top K mg A) (h : sp_l_one_of K vs H Q E) : t_l_one_of K A { nx := fun _ H' => Q .non H', rt := Q } (start N_l_one_of vs) H := by
  obtain ⟨b, y, xs, k, rfl, Hs, sb, hb, hp, hne, hle, hbox, q⟩ := h
  have hpos : 0 < xs.length := List.length_pos_iff.mpr hne
  have hlen : LenV K y H xs.length := by
    rcases hp with ⟨l, rfl, h | h⟩ | ⟨z, rfl, hz, rfl⟩
    · exact .inl ⟨xs, sb.seq h, rfl⟩
    · exact .inr ⟨xs, sb.sqt h, rfl⟩
    · refine ⟨hz, ?_⟩
      rw [List.length_map]
      simp [Str.length]
  unfold t_l_one_of
  walk_at "rd"
  refine ⟨_, _, rfl, hlen, ?_⟩
  refine ⟨b, (xs.length : Int), k, rfl, Hs, sb, hb, by omega, by omega, hbox, fun H' r r0 r1 g hb' => ?_⟩
  obtain ⟨j, rfl⟩ : ∃ j : Nat, r = (j : Int) := ⟨r.toNat, by omega⟩
  have hj : j < xs.length := by omega
  have e : xs[j]? = some xs[j] := List.getElem?_eq_getElem hj
  have hq := q H' xs[j] (List.getElem_mem hj) g hb'
  rcases hp with ⟨l, rfl, h | h⟩ | ⟨z, rfl, hz, hx⟩
  · exact .inl ⟨l, xs, _, _, rfl, rfl, g.sub.seq h, atI_nat e, hq⟩
  · exact .inr (.inl ⟨l, xs, _, _, rfl, rfl, g.sub.sqt h, atI_nat e, hq⟩)
  · subst hx
    have hj2 : j < z.cps.toList.length := by rw [List.length_map] at hj; exact hj
    have e2 : z.cps.toList[j]? = some z.cps.toList[j] := List.getElem?_eq_getElem hj2
    refine .inr (.inr ⟨z, _, _, rfl, rfl, hz, atI_nat e2, ?_⟩)
    rw [List.getElem_map] at hq
    exact hq
theorem pure_l_folded (T : Top K mg A) (h : sp_l_folded K vs H Q E) : t_l_folded K A { nx := fun _ H' => Q .non H', rt := Q } (start N_l_folded vs) H := by
  obtain ⟨c, ns, n, a, rfl, Hs, sb, hc, hl, hn, hn2, hb, ha, q⟩ := h
  have hc' := sb.seq hc
  unfold t_l_folded
  walk_at "rd"
  refine x_slL hc' fun p1 n1 => ?_
  refine x_new3 sb n1 fun Hs1 H1 c1 e1 => ?_
  walk_at "rd"
  have e1' := c1.sub _ _ e1
  refine x_listOf (SqL.of e1') fun l n2 => ?_
  refine x_cell3 c1.sub n2 fun H2 c2 hs2 e2 => ?_
  walk_at "rd"
  refine x_slL (c2.sub.seq (c1.p.seq hc)) fun p3 n3 => ?_
  refine x_new3 c2.sub n3 fun Hs3 H3 c3 e3 => ?_
  walk_at "rd"
  refine x_ienumv (SqL.of (c3.sub _ _ e3)) ?_
  have k1 : cutV (ns.map V.int) none (some (n : Int)) = (ns.take n).map V.int := by
    unfold cutV
    rw [HT.sIx_none, show HT.sIx (ns.map V.int).length (ns.map V.int).length (some (n : Int)) = min n (ns.map V.int).length from HT.sIx_nat _ _ n, Nat.sub_zero, List.drop_zero, List.length_map]
    rw [← List.map_take]
    congr 1
    rcases Nat.le_total n ns.length with h | h
    · rw [Nat.min_eq_left h]
    · rw [Nat.min_eq_right h, List.take_of_length_le (Nat.le_refl _), List.take_of_length_le h]
  have k3 : cutV (ns.map V.int) (some (n : Int)) (some 63) = ((ns.drop n).take 63).map V.int := by
    unfold cutV
    rw [show HT.sIx (ns.map V.int).length 0 (some (n : Int)) = min n (ns.map V.int).length from HT.sIx_nat _ _ n, show HT.sIx (ns.map V.int).length (ns.map V.int).length (some 63) = min 63 (ns.map V.int).length from HT.sIx_nat _ _ 63, List.length_map]
    rw [← List.map_drop, ← List.map_take]
    congr 1
    rcases Nat.le_total n ns.length with h | h
    · rw [Nat.min_eq_left h, Nat.min_eq_right hl, List.take_of_length_le (by rw [List.length_drop]; omega), List.take_of_length_le (by rw [List.length_drop]; omega)]
    · rw [Nat.min_eq_right h, List.drop_length, List.drop_of_length_le h, List.take_nil, List.take_nil]
  rw [k1] at e2
  rw [k3] at e3
  have hz : ∀ x ∈ (ns.drop n).take 63, x.natAbs < 2 ^ a := fun x hx => hb x (List.mem_of_mem_drop (List.mem_of_mem_take hx))
  have hzl : ((ns.drop n).take 63).length ≤ 63 := List.length_take_le _ _
  have hzn : (ns.drop n).take 63 ≠ [] → n ≤ ns.length := fun h => by
    rcases Nat.le_total n ns.length with h2 | h2
    · exact h2
    · rw [List.drop_of_length_le h2, List.take_nil] at h
      exact absurd rfl h
  generalize (ns.drop n).take 63 = zs at e3 hz hzl hzn ⊢
  have hs3 : Hs3 l = none := c3.off e2 hs2
  have hl0 : H l = none := c1.fresh n2
  -- the loop: behind i turns the cells are sums
  refine for_enum (xs := zs.map V.int) (fun i σ H' => ∃ (ms : List Int) (y3 y4 : Option V), σ = [some (.ref c), some (.int (n : Int)), some (.ref l), y3, y4] ∧ Gone [] Hs H Hs3 H' ∧ H' l = some (.lst (ms.map V.int)) ∧ ms.length = min n ns.length ∧
      ∀ z ∈ ms, z.natAbs ≤ 2 ^ a * (1 + 100 * i)) ?_ ?_ ?_ ?_
  · exact ⟨ns.take n, none, none, rfl, ⟨((c1.pure c2).pure c3)⟩, c3.keep _ _ (by simp) e2, List.length_take, fun z hz => by
      have := hb z (List.mem_of_mem_take hz)
      omega⟩
  · rintro i σ H' hi ⟨ms, y3, y4, rfl, g, _⟩
    exact g.g.sub.seq (SqL.of e3)
  · rintro i x σ H' T' hx ⟨ms, y3, y4, rfl, g, hl', hlen, hbd⟩ hT
    obtain ⟨w, hw, rfl⟩ : ∃ w, zs[i]? = some w ∧ x = V.int w := by
      rw [List.getElem?_map] at hx
      cases e : zs[i]? with
      | none => rw [e] at hx; cases hx
      | some w => rw [e] at hx; exact ⟨w, rfl, (Option.some.inj hx).symm⟩
    have hwz := hz w (List.mem_of_getElem? hw)
    have hi : i < zs.length := (List.getElem?_eq_some_iff.mp hw).1
    have hnn : n ≤ ns.length := hzn (fun z => by rw [z] at hi; exact absurd hi (Nat.not_lt_zero _))
    have hmn : ms.length = n := by omega
    refine x_cell3 g.g.sub hT fun H4 c4 hs4 e4 => ?_
    refine x_gtup (SqT.of e4) rfl ?_
    have el4 : H4 l = some (.lst (ms.map V.int)) := c4.keep _ _ (by simp) hl'
    have hj : i % n < ms.length := by rw [hmn]; exact Nat.mod_lt _ hn
    have ej : (i : Int) % (n : Int) = ((i % n : Nat) : Int) := (Int.natCast_emod i n).symm
    have g1 : (ms.map V.int)[i % n]? = some (.int ms[i % n]) := by rw [List.getElem?_map, List.getElem?_eq_getElem hj]; rfl
    have hm := hbd ms[i % n] (List.getElem_mem hj)
    walk_at "rd"
    refine x_I (show (0 : Int) < (n : Int) by omega) ?_
    rw [ej]
    refine x_ixL (SqL.of el4) (atI_nat g1) ?_
    walk_at "rd"
    refine x_I (mulx_ok (a := a) (b := 10) hwz (by omega) (by omega)) ?_
    walk_at "rd"
    refine x_I (show (0 : Int) < (n : Int) by omega) ?_
    rw [ej]
    refine x_setL el4 (j := i % n) (by
      unfold ixN
      rw [List.length_map, if_pos (by omega), if_pos (by omega), Int.toNat_natCast]) ?_
    refine ⟨ms.set (i % n) (ms[i % n] + w * ((i : Int) + 2)), _, _, rfl, (g.pure c4).put hs3 (.inr hl0), ?_, by rw [List.length_set]; exact hlen, ?_⟩
    · rw [List.map_set]
      exact upd_same
    · intro z hzm
      rcases List.mem_or_eq_of_mem_set hzm with h | h
      · have := hbd z h
        refine Nat.le_trans this (Nat.mul_le_mul_left _ (by omega))
      · rw [h]
        have h1 : (w * ((i : Int) + 2)).natAbs ≤ 2 ^ a * 100 := by
          rw [Int.natAbs_mul]
          exact Nat.mul_le_mul (Nat.le_of_lt hwz) (by omega)
        have h2 := Int.natAbs_add_le ms[i % n] (w * ((i : Int) + 2))
        have h3 : 2 ^ a * (1 + 100 * (i + 1)) = 2 ^ a * (1 + 100 * i) + 2 ^ a * 100 := by rw [show 1 + 100 * (i + 1) = (1 + 100 * i) + 100 by omega, Nat.mul_add]
        omega
  · rintro σ H' ⟨ms, y3, y4, rfl, g, hl', hlen, hbd⟩
    walk_at "rd"
    refine q (upd Hs3 l (.lst (ms.map V.int))) H' l ms (g.frozen hl' hl0 hs3).g upd_same hlen fun z hz => ?_
    have h1 := hbd z hz
    rw [List.length_map] at h1
    have h2 : 2 ^ (a + 20) = 2 ^ a * 1048576 := by rw [Nat.pow_add]
    have h3 : 2 ^ a * (1 + 100 * zs.length) < 2 ^ a * 1048576 := Nat.mul_lt_mul_of_pos_left (by omega) (Nat.two_pow_pos _)
    omega
theorem pure_l_named (T : Top K mg A) (h : sp_l_named K vs H Q E) : t_l_named K A { nx := fun _ H' => Q .non H', rt := Q } (start N_l_named vs) H := by
  obtain ⟨b, n, k, rfl, Hs, sb, hb, hn, hbox, q⟩ := h
  obtain ⟨ob, eb⟩ := hbox.some
  unfold t_l_named
  walk_at "rd"
  refine ⟨Nat.zero_le _, fun l n1 => ?_⟩
  have hbl : b ≠ l := ne_of_none eb n1
  refine x_cell3 sb n1 fun H1 c1 hs1 e1 => ?_
  walk_at "rd"
  refine ⟨by show 2 ≤ sizeLine; decide, fun t n2 => ?_⟩
  refine x_cell3 c1.sub n2 fun H2 c2 hs2 e2 => ?_
  refine x_gtup (SqT.of e2) rfl ?_
  walk_at "rd"
  refine x_rng1v (by omega) (by omega) ?_
  rw [Int.toNat_natCast]
  refine for_range (lo := 0) (n := n) (fun i σ H' => ∃ (names : List Str) (y5 y6 y7 : Option V), σ = [some (.ref b), some (.int (n : Int)), some (.str "abcdefghijklmnopqrstuvwxyz"), some (.ref l), some (.str "page title day draft tags under old in use pages to when done path body inner nowhere tag none make"), y5, y6, y7] ∧
      Gone [b] Hs H Hs H' ∧ H' l = some (.lst (names.map V.str)) ∧ names.length = i ∧ NamesOk names ∧ BoxAt H' b (k + 20 * (n - i))) ?_ ?_ ?_
  · exact ⟨[], none, none, none, rfl, ⟨(c1.pure c2).any⟩, c2.keep _ _ (by simp) e1, rfl, ⟨(fun _ h => (nomatch h)), List.nodup_nil⟩, (hbox.keep c1 (by simp)).keep c2 (by simp)⟩
  · rintro i σ H' hi ⟨names, y5, y6, y7, rfl, g, hl, hlen, hok, hbx⟩
    have hnl : names.length ≤ 30 := by omega
    walk_at "rd"
    refine ⟨by show 4 ≤ sizeLine; decide, fun p3 n3 => ?_⟩
    refine x_cell3 g.g.sub n3 fun H3 c3 hs3 e3 => ?_
    walk_at "rd"
    refine ⟨b, 4, k + 20 * (n - i) - 1, rfl, Hs, c3.sub, hb, by decide, by decide, (hbx.keep c3 (by simp)).mono (by omega), fun H4 r r0 r1 c4 hb4 => ?_⟩
    obtain ⟨m, hm1, hm2, hm⟩ : ∃ m : Nat, 1 ≤ m ∧ m ≤ 8 ∧ atI [V.int 1, .int 2, .int 4, .int 8] r = some (.int (m : Int)) := by
      rcases (show r = 0 ∨ r = 1 ∨ r = 2 ∨ r = 3 by omega) with rfl | rfl | rfl | rfl
      · exact ⟨1, by omega, by omega, rfl⟩
      · exact ⟨2, by omega, by omega, rfl⟩
      · exact ⟨4, by omega, by omega, rfl⟩
      · exact ⟨8, by omega, by omega, rfl⟩
    have e4 : H4 p3 = some (.lst [.int 1, .int 2, .int 4, .int 8]) := c4.keep _ _ (out1 (hbx.ne n3)) e3
    have l4 : H4 l = some (.lst (names.map V.str)) := c4.keep _ _ (out1 hbl.symm) (c3.keep _ _ (by simp) hl)
    refine x_ixL (SqL.of e4) hm ?_
    walk_at "rd"
    refine x_rng1v (by omega) (by omega) ?_
    rw [Int.toNat_natCast]
    intro Dl nD
    have hDb : Dl ≠ b := hb4.ne nD
    have hDl : l ≠ Dl := ne_of_none l4 nD
    refine lc_range (lo := 0) (n := m) (fun j H' => ∃ cs : List Nat, cs.length = j ∧ (∀ c ∈ cs, 97 ≤ c ∧ c ≤ 122) ∧ Gone [b] Hs H4 Hs H' ∧ H' Dl = some (.lst (cs.map fun c => V.str ⟨#[c]⟩)) ∧ H' l = some (.lst (names.map V.str)) ∧ BoxAt H' b (k + 20 * (n - i) - 1 - j)) ?_ ?_ ?_
    · have cD := Go.cell (M := [b]) (o := .lst []) c4.sub nD
      exact ⟨[], rfl, (fun _ h => (nomatch h)), ⟨cD⟩, upd_same, cD.keep _ _ (out1 hbl.symm) l4, hb4.put_ne hDb⟩
    · rintro j H5 hj ⟨cs, h1, h2, g5, eD, l5, hb5⟩
      walk_at "rd"
      refine ⟨rfl, ?_⟩
      walk_at "rd"
      refine ⟨b, 26, k + 20 * (n - i) - 1 - (j + 1), rfl, Hs, g5.g.sub, hb, by decide, by decide, hb5.mono (by omega), fun H6 r6 r60 r61 c6 hb6 => ?_⟩
      obtain ⟨u, rfl⟩ : ∃ u : Nat, r6 = (u : Int) := ⟨r6.toNat, by omega⟩
      have eu : atI (tl ("abcdefghijklmnopqrstuvwxyz" : Str)) (u : Int) = some (97 + u) := atI_nat (by rw [tl_alpha]; exact alpha_at u (by omega))
      refine x_ixS (by decide) eu ?_
      refine ⟨_, c6.keep _ _ (out1 hDb) eD, sz_lt (by rw [List.length_map]; omega), cs ++ [97 + u], by simp [h1], fun c hc => ?_, (g5.trans c6).put (none_sub c4.sub nD) (.inr nD), ?_, ?_, hb6.put_ne hDb⟩
      · rcases List.mem_append.mp hc with hc | hc
        · exact h2 c hc
        · rw [List.mem_singleton.mp hc]
          omega
      · rw [List.map_append]
        exact upd_same
      · rw [upd_ne hDl]
        exact c6.keep _ _ (out1 hbl.symm) l5
    · rintro H5 ⟨cs, h1, h2, g5, eD, l5, hb5⟩
      refine x_joinL (ys := cs.map fun c => ⟨#[c]⟩) (SqL.of (by rw [List.map_map]; exact eD)) (by
        rw [sum_ones, List.length_map]
        show cs.length + cs.length * 0 ≤ 16777216
        omega) ?_
      walk_at "rd"
      have nm0 : nameB (Txt.join "" (cs.map fun c => ⟨#[c]⟩)) = true := by
        rw [name_iff, join_signs]
        exact ⟨by omega, by omega, h2⟩
      generalize Txt.join "" (cs.map fun c => ⟨#[c]⟩) = nm at nm0 ⊢
      have gA : Gone [b] Hs H Hs H5 := ((g.pure c3).trans c4).trans g5.g
      -- if take(box, 12) == 0: name = words.split(' ')[take(box, 20)]
      refine x_cut (fun σ' H' => ∃ (nm : Str), σ' = [some (.ref b), some (.int (n : Int)), some (.str "abcdefghijklmnopqrstuvwxyz"), some (.ref l), some (.str "page title day draft tags under old in use pages to when done path body inner nowhere tag none make"), some (.int (i : Int)), y6, some (.str nm)] ∧
        Gone [b] Hs H Hs H' ∧ H' l = some (.lst (names.map V.str)) ∧ nameB nm = true ∧ BoxAt H' b (k + 20 * (n - i) - 11)) ?_ ?_
      · walk_at "rd"
        refine ⟨b, 12, k + 20 * (n - i) - 1 - m - 1, rfl, Hs, gA.g.sub, hb, by decide, by decide, hb5.mono (by omega), fun H7 r7 r70 r71 c7 hb7 => ?_⟩
        have l7 : H7 l = some (.lst (names.map V.str)) := c7.keep _ _ (out1 hbl.symm) l5
        have gB := gA.trans c7
        walk_at "rd"
        refine x_eq rfl ?_
        walk_at "rd"
        refine ite2 (fun _ => ?_) (fun _ => ?_)
        · walk_at "rd"
          refine x_split (by decide) (by decide) fun p8 n8 => ?_
          refine x_cell3 gB.g.sub n8 fun H8 c8 hs8 e8 => ?_
          walk_at "rd"
          refine ⟨b, 20, k + 20 * (n - i) - 1 - m - 2, rfl, Hs, c8.sub, hb, by decide, by decide, (hb7.keep c8 (by simp)).mono (by omega), fun H9 r9 r90 r91 c9 hb9 => ?_⟩
          have l9 : H9 l = some (.lst (names.map V.str)) := c9.keep _ _ (out1 hbl.symm) (c8.keep _ _ (by simp) l7)
          have e9 := c9.keep _ _ (out1 (hb7.ne n8)) e8
          rw [words_split] at e9
          obtain ⟨u, rfl⟩ : ∃ u : Nat, r9 = (u : Int) := ⟨r9.toNat, by omega⟩
          have hu : u < wordsL.length := by show u < 20; omega
          have gu : (wordsL.map V.str)[u]? = some (.str wordsL[u]) := by rw [List.getElem?_map, List.getElem?_eq_getElem hu]; rfl
          refine x_ixL (SqL.of e9) (atI_nat gu) ?_
          walk_at "rd"
          exact ⟨wordsL[u], by simp only [Int.zero_add]; rfl, (gB.pure c8).trans c9, l9, words_ok _ (List.getElem_mem hu), hb9.mono (by omega)⟩
        · walk_at "rd"
          exact ⟨nm, by simp only [Int.zero_add]; rfl, gB, l7, nm0, hb7.mono (by omega)⟩
      · rintro σ' H6 ⟨nm, rfl, g6, l6, nm1, hb6⟩
        walk_at "rd"
        refine x_lenL (SqL.of l6) ?_
        walk_at "rd"
        rw [List.length_map]
        refine x_rng1v (by omega) (by omega) ?_
        have en : ((names.length : Int) + 1).toNat = names.length + 1 := by omega
        rw [en]
        refine for_range (lo := 0) (n := names.length + 1) (fun t σ' H' => ∃ (y6 : Option V) (x : Str), σ' = [some (.ref b), some (.int (n : Int)), some (.str "abcdefghijklmnopqrstuvwxyz"), some (.ref l), some (.str "page title day draft tags under old in use pages to when done path body inner nowhere tag none make"), some (.int (i : Int)), y6, some (.str x)] ∧
          H' = H6 ∧ nameB x = true ∧ Tried names t x) ⟨y6, nm, rfl, rfl, nm1, tried_zero names nm⟩ ?_ ?_
        · rintro t σ' H7 ht ⟨y6', x, rfl, rfl, hx, tr⟩
          walk_at "rd"
          refine x_inL (SqL.of l6) rfl (flat_strs names) ?_
          rw [inV_strs]
          walk_at "rd"
          refine ite2 (fun hd => ?_) (fun hd => ?_)
          · have hmem : x ∈ names := of_decide_eq_true hd
            have hx8 := (name_iff.mp hx).2.1
            have hxl : x.length ≤ 8 := by rw [len_tl]; exact hx8
            have ht2 : t ≤ 30 := by omega
            have d1 : (0 + (t : Int)) / 26 = ((t / 26 : Nat) : Int) := by omega
            have d2 : (0 + (t : Int)) % 26 = ((t % 26 : Nat) : Int) := by omega
            have eu1 : atI (tl ("abcdefghijklmnopqrstuvwxyz" : Str)) ((t / 26 : Nat) : Int) = some (97 + t / 26) := atI_nat (by rw [tl_alpha]; exact alpha_at _ (by omega))
            have eu2 : atI (tl ("abcdefghijklmnopqrstuvwxyz" : Str)) ((t % 26 : Nat) : Int) = some (97 + t % 26) := atI_nat (by rw [tl_alpha]; exact alpha_at _ (by omega))
            have c6 : (cutS x none (some 6)).length ≤ 6 := by rw [len_tl, show (6 : Int) = ((6 : Nat) : Int) from rfl, tl_cut_hi, List.length_take]; omega
            walk_at "rd"
            refine x_slS (sz_le (by omega)) ?_
            walk_at "rd"
            refine x_I (wide_pos (by decide) (by decide)) ?_
            rw [d1]
            refine x_ixS (by decide) eu1 ?_
            refine x_addSx (sz_le (by rw [len_one]; omega)) ?_
            walk_at "rd"
            refine x_I (show (0 : Int) < 26 by decide) ?_
            rw [d2]
            refine x_ixS (by decide) eu2 ?_
            refine x_addSx (sz_le (by rw [len_tl, tl_append, List.length_append, ← len_tl, tl_one, len_one, List.length_singleton]; omega)) ?_
            walk_at "rd"
            have eb : cutS x none (some 6) ++ (⟨#[97 + t / 26]⟩ : Str) ++ (⟨#[97 + t % 26]⟩ : Str) = bentName x t := by
              refine ext_tl ?_
              rw [tl_append, tl_append, show (6 : Int) = ((6 : Nat) : Int) from rfl, tl_cut_hi, tl_bent, List.append_assoc]
              rfl
            rw [eb]
            exact ⟨_, bentName x t, rfl, rfl, bent_ok hx (by omega), tried_next tr hmem⟩
          · have hmem : x ∉ names := fun z => hd (decide_eq_true z)
            walk_at "rd"
            exact ⟨_, x, rfl, rfl, hx, tried_out hmem⟩
        · rintro σ' H7 ⟨y6', x, rfl, rfl, hx, tr⟩
          have hnew := tried_end tr
          walk_at "rd"
          refine x_tyL (SqL.of l6) ?_
          walk_at "rd"
          refine x_append l6 (sz_lt (by rw [List.length_map]; omega)) ?_
          walk_at "rd"
          refine ⟨names ++ [x], _, _, _, rfl, g6.put (none_sub sb n1) (.inr n1), ?_, by simp [hlen], ⟨fun z hz => ?_, ?_⟩, (hb6.put_ne hbl.symm).mono (by omega)⟩
          · rw [List.map_append]
            exact upd_same
          · rcases List.mem_append.mp hz with hz | hz
            · exact hok.1 z hz
            · rw [List.mem_singleton.mp hz]
              exact hx
          · rw [List.nodup_append]
            exact ⟨hok.2, by simp, fun a ha c hc => by
              rw [List.mem_singleton.mp hc]
              intro e
              rw [e] at ha
              exact hnew ha⟩
  · rintro σ H' ⟨names, y5, y6, y7, rfl, g, hl, hlen, hok, hbx⟩
    walk_at "rd"
    refine q (upd Hs l (.lst (names.map V.str))) H' l names (g.frozen hl n1 (none_sub sb n1)).g upd_same hlen hok ?_
    rw [Nat.sub_self] at hbx
    exact hbx
theorem zero_l_same (h : sp_l_same_n 0 K vs H Q E) : False := by
  obtain ⟨v, u, d, e, rfl, Hs, sb, hd, he, fd, dd, fe, hn, q⟩ := h
  exact Nat.not_lt_zero _ hn
theorem pure_l_same (n : Nat) (T : Top K mg A) (h : sp_l_same_n (n + 1) K vs H Q E) : t_l_same n K A { nx := fun _ H' => Q .non H', rt := Q } (start N_l_same vs) H := by
  obtain ⟨v, u, d, e, rfl, Hs, sb, hd, he, fd, dd, fe, hn, q⟩ := h
  unfold t_l_same
  walk_at "rd"
  refine ⟨by show 2 ≤ sizeLine; decide, fun p n1 => ?_⟩
  refine x_cell3 sb n1 fun H1 c1 hs1 e1 => ?_
  have hd1 := c1.sub.dp hd
  have he1 := c1.sub.dp he
  walk_at "rd"
  refine x_isSeq he1 fe e1 ?_
  walk_at "rd"
  cases he with
  | non =>
    walk_at "go"
    cases hd <;> (walk_at "go"; exact q _ c1)
  | bl b =>
    walk_at "go"
    cases hd <;> (
      walk_at "go"
      first
        | exact q _ c1
        | (refine x_isi he1 (kit_bool _ fe) ?_
           walk_at "go"
           refine x_isi hd1 (kit_bool _ fd) ?_
           walk_at "go"
           refine x_isi he1 (kit_bool _ fe) ?_
           refine x_eq rfl ?_
           walk_at "go"
           first
             | exact q _ c1
             | (with_reducible refine x_eqO rfl ?_
                first
                  | exact q _ c1
                  | (rw [show decide (V.bl _ = V.bl _) = decide (_ = _) from decide_eq_decide.mpr ⟨V.bl.inj, congrArg V.bl⟩]
                     exact q _ c1))
             | (refine x_eqD hd1 he1 (shaped_fit fd dd) (shaped_fit fe (Nat.zero_le _)) ?_
                exact q _ c1)))
  | int i =>
    walk_at "go"
    cases hd <;> (
      walk_at "go"
      first
        | exact q _ c1
        | (refine x_isi he1 (kit_bool _ fe) ?_
           walk_at "go"
           refine x_isi he1 (kit_str _ fe) ?_
           walk_at "go"
           refine x_isi hd1 (kit_int _ fd) ?_
           walk_at "go"
           first
             | exact q _ c1
             | (refine x_isi hd1 (kit_bool _ fd) ?_
                walk_at "go"
                first
                  | exact q _ c1
                  | (refine x_eqO rfl ?_
                     rw [show decide (V.int _ = V.int _) = decide (_ = _) from decide_eq_decide.mpr ⟨V.int.inj, congrArg V.int⟩]
                     exact q _ c1))))
  | str z =>
    walk_at "go"
    cases hd <;> (
      walk_at "go"
      first
        | exact q _ c1
        | (refine x_isi he1 (kit_bool _ fe) ?_
           walk_at "go"
           refine x_isi he1 (kit_str _ fe) ?_
           walk_at "go"
           refine x_isi hd1 (kit_bool _ fd) ?_
           walk_at "go"
           refine x_isi he1 (kit_bool _ fe) ?_
           refine x_eq rfl ?_
           walk_at "go"
           first
             | exact q _ c1
             | (with_reducible refine x_eqO rfl ?_
                first
                  | exact q _ c1
                  | (rw [show decide (V.str _ = V.str _) = decide (_ = _) from decide_eq_decide.mpr ⟨V.str.inj, congrArg V.str⟩]
                     exact q _ c1))
             | (refine x_eqD hd1 he1 (shaped_fit fd dd) (shaped_fit fe (Nat.zero_le _)) ?_
                exact q _ c1)))
  | @lst a ys es h r =>
    walk_at "go"
    refine x_isi hd1 (kit_list _ fd) ?_
    walk_at "go"
    refine x_isi he1 (kit_list _ fe) ?_
    refine x_ne rfl ?_
    cases hd with
    | @lst b xs ds h2 r2 =>
      walk_at "go"
      refine x_isi hd1 (kit_tuple _ fd) ?_
      walk_at "go"
      refine x_isi he1 (kit_tuple _ fe) ?_
      refine x_ne rfl ?_
      walk_at "go"
      refine x_lenAL (c1.sub.seq h2) ?_
      walk_at "rd"
      refine x_lenAL (c1.sub.seq h) ?_
      refine x_eq rfl ?_
      have l1 := dps_len r
      have l2 := dps_len r2
      have fe2 : decide (es.length ≤ 100000) = true ∧ fitD.fitAll es = true := by
        unfold fitD at fe
        exact Bool.and_eq_true_iff.mp fe
      have fd2 : decide (ds.length ≤ 100000) = true ∧ fitD.fitAll ds = true := by
        unfold fitD at fd
        exact Bool.and_eq_true_iff.mp fd
      have hz := of_decide_eq_true fe2.1
      have hn2 : PyData.depthAll es < n := by
        unfold PyData.depth at hn
        omega
      have hdd : PyData.depthAll ds ≤ 64 := by
        unfold PyData.depth at dd
        omega
      have es1 := same_zip ds es
      walk_at "rd"
      refine ite2 (fun hl => ?_) (fun hl => ?_)
      · have hl2 : xs.length = ys.length := by
          have := V.int.inj (of_decide_eq_true hl)
          omega
        walk_at "rd"
        refine ⟨b, a, xs, ys, rfl, .inl ⟨c1.sub.seq h2, c1.sub.seq h, ?_⟩⟩
        intro Dl nD
        refine lc_zip (xs := xs) (ys := ys) (fun i H' => Gone [] Hs H Hs H' ∧ H' Dl = some (.lst ((zipSame ds es i).map V.bl))) ?_ ?_ ?_ ?_
        · refine ⟨⟨c1.pure (Go.cell c1.sub nD)⟩, ?_⟩
          rw [upd_same, zipSame_zero]
          rfl
        · rintro i H' hi ⟨g, _⟩
          exact ⟨g.g.sub.seq h2, g.g.sub.seq h⟩
        · rintro i x y H' T' hx hy ⟨g, hD⟩ hT
          obtain ⟨dx, hdx, px⟩ := dps_get r2 hx
          obtain ⟨ey, hey, py⟩ := dps_get r hy
          refine x_cell3 g.g.sub hT fun H4 c4 hs4 e4 => ?_
          refine x_gtup (SqT.of e4) rfl ?_
          walk_at "rd"
          refine ⟨rfl, ?_⟩
          walk_at "rd"
          refine ⟨x, y, dx, ey, rfl, Hs, c4.sub, px, py, fit_get fd2.2 hdx, Nat.le_trans (dep_get hdx) hdd, fit_get fe2.2 hey, Nat.lt_of_le_of_lt (dep_get hey) hn2, fun H5 c5 => ?_⟩
          have hi : i < es.length := (List.getElem?_eq_some_iff.mp hey).1
          refine ⟨_, c5.keep _ _ (by simp) (c4.keep _ _ (by simp) hD), sz_lt (by rw [List.length_map]; unfold zipSame; rw [List.length_map, List.length_take, List.length_zip]; omega), ((g.pure c4).pure c5).put (none_sub c1.sub nD) (.inr (c1.fresh nD)), ?_⟩
          rw [upd_same, zipSame_succ hdx hey, List.map_append]
          rfl
        · rintro H' ⟨g, hD⟩
          rw [zipSame_all (by omega)] at hD
          walk_at "rd"
          refine x_all (SqL.of hD) ?_
          have eq1 : ((ds.zip es).map (fun p => sameD p.1 p.2)).all id = sameD.sameAll ds es := by
            rw [← es1, decide_eq_true (show ds.length = es.length by omega), Bool.true_and]
          have fin := q _ g.g
          rw [show sameD (.list ds) (.list es) = sameD.sameAll ds es by rw [sameD], ← eq1] at fin
          exact fin
      · have hl2 : ¬ ds.length = es.length := fun z => hl (decide_eq_true (by rw [l1, l2, z]))
        have fin := q _ c1
        rw [show sameD (.list ds) (.list es) = sameD.sameAll ds es by rw [sameD], ← es1, decide_eq_false hl2, Bool.false_and] at fin
        exact fin
    | @tup b xs ds h2 r2 =>
      walk_at "go"
      exact q _ c1
    | non =>
      walk_at "go"
      exact q _ c1
    | bl b =>
      walk_at "go"
      exact q _ c1
    | int i =>
      walk_at "go"
      exact q _ c1
    | str z =>
      walk_at "go"
      exact q _ c1
  | @tup a ys es h r =>
    walk_at "go"
    refine x_isi hd1 (kit_list _ fd) ?_
    walk_at "go"
    refine x_isi he1 (kit_list _ fe) ?_
    refine x_ne rfl ?_
    cases hd with
    | @tup b xs ds h2 r2 =>
      walk_at "go"
      refine x_isi hd1 (kit_tuple _ fd) ?_
      walk_at "go"
      refine x_isi he1 (kit_tuple _ fe) ?_
      refine x_ne rfl ?_
      walk_at "go"
      refine x_lenAT (c1.sub.sqt h2) ?_
      walk_at "rd"
      refine x_lenAT (c1.sub.sqt h) ?_
      refine x_eq rfl ?_
      have l1 := dps_len r
      have l2 := dps_len r2
      have fe2 : decide (es.length ≤ 100000) = true ∧ fitD.fitAll es = true := by
        unfold fitD at fe
        exact Bool.and_eq_true_iff.mp fe
      have fd2 : decide (ds.length ≤ 100000) = true ∧ fitD.fitAll ds = true := by
        unfold fitD at fd
        exact Bool.and_eq_true_iff.mp fd
      have hz := of_decide_eq_true fe2.1
      have hn2 : PyData.depthAll es < n := by
        unfold PyData.depth at hn
        omega
      have hdd : PyData.depthAll ds ≤ 64 := by
        unfold PyData.depth at dd
        omega
      have es1 := same_zip ds es
      walk_at "rd"
      refine ite2 (fun hl => ?_) (fun hl => ?_)
      · have hl2 : xs.length = ys.length := by
          have := V.int.inj (of_decide_eq_true hl)
          omega
        walk_at "rd"
        refine ⟨b, a, xs, ys, rfl, .inr ⟨c1.sub.sqt h2, c1.sub.sqt h, ?_⟩⟩
        intro Dl nD
        refine lc_zipT (xs := xs) (ys := ys) (fun i H' => Gone [] Hs H Hs H' ∧ H' Dl = some (.lst ((zipSame ds es i).map V.bl))) ?_ ?_ ?_ ?_
        · refine ⟨⟨c1.pure (Go.cell c1.sub nD)⟩, ?_⟩
          rw [upd_same, zipSame_zero]
          rfl
        · rintro i H' hi ⟨g, _⟩
          exact ⟨g.g.sub.sqt h2, g.g.sub.sqt h⟩
        · rintro i x y H' T' hx hy ⟨g, hD⟩ hT
          obtain ⟨dx, hdx, px⟩ := dps_get r2 hx
          obtain ⟨ey, hey, py⟩ := dps_get r hy
          refine x_cell3 g.g.sub hT fun H4 c4 hs4 e4 => ?_
          refine x_gtup (SqT.of e4) rfl ?_
          walk_at "rd"
          refine ⟨rfl, ?_⟩
          walk_at "rd"
          refine ⟨x, y, dx, ey, rfl, Hs, c4.sub, px, py, fit_get fd2.2 hdx, Nat.le_trans (dep_get hdx) hdd, fit_get fe2.2 hey, Nat.lt_of_le_of_lt (dep_get hey) hn2, fun H5 c5 => ?_⟩
          have hi : i < es.length := (List.getElem?_eq_some_iff.mp hey).1
          refine ⟨_, c5.keep _ _ (by simp) (c4.keep _ _ (by simp) hD), sz_lt (by rw [List.length_map]; unfold zipSame; rw [List.length_map, List.length_take, List.length_zip]; omega), ((g.pure c4).pure c5).put (none_sub c1.sub nD) (.inr (c1.fresh nD)), ?_⟩
          rw [upd_same, zipSame_succ hdx hey, List.map_append]
          rfl
        · rintro H' ⟨g, hD⟩
          rw [zipSame_all (by omega)] at hD
          walk_at "rd"
          refine x_all (SqL.of hD) ?_
          have eq1 : ((ds.zip es).map (fun p => sameD p.1 p.2)).all id = sameD.sameAll ds es := by
            rw [← es1, decide_eq_true (show ds.length = es.length by omega), Bool.true_and]
          have fin := q _ g.g
          rw [show sameD (.tuple ds) (.tuple es) = sameD.sameAll ds es by rw [sameD], ← eq1] at fin
          exact fin
      · have hl2 : ¬ ds.length = es.length := fun z => hl (decide_eq_true (by rw [l1, l2, z]))
        have fin := q _ c1
        rw [show sameD (.tuple ds) (.tuple es) = sameD.sameAll ds es by rw [sameD], ← es1, decide_eq_false hl2, Bool.false_and] at fin
        exact fin
    | @lst b xs ds h2 r2 =>
      walk_at "go"
      exact q _ c1
    | non =>
      walk_at "go"
      refine x_isi hd1 (kit_tuple _ fd) ?_
      walk_at "go"
      refine x_isi he1 (kit_tuple _ fe) ?_
      refine x_ne rfl ?_
      walk_at "go"
      exact q _ c1
    | bl b =>
      walk_at "go"
      refine x_isi hd1 (kit_tuple _ fd) ?_
      walk_at "go"
      refine x_isi he1 (kit_tuple _ fe) ?_
      refine x_ne rfl ?_
      walk_at "go"
      exact q _ c1
    | int i =>
      walk_at "go"
      refine x_isi hd1 (kit_tuple _ fd) ?_
      walk_at "go"
      refine x_isi he1 (kit_tuple _ fe) ?_
      refine x_ne rfl ?_
      walk_at "go"
      exact q _ c1
    | str z =>
      walk_at "go"
      refine x_isi hd1 (kit_tuple _ fd) ?_
      walk_at "go"
      refine x_isi he1 (kit_tuple _ fe) ?_
      refine x_ne rfl ?_
      walk_at "go"
      exact q _ c1
theorem pure_is_name (T : Top K mg A) (h : sp_is_name K vs H Q E) : t_is_name K A { nx := fun _ H' => Q .non H', rt := Q } (start N_is_name vs) H := by
  obtain ⟨v, d, rfl, Hs, sb, hd, fd, q⟩ := h
  unfold t_is_name
  walk_at "rd"
  refine x_isi (sb.dp hd) (kit_str d fd) ?_
  cases hd with
  | str z =>
    obtain ⟨hz, hk⟩ := fit_str fd
    have q : ∀ H', Go [] Hs H Hs H' → Q (.bl (nameB z)) H' := q
    walk_at "go"
    refine x_lenS (sz_le hz) ?_
    walk_at "rd"
    refine ite2 (fun h1 => ?_) (fun h1 => ?_)
    · have h1 : 1 ≤ z.length := by have := of_decide_eq_true h1; omega
      walk_at "rd"
      by_cases h2 : (z.length : Int) ≤ 8
      · rw [decide_eq_true h2]
        have h2 : z.length ≤ 8 := by omega
        walk_at "go"
        intro Dl nD
        refine lc_str (fun i H' => Gone [] Hs H Hs H' ∧ H' Dl = some (.lst (((tl z).take i).map fun c => V.bl (decide (97 ≤ c) && decide (c ≤ 122))))) ?_ ?_ ?_
        · exact ⟨⟨Go.cell sb nD⟩, upd_same⟩
        · rintro i c H' hc ⟨g, hD⟩
          walk_at "rd"
          refine ⟨rfl, ?_⟩
          walk_at "rd"
          refine x_inSg ?_
          rw [in_alpha]
          refine ⟨_, hD, sz_lt (by rw [List.length_map, List.length_take, ← len_tl]; omega), g.put (none_sub sb nD) (.inr nD), ?_⟩
          rw [upd_same, bl_take _ hc]
        · rintro H' ⟨g, hD⟩
          walk_at "rd"
          rw [List.take_length] at hD
          refine x_all (bs := (tl z).map fun c => decide (97 ≤ c) && decide (c ≤ 122)) (SqL.of (by rw [List.map_map]; exact hD)) ?_
          have fin := q _ g.g
          rw [nameB_eq, decide_eq_true h1, decide_eq_true h2, Bool.true_and, Bool.true_and, ← all_map] at fin
          exact fin
      · rw [decide_eq_false h2]
        walk_at "go"
        have fin := q _ (Go.refl sb)
        rw [nameB_eq, decide_eq_false (show ¬ z.length ≤ 8 by omega), Bool.and_false, Bool.false_and] at fin
        exact fin
    · have h1 : ¬ 1 ≤ z.length := fun z => h1 (decide_eq_true (by omega))
      walk_at "go"
      have fin := q _ (Go.refl sb)
      rw [nameB_eq, decide_eq_false h1, Bool.false_and, Bool.false_and] at fin
      exact fin
  | _ =>
    walk_at "go"
    exact q _ (Go.refl sb)
theorem pure_is_path (T : Top K mg A) (h : sp_is_path K vs H Q E) : t_is_path K A { nx := fun _ H' => Q .non H', rt := Q } (start N_is_path vs) H := by
  obtain ⟨v, d, rfl, Hs, sb, hd, fd, q⟩ := h
  unfold t_is_path
  walk_at "rd"
  refine x_isi (sb.dp hd) (kit_str d fd) ?_
  cases hd with
  | str z =>
    obtain ⟨hz, hk⟩ := fit_str fd
    have q : ∀ H', Go [] Hs H Hs H' → Q (.bl (pathB z)) H' := q
    walk_at "go"
    refine x_split (by decide) (by rw [sizeLine_eq]; omega) fun p1 n1 => ?_
    refine x_cell3 sb n1 fun H1 c1 hs1 e1 => ?_
    obtain ⟨f, rs, es, ec, hlen, hparts⟩ := split_parts z (y := "/") (s := 47) (by decide +kernel) (by decide)
    rw [path_parts ec] at q
    rw [es, List.map_cons] at e1
    refine x_gstarL (SqL.of e1) (by rw [List.length_cons]; omega) fun D nD => ?_
    rw [show List.take 1 (V.str f :: rs.map V.str) ++ [V.ref D] ++ List.drop ((V.str f :: rs.map V.str).length + 1 - 2) (List.drop 1 (V.str f :: rs.map V.str)) = [.str f, .ref D] by simp]
    rw [show List.take ((V.str f :: rs.map V.str).length + 1 - 2) (List.drop 1 (V.str f :: rs.map V.str)) = rs.map V.str by simp [List.take_of_length_le]]
    refine x_cell3 c1.sub nD fun H2 c2 hs2 e2 => ?_
    walk_at "rd"
    refine x_lenL (SqL.of e2) ?_
    walk_at "rd"
    rw [List.length_map]
    by_cases h3 : rs.length < 3
    · rw [decide_eq_true (show (rs.length : Int) < 3 by omega)]
      rw [decide_eq_true h3, Bool.true_and] at q
      walk_at "rd"
      refine x_ne rfl ?_
      have eT : decide (V.str f = V.str "tag") = decide (f = "tag") := decide_eq_decide.mpr ⟨V.str.inj, congrArg V.str⟩
      rw [eT]
      walk_at "rd"
      by_cases hT : f = "tag"
      · rw [decide_eq_true hT] at q ⊢
        walk_at "go"
        exact q _ (c1.pure c2)
      · rw [decide_eq_false hT] at q ⊢
        rw [Bool.not_false, Bool.true_and] at q
        walk_at "go"
        refine ⟨by show 1 ≤ sizeLine; decide, fun p3 n3 => ?_⟩
        refine x_cell3 c2.sub n3 fun H3 c3 hs3 e3 => ?_
        walk_at "rd"
        refine x_cat e3 (c3.keep _ _ (by simp) e2) (by rw [List.length_map]; exact sz_le (by show 1 + rs.length ≤ _; omega)) fun p4 n4 => ?_
        have eL : [V.str f] ++ rs.map V.str = (f :: rs).map V.str := rfl
        rw [eL]
        obtain ⟨Hs4, H4, eH, c4, e4⟩ := Go.laidE (M := []) (o := .lst ((f :: rs).map V.str)) c3.sub n4
        rw [← eH]
        refine ⟨p4, rfl, ⟨_, SqL.of (c4.sub _ _ e4)⟩, ?_⟩
        intro Dl n5
        refine lc_list (xs := (f :: rs).map V.str) (fun i H' => Gone [] Hs H Hs4 H' ∧ H' Dl = some (.lst ((((f :: rs).take i).map fun p => V.bl (nameB p))))) ?_ ?_ ?_ ?_
        · exact ⟨⟨(((c1.pure c2).pure c3).pure c4).pure (Go.cell c4.sub n5)⟩, upd_same⟩
        · rintro i H' hi ⟨g, _⟩
          exact g.g.sub.seq (SqL.of e4)
        · rintro i x H' hx ⟨g, hD⟩
          obtain ⟨y, hy, rfl⟩ := getV_map hx
          have hy2 := hparts y (List.mem_of_getElem? hy)
          have fy : fitD (.str y) = true := TxtOk.fit (n := 100000) ⟨by omega, strOk_iff.mpr fun c hc => strOk_iff.mp hk c (hy2.2 c hc)⟩ (by omega)
          walk_at "rd"
          refine ⟨rfl, ?_⟩
          walk_at "rd"
          refine ⟨.str y, .str y, rfl, Hs4, g.g.sub, .str y, fy, fun H5 c5 => ?_⟩
          refine ⟨_, c5.keep _ _ (by simp) hD, sz_lt (by rw [List.length_map, List.length_take, List.length_cons]; omega), (g.pure c5).put (none_sub c4.sub n5) (.inr ((((c1.pure c2).pure c3).pure c4).fresh n5)), ?_⟩
          rw [upd_same, bl_take _ hy]
          rfl
        · rintro H' ⟨g, hD⟩
          walk_at "rd"
          rw [List.length_map, List.take_length] at hD
          refine x_all (bs := (f :: rs).map nameB) (SqL.of (by rw [List.map_map]; exact hD)) ?_
          have fin := q H' g.g.forget
          rw [show ((f :: rs).map nameB).all id = (f :: rs).all nameB by rw [List.all_map]; rfl]
          exact fin
    · rw [decide_eq_false (show ¬ (rs.length : Int) < 3 by omega)]
      rw [decide_eq_false h3, Bool.false_and] at q
      walk_at "go"
      exact q _ (c1.pure c2)
  | _ =>
    walk_at "go"
    exact q _ (Go.refl sb)
theorem pure_l_is_one (T : Top K mg A) (h : sp_l_is_one K vs H Q E) : t_l_is_one K A { nx := fun _ H' => Q .non H', rt := Q } (start N_l_is_one vs) H := by
  obtain ⟨z, rfl, Hs, sb, hz, q⟩ := h
  have hz2 := len_tl z
  unfold t_l_is_one
  walk_at "rd"
  refine x_lenS (sz_le (by omega)) ?_
  walk_at "rd"
  rw [nameB_eq] at q
  by_cases h1 : (0 : Int) < (z.length : Int)
  · rw [decide_eq_true h1]
    rw [decide_eq_true (show 1 ≤ z.length by omega), Bool.true_and] at q
    walk_at "rd"
    by_cases h2 : (z.length : Int) < 9
    · rw [decide_eq_true h2]
      rw [decide_eq_true (show z.length ≤ 8 by omega), Bool.true_and] at q
      walk_at "go"
      intro Dl nD
      refine lc_str (fun i H' => Gone [] Hs H Hs H' ∧ H' Dl = some (.lst ((((tl z).take i).filter fun c => decide (97 ≤ c) && decide (c ≤ 122)).map fun c => V.str ⟨#[c]⟩))) ?_ ?_ ?_
      · exact ⟨⟨Go.cell sb nD⟩, upd_same⟩
      · rintro i c H' hc ⟨g, hD⟩
        have hlen : (((tl z).take i).filter fun c => decide (97 ≤ c) && decide (c ≤ 122)).length ≤ 10000 := Nat.le_trans (List.length_filter_le _ _) (by rw [List.length_take]; omega)
        walk_at "rd"
        refine ⟨rfl, ?_⟩
        walk_at "rd"
        refine x_leS ?_
        rw [le_a]
        walk_at "rd"
        by_cases c1 : 97 ≤ c
        · rw [decide_eq_true c1]
          walk_at "go"
          refine x_leS ?_
          rw [le_z]
          walk_at "rd"
          by_cases c2 : c ≤ 122
          · rw [decide_eq_true c2]
            walk_at "go"
            refine ⟨_, hD, sz_lt (by rw [List.length_map]; omega), g.put (none_sub sb nD) (.inr nD), ?_⟩
            rw [upd_same, filter_take_some hc (by rw [decide_eq_true c1, decide_eq_true c2]; rfl), List.map_append]
            rfl
          · rw [decide_eq_false c2]
            walk_at "go"
            refine ⟨g, ?_⟩
            rw [filter_take_none hc (by rw [decide_eq_false c2, Bool.and_false])]
            exact hD
        · rw [decide_eq_false c1]
          walk_at "go"
          refine ⟨g, ?_⟩
          rw [filter_take_none hc (by rw [decide_eq_false c1, Bool.false_and])]
          exact hD
      · rintro H' ⟨g, hD⟩
        rw [List.take_length] at hD
        have hlen : ((tl z).filter fun c => decide (97 ≤ c) && decide (c ≤ 122)).length ≤ 10000 := Nat.le_trans (List.length_filter_le _ _) (by omega)
        refine x_joinL (ys := ((tl z).filter fun c => decide (97 ≤ c) && decide (c ≤ 122)).map fun c => ⟨#[c]⟩) (SqL.of (by rw [List.map_map]; exact hD)) (by
          rw [sum_ones, List.length_map]
          show _ + _ * 0 ≤ 16777216
          omega) ?_
        walk_at "rd"
        refine x_eq rfl ?_
        rw [decV_str, join_signs, filterD_all]
        exact q _ g.g
    · rw [decide_eq_false h2]
      rw [decide_eq_false (show ¬ z.length ≤ 8 by omega), Bool.false_and] at q
      walk_at "go"
      exact q _ (Go.refl sb)
  · rw [decide_eq_false h1]
    rw [decide_eq_false (show ¬ 1 ≤ z.length by omega), Bool.false_and, Bool.false_and] at q
    walk_at "go"
    exact q _ (Go.refl sb)
theorem pure_l_is_way (T : Top K mg A) (h : sp_l_is_way K vs H Q E) : t_l_is_way K A { nx := fun _ H' => Q .non H', rt := Q } (start N_l_is_way vs) H := by
  obtain ⟨z, rfl, Hs, sb, hz, q⟩ := h
  have hz2 := len_tl z
  unfold t_l_is_way
  walk_at "rd"
  refine ⟨by show 1 ≤ sizeLine; decide, fun l n1 => ?_⟩
  refine x_cell3 sb n1 fun H1 c1 hs1 e1 => ?_
  walk_at "rd"
  refine for_str (fun i σ H' => ∃ (ys : List Str) (y3 y4 : Option V), σ = [some (.str z), some (.ref l), some (.int 0), y3, y4] ∧ Gone [] Hs H Hs H' ∧ H' l = some (.lst (ys.map V.str)) ∧ ys.map tl = cutL 47 ((tl z).take i)) ?_ ?_ ?_
  · exact ⟨[""], none, none, rfl, ⟨c1⟩, e1, by rw [List.take_zero]; decide +kernel⟩
  · rintro i c σ H' hc ⟨ys, y3, y4, rfl, g, hl, hy⟩
    have ht : (tl z).take (i + 1) = (tl z).take i ++ [c] := by rw [List.take_add_one, hc]; rfl
    have hyl : ys.length ≤ 10001 := by
      have := cut_len 47 ((tl z).take i)
      rw [← hy, List.length_map, List.length_take] at this
      omega
    walk_at "rd"
    refine x_eq rfl ?_
    rw [decV_str, tl_one, show tl ("/" : Str) = [47] by decide +kernel]
    walk_at "rd"
    by_cases h : c = 47
    · subst h
      rw [decide_eq_true rfl]
      walk_at "rd"
      refine x_tyL (SqL.of hl) ?_
      walk_at "rd"
      refine x_append hl (sz_lt (by rw [List.length_map]; omega)) ?_
      refine ⟨ys ++ [("" : Str)], _, _, rfl, g.put (none_sub sb n1) (.inr n1), ?_, ?_⟩
      · rw [upd_same, List.map_append]
        rfl
      · rw [ht, cut_snoc_hit, List.map_append, hy]
        rfl
    · rw [decide_eq_false (show ¬ [c] = [47] from fun e => h (List.cons.inj e).1)]
      obtain ⟨ys', w, rfl⟩ : ∃ ys' w, ys = ys' ++ [w] := by
        have hne : ys ≠ [] := fun e => by
          rw [e] at hy
          exact cut_ne 47 _ hy.symm
        exact ⟨ys.dropLast, ys.getLast hne, (List.dropLast_concat_getLast hne).symm⟩
      rw [List.map_append, List.map_singleton] at hl hy
      have hw : w.length ≤ 10000 := by
        have := cut_part_len 47 ((tl z).take i) (tl w) (by rw [← hy]; simp)
        rw [List.length_take] at this
        rw [len_tl w]
        omega
      walk_at "go"
      refine x_ixL (SqL.of hl) (atI_end _ _) ?_
      walk_at "rd"
      refine x_addSx (sz_le (by rw [len_one]; omega)) ?_
      walk_at "rd"
      refine x_setL hl (ixN_end _ _) ?_
      rw [set_end]
      refine ⟨ys' ++ [w ++ ⟨#[c]⟩], _, _, rfl, g.put (none_sub sb n1) (.inr n1), ?_, ?_⟩
      · rw [upd_same, List.map_append]
        rfl
      · rw [ht, cut_snoc_miss h _ _ _ hy.symm, List.map_append, List.map_singleton, tl_append, tl_one]
  · rintro σ H' ⟨ys, y3, y4, rfl, g, hl, hy⟩
    rw [List.take_length] at hy
    obtain ⟨f, rs, rfl⟩ : ∃ f rs, ys = f :: rs := by
      cases ys with
      | nil => exact absurd hy.symm (cut_ne 47 _)
      | cons f rs => exact ⟨f, rs, rfl⟩
    rw [path_parts (f := f) (rs := rs) hy.symm] at q
    have hlen : rs.length ≤ 10000 := by
      have := cut_len 47 (tl z)
      rw [show cutL 47 (tl z) = (f :: rs).map tl from hy.symm, List.length_map, List.length_cons] at this
      omega
    walk_at "rd"
    refine x_lenL (SqL.of hl) ?_
    walk_at "rd"
    rw [List.length_map]
    by_cases h3 : rs.length < 3
    · rw [decide_eq_true (show ((f :: rs).length : Int) ≤ 3 by rw [List.length_cons]; omega)]
      rw [decide_eq_true h3, Bool.true_and] at q
      walk_at "rd"
      refine x_ixL (SqL.of hl) (atI_nat (j := 0) (v := .str f) rfl) ?_
      walk_at "rd"
      refine x_ne rfl ?_
      rw [decV_strS]
      walk_at "rd"
      by_cases hT : f = "tag"
      · rw [decide_eq_true hT] at q ⊢
        walk_at "go"
        exact q _ g.g
      · rw [decide_eq_false hT] at q ⊢
        rw [Bool.not_false, Bool.true_and] at q
        walk_at "go"
        refine ⟨l, rfl, ⟨_, SqL.of hl⟩, ?_⟩
        intro Dl n5
        have hDl : l ≠ Dl := ne_of_none hl n5
        refine lc_list (xs := (f :: rs).map V.str) (fun i H2 => Gone [] Hs H Hs H2 ∧ H2 l = some (.lst ((f :: rs).map V.str)) ∧ H2 Dl = some (.lst ((((f :: rs).take i).map fun p => V.bl (nameB p))))) ?_ ?_ ?_ ?_
        · exact ⟨g.pure (Go.cell g.g.sub n5), by rw [upd_ne hDl]; exact hl, upd_same⟩
        · rintro i H' hi ⟨g, hl, _⟩
          exact SqL.of hl
        · rintro i x H' hx ⟨g2, hl2, hD⟩
          obtain ⟨y, hy1, rfl⟩ := getV_map hx
          have hyl : y.length ≤ 10000 := by
            have := cut_part_len 47 (tl z) (tl y) (by rw [show cutL 47 (tl z) = (f :: rs).map tl from hy.symm]; exact List.mem_map.mpr ⟨y, List.mem_of_getElem? hy1, rfl⟩)
            rw [len_tl y]
            omega
          walk_at "rd"
          refine ⟨rfl, ?_⟩
          walk_at "rd"
          refine ⟨y, rfl, Hs, g2.g.sub, hyl, fun H5 c5 => ?_⟩
          refine ⟨_, c5.keep _ _ (by simp) hD, sz_lt (by rw [List.length_map, List.length_take, List.length_cons]; omega), (g2.pure c5).put (none_sub g.g.sub n5) (.inr (g.g.fresh n5)), ?_, ?_⟩
          · rw [upd_ne hDl]
            exact c5.keep _ _ (by simp) hl2
          · rw [upd_same, bl_take _ hy1]
        · rintro H' ⟨g2, _, hD⟩
          walk_at "rd"
          rw [List.length_map, List.take_length] at hD
          refine x_all (bs := (f :: rs).map nameB) (SqL.of (by rw [List.map_map]; exact hD)) ?_
          have fin := q H' g2.g
          rw [show ((f :: rs).map nameB).all id = (f :: rs).all nameB by rw [List.all_map]; rfl]
          exact fin
    · rw [decide_eq_false (show ¬ ((f :: rs).length : Int) ≤ 3 by rw [List.length_cons]; omega)]
      rw [decide_eq_false h3, Bool.false_and] at q
      walk_at "go"
      exact q _ g.g
theorem pure_l_bent (T : Top K mg A) (h : sp_l_bent K vs H Q E) : t_l_bent K A { nx := fun _ H' => Q .non H', rt := Q } (start N_l_bent vs) H := by
  obtain ⟨b, z, k, rfl, Hs, sb, hb, hz, hbox, q⟩ := h
  have hz1 := hz.1
  have hzs : z.length ≤ sizeLine := sz_le (by omega)
  unfold t_l_bent
  walk_at "rd"
  refine ⟨b, 9, k + 3, rfl, Hs, sb, hb, by decide, by decide, hbox, fun H1 way w0 w1 c1 hb1 => ?_⟩
  walk_at "rd"
  refine ⟨b, (z.length : Int) + 1, k + 2, rfl, Hs, c1.sub, hb, by omega, by omega, hb1, fun H2 u u0 u1 c2 hb2 => ?_⟩
  obtain ⟨u, rfl⟩ : ∃ v : Nat, u = (v : Int) := ⟨u.toNat, by omega⟩
  walk_at "rd"
  refine ⟨b, _, _, k + 1, rfl, Hs, c2.sub, hb, .inr ⟨_, rfl, by decide, rfl⟩, by decide, by decide, hb2, fun H3 x hx c3 hb3 => ?_⟩
  obtain ⟨c, hc, rfl⟩ := List.mem_map.mp hx
  have hc2 : c < 1114112 := (show ∀ d ∈ ("abcmyz/ A0_-.,*#&<{\n" : Str).cps.toList, d < 1114112 by decide +kernel) c hc
  have ts := txt_sign hc2
  walk_at "rd"
  have e1 : (u : Int) + 1 = ((u + 1 : Nat) : Int) := rfl
  have ta := txt_hi hz u
  have tb := txt_lo hz u
  have tc := txt_lo hz (u + 1)
  have la := len_hi z u
  have lb := len_lo z u
  have lc := len_lo z (u + 1)
  have lo := len_one c
  have l8 : ("abcdefgh" : Str).length ≤ sizeLine := by decide
  refine x_addSx (sz_le (by omega)) ?_
  walk_at "rd"
  refine x_addSx (sz_le (by rw [len_append]; omega)) ?_
  walk_at "rd"
  rw [e1]
  refine x_addSx (sz_le (by omega)) ?_
  walk_at "rd"
  refine x_addSx (sz_le (by omega)) ?_
  walk_at "rd"
  rw [e1]
  refine x_addSx (sz_le (by rw [len_append]; omega)) ?_
  walk_at "rd"
  refine ⟨by show 3 ≤ sizeLine; decide, fun p1 n1 => ?_⟩
  refine x_cell3 c3.sub n1 fun H4 c4 hs4 e4 => ?_
  walk_at "rd"
  refine ⟨b, 8, k, rfl, Hs, c4.sub, hb, by decide, by decide, hb3.keep c4 (by simp), fun H5 r r0 r1 c5 hb5 => ?_⟩
  have e5 := c5.keep _ _ (out1 (hb3.ne n1)) e4
  obtain ⟨r, rfl⟩ : ∃ v : Nat, r = (v : Int) := ⟨r.toNat, by omega⟩
  have e6 : (1 : Int) + (r : Int) = ((1 + r : Nat) : Int) := (Int.natCast_add 1 r).symm
  walk_at "rd"
  rw [e6]
  have td := txt_hi (show TxtOk 8 ("abcdefgh" : Str) from ⟨by decide, by decide +kernel⟩) (1 + r)
  have td1 := td.1
  have k1 : ("/" : Str).length = 1 := by decide
  have k4 : ("tag/" : Str).length = 4 := by decide
  have k5 : ("/tag" : Str).length = 4 := by decide
  refine x_addSx (sz_le (by omega)) ?_
  walk_at "rd"
  refine x_addSx (sz_le (by omega)) ?_
  walk_at "rd"
  refine x_addSx (sz_le (by omega)) ?_
  walk_at "rd"
  refine x_addSx (sz_le (by omega)) ?_
  walk_at "rd"
  refine x_addSx (sz_le (by omega)) ?_
  walk_at "rd"
  refine ⟨by show 5 ≤ sizeLine; decide, fun p2 n2 => ?_⟩
  refine x_cell3 c5.sub n2 fun H6 c6 hs6 e6' => ?_
  have e7 := c6.keep _ _ (by simp) e5
  walk_at "rd"
  refine x_cat e7 e6' (by show 3 + 5 ≤ sizeLine; decide) fun p3 n3 => ?_
  refine x_cell3 c6.sub n3 fun H7 c7 hs7 e8 => ?_
  walk_at "rd"
  refine ⟨_, rfl, z, rfl, by rw [show ("//" : Str).length = 2 by decide]; omega, ?_⟩
  walk_at "rd"
  refine ⟨by show 1 ≤ sizeLine; decide, fun p4 n4 => ?_⟩
  refine x_cell3 c7.sub n4 fun H8 c8 hs8 e9 => ?_
  refine x_cat (c8.keep _ _ (by simp) e8) e9 (by show 8 + 1 ≤ sizeLine; decide) fun p5 n5 => ?_
  refine x_cell3 c8.sub n5 fun H9 c9 hs9 e10 => ?_
  walk_at "rd"
  have z0 : TxtOk z.length z := ⟨Nat.le_refl _, hz.2⟩
  have ta := txt_hi z0 u
  have tb := txt_lo z0 u
  have tc := txt_lo z0 (u + 1)
  have q1 : TxtOk 4 ("/" : Str) := ⟨by decide, by decide +kernel⟩
  have q2 : TxtOk 4 ("tag/" : Str) := ⟨by decide, by decide +kernel⟩
  have q3 : TxtOk 4 ("/tag" : Str) := ⟨by decide, by decide +kernel⟩
  obtain ⟨y, hy, ty, _⟩ := at_txt (n := 2 * z.length + 20) (ys := [cutS z none (some (u : Int)) ++ ⟨#[c]⟩ ++ cutS z (some (u : Int)) none, cutS z none (some (u : Int)) ++ cutS z (some ((u + 1 : Nat) : Int)) none,
    cutS z none (some (u : Int)) ++ ⟨#[c]⟩ ++ cutS z (some ((u + 1 : Nat) : Int)) none, z ++ cutS "abcdefgh" none (some ((1 + r : Nat) : Int)), "/" ++ z, z ++ "/", "tag/" ++ z, z ++ "/tag", Txt.replace z "/" "//"]) (by
      intro y hy
      simp only [List.mem_cons, List.not_mem_nil, or_false] at hy
      rcases hy with rfl | rfl | rfl | rfl | rfl | rfl | rfl | rfl | rfl
      · exact ((ta.app ts).app tb).mono (by omega)
      · exact (ta.app tc).mono (by omega)
      · exact ((ta.app ts).app tc).mono (by omega)
      · exact (z0.app td).mono (by omega)
      · exact (q1.app z0).mono (by omega)
      · exact (z0.app q1).mono (by omega)
      · exact (q2.app z0).mono (by omega)
      · exact (z0.app q3).mono (by omega)
      · exact (txt_repl z0).mono (by omega)) w0 (by show way < 9; exact w1)
  refine x_ixL (SqL.of e10) hy ?_
  have g3 : Go [b] Hs H Hs H3 := (c1.trans c2).trans c3
  have g9 : Go [b] Hs H Hs H9 := ((((g3.pure c4).trans c5).pure c6).pure c7 |>.pure c8).pure c9
  exact q H9 y ty g9 ((((hb5.keep c6 (by simp)).keep c7 (by simp)).keep c8 (by simp)).keep c9 (by simp))
theorem pure_l_told_right (T : Top K mg A) (h : sp_l_told_right K vs H Q E) : t_l_told_right K A { nx := fun _ H' => Q .non H', rt := Q } (start N_l_told_right vs) H := by
  obtain ⟨z, rfl, Hs, sb, hz, q⟩ := h
  have fz : fitD (.str z) = true := hz.fit (by omega)
  unfold t_l_told_right
  walk_at "rd"
  refine ⟨_, .str z, rfl, Hs, sb, .str z, fz, fun H1 c1 => ?_⟩
  walk_at "rd"
  refine ⟨_, .str z, rfl, Hs, c1.sub, .str z, fz, fun H2 c2 => ?_⟩
  walk_at "rd"
  refine ⟨_, .str z, rfl, Hs, c2.sub, .str z, fz, fun H3 c3 => ?_⟩
  walk_at "rd"
  refine ⟨_, .str z, rfl, Hs, c3.sub, .str z, fz, fun H4 c4 => ?_⟩
  walk_at "rd"
  refine ⟨by show 4 ≤ sizeLine; decide, fun p n1 => ?_⟩
  refine x_new3 c4.sub n1 fun Hs5 H5 c5 e5 => ?_
  have g5 := (((c1.trans c2).trans c3).trans c4).trans c5
  walk_at "rd"
  refine ⟨z, rfl, Hs5, c5.sub, hz.1, fun H6 c6 => ?_⟩
  walk_at "rd"
  refine ⟨z, rfl, Hs5, c6.sub, hz.1, fun H7 c7 => ?_⟩
  walk_at "rd"
  refine ⟨by show 2 ≤ sizeLine; decide, fun p2 n2 => ?_⟩
  refine x_cell3 c7.sub n2 fun H8 c8 hs8 e8 => ?_
  walk_at "rd"
  refine x_rep e8 (by decide) (by decide) (by show 2 * 2 ≤ sizeLine; decide) fun p3 n3 => ?_
  refine x_new3 c8.sub n3 fun Hs9 H9 c9 e9 => ?_
  have g9 := (((g5.trans c6).trans c7).trans c8).trans c9
  walk_at "rd"
  refine ⟨.ref p, .ref p3, .list [.bool (nameB z), .bool (pathB z), .bool (nameB z), .bool (pathB z)], .list [.bool (nameB z), .bool (pathB z), .bool (nameB z), .bool (pathB z)], rfl, Hs9, c9.sub,
    .lst (SqL.of (c9.p _ _ e5)) (.cons (.bl _) (.cons (.bl _) (.cons (.bl _) (.cons (.bl _) .nil)))), .lst (SqL.of e9) (.cons (.bl _) (.cons (.bl _) (.cons (.bl _) (.cons (.bl _) .nil)))), rfl, by simp [PyData.depth, PyData.depthAll], rfl, by simp [PyData.depth, PyData.depthAll], fun H' c => ?_⟩
  have fin := q H' (g9.trans c).forget
  rw [show sameD (.list [.bool (nameB z), .bool (pathB z), .bool (nameB z), .bool (pathB z)]) (.list [.bool (nameB z), .bool (pathB z), .bool (nameB z), .bool (pathB z)]) = true by simp [sameD, sameD.sameAll]]
  exact fin
theorem pure_l_right (T : Top K mg A) (h : sp_l_right K vs H Q E) : t_l_right K A { nx := fun _ H' => Q .non H', rt := Q } (start N_l_right vs) H := by
  obtain ⟨b, rfl, Hs, sb, hb, hbox, q⟩ := h
  unfold t_l_right
  walk_at "rd"
  refine ⟨b, 6, 880, rfl, Hs, sb, hb, by decide, hbox.mono (by decide), fun Hs1 H1 p names c1 e1 hl hok hb1 => ?_⟩
  have hbs1 : Hs1 b = none := hbox.off c1 hb
  obtain ⟨x0, x1, x2, x3, x4, x5, rfl⟩ : ∃ x0 x1 x2 x3 x4 x5, names = [x0, x1, x2, x3, x4, x5] := by
    match names, hl with
    | [x0, x1, x2, x3, x4, x5], _ => exact ⟨_, _, _, _, _, _, rfl⟩
  have t0 := name_txt (hok.1 x0 (by simp))
  have t1 := name_txt (hok.1 x1 (by simp))
  have t2 := name_txt (hok.1 x2 (by simp))
  have t3 := name_txt (hok.1 x3 (by simp))
  have t4 := name_txt (hok.1 x4 (by simp))
  have t5 := name_txt (hok.1 x5 (by simp))
  have k0 := t0.1
  have s1 : TxtOk 1 ("/" : Str) := ⟨by decide, by decide +kernel⟩
  have s11 : ("/" : Str).length = 1 := by decide
  walk_at "rd"
  refine x_ixL (SqL.of (c1.sub _ _ e1)) (atI_nat (j := 0) (v := .str x0) rfl) ?_
  walk_at "rd"
  refine x_slL (SqL.of (c1.sub _ _ e1)) fun p2 n2 => ?_
  refine x_new3 c1.sub n2 fun Hs2 H2 c2 e2 => ?_
  have w2 : ∀ y ∈ [x1, x2], TxtOk 8 y := by
    intro y hy
    simp only [List.mem_cons, List.not_mem_nil, or_false] at hy
    rcases hy with rfl | rfl <;> assumption
  have w3 : ∀ y ∈ [x3, x4, x5], TxtOk 8 y := by
    intro y hy
    simp only [List.mem_cons, List.not_mem_nil, or_false] at hy
    rcases hy with rfl | rfl | rfl <;> assumption
  have u2 := sum_le_txt w2
  have u3 := sum_le_txt w3
  have j2 := txt_join1 s1 w2
  have j3 := txt_join1 s1 w3
  have l2 : [x1, x2].length = 2 := rfl
  have l3 : [x3, x4, x5].length = 3 := rfl
  refine x_joinL (ys := [x1, x2]) (SqL.of (c2.sub _ _ e2)) (by rw [s11, l2]; omega) ?_
  walk_at "rd"
  have e1b := c2.p _ _ e1
  refine x_slL (SqL.of (c2.sub _ _ e1b)) fun p3 n3 => ?_
  refine x_new3 c2.sub n3 fun Hs3 H3 c3 e3 => ?_
  refine x_joinL (ys := [x3, x4, x5]) (SqL.of (c3.sub _ _ e3)) (by rw [s11, l3]; omega) ?_
  walk_at "rd"
  have e1c := c3.p _ _ e1b
  refine x_ixL (SqL.of (c3.sub _ _ e1c)) (atI_nat (j := 0) (v := .str x0) rfl) ?_
  walk_at "rd"
  refine x_addSx (sz_le (by omega)) ?_
  walk_at "rd"
  refine x_ixL (SqL.of (c3.sub _ _ e1c)) (atI_nat (j := 0) (v := .str x0) rfl) ?_
  walk_at "rd"
  refine x_addSx (sz_le (by rw [len_append]; omega)) ?_
  walk_at "rd"
  refine ⟨by show 4 ≤ sizeLine; decide, fun p4 n4 => ?_⟩
  refine x_new3 c3.sub n4 fun Hs4 H4 c4 e4 => ?_
  have e1d := c4.p _ _ e1c
  have j4 := (t0.app s1).app t0
  generalize Txt.join "/" [x1, x2] = y1 at e4 j2
  generalize Txt.join "/" [x3, x4, x5] = y2 at e4 j3
  generalize x0 ++ "/" ++ x0 = y3 at e4 j4
  have hgood : ∀ y ∈ [x0, y1, y2, y3], TxtOk 100 y := by
    intro y hy
    simp only [List.mem_cons, List.not_mem_nil, or_false] at hy
    rcases hy with rfl | rfl | rfl | rfl
    · exact t0.mono (by omega)
    · exact j2.mono (by omega)
    · exact j3.mono (by omega)
    · exact j4.mono (by omega)
  have hall : ∀ y ∈ [x0, y1, y2, y3, x0, x1, x2, x3, x4, x5], TxtOk 100 y := by
    intro y hy
    rcases List.mem_append.mp (show y ∈ [x0, y1, y2, y3] ++ [x0, x1, x2, x3, x4, x5] from hy) with h | h
    · exact hgood y h
    · exact (name_txt (hok.1 y h)).mono (by omega)
  walk_at "rd"
  refine x_cat (c4.sub _ _ e4) (c4.sub _ _ e1d) (by show 4 + 6 ≤ sizeLine; decide) fun p5 n5 => ?_
  rw [show [V.str x0, V.str y1, V.str y2, V.str y3] ++ [x0, x1, x2, x3, x4, x5].map V.str = [x0, y1, y2, y3, x0, x1, x2, x3, x4, x5].map V.str from rfl]
  obtain ⟨Hs5, H5, eH, c5, e5⟩ := Go.laidE (M := []) (o := .lst ([x0, y1, y2, y3, x0, x1, x2, x3, x4, x5].map V.str)) c4.sub n5
  rw [← eH]
  have g5 : Go [b] Hs H Hs5 H5 := (((c1.pure c2).pure c3).pure c4).pure c5
  have hbs5 : Hs5 b = none := hbox.off g5 hb
  have hb5 : BoxAt H5 b 880 := (((hb1.keep c2 (by simp)).keep c3 (by simp)).keep c4 (by simp)).keep c5 (by simp)
  have e4' := c5.p _ _ e4
  refine ⟨p5, rfl, ⟨_, SqL.of (c5.sub _ _ e5)⟩, ?_⟩
  intro Dl n6
  have hDb : Dl ≠ b := hb5.ne n6
  refine lc_list (xs := [x0, y1, y2, y3, x0, x1, x2, x3, x4, x5].map V.str) (fun i H' => Gone [] Hs5 H5 Hs5 H' ∧ H' Dl = some (.lst (([x0, y1, y2, y3, x0, x1, x2, x3, x4, x5].take i).map fun _ => V.bl true))) ?_ ?_ ?_ ?_
  · exact ⟨⟨Go.cell c5.sub n6⟩, upd_same⟩
  · rintro i H' hi ⟨g, _⟩
    exact g.g.sub.seq (SqL.of e5)
  · rintro i x H' hx ⟨g, hD⟩
    obtain ⟨y, hy, rfl⟩ := getV_map hx
    walk_at "rd"
    refine ⟨rfl, ?_⟩
    walk_at "rd"
    refine ⟨y, rfl, Hs5, g.g.sub, (hall y (List.mem_of_getElem? hy)).mono (by omega), fun H6 c6 => ?_⟩
    refine ⟨_, c6.keep _ _ (by simp) hD, sz_lt (by rw [List.length_map, List.length_take]; show min i 10 < _; omega), (g.pure c6).put (none_sub c5.sub n6) (.inr n6), ?_⟩
    rw [upd_same, take_true _ _ hy]
  · rintro H6 ⟨g6, hD⟩
    rw [List.length_map, List.take_length] at hD
    walk_at "rd"
    refine x_all (bs := [x0, y1, y2, y3, x0, x1, x2, x3, x4, x5].map fun _ => true) (SqL.of (by rw [List.map_map]; exact hD)) ?_
    rw [all_true]
    have hb6 : BoxAt H6 b 880 := hb5.keep g6.g (by simp)
    walk_at "go"
    refine x_rng1v (by decide) (by decide) ?_
    rw [show Int.toNat 16 = 16 from rfl]
    refine for_range (D := { nx := tRet (tC (.bl true)) { nx := fun _ H' => Q .non H', rt := Q }, rt := Q }) (lo := 0) (n := 16) (fun i σ H' => ∃ (y3 y4 : Option V), σ = [some (.ref b), some (.ref p), some (.ref p4), y3, y4] ∧ Gone [b] Hs H Hs5 H' ∧ BoxAt H' b (16 * (16 - i) + 100)) ?_ ?_ ?_
    · exact ⟨_, _, rfl, ⟨g5.pure g6.g⟩, hb6.mono (by omega)⟩
    · rintro i σ H' hi ⟨v3, v4, rfl, g, hbx⟩
      walk_at "rd"
      refine ⟨b, .ref p4, [x0, y1, y2, y3].map V.str, 16 * (16 - i) + 99, rfl, Hs5, g.g.sub, hbs5, .inl ⟨p4, rfl, .inl (SqL.of e4')⟩, by simp, by show 4 ≤ 1000000; decide, hbx.mono (by omega), fun H7 x hx c7 hb7 => ?_⟩
      obtain ⟨y, hy, rfl⟩ := List.mem_map.mp hx
      have ty := hgood y hy
      have ty1 := ty.1
      walk_at "rd"
      refine ⟨b, y, 16 * (16 - i) + 95, rfl, Hs5, c7.sub, hbs5, ty.mono (by omega), hb7.mono (by omega), fun H8 z tz c8 hb8 => ?_⟩
      walk_at "rd"
      have tz' := tz.mono (show 2 * y.length + 20 ≤ 220 by omega)
      have tz1 := tz'.1
      refine ⟨z, rfl, Hs5, c8.sub, tz.mono (by omega), fun H9 c9 => ?_⟩
      walk_at "go"
      refine ⟨b, z, 16 * (16 - i) + 91, rfl, Hs5, c9.sub, hbs5, tz'.mono (by omega), (hb8.keep c9 (by simp)).mono (by omega), fun H10 z2 tz2 c10 hb10 => ?_⟩
      walk_at "rd"
      refine ⟨z2, rfl, Hs5, c10.sub, tz2.mono (by omega), fun H11 c11 => ?_⟩
      walk_at "go"
      exact ⟨_, _, rfl, (((g.trans (c7.trans c8)).pure c9).trans c10).pure c11, (hb10.keep c11 (by simp)).mono (by omega)⟩
    · rintro σ H' ⟨v3, v4, rfl, g, _⟩
      walk_at "go"
      exact q _ g.g.forget
def zz (n : Nat) : Str := ⟨(List.replicate n ("z" : Str).cps).foldl (· ++ ·) #[]⟩
def fixedL : List Str := ["", "tag", "tags", "tag/a", "a/tag", "a/tag/tag", "ta/g", "/", "a/", "/a", "a//b", "a/b/c", "a/b/c/d", zz 8, zz 9, zz 8 ++ "/" ++ zz 8, "a b", "A", "a0", " a", "a ", "a\n", "\n", "{a}", "`", "page"]
def dFixed : PyData := .list [.str "page", .tuple [.str "title", .str "path", .str "day", .str "tags", .str "body", .str "inner"], .int 4]
theorem fixed_ok : ∀ y ∈ fixedL, TxtOk 10000 y := fun y hy => (show ∀ y ∈ fixedL, y.length ≤ 10000 ∧ PyData.strOk y = true by decide +kernel) y hy
theorem pure_law (T : Top K mg A) (h : sp_law K vs H Q E) : t_law K A { nx := fun _ H' => Q .non H', rt := Q } (start N_law vs) H := by
  obtain ⟨c, ns, a, rfl, hs, hl, ha, ha2, q⟩ := h
  unfold t_law
  walk_at "rd"
  refine ⟨c, ns, 4, a, rfl, H, Same.refl _, hs, hl, by decide, by decide, ha, ha2, fun Hs1 H1 p ms c1 e1 hm hma => ?_⟩
  have hm4 : ms.length ≤ 4 := by omega
  walk_at "rd"
  refine ⟨by show 13 ≤ sizeLine; decide, fun p2 n2 => ?_⟩
  refine x_new3 c1.sub n2 fun Hs2 H2 c2 e2 => ?_
  have e1 := c2.p _ _ e1
  walk_at "rd"
  have zrep : ∀ (n : Int) (H : Hp) (Q : VK), 2 ≤ n → n ≤ 1000 → Q (.str ⟨(List.replicate n.toNat ("z" : Str).cps).foldl (· ++ ·) #[]⟩) H → zRepS (.str "z") (.int n) H Q := fun n H Q h1 h2 q => ⟨"z", n, rfl, rfl, h1, h2, by decide, by decide, q⟩
  refine zrep 8 _ _ (by decide) (by decide) ?_
  walk_at "rd"
  refine zrep 9 _ _ (by decide) (by decide) ?_
  walk_at "rd"
  refine zrep 8 _ _ (by decide) (by decide) ?_
  walk_at "rd"
  refine x_addSx (sz_le (by decide)) ?_
  walk_at "rd"
  refine zrep 8 _ _ (by decide) (by decide) ?_
  walk_at "rd"
  refine x_addSx (sz_le (by decide)) ?_
  walk_at "rd"
  refine ⟨by show 9 ≤ sizeLine; decide, fun p3 n3 => ?_⟩
  refine x_cell3 c2.sub n3 fun H3 c3 hs3 e3 => ?_
  refine x_cat (c3.keep _ _ (by simp) (c2.sub _ _ e2)) e3 (by show 13 + 9 ≤ sizeLine; decide) fun p4 n4 => ?_
  refine x_cell3 c3.sub n4 fun H4 c4 hs4 e4 => ?_
  walk_at "rd"
  refine ⟨by show 4 ≤ sizeLine; decide, fun p5 n5 => ?_⟩
  refine x_cell3 c4.sub n5 fun H5 c5 hs5 e5 => ?_
  refine x_cat (c5.keep _ _ (by simp) e4) e5 (by show 22 + 4 ≤ sizeLine; decide) fun p6 n6 => ?_
  refine x_new3 (o := .lst (fixedL.map V.str)) c5.sub n6 fun Hs6 H6 c6 e6 => ?_
  have g6 := (((c1.trans c2).trans c3).trans c4).trans c5 |>.trans c6
  have e1 := c6.p _ _ (c5.p _ _ (c4.p _ _ (c3.p _ _ e1)))
  walk_at "rd"
  refine ⟨p6, rfl, ⟨_, SqL.of (c6.sub _ _ e6)⟩, ?_⟩
  intro Dl nD
  refine lc_list (xs := fixedL.map V.str) (fun i H' => Gone [] Hs6 H6 Hs6 H' ∧ H' Dl = some (.lst ((fixedL.take i).map fun _ => V.bl true))) ?_ ?_ ?_ ?_
  · exact ⟨⟨Go.cell c6.sub nD⟩, upd_same⟩
  · rintro i H' hi ⟨g, _⟩
    exact g.g.sub.seq (SqL.of e6)
  · rintro i x H' hx ⟨g, hD⟩
    obtain ⟨y, hy, rfl⟩ := getV_map hx
    walk_at "rd"
    refine ⟨rfl, ?_⟩
    walk_at "rd"
    refine ⟨y, rfl, Hs6, g.g.sub, fixed_ok y (List.mem_of_getElem? hy), fun H7 c7 => ?_⟩
    refine ⟨_, c7.keep _ _ (by simp) hD, sz_lt (by rw [List.length_map, List.length_take]; show min i 26 < _; omega), (g.pure c7).put (none_sub c6.sub nD) (.inr nD), ?_⟩
    rw [upd_same, take_true _ _ hy]
  · rintro H7 ⟨g7, hD⟩
    rw [List.length_map, List.take_length] at hD
    walk_at "rd"
    refine x_all (bs := fixedL.map fun _ => true) (SqL.of (by rw [List.map_map]; exact hD)) ?_
    rw [all_true]
    walk_at "go"
    refine ⟨by show 3 ≤ sizeLine; decide, fun p8 n8 => ?_⟩
    refine x_new3 g7.g.sub n8 fun Hs8 H8 c8 e8 => ?_
    walk_at "rd"
    refine ⟨by show 6 ≤ sizeLine; decide, fun p9 n9 => ?_⟩
    refine x_new3 c8.sub n9 fun Hs9 H9 c9 e9 => ?_
    walk_at "rd"
    refine ⟨by show 3 ≤ sizeLine; decide, fun p10 n10 => ?_⟩
    refine x_new3 c9.sub n10 fun Hs10 H10 c10 e10 => ?_
    walk_at "rd"
    refine ⟨.ref p8, .ref p10, dFixed, dFixed, rfl, Hs10, c10.sub,
      .lst (SqL.of (c10.p _ _ (c9.p _ _ e8))) (.cons (.str _) (.cons (.tup (T.q_FIELDS _) (.cons (.str _) (.cons (.str _) (.cons (.str _) (.cons (.str _) (.cons (.str _) (.cons (.str _) .nil))))))) (.cons (.int _) .nil))),
      .lst (SqL.of e10) (.cons (.str _) (.cons (.tup (SqT.of (c10.p _ _ e9)) (.cons (.str _) (.cons (.str _) (.cons (.str _) (.cons (.str _) (.cons (.str _) (.cons (.str _) .nil))))))) (.cons (.int _) .nil))), by decide +kernel, by decide +kernel, by decide +kernel, by decide +kernel, fun H11 c11 => ?_⟩
    rw [show sameD dFixed dFixed = true by simp [dFixed, sameD, sameD.sameAll]]
    have e1 := c11.p _ _ (c10.p _ _ (c9.p _ _ (c8.p _ _ (g7.g.p _ _ e1))))
    walk_at "go"
    refine x_lenL (SqL.of (c11.sub _ _ e1)) ?_
    walk_at "rd"
    rw [List.length_map]
    refine x_rng1v (by omega) (by omega) ?_
    rw [show Int.toNat (1 + (ms.length : Int)) = ms.length + 1 by omega]
    intro Dl2 nD2
    refine lc_range (lo := 0) (n := ms.length + 1) (fun j H' => Gone [] Hs10 H11 Hs10 H' ∧ H' Dl2 = some (.lst (List.replicate j (V.bl true)))) ?_ ?_ ?_
    · exact ⟨⟨Go.cell c11.sub nD2⟩, upd_same⟩
    · rintro j H' hj ⟨g, hD⟩
      walk_at "rd"
      refine ⟨rfl, ?_⟩
      rw [Int.zero_add]
      walk_at "rd"
      refine ⟨p, ms, j, a + 20, rfl, Hs10, g.g.sub, SqL.of e1, hma, by omega, by omega, fun H12 b nb nb2 c12 hb12 => ?_⟩
      walk_at "rd"
      refine ⟨b, rfl, Hs10, c12.sub, nb2, hb12.mono (by decide), fun H13 c13 => ?_⟩
      have hDb : Dl2 ≠ b := ne_of_none hD nb
      refine ⟨_, c13.keep _ _ (out1 hDb) (c12.keep _ _ (by simp) hD), sz_lt (by rw [List.length_replicate]; omega), ((g.pure c12).call c13 fun x hx => .inr ?_).put (none_sub c11.sub nD2) (.inr nD2), ?_⟩
      · rw [List.mem_singleton.mp hx]
        exact g.g.fresh nb
      · rw [upd_same, List.replicate_succ']
    · rintro H' ⟨g, hD⟩
      walk_at "rd"
      refine x_all (bs := List.replicate (ms.length + 1) true) (SqL.of (by rw [List.map_replicate]; exact hD)) ?_
      rw [show (List.replicate (ms.length + 1) true).all id = true by simp]
      exact q _
end
end K01

namespace K01
open PySem PySem.Spec PyProof.Rows L2
section
variable {P : Program} {w : World} {K : PySem.W.Frag} {mg : Str → Option Value} {base : Heap} {A : Ad}
theorem ok_is_name (T : Top K mg A) : FnOk P w K mg base CX0 1 A.f_is_name A.d_is_name P_is_name (sp_is_name K) := by
  refine T.F_is_name.ok sc_is_name (fun vs H Q E h => ?_) (fun cdv Ar outer s H vs Q E hr h => ⟨t_is_name K A, ?_, pure_is_name T h⟩)
  · obtain ⟨_, _, rfl, _⟩ := h
    rfl
  · exact (pss_cons (ps_if (PW.pt (pw_or (pt_not (pt_val (pe_callB call_isi (by rfl) T.n_isinstance (by decide +kernel) (pa_cons (pv 0) (pa_cons (pe_bltn (v := .ty "str") (by rfl) T.n_str (by decide +kernel) rfl) pa_nil))))) (pw_or1 (pt_not (pt_chain oLtE oLtE pe_int (pe_callB call_len_str (by rfl) T.n_len PySem.boot_len (pa_cons (pv 0) pa_nil)) (C8.pe_gc rfl T.c_MOST_LETTERS)))))) (pss_one (ps_ret pe_bl)) pss_nil)
    (pss_one (ps_ret (pe_callB (cr_all rfl) (by rfl) T.n_all (by decide +kernel) (pa_cons (pe_lc (own := [("sign", 1)]) (wi := (iStr (tVar 0))) (g := (gName 1)) (tt := tYes) (te := (tOp zInSg (tVar 1) (tC (.str "abcdefghijklmnopqrstuvwxyz")))) rfl sc_is_name.nd (pi_str (pv 0)) (blkOk_by (own := [("sign", 1)]) (N := N_is_name) (sc := defScope s_is_name) (by decide +kernel)) (fun _ _ _ _ _ => by exact (pg_name (i := 1) sc_is_name.nd rfl (Or.inl rfl))) (fun _ _ _ _ _ => by exact pts_nil) (fun _ _ _ _ _ => by exact (pe_cmpR oInSg (pv 1) (C8.pe_gc rfl T.c_LETTERS) (by with_unfolding_all rfl)))) pa_nil)))))
theorem ok_is_path (T : Top K mg A) : FnOk P w K mg base CX0 2 A.f_is_path A.d_is_path P_is_path (sp_is_path K) := by
  have G_is_name : FnOk P w K mg base CX0 1 A.f_is_name A.d_is_name P_is_name (sp_is_name K) := ok_is_name T
  refine T.F_is_path.ok sc_is_path (fun vs H Q E h => ?_) (fun cdv Ar outer s H vs Q E hr h => ⟨t_is_path K A, ?_, pure_is_path T h⟩)
  · obtain ⟨_, _, rfl, _⟩ := h
    rfl
  · exact (pss_cons (ps_if (pt_not (pt_val (pe_callB call_isi (by rfl) T.n_isinstance (by decide +kernel) (pa_cons (pv 0) (pa_cons (pe_bltn (v := .ty "str") (by rfl) T.n_str (by decide +kernel) rfl) pa_nil))))) (pss_one (ps_ret pe_bl)) pss_nil)
    (pss_cons (ps_asg (pe_split (pv 0) pe_str) (pg_starL (n := 2) (i := 1) rfl (pgs_cons (pg_name (i := 1) sc_is_path.nd rfl (Or.inl rfl)) (pgs_star (pg_name (i := 2) sc_is_path.nd rfl (Or.inl rfl)) pgs_nil))))
    (pss_one (ps_ret (pe_and (pe_cmpR oLt (pe_callB call_len_seq (by rfl) T.n_len PySem.boot_len (pa_cons (pv 2) pa_nil)) (C8.pe_gc rfl T.c_MOST_NAMES) (nomark _)) (pe_and (pe_cmpR oNotEq (pv 1) (C8.pe_gc rfl T.c_TAG) (nomark _)) (pe_one (pe_callB (cr_all rfl) (by rfl) T.n_all (by decide +kernel) (pa_cons (pe_lc (own := [("one", 3)]) (wi := (iList K (tOp rCat (tLst (tCons (tVar 1) tNil)) (tVar 2)))) (g := (gName 3)) (tt := tYes) (te := (tCall (sp_is_name K) [] E0 (tCons (tVar 3) tNil))) rfl sc_is_path.nd (pi_list (pe_op oCat (pe_lst (pa_cons (pv 1) pa_nil)) (pv 2))) (blkOk_by (own := [("one", 3)]) (N := N_is_path) (sc := defScope s_is_path) (by decide +kernel)) (fun _ _ _ _ _ => by exact (pg_name (i := 3) sc_is_path.nd rfl (Or.inl rfl))) (fun _ _ _ _ _ => by exact pts_nil) (fun _ _ _ _ _ => by exact (pe_call G_is_name (hr.mono (by decide)) (by rfl) T.g_is_name T.k_is_name T.b_is_name .nil pass0 (pa_cons (pv 3) pa_nil)))) pa_nil)))))))))
theorem ok_l_dip (T : Top K mg A) : FnOk P w K mg base CX0 1 A.f_l_dip A.d_l_dip P_l_dip (sp_l_dip K) := by
  refine T.F_l_dip.ok sc_l_dip (fun vs H Q E h => ?_) (fun cdv Ar outer s H vs Q E hr h => ⟨t_l_dip K A, ?_, pure_l_dip T h⟩)
  · obtain ⟨_, _, _, _, rfl, _⟩ := h
    rfl
  · exact (pss_cons (ps_set (i := 2) sc_l_dip.nd rfl (Or.inl rfl) (pe_ifExp (pt_cmpR oLt (pv 1) (pe_callB call_len_seq (by rfl) T.n_len PySem.boot_len (pa_cons (pv 0) pa_nil)) (nomark _)) (pe_ix ix_list (pv 0) (pv 1) (fun _ _ => rfl)) pe_int))
    (pss_one (ps_ret (pe_lst (pa_cons (pe_op oMul (pe_callB call_abs (by rfl) T.n_abs (by decide +kernel) (pa_cons (pv 2) pa_nil)) (pe_callTy call_int1 (by rfl) T.n_int (by decide +kernel) (pa_cons (pe_cmpR oGtE (pe_callB call_abs (by rfl) T.n_abs (by decide +kernel) (pa_cons (pv 2) pa_nil)) (pe_op oPow pe_int pe_int) (nomark _)) pa_nil))) (pa_cons (pe_op oAdd (pe_op oAdd (pe_op oMod (pv 2) pe_int) (pe_op oMul pe_int (pv 1))) pe_int) (pa_cons pe_int pa_nil)))))))
theorem ok_l_take (T : Top K mg A) : FnOk P w K mg base CX0 1 A.f_l_take A.d_l_take P_l_take (sp_l_take K) := by
  refine T.F_l_take.ok sc_l_take (fun vs H Q E h => ?_) (fun cdv Ar outer s H vs Q E hr h => ⟨t_l_take K A, ?_, pure_l_take T h⟩)
  · obtain ⟨_, _, _, rfl, _⟩ := h
    rfl
  · exact (pss_cons (ps_if (pt_cmpR oGt (pe_ix ix_list (pv 0) pe_int (fun _ _ => rfl)) pe_int (nomark _)) (pss_cons (ps_set (i := 2) sc_l_take.nd rfl (Or.inl rfl) (pe_op oMod (pe_ix ix_list (pv 0) pe_int (fun _ _ => rfl)) (pv 1)))
    (pss_cons (ps_asg (pe_op oFdv (pe_ix ix_list (pv 0) pe_int (fun _ _ => rfl)) (pv 1)) (pg_sub (pv 0) pe_int set_list))
    (pss_one (ps_ret (pv 2))))) pss_nil)
    (pss_cons (ps_asg (pe_op oAdd (pe_ix ix_list (pv 0) pe_int (fun _ _ => rfl)) pe_int) (pg_sub (pv 0) pe_int set_list))
    (pss_cons (ps_set (i := 3) sc_l_take.nd rfl (Or.inl rfl) (pe_op oMod (pe_op oPow (pe_op oAdd (pe_ix ix_list (pv 0) pe_int (fun _ _ => rfl)) (pe_op oMul pe_int (pe_ix ix_list (pv 0) pe_int (fun _ _ => rfl)))) pe_int) pe_int))
    (pss_cons (ps_set (i := 4) sc_l_take.nd rfl (Or.inl rfl) (pe_op oMod (pe_op oMul (pe_op oAdd (pe_op oAdd (pv 3) (pe_ix ix_list (pv 0) pe_int (fun _ _ => rfl))) (pe_op oFdv (pe_ix ix_list (pv 0) pe_int (fun _ _ => rfl)) pe_int)) (pe_op oAdd (pe_op oAdd (pe_op oMod (pv 3) pe_int) pe_int) (pe_ix ix_list (pv 0) pe_int (fun _ _ => rfl)))) pe_int))
    (pss_one (ps_ret (pe_op oMod (pe_op oFdv (pe_op oMod (pe_op oAdd (pe_op oMul (pv 4) pe_int) (pv 3)) pe_int) pe_int) (pv 1))))))))
theorem ok_l_folded (T : Top K mg A) : FnOk P w K mg base CX0 1 A.f_l_folded A.d_l_folded P_l_folded (sp_l_folded K) := by
  refine T.F_l_folded.ok sc_l_folded (fun vs H Q E h => ?_) (fun cdv Ar outer s H vs Q E hr h => ⟨t_l_folded K A, ?_, pure_l_folded T h⟩)
  · obtain ⟨_, _, _, _, rfl, _⟩ := h
    rfl
  · exact (pss_cons (ps_set (i := 2) sc_l_folded.nd rfl (Or.inl rfl) (pe_callTy call_list_of (by rfl) T.n_list (by decide +kernel) (pa_cons (pe_slice sl_list (pv 0) po_none (po_some (pv 1))) pa_nil)))
    (pss_cons (ps_for PassesOwn.never rfl (pi_enum rfl T.n_enumerate (pa_cons (pe_slice sl_list (pv 0) (po_some (pv 1)) (po_some pe_int)) pa_nil)) (pg_tup rfl (pgs_cons (pg_name (i := 3) sc_l_folded.nd rfl (Or.inl rfl)) (pgs_cons (pg_name (i := 4) sc_l_folded.nd rfl (Or.inl rfl)) pgs_nil))) (pss_one (ps_asg (pe_op oAdd (pe_ix ix_list (pv 2) (pe_op oMod (pv 3) (pv 1)) (fun _ _ => rfl)) (pe_op oMul (pv 4) (pe_op oAdd (pv 3) pe_int))) (pg_sub (pv 2) (pe_op oMod (pv 3) (pv 1)) set_list))))
    (pss_one (ps_ret (pv 2)))))
theorem ok_l_one_of (T : Top K mg A) : FnOk P w K mg base CX0 2 A.f_l_one_of A.d_l_one_of P_l_one_of (sp_l_one_of K) := by
  have G_l_take : FnOk P w K mg base CX0 1 A.f_l_take A.d_l_take P_l_take (sp_l_take K) := ok_l_take T
  refine T.F_l_one_of.ok sc_l_one_of (fun vs H Q E h => ?_) (fun cdv Ar outer s H vs Q E hr h => ⟨t_l_one_of K A, ?_, pure_l_one_of T h⟩)
  · obtain ⟨_, _, _, _, rfl, _⟩ := h
    rfl
  · exact (pss_one (ps_ret (pe_ix ix_seq (pv 1) (pe_call G_l_take (hr.mono (by decide)) (by rfl) T.g_l_take T.k_l_take T.b_l_take .nil pass0 (pa_cons (pv 0) (pa_cons (pe_callB call_len (by rfl) T.n_len PySem.boot_len (pa_cons (pv 1) pa_nil)) pa_nil))) (fun _ _ => rfl))))
theorem ok_l_named (T : Top K mg A) : FnOk P w K mg base CX0 2 A.f_l_named A.d_l_named P_l_named (sp_l_named K) := by
  have G_l_take : FnOk P w K mg base CX0 1 A.f_l_take A.d_l_take P_l_take (sp_l_take K) := ok_l_take T
  refine T.F_l_named.ok sc_l_named (fun vs H Q E h => ?_) (fun cdv Ar outer s H vs Q E hr h => ⟨t_l_named K A, ?_, pure_l_named T h⟩)
  · obtain ⟨_, _, _, rfl, _⟩ := h
    rfl
  · exact (pss_cons (ps_asg (pe_tup (pa_cons pe_str (pa_cons (pe_lst pa_nil) pa_nil))) (pg_tup rfl (pgs_cons (pg_name (i := 2) sc_l_named.nd rfl (Or.inr rfl)) (pgs_cons (pg_name (i := 3) sc_l_named.nd rfl (Or.inl rfl)) pgs_nil))))
    (pss_cons (ps_set (i := 4) sc_l_named.nd rfl (Or.inl rfl) pe_str)
    (pss_cons (ps_for PassesOwn.never rfl (pi_range1 rfl T.n_range (pa_cons (pv 1) pa_nil)) (pg_name (i := 5) sc_l_named.nd rfl (Or.inl rfl)) (pss_cons (ps_set (i := 7) sc_l_named.nd rfl (Or.inl rfl) (pe_join pe_str (pe_lc (own := [("_law_turn", 6)]) (wi := (iRng1 (tCons (tOp (rIxL K) (tLst (tCons (tC (.int 1)) (tCons (tC (.int 2)) (tCons (tC (.int 4)) (tCons (tC (.int 8)) tNil))))) (tCall (sp_l_take K) [] E0 (tCons (tVar 0) (tCons (tC (.int 4)) tNil)))) tNil))) (g := (gName 6)) (tt := tYes) (te := (tOp rIxS (tVar 2) (tCall (sp_l_take K) [] E0 (tCons (tVar 0) (tCons (tC (.int 26)) tNil))))) rfl sc_l_named.nd (pi_range1 rfl T.n_range (pa_cons (pe_ix ix_list (pe_lst (pa_cons pe_int (pa_cons pe_int (pa_cons pe_int (pa_cons pe_int pa_nil))))) (pe_call G_l_take (hr.mono (by decide)) (by rfl) T.g_l_take T.k_l_take T.b_l_take .nil pass0 (pa_cons (pv 0) (pa_cons pe_int pa_nil))) (fun _ _ => rfl)) pa_nil)) (blkOk_by (own := [("_law_turn", 6)]) (N := N_l_named) (sc := defScope s_l_named) (by decide +kernel)) (fun _ _ _ _ _ => by exact (pg_name (i := 6) sc_l_named.nd rfl (Or.inl rfl))) (fun _ _ _ _ _ => by exact pts_nil) (fun _ _ _ _ _ => by exact (pe_ix ix_str (pv 2) (pe_call G_l_take (hr.mono (by decide)) (by rfl) T.g_l_take T.k_l_take T.b_l_take .nil pass0 (pa_cons (pv 0) (pa_cons pe_int pa_nil))) (fun _ _ => rfl))))))
    (C8.pss_cut (ps_if (pt_cmpR oEq (pe_call G_l_take (hr.mono (by decide)) (by rfl) T.g_l_take T.k_l_take T.b_l_take .nil pass0 (pa_cons (pv 0) (pa_cons pe_int pa_nil))) pe_int (nomark _)) (pss_one (ps_set (i := 7) sc_l_named.nd rfl (Or.inl rfl) (pe_ix ix_list (pe_split (pv 4) pe_str) (pe_call G_l_take (hr.mono (by decide)) (by rfl) T.g_l_take T.k_l_take T.b_l_take .nil pass0 (pa_cons (pv 0) (pa_cons pe_int pa_nil))) (fun _ _ => rfl)))) pss_nil)
    (pss_cons (ps_for PassesOwn.never rfl (pi_range1 rfl T.n_range (pa_cons (pe_op oAdd (pe_callB call_len_seq (by rfl) T.n_len PySem.boot_len (pa_cons (pv 3) pa_nil)) pe_int) pa_nil)) (pg_name (i := 6) sc_l_named.nd rfl (Or.inl rfl)) (pss_one (ps_if (pt_cmpR oInQ (pv 7) (pv 3) (by with_unfolding_all rfl)) (pss_one (ps_set (i := 7) sc_l_named.nd rfl (Or.inl rfl) (pe_op oAddS (pe_op oAddS (pe_slice sl_str (pv 7) po_none (po_some pe_int)) (pe_ix ix_str (pv 2) (pe_op oFdv (pv 6) pe_int) (fun _ _ => rfl))) (pe_ix ix_str (pv 2) (pe_op oMod (pv 6) pe_int) (fun _ _ => rfl))))) pss_nil)))
    (pss_one (ps_expr (pe_bm PySem.F.plainAttrs_list PySem.F.slot_list_append PySem.F.type_list_append mt_append (pv 3) (pa_cons (pv 7) pa_nil))))))))
    (pss_one (ps_ret (pv 3))))))
theorem ok_l_same_n (T : Top K mg A) : ∀ n : Nat, FnOk P w K mg base CX0 (n + 1) A.f_l_same A.d_l_same P_l_same (sp_l_same_n n K)
  | 0 => T.F_l_same.ok sc_l_same (fun vs H Q E h => (zero_l_same h).elim) (fun cdv Ar outer s H vs Q E hr h => (zero_l_same h).elim)
  | n + 1 => by
    have G_l_same := ok_l_same_n T n
    refine T.F_l_same.ok sc_l_same (fun vs H Q E h => ?_) (fun cdv Ar outer s H vs Q E hr h => ⟨t_l_same n K A, ?_, pure_l_same n T h⟩)
    · obtain ⟨_, _, _, _, rfl, _⟩ := h
      rfl
    · exact (pss_cons (ps_if (pt_val (pe_callB call_isiT (by rfl) T.n_isinstance (by decide +kernel) (pa_cons (pv 1) (pa_cons (pe_tup (pa_cons (pe_bltn (v := .ty "list") (by rfl) T.n_list (by decide +kernel) rfl) (pa_cons (pe_bltn (v := .ty "tuple") (by rfl) T.n_tuple (by decide +kernel) rfl) pa_nil))) pa_nil)))) (pss_cons (ps_if (PW.pt (pw_or (pt_cmpR oNotEq (pe_callB call_isi (by rfl) T.n_isinstance (by decide +kernel) (pa_cons (pv 0) (pa_cons (pe_bltn (v := .ty "list") (by rfl) T.n_list (by decide +kernel) rfl) pa_nil))) (pe_callB call_isi (by rfl) T.n_isinstance (by decide +kernel) (pa_cons (pv 1) (pa_cons (pe_bltn (v := .ty "list") (by rfl) T.n_list (by decide +kernel) rfl) pa_nil))) (nomark _)) (pw_or1 (pt_cmpR oNotEq (pe_callB call_isi (by rfl) T.n_isinstance (by decide +kernel) (pa_cons (pv 0) (pa_cons (pe_bltn (v := .ty "tuple") (by rfl) T.n_tuple (by decide +kernel) rfl) pa_nil))) (pe_callB call_isi (by rfl) T.n_isinstance (by decide +kernel) (pa_cons (pv 1) (pa_cons (pe_bltn (v := .ty "tuple") (by rfl) T.n_tuple (by decide +kernel) rfl) pa_nil))) (nomark _))))) (pss_one (ps_ret pe_bl)) pss_nil)
    (pss_one (ps_ret (pe_and (pe_cmpR oEq (pe_callB call_len (by rfl) T.n_len PySem.boot_len (pa_cons (pv 0) pa_nil)) (pe_callB call_len (by rfl) T.n_len PySem.boot_len (pa_cons (pv 1) pa_nil)) (nomark _)) (pe_one (pe_callB (cr_all rfl) (by rfl) T.n_all (by decide +kernel) (pa_cons (pe_lc (own := [("_law_one", 2), ("_law_other", 3)]) (wi := (RZ.iZipA K (tCons (tVar 0) (tCons (tVar 1) tNil)))) (g := (gTup K 2 (gCons (gName 2) (gCons (gName 3) gNil)))) (tt := tYes) (te := (tCall (sp_l_same_n n K) [] E0 (tCons (tVar 2) (tCons (tVar 3) tNil)))) rfl sc_l_same.nd (RZ.pi_zipA rfl T.n_zip (pa_cons (pv 0) (pa_cons (pv 1) pa_nil))) (blkOk_by (own := [("_law_one", 2), ("_law_other", 3)]) (N := N_l_same) (sc := defScope s_l_same) (by decide +kernel)) (fun _ _ _ _ _ => by exact (pg_tup rfl (pgs_cons (pg_name (i := 2) sc_l_same.nd rfl (Or.inl rfl)) (pgs_cons (pg_name (i := 3) sc_l_same.nd rfl (Or.inl rfl)) pgs_nil)))) (fun _ _ _ _ _ => by exact pts_nil) (fun _ _ _ _ _ => by exact (pe_call G_l_same hr (by rfl) T.g_l_same T.k_l_same T.b_l_same .nil pass0 (pa_cons (pv 2) (pa_cons (pv 3) pa_nil))))) pa_nil))))))) pss_nil)
    (pss_cons (ps_if (PW.pt (pw_or (pt_cmpR oIsN (pv 1) pe_non (nomark _)) (pw_or1 (pt_cmpR oIsN (pv 0) pe_non (nomark _))))) (pss_one (ps_ret (pe_and (pe_cmpR oIsN (pv 1) pe_non (nomark _)) (pe_one (pe_cmpR oIsN (pv 0) pe_non (nomark _)))))) pss_nil)
    (pss_cons (ps_if (PW.pt (pw_or (pt_val (pe_callB call_isi (by rfl) T.n_isinstance (by decide +kernel) (pa_cons (pv 1) (pa_cons (pe_bltn (v := .ty "bool") (by rfl) T.n_bool (by decide +kernel) rfl) pa_nil)))) (pw_or1 (pt_val (pe_callB call_isi (by rfl) T.n_isinstance (by decide +kernel) (pa_cons (pv 1) (pa_cons (pe_bltn (v := .ty "str") (by rfl) T.n_str (by decide +kernel) rfl) pa_nil))))))) (pss_one (ps_ret (pe_and (pe_cmpR oEq (pe_callB call_isi (by rfl) T.n_isinstance (by decide +kernel) (pa_cons (pv 0) (pa_cons (pe_bltn (v := .ty "bool") (by rfl) T.n_bool (by decide +kernel) rfl) pa_nil))) (pe_callB call_isi (by rfl) T.n_isinstance (by decide +kernel) (pa_cons (pv 1) (pa_cons (pe_bltn (v := .ty "bool") (by rfl) T.n_bool (by decide +kernel) rfl) pa_nil))) (nomark _)) (pe_one (pe_cmpR (OpR.or oEq (oEqD hr.units)) (pv 0) (pv 1) (nomark _)))))) pss_nil)
    (pss_one (ps_ret (pe_and (pe_callB call_isi (by rfl) T.n_isinstance (by decide +kernel) (pa_cons (pv 0) (pa_cons (pe_bltn (v := .ty "int") (by rfl) T.n_int (by decide +kernel) rfl) pa_nil))) (pe_and (pe_not (pe_callB call_isi (by rfl) T.n_isinstance (by decide +kernel) (pa_cons (pv 0) (pa_cons (pe_bltn (v := .ty "bool") (by rfl) T.n_bool (by decide +kernel) rfl) pa_nil)))) (pe_one (pe_cmpR (OpR.or oEq (oEqD hr.units)) (pv 0) (pv 1) (nomark _))))))))))
theorem ok_l_same (T : Top K mg A) : FnOk P w K mg base CX0 7 A.f_l_same A.d_l_same P_l_same (sp_l_same K) := ok_l_same_n T 6
theorem ok_l_is_one (T : Top K mg A) : FnOk P w K mg base CX0 1 A.f_l_is_one A.d_l_is_one P_l_is_one (sp_l_is_one K) := by
  refine T.F_l_is_one.ok sc_l_is_one (fun vs H Q E h => ?_) (fun cdv Ar outer s H vs Q E hr h => ⟨t_l_is_one K A, ?_, pure_l_is_one T h⟩)
  · obtain ⟨_, rfl, _⟩ := h
    rfl
  · exact (pss_one (ps_ret (pe_and (pe_chain oLt oLt pe_int (pe_callB call_len_str (by rfl) T.n_len PySem.boot_len (pa_cons (pv 0) pa_nil)) pe_int) (pe_one (pe_cmpR oEq (pe_join pe_str (pe_lc (own := [("_law_sign", 1)]) (wi := (iStr (tVar 0))) (g := (gName 1)) (tt := (tTest (tChain zLtES zLtES (tC (.str "a")) (tVar 1) (tC (.str "z"))))) (te := (tVar 1)) rfl sc_l_is_one.nd (pi_str (pv 0)) (blkOk_by (own := [("_law_sign", 1)]) (N := N_l_is_one) (sc := defScope s_l_is_one) (by decide +kernel)) (fun _ _ _ _ _ => by exact (pg_name (i := 1) sc_l_is_one.nd rfl (Or.inl rfl))) (fun _ _ _ _ _ => by exact (pts_one (pt_chain oLtES oLtES pe_str (pv 1) pe_str))) (fun _ _ _ _ _ => by exact (pv 1)))) (pv 0) (nomark _))))))
theorem ok_l_is_way (T : Top K mg A) : FnOk P w K mg base CX0 2 A.f_l_is_way A.d_l_is_way P_l_is_way (sp_l_is_way K) := by
  have G_l_is_one : FnOk P w K mg base CX0 1 A.f_l_is_one A.d_l_is_one P_l_is_one (sp_l_is_one K) := ok_l_is_one T
  refine T.F_l_is_way.ok sc_l_is_way (fun vs H Q E h => ?_) (fun cdv Ar outer s H vs Q E hr h => ⟨t_l_is_way K A, ?_, pure_l_is_way T h⟩)
  · obtain ⟨_, rfl, _⟩ := h
    rfl
  · exact (pss_cons (ps_par (i := 1) (j := 2) (by rfl) sc_l_is_way.nd rfl rfl (by decide) rfl rfl (pa_cons (pe_lst (pa_cons pe_str pa_nil)) (pa_cons pe_int pa_nil)) (by rfl))
    (pss_cons (ps_for PassesOwn.never rfl (pi_str (pv 0)) (pg_name (i := 3) sc_l_is_way.nd rfl (Or.inl rfl)) (pss_one (ps_if (pt_cmpR oEq (pv 3) pe_str (nomark _)) (pss_one (ps_expr (pe_bm PySem.F.plainAttrs_list PySem.F.slot_list_append PySem.F.type_list_append mt_append (pv 1) (pa_cons pe_str pa_nil)))) (pss_one (ps_asg (pe_op oAddS (pe_ix ix_list (pv 1) (pe_un un_neg pe_int) (fun _ _ => rfl)) (pv 3)) (pg_sub (pv 1) (pe_un un_neg pe_int) set_list))))))
    (pss_one (ps_ret (pe_and (pe_cmpR oLtE (pe_callB call_len_seq (by rfl) T.n_len PySem.boot_len (pa_cons (pv 1) pa_nil)) pe_int (nomark _)) (pe_and (pe_cmpR oNotEq (pe_ix ix_list (pv 1) pe_int (fun _ _ => rfl)) pe_str (nomark _)) (pe_one (pe_callB (cr_all rfl) (by rfl) T.n_all (by decide +kernel) (pa_cons (pe_lc (own := [("_law_name", 4)]) (wi := (iList K (tVar 1))) (g := (gName 4)) (tt := tYes) (te := (tCall (sp_l_is_one K) [] E0 (tCons (tVar 4) tNil))) rfl sc_l_is_way.nd (pi_list (pv 1)) (blkOk_by (own := [("_law_name", 4)]) (N := N_l_is_way) (sc := defScope s_l_is_way) (by decide +kernel)) (fun _ _ _ _ _ => by exact (pg_name (i := 4) sc_l_is_way.nd rfl (Or.inl rfl))) (fun _ _ _ _ _ => by exact pts_nil) (fun _ _ _ _ _ => by exact (pe_call G_l_is_one (hr.mono (by decide)) (by rfl) T.g_l_is_one T.k_l_is_one T.b_l_is_one .nil pass0 (pa_cons (pv 4) pa_nil)))) pa_nil)))))))))
theorem ok_l_bent (T : Top K mg A) : FnOk P w K mg base CX0 3 A.f_l_bent A.d_l_bent P_l_bent (sp_l_bent K) := by
  have G_l_take : FnOk P w K mg base CX0 1 A.f_l_take A.d_l_take P_l_take (sp_l_take K) := ok_l_take T
  have G_l_one_of : FnOk P w K mg base CX0 2 A.f_l_one_of A.d_l_one_of P_l_one_of (sp_l_one_of K) := ok_l_one_of T
  refine T.F_l_bent.ok sc_l_bent (fun vs H Q E h => ?_) (fun cdv Ar outer s H vs Q E hr h => ⟨t_l_bent K A, ?_, pure_l_bent T h⟩)
  · obtain ⟨_, _, _, rfl, _⟩ := h
    rfl
  · exact (pss_str (i := 2) sc_l_bent.nd rfl (Or.inl rfl) (psst_cons (PST.of (ps_par3 (i := 3) (j := 4) (l := 5) (by rfl) sc_l_bent.nd rfl rfl rfl (by decide) (by decide) (by decide) rfl rfl rfl (pa_cons (pe_call G_l_take (hr.mono (by decide)) (by rfl) T.g_l_take T.k_l_take T.b_l_take .nil pass0 (pa_cons (pv 0) (pa_cons pe_int pa_nil))) (pa_cons (pe_call G_l_take (hr.mono (by decide)) (by rfl) T.g_l_take T.k_l_take T.b_l_take .nil pass0 (pa_cons (pv 0) (pa_cons (pe_op oAdd (pe_callB call_len_str (by rfl) T.n_len PySem.boot_len (pa_cons (pv 1) pa_nil)) pe_int) pa_nil))) (pa_cons (pe_call G_l_one_of (hr.mono (by decide)) (by rfl) T.g_l_one_of T.k_l_one_of T.b_l_one_of .nil pass0 (pa_cons (pv 0) (pa_cons (pv 2) pa_nil))) pa_nil))) (by rfl)))
    (psst_cons (PST.of (ps_set (i := 6) sc_l_bent.nd rfl (Or.inl rfl) (pe_lst (pa_cons (pe_op oAddS (pe_op oAddS (pe_slice sl_str (pv 1) po_none (po_some (pv 4))) (pv 5)) (pe_slice sl_str (pv 1) (po_some (pv 4)) po_none)) (pa_cons (pe_op oAddS (pe_slice sl_str (pv 1) po_none (po_some (pv 4))) (pe_slice sl_str (pv 1) (po_some (pe_op oAdd (pv 4) pe_int)) po_none)) (pa_cons (pe_op oAddS (pe_op oAddS (pe_slice sl_str (pv 1) po_none (po_some (pv 4))) (pv 5)) (pe_slice sl_str (pv 1) (po_some (pe_op oAdd (pv 4) pe_int)) po_none)) pa_nil))))))
    (psst_cons (PST.of (ps_set (i := 6) sc_l_bent.nd rfl (Or.inl rfl) (pe_op oCat (pv 6) (pe_lst (pa_cons (pe_op oAddS (pv 1) (pe_slice sl_str pe_str po_none (po_some (pe_op oAdd pe_int (pe_call G_l_take (hr.mono (by decide)) (by rfl) T.g_l_take T.k_l_take T.b_l_take .nil pass0 (pa_cons (pv 0) (pa_cons pe_int pa_nil))))))) (pa_cons (pe_op oAddS pe_str (pv 1)) (pa_cons (pe_op oAddS (pv 1) pe_str) (pa_cons (pe_op oAddS pe_str (pv 1)) (pa_cons (pe_op oAddS (pv 1) pe_str) pa_nil)))))))))
    (CwR.psst_one (CwR.pst_ret (CwR.pet_ix ix_list (CwR.pet_op oCat (CwR.PET.of (pv 6)) (CwR.pet_lst (CwR.pat_one (CwR.pet_replC (pv 1))))) (pv 3) (fun _ _ => rfl))))))))
theorem ok_l_told_right (T : Top K mg A) : FnOk P w K mg base CX0 8 A.f_l_told_right A.d_l_told_right P_l_told_right (sp_l_told_right K) := by
  have G_l_same : FnOk P w K mg base CX0 7 A.f_l_same A.d_l_same P_l_same (sp_l_same K) := ok_l_same T
  have G_is_name : FnOk P w K mg base CX0 1 A.f_is_name A.d_is_name P_is_name (sp_is_name K) := ok_is_name T
  have G_is_path : FnOk P w K mg base CX0 2 A.f_is_path A.d_is_path P_is_path (sp_is_path K) := ok_is_path T
  have G_l_is_one : FnOk P w K mg base CX0 1 A.f_l_is_one A.d_l_is_one P_l_is_one (sp_l_is_one K) := ok_l_is_one T
  have G_l_is_way : FnOk P w K mg base CX0 2 A.f_l_is_way A.d_l_is_way P_l_is_way (sp_l_is_way K) := ok_l_is_way T
  refine T.F_l_told_right.ok sc_l_told_right (fun vs H Q E h => ?_) (fun cdv Ar outer s H vs Q E hr h => ⟨t_l_told_right K A, ?_, pure_l_told_right T h⟩)
  · obtain ⟨_, rfl, _⟩ := h
    rfl
  · exact (pss_cons (ps_set (i := 1) sc_l_told_right.nd rfl (Or.inl rfl) (pe_lst (pa_cons (pe_call G_is_name (hr.mono (by decide)) (by rfl) T.g_is_name T.k_is_name T.b_is_name .nil pass0 (pa_cons (pv 0) pa_nil)) (pa_cons (pe_call G_is_path (hr.mono (by decide)) (by rfl) T.g_is_path T.k_is_path T.b_is_path .nil pass0 (pa_cons (pv 0) pa_nil)) (pa_cons (pe_callK0 G_is_name (hr.mono (by decide)) (by rfl) T.g_is_name T.k_is_name (T.kb_is_name_thing) pass0 (pk_cons (pv 0) pk_nil)) (pa_cons (pe_callK0 G_is_path (hr.mono (by decide)) (by rfl) T.g_is_path T.k_is_path (T.kb_is_path_thing) pass0 (pk_cons (pv 0) pk_nil)) pa_nil))))))
    (pss_one (ps_ret (pe_call G_l_same (hr.mono (by decide)) (by rfl) T.g_l_same T.k_l_same T.b_l_same .nil pass0 (pa_cons (pv 1) (pa_cons (pe_op oRep (pe_lst (pa_cons (pe_call G_l_is_one (hr.mono (by decide)) (by rfl) T.g_l_is_one T.k_l_is_one T.b_l_is_one .nil pass0 (pa_cons (pv 0) pa_nil)) (pa_cons (pe_call G_l_is_way (hr.mono (by decide)) (by rfl) T.g_l_is_way T.k_l_is_way T.b_l_is_way .nil pass0 (pa_cons (pv 0) pa_nil)) pa_nil))) pe_int) pa_nil))))))
theorem ok_l_right (T : Top K mg A) : FnOk P w K mg base CX0 9 A.f_l_right A.d_l_right P_l_right (sp_l_right K) := by
  have G_l_named : FnOk P w K mg base CX0 2 A.f_l_named A.d_l_named P_l_named (sp_l_named K) := ok_l_named T
  have G_l_bent : FnOk P w K mg base CX0 3 A.f_l_bent A.d_l_bent P_l_bent (sp_l_bent K) := ok_l_bent T
  have G_l_one_of : FnOk P w K mg base CX0 2 A.f_l_one_of A.d_l_one_of P_l_one_of (sp_l_one_of K) := ok_l_one_of T
  have G_l_told_right : FnOk P w K mg base CX0 8 A.f_l_told_right A.d_l_told_right P_l_told_right (sp_l_told_right K) := ok_l_told_right T
  refine T.F_l_right.ok sc_l_right (fun vs H Q E h => ?_) (fun cdv Ar outer s H vs Q E hr h => ⟨t_l_right K A, ?_, pure_l_right T h⟩)
  · obtain ⟨_, rfl, _⟩ := h
    rfl
  · exact (pss_cons (ps_set (i := 1) sc_l_right.nd rfl (Or.inl rfl) (pe_call G_l_named (hr.mono (by decide)) (by rfl) T.g_l_named T.k_l_named T.b_l_named .nil pass0 (pa_cons (pv 0) (pa_cons pe_int pa_nil))))
    (pss_cons (ps_set (i := 2) sc_l_right.nd rfl (Or.inl rfl) (pe_lst (pa_cons (pe_ix ix_list (pv 1) pe_int (fun _ _ => rfl)) (pa_cons (pe_join pe_str (pe_slice sl_list (pv 1) (po_some pe_int) (po_some pe_int))) (pa_cons (pe_join pe_str (pe_slice sl_list (pv 1) (po_some pe_int) (po_some pe_int))) (pa_cons (pe_op oAddS (pe_op oAddS (pe_ix ix_list (pv 1) pe_int (fun _ _ => rfl)) pe_str) (pe_ix ix_list (pv 1) pe_int (fun _ _ => rfl))) pa_nil))))))
    (pss_cons (ps_if (pt_not (pt_val (pe_callB (cr_all rfl) (by rfl) T.n_all (by decide +kernel) (pa_cons (pe_lc (own := [("_law_text", 3)]) (wi := (iList K (tOp rCat (tVar 2) (tVar 1)))) (g := (gName 3)) (tt := tYes) (te := (tCall (sp_l_told_right K) [] E0 (tCons (tVar 3) tNil))) rfl sc_l_right.nd (pi_list (pe_op oCat (pv 2) (pv 1))) (blkOk_by (own := [("_law_text", 3)]) (N := N_l_right) (sc := defScope s_l_right) (by decide +kernel)) (fun _ _ _ _ _ => by exact (pg_name (i := 3) sc_l_right.nd rfl (Or.inl rfl))) (fun _ _ _ _ _ => by exact pts_nil) (fun _ _ _ _ _ => by exact (pe_call G_l_told_right (hr.mono (by decide)) (by rfl) T.g_l_told_right T.k_l_told_right T.b_l_told_right .nil pass0 (pa_cons (pv 3) pa_nil)))) pa_nil)))) (pss_one (ps_ret pe_bl)) pss_nil)
    (pss_cons (ps_for PassesOwn.never rfl (pi_range1 rfl T.n_range (pa_cons pe_int pa_nil)) (pg_name (i := 4) sc_l_right.nd rfl (Or.inl rfl)) (pss_cons (ps_set (i := 3) sc_l_right.nd rfl (Or.inl rfl) (pe_call G_l_bent (hr.mono (by decide)) (by rfl) T.g_l_bent T.k_l_bent T.b_l_bent .nil pass0 (pa_cons (pv 0) (pa_cons (pe_call G_l_one_of (hr.mono (by decide)) (by rfl) T.g_l_one_of T.k_l_one_of T.b_l_one_of .nil pass0 (pa_cons (pv 0) (pa_cons (pv 2) pa_nil))) pa_nil))))
    (pss_one (ps_if (PW.pt (pw_or (pt_not (pt_val (pe_call G_l_told_right (hr.mono (by decide)) (by rfl) T.g_l_told_right T.k_l_told_right T.b_l_told_right .nil pass0 (pa_cons (pv 3) pa_nil)))) (pw_or1 (pt_not (pt_val (pe_call G_l_told_right (hr.mono (by decide)) (by rfl) T.g_l_told_right T.k_l_told_right T.b_l_told_right .nil pass0 (pa_cons (pe_call G_l_bent (hr.mono (by decide)) (by rfl) T.g_l_bent T.k_l_bent T.b_l_bent .nil pass0 (pa_cons (pv 0) (pa_cons (pv 3) pa_nil))) pa_nil))))))) (pss_one (ps_ret pe_bl)) pss_nil))))
    (pss_one (ps_ret pe_bl))))))
theorem ok_law (T : Top K mg A) : FnOk P w K mg base CX0 10 A.f_law A.d_law P_law (sp_law K) := by
  have G_l_folded : FnOk P w K mg base CX0 1 A.f_l_folded A.d_l_folded P_l_folded (sp_l_folded K) := ok_l_folded T
  have G_l_same : FnOk P w K mg base CX0 7 A.f_l_same A.d_l_same P_l_same (sp_l_same K) := ok_l_same T
  have G_l_right : FnOk P w K mg base CX0 9 A.f_l_right A.d_l_right P_l_right (sp_l_right K) := ok_l_right T
  have G_l_told_right : FnOk P w K mg base CX0 8 A.f_l_told_right A.d_l_told_right P_l_told_right (sp_l_told_right K) := ok_l_told_right T
  have G_l_dip : FnOk P w K mg base CX0 1 A.f_l_dip A.d_l_dip P_l_dip (sp_l_dip K) := ok_l_dip T
  refine T.F_law.ok sc_law (fun vs H Q E h => ?_) (fun cdv Ar outer s H vs Q E hr h => ⟨t_law K A, ?_, pure_law T h⟩)
  · obtain ⟨_, _, _, rfl, _⟩ := h
    rfl
  · exact (pss_cons (ps_set (i := 1) sc_law.nd rfl (Or.inr rfl) (pe_call G_l_folded (hr.mono (by decide)) (by rfl) T.g_l_folded T.k_l_folded T.b_l_folded .nil pass0 (pa_cons (pv 0) (pa_cons pe_int pa_nil))))
    (pss_cons (ps_set (i := 2) sc_law.nd rfl (Or.inl rfl) (pe_lst (pa_cons pe_str (pa_cons pe_str (pa_cons pe_str (pa_cons pe_str (pa_cons pe_str (pa_cons pe_str (pa_cons pe_str (pa_cons pe_str (pa_cons pe_str (pa_cons pe_str (pa_cons pe_str (pa_cons pe_str (pa_cons pe_str pa_nil)))))))))))))))
    (pss_cons (ps_set (i := 2) sc_law.nd rfl (Or.inl rfl) (pe_op oCat (pv 2) (pe_lst (pa_cons (pe_op oRepS pe_str pe_int) (pa_cons (pe_op oRepS pe_str pe_int) (pa_cons (pe_op oAddS (pe_op oAddS (pe_op oRepS pe_str pe_int) pe_str) (pe_op oRepS pe_str pe_int)) (pa_cons pe_str (pa_cons pe_str (pa_cons pe_str (pa_cons pe_str (pa_cons pe_str (pa_cons pe_str pa_nil))))))))))))
    (pss_cons (ps_set (i := 2) sc_law.nd rfl (Or.inl rfl) (pe_op oCat (pv 2) (pe_lst (pa_cons pe_str (pa_cons pe_str (pa_cons pe_str (pa_cons pe_str pa_nil)))))))
    (pss_cons (ps_if (pt_not (pt_val (pe_callB (cr_all rfl) (by rfl) T.n_all (by decide +kernel) (pa_cons (pe_lc (own := [("_law_text", 4)]) (wi := (iList K (tVar 2))) (g := (gName 4)) (tt := tYes) (te := (tCall (sp_l_told_right K) [] E0 (tCons (tVar 4) tNil))) rfl sc_law.nd (pi_list (pv 2)) (blkOk_by (own := [("_law_text", 4)]) (N := N_law) (sc := defScope s_law) (by decide +kernel)) (fun _ _ _ _ _ => by exact (pg_name (i := 4) sc_law.nd rfl (Or.inl rfl))) (fun _ _ _ _ _ => by exact pts_nil) (fun _ _ _ _ _ => by exact (pe_call G_l_told_right (hr.mono (by decide)) (by rfl) T.g_l_told_right T.k_l_told_right T.b_l_told_right .nil pass0 (pa_cons (pv 4) pa_nil)))) pa_nil)))) (pss_one (ps_ret pe_bl)) pss_nil)
    (pss_cons (ps_if (pt_not (pt_val (pe_call G_l_same (hr.mono (by decide)) (by rfl) T.g_l_same T.k_l_same T.b_l_same .nil pass0 (pa_cons (pe_lst (pa_cons (C8.pe_gc rfl T.c_PAGE) (pa_cons (C8.pe_gc rfl T.c_FIELDS) (pa_cons (C8.pe_gc rfl T.c_MOST) pa_nil)))) (pa_cons (pe_lst (pa_cons pe_str (pa_cons (pe_tup (pa_cons pe_str (pa_cons pe_str (pa_cons pe_str (pa_cons pe_str (pa_cons pe_str (pa_cons pe_str pa_nil))))))) (pa_cons pe_int pa_nil)))) pa_nil))))) (pss_one (ps_ret pe_bl)) pss_nil)
    (pss_one (ps_ret (pe_callB (cr_all rfl) (by rfl) T.n_all (by decide +kernel) (pa_cons (pe_lc (own := [("_law_k", 3)]) (wi := (iRng1 (tCons (tOp zAdd (tC (.int 1)) (tCB (zLenQ K) (tCons (tVar 1) tNil))) tNil))) (g := (gName 3)) (tt := tYes) (te := (tCall (sp_l_right K) [] E0 (tCons (tCall (sp_l_dip K) [] E0 (tCons (tVar 1) (tCons (tVar 3) tNil))) tNil))) rfl sc_law.nd (pi_range1 rfl T.n_range (pa_cons (pe_op oAdd pe_int (pe_callB call_len_seq (by rfl) T.n_len PySem.boot_len (pa_cons (pv 1) pa_nil))) pa_nil)) (blkOk_by (own := [("_law_k", 3)]) (N := N_law) (sc := defScope s_law) (by decide +kernel)) (fun _ _ _ _ _ => by exact (pg_name (i := 3) sc_law.nd rfl (Or.inl rfl))) (fun _ _ _ _ _ => by exact pts_nil) (fun _ _ _ _ _ => by exact (pe_call G_l_right (hr.mono (by decide)) (by rfl) T.g_l_right T.k_l_right T.b_l_right .nil pass0 (pa_cons (pe_call G_l_dip (hr.mono (by decide)) (by rfl) T.g_l_dip T.k_l_dip T.b_l_dip .nil pass0 (pa_cons (pv 1) (pa_cons (pv 3) pa_nil))) pa_nil)))) pa_nil))))))))))
end
end K01

namespace K01
open PySem PySem.Spec PyProof.Rows L2
set_option maxHeartbeats 0 in
theorem all_mk {l : PySem.W.OpenLaw} {w : World} {K : PySem.W.Frag} {h : Heap} {mg : Str → Option Value} {fa : Addr} (X : K.In h) (G : h.Ns mainGlobals mg) (hfa : mg "law" = some (.ref fa))
    {f_is_name : Addr} {od_is_name an_is_name : Option Addr} {sl_is_name : Array (Option Value)} {oc_is_name kV_is_name dc_is_name pm_is_name cd_is_name ct_is_name : Value}
    (a_is_name : PySem.W.nsIn K mainGlobals "is_name" = some (some (.ref f_is_name))) (l_is_name : K.lookup f_is_name = some ⟨oc_is_name, od_is_name, .func (PySem.W.fnOf "is_name" "is_name" (defArgs s_is_name) (defBody s_is_name) (defScope s_is_name) .none kV_is_name dc_is_name pm_is_name an_is_name cd_is_name ct_is_name), sl_is_name⟩) (e_is_name : PySem.W.codeIn K cd_is_name "is_name" = true) (k_is_name : PySem.W.keepIn K (.ref f_is_name) = true)
    {f_is_path : Addr} {od_is_path an_is_path : Option Addr} {sl_is_path : Array (Option Value)} {oc_is_path kV_is_path dc_is_path pm_is_path cd_is_path ct_is_path : Value}
    (a_is_path : PySem.W.nsIn K mainGlobals "is_path" = some (some (.ref f_is_path))) (l_is_path : K.lookup f_is_path = some ⟨oc_is_path, od_is_path, .func (PySem.W.fnOf "is_path" "is_path" (defArgs s_is_path) (defBody s_is_path) (defScope s_is_path) .none kV_is_path dc_is_path pm_is_path an_is_path cd_is_path ct_is_path), sl_is_path⟩) (e_is_path : PySem.W.codeIn K cd_is_path "is_path" = true) (k_is_path : PySem.W.keepIn K (.ref f_is_path) = true)
    {f_l_dip : Addr} {od_l_dip an_l_dip : Option Addr} {sl_l_dip : Array (Option Value)} {oc_l_dip kV_l_dip dc_l_dip pm_l_dip cd_l_dip ct_l_dip : Value}
    (a_l_dip : PySem.W.nsIn K mainGlobals "_law_dip" = some (some (.ref f_l_dip))) (l_l_dip : K.lookup f_l_dip = some ⟨oc_l_dip, od_l_dip, .func (PySem.W.fnOf "_law_dip" "_law_dip" (defArgs s_l_dip) (defBody s_l_dip) (defScope s_l_dip) .none kV_l_dip dc_l_dip pm_l_dip an_l_dip cd_l_dip ct_l_dip), sl_l_dip⟩) (e_l_dip : PySem.W.codeIn K cd_l_dip "_law_dip" = true) (k_l_dip : PySem.W.keepIn K (.ref f_l_dip) = true)
    {f_l_take : Addr} {od_l_take an_l_take : Option Addr} {sl_l_take : Array (Option Value)} {oc_l_take kV_l_take dc_l_take pm_l_take cd_l_take ct_l_take : Value}
    (a_l_take : PySem.W.nsIn K mainGlobals "_law_take" = some (some (.ref f_l_take))) (l_l_take : K.lookup f_l_take = some ⟨oc_l_take, od_l_take, .func (PySem.W.fnOf "_law_take" "_law_take" (defArgs s_l_take) (defBody s_l_take) (defScope s_l_take) .none kV_l_take dc_l_take pm_l_take an_l_take cd_l_take ct_l_take), sl_l_take⟩) (e_l_take : PySem.W.codeIn K cd_l_take "_law_take" = true) (k_l_take : PySem.W.keepIn K (.ref f_l_take) = true)
    {f_l_folded : Addr} {od_l_folded an_l_folded : Option Addr} {sl_l_folded : Array (Option Value)} {oc_l_folded kV_l_folded dc_l_folded pm_l_folded cd_l_folded ct_l_folded : Value}
    (a_l_folded : PySem.W.nsIn K mainGlobals "_law_folded" = some (some (.ref f_l_folded))) (l_l_folded : K.lookup f_l_folded = some ⟨oc_l_folded, od_l_folded, .func (PySem.W.fnOf "_law_folded" "_law_folded" (defArgs s_l_folded) (defBody s_l_folded) (defScope s_l_folded) .none kV_l_folded dc_l_folded pm_l_folded an_l_folded cd_l_folded ct_l_folded), sl_l_folded⟩) (e_l_folded : PySem.W.codeIn K cd_l_folded "_law_folded" = true) (k_l_folded : PySem.W.keepIn K (.ref f_l_folded) = true)
    {f_l_one_of : Addr} {od_l_one_of an_l_one_of : Option Addr} {sl_l_one_of : Array (Option Value)} {oc_l_one_of kV_l_one_of dc_l_one_of pm_l_one_of cd_l_one_of ct_l_one_of : Value}
    (a_l_one_of : PySem.W.nsIn K mainGlobals "_law_one_of" = some (some (.ref f_l_one_of))) (l_l_one_of : K.lookup f_l_one_of = some ⟨oc_l_one_of, od_l_one_of, .func (PySem.W.fnOf "_law_one_of" "_law_one_of" (defArgs s_l_one_of) (defBody s_l_one_of) (defScope s_l_one_of) .none kV_l_one_of dc_l_one_of pm_l_one_of an_l_one_of cd_l_one_of ct_l_one_of), sl_l_one_of⟩) (e_l_one_of : PySem.W.codeIn K cd_l_one_of "_law_one_of" = true) (k_l_one_of : PySem.W.keepIn K (.ref f_l_one_of) = true)
    {f_l_named : Addr} {od_l_named an_l_named : Option Addr} {sl_l_named : Array (Option Value)} {oc_l_named kV_l_named dc_l_named pm_l_named cd_l_named ct_l_named : Value}
    (a_l_named : PySem.W.nsIn K mainGlobals "_law_named" = some (some (.ref f_l_named))) (l_l_named : K.lookup f_l_named = some ⟨oc_l_named, od_l_named, .func (PySem.W.fnOf "_law_named" "_law_named" (defArgs s_l_named) (defBody s_l_named) (defScope s_l_named) .none kV_l_named dc_l_named pm_l_named an_l_named cd_l_named ct_l_named), sl_l_named⟩) (e_l_named : PySem.W.codeIn K cd_l_named "_law_named" = true) (k_l_named : PySem.W.keepIn K (.ref f_l_named) = true)
    {f_l_same : Addr} {od_l_same an_l_same : Option Addr} {sl_l_same : Array (Option Value)} {oc_l_same kV_l_same dc_l_same pm_l_same cd_l_same ct_l_same : Value}
    (a_l_same : PySem.W.nsIn K mainGlobals "_law_same" = some (some (.ref f_l_same))) (l_l_same : K.lookup f_l_same = some ⟨oc_l_same, od_l_same, .func (PySem.W.fnOf "_law_same" "_law_same" (defArgs s_l_same) (defBody s_l_same) (defScope s_l_same) .none kV_l_same dc_l_same pm_l_same an_l_same cd_l_same ct_l_same), sl_l_same⟩) (e_l_same : PySem.W.codeIn K cd_l_same "_law_same" = true) (k_l_same : PySem.W.keepIn K (.ref f_l_same) = true)
    {f_l_is_one : Addr} {od_l_is_one an_l_is_one : Option Addr} {sl_l_is_one : Array (Option Value)} {oc_l_is_one kV_l_is_one dc_l_is_one pm_l_is_one cd_l_is_one ct_l_is_one : Value}
    (a_l_is_one : PySem.W.nsIn K mainGlobals "_law_is_one" = some (some (.ref f_l_is_one))) (l_l_is_one : K.lookup f_l_is_one = some ⟨oc_l_is_one, od_l_is_one, .func (PySem.W.fnOf "_law_is_one" "_law_is_one" (defArgs s_l_is_one) (defBody s_l_is_one) (defScope s_l_is_one) .none kV_l_is_one dc_l_is_one pm_l_is_one an_l_is_one cd_l_is_one ct_l_is_one), sl_l_is_one⟩) (e_l_is_one : PySem.W.codeIn K cd_l_is_one "_law_is_one" = true) (k_l_is_one : PySem.W.keepIn K (.ref f_l_is_one) = true)
    {f_l_is_way : Addr} {od_l_is_way an_l_is_way : Option Addr} {sl_l_is_way : Array (Option Value)} {oc_l_is_way kV_l_is_way dc_l_is_way pm_l_is_way cd_l_is_way ct_l_is_way : Value}
    (a_l_is_way : PySem.W.nsIn K mainGlobals "_law_is_way" = some (some (.ref f_l_is_way))) (l_l_is_way : K.lookup f_l_is_way = some ⟨oc_l_is_way, od_l_is_way, .func (PySem.W.fnOf "_law_is_way" "_law_is_way" (defArgs s_l_is_way) (defBody s_l_is_way) (defScope s_l_is_way) .none kV_l_is_way dc_l_is_way pm_l_is_way an_l_is_way cd_l_is_way ct_l_is_way), sl_l_is_way⟩) (e_l_is_way : PySem.W.codeIn K cd_l_is_way "_law_is_way" = true) (k_l_is_way : PySem.W.keepIn K (.ref f_l_is_way) = true)
    {f_l_bent : Addr} {od_l_bent an_l_bent : Option Addr} {sl_l_bent : Array (Option Value)} {oc_l_bent kV_l_bent dc_l_bent pm_l_bent cd_l_bent ct_l_bent : Value}
    (a_l_bent : PySem.W.nsIn K mainGlobals "_law_bent" = some (some (.ref f_l_bent))) (l_l_bent : K.lookup f_l_bent = some ⟨oc_l_bent, od_l_bent, .func (PySem.W.fnOf "_law_bent" "_law_bent" (defArgs s_l_bent) (defBody s_l_bent) (defScope s_l_bent) .none kV_l_bent dc_l_bent pm_l_bent an_l_bent cd_l_bent ct_l_bent), sl_l_bent⟩) (e_l_bent : PySem.W.codeIn K cd_l_bent "_law_bent" = true) (k_l_bent : PySem.W.keepIn K (.ref f_l_bent) = true)
    {f_l_told_right : Addr} {od_l_told_right an_l_told_right : Option Addr} {sl_l_told_right : Array (Option Value)} {oc_l_told_right kV_l_told_right dc_l_told_right pm_l_told_right cd_l_told_right ct_l_told_right : Value}
    (a_l_told_right : PySem.W.nsIn K mainGlobals "_law_told_right" = some (some (.ref f_l_told_right))) (l_l_told_right : K.lookup f_l_told_right = some ⟨oc_l_told_right, od_l_told_right, .func (PySem.W.fnOf "_law_told_right" "_law_told_right" (defArgs s_l_told_right) (defBody s_l_told_right) (defScope s_l_told_right) .none kV_l_told_right dc_l_told_right pm_l_told_right an_l_told_right cd_l_told_right ct_l_told_right), sl_l_told_right⟩) (e_l_told_right : PySem.W.codeIn K cd_l_told_right "_law_told_right" = true) (k_l_told_right : PySem.W.keepIn K (.ref f_l_told_right) = true)
    {f_l_right : Addr} {od_l_right an_l_right : Option Addr} {sl_l_right : Array (Option Value)} {oc_l_right kV_l_right dc_l_right pm_l_right cd_l_right ct_l_right : Value}
    (a_l_right : PySem.W.nsIn K mainGlobals "_law_right" = some (some (.ref f_l_right))) (l_l_right : K.lookup f_l_right = some ⟨oc_l_right, od_l_right, .func (PySem.W.fnOf "_law_right" "_law_right" (defArgs s_l_right) (defBody s_l_right) (defScope s_l_right) .none kV_l_right dc_l_right pm_l_right an_l_right cd_l_right ct_l_right), sl_l_right⟩) (e_l_right : PySem.W.codeIn K cd_l_right "_law_right" = true) (k_l_right : PySem.W.keepIn K (.ref f_l_right) = true)
    {f_law : Addr} {od_law an_law : Option Addr} {sl_law : Array (Option Value)} {oc_law kV_law dc_law pm_law cd_law ct_law : Value}
    (a_law : PySem.W.nsIn K mainGlobals "law" = some (some (.ref f_law))) (l_law : K.lookup f_law = some ⟨oc_law, od_law, .func (PySem.W.fnOf "law" "law" (defArgs s_law) (defBody s_law) (defScope s_law) .none kV_law dc_law pm_law an_law cd_law ct_law), sl_law⟩) (e_law : PySem.W.codeIn K cd_law "law" = true) (k_law : PySem.W.keepIn K (.ref f_law) = true)
    (n_abs : PySem.W.nsIn K mainGlobals "abs" = some none)
    (n_all : PySem.W.nsIn K mainGlobals "all" = some none)
    (n_bool : PySem.W.nsIn K mainGlobals "bool" = some none)
    (n_enumerate : PySem.W.nsIn K mainGlobals "enumerate" = some none)
    (n_int : PySem.W.nsIn K mainGlobals "int" = some none)
    (n_isinstance : PySem.W.nsIn K mainGlobals "isinstance" = some none)
    (n_len : PySem.W.nsIn K mainGlobals "len" = some none)
    (n_list : PySem.W.nsIn K mainGlobals "list" = some none)
    (n_range : PySem.W.nsIn K mainGlobals "range" = some none)
    (n_str : PySem.W.nsIn K mainGlobals "str" = some none)
    (n_tuple : PySem.W.nsIn K mainGlobals "tuple" = some none)
    (n_zip : PySem.W.nsIn K mainGlobals "zip" = some none)
    {u_LETTERS : Value} (v_LETTERS : PySem.W.nsIn K mainGlobals "LETTERS" = some (some u_LETTERS)) (r_LETTERS : RelV (.str "abcdefghijklmnopqrstuvwxyz") u_LETTERS)
    {u_MOST_LETTERS : Value} (v_MOST_LETTERS : PySem.W.nsIn K mainGlobals "MOST_LETTERS" = some (some u_MOST_LETTERS)) (r_MOST_LETTERS : RelV (.int 8) u_MOST_LETTERS)
    {u_MOST_NAMES : Value} (v_MOST_NAMES : PySem.W.nsIn K mainGlobals "MOST_NAMES" = some (some u_MOST_NAMES)) (r_MOST_NAMES : RelV (.int 3) u_MOST_NAMES)
    {u_TAG : Value} (v_TAG : PySem.W.nsIn K mainGlobals "TAG" = some (some u_TAG)) (r_TAG : RelV (.str "tag") u_TAG)
    {u_PAGE : Value} (v_PAGE : PySem.W.nsIn K mainGlobals "PAGE" = some (some u_PAGE)) (r_PAGE : RelV (.str "page") u_PAGE)
    {a_FIELDS : Addr} (v_FIELDS : PySem.W.nsIn K mainGlobals "FIELDS" = some (some (.ref a_FIELDS)))
    {u_MOST : Value} (v_MOST : PySem.W.nsIn K mainGlobals "MOST" = some (some u_MOST)) (r_MOST : RelV (.int 4) u_MOST)
    (q_FIELDS : ∃ (o : Obj) (its : Array Value) (n : Nat), K.lookup a_FIELDS = some o ∧ o.cls = .type "tuple" ∧ o.data = .seq its n ∧ its.size ≤ sizeLine ∧ Vals [.str "title", .str "path", .str "day", .str "tags", .str "body", .str "inner"] its.toList) :
    ∃ fd : FuncData, (∀ (s : Shared) (v : Value), BindsTo s fd ⟨[v], []⟩ [("_law_script", v)]) ∧ ∀ base : Heap, K.In base → base.Ns mainGlobals mg → FnOk l.prog w K mg base CX0 10 fa fd ["_law_script"] (sp_law K) := by
  have e := hfa.symm.trans (PySem.W.mg_of X G a_law)
  have e2 : f_law = fa := (Value.ref.inj (Option.some.inj e)).symm
  subst e2
  let A : Ad := { f_is_name := f_is_name, d_is_name := (PySem.W.fnOf "is_name" "is_name" (defArgs s_is_name) (defBody s_is_name) (defScope s_is_name) .none kV_is_name dc_is_name pm_is_name an_is_name cd_is_name ct_is_name), f_is_path := f_is_path, d_is_path := (PySem.W.fnOf "is_path" "is_path" (defArgs s_is_path) (defBody s_is_path) (defScope s_is_path) .none kV_is_path dc_is_path pm_is_path an_is_path cd_is_path ct_is_path), f_l_dip := f_l_dip, d_l_dip := (PySem.W.fnOf "_law_dip" "_law_dip" (defArgs s_l_dip) (defBody s_l_dip) (defScope s_l_dip) .none kV_l_dip dc_l_dip pm_l_dip an_l_dip cd_l_dip ct_l_dip), f_l_take := f_l_take, d_l_take := (PySem.W.fnOf "_law_take" "_law_take" (defArgs s_l_take) (defBody s_l_take) (defScope s_l_take) .none kV_l_take dc_l_take pm_l_take an_l_take cd_l_take ct_l_take), f_l_folded := f_l_folded, d_l_folded := (PySem.W.fnOf "_law_folded" "_law_folded" (defArgs s_l_folded) (defBody s_l_folded) (defScope s_l_folded) .none kV_l_folded dc_l_folded pm_l_folded an_l_folded cd_l_folded ct_l_folded), f_l_one_of := f_l_one_of, d_l_one_of := (PySem.W.fnOf "_law_one_of" "_law_one_of" (defArgs s_l_one_of) (defBody s_l_one_of) (defScope s_l_one_of) .none kV_l_one_of dc_l_one_of pm_l_one_of an_l_one_of cd_l_one_of ct_l_one_of), f_l_named := f_l_named, d_l_named := (PySem.W.fnOf "_law_named" "_law_named" (defArgs s_l_named) (defBody s_l_named) (defScope s_l_named) .none kV_l_named dc_l_named pm_l_named an_l_named cd_l_named ct_l_named), f_l_same := f_l_same, d_l_same := (PySem.W.fnOf "_law_same" "_law_same" (defArgs s_l_same) (defBody s_l_same) (defScope s_l_same) .none kV_l_same dc_l_same pm_l_same an_l_same cd_l_same ct_l_same), f_l_is_one := f_l_is_one, d_l_is_one := (PySem.W.fnOf "_law_is_one" "_law_is_one" (defArgs s_l_is_one) (defBody s_l_is_one) (defScope s_l_is_one) .none kV_l_is_one dc_l_is_one pm_l_is_one an_l_is_one cd_l_is_one ct_l_is_one), f_l_is_way := f_l_is_way, d_l_is_way := (PySem.W.fnOf "_law_is_way" "_law_is_way" (defArgs s_l_is_way) (defBody s_l_is_way) (defScope s_l_is_way) .none kV_l_is_way dc_l_is_way pm_l_is_way an_l_is_way cd_l_is_way ct_l_is_way), f_l_bent := f_l_bent, d_l_bent := (PySem.W.fnOf "_law_bent" "_law_bent" (defArgs s_l_bent) (defBody s_l_bent) (defScope s_l_bent) .none kV_l_bent dc_l_bent pm_l_bent an_l_bent cd_l_bent ct_l_bent), f_l_told_right := f_l_told_right, d_l_told_right := (PySem.W.fnOf "_law_told_right" "_law_told_right" (defArgs s_l_told_right) (defBody s_l_told_right) (defScope s_l_told_right) .none kV_l_told_right dc_l_told_right pm_l_told_right an_l_told_right cd_l_told_right ct_l_told_right), f_l_right := f_l_right, d_l_right := (PySem.W.fnOf "_law_right" "_law_right" (defArgs s_l_right) (defBody s_l_right) (defScope s_l_right) .none kV_l_right dc_l_right pm_l_right an_l_right cd_l_right ct_l_right), f_law := f_law, d_law := (PySem.W.fnOf "law" "law" (defArgs s_law) (defBody s_law) (defScope s_law) .none kV_law dc_law pm_law an_law cd_law ct_law), a_FIELDS := a_FIELDS }
  have T : Top K mg A := { F_is_name := fun_mk (st := s_is_name) l_is_name e_is_name k_is_name, g_is_name := PySem.W.mg_of X G a_is_name, F_is_path := fun_mk (st := s_is_path) l_is_path e_is_path k_is_path, g_is_path := PySem.W.mg_of X G a_is_path, F_l_dip := fun_mk (st := s_l_dip) l_l_dip e_l_dip k_l_dip, g_l_dip := PySem.W.mg_of X G a_l_dip, F_l_take := fun_mk (st := s_l_take) l_l_take e_l_take k_l_take, g_l_take := PySem.W.mg_of X G a_l_take, F_l_folded := fun_mk (st := s_l_folded) l_l_folded e_l_folded k_l_folded, g_l_folded := PySem.W.mg_of X G a_l_folded, F_l_one_of := fun_mk (st := s_l_one_of) l_l_one_of e_l_one_of k_l_one_of, g_l_one_of := PySem.W.mg_of X G a_l_one_of, F_l_named := fun_mk (st := s_l_named) l_l_named e_l_named k_l_named, g_l_named := PySem.W.mg_of X G a_l_named, F_l_same := fun_mk (st := s_l_same) l_l_same e_l_same k_l_same, g_l_same := PySem.W.mg_of X G a_l_same, F_l_is_one := fun_mk (st := s_l_is_one) l_l_is_one e_l_is_one k_l_is_one, g_l_is_one := PySem.W.mg_of X G a_l_is_one, F_l_is_way := fun_mk (st := s_l_is_way) l_l_is_way e_l_is_way k_l_is_way, g_l_is_way := PySem.W.mg_of X G a_l_is_way, F_l_bent := fun_mk (st := s_l_bent) l_l_bent e_l_bent k_l_bent, g_l_bent := PySem.W.mg_of X G a_l_bent, F_l_told_right := fun_mk (st := s_l_told_right) l_l_told_right e_l_told_right k_l_told_right, g_l_told_right := PySem.W.mg_of X G a_l_told_right, F_l_right := fun_mk (st := s_l_right) l_l_right e_l_right k_l_right, g_l_right := PySem.W.mg_of X G a_l_right, F_law := fun_mk (st := s_law) l_law e_law k_law, g_law := PySem.W.mg_of X G a_law, n_abs := PySem.W.mg_none_of X G n_abs, n_all := PySem.W.mg_none_of X G n_all, n_bool := PySem.W.mg_none_of X G n_bool, n_enumerate := PySem.W.mg_none_of X G n_enumerate, n_int := PySem.W.mg_none_of X G n_int, n_isinstance := PySem.W.mg_none_of X G n_isinstance, n_len := PySem.W.mg_none_of X G n_len, n_list := PySem.W.mg_none_of X G n_list, n_range := PySem.W.mg_none_of X G n_range, n_str := PySem.W.mg_none_of X G n_str, n_tuple := PySem.W.mg_none_of X G n_tuple, n_zip := PySem.W.mg_none_of X G n_zip, c_LETTERS := ⟨_, PySem.W.mg_of X G v_LETTERS, r_LETTERS⟩, c_MOST_LETTERS := ⟨_, PySem.W.mg_of X G v_MOST_LETTERS, r_MOST_LETTERS⟩, c_MOST_NAMES := ⟨_, PySem.W.mg_of X G v_MOST_NAMES, r_MOST_NAMES⟩, c_TAG := ⟨_, PySem.W.mg_of X G v_TAG, r_TAG⟩, c_PAGE := ⟨_, PySem.W.mg_of X G v_PAGE, r_PAGE⟩, c_FIELDS := ⟨_, PySem.W.mg_of X G v_FIELDS, rfl⟩, c_MOST := ⟨_, PySem.W.mg_of X G v_MOST, r_MOST⟩, q_FIELDS := fun H => .inr q_FIELDS }
  exact ⟨A.d_law, fun s v => .of_eq rfl, fun base _ _ => ok_law T⟩
end K01
open PySem PySem.W PyProof.Rows
set_option maxHeartbeats 0 in
theorem PySem.Challenge.cw_pagemaker_k01_names_and_paths_holds : PySem.Challenge.rw_pagemaker_k01_names_and_paths.Holds := by
  w_on; o_law; k_head; (case hw => w_witness2)
  k_fill
  refine L2.walk_ofB (l := PySem.Challenge.rw_pagemaker_k01_names_and_paths) (n := 63) (k := 10) (x := "_law_script") (CX := fun _ => L2.CX0) (sp := fun w => K01.sp_law _) rfl (by decide) rfl ⟨rfl, by decide, by decide⟩ (fun w h Y => PySem.W.kIn_of Y) ?F (fun _ _ a ns hl hb _ hS => ⟨a, ns, 1048576, rfl, hS, hl, L2.bits_lt hb, by decide, fun _ => rfl⟩) (fun _ _ _ _ _ h => h)
  case F =>
    intro w mg fa h KX G hmg
    refine' K01.all_mk KX G hmg ?a_is_name ?l_is_name ?e_is_name ?k_is_name ?a_is_path ?l_is_path ?e_is_path ?k_is_path ?a_l_dip ?l_l_dip ?e_l_dip ?k_l_dip ?a_l_take ?l_l_take ?e_l_take ?k_l_take ?a_l_folded ?l_l_folded ?e_l_folded ?k_l_folded ?a_l_one_of ?l_l_one_of ?e_l_one_of ?k_l_one_of ?a_l_named ?l_l_named ?e_l_named ?k_l_named ?a_l_same ?l_l_same ?e_l_same ?k_l_same ?a_l_is_one ?l_l_is_one ?e_l_is_one ?k_l_is_one ?a_l_is_way ?l_l_is_way ?e_l_is_way ?k_l_is_way ?a_l_bent ?l_l_bent ?e_l_bent ?k_l_bent ?a_l_told_right ?l_l_told_right ?e_l_told_right ?k_l_told_right ?a_l_right ?l_l_right ?e_l_right ?k_l_right ?a_law ?l_law ?e_law ?k_law ?n_abs ?n_all ?n_bool ?n_enumerate ?n_int ?n_isinstance ?n_len ?n_list ?n_range ?n_str ?n_tuple ?n_zip ?v_LETTERS ?r_LETTERS ?v_MOST_LETTERS ?r_MOST_LETTERS ?v_MOST_NAMES ?r_MOST_NAMES ?v_TAG ?r_TAG ?v_PAGE ?r_PAGE ?v_FIELDS ?v_MOST ?r_MOST ?q_FIELDS
    (case a_is_name => k_is)
    (case l_is_name => k_is)
    (case e_is_name => k_is)
    (case k_is_name => k_is)
    (case a_is_path => k_is)
    (case l_is_path => k_is)
    (case e_is_path => k_is)
    (case k_is_path => k_is)
    (case a_l_dip => k_is)
    (case l_l_dip => k_is)
    (case e_l_dip => k_is)
    (case k_l_dip => k_is)
    (case a_l_take => k_is)
    (case l_l_take => k_is)
    (case e_l_take => k_is)
    (case k_l_take => k_is)
    (case a_l_folded => k_is)
    (case l_l_folded => k_is)
    (case e_l_folded => k_is)
    (case k_l_folded => k_is)
    (case a_l_one_of => k_is)
    (case l_l_one_of => k_is)
    (case e_l_one_of => k_is)
    (case k_l_one_of => k_is)
    (case a_l_named => k_is)
    (case l_l_named => k_is)
    (case e_l_named => k_is)
    (case k_l_named => k_is)
    (case a_l_same => k_is)
    (case l_l_same => k_is)
    (case e_l_same => k_is)
    (case k_l_same => k_is)
    (case a_l_is_one => k_is)
    (case l_l_is_one => k_is)
    (case e_l_is_one => k_is)
    (case k_l_is_one => k_is)
    (case a_l_is_way => k_is)
    (case l_l_is_way => k_is)
    (case e_l_is_way => k_is)
    (case k_l_is_way => k_is)
    (case a_l_bent => k_is)
    (case l_l_bent => k_is)
    (case e_l_bent => k_is)
    (case k_l_bent => k_is)
    (case a_l_told_right => k_is)
    (case l_l_told_right => k_is)
    (case e_l_told_right => k_is)
    (case k_l_told_right => k_is)
    (case a_l_right => k_is)
    (case l_l_right => k_is)
    (case e_l_right => k_is)
    (case k_l_right => k_is)
    (case a_law => k_is)
    (case l_law => k_is)
    (case e_law => k_is)
    (case k_law => k_is)
    (case n_abs => k_is)
    (case n_all => k_is)
    (case n_bool => k_is)
    (case n_enumerate => k_is)
    (case n_int => k_is)
    (case n_isinstance => k_is)
    (case n_len => k_is)
    (case n_list => k_is)
    (case n_range => k_is)
    (case n_str => k_is)
    (case n_tuple => k_is)
    (case n_zip => k_is)
    (case v_LETTERS => k_is)
    (case v_MOST_LETTERS => k_is)
    (case v_MOST_NAMES => k_is)
    (case v_TAG => k_is)
    (case v_PAGE => k_is)
    (case v_FIELDS => k_is)
    (case v_MOST => k_is)
    (case r_LETTERS => exact ⟨_, rfl⟩)
    (case r_MOST_LETTERS => exact ⟨_, rfl⟩)
    (case r_MOST_NAMES => exact ⟨_, rfl⟩)
    (case r_TAG => exact ⟨_, rfl⟩)
    (case r_PAGE => exact ⟨_, rfl⟩)
    (case r_MOST => exact ⟨_, rfl⟩)
    (case q_FIELDS => exact L2.tup_in (by k_is) rfl rfl (by decide) (.cons ⟨_, rfl⟩ (.cons ⟨_, rfl⟩ (.cons ⟨_, rfl⟩ (.cons ⟨_, rfl⟩ (.cons ⟨_, rfl⟩ (.cons ⟨_, rfl⟩ .nil)))))))
