import PyProof.Rows.All
import Wide.All
import OpenK.AllK
import Wide.FinOn
import KE.KUnpackStar
import HandS.ForMost
import HandS.Flow
import HandS.IsInst
import HandS.Zip
import HandS.Wide
import HandS.WideBits
import HandS.TupAny
import HandS.StrMore
import HandS.More
import HandS.TryOnly
import HandS.Codes
import HandS.EndBits
import PyProof.StrOps2
import HandS.ReplaceLit
import HandS.ReplaceList
import HandS.Style
import KE.IntBitsLaws
import HandS.Deep
import HandS.TupMul
import HandS.Steps
import HandS.Ends
import PyProof.ReprText
import KE.GoesEnumKw
import HandS.SortKw
import HandS.RaiseMore
import PyProof.FitsInt
import KE.KDictExact
import KE.KRevSl
import PyProof.DictItemsLoops
import HandS.Dict
import HandS.FStr
import HandS.NoneIn
import HandS.DictComp
import HandS.Walk
import HandS.Defaults
import HandS.CallLocal
import HandS.SetFor
import HandS.SetTxt0
import KE.KDictCopyH
import PyProof.ReprLen
import PySem.Challenge.RW_pagemaker_k04_things_of_any_make
set_option Elab.async false
set_option linter.all false
set_option maxRecDepth 100000
set_option maxHeartbeats 4000000
/-! my own rules over the hand layer -/
namespace L2
open PySem PySem.Spec PyProof.Rows

/-! ### readings by short names -/
abbrev zAdd : R2 := rI0 fun i j => .int (i + j)
abbrev zSub : R2 := rI0 fun i j => .int (i - j)
abbrev zMul : R2 := rI CMulX fun i j => .int (i * j)
abbrev zFdv : R2 := rI CDivW fun i j => .int (i / j)
abbrev zMod : R2 := rI (fun _ j => 0 < j) fun i j => .int (i % j)
abbrev zPow : R2 := rI CPow fun i j => .int (i ^ j.toNat)
abbrev zLt : R2 := rI0 fun i j => .bl (decide (i < j))
abbrev zLtE : R2 := rI0 fun i j => .bl (decide (i ≤ j))
abbrev zGt : R2 := rI0 fun i j => .bl (decide (j < i))
abbrev zGtE : R2 := rI0 fun i j => .bl (decide (j ≤ i))
abbrev zNeg : V → Hp → VK → Prop := rU fun i => .int (-i)
abbrev zAddS : R2 := fun x y H Q => ∃ i j, x = .str i ∧ y = .str j ∧ i.length + j.length ≤ sizeLine ∧ Q (.str (i ++ j)) H
abbrev zLtS : R2 := fun x y H Q => ∃ i j, x = .str i ∧ y = .str j ∧ Q (.bl (decide (i.cps.toList < j.cps.toList))) H
abbrev zLtES : R2 := fun x y H Q => ∃ i j, x = .str i ∧ y = .str j ∧ Q (.bl (!decide (j.cps.toList < i.cps.toList))) H
abbrev zInSg : R2 := fun x y H Q => ∃ (c : Nat) (z : Str), x = .str ⟨#[c]⟩ ∧ y = .str z ∧ Q (.bl (decide (c ∈ z.cps.toList))) H
abbrev zNotInSg : R2 := fun x y H Q => ∃ (c : Nat) (z : Str), x = .str ⟨#[c]⟩ ∧ y = .str z ∧ Q (.bl (!decide (c ∈ z.cps.toList))) H
abbrev zLenS : List V → Hp → VK → Prop := fun xs H Q => ∃ z, xs = [.str z] ∧ z.length ≤ sizeLine ∧ Q (.int z.length) H
abbrev zLenQ (K : PySem.W.Frag) : List V → Hp → VK → Prop := fun xs H Q => ∃ p ys, xs = [.ref p] ∧ (SqL K H p ys ∨ SqT K H p ys) ∧ Q (.int ys.length) H
abbrev zLenA (K : PySem.W.Frag) : List V → Hp → VK → Prop := fun xs H Q => ∃ x n, xs = [x] ∧ LenV K x H n ∧ Q (.int n) H
abbrev zAbs : List V → Hp → VK → Prop := fun xs H Q => ∃ i, xs = [.int i] ∧ Q (.int (if i < 0 then -i else i)) H
abbrev zInt1 : List V → Hp → VK → Prop := fun xs H Q => (∃ i, xs = [.int i] ∧ Q (.int i) H) ∨ ∃ k, xs = [.bl k] ∧ Q (.int (if k then 1 else 0)) H
abbrev zListOf (K : PySem.W.Frag) : List V → Hp → VK → Prop := fun xs H Q => ∃ p ys, xs = [.ref p] ∧ (SqL K H p ys ∨ SqT K H p ys) ∧ ∀ l, H l = none → Q (.ref l) (upd H l (.lst ys))
abbrev zTupleOf (K : PySem.W.Frag) : List V → Hp → VK → Prop := fun xs H Q => ∃ p ys, xs = [.ref p] ∧ ((SqL K H p ys ∧ ∀ l, H l = none → Q (.ref l) (upd H l (.tup ys))) ∨ (SqT K H p ys ∧ Q (.ref p) H))
abbrev zMax2 : List V → Hp → VK → Prop := fun xs H Q => ∃ i j, xs = [.int i, .int j] ∧ Q (.int (if j > i then j else i)) H
abbrev zMin2 : List V → Hp → VK → Prop := fun xs H Q => ∃ i j, xs = [.int i, .int j] ∧ Q (.int (if j < i then j else i)) H
abbrev zSplit : V → List V → Hp → VK → Prop := fun x xs H Q => ∃ a b, x = .str a ∧ xs = [.str b] ∧ (b.length == 0) = false ∧ a.length + 2 ≤ sizeLine ∧ rNewStrs (Txt.split a b) H Q
abbrev zPartition : V → List V → Hp → VK → Prop := fun x xs H Q => ∃ a b, x = .str a ∧ xs = [.str b] ∧ (b.length == 0) = false ∧ a.length ≤ sizeLine ∧ ∀ p, H p = none → Q (.ref p) (upd H p (.tup [.str (Txt.partition a b).1, .str (Txt.partition a b).2.1, .str (Txt.partition a b).2.2]))
abbrev zJoin (K : PySem.W.Frag) : V → List V → Hp → VK → Prop := fun x xs H Q => ∃ a p, ∃ ys : List Str, x = .str a ∧ xs = [.ref p] ∧ (SqL K H p (ys.map V.str) ∨ SqT K H p (ys.map V.str)) ∧ (ys.map (·.length)).sum + ys.length * a.length ≤ 16777216 ∧ Q (.str (Txt.join a ys)) H
abbrev zStartswith : V → List V → Hp → VK → Prop := fun x xs H Q => ∃ a b, x = .str a ∧ xs = [.str b] ∧ Q (.bl (Txt.startswith a b)) H
abbrev zFind3 : V → List V → Hp → VK → Prop := fun x xs H Q => ∃ (a b : Str) (i : Int), x = .str a ∧ xs = [.str b, .int i] ∧ Q (.int (Txt.find3 a b i)) H
abbrev zGtS : R2 := fun x y H Q => ∃ i j, x = .str i ∧ y = .str j ∧ Q (.bl (decide (j.cps.toList < i.cps.toList))) H
abbrev zGtES : R2 := fun x y H Q => ∃ i j, x = .str i ∧ y = .str j ∧ Q (.bl (!decide (i.cps.toList < j.cps.toList))) H
abbrev zInSt : R2 := fun x y H Q => ∃ i j, x = .str i ∧ y = .str j ∧ Q (.bl (!(Builtin.Str.occurrences j i 0 j.length 1).isEmpty)) H
abbrev zNotInSt : R2 := fun x y H Q => ∃ i j, x = .str i ∧ y = .str j ∧ Q (.bl (!(!(Builtin.Str.occurrences j i 0 j.length 1).isEmpty))) H
abbrev zIsN : R2 := fun x y H Q => y = .non ∧ Q (.bl (decide (x = .non))) H
abbrev zIsNotN : R2 := fun x y H Q => y = .non ∧ Q (.bl (!decide (x = .non))) H
abbrev zRepS : R2 := fun x y H Q => ∃ (z : Str) (n : Int), x = .str z ∧ y = .int n ∧ 2 ≤ n ∧ n ≤ 1000 ∧ 1 ≤ z.length ∧ z.length ≤ 1000 ∧ Q (.str ⟨(List.replicate n.toNat z.cps).foldl (· ++ ·) #[]⟩) H
abbrev zOr (r r' : R2) : R2 := fun x y H Q => r x y H Q ∨ r' x y H Q
abbrev zTruth (K : PySem.W.Frag) (te : TE) : TT := fun σ H Q => te σ H fun x H' => ∃ k, TruV K x H' k ∧ Q k H'
section
variable {X : Cx}
theorem oAdd : OpR X (binaryOp .Add) zAdd := op_add
theorem oSub : OpR X (binaryOp .Sub) zSub := op_sub
theorem oMul : OpR X (binaryOp .Mult) zMul := op_mulX
theorem oFdv : OpR X (binaryOp .FloorDiv) zFdv := op_fdivW
theorem oMod : OpR X (binaryOp .Mod) zMod := op_mod
theorem oPow : OpR X (binaryOp .Pow) zPow := op_pow
theorem oAddS : OpR X (binaryOp .Add) zAddS := op_add_str
theorem oCat : OpR X (binaryOp .Add) rCat := op_cat
theorem oCatA : OpR X (binaryOp .Add) (rCatA X.K) := op_catA
theorem oRep : OpR X (binaryOp .Mult) rRep := op_rep
theorem oLt : OpR X (compareOp .Lt) zLt := op_lt
theorem oLtE : OpR X (compareOp .LtE) zLtE := op_le
theorem oGt : OpR X (compareOp .Gt) zGt := op_gt
theorem oGtE : OpR X (compareOp .GtE) zGtE := op_ge
theorem oLtS : OpR X (compareOp .Lt) zLtS := op_lt_str
theorem oLtES : OpR X (compareOp .LtE) zLtES := op_le_str
theorem oGtS : OpR X (compareOp .Gt) zGtS := op_gt_str
theorem oGtES : OpR X (compareOp .GtE) zGtES := op_ge_str
theorem oEq : OpR X (compareOp .Eq) rEq := op_eq
theorem oNotEq : OpR X (compareOp .NotEq) rNe := op_ne
theorem oEqD (hu : X.A.units + 64 < cLine) : OpR X (compareOp .Eq) (rEqD X.K) := op_eqD hu
theorem oNotEqD (hu : X.A.units + 64 < cLine) : OpR X (compareOp .NotEq) (rNeD X.K) := op_neD hu
theorem oInSg : OpR X (compareOp .In) zInSg := op_in_sign
theorem oNotInSg : OpR X (compareOp .NotIn) zNotInSg := op_notIn_sign
theorem oInSt : OpR X (compareOp .In) zInSt := op_in_str
theorem oNotInSt : OpR X (compareOp .NotIn) zNotInSt := op_notin_str
theorem oInQ : OpR X (compareOp .In) (rIn X.K false) := op_in_seq
theorem oNotInQ : OpR X (compareOp .NotIn) (rIn X.K true) := op_notIn_seq
theorem oIsN : OpR X (compareOp .Is) zIsN := op_isN
theorem oIsNotN : OpR X (compareOp .IsNot) zIsNotN := op_notN
end
section
variable {X : Cx} {pos : Pos}
/-! ### calls by keywords alone -/
theorem pe_callK0 {CX : CXT} {k : Nat} {f : Addr} {fd : FuncData} {ps ks : List Str} {sp : Sp} {x : Str} {p : Pos} {kws : List Keyword} {E : XK} {tk : TA} {g : List Value → List Value → List Value} {gV : List V → List V → List V}
    (F : FnOk X.prog X.w X.K X.mg X.base CX k f fd ps sp) (hr : Room k X.A) (hg : Gl X x) (hm : X.mg x = some (.ref f)) (hk : PySem.W.keepIn X.K (.ref f) = true) (hb : KBinds X.K fd ps ks g gV) (hx : Passes CX X E)
    (hkw : PK X kws tk) (hall : (backToKw pos (keywordEach kws X.env)).all (·.1.isSome) = true := by rfl) (hks : (backToKw pos (keywordEach kws X.env)).filterMap (·.1) = ks := by rfl)
    (hdb : (x == ("__debug__" : Str)) = false := by decide)
    (hpl : ((backTo pos (starEach [] X.env)).any (·.1) || (backToKw pos (keywordEach kws X.env)).any (·.1.isNone)) = false := by rfl) :
    PE X (.Call (.Name x p) [] kws pos) (tCallK sp gV E tNil tk) := by
  refine ⟨fun pins s σ H Q I h => ?_⟩
  refine wpAny_Call_Name_kw (ld_glob I hg hm ?_ hdb)
  refine PySem.W.callWith_KW0 (h₀ := X.base) I.ok.mod.kin hk hall ?_ hpl
  refine thn (hkw.run pos pins s σ H _ I h) fun ws s2 ⟨zs, H2, I2, rz, q2⟩ => ⟨I2.kIn, ?_⟩
  rw [hks]
  exact run_fnk F hr hb hx I2 .nil rz q2
/-! ### a, *b = a list -/
theorem pgs_star {e : Expr} {p : Pos} {es : List Expr} {t : TG} {u : TGs} (h1 : PG X e t) (h2 : PGs X es u)
    (hs : (assignEach (.Starred e p :: es) X.env).map (·.2) = assign e X.env :: (assignEach es X.env).map (·.2) := by rfl) : PGs X (.Starred e p :: es) (gCons t u) := by
  refine ⟨fun pins s σ H vs us Q I r h => ?_⟩
  obtain ⟨v, vr, e1, h⟩ := h
  subst e1
  cases r with
  | cons r rr =>
    rw [hs]
    refine assignInOrder_cons (thn (h1.run pins s σ H _ _ _ I r h) fun _ s1 ⟨σ1, H1, I1, q1⟩ => ?_)
    exact h2.run pins s1 σ1 H1 _ _ Q I1 rr q1
def gStarL (K : PySem.W.Frag) (n i : Nat) (t : TGs) : TG := fun v σ H Q => ∃ a xs, v = .ref a ∧ SqL K H a xs ∧ n ≤ xs.length + 1 ∧
  ∀ D, H D = none → t (xs.take i ++ [.ref D] ++ (xs.drop i).drop (xs.length + 1 - n)) σ (upd H D (.lst ((xs.drop i).take (xs.length + 1 - n)))) Q
def gStarT (K : PySem.W.Frag) (n i : Nat) (t : TGs) : TG := fun v σ H Q => ∃ a xs, v = .ref a ∧ SqT K H a xs ∧ n ≤ xs.length + 1 ∧
  ∀ D, H D = none → t (xs.take i ++ [.ref D] ++ (xs.drop i).drop (xs.length + 1 - n)) σ (upd H D (.lst ((xs.drop i).take (xs.length + 1 - n)))) Q
theorem pg_starL {es : List Expr} {k : Nat} {t : TGs} {n i : Nat} (hc : X.calm = true) (h : PGs X es t) (hn : (assignEach es X.env).length = n := by rfl) (hst : (assignEach es X.env).findIdx? (·.1) = some i := by rfl) (hi : i < n := by decide) :
    PG X (.Tuple es k pos) (gStarL X.K n i t) := by
  refine ⟨fun pins s σ H v u Q I r hw => ?_⟩
  obtain ⟨a, xs, e1, hq, hl, hw⟩ := hw
  subst e1
  cases r
  obtain ⟨its, rv, pl, hz⟩ := I.list hq
  have hA := I.ok.hd hc
  have hL := pl.isList
  have hlen : its.toArray.size = xs.length := by rw [List.size_toArray]; exact rv.length.symm
  rw [PyProof.Rows.assign_Tuple]
  refine wpAny_bind (wpAny_standAt ?_)
  unfold unpack
  rw [hn, hst]
  refine wpAny_bind (wpAny_holding ?_)
  have hlt : a ≠ s.heap.objs.size := by obtain ⟨o, ho, _⟩ := hL; exact Nat.ne_of_lt (Heap.lt_size ho)
  unfold unpackItems
  refine wpAny_bind ?_
  unfold notIterableAtAll
  refine wpAny_bind (wpAny_specialOf hL.typeIs slot_list_iter.lookup ?_)
  refine wpAny_pure ?_
  simp only [Bool.false_eq_true, if_false]
  refine wpAny_bind (wpAny_holding (wpAny_pyIter_list hL ?_))
  refine wpAny_bind (wpAny_holding (PySem.W.kun_draw hlt i 0 _ _ ⟨_, Heap.get?_push_size _ rfl, rfl, rfl⟩ (hL.push _) (by omega) fun h₁ hit₁ hs₁ => ?_))
  have hl₁ : h₁.IsList a its.toArray := (hL.push _).extBut hs₁.extBut hlt
  rw [Nat.zero_add] at hit₁
  have hit₁' := hit₁
  obtain ⟨oi, hoi, _⟩ := hit₁'
  have hl₁' := hl₁
  obtain ⟨ol, hol, _⟩ := hl₁'
  rw [List.drop_zero]
  have hfl : (its.toArray.toList.take i).length = i := by rw [List.length_take, Array.length_toList]; omega
  rw [if_neg (show ¬ ((its.toArray.toList.take i).length < i) by rw [hfl]; omega)]
  refine wpAny_bind (wpAny_holding (PySem.W.kun_collect (s := { s with heap := h₁ }) (T := "list_iterator") (.inr (.inr (.inl rfl))) (Walks.list (A := X.A.in1) hA s.heap.objs.size a hlt its.toArray) (fun j u st => st.1.typeIs) (k := i) (by omega) ⟨hit₁, hl₁⟩ (Heap.lt_size hoi) (Heap.lt_size hol) (fun h₂ tk hk => ?_) (by rw [hlen]; exact hz)))
  have hrl : (its.toArray.toList.drop i).length = its.toArray.size - i := by rw [List.length_drop, Array.length_toList]
  have hmid : (its.toArray.toList.drop i).length - (n - 1 - i) = its.toArray.size + 1 - n := by rw [hrl]; omega
  show wpAny _ _ (if (its.toArray.toList.drop i).length < n - 1 - i then _ else _) _ _ _
  rw [if_neg (by rw [hrl]; omega)]
  show wpAny _ _ (newList ((its.toArray.toList.drop i).take ((its.toArray.toList.drop i).length - (n - 1 - i))) >>= fun d => pure (its.toArray.toList.take i ++ [d] ++ (its.toArray.toList.drop i).drop ((its.toArray.toList.drop i).length - (n - 1 - i)))) _ _ _
  rw [hmid, hlen]
  have I2 : Inv X pins σ H { s with heap := h₂, toks := tk } := I.kept (t' := tk) fun b o e => hk b o (Nat.ne_of_lt (Heap.lt_size e)) (hs₁.extBut b o (Nat.ne_of_lt (Heap.lt_size e)) (Heap.get?_push_of_some _ e))
  have hp := I2.hok.fresh (Nat.le_refl _)
  have rd : Vals (xs.drop i) (its.drop i) := rv.drop i
  have hm : (its.drop i).take (xs.length + 1 - n) = ((its.toArray.toList.drop i).take (xs.length + 1 - n)) := by simp
  refine wpAny_bind (wpAny_newList (s := { s with heap := h₂, toks := tk }) (wpAny_pure ?_) ?_)
  · have I3 := I2.laid (o := .lst ((xs.drop i).take (xs.length + 1 - n))) (t' := tk) (h' := h₂.push { cls := .type "list", data := .seq ((its.toArray.toList.drop i).take (xs.length + 1 - n)).toArray }) (fun b u q => Heap.get?_push_of_some _ q) (Nat.le_refl _)
      ⟨by rw [List.length_take, List.length_drop]; omega, (its.drop i).take (xs.length + 1 - n), _, rd.take _, by rw [hm]; exact Heap.get?_push_size _ rfl⟩
    refine h.run pins _ σ _ (xs.take i ++ [.ref _] ++ (xs.drop i).drop (xs.length + 1 - n)) _ Q I3 ?_ (hw _ hp)
    have e2 : its.toArray.toList = its := by simp
    rw [e2]
    exact ((rv.take i).append (Paired.cons (show RelV (.ref _) (Value.ref _) from rfl) .nil)).append (rd.drop _)
  · rw [List.length_take, hrl, hlen]
    show min _ _ ≤ sizeLine
    omega
/-- text * n, n at least 2 and the text not empty -/
theorem oRepS : OpR X (binaryOp .Mult) zRepS := by
  intro pins s σ H x y v u Q I rx ry h
  obtain ⟨z, n, rfl, rfl, h1, h2, h3, h4, q⟩ := h
  obtain ⟨t, rfl⟩ := rx
  obtain ⟨t', rfl⟩ := ry
  have hlt : ¬ n < 1 := by omega
  have hne : (n == 1 || z.length == 0) = false := by
    rw [Bool.or_eq_false_iff]
    exact ⟨beq_eq_false_iff_ne.mpr (by omega), beq_eq_false_iff_ne.mpr (by omega)⟩
  have hz : z.length * n.toNat ≤ 1000 * 1000 := Nat.mul_le_mul h4 (by omega)
  refine PySem.P.mul_str ?_ (fun _ _ => ?_) (fun _ _ => ?_) ?_
  · rw [Bool.or_eq_false_iff]
    exact ⟨decide_eq_false (by omega), decide_eq_false (by omega)⟩
  · have e : (2 ^ 63 - 1 : Int) / n ≥ (2 ^ 63 - 1) / 1000 := by
      have a : (2 ^ 63 - 1 : Int) / 1000 * n ≤ 2 ^ 63 - 1 := by
        have b : (2 ^ 63 - 1 : Int) / 1000 = 9223372036854775 := by decide
        rw [b]
        omega
      exact Int.le_ediv_of_mul_le (by omega) a
    have b : (2 ^ 63 - 1 : Int) / 1000 = 9223372036854775 := by decide
    omega
  · unfold PySem.Builtin.Str.tooLong
    exact decide_eq_false (by show ¬ z.length * n.toNat > 2 ^ 24; omega)
  · rw [if_neg hlt]
    simp only [hne, Bool.false_eq_true, if_false]
    refine ⟨?_, ⟨.str _, H, I.tok _, ⟨_, rfl⟩, q⟩⟩
    have : ∀ (m : Nat) (acc : Array Nat), ((List.replicate m z.cps).foldl (· ++ ·) acc).size = acc.size + m * z.cps.size := by
      intro m
      induction m with
      | zero => intro acc; simp
      | succ m ih => intro acc; rw [List.replicate_succ, List.foldl_cons, ih, Array.size_append, Nat.succ_mul]; omega
    show ((List.replicate n.toNat z.cps).foldl (· ++ ·) #[]).size ≤ sizeLine
    rw [this]
    show 0 + n.toNat * z.length ≤ sizeLine
    rw [Nat.mul_comm, sizeLine_eq]
    omega
end
end L2

namespace CwR
open PySem PySem.Spec PyProof.Rows L2
section
variable {X : Cx} {a b e : Expr} {es : List Expr} {ta tb te : TE} {t : TA} {pos : Pos}
theorem pet_ix {r : R2} (hr : IxR X r) (ha : PET X a ta) (hb : PE X b tb) (hs : PlainIx b) : PET X (.Subscript a b pos) (tOp r ta tb) := by
  intro pins s σ H Q h0 I h
  refine Subscript_ (thn (ha pins s σ H _ h0 I h) fun v s1 ⟨x, H1, I1, r1, q1⟩ => ?_)
  refine thn (hb.run pins s1 σ H1 _ I1 q1) fun u s2 ⟨y, H2, I2, r2, q2⟩ => ?_
  exact hr a b pins s2 σ H2 x y v u Q I2 r1 r2 q2 (hs _ _)
theorem pat_one (ha : PET X e te) (hs : starEach [e] X.env = [(false, eval e X.env)] := by rfl) : PAT X [e] (tCons te tNil) := by
  intro pos pins s σ H Q h0 I h
  rw [hs]
  show wpAny _ _ (spliced ((false, eval e X.env) :: backTo pos [])) _ _ s
  refine Calls.spliced_cons (thn (ha pins s σ H _ h0 I h) fun u s1 ⟨x, H1, I1, r1, q1⟩ => ?_)
  exact Calls.spliced_nil ⟨[x], H1, I1, .cons r1 .nil, q1⟩
theorem pet_lst (h : PAT X es t) : PET X (.List es pos) (tLst t) := by
  intro pins s σ H Q h0 I hq
  refine wpAny_List_spliced (thn (h pos pins s σ H _ h0 I hq) fun us s1 ⟨xs, H1, I1, r, z, q⟩ => ⟨by rw [← r.length]; exact z, ?_⟩)
  have hf : H1 s1.heap.objs.size = none := I1.hok.fresh (Nat.le_refl _)
  refine ⟨.ref s1.heap.objs.size, upd H1 s1.heap.objs.size (.lst xs), I1.laid (t' := s1.toks) (fun b u e => Heap.get?_push_of_some _ e) (Nat.le_refl _) ?_, rfl, q _ hf⟩
  exact ⟨z, us, 0, r, Heap.get?_push_size _ rfl⟩
end
end CwR

/-! heaps in two layers (what stands for ever; what is mine to change), data, readings step by step -/
namespace L2
open PySem PySem.Spec PyProof.Rows

/-! ### steps of heaps: Hs stands for ever, H is the whole, M may have changed -/
structure Go (M : List Addr) (Hs H Hs' H' : Hp) : Prop where
  p : Same Hs Hs'
  sub : Same Hs' H'
  new : ∀ a, Hs' a ≠ none → Hs a = none → H a = none
  keep : ∀ a o, a ∉ M → H a = some o → H' a = some o
  there : ∀ a, H a ≠ none → H' a ≠ none
theorem same_upd {H : Hp} {p : Addr} {o : HO} (h : H p = none) : Same H (upd H p o) := fun b x e => by
  rw [upd_ne (ne_of_none e h)]
  exact e
theorem none_sub {Hs H : Hp} (s : Same Hs H) {p : Addr} (h : H p = none) : Hs p = none := s.free h
theorem some_ne {o : Option HO} {u : HO} (h : o = some u) : o ≠ none := by rw [h]; exact fun z => nomatch z
theorem ne_some {o : Option HO} (h : o ≠ none) : ∃ u, o = some u := by
  cases o with
  | none => exact absurd rfl h
  | some u => exact ⟨u, rfl⟩
theorem same_upd2 {Hs H : Hp} (s : Same Hs H) {p : Addr} {o : HO} : Same (upd Hs p o) (upd H p o) := fun b x e => by
  by_cases hb : b = p
  · rw [hb, upd_same] at e
    rw [hb, upd_same]
    exact e
  · rw [upd_ne hb] at e
    rw [upd_ne hb]
    exact s b x e
theorem same_cell {Hs H : Hp} (s : Same Hs H) {p : Addr} {o : HO} (h : Hs p = none) : Same Hs (upd H p o) := fun b x e => by
  rw [upd_ne (ne_of_none e h)]
  exact s b x e
section
variable {M N : List Addr} {Hs H Hs' H' Hs2 H2 : Hp} {p : Addr} {o : HO}
theorem Go.refl (s : Same Hs H) : Go M Hs H Hs H := ⟨Same.refl _, s, fun _ h1 h2 => absurd h2 h1, fun _ _ _ h => h, fun _ h => h⟩
theorem Go.call (g : Go M Hs H Hs' H') (c : Go N Hs' H' Hs2 H2) (hN : ∀ a, a ∈ N → a ∈ M ∨ H a = none) : Go M Hs H Hs2 H2 where
  p := g.p.trans c.p
  sub := c.sub
  new := fun a h1 h2 => by
    cases e : Hs' a with
    | none =>
      have h3 := c.new a h1 e
      cases e2 : H a with
      | none => rfl
      | some u => exact absurd h3 (g.there a (some_ne e2))
    | some u => exact g.new a (some_ne e) h2
  keep := fun a u h1 h2 => by
    refine c.keep a u (fun z => ?_) (g.keep a u h1 h2)
    rcases hN a z with h | h
    · exact h1 h
    · rw [h] at h2
      cases h2
  there := fun a h => c.there a (g.there a h)
theorem Go.trans (g : Go M Hs H Hs' H') (c : Go M Hs' H' Hs2 H2) : Go M Hs H Hs2 H2 := g.call c fun _ h => .inl h
theorem Go.pure (g : Go M Hs H Hs' H') (c : Go [] Hs' H' Hs2 H2) : Go M Hs H Hs2 H2 := g.call c fun _ h => nomatch h
theorem Go.mono (g : Go M Hs H Hs' H') (h : ∀ a, a ∈ M → a ∈ N) : Go N Hs H Hs' H' := ⟨g.p, g.sub, g.new, fun a u h1 h2 => g.keep a u (fun z => h1 (h a z)) h2, g.there⟩
theorem Go.any (g : Go [] Hs H Hs' H') : Go N Hs H Hs' H' := g.mono fun _ h => nomatch h
/-- a new object that stands for ever -/
theorem Go.laid (s : Same Hs H) (hp : H p = none) : Go M Hs H (upd Hs p o) (upd H p o) := by
  refine ⟨same_upd (none_sub s hp), same_upd2 s, fun a h1 h2 => ?_, fun a u _ h => same_upd hp a u h, fun a h => ?_⟩
  · by_cases e : a = p
    · rw [e]
      exact hp
    · rw [upd_ne e] at h1
      exact absurd h2 h1
  · obtain ⟨u, e⟩ := ne_some h
    exact some_ne (same_upd hp a u e)
/-- a new object that will change -/
theorem Go.cell (s : Same Hs H) (hp : H p = none) : Go M Hs H Hs (upd H p o) := by
  refine ⟨Same.refl _, same_cell s (none_sub s hp), fun a h1 h2 => absurd h2 h1, fun a u _ h => same_upd hp a u h, fun a h => ?_⟩
  obtain ⟨u, e⟩ := ne_some h
  exact some_ne (same_upd hp a u e)
/-- a cell is changed -/
theorem Go.put (s : Same Hs H) (hp : Hs p = none) (hm : p ∈ M) : Go M Hs H Hs (upd H p o) := by
  refine ⟨Same.refl _, same_cell s hp, fun a h1 h2 => absurd h2 h1, fun a u h1 h => ?_, fun a h => ?_⟩
  · rw [upd_ne (fun z => h1 (by rw [z]; exact hm))]
    exact h
  · by_cases e : a = p
    · rw [e, upd_same]
      exact fun z => nomatch z
    · rw [upd_ne e]
      exact h
/-- a cell that changes no more -/
theorem Go.freeze (s : Same Hs H) (h : H p = some o) (hp : Hs p = none) : Same (upd Hs p o) H := fun b x e => by
  by_cases hb : b = p
  · rw [hb, upd_same] at e
    rw [hb, ← e]
    exact h
  · rw [upd_ne hb] at e
    exact s b x e
theorem Go.frozen (g : Go M Hs H Hs' H') (h : H' p = some o) (h0 : H p = none) (hp : Hs' p = none) : Go M Hs H (upd Hs' p o) H' := by
  refine ⟨g.p.trans (same_upd hp), Go.freeze g.sub h hp, fun a h1 h2 => ?_, g.keep, g.there⟩
  by_cases e : a = p
  · rw [e]
    exact h0
  · rw [upd_ne e] at h1
    exact g.new a h1 h2
/-- behind a step a cell is none of what stands -/
theorem Go.off (c : Go N Hs H Hs' H') (h : H p = some o) (hs : Hs p = none) : Hs' p = none := by
  cases e : Hs' p with
  | none => rfl
  | some u =>
    have := c.new p (some_ne e) hs
    rw [h] at this
    cases this
theorem Go.fresh (c : Go N Hs H Hs' H') (h : H' p = none) : H p = none := by
  cases e : H p with
  | none => rfl
  | some u => exact absurd h (c.there p (some_ne e))
end
/-- a step seen from a def's entry -/
structure Gone (M : List Addr) (Hs H Hs' H' : Hp) : Prop where
  g : Go M Hs H Hs' H'
section
variable {M N : List Addr} {Hs H Hs' H' Hs2 H2 : Hp} {p : Addr} {o : HO}
theorem Gone.refl (s : Same Hs H) : Gone M Hs H Hs H := ⟨Go.refl s⟩
theorem Gone.call (g : Gone M Hs H Hs' H') (c : Go N Hs' H' Hs2 H2) (hN : ∀ a, a ∈ N → a ∈ M ∨ H a = none) : Gone M Hs H Hs2 H2 := ⟨g.g.call c hN⟩
theorem Gone.trans (g : Gone M Hs H Hs' H') (c : Go M Hs' H' Hs2 H2) : Gone M Hs H Hs2 H2 := ⟨g.g.trans c⟩
theorem Gone.pure (g : Gone M Hs H Hs' H') (c : Go [] Hs' H' Hs2 H2) : Gone M Hs H Hs2 H2 := ⟨g.g.pure c⟩
theorem Gone.put (g : Gone M Hs H Hs' H') (hs : Hs' p = none) (hm : p ∈ M ∨ H p = none) : Gone M Hs H Hs' (upd H' p o) :=
  g.call (N := [p]) (Go.put g.g.sub hs (List.mem_singleton.mpr rfl)) fun a ha => by rw [List.mem_singleton.mp ha]; exact hm
theorem Gone.frozen (g : Gone M Hs H Hs' H') (h : H' p = some o) (h0 : H p = none) (hp : Hs' p = none) : Gone M Hs H (upd Hs' p o) H' := ⟨g.g.frozen h h0 hp⟩
end

/-! ### what stays -/
section
variable {K : PySem.W.Frag} {H H' : Hp} {a : Addr} {xs : List V}
theorem Same.sqt (e : Same H H') (h : SqT K H a xs) : SqT K H' a xs := by
  rcases h with (h | ⟨o, h⟩) | h
  · exact .inl (.inl (e _ _ h))
  · exact .inl (.inr ⟨o, e _ _ h⟩)
  · exact .inr h
mutual
theorem Same.dp (e : Same H H') : ∀ {v : V} {d : PyData}, Dp K H v d → Dp K H' v d
  | _, _, .non => .non
  | _, _, .bl b => .bl b
  | _, _, .int i => .int i
  | _, _, .str x => .str x
  | _, _, .lst h r => .lst (e.seq h) (Same.dps e r)
  | _, _, .tup h r => .tup (e.sqt h) (Same.dps e r)
theorem Same.dps (e : Same H H') : ∀ {vs : List V} {ds : List PyData}, DpAll K H vs ds → DpAll K H' vs ds
  | _, _, .nil => .nil
  | _, _, .cons h r => .cons (Same.dp e h) (Same.dps e r)
end
end

/-! ### readings, step by step -/
section
variable {σ : St} {H Hs : Hp} {Q : VK} {v x y : V} {i : Nat} {K : PySem.W.Frag} {ta tb tc te : TE} {tt tu : TT} {t u : TS} {D : Ends} {ar : TA} {g : TG} {gs : TGs}
theorem x_var (h : σ[i]? = some (some v)) (q : Q v H) : tVar i σ H Q := ⟨v, h, q⟩
theorem x_c (q : Q v H) : tC v σ H Q := q
theorem x_op {r : R2} (q : ta σ H fun x H1 => tb σ H1 fun y H2 => r x y H2 Q) : tOp r ta tb σ H Q := q
theorem x_un {r : V → Hp → VK → Prop} (q : ta σ H fun x H1 => r x H1 Q) : tUn r ta σ H Q := q
theorem x_seq (q : t { D with nx := u D } σ H) : tSeq t u D σ H := q
theorem x_asg (q : te σ H fun x H1 => g x σ H1 D.nx) : tAsg te g D σ H := q
theorem x_name {Qs : St → Hp → Prop} (q : Qs (σ.set i (some v)) H) : gName i v σ H Qs := q
theorem x_ret (q : te σ H D.rt) : tRet te D σ H := q
theorem x_drop (q : te σ H fun _ H1 => D.nx σ H1) : tDrop te D σ H := q
theorem x_next (q : D.nx σ H) : tNext D σ H := q
theorem x_ifs (q : tt σ H fun b H1 => if b = true then t D σ H1 else u D σ H1) : tIfS tt t u D σ H := q
theorem x_test {Qb : Bool → Hp → Prop} (q : te σ H fun x H' => ∃ k, x = .bl k ∧ Qb k H') : tTest te σ H Qb := q
theorem x_tB {Qb : Bool → Hp → Prop} (q : te σ H fun x H' => ∃ k, x = .bl k ∧ Qb k H') : tB te σ H Qb := q
theorem x_bl {b : Bool} {P : Bool → Prop} (q : P b) : ∃ k, V.bl b = .bl k ∧ P k := ⟨b, rfl, q⟩
theorem x_nil {Qa : List V → Hp → Prop} (q : Qa [] H) : tNil σ H Qa := q
theorem x_cons {Qa : List V → Hp → Prop} (q : ta σ H fun x H1 => ar σ H1 fun xs H2 => Qa (x :: xs) H2) : tCons ta ar σ H Qa := q
theorem x_cb {r : List V → Hp → VK → Prop} (q : ar σ H fun vs H1 => r vs H1 Q) : tCB r ar σ H Q := q
theorem x_not {Qb : Bool → Hp → Prop} (q : tt σ H fun c H1 => Qb (!c) H1) : tNot tt σ H Qb := q
theorem x_and {Qb : Bool → Hp → Prop} (q : tt σ H fun c H1 => if c = true then tu σ H1 Qb else Qb false H1) : tAnd tt tu σ H Qb := q
theorem x_or {Qb : Bool → Hp → Prop} (q : tt σ H fun c H1 => if c = true then Qb true H1 else tu σ H1 Qb) : tOr tt tu σ H Qb := q
theorem x_andV (q : ta σ H fun x H1 => ∃ c, x = .bl c ∧ if c = true then tb σ H1 Q else Q (.bl false) H1) : tAndV ta tb σ H Q := q
theorem x_orV (q : ta σ H fun x H1 => ∃ c, x = .bl c ∧ if c = true then Q (.bl true) H1 else tb σ H1 Q) : tOrV ta tb σ H Q := q
theorem x_notV (q : ta σ H fun x H1 => ∃ c, x = .bl c ∧ Q (.bl (!c)) H1) : tNotV ta σ H Q := q
theorem x_if (q : tt σ H fun c H1 => if c = true then ta σ H1 Q else tb σ H1 Q) : tIf tt ta tb σ H Q := q
theorem x_chain {r r' : R2} (q : ta σ H fun x H1 => tb σ H1 fun y H2 => r x y H2 fun z H3 => ∃ k, z = .bl k ∧ (if k = true then tc σ H3 fun w' H4 => r' y w' H4 Q else Q (.bl false) H3)) : tChain r r' ta tb tc σ H Q := q
theorem x_I0 {f : Int → Int → V} {i j : Int} (q : Q (f i j) H) : rI0 f (.int i) (.int j) H Q := ⟨i, j, rfl, rfl, q⟩
theorem x_I {C : Int → Int → Prop} {f : Int → Int → V} {i j : Int} (c : C i j) (q : Q (f i j) H) : rI C f (.int i) (.int j) H Q := ⟨i, j, rfl, rfl, c, q⟩
theorem x_U {f : Int → V} {i : Int} (q : Q (f i) H) : rU f (.int i) H Q := ⟨i, rfl, q⟩
theorem x_eq (h : scal x y = true) (q : Q (.bl (decide (x = y))) H) : rEq x y H Q := ⟨h, q⟩
theorem x_ne (h : scal x y = true) (q : Q (.bl (!decide (x = y))) H) : rNe x y H Q := ⟨h, q⟩
theorem x_ixL {a : Addr} {xs : List V} {i : Int} (h : SqL K H a xs) (e : atI xs i = some v) (q : Q v H) : rIxL K (.ref a) (.int i) H Q := ⟨a, xs, i, v, rfl, rfl, h, e, q⟩
theorem x_ixT {a : Addr} {xs : List V} {i : Int} (h : SqT K H a xs) (e : atI xs i = some v) (q : Q v H) : rIxT K (.ref a) (.int i) H Q := ⟨a, xs, i, v, rfl, rfl, h, e, q⟩
theorem x_ixS {z : Str} {i : Int} {c : Nat} (h : z.length ≤ sizeLine) (e : atI z.cps.toList i = some c) (q : Q (.str ⟨#[c]⟩) H) : rIxS (.str z) (.int i) H Q := ⟨z, i, c, rfl, rfl, h, e, q⟩
theorem x_addS {z w : Str} (h : z.length + w.length ≤ sizeLine) (q : Q (.str (z ++ w)) H) : zAddS (.str z) (.str w) H Q := ⟨z, w, rfl, rfl, h, q⟩
theorem x_tupA (q : ar σ H fun xs H1 => xs.length ≤ sizeLine ∧ ∀ p, H1 p = none → Q (.ref p) (upd H1 p (.tup xs))) : tTup ar σ H Q := q
theorem x_lstA (q : ar σ H fun xs H1 => xs.length ≤ sizeLine ∧ ∀ p, H1 p = none → Q (.ref p) (upd H1 p (.lst xs))) : tLst ar σ H Q := q
theorem x_bm {T : String} {r : V → List V → Hp → VK → Prop} (q : ta σ H fun x H1 => tyV K T x H1 ∧ ar σ H1 fun xs H2 => r x xs H2 Q) : tBM K T r ta ar σ H Q := q
theorem x_call {sp : Sp} {dvs : List V} {E : XK} (q : ar σ H fun vs H1 => sp (vs ++ dvs) H1 Q E) : tCall sp dvs E ar σ H Q := q
theorem x_callK {sp : Sp} {gV : List V → List V → List V} {E : XK} {ak : TA} (q : ar σ H fun vs H1 => ak σ H1 fun zs H2 => sp (gV vs zs) H2 Q E) : tCallK sp gV E ar ak σ H Q := q
theorem x_m1 {r : V → List V → Hp → VK → Prop} (q : ta σ H fun x H1 => (∃ a, x = .str a) ∧ te σ H1 fun y H2 => r x [y] H2 Q) : tM1 r ta te σ H Q := q
theorem x_isstr {z : Str} {P : Prop} (q : P) : (∃ a, V.str z = .str a) ∧ P := ⟨⟨z, rfl⟩, q⟩
theorem x_sub {ts : TSet} {Qs : St → Hp → Prop} (q : ta σ H fun o H1 => tb σ H1 fun i H2 => ts o i v H2 fun H3 => Qs σ H3) : gSub ta tb ts v σ H Qs := q
theorem x_setL {a : Addr} {xs : List V} {k : Int} {j : Nat} {Qh : Hp → Prop} (h : H a = some (.lst xs)) (e : ixN xs.length k = some j) (q : Qh (upd H a (.lst (xs.set j v)))) : rSetL (.ref a) (.int k) v H Qh := ⟨a, xs, k, j, rfl, rfl, h, e, q⟩
end

/-! ### the box of draws: [digits, seed, how many] -/
def BoxAt (H : Hp) (b : Addr) (k : Nat) : Prop := ∃ x y z : Int, H b = some (.lst [.int x, .int y, .int z]) ∧ 0 ≤ x ∧ 0 ≤ y ∧ y < 4611686018427387904 ∧ 0 ≤ z ∧ z + k ≤ 1099511627776
theorem BoxAt.some {H : Hp} {b : Addr} {k : Nat} (h : BoxAt H b k) : ∃ o, H b = some o := let ⟨_, _, _, e, _⟩ := h; ⟨_, e⟩
theorem BoxAt.mono {H : Hp} {b : Addr} {k j : Nat} (h : BoxAt H b k) (l : j ≤ k) : BoxAt H b j := let ⟨x, y, z, e, a, b, c, d, f⟩ := h; ⟨x, y, z, e, a, b, c, d, by omega⟩
theorem BoxAt.keep {M : List Addr} {Hs H Hs' H' : Hp} {b : Addr} {k : Nat} (h : BoxAt H b k) (c : Go M Hs H Hs' H') (n : b ∉ M) : BoxAt H' b k := let ⟨x, y, z, e, a, b, cc, d, f⟩ := h; ⟨x, y, z, c.keep _ _ n e, a, b, cc, d, f⟩
theorem BoxAt.off {M : List Addr} {Hs H Hs' H' : Hp} {b : Addr} {k : Nat} (h : BoxAt H b k) (c : Go M Hs H Hs' H') (n : Hs b = none) : Hs' b = none := let ⟨_, _, _, e, _⟩ := h; c.off e n
end L2

/-! ### what the common promises speak of -/
namespace L2
open PySem PySem.Spec PyProof.Rows
/-- what is picked from: a list, a tuple, a text's signs -/
def PickV (K : PySem.W.Frag) (Hs : Hp) (y : V) (xs : List V) : Prop :=
  (∃ l, y = .ref l ∧ (SqL K Hs l xs ∨ SqT K Hs l xs)) ∨ ∃ z : Str, y = .str z ∧ z.length ≤ sizeLine ∧ xs = z.cps.toList.map fun c => V.str ⟨#[c]⟩
/-- a NAME, sign by sign -/
def nameL (l : List Nat) : Bool := decide (1 ≤ l.length) && decide (l.length ≤ 8) && l.all fun c => decide (97 ≤ c) && decide (c ≤ 122)
def nameB (z : Str) : Bool := nameL z.cps.toList
/-- a list's pieces between strokes -/
def cutL (s : Nat) : List Nat → List (List Nat)
  | [] => [[]]
  | c :: r => if c = s then [] :: cutL s r else match cutL s r with
    | [] => [[c]]
    | p :: ps => (c :: p) :: ps
def tagL : List Nat := [116, 97, 103]
def pathL (l : List Nat) : Bool := decide ((cutL 47 l).length ≤ 3) && decide ((cutL 47 l).head? ≠ some tagL) && (cutL 47 l).all nameL
def pathB (z : Str) : Bool := pathL z.cps.toList
def nameD : PyData → Bool
  | .str z => nameB z
  | _ => false
def pathD : PyData → Bool
  | .str z => pathB z
  | _ => false
def NamesOk (names : List Str) : Prop := (∀ x ∈ names, nameB x = true) ∧ names.Nodup
/-- no dict, all within the lines -/
def fitD : PyData → Bool
  | .str z => decide (z.length ≤ 100000) && PyData.strOk z
  | .list ds => decide (ds.length ≤ 100000) && fitAll ds
  | .tuple ds => decide (ds.length ≤ 100000) && fitAll ds
  | .dict _ => false
  | _ => true
where fitAll : List PyData → Bool
  | [] => true
  | d :: ds => fitD d && fitAll ds
/-- alike kind by kind -/
def sameD : PyData → PyData → Bool
  | .none, .none => true
  | .bool a, .bool b => decide (a = b)
  | .int a, .int b => decide (a = b)
  | .str a, .str b => decide (a = b)
  | .list as, .list bs => sameAll as bs
  | .tuple as, .tuple bs => sameAll as bs
  | _, _ => false
where sameAll : List PyData → List PyData → Bool
  | [], [] => true
  | a :: as, b :: bs => sameD a b && sameAll as bs
  | _, _ => false
end L2

namespace L2
open PySem PySem.Spec PyProof.Rows
section
variable {σ : St} {H Hs : Hp} {Q : VK} {v x y : V} {i : Nat} {K : PySem.W.Frag} {ta tb tc te : TE} {tt tu : TT} {t u : TS} {D : Ends} {ar : TA} {g : TG} {gs : TGs}
theorem x_lenL {a : Addr} {xs : List V} (h : SqL K H a xs) (q : Q (.int xs.length) H) : zLenQ K [.ref a] H Q := ⟨a, xs, rfl, .inl h, q⟩
theorem x_lenT {a : Addr} {xs : List V} (h : SqT K H a xs) (q : Q (.int xs.length) H) : zLenQ K [.ref a] H Q := ⟨a, xs, rfl, .inr h, q⟩
theorem x_lenS {z : Str} (h : z.length ≤ sizeLine) (q : Q (.int z.length) H) : zLenS [.str z] H Q := ⟨z, rfl, h, q⟩
theorem x_abs {i : Int} (q : Q (.int (i.natAbs : Int)) H) : zAbs [.int i] H Q := ⟨i, rfl, by
  have e : (if i < 0 then -i else i) = (i.natAbs : Int) := by split <;> omega
  rw [e]
  exact q⟩
theorem x_int1b {b : Bool} (q : Q (.int (if b then 1 else 0)) H) : zInt1 [.bl b] H Q := .inr ⟨b, rfl, q⟩
theorem x_all {a : Addr} {bs : List Bool} (h : SqL K H a (bs.map V.bl)) (q : Q (.bl (bs.all id)) H) : rAll K [.ref a] H Q := ⟨a, bs, rfl, h, q⟩
theorem x_append {a : Addr} {xs : List V} (h : H a = some (.lst xs)) (l : xs.length < sizeLine) (q : Q .non (upd H a (.lst (xs ++ [v])))) : rAppend (.ref a) [v] H Q := ⟨a, xs, v, rfl, rfl, h, l, q⟩
theorem x_tyL {a : Addr} {xs : List V} {P : Prop} (h : SqL K H a xs) (q : P) : tyV K "list" (.ref a) H ∧ P := ⟨.inl ⟨rfl, _, h⟩, q⟩
theorem x_slL {a : Addr} {xs : List V} {lo hi : Option Int} (h : SqL K H a xs) (q : ∀ p, H p = none → Q (.ref p) (upd H p (.lst (cutV xs lo hi)))) : rSlL K (.ref a) lo hi H Q := ⟨a, xs, rfl, h, q⟩
theorem x_slS {z : Str} {lo hi : Option Int} (h : z.length ≤ sizeLine) (q : Q (.str (cutS z lo hi)) H) : rSlS (.str z) lo hi H Q := ⟨z, rfl, h, q⟩
theorem x_sl {r : V → Option Int → Option Int → Hp → VK → Prop} {tl th : TO} (q : te σ H fun x H1 => tl σ H1 fun lo H2 => th σ H2 fun hi H3 => r x lo hi H3 Q) : tSl r te tl th σ H Q := q
theorem x_nopart {Qo : Option Int → Hp → Prop} (q : Qo none H) : tNoPart σ H Qo := q
theorem x_part {Qo : Option Int → Hp → Prop} (q : te σ H fun x H1 => ∃ i, x = .int i ∧ Qo (some i) H1) : tPart te σ H Qo := q
theorem x_isint {i : Int} {P : Int → Prop} (q : P i) : ∃ j, V.int i = .int j ∧ P j := ⟨i, rfl, q⟩
theorem x_listOf {a : Addr} {xs : List V} (h : SqL K H a xs) (q : ∀ l, H l = none → Q (.ref l) (upd H l (.lst xs))) : zListOf K [.ref a] H Q := ⟨a, xs, rfl, .inl h, q⟩
theorem x_gcons {t : TG} {u : TGs} {r : List V} {Qs : St → Hp → Prop} (q : t v σ H fun σ' H' => u r σ' H' Qs) : gCons t u (v :: r) σ H Qs := ⟨v, r, rfl, q⟩
theorem x_gnil {Qs : St → Hp → Prop} (q : Qs σ H) : gNil [] σ H Qs := ⟨rfl, q⟩
theorem x_gtup {a : Addr} {xs : List V} {n : Nat} {t : TGs} {Qs : St → Hp → Prop} (h : SqT K H a xs) (l : xs.length = n) (q : t xs σ H Qs) : gTup K n t (.ref a) σ H Qs := ⟨a, xs, rfl, h, l, q⟩
theorem x_addSx {z w : Str} (h : z.length + w.length ≤ sizeLine) (q : Q (.str (z ++ w)) H) : zAddS (.str z) (.str w) H Q := ⟨z, w, rfl, rfl, h, q⟩
theorem x_par {i j : Nat} {v w : V} (q : D.nx ((σ.set i (some v)).set j (some w)) H) : ∃ v' w', [v, w] = [v', w'] ∧ D.nx ((σ.set i (some v')).set j (some w')) H := ⟨v, w, rfl, q⟩
theorem x_tpar {i j : Nat} (q : ar σ H fun vs H1 => ∃ v w, vs = [v, w] ∧ D.nx ((σ.set i (some v)).set j (some w)) H1) : tPar i j ar D σ H := q
theorem x_for {wi : TI} {tb : TS} (q : wi σ H fun J H1 => ∃ W : Nat → Nat → St → Hp → Prop, (∃ m, W 0 m σ H1) ∧ ∀ i m σ H, W i m σ H →
  (J.stop i H ∧ D.nx σ H) ∨ (J.go i H ∧ ∃ N : St → Hp → Prop, (∀ σ' H', N σ' H' → ∃ m', m' < m ∧ W (i + 1) m' σ' H') ∧ ∀ x H', J.yld i H x H' → g x σ H' fun σ2 H2 => tb { D with nx := N, ct := N, bk := D.nx } σ2 H2)) : tFor wi g tb D σ H := q
theorem x_rng1 {ta : TA} {R : It → Hp → Prop} (q : ta σ H fun vs H1 => ∃ j : Int, vs = [.int j] ∧ -(2 ^ 62) ≤ j ∧ j < 2 ^ 62 ∧ R (Itr 0 j.toNat) H1) : iRng1 ta σ H R := q
theorem x_rng1v {j : Int} {P : Int → Prop} (h1 : -(2 ^ 62) ≤ j) (h2 : j < 2 ^ 62) (q : P j) : ∃ i : Int, [V.int j] = [.int i] ∧ -(2 ^ 62) ≤ i ∧ i < 2 ^ 62 ∧ P i := ⟨j, rfl, h1, h2, q⟩
theorem x_istr {R : It → Hp → Prop} (q : te σ H fun v H1 => ∃ x, v = .str x ∧ R (Its x) H1) : iStr te σ H R := q
theorem x_strv {z : Str} {P : Str → Prop} (q : P z) : ∃ x, V.str z = .str x ∧ P x := ⟨z, rfl, q⟩
theorem x_ilist {tl : TE} {R : It → Hp → Prop} (q : tl σ H fun x H1 => ∃ a, x = .ref a ∧ (∃ xs, SqL K H1 a xs) ∧ R (Itl K a) H1) : iList K tl σ H R := q
theorem x_ilistv {a : Addr} {xs : List V} {P : Addr → Prop} (h : SqL K H a xs) (q : P a) : ∃ b, V.ref a = .ref b ∧ (∃ xs, SqL K H b xs) ∧ P b := ⟨a, rfl, ⟨xs, h⟩, q⟩
theorem x_ienum {ta : TA} {R : It → Hp → Prop} (q : ta σ H fun vs H1 => ∃ a xs, vs = [.ref a] ∧ SqL K H1 a xs ∧ R (Ite K a) H1) : iEnum K ta σ H R := q
theorem x_ienumv {a : Addr} {xs : List V} {P : Addr → Prop} (h : SqL K H a xs) (q : P a) : ∃ b xs, [V.ref a] = [.ref b] ∧ SqL K H b xs ∧ P b := ⟨a, xs, rfl, h, q⟩
/-- for over enumerate(a list that stands): the pair is new and forgotten -/
theorem for_enum {a : Addr} {xs : List V} (Pv : Nat → St → Hp → Prop) (h0 : Pv 0 σ H) (hl : ∀ i σ H, i ≤ xs.length → Pv i σ H → SqL K H a xs)
    (hs : ∀ (i : Nat) x σ H T, xs[i]? = some x → Pv i σ H → H T = none → g (.ref T) σ (upd H T (.tup [.int (i : Nat), x])) fun σ2 H2 => t { D with nx := Pv (i + 1), ct := Pv (i + 1), bk := D.nx } σ2 H2) (hd : ∀ σ H, Pv xs.length σ H → D.nx σ H) :
    ∃ W : Nat → Nat → St → Hp → Prop, (∃ m, W 0 m σ H) ∧ ∀ i m σ H, W i m σ H →
      ((Ite K a).stop i H ∧ D.nx σ H) ∨ ((Ite K a).go i H ∧ ∃ N : St → Hp → Prop, (∀ σ' H', N σ' H' → ∃ m', m' < m ∧ W (i + 1) m' σ' H') ∧ ∀ x H', (Ite K a).yld i H x H' → g x σ H' fun σ2 H2 => t { D with nx := N, ct := N, bk := D.nx } σ2 H2) := by
  refine ⟨fun i m σ H => m = xs.length - i ∧ i ≤ xs.length ∧ Pv i σ H, ⟨xs.length, by simp, Nat.zero_le _, h0⟩, ?_⟩
  rintro i m σ H ⟨rfl, hi, p⟩
  have q := hl i σ H hi p
  by_cases hlt : i < xs.length
  · refine .inr ⟨⟨xs, xs[i], q, by simp [hlt]⟩, Pv (i + 1), fun σ' H' p' => ⟨xs.length - (i + 1), by omega, rfl, hlt, p'⟩, fun x H' y => ?_⟩
    obtain ⟨T, z, rfl, hT, rfl, f⟩ := y
    have e := f _ q
    exact hs i z σ H T e p hT
  · have e : i = xs.length := by omega
    subst e
    exact .inl ⟨⟨xs, q, Nat.le_refl _⟩, hd σ H p⟩
/-- for over a text's signs -/
theorem for_str {z : Str} (Pv : Nat → St → Hp → Prop) (h0 : Pv 0 σ H)
    (hs : ∀ (i : Nat) c σ H, z.cps.toList[i]? = some c → Pv i σ H → g (.str ⟨#[c]⟩) σ H fun σ2 H2 => t { D with nx := Pv (i + 1), ct := Pv (i + 1), bk := D.nx } σ2 H2) (hd : ∀ σ H, Pv z.cps.toList.length σ H → D.nx σ H) :
    ∃ W : Nat → Nat → St → Hp → Prop, (∃ m, W 0 m σ H) ∧ ∀ i m σ H, W i m σ H →
      ((Its z).stop i H ∧ D.nx σ H) ∨ ((Its z).go i H ∧ ∃ N : St → Hp → Prop, (∀ σ' H', N σ' H' → ∃ m', m' < m ∧ W (i + 1) m' σ' H') ∧ ∀ x H', (Its z).yld i H x H' → g x σ H' fun σ2 H2 => t { D with nx := N, ct := N, bk := D.nx } σ2 H2) := by
  have el : z.cps.toList.length = z.cps.size := by simp
  refine ⟨fun i m σ H => m = z.cps.size - i ∧ i ≤ z.cps.size ∧ Pv i σ H, ⟨z.cps.size, by simp, Nat.zero_le _, h0⟩, ?_⟩
  rintro i m σ H ⟨rfl, hi, p⟩
  by_cases hlt : i < z.cps.size
  · refine .inr ⟨hlt, Pv (i + 1), fun σ' H' p' => ⟨z.cps.size - (i + 1), by omega, rfl, hlt, p'⟩, fun x H' y => ?_⟩
    obtain ⟨e, c, hc, rfl⟩ := y
    subst e
    exact hs i c σ H' (by simpa using hc) p
  · have e : i = z.cps.size := by omega
    subst e
    exact .inl ⟨Nat.le_refl _, hd σ H (by rw [el]; exact p)⟩
end
end L2

namespace L2
open PySem PySem.Spec PyProof.Rows
theorem wide_pos {j : Int} (h : 0 < j) (h2 : j < 4611686018427387904) {i : Int} : CDivW i j := ⟨h, (wide_div (i := i) (b := 62) h (by omega) (by decide) (by decide)).2⟩
theorem mulx_small {i j : Int} (h1 : i.natAbs < 18446744073709551616) (h2 : j.natAbs < 18446744073709551616) : CMulX i j := mulx_ok (a := 64) (b := 64) h1 h2 (by decide)
end L2

namespace L2
open PySem PySem.Spec PyProof.Rows
section
variable {Hs H : Hp} {p : Addr} {o : HO} {α β γ : Type} {a : α} {b : β} {c : γ}
/-- a new object that stands for ever -/
theorem x_new2 {F : α → Hp → Prop} (s : Same Hs H) (hp : H p = none) (q : ∀ Hs1 H1, Go [] Hs H Hs1 H1 → Hs1 p = some o → F a H1) : F a (upd H p o) := q _ _ (Go.laid s hp) upd_same
theorem x_new3 {F : α → Hp → β → Prop} (s : Same Hs H) (hp : H p = none) (q : ∀ Hs1 H1, Go [] Hs H Hs1 H1 → Hs1 p = some o → F a H1 b) : F a (upd H p o) b := q _ _ (Go.laid s hp) upd_same
theorem x_new4 {F : α → Hp → β → γ → Prop} (s : Same Hs H) (hp : H p = none) (q : ∀ Hs1 H1, Go [] Hs H Hs1 H1 → Hs1 p = some o → F a H1 b c) : F a (upd H p o) b c := q _ _ (Go.laid s hp) upd_same
/-- a new object that will change -/
theorem x_cell2 {F : α → Hp → Prop} (s : Same Hs H) (hp : H p = none) (q : ∀ H1, Go [] Hs H Hs H1 → Hs p = none → H1 p = some o → F a H1) : F a (upd H p o) := q _ (Go.cell s hp) (none_sub s hp) upd_same
theorem x_cell3 {F : α → Hp → β → Prop} (s : Same Hs H) (hp : H p = none) (q : ∀ H1, Go [] Hs H Hs H1 → Hs p = none → H1 p = some o → F a H1 b) : F a (upd H p o) b := q _ (Go.cell s hp) (none_sub s hp) upd_same
theorem x_cell4 {F : α → Hp → β → γ → Prop} (s : Same Hs H) (hp : H p = none) (q : ∀ H1, Go [] Hs H Hs H1 → Hs p = none → H1 p = some o → F a H1 b c) : F a (upd H p o) b c := q _ (Go.cell s hp) (none_sub s hp) upd_same
/-- a cell is changed -/
theorem x_put2 {F : α → Hp → Prop} (s : Same Hs H) (hs : Hs p = none) (q : ∀ H1, Go [p] Hs H Hs H1 → H1 p = some o → F a H1) : F a (upd H p o) := q _ (Go.put s hs (List.mem_singleton.mpr rfl)) upd_same
theorem x_put3 {F : α → Hp → β → Prop} (s : Same Hs H) (hs : Hs p = none) (q : ∀ H1, Go [p] Hs H Hs H1 → H1 p = some o → F a H1 b) : F a (upd H p o) b := q _ (Go.put s hs (List.mem_singleton.mpr rfl)) upd_same
end
end L2

namespace L2
open PySem PySem.Spec PyProof.Rows
section
variable {σ : St} {H Hs : Hp} {Q : VK} {v x y : V} {i : Nat} {K : PySem.W.Frag} {ta tb tc te : TE} {tt tu : TT} {t u : TS} {D : Ends} {ar : TA} {g : TG} {gs : TGs}
theorem x_lc {wi : TI} {vs : List Nat} (q : wi σ H fun J H1 => ∀ D, H1 D = none → ∃ W : Nat → Nat → Hp → Prop, (∃ m, W 0 m (upd H1 D (.lst []))) ∧ ∀ i m H, W i m H →
  (J.stop i H ∧ Q (.ref D) H) ∨ (J.go i H ∧ ∃ Nx : Hp → Prop, (∀ H', Nx H' → ∃ m', m' < m ∧ W (i + 1) m' H') ∧ ∀ x H', J.yld i H x H' → g x (wipe σ vs) H' fun σ2 H2 => wipe σ2 vs = wipe σ vs ∧ tt σ2 H2 fun b H3 =>
    if b = true then te σ2 H3 fun y H4 => ∃ acc, H4 D = some (.lst acc) ∧ acc.length < sizeLine ∧ Nx (upd H4 D (.lst (acc ++ [y]))) else Nx H3)) : tLc wi g tt te vs σ H Q := q
theorem x_yes {Qb : Bool → Hp → Prop} (q : Qb true H) : tYes σ H Qb := q
theorem x_cut (M : St → Hp → Prop) (h : t { D with nx := M } σ H) (k : ∀ σ' H', M σ' H' → u D σ' H') : C8.tCut t u D σ H := ⟨M, h, k⟩
theorem x_joinL {a : Str} {p : Addr} {ys : List Str} (h : SqL K H p (ys.map V.str)) (l : (ys.map (·.length)).sum + ys.length * a.length ≤ 16777216) (q : Q (.str (Txt.join a ys)) H) : zJoin K (.str a) [.ref p] H Q := ⟨a, p, ys, rfl, rfl, .inl h, l, q⟩
theorem x_split {a b : Str} (h1 : (b.length == 0) = false) (h2 : a.length + 2 ≤ sizeLine) (q : ∀ p, H p = none → Q (.ref p) (upd H p (.lst ((Txt.split a b).map V.str)))) : zSplit (.str a) [.str b] H Q := ⟨a, b, rfl, rfl, h1, h2, q⟩
theorem x_inL {neg : Bool} {p : Addr} {xs : List V} (h : SqL K H p xs) (h1 : flatV v = true) (h2 : xs.all flatV = true) (q : Q (.bl (if neg then !inV v xs else inV v xs)) H) : rIn K neg v (.ref p) H Q := ⟨p, xs, rfl, .inl h, h1, h2, q⟩
theorem x_inT {neg : Bool} {p : Addr} {xs : List V} (h : SqT K H p xs) (h1 : flatV v = true) (h2 : xs.all flatV = true) (q : Q (.bl (if neg then !inV v xs else inV v xs)) H) : rIn K neg v (.ref p) H Q := ⟨p, xs, rfl, .inr h, h1, h2, q⟩
/-- a comprehension over a text's signs -/
theorem lc_str {Qd : Hp → Prop} {z : Str} {vs : List Nat} {Dl : Addr} {te : TE} (Pv : Nat → Hp → Prop) (h0 : Pv 0 (upd H Dl (.lst [])))
    (hs : ∀ (i : Nat) (c : Nat) H', z.cps.toList[i]? = some c → Pv i H' → g (.str ⟨#[c]⟩) (wipe σ vs) H' fun σ2 H2 => wipe σ2 vs = wipe σ vs ∧ tt σ2 H2 fun b H3 =>
      if b = true then te σ2 H3 fun y H4 => ∃ acc, H4 Dl = some (.lst acc) ∧ acc.length < sizeLine ∧ Pv (i + 1) (upd H4 Dl (.lst (acc ++ [y]))) else Pv (i + 1) H3)
    (hd : ∀ H', Pv z.cps.toList.length H' → Qd H') :
    ∃ W : Nat → Nat → Hp → Prop, (∃ m, W 0 m (upd H Dl (.lst []))) ∧ ∀ i m H, W i m H →
  ((Its z).stop i H ∧ Qd H) ∨ ((Its z).go i H ∧ ∃ Nx : Hp → Prop, (∀ H', Nx H' → ∃ m', m' < m ∧ W (i + 1) m' H') ∧ ∀ x H', (Its z).yld i H x H' → g x (wipe σ vs) H' fun σ2 H2 => wipe σ2 vs = wipe σ vs ∧ tt σ2 H2 fun b H3 =>
    if b = true then te σ2 H3 fun y H4 => ∃ acc, H4 Dl = some (.lst acc) ∧ acc.length < sizeLine ∧ Nx (upd H4 Dl (.lst (acc ++ [y]))) else Nx H3) := by
  have el : z.cps.toList.length = z.cps.size := by simp
  refine ⟨fun i m H => m = z.cps.size - i ∧ i ≤ z.cps.size ∧ Pv i H, ⟨z.cps.size, by simp, Nat.zero_le _, h0⟩, ?_⟩
  rintro i m H ⟨rfl, hi, p⟩
  by_cases hlt : i < z.cps.size
  · refine .inr ⟨hlt, Pv (i + 1), fun H' p' => ⟨z.cps.size - (i + 1), by omega, rfl, hlt, p'⟩, fun x H' y => ?_⟩
    obtain ⟨e, c, hc, rfl⟩ := y
    subst e
    exact hs i c H' (by simpa using hc) p
  · have e : i = z.cps.size := by omega
    subst e
    exact .inl ⟨Nat.le_refl _, hd H (by rw [el]; exact p)⟩
end
theorem flat_strs (ys : List Str) : (ys.map V.str).all flatV = true := by
  rw [List.all_eq_true]
  intro x hx
  obtain ⟨y, _, rfl⟩ := List.mem_map.mp hx
  rfl
theorem inV_strs (x : Str) (ys : List Str) : inV (.str x) (ys.map V.str) = decide (x ∈ ys) := by
  unfold inV
  induction ys with
  | nil => rfl
  | cons y r ih =>
    rw [List.map_cons, List.any_cons, ih]
    have e : eqV (.str y) (.str x) = (y == x) := rfl
    rw [e, Bool.beq_eq_decide_eq]
    by_cases h : x = y
    · subst h; simp
    · have h2 : ¬ y = x := fun z => h z.symm
      simp [h, h2]
end L2

/-! plain laws: names, cuts, the words of texts -/
namespace L2
open PySem PySem.Spec PyProof.Rows TL

/-! ### cuts -/
theorem cut_ne (s : Nat) : ∀ l : List Nat, cutL s l ≠ []
  | [] => by simp [cutL]
  | c :: r => by
    unfold cutL
    split
    · simp
    · split <;> simp
theorem spl_cut (s : Nat) : ∀ (l acc : List Nat), ∃ p ps, cutL s l = p :: ps ∧ spl [s] 0 acc l = (acc ++ p) :: ps
  | [], acc => ⟨[], [], rfl, by rw [spl_nil, List.append_nil]⟩
  | c :: r, acc => by
    by_cases h : c = s
    · subst h
      obtain ⟨p, ps, e1, e2⟩ := spl_cut c r []
      refine ⟨[], p :: ps, ?_, ?_⟩
      · unfold cutL
        rw [if_pos rfl, e1]
      · rw [spl_hit (by unfold pre; simp)]
        show acc :: spl [c] 0 [] r = _
        rw [e2, List.append_nil, List.nil_append]
    · obtain ⟨p, ps, e1, e2⟩ := spl_cut s r (acc ++ [c])
      refine ⟨c :: p, ps, ?_, ?_⟩
      · show (if c = s then [] :: cutL s r else match cutL s r with
          | [] => [[c]]
          | p :: ps => (c :: p) :: ps) = _
        rw [if_neg h, e1]
      · rw [spl_miss (pre_of_head [] r h), e2, List.append_assoc]
        rfl
theorem spl_is_cut (s : Nat) (l : List Nat) : spl [s] 0 [] l = cutL s l := by
  obtain ⟨p, ps, e1, e2⟩ := spl_cut s l []
  rw [e1, e2, List.nil_append]
theorem split_cut (x : Str) {y : Str} {s : Nat} (hy : tl y = [s]) (hs : s < 256) : (Txt.split x y).map tl = cutL s (tl x) := by
  have hk : y.cps.all (· < 256) = true := by
    rw [← Array.all_toList]
    show (tl y).all _ = true
    rw [hy]
    simp [hs]
  rw [split_spl x y (by rw [hy]; simp) (kind_ok hk), hy, spl_is_cut]
theorem cut_len (s : Nat) : ∀ l : List Nat, (cutL s l).length ≤ l.length + 1
  | [] => by simp [cutL]
  | c :: r => by
    have ih := cut_len s r
    unfold cutL
    split
    · simp; omega
    · split
      · simp
      · rename_i p ps e
        rw [e] at ih
        simp at ih ⊢
        omega
theorem cut_part_len (s : Nat) : ∀ (l p : List Nat), p ∈ cutL s l → p.length ≤ l.length
  | [], p, h => by simp [cutL] at h; rw [h]; simp
  | c :: r, p, h => by
    have ih := cut_part_len s r
    unfold cutL at h
    split at h
    · rcases List.mem_cons.mp h with e | h
      · rw [e]; simp
      · have := ih p h
        simp; omega
    · split at h
      · rw [List.mem_singleton.mp h]; simp
      · rename_i q qs e
        rw [e] at ih
        rcases List.mem_cons.mp h with e2 | h
        · have := ih q (List.mem_cons_self ..)
          rw [e2]; simp; omega
        · have := ih p (List.mem_cons_of_mem _ h)
          simp; omega
/-! ### one sign -/
theorem tl_one (c : Nat) : tl (⟨#[c]⟩ : Str) = [c] := rfl
theorem len_one (c : Nat) : (⟨#[c]⟩ : Str).length = 1 := rfl
/-- signs joined by nothing -/
theorem joinL_nil : ∀ ps : List (List Nat), joinL [] ps = ps.flatten
  | [] => rfl
  | [p] => by simp [joinL]
  | p :: q :: r => by
    show p ++ ([] ++ joinL [] (q :: r)) = _
    rw [joinL_nil (q :: r)]
    simp
theorem join_none (ys : List Str) : tl (Txt.join "" ys) = (ys.map tl).flatten := by
  rw [join_eq, tl_join]
  have : tl ("" : Str) = [] := by decide +kernel
  rw [this, joinL_nil]
theorem join_signs (cs : List Nat) : tl (Txt.join "" (cs.map fun c => ⟨#[c]⟩)) = cs := by
  rw [join_none, List.map_map]
  induction cs with
  | nil => rfl
  | cons c r ih =>
    rw [List.map_cons, List.flatten_cons, ih]
    rfl
/-! ### a name of a list that has none of its ends -/
theorem nodup_le {α : Type} [DecidableEq α] : ∀ (l m : List α), l.Nodup → (∀ x ∈ l, x ∈ m) → l.length ≤ m.length
  | [], m, _, _ => Nat.zero_le _
  | a :: l, m, h, hs => by
    have ha : a ∈ m := hs a (List.mem_cons_self ..)
    have hn := List.nodup_cons.mp h
    have ih := nodup_le l (m.erase a) hn.2 fun x hx => (List.mem_erase_of_ne (fun z => hn.1 (by rw [← z]; exact hx))).mpr (hs x (List.mem_cons_of_mem _ hx))
    rw [List.length_erase_of_mem ha] at ih
    have : 0 < m.length := List.length_pos_of_mem ha
    simp
    omega
def alphaL : List Nat := [97, 98, 99, 100, 101, 102, 103, 104, 105, 106, 107, 108, 109, 110, 111, 112, 113, 114, 115, 116, 117, 118, 119, 120, 121, 122]
theorem tl_alpha : tl ("abcdefghijklmnopqrstuvwxyz" : Str) = alphaL := by decide +kernel
theorem alpha_at : ∀ i : Nat, i < 26 → alphaL[i]? = some (97 + i) := by decide
theorem mem_alpha {c : Nat} : c ∈ alphaL ↔ 97 ≤ c ∧ c ≤ 122 := by
  constructor
  · intro h
    have : ∀ x ∈ alphaL, 97 ≤ x ∧ x ≤ 122 := by decide
    exact this c h
  · intro ⟨h1, h2⟩
    have e := alpha_at (c - 97) (by omega)
    have := List.mem_of_getElem? e
    rw [show 97 + (c - 97) = c by omega] at this
    exact this
theorem name_iff {z : Str} : nameB z = true ↔ 1 ≤ (tl z).length ∧ (tl z).length ≤ 8 ∧ ∀ c ∈ tl z, 97 ≤ c ∧ c ≤ 122 := by
  unfold nameB nameL
  simp only [Bool.and_eq_true, decide_eq_true_eq, List.all_eq_true, and_assoc]
/-- the name behind a turn in which it was taken -/
def bentName (x : Str) (t : Nat) : Str := ⟨((tl x).take 6 ++ [97 + t / 26, 97 + t % 26]).toArray⟩
theorem tl_bent (x : Str) (t : Nat) : tl (bentName x t) = (tl x).take 6 ++ [97 + t / 26, 97 + t % 26] := rfl
theorem bent_ok {x : Str} {t : Nat} (h : nameB x = true) (ht : t ≤ 600) : nameB (bentName x t) = true := by
  rw [name_iff] at h ⊢
  obtain ⟨h1, h2, h3⟩ := h
  rw [tl_bent]
  refine ⟨by simp, by simp; omega, fun c hc => ?_⟩
  rcases List.mem_append.mp hc with hc | hc
  · exact h3 c (List.mem_of_mem_take hc)
  · simp at hc
    rcases hc with rfl | rfl
    · have : t / 26 ≤ 23 := by omega
      omega
    · have : t % 26 < 26 := Nat.mod_lt _ (by decide)
      omega
theorem bent_inj {x y : Str} {s t : Nat} (h : bentName x s = bentName y t) : s = t := by
  have e : tl (bentName x s) = tl (bentName y t) := by rw [h]
  rw [tl_bent, tl_bent] at e
  have e2 := (List.append_inj' e rfl).2
  injection e2 with a b
  injection b with b _
  omega
/-- behind t turns: x is none of them, or t unlike ones of them were gone through -/
def Tried (found : List Str) (t : Nat) (x : Str) : Prop := x ∉ found ∨ ∃ ls : List Str, ls.length = t ∧ ls.Nodup ∧ ∀ y ∈ ls, y ∈ found ∧ ∃ (z : Str) (j : Nat), j < t ∧ y = bentName z j
theorem tried_zero (found : List Str) (x : Str) : Tried found 0 x := .inr ⟨[], rfl, List.nodup_nil, fun _ h => nomatch h⟩
theorem tried_out {found : List Str} {t : Nat} {x : Str} (h : x ∉ found) : Tried found t x := .inl h
theorem tried_next {found : List Str} {t : Nat} {x : Str} (h : Tried found t x) (hx : x ∈ found) : Tried found (t + 1) (bentName x t) := by
  by_cases hb : bentName x t ∈ found
  · rcases h with h | ⟨ls, h1, h2, h3⟩
    · exact absurd hx h
    · refine .inr ⟨bentName x t :: ls, by rw [List.length_cons, h1], List.nodup_cons.mpr ⟨fun hm => ?_, h2⟩, fun y hy => ?_⟩
      · obtain ⟨_, z, j, hj, e⟩ := h3 _ hm
        have := bent_inj e
        omega
      · rcases List.mem_cons.mp hy with rfl | hy
        · exact ⟨hb, x, t, by omega, rfl⟩
        · obtain ⟨a, z, j, hj, e⟩ := h3 y hy
          exact ⟨a, z, j, by omega, e⟩
  · exact .inl hb
theorem tried_end {found : List Str} {x : Str} (h : Tried found (found.length + 1) x) : x ∉ found := by
  rcases h with h | ⟨ls, h1, h2, h3⟩
  · exact h
  · have := nodup_le ls found h2 fun y hy => (h3 y hy).1
    omega
def wordsL : List Str := ["page", "title", "day", "draft", "tags", "under", "old", "in", "use", "pages", "to", "when", "done", "path", "body", "inner", "nowhere", "tag", "none", "make"]
theorem words_split : Txt.split "page title day draft tags under old in use pages to when done path body inner nowhere tag none make" " " = wordsL := by
  refine map_tl_inj ?_
  rw [split_cut (s := 32) _ (by decide +kernel) (by decide)]
  decide +kernel
theorem words_ok : ∀ x ∈ wordsL, nameB x = true := by decide +kernel
end L2
namespace L2
open PySem PySem.Spec PyProof.Rows TL
theorem BoxAt.ne {H : Hp} {b p : Addr} {k : Nat} (h : BoxAt H b k) (n : H p = none) : p ≠ b := by
  obtain ⟨o, e⟩ := h.some
  exact (ne_of_none e n).symm
theorem out1 {p b : Addr} (h : p ≠ b) : p ∉ [b] := by
  rw [List.mem_singleton]
  exact h
theorem sum_ones (cs : List Nat) : ((cs.map fun c => (⟨#[c]⟩ : Str)).map (·.length)).sum = cs.length := by
  induction cs with
  | nil => rfl
  | cons c r ih =>
    rw [List.map_cons, List.map_cons, List.sum_cons, ih, List.length_cons]
    show 1 + r.length = r.length + 1
    omega
theorem take_drop_min {α : Type} (l : List α) (i j : Nat) : (l.drop (min i l.length)).take (min j l.length - min i l.length) = (l.drop i).take (j - i) := by
  rcases Nat.le_total i l.length with h | h
  · rw [Nat.min_eq_left h]
    rcases Nat.le_total j l.length with h2 | h2
    · rw [Nat.min_eq_left h2]
    · rw [Nat.min_eq_right h2, List.take_of_length_le (by rw [List.length_drop]; omega), List.take_of_length_le (by rw [List.length_drop]; omega)]
  · rw [Nat.min_eq_right h, List.drop_length, List.drop_of_length_le h, List.take_nil, List.take_nil]
theorem cutV_lh (xs : List V) (i j : Nat) : cutV xs (some (i : Int)) (some (j : Int)) = (xs.drop i).take (j - i) := by
  unfold cutV
  rw [HT.sIx_nat, HT.sIx_nat, take_drop_min]
theorem cutV_hi (xs : List V) (j : Nat) : cutV xs none (some (j : Int)) = xs.take j := by
  unfold cutV
  rw [HT.sIx_none, HT.sIx_nat, Nat.sub_zero, List.drop_zero]
  have := take_drop_min xs 0 j
  rw [Nat.zero_min, Nat.sub_zero, Nat.sub_zero, List.drop_zero] at this
  exact this
theorem cutV_lo (xs : List V) (i : Nat) : cutV xs (some (i : Int)) none = xs.drop i := by
  unfold cutV
  rw [HT.sIx_none, HT.sIx_nat, List.take_of_length_le (by rw [List.length_drop]; omega)]
  rcases Nat.le_total i xs.length with h | h
  · rw [Nat.min_eq_left h]
  · rw [Nat.min_eq_right h, List.drop_length, List.drop_of_length_le h]
theorem tl_cut_lh (z : Str) (i j : Nat) : tl (cutS z (some (i : Int)) (some (j : Int))) = ((tl z).drop i).take (j - i) := by
  show ((tl z).drop _).take _ = _
  rw [len_tl z, HT.sIx_nat, HT.sIx_nat]
  exact take_drop_min _ i j
theorem tl_cut_hi (z : Str) (j : Nat) : tl (cutS z none (some (j : Int))) = (tl z).take j := by
  show ((tl z).drop _).take _ = _
  rw [len_tl z, HT.sIx_none, HT.sIx_nat, Nat.sub_zero, List.drop_zero]
  have := take_drop_min (tl z) 0 j
  rw [Nat.zero_min, Nat.sub_zero, Nat.sub_zero, List.drop_zero] at this
  exact this
theorem tl_cut_lo (z : Str) (i : Nat) : tl (cutS z (some (i : Int)) none) = (tl z).drop i := by
  show ((tl z).drop _).take _ = _
  rw [len_tl z, HT.sIx_none, HT.sIx_nat, List.take_of_length_le (by rw [List.length_drop]; omega)]
  rcases Nat.le_total i (tl z).length with h | h
  · rw [Nat.min_eq_left h]
  · rw [Nat.min_eq_right h, List.drop_length, List.drop_of_length_le h]
end L2

namespace L2
open PySem PySem.Spec PyProof.Rows TL
theorem BoxAt.put_ne {H : Hp} {b p : Addr} {k : Nat} {o : HO} (h : BoxAt H b k) (n : p ≠ b) : BoxAt (upd H p o) b k := by
  obtain ⟨x, y, z, e, r⟩ := h
  exact ⟨x, y, z, by rw [upd_ne n.symm]; exact e, r⟩
theorem sz_lt {n : Nat} (h : n < 100000) : n < sizeLine := Nat.lt_of_lt_of_le h (by decide)
theorem sz_le {n : Nat} (h : n ≤ 100000) : n ≤ sizeLine := Nat.le_trans h (by decide)
end L2

/-! ### data: their types, isinstance, lengths -/
namespace L2
open PySem PySem.Spec PyProof.Rows TL
def tyN : PyData → String
  | .none => "NoneType"
  | .bool _ => "bool"
  | .int _ => "int"
  | .str _ => "str"
  | .list _ => "list"
  | .tuple _ => "tuple"
  | .dict _ => "dict"
theorem dp_ty {K : PySem.W.Frag} {H : Hp} {v : V} {d : PyData} (h : Dp K H v d) : TyX K H v (.type (tyN d)) := by
  cases h with
  | non => exact .base .non
  | bl b => exact .base (.bl b)
  | int i => exact .base (.int i)
  | str x => exact .base (.str x)
  | lst h r =>
    rcases h with (h | ⟨o, h⟩) | ⟨o, its, n, e, c, _⟩
    · exact .base (.lst h)
    · exact .base (.frz h)
    · exact .kList e c
  | tup h r =>
    rcases h with (h | ⟨o, h⟩) | ⟨o, its, n, e, c, _⟩
    · exact .base (.tup h)
    · exact .fTuple h
    · exact .kTuple e c
def kitBB (a b : String) : Bool := (kitB a b).getD false
theorem kit_all {K : PySem.W.Frag} {a b : String} (h : kitB a b = some (kitBB a b)) : PySem.W.kitOne K (.type a) (.type b) = some (kitBB a b) := kit_ty h
/-- isinstance of data, one class -/
theorem x_isi {K : PySem.W.Frag} {H : Hp} {Q : VK} {v : V} {d : PyData} {T : String} {b : Bool} (h : Dp K H v d) (e : kitB (tyN d) T = some b) (q : Q (.bl b) H) : rIsi K [v, .ty T] H Q := ⟨v, .ty T, _, _, b, rfl, .ty T, dp_ty h, kit_ty e, q⟩
def isD_list : PyData → Bool
  | .list _ => true
  | _ => false
theorem kit_list : ∀ d : PyData, fitD d = true → kitB (tyN d) "list" = some (isD_list d)
  | .none, _ => (by decide +kernel : kitB "NoneType" "list" = some false)
  | .bool _, _ => (by decide +kernel : kitB "bool" "list" = some false)
  | .int _, _ => (by decide +kernel : kitB "int" "list" = some false)
  | .str _, _ => (by decide +kernel : kitB "str" "list" = some false)
  | .list _, _ => (by decide +kernel : kitB "list" "list" = some true)
  | .tuple _, _ => (by decide +kernel : kitB "tuple" "list" = some false)
  | .dict _, h => (Bool.false_ne_true h).elim
def isD_tuple : PyData → Bool
  | .tuple _ => true
  | _ => false
theorem kit_tuple : ∀ d : PyData, fitD d = true → kitB (tyN d) "tuple" = some (isD_tuple d)
  | .none, _ => (by decide +kernel : kitB "NoneType" "tuple" = some false)
  | .bool _, _ => (by decide +kernel : kitB "bool" "tuple" = some false)
  | .int _, _ => (by decide +kernel : kitB "int" "tuple" = some false)
  | .str _, _ => (by decide +kernel : kitB "str" "tuple" = some false)
  | .list _, _ => (by decide +kernel : kitB "list" "tuple" = some false)
  | .tuple _, _ => (by decide +kernel : kitB "tuple" "tuple" = some true)
  | .dict _, h => (Bool.false_ne_true h).elim
def isD_str : PyData → Bool
  | .str _ => true
  | _ => false
theorem kit_str : ∀ d : PyData, fitD d = true → kitB (tyN d) "str" = some (isD_str d)
  | .none, _ => (by decide +kernel : kitB "NoneType" "str" = some false)
  | .bool _, _ => (by decide +kernel : kitB "bool" "str" = some false)
  | .int _, _ => (by decide +kernel : kitB "int" "str" = some false)
  | .str _, _ => (by decide +kernel : kitB "str" "str" = some true)
  | .list _, _ => (by decide +kernel : kitB "list" "str" = some false)
  | .tuple _, _ => (by decide +kernel : kitB "tuple" "str" = some false)
  | .dict _, h => (Bool.false_ne_true h).elim
def isD_bool : PyData → Bool
  | .bool _ => true
  | _ => false
theorem kit_bool : ∀ d : PyData, fitD d = true → kitB (tyN d) "bool" = some (isD_bool d)
  | .none, _ => (by decide +kernel : kitB "NoneType" "bool" = some false)
  | .bool _, _ => (by decide +kernel : kitB "bool" "bool" = some true)
  | .int _, _ => (by decide +kernel : kitB "int" "bool" = some false)
  | .str _, _ => (by decide +kernel : kitB "str" "bool" = some false)
  | .list _, _ => (by decide +kernel : kitB "list" "bool" = some false)
  | .tuple _, _ => (by decide +kernel : kitB "tuple" "bool" = some false)
  | .dict _, h => (Bool.false_ne_true h).elim
def isD_int : PyData → Bool
  | .int _ => true
  | .bool _ => true
  | _ => false
theorem kit_int : ∀ d : PyData, fitD d = true → kitB (tyN d) "int" = some (isD_int d)
  | .none, _ => (by decide +kernel : kitB "NoneType" "int" = some false)
  | .bool _, _ => (by decide +kernel : kitB "bool" "int" = some true)
  | .int _, _ => (by decide +kernel : kitB "int" "int" = some true)
  | .str _, _ => (by decide +kernel : kitB "str" "int" = some false)
  | .list _, _ => (by decide +kernel : kitB "list" "int" = some false)
  | .tuple _, _ => (by decide +kernel : kitB "tuple" "int" = some false)
  | .dict _, h => (Bool.false_ne_true h).elim
def isSeq : PyData → Bool
  | .list _ => true
  | .tuple _ => true
  | _ => false
/-- isinstance(v, (list, tuple)) -/
theorem x_isSeq {K : PySem.W.Frag} {H : Hp} {Q : VK} {v : V} {p : Addr} {d : PyData} (h : Dp K H v d) (f : fitD d = true) (hp : H p = some (.tup [.ty "list", .ty "tuple"])) (q : Q (.bl (isSeq d)) H) : rIsiT K [v, .ref p] H Q := by
  refine ⟨v, p, _, _, [.type "list", .type "tuple"], isSeq d, rfl, hp, .cons (.ty _) (.cons (.ty _) .nil), dp_ty h, ?_, q⟩
  refine kitAny_cons (kit_ty (kit_list d f)) (fun e => kitAny_cons (kit_ty (kit_tuple d f)) (fun e2 => ?_) fun e2 => ?_) fun e => ?_
  · rw [kitAny_nil]
    cases d <;> first | rfl | exact (Bool.noConfusion e) | exact (Bool.noConfusion e2)
  · cases d <;> first | rfl | exact (Bool.noConfusion e2)
  · cases d <;> first | rfl | exact (Bool.noConfusion e)
theorem dps_len {K : PySem.W.Frag} {H : Hp} : ∀ {vs : List V} {ds : List PyData}, DpAll K H vs ds → vs.length = ds.length
  | _, _, .nil => rfl
  | _, _, .cons _ r => congrArg Nat.succ (dps_len r)
theorem dps_get {K : PySem.W.Frag} {H : Hp} : ∀ {vs : List V} {ds : List PyData} {i : Nat} {v : V}, DpAll K H vs ds → vs[i]? = some v → ∃ d, ds[i]? = some d ∧ Dp K H v d
  | _, _, _, _, .nil, e => by simp at e
  | _, _, 0, _, .cons h r, e => by
    simp at e
    subst e
    exact ⟨_, rfl, h⟩
  | _, _, i + 1, _, .cons h r, e => by
    obtain ⟨d, h1, h2⟩ := dps_get (i := i) r (by simpa using e)
    exact ⟨d, by simpa using h1, h2⟩
theorem fit_get : ∀ {ds : List PyData} {i : Nat} {d : PyData}, fitD.fitAll ds = true → ds[i]? = some d → fitD d = true
  | [], _, _, _, e => by simp at e
  | d :: ds, 0, _, h, e => by
    simp at e
    subst e
    unfold fitD.fitAll at h
    exact (Bool.and_eq_true_iff.mp h).1
  | d :: ds, i + 1, _, h, e => by
    unfold fitD.fitAll at h
    exact fit_get (i := i) (Bool.and_eq_true_iff.mp h).2 (by simpa using e)
theorem dep_get : ∀ {ds : List PyData} {i : Nat} {d : PyData}, ds[i]? = some d → PyData.depth d ≤ PyData.depthAll ds
  | [], _, _, e => by simp at e
  | d :: ds, 0, _, e => by
    simp at e
    subst e
    unfold PyData.depthAll
    exact Nat.le_max_left _ _
  | d :: ds, i + 1, _, e => by
    have := dep_get (i := i) (d := _) (ds := ds) (by simpa using e)
    unfold PyData.depthAll
    exact Nat.le_trans this (Nat.le_max_right _ _)
mutual
theorem fit_lay : ∀ d : PyData, fitD d = true → d.canLay0 = true
  | .none, _ => by simp [PyData.canLay0]
  | .bool _, _ => by simp [PyData.canLay0]
  | .int _, _ => by simp [PyData.canLay0]
  | .str z, h => by
    unfold fitD at h
    rw [PyData.canLay0]
    exact (Bool.and_eq_true_iff.mp h).2
  | .list ds, h => by
    unfold fitD at h
    rw [PyData.canLay0]
    exact fits_lay ds (Bool.and_eq_true_iff.mp h).2
  | .tuple ds, h => by
    unfold fitD at h
    rw [PyData.canLay0]
    exact fits_lay ds (Bool.and_eq_true_iff.mp h).2
  | .dict _, h => by
    unfold fitD at h
    exact (Bool.false_ne_true h).elim
theorem fits_lay : ∀ ds : List PyData, fitD.fitAll ds = true → PyData.canLayAll0 ds = true
  | [], _ => by simp [PyData.canLayAll0]
  | d :: ds, h => by
    unfold fitD.fitAll at h
    have h2 := Bool.and_eq_true_iff.mp h
    rw [PyData.canLayAll0, fit_lay d h2.1, fits_lay ds h2.2]
    rfl
end
theorem shaped_fit {d : PyData} (h : fitD d = true) (l : PyData.depth d ≤ 64) : SeqAt.shaped d = true := by
  unfold SeqAt.shaped
  rw [fit_lay d h, decide_eq_true l]
  rfl
/-- all of the pairs alike, told pair by pair -/
def zipSame (as bs : List PyData) (k : Nat) : List Bool := ((as.zip bs).take k).map fun p => sameD p.1 p.2
theorem same_zip : ∀ as bs : List PyData, (decide (as.length = bs.length) && ((as.zip bs).map fun p => sameD p.1 p.2).all id) = sameD.sameAll as bs
  | [], [] => rfl
  | [], _ :: _ => by simp [sameD.sameAll]
  | _ :: _, [] => by simp [sameD.sameAll]
  | a :: as, b :: bs => by
    have ih := same_zip as bs
    rw [List.zip_cons_cons, List.map_cons, List.all_cons]
    unfold sameD.sameAll
    rw [← ih]
    simp only [List.length_cons, Nat.add_right_cancel_iff, id_eq]
    cases sameD a b <;> cases decide (as.length = bs.length) <;> simp
/-- a comprehension over zip of two lists that stand -/
theorem lc_zip {Qd : Hp → Prop} {K : PySem.W.Frag} {σ : St} {H : Hp} {g : TG} {tt : TT} {te : TE} {vs : List Nat} {Dl a b : Addr} {xs ys : List V} (Pv : Nat → Hp → Prop) (h0 : Pv 0 (upd H Dl (.lst [])))
    (hl : ∀ i H, i ≤ min xs.length ys.length → Pv i H → SqL K H a xs ∧ SqL K H b ys)
    (hs : ∀ (i : Nat) x y H' T, xs[i]? = some x → ys[i]? = some y → Pv i H' → H' T = none → g (.ref T) (wipe σ vs) (upd H' T (.tup [x, y])) fun σ2 H2 => wipe σ2 vs = wipe σ vs ∧ tt σ2 H2 fun b H3 =>
      if b = true then te σ2 H3 fun y H4 => ∃ acc, H4 Dl = some (.lst acc) ∧ acc.length < sizeLine ∧ Pv (i + 1) (upd H4 Dl (.lst (acc ++ [y]))) else Pv (i + 1) H3)
    (hd : ∀ H', Pv (min xs.length ys.length) H' → Qd H') :
    ∃ W : Nat → Nat → Hp → Prop, (∃ m, W 0 m (upd H Dl (.lst []))) ∧ ∀ i m H, W i m H →
  ((Itz K a b).stop i H ∧ Qd H) ∨ ((Itz K a b).go i H ∧ ∃ Nx : Hp → Prop, (∀ H', Nx H' → ∃ m', m' < m ∧ W (i + 1) m' H') ∧ ∀ x H', (Itz K a b).yld i H x H' → g x (wipe σ vs) H' fun σ2 H2 => wipe σ2 vs = wipe σ vs ∧ tt σ2 H2 fun b H3 =>
    if b = true then te σ2 H3 fun y H4 => ∃ acc, H4 Dl = some (.lst acc) ∧ acc.length < sizeLine ∧ Nx (upd H4 Dl (.lst (acc ++ [y]))) else Nx H3) := by
  refine ⟨fun i m H => m = min xs.length ys.length - i ∧ i ≤ min xs.length ys.length ∧ Pv i H, ⟨_, rfl, Nat.zero_le _, h0⟩, ?_⟩
  rintro i m H ⟨rfl, hi, p⟩
  obtain ⟨q1, q2⟩ := hl i H hi p
  by_cases hlt : i < min xs.length ys.length
  · have l1 : i < xs.length := by omega
    have l2 : i < ys.length := by omega
    refine .inr ⟨⟨xs, ys, xs[i], ys[i], q1, q2, List.getElem?_eq_getElem l1, List.getElem?_eq_getElem l2⟩, Pv (i + 1), fun H' p' => ⟨min xs.length ys.length - (i + 1), by omega, rfl, hlt, p'⟩, fun x H' y => ?_⟩
    obtain ⟨T, x1, x2, rfl, hT, rfl, f1, f2⟩ := y
    exact hs i x1 x2 H T (f1 _ q1) (f2 _ q2) p hT
  · have e : i = min xs.length ys.length := by omega
    subst e
    refine .inl ⟨⟨xs, ys, q1, q2, ?_⟩, hd H p⟩
    rcases Nat.le_total xs.length ys.length with h | h
    · rw [Nat.min_eq_left h]; exact .inl (Nat.le_refl _)
    · rw [Nat.min_eq_right h]; exact .inr (Nat.le_refl _)
theorem lc_zipT {Qd : Hp → Prop} {K : PySem.W.Frag} {σ : St} {H : Hp} {g : TG} {tt : TT} {te : TE} {vs : List Nat} {Dl a b : Addr} {xs ys : List V} (Pv : Nat → Hp → Prop) (h0 : Pv 0 (upd H Dl (.lst [])))
    (hl : ∀ i H, i ≤ min xs.length ys.length → Pv i H → SqT K H a xs ∧ SqT K H b ys)
    (hs : ∀ (i : Nat) x y H' T, xs[i]? = some x → ys[i]? = some y → Pv i H' → H' T = none → g (.ref T) (wipe σ vs) (upd H' T (.tup [x, y])) fun σ2 H2 => wipe σ2 vs = wipe σ vs ∧ tt σ2 H2 fun b H3 =>
      if b = true then te σ2 H3 fun y H4 => ∃ acc, H4 Dl = some (.lst acc) ∧ acc.length < sizeLine ∧ Pv (i + 1) (upd H4 Dl (.lst (acc ++ [y]))) else Pv (i + 1) H3)
    (hd : ∀ H', Pv (min xs.length ys.length) H' → Qd H') :
    ∃ W : Nat → Nat → Hp → Prop, (∃ m, W 0 m (upd H Dl (.lst []))) ∧ ∀ i m H, W i m H →
  ((RZ.ItzT K a b).stop i H ∧ Qd H) ∨ ((RZ.ItzT K a b).go i H ∧ ∃ Nx : Hp → Prop, (∀ H', Nx H' → ∃ m', m' < m ∧ W (i + 1) m' H') ∧ ∀ x H', (RZ.ItzT K a b).yld i H x H' → g x (wipe σ vs) H' fun σ2 H2 => wipe σ2 vs = wipe σ vs ∧ tt σ2 H2 fun b H3 =>
    if b = true then te σ2 H3 fun y H4 => ∃ acc, H4 Dl = some (.lst acc) ∧ acc.length < sizeLine ∧ Nx (upd H4 Dl (.lst (acc ++ [y]))) else Nx H3) := by
  refine ⟨fun i m H => m = min xs.length ys.length - i ∧ i ≤ min xs.length ys.length ∧ Pv i H, ⟨_, rfl, Nat.zero_le _, h0⟩, ?_⟩
  rintro i m H ⟨rfl, hi, p⟩
  obtain ⟨q1, q2⟩ := hl i H hi p
  by_cases hlt : i < min xs.length ys.length
  · have l1 : i < xs.length := by omega
    have l2 : i < ys.length := by omega
    refine .inr ⟨⟨xs, ys, xs[i], ys[i], q1, q2, List.getElem?_eq_getElem l1, List.getElem?_eq_getElem l2⟩, Pv (i + 1), fun H' p' => ⟨min xs.length ys.length - (i + 1), by omega, rfl, hlt, p'⟩, fun x H' y => ?_⟩
    obtain ⟨T, x1, x2, rfl, hT, rfl, f1, f2⟩ := y
    exact hs i x1 x2 H T (f1 _ q1) (f2 _ q2) p hT
  · have e : i = min xs.length ys.length := by omega
    subst e
    refine .inl ⟨⟨xs, ys, q1, q2, ?_⟩, hd H p⟩
    rcases Nat.le_total xs.length ys.length with h | h
    · rw [Nat.min_eq_left h]; exact .inl (Nat.le_refl _)
    · rw [Nat.min_eq_right h]; exact .inr (Nat.le_refl _)
end L2

namespace L2
open PySem PySem.Spec PyProof.Rows TL
section
variable {σ : St} {H Hs : Hp} {Q : VK} {v x y : V} {K : PySem.W.Frag}
theorem x_eqO {r : R2} (h : scal x y = true) (q : Q (.bl (decide (x = y))) H) : zOr rEq r x y H Q := .inl ⟨h, q⟩
theorem x_eqD {r : R2} {d e : PyData} (h1 : Dp K H x d) (h2 : Dp K H y e) (s1 : SeqAt.shaped d = true) (s2 : SeqAt.shaped e = true) (q : Q (.bl (PyData.eqv d e)) H) : zOr r (rEqD K) x y H Q := .inr ⟨d, e, h1, h2, s1, s2, q⟩
theorem x_lenAL {a : Addr} {xs : List V} (h : SqL K H a xs) (q : Q (.int xs.length) H) : zLenA K [.ref a] H Q := ⟨_, _, rfl, .inl ⟨xs, h, rfl⟩, q⟩
theorem x_lenAT {a : Addr} {xs : List V} (h : SqT K H a xs) (q : Q (.int xs.length) H) : zLenA K [.ref a] H Q := ⟨_, _, rfl, .inr ⟨xs, h, rfl⟩, q⟩
theorem x_isN (q : Q (.bl (decide (x = .non))) H) : zIsN x .non H Q := ⟨rfl, q⟩
theorem x_isNotN (q : Q (.bl (!decide (x = .non))) H) : zIsNotN x .non H Q := ⟨rfl, q⟩
theorem x_izip {ta : TA} {R : It → Hp → Prop} (q : ta σ H fun vs H1 => ∃ a b xs ys, vs = [.ref a, .ref b] ∧ ((SqL K H1 a xs ∧ SqL K H1 b ys ∧ R (Itz K a b) H1) ∨ (SqT K H1 a xs ∧ SqT K H1 b ys ∧ R (RZ.ItzT K a b) H1))) : RZ.iZipA K ta σ H R := q
theorem x_izipL {a b : Addr} {xs ys : List V} {R : It → Prop} (h1 : SqL K H a xs) (h2 : SqL K H b ys) (q : R (Itz K a b)) : ∃ a' b' xs ys, [V.ref a, V.ref b] = [.ref a', .ref b'] ∧ ((SqL K H a' xs ∧ SqL K H b' ys ∧ R (Itz K a' b')) ∨ (SqT K H a' xs ∧ SqT K H b' ys ∧ R (RZ.ItzT K a' b'))) := ⟨a, b, xs, ys, rfl, .inl ⟨h1, h2, q⟩⟩
theorem x_izipT {a b : Addr} {xs ys : List V} {R : It → Prop} (h1 : SqT K H a xs) (h2 : SqT K H b ys) (q : R (RZ.ItzT K a b)) : ∃ a' b' xs ys, [V.ref a, V.ref b] = [.ref a', .ref b'] ∧ ((SqL K H a' xs ∧ SqL K H b' ys ∧ R (Itz K a' b')) ∨ (SqT K H a' xs ∧ SqT K H b' ys ∧ R (RZ.ItzT K a' b'))) := ⟨a, b, xs, ys, rfl, .inr ⟨h1, h2, q⟩⟩
end
theorem zipSame_zero (as bs : List PyData) : zipSame as bs 0 = [] := by
  unfold zipSame
  rw [List.take_zero]
  rfl
theorem zipSame_succ {as bs : List PyData} {i : Nat} {a b : PyData} (h1 : as[i]? = some a) (h2 : bs[i]? = some b) : zipSame as bs (i + 1) = zipSame as bs i ++ [sameD a b] := by
  unfold zipSame
  have e : (as.zip bs)[i]? = some (a, b) := List.getElem?_zip_eq_some.mpr ⟨h1, h2⟩
  rw [List.take_add_one, e]
  simp
theorem zipSame_all {as bs : List PyData} {i : Nat} (h : min as.length bs.length ≤ i) : zipSame as bs i = (as.zip bs).map fun p => sameD p.1 p.2 := by
  unfold zipSame
  rw [List.take_of_length_le (by rw [List.length_zip]; exact h)]
end L2

namespace L2
open PySem PySem.Spec PyProof.Rows TL
section
variable {σ : St} {H Hs : Hp} {Q : VK} {v x y : V} {K : PySem.W.Frag}
theorem x_inSg {c : Nat} {z : Str} (q : Q (.bl (decide (c ∈ tl z))) H) : zInSg (.str ⟨#[c]⟩) (.str z) H Q := ⟨c, z, rfl, rfl, q⟩
theorem x_leS {z w : Str} (q : Q (.bl (!decide (tl w < tl z))) H) : zLtES (.str z) (.str w) H Q := ⟨z, w, rfl, rfl, q⟩
theorem x_ltS {z w : Str} (q : Q (.bl (decide (tl z < tl w))) H) : zLtS (.str z) (.str w) H Q := ⟨z, w, rfl, rfl, q⟩
theorem x_gstarL {a : Addr} {xs : List V} {n i : Nat} {t : TGs} {Qs : St → Hp → Prop} (h : SqL K H a xs) (l : n ≤ xs.length + 1)
    (q : ∀ D, H D = none → t (xs.take i ++ [.ref D] ++ (xs.drop i).drop (xs.length + 1 - n)) σ (upd H D (.lst ((xs.drop i).take (xs.length + 1 - n)))) Qs) : gStarL K n i t (.ref a) σ H Qs := ⟨a, xs, rfl, h, l, q⟩
theorem x_cat {a b : Addr} {xs ys : List V} (h1 : H a = some (.lst xs)) (h2 : H b = some (.lst ys)) (l : xs.length + ys.length ≤ sizeLine) (q : ∀ p, H p = none → Q (.ref p) (upd H p (.lst (xs ++ ys)))) : rCat (.ref a) (.ref b) H Q := ⟨a, b, xs, ys, rfl, rfl, h1, h2, l, q⟩
theorem x_rep {a : Addr} {xs : List V} {k : Int} (h : H a = some (.lst xs)) (h1 : -(2 ^ 63) ≤ k) (h2 : k < 2 ^ 63) (l : xs.length * k.toNat ≤ sizeLine) (q : ∀ p, H p = none → Q (.ref p) (upd H p (.lst (List.replicate k.toNat xs).flatten))) : rRep (.ref a) (.int k) H Q := ⟨a, k, xs, rfl, rfl, h, h1, h2, l, q⟩
end
theorem fit_str {z : Str} (h : fitD (.str z) = true) : z.length ≤ 100000 ∧ PyData.strOk z = true := by
  unfold fitD at h
  have := Bool.and_eq_true_iff.mp h
  exact ⟨of_decide_eq_true this.1, this.2⟩
theorem in_alpha (c : Nat) : decide (c ∈ tl ("abcdefghijklmnopqrstuvwxyz" : Str)) = (decide (97 ≤ c) && decide (c ≤ 122)) := by
  rw [tl_alpha, ← Bool.decide_and]
  exact decide_eq_decide.mpr mem_alpha
theorem bl_take {α : Type} (f : α → Bool) {l : List α} {i : Nat} {c : α} (h : l[i]? = some c) : ((l.take (i + 1)).map fun c => V.bl (f c)) = ((l.take i).map fun c => V.bl (f c)) ++ [V.bl (f c)] := by
  rw [List.take_add_one, h, List.map_append]
  rfl
theorem all_map (f : Nat → Bool) (l : List Nat) : (l.map f).all id = l.all f := by
  rw [List.all_map]
  rfl
theorem nameB_eq (z : Str) : nameB z = (decide (1 ≤ z.length) && decide (z.length ≤ 8) && (tl z).all fun c => decide (97 ≤ c) && decide (c ≤ 122)) := by
  unfold nameB nameL
  rw [len_tl z]
end L2

namespace L2
open PySem PySem.Spec PyProof.Rows TL
theorem cut_mem (s : Nat) : ∀ (l p : List Nat), p ∈ cutL s l → ∀ c ∈ p, c ∈ l
  | [], p, h, c, hc => by simp [cutL] at h; rw [h] at hc; simp at hc
  | d :: r, p, h, c, hc => by
    have ih := cut_mem s r
    unfold cutL at h
    split at h
    · rcases List.mem_cons.mp h with e | h
      · rw [e] at hc; simp at hc
      · exact List.mem_cons_of_mem _ (ih p h c hc)
    · split at h
      · rw [List.mem_singleton.mp h] at hc
        rw [List.mem_singleton.mp hc]
        exact List.mem_cons_self ..
      · rename_i q qs e
        rw [e] at ih
        rcases List.mem_cons.mp h with e2 | h
        · rw [e2] at hc
          rcases List.mem_cons.mp hc with e3 | hc
          · rw [e3]; exact List.mem_cons_self ..
          · exact List.mem_cons_of_mem _ (ih q (List.mem_cons_self ..) c hc)
        · exact List.mem_cons_of_mem _ (ih p (List.mem_cons_of_mem _ h) c hc)
theorem strOk_iff {z : Str} : PyData.strOk z = true ↔ ∀ c ∈ tl z, c < 1114112 := by
  unfold PyData.strOk
  rw [← Array.all_toList, List.all_eq_true]
  constructor
  · intro h c hc
    exact of_decide_eq_true (h c hc)
  · intro h c hc
    exact decide_eq_true (h c hc)
/-- a text of so many signs, all of them signs -/
def TxtOk (n : Nat) (z : Str) : Prop := z.length ≤ n ∧ PyData.strOk z = true
theorem TxtOk.fit {n : Nat} {z : Str} (h : TxtOk n z) (l : n ≤ 100000) : fitD (.str z) = true := by
  unfold fitD
  rw [decide_eq_true (Nat.le_trans h.1 l), h.2]
  rfl
theorem TxtOk.mono {n m : Nat} {z : Str} (h : TxtOk n z) (l : n ≤ m) : TxtOk m z := ⟨Nat.le_trans h.1 l, h.2⟩
theorem name_txt {z : Str} (h : nameB z = true) : TxtOk 8 z := by
  obtain ⟨h1, h2, h3⟩ := name_iff.mp h
  exact ⟨by rw [len_tl]; exact h2, strOk_iff.mpr fun c hc => by have := h3 c hc; omega⟩
/-- a text cut at a sign -/
theorem split_parts (z : Str) {y : Str} {s : Nat} (hy : tl y = [s]) (hs : s < 256) : ∃ f rs, Txt.split z y = f :: rs ∧ cutL s (tl z) = tl f :: rs.map tl ∧ rs.length ≤ z.length ∧
    ∀ p ∈ f :: rs, p.length ≤ z.length ∧ ∀ c ∈ tl p, c ∈ tl z := by
  have e := split_cut z hy hs
  have hl := cut_len s (tl z)
  have h1 := cut_part_len s (tl z)
  have h2 := cut_mem s (tl z)
  rw [← e] at hl h1 h2
  cases hp : Txt.split z y with
  | nil =>
    rw [hp] at e
    exact absurd e.symm (cut_ne s (tl z))
  | cons f rs =>
    rw [hp] at e hl h1 h2
    refine ⟨f, rs, rfl, e.symm, ?_, fun p hm => ?_⟩
    · rw [List.map_cons, List.length_cons, List.length_map] at hl
      rw [len_tl z]
      omega
    · have hm2 : tl p ∈ (f :: rs).map tl := List.mem_map.mpr ⟨p, hm, rfl⟩
      exact ⟨by rw [len_tl p, len_tl z]; exact h1 _ hm2, h2 _ hm2⟩
theorem tl_tag : tl ("tag" : Str) = tagL := by decide +kernel
theorem str_eq_iff {x y : Str} : x = y ↔ tl x = tl y := ⟨fun h => by rw [h], ext_tl⟩
theorem path_parts {z f : Str} {rs : List Str} (e : cutL 47 (tl z) = tl f :: rs.map tl) : pathB z = (decide (rs.length < 3) && (!decide (f = "tag") && (f :: rs).all nameB)) := by
  unfold pathB pathL
  have e1 : z.cps.toList = tl z := rfl
  rw [e1, e]
  have a1 : decide ((tl f :: rs.map tl).length ≤ 3) = decide (rs.length < 3) := by
    rw [List.length_cons, List.length_map]
    exact decide_eq_decide.mpr ⟨fun h => by omega, fun h => by omega⟩
  have a2 : decide ((tl f :: rs.map tl).head? ≠ some tagL) = !decide (f = "tag") := by
    rw [List.head?_cons, ← decide_not]
    refine decide_eq_decide.mpr ?_
    rw [str_eq_iff, tl_tag]
    exact not_congr ⟨Option.some.inj, congrArg some⟩
  have a3 : (tl f :: rs.map tl).all nameL = (f :: rs).all nameB := by
    rw [← List.map_cons, List.all_map]
    rfl
  rw [a1, a2, a3, Bool.and_assoc]
end L2

namespace L2
open PySem PySem.Spec PyProof.Rows TL
theorem Go.forget {M : List Addr} {Hs H Hs' H' : Hp} (g : Go M Hs H Hs' H') : Go M Hs H Hs H' := ⟨Same.refl _, g.p.trans g.sub, fun _ h1 h2 => absurd h2 h1, g.keep, g.there⟩
theorem Go.laidE {M : List Addr} {Hs H : Hp} {p : Addr} {o : HO} (s : Same Hs H) (hp : H p = none) : ∃ Hs1 H1, H1 = upd H p o ∧ Go M Hs H Hs1 H1 ∧ Hs1 p = some o := ⟨_, _, rfl, Go.laid s hp, upd_same⟩
theorem Go.cellE {M : List Addr} {Hs H : Hp} {p : Addr} {o : HO} (s : Same Hs H) (hp : H p = none) : ∃ H1, H1 = upd H p o ∧ Go M Hs H Hs H1 ∧ Hs p = none ∧ H1 p = some o := ⟨_, rfl, Go.cell s hp, none_sub s hp, upd_same⟩
theorem getV_map {α : Type} {f : α → V} {l : List α} {i : Nat} {x : V} (h : (l.map f)[i]? = some x) : ∃ y, l[i]? = some y ∧ x = f y := by
  rw [List.getElem?_map] at h
  cases e : l[i]? with
  | none => rw [e] at h; cases h
  | some w => rw [e] at h; exact ⟨w, rfl, (Option.some.inj h).symm⟩
end L2
namespace L2
open PySem PySem.Spec PyProof.Rows TL
theorem lt_sign (a b : Nat) : decide (([a] : List Nat) < [b]) = decide (a < b) := decide_eq_decide.mpr (by simp [List.cons_lt_cons_iff])
theorem le_a (c : Nat) : (!decide (tl (⟨#[c]⟩ : Str) < tl ("a" : Str))) = decide (97 ≤ c) := by
  rw [show tl ("a" : Str) = [97] by decide +kernel, tl_one, lt_sign, ← decide_not]
  exact decide_eq_decide.mpr (by omega)
theorem le_z (c : Nat) : (!decide (tl ("z" : Str) < tl (⟨#[c]⟩ : Str))) = decide (c ≤ 122) := by
  rw [show tl ("z" : Str) = [122] by decide +kernel, tl_one, lt_sign, ← decide_not]
  exact decide_eq_decide.mpr (by omega)
theorem filter_take_some {α : Type} {p : α → Bool} {l : List α} {i : Nat} {c : α} (h : l[i]? = some c) (hp : p c = true) : (l.take (i + 1)).filter p = (l.take i).filter p ++ [c] := by
  rw [List.take_add_one, h, List.filter_append]
  simp [hp]
theorem filter_take_none {α : Type} {p : α → Bool} {l : List α} {i : Nat} {c : α} (h : l[i]? = some c) (hp : p c = false) : (l.take (i + 1)).filter p = (l.take i).filter p := by
  rw [List.take_add_one, h, List.filter_append]
  simp [hp]
theorem filterD_all {α : Type} [DecidableEq α] (p : α → Bool) (l : List α) : decide (l.filter p = l) = l.all p := by
  rw [Bool.eq_iff_iff, decide_eq_true_iff, List.all_eq_true]
  exact List.filter_eq_self
theorem decV_str (x y : Str) : decide (V.str x = V.str y) = decide (tl x = tl y) := decide_eq_decide.mpr ⟨fun h => by rw [V.str.inj h], fun h => by rw [ext_tl h]⟩
theorem decV_strS (x y : Str) : decide (V.str x = V.str y) = decide (x = y) := decide_eq_decide.mpr ⟨V.str.inj, congrArg V.str⟩
theorem decV_int (x y : Int) : decide (V.int x = V.int y) = decide (x = y) := decide_eq_decide.mpr ⟨V.int.inj, congrArg V.int⟩
theorem decV_bl (x y : Bool) : decide (V.bl x = V.bl y) = decide (x = y) := decide_eq_decide.mpr ⟨V.bl.inj, congrArg V.bl⟩
/-- one sign more behind what is cut -/
theorem cut_snoc_hit (s : Nat) : ∀ l : List Nat, cutL s (l ++ [s]) = cutL s l ++ [[]]
  | [] => by simp [cutL]
  | c :: r => by
    have ih := cut_snoc_hit s r
    show cutL s (c :: (r ++ [s])) = cutL s (c :: r) ++ [[]]
    unfold cutL
    by_cases h : c = s
    · rw [if_pos h, if_pos h, ih]
      rfl
    · rw [if_neg h, if_neg h, ih]
      cases e : cutL s r with
      | nil => exact absurd e (cut_ne s r)
      | cons p ps => rfl
theorem cut_snoc_miss {s c : Nat} (h : c ≠ s) : ∀ (l : List Nat) (ps : List (List Nat)) (p : List Nat), cutL s l = ps ++ [p] → cutL s (l ++ [c]) = ps ++ [p ++ [c]]
  | [], ps, p, e => by
    have e2 : ([[]] : List (List Nat)) = ps ++ [p] := e
    cases ps with
    | nil =>
      have : p = [] := by simpa using e2.symm
      subst this
      show cutL s [c] = _
      unfold cutL
      rw [if_neg h]
      rfl
    | cons q qs => simp at e2
  | d :: r, ps, p, e => by
    show cutL s (d :: (r ++ [c])) = _
    unfold cutL at e ⊢
    by_cases hd : d = s
    · rw [if_pos hd] at e ⊢
      cases ps with
      | nil =>
        have : cutL s r = [] := by
          have := congrArg List.tail e
          simpa using this
        exact absurd this (cut_ne s r)
      | cons q qs =>
        have e1 : q = [] := (List.cons.inj e).1.symm
        have e2 : cutL s r = qs ++ [p] := (List.cons.inj e).2
        rw [cut_snoc_miss h r qs p e2, e1]
        rfl
    · rw [if_neg hd] at e ⊢
      cases er : cutL s r with
      | nil => exact absurd er (cut_ne s r)
      | cons t ts =>
        rw [er] at e
        cases ps with
        | nil =>
          have e1 : d :: t = p ∧ ts = [] := by simpa using e
          rw [cut_snoc_miss h r [] t (by rw [er, e1.2]; rfl), ← e1.1]
          rfl
        | cons q qs =>
          have e1 : q = d :: t := (List.cons.inj e).1.symm
          have e2 : ts = qs ++ [p] := (List.cons.inj e).2
          rw [cut_snoc_miss h r (t :: qs) p (by rw [er, e2]; rfl), e1]
          rfl
theorem atI_end (xs : List V) (y : V) : atI (xs ++ [y]) (-1) = some y := atI_last _ _
theorem ixN_end (xs : List V) (y : V) : ixN (xs ++ [y]).length (-1) = some xs.length := by
  unfold ixN
  rw [List.length_append, List.length_singleton, if_neg (by decide), if_pos (by omega)]
  congr 1
  omega
theorem set_end (xs : List V) (y v : V) : (xs ++ [y]).set xs.length v = xs ++ [v] := by
  rw [List.set_append_right _ _ (Nat.le_refl _), Nat.sub_self]
  rfl
/-- replaced sign by sign -/
theorem repl_one (s : Nat) (z : List Nat) : ∀ l : List Nat, StrLaws.replL [s] z l = l.flatMap fun c => if c = s then z else [c]
  | [] => by rw [StrLaws.replL_nil]; rfl
  | c :: r => by
    have ih := repl_one s z r
    by_cases h : c = s
    · subst h
      rw [StrLaws.replL_hit (by simp) (by simp)]
      simp [ih]
    · rw [StrLaws.replL_miss (by simp [h]), ih]
      simp [h]
end L2
namespace L2
open PySem PySem.Spec PyProof.Rows TL
section
variable {σ : St} {H Hs : Hp} {Q : VK} {v x y : V} {K : PySem.W.Frag} {ar : TA} {D : Ends}
theorem x_tpar3 {i j l : Nat} (q : ar σ H fun vs H1 => ∃ v w x, vs = [v, w, x] ∧ D.nx (((σ.set i (some v)).set j (some w)).set l (some x)) H1) : tPar3 i j l ar D σ H := q
theorem x_par3 {i j l : Nat} {v w x : V} (q : D.nx (((σ.set i (some v)).set j (some w)).set l (some x)) H) : ∃ v' w' x', [v, w, x] = [v', w', x'] ∧ D.nx (((σ.set i (some v')).set j (some w')).set l (some x')) H := ⟨v, w, x, rfl, q⟩
theorem x_repl {z a b : Str} (h : z.length + (z.length + 1) * b.length ≤ 16777216) (q : Q (.str (Txt.replace z a b)) H) : ∃ x, V.str z = .str x ∧ x.length + (x.length + 1) * b.length ≤ 16777216 ∧ Q (.str (Txt.replace x a b)) H := ⟨z, rfl, h, q⟩
end
theorem txt_append {n m : Nat} {x y : Str} (h1 : TxtOk n x) (h2 : TxtOk m y) : TxtOk (n + m) (x ++ y) := by
  refine ⟨by rw [len_tl, tl_append, List.length_append, ← len_tl, ← len_tl]; have := h1.1; have := h2.1; omega, strOk_iff.mpr fun c hc => ?_⟩
  rw [tl_append] at hc
  rcases List.mem_append.mp hc with h | h
  · exact strOk_iff.mp h1.2 c h
  · exact strOk_iff.mp h2.2 c h
theorem len_append (x y : Str) : (x ++ y).length = x.length + y.length := by
  rw [len_tl, tl_append, List.length_append, ← len_tl, ← len_tl]
theorem txt_of {n : Nat} {x y : Str} (h : TxtOk n y) (l : x.length ≤ n) (m : ∀ c ∈ tl x, c ∈ tl y) : TxtOk n x := ⟨l, strOk_iff.mpr fun c hc => strOk_iff.mp h.2 c (m c hc)⟩
theorem txt_hi {n : Nat} {x : Str} (h : TxtOk n x) (j : Nat) : TxtOk n (cutS x none (some (j : Int))) := txt_of h (Nat.le_trans (cutS_length _ _ _) h.1) fun c hc => by
  rw [tl_cut_hi] at hc
  exact List.mem_of_mem_take hc
theorem txt_lo {n : Nat} {x : Str} (h : TxtOk n x) (j : Nat) : TxtOk n (cutS x (some (j : Int)) none) := txt_of h (Nat.le_trans (cutS_length _ _ _) h.1) fun c hc => by
  rw [tl_cut_lo] at hc
  exact List.mem_of_mem_drop hc
theorem txt_lh {n : Nat} {x : Str} (h : TxtOk n x) (i j : Nat) : TxtOk n (cutS x (some (i : Int)) (some (j : Int))) := txt_of h (Nat.le_trans (cutS_length _ _ _) h.1) fun c hc => by
  rw [tl_cut_lh] at hc
  exact List.mem_of_mem_drop (List.mem_of_mem_take hc)
theorem txt_sign {c : Nat} (h : c < 1114112) : TxtOk 1 (⟨#[c]⟩ : Str) := ⟨Nat.le_refl _, strOk_iff.mpr fun d hd => by
  rw [tl_one, List.mem_singleton] at hd
  rw [hd]
  exact h⟩
theorem len_hi (x : Str) (j : Nat) : (cutS x none (some (j : Int))).length = min j x.length := by rw [len_tl, tl_cut_hi, List.length_take, ← len_tl]
theorem len_lo (x : Str) (j : Nat) : (cutS x (some (j : Int)) none).length = x.length - j := by rw [len_tl, tl_cut_lo, List.length_drop, ← len_tl]
theorem flat_len_le (f : Nat → List Nat) (k : Nat) (h : ∀ c, (f c).length ≤ k) : ∀ l : List Nat, (l.flatMap f).length ≤ k * l.length
  | [] => by simp
  | c :: r => by
    have ih := flat_len_le f k h r
    have := h c
    rw [List.flatMap_cons, List.length_append, List.length_cons, Nat.mul_succ]
    omega
theorem txt_repl {n : Nat} {x : Str} (h : TxtOk n x) : TxtOk (2 * n) (Txt.replace x "/" "//") := by
  have e : tl (Txt.replace x "/" "//") = (tl x).flatMap fun c => if c = 47 then [47, 47] else [c] := by
    show (Txt.replace x "/" "//").cps.toList = _
    rw [StrLaws.replace_list (by decide), show ("/" : Str).cps.toList = [47] by decide +kernel, show ("//" : Str).cps.toList = [47, 47] by decide +kernel, repl_one]
  refine ⟨?_, strOk_iff.mpr fun c hc => ?_⟩
  · rw [len_tl, e]
    have := flat_len_le (fun c => if c = 47 then [47, 47] else [c]) 2 (fun c => by split <;> simp) (tl x)
    have := h.1
    rw [len_tl] at this
    omega
  · rw [e] at hc
    obtain ⟨d, hd, hc⟩ := List.mem_flatMap.mp hc
    split at hc
    · simp at hc
      omega
    · rw [List.mem_singleton.mp hc]
      exact strOk_iff.mp h.2 d hd
/-- a text in a list of such texts, by its place -/
theorem at_txt {n : Nat} {ys : List Str} (h : ∀ y ∈ ys, TxtOk n y) {r : Int} (h0 : 0 ≤ r) (h1 : r < ys.length) : ∃ y, atI (ys.map V.str) r = some (.str y) ∧ TxtOk n y ∧ y ∈ ys := by
  obtain ⟨u, rfl⟩ : ∃ u : Nat, r = (u : Int) := ⟨r.toNat, by omega⟩
  have hu : u < ys.length := by omega
  exact ⟨ys[u], atI_nat (by rw [List.getElem?_map, List.getElem?_eq_getElem hu]; rfl), h _ (List.getElem_mem hu), List.getElem_mem hu⟩
end L2

namespace L2
theorem TxtOk.app {n m : Nat} {x y : PySem.Str} (h1 : TxtOk n x) (h2 : TxtOk m y) : TxtOk (n + m) (x ++ y) := txt_append h1 h2
end L2

namespace L2
open PySem PySem.Spec PyProof.Rows TL
theorem txt_join1 {n : Nat} {a : PySem.Str} (ha : TxtOk 1 a) : ∀ {ys : List PySem.Str}, (∀ y ∈ ys, TxtOk n y) → TxtOk ((n + 1) * ys.length) (Txt.join a ys)
  | [], _ => ⟨by rw [join_eq, len_tl, tl_join]; exact Nat.zero_le _, strOk_iff.mpr fun c hc => by rw [join_eq, tl_join] at hc; exact (nomatch hc)⟩
  | [y], h => by
    have hy := h y (List.mem_singleton.mpr rfl)
    refine ⟨?_, strOk_iff.mpr fun c hc => ?_⟩
    · rw [join_eq, len_tl, tl_join]
      have := hy.1
      rw [len_tl] at this
      show (tl y).length ≤ (n + 1) * 1
      omega
    · rw [join_eq, tl_join] at hc
      exact strOk_iff.mp hy.2 c hc
  | y :: z :: r, h => by
    have hy := h y (List.mem_cons_self)
    have ih := txt_join1 ha (ys := z :: r) fun y hy => h y (List.mem_cons_of_mem _ hy)
    have ha1 := ha.1
    have hy1 := hy.1
    have ih1 := ih.1
    rw [join_eq, len_tl, tl_join] at ih1
    rw [len_tl] at ha1 hy1
    refine ⟨?_, strOk_iff.mpr fun c hc => ?_⟩
    · rw [join_eq, len_tl, tl_join]
      show (tl y ++ (tl a ++ joinL (tl a) ((z :: r).map tl))).length ≤ _
      rw [List.length_append, List.length_append]
      show _ ≤ (n + 1) * ((z :: r).length + 1)
      rw [Nat.mul_succ]
      omega
    · rw [join_eq, tl_join] at hc
      have hc : c ∈ tl y ++ (tl a ++ joinL (tl a) ((z :: r).map tl)) := hc
      rcases List.mem_append.mp hc with h1 | h1
      · exact strOk_iff.mp hy.2 c h1
      · rcases List.mem_append.mp h1 with h2 | h2
        · exact strOk_iff.mp ha.2 c h2
        · refine strOk_iff.mp ih.2 c ?_
          rw [join_eq, tl_join]
          exact h2
theorem sum_le_txt {n : Nat} : ∀ {ys : List PySem.Str}, (∀ y ∈ ys, TxtOk n y) → (ys.map (·.length)).sum ≤ n * ys.length
  | [], _ => Nat.zero_le _
  | y :: r, h => by
    have := sum_le_txt (ys := r) fun y hy => h y (List.mem_cons_of_mem _ hy)
    have := (h y (List.mem_cons_self)).1
    rw [List.map_cons, List.sum_cons, List.length_cons, Nat.mul_succ]
    omega
theorem take_true {α : Type} (l : List α) (i : Nat) {c : α} (h : l[i]? = some c) : ((l.take (i + 1)).map fun _ => V.bl true) = ((l.take i).map fun _ => V.bl true) ++ [V.bl true] := by
  rw [List.take_add_one, h, List.map_append]
  rfl
theorem all_true {α : Type} (l : List α) : (l.map fun _ => true).all id = true := by simp
end L2

namespace L2
open PySem PySem.Spec PyProof.Rows
/-- how a call by keywords binds: the positional ones ahead, the keywords in the order of the parameters behind them -/
theorem Fun.kbinds {K : PySem.W.Frag} {x qual : PySem.Str} {st : Stmt} {f : Addr} {fd : FuncData} {ps ks : List PySem.Str} (F : Fun K x qual st f fd)
    (h : ∀ (kV doc pm : Value) (an : Option Addr) (cdv ct : Value) (us ws : List Value), (us ++ ws).length = ps.length → bindArgs (PySem.W.fnOf x qual (defArgs st) (defBody st) (defScope st) .none kV doc pm an cdv ct) ⟨us, ks.zip ws⟩ = pure (ps.zip (us ++ ws))) :
    KBinds K fd ps ks (fun us ws => us ++ ws) (fun vs zs => vs ++ zs) := by
  obtain ⟨oc, od, kV, doc, pm, an, cdv, ct, osl, rfl, lk, hcd⟩ := F.ex
  exact ⟨fun s us ws _ hl => .of_eq (h kV doc pm an cdv ct us ws hl), fun r1 r2 => r1.append r2⟩
end L2

namespace L2
open PySem PySem.Spec PyProof.Rows
theorem bits_lt {ns : List Int} (h : ∀ z ∈ ns, Builtin.Int.intBits z ≤ 1048576) : ∀ z ∈ ns, z.natAbs < 2 ^ 1048576 := fun z hz => PySem.intBits_le_iff.mp (h z hz)
theorem tup_in {K : PySem.W.Frag} {a : Addr} {o : Obj} {its : Array Value} {n : Nat} {xs : List V} (l : K.lookup a = some o) (c : o.cls = .type "tuple") (d : o.data = .seq its n) (s : its.size ≤ sizeLine) (r : Vals xs its.toList) : ∃ (o : Obj) (its : Array Value) (n : Nat), K.lookup a = some o ∧ o.cls = .type "tuple" ∧ o.data = .seq its n ∧ its.size ≤ sizeLine ∧ Vals xs its.toList := ⟨o, its, n, l, c, d, s, r⟩
end L2

/-! the data layer: environments of data, owned cells; what a reading asks, without a heap -/
namespace L2
open PySem PySem.Spec PyProof.Rows

/-! ### data that is well made -/
def wfD : PyData → Bool
  | .str z => decide (z.length ≤ sizeLine) && PyData.strOk z
  | .list ds => decide (ds.length ≤ sizeLine) && wfAll ds
  | .tuple ds => decide (ds.length ≤ sizeLine) && wfAll ds
  | .dict _ => false
  | .none => true
  | .bool _ => true
  | .int _ => true
where wfAll : List PyData → Bool
  | [] => true
  | d :: ds => wfD d && wfAll ds
abbrev wfs := wfD.wfAll
theorem wfs_iff : ∀ {ds : List PyData}, wfs ds = true ↔ ∀ d ∈ ds, wfD d = true
  | [] => by simp [wfs, wfD.wfAll]
  | d :: ds => by
    have ih := wfs_iff (ds := ds)
    show (wfD d && wfs ds) = true ↔ _
    rw [Bool.and_eq_true, ih]
    simp
theorem wfs_get {ds : List PyData} {i : Nat} {d : PyData} (h : wfs ds = true) (e : ds[i]? = some d) : wfD d = true := wfs_iff.mp h d (List.mem_of_getElem? e)
theorem wf_str {z : Str} : wfD (.str z) = true ↔ z.length ≤ sizeLine ∧ PyData.strOk z = true := by
  unfold wfD
  rw [Bool.and_eq_true, decide_eq_true_iff]
theorem wf_list {ds : List PyData} : wfD (.list ds) = true ↔ ds.length ≤ sizeLine ∧ wfs ds = true := by
  unfold wfD
  rw [Bool.and_eq_true, decide_eq_true_iff]
theorem wf_tup {ds : List PyData} : wfD (.tuple ds) = true ↔ ds.length ≤ sizeLine ∧ wfs ds = true := by
  unfold wfD
  rw [Bool.and_eq_true, decide_eq_true_iff]
mutual
theorem wf_lay : ∀ d : PyData, wfD d = true → d.canLay0 = true
  | .none, _ => by simp [PyData.canLay0]
  | .bool _, _ => by simp [PyData.canLay0]
  | .int _, _ => by simp [PyData.canLay0]
  | .str z, h => by rw [PyData.canLay0]; exact (wf_str.mp h).2
  | .list ds, h => by rw [PyData.canLay0]; exact wfs_lay ds (wf_list.mp h).2
  | .tuple ds, h => by rw [PyData.canLay0]; exact wfs_lay ds (wf_tup.mp h).2
  | .dict _, h => by unfold wfD at h; exact (Bool.false_ne_true h).elim
theorem wfs_lay : ∀ ds : List PyData, wfs ds = true → PyData.canLayAll0 ds = true
  | [], _ => by simp [PyData.canLayAll0]
  | d :: ds, h => by
    have h2 := Bool.and_eq_true_iff.mp (show (wfD d && wfs ds) = true from h)
    rw [PyData.canLayAll0, wf_lay d h2.1, wfs_lay ds h2.2]
    rfl
end
theorem wf_shaped {d : PyData} (h : wfD d = true) (l : PyData.depth d ≤ 64) : SeqAt.shaped d = true := by
  unfold SeqAt.shaped
  rw [wf_lay d h, decide_eq_true l]
  rfl

end L2
namespace DL
abbrev St := L2.St
abbrev Key := L2.Key
open PySem PySem.Spec PyProof.Rows L2
/-! ### slots by data -/
inductive Own where
  | lst (ds : List PyData)
  | dct (kvs : List (Key × PyData))
  | box (k : Nat)
inductive SV where
  | d (x : PyData)
  | v (x : V)
  | own (o : Own)
  | par (o : Own)
  | al (i : Nat)
  | no
abbrev Env := List SV
def isHeld : SV → Bool
  | .own _ => true
  | .par _ => true
  | _ => false
def Held (σ : St) (e : Env) (i : Nat) (a : Addr) : Prop := σ[i]? = some (some (.ref a)) ∧ ∃ s, e[i]? = some s ∧ isHeld s = true
/-! a value's data: lists are tracked -/
mutual
inductive Dq (K : PySem.W.Frag) (H : Hp) : V → PyData → Prop
  | non : Dq K H .non .none
  | bl (b : Bool) : Dq K H (.bl b) (.bool b)
  | int (i : Int) : Dq K H (.int i) (.int i)
  | str (x : Str) : Dq K H (.str x) (.str x)
  | lst {a : Addr} {xs : List V} {ds : List PyData} : H a = some (.lst xs) → DqAll K H xs ds → Dq K H (.ref a) (.list ds)
  | tup {a : Addr} {xs : List V} {ds : List PyData} : SqT K H a xs → DqAll K H xs ds → Dq K H (.ref a) (.tuple ds)
inductive DqAll (K : PySem.W.Frag) (H : Hp) : List V → List PyData → Prop
  | nil : DqAll K H [] []
  | cons {v : V} {vs : List V} {d : PyData} {ds : List PyData} : Dq K H v d → DqAll K H vs ds → DqAll K H (v :: vs) (d :: ds)
end
mutual
theorem Dq.dp {K : PySem.W.Frag} {H : Hp} : ∀ {v : V} {d : PyData}, Dq K H v d → Dp K H v d
  | _, _, .non => .non
  | _, _, .bl b => .bl b
  | _, _, .int i => .int i
  | _, _, .str x => .str x
  | _, _, .lst h r => .lst (SqL.of h) (DqAll.dp r)
  | _, _, .tup h r => .tup h (DqAll.dp r)
theorem DqAll.dp {K : PySem.W.Frag} {H : Hp} : ∀ {vs : List V} {ds : List PyData}, DqAll K H vs ds → DpAll K H vs ds
  | _, _, .nil => .nil
  | _, _, .cons h r => .cons (Dq.dp h) (DqAll.dp r)
end
mutual
theorem Dq.mono {K : PySem.W.Frag} {H H' : Hp} (s : Same H H') : ∀ {v : V} {d : PyData}, Dq K H v d → Dq K H' v d
  | _, _, .non => .non
  | _, _, .bl b => .bl b
  | _, _, .int i => .int i
  | _, _, .str x => .str x
  | _, _, .lst h r => .lst (s _ _ h) (DqAll.mono s r)
  | _, _, .tup h r => .tup (s.sqt h) (DqAll.mono s r)
theorem DqAll.mono {K : PySem.W.Frag} {H H' : Hp} (s : Same H H') : ∀ {vs : List V} {ds : List PyData}, DqAll K H vs ds → DqAll K H' vs ds
  | _, _, .nil => .nil
  | _, _, .cons h r => .cons (Dq.mono s h) (DqAll.mono s r)
end
theorem DqAll.len {K : PySem.W.Frag} {H : Hp} : ∀ {vs : List V} {ds : List PyData}, DqAll K H vs ds → vs.length = ds.length
  | _, _, .nil => rfl
  | _, _, .cons _ r => congrArg Nat.succ (DqAll.len r)
theorem DqAll.get {K : PySem.W.Frag} {H : Hp} : ∀ {vs : List V} {ds : List PyData} {i : Nat} {d : PyData}, DqAll K H vs ds → ds[i]? = some d → ∃ v, vs[i]? = some v ∧ Dq K H v d
  | _, _, _, _, .nil, e => by simp at e
  | _, _, 0, _, .cons h r, e => by
    simp at e
    subst e
    exact ⟨_, rfl, h⟩
  | _, _, i + 1, _, .cons h r, e => by
    obtain ⟨v, h1, h2⟩ := DqAll.get (i := i) r (by simpa using e)
    exact ⟨v, by simpa using h1, h2⟩
theorem DqAll.app {K : PySem.W.Frag} {H : Hp} : ∀ {vs ws : List V} {ds es : List PyData}, DqAll K H vs ds → DqAll K H ws es → DqAll K H (vs ++ ws) (ds ++ es)
  | _, _, _, _, .nil, s => s
  | _, _, _, _, .cons h r, s => .cons h (DqAll.app r s)
theorem DqAll.take {K : PySem.W.Frag} {H : Hp} : ∀ {vs : List V} {ds : List PyData} (n : Nat), DqAll K H vs ds → DqAll K H (vs.take n) (ds.take n)
  | _, _, 0, _ => .nil
  | _, _, n + 1, .nil => .nil
  | _, _, n + 1, .cons h r => .cons h (DqAll.take n r)
theorem DqAll.drop {K : PySem.W.Frag} {H : Hp} : ∀ {vs : List V} {ds : List PyData} (n : Nat), DqAll K H vs ds → DqAll K H (vs.drop n) (ds.drop n)
  | _, _, 0, r => r
  | _, _, n + 1, .nil => .nil
  | _, _, n + 1, .cons h r => DqAll.drop n r
theorem DqAll.rev {K : PySem.W.Frag} {H : Hp} : ∀ {vs : List V} {ds : List PyData}, DqAll K H vs ds → DqAll K H vs.reverse ds.reverse
  | _, _, .nil => .nil
  | _, _, .cons h r => by
    rw [List.reverse_cons, List.reverse_cons]
    exact (DqAll.rev r).app (.cons h .nil)
theorem DqAll.set {K : PySem.W.Frag} {H : Hp} {v : V} {d : PyData} (h : Dq K H v d) : ∀ {vs : List V} {ds : List PyData} (n : Nat), DqAll K H vs ds → DqAll K H (vs.set n v) (ds.set n d)
  | _, _, _, .nil => .nil
  | _, _, 0, .cons _ r => .cons h r
  | _, _, n + 1, .cons g r => .cons g (DqAll.set h n r)
theorem DqAll.strs {K : PySem.W.Frag} {H : Hp} : ∀ ys : List Str, DqAll K H (ys.map V.str) (ys.map PyData.str)
  | [] => .nil
  | y :: r => .cons (.str y) (DqAll.strs r)
theorem DqAll.of_strs {K : PySem.W.Frag} {H : Hp} : ∀ {vs : List V} {ys : List Str}, DqAll K H vs (ys.map PyData.str) → vs = ys.map V.str
  | _, [], .nil => rfl
  | _, y :: r, .cons h t => by cases h; rw [DqAll.of_strs t]; rfl
theorem DqAll.of_bls {K : PySem.W.Frag} {H : Hp} : ∀ {vs : List V} {ys : List Bool}, DqAll K H vs (ys.map PyData.bool) → vs = ys.map V.bl
  | _, [], .nil => rfl
  | _, y :: r, .cons h t => by cases h; rw [DqAll.of_bls t]; rfl
theorem DqAll.of_ints {K : PySem.W.Frag} {H : Hp} : ∀ {vs : List V} {ys : List Int}, DqAll K H vs (ys.map PyData.int) → vs = ys.map V.int
  | _, [], .nil => rfl
  | _, y :: r, .cons h t => by cases h; rw [DqAll.of_ints t]; rfl
/-- data that stands -/
def Dw (K : PySem.W.Frag) (H : Hp) (v : V) (x : PyData) : Prop := Dq K H v x ∧ wfD x = true
def Dws (K : PySem.W.Frag) (H : Hp) (vs : List V) (xs : List PyData) : Prop := DqAll K H vs xs ∧ wfs xs = true
def RelOwn (K : PySem.W.Frag) (Hs H : Hp) (a : Addr) : Own → Prop
  | .lst ds => ∃ vs, H a = some (.lst vs) ∧ Dws K Hs vs ds ∧ ds.length ≤ sizeLine
  | .dct kvs => ∃ ws, H a = some (.dK ws) ∧ Paired (fun (p : Key × V) (q : Key × PyData) => p.1 = q.1 ∧ Dw K Hs p.2 q.2) ws kvs
  | .box k => BoxAt H a k
def RelS (K : PySem.W.Frag) (Hs H : Hp) (o : Option V) : SV → Prop
  | .d x => ∃ v, o = some v ∧ Dw K Hs v x
  | .v x => o = some x
  | .own c => ∃ a, o = some (.ref a) ∧ Hs a = none ∧ RelOwn K Hs H a c
  | .par c => ∃ a, o = some (.ref a) ∧ Hs a = none ∧ RelOwn K Hs H a c
  | .al _ => False
  | .no => True
structure StR (K : PySem.W.Frag) (Hs H : Hp) (σ : St) (e : Env) : Prop where
  sub : Same Hs H
  len : σ.length = e.length
  rel : ∀ (i : Nat) (s : SV), e[i]? = some s → ∃ o, σ[i]? = some o ∧ RelS K Hs H o s
  dis : ∀ (i j : Nat) (a : Addr), Held σ e i a → Held σ e j a → i = j
/-! ### steps -/
structure GoP (M : Addr → Prop) (Hs H Hs' H' : Hp) : Prop where
  p : Same Hs Hs'
  new : ∀ a, Hs' a ≠ none → Hs a = none → H a = none ∨ M a
  keep : ∀ a o, ¬ M a → H a = some o → H' a = some o
  there : ∀ a, H a ≠ none → H' a ≠ none
structure Fw (K : PySem.W.Frag) (Hs H : Hp) (σ : St) (e : Env) (Hs' H' : Hp) (σ' : St) (e' : Env) : Prop where
  st : StR K Hs' H' σ' e'
  go : GoP (fun a => ∃ i, Held σ e i a) Hs H Hs' H'
  held : ∀ (i : Nat) (a : Addr), Held σ' e' i a → (∃ j, Held σ e j a) ∨ H a = none
  par : ∀ (i : Nat) (o : Own), e[i]? = some (.par o) → σ'[i]? = σ[i]? ∧ ∃ o', e'[i]? = some (.par o')
section
variable {K : PySem.W.Frag} {Hs H Hs' H' Hs2 H2 : Hp} {σ σ' σ2 : St} {e e' e2 : Env} {v w : V} {x y : SV} {a : Addr} {d : PyData} {M M2 : Addr → Prop}
theorem Dw.mono (s : Same H H') (h : Dw K H v d) : Dw K H' v d := ⟨h.1.mono s, h.2⟩
theorem Dws.mono {vs : List V} {ds : List PyData} (s : Same H H') (h : Dws K H vs ds) : Dws K H' vs ds := ⟨h.1.mono s, h.2⟩
theorem GoP.refl : GoP M Hs H Hs H := ⟨Same.refl _, fun _ h1 h2 => absurd h2 h1, fun _ _ _ h => h, fun _ h => h⟩
theorem GoP.trans (g : GoP M Hs H Hs' H') (c : GoP M2 Hs' H' Hs2 H2) (h : ∀ a, M2 a → M a ∨ H a = none) : GoP M Hs H Hs2 H2 where
  p := g.p.trans c.p
  new := fun a h1 h2 => by
    cases e : Hs' a with
    | none =>
      rcases c.new a h1 e with h3 | h3
      · cases e2 : H a with
        | none => exact .inl rfl
        | some u => exact absurd h3 (g.there a (some_ne e2))
      · exact (h a h3).symm
    | some u => exact g.new a (some_ne e) h2
  keep := fun a u h1 h2 => by
    refine c.keep a u (fun z => ?_) (g.keep a u h1 h2)
    rcases h a z with h | h
    · exact h1 h
    · rw [h] at h2; cases h2
  there := fun a h => c.there a (g.there a h)
theorem GoP.mono (g : GoP M Hs H Hs' H') (h : ∀ a, M a → M2 a) : GoP M2 Hs H Hs' H' := ⟨g.p, fun a h1 h2 => (g.new a h1 h2).imp id (h a), fun a u h1 h2 => g.keep a u (fun z => h1 (h a z)) h2, g.there⟩
theorem gp_of {N : List Addr} (g : Go N Hs H Hs' H') : GoP (fun a => a ∈ N) Hs H Hs' H' := ⟨g.p, fun a h1 h2 => .inl (g.new a h1 h2), g.keep, g.there⟩
theorem Fw.refl (s : StR K Hs H σ e) : Fw K Hs H σ e Hs H σ e := ⟨s, GoP.refl, fun i a h => .inl ⟨i, h⟩, fun i o h => ⟨rfl, o, h⟩⟩
theorem Fw.trans (g : Fw K Hs H σ e Hs' H' σ' e') (c : Fw K Hs' H' σ' e' Hs2 H2 σ2 e2) : Fw K Hs H σ e Hs2 H2 σ2 e2 where
  st := c.st
  go := g.go.trans c.go fun a ⟨i, h⟩ => g.held i a h
  held := fun i a h => by
    rcases c.held i a h with ⟨j, h⟩ | h
    · exact g.held j a h
    · cases e2 : H a with
      | none => exact .inr rfl
      | some u => exact absurd h (g.go.there a (some_ne e2))
  par := fun i o h => by
    obtain ⟨h1, o', h2⟩ := g.par i o h
    obtain ⟨h3, o2, h4⟩ := c.par i o' h2
    exact ⟨h3.trans h1, o2, h4⟩
theorem RelOwn.ex {c : Own} (h : RelOwn K Hs H a c) : ∃ o, H a = some o := by
  cases c with
  | lst ds => obtain ⟨vs, h, _⟩ := h; exact ⟨_, h⟩
  | dct kvs => obtain ⟨vs, h, _⟩ := h; exact ⟨_, h⟩
  | box k => exact BoxAt.some h
theorem Paired.imp {α β : Type} {R R2 : α → β → Prop} (f : ∀ a b, R a b → R2 a b) : ∀ {xs : List α} {ys : List β}, Paired R xs ys → Paired R2 xs ys
  | _, _, .nil => .nil
  | _, _, .cons h t => .cons (f _ _ h) (Paired.imp f t)
theorem RelOwn.keep {c : Own} (h : RelOwn K Hs H a c) (s : Same Hs Hs') (k : ∀ o, H a = some o → H' a = some o) : RelOwn K Hs' H' a c := by
  cases c with
  | lst ds => obtain ⟨vs, h1, h2, h3⟩ := h; exact ⟨vs, k _ h1, h2.mono s, h3⟩
  | dct kvs => obtain ⟨vs, h1, h2⟩ := h; exact ⟨vs, k _ h1, Paired.imp (fun p q z => ⟨z.1, z.2.mono s⟩) h2⟩
  | box n => obtain ⟨x, y, z, h1, h2⟩ := h; exact ⟨x, y, z, k _ h1, h2⟩
theorem StR.held (s : StR K Hs H σ e) {i : Nat} (h : Held σ e i a) : Hs a = none ∧ ∃ c, RelOwn K Hs H a c ∧ (e[i]? = some (.own c) ∨ e[i]? = some (.par c)) := by
  obtain ⟨h1, t, h2, h3⟩ := h
  obtain ⟨o, h4, h5⟩ := s.rel i t h2
  rw [h1] at h4
  cases h4
  cases t with
  | own c => obtain ⟨b, e1, e2, e3⟩ := h5; cases e1; exact ⟨e2, c, e3, .inl h2⟩
  | par c => obtain ⟨b, e1, e2, e3⟩ := h5; cases e1; exact ⟨e2, c, e3, .inr h2⟩
  | _ => cases h3
theorem StR.heldSome (s : StR K Hs H σ e) {i : Nat} (h : Held σ e i a) : ∃ o, H a = some o := (s.held h).2.choose_spec.1.ex
end

/-! ### values -/
/-- a value of an expression that was begun at H0 -/
def RelX (K : PySem.W.Frag) (H0 Hs H : Hp) (σ : St) (e : Env) (v : V) : SV → Prop
  | .d x => Dw K Hs v x
  | .v w => v = w
  | .own c => ∃ a, v = .ref a ∧ Hs a = none ∧ RelOwn K Hs H a c ∧ H0 a = none ∧ ∀ i, ¬ Held σ e i a
  | .al i => σ[i]? = some (some v)
  | .par _ => False
  | .no => False
/-- values of an argument list: those that are owned stand apart -/
inductive RelXs (K : PySem.W.Frag) (H0 Hs H : Hp) (σ : St) (e : Env) : List V → List SV → Prop
  | nil : RelXs K H0 Hs H σ e [] []
  | cons {v : V} {x : SV} {vs : List V} {xs : List SV} : RelX K H0 Hs H σ e v x → RelXs K H0 Hs H σ e vs xs → (isHeld x = true → ∀ (j : Nat) (y : SV), xs[j]? = some y → isHeld y = true → vs[j]? ≠ some v) → RelXs K H0 Hs H σ e (v :: vs) (x :: xs)
section
variable {K : PySem.W.Frag} {H0 Hs H Hs' H' Hs2 H2 : Hp} {σ σ' σ2 : St} {e0 e e' e2 : Env} {v w : V} {x y : SV} {a : Addr} {d : PyData}
/-- a value stays while the rest is reckoned -/
theorem RelX.keep (h : RelX K H0 Hs H σ e v x) (g : Fw K Hs H σ e Hs' H' σ e') : RelX K H0 Hs' H' σ e' v x := by
  cases x with
  | d x => exact Dw.mono g.go.p h
  | v w => exact h
  | own c =>
    obtain ⟨a, e1, e2, e3, e4, nh⟩ := h
    obtain ⟨o, eo⟩ := RelOwn.ex (c := c) e3
    refine ⟨a, e1, ?_, RelOwn.keep (c := c) e3 g.go.p (fun u hu => g.go.keep a u (fun ⟨i, hi⟩ => nh i hi) hu), e4, fun i hi => ?_⟩
    · cases q : Hs' a with
      | none => rfl
      | some u =>
        rcases g.go.new a (some_ne q) e2 with z | ⟨i, z⟩
        · rw [eo] at z; cases z
        · exact absurd z (nh i)
    · rcases g.held i a hi with ⟨j, z⟩ | z
      · exact nh j z
      · rw [eo] at z; cases z
  | al i => exact h
  | par c => exact h
  | no => exact h
/-- from an earlier beginning -/
theorem RelX.back (h : RelX K H0 Hs H σ e v x) (t : ∀ a, H2 a ≠ none → H0 a ≠ none) : RelX K H2 Hs H σ e v x := by
  cases x with
  | own c =>
    obtain ⟨a, e1, e2, e3, e4, nh⟩ := h
    refine ⟨a, e1, e2, e3, ?_, nh⟩
    cases q : H2 a with
    | none => rfl
    | some u => exact absurd e4 (t a (some_ne q))
  | d x => exact h
  | v w => exact h
  | al i => exact h
  | par c => exact h
  | no => exact h
theorem RelXs.back {vs : List V} {xs : List SV} (t : ∀ a, H2 a ≠ none → H0 a ≠ none) (h : RelXs K H0 Hs H σ e vs xs) : RelXs K H2 Hs H σ e vs xs := by
  induction h with
  | nil => exact .nil
  | cons h1 h2 h3 ih => exact .cons (h1.back t) ih h3

end
/-! ### readings of data -/
abbrev DK := SV → Env → Prop
abbrev DE := Env → DK → Prop
abbrev DT := Env → (Bool → Env → Prop) → Prop
abbrev DA := Env → (List SV → Env → Prop) → Prop
structure DEnds where
  nx : Env → Prop
  rt : SV → Env → Prop
  bk : Env → Prop := fun _ => False
  ct : Env → Prop := fun _ => False
abbrev DS := DEnds → Env → Prop
abbrev DG := SV → Env → (Env → Prop) → Prop
abbrev DGs := List PyData → Env → (Env → Prop) → Prop
abbrev DI := Env → (List PyData → Env → Prop) → Prop
abbrev DO := Env → (Option Int → Env → Prop) → Prop
abbrev DSp := List SV → (SV → List SV → Prop) → Prop
def SimE (K : PySem.W.Frag) (t : TE) (u : DE) : Prop := ∀ (Hs H : Hp) (σ : St) (e : Env) (Q : VK) (k : DK), StR K Hs H σ e → u e k →
  (∀ v x Hs' H' e', Fw K Hs H σ e Hs' H' σ e' → RelX K H Hs' H' σ e' v x → k x e' → Q v H') → t σ H Q
def SimT (K : PySem.W.Frag) (t : TT) (u : DT) : Prop := ∀ (Hs H : Hp) (σ : St) (e : Env) (Q : Bool → Hp → Prop) (k : Bool → Env → Prop), StR K Hs H σ e → u e k →
  (∀ b Hs' H' e', Fw K Hs H σ e Hs' H' σ e' → k b e' → Q b H') → t σ H Q
def SimA (K : PySem.W.Frag) (t : TA) (u : DA) : Prop := ∀ (Hs H : Hp) (σ : St) (e : Env) (Q : List V → Hp → Prop) (k : List SV → Env → Prop), StR K Hs H σ e → u e k →
  (∀ vs xs Hs' H' e', Fw K Hs H σ e Hs' H' σ e' → RelXs K H Hs' H' σ e' vs xs → k xs e' → Q vs H') → t σ H Q
def SimO (K : PySem.W.Frag) (t : TO) (u : DO) : Prop := ∀ (Hs H : Hp) (σ : St) (e : Env) (Q : Option Int → Hp → Prop) (k : Option Int → Env → Prop), StR K Hs H σ e → u e k →
  (∀ o Hs' H' e', Fw K Hs H σ e Hs' H' σ e' → k o e' → Q o H') → t σ H Q
def SimG (K : PySem.W.Frag) (t : TG) (u : DG) : Prop := ∀ (Hs0 H0 : Hp) (σ0 : St) (e0 : Env) (Hs H : Hp) (σ : St) (e : Env) (v : V) (x : SV) (Q : St → Hp → Prop) (k : Env → Prop), Fw K Hs0 H0 σ0 e0 Hs H σ e → RelX K H0 Hs H σ e v x → u x e k →
  (∀ σ' Hs' H' e', Fw K Hs0 H0 σ0 e0 Hs' H' σ' e' → Same Hs Hs' → k e' → Q σ' H') → t v σ H Q
def SimGs (K : PySem.W.Frag) (t : TGs) (u : DGs) : Prop := ∀ (Hs0 H0 : Hp) (σ0 : St) (e0 : Env) (Hs H : Hp) (σ : St) (e : Env) (vs : List V) (ds : List PyData) (Q : St → Hp → Prop) (k : Env → Prop), Fw K Hs0 H0 σ0 e0 Hs H σ e → Dws K Hs vs ds → u ds e k →
  (∀ σ' Hs' H' e', Fw K Hs0 H0 σ0 e0 Hs' H' σ' e' → Same Hs Hs' → k e' → Q σ' H') → t vs σ H Q
structure SimD (K : PySem.W.Frag) (Hs H : Hp) (σ : St) (e : Env) (D : Ends) (dD : DEnds) : Prop where
  nx : ∀ σ' Hs' H' e', Fw K Hs H σ e Hs' H' σ' e' → dD.nx e' → D.nx σ' H'
  rt : ∀ v x σ' Hs' H' e', Fw K Hs H σ e Hs' H' σ' e' → RelX K H Hs' H' σ' e' v x → dD.rt x e' → D.rt v H'
  bk : ∀ σ' Hs' H' e', Fw K Hs H σ e Hs' H' σ' e' → dD.bk e' → D.bk σ' H'
  ct : ∀ σ' Hs' H' e', Fw K Hs H σ e Hs' H' σ' e' → dD.ct e' → D.ct σ' H'
def SimS (K : PySem.W.Frag) (t : TS) (u : DS) : Prop := ∀ (Hs H : Hp) (σ : St) (e : Env) (D : Ends) (dD : DEnds), StR K Hs H σ e → u dD e → SimD K Hs H σ e D dD → t D σ H
/-- an expression that is handed on as data -/
abbrev DD := Env → (PyData → Env → Prop) → Prop
def SimV (K : PySem.W.Frag) (t : TE) (u : DD) : Prop := ∀ (Hs H : Hp) (σ : St) (e : Env) (Q : VK) (k : PyData → Env → Prop), StR K Hs H σ e → u e k →
  (∀ v d Hs' H' e', Fw K Hs H σ e Hs' H' σ e' → Dw K Hs' v d → k d e' → Q v H') → t σ H Q

/-! ### steps of the state -/
section
variable {K : PySem.W.Frag} {H0 Hs H Hs' H' Hs2 H2 : Hp} {σ σ' σ2 : St} {e0 e e' e2 : Env} {v w : V} {x y : SV} {a p : Addr} {d : PyData} {o : HO} {Q : VK} {k : DK}
theorem StR.to (s : StR K Hs H σ e) (sb : Same Hs' H') (pp : Same Hs Hs') (kk : ∀ (i : Nat) (a : Addr), Held σ e i a → Hs' a = none ∧ ∀ o, H a = some o → H' a = some o) : StR K Hs' H' σ e where
  sub := sb
  len := s.len
  dis := s.dis
  rel := fun i t ht => by
    obtain ⟨o, h1, h2⟩ := s.rel i t ht
    refine ⟨o, h1, ?_⟩
    cases t with
    | d x => obtain ⟨v, e1, e2⟩ := h2; exact ⟨v, e1, e2.mono pp⟩
    | v x => exact h2
    | own c =>
      obtain ⟨a, e1, e2, e3⟩ := h2
      obtain ⟨q1, q2⟩ := kk i a ⟨by rw [h1, e1], _, ht, rfl⟩
      exact ⟨a, e1, q1, RelOwn.keep (c := c) e3 pp q2⟩
    | par c =>
      obtain ⟨a, e1, e2, e3⟩ := h2
      obtain ⟨q1, q2⟩ := kk i a ⟨by rw [h1, e1], _, ht, rfl⟩
      exact ⟨a, e1, q1, RelOwn.keep (c := c) e3 pp q2⟩
    | al j => exact h2
    | no => exact h2
/-- the heap grows -/
theorem StR.ext (s : StR K Hs H σ e) (g : GoP (fun _ => False) Hs H Hs' H') (sb : Same Hs' H') : Fw K Hs H σ e Hs' H' σ e := by
  have kk : ∀ (i : Nat) (a : Addr), Held σ e i a → Hs' a = none ∧ ∀ o, H a = some o → H' a = some o := fun i a h => by
    obtain ⟨h1, _⟩ := s.held h
    obtain ⟨o, eo⟩ := s.heldSome h
    refine ⟨?_, fun u hu => g.keep a u (fun z => z) hu⟩
    cases q : Hs' a with
    | none => rfl
    | some u =>
      rcases g.new a (some_ne q) h1 with z | z
      · rw [eo] at z; cases z
      · exact z.elim
  exact ⟨s.to sb g.p kk, g.mono fun _ z => z.elim, fun i a h => .inl ⟨i, h⟩, fun i o h => ⟨rfl, o, h⟩⟩
theorem gp_cell (s : Same Hs H) (hp : H p = none) : GoP (fun _ => False) Hs H Hs (upd H p o) ∧ Same Hs (upd H p o) := ⟨(gp_of (Go.cell (M := []) s hp)).mono (fun _ z => nomatch z), (Go.cell (M := []) s hp).sub⟩
theorem gp_laid (s : Same Hs H) (hp : H p = none) : GoP (fun _ => False) Hs H (upd Hs p o) (upd H p o) ∧ Same (upd Hs p o) (upd H p o) := ⟨(gp_of (Go.laid (M := []) s hp)).mono (fun _ z => nomatch z), (Go.laid (M := []) s hp).sub⟩
/-- what stands for ever grows by things of the frame that nobody holds -/
theorem Fw.stand (f : Fw K Hs H σ e Hs' H' σ' e') (sb : Same Hs2 H') (pp : Same Hs' Hs2) (nw : ∀ a, Hs2 a ≠ none → Hs' a = none → H a = none ∨ ∃ i, Held σ e i a) (nh : ∀ (i : Nat) (a : Addr), Held σ' e' i a → Hs2 a = none) : Fw K Hs H σ e Hs2 H' σ' e' := by
  refine ⟨f.st.to sb pp fun i a h => ⟨nh i a h, fun _ z => z⟩, ⟨f.go.p.trans pp, fun a h1 h2 => ?_, f.go.keep, f.go.there⟩, f.held, f.par⟩
  cases q : Hs' a with
  | none => exact nw a h1 q
  | some u => exact f.go.new a (some_ne q) h2
/-- a slot's value is otherwise -/
theorem held_set {i j : Nat} {s : SV} {w : Option V} (h : Held (σ.set i w) (e.set i s) j a) : (j = i ∧ w = some (.ref a) ∧ isHeld s = true) ∨ (j ≠ i ∧ Held σ e j a) := by
  obtain ⟨h1, t, h2, h3⟩ := h
  by_cases hj : i = j
  · subst hj
    refine .inl ⟨rfl, ?_, ?_⟩
    · rw [List.getElem?_set] at h1
      simp at h1
      exact h1.2
    · rw [List.getElem?_set] at h2
      simp at h2
      rw [h2.2]; exact h3
  · rw [List.getElem?_set_ne hj] at h1 h2
    exact .inr ⟨fun z => hj z.symm, h1, t, h2, h3⟩
theorem held_setE {i j : Nat} {s : SV} (h : Held σ (e.set i s) j a) : (j = i ∧ σ[i]? = some (some (.ref a)) ∧ isHeld s = true) ∨ (j ≠ i ∧ Held σ e j a) := by
  obtain ⟨h1, t, h2, h3⟩ := h
  by_cases hj : i = j
  · subst hj
    rw [List.getElem?_set] at h2
    simp at h2
    exact .inl ⟨rfl, h1, by rw [h2.2]; exact h3⟩
  · rw [List.getElem?_set_ne hj] at h2
    exact .inr ⟨fun z => hj z.symm, h1, t, h2, h3⟩
def notPar (e : Env) (i : Nat) : Bool := match e[i]? with
  | some (.par _) => false
  | some _ => true
  | none => false
theorem notPar_lt {i : Nat} (h : notPar e i = true) : i < e.length := by
  unfold notPar at h
  cases q : e[i]? with
  | none => rw [q] at h; cases h
  | some s => exact (List.getElem?_eq_some_iff.mp q).1
/-- a local's value is data or a thing that never changes -/
theorem Fw.setD (f : Fw K Hs H σ e Hs' H' σ' e') {i : Nat} {s : SV} {w : V} (hn : notPar e' i = true) (hr : RelS K Hs' H' (some w) s) (hh : isHeld s = false) : Fw K Hs H σ e Hs' H' (σ'.set i (some w)) (e'.set i s) := by
  have hl := notPar_lt hn
  have hl2 : i < σ'.length := by rw [f.st.len]; exact hl
  refine ⟨⟨f.st.sub, by rw [List.length_set, List.length_set]; exact f.st.len, fun j t ht => ?_, fun j l a h1 h2 => ?_⟩, f.go, fun j a h => ?_, fun j o h => ?_⟩
  · by_cases hj : i = j
    · subst hj
      rw [List.getElem?_set_self hl] at ht
      cases ht
      exact ⟨_, List.getElem?_set_self hl2, hr⟩
    · rw [List.getElem?_set_ne hj] at ht
      rw [List.getElem?_set_ne hj]
      exact f.st.rel j t ht
  · rcases held_set h1 with ⟨_, _, z⟩ | ⟨_, h1⟩
    · rw [hh] at z; cases z
    · rcases held_set h2 with ⟨_, _, z⟩ | ⟨_, h2⟩
      · rw [hh] at z; cases z
      · exact f.st.dis j l a h1 h2
  · rcases held_set h with ⟨_, _, z⟩ | ⟨_, h⟩
    · rw [hh] at z; cases z
    · exact f.held j a h
  · obtain ⟨h1, o', h2⟩ := f.par j o h
    have hj : i ≠ j := fun z => by
      subst z
      unfold notPar at hn
      rw [h2] at hn
      cases hn
    exact ⟨by rw [List.getElem?_set_ne hj]; exact h1, o', by rw [List.getElem?_set_ne hj]; exact h2⟩
/-- a local takes a new owned thing -/
theorem Fw.setO (f : Fw K Hs H σ e Hs' H' σ' e') {i : Nat} {c : Own} (hn : notPar e' i = true) (ha : Hs' a = none) (hr : RelOwn K Hs' H' a c) (h0 : H a = none) (nh : ∀ i, ¬ Held σ' e' i a) : Fw K Hs H σ e Hs' H' (σ'.set i (some (.ref a))) (e'.set i (.own c)) := by
  have hl := notPar_lt hn
  have hl2 : i < σ'.length := by rw [f.st.len]; exact hl
  refine ⟨⟨f.st.sub, by rw [List.length_set, List.length_set]; exact f.st.len, fun j t ht => ?_, fun j l b h1 h2 => ?_⟩, f.go, fun j b h => ?_, fun j o h => ?_⟩
  · by_cases hj : i = j
    · subst hj
      rw [List.getElem?_set_self hl] at ht
      cases ht
      exact ⟨_, List.getElem?_set_self hl2, a, rfl, ha, hr⟩
    · rw [List.getElem?_set_ne hj] at ht
      rw [List.getElem?_set_ne hj]
      exact f.st.rel j t ht
  · rcases held_set h1 with ⟨ej, z, _⟩ | ⟨_, g1⟩
    · cases z
      rcases held_set h2 with ⟨el, _, _⟩ | ⟨_, g2⟩
      · rw [ej, el]
      · exact absurd g2 (nh l)
    · rcases held_set h2 with ⟨_, z, _⟩ | ⟨_, g2⟩
      · cases z
        exact absurd g1 (nh j)
      · exact f.st.dis j l b g1 g2
  · rcases held_set h with ⟨_, z, _⟩ | ⟨_, h⟩
    · cases z
      exact .inr h0
    · exact f.held j b h
  · obtain ⟨h1, o', h2⟩ := f.par j o h
    have hj : i ≠ j := fun z => by
      subst z
      unfold notPar at hn
      rw [h2] at hn
      cases hn
    exact ⟨by rw [List.getElem?_set_ne hj]; exact h1, o', by rw [List.getElem?_set_ne hj]; exact h2⟩
/-- the content of a held slot -/
def setC (e : Env) (i : Nat) (c : Own) : Env := match e[i]? with
  | some (.par _) => e.set i (.par c)
  | _ => e.set i (.own c)
def conS (e : Env) (i : Nat) : Option Own := match e[i]? with
  | some (.par c) => some c
  | some (.own c) => some c
  | _ => none
theorem con_held {i : Nat} {c : Own} (s : StR K Hs H σ e) (h : conS e i = some c) : ∃ a, Held σ e i a ∧ RelOwn K Hs H a c := by
  unfold conS at h
  split at h
  · rename_i c' q
    cases h
    obtain ⟨o, h1, a, e1, e2, e3⟩ := s.rel i _ q
    exact ⟨a, ⟨by rw [h1, e1], _, q, rfl⟩, e3⟩
  · rename_i c' q
    cases h
    obtain ⟨o, h1, a, e1, e2, e3⟩ := s.rel i _ q
    exact ⟨a, ⟨by rw [h1, e1], _, q, rfl⟩, e3⟩
  · cases h
theorem Fw.put (s : StR K Hs H σ e) {i : Nat} {c : Own} {ho : HO} (h : Held σ e i a) (hr : RelOwn K Hs (upd H a ho) a c) : Fw K Hs H σ e Hs (upd H a ho) σ (setC e i c) := by
  obtain ⟨ha, c0, _, hc⟩ := s.held h
  obtain ⟨oa, eoa⟩ := s.heldSome h
  have hs : Same Hs (upd H a ho) := same_cell s.sub ha
  have hl : i < e.length := by obtain ⟨_, t, z, _⟩ := h; exact (List.getElem?_eq_some_iff.mp z).1
  have key : ∀ t : SV, (t = .own c ∨ t = .par c) → (∀ o, e[i]? = some (.par o) → t = .par c) → Fw K Hs H σ e Hs (upd H a ho) σ (e.set i t) := fun t ht hp => by
    have hh : isHeld t = true := by rcases ht with rfl | rfl <;> rfl
    refine ⟨⟨hs, by rw [List.length_set]; exact s.len, fun j u hu => ?_, fun j l b h1 h2 => ?_⟩, ⟨Same.refl _, fun b h1 h2 => absurd h2 h1, fun b u h1 h2 => ?_, fun b hb => ?_⟩, fun j b hb => ?_, fun j o ho => ?_⟩
    · by_cases hj : i = j
      · subst hj
        rw [List.getElem?_set_self hl] at hu
        cases hu
        refine ⟨_, h.1, ?_⟩
        rcases ht with rfl | rfl
        · exact ⟨a, rfl, ha, hr⟩
        · exact ⟨a, rfl, ha, hr⟩
      · rw [List.getElem?_set_ne hj] at hu
        obtain ⟨o, q1, q2⟩ := s.rel j u hu
        refine ⟨o, q1, ?_⟩
        have ne : ∀ b, o = some (.ref b) → isHeld u = true → b ≠ a := fun b eb hb z => by
          rw [z] at eb
          exact hj (s.dis i j a h ⟨by rw [q1, eb], _, hu, hb⟩)
        cases u with
        | d x => exact q2
        | v x => exact q2
        | own c => obtain ⟨b, e1, e2, e3⟩ := q2; exact ⟨b, e1, e2, RelOwn.keep (c := c) e3 (Same.refl _) fun u hu => by rw [upd_ne (ne b e1 rfl)]; exact hu⟩
        | par c => obtain ⟨b, e1, e2, e3⟩ := q2; exact ⟨b, e1, e2, RelOwn.keep (c := c) e3 (Same.refl _) fun u hu => by rw [upd_ne (ne b e1 rfl)]; exact hu⟩
        | al j => exact q2
        | no => exact q2
    · have f1 : Held σ e j b := by
        rcases held_setE h1 with ⟨rfl, z, _⟩ | ⟨_, h1⟩
        · rw [h.1] at z; cases z; exact h
        · exact h1
      have f2 : Held σ e l b := by
        rcases held_setE h2 with ⟨rfl, z, _⟩ | ⟨_, h2⟩
        · rw [h.1] at z; cases z; exact h
        · exact h2
      exact s.dis j l b f1 f2
    · rw [upd_ne (fun z => h1 ⟨i, by rw [z]; exact h⟩)]
      exact h2
    · by_cases q : b = a
      · rw [q, upd_same]; exact fun z => nomatch z
      · rw [upd_ne q]; exact hb
    · rcases held_setE hb with ⟨rfl, z, _⟩ | ⟨_, h1⟩
      · rw [h.1] at z; cases z; exact .inl ⟨_, h⟩
      · exact .inl ⟨_, h1⟩
    · refine ⟨rfl, ?_⟩
      by_cases hj : i = j
      · subst hj
        exact ⟨c, by rw [List.getElem?_set_self hl, hp o ho]⟩
      · exact ⟨o, by rw [List.getElem?_set_ne hj]; exact ho⟩
  unfold setC
  split
  · exact key _ (.inr rfl) fun o ho => rfl
  · rename_i hne
    exact key _ (.inl rfl) fun o ho => absurd ho (hne o)
/-- a local list changes no more -/
theorem Fw.freeze (f : Fw K H0 H2 σ2 e0 Hs H σ e) {i : Nat} {ds : List PyData} (h : e[i]? = some (.own (.lst ds))) : ∃ Hs' v, σ[i]? = some (some v) ∧ Same Hs Hs' ∧ Fw K H0 H2 σ2 e0 Hs' H σ (e.set i (.d (.list ds))) ∧ Dw K Hs' v (.list ds) := by
  have s := f.st
  obtain ⟨o, h1, a, rfl, ha, vs, e1, e2, e3⟩ := s.rel i _ h
  have hh : Held σ e i a := ⟨h1, _, h, rfl⟩
  have hl : i < e.length := (List.getElem?_eq_some_iff.mp h).1
  have sb : Same (upd Hs a (.lst vs)) H := Go.freeze s.sub e1 ha
  have pp : Same Hs (upd Hs a (.lst vs)) := same_upd ha
  have dw : Dw K (upd Hs a (.lst vs)) (.ref a) (.list ds) := ⟨.lst upd_same (e2.1.mono pp), wf_list.mpr ⟨e3, e2.2⟩⟩
  refine ⟨upd Hs a (.lst vs), .ref a, h1, pp, ?_, dw⟩
  refine ⟨⟨sb, by rw [List.length_set]; exact s.len, fun j t ht => ?_, fun j l b q1 q2 => ?_⟩, ⟨f.go.p.trans pp, fun b q1 q2 => ?_, f.go.keep, f.go.there⟩, fun j b q => ?_, fun j o ho => ?_⟩
  · by_cases hj : i = j
    · subst hj
      rw [List.getElem?_set_self hl] at ht
      cases ht
      exact ⟨_, h1, _, rfl, dw⟩
    · rw [List.getElem?_set_ne hj] at ht
      obtain ⟨o, q1, q2⟩ := s.rel j t ht
      refine ⟨o, q1, ?_⟩
      have ne : ∀ b, o = some (.ref b) → isHeld t = true → b ≠ a := fun b eb hb z => by
        rw [z] at eb
        exact hj (s.dis i j a hh ⟨by rw [q1, eb], _, ht, hb⟩)
      cases t with
      | d x => obtain ⟨v, z1, z2⟩ := q2; exact ⟨v, z1, z2.mono pp⟩
      | v x => exact q2
      | own c => obtain ⟨b, z1, z2, z3⟩ := q2; exact ⟨b, z1, by rw [upd_ne (ne b z1 rfl)]; exact z2, RelOwn.keep (c := c) z3 pp fun u hu => hu⟩
      | par c => obtain ⟨b, z1, z2, z3⟩ := q2; exact ⟨b, z1, by rw [upd_ne (ne b z1 rfl)]; exact z2, RelOwn.keep (c := c) z3 pp fun u hu => hu⟩
      | al j => exact q2
      | no => exact q2
  · rcases held_setE q1 with ⟨_, _, z⟩ | ⟨_, q1⟩
    · cases z
    · rcases held_setE q2 with ⟨_, _, z⟩ | ⟨_, q2⟩
      · cases z
      · exact s.dis j l b q1 q2
  · by_cases hb : b = a
    · subst hb
      exact (f.held i _ hh).symm
    · rw [upd_ne hb] at q1
      exact f.go.new b q1 q2
  · rcases held_setE q with ⟨_, _, z⟩ | ⟨_, q⟩
    · cases z
    · exact f.held j b q
  · obtain ⟨z1, o', z2⟩ := f.par j o ho
    have hj : i ≠ j := fun z => by
      subst z
      rw [h] at z2
      cases z2
    exact ⟨z1, o', by rw [List.getElem?_set_ne hj]; exact z2⟩
/-- a value is handed on as data -/
def asD (x : SV) (e : Env) (k : PyData → Env → Prop) : Prop := match x with
  | .d d => k d e
  | .own (.lst ds) => k (.list ds) e
  | .al i => match e[i]? with
    | some (.own (.lst ds)) => k (.list ds) (e.set i (.d (.list ds)))
    | _ => False
  | _ => False
theorem asD_sim {k : PyData → Env → Prop} (f : Fw K H0 H2 σ2 e0 Hs H σ e) (r : RelX K H2 Hs H σ e v x) (h : asD x e k) : ∃ Hs' e' d, Fw K H0 H2 σ2 e0 Hs' H σ e' ∧ Dw K Hs' v d ∧ k d e' ∧ Same Hs Hs' := by
  cases x with
  | d d => exact ⟨Hs, e, d, f, r, h, Same.refl _⟩
  | own c =>
    cases c with
    | lst ds =>
      obtain ⟨a, rfl, ha, ⟨vs, e1, e2, e3⟩, h0, nh⟩ := r
      have pp : Same Hs (upd Hs a (.lst vs)) := same_upd ha
      refine ⟨upd Hs a (.lst vs), e, .list ds, f.stand (Go.freeze f.st.sub e1 ha) pp (fun b q1 q2 => ?_) (fun i b hb => ?_), ⟨.lst upd_same (e2.1.mono pp), wf_list.mpr ⟨e3, e2.2⟩⟩, h, pp⟩
      · by_cases hb : b = a
        · subst hb; exact .inl h0
        · rw [upd_ne hb] at q1; exact absurd q2 q1
      · have hb2 : b ≠ a := fun z => nh i (by rw [← z]; exact hb)
        rw [upd_ne hb2]
        exact (f.st.held hb).1
    | dct kvs => exact h.elim
    | box n => exact h.elim
  | al i =>
    have h : (match e[i]? with
      | some (.own (.lst ds)) => k (.list ds) (e.set i (.d (.list ds)))
      | _ => False) := h
    split at h
    · rename_i ds q
      obtain ⟨Hs', v', h1, h4, h2, h3⟩ := f.freeze q
      have r : σ[i]? = some (some v) := r
      rw [r] at h1
      cases h1
      exact ⟨Hs', _, _, h2, h3, h, h4⟩
    · exact h.elim
  | v w => exact h.elim
  | par c => exact h.elim
  | no => exact h.elim
def dV (u : DE) : DD := fun e k => u e fun x e1 => asD x e1 k
theorem sim_v {t : TE} {u : DE} (h : SimE K t u) : SimV K t (dV u) := fun Hs H σ e Q k s hu c =>
  h Hs H σ e Q _ s hu fun v x Hs' H' e' f r q => by
    obtain ⟨Hs2, e2, d, f2, r2, q2, _⟩ := asD_sim f r q
    exact c v d Hs2 H' e2 f2 r2 q2
/-! ### what is seen of a value -/
inductive Sees (K : PySem.W.Frag) (Hs H : Hp) : V → PyData → Prop
  | d {v : V} {x : PyData} : Dw K Hs v x → Sees K Hs H v x
  | l {p : Addr} {vs : List V} {ds : List PyData} : H p = some (.lst vs) → Dws K Hs vs ds → ds.length ≤ sizeLine → Sees K Hs H (.ref p) (.list ds)
theorem Sees.dp (sb : Same Hs H) (h : Sees K Hs H v d) : Dp K H v d := by
  cases h with
  | d h => exact sb.dp h.1.dp
  | l h1 h2 h3 => exact .lst (SqL.of h1) (sb.dps h2.1.dp)
theorem Sees.wf (h : Sees K Hs H v d) : wfD d = true := by
  cases h with
  | d h => exact h.2
  | l h1 h2 h3 => exact wf_list.mpr ⟨h3, h2.2⟩
def seeS : SV → Option PyData
  | .d x => some x
  | .own (.lst ds) => some (.list ds)
  | .par (.lst ds) => some (.list ds)
  | _ => none
def see (e : Env) : SV → Option PyData
  | .al i => (e[i]?).bind seeS
  | x => seeS x
theorem sees_of (s : StR K Hs H σ e) (r : RelX K H0 Hs H σ e v x) (h : see e x = some d) : Sees K Hs H v d := by
  cases x with
  | d x => cases h; exact .d r
  | v w => cases h
  | own c =>
    cases c with
    | lst ds =>
      cases h
      obtain ⟨a, rfl, ha, ⟨vs, e1, e2, e3⟩, _⟩ := r
      exact .l e1 e2 e3
    | dct kvs => cases h
    | box n => cases h
  | par c => exact (show False from r).elim
  | no => cases h
  | al i =>
    have h : (e[i]?).bind seeS = some d := h
    cases q : e[i]? with
    | none => rw [q] at h; cases h
    | some t =>
      rw [q] at h
      have h : seeS t = some d := h
      obtain ⟨o, h1, h2⟩ := s.rel i t q
      have r : σ[i]? = some (some v) := r
      rw [r] at h1
      cases h1
      cases t with
      | d x =>
        cases h
        obtain ⟨v', e1, e2⟩ := h2
        cases e1
        exact .d e2
      | own c =>
        cases c with
        | lst ds =>
          cases h
          obtain ⟨a, e1, ha, vs, z1, z2, z3⟩ := h2
          cases e1
          exact .l z1 z2 z3
        | dct kvs => cases h
        | box n => cases h
      | par c =>
        cases c with
        | lst ds =>
          cases h
          obtain ⟨a, e1, ha, vs, z1, z2, z3⟩ := h2
          cases e1
          exact .l z1 z2 z3
        | dct kvs => cases h
        | box n => cases h
      | v w => cases h
      | al j => cases h
      | no => cases h
/-- what an operator may hand on -/
structure Out (K : PySem.W.Frag) (Hs H : Hp) (k : SV → Prop) (Q : VK) : Prop where
  val : ∀ d v, k (.d d) → Dw K Hs v d → Q v H
  lst : ∀ ds vs p, k (.own (.lst ds)) → H p = none → Dws K Hs vs ds → ds.length ≤ sizeLine → Q (.ref p) (upd H p (.lst vs))
  tup : ∀ ds vs p, k (.d (.tuple ds)) → H p = none → Dws K Hs vs ds → ds.length ≤ sizeLine → Q (.ref p) (upd H p (.tup vs))
theorem new_own (f : Fw K H0 H2 σ e0 Hs H σ e) {c : Own} (hp : H p = none) (hr : RelOwn K Hs (upd H p o) p c) : Fw K H0 H2 σ e0 Hs (upd H p o) σ e ∧ RelX K H2 Hs (upd H p o) σ e (.ref p) (.own c) := by
  obtain ⟨g, sb⟩ := gp_cell (o := o) f.st.sub hp
  have f2 := f.trans (f.st.ext g sb)
  refine ⟨f2, p, rfl, none_sub f.st.sub hp, hr, ?_, fun i hi => ?_⟩
  · cases q : H2 p with
    | none => rfl
    | some u => exact absurd hp (f.go.there p (some_ne q))
  · obtain ⟨u, hu⟩ := f.st.heldSome hi
    rw [hp] at hu; cases hu
theorem out_of (f : Fw K H0 H2 σ e0 Hs H σ e) (c : ∀ v x Hs' H' e', Fw K H0 H2 σ e0 Hs' H' σ e' → RelX K H2 Hs' H' σ e' v x → k x e' → Q v H') : Out K Hs H (fun x => k x e) Q where
  val := fun d v h r => c v (.d d) Hs H e f r h
  lst := fun ds vs p h hp r l => by
    obtain ⟨f2, r2⟩ := new_own (c := .lst ds) (o := .lst vs) f hp ⟨vs, upd_same, r, l⟩
    exact c _ _ _ _ _ f2 r2 h
  tup := fun ds vs p h hp r l => by
    obtain ⟨g, sb⟩ := gp_laid (o := .tup vs) f.st.sub hp
    have pp : Same Hs (upd Hs p (.tup vs)) := g.p
    exact c _ (.d (.tuple ds)) _ _ _ (f.trans (f.st.ext g sb)) (show Dw K _ _ _ from ⟨.tup (SqT.of upd_same) (r.1.mono pp), wf_tup.mpr ⟨l, r.2⟩⟩) h
end
end DL

/-! the data layer: expressions -/
namespace DL
open PySem PySem.Spec PyProof.Rows L2
section
variable {K : PySem.W.Frag} {ta tb tc te : TE} {tt tu tv : TT} {ar : TA} {da db dc de : DE} {dt du dw : DT} {aa : DA} {i : Nat}

/-! ### constants, names -/
def dC (x : SV) : DE := fun e k => k x e
theorem sim_cd {v : V} {d : PyData} (h : ∀ H, Dw K H v d) : SimE K (tC v) (dC (.d d)) := fun Hs H σ e Q k s hu c => c v (.d d) Hs H e (Fw.refl s) (h Hs) hu
theorem sim_int (i : Int) : SimE K (tC (.int i)) (dC (.d (.int i))) := sim_cd fun _ => ⟨.int i, rfl⟩
theorem sim_bl (b : Bool) : SimE K (tC (.bl b)) (dC (.d (.bool b))) := sim_cd fun _ => ⟨.bl b, rfl⟩
theorem sim_non : SimE K (tC .non) (dC (.d .none)) := sim_cd fun _ => ⟨.non, rfl⟩
theorem sim_str (z : Str) (h : (decide (z.length ≤ sizeLine) && PyData.strOk z) = true) : SimE K (tC (.str z)) (dC (.d (.str z))) := sim_cd fun _ => ⟨.str z, h⟩
theorem sim_cv (w : V) : SimE K (tC w) (dC (.v w)) := fun Hs H σ e Q k s hu c => c w (.v w) Hs H e (Fw.refl s) rfl hu
def dVar (i : Nat) : DE := fun e k => match e[i]? with
  | some (.d x) => k (.d x) e
  | some (.v w) => k (.v w) e
  | some (.own _) => k (.al i) e
  | some (.par _) => k (.al i) e
  | _ => False
theorem sim_var (i : Nat) : SimE K (tVar i) (dVar i) := fun Hs H σ e Q k s hu c => by
  have hu : (match e[i]? with
    | some (.d x) => k (.d x) e
    | some (.v w) => k (.v w) e
    | some (.own _) => k (.al i) e
    | some (.par _) => k (.al i) e
    | _ => False) := hu
  split at hu
  · rename_i x q
    obtain ⟨o, h1, v, rfl, h2⟩ := s.rel i _ q
    exact ⟨v, h1, c v (.d x) Hs H e (Fw.refl s) h2 hu⟩
  · rename_i w q
    obtain ⟨o, h1, rfl⟩ := s.rel i _ q
    exact ⟨w, h1, c w (.v w) Hs H e (Fw.refl s) rfl hu⟩
  · rename_i w q
    obtain ⟨o, h1, a, rfl, h2⟩ := s.rel i _ q
    exact ⟨_, h1, c _ (.al i) Hs H e (Fw.refl s) h1 hu⟩
  · rename_i w q
    obtain ⟨o, h1, a, rfl, h2⟩ := s.rel i _ q
    exact ⟨_, h1, c _ (.al i) Hs H e (Fw.refl s) h1 hu⟩
  · exact hu.elim

/-! ### operators -/
abbrev DR1 := PyData → (SV → Prop) → Prop
abbrev DR2 := PyData → PyData → (SV → Prop) → Prop
def SimR1 (K : PySem.W.Frag) (r : V → Hp → VK → Prop) (ρ : DR1) : Prop := ∀ (Hs H : Hp) (v : V) (a : PyData) (k : SV → Prop) (Q : VK), Same Hs H → Sees K Hs H v a → ρ a k → Out K Hs H k Q → r v H Q
def SimR2 (K : PySem.W.Frag) (r : R2) (ρ : DR2) : Prop := ∀ (Hs H : Hp) (v w : V) (a b : PyData) (k : SV → Prop) (Q : VK), Same Hs H → Sees K Hs H v a → Sees K Hs H w b → ρ a b k → Out K Hs H k Q → r v w H Q
def dOp (ρ : DR2) (da db : DE) : DE := fun e k => da e fun x e1 => db e1 fun y e2 => ∃ a b, see e2 x = some a ∧ see e2 y = some b ∧ ρ a b fun z => k z e2
def dUn (ρ : DR1) (da : DE) : DE := fun e k => da e fun x e1 => ∃ a, see e1 x = some a ∧ ρ a fun z => k z e1
theorem sim_op {r : R2} {ρ : DR2} (hr : SimR2 K r ρ) (ha : SimE K ta da) (hb : SimE K tb db) : SimE K (tOp r ta tb) (dOp ρ da db) := fun Hs H σ e Q k s hu c =>
  ha Hs H σ e _ _ s hu fun v x Hs1 H1 e1 f1 r1 h1 => hb Hs1 H1 σ e1 _ _ f1.st h1 fun w y Hs2 H2 e2 f2 r2 h2 => by
    obtain ⟨a, b, ea, eb, h3⟩ := h2
    exact hr Hs2 H2 v w a b _ _ f2.st.sub (sees_of f2.st (r1.keep f2) ea) (sees_of f2.st r2 eb) h3 (out_of (f1.trans f2) c)
theorem sim_un {r : V → Hp → VK → Prop} {ρ : DR1} (hr : SimR1 K r ρ) (ha : SimE K ta da) : SimE K (tUn r ta) (dUn ρ da) := fun Hs H σ e Q k s hu c =>
  ha Hs H σ e _ _ s hu fun v x Hs1 H1 e1 f1 r1 h1 => by
    obtain ⟨a, ea, h3⟩ := h1
    exact hr Hs1 H1 v a _ _ f1.st.sub (sees_of f1.st r1 ea) h3 (out_of f1 c)
theorem SimR2.or1 {r r' : R2} {ρ : DR2} (h : SimR2 K r ρ) : SimR2 K (zOr r r') ρ := fun Hs H v w a b k Q s h1 h2 h3 o => .inl (h Hs H v w a b k Q s h1 h2 h3 o)
theorem SimR2.or2 {r r' : R2} {ρ : DR2} (h : SimR2 K r' ρ) : SimR2 K (zOr r r') ρ := fun Hs H v w a b k Q s h1 h2 h3 o => .inr (h Hs H v w a b k Q s h1 h2 h3 o)
section
variable {Hs H : Hp} {v : V} {k : SV → Prop} {Q : VK}
theorem Sees.int {i : Int} (h : Sees K Hs H v (.int i)) : v = .int i := by cases h with | d h => cases h.1; rfl
theorem Sees.str {z : Str} (h : Sees K Hs H v (.str z)) : v = .str z ∧ z.length ≤ sizeLine ∧ PyData.strOk z = true := by
  cases h with | d h => cases h.1; exact ⟨rfl, wf_str.mp h.2⟩
theorem Sees.bl {b : Bool} (h : Sees K Hs H v (.bool b)) : v = .bl b := by cases h with | d h => cases h.1; rfl
theorem Sees.non (h : Sees K Hs H v .none) : v = .non := by cases h with | d h => cases h.1; rfl
theorem Sees.lst {ds : List PyData} (sb : Same Hs H) (h : Sees K Hs H v (.list ds)) : ∃ p vs, v = .ref p ∧ H p = some (.lst vs) ∧ Dws K Hs vs ds ∧ ds.length ≤ sizeLine := by
  cases h with
  | d h =>
    have h2 := wf_list.mp h.2
    cases h.1 with
    | lst h1 h3 => exact ⟨_, _, rfl, sb _ _ h1, ⟨h3, h2.2⟩, h2.1⟩
  | l h1 h2 h3 => exact ⟨_, _, rfl, h1, h2, h3⟩
theorem Sees.tup {ds : List PyData} (sb : Same Hs H) (h : Sees K Hs H v (.tuple ds)) : ∃ p vs, v = .ref p ∧ SqT K Hs p vs ∧ SqT K H p vs ∧ Dws K Hs vs ds ∧ ds.length ≤ sizeLine ∧ Dw K Hs v (.tuple ds) := by
  cases h with
  | d h =>
    have h2 := wf_tup.mp h.2
    have hh := h
    cases h.1 with
    | tup h1 h3 => exact ⟨_, _, rfl, h1, sb.sqt h1, ⟨h3, h2.2⟩, h2.1, hh⟩
theorem Out.int (o : Out K Hs H k Q) {i : Int} (h : k (.d (.int i))) : Q (.int i) H := o.val _ _ h ⟨.int i, rfl⟩
theorem Out.bl (o : Out K Hs H k Q) {b : Bool} (h : k (.d (.bool b))) : Q (.bl b) H := o.val _ _ h ⟨.bl b, rfl⟩
theorem Out.non (o : Out K Hs H k Q) (h : k (.d .none)) : Q .non H := o.val _ _ h ⟨.non, rfl⟩
theorem Out.str (o : Out K Hs H k Q) {z : Str} (h : k (.d (.str z))) (l : z.length ≤ sizeLine) (w : PyData.strOk z = true) : Q (.str z) H := o.val _ _ h ⟨.str z, wf_str.mpr ⟨l, w⟩⟩
end
theorem wfs_app {ds es : List PyData} (h : wfs ds = true) (g : wfs es = true) : wfs (ds ++ es) = true := wfs_iff.mpr fun d hd => (List.mem_append.mp hd).elim (wfs_iff.mp h d) (wfs_iff.mp g d)
theorem wfs_sub {ds es : List PyData} (h : wfs ds = true) (g : ∀ d ∈ es, d ∈ ds) : wfs es = true := wfs_iff.mpr fun d hd => wfs_iff.mp h d (g d hd)
theorem ok_app {x y : Str} (h : PyData.strOk x = true) (g : PyData.strOk y = true) : PyData.strOk (x ++ y) = true := strOk_iff.mpr fun c hc => by
  rw [TL.tl_append] at hc
  exact (List.mem_append.mp hc).elim (strOk_iff.mp h c) (strOk_iff.mp g c)
theorem ok_sub {x y : Str} (h : PyData.strOk x = true) (g : ∀ c ∈ TL.tl y, c ∈ TL.tl x) : PyData.strOk y = true := strOk_iff.mpr fun c hc => strOk_iff.mp h c (g c hc)
/-- a + b -/
def dAdd : DR2 := fun a b k => match a, b with
  | .int i, .int j => k (.d (.int (i + j)))
  | .str x, .str y => x.length + y.length ≤ sizeLine ∧ k (.d (.str (x ++ y)))
  | .list xs, .list ys => xs.length + ys.length ≤ sizeLine ∧ k (.own (.lst (xs ++ ys)))
  | .tuple xs, .tuple ys => xs.length + ys.length ≤ sizeLine ∧ k (.d (.tuple (xs ++ ys)))
  | _, _ => False
abbrev uAdd (K : PySem.W.Frag) : R2 := zOr zAdd (zOr zAddS (zOr rCat (rCatA K)))
theorem sr_add : SimR2 K (uAdd K) dAdd := fun Hs H v w a b k Q sb h1 h2 h3 o => by
  unfold dAdd at h3
  split at h3
  · exact .inl ⟨_, _, h1.int, h2.int, o.int h3⟩
  · obtain ⟨rfl, l1, o1⟩ := h1.str
    obtain ⟨rfl, l2, o2⟩ := h2.str
    exact .inr (.inl ⟨_, _, rfl, rfl, h3.1, o.str h3.2 (by rw [len_append]; exact h3.1) (ok_app o1 o2)⟩)
  · obtain ⟨p, vs, rfl, e1, d1, l1⟩ := h1.lst sb
    obtain ⟨q, ws, rfl, e2, d2, l2⟩ := h2.lst sb
    exact .inr (.inr (.inl ⟨_, _, _, _, rfl, rfl, e1, e2, by rw [d1.1.len, d2.1.len]; exact h3.1, fun r hr => o.lst _ _ r h3.2 hr ⟨d1.1.app d2.1, wfs_app d1.2 d2.2⟩ (by rw [List.length_append]; exact h3.1)⟩))
  · obtain ⟨p, vs, rfl, e1, g1, d1, l1, w1⟩ := h1.tup sb
    obtain ⟨q, ws, rfl, e2, g2, d2, l2, w2⟩ := h2.tup sb
    refine .inr (.inr (.inr ⟨_, _, _, _, rfl, rfl, g1, g2, by rw [d1.1.len, d2.1.len]; exact h3.1, fun z => ?_, fun z z2 => ?_, fun z z2 r hr => o.tup _ _ r h3.2 hr ⟨d1.1.app d2.1, wfs_app d1.2 d2.2⟩ (by rw [List.length_append]; exact h3.1)⟩))
    · rename_i xs ys
      subst z
      have : xs = [] := List.eq_nil_of_length_eq_zero (by rw [← d1.1.len]; rfl)
      subst this
      exact o.val _ _ h3.2 w2
    · rename_i xs ys
      subst z2
      have : ys = [] := List.eq_nil_of_length_eq_zero (by rw [← d2.1.len]; rfl)
      subst this
      rw [List.append_nil] at h3
      exact o.val _ _ h3.2 w1
  · exact h3.elim
/-- int operators -/
def dInt2 (C : Int → Int → Prop) (f : Int → Int → PyData) : DR2 := fun a b k => match a, b with
  | .int i, .int j => C i j ∧ k (.d (f i j))
  | _, _ => False
theorem sr_int2 {C : Int → Int → Prop} {f : Int → Int → PyData} {g : Int → Int → V} (h : ∀ i j H, Dw K H (g i j) (f i j)) : SimR2 K (rI C g) (dInt2 C f) := fun Hs H v w a b k Q sb h1 h2 h3 o => by
  unfold dInt2 at h3
  split at h3
  · exact ⟨_, _, h1.int, h2.int, h3.1, o.val _ _ h3.2 (h _ _ _)⟩
  · exact h3.elim
def dInt0 (f : Int → Int → PyData) : DR2 := fun a b k => match a, b with
  | .int i, .int j => k (.d (f i j))
  | _, _ => False
theorem sr_int0 {f : Int → Int → PyData} {g : Int → Int → V} (h : ∀ i j H, Dw K H (g i j) (f i j)) : SimR2 K (rI0 g) (dInt0 f) := fun Hs H v w a b k Q sb h1 h2 h3 o => by
  unfold dInt0 at h3
  split at h3
  · exact ⟨_, _, h1.int, h2.int, o.val _ _ h3 (h _ _ _)⟩
  · exact h3.elim
def dSub : DR2 := dInt0 fun i j => .int (i - j)
theorem sr_sub : SimR2 K zSub dSub := sr_int0 fun _ _ _ => ⟨.int _, rfl⟩
def dFdv : DR2 := dInt2 CDivW fun i j => .int (i / j)
theorem sr_fdv : SimR2 K zFdv dFdv := sr_int2 fun _ _ _ => ⟨.int _, rfl⟩
def dMod : DR2 := dInt2 (fun _ j => 0 < j) fun i j => .int (i % j)
theorem sr_mod : SimR2 K zMod dMod := sr_int2 fun _ _ _ => ⟨.int _, rfl⟩
def dPow : DR2 := dInt2 CPow fun i j => .int (i ^ j.toNat)
theorem sr_pow : SimR2 K zPow dPow := sr_int2 fun _ _ _ => ⟨.int _, rfl⟩
/-- n copies of a list or a tuple -/
def repD (n : Int) (ds : List PyData) : List PyData := (List.replicate n.toNat ds).flatten
theorem dq_rep {H : Hp} {vs : List V} {ds : List PyData} (h : DqAll K H vs ds) : ∀ n : Nat, DqAll K H (List.replicate n vs).flatten (List.replicate n ds).flatten
  | 0 => .nil
  | n + 1 => by
    rw [List.replicate_succ, List.replicate_succ, List.flatten_cons, List.flatten_cons]
    exact h.app (dq_rep h n)
theorem wfs_rep {ds : List PyData} (h : wfs ds = true) (n : Int) : wfs (repD n ds) = true := wfs_sub h fun d hd => by
  obtain ⟨l, h1, h2⟩ := List.mem_flatten.mp hd
  rw [(List.mem_replicate.mp h1).2] at h2
  exact h2
theorem len_rep (n : Int) (ds : List PyData) : (repD n ds).length = ds.length * n.toNat := by
  unfold repD
  rw [List.length_flatten, List.map_replicate, List.sum_replicate_nat, Nat.mul_comm]
/-- n copies of a text -/
def repS (n : Int) (z : Str) : Str := ⟨(List.replicate n.toNat z.cps).foldl (· ++ ·) #[]⟩
theorem tl_repS (n : Int) (z : Str) : TL.tl (repS n z) = (List.replicate n.toNat (TL.tl z)).flatten := by
  have : ∀ (m : Nat) (acc : Array Nat), ((List.replicate m z.cps).foldl (· ++ ·) acc).toList = acc.toList ++ (List.replicate m z.cps.toList).flatten := by
    intro m
    induction m with
    | zero => intro acc; simp
    | succ m ih => intro acc; rw [List.replicate_succ, List.foldl_cons, ih, Array.toList_append, List.replicate_succ, List.flatten_cons, List.append_assoc]
  show ((List.replicate n.toNat z.cps).foldl (· ++ ·) #[]).toList = _
  rw [this]
  rfl
theorem len_repS (n : Int) (z : Str) : (repS n z).length = z.length * n.toNat := by
  rw [TL.len_tl, tl_repS, List.length_flatten, List.map_replicate, List.sum_replicate_nat, Nat.mul_comm, ← TL.len_tl]
/-- a * b -/
def dMul : DR2 := fun a b k => match a, b with
  | .int i, .int j => CMulX i j ∧ k (.d (.int (i * j)))
  | .str z, .int n => 2 ≤ n ∧ n ≤ 1000 ∧ 1 ≤ z.length ∧ z.length ≤ 1000 ∧ k (.d (.str (repS n z)))
  | .list xs, .int n => -(2 ^ 63) ≤ n ∧ n < 2 ^ 63 ∧ xs.length * n.toNat ≤ sizeLine ∧ k (.own (.lst (repD n xs)))
  | .tuple xs, .int n => xs ≠ [] ∧ 2 ≤ n ∧ n ≤ 1000 ∧ xs.length ≤ 1000 ∧ k (.d (.tuple (repD n xs)))
  | _, _ => False
abbrev uMul (K : PySem.W.Frag) : R2 := zOr zMul (zOr zRepS (zOr rRep (rRepT K)))
theorem sr_mul : SimR2 K (uMul K) dMul := fun Hs H v w a b k Q sb h1 h2 h3 o => by
  unfold dMul at h3
  split at h3
  · exact .inl ⟨_, _, h1.int, h2.int, h3.1, o.int h3.2⟩
  · rename_i z n
    obtain ⟨rfl, l1, o1⟩ := h1.str
    obtain ⟨q1, q2, q3, q4, h3⟩ := h3
    refine .inr (.inl ⟨_, _, rfl, h2.int, q1, q2, q3, q4, o.str h3 ?_ (ok_sub o1 fun c hc => ?_)⟩)
    · show (repS n z).length ≤ _
      rw [len_repS]
      have : z.length * n.toNat ≤ 1000 * 1000 := Nat.mul_le_mul q4 (by omega)
      exact Nat.le_trans this (by decide)
    · have hc : c ∈ TL.tl (repS n z) := hc
      rw [tl_repS] at hc
      obtain ⟨l, g1, g2⟩ := List.mem_flatten.mp hc
      rw [(List.mem_replicate.mp g1).2] at g2
      exact g2
  · obtain ⟨p, vs, rfl, e1, d1, l1⟩ := h1.lst sb
    obtain ⟨q1, q2, q3, h3⟩ := h3
    exact .inr (.inr (.inl ⟨_, _, _, rfl, h2.int, e1, q1, q2, by rw [d1.1.len]; exact q3, fun r hr => o.lst _ _ r h3 hr ⟨dq_rep d1.1 _, wfs_rep d1.2 _⟩ (by rw [len_rep]; exact q3)⟩))
  · obtain ⟨p, vs, rfl, e1, g1, d1, l1, w1⟩ := h1.tup sb
    obtain ⟨q0, q1, q2, q3, h3⟩ := h3
    refine .inr (.inr (.inr ⟨_, _, _, rfl, h2.int, g1, fun z => q0 ?_, q1, q2, by rw [d1.1.len]; exact q3, fun r hr => o.tup _ _ r h3 hr ⟨dq_rep d1.1 _, wfs_rep d1.2 _⟩ ?_⟩))
    · subst z
      exact List.eq_nil_of_length_eq_zero (by rw [← d1.1.len]; rfl)
    · rename_i xs n
      rw [len_rep]
      have : xs.length * n.toNat ≤ 1000 * 1000 := Nat.mul_le_mul q3 (by omega)
      exact Nat.le_trans this (by decide)
  · exact h3.elim
/-- comparisons -/
def dLt : DR2 := fun a b k => match a, b with
  | .int i, .int j => k (.d (.bool (decide (i < j))))
  | .str x, .str y => k (.d (.bool (decide (TL.tl x < TL.tl y))))
  | _, _ => False
def dLtE : DR2 := fun a b k => match a, b with
  | .int i, .int j => k (.d (.bool (decide (i ≤ j))))
  | .str x, .str y => k (.d (.bool (!decide (TL.tl y < TL.tl x))))
  | _, _ => False
def dGt : DR2 := fun a b k => match a, b with
  | .int i, .int j => k (.d (.bool (decide (j < i))))
  | .str x, .str y => k (.d (.bool (decide (TL.tl y < TL.tl x))))
  | _, _ => False
def dGtE : DR2 := fun a b k => match a, b with
  | .int i, .int j => k (.d (.bool (decide (j ≤ i))))
  | .str x, .str y => k (.d (.bool (!decide (TL.tl x < TL.tl y))))
  | _, _ => False
abbrev uLt : R2 := zOr zLt zLtS
abbrev uLtE : R2 := zOr zLtE zLtES
abbrev uGt : R2 := zOr zGt zGtS
abbrev uGtE : R2 := zOr zGtE zGtES
theorem sr_lt : SimR2 K uLt dLt := fun Hs H v w a b k Q sb h1 h2 h3 o => by
  unfold dLt at h3
  split at h3
  · exact .inl ⟨_, _, h1.int, h2.int, o.bl h3⟩
  · exact .inr ⟨_, _, h1.str.1, h2.str.1, o.bl h3⟩
  · exact h3.elim
theorem sr_le : SimR2 K uLtE dLtE := fun Hs H v w a b k Q sb h1 h2 h3 o => by
  unfold dLtE at h3
  split at h3
  · exact .inl ⟨_, _, h1.int, h2.int, o.bl h3⟩
  · exact .inr ⟨_, _, h1.str.1, h2.str.1, o.bl h3⟩
  · exact h3.elim
theorem sr_gt : SimR2 K uGt dGt := fun Hs H v w a b k Q sb h1 h2 h3 o => by
  unfold dGt at h3
  split at h3
  · exact .inl ⟨_, _, h1.int, h2.int, o.bl h3⟩
  · exact .inr ⟨_, _, h1.str.1, h2.str.1, o.bl h3⟩
  · exact h3.elim
theorem sr_ge : SimR2 K uGtE dGtE := fun Hs H v w a b k Q sb h1 h2 h3 o => by
  unfold dGtE at h3
  split at h3
  · exact .inl ⟨_, _, h1.int, h2.int, o.bl h3⟩
  · exact .inr ⟨_, _, h1.str.1, h2.str.1, o.bl h3⟩
  · exact h3.elim
def dEq : DR2 := fun a b k => PyData.depth a ≤ 64 ∧ PyData.depth b ≤ 64 ∧ k (.d (.bool (PyData.eqv a b)))
def dNe : DR2 := fun a b k => PyData.depth a ≤ 64 ∧ PyData.depth b ≤ 64 ∧ k (.d (.bool (!PyData.eqv a b)))
theorem sr_eq : SimR2 K (rEqD K) dEq := fun Hs H v w a b k Q sb h1 h2 h3 o => ⟨a, b, h1.dp sb, h2.dp sb, wf_shaped h1.wf h3.1, wf_shaped h2.wf h3.2.1, o.bl h3.2.2⟩
theorem sr_ne : SimR2 K (rNeD K) dNe := fun Hs H v w a b k Q sb h1 h2 h3 o => ⟨a, b, h1.dp sb, h2.dp sb, wf_shaped h1.wf h3.1, wf_shaped h2.wf h3.2.1, o.bl h3.2.2⟩
def isNon : PyData → Bool
  | .none => true
  | _ => false
def dIsN : DR2 := fun a b k => match b with
  | .none => k (.d (.bool (isNon a)))
  | _ => False
def dIsNotN : DR2 := fun a b k => match b with
  | .none => k (.d (.bool (!isNon a)))
  | _ => False
theorem isNon_iff {Hs H : Hp} {v : V} {a : PyData} (h : Sees K Hs H v a) : decide (v = V.non) = isNon a := by
  cases h with
  | d h => cases h.1 <;> rfl
  | l h1 h2 h3 => rfl
theorem sr_isN : SimR2 K zIsN dIsN := fun Hs H v w a b k Q sb h1 h2 h3 o => by
  unfold dIsN at h3
  split at h3
  · exact ⟨h2.non, by rw [isNon_iff h1]; exact o.bl h3⟩
  · exact h3.elim
theorem sr_isNotN : SimR2 K zIsNotN dIsNotN := fun Hs H v w a b k Q sb h1 h2 h3 o => by
  unfold dIsNotN at h3
  split at h3
  · exact ⟨h2.non, by rw [isNon_iff h1]; exact o.bl h3⟩
  · exact h3.elim
/-- in: a text in a text, a thing in a list or a tuple -/
def inD (x : PyData) (ds : List PyData) : Bool := ds.any fun z => PyData.eqv z x
def subIn (x z : Str) : Bool := !(Builtin.Str.occurrences z x 0 z.length 1).isEmpty
def flatD : PyData → Bool
  | .none => true
  | .bool _ => true
  | .int _ => true
  | .str _ => true
  | _ => false
def dIn : DR2 := fun a b k => match b with
  | .str z => (∃ x, a = .str x ∧ k (.d (.bool (subIn x z)))) ∨ ∃ c, a = .str ⟨#[c]⟩ ∧ k (.d (.bool (decide (c ∈ TL.tl z))))
  | .list ds => PyData.depth a ≤ 64 ∧ PyData.depth (.list ds) ≤ 64 ∧ k (.d (.bool (inD a ds)))
  | .tuple ds => PyData.depth a ≤ 64 ∧ PyData.depth (.tuple ds) ≤ 64 ∧ k (.d (.bool (inD a ds)))
  | _ => False
def dNotIn : DR2 := fun a b k => dIn a b fun z => match z with
  | .d (.bool c) => k (.d (.bool (!c)))
  | _ => False
theorem flat_v {Hs H : Hp} {v : V} {a : PyData} (h : Sees K Hs H v a) (f : flatD a = true) : flatV v = true := by
  cases h with
  | d h => cases h.1 <;> first | rfl | cases f
  | l h1 h2 h3 => cases f
theorem flat_q {H : Hp} {v : V} {a : PyData} (h : Dq K H v a) (f : flatD a = true) : flatV v = true := by
  cases h <;> first | rfl | cases f
theorem flats_q {H : Hp} : ∀ {vs : List V} {ds : List PyData}, DqAll K H vs ds → ds.all flatD = true → vs.all flatV = true
  | _, _, .nil, _ => rfl
  | _, _, .cons h r, f => by
    rw [List.all_cons, Bool.and_eq_true] at f ⊢
    exact ⟨flat_q h f.1, flats_q r f.2⟩
theorem eqv_flat {H : Hp} {v w : V} {a b : PyData} (h : Dq K H v a) (g : Dq K H w b) (f : flatD a = true) (f2 : flatD b = true) : eqV v w = PyData.eqv a b := by
  cases h <;> (first | cases f | skip) <;> cases g <;> (first | cases f2 | skip) <;> simp [eqV, PyData.eqv]
theorem inV_q {H : Hp} {v : V} {a : PyData} (h : Dq K H v a) (f : flatD a = true) : ∀ {vs : List V} {ds : List PyData}, DqAll K H vs ds → ds.all flatD = true → inV v vs = inD a ds
  | _, _, .nil, _ => rfl
  | _, _, .cons g r, f2 => by
    rw [List.all_cons, Bool.and_eq_true] at f2
    have ih := inV_q h f r f2.2
    unfold inV inD at ih ⊢
    rw [List.any_cons, List.any_cons, ih, eqv_flat g h f2.1 f]
/-- x in a tuple, whatever it holds -/
def rInDT (K : PySem.W.Frag) : R2 := fun x y H Q => ∃ a es, Dp K H x a ∧ Dp K H y (.tuple es) ∧ SeqAt.shaped a = true ∧ SeqAt.shaped (.tuple es) = true ∧ Q (.bl (inD a es)) H
def rNotInDT (K : PySem.W.Frag) : R2 := fun x y H Q => ∃ a es, Dp K H x a ∧ Dp K H y (.tuple es) ∧ SeqAt.shaped a = true ∧ SeqAt.shaped (.tuple es) = true ∧ Q (.bl (!inD a es)) H
theorem room_tup {es : List PyData} {a : PyData} {n : Nat} (h : SeqAt.shaped a = true) (hu : n + 65 < cLine) : n + 1 + min (PyData.depthAll es) a.depth < cLine := by
  have h2 : a.depth ≤ 64 := by
    unfold SeqAt.shaped at h
    simp only [Bool.and_eq_true, decide_eq_true_eq] at h
    first | exact h.2 | exact h.1
  omega
theorem op_inDT {X : Cx} (un : X.A.units + 65 < cLine) : OpR X (compareOp .In) (rInDT X.K) := by
  rintro pins s σ H x y v u Q I rx ry ⟨a, es, dx, dy, sx, sy, q⟩
  obtain ⟨as, r1⟩ := Dp.reads I a x v dx rx
  obtain ⟨bs, r2⟩ := Dp.reads I (.tuple es) y u dy ry
  refine SeqAt.in_tuple_reads r2 r1 (SeqAt.canLay_of_shaped sy) (SeqAt.canLay_of_shaped sx) (room_tup sx un) ?_
  exact ⟨.bl _, H, I, rfl, q⟩
theorem op_notInDT {X : Cx} (un : X.A.units + 65 < cLine) : OpR X (compareOp .NotIn) (rNotInDT X.K) := by
  rintro pins s σ H x y v u Q I rx ry ⟨a, es, dx, dy, sx, sy, q⟩
  obtain ⟨as, r1⟩ := Dp.reads I a x v dx rx
  obtain ⟨bs, r2⟩ := Dp.reads I (.tuple es) y u dy ry
  refine SeqAt.notIn_tuple_reads r2 r1 (SeqAt.canLay_of_shaped sy) (SeqAt.canLay_of_shaped sx) (room_tup sx un) ?_
  exact ⟨.bl _, H, I, rfl, q⟩
abbrev uIn (K : PySem.W.Frag) : R2 := zOr zInSg (zOr zInSt (zOr (rInD K) (rInDT K)))
abbrev uNotIn (K : PySem.W.Frag) : R2 := zOr zNotInSg (zOr zNotInSt (zOr (rNotInD K) (rNotInDT K)))
theorem sr_in : SimR2 K (uIn K) dIn := fun Hs H v w a b k Q sb h1 h2 h3 o => by
  unfold dIn at h3
  split at h3
  · rcases h3 with ⟨x, rfl, h3⟩ | ⟨c, rfl, h3⟩
    · exact .inr (.inl ⟨_, _, h1.str.1, h2.str.1, o.bl h3⟩)
    · exact .inl ⟨_, _, h1.str.1, h2.str.1, o.bl h3⟩
  · exact .inr (.inr (.inl ⟨_, _, h1.dp sb, h2.dp sb, wf_shaped h1.wf h3.1, wf_shaped h2.wf h3.2.1, o.bl h3.2.2⟩))
  · exact .inr (.inr (.inr ⟨_, _, h1.dp sb, h2.dp sb, wf_shaped h1.wf h3.1, wf_shaped h2.wf h3.2.1, o.bl h3.2.2⟩))
  · exact h3.elim
theorem sr_notIn : SimR2 K (uNotIn K) dNotIn := fun Hs H v w a b k Q sb h1 h2 h3 o => by
  unfold dNotIn dIn at h3
  split at h3
  · rcases h3 with ⟨x, rfl, h3⟩ | ⟨c, rfl, h3⟩
    · exact .inr (.inl ⟨_, _, h1.str.1, h2.str.1, o.bl h3⟩)
    · exact .inl ⟨_, _, h1.str.1, h2.str.1, o.bl h3⟩
  · exact .inr (.inr (.inl ⟨_, _, h1.dp sb, h2.dp sb, wf_shaped h1.wf h3.1, wf_shaped h2.wf h3.2.1, o.bl h3.2.2⟩))
  · exact .inr (.inr (.inr ⟨_, _, h1.dp sb, h2.dp sb, wf_shaped h1.wf h3.1, wf_shaped h2.wf h3.2.1, o.bl h3.2.2⟩))
  · exact h3.elim
def dNeg : DR1 := fun a k => match a with
  | .int i => k (.d (.int (-i)))
  | _ => False
theorem sr_neg : SimR1 K zNeg dNeg := fun Hs H v a k Q sb h1 h3 o => by
  unfold dNeg at h3
  split at h3
  · exact ⟨_, h1.int, o.int h3⟩
  · exact h3.elim
/-- a[i] -/
def dIx : DR2 := fun a b k => match a, b with
  | .list ds, .int i => ∃ x, atI ds i = some x ∧ k (.d x)
  | .tuple ds, .int i => ∃ x, atI ds i = some x ∧ k (.d x)
  | .str z, .int i => ∃ c, atI (TL.tl z) i = some c ∧ k (.d (.str ⟨#[c]⟩))
  | _, _ => False
theorem atI_get {α : Type} {xs : List α} {i : Int} {x : α} (h : atI xs i = some x) : ∃ j, ixN xs.length i = some j ∧ xs[j]? = some x := by
  unfold atI at h
  cases q : ixN xs.length i with
  | none => rw [q] at h; cases h
  | some j => rw [q] at h; exact ⟨j, rfl, h⟩
theorem at_dws {H : Hp} {vs : List V} {ds : List PyData} {i : Int} {x : PyData} (h : Dws K H vs ds) (e : atI ds i = some x) : ∃ v, atI vs i = some v ∧ Dw K H v x := by
  obtain ⟨j, h1, h2⟩ := atI_get e
  obtain ⟨v, h3, h4⟩ := h.1.get h2
  exact ⟨v, by unfold atI; rw [h.1.len, h1]; exact h3, h4, wfs_get h.2 h2⟩
theorem sr_ix : SimR2 K (rIx K) dIx := fun Hs H v w a b k Q sb h1 h2 h3 o => by
  unfold dIx at h3
  split at h3
  · obtain ⟨x, e, h3⟩ := h3
    obtain ⟨p, vs, rfl, e1, d1, l1⟩ := h1.lst sb
    obtain ⟨u, e2, r2⟩ := at_dws d1 e
    exact .inl ⟨_, _, _, _, rfl, h2.int, SqL.of e1, e2, o.val _ _ h3 r2⟩
  · obtain ⟨x, e, h3⟩ := h3
    obtain ⟨p, vs, rfl, e1, g1, d1, l1, w1⟩ := h1.tup sb
    obtain ⟨u, e2, r2⟩ := at_dws d1 e
    exact .inr (.inl ⟨_, _, _, _, rfl, h2.int, g1, e2, o.val _ _ h3 r2⟩)
  · obtain ⟨c, e, h3⟩ := h3
    obtain ⟨rfl, l1, o1⟩ := h1.str
    refine .inr (.inr ⟨_, _, _, rfl, h2.int, l1, e, o.str h3 (sz_le (by rw [len_one]; decide)) (ok_sub o1 fun d hd => ?_)⟩)
    obtain ⟨j, _, hj⟩ := atI_get e
    rw [tl_one, List.mem_singleton] at hd
    rw [hd]
    exact List.mem_of_getElem? hj
  · exact h3.elim
end
end DL

/-! the data layer: tests, displays, slices, calls -/
namespace DL
open PySem PySem.Spec PyProof.Rows L2
section
variable {K : PySem.W.Frag} {ta tb tc te : TE} {tt tu tv : TT} {ar : TA} {tl th : TO} {da db dc de : DE} {va vb : DD} {dt du dw : DT} {aa : DA} {dl dh : DO} {i : Nat}

/-! ### tests -/
def trD : PyData → Bool
  | .none => false
  | .bool b => b
  | .int i => i != 0
  | .str z => decide (z.length ≠ 0)
  | .list ds => !ds.isEmpty
  | .tuple ds => !ds.isEmpty
  | .dict _ => true
theorem tru_of {Hs H : Hp} {v : V} {a : PyData} (sb : Same Hs H) (h : Sees K Hs H v a) : TruV K v H (trD a) := by
  cases a with
  | none => rw [h.non]; exact rfl
  | bool b => rw [h.bl]; exact rfl
  | int i => rw [h.int]; exact rfl
  | str z =>
    obtain ⟨rfl, l, _⟩ := h.str
    refine ⟨l, ?_⟩
    show decide (z.length ≠ 0) = ((z.length : Int) != 0)
    rw [Bool.eq_iff_iff]
    simp
  | list ds =>
    obtain ⟨p, vs, rfl, e, d, _⟩ := h.lst sb
    refine .inl ⟨vs, SqL.of e, ?_⟩
    have := d.1.len
    cases vs <;> cases ds <;> first | rfl | (simp at this)
  | tuple ds =>
    obtain ⟨p, vs, rfl, _, e, d, _⟩ := h.tup sb
    refine .inr (.inl ⟨vs, e, ?_⟩)
    have := d.1.len
    cases vs <;> cases ds <;> first | rfl | (simp at this)
  | dict kvs => have := h.wf; unfold wfD at this; cases this
def truK (x : SV) (e1 : Env) (kk : Bool → Prop) : Prop := ∃ a, see e1 x = some a ∧ kk (trD a)
def dTru (da : DE) : DT := fun e k => da e fun x e1 => truK x e1 fun b => k b e1
theorem sim_tru (ha : SimE K ta da) : SimT K (zTruth K ta) (dTru da) := fun Hs H σ e Q k s hu c =>
  ha Hs H σ e _ _ s hu fun v x Hs1 H1 e1 f1 r1 h1 => by
    obtain ⟨a, ea, h3⟩ := h1
    exact ⟨trD a, tru_of f1.st.sub (sees_of f1.st r1 ea), c _ _ _ _ f1 h3⟩
def dB (da : DE) : DT := fun e k => da e fun x e1 => ∃ b, x = .d (.bool b) ∧ k b e1
theorem sim_test (ha : SimE K ta da) : SimT K (tTest ta) (dB da) := fun Hs H σ e Q k s hu c =>
  ha Hs H σ e _ _ s hu fun v x Hs1 H1 e1 f1 r1 h1 => by
    obtain ⟨b, rfl, h3⟩ := h1
    have r1 : Dw K Hs1 v (.bool b) := r1
    cases r1.1
    exact ⟨b, rfl, c _ _ _ _ f1 h3⟩
def dNot (dt : DT) : DT := fun e k => dt e fun b e1 => k (!b) e1
theorem sim_not (h : SimT K tt dt) : SimT K (tNot tt) (dNot dt) := fun Hs H σ e Q k s hu c => h Hs H σ e _ _ s hu fun b Hs1 H1 e1 f1 h1 => c _ _ _ _ f1 h1
def dAnd (dt du : DT) : DT := fun e k => dt e fun b e1 => if b = true then du e1 k else k false e1
def dOr (dt du : DT) : DT := fun e k => dt e fun b e1 => if b = true then k true e1 else du e1 k
theorem sim_and (h : SimT K tt dt) (g : SimT K tu du) : SimT K (tAnd tt tu) (dAnd dt du) := fun Hs H σ e Q k s hu c => h Hs H σ e _ _ s hu fun b Hs1 H1 e1 f1 h1 => by
  cases b with
  | true =>
    rw [if_pos rfl] at h1 ⊢
    exact g Hs1 H1 σ e1 _ _ f1.st h1 fun b Hs2 H2 e2 f2 h2 => c _ _ _ _ (f1.trans f2) h2
  | false =>
    rw [if_neg Bool.false_ne_true] at h1 ⊢
    exact c _ _ _ _ f1 h1
theorem sim_or (h : SimT K tt dt) (g : SimT K tu du) : SimT K (tOr tt tu) (dOr dt du) := fun Hs H σ e Q k s hu c => h Hs H σ e _ _ s hu fun b Hs1 H1 e1 f1 h1 => by
  cases b with
  | true =>
    rw [if_pos rfl] at h1 ⊢
    exact c _ _ _ _ f1 h1
  | false =>
    rw [if_neg Bool.false_ne_true] at h1 ⊢
    exact g Hs1 H1 σ e1 _ _ f1.st h1 fun b Hs2 H2 e2 f2 h2 => c _ _ _ _ (f1.trans f2) h2
/-! ### by truth, as values -/
def dNotT (da : DE) : DE := fun e k => da e fun x e1 => truK x e1 fun b => k (.d (.bool (!b))) e1
theorem sim_notT (ha : SimE K ta da) : SimE K (tNotT K ta) (dNotT da) := fun Hs H σ e Q k s hu c =>
  ha Hs H σ e _ _ s hu fun v x Hs1 H1 e1 f1 r1 h1 => by
    obtain ⟨a, ea, h3⟩ := h1
    exact ⟨trD a, tru_of f1.st.sub (sees_of f1.st r1 ea), c _ (.d (.bool _)) _ _ _ f1 ⟨.bl _, rfl⟩ h3⟩
def dAndT (da db : DE) : DE := fun e k => da e fun x e1 => truK x e1 fun b => if b = true then db e1 k else k x e1
def dOrT (da db : DE) : DE := fun e k => da e fun x e1 => truK x e1 fun b => if b = true then k x e1 else db e1 k
theorem Fw.there {Hs H Hs' H' : Hp} {σ σ' : St} {e e' : Env} (f : Fw K Hs H σ e Hs' H' σ' e') : ∀ a, H a ≠ none → H' a ≠ none := f.go.there
theorem sim_andT (ha : SimE K ta da) (hb : SimE K tb db) : SimE K (tAndT K ta tb) (dAndT da db) := fun Hs H σ e Q k s hu c =>
  ha Hs H σ e _ _ s hu fun v x Hs1 H1 e1 f1 r1 h1 => by
    obtain ⟨a, ea, h3⟩ := h1
    refine ⟨trD a, tru_of f1.st.sub (sees_of f1.st r1 ea), ?_⟩
    by_cases hc : trD a = true
    · rw [if_pos hc] at h3 ⊢
      exact hb Hs1 H1 σ e1 _ _ f1.st h3 fun w y Hs2 H2 e2 f2 r2 h2 => c _ _ _ _ _ (f1.trans f2) (r2.back f1.there) h2
    · rw [if_neg hc] at h3 ⊢
      exact c _ _ _ _ _ f1 r1 h3
theorem sim_orT (ha : SimE K ta da) (hb : SimE K tb db) : SimE K (tOrT K ta tb) (dOrT da db) := fun Hs H σ e Q k s hu c =>
  ha Hs H σ e _ _ s hu fun v x Hs1 H1 e1 f1 r1 h1 => by
    obtain ⟨a, ea, h3⟩ := h1
    refine ⟨trD a, tru_of f1.st.sub (sees_of f1.st r1 ea), ?_⟩
    by_cases hc : trD a = true
    · rw [if_pos hc] at h3 ⊢
      exact c _ _ _ _ _ f1 r1 h3
    · rw [if_neg hc] at h3 ⊢
      exact hb Hs1 H1 σ e1 _ _ f1.st h3 fun w y Hs2 H2 e2 f2 r2 h2 => c _ _ _ _ _ (f1.trans f2) (r2.back f1.there) h2
def dIf (dt : DT) (da db : DE) : DE := fun e k => dt e fun b e1 => if b = true then da e1 k else db e1 k
theorem sim_if (ht : SimT K tt dt) (ha : SimE K ta da) (hb : SimE K tb db) : SimE K (tIf tt ta tb) (dIf dt da db) := fun Hs H σ e Q k s hu c =>
  ht Hs H σ e _ _ s hu fun b Hs1 H1 e1 f1 h1 => by
    cases b with
    | true =>
      rw [if_pos rfl] at h1 ⊢
      exact ha Hs1 H1 σ e1 _ _ f1.st h1 fun w y Hs2 H2 e2 f2 r2 h2 => c _ _ _ _ _ (f1.trans f2) (r2.back f1.there) h2
    | false =>
      rw [if_neg Bool.false_ne_true] at h1 ⊢
      exact hb Hs1 H1 σ e1 _ _ f1.st h1 fun w y Hs2 H2 e2 f2 r2 h2 => c _ _ _ _ _ (f1.trans f2) (r2.back f1.there) h2
def dChain (ρ ρ' : DR2) (da db dc : DE) : DE := fun e k => da e fun x e1 => db e1 fun y e2 => ∃ a b, see e2 x = some a ∧ see e2 y = some b ∧ ρ a b fun z => ∃ g, z = .d (.bool g) ∧
  if g = true then dc e2 fun w e3 => ∃ b' c', see e3 y = some b' ∧ see e3 w = some c' ∧ ρ' b' c' fun z => k z e3 else k (.d (.bool false)) e2
theorem sim_chain {r r' : R2} {ρ ρ' : DR2} (hr : SimR2 K r ρ) (hr' : SimR2 K r' ρ') (ha : SimE K ta da) (hb : SimE K tb db) (hc : SimE K tc dc) : SimE K (tChain r r' ta tb tc) (dChain ρ ρ' da db dc) := fun Hs H σ e Q k s hu c =>
  ha Hs H σ e _ _ s hu fun v x Hs1 H1 e1 f1 r1 h1 => hb Hs1 H1 σ e1 _ _ f1.st h1 fun w y Hs2 H2 e2 f2 r2 h2 => by
    obtain ⟨a, b, ea, eb, h3⟩ := h2
    refine hr Hs2 H2 v w a b _ _ f2.st.sub (sees_of f2.st (r1.keep f2) ea) (sees_of f2.st r2 eb) h3 ⟨fun d u hd hu => ?_, fun ds vs p hd _ _ _ => ?_, fun ds vs p hd _ _ _ => ?_⟩
    · obtain ⟨g, eg, hd⟩ := hd
      cases eg
      cases hu.1
      refine ⟨g, rfl, ?_⟩
      cases g with
      | true =>
        rw [if_pos rfl] at hd ⊢
        refine hc Hs2 H2 σ e2 _ _ f2.st hd fun w3 y3 Hs3 H3 e3 f3 r3 h4 => ?_
        obtain ⟨b', c', eb', ec', h5⟩ := h4
        exact hr' Hs3 H3 _ _ _ _ _ _ f3.st.sub (sees_of f3.st (r2.keep f3) eb') (sees_of f3.st r3 ec') h5 (out_of ((f1.trans f2).trans f3) c)
      | false =>
        rw [if_neg Bool.false_ne_true] at hd ⊢
        exact c _ (.d (.bool false)) _ _ _ (f1.trans f2) ⟨.bl _, rfl⟩ hd
    · obtain ⟨g, eg, _⟩ := hd; cases eg
    · obtain ⟨g, eg, _⟩ := hd; cases eg

/-! ### displays -/
abbrev DV := Env → (List PyData → Env → Prop) → Prop
def SimVs (K : PySem.W.Frag) (t : TA) (u : DV) : Prop := ∀ (Hs H : Hp) (σ : St) (e : Env) (Q : List V → Hp → Prop) (k : List PyData → Env → Prop), StR K Hs H σ e → u e k →
  (∀ vs ds Hs' H' e', Fw K Hs H σ e Hs' H' σ e' → Dws K Hs' vs ds → k ds e' → Q vs H') → t σ H Q
def vNil : DV := fun e k => k [] e
def vCons (da : DE) (dr : DV) : DV := fun e k => da e fun x e1 => asD x e1 fun d e2 => dr e2 fun ds e3 => k (d :: ds) e3
theorem sim_vnil : SimVs K tNil vNil := fun Hs H σ e Q k s hu c => c [] [] Hs H e (Fw.refl s) ⟨.nil, rfl⟩ hu
theorem sim_vcons {dr : DV} (ha : SimE K ta da) (hr : SimVs K ar dr) : SimVs K (tCons ta ar) (vCons da dr) := fun Hs H σ e Q k s hu c =>
  ha Hs H σ e _ _ s hu fun v x Hs1 H1 e1 f1 r1 h1 => by
    obtain ⟨Hs2, e2, d, f2, r2, h2, _⟩ := asD_sim f1 r1 h1
    refine hr Hs2 H1 σ e2 _ _ f2.st h2 fun vs ds Hs3 H3 e3 f3 r3 h3 => ?_
    have r4 := r2.mono f3.go.p
    exact c (v :: vs) (d :: ds) _ _ _ (f2.trans f3) ⟨.cons r4.1 r3.1, by show (wfD d && wfs ds) = true; rw [r4.2, r3.2]; rfl⟩ h3
def dTup (dr : DV) : DE := fun e k => dr e fun ds e1 => ds.length ≤ sizeLine ∧ k (.d (.tuple ds)) e1
def dLst (dr : DV) : DE := fun e k => dr e fun ds e1 => ds.length ≤ sizeLine ∧ k (.own (.lst ds)) e1
theorem sim_tup {dr : DV} (hr : SimVs K ar dr) : SimE K (tTup ar) (dTup dr) := fun Hs H σ e Q k s hu c =>
  hr Hs H σ e _ _ s hu fun vs ds Hs1 H1 e1 f1 r1 h1 => ⟨by rw [r1.1.len]; exact h1.1, fun p hp => (out_of f1 c).tup _ _ p h1.2 hp r1 h1.1⟩
theorem sim_lst {dr : DV} (hr : SimVs K ar dr) : SimE K (tLst ar) (dLst dr) := fun Hs H σ e Q k s hu c =>
  hr Hs H σ e _ _ s hu fun vs ds Hs1 H1 e1 f1 r1 h1 => ⟨by rw [r1.1.len]; exact h1.1, fun p hp => (out_of f1 c).lst _ _ p h1.2 hp r1 h1.1⟩

/-! ### slices -/
def oNone : DO := fun e k => k none e
def oSome (da : DE) : DO := fun e k => da e fun x e1 => ∃ i, x = .d (.int i) ∧ k (some i) e1
theorem sim_onone : SimO K tNoPart oNone := fun Hs H σ e Q k s hu c => c none Hs H e (Fw.refl s) hu
theorem sim_osome (ha : SimE K ta da) : SimO K (tPart ta) (oSome da) := fun Hs H σ e Q k s hu c =>
  ha Hs H σ e _ _ s hu fun v x Hs1 H1 e1 f1 r1 h1 => by
    obtain ⟨i, rfl, h1⟩ := h1
    have r1 : Dw K Hs1 v (.int i) := r1
    cases r1.1
    exact ⟨i, rfl, c _ _ _ _ f1 h1⟩
/-- what a slice is of any list -/
def cutX {α : Type} (xs : List α) (lo hi : Option Int) : List α := (xs.drop (HT.sIx xs.length 0 lo)).take (HT.sIx xs.length xs.length hi - HT.sIx xs.length 0 lo)
theorem tl_cutS (z : Str) (lo hi : Option Int) : TL.tl (cutS z lo hi) = cutX (TL.tl z) lo hi := by
  show _ = ((TL.tl z).drop _).take _
  rw [← TL.len_tl]
  rfl
theorem mem_cutX {α : Type} {xs : List α} {lo hi : Option Int} {x : α} (h : x ∈ cutX xs lo hi) : x ∈ xs := List.mem_of_mem_drop (List.mem_of_mem_take h)
theorem len_cutX {α : Type} (xs : List α) (lo hi : Option Int) : (cutX xs lo hi).length ≤ xs.length := by
  unfold cutX
  rw [List.length_take, List.length_drop]
  omega
theorem dq_cut {H : Hp} {vs : List V} {ds : List PyData} (h : Dws K H vs ds) (lo hi : Option Int) : Dws K H (cutV vs lo hi) (cutX ds lo hi) := by
  refine ⟨?_, wfs_sub h.2 fun d hd => mem_cutX hd⟩
  unfold cutV cutX
  rw [h.1.len]
  exact (h.1.drop _).take _
def dSlR (a : PyData) (lo hi : Option Int) (k : SV → Prop) : Prop := match a with
  | .list ds => k (.own (.lst (cutX ds lo hi)))
  | .tuple ds => k (.d (.tuple (cutX ds lo hi)))
  | .str z => k (.d (.str (cutS z lo hi)))
  | _ => False
abbrev uSl (K : PySem.W.Frag) : V → Option Int → Option Int → Hp → VK → Prop := fun x lo hi H Q => (rSlL K x lo hi H Q ∨ rSlS x lo hi H Q) ∨ rSlA K x lo hi H Q
theorem sl_any {X : Cx} : SlR X (uSl X.K) := (sl_list.or sl_str).or sl_tupA
def dSl (da : DE) (dl dh : DO) : DE := fun e k => da e fun x e1 => dl e1 fun lo e2 => dh e2 fun hi e3 => ∃ a, see e3 x = some a ∧ dSlR a lo hi fun z => k z e3
theorem sim_sl (ha : SimE K ta da) (hl : SimO K tl dl) (hh : SimO K th dh) : SimE K (tSl (uSl K) ta tl th) (dSl da dl dh) := fun Hs H σ e Q k s hu c =>
  ha Hs H σ e _ _ s hu fun v x Hs1 H1 e1 f1 r1 h1 => hl Hs1 H1 σ e1 _ _ f1.st h1 fun lo Hs2 H2 e2 f2 h2 => hh Hs2 H2 σ e2 _ _ f2.st h2 fun hi Hs3 H3 e3 f3 h3 => by
    obtain ⟨a, ea, h3⟩ := h3
    have f := (f1.trans f2).trans f3
    have g := sees_of f3.st ((r1.keep f2).keep f3) ea
    have o := out_of f c
    unfold dSlR at h3
    split at h3
    · obtain ⟨p, vs, rfl, e1, d1, l1⟩ := g.lst f3.st.sub
      exact .inl (.inl ⟨_, _, rfl, SqL.of e1, fun r hr => o.lst _ _ r h3 hr (dq_cut d1 _ _) (Nat.le_trans (len_cutX _ _ _) l1)⟩)
    · rename_i ds
      obtain ⟨p, vs, rfl, e1, g1, d1, l1, w1⟩ := g.tup f3.st.sub
      refine .inr ⟨_, _, rfl, g1, fun z => ?_, fun z r hr => o.tup _ _ r h3 hr (dq_cut d1 _ _) (Nat.le_trans (len_cutX _ _ _) l1)⟩
      have : cutX ds lo hi = ds := by
        unfold cutX
        rw [← d1.1.len, z.1, z.2, d1.1.len, List.drop_zero, Nat.sub_zero, List.take_length]
      rw [this] at h3
      exact o.val _ _ h3 w1
    · rename_i z
      obtain ⟨rfl, l1, o1⟩ := g.str
      exact .inl (.inr ⟨_, rfl, l1, o.str h3 (Nat.le_trans (cutS_length _ _ _) l1) (ok_sub o1 fun c hc => mem_cutX (by rw [tl_cutS] at hc; exact hc))⟩)
    · exact h3.elim

/-! ### built-ins by name, methods of texts -/
def seeAll (e : Env) : List SV → Option (List PyData)
  | [] => some []
  | x :: xs => match see e x, seeAll e xs with
    | some d, some ds => some (d :: ds)
    | _, _ => none
inductive SeesAll (K : PySem.W.Frag) (Hs H : Hp) : List V → List PyData → Prop
  | nil : SeesAll K Hs H [] []
  | cons {v : V} {vs : List V} {d : PyData} {ds : List PyData} : Sees K Hs H v d → SeesAll K Hs H vs ds → SeesAll K Hs H (v :: vs) (d :: ds)
def aNil : DA := fun e k => k [] e
def aCons (da : DE) (dr : DA) : DA := fun e k => da e fun x e1 => dr e1 fun xs e2 => k (x :: xs) e2
/-- values of an argument list, not told apart -/
inductive RelXl (K : PySem.W.Frag) (H0 Hs H : Hp) (σ : St) (e : Env) : List V → List SV → Prop
  | nil : RelXl K H0 Hs H σ e [] []
  | cons {v : V} {x : SV} {vs : List V} {xs : List SV} : RelX K H0 Hs H σ e v x → RelXl K H0 Hs H σ e vs xs → RelXl K H0 Hs H σ e (v :: vs) (x :: xs)
theorem RelXl.back {H0 H2 Hs H : Hp} {σ : St} {e : Env} {vs : List V} {xs : List SV} (t : ∀ a, H2 a ≠ none → H0 a ≠ none) (h : RelXl K H0 Hs H σ e vs xs) : RelXl K H2 Hs H σ e vs xs := by
  induction h with
  | nil => exact .nil
  | cons h1 h2 ih => exact .cons (h1.back t) ih
theorem sees_all {H0 Hs H : Hp} {σ : St} {e : Env} (s : StR K Hs H σ e) : ∀ {vs : List V} {xs : List SV} {ds : List PyData}, RelXl K H0 Hs H σ e vs xs → seeAll e xs = some ds → SeesAll K Hs H vs ds
  | _, _, _, .nil, h => by cases h; exact .nil
  | _, _, _, .cons (x := x) (xs := xs) h1 h2, h => by
    have h : (match see e x, seeAll e xs with
      | some d, some ds => some (d :: ds)
      | _, _ => none) = some _ := h
    split at h
    · rename_i d ds e1 e2
      cases h
      exact .cons (sees_of s h1 e1) (sees_all s h2 e2)
    · cases h
def SimAl (K : PySem.W.Frag) (t : TA) (u : DA) : Prop := ∀ (Hs H : Hp) (σ : St) (e : Env) (Q : List V → Hp → Prop) (k : List SV → Env → Prop), StR K Hs H σ e → u e k →
  (∀ vs xs Hs' H' e', Fw K Hs H σ e Hs' H' σ e' → RelXl K H Hs' H' σ e' vs xs → k xs e' → Q vs H') → t σ H Q
theorem sim_anil : SimAl K tNil aNil := fun Hs H σ e Q k s hu c => c [] [] Hs H e (Fw.refl s) .nil hu
theorem sim_acons {dr : DA} (ha : SimE K ta da) (hr : SimAl K ar dr) : SimAl K (tCons ta ar) (aCons da dr) := fun Hs H σ e Q k s hu c =>
  ha Hs H σ e _ _ s hu fun v x Hs1 H1 e1 f1 r1 h1 => hr Hs1 H1 σ e1 _ _ f1.st h1 fun vs xs Hs2 H2 e2 f2 r2 h2 =>
    c (v :: vs) (x :: xs) _ _ _ (f1.trans f2) (.cons (r1.keep f2) (r2.back f1.there)) h2
abbrev DRs := List PyData → (SV → Prop) → Prop
def SimRs (K : PySem.W.Frag) (r : List V → Hp → VK → Prop) (ρ : DRs) : Prop := ∀ (Hs H : Hp) (vs : List V) (ds : List PyData) (k : SV → Prop) (Q : VK), Same Hs H → SeesAll K Hs H vs ds → ρ ds k → Out K Hs H k Q → r vs H Q
def dCB (ρ : DRs) (aa : DA) : DE := fun e k => aa e fun xs e1 => ∃ ds, seeAll e1 xs = some ds ∧ ρ ds fun z => k z e1
theorem sim_cb {r : List V → Hp → VK → Prop} {ρ : DRs} (hr : SimRs K r ρ) (ha : SimAl K ar aa) : SimE K (tCB r ar) (dCB ρ aa) := fun Hs H σ e Q k s hu c =>
  ha Hs H σ e _ _ s hu fun vs xs Hs1 H1 e1 f1 r1 h1 => by
    obtain ⟨ds, e2, h3⟩ := h1
    exact hr Hs1 H1 vs ds _ _ f1.st.sub (sees_all f1.st r1 e2) h3 (out_of f1 c)
theorem SeesAll.one {Hs H : Hp} {vs : List V} {d : PyData} (h : SeesAll K Hs H vs [d]) : ∃ v, vs = [v] ∧ Sees K Hs H v d := by
  cases h with
  | cons h t => cases t; exact ⟨_, rfl, h⟩
theorem SeesAll.two {Hs H : Hp} {vs : List V} {d d2 : PyData} (h : SeesAll K Hs H vs [d, d2]) : ∃ v w, vs = [v, w] ∧ Sees K Hs H v d ∧ Sees K Hs H w d2 := by
  cases h with
  | cons h t =>
    cases t with
    | cons h2 t => cases t; exact ⟨_, _, rfl, h, h2⟩
def lenD : PyData → Option Nat
  | .str z => some z.length
  | .list ds => some ds.length
  | .tuple ds => some ds.length
  | _ => none
def dLen : DRs := fun ds k => match ds with
  | [d] => ∃ n, lenD d = some n ∧ k (.d (.int n))
  | _ => False
theorem sr_len : SimRs K (zLenA K) dLen := fun Hs H vs ds k Q sb h1 h3 o => by
  unfold dLen at h3
  split at h3
  · rename_i d
    obtain ⟨v, rfl, h⟩ := h1.one
    obtain ⟨n, e, h3⟩ := h3
    refine ⟨v, n, rfl, ?_, o.int h3⟩
    cases d with
    | str z => cases e; obtain ⟨rfl, l, _⟩ := h.str; exact ⟨l, rfl⟩
    | list ds => cases e; obtain ⟨p, vs, rfl, e, d, _⟩ := h.lst sb; exact .inl ⟨vs, SqL.of e, d.1.len.symm⟩
    | tuple ds => cases e; obtain ⟨p, vs, rfl, _, e, d, _⟩ := h.tup sb; exact .inr ⟨vs, e, d.1.len.symm⟩
    | _ => cases e
  · exact h3.elim
def dAll : DRs := fun ds k => match ds with
  | [.list es] => ∃ bs : List Bool, es = bs.map PyData.bool ∧ k (.d (.bool (bs.all id)))
  | _ => False
def dAny : DRs := fun ds k => match ds with
  | [.list es] => ∃ bs : List Bool, es = bs.map PyData.bool ∧ k (.d (.bool (bs.any id)))
  | _ => False
theorem sr_all : SimRs K (rAll K) dAll := fun Hs H vs ds k Q sb h1 h3 o => by
  unfold dAll at h3
  split at h3
  · obtain ⟨v, rfl, h⟩ := h1.one
    obtain ⟨bs, rfl, h3⟩ := h3
    obtain ⟨p, vs, rfl, e, d, _⟩ := h.lst sb
    rw [d.1.of_bls] at e
    exact ⟨p, bs, rfl, SqL.of e, o.bl h3⟩
  · exact h3.elim
theorem sr_any : SimRs K (rAny K) dAny := fun Hs H vs ds k Q sb h1 h3 o => by
  unfold dAny at h3
  split at h3
  · obtain ⟨v, rfl, h⟩ := h1.one
    obtain ⟨bs, rfl, h3⟩ := h3
    obtain ⟨p, vs, rfl, e, d, _⟩ := h.lst sb
    rw [d.1.of_bls] at e
    exact ⟨p, bs, rfl, SqL.of e, o.bl h3⟩
  · exact h3.elim
def dAbs : DRs := fun ds k => match ds with
  | [.int i] => k (.d (.int (i.natAbs : Int)))
  | _ => False
theorem sr_abs : SimRs K zAbs dAbs := fun Hs H vs ds k Q sb h1 h3 o => by
  unfold dAbs at h3
  split at h3
  · obtain ⟨v, rfl, h⟩ := h1.one
    rw [h.int]
    exact x_abs (o.int h3)
  · exact h3.elim
def dInt1 : DRs := fun ds k => match ds with
  | [.int i] => k (.d (.int i))
  | [.bool b] => k (.d (.int (if b then 1 else 0)))
  | _ => False
theorem sr_int1 : SimRs K zInt1 dInt1 := fun Hs H vs ds k Q sb h1 h3 o => by
  unfold dInt1 at h3
  split at h3
  · obtain ⟨v, rfl, h⟩ := h1.one
    rw [h.int]
    exact .inl ⟨_, rfl, o.int h3⟩
  · obtain ⟨v, rfl, h⟩ := h1.one
    rw [h.bl]
    exact .inr ⟨_, rfl, o.int h3⟩
  · exact h3.elim
def dListOf : DRs := fun ds k => match ds with
  | [.list es] => k (.own (.lst es))
  | [.tuple es] => k (.own (.lst es))
  | _ => False
theorem sr_listOf : SimRs K (zListOf K) dListOf := fun Hs H vs ds k Q sb h1 h3 o => by
  unfold dListOf at h3
  split at h3
  · obtain ⟨v, rfl, h⟩ := h1.one
    obtain ⟨p, vs, rfl, e, d, l⟩ := h.lst sb
    exact ⟨p, vs, rfl, .inl (SqL.of e), fun r hr => o.lst _ _ r h3 hr d l⟩
  · obtain ⟨v, rfl, h⟩ := h1.one
    obtain ⟨p, vs, rfl, _, e, d, l, _⟩ := h.tup sb
    exact ⟨p, vs, rfl, .inr e, fun r hr => o.lst _ _ r h3 hr d l⟩
  · exact h3.elim
def dTupleOf : DRs := fun ds k => match ds with
  | [.list es] => k (.d (.tuple es))
  | [.tuple es] => k (.d (.tuple es))
  | _ => False
theorem sr_tupleOf : SimRs K (zTupleOf K) dTupleOf := fun Hs H vs ds k Q sb h1 h3 o => by
  unfold dTupleOf at h3
  split at h3
  · obtain ⟨v, rfl, h⟩ := h1.one
    obtain ⟨p, vs, rfl, e, d, l⟩ := h.lst sb
    exact ⟨p, vs, rfl, .inl ⟨SqL.of e, fun r hr => o.tup _ _ r h3 hr d l⟩⟩
  · obtain ⟨v, rfl, h⟩ := h1.one
    obtain ⟨p, vs, rfl, _, e, d, l, w⟩ := h.tup sb
    exact ⟨p, vs, rfl, .inr ⟨e, o.val _ _ h3 w⟩⟩
  · exact h3.elim
def dMax2 : DRs := fun ds k => match ds with
  | [.int i, .int j] => k (.d (.int (max i j)))
  | _ => False
def dMin2 : DRs := fun ds k => match ds with
  | [.int i, .int j] => k (.d (.int (min i j)))
  | _ => False
theorem sr_max2 : SimRs K zMax2 dMax2 := fun Hs H vs ds k Q sb h1 h3 o => by
  unfold dMax2 at h3
  split at h3
  · rename_i i j
    obtain ⟨v, w, rfl, h, g⟩ := h1.two
    rw [h.int, g.int]
    refine ⟨_, _, rfl, o.int ?_⟩
    have e : (if j > i then j else i) = max i j := by split <;> omega
    rw [e]
    exact h3
  · exact h3.elim
theorem sr_min2 : SimRs K zMin2 dMin2 := fun Hs H vs ds k Q sb h1 h3 o => by
  unfold dMin2 at h3
  split at h3
  · rename_i i j
    obtain ⟨v, w, rfl, h, g⟩ := h1.two
    rw [h.int, g.int]
    refine ⟨_, _, rfl, o.int ?_⟩
    have e : (if j < i then j else i) = min i j := by split <;> omega
    rw [e]
    exact h3
  · exact h3.elim
/-! isinstance -/
def kindOk (T : String) : Bool := ["list", "tuple", "str", "bool", "int"].contains T
def isI (T : String) (d : PyData) : Bool := (kitB (tyN d) T).getD false
theorem isI_list (d : PyData) (h : wfD d = true) : kitB (tyN d) "list" = some (isD_list d) := by
  cases d with
  | dict _ => unfold wfD at h; cases h
  | none => exact kit_list .none rfl
  | bool b => exact (by decide +kernel : kitB "bool" "list" = some false)
  | int b => exact (by decide +kernel : kitB "int" "list" = some false)
  | str b => exact (by decide +kernel : kitB "str" "list" = some false)
  | list b => exact (by decide +kernel : kitB "list" "list" = some true)
  | tuple b => exact (by decide +kernel : kitB "tuple" "list" = some false)
theorem isI_tuple (d : PyData) (h : wfD d = true) : kitB (tyN d) "tuple" = some (isD_tuple d) := by
  cases d with
  | dict _ => unfold wfD at h; cases h
  | none => exact kit_tuple .none rfl
  | bool b => exact (by decide +kernel : kitB "bool" "tuple" = some false)
  | int b => exact (by decide +kernel : kitB "int" "tuple" = some false)
  | str b => exact (by decide +kernel : kitB "str" "tuple" = some false)
  | list b => exact (by decide +kernel : kitB "list" "tuple" = some false)
  | tuple b => exact (by decide +kernel : kitB "tuple" "tuple" = some true)
theorem isI_str (d : PyData) (h : wfD d = true) : kitB (tyN d) "str" = some (isD_str d) := by
  cases d with
  | dict _ => unfold wfD at h; cases h
  | none => exact kit_str .none rfl
  | bool b => exact (by decide +kernel : kitB "bool" "str" = some false)
  | int b => exact (by decide +kernel : kitB "int" "str" = some false)
  | str b => exact (by decide +kernel : kitB "str" "str" = some true)
  | list b => exact (by decide +kernel : kitB "list" "str" = some false)
  | tuple b => exact (by decide +kernel : kitB "tuple" "str" = some false)
theorem isI_bool (d : PyData) (h : wfD d = true) : kitB (tyN d) "bool" = some (isD_bool d) := by
  cases d with
  | dict _ => unfold wfD at h; cases h
  | none => exact kit_bool .none rfl
  | bool b => exact (by decide +kernel : kitB "bool" "bool" = some true)
  | int b => exact (by decide +kernel : kitB "int" "bool" = some false)
  | str b => exact (by decide +kernel : kitB "str" "bool" = some false)
  | list b => exact (by decide +kernel : kitB "list" "bool" = some false)
  | tuple b => exact (by decide +kernel : kitB "tuple" "bool" = some false)
theorem isI_int (d : PyData) (h : wfD d = true) : kitB (tyN d) "int" = some (isD_int d) := by
  cases d with
  | dict _ => unfold wfD at h; cases h
  | none => exact kit_int .none rfl
  | bool b => exact (by decide +kernel : kitB "bool" "int" = some true)
  | int b => exact (by decide +kernel : kitB "int" "int" = some true)
  | str b => exact (by decide +kernel : kitB "str" "int" = some false)
  | list b => exact (by decide +kernel : kitB "list" "int" = some false)
  | tuple b => exact (by decide +kernel : kitB "tuple" "int" = some false)
def isiK (f : PyData → Bool) (x : SV) (e1 : Env) (kk : Bool → Prop) : Prop := ∃ a, see e1 x = some a ∧ kk (f a)
def dIsi (f : PyData → Bool) (da : DE) : DE := fun e k => da e fun x e1 => isiK f x e1 fun b => k (.d (.bool b)) e1
theorem sim_isi {T : String} {f : PyData → Bool} (hf : ∀ d, wfD d = true → kitB (tyN d) T = some (f d)) (ha : SimE K ta da) : SimE K (tCB (rIsi K) (tCons ta (tCons (tC (.ty T)) tNil))) (dIsi f da) := fun Hs H σ e Q k s hu c =>
  ha Hs H σ e _ _ s hu fun v x Hs1 H1 e1 f1 r1 h1 => by
    obtain ⟨a, ea, h3⟩ := h1
    have g := sees_of f1.st r1 ea
    exact x_isi (g.dp f1.st.sub) (hf a g.wf) (c _ (.d (.bool _)) _ _ _ f1 ⟨.bl _, rfl⟩ h3)
/-- isinstance(x, (list, tuple)) -/
theorem sim_isSeq (ha : SimE K ta da) : SimE K (tCB (rIsiT K) (tCons ta (tCons (tTup (tCons (tC (.ty "list")) (tCons (tC (.ty "tuple")) tNil))) tNil))) (dIsi isSeq da) := fun Hs H σ e Q k s hu c =>
  ha Hs H σ e _ _ s hu fun v x Hs1 H1 e1 f1 r1 h1 => by
    obtain ⟨a, ea, h3⟩ := h1
    have g := sees_of f1.st r1 ea
    refine ⟨by show 2 ≤ sizeLine; decide, fun p hp => ?_⟩
    obtain ⟨gp, sb⟩ := gp_cell (o := .tup [.ty "list", .ty "tuple"]) f1.st.sub hp
    have f2 := f1.trans (f1.st.ext gp sb)
    refine ⟨v, p, _, _, [.type "list", .type "tuple"], isSeq a, rfl, upd_same, .cons (.ty _) (.cons (.ty _) .nil), dp_ty ((sees_of f2.st (r1.keep (f1.st.ext gp sb)) ea).dp f2.st.sub), ?_, c _ (.d (.bool _)) _ _ _ f2 ⟨.bl _, rfl⟩ h3⟩
    refine kitAny_cons (kit_ty (isI_list a g.wf)) (fun e => kitAny_cons (kit_ty (isI_tuple a g.wf)) (fun e2 => ?_) fun e2 => ?_) fun e => ?_
    · rw [kitAny_nil]
      cases a <;> first | rfl | exact (Bool.noConfusion e) | exact (Bool.noConfusion e2)
    · cases a <;> first | rfl | exact (Bool.noConfusion e2)
    · cases a <;> first | rfl | exact (Bool.noConfusion e)
end
end DL

/-! the data layer: targets, statements, loops, comprehensions -/
namespace DL
open PySem PySem.Spec PyProof.Rows L2
section
variable {K : PySem.W.Frag} {ta tb tc te : TE} {tt tu tv : TT} {t u : TS} {ar : TA} {g : TG} {gs : TGs} {wi : TI} {da db dc de : DE} {dt du dw : DT} {d1 d2 : DS} {aa : DA} {dg : DG} {dgs : DGs} {di : DI} {i : Nat}

/-! ### targets -/
/-- what goes into a local: an owned thing that has a name already is frozen -/
def noAl (x : SV) (e : Env) (k : DK) : Prop := match x with
  | .d d => k (.d d) e
  | .v w => k (.v w) e
  | .own c => k (.own c) e
  | .al j => asD (.al j) e fun d e' => k (.d d) e'
  | _ => False
def putX (i : Nat) (x : SV) (e : Env) (k : Env → Prop) : Prop := noAl x e fun y e' => notPar e' i = true ∧ k (e'.set i y)
def gN (i : Nat) : DG := fun x e k => putX i x e k
theorem sim_gN (i : Nat) : SimG K (gName i) (gN i) := fun Hs0 H0 σ0 e0 Hs H σ e v x Q k f r hu c => by
  have hu : noAl x e fun y e' => notPar e' i = true ∧ k (e'.set i y) := hu
  cases x with
  | d d =>
    obtain ⟨hn, hk⟩ := hu
    exact c _ Hs H _ (f.setD (s := .d d) hn ⟨v, rfl, r⟩ rfl) (Same.refl _) hk
  | v w =>
    obtain ⟨hn, hk⟩ := hu
    have r : v = w := r
    subst r
    exact c _ Hs H _ (f.setD (s := .v v) hn rfl rfl) (Same.refl _) hk
  | own o =>
    obtain ⟨hn, hk⟩ := hu
    obtain ⟨a, rfl, ha, hr, h0, nh⟩ := r
    exact c _ Hs H _ (f.setO hn ha hr h0 nh) (Same.refl _) hk
  | al j =>
    have hu2 : (match e[j]? with
      | some (.own (.lst ds)) => notPar (e.set j (.d (.list ds))) i = true ∧ k ((e.set j (.d (.list ds))).set i (.d (.list ds)))
      | _ => False) := hu
    split at hu2
    · rename_i ds q
      have r : σ[j]? = some (some v) := r
      obtain ⟨Hs2, w, h1, h2, h3, h4⟩ := f.freeze q
      rw [r] at h1
      cases h1
      exact c _ Hs2 H _ (h3.setD (s := .d (.list ds)) hu2.1 ⟨v, rfl, h4⟩ rfl) h2 hu2.2
    · exact hu2.elim
  | par o => exact hu.elim
  | no => exact hu.elim
def gsNil : DGs := fun ds e k => match ds with
  | [] => k e
  | _ => False
def gsCons (g : DG) (gs : DGs) : DGs := fun ds e k => match ds with
  | d :: r => g (.d d) e fun e1 => gs r e1 k
  | _ => False
theorem sim_gsnil : SimGs K gNil gsNil := fun Hs0 H0 σ0 e0 Hs H σ e vs ds Q k f r hu c => by
  unfold gsNil at hu
  split at hu
  · cases r.1
    exact ⟨rfl, c _ _ _ _ f (Same.refl _) hu⟩
  · exact hu.elim
theorem sim_gscons (hg : SimG K g dg) (hs : SimGs K gs dgs) : SimGs K (gCons g gs) (gsCons dg dgs) := fun Hs0 H0 σ0 e0 Hs H σ e vs ds Q k f r hu c => by
  unfold gsCons at hu
  split at hu
  · rename_i d ds
    obtain ⟨r1, r2⟩ := r
    have r2 : (wfD d && wfs ds) = true := r2
    rw [Bool.and_eq_true] at r2
    cases r1 with
    | cons h t =>
      refine ⟨_, _, rfl, hg Hs0 H0 σ0 e0 Hs H σ e _ (.d d) _ _ f ⟨h, r2.1⟩ hu fun σ1 Hs1 H1 e1 f1 s1 h1 => ?_⟩
      exact hs Hs0 H0 σ0 e0 Hs1 H1 σ1 e1 _ _ _ _ f1 ⟨t.mono s1, r2.2⟩ h1 fun σ2 Hs2 H2 e2 f2 s2 h2 => c _ _ _ _ f2 (s1.trans s2) h2
  · exact hu.elim
/-- a, b = a tuple -/
def gT (n : Nat) (gs : DGs) : DG := fun x e k => match x with
  | .d (.tuple ds) => ds.length = n ∧ gs ds e k
  | _ => False
theorem sim_gT {n : Nat} (hs : SimGs K gs dgs) : SimG K (gTup K n gs) (gT n dgs) := fun Hs0 H0 σ0 e0 Hs H σ e v x Q k f r hu c => by
  unfold gT at hu
  split at hu
  · rename_i ds
    have r : Dw K Hs v (.tuple ds) := r
    have w := wf_tup.mp r.2
    cases r.1 with
    | tup h t => exact ⟨_, _, rfl, f.st.sub.sqt h, by rw [t.len]; exact hu.1, hs Hs0 H0 σ0 e0 Hs H σ e _ _ _ _ f ⟨t, w.2⟩ hu.2 c⟩
  · exact hu.elim
/-- a, b = a list -/
def gL (n : Nat) (gs : DGs) : DG := fun x e k => ∃ ds, see e x = some (.list ds) ∧ ds.length = n ∧ gs ds e k
theorem sim_gL {n : Nat} (hs : SimGs K gs dgs) : SimG K (gLst K n gs) (gL n dgs) := fun Hs0 H0 σ0 e0 Hs H σ e v x Q k f r hu c => by
  obtain ⟨ds, e1, e2, hu⟩ := hu
  obtain ⟨p, vs, rfl, h1, h2, h3⟩ := (sees_of f.st r e1).lst f.st.sub
  exact ⟨p, vs, rfl, SqL.of h1, by rw [h2.1.len]; exact e2, hs Hs0 H0 σ0 e0 Hs H σ e _ _ _ _ f h2 hu c⟩
/-- a, *b = a list; the list behind the star is new -/
def gStar1 (i j : Nat) : DG := fun x e k => ∃ d ds, see e x = some (.list (d :: ds)) ∧ notPar e i = true ∧ notPar (e.set i (.d d)) j = true ∧ k ((e.set i (.d d)).set j (.own (.lst ds)))
theorem Fw.more {Hs0 H0 Hs H Hs' H' : Hp} {σ0 σ : St} {e0 e : Env} (f : Fw K Hs0 H0 σ0 e0 Hs H σ e) (g : GoP (fun _ => False) Hs H Hs' H') (sb : Same Hs' H') : Fw K Hs0 H0 σ0 e0 Hs' H' σ e := f.trans (f.st.ext g sb)
theorem fresh_back {Hs0 H0 Hs H : Hp} {σ0 σ : St} {e0 e : Env} {p : Addr} (f : Fw K Hs0 H0 σ0 e0 Hs H σ e) (h : H p = none) : H0 p = none := by
  cases q : H0 p with
  | none => rfl
  | some u => exact absurd h (f.go.there p (some_ne q))
theorem sim_gStar1 (i j : Nat) : SimG K (gStarL K 2 1 (gCons (gName i) (gCons (gName j) gNil))) (gStar1 i j) := fun Hs0 H0 σ0 e0 Hs H σ e v x Q k f r hu c => by
  obtain ⟨d, ds, e1, n1, n2, hk⟩ := hu
  obtain ⟨p, vs, rfl, h1, h2, h3⟩ := (sees_of f.st r e1).lst f.st.sub
  obtain ⟨q1, q2⟩ := h2
  have q2 : (wfD d && wfs ds) = true := q2
  rw [Bool.and_eq_true] at q2
  cases q1 with
  | @cons v0 vs _ _ hv hvs =>
    refine ⟨p, _, rfl, SqL.of h1, by simp, fun D hD => ?_⟩
    have es : (v0 :: vs).take 1 ++ [V.ref D] ++ ((v0 :: vs).drop 1).drop ((v0 :: vs).length + 1 - 2) = [v0, .ref D] := by simp
    have eu : ((v0 :: vs).drop 1).take ((v0 :: vs).length + 1 - 2) = vs := by simp
    rw [es, eu]
    obtain ⟨gp, sb⟩ := gp_cell (o := .lst vs) f.st.sub hD
    have f1 := f.more gp sb
    have f2 := f1.setD (i := i) (s := .d d) (w := v0) n1 ⟨v0, rfl, hv, q2.1⟩ rfl
    refine ⟨_, _, rfl, _, _, rfl, rfl, ?_⟩
    refine c _ Hs _ _ (f2.setO (i := j) (c := .lst ds) (a := D) n2 (none_sub f.st.sub hD) ⟨vs, upd_same, ⟨hvs, q2.2⟩, by simp at h3; omega⟩ (fresh_back f hD) fun l hl => ?_) (Same.refl _) hk
    rcases held_set hl with ⟨_, _, z⟩ | ⟨_, z⟩
    · cases z
    · obtain ⟨o, ho⟩ := f.st.heldSome z
      rw [hD] at ho
      cases ho
/-- x[i] = v -/
def isLst (e : Env) (j : Nat) : Prop := ∃ ds, conS e j = some (.lst ds)
theorem lst_at {Hs H : Hp} {σ : St} {e : Env} {j : Nat} (s : StR K Hs H σ e) (h : isLst e j) : ∃ a vs, σ[j]? = some (some (.ref a)) ∧ H a = some (.lst vs) := by
  obtain ⟨ds, h⟩ := h
  obtain ⟨a, h1, vs, h2, _⟩ := con_held s h
  exact ⟨a, vs, h1.1, h2⟩
theorem con_at {Hs H : Hp} {σ : St} {e : Env} {j : Nat} {ds : List PyData} {a : Addr} (s : StR K Hs H σ e) (h : conS e j = some (.lst ds)) (hx : σ[j]? = some (some (.ref a))) : Held σ e j a ∧ ∃ vs, H a = some (.lst vs) ∧ Dws K Hs vs ds ∧ ds.length ≤ sizeLine := by
  obtain ⟨b, h1, vs, h2, h3, h4⟩ := con_held s h
  rw [h1.1] at hx
  cases hx
  exact ⟨h1, vs, h2, h3, h4⟩
theorem wfs_set {ds : List PyData} {d : PyData} (h : wfs ds = true) (g : wfD d = true) (m : Nat) : wfs (ds.set m d) = true := wfs_iff.mpr fun x hx => by
  rcases List.mem_or_eq_of_mem_set hx with z | z
  · exact wfs_iff.mp h x z
  · rw [z]; exact g
def gSubL (j : Nat) (db : DE) : DG := fun x e k => asD x e fun d e1 => isLst e1 j ∧ db e1 fun y e2 => ∃ n ds m, y = .d (.int n) ∧ conS e2 j = some (.lst ds) ∧ ixN ds.length n = some m ∧ k (setC e2 j (.lst (ds.set m d)))
theorem sim_gSubL {j : Nat} (hb : SimE K tb db) : SimG K (gSub (tVar j) tb rSetL) (gSubL j db) := fun Hs0 H0 σ0 e0 Hs H σ e v x Q k f r hu c => by
  obtain ⟨Hs1, e1, d, f1, r1, ⟨hl, h1⟩, s1⟩ := asD_sim f r hu
  obtain ⟨a, vs0, hx, _⟩ := lst_at f1.st hl
  refine ⟨_, hx, hb Hs1 H σ e1 _ _ f1.st h1 fun w y Hs2 H2 e2 f2 r2 h2 => ?_⟩
  obtain ⟨n, ds, m, rfl, hc, hm, hk⟩ := h2
  have r2 : Dw K Hs2 w (.int n) := r2
  cases r2.1
  obtain ⟨hh, vs, h3, h4, h5⟩ := con_at f2.st hc hx
  refine ⟨a, vs, n, m, rfl, rfl, h3, by rw [h4.1.len]; exact hm, ?_⟩
  have r3 := r1.mono f2.go.p
  have f3 := f2.st
  exact c σ Hs2 _ _ ((f1.trans f2).trans (Fw.put (ho := .lst (vs.set m v)) (c := .lst (ds.set m d)) f3 hh ⟨_, upd_same, ⟨h4.1.set r3.1 m, wfs_set h4.2 r3.2 m⟩, by rw [List.length_set]; exact h5⟩)) (s1.trans f2.go.p) hk

/-! ### statements -/
def sSeq (d1 d2 : DS) : DS := fun D e => d1 { D with nx := fun e1 => d2 D e1 } e
theorem SimD.step {Hs H Hs' H' : Hp} {σ σ' : St} {e e' : Env} {D : Ends} {dD : DEnds} (S : SimD K Hs H σ e D dD) (f : Fw K Hs H σ e Hs' H' σ' e') : SimD K Hs' H' σ' e' D dD :=
  ⟨fun _ _ _ _ f2 => S.nx _ _ _ _ (f.trans f2), fun _ _ _ _ _ _ f2 r => S.rt _ _ _ _ _ _ (f.trans f2) (r.back f.there), fun _ _ _ _ f2 => S.bk _ _ _ _ (f.trans f2), fun _ _ _ _ f2 => S.ct _ _ _ _ (f.trans f2)⟩
theorem sim_seq (h1 : SimS K t d1) (h2 : SimS K u d2) : SimS K (tSeq t u) (sSeq d1 d2) := fun Hs H σ e D dD s hu S =>
  h1 Hs H σ e _ _ s hu ⟨fun σ' Hs' H' e' f q => h2 Hs' H' σ' e' D dD f.st q (S.step f), S.rt, S.bk, S.ct⟩
def sCut (d1 d2 : DS) : DS := fun D e => ∃ M : Env → Prop, d1 { D with nx := M } e ∧ ∀ e', M e' → d2 D e'
theorem sim_cut (h1 : SimS K t d1) (h2 : SimS K u d2) : SimS K (C8.tCut t u) (sCut d1 d2) := fun Hs H σ e D dD s hu S => by
  obtain ⟨M, h, k⟩ := hu
  refine ⟨fun σ' H' => ∃ Hs' e', Fw K Hs H σ e Hs' H' σ' e' ∧ M e', h1 Hs H σ e _ _ s h ⟨fun σ' Hs' H' e' f q => ⟨Hs', e', f, q⟩, S.rt, S.bk, S.ct⟩, fun σ' H' ⟨Hs', e', f, q⟩ => h2 Hs' H' σ' e' D dD f.st (k e' q) (S.step f)⟩
def sAsg (da : DE) (dg : DG) : DS := fun D e => da e fun x e1 => dg x e1 D.nx
theorem sim_asg (ha : SimE K ta da) (hg : SimG K g dg) : SimS K (tAsg ta g) (sAsg da dg) := fun Hs H σ e D dD s hu S =>
  ha Hs H σ e _ _ s hu fun v x Hs1 H1 e1 f1 r1 h1 => hg Hs H σ e Hs1 H1 σ e1 v x _ _ f1 r1 h1 fun σ' Hs' H' e' f _ q => S.nx _ _ _ _ f q
/-- a = b = e, e a thing that is no list of its own -/
def sAsg2 (da : DE) (g1 g2 : DG) : DS := fun D e => da e fun x e1 => ∃ d, x = .d d ∧ g1 x e1 fun e2 => g2 x e2 D.nx
theorem sim_asg2 {g1 g2 : TG} {dg1 dg2 : DG} (ha : SimE K ta da) (h1 : SimG K g1 dg1) (h2 : SimG K g2 dg2) : SimS K (tAsg2 ta g1 g2) (sAsg2 da dg1 dg2) := fun Hs H σ e D dD s hu S =>
  ha Hs H σ e _ _ s hu fun v x Hs1 H1 e1 f1 r1 q1 => by
    obtain ⟨d, rfl, q1⟩ := q1
    exact h1 Hs H σ e Hs1 H1 σ e1 v (.d d) _ _ f1 r1 q1 fun σ2 Hs2 H2 e2 f2 s2 q2 => h2 Hs H σ e Hs2 H2 σ2 e2 v (.d d) _ _ f2 (Dw.mono s2 r1) q2 fun σ' Hs' H' e' f _ q => S.nx _ _ _ _ f q
def sIf (dt : DT) (d1 d2 : DS) : DS := fun D e => dt e fun b e1 => if b = true then d1 D e1 else d2 D e1
theorem sim_ifs (ht : SimT K tt dt) (h1 : SimS K t d1) (h2 : SimS K u d2) : SimS K (tIfS tt t u) (sIf dt d1 d2) := fun Hs H σ e D dD s hu S =>
  ht Hs H σ e _ _ s hu fun b Hs1 H1 e1 f1 q1 => by
    cases b with
    | true => rw [if_pos rfl] at q1 ⊢; exact h1 Hs1 H1 σ e1 D dD f1.st q1 (S.step f1)
    | false => rw [if_neg Bool.false_ne_true] at q1 ⊢; exact h2 Hs1 H1 σ e1 D dD f1.st q1 (S.step f1)
def sRet (da : DE) : DS := fun D e => da e D.rt
theorem sim_ret (ha : SimE K ta da) : SimS K (tRet ta) (sRet da) := fun Hs H σ e D dD s hu S => ha Hs H σ e _ _ s hu fun v x Hs1 H1 e1 f1 r1 q1 => S.rt _ _ _ _ _ _ f1 r1 q1
def sRetN : DS := fun D e => D.rt (.d .none) e
theorem sim_retN : SimS K tRetN sRetN := fun Hs H σ e D dD s hu S => S.rt _ (.d .none) _ _ _ _ (Fw.refl s) ⟨.non, rfl⟩ hu
def sDrop (da : DE) : DS := fun D e => da e fun _ e1 => D.nx e1
theorem sim_drop (ha : SimE K ta da) : SimS K (tDrop ta) (sDrop da) := fun Hs H σ e D dD s hu S => ha Hs H σ e _ _ s hu fun v x Hs1 H1 e1 f1 r1 q1 => S.nx _ _ _ _ f1 q1
def sNext : DS := fun D e => D.nx e
def sBreak : DS := fun D e => D.bk e
def sCont : DS := fun D e => D.ct e
theorem sim_next : SimS K tNext sNext := fun Hs H σ e D dD s hu S => S.nx _ _ _ _ (Fw.refl s) hu
theorem sim_break : SimS K tBreak sBreak := fun Hs H σ e D dD s hu S => S.bk _ _ _ _ (Fw.refl s) hu
theorem sim_cont : SimS K tCont sCont := fun Hs H σ e D dD s hu S => S.ct _ _ _ _ (Fw.refl s) hu
/-- x += e: ints, texts -/
def uAug : TIp := fun x y H Q => (∃ i j, x = .int i ∧ y = .int j ∧ Q (.int (i + j)) H) ∨ ∃ i j, x = .str i ∧ y = .str j ∧ i.length + j.length ≤ sizeLine ∧ Q (.str (i ++ j)) H
def sAug (i : Nat) (da : DE) (f : DR2) : DS := fun D e => ∃ a, e[i]? = some (.d a) ∧ da e fun y e1 => ∃ b, see e1 y = some b ∧ f a b fun z => ∃ d, z = .d d ∧ notPar e1 i = true ∧ D.nx (e1.set i (.d d))
def dAddSI : DR2 := fun a b k => match a, b with
  | .int i, .int j => k (.d (.int (i + j)))
  | .str x, .str y => x.length + y.length ≤ sizeLine ∧ k (.d (.str (x ++ y)))
  | _, _ => False
theorem sim_aug (i : Nat) (ha : SimE K ta da) : SimS K (tAug i ta uAug) (sAug i da dAddSI) := fun Hs H σ e D dD s hu S => by
  obtain ⟨a, h0, hu⟩ := hu
  obtain ⟨o, h1, v, rfl, r0⟩ := s.rel i _ h0
  refine ⟨v, h1, ha Hs H σ e _ _ s hu fun w y Hs1 H1 e1 f1 r1 q1 => ?_⟩
  obtain ⟨b, hb, q1⟩ := q1
  have sb := sees_of f1.st r1 hb
  have r0 := r0.mono f1.go.p
  unfold dAddSI at q1
  split at q1
  · cases r0.1
    obtain ⟨d, ed, hn, q⟩ := q1
    cases ed
    rw [sb.int]
    exact .inl ⟨_, _, rfl, rfl, S.nx _ _ _ _ (f1.setD (s := .d (.int _)) hn ⟨_, rfl, .int _, rfl⟩ rfl) q⟩
  · have r00 := wf_str.mp r0.2
    cases r0.1
    obtain ⟨hl, d, ed, hn, q⟩ := q1
    cases ed
    obtain ⟨rfl, l1, o1⟩ := sb.str
    exact .inr ⟨_, _, rfl, rfl, hl, S.nx _ _ _ _ (f1.setD (s := .d (.str _)) hn ⟨_, rfl, .str _, wf_str.mpr ⟨by rw [len_append]; exact hl, ok_app r00.2 o1⟩⟩ rfl) q⟩
  · exact q1.elim
end
end DL

/-! the data layer: loops, comprehensions -/
namespace DL
open PySem PySem.Spec PyProof.Rows L2
abbrev uIt (K : PySem.W.Frag) (ta : TE) : TI := fun σ H R => ta σ H fun v H1 => (∃ a, v = .ref a ∧ (∃ xs, SqL K H1 a xs) ∧ R (Itl K a) H1) ∨ (∃ a, v = .ref a ∧ (∃ xs, SqT K H1 a xs) ∧ R (Itt K a) H1) ∨ ∃ z, v = .str z ∧ R (Its z) H1
theorem pi_any {X : Cx} {tg l : Expr} {tl : TE} (hl : PE X l tl) : PI X tg l (uIt X.K tl) := by
  refine ⟨fun pins s σ H R I h => ?_⟩
  refine thn (hl.run pins s σ H _ I h) fun v s1 ⟨x, H1, I1, r1, q1⟩ => ?_
  rcases q1 with ⟨a, e, ⟨xs, hq⟩, q⟩ | ⟨a, e, ⟨xs, hq⟩, q⟩ | ⟨x, ex, q⟩
  · subst e
    cases r1
    obtain ⟨its, rv, p, hz⟩ := I1.list hq
    refine wpAny_pyIter_list p.isList ?_
    refine ⟨s1.heap.objs.size, [s1.heap.objs.size], _, _, H1, rfl, I1.kept (t' := s1.toks) fun b o e => Heap.get?_push_of_some _ e, turn_list a _, ⟨_, Heap.get?_push_size _ rfl, rfl, rfl⟩, fun b hb => ?_, q⟩
    have e : b = s1.heap.objs.size := by simpa using hb
    subst e
    exact I1.fpOk (Nat.le_refl _) (I1.hok.fresh (Nat.le_refl _))
  · subst e
    cases r1
    obtain ⟨its, rv, p, hz⟩ := I1.tuple hq
    refine wpAny_pyIter_tuple (show s1.heap.IsTuple a its.toArray from p) ?_
    refine ⟨s1.heap.objs.size, [s1.heap.objs.size], _, _, H1, rfl, I1.kept (t' := s1.toks) fun b o e => Heap.get?_push_of_some _ e, turn_tuple a _, ⟨_, Heap.get?_push_size _ rfl, rfl, rfl⟩, fun b hb => ?_, q⟩
    have e : b = s1.heap.objs.size := by simpa using hb
    subst e
    exact I1.fpOk (Nat.le_refl _) (I1.hok.fresh (Nat.le_refl _))
  · subst ex
    obtain ⟨t, rfl⟩ := r1
    cases ha : x.cps.all (· < 128)
    · exact wpAny_pyIter_wide ha (pi_one (tk := s1.toks) I1 _ (turn_str _ x t "str_iterator" (.inr rfl)) ⟨_, Heap.get?_push_size _ rfl, rfl, rfl⟩ q)
    · exact wpAny_pyIter_ascii ha (pi_one (tk := s1.toks) I1 _ (turn_str _ x t "str_ascii_iterator" (.inl rfl)) ⟨_, Heap.get?_push_size _ rfl, rfl, rfl⟩ q)
theorem ip_any {X : Cx} : PIp X .Add uAug := by
  intro pins s σ H x y v u Q I r1 r2 h
  rcases h with ⟨i, j, rfl, rfl, q⟩ | ⟨i, j, rfl, rfl, hl, q⟩
  · exact ip_add pins s σ H _ _ v u Q I r1 r2 ⟨i, j, rfl, rfl, q⟩
  · exact iop_add_str pins s σ H _ _ v u Q I r1 r2 ⟨i, j, rfl, rfl, hl, q⟩
section
variable {K : PySem.W.Frag} {ta tb tc te : TE} {tt tu tv : TT} {t u : TS} {ar : TA} {g : TG} {gs : TGs} {wi : TI} {da db dc de : DE} {dt du dw : DT} {d1 d2 : DS} {aa : DA} {dg : DG} {dgs : DGs} {di : DI} {i : Nat}

/-! ### what is walked -/
def Real (K : PySem.W.Frag) (J : It) (Hs : Hp) (xs : List PyData) : Prop := ∀ Hs' H', Same Hs Hs' → Same Hs' H' →
  (∀ (i : Nat) x, xs[i]? = some x → J.go i H' ∧ ∀ v H2, J.yld i H' v H2 → ∃ Hs2, GoP (fun _ => False) Hs' H' Hs2 H2 ∧ Same Hs2 H2 ∧ Dw K Hs2 v x) ∧ J.stop xs.length H'
def SimI (K : PySem.W.Frag) (t : TI) (u : DI) : Prop := ∀ (Hs H : Hp) (σ : St) (e : Env) (R : It → Hp → Prop) (k : List PyData → Env → Prop), StR K Hs H σ e → u e k →
  (∀ J xs Hs' H' e', Fw K Hs H σ e Hs' H' σ e' → Real K J Hs' xs → k xs e' → R J H') → t σ H R
/-- what is walked as data: a list, a tuple, a text -/
def sgns (z : Str) : List PyData := (TL.tl z).map fun c => .str ⟨#[c]⟩
def iterD : PyData → Option (List PyData)
  | .list ds => some ds
  | .tuple ds => some ds
  | .str z => some (sgns z)
  | _ => none
def iAny (da : DE) : DI := fun e k => da e fun x e1 => asD x e1 fun d e2 => ∃ xs, iterD d = some xs ∧ k xs e2
theorem dws_get {H : Hp} {vs : List V} {ds : List PyData} {i : Nat} {x : PyData} {v : V} (h : Dws K H vs ds) (e : ds[i]? = some x) (ev : vs[i]? = some v) : Dw K H v x := by
  obtain ⟨w, h1, h2⟩ := h.1.get e
  rw [ev] at h1
  cases h1
  exact ⟨h2, wfs_get h.2 e⟩
theorem real_list {Hs : Hp} {a : Addr} {ds : List PyData} (h : Dw K Hs (.ref a) (.list ds)) : Real K (Itl K a) Hs ds ∧ ∃ vs, Hs a = some (.lst vs) := by
  have w := wf_list.mp h.2
  cases h.1 with
  | @lst _ vs _ h1 h2 =>
    refine ⟨fun Hs' H' s1 s2 => ?_, _, h1⟩
    have q := SqL.of (K := K) (s2 _ _ (s1 _ _ h1))
    have d : Dws K Hs' vs ds := Dws.mono s1 ⟨h2, w.2⟩
    refine ⟨fun i x hx => ?_, vs, q, by rw [h2.len]; exact Nat.le_refl _⟩
    obtain ⟨v, hv, hd⟩ := d.1.get hx
    refine ⟨⟨vs, v, q, hv⟩, fun w H2 y => ?_⟩
    obtain ⟨rfl, y⟩ := y
    exact ⟨Hs', GoP.refl, s2, dws_get d hx (y vs q)⟩
theorem real_tup {Hs : Hp} {a : Addr} {ds : List PyData} (h : Dw K Hs (.ref a) (.tuple ds)) : Real K (Itt K a) Hs ds ∧ ∃ vs, SqT K Hs a vs := by
  have w := wf_tup.mp h.2
  cases h.1 with
  | @tup _ vs _ h1 h2 =>
    refine ⟨fun Hs' H' s1 s2 => ?_, _, h1⟩
    have q := s2.sqt (s1.sqt h1)
    have d : Dws K Hs' vs ds := Dws.mono s1 ⟨h2, w.2⟩
    refine ⟨fun i x hx => ?_, vs, q, by rw [h2.len]; exact Nat.le_refl _⟩
    obtain ⟨v, hv, hd⟩ := d.1.get hx
    refine ⟨⟨vs, v, q, hv⟩, fun w H2 y => ?_⟩
    obtain ⟨rfl, y⟩ := y
    exact ⟨Hs', GoP.refl, s2, dws_get d hx (y vs q)⟩
theorem wf_sign {z : Str} {c : Nat} (h : wfD (.str z) = true) (hc : c ∈ TL.tl z) : wfD (.str ⟨#[c]⟩) = true := by
  refine wf_str.mpr ⟨sz_le (by rw [len_one]; decide), ok_sub (wf_str.mp h).2 fun d hd => ?_⟩
  rw [tl_one, List.mem_singleton] at hd
  rw [hd]
  exact hc
theorem real_str {Hs : Hp} {z : Str} (h : wfD (.str z) = true) : Real K (Its z) Hs (sgns z) := fun Hs' H' s1 s2 => by
  have el : (TL.tl z).length = z.cps.size := by show z.cps.toList.length = _; simp
  refine ⟨fun i x hx => ?_, by show z.cps.size ≤ (sgns z).length; unfold sgns; rw [List.length_map, el]; exact Nat.le_refl _⟩
  unfold sgns at hx
  rw [List.getElem?_map] at hx
  obtain ⟨c, hc, rfl⟩ := Option.map_eq_some_iff.mp hx
  have hi : i < z.cps.size := by rw [← el]; exact (List.getElem?_eq_some_iff.mp hc).1
  refine ⟨hi, fun v H2 y => ?_⟩
  obtain ⟨rfl, c2, h2, rfl⟩ := y
  have e : c2 = c := by
    have hc2 : z.cps.toList[i]? = some c := hc
    rw [Array.getElem?_toList, h2] at hc2
    exact Option.some.inj hc2
  subst e
  exact ⟨Hs', GoP.refl, s2, .str _, wf_sign h (List.mem_of_getElem? hc)⟩
theorem sim_iany (ha : SimE K ta da) : SimI K (uIt K ta) (iAny da) := fun Hs H σ e R k s hu c =>
  ha Hs H σ e _ _ s hu fun v x Hs1 H1 e1 f1 r1 h1 => by
    obtain ⟨Hs2, e2, d, f2, r2, ⟨xs, hx, h2⟩, _⟩ := asD_sim f1 r1 h1
    cases d with
    | list ds =>
      cases hx
      obtain ⟨p, vs, rfl, h3, _⟩ := (Sees.d (H := H1) r2).lst f2.st.sub
      exact .inl ⟨p, rfl, ⟨vs, SqL.of h3⟩, c _ _ _ _ _ f2 (real_list r2).1 h2⟩
    | tuple ds =>
      cases hx
      obtain ⟨p, vs, rfl, _, h3, _⟩ := (Sees.d (H := H1) r2).tup f2.st.sub
      exact .inr (.inl ⟨p, rfl, ⟨vs, h3⟩, c _ _ _ _ _ f2 (real_tup r2).1 h2⟩)
    | str z =>
      cases hx
      have w := r2.2
      cases r2.1
      exact .inr (.inr ⟨z, rfl, c _ _ _ _ _ f2 (real_str w) h2⟩)
    | _ => cases hx
/-- lo, lo + 1, .. -/
def rangeD (lo : Int) (n : Nat) : List PyData := (List.range n).map fun (i : Nat) => .int (lo + (i : Int))
theorem rangeD_len (lo : Int) (n : Nat) : (rangeD lo n).length = n := by unfold rangeD; rw [List.length_map, List.length_range]
theorem rangeD_get {lo : Int} {n i : Nat} {x : PyData} (h : (rangeD lo n)[i]? = some x) : i < n ∧ x = .int (lo + (i : Int)) := by
  unfold rangeD at h
  rw [List.getElem?_map] at h
  obtain ⟨j, hj, rfl⟩ := Option.map_eq_some_iff.mp h
  obtain ⟨h1, h2⟩ := List.getElem?_eq_some_iff.mp hj
  rw [List.length_range] at h1
  rw [List.getElem_range] at h2
  exact ⟨h1, by rw [h2]⟩
theorem real_rng {Hs : Hp} (lo : Int) (n : Nat) : Real K (Itr lo n) Hs (rangeD lo n) := fun Hs' H' s1 s2 => by
  refine ⟨fun i x hx => ?_, by show n ≤ _; rw [rangeD_len]; exact Nat.le_refl _⟩
  obtain ⟨h1, rfl⟩ := rangeD_get hx
  refine ⟨h1, fun v H2 y => ?_⟩
  obtain ⟨rfl, rfl⟩ := y
  exact ⟨Hs', GoP.refl, s2, .int _, rfl⟩
def iR1 (da : DE) : DI := fun e k => da e fun x e1 => ∃ j, x = .d (.int j) ∧ -(2 ^ 62) ≤ j ∧ j < 2 ^ 62 ∧ k (rangeD 0 j.toNat) e1
theorem sim_r1 (ha : SimE K ta da) : SimI K (iRng1 (tCons ta tNil)) (iR1 da) := fun Hs H σ e R k s hu c =>
  ha Hs H σ e _ _ s hu fun v x Hs1 H1 e1 f1 r1 h1 => by
    obtain ⟨j, rfl, h2, h3, h4⟩ := h1
    have r1 : Dw K Hs1 v (.int j) := r1
    cases r1.1
    exact ⟨j, rfl, h2, h3, c _ _ _ _ _ f1 (real_rng 0 _) h4⟩
def iR2 (da db : DE) : DI := fun e k => da e fun x e1 => db e1 fun y e2 => ∃ i j, x = .d (.int i) ∧ y = .d (.int j) ∧ (-(2 ^ 62) ≤ i ∧ i < 2 ^ 62 ∧ -(2 ^ 62) ≤ j ∧ j < 2 ^ 62) ∧ k (rangeD i (j - i).toNat) e2
theorem sim_r2 (ha : SimE K ta da) (hb : SimE K tb db) : SimI K (iRng2 (tCons ta (tCons tb tNil))) (iR2 da db) := fun Hs H σ e R k s hu c =>
  ha Hs H σ e _ _ s hu fun v x Hs1 H1 e1 f1 r1 h1 => hb Hs1 H1 σ e1 _ _ f1.st h1 fun w y Hs2 H2 e2 f2 r2 h2 => by
    obtain ⟨i, j, rfl, rfl, h3, h4⟩ := h2
    have r1 : Dw K Hs1 v (.int i) := r1
    have r2 : Dw K Hs2 w (.int j) := r2
    cases r1.1
    cases r2.1
    exact ⟨i, j, rfl, h3, c _ _ _ _ _ (f1.trans f2) (real_rng _ _) h4⟩
/-- enumerate(a list) -/
def enumD (ds : List PyData) : List PyData := ds.mapIdx fun i d => .tuple [.int (i : Int), d]
theorem enumD_len (ds : List PyData) : (enumD ds).length = ds.length := by unfold enumD; rw [List.length_mapIdx]
theorem enumD_get {ds : List PyData} {i : Nat} {x : PyData} (h : (enumD ds)[i]? = some x) : ∃ d, ds[i]? = some d ∧ x = .tuple [.int (i : Int), d] := by
  unfold enumD at h
  rw [List.getElem?_mapIdx] at h
  obtain ⟨d, h1, h2⟩ := Option.map_eq_some_iff.mp h
  exact ⟨d, h1, h2.symm⟩
theorem wf_pair {a b : PyData} (h : wfD a = true) (g : wfD b = true) : wfD (.tuple [a, b]) = true := wf_tup.mpr ⟨by show 2 ≤ sizeLine; decide, by show (wfD a && (wfD b && true)) = true; rw [h, g]; rfl⟩
theorem laid_pair {Hs H : Hp} {T : Addr} {v w : V} {a b : PyData} (sb : Same Hs H) (hT : H T = none) (h : Dw K Hs v a) (g : Dw K Hs w b) : ∃ Hs2, GoP (fun _ => False) Hs H Hs2 (upd H T (.tup [v, w])) ∧ Same Hs2 (upd H T (.tup [v, w])) ∧ Dw K Hs2 (.ref T) (.tuple [a, b]) := by
  obtain ⟨gp, s2⟩ := gp_laid (o := .tup [v, w]) sb hT
  exact ⟨_, gp, s2, .tup (SqT.of upd_same) (.cons (h.1.mono gp.p) (.cons (g.1.mono gp.p) .nil)), wf_pair h.2 g.2⟩
theorem real_enum {Hs : Hp} {a : Addr} {ds : List PyData} (h : Dw K Hs (.ref a) (.list ds)) : Real K (Ite K a) Hs (enumD ds) := by
  have w := wf_list.mp h.2
  cases h.1 with
  | @lst _ vs _ h1 h2 =>
    intro Hs' H' s1 s2
    have q := SqL.of (K := K) (s2 _ _ (s1 _ _ h1))
    have d : Dws K Hs' vs ds := Dws.mono s1 ⟨h2, w.2⟩
    refine ⟨fun i x hx => ?_, vs, q, by rw [h2.len, enumD_len]; exact Nat.le_refl _⟩
    obtain ⟨d0, hx0, rfl⟩ := enumD_get hx
    obtain ⟨v, hv, hd⟩ := d.1.get hx0
    refine ⟨⟨vs, v, q, hv⟩, fun w H2 y => ?_⟩
    obtain ⟨T, u, rfl, hT, rfl, y⟩ := y
    exact laid_pair s2 hT ⟨.int _, rfl⟩ (dws_get d hx0 (y vs q))
def iEnumL (da : DE) : DI := fun e k => da e fun x e1 => asD x e1 fun d e2 => ∃ ds, d = .list ds ∧ k (enumD ds) e2
theorem sim_enum (ha : SimE K ta da) : SimI K (iEnum K (tCons ta tNil)) (iEnumL da) := fun Hs H σ e R k s hu c =>
  ha Hs H σ e _ _ s hu fun v x Hs1 H1 e1 f1 r1 h1 => by
    obtain ⟨Hs2, e2, d, f2, r2, ⟨ds, rfl, h2⟩, _⟩ := asD_sim f1 r1 h1
    obtain ⟨p, vs, rfl, h3, _⟩ := (Sees.d (H := H1) r2).lst f2.st.sub
    exact ⟨p, vs, rfl, SqL.of h3, c _ _ _ _ _ f2 (real_enum r2) h2⟩
/-- zip of two lists, of two tuples -/
def zipD (as bs : List PyData) : List PyData := (as.zip bs).map fun p => .tuple [p.1, p.2]
theorem zipD_len (as bs : List PyData) : (zipD as bs).length = min as.length bs.length := by unfold zipD; rw [List.length_map, List.length_zip]
theorem zipD_get {as bs : List PyData} {i : Nat} {x : PyData} (h : (zipD as bs)[i]? = some x) : ∃ a b, as[i]? = some a ∧ bs[i]? = some b ∧ x = .tuple [a, b] := by
  unfold zipD at h
  rw [List.getElem?_map] at h
  obtain ⟨⟨a, b⟩, h1, h2⟩ := Option.map_eq_some_iff.mp h
  obtain ⟨h3, h4⟩ := List.getElem?_zip_eq_some.mp h1
  exact ⟨a, b, h3, h4, h2.symm⟩
theorem real_zip {Hs : Hp} {a b : Addr} {ds es : List PyData} (h : Dw K Hs (.ref a) (.list ds)) (g : Dw K Hs (.ref b) (.list es)) : Real K (Itz K a b) Hs (zipD ds es) := by
  have w := wf_list.mp h.2
  have w2 := wf_list.mp g.2
  cases h.1 with
  | @lst _ vs _ h1 h2 =>
    cases g.1 with
    | @lst _ ws _ g1 g2 =>
      intro Hs' H' s1 s2
      have q := SqL.of (K := K) (s2 _ _ (s1 _ _ h1))
      have q2 := SqL.of (K := K) (s2 _ _ (s1 _ _ g1))
      have d : Dws K Hs' vs ds := Dws.mono s1 ⟨h2, w.2⟩
      have d2 : Dws K Hs' ws es := Dws.mono s1 ⟨g2, w2.2⟩
      refine ⟨fun i x hx => ?_, vs, ws, q, q2, by rw [h2.len, g2.len, zipD_len]; omega⟩
      obtain ⟨a0, b0, hx0, hy, rfl⟩ := zipD_get hx
      obtain ⟨v, hv, hd⟩ := d.1.get hx0
      obtain ⟨v2, hv2, hd2⟩ := d2.1.get hy
      refine ⟨⟨vs, ws, v, v2, q, q2, hv, hv2⟩, fun w H2 y => ?_⟩
      obtain ⟨T, u, u2, rfl, hT, rfl, y, y2⟩ := y
      exact laid_pair s2 hT (dws_get d hx0 (y vs q)) (dws_get d2 hy (y2 ws q2))
theorem real_zipT {Hs : Hp} {a b : Addr} {ds es : List PyData} (h : Dw K Hs (.ref a) (.tuple ds)) (g : Dw K Hs (.ref b) (.tuple es)) : Real K (RZ.ItzT K a b) Hs (zipD ds es) := by
  have w := wf_tup.mp h.2
  have w2 := wf_tup.mp g.2
  cases h.1 with
  | @tup _ vs _ h1 h2 =>
    cases g.1 with
    | @tup _ ws _ g1 g2 =>
      intro Hs' H' s1 s2
      have q := s2.sqt (s1.sqt h1)
      have q2 := s2.sqt (s1.sqt g1)
      have d : Dws K Hs' vs ds := Dws.mono s1 ⟨h2, w.2⟩
      have d2 : Dws K Hs' ws es := Dws.mono s1 ⟨g2, w2.2⟩
      refine ⟨fun i x hx => ?_, vs, ws, q, q2, by rw [h2.len, g2.len, zipD_len]; omega⟩
      obtain ⟨a0, b0, hx0, hy, rfl⟩ := zipD_get hx
      obtain ⟨v, hv, hd⟩ := d.1.get hx0
      obtain ⟨v2, hv2, hd2⟩ := d2.1.get hy
      refine ⟨⟨vs, ws, v, v2, q, q2, hv, hv2⟩, fun w H2 y => ?_⟩
      obtain ⟨T, u, u2, rfl, hT, rfl, y, y2⟩ := y
      exact laid_pair s2 hT (dws_get d hx0 (y vs q)) (dws_get d2 hy (y2 ws q2))
def iZip2 (da db : DE) : DI := fun e k => da e fun x e1 => asD x e1 fun a e2 => db e2 fun y e3 => asD y e3 fun b e4 => match a, b with
  | .list ds, .list es => k (zipD ds es) e4
  | .tuple ds, .tuple es => k (zipD ds es) e4
  | _, _ => False
theorem sim_zip (ha : SimE K ta da) (hb : SimE K tb db) : SimI K (RZ.iZipA K (tCons ta (tCons tb tNil))) (iZip2 da db) := fun Hs H σ e R k s hu c =>
  ha Hs H σ e _ _ s hu fun v x Hs1 H1 e1 f1 r1 h1 => by
    obtain ⟨Hs2, e2, d, f2, r2, h2, _⟩ := asD_sim f1 r1 h1
    refine hb Hs2 H1 σ e2 _ _ f2.st h2 fun w y Hs3 H3 e3 f3 r3 h3 => ?_
    obtain ⟨Hs4, e4, d4, f4, r4, h4, _⟩ := asD_sim f3 r3 h3
    have r2 := r2.mono f4.go.p
    have f := f2.trans f4
    split at h4
    · obtain ⟨p, vs, rfl, g1, _⟩ := (Sees.d (H := H3) r2).lst f.st.sub
      obtain ⟨q, ws, rfl, g2, _⟩ := (Sees.d (H := H3) r4).lst f.st.sub
      exact ⟨p, q, vs, ws, rfl, .inl ⟨SqL.of g1, SqL.of g2, c _ _ _ _ _ f (real_zip r2 r4) h4⟩⟩
    · obtain ⟨p, vs, rfl, _, g1, _⟩ := (Sees.d (H := H3) r2).tup f.st.sub
      obtain ⟨q, ws, rfl, _, g2, _⟩ := (Sees.d (H := H3) r4).tup f.st.sub
      exact ⟨p, q, vs, ws, rfl, .inr ⟨g1, g2, c _ _ _ _ _ f (real_zipT r2 r4) h4⟩⟩
    · exact h4.elim

/-! ### loops -/
def sFor (di : DI) (dg : DG) (d1 : DS) : DS := fun D e => di e fun xs e1 => ∃ W : Nat → Env → Prop, W 0 e1 ∧
  (∀ (i : Nat) x e2, xs[i]? = some x → W i e2 → dg (.d x) e2 fun e3 => d1 { D with nx := W (i + 1), ct := W (i + 1), bk := D.nx } e3) ∧ ∀ e2, W xs.length e2 → D.nx e2
theorem sim_for (hi : SimI K wi di) (hg : SimG K g dg) (hb : SimS K t d1) : SimS K (tFor wi g t) (sFor di dg d1) := fun Hs H σ e D dD s hu S =>
  hi Hs H σ e _ _ s hu fun J xs Hs1 H1 e1 f1 rj h1 => by
    obtain ⟨W, h0, hs, hd⟩ := h1
    refine ⟨fun i m σ' H' => ∃ Hs' e', Fw K Hs1 H1 σ e1 Hs' H' σ' e' ∧ W i e' ∧ i ≤ xs.length ∧ m = xs.length - i, ⟨_, Hs1, e1, Fw.refl f1.st, h0, Nat.zero_le _, rfl⟩, ?_⟩
    rintro i m σ' H' ⟨Hs', e', f, hw, hi, rfl⟩
    obtain ⟨rg, rs⟩ := rj Hs' H' f.go.p f.st.sub
    by_cases hlt : i < xs.length
    · have hx : xs[i]? = some xs[i] := List.getElem?_eq_getElem hlt
      obtain ⟨g1, g2⟩ := rg i _ hx
      refine .inr ⟨g1, fun σ2 H2 => ∃ Hs2 e2, Fw K Hs1 H1 σ e1 Hs2 H2 σ2 e2 ∧ W (i + 1) e2, fun σ2 H2 ⟨Hs2, e2, f2, w2⟩ => ⟨xs.length - (i + 1), by omega, Hs2, e2, f2, w2, hlt, rfl⟩, fun v H2 y => ?_⟩
      obtain ⟨Hs2, gp, sb, dw⟩ := g2 v H2 y
      have f2 := f.more gp sb
      refine hg Hs1 H1 σ e1 Hs2 H2 σ' e' v (.d xs[i]) _ _ f2 dw (hs i _ e' hx hw) fun σ3 Hs3 H3 e3 f3 _ h3 => ?_
      exact hb Hs3 H3 σ3 e3 _ _ f3.st h3 ⟨fun σ4 Hs4 H4 e4 f4 q => ⟨Hs4, e4, f3.trans f4, q⟩, fun v x σ4 Hs4 H4 e4 f4 r q => S.rt _ _ _ _ _ _ ((f1.trans f3).trans f4) (r.back ((f1.trans f3).there)) q,
        fun σ4 Hs4 H4 e4 f4 q => S.nx _ _ _ _ ((f1.trans f3).trans f4) q, fun σ4 Hs4 H4 e4 f4 q => ⟨Hs4, e4, f3.trans f4, q⟩⟩
    · have e : i = xs.length := by omega
      subst e
      exact .inl ⟨rs, S.nx _ _ _ _ (f1.trans f) (hd e' hw)⟩
def sWhile (dt : DT) (d1 : DS) : DS := fun D e => ∃ W : Nat → Env → Prop, (∃ m, W m e) ∧ ∀ m e1, W m e1 → dt e1 fun b e2 => if b = true then d1 { D with nx := fun e3 => ∃ m', m' < m ∧ W m' e3, ct := fun e3 => ∃ m', m' < m ∧ W m' e3, bk := D.nx } e2 else D.nx e2
theorem sim_while (ht : SimT K tt dt) (hb : SimS K t d1) : SimS K (tWhile tt t) (sWhile dt d1) := fun Hs H σ e D dD s hu S => by
  obtain ⟨W, ⟨m0, h0⟩, hs⟩ := hu
  refine ⟨fun m σ' H' => ∃ Hs' e', Fw K Hs H σ e Hs' H' σ' e' ∧ W m e', ⟨m0, Hs, e, Fw.refl s, h0⟩, ?_⟩
  rintro m σ' H' ⟨Hs', e', f, hw⟩
  refine ht Hs' H' σ' e' _ _ f.st (hs m e' hw) fun b Hs2 H2 e2 f2 h2 => ?_
  cases b with
  | true =>
    rw [if_pos rfl] at h2 ⊢
    refine ⟨fun σ3 H3 => ∃ Hs3 e3, Fw K Hs H σ e Hs3 H3 σ3 e3 ∧ ∃ m', m' < m ∧ W m' e3, fun σ3 H3 ⟨Hs3, e3, f3, m', h1, h2⟩ => ⟨m', h1, Hs3, e3, f3, h2⟩, ?_⟩
    exact hb Hs2 H2 σ' e2 _ _ f2.st h2 ⟨fun σ4 Hs4 H4 e4 f4 q => ⟨Hs4, e4, (f.trans f2).trans f4, q⟩, fun v x σ4 Hs4 H4 e4 f4 r q => S.rt _ _ _ _ _ _ ((f.trans f2).trans f4) (r.back (f.trans f2).there) q,
      fun σ4 Hs4 H4 e4 f4 q => S.nx _ _ _ _ ((f.trans f2).trans f4) q, fun σ4 Hs4 H4 e4 f4 q => ⟨Hs4, e4, (f.trans f2).trans f4, q⟩⟩
  | false =>
    rw [if_neg Bool.false_ne_true] at h2 ⊢
    exact S.nx _ _ _ _ (f.trans f2) h2

/-! ### comprehensions -/
def wipeE (e : Env) : List Nat → Env
  | [] => e
  | v :: vs => (wipeE e vs).set v .no
theorem wipe_at (σ : St) (i : Nat) : ∀ vs : List Nat, (wipe σ vs)[i]? = if i ∈ vs then (if i < σ.length then some none else none) else σ[i]?
  | [] => by simp [wipe]
  | v :: vs => by
    unfold wipe
    by_cases h : v = i
    · subst h
      rw [if_pos (List.mem_cons_self ..)]
      by_cases hl : v < σ.length
      · rw [if_pos hl, List.getElem?_set_self (by rw [wipe_length]; exact hl)]
      · rw [if_neg hl, List.getElem?_eq_none (by rw [List.length_set, wipe_length]; omega)]
    · rw [List.getElem?_set_ne h, wipe_at σ i vs]
      have : (i ∈ v :: vs) ↔ i ∈ vs := by rw [List.mem_cons]; exact ⟨fun z => z.resolve_left fun q => h q.symm, .inr⟩
      simp only [this]
theorem wipeE_len (e : Env) : ∀ vs : List Nat, (wipeE e vs).length = e.length
  | [] => rfl
  | v :: vs => by unfold wipeE; rw [List.length_set, wipeE_len e vs]
theorem wipeE_at (e : Env) (i : Nat) : ∀ vs : List Nat, (wipeE e vs)[i]? = if i ∈ vs then (if i < e.length then some .no else none) else e[i]?
  | [] => by simp [wipeE]
  | v :: vs => by
    unfold wipeE
    by_cases h : v = i
    · subst h
      rw [if_pos (List.mem_cons_self ..)]
      by_cases hl : v < e.length
      · rw [if_pos hl, List.getElem?_set_self (by rw [wipeE_len]; exact hl)]
      · rw [if_neg hl, List.getElem?_eq_none (by rw [List.length_set, wipeE_len]; omega)]
    · rw [List.getElem?_set_ne h, wipeE_at e i vs]
      have : (i ∈ v :: vs) ↔ i ∈ vs := by rw [List.mem_cons]; exact ⟨fun z => z.resolve_left fun q => h q.symm, .inr⟩
      simp only [this]
/-- e2, but the slots vs as in e -/
def mergeE (e e2 : Env) : List Nat → Env
  | [] => e2
  | v :: vs => match e[v]? with
    | some s => (mergeE e e2 vs).set v s
    | none => mergeE e e2 vs
theorem mergeE_len (e e2 : Env) : ∀ vs : List Nat, (mergeE e e2 vs).length = e2.length
  | [] => rfl
  | v :: vs => by
    unfold mergeE
    split
    · rw [List.length_set, mergeE_len e e2 vs]
    · exact mergeE_len e e2 vs
theorem mergeE_at {e e2 : Env} (h : e2.length = e.length) (i : Nat) : ∀ vs : List Nat, (mergeE e e2 vs)[i]? = if i ∈ vs then e[i]? else e2[i]?
  | [] => by simp [mergeE]
  | v :: vs => by
    unfold mergeE
    split
    · rename_i s q
      by_cases hv : v = i
      · subst hv
        have hl := (List.getElem?_eq_some_iff.mp q).1
        rw [if_pos (List.mem_cons_self ..), List.getElem?_set_self (by rw [mergeE_len, h]; exact hl), q]
      · rw [List.getElem?_set_ne hv, mergeE_at h i vs]
        have : (i ∈ v :: vs) ↔ i ∈ vs := by rw [List.mem_cons]; exact ⟨fun z => z.resolve_left fun q => hv q.symm, .inr⟩
        simp only [this]
    · rename_i q
      rw [mergeE_at h i vs]
      by_cases hv : v = i
      · subst hv
        rw [if_pos (List.mem_cons_self ..)]
        have hl : e.length ≤ v := List.getElem?_eq_none_iff.mp q
        split
        · rfl
        · rw [q, List.getElem?_eq_none (by omega)]
      · have : (i ∈ v :: vs) ↔ i ∈ vs := by rw [List.mem_cons]; exact ⟨fun z => z.resolve_left fun q => hv q.symm, .inr⟩
        simp only [this]
section
variable {Hs H Hs' H' : Hp} {σ σ2 : St} {e e2 : Env} {vs : List Nat} {a : Addr}
theorem held_wipe (h : Held (wipe σ vs) (wipeE e vs) i a) : i ∉ vs ∧ Held σ e i a := by
  obtain ⟨h1, s, h2, h3⟩ := h
  rw [wipe_at] at h1
  rw [wipeE_at] at h2
  by_cases hi : i ∈ vs
  · rw [if_pos hi] at h1
    split at h1 <;> cases h1
  · rw [if_neg hi] at h1 h2
    exact ⟨hi, h1, s, h2, h3⟩
theorem held_wipe_of (hi : i ∉ vs) (h : Held σ e i a) : Held (wipe σ vs) (wipeE e vs) i a := by
  obtain ⟨h1, s, h2, h3⟩ := h
  exact ⟨by rw [wipe_at, if_neg hi]; exact h1, s, by rw [wipeE_at, if_neg hi]; exact h2, h3⟩
theorem StR.wipe (s : StR K Hs H σ e) (vs : List Nat) : StR K Hs H (wipe σ vs) (wipeE e vs) where
  sub := s.sub
  len := by rw [wipe_length, wipeE_len]; exact s.len
  rel := fun i t ht => by
    rw [wipeE_at] at ht
    rw [wipe_at]
    by_cases hi : i ∈ vs
    · rw [if_pos hi] at ht ⊢
      split at ht
      · rename_i hl
        cases ht
        rw [if_pos (by rw [s.len]; exact hl)]
        exact ⟨_, rfl, trivial⟩
      · cases ht
    · rw [if_neg hi] at ht ⊢
      exact s.rel i t ht
  dis := fun i j a h1 h2 => s.dis i j a (held_wipe h1).2 (held_wipe h2).2
/-- back from a comprehension's turn -/
theorem Fw.unwipe {Hs0 H0 : Hp} {σ0 : St} {e0 : Env} (f0 : Fw K Hs0 H0 σ0 e0 Hs H σ e) (f : Fw K Hs H (wipe σ vs) (wipeE e vs) Hs' H' σ2 e2) (hw : wipe σ2 vs = wipe σ vs) : Fw K Hs0 H0 σ0 e0 Hs' H' σ (mergeE e e2 vs) := by
  have s := f0.st
  have l2 : σ2.length = σ.length := by have := congrArg List.length hw; rw [wipe_length, wipe_length] at this; exact this
  have le : e2.length = e.length := by rw [← f.st.len, l2, s.len]
  have at2 : ∀ i, i ∉ vs → σ2[i]? = σ[i]? := fun i hi => by
    have := congrArg (fun l : St => l[i]?) hw
    simp only [wipe_at, if_neg hi] at this
    exact this
  -- an owned thing that the turn doesn't know stays
  have hk : ∀ (i : Nat) (a : Addr), i ∈ vs → Held σ e i a → Hs' a = none ∧ (∀ o, H a = some o → H' a = some o) ∧ ∀ j, ¬ Held (L2.wipe σ vs) (wipeE e vs) j a := fun i a hi h => by
    have nh : ∀ j, ¬ Held (L2.wipe σ vs) (wipeE e vs) j a := fun j hj => by
      obtain ⟨n1, n2⟩ := held_wipe hj
      have := s.dis i j a h n2
      subst this
      exact n1 hi
    obtain ⟨h1, _⟩ := s.held h
    obtain ⟨o, ho⟩ := s.heldSome h
    refine ⟨?_, fun o ho => f.go.keep a o (fun ⟨j, hj⟩ => nh j hj) ho, nh⟩
    cases q : Hs' a with
    | none => rfl
    | some u =>
      rcases f.go.new a (some_ne q) h1 with z | ⟨j, z⟩
      · rw [ho] at z; cases z
      · exact absurd z (nh j)
  have hm : ∀ (i : Nat) (a : Addr), Held σ (mergeE e e2 vs) i a → (i ∈ vs ∧ Held σ e i a) ∨ (i ∉ vs ∧ Held σ2 e2 i a) := fun i a h => by
    obtain ⟨h1, t, h2, h3⟩ := h
    rw [mergeE_at le] at h2
    by_cases hi : i ∈ vs
    · rw [if_pos hi] at h2
      exact .inl ⟨hi, h1, t, h2, h3⟩
    · rw [if_neg hi] at h2
      exact .inr ⟨hi, by rw [at2 i hi]; exact h1, t, h2, h3⟩
  have hx : ∀ (i j : Nat) (a : Addr), i ∈ vs → Held σ e i a → Held σ2 e2 j a → False := fun i j a hi h1 h2 => by
    obtain ⟨o, ho⟩ := s.heldSome h1
    rcases f.held j a h2 with ⟨l, hl⟩ | z
    · exact (hk i a hi h1).2.2 l hl
    · rw [ho] at z; cases z
  refine ⟨⟨f.st.sub, by rw [mergeE_len, le]; exact s.len, fun i t ht => ?_, fun i j a h1 h2 => ?_⟩, ?_, fun i a h => ?_, fun i o h => ?_⟩
  · rw [mergeE_at le] at ht
    by_cases hi : i ∈ vs
    · rw [if_pos hi] at ht
      obtain ⟨o, q1, q2⟩ := s.rel i t ht
      refine ⟨o, q1, ?_⟩
      cases t with
      | d x => obtain ⟨v, e1, e2⟩ := q2; exact ⟨v, e1, e2.mono f.go.p⟩
      | v x => exact q2
      | own c => obtain ⟨b, e1, e2, e3⟩ := q2; obtain ⟨z1, z2, _⟩ := hk i b hi ⟨by rw [q1, e1], _, ht, rfl⟩; exact ⟨b, e1, z1, RelOwn.keep (c := c) e3 f.go.p z2⟩
      | par c => obtain ⟨b, e1, e2, e3⟩ := q2; obtain ⟨z1, z2, _⟩ := hk i b hi ⟨by rw [q1, e1], _, ht, rfl⟩; exact ⟨b, e1, z1, RelOwn.keep (c := c) e3 f.go.p z2⟩
      | al j => exact q2
      | no => exact q2
    · rw [if_neg hi] at ht
      obtain ⟨o, q1, q2⟩ := f.st.rel i t ht
      exact ⟨o, by rw [← at2 i hi]; exact q1, q2⟩
  · rcases hm i a h1 with ⟨i1, g1⟩ | ⟨i1, g1⟩
    · rcases hm j a h2 with ⟨j1, g2⟩ | ⟨j1, g2⟩
      · exact s.dis i j a g1 g2
      · exact (hx i j a i1 g1 g2).elim
    · rcases hm j a h2 with ⟨j1, g2⟩ | ⟨j1, g2⟩
      · exact (hx j i a j1 g2 g1).elim
      · exact f.st.dis i j a g1 g2
  · exact f0.go.trans f.go fun a ⟨i, h⟩ => f0.held i a (held_wipe h).2
  · rcases hm i a h with ⟨_, g⟩ | ⟨_, g⟩
    · exact f0.held i a g
    · rcases f.held i a g with ⟨j, z⟩ | z
      · exact f0.held j a (held_wipe z).2
      · exact .inr (fresh_back f0 z)
  · obtain ⟨q1, o', q2⟩ := f0.par i o h
    refine ⟨q1, ?_⟩
    rw [mergeE_at le]
    by_cases hi : i ∈ vs
    · rw [if_pos hi]
      exact ⟨o', q2⟩
    · rw [if_neg hi]
      obtain ⟨_, o2, q3⟩ := f.par i o' (by rw [wipeE_at, if_neg hi]; exact q2)
      exact ⟨o2, q3⟩
end
def dLc (di : DI) (dg : DG) (dt : DT) (de : DE) (vs : List Nat) : DE := fun e k => di e fun xs e1 => ∃ W : Nat → List PyData → Env → Prop, W 0 [] e1 ∧
  (∀ (i : Nat) x acc e2, xs[i]? = some x → W i acc e2 → dg (.d x) (wipeE e2 vs) fun e3 => dt e3 fun b e4 => if b = true then de e4 fun y e5 => asD y e5 fun d e6 => acc.length < sizeLine ∧ W (i + 1) (acc ++ [d]) (mergeE e2 e6 vs) else W (i + 1) acc (mergeE e2 e4 vs)) ∧
  ∀ acc e2, W xs.length acc e2 → k (.own (.lst acc)) e2
theorem wipe_wipe (σ : St) (vs : List Nat) : wipe (wipe σ vs) vs = wipe σ vs := by
  refine List.ext_getElem? fun i => ?_
  simp only [wipe_at, wipe_length]
  split <;> rfl
/-- targets that are among the slots vs -/
def GIn (vs : List Nat) (g : TG) : Prop := ∀ v σ H (Q : St → Hp → Prop), g v σ H Q → g v σ H fun σ' H' => wipe σ' vs = wipe σ vs ∧ Q σ' H'
def GsIn (vs : List Nat) (g : TGs) : Prop := ∀ v σ H (Q : St → Hp → Prop), g v σ H Q → g v σ H fun σ' H' => wipe σ' vs = wipe σ vs ∧ Q σ' H'
theorem gin_name {vs : List Nat} {i : Nat} (h : i ∈ vs) : GIn vs (gName i) := fun v σ H Q q => ⟨by
  refine List.ext_getElem? fun j => ?_
  simp only [wipe_at, List.length_set]
  split
  · rfl
  · rename_i hj
    exact List.getElem?_set_ne fun z => hj (by rw [← z]; exact h), q⟩
theorem gin_nil {vs : List Nat} : GsIn vs gNil := fun v σ H Q q => ⟨q.1, rfl, q.2⟩
theorem gs_mono {g : TGs} {gs : TG} : True := trivial
theorem gin_cons {vs : List Nat} {g : TG} {gs : TGs} (h : GIn vs g) (hs : GsIn vs gs) (m : ∀ v σ H (P Q : St → Hp → Prop), (∀ a b, P a b → Q a b) → g v σ H P → g v σ H Q) (m2 : ∀ v σ H (P Q : St → Hp → Prop), (∀ a b, P a b → Q a b) → gs v σ H P → gs v σ H Q) : GsIn vs (gCons g gs) := fun v σ H Q q => by
  obtain ⟨a, r, rfl, q⟩ := q
  refine ⟨a, r, rfl, m _ _ _ _ _ (fun σ1 H1 ⟨e, q1⟩ => ?_) (h _ _ _ _ q)⟩
  exact m2 _ _ _ _ _ (fun σ2 H2 ⟨e2, q2⟩ => ⟨e2.trans e, q2⟩) (hs _ _ _ _ q1)
def GM (g : TG) : Prop := ∀ v σ H (P Q : St → Hp → Prop), (∀ a b, P a b → Q a b) → g v σ H P → g v σ H Q
def GsM (g : TGs) : Prop := ∀ v σ H (P Q : St → Hp → Prop), (∀ a b, P a b → Q a b) → g v σ H P → g v σ H Q
theorem gm_name (i : Nat) : GM (gName i) := fun v σ H P Q h q => h _ _ q
theorem gm_nil : GsM gNil := fun v σ H P Q h q => ⟨q.1, h _ _ q.2⟩
theorem gm_cons (h1 : GM g) (h2 : GsM gs) : GsM (gCons g gs) := fun v σ H P Q h q => by
  obtain ⟨a, r, e, q⟩ := q
  exact ⟨a, r, e, h1 _ _ _ _ _ (fun σ1 H1 q1 => h2 _ _ _ _ _ h q1) q⟩
theorem gm_tup {n : Nat} (h2 : GsM gs) : GM (gTup K n gs) := fun v σ H P Q h q => by
  obtain ⟨a, xs, e1, e2, e3, q⟩ := q
  exact ⟨a, xs, e1, e2, e3, h2 _ _ _ _ _ h q⟩
theorem gin_tup {vs : List Nat} {n : Nat} (h : GsIn vs gs) : GIn vs (gTup K n gs) := fun v σ H Q q => by
  obtain ⟨a, xs, e1, e2, e3, q⟩ := q
  exact ⟨a, xs, e1, e2, e3, h _ _ _ _ q⟩
/-- a comprehension's target: its reading, its data, its slots -/
structure SimGC (K : PySem.W.Frag) (vs : List Nat) (g : TG) (dg : DG) : Prop where
  sim : SimG K g dg
  gin : GIn vs g
  gm : GM g
structure SimGsC (K : PySem.W.Frag) (vs : List Nat) (g : TGs) (dg : DGs) : Prop where
  sim : SimGs K g dg
  gin : GsIn vs g
  gm : GsM g
theorem gc_name {vs : List Nat} (i : Nat) (h : (i ∈ vs) := by decide) : SimGC K vs (gName i) (gN i) := ⟨sim_gN i, gin_name h, gm_name i⟩
theorem gc_nil {vs : List Nat} : SimGsC K vs gNil gsNil := ⟨sim_gsnil, gin_nil, gm_nil⟩
theorem gc_cons {vs : List Nat} (i : Nat) (hs : SimGsC K vs gs dgs) (h : (i ∈ vs) := by decide) : SimGsC K vs (gCons (gName i) gs) (gsCons (gN i) dgs) := ⟨sim_gscons (sim_gN i) hs.sim, gin_cons (gin_name h) hs.gin (gm_name i) hs.gm, gm_cons (gm_name i) hs.gm⟩
theorem gc_tup {vs : List Nat} {n : Nat} (hs : SimGsC K vs gs dgs) : SimGC K vs (gTup K n gs) (gT n dgs) := ⟨sim_gT hs.sim, gin_tup hs.gin, gm_tup hs.gm⟩
def dYes : DT := fun e k => k true e
theorem sim_yes : SimT K tYes dYes := fun Hs H σ e Q k s hu c => c true _ _ _ (Fw.refl s) hu
theorem sim_lc {vs : List Nat} (hi : SimI K wi di) (hg : SimGC K vs g dg) (ht : SimT K tt dt) (he : SimE K te de) : SimE K (tLc wi g tt te vs) (dLc di dg dt de vs) := fun Hs H σ e Q k s hu c =>
  hi Hs H σ e _ _ s hu fun J xs Hs1 H1 e1 f1 rj h1 => by
    obtain ⟨W, h0, hs, hd⟩ := h1
    intro D hD
    -- the new list is nobody's: it stands in the heap, none of the frame's cells
    have nd1 : ∀ i, ¬ Held σ e1 i D := fun i hi => by
      obtain ⟨o, ho⟩ := f1.st.heldSome hi
      rw [hD] at ho; cases ho
    obtain ⟨gp, sb⟩ := gp_cell (o := .lst []) f1.st.sub hD
    refine ⟨fun i m H' => ∃ Hs' e' acc vacc, Fw K Hs H σ e Hs' H' σ e' ∧ Same Hs1 Hs' ∧ Hs' D = none ∧ (∀ i, ¬ Held σ e' i D) ∧ H' D = some (.lst vacc) ∧ Dws K Hs' vacc acc ∧ acc.length ≤ sizeLine ∧ W i acc e' ∧ i ≤ xs.length ∧ m = xs.length - i,
      ⟨_, Hs1, e1, [], [], f1.more gp sb, Same.refl _, none_sub f1.st.sub hD, nd1, upd_same, ⟨.nil, rfl⟩, Nat.zero_le _, h0, Nat.zero_le _, rfl⟩, ?_⟩
    rintro i m H' ⟨Hs', e', acc, vacc, f, s1, hD1, nd, hD2, hacc, hl, hw, hi, rfl⟩
    obtain ⟨rg, rs⟩ := rj Hs' H' s1 f.st.sub
    by_cases hlt : i < xs.length
    · have hx : xs[i]? = some xs[i] := List.getElem?_eq_getElem hlt
      obtain ⟨g1, g2⟩ := rg i _ hx
      refine .inr ⟨g1, fun H2 => ∃ Hs2 e2 acc2 vacc2, Fw K Hs H σ e Hs2 H2 σ e2 ∧ Same Hs1 Hs2 ∧ Hs2 D = none ∧ (∀ i, ¬ Held σ e2 i D) ∧ H2 D = some (.lst vacc2) ∧ Dws K Hs2 vacc2 acc2 ∧ acc2.length ≤ sizeLine ∧ W (i + 1) acc2 e2, fun H2 ⟨Hs2, e2, acc2, va2, q1, q2, q3, q4, q5, q6, q7, q8⟩ => ⟨_, by omega, Hs2, e2, acc2, va2, q1, q2, q3, q4, q5, q6, q7, q8, hlt, rfl⟩, fun v H2 y => ?_⟩
      obtain ⟨Hs2, gp, sb, dw⟩ := g2 v H2 y
      have f2 := f.more gp sb
      have f2w := f2.st.wipe vs
      -- what is known of D behind a step of the turn
      have off : ∀ {σ3 : St} {Hs3 H3 : Hp} {e3 : Env}, Fw K Hs2 H2 (wipe σ vs) (wipeE e' vs) Hs3 H3 σ3 e3 → Hs3 D = none ∧ H3 D = some (.lst vacc) ∧ (∀ i, ¬ Held σ3 e3 i D) := fun {σ3 Hs3 H3 e3} f3 => by
        have hD3 : H2 D = some (.lst vacc) := gp.keep D _ (fun z => z) hD2
        have hD4 : Hs2 D = none := by
          cases q : Hs2 D with
          | none => rfl
          | some u =>
            rcases gp.new D (some_ne q) hD1 with z | z
            · rw [hD2] at z; cases z
            · exact z.elim
        have nw : ∀ j, ¬ Held (wipe σ vs) (wipeE e' vs) j D := fun j hj => nd j (held_wipe hj).2
        refine ⟨?_, f3.go.keep D _ (fun ⟨j, hj⟩ => nw j hj) hD3, fun j hj => ?_⟩
        · cases q : Hs3 D with
          | none => rfl
          | some u =>
            rcases f3.go.new D (some_ne q) hD4 with z | ⟨j, z⟩
            · rw [hD3] at z; cases z
            · exact absurd z (nw j)
        · rcases f3.held j D hj with ⟨l, z⟩ | z
          · exact nw l z
          · rw [hD3] at z; cases z
      have key : ∀ {σ3 : St} {Hs3 H3 : Hp} {e3 : Env}, Fw K Hs2 H2 (wipe σ vs) (wipeE e' vs) Hs3 H3 σ3 e3 → wipe σ3 vs = wipe σ vs → Fw K Hs H σ e Hs3 H3 σ (mergeE e' e3 vs) ∧ (∀ i, ¬ Held σ (mergeE e' e3 vs) i D) := fun {σ3 Hs3 H3 e3} f3 hw3 => by
        refine ⟨f2.unwipe f3 hw3, fun j hj => ?_⟩
        have le : e3.length = e'.length := by
          have l2 : σ3.length = σ.length := by have := congrArg List.length hw3; rw [wipe_length, wipe_length] at this; exact this
          rw [← f3.st.len, l2, f.st.len]
        obtain ⟨h1, t, h2, h3⟩ := hj
        rw [mergeE_at le] at h2
        by_cases hj : j ∈ vs
        · rw [if_pos hj] at h2
          exact nd j ⟨h1, t, h2, h3⟩
        · rw [if_neg hj] at h2
          have := congrArg (fun l : St => l[j]?) hw3
          simp only [wipe_at, if_neg hj] at this
          exact (off f3).2.2 j ⟨by rw [this]; exact h1, t, h2, h3⟩
      have main := hg.sim Hs2 H2 (wipe σ vs) (wipeE e' vs) Hs2 H2 (wipe σ vs) (wipeE e' vs) v (.d xs[i]) (fun σ2 H2' => wipe σ2 vs = wipe σ vs → tt σ2 H2' fun b H3 => if b = true then te σ2 H3 fun y H4 => ∃ acc, H4 D = some (.lst acc) ∧ acc.length < sizeLine ∧ (∃ Hs2 e2 acc2 vacc2, Fw K Hs H σ e Hs2 (upd H4 D (.lst (acc ++ [y]))) σ e2 ∧ Same Hs1 Hs2 ∧ Hs2 D = none ∧ (∀ i, ¬ Held σ e2 i D) ∧ (upd H4 D (.lst (acc ++ [y]))) D = some (.lst vacc2) ∧ Dws K Hs2 vacc2 acc2 ∧ acc2.length ≤ sizeLine ∧ W (i + 1) acc2 e2) else ∃ Hs2 e2 acc2 vacc2, Fw K Hs H σ e Hs2 H3 σ e2 ∧ Same Hs1 Hs2 ∧ Hs2 D = none ∧ (∀ i, ¬ Held σ e2 i D) ∧ H3 D = some (.lst vacc2) ∧ Dws K Hs2 vacc2 acc2 ∧ acc2.length ≤ sizeLine ∧ W (i + 1) acc2 e2) _ (Fw.refl f2w) dw (hs i _ acc e' hx hw) ?_
      · have m2 := hg.gin _ _ _ _ main
        rw [wipe_wipe] at m2
        exact hg.gm _ _ _ _ _ (fun σ2 H2' ⟨z1, z2⟩ => ⟨z1, z2 z1⟩) m2
      · intro σ3 Hs3 H3 e3 f3 s3 h3 hw3
        refine ht Hs3 H3 σ3 e3 _ _ f3.st h3 fun b Hs4 H4 e4 f4 h4 => ?_
        have f34 := f3.trans f4
        cases b with
        | false =>
          rw [if_neg Bool.false_ne_true] at h4 ⊢
          obtain ⟨k1, k2⟩ := key f34 hw3
          obtain ⟨o1, o2, _⟩ := off f34
          exact ⟨Hs4, _, acc, vacc, k1, (s1.trans gp.p).trans f34.go.p, o1, k2, o2, (hacc.mono gp.p).mono f34.go.p, hl, h4⟩
        | true =>
          rw [if_pos rfl] at h4 ⊢
          refine he Hs4 H4 σ3 e4 _ _ f4.st h4 fun y x Hs5 H5 e5 f5 r5 h5 => ?_
          have f35 := f34.trans f5
          obtain ⟨Hs6, e6, d, f6, r6, ⟨hl6, h6⟩, s6⟩ := asD_sim f35 (r5.back f34.there) h5
          obtain ⟨k1, k2⟩ := key f6 hw3
          obtain ⟨o1, o2, _⟩ := off f6
          have hacc2 : Dws K Hs6 vacc acc := (hacc.mono gp.p).mono f6.go.p
          have hacc3 : Dws K Hs6 (vacc ++ [y]) (acc ++ [d]) := ⟨hacc2.1.app (.cons r6.1 .nil), wfs_app hacc2.2 (by show (wfD d && true) = true; rw [r6.2]; rfl)⟩
          have hDx : H D = none := fresh_back f1 hD
          refine ⟨vacc, o2, by rw [hacc.1.len]; exact hl6, Hs6, _, acc ++ [d], vacc ++ [y], ?_, (s1.trans gp.p).trans f6.go.p, o1, k2, upd_same, hacc3, by rw [List.length_append]; exact hl6, h6⟩
          -- the list grows: nobody's cell is changed
          refine ⟨k1.st.to (same_cell k1.st.sub o1) (Same.refl _) fun j b hb => ⟨(k1.st.held hb).1, fun o ho => by rw [upd_ne (fun z => k2 j (by rw [← z]; exact hb))]; exact ho⟩, ⟨k1.go.p, k1.go.new, fun b o hb ho => ?_, fun b hb => ?_⟩, k1.held, k1.par⟩
          · rw [upd_ne (fun z => by rw [z, hDx] at ho; cases ho)]
            exact k1.go.keep b o hb ho
          · by_cases q : b = D
            · rw [q, upd_same]; exact fun z => nomatch z
            · rw [upd_ne q]; exact k1.go.there b hb
    · have e : i = xs.length := by omega
      subst e
      have hk := hd acc e' hw
      refine .inl ⟨rs, c (.ref D) (.own (.lst acc)) Hs' H' e' f ⟨D, rfl, hD1, ⟨vacc, hD2, hacc, hl⟩, ?_, nd⟩ hk⟩
      exact fresh_back f1 hD
end
end DL

/-! the data layer: calls of defs -/
namespace DL
open PySem PySem.Spec PyProof.Rows L2
/-- no slot's name -/
def nAl : SV → Bool
  | .al _ => false
  | _ => true
/-- the promise of a def over data, as a promise of the layer below -/
def lift (K : PySem.W.Frag) (sp : DSp) : Sp := fun vs H Q _ => ∃ (xs : List SV) (Hs : Hp) (k : SV → List SV → Prop), StR K Hs H (vs.map some) xs ∧ (∀ (i : Nat) (c : Own), xs[i]? ≠ some (.own c)) ∧ sp xs k ∧
  ∀ r ys v Hs' H', k r ys → nAl r = true → Fw K Hs H (vs.map some) xs Hs' H' (vs.map some) ys → RelX K H Hs' H' (vs.map some) ys v r → Q v H'
section
variable {K : PySem.W.Frag} {ta tb tc te : TE} {tt tu tv : TT} {t u : TS} {ar : TA} {da db dc de : DE} {d1 d2 : DS} {aa : DA} {i : Nat}

/-! ### arguments -/
/-- a list that is handed on is frozen; a cell stays a cell -/
def argK (x : SV) (e1 : Env) (k : DK) : Prop := match x with
  | .d d => k (.d d) e1
  | .v w => k (.v w) e1
  | .own (.lst ds) => k (.d (.list ds)) e1
  | .own c => k (.own c) e1
  | .al i => match e1[i]? with
    | some (.own (.lst ds)) => k (.d (.list ds)) (e1.set i (.d (.list ds)))
    | some (.d d) => k (.d d) e1
    | some (.own c) => k (.al i) e1
    | some (.par c) => k (.al i) e1
    | _ => False
  | _ => False
def argA (da : DE) : DE := fun e k => da e fun x e1 => argK x e1 k
theorem sim_argA (ha : SimE K ta da) : SimE K ta (argA da) := fun Hs H σ e Q k s hu c =>
  ha Hs H σ e _ _ s hu fun v x Hs1 H1 e1 f1 r1 h1 => by
    cases x with
    | d d => exact c _ _ _ _ _ f1 r1 h1
    | v w => exact c _ _ _ _ _ f1 r1 h1
    | own o =>
      cases o with
      | lst ds =>
        obtain ⟨Hs2, e2, d, f2, r2, h2, _⟩ := asD_sim (k := fun d e' => d = .list ds ∧ e' = e1) f1 r1 (show asD (.own (.lst ds)) e1 _ from ⟨rfl, rfl⟩)
        obtain ⟨rfl, rfl⟩ := h2
        exact c v (.d _) _ _ _ f2 r2 h1
      | dct kvs => exact c _ _ _ _ _ f1 r1 h1
      | box n => exact c _ _ _ _ _ f1 r1 h1
    | al i =>
      have h1 : (match e1[i]? with
        | some (.own (.lst ds)) => k (.d (.list ds)) (e1.set i (.d (.list ds)))
        | some (.d d) => k (.d d) e1
        | some (.own c) => k (.al i) e1
        | some (.par c) => k (.al i) e1
        | _ => False) := h1
      have r1 : σ[i]? = some (some v) := r1
      split at h1
      · rename_i ds q
        obtain ⟨Hs2, w, h2, h3, f2, r2⟩ := f1.freeze q
        rw [r1] at h2
        cases h2
        exact c v (.d (.list ds)) _ _ _ f2 r2 h1
      · rename_i d q
        obtain ⟨o, h2, w, h3, h4⟩ := f1.st.rel i _ q
        rw [r1] at h2
        cases h2
        cases h3
        exact c v (.d d) _ _ _ f1 h4 h1
      · exact c v (.al i) _ _ _ f1 r1 h1
      · exact c v (.al i) _ _ _ f1 r1 h1
      · exact h1.elim
    | par o => exact h1.elim
    | no => exact h1.elim
/-- a list of one's own that the def may change -/
def argOK (x : SV) (e1 : Env) (k : DK) : Prop := match x with
  | .al i => k (.al i) e1
  | .own c => k (.own c) e1
  | _ => False
def argO (da : DE) : DE := fun e k => da e fun x e1 => argOK x e1 k
theorem sim_argO (ha : SimE K ta da) : SimE K ta (argO da) := fun Hs H σ e Q k s hu c =>
  ha Hs H σ e _ _ s hu fun v x Hs1 H1 e1 f1 r1 h1 => by
    cases x with
    | own o => exact c _ _ _ _ _ f1 r1 h1
    | al i => exact c _ _ _ _ _ f1 r1 h1
    | d d => exact h1.elim
    | v w => exact h1.elim
    | par o => exact h1.elim
    | no => exact h1.elim

/-! ### the list of arguments, those that are owned apart -/
theorem RelX.ne {H0 Hs H : Hp} {σ : St} {e : Env} {v : V} {x : SV} {a : Addr} (r : RelX K H0 Hs H σ e v x) (h : isHeld x = true) (ea : v = .ref a) : ∃ o, H a = some o := by
  cases x with
  | own c => obtain ⟨b, e1, e2, e3, _⟩ := r; rw [ea] at e1; cases e1; exact RelOwn.ex (c := c) e3
  | par c => exact (show False from r).elim
  | _ => cases h
theorem RelXs.keep {H0 Hs H Hs' H' : Hp} {σ : St} {e e' : Env} {vs : List V} {xs : List SV} (f : Fw K Hs H σ e Hs' H' σ e') (h : RelXs K H0 Hs H σ e vs xs) : RelXs K H0 Hs' H' σ e' vs xs := by
  induction h with
  | nil => exact .nil
  | cons h1 h2 h3 ih => exact .cons (h1.keep f) ih h3
theorem sim_xnil : SimA K tNil aNil := fun Hs H σ e Q k s hu c => c [] [] Hs H e (Fw.refl s) .nil hu
theorem sim_xcons {dr : DA} (ha : SimE K ta da) (hr : SimA K ar dr) : SimA K (tCons ta ar) (aCons da dr) := fun Hs H σ e Q k s hu c =>
  ha Hs H σ e _ _ s hu fun v x Hs1 H1 e1 f1 r1 h1 => hr Hs1 H1 σ e1 _ _ f1.st h1 fun vs xs Hs2 H2 e2 f2 r2 h2 => by
    refine c (v :: vs) (x :: xs) _ _ _ (f1.trans f2) (.cons (r1.keep f2) (r2.back f1.there) fun hx j y hy hh hv => ?_) h2
    -- the rest's owned things are new behind x
    have : ∀ {vs : List V} {xs : List SV}, RelXs K H1 Hs2 H2 σ e2 vs xs → ∀ (j : Nat) (y : SV), xs[j]? = some y → isHeld y = true → vs[j]? = some v → False := by
      intro vs xs r
      induction r with
      | nil => intro j y hy; simp at hy
      | @cons w z ws zs q1 q2 q3 ih =>
        intro j y hy hh hv
        cases j with
        | zero =>
          simp at hy hv
          subst hy; subst hv
          cases z with
          | own c =>
            obtain ⟨a, e1, e2, e3, e4, _⟩ := q1
            obtain ⟨o, ho⟩ := RelX.ne r1 hx e1
            rw [e4] at ho; cases ho
          | par c => exact (show False from q1)
          | _ => cases hh
        | succ j => exact ih j y (by simpa using hy) hh (by simpa using hv)
    exact this r2 j y hy hh hv
/-- as a def takes them -/
def parOf (e : Env) : SV → Option SV
  | .d d => some (.d d)
  | .v w => some (.v w)
  | .own c => some (.par c)
  | .al i => (conS e i).map .par
  | _ => none
def parsOf (e : Env) : List SV → Option (List SV)
  | [] => some []
  | x :: xs => match parOf e x, parsOf e xs with
    | some y, some ys => some (y :: ys)
    | _, _ => none
/-- the slots that are handed over, each once -/
def alsOf : List SV → List Nat
  | [] => []
  | .al i :: xs => i :: alsOf xs
  | _ :: xs => alsOf xs
/-- the cells behind the call -/
def back1 (e : Env) (x y : SV) : Env := match x, y with
  | .al i, .par c => setC e i c
  | _, _ => e
def backs (e : Env) : List SV → List SV → Env
  | x :: xs, y :: ys => backs (back1 e x y) xs ys
  | _, _ => e
theorem setC_len (e : Env) (i : Nat) (c : Own) : (setC e i c).length = e.length := by
  unfold setC
  split <;> rw [List.length_set]
theorem setC_ne {e : Env} {i j : Nat} {c : Own} (h : i ≠ j) : (setC e i c)[j]? = e[j]? := by
  unfold setC
  split <;> exact List.getElem?_set_ne h
theorem setC_at {e e' : Env} {i : Nat} {c : Own} (h : e[i]? = e'[i]?) : (setC e i c)[i]? = (setC e' i c)[i]? := by
  unfold setC
  rw [h]
  have hn : (e.length ≤ i) ↔ (e'.length ≤ i) := by
    rw [← List.getElem?_eq_none_iff (l := e), ← List.getElem?_eq_none_iff (l := e'), h]
  have : (i < e.length) ↔ (i < e'.length) := by omega
  split <;> (rw [List.getElem?_set, List.getElem?_set, if_pos rfl, if_pos rfl]; simp only [this])
theorem back1_len (e : Env) (x y : SV) : (back1 e x y).length = e.length := by
  unfold back1
  split
  · exact setC_len _ _ _
  · rfl
theorem backs_len : ∀ (xs ys : List SV) (e : Env), (backs e xs ys).length = e.length
  | x :: xs, y :: ys, e => by rw [backs, backs_len xs ys, back1_len]
  | [], ys, e => by simp [backs]
  | x :: xs, [], e => by simp [backs]
theorem back1_ne {e : Env} {x y : SV} {i : Nat} (h : ∀ c, x = .al i → y = .par c → False) : (back1 e x y)[i]? = e[i]? := by
  unfold back1
  split
  · rename_i j c
    exact setC_ne fun z => h c (by rw [z]) rfl
  · rfl
theorem backs_ne {i : Nat} : ∀ (xs ys : List SV) (e : Env), (∀ (p : Nat) (c : Own), xs[p]? = some (.al i) → ys[p]? = some (.par c) → False) → (backs e xs ys)[i]? = e[i]?
  | x :: xs, y :: ys, e, h => by
    rw [backs, backs_ne xs ys _ fun p c h1 h2 => h (p + 1) c (by simpa using h1) (by simpa using h2)]
    exact back1_ne fun c h1 h2 => h 0 c (by simp [h1]) (by simp [h2])
  | [], ys, e, _ => by simp [backs]
  | x :: xs, [], e, _ => by simp [backs]
theorem mem_als {i : Nat} : ∀ {xs : List SV} {p : Nat}, xs[p]? = some (.al i) → i ∈ alsOf xs
  | [], p, h => by simp at h
  | x :: xs, 0, h => by
    simp at h
    subst h
    simp [alsOf]
  | x :: xs, p + 1, h => by
    have := mem_als (xs := xs) (p := p) (by simpa using h)
    cases x <;> simp [alsOf, this]
theorem als_inj {i : Nat} : ∀ {xs : List SV} {p q : Nat}, (alsOf xs).Nodup → xs[p]? = some (.al i) → xs[q]? = some (.al i) → p = q
  | [], p, q, _, h, _ => by simp at h
  | x :: xs, 0, 0, _, _, _ => rfl
  | x :: xs, 0, q + 1, nd, h1, h2 => by
    simp at h1
    subst h1
    have := mem_als (xs := xs) (p := q) (by simpa using h2)
    simp [alsOf] at nd
    exact absurd this nd.1
  | x :: xs, p + 1, 0, nd, h1, h2 => by
    simp at h2
    subst h2
    have := mem_als (xs := xs) (p := p) (by simpa using h1)
    simp [alsOf] at nd
    exact absurd this nd.1
  | x :: xs, p + 1, q + 1, nd, h1, h2 => by
    have nd2 : (alsOf xs).Nodup := by
      cases x <;> first | exact nd | exact (List.nodup_cons.mp nd).2
    have h3 : xs[p]? = some (.al i) := by simpa using h1
    have h4 : xs[q]? = some (.al i) := by simpa using h2
    exact congrArg Nat.succ (als_inj nd2 h3 h4)
theorem backs_at {i : Nat} {c : Own} : ∀ {xs ys : List SV} {p : Nat} (e : Env), (alsOf xs).Nodup → xs[p]? = some (.al i) → ys[p]? = some (.par c) → (backs e xs ys)[i]? = (setC e i c)[i]?
  | [], _, p, _, _, h, _ => by simp at h
  | x :: xs, [], p, _, _, _, h => by simp at h
  | x :: xs, y :: ys, 0, e, nd, h1, h2 => by
    simp at h1 h2
    subst h1; subst h2
    rw [backs]
    refine (backs_ne xs ys _ fun p c2 q1 q2 => ?_).trans rfl
    have := mem_als q1
    simp [alsOf] at nd
    exact nd.1 this
  | x :: xs, y :: ys, p + 1, e, nd, h1, h2 => by
    have nd2 : (alsOf xs).Nodup := by
      cases x <;> first | exact nd | exact (List.nodup_cons.mp nd).2
    rw [backs, backs_at (p := p) _ nd2 (by simpa using h1) (by simpa using h2)]
    refine setC_at (back1_ne fun c2 q1 q2 => ?_)
    subst q1
    have := mem_als (xs := xs) (p := p) (by simpa using h1)
    simp [alsOf] at nd
    exact nd.1 this
theorem pars_get {e : Env} : ∀ {xs zs : List SV} {p : Nat}, parsOf e xs = some zs → (∀ x, xs[p]? = some x → ∃ z, parOf e x = some z ∧ zs[p]? = some z) ∧ ∀ z, zs[p]? = some z → ∃ x, xs[p]? = some x ∧ parOf e x = some z
  | [], zs, p, h => by cases h; exact ⟨fun x hx => by simp at hx, fun z hz => by simp at hz⟩
  | x :: xs, zs, p, h => by
    have h : (match parOf e x, parsOf e xs with
      | some y, some ys => some (y :: ys)
      | _, _ => none) = some zs := h
    split at h
    · rename_i y ys e1 e2
      cases h
      cases p with
      | zero => exact ⟨fun x2 hx => by simp at hx; subst hx; exact ⟨y, e1, by simp⟩, fun z hz => by simp at hz; subst hz; exact ⟨x, by simp, e1⟩⟩
      | succ p =>
        obtain ⟨i1, i2⟩ := pars_get (p := p) e2
        exact ⟨fun x2 hx => by obtain ⟨z, h1, h2⟩ := i1 x2 (by simpa using hx); exact ⟨z, h1, by simpa using h2⟩, fun z hz => by obtain ⟨x2, h1, h2⟩ := i2 z (by simpa using hz); exact ⟨x2, by simpa using h1, h2⟩⟩
    · cases h
theorem pars_len {e : Env} : ∀ {xs zs : List SV}, parsOf e xs = some zs → zs.length = xs.length
  | [], zs, h => by cases h; rfl
  | x :: xs, zs, h => by
    have h : (match parOf e x, parsOf e xs with
      | some y, some ys => some (y :: ys)
      | _, _ => none) = some zs := h
    split at h
    · rename_i y ys e1 e2
      cases h
      rw [List.length_cons, List.length_cons, pars_len e2]
    · cases h
section
variable {H0 Hs H Hs' H' Hb : Hp} {σ : St} {e eb : Env} {vs : List V} {xs zs ys : List SV}
theorem RelXs.len (h : RelXs K H0 Hs H σ e vs xs) : vs.length = xs.length := by
  induction h with
  | nil => rfl
  | cons _ _ _ ih => rw [List.length_cons, List.length_cons, ih]
theorem RelXs.get (h : RelXs K H0 Hs H σ e vs xs) : ∀ {p : Nat} {x : SV}, xs[p]? = some x → ∃ v, vs[p]? = some v ∧ RelX K H0 Hs H σ e v x := by
  induction h with
  | nil => intro p x hx; simp at hx
  | cons h1 h2 h3 ih =>
    intro p x hx
    cases p with
    | zero => simp at hx; subst hx; exact ⟨_, by simp, h1⟩
    | succ p => obtain ⟨v, q1, q2⟩ := ih (p := p) (by simpa using hx); exact ⟨v, by simpa using q1, q2⟩
theorem RelXs.apart (h : RelXs K H0 Hs H σ e vs xs) : ∀ {p q : Nat} {x y : SV} {v : V}, xs[p]? = some x → xs[q]? = some y → isHeld x = true → isHeld y = true → vs[p]? = some v → vs[q]? = some v → p = q := by
  induction h with
  | nil => intro p q x y v hx; simp at hx
  | cons h1 h2 h3 ih =>
    intro p q x y v hx hy gx gy vx vy
    cases p with
    | zero =>
      cases q with
      | zero => rfl
      | succ q =>
        simp at hx vx
        subst hx; subst vx
        exact absurd (by simpa using vy) (h3 gx q y (by simpa using hy) gy)
    | succ p =>
      cases q with
      | zero =>
        simp at hy vy
        subst hy; subst vy
        exact absurd (by simpa using vx) (h3 gy p x (by simpa using hx) gx)
      | succ q => rw [ih (p := p) (q := q) (by simpa using hx) (by simpa using hy) gx gy (by simpa using vx) (by simpa using vy)]
/-- what stands at an argument's cell -/
theorem held_arg (s : StR K Hs H σ e) (r : RelXs K H0 Hs H σ e vs xs) (hz : parsOf e xs = some zs) {p : Nat} {a : Addr} (h : Held (vs.map some) zs p a) :
    (∃ i, xs[p]? = some (.al i) ∧ Held σ e i a) ∨ ((∃ c, xs[p]? = some (.own c)) ∧ H0 a = none ∧ (∀ i, ¬ Held σ e i a) ∧ vs[p]? = some (.ref a)) := by
  obtain ⟨h1, t, h2, h3⟩ := h
  obtain ⟨x, hx, hp⟩ := (pars_get hz).2 t h2
  obtain ⟨v, hv, hr⟩ := r.get hx
  rw [List.getElem?_map, hv] at h1
  have ev : v = .ref a := by simpa using h1
  subst ev
  cases x with
  | al i =>
    have hp : (conS e i).map SV.par = some t := hp
    obtain ⟨c, hc, rfl⟩ := Option.map_eq_some_iff.mp hp
    obtain ⟨b, hb, _⟩ := con_held s hc
    have hr : σ[i]? = some (some (V.ref a)) := hr
    rw [hb.1] at hr
    cases hr
    exact .inl ⟨i, hx, hb⟩
  | own c =>
    obtain ⟨b, e1, e2, e3, e4, e5⟩ := hr
    cases e1
    exact .inr ⟨⟨c, hx⟩, e4, e5, hv⟩
  | d d => cases hp; cases h3
  | v w => cases hp; cases h3
  | par c => cases hp
  | no => cases hp
theorem str_args (s : StR K Hs H σ e) (r : RelXs K H0 Hs H σ e vs xs) (hz : parsOf e xs = some zs) (nd : (alsOf xs).Nodup) : StR K Hs H (vs.map some) zs where
  sub := s.sub
  len := by rw [List.length_map, pars_len hz, r.len]
  rel := fun p t ht => by
    obtain ⟨x, hx, hp⟩ := (pars_get hz).2 t ht
    obtain ⟨v, hv, hr⟩ := r.get hx
    refine ⟨some v, by rw [List.getElem?_map, hv]; rfl, ?_⟩
    cases x with
    | al i =>
      have hp : (conS e i).map SV.par = some t := hp
      obtain ⟨c, hc, rfl⟩ := Option.map_eq_some_iff.mp hp
      obtain ⟨b, hb, hrel⟩ := con_held s hc
      have hr : σ[i]? = some (some v) := hr
      rw [hb.1] at hr
      cases hr
      exact ⟨b, rfl, (s.held hb).1, hrel⟩
    | own c => cases hp; obtain ⟨b, e1, e2, e3, e4, e5⟩ := hr; exact ⟨b, by rw [e1], e2, e3⟩
    | d d => cases hp; exact ⟨v, rfl, hr⟩
    | v w => cases hp; exact congrArg some hr
    | par c => cases hp
    | no => cases hp
  dis := fun p q a h1 h2 => by
    rcases held_arg s r hz h1 with ⟨i, x1, g1⟩ | ⟨⟨c, x1⟩, z1, n1, v1⟩
    · rcases held_arg s r hz h2 with ⟨j, x2, g2⟩ | ⟨⟨c, x2⟩, z2, n2, v2⟩
      · have := s.dis i j a g1 g2
        subst this
        exact als_inj nd x1 x2
      · exact absurd g1 (n2 i)
    · rcases held_arg s r hz h2 with ⟨j, x2, g2⟩ | ⟨⟨c2, x2⟩, z2, n2, v2⟩
      · exact absurd g2 (n1 j)
      · exact r.apart x1 x2 rfl rfl v1 v2
theorem held_backs (hz : parsOf e xs = some zs) (nd : (alsOf xs).Nodup) {i : Nat} {a : Addr} (h : Held σ (backs e xs ys) i a) : Held σ e i a := by
  obtain ⟨h1, t, h2, h3⟩ := h
  by_cases hp : ∃ (p : Nat) (c : Own), xs[p]? = some (.al i) ∧ ys[p]? = some (.par c)
  · obtain ⟨p, c, q1, q2⟩ := hp
    obtain ⟨z, g1, g2⟩ := (pars_get hz).1 _ q1
    have g1 : (conS e i).map SV.par = some z := g1
    obtain ⟨c0, hc, _⟩ := Option.map_eq_some_iff.mp g1
    unfold conS at hc
    split at hc
    · rename_i c1 q; exact ⟨h1, _, q, rfl⟩
    · rename_i c1 q; exact ⟨h1, _, q, rfl⟩
    · cases hc
  · rw [backs_ne xs ys e fun p c q1 q2 => hp ⟨p, c, q1, q2⟩] at h2
    exact ⟨h1, t, h2, h3⟩
theorem fw_call (f0 : Fw K Hb H0 σ eb Hs H σ e) (r : RelXs K H0 Hs H σ e vs xs) (hz : parsOf e xs = some zs) (nd : (alsOf xs).Nodup) (f : Fw K Hs H (vs.map some) zs Hs' H' (vs.map some) ys) : Fw K Hb H0 σ eb Hs' H' σ (backs e xs ys) := by
  have s := f0.st
  have key : ∀ (p i : Nat), xs[p]? = some (.al i) → ∃ (c c' : Own) (a : Addr), conS e i = some c ∧ ys[p]? = some (.par c') ∧ Held σ e i a ∧ Hs' a = none ∧ RelOwn K Hs' H' a c' := fun p i hx => by
    obtain ⟨z, g1, g2⟩ := (pars_get hz).1 _ hx
    have g1 : (conS e i).map SV.par = some z := g1
    obtain ⟨c, hc, rfl⟩ := Option.map_eq_some_iff.mp g1
    obtain ⟨_, c', hy⟩ := f.par p c g2
    obtain ⟨b, hb, _⟩ := con_held s hc
    obtain ⟨o, q1, a, q2, q3, q4⟩ := f.st.rel p _ hy
    obtain ⟨v, hv, hr⟩ := r.get hx
    have hr : σ[i]? = some (some v) := hr
    rw [hb.1] at hr
    cases hr
    rw [List.getElem?_map, hv] at q1
    cases q1
    cases q2
    exact ⟨c, c', _, hc, hy, hb, q3, q4⟩
  have hoth : ∀ (i : Nat) (a : Addr), Held σ e i a → (∀ (p : Nat), xs[p]? ≠ some (SV.al i)) → Hs' a = none ∧ ∀ o, H a = some o → H' a = some o := fun i a hi hp => by
    have nh : ∀ j, ¬ Held (vs.map some) zs j a := fun j hj => by
      rcases held_arg s r hz hj with ⟨l, x1, g1⟩ | ⟨_, _, n1, _⟩
      · have := s.dis i l a hi g1
        subst this
        exact hp j x1
      · exact n1 i hi
    obtain ⟨h1, _⟩ := s.held hi
    obtain ⟨o, ho⟩ := s.heldSome hi
    refine ⟨?_, fun o ho => f.go.keep a o (fun ⟨j, hj⟩ => nh j hj) ho⟩
    cases q : Hs' a with
    | none => rfl
    | some u =>
      rcases f.go.new a (some_ne q) h1 with z | ⟨j, z⟩
      · rw [ho] at z; cases z
      · exact absurd z (nh j)
  have bne : ∀ i, (∀ (p : Nat), xs[p]? ≠ some (SV.al i)) → (backs e xs ys)[i]? = e[i]? := fun i h => backs_ne xs ys e fun p c q1 _ => h p q1
  refine ⟨⟨f.st.sub, by rw [backs_len]; exact s.len, fun i t ht => ?_, fun i j a h1 h2 => s.dis i j a (held_backs hz nd h1) (held_backs hz nd h2)⟩, f0.go.trans f.go fun a ⟨j, hj⟩ => ?_, fun i a h => f0.held i a (held_backs hz nd h), fun i o h => ?_⟩
  · by_cases hp : ∃ p : Nat, xs[p]? = some (SV.al i)
    · obtain ⟨p, hp⟩ := hp
      obtain ⟨c, c', a, k1, k2, k3, k4, k5⟩ := key p i hp
      rw [backs_at e nd hp k2] at ht
      refine ⟨_, k3.1, ?_⟩
      have hl : i < e.length := by obtain ⟨_, t, z, _⟩ := k3; exact (List.getElem?_eq_some_iff.mp z).1
      unfold setC at ht
      split at ht
      · rw [List.getElem?_set_self hl] at ht; cases ht; exact ⟨a, rfl, k4, k5⟩
      · rw [List.getElem?_set_self hl] at ht; cases ht; exact ⟨a, rfl, k4, k5⟩
    · have hp : ∀ (p : Nat), xs[p]? ≠ some (SV.al i) := fun p z => hp ⟨p, z⟩
      rw [bne i hp] at ht
      obtain ⟨o, q1, q2⟩ := s.rel i t ht
      refine ⟨o, q1, ?_⟩
      cases t with
      | d x => obtain ⟨v, e1, e2⟩ := q2; exact ⟨v, e1, e2.mono f.go.p⟩
      | v x => exact q2
      | own c => obtain ⟨b, e1, e2, e3⟩ := q2; obtain ⟨z1, z2⟩ := hoth i b ⟨by rw [q1, e1], _, ht, rfl⟩ hp; exact ⟨b, e1, z1, RelOwn.keep (c := c) e3 f.go.p z2⟩
      | par c => obtain ⟨b, e1, e2, e3⟩ := q2; obtain ⟨z1, z2⟩ := hoth i b ⟨by rw [q1, e1], _, ht, rfl⟩ hp; exact ⟨b, e1, z1, RelOwn.keep (c := c) e3 f.go.p z2⟩
      | al j => exact q2
      | no => exact q2
  · rcases held_arg s r hz hj with ⟨l, _, g1⟩ | ⟨_, z, _⟩
    · exact f0.held l a g1
    · exact .inr z
  · obtain ⟨q1, o', q2⟩ := f0.par i o h
    refine ⟨q1, ?_⟩
    by_cases hp : ∃ p : Nat, xs[p]? = some (SV.al i)
    · obtain ⟨p, hp⟩ := hp
      obtain ⟨c, c', a, k1, k2, k3, k4, k5⟩ := key p i hp
      rw [backs_at e nd hp k2]
      have hl : i < e.length := (List.getElem?_eq_some_iff.mp q2).1
      unfold setC
      rw [q2]
      exact ⟨c', List.getElem?_set_self hl⟩
    · exact ⟨o', by rw [bne i fun p z => hp ⟨p, z⟩]; exact q2⟩
end
/-- a call -/
def dCall (sp : DSp) (aa : DA) : DE := fun e k => aa e fun xs e1 => ∃ zs, parsOf e1 xs = some zs ∧ (alsOf xs).Nodup ∧ sp zs fun r ys => k r (backs e1 xs ys)
theorem call_core {sp : DSp} {Hs H Hb H0 : Hp} {σ : St} {e1 eb : Env} {vs : List V} {xs zs : List SV} {k : DK} {Q : VK} {E : XK} (f1 : Fw K Hb H0 σ eb Hs H σ e1) (r1 : RelXs K H0 Hs H σ e1 vs xs) (hz : parsOf e1 xs = some zs) (nd : (alsOf xs).Nodup)
    (hs : sp zs fun r ys => k r (backs e1 xs ys)) (c : ∀ v x Hs' H' e', Fw K Hb H0 σ eb Hs' H' σ e' → RelX K H0 Hs' H' σ e' v x → k x e' → Q v H') : lift K sp vs H Q E := by
  refine ⟨zs, Hs, _, str_args f1.st r1 hz nd, fun i o h => ?_, hs, fun r ys v Hs' H' hk na f hr => ?_⟩
  · obtain ⟨x, hx, hp⟩ := (pars_get hz).2 _ h
    cases x with
    | al j =>
      have hp : (conS e1 j).map SV.par = some (SV.own o) := hp
      obtain ⟨c, _, q⟩ := Option.map_eq_some_iff.mp hp
      cases q
    | _ => cases hp
  have f2 := fw_call f1 r1 hz nd f
  refine c v r Hs' H' _ f2 ?_ hk
  cases r with
  | d d => exact hr
  | v w => exact hr
  | own o =>
    obtain ⟨a, e1, e2, e3, e4, e5⟩ := hr
    refine ⟨a, e1, e2, e3, fresh_back f1 e4, fun i hi => ?_⟩
    obtain ⟨o, ho⟩ := f1.st.heldSome (held_backs hz nd hi)
    rw [e4] at ho
    cases ho
  | al i => cases na
  | par o => exact hr
  | no => exact hr
theorem sim_call {sp : DSp} {E : XK} (ha : SimA K ar aa) : SimE K (tCall (lift K sp) [] E ar) (dCall sp aa) := fun Hs H σ e Q k s hu c =>
  ha Hs H σ e _ _ s hu fun vs xs Hs1 H1 e1 f1 r1 h1 => by
    obtain ⟨zs, hz, nd, hs⟩ := h1
    rw [List.append_nil]
    exact call_core f1 r1 hz nd hs c
/-- a call by keywords alone, in the parameters' order -/
theorem sim_callK {sp : DSp} {E : XK} (ha : SimA K ar aa) : SimE K (tCallK (lift K sp) (fun vs zs => vs ++ zs) E tNil ar) (dCall sp aa) := fun Hs H σ e Q k s hu c =>
  ha Hs H σ e _ _ s hu fun vs xs Hs1 H1 e1 f1 r1 h1 => by
    obtain ⟨zs, hz, nd, hs⟩ := h1
    exact call_core f1 r1 hz nd hs c

/-! ### a def's body -/
def finE : List SV → Env → List SV
  | .par _ :: xs, .par c :: e => .par c :: finE xs e
  | _ :: xs, _ :: e => .no :: finE xs e
  | _ :: xs, [] => .no :: finE xs []
  | [], _ => []
theorem finE_len : ∀ (xs : List SV) (e : Env), (finE xs e).length = xs.length
  | [], e => by cases e <;> rfl
  | x :: xs, [] => by cases x <;> (show (finE xs []).length + 1 = _; rw [finE_len xs []]; rfl)
  | x :: xs, s :: e => by cases x <;> cases s <;> (show (finE xs e).length + 1 = _; rw [finE_len xs e]; rfl)
theorem finE_at : ∀ {xs : List SV} {e : Env} {i : Nat} {t : SV}, (finE xs e)[i]? = some t → t = .no ∨ ∃ c c0, t = .par c ∧ xs[i]? = some (.par c0) ∧ e[i]? = some (.par c)
  | [], e, i, t, h => by cases e <;> (simp [finE] at h)
  | x :: xs, [], 0, t, h => by cases x <;> (left; simpa [finE] using h.symm)
  | x :: xs, [], i + 1, t, h => by
    have h2 : (finE xs [])[i]? = some t := by cases x <;> simpa [finE] using h
    simpa using finE_at h2
  | x :: xs, s :: e, 0, t, h => by
    cases x <;> cases s <;> first | (left; simpa [finE] using h.symm) | (right; simp [finE] at h; exact ⟨_, _, h.symm, by simp; rfl, by simp⟩)
  | x :: xs, s :: e, i + 1, t, h => by
    have h2 : (finE xs e)[i]? = some t := by cases x <;> cases s <;> simpa [finE] using h
    simpa using finE_at h2
theorem finE_par : ∀ {xs : List SV} {e : Env} {i : Nat} {c c0 : Own}, xs[i]? = some (.par c0) → e[i]? = some (.par c) → (finE xs e)[i]? = some (.par c)
  | [], e, i, c, c0, h, _ => by simp at h
  | x :: xs, [], i, c, c0, _, h => by simp at h
  | x :: xs, s :: e, 0, c, c0, h, g => by
    simp at h g
    subst h; subst g
    rfl
  | x :: xs, s :: e, i + 1, c, c0, h, g => by
    have h2 := finE_par (xs := xs) (e := e) (i := i) (by simpa using h) (by simpa using g)
    cases x <;> cases s <;> simpa [finE] using h2
def retC (e : Env) (x : SV) : Option SV := match x with
  | .d d => some (.d d)
  | .v w => some (.v w)
  | .own c => some (.own c)
  | .al i => match e[i]? with
    | some (.own c) => some (.own c)
    | _ => none
  | _ => none
def dEnd (k : SV → List SV → Prop) (xs : List SV) : DEnds where
  nx := fun e => k (.d .none) (finE xs e)
  rt := fun x e => ∃ r, retC e x = some r ∧ k r (finE xs e)
def dstart (N : List Str) (xs : List SV) : Env := xs ++ List.replicate (N.length - xs.length) .no
theorem start_lt {vs : List V} {N : List Str} {p : Nat} (h : p < vs.length) : (L2.start N vs)[p]? = (vs.map some)[p]? := by
  unfold L2.start
  rw [List.getElem?_append_left (by rw [List.length_map]; exact h)]
theorem dstart_lt {xs : List SV} {N : List Str} {p : Nat} (h : p < xs.length) : (dstart N xs)[p]? = xs[p]? := by
  unfold dstart
  rw [List.getElem?_append_left h]
theorem held_start {vs : List V} {xs : List SV} {N : List Str} {i : Nat} {a : Addr} (hl : vs.length = xs.length) (h : Held (L2.start N vs) (dstart N xs) i a) : Held (vs.map some) xs i a := by
  obtain ⟨h1, s, h2, h3⟩ := h
  by_cases hi : i < xs.length
  · rw [start_lt (by rw [hl]; exact hi)] at h1
    rw [dstart_lt hi] at h2
    exact ⟨h1, s, h2, h3⟩
  · unfold dstart at h2
    rw [List.getElem?_append_right (by omega), List.getElem?_replicate] at h2
    split at h2
    · cases h2; cases h3
    · cases h2
theorem str_start {Hs H : Hp} {vs : List V} {xs : List SV} {N : List Str} (s : StR K Hs H (vs.map some) xs) : StR K Hs H (L2.start N vs) (dstart N xs) where
  sub := s.sub
  len := by
    have := s.len
    rw [List.length_map] at this
    unfold L2.start dstart
    rw [List.length_append, List.length_append, List.length_map, List.length_replicate, List.length_replicate, this]
  rel := fun i t ht => by
    have hl := s.len
    rw [List.length_map] at hl
    by_cases hi : i < xs.length
    · rw [dstart_lt hi] at ht
      rw [start_lt (by rw [hl]; exact hi)]
      exact s.rel i t ht
    · have ht2 := ht
      unfold dstart at ht
      rw [List.getElem?_append_right (by omega), List.getElem?_replicate] at ht
      split at ht
      · cases ht
        rename_i hn
        refine ⟨none, ?_, trivial⟩
        unfold L2.start
        rw [List.getElem?_append_right (by rw [List.length_map]; omega), List.getElem?_replicate, List.length_map, if_pos (by omega)]
      · cases ht
  dis := fun i j a h1 h2 => by
    have hl := s.len
    rw [List.length_map] at hl
    exact s.dis i j a (held_start hl h1) (held_start hl h2)
/-- what is handed in is well made -/
def WfArgs (xs : List SV) : Prop := ∀ (i : Nat) (d : PyData), xs[i]? = some (.d d) → wfD d = true
theorem fn_sim {sp : DSp} {vs : List V} {H : Hp} {Q : VK} {E : XK} {N : List Str} (S : SimS K t d1) (hp : ∀ xs k, sp xs k → WfArgs xs → d1 (dEnd k xs) (dstart N xs)) (h : lift K sp vs H Q E) : t { nx := fun _ H' => Q .non H', rt := Q } (L2.start N vs) H := by
  obtain ⟨xs, Hs, k, s, no, hs, c⟩ := h
  have hb := hp xs k hs fun i d hd => by
    obtain ⟨o, _, v, _, h2⟩ := s.rel i _ hd
    exact h2.2
  have hl := s.len
  rw [List.length_map] at hl
  have s0 := str_start (N := N) s
  -- the arguments' cells behind the body
  have pstart : ∀ (i : Nat) (c0 : Own), xs[i]? = some (.par c0) → (dstart N xs)[i]? = some (.par c0) ∧ i < vs.length := fun i c0 h => by
    have hi := (List.getElem?_eq_some_iff.mp h).1
    exact ⟨by rw [dstart_lt hi]; exact h, by omega⟩
  have hf : ∀ {Hs' H' : Hp} {σ' : St} {e' : Env}, Fw K Hs H (L2.start N vs) (dstart N xs) Hs' H' σ' e' → ∀ (i : Nat) (a : Addr), Held (vs.map some) (finE xs e') i a → Held σ' e' i a ∧ Held (vs.map some) xs i a := fun {Hs' H' σ' e'} f i a h => by
    obtain ⟨h1, t, h2, h3⟩ := h
    rcases finE_at h2 with rfl | ⟨c, c0, rfl, h4, h5⟩
    · cases h3
    · obtain ⟨p1, p2⟩ := pstart i c0 h4
      exact ⟨⟨by rw [(f.par i c0 p1).1, start_lt p2]; exact h1, _, h5, rfl⟩, h1, _, h4, rfl⟩
  have fin : ∀ {Hs' H' : Hp} {σ' : St} {e' : Env}, Fw K Hs H (L2.start N vs) (dstart N xs) Hs' H' σ' e' → Fw K Hs H (vs.map some) xs Hs' H' (vs.map some) (finE xs e') := fun {Hs' H' σ' e'} f => by
    refine ⟨⟨f.st.sub, by rw [List.length_map, finE_len, hl], fun i t ht => ?_, fun i j a h1 h2 => f.st.dis i j a (hf f i a h1).1 (hf f j a h2).1⟩, f.go.mono fun a ⟨i, h⟩ => ⟨i, held_start hl h⟩, fun i a h => .inl ⟨i, (hf f i a h).2⟩, fun i o h => ⟨rfl, ?_⟩⟩
    · have hi : i < vs.length := by
        have := (List.getElem?_eq_some_iff.mp ht).1
        rw [finE_len] at this
        omega
      refine ⟨_, by rw [List.getElem?_map, List.getElem?_eq_getElem hi]; rfl, ?_⟩
      rcases finE_at ht with rfl | ⟨c, c0, rfl, h4, h5⟩
      · trivial
      · obtain ⟨p1, p2⟩ := pstart i c0 h4
        obtain ⟨o, q1, q2⟩ := f.st.rel i _ h5
        rw [(f.par i c0 p1).1, start_lt p2, List.getElem?_map, List.getElem?_eq_getElem hi] at q1
        cases q1
        exact q2
    · obtain ⟨p1, p2⟩ := pstart i o h
      obtain ⟨_, o', q⟩ := f.par i o p1
      exact ⟨o', finE_par h q⟩
  refine S Hs H _ _ _ _ s0 hb ⟨fun σ' Hs' H' e' f q => c (.d .none) _ _ Hs' H' q rfl (fin f) ⟨.non, rfl⟩, fun v x σ' Hs' H' e' f r q => ?_, fun _ _ _ _ _ q => q.elim, fun _ _ _ _ _ q => q.elim⟩
  obtain ⟨y, hy, q⟩ := q
  have own : ∀ {a : Addr} {o : Own}, v = .ref a → Hs' a = none → RelOwn K Hs' H' a o → H a = none → y = .own o → Q v H' := fun {a o} e1 e2 e3 e4 e5 => by
    subst e5
    refine c _ _ v Hs' H' q rfl (fin f) ⟨a, e1, e2, e3, e4, fun i hi => ?_⟩
    obtain ⟨o2, ho⟩ := s.heldSome (hf f i a hi).2
    rw [e4] at ho
    cases ho
  cases x with
  | d d => cases hy; exact c _ _ v Hs' H' q rfl (fin f) r
  | v w => cases hy; exact c _ _ v Hs' H' q rfl (fin f) r
  | own o =>
    obtain ⟨a, e1, e2, e3, e4, e5⟩ := r
    cases hy
    exact own e1 e2 e3 e4 rfl
  | al i =>
    have r : σ'[i]? = some (some v) := r
    have hy : (match e'[i]? with
      | some (.own c) => some (SV.own c)
      | _ => none) = some y := hy
    split at hy
    · rename_i o z
      cases hy
      obtain ⟨u, q1, a, q2, q3, q4⟩ := f.st.rel i _ z
      rw [r] at q1
      cases q1
      cases q2
      refine own rfl q3 q4 ?_ rfl
      rcases f.held i a ⟨r, _, z, rfl⟩ with ⟨j, hj⟩ | hn
      · -- it would be an argument's cell: that one has its own place
        obtain ⟨h1, t, h2, h3⟩ := held_start hl hj
        have st := s.rel j t h2
        cases t with
        | par c0 =>
          obtain ⟨p1, p2⟩ := pstart j c0 h2
          obtain ⟨z1, o', z2⟩ := f.par j c0 p1
          have hj2 : Held σ' e' j a := ⟨by rw [z1]; exact hj.1, _, z2, rfl⟩
          have := f.st.dis i j a ⟨r, _, z, rfl⟩ hj2
          subst this
          rw [z] at z2
          cases z2
        | own c0 =>
          exact absurd h2 (no j c0)
        | _ => cases h3
      · exact hn
    · cases hy
  | par o => cases hy
  | no => cases hy
end
end DL

/-! the data layer: methods of texts and lists, a call that only looks -/
namespace DL
open PySem PySem.Spec PyProof.Rows L2 TL
section
variable {K : PySem.W.Frag} {ta tb tc te : TE} {tt tu tv : TT} {t u : TS} {ar : TA} {da db dc de : DE} {d1 d2 : DS} {aa : DA} {i : Nat}

/-! ### methods of texts -/
abbrev DM1 := Str → PyData → (SV → Prop) → Prop
def SimM1 (K : PySem.W.Frag) (r : V → List V → Hp → VK → Prop) (ρ : DM1) : Prop := ∀ (Hs H : Hp) (z : Str) (w : V) (b : PyData) (k : SV → Prop) (Q : VK), Same Hs H → z.length ≤ sizeLine → PyData.strOk z = true → Sees K Hs H w b → ρ z b k → Out K Hs H k Q → r (.str z) [w] H Q
def dM1 (ρ : DM1) (da db : DE) : DE := fun e k => da e fun x e1 => ∃ z, x = .d (.str z) ∧ db e1 fun y e2 => ∃ b, see e2 y = some b ∧ ρ z b fun s => k s e2
theorem sim_m1 {r : V → List V → Hp → VK → Prop} {ρ : DM1} (hr : SimM1 K r ρ) (ha : SimE K ta da) (hb : SimE K tb db) : SimE K (tM1 r ta tb) (dM1 ρ da db) := fun Hs H σ e Q k s hu c =>
  ha Hs H σ e _ _ s hu fun v x Hs1 H1 e1 f1 r1 h1 => by
    obtain ⟨z, rfl, h1⟩ := h1
    have r1 : Dw K Hs1 v (.str z) := r1
    have w := wf_str.mp r1.2
    cases r1.1
    refine ⟨⟨z, rfl⟩, hb Hs1 H1 σ e1 _ _ f1.st h1 fun w2 y Hs2 H2 e2 f2 r2 h2 => ?_⟩
    obtain ⟨b, eb, h3⟩ := h2
    exact hr Hs2 H2 z w2 b _ _ f2.st.sub w.1 w.2 (sees_of f2.st r2 eb) h3 (out_of (f1.trans f2) c)
theorem wfs_strs {ys : List Str} (h : ∀ y ∈ ys, y.length ≤ sizeLine ∧ PyData.strOk y = true) : wfs (ys.map PyData.str) = true := wfs_iff.mpr fun d hd => by
  obtain ⟨y, hy, rfl⟩ := List.mem_map.mp hd
  exact wf_str.mpr (h y hy)
/-- z.split(one sign) -/
def dSplit : DM1 := fun z b k => ∃ (y : Str) (s : Nat), b = .str y ∧ tl y = [s] ∧ s < 256 ∧ z.length + 2 ≤ sizeLine ∧ k (.own (.lst ((Txt.split z y).map .str)))
theorem sr_split : SimM1 K zSplit dSplit := fun Hs H z w b k Q sb l1 o1 h2 h3 o => by
  obtain ⟨y, s, rfl, hy, hs, hl, h3⟩ := h3
  obtain ⟨rfl, l2, o2⟩ := h2.str
  obtain ⟨f, rs, e1, e2, e3, e4⟩ := split_parts z hy hs
  refine ⟨_, _, rfl, rfl, by rw [len_tl, hy]; rfl, hl, fun p hp => o.lst _ _ p h3 hp ⟨DqAll.strs _, wfs_strs fun y hy => ?_⟩ ?_⟩
  · rw [e1] at hy
    obtain ⟨h5, h6⟩ := e4 y hy
    exact ⟨by omega, ok_sub o1 h6⟩
  · rw [e1, List.length_map, List.length_cons]
    omega
/-- z.partition(a text) -/
def dPartition : DM1 := fun z b k => ∃ y : Str, b = .str y ∧ (y.length == 0) = false ∧ k (.d (.tuple [.str (Txt.partition z y).1, .str (Txt.partition z y).2.1, .str (Txt.partition z y).2.2]))
theorem sr_partition : SimM1 K zPartition dPartition := fun Hs H z w b k Q sb l1 o1 h2 h3 o => by
  obtain ⟨y, rfl, hy, h3⟩ := h3
  obtain ⟨rfl, l2, o2⟩ := h2.str
  have e := StrLaws.partition_sum z y
  have sub : ∀ p, (p = (Txt.partition z y).1 ∨ p = (Txt.partition z y).2.1 ∨ p = (Txt.partition z y).2.2) → p.length ≤ sizeLine ∧ PyData.strOk p = true := fun p hp => by
    have el := congrArg Str.length e
    rw [len_append, len_append] at el
    have et := congrArg tl e
    rw [tl_append, tl_append] at et
    refine ⟨by rcases hp with rfl | rfl | rfl <;> omega, ok_sub o1 fun c hc => ?_⟩
    rw [← et]
    rcases hp with rfl | rfl | rfl
    · exact List.mem_append_left _ (List.mem_append_left _ hc)
    · exact List.mem_append_left _ (List.mem_append_right _ hc)
    · exact List.mem_append_right _ hc
  refine ⟨_, _, rfl, rfl, hy, l1, fun p hp => o.tup _ _ p h3 hp ⟨.cons (.str _) (.cons (.str _) (.cons (.str _) .nil)), ?_⟩ (by show 3 ≤ sizeLine; decide)⟩
  refine wfs_iff.mpr fun d hd => ?_
  simp only [List.mem_cons, List.not_mem_nil, or_false] at hd
  rcases hd with rfl | rfl | rfl
  · exact wf_str.mpr (sub _ (.inl rfl))
  · exact wf_str.mpr (sub _ (.inr (.inl rfl)))
  · exact wf_str.mpr (sub _ (.inr (.inr rfl)))
/-- z.join(texts) -/
def dJoin : DM1 := fun z b k => ∃ ys : List Str, (b = .list (ys.map .str) ∨ b = .tuple (ys.map .str)) ∧ (ys.map (·.length)).sum + ys.length * z.length ≤ 16777216 ∧ k (.d (.str (Txt.join z ys)))
theorem joinL_mem {S : List Nat} {c : Nat} : ∀ {ps : List (List Nat)}, c ∈ joinL S ps → c ∈ S ∨ ∃ p ∈ ps, c ∈ p
  | [], h => by cases h
  | [p], h => .inr ⟨p, by simp, h⟩
  | p :: q :: r, h => by
    have h : c ∈ p ++ (S ++ joinL S (q :: r)) := h
    rcases List.mem_append.mp h with h | h
    · exact .inr ⟨p, by simp, h⟩
    · rcases List.mem_append.mp h with h | h
      · exact .inl h
      · rcases joinL_mem h with h | ⟨x, hx, h⟩
        · exact .inl h
        · exact .inr ⟨x, List.mem_cons_of_mem _ hx, h⟩
theorem joinL_len {S : List Nat} : ∀ {ps : List (List Nat)}, (joinL S ps).length ≤ (ps.map (·.length)).sum + ps.length * S.length
  | [] => Nat.zero_le _
  | [p] => by show p.length ≤ _; simp
  | p :: q :: r => by
    have ih := joinL_len (S := S) (ps := q :: r)
    show (p ++ (S ++ joinL S (q :: r))).length ≤ _
    rw [List.length_append, List.length_append, List.map_cons, List.sum_cons, List.length_cons (a := p), Nat.succ_mul]
    omega
theorem sr_join : SimM1 K (zJoin K) dJoin := fun Hs H z w b k Q sb l1 o1 h2 h3 o => by
  obtain ⟨ys, hb, hl, h3⟩ := h3
  have hw : ∀ y ∈ ys, PyData.strOk y = true := fun y hy => by
    have hw : wfs (ys.map PyData.str) = true := by
      rcases hb with rfl | rfl
      · exact (wf_list.mp h2.wf).2
      · exact (wf_tup.mp h2.wf).2
    exact (wf_str.mp (wfs_iff.mp hw (.str y) (List.mem_map.mpr ⟨y, hy, rfl⟩))).2
  have fin : Q (.str (Txt.join z ys)) H := by
    refine o.str h3 ?_ (strOk_iff.mpr fun c hc => ?_)
    · rw [len_tl, join_eq, tl_join]
      refine Nat.le_trans joinL_len ?_
      rw [List.map_map, List.length_map, ← len_tl]
      have e : (ys.map ((fun x : List Nat => x.length) ∘ tl)).sum = (ys.map (·.length)).sum := by
        congr 1
      rw [e]
      exact Nat.le_trans hl (by decide)
    · rw [join_eq, tl_join] at hc
      rcases joinL_mem hc with h | ⟨p, hp, h⟩
      · exact strOk_iff.mp o1 c h
      · obtain ⟨y, hy, rfl⟩ := List.mem_map.mp hp
        exact strOk_iff.mp (hw y hy) c h
  rcases hb with rfl | rfl
  · obtain ⟨p, vs, rfl, e1, d1, l1⟩ := h2.lst sb
    rw [d1.1.of_strs] at e1
    exact ⟨_, p, ys, rfl, rfl, .inl (SqL.of e1), hl, fin⟩
  · obtain ⟨p, vs, rfl, _, e1, d1, l1, _⟩ := h2.tup sb
    rw [d1.1.of_strs] at e1
    exact ⟨_, p, ys, rfl, rfl, .inr e1, hl, fin⟩
def dStartswith : DM1 := fun z b k => match b with
  | .str y => k (.d (.bool (Txt.startswith z y)))
  | _ => False
theorem sr_startswith : SimM1 K zStartswith dStartswith := fun Hs H z w b k Q sb l1 o1 h2 h3 o => by
  unfold dStartswith at h3
  split at h3
  · exact ⟨_, _, rfl, by rw [h2.str.1], o.bl h3⟩
  · exact h3.elim
/-- z.find(y, i) -/
def dFind3 (da db dc : DE) : DE := fun e k => da e fun x e1 => ∃ z, x = .d (.str z) ∧ db e1 fun y e2 => dc e2 fun w e3 => ∃ s i, y = .d (.str s) ∧ w = .d (.int i) ∧ k (.d (.int (Txt.find3 z s i))) e3
theorem sim_find3 (ha : SimE K ta da) (hb : SimE K tb db) (hc : SimE K tc dc) : SimE K (tBM K "str" zFind3 ta (tCons tb (tCons tc tNil))) (dFind3 da db dc) := fun Hs H σ e Q k s hu c =>
  ha Hs H σ e _ _ s hu fun v x Hs1 H1 e1 f1 r1 h1 => by
    obtain ⟨z, rfl, h1⟩ := h1
    have r1 : Dw K Hs1 v (.str z) := r1
    cases r1.1
    refine ⟨rfl, hb Hs1 H1 σ e1 _ _ f1.st h1 fun w2 y Hs2 H2 e2 f2 r2 h2 => hc Hs2 H2 σ e2 _ _ f2.st h2 fun w3 w Hs3 H3 e3 f3 r3 h3 => ?_⟩
    obtain ⟨y2, i, rfl, rfl, hk⟩ := h3
    have r2 : Dw K Hs2 w2 (.str y2) := r2
    have r3 : Dw K Hs3 w3 (.int i) := r3
    cases r2.1
    cases r3.1
    exact ⟨z, y2, i, rfl, rfl, c _ (.d (.int _)) _ _ _ ((f1.trans f2).trans f3) ⟨.int _, rfl⟩ hk⟩

/-! ### methods of lists of one's own -/
def putL (e : Env) (j : Nat) (ds : List PyData) : Env := setC e j (.lst ds)
def dAppend (j : Nat) (da : DE) : DE := fun e k => isLst e j ∧ da e fun x e1 => asD x e1 fun d e2 => ∃ ds, conS e2 j = some (.lst ds) ∧ ds.length < sizeLine ∧ k (.d .none) (putL e2 j (ds ++ [d]))
theorem tyL_at {Hs H : Hp} {σ : St} {e : Env} {j : Nat} (s : StR K Hs H σ e) (h : isLst e j) : ∃ a, σ[j]? = some (some (.ref a)) ∧ tyV K "list" (.ref a) H := by
  obtain ⟨a, vs, h1, h2⟩ := lst_at s h
  exact ⟨a, h1, .inl ⟨rfl, vs, SqL.of h2⟩⟩
theorem sim_append {j : Nat} (ha : SimE K ta da) : SimE K (tBM K "list" rAppend (tVar j) (tCons ta tNil)) (dAppend j da) := fun Hs H σ e Q k s hu c => by
  obtain ⟨hl, hu⟩ := hu
  obtain ⟨a, hx, ty⟩ := tyL_at s hl
  refine ⟨_, hx, ty, ha Hs H σ e _ _ s hu fun w y Hs2 H2 e2 f2 r2 h2 => ?_⟩
  obtain ⟨Hs3, e3, d, f3, r3, ⟨ds, hc, hn, hk⟩, _⟩ := asD_sim f2 r2 h2
  obtain ⟨hh, vs, h3, h4, h5⟩ := con_at f3.st hc hx
  refine ⟨a, vs, w, rfl, rfl, h3, by rw [h4.1.len]; exact hn, ?_⟩
  exact c .non (.d .none) Hs3 _ _ (f3.trans (Fw.put (ho := .lst (vs ++ [w])) (c := .lst (ds ++ [d])) f3.st hh ⟨_, upd_same, ⟨h4.1.app (.cons r3.1 .nil), wfs_app h4.2 (by show (wfD d && true) = true; rw [r3.2]; rfl)⟩, by rw [List.length_append]; exact hn⟩)) ⟨.non, rfl⟩ hk
def dExtend (j : Nat) (da : DE) : DE := fun e k => isLst e j ∧ da e fun x e1 => ∃ ds es, see e1 x = some (.list es) ∧ conS e1 j = some (.lst ds) ∧ ds.length + es.length ≤ sizeLine ∧ k (.d .none) (putL e1 j (ds ++ es))
theorem sim_extend {j : Nat} (ha : SimE K ta da) : SimE K (tBM K "list" rExtend (tVar j) (tCons ta tNil)) (dExtend j da) := fun Hs H σ e Q k s hu c => by
  obtain ⟨hl, hu⟩ := hu
  obtain ⟨a, hx, ty⟩ := tyL_at s hl
  refine ⟨_, hx, ty, ha Hs H σ e _ _ s hu fun w y Hs2 H2 e2 f2 r2 h2 => ?_⟩
  obtain ⟨ds, es, hs, hc, hn, hk⟩ := h2
  obtain ⟨p, ws, rfl, g1, g2, g3⟩ := (sees_of f2.st r2 hs).lst f2.st.sub
  obtain ⟨hh, vs, h3, h4, h5⟩ := con_at f2.st hc hx
  refine ⟨a, p, vs, ws, rfl, rfl, h3, g1, by rw [h4.1.len, g2.1.len]; exact hn, ?_⟩
  exact c .non (.d .none) Hs2 _ _ (f2.trans (Fw.put (ho := .lst (vs ++ ws)) (c := .lst (ds ++ es)) f2.st hh ⟨_, upd_same, ⟨h4.1.app g2.1, wfs_app h4.2 g2.2⟩, by rw [List.length_append]; exact hn⟩)) ⟨.non, rfl⟩ hk
def dReverse (j : Nat) : DE := fun e k => ∃ ds, conS e j = some (.lst ds) ∧ k (.d .none) (putL e j ds.reverse)
theorem sim_reverse {j : Nat} : SimE K (tBM0 K "list" rReverse (tVar j)) (dReverse j) := fun Hs H σ e Q k s hu c => by
  obtain ⟨ds, hc, hk⟩ := hu
  obtain ⟨a, hx, ty⟩ := tyL_at s ⟨ds, hc⟩
  obtain ⟨hh, vs, h3, h4, h5⟩ := con_at s hc hx
  refine ⟨_, hx, ty, a, vs, rfl, rfl, h3, ?_⟩
  exact c .non (.d .none) Hs _ _ (Fw.put (ho := .lst vs.reverse) (c := .lst ds.reverse) s hh ⟨_, upd_same, ⟨h4.1.rev, wfs_sub h4.2 fun d hd => List.mem_reverse.mp hd⟩, by rw [List.length_reverse]; exact h5⟩) ⟨.non, rfl⟩ hk
def dPop (j : Nat) : DE := fun e k => ∃ ds d, conS e j = some (.lst ds) ∧ ds[ds.length - 1]? = some d ∧ k (.d d) (putL e j ds.dropLast)
theorem dq_dropLast {H : Hp} {vs : List V} {ds : List PyData} (h : DqAll K H vs ds) : DqAll K H vs.dropLast ds.dropLast := by
  rw [List.dropLast_eq_take, List.dropLast_eq_take, h.len]
  exact h.take _
theorem sim_pop {j : Nat} : SimE K (tBM0 K "list" rPop (tVar j)) (dPop j) := fun Hs H σ e Q k s hu c => by
  obtain ⟨ds, d, hc, hd, hk⟩ := hu
  obtain ⟨a, hx, ty⟩ := tyL_at s ⟨ds, hc⟩
  obtain ⟨hh, vs, h3, h4, h5⟩ := con_at s hc hx
  obtain ⟨v, hv, rv⟩ := h4.1.get hd
  refine ⟨_, hx, ty, a, vs, v, rfl, rfl, h3, by rw [h4.1.len]; exact hv, ?_⟩
  exact c v (.d d) Hs _ _ (Fw.put (ho := .lst vs.dropLast) (c := .lst ds.dropLast) s hh ⟨_, upd_same, ⟨dq_dropLast h4.1, wfs_sub h4.2 fun d hd => List.dropLast_subset _ hd⟩, by rw [List.length_dropLast]; omega⟩) ⟨rv, wfs_get h4.2 hd⟩ hk
def dPopAt (j : Nat) (da : DE) : DE := fun e k => isLst e j ∧ da e fun x e1 => ∃ ds d n m, x = .d (.int n) ∧ conS e1 j = some (.lst ds) ∧ -(2 ^ 63) ≤ n ∧ n < 2 ^ 63 ∧ seqIndex? n ds.length = some m ∧ ds[m]? = some d ∧ k (.d d) (putL e1 j (ds.eraseIdx m))
theorem dq_erase {H : Hp} {vs : List V} {ds : List PyData} (h : DqAll K H vs ds) (m : Nat) : DqAll K H (vs.eraseIdx m) (ds.eraseIdx m) := by
  rw [List.eraseIdx_eq_take_drop_succ, List.eraseIdx_eq_take_drop_succ]
  exact (h.take _).app (h.drop _)
theorem sim_popAt {j : Nat} (ha : SimE K ta da) : SimE K (tBM K "list" rPopAt (tVar j) (tCons ta tNil)) (dPopAt j da) := fun Hs H σ e Q k s hu c => by
  obtain ⟨hl, hu⟩ := hu
  obtain ⟨a, hx, ty⟩ := tyL_at s hl
  refine ⟨_, hx, ty, ha Hs H σ e _ _ s hu fun w y Hs2 H2 e2 f2 r2 h2 => ?_⟩
  obtain ⟨ds, d, n, m, rfl, hc, q1, q2, q3, hd, hk⟩ := h2
  have r2 : Dw K Hs2 w (.int n) := r2
  cases r2.1
  obtain ⟨hh, vs, h3, h4, h5⟩ := con_at f2.st hc hx
  obtain ⟨v, hv, rv⟩ := h4.1.get hd
  refine ⟨a, vs, n, m, v, rfl, rfl, h3, q1, q2, by rw [h4.1.len]; exact q3, hv, ?_⟩
  exact c v (.d d) Hs2 _ _ (f2.trans (Fw.put (ho := .lst (vs.eraseIdx m)) (c := .lst (ds.eraseIdx m)) f2.st hh ⟨_, upd_same, ⟨dq_erase h4.1 m, wfs_sub h4.2 fun d hd => List.mem_of_mem_eraseIdx hd⟩, by have := List.length_eraseIdx_le ds m; omega⟩)) ⟨rv, wfs_get h4.2 hd⟩ hk
/-! {k: v, ..}.get(x, y), written -/
def flatVal : PyData → V
  | .none => .non
  | .bool b => .bl b
  | .int i => .int i
  | .str z => .str z
  | _ => .non
def trsOf (kvs : List (Str × PyData)) : List (TE × TE) := kvs.map fun p => (tC (.str p.1), tC (flatVal p.2))
def kvsV (kvs : List (Str × PyData)) : List (Key × V) := kvs.map fun p => (Sum.inr p.1, flatVal p.2)
def getW (kvs : List (Str × PyData)) (z : Str) (d : PyData) : PyData := ((kvs.find? fun p => decide (p.1 = z)).map (·.2)).getD d
def dGetW (kvs : List (Str × PyData)) (da db : DE) : DE := fun e k => da e fun x e1 => db e1 fun y e2 => ∃ z d, x = .d (.str z) ∧ y = .d d ∧ k (.d (getW kvs z d)) e2
theorem putK_new {kvs : List (Key × V)} {k : Key} {v : V} (h : k ∉ kvs.map (·.1)) : putK kvs k v = kvs ++ [(k, v)] := by
  unfold putK
  rw [if_neg]
  intro z
  rw [List.any_eq_true] at z
  obtain ⟨p, hp, e⟩ := z
  exact h (List.mem_map.mpr ⟨p, hp, of_decide_eq_true e⟩)
theorem mergeK_new : ∀ (more kvs : List (Key × V)), ((kvs ++ more).map (·.1)).Nodup → mergeK kvs more = kvs ++ more
  | [], kvs, _ => by rw [List.append_nil]; rfl
  | (k, v) :: r, kvs, h => by
    have hk : k ∉ kvs.map (·.1) := fun hm => by
      rw [List.map_append, List.nodup_append] at h
      exact h.2.2 k hm k (by simp) rfl
    show mergeK (putK kvs k v) r = _
    rw [putK_new hk, mergeK_new r _ (by rw [List.append_assoc]; exact h), List.append_assoc]
    rfl
theorem valV_kvs (kvs : List (Str × PyData)) (z : Str) : valV (kvsV kvs) (Sum.inr z : Key) = ((kvs.find? fun p => decide (p.1 = z)).map (·.2)).map flatVal := by
  unfold valV kvsV
  induction kvs with
  | nil => rfl
  | cons p r ih =>
    rw [List.map_cons, List.find?_cons, List.find?_cons]
    by_cases h : p.1 = z
    · simp [h]
    · have h2 : ¬ (Sum.inr p.1 : Key) = Sum.inr z := fun q => h (Sum.inr.inj q)
      simp only [decide_eq_false h, decide_eq_false h2]
      exact ih
theorem trs_run (kvs : List (Str × PyData)) (σ : St) (H : Hp) (Q : List (V × V) → Hp → Prop) (h : Q ((kvsV kvs).map fun kv => (kV kv.1, kv.2)) H) : tPairs (trsOf kvs) σ H Q := by
  induction kvs generalizing Q with
  | nil => exact h
  | cons p r ih => exact ih (fun ps H3 => Q ((V.str p.1, flatVal p.2) :: ps) H3) h
theorem sim_getW {kvs : List (Str × PyData)} (hk : (kvs.map (·.1)).Nodup) (hl : kvs.length ≤ 15) (hf : (kvs.all fun p => flatD p.2 && wfD p.2) = true) (ha : SimE K ta da) (hb : SimE K tb db) : SimE K (tDGet2 (tDisp (trsOf kvs)) ta tb) (dGetW kvs da db) := fun Hs H σ e Q k s hu c => by
  intro p hp
  refine trs_run kvs σ _ _ ⟨upd_same, kvsV kvs, rfl, by unfold kvsV; rw [List.length_map]; exact hl, ?_⟩
  rw [upd_upd]
  have hm : mergeK [] (kvsV kvs) = kvsV kvs := by
    have := mergeK_new (kvsV kvs) [] (by
      rw [List.nil_append]
      unfold kvsV
      rw [List.map_map]
      have e : (kvs.map ((fun x : Key × V => x.1) ∘ fun p => (Sum.inr p.1, flatVal p.2))) = (kvs.map (·.1)).map (fun z => (Sum.inr z : Key)) := by rw [List.map_map]; rfl
      rw [e]
      exact hk.map _ fun a b hab q => hab (Sum.inr.inj q))
    rw [this, List.nil_append]
  rw [hm]
  obtain ⟨gp, sb⟩ := gp_cell (o := .dK (kvsV kvs)) s.sub hp
  have f0 := s.ext gp sb
  refine ⟨p, rfl, .inl ⟨_, .inl upd_same⟩, ha Hs _ σ e _ _ f0.st hu fun v x Hs1 H1 e1 f1 r1 h1 => hb Hs1 H1 σ e1 _ _ f1.st h1 fun w y Hs2 H2 e2 f2 r2 h2 => ?_⟩
  obtain ⟨z, d, rfl, rfl, hk⟩ := h2
  have r1 : Dw K Hs1 v (.str z) := r1
  have r2 : Dw K Hs2 w d := r2
  cases r1.1
  have f12 := f1.trans f2
  have nh : ¬ ∃ i, Held σ e i p := fun ⟨i, hi⟩ => by
    obtain ⟨o, ho⟩ := s.heldSome hi
    rw [hp] at ho; cases ho
  have hp2 := f12.go.keep p _ nh (upd_same (H := H))
  refine ⟨_, DGet.k (k := (Sum.inr z : Key)) hp2, ?_⟩
  rw [valV_kvs]
  refine c _ (.d (getW kvs z d)) _ _ _ (f0.trans f12) (show Dw K _ _ _ from ?_) hk
  unfold getW
  cases q : kvs.find? fun p => decide (p.1 = z) with
  | none => exact r2
  | some u =>
    have hu := List.all_eq_true.mp hf u (List.mem_of_find?_eq_some q)
    rw [Bool.and_eq_true] at hu
    show Dw K Hs2 (flatVal u.2) u.2
    obtain ⟨u1, u2⟩ := u
    cases u2 <;> first | exact ⟨.non, hu.2⟩ | exact ⟨.bl _, hu.2⟩ | exact ⟨.int _, hu.2⟩ | exact ⟨.str _, hu.2⟩ | (cases hu.1)
/-! ### a call that only looks: its answer is flat -/
def parB (e : Env) : SV → Option SV
  | .v w => some (.v w)
  | x => (see e x).map .d
def parsB (e : Env) : List SV → Option (List SV)
  | [] => some []
  | x :: xs => match parB e x, parsB e xs with
    | some y, some ys => some (y :: ys)
    | _, _ => none
def dCallB (sp : DSp) (aa : DA) : DE := fun e k => aa e fun xs e1 => ∃ zs, parsB e1 xs = some zs ∧ sp zs fun r ys => ∃ d, r = .d d ∧ flatD d = true ∧ k (.d d) e1
theorem parsB_str {H0 Hs H : Hp} {σ : St} {e : Env} (s : StR K Hs H σ e) : ∀ {vs : List V} {xs zs : List SV}, RelXl K H0 Hs H σ e vs xs → parsB e xs = some zs → vs.length = zs.length ∧ ∀ (i : Nat) (t : SV), zs[i]? = some t → isHeld t = false ∧ ∃ v, vs[i]? = some v ∧ RelS K H H (some v) t
  | _, _, _, .nil, h => by cases h; exact ⟨rfl, fun i t h => by simp at h⟩
  | _, _, zs, .cons (v := v) (vs := vs0) (x := x) (xs := xs) h1 h2, h => by
    have h : (match parB e x, parsB e xs with
      | some y, some ys => some (y :: ys)
      | _, _ => none) = some zs := h
    split at h
    · rename_i y ys e1 e2
      cases h
      obtain ⟨l, ih⟩ := parsB_str s h2 e2
      refine ⟨by rw [List.length_cons, List.length_cons, l], fun i t ht => ?_⟩
      cases i with
      | succ i => exact ih i t (by simpa using ht)
      | zero =>
        simp at ht
        subst ht
        have key : ∀ {d : PyData}, see e x = some d → isHeld (SV.d d) = false ∧ ∃ u, (v :: vs0)[0]? = some u ∧ RelS K H H (some u) (.d d) := fun {d} hd => by
          have g := sees_of s h1 hd
          refine ⟨rfl, v, by simp, v, rfl, ?_, g.wf⟩
          cases g with
          | d g => exact g.1.mono s.sub
          | l g1 g2 g3 => exact .lst g1 (g2.1.mono s.sub)
        cases x with
        | v w =>
          cases e1
          exact ⟨rfl, v, by simp, congrArg some h1⟩
        | d d => cases e1; exact key rfl
        | own c =>
          have e1 : (see e (.own c)).map SV.d = some y := e1
          obtain ⟨d, hd, rfl⟩ := Option.map_eq_some_iff.mp e1
          exact key hd
        | par c => exact (show False from h1).elim
        | al j =>
          have e1 : (see e (.al j)).map SV.d = some y := e1
          obtain ⟨d, hd, rfl⟩ := Option.map_eq_some_iff.mp e1
          exact key hd
        | no => exact (show False from h1).elim
    · cases h
theorem dq_flat {H H' : Hp} {v : V} {d : PyData} (h : Dw K H v d) (f : flatD d = true) : Dw K H' v d := by
  refine ⟨?_, h.2⟩
  have h1 := h.1
  cases h1 <;> first | exact .non | exact .bl _ | exact .int _ | exact .str _ | cases f
theorem callB_core {sp : DSp} {Hs H Hb H0 : Hp} {σ : St} {e1 eb : Env} {vs : List V} {xs zs : List SV} {k : DK} {Q : VK} {E : XK} (f1 : Fw K Hb H0 σ eb Hs H σ e1) (r1 : RelXl K H0 Hs H σ e1 vs xs) (hz : parsB e1 xs = some zs)
    (hs : sp zs fun r ys => ∃ d, r = .d d ∧ flatD d = true ∧ k (.d d) e1) (c : ∀ v x Hs' H' e', Fw K Hb H0 σ eb Hs' H' σ e' → RelX K H0 Hs' H' σ e' v x → k x e' → Q v H') : lift K sp vs H Q E := by
  have s := f1.st
  obtain ⟨hl, hr⟩ := parsB_str s r1 hz
  refine ⟨zs, H, _, ⟨Same.refl _, by rw [List.length_map, hl], fun i t ht => ?_, fun i j a h1 h2 => ?_⟩, fun i o h => ?_, hs, fun r ys v Hs' H' hk na f hr2 => ?_⟩
  · obtain ⟨_, v, hv, hq⟩ := hr i t ht
    exact ⟨some v, by rw [List.getElem?_map, hv]; rfl, hq⟩
  · obtain ⟨_, t, ht, hh⟩ := h1
    rw [(hr i t ht).1] at hh
    cases hh
  · have := (hr i _ h).1
    cases this
  · obtain ⟨d, rfl, fl, hk⟩ := hk
    have hr2 : Dw K Hs' v d := hr2
    have gk : ∀ a o, H a = some o → H' a = some o := fun a o ha => f.go.keep a o (fun ⟨i, _, t, ht, hh⟩ => by rw [(hr i t ht).1] at hh; cases hh) ha
    have sb : Same Hs H' := fun a o ha => gk a o (s.sub a o ha)
    refine c v (.d d) Hs H' e1 (f1.trans ⟨s.to sb (Same.refl _) fun i a hi => ⟨(s.held hi).1, fun o ho => gk a o ho⟩, ⟨Same.refl _, fun a h1 h2 => absurd h2 h1, fun a o _ ho => gk a o ho, f.go.there⟩, fun i a h => .inl ⟨i, h⟩, fun i o h => ⟨rfl, o, h⟩⟩) (show Dw K Hs v d from dq_flat hr2 fl) hk
theorem sim_callB {sp : DSp} {E : XK} (ha : SimAl K ar aa) : SimE K (tCall (lift K sp) [] E ar) (dCallB sp aa) := fun Hs H σ e Q k s hu c =>
  ha Hs H σ e _ _ s hu fun vs xs Hs1 H1 e1 f1 r1 h1 => by
    obtain ⟨zs, hz, hs⟩ := h1
    rw [List.append_nil]
    exact callB_core f1 r1 hz hs c
theorem sim_callBK {sp : DSp} {E : XK} (ha : SimAl K ar aa) : SimE K (tCallK (lift K sp) (fun vs zs => vs ++ zs) E tNil ar) (dCallB sp aa) := fun Hs H σ e Q k s hu c =>
  ha Hs H σ e _ _ s hu fun vs xs Hs1 H1 e1 f1 r1 h1 => by
    obtain ⟨zs, hz, hs⟩ := h1
    exact callB_core f1 r1 hz hs c
/-- l[::-1], s[::-1] -/
def dRev (da : DE) : DE := fun e k => da e fun x e1 => ∃ a, see e1 x = some a ∧ match a with
  | .list ds => k (.own (.lst ds.reverse)) e1
  | _ => False
theorem sim_revL (ha : SimE K ta da) : SimE K (tRevL K ta) (dRev da) := fun Hs H σ e Q k s hu c =>
  ha Hs H σ e _ _ s hu fun v x Hs1 H1 e1 f1 r1 h1 => by
    obtain ⟨a, ea, h1⟩ := h1
    split at h1
    · obtain ⟨p, vs, rfl, g1, g2, g3⟩ := (sees_of f1.st r1 ea).lst f1.st.sub
      exact ⟨p, vs, rfl, SqL.of g1, fun q hq => (out_of f1 c).lst _ _ q h1 hq ⟨g2.1.rev, wfs_sub g2.2 fun d hd => List.mem_reverse.mp hd⟩ (by rw [List.length_reverse]; exact g3)⟩
    · exact h1.elim
end
end DL

/-! the data layer: several names at once, rules by any type, the common promises -/
namespace L2
open PySem PySem.Spec PyProof.Rows
/-! promises of the layer below, of three helpers that no data layer is laid over -/
def osp_take (K : PySem.W.Frag) : Sp := fun vs H Q _ => ∃ (b : Addr) (m : Int) (k : Nat), vs = [.ref b, .int m] ∧ ∃ Hs, Same Hs H ∧ Hs b = none ∧ 0 < m ∧ m < 4611686018427387904 ∧ BoxAt H b (k + 1) ∧
  ∀ H' r, 0 ≤ r → r < m → Go [b] Hs H Hs H' → BoxAt H' b k → Q (.int r) H'
def osp_dip (K : PySem.W.Frag) : Sp := fun vs H Q _ => ∃ (c : Addr) (ns : List Int) (k a : Nat), vs = [.ref c, .int (k : Int)] ∧ ∃ Hs, Same Hs H ∧ SqL K Hs c (ns.map V.int) ∧ (∀ n ∈ ns, n.natAbs < 2 ^ a) ∧ a ≤ 1200000 ∧ k ≤ 1000 ∧
  ∀ H' b, H b = none → Hs b = none → Go [] Hs H Hs H' → BoxAt H' b 1000000000 → Q (.ref b) H'
def sp_l_folded (K : PySem.W.Frag) : Sp := fun vs H Q _ => ∃ (c : Addr) (ns : List Int) (n a : Nat), vs = [.ref c, .int (n : Int)] ∧ ∃ Hs, Same Hs H ∧ SqL K Hs c (ns.map V.int) ∧ ns.length ≤ 63 ∧ 0 < n ∧ n ≤ 10 ∧ (∀ z ∈ ns, z.natAbs < 2 ^ a) ∧ a ≤ 1100000 ∧
  ∀ Hs' H' p (ms : List Int), Go [] Hs H Hs' H' → Hs' p = some (.lst (ms.map V.int)) → ms.length = min n ns.length → (∀ z ∈ ms, z.natAbs < 2 ^ (a + 20)) → Q (.ref p) H'
def sp_law (K : PySem.W.Frag) : Sp := fun vs H Q _ => ∃ (c : Addr) (ns : List Int) (a : Nat), vs = [.ref c] ∧ SqL K H c (ns.map V.int) ∧ ns.length ≤ 63 ∧ (∀ z ∈ ns, z.natAbs < 2 ^ a) ∧ a ≤ 1100000 ∧
  ∀ H', Q (.bl true) H'
end L2
namespace DL
open PySem PySem.Spec PyProof.Rows L2 TL
section
variable {X : Cx}
theorem oUAdd : OpR X (binaryOp .Add) (uAdd X.K) := oAdd.or (oAddS.or (oCat.or oCatA))
theorem oUMul : OpR X (binaryOp .Mult) (uMul X.K) := oMul.or (oRepS.or (oRep.or op_repT))
theorem oULt : OpR X (compareOp .Lt) uLt := oLt.or oLtS
theorem oULtE : OpR X (compareOp .LtE) uLtE := oLtE.or oLtES
theorem oUGt : OpR X (compareOp .Gt) uGt := oGt.or oGtS
theorem oUGtE : OpR X (compareOp .GtE) uGtE := oGtE.or oGtES
theorem oUIn (hu : X.A.units + 65 < cLine) : OpR X (compareOp .In) (uIn X.K) := oInSg.or (oInSt.or ((op_inD hu).or (op_inDT hu)))
theorem oUNotIn (hu : X.A.units + 65 < cLine) : OpR X (compareOp .NotIn) (uNotIn X.K) := oNotInSg.or (oNotInSt.or ((op_notInD hu).or (op_notInDT hu)))
end
theorem units65 {k : Nat} {A : Around} (r : Room k A) : A.units + 65 < cLine := by have := r.un; omega
section
variable {K : PySem.W.Frag} {ta tb tc te : TE} {ar : TA} {da db dc de : DE} {aa : DA}
/-! ### several names at once -/
def argN (da : DE) : DE := fun e k => da e fun x e1 => noAl x e1 k
theorem sim_argN (ha : SimE K ta da) : SimE K ta (argN da) := fun Hs H σ e Q k s hu c =>
  ha Hs H σ e _ _ s hu fun v x Hs1 H1 e1 f1 r1 h1 => by
    cases x with
    | d d => exact c _ _ _ _ _ f1 r1 h1
    | v w => exact c _ _ _ _ _ f1 r1 h1
    | own o => exact c _ _ _ _ _ f1 r1 h1
    | al i =>
      obtain ⟨Hs2, e2, d, f2, r2, h2, _⟩ := asD_sim f1 r1 (show asD (.al i) e1 fun d e' => k (.d d) e' from h1)
      exact c v (.d d) _ _ _ f2 r2 h2
    | par o => exact h1.elim
    | no => exact h1.elim
/-- a thing that may be kept by a name -/
def keepable : SV → Bool
  | .d _ => true
  | .v _ => true
  | .own _ => true
  | _ => false
theorem setX {Hs0 H0 Hs H : Hp} {σ0 σ : St} {e0 e : Env} {i : Nat} {v : V} {x : SV} (f : Fw K Hs0 H0 σ0 e0 Hs H σ e) (r : RelX K H0 Hs H σ e v x) (hk : keepable x = true) (hn : notPar e i = true) : Fw K Hs0 H0 σ0 e0 Hs H (σ.set i (some v)) (e.set i x) := by
  cases x with
  | d d => exact f.setD (s := .d d) hn ⟨v, rfl, r⟩ rfl
  | v w => exact f.setD (s := .v w) hn (congrArg some r) rfl
  | own o =>
    obtain ⟨a, rfl, ha, hr, h0, nh⟩ := r
    exact f.setO hn ha hr h0 nh
  | al i => cases hk
  | par o => cases hk
  | no => cases hk
theorem setX_keep {H0 Hs H : Hp} {σ : St} {e : Env} {i : Nat} {v w : V} {x y : SV} (r : RelX K H0 Hs H σ e w y) (hk : keepable y = true) (ha : isHeld x = true → isHeld y = true → w ≠ v) : RelX K H0 Hs H (σ.set i (some v)) (e.set i x) w y := by
  cases y with
  | d d => exact r
  | v w => exact r
  | own o =>
    obtain ⟨a, rfl, h1, h2, h3, nh⟩ := r
    refine ⟨a, rfl, h1, h2, h3, fun j hj => ?_⟩
    rcases held_set hj with ⟨_, z, hx⟩ | ⟨_, z⟩
    · exact ha hx rfl (Option.some.inj z).symm
    · exact nh j z
  | al i => cases hk
  | par o => cases hk
  | no => cases hk
def sPar (i j : Nat) (aa : DA) : DS := fun D e => aa e fun xs e1 => ∃ x y, xs = [x, y] ∧ keepable x = true ∧ keepable y = true ∧ notPar e1 i = true ∧ notPar (e1.set i x) j = true ∧ D.nx ((e1.set i x).set j y)
theorem RelXs.two {H0 Hs H : Hp} {σ : St} {e : Env} {vs : List V} {x y : SV} (r : RelXs K H0 Hs H σ e vs [x, y]) : ∃ v w, vs = [v, w] ∧ RelX K H0 Hs H σ e v x ∧ RelX K H0 Hs H σ e w y ∧ (isHeld x = true → isHeld y = true → w ≠ v) := by
  cases r with
  | cons h1 h2 h3 =>
    cases h2 with
    | cons g1 g2 g3 =>
      cases g2
      exact ⟨_, _, rfl, h1, g1, fun a b z => h3 a 0 y (by simp) b (by simp [z])⟩
theorem sim_par {i j : Nat} (ha : SimA K ar aa) : SimS K (tPar i j ar) (sPar i j aa) := fun Hs H σ e D dD s hu S =>
  ha Hs H σ e _ _ s hu fun vs xs Hs1 H1 e1 f1 r1 h1 => by
    obtain ⟨x, y, rfl, k1, k2, n1, n2, hk⟩ := h1
    obtain ⟨v, w, rfl, r2, r3, ne⟩ := r1.two
    exact ⟨v, w, rfl, S.nx _ _ _ _ (setX (setX f1 r2 k1 n1) (setX_keep r3 k2 ne) k2 n2) hk⟩
def sPar3 (i j l : Nat) (aa : DA) : DS := fun D e => aa e fun xs e1 => ∃ x y z, xs = [x, y, z] ∧ keepable x = true ∧ keepable y = true ∧ keepable z = true ∧ notPar e1 i = true ∧ notPar (e1.set i x) j = true ∧ notPar ((e1.set i x).set j y) l = true ∧ D.nx (((e1.set i x).set j y).set l z)
theorem RelXs.three {H0 Hs H : Hp} {σ : St} {e : Env} {vs : List V} {x y z : SV} (r : RelXs K H0 Hs H σ e vs [x, y, z]) : ∃ u v w, vs = [u, v, w] ∧ RelX K H0 Hs H σ e u x ∧ RelX K H0 Hs H σ e v y ∧ RelX K H0 Hs H σ e w z ∧ (isHeld x = true → isHeld y = true → v ≠ u) ∧ (isHeld x = true → isHeld z = true → w ≠ u) ∧ (isHeld y = true → isHeld z = true → w ≠ v) := by
  cases r with
  | cons h1 h2 h3 =>
    obtain ⟨v, w, rfl, g1, g2, g3⟩ := RelXs.two h2
    exact ⟨_, v, w, rfl, h1, g1, g2, fun a b q => h3 a 0 y (by simp) b (by simp [q]), fun a b q => h3 a 1 z (by simp) b (by simp [q]), g3⟩
theorem sim_par3 {i j l : Nat} (ha : SimA K ar aa) : SimS K (tPar3 i j l ar) (sPar3 i j l aa) := fun Hs H σ e D dD s hu S =>
  ha Hs H σ e _ _ s hu fun vs xs Hs1 H1 e1 f1 r1 h1 => by
    obtain ⟨x, y, z, rfl, k1, k2, k3, n1, n2, n3, hk⟩ := h1
    obtain ⟨u, v, w, rfl, r2, r3, r4, ne1, ne2, ne3⟩ := r1.three
    exact ⟨u, v, w, rfl, S.nx _ _ _ _ (setX (setX (setX f1 r2 k1 n1) (setX_keep r3 k2 ne1) k2 n2) (setX_keep (setX_keep r4 k3 ne2) k3 ne3) k3 n3) hk⟩
/-- the same by a tuple that is thrown away (names that are cells) -/
theorem sim_tpar {i j : Nat} (ha : SimA K ar aa) : SimS K (tAsg (tTup ar) (gTup K 2 (gCons (gName i) (gCons (gName j) gNil)))) (sPar i j aa) := fun Hs H σ e D dD s hu S =>
  ha Hs H σ e _ _ s hu fun vs xs Hs1 H1 e1 f1 r1 h1 => by
    obtain ⟨x, y, rfl, k1, k2, n1, n2, hk⟩ := h1
    obtain ⟨v, w, rfl, r2, r3, ne⟩ := r1.two
    refine ⟨by show 2 ≤ sizeLine; decide, fun p hp => ⟨p, [v, w], rfl, SqT.of upd_same, rfl, v, [w], rfl, w, [], rfl, rfl, ?_⟩⟩
    obtain ⟨gp, sb⟩ := gp_cell (o := .tup [v, w]) f1.st.sub hp
    have g := f1.st.ext gp sb
    have f2 := f1.trans g
    exact S.nx _ _ _ _ (setX (setX f2 (r2.keep g) k1 n1) (setX_keep (r3.keep g) k2 ne) k2 n2) hk
theorem sim_tpar3 {i j l : Nat} (ha : SimA K ar aa) : SimS K (tAsg (tTup ar) (gTup K 3 (gCons (gName i) (gCons (gName j) (gCons (gName l) gNil))))) (sPar3 i j l aa) := fun Hs H σ e D dD s hu S =>
  ha Hs H σ e _ _ s hu fun vs xs Hs1 H1 e1 f1 r1 h1 => by
    obtain ⟨x, y, z, rfl, k1, k2, k3, n1, n2, n3, hk⟩ := h1
    obtain ⟨u, v, w, rfl, r2, r3, r4, ne1, ne2, ne3⟩ := r1.three
    refine ⟨by show 3 ≤ sizeLine; decide, fun p hp => ⟨p, [u, v, w], rfl, SqT.of upd_same, rfl, u, [v, w], rfl, v, [w], rfl, w, [], rfl, rfl, ?_⟩⟩
    obtain ⟨gp, sb⟩ := gp_cell (o := .tup [u, v, w]) f1.st.sub hp
    have g := f1.st.ext gp sb
    have f2 := f1.trans g
    exact S.nx _ _ _ _ (setX (setX (setX f2 (r2.keep g) k1 n1) (setX_keep (r3.keep g) k2 ne1) k2 n2) (setX_keep (setX_keep (r4.keep g) k3 ne2) k3 ne3) k3 n3) hk
/-! ### ends -/
theorem no_lift {sp : DSp} {vs : List V} {H : Hp} {Q : VK} {E : XK} (h : ∀ xs k, sp xs k → False) (l : lift K sp vs H Q E) : False := by
  obtain ⟨xs, Hs, k, s, no, hs, c⟩ := l
  exact h xs k hs
theorem lift_len {sp : DSp} {vs : List V} {H : Hp} {Q : VK} {E : XK} {n : Nat} (h : ∀ xs k, sp xs k → xs.length = n) (l : lift K sp vs H Q E) : vs.length = n := by
  obtain ⟨xs, Hs, k, s, no, hs, c⟩ := l
  have := s.len
  rw [List.length_map] at this
  rw [this]
  exact h xs k hs
/-- the rest of the law's body -/
theorem law_run {t : TS} {d1 : DS} {Hs H : Hp} {σ : St} {e : Env} {Q : VK} (S : SimS K t d1) (s : StR K Hs H σ e) (h : d1 { nx := fun _ => False, rt := fun x _ => x = .d (.bool true) } e) (q : ∀ H', Q (.bl true) H') : t { nx := fun _ H' => Q .non H', rt := Q } σ H :=
  S Hs H σ e _ _ s h ⟨fun _ _ _ _ _ z => z.elim, fun v x σ' Hs' H' e' f r z => by
    subst z
    have r : Dw K Hs' v (.bool true) := r
    cases r.1
    exact q H', fun _ _ _ _ _ z => z.elim, fun _ _ _ _ _ z => z.elim⟩
theorem dq_ints {H : Hp} : ∀ ns : List Int, DqAll K H (ns.map V.int) (ns.map PyData.int)
  | [] => .nil
  | n :: r => .cons (.int n) (dq_ints r)
theorem wfs_ints (ns : List Int) : wfs (ns.map PyData.int) = true := wfs_iff.mpr fun d hd => by
  obtain ⟨n, _, rfl⟩ := List.mem_map.mp hd
  rfl
/-- behind the law's first statement -/
theorem str_law {Hs H : Hp} {c p : Addr} {ms : List Int} {n : Nat} (sb : Same Hs H) (hp : Hs p = some (.lst (ms.map V.int))) (hl : ms.length ≤ sizeLine) : StR K Hs H ([some (.ref c), some (.ref p)] ++ List.replicate n none) ([.v (.ref c), .d (.list (ms.map .int))] ++ List.replicate n .no) where
  sub := sb
  len := by simp
  rel := fun i t ht => by
    match i, ht with
    | 0, ht => simp at ht; subst ht; exact ⟨_, rfl, rfl⟩
    | 1, ht => simp at ht; subst ht; exact ⟨_, rfl, _, rfl, .lst hp (dq_ints ms), wf_list.mpr ⟨by rw [List.length_map]; exact hl, wfs_ints ms⟩⟩
    | i + 2, ht =>
      have ht2 : (List.replicate n SV.no)[i]? = some t := by simpa using ht
      rw [List.getElem?_replicate] at ht2
      split at ht2
      · cases ht2
        have hi : i < n := by assumption
        refine ⟨none, ?_, trivial⟩
        have : (List.replicate n (none : Option V))[i]? = some none := by rw [List.getElem?_replicate, if_pos hi]
        simpa using this
      · cases ht2
  dis := fun i j a h1 h2 => by
    have no : ∀ i, ¬ Held ([some (.ref c), some (.ref p)] ++ List.replicate n none) ([.v (.ref c), .d (.list (ms.map .int))] ++ List.replicate n .no) i a := fun i hi => by
      obtain ⟨_, t, h2, h3⟩ := hi
      match i, h2 with
      | 0, ht => simp at ht; subst ht; cases h3
      | 1, ht => simp at ht; subst ht; cases h3
      | i + 2, ht =>
        have ht2 : (List.replicate n SV.no)[i]? = some t := by simpa using ht
        rw [List.getElem?_replicate] at ht2
        split at ht2
        · cases ht2; cases h3
        · cases ht2
    exact absurd h1 (no i)
end

/-! ### the common promises -/
def sp_l_take : DSp := fun xs k => ∃ (m : Int) (c : Nat), xs = [.par (.box c), .d (.int m)] ∧ 1 ≤ c ∧ 0 < m ∧ m < 4611686018427387904 ∧ ∀ r, 0 ≤ r → r < m → k (.d (.int r)) [.par (.box (c - 1)), .no]
def sp_l_dip : DSp := fun xs k => ∃ (ns : List Int) (n a : Nat), xs = [.d (.list (ns.map .int)), .d (.int (n : Int))] ∧ (∀ z ∈ ns, z.natAbs < 2 ^ a) ∧ a ≤ 1200000 ∧ n ≤ 1000 ∧ k (.own (.box 1000000000)) [.no, .no]
section
variable {K : PySem.W.Frag} {vs : List V} {H : Hp} {Q : VK} {E : XK}
theorem take_old (h : lift K sp_l_take vs H Q E) : osp_take K vs H Q E := by
  obtain ⟨xs, Hs, k, s, no, ⟨m, b0, rfl, h0, h1, h2, h3⟩, c⟩ := h
  obtain ⟨b, rfl⟩ : ∃ b, b0 = b + 1 := ⟨b0 - 1, by omega⟩
  rw [Nat.add_sub_cancel] at h3
  have hl := s.len
  rw [List.length_map] at hl
  match vs, hl with
  | [v, w], _ =>
    obtain ⟨o, q1, a, q2, q3, q4⟩ := s.rel 0 _ rfl
    obtain ⟨o2, g1, u, g2, g3⟩ := s.rel 1 _ rfl
    cases q1; cases q2
    cases g1; cases g2
    cases g3.1
    have z0 : ∀ (c : Own) (i : Nat) (b2 : Addr), Held ([V.ref a, V.int m].map some) [.par c, .no] i b2 → i = 0 := fun c i b2 hi => by
      obtain ⟨_, t, e1, e3⟩ := hi
      match i, e1 with
      | 0, _ => rfl
      | 1, e1 => cases e1; cases e3
    have z1 : ∀ (i : Nat) (b2 : Addr), Held ([V.ref a, V.int m].map some) [.par (.box (b + 1)), .d (.int m)] i b2 → i = 0 := fun i b2 hi => by
      obtain ⟨_, t, e1, e3⟩ := hi
      match i, e1 with
      | 0, _ => rfl
      | 1, e1 => cases e1; cases e3
    refine ⟨a, m, b, rfl, Hs, s.sub, q3, h1, h2, q4, fun H' r r0 r1 g hb => ?_⟩
    refine c (.d (.int r)) _ (.int r) Hs H' (h3 r r0 r1) rfl ⟨⟨g.sub, rfl, fun i t ht => ?_, fun i j b2 e1 e2 => ?_⟩, ?_, fun i b2 hi => ?_, fun i o ho => ⟨rfl, ?_⟩⟩ ⟨.int r, rfl⟩
    · match i, ht with
      | 0, ht => cases ht; exact ⟨_, rfl, a, rfl, q3, hb⟩
      | 1, ht => cases ht; exact ⟨_, rfl, trivial⟩
    · rw [z0 _ i b2 e1, z0 _ j b2 e2]
    · refine (gp_of g).mono fun b2 hb2 => ?_
      rw [List.mem_singleton] at hb2
      subst hb2
      exact ⟨0, rfl, _, rfl, rfl⟩
    · have e := z0 _ i b2 hi
      subst e
      exact .inl ⟨0, hi.1, _, rfl, rfl⟩
    · match i, ho with
      | 0, _ => exact ⟨_, rfl⟩
      | 1, ho => cases ho
theorem dip_old (h : lift K sp_l_dip vs H Q E) : osp_dip K vs H Q E := by
  obtain ⟨xs, Hs, k, s, no, ⟨ns, n, a, rfl, h1, h2, h3, h4⟩, c⟩ := h
  have hl := s.len
  rw [List.length_map] at hl
  match vs, hl with
  | [v, w], _ =>
    obtain ⟨o, q1, u, q2, q3⟩ := s.rel 0 _ rfl
    obtain ⟨o2, g1, u2, g2, g3⟩ := s.rel 1 _ rfl
    cases q1; cases q2
    cases g1; cases g2
    cases g3.1
    cases q3.1 with
    | @lst cc _ _ e1 e2 =>
      rw [e2.of_ints] at e1
      have nh : ∀ (i : Nat) (b2 : Addr), ¬ Held ([V.ref cc, V.int (n : Int)].map some) [.no, .no] i b2 := fun i b2 hi => by
        obtain ⟨e0, t, e1, e3⟩ := hi
        match i, e1 with
        | 0, e1 => cases e1; cases e3
        | 1, e1 => cases e1; cases e3
      refine ⟨_, ns, n, a, rfl, Hs, s.sub, SqL.of e1, h1, h2, h3, fun H' b hb hbs g hbox => ?_⟩
      refine c (.own (.box 1000000000)) _ (.ref b) Hs H' h4 rfl ⟨⟨g.sub, rfl, fun i t ht => ?_, fun i j b2 e1 e2 => absurd e1 (nh i b2)⟩, ?_, fun i b2 hi => absurd hi (nh i b2), fun i o ho => ?_⟩ ⟨b, rfl, hbs, hbox, hb, fun i => nh i b⟩
      · match i, ht with
        | 0, ht => cases ht; exact ⟨_, rfl, trivial⟩
        | 1, ht => cases ht; exact ⟨_, rfl, trivial⟩
      · exact (gp_of g).mono fun b2 hb2 => nomatch hb2
      · match i, ho with
        | 0, ho => cases ho
        | 1, ho => cases ho
end
end DL

/-! the data layer, step by step -/
namespace DL
open PySem PySem.Spec PyProof.Rows L2 TL
section
variable {e e1 : Env} {k : DK} {x y : SV} {d d' : PyData} {w : V} {i j : Nat} {D : DEnds} {da db dc de : DE} {dt du : DT} {d1 d2 : DS} {dg : DG} {dgs : DGs} {di : DI} {aa : DA} {dr : DV} {dl dh : DO} {kb : Bool → Env → Prop} {kn : Env → Prop} {kv : PyData → Env → Prop} {kvs : List PyData → Env → Prop} {ka : List SV → Env → Prop} {ko : Option Int → Env → Prop} {ks : SV → Prop} {ρ ρ' : DR2} {o : Own} {ds es : List PyData}
theorem y_c (q : k x e) : dC x e k := q
theorem y_vd (h : e[i]? = some (.d d)) (q : k (.d d) e) : dVar i e k := by unfold dVar; rw [h]; exact q
theorem y_vv (h : e[i]? = some (.v w)) (q : k (.v w) e) : dVar i e k := by unfold dVar; rw [h]; exact q
theorem y_vo (h : e[i]? = some (.own o)) (q : k (.al i) e) : dVar i e k := by unfold dVar; rw [h]; exact q
theorem y_vp (h : e[i]? = some (.par o)) (q : k (.al i) e) : dVar i e k := by unfold dVar; rw [h]; exact q
theorem y_op (q : da e fun x e1 => db e1 fun y e2 => ∃ a b, see e2 x = some a ∧ see e2 y = some b ∧ ρ a b fun z => k z e2) : dOp ρ da db e k := q
theorem y_see2 {P : PyData → PyData → Prop} (h1 : see e x = some d) (h2 : see e1 y = some d') (q : P d d') : ∃ a b, see e x = some a ∧ see e1 y = some b ∧ P a b := ⟨d, d', h1, h2, q⟩
theorem y_see1 {P : PyData → Prop} (h1 : see e x = some d) (q : P d) : ∃ a, see e x = some a ∧ P a := ⟨d, h1, q⟩
theorem y_un {ρ : DR1} (q : da e fun x e1 => ∃ a, see e1 x = some a ∧ ρ a fun z => k z e1) : dUn ρ da e k := q
theorem y_neg {i : Int} (q : ks (.d (.int (-i)))) : dNeg (.int i) ks := q
theorem y_addI {i j : Int} (q : ks (.d (.int (i + j)))) : dAdd (.int i) (.int j) ks := q
theorem y_addS {z w : Str} (h : z.length + w.length ≤ sizeLine) (q : ks (.d (.str (z ++ w)))) : dAdd (.str z) (.str w) ks := ⟨h, q⟩
theorem y_addL (h : ds.length + es.length ≤ sizeLine) (q : ks (.own (.lst (ds ++ es)))) : dAdd (.list ds) (.list es) ks := ⟨h, q⟩
theorem y_addT (h : ds.length + es.length ≤ sizeLine) (q : ks (.d (.tuple (ds ++ es)))) : dAdd (.tuple ds) (.tuple es) ks := ⟨h, q⟩
theorem y_subI {i j : Int} (q : ks (.d (.int (i - j)))) : dSub (.int i) (.int j) ks := q
theorem y_fdv {i j : Int} (h : CDivW i j) (q : ks (.d (.int (i / j)))) : dFdv (.int i) (.int j) ks := ⟨h, q⟩
theorem y_mod {i j : Int} (h : 0 < j) (q : ks (.d (.int (i % j)))) : dMod (.int i) (.int j) ks := ⟨h, q⟩
theorem y_mulI {i j : Int} (h : CMulX i j) (q : ks (.d (.int (i * j)))) : dMul (.int i) (.int j) ks := ⟨h, q⟩
theorem y_mulL {n : Int} (h1 : -(2 ^ 63) ≤ n) (h2 : n < 2 ^ 63) (h : ds.length * n.toNat ≤ sizeLine) (q : ks (.own (.lst (repD n ds)))) : dMul (.list ds) (.int n) ks := ⟨h1, h2, h, q⟩
theorem y_mulS {n : Int} {z : Str} (h1 : 2 ≤ n) (h2 : n ≤ 1000) (h3 : 1 ≤ z.length) (h4 : z.length ≤ 1000) (q : ks (.d (.str (repS n z)))) : dMul (.str z) (.int n) ks := ⟨h1, h2, h3, h4, q⟩
theorem y_mulT {n : Int} (h1 : ds ≠ []) (h2 : 2 ≤ n) (h3 : n ≤ 1000) (h4 : ds.length ≤ 1000) (q : ks (.d (.tuple (repD n ds)))) : dMul (.tuple ds) (.int n) ks := ⟨h1, h2, h3, h4, q⟩
theorem y_ltI {i j : Int} (q : ks (.d (.bool (decide (i < j))))) : dLt (.int i) (.int j) ks := q
theorem y_leI {i j : Int} (q : ks (.d (.bool (decide (i ≤ j))))) : dLtE (.int i) (.int j) ks := q
theorem y_gtI {i j : Int} (q : ks (.d (.bool (decide (j < i))))) : dGt (.int i) (.int j) ks := q
theorem y_geI {i j : Int} (q : ks (.d (.bool (decide (j ≤ i))))) : dGtE (.int i) (.int j) ks := q
theorem y_ltS {z w : Str} (q : ks (.d (.bool (decide (tl z < tl w))))) : dLt (.str z) (.str w) ks := q
theorem y_leS {z w : Str} (q : ks (.d (.bool (!decide (tl w < tl z))))) : dLtE (.str z) (.str w) ks := q
theorem y_gtS {z w : Str} (q : ks (.d (.bool (decide (tl w < tl z))))) : dGt (.str z) (.str w) ks := q
theorem y_geS {z w : Str} (q : ks (.d (.bool (!decide (tl z < tl w))))) : dGtE (.str z) (.str w) ks := q
theorem y_eqS {z w : Str} (q : ks (.d (.bool (z == w)))) : dEq (.str z) (.str w) ks := ⟨Nat.zero_le _, Nat.zero_le _, q⟩
theorem y_eqI {i j : Int} (q : ks (.d (.bool (i == j)))) : dEq (.int i) (.int j) ks := ⟨Nat.zero_le _, Nat.zero_le _, q⟩
theorem y_eqB {i j : Bool} (q : ks (.d (.bool (i == j)))) : dEq (.bool i) (.bool j) ks := ⟨Nat.zero_le _, Nat.zero_le _, q⟩
theorem y_neS {z w : Str} (q : ks (.d (.bool (!(z == w))))) : dNe (.str z) (.str w) ks := ⟨Nat.zero_le _, Nat.zero_le _, q⟩
theorem y_neI {i j : Int} (q : ks (.d (.bool (!(i == j))))) : dNe (.int i) (.int j) ks := ⟨Nat.zero_le _, Nat.zero_le _, q⟩
theorem y_neB {i j : Bool} (q : ks (.d (.bool (!(i == j))))) : dNe (.bool i) (.bool j) ks := ⟨Nat.zero_le _, Nat.zero_le _, q⟩
theorem y_eq (h1 : PyData.depth d ≤ 64) (h2 : PyData.depth d' ≤ 64) (q : ks (.d (.bool (PyData.eqv d d')))) : dEq d d' ks := ⟨h1, h2, q⟩
theorem y_ne (h1 : PyData.depth d ≤ 64) (h2 : PyData.depth d' ≤ 64) (q : ks (.d (.bool (!PyData.eqv d d')))) : dNe d d' ks := ⟨h1, h2, q⟩
theorem y_isN (q : ks (.d (.bool (isNon d)))) : dIsN d .none ks := q
theorem y_isNotN (q : ks (.d (.bool (!isNon d)))) : dIsNotN d .none ks := q
theorem y_inSg {c : Nat} {z : Str} (q : ks (.d (.bool (decide (c ∈ tl z))))) : dIn (.str ⟨#[c]⟩) (.str z) ks := .inr ⟨c, rfl, q⟩
theorem y_inSt {z w : Str} (q : ks (.d (.bool (subIn z w)))) : dIn (.str z) (.str w) ks := .inl ⟨z, rfl, q⟩
theorem y_inL (h1 : PyData.depth d ≤ 64) (h2 : PyData.depth (.list ds) ≤ 64) (q : ks (.d (.bool (inD d ds)))) : dIn d (.list ds) ks := ⟨h1, h2, q⟩
theorem y_inT (h1 : PyData.depth d ≤ 64) (h2 : PyData.depth (.tuple ds) ≤ 64) (q : ks (.d (.bool (inD d ds)))) : dIn d (.tuple ds) ks := ⟨h1, h2, q⟩
theorem y_notInSt {z w : Str} (q : ks (.d (.bool (!subIn z w)))) : dNotIn (.str z) (.str w) ks := .inl ⟨z, rfl, q⟩
theorem y_notInL (h1 : PyData.depth d ≤ 64) (h2 : PyData.depth (.list ds) ≤ 64) (q : ks (.d (.bool (!inD d ds)))) : dNotIn d (.list ds) ks := ⟨h1, h2, q⟩
theorem y_notInT (h1 : PyData.depth d ≤ 64) (h2 : PyData.depth (.tuple ds) ≤ 64) (q : ks (.d (.bool (!inD d ds)))) : dNotIn d (.tuple ds) ks := ⟨h1, h2, q⟩
theorem y_ixL {i : Int} (h : atI ds i = some d) (q : ks (.d d)) : dIx (.list ds) (.int i) ks := ⟨d, h, q⟩
theorem y_ixT {i : Int} (h : atI ds i = some d) (q : ks (.d d)) : dIx (.tuple ds) (.int i) ks := ⟨d, h, q⟩
theorem y_ixS {z : Str} {i : Int} {c : Nat} (h : atI (tl z) i = some c) (q : ks (.d (.str ⟨#[c]⟩))) : dIx (.str z) (.int i) ks := ⟨c, h, q⟩
theorem y_ifN {b : Bool} {P Q : Prop} (q : if b = true then Q else P) : if (!b) = true then P else Q := by cases b <;> exact q
theorem y_ie0 {P Q : Prop} (q : P) : if (([] : List PyData).isEmpty) = true then P else Q := q
theorem y_ie1 {P Q : Prop} {x : PyData} {xs : List PyData} (q : Q) : if ((x :: xs).isEmpty) = true then P else Q := q
theorem y_i1 {P Q : Prop} (q : P) : if (true == true) = true then P else Q := q
theorem y_i2 {P Q : Prop} (q : P) : if (false == false) = true then P else Q := q
theorem y_i3 {P Q : Prop} (q : Q) : if (true == false) = true then P else Q := q
theorem y_i4 {P Q : Prop} (q : Q) : if (false == true) = true then P else Q := q
theorem y_rt {kk : SV → List SV → Prop} {xs : List SV} (q : ∃ r, retC e x = some r ∧ kk r (finE xs e)) : (dEnd kk xs).rt x e := q
theorem y_nx {kk : SV → List SV → Prop} {xs : List SV} (q : kk (.d .none) (finE xs e)) : (dEnd kk xs).nx e := q
theorem y_tru (q : da e fun x e1 => truK x e1 fun b => kb b e1) : dTru da e kb := q
theorem y_tkB {b : Bool} {kk : Bool → Prop} (h : see e x = some (.bool b)) (q : kk b) : truK x e kk := ⟨_, h, q⟩
theorem y_tkN {kk : Bool → Prop} (h : see e x = some .none) (q : kk false) : truK x e kk := ⟨_, h, q⟩
theorem y_tkS {z : Str} {kk : Bool → Prop} (h : see e x = some (.str z)) (q : kk (decide (z.length ≠ 0))) : truK x e kk := ⟨_, h, q⟩
theorem y_tkI {i : Int} {kk : Bool → Prop} (h : see e x = some (.int i)) (q : kk (i != 0)) : truK x e kk := ⟨_, h, q⟩
theorem y_tkL {kk : Bool → Prop} (h : see e x = some (.list ds)) (q : kk (!ds.isEmpty)) : truK x e kk := ⟨_, h, q⟩
theorem y_tkT {kk : Bool → Prop} (h : see e x = some (.tuple ds)) (q : kk (!ds.isEmpty)) : truK x e kk := ⟨_, h, q⟩
theorem y_tkLb {b : Bool} {kk : Bool → Prop} (h : see e x = some (.list ds)) (hb : (!ds.isEmpty) = b) (q : kk b) : truK x e kk := ⟨_, h, by show kk (!ds.isEmpty); rw [hb]; exact q⟩
theorem y_tkTb {b : Bool} {kk : Bool → Prop} (h : see e x = some (.tuple ds)) (hb : (!ds.isEmpty) = b) (q : kk b) : truK x e kk := ⟨_, h, by show kk (!ds.isEmpty); rw [hb]; exact q⟩
theorem y_isk {f : PyData → Bool} {b : Bool} {kk : Bool → Prop} (h : see e x = some d) (hf : f d = b) (q : kk b) : isiK f x e kk := ⟨_, h, by rw [hf]; exact q⟩
theorem y_isNt (q : ks (.d (.bool true))) : dIsN .none .none ks := q
theorem y_isNotNt (q : ks (.d (.bool false))) : dIsNotN .none .none ks := q
theorem y_isNf (h : isNon d = false) (q : ks (.d (.bool false))) : dIsN d .none ks := by show ks (.d (.bool (isNon d))); rw [h]; exact q
theorem y_isNotNf (h : isNon d = false) (q : ks (.d (.bool true))) : dIsNotN d .none ks := by show ks (.d (.bool (!isNon d))); rw [h]; exact q
theorem y_B (q : da e fun x e1 => ∃ b, x = .d (.bool b) ∧ kb b e1) : dB da e kb := q
theorem y_bool {b : Bool} {P : Bool → Prop} (q : P b) : ∃ c, SV.d (.bool b) = .d (.bool c) ∧ P c := ⟨b, rfl, q⟩
theorem y_isI {i : Int} {P : Int → Prop} (q : P i) : ∃ c, SV.d (.int i) = .d (.int c) ∧ P c := ⟨i, rfl, q⟩
theorem y_isS {z : Str} {P : Str → Prop} (q : P z) : ∃ c, SV.d (.str z) = .d (.str c) ∧ P c := ⟨z, rfl, q⟩
theorem y_isD {P : PyData → Prop} (q : P d) : ∃ c, SV.d d = .d c ∧ P c := ⟨d, rfl, q⟩
theorem y_not (q : dt e fun b e1 => kb (!b) e1) : dNot dt e kb := q
theorem y_and (q : dt e fun b e1 => if b = true then du e1 kb else kb false e1) : dAnd dt du e kb := q
theorem y_or (q : dt e fun b e1 => if b = true then kb true e1 else du e1 kb) : dOr dt du e kb := q
theorem y_notT (q : da e fun x e1 => truK x e1 fun b => k (.d (.bool (!b))) e1) : dNotT da e k := q
theorem y_andT (q : da e fun x e1 => truK x e1 fun b => if b = true then db e1 k else k x e1) : dAndT da db e k := q
theorem y_orT (q : da e fun x e1 => truK x e1 fun b => if b = true then k x e1 else db e1 k) : dOrT da db e k := q
theorem y_if (q : dt e fun b e1 => if b = true then da e1 k else db e1 k) : dIf dt da db e k := q
theorem y_chain (q : da e fun x e1 => db e1 fun y e2 => ∃ a b, see e2 x = some a ∧ see e2 y = some b ∧ ρ a b fun z => ∃ g, z = .d (.bool g) ∧ if g = true then dc e2 fun w e3 => ∃ b' c', see e3 y = some b' ∧ see e3 w = some c' ∧ ρ' b' c' fun z => k z e3 else k (.d (.bool false)) e2) : dChain ρ ρ' da db dc e k := q
theorem y_vnil (q : kvs [] e) : vNil e kvs := q
theorem y_vcons (q : da e fun x e1 => asD x e1 fun d e2 => dr e2 fun ds e3 => kvs (d :: ds) e3) : vCons da dr e kvs := q
theorem y_asd (q : kv d e) : asD (.d d) e kv := q
theorem y_asl (q : kv (.list ds) e) : asD (.own (.lst ds)) e kv := q
theorem y_asal (h : e[i]? = some (.own (.lst ds))) (q : kv (.list ds) (e.set i (.d (.list ds)))) : asD (.al i) e kv := by
  show (match e[i]? with
    | some (.own (.lst ds)) => kv (.list ds) (e.set i (.d (.list ds)))
    | _ => False)
  rw [h]
  exact q
theorem y_tup (q : dr e fun ds e1 => ds.length ≤ sizeLine ∧ k (.d (.tuple ds)) e1) : dTup dr e k := q
theorem y_lst (q : dr e fun ds e1 => ds.length ≤ sizeLine ∧ k (.own (.lst ds)) e1) : dLst dr e k := q
theorem y_len {n : Nat} {P : Prop} (h : Nat.ble n sizeLine = true) (q : P) : n ≤ sizeLine ∧ P := ⟨Nat.le_of_ble_eq_true h, q⟩
theorem y_sl (q : da e fun x e1 => dl e1 fun lo e2 => dh e2 fun hi e3 => ∃ a, see e3 x = some a ∧ dSlR a lo hi fun z => k z e3) : dSl da dl dh e k := q
theorem y_onone (q : ko none e) : oNone e ko := q
theorem y_osome (q : da e fun x e1 => ∃ i, x = .d (.int i) ∧ ko (some i) e1) : oSome da e ko := q
theorem y_slL {lo hi : Option Int} (q : ks (.own (.lst (cutX ds lo hi)))) : dSlR (.list ds) lo hi ks := q
theorem y_slT {lo hi : Option Int} (q : ks (.d (.tuple (cutX ds lo hi)))) : dSlR (.tuple ds) lo hi ks := q
theorem y_slS {z : Str} {lo hi : Option Int} (q : ks (.d (.str (cutS z lo hi)))) : dSlR (.str z) lo hi ks := q
theorem y_rev (q : da e fun x e1 => ∃ a, see e1 x = some a ∧ match a with
  | .list ds => k (.own (.lst ds.reverse)) e1
  | _ => False) : dRev da e k := q
theorem y_anil (q : ka [] e) : aNil e ka := q
theorem y_acons {dr : DA} (q : da e fun x e1 => dr e1 fun xs e2 => ka (x :: xs) e2) : aCons da dr e ka := q
theorem y_cb {ρ : DRs} (q : aa e fun xs e1 => ∃ ds, seeAll e1 xs = some ds ∧ ρ ds fun z => k z e1) : dCB ρ aa e k := q
theorem y_seeAll {xs : List SV} {P : List PyData → Prop} (h : seeAll e xs = some ds) (q : P ds) : ∃ ds, seeAll e xs = some ds ∧ P ds := ⟨ds, h, q⟩
theorem y_len1 {n : Nat} (h : lenD d = some n) (q : ks (.d (.int n))) : dLen [d] ks := ⟨n, h, q⟩
theorem y_all {bs : List Bool} (h : es = bs.map PyData.bool) (q : ks (.d (.bool (bs.all id)))) : dAll [.list es] ks := ⟨bs, h, q⟩
theorem y_any {bs : List Bool} (h : es = bs.map PyData.bool) (q : ks (.d (.bool (bs.any id)))) : dAny [.list es] ks := ⟨bs, h, q⟩
theorem y_abs {i : Int} (q : ks (.d (.int (i.natAbs : Int)))) : dAbs [.int i] ks := q
theorem y_int1 {i : Int} (q : ks (.d (.int i))) : dInt1 [.int i] ks := q
theorem y_int1b {b : Bool} (q : ks (.d (.int (if b then 1 else 0)))) : dInt1 [.bool b] ks := q
theorem y_listOf (q : ks (.own (.lst ds))) : dListOf [.list ds] ks := q
theorem y_listOfT (q : ks (.own (.lst ds))) : dListOf [.tuple ds] ks := q
theorem y_tupleOf (q : ks (.d (.tuple ds))) : dTupleOf [.list ds] ks := q
theorem y_tupleOfT (q : ks (.d (.tuple ds))) : dTupleOf [.tuple ds] ks := q
theorem y_max2 {i j : Int} (q : ks (.d (.int (max i j)))) : dMax2 [.int i, .int j] ks := q
theorem y_min2 {i j : Int} (q : ks (.d (.int (min i j)))) : dMin2 [.int i, .int j] ks := q
theorem y_isi {f : PyData → Bool} (q : da e fun x e1 => isiK f x e1 fun b => k (.d (.bool b)) e1) : dIsi f da e k := q
theorem y_m1 {ρ : DM1} (q : da e fun x e1 => ∃ z, x = .d (.str z) ∧ db e1 fun y e2 => ∃ b, see e2 y = some b ∧ ρ z b fun s => k s e2) : dM1 ρ da db e k := q
theorem y_startswith {z w : Str} (q : ks (.d (.bool (Txt.startswith z w)))) : dStartswith z (.str w) ks := q
theorem y_split {z w : Str} {s : Nat} (hy : tl w = [s]) (hs : s < 256) (hl : z.length + 2 ≤ sizeLine) (q : ks (.own (.lst ((Txt.split z w).map .str)))) : dSplit z (.str w) ks := ⟨w, s, rfl, hy, hs, hl, q⟩
theorem y_partition {z w : Str} (h : (w.length == 0) = false) (q : ks (.d (.tuple [.str (Txt.partition z w).1, .str (Txt.partition z w).2.1, .str (Txt.partition z w).2.2]))) : dPartition z (.str w) ks := ⟨w, rfl, h, q⟩
theorem y_joinL {z : Str} {ys : List Str} (h : (ys.map (·.length)).sum + ys.length * z.length ≤ 16777216) (q : ks (.d (.str (Txt.join z ys)))) : dJoin z (.list (ys.map .str)) ks := ⟨ys, .inl rfl, h, q⟩
theorem y_joinE {z : Str} {ys : List Str} (e : ds = ys.map PyData.str) (h : (ys.map (·.length)).sum + ys.length * z.length ≤ 16777216) (q : ks (.d (.str (Txt.join z ys)))) : dJoin z (.list ds) ks := ⟨ys, .inl (by rw [e]), h, q⟩
theorem y_find3 (q : da e fun x e1 => ∃ z, x = .d (.str z) ∧ db e1 fun y e2 => dc e2 fun w e3 => ∃ s i, y = .d (.str s) ∧ w = .d (.int i) ∧ k (.d (.int (Txt.find3 z s i))) e3) : dFind3 da db dc e k := q
theorem y_isSI {z : Str} {i : Int} {P : Str → Int → Prop} (q : P z i) : ∃ s j, SV.d (.str z) = .d (.str s) ∧ SV.d (.int i) = .d (.int j) ∧ P s j := ⟨z, i, rfl, rfl, q⟩
theorem y_getW {kvs : List (Str × PyData)} (q : da e fun x e1 => db e1 fun y e2 => ∃ z d, x = .d (.str z) ∧ y = .d d ∧ k (.d (getW kvs z d)) e2) : dGetW kvs da db e k := q
theorem y_isSD {z : Str} {P : Str → PyData → Prop} (q : P z d) : ∃ s c, SV.d (.str z) = .d (.str s) ∧ SV.d d = .d c ∧ P s c := ⟨z, d, rfl, rfl, q⟩
theorem y_append (h : isLst e j) (q : da e fun x e1 => asD x e1 fun d e2 => ∃ ds, conS e2 j = some (.lst ds) ∧ ds.length < sizeLine ∧ k (.d .none) (putL e2 j (ds ++ [d]))) : dAppend j da e k := ⟨h, q⟩
theorem y_isLst (h : conS e j = some (.lst ds)) : isLst e j := ⟨ds, h⟩
theorem y_con {P : List PyData → Prop} (h : conS e j = some (.lst ds)) (q : P ds) : ∃ ds, conS e j = some (.lst ds) ∧ P ds := ⟨ds, h, q⟩
theorem y_extend (h : isLst e j) (q : da e fun x e1 => ∃ ds es, see e1 x = some (.list es) ∧ conS e1 j = some (.lst ds) ∧ ds.length + es.length ≤ sizeLine ∧ k (.d .none) (putL e1 j (ds ++ es))) : dExtend j da e k := ⟨h, q⟩
theorem y_ext {P : List PyData → List PyData → Prop} (h1 : see e x = some (.list es)) (h2 : conS e j = some (.lst ds)) (q : P ds es) : ∃ ds es, see e x = some (.list es) ∧ conS e j = some (.lst ds) ∧ P ds es := ⟨ds, es, h1, h2, q⟩
theorem y_reverse (h : conS e j = some (.lst ds)) (q : k (.d .none) (putL e j ds.reverse)) : dReverse j e k := ⟨ds, h, q⟩
theorem y_pop (h : conS e j = some (.lst ds)) (h2 : ds[ds.length - 1]? = some d) (q : k (.d d) (putL e j ds.dropLast)) : dPop j e k := ⟨ds, d, h, h2, q⟩
theorem y_popAt (h : isLst e j) (q : da e fun x e1 => ∃ ds d n m, x = .d (.int n) ∧ conS e1 j = some (.lst ds) ∧ -(2 ^ 63) ≤ n ∧ n < 2 ^ 63 ∧ seqIndex? n ds.length = some m ∧ ds[m]? = some d ∧ k (.d d) (putL e1 j (ds.eraseIdx m))) : dPopAt j da e k := ⟨h, q⟩
theorem y_argA (q : da e fun x e1 => argK x e1 k) : argA da e k := q
theorem y_argO (q : da e fun x e1 => argOK x e1 k) : argO da e k := q
theorem y_argN (q : da e fun x e1 => noAl x e1 k) : argN da e k := q
theorem y_nd (q : k (.d d) e) : noAl (.d d) e k := q
theorem y_nv (q : k (.v w) e) : noAl (.v w) e k := q
theorem y_no (q : k (.own o) e) : noAl (.own o) e k := q
theorem y_nal (q : asD (.al j) e fun d e' => k (.d d) e') : noAl (.al j) e k := q
theorem y_ad (q : k (.d d) e) : argK (.d d) e k := q
theorem y_av (q : k (.v w) e) : argK (.v w) e k := q
theorem y_al (q : k (.d (.list ds)) e) : argK (.own (.lst ds)) e k := q
theorem y_ab {n : Nat} (q : k (.own (.box n)) e) : argK (.own (.box n)) e k := q
theorem y_aal (h : e[i]? = some (.own (.lst ds))) (q : k (.d (.list ds)) (e.set i (.d (.list ds)))) : argK (.al i) e k := by
  show (match e[i]? with
    | some (.own (.lst ds)) => k (.d (.list ds)) (e.set i (.d (.list ds)))
    | some (.d d) => k (.d d) e
    | some (.own c) => k (.al i) e
    | some (.par c) => k (.al i) e
    | _ => False)
  rw [h]
  exact q
theorem y_aab {n : Nat} (h : e[i]? = some (.own (.box n))) (q : k (.al i) e) : argK (.al i) e k := by
  show (match e[i]? with
    | some (.own (.lst ds)) => k (.d (.list ds)) (e.set i (.d (.list ds)))
    | some (.d d) => k (.d d) e
    | some (.own c) => k (.al i) e
    | some (.par c) => k (.al i) e
    | _ => False)
  rw [h]
  exact q
theorem y_aap (h : e[i]? = some (.par o)) (q : k (.al i) e) : argK (.al i) e k := by
  show (match e[i]? with
    | some (.own (.lst ds)) => k (.d (.list ds)) (e.set i (.d (.list ds)))
    | some (.d d) => k (.d d) e
    | some (.own c) => k (.al i) e
    | some (.par c) => k (.al i) e
    | _ => False)
  rw [h]
  exact q
theorem y_ao (q : k (.al i) e) : argOK (.al i) e k := q
theorem y_aoo (q : k (.own o) e) : argOK (.own o) e k := q
theorem y_call {sp : DSp} (q : aa e fun xs e1 => ∃ zs, parsOf e1 xs = some zs ∧ (alsOf xs).Nodup ∧ sp zs fun r ys => k r (backs e1 xs ys)) : dCall sp aa e k := q
theorem y_pars {xs zs : List SV} {P : List SV → Prop} (h : parsOf e xs = some zs) (nd : (alsOf xs).Nodup) (q : P zs) : ∃ zs, parsOf e xs = some zs ∧ (alsOf xs).Nodup ∧ P zs := ⟨zs, h, nd, q⟩
theorem y_callB {sp : DSp} (q : aa e fun xs e1 => ∃ zs, parsB e1 xs = some zs ∧ sp zs fun r ys => ∃ d, r = .d d ∧ flatD d = true ∧ k (.d d) e1) : dCallB sp aa e k := q
theorem y_parsB {xs zs : List SV} {P : List SV → Prop} (h : parsB e xs = some zs) (q : P zs) : ∃ zs, parsB e xs = some zs ∧ P zs := ⟨zs, h, q⟩
theorem y_flat {P : PyData → Prop} (h : flatD d = true) (q : P d) : ∃ c, SV.d d = .d c ∧ flatD c = true ∧ P c := ⟨d, rfl, h, q⟩
theorem y_gd (hn : notPar e i = true) (q : kn (e.set i (.d d))) : gN i (.d d) e kn := ⟨hn, q⟩
theorem y_gv (hn : notPar e i = true) (q : kn (e.set i (.v w))) : gN i (.v w) e kn := ⟨hn, q⟩
theorem y_go (hn : notPar e i = true) (q : kn (e.set i (.own o))) : gN i (.own o) e kn := ⟨hn, q⟩
theorem y_gal (h : e[j]? = some (.own (.lst ds))) (hn : notPar (e.set j (.d (.list ds))) i = true) (q : kn ((e.set j (.d (.list ds))).set i (.d (.list ds)))) : gN i (.al j) e kn := y_nal (k := fun y e' => notPar e' i = true ∧ kn (e'.set i y)) (y_asal h ⟨hn, q⟩)
theorem y_gsnil (q : kn e) : gsNil [] e kn := q
theorem y_gscons (q : dg (.d d) e fun e1 => dgs ds e1 kn) : gsCons dg dgs (d :: ds) e kn := q
theorem y_gT {n : Nat} (h : ds.length = n) (q : dgs ds e kn) : gT n dgs (.d (.tuple ds)) e kn := ⟨h, q⟩
theorem y_gL {n : Nat} (h1 : see e x = some (.list ds)) (h : ds.length = n) (q : dgs ds e kn) : gL n dgs x e kn := ⟨ds, h1, h, q⟩
theorem y_gStar1 (h : see e x = some (.list (d :: ds))) (n1 : notPar e i = true) (n2 : notPar (e.set i (.d d)) j = true) (q : kn ((e.set i (.d d)).set j (.own (.lst ds)))) : gStar1 i j x e kn := ⟨d, ds, h, n1, n2, q⟩
theorem y_seq (q : d1 { D with nx := fun e1 => d2 D e1 } e) : sSeq d1 d2 D e := q
theorem y_cut (M : Env → Prop) (h : d1 { D with nx := M } e) (q : ∀ e', M e' → d2 D e') : sCut d1 d2 D e := ⟨M, h, q⟩
theorem y_asg (q : da e fun x e1 => dg x e1 D.nx) : sAsg da dg D e := q
theorem y_asg2 {g1 g2 : DG} (q : da e fun x e1 => ∃ d, x = .d d ∧ g1 x e1 fun e2 => g2 x e2 D.nx) : sAsg2 da g1 g2 D e := q
theorem y_ifs (q : dt e fun b e1 => if b = true then d1 D e1 else d2 D e1) : sIf dt d1 d2 D e := q
theorem y_ret (q : da e D.rt) : sRet da D e := q
theorem y_drop (q : da e fun _ e1 => D.nx e1) : sDrop da D e := q
theorem y_next (q : D.nx e) : sNext D e := q
theorem y_break (q : D.bk e) : sBreak D e := q
theorem y_cont (q : D.ct e) : sCont D e := q
theorem y_augI {i : Nat} {f : DR2} (h : e[i]? = some (.d d)) (q : da e fun y e1 => ∃ b, see e1 y = some b ∧ f d b fun z => ∃ d, z = .d d ∧ notPar e1 i = true ∧ D.nx (e1.set i (.d d))) : sAug i da f D e := ⟨d, h, q⟩
theorem y_aI {i j : Int} (q : ks (.d (.int (i + j)))) : dAddSI (.int i) (.int j) ks := q
theorem y_aS {z w : Str} (h : z.length + w.length ≤ sizeLine) (q : ks (.d (.str (z ++ w)))) : dAddSI (.str z) (.str w) ks := ⟨h, q⟩
theorem y_augE {P : PyData → Prop} {b : Prop} (h : b) (q : P d) : ∃ c, SV.d d = .d c ∧ b ∧ P c := ⟨d, rfl, h, q⟩
theorem y_par {i j : Nat} (q : aa e fun xs e1 => ∃ x y, xs = [x, y] ∧ keepable x = true ∧ keepable y = true ∧ notPar e1 i = true ∧ notPar (e1.set i x) j = true ∧ D.nx ((e1.set i x).set j y)) : sPar i j aa D e := q
theorem y_parE {i j : Nat} (k1 : keepable x = true) (k2 : keepable y = true) (n1 : notPar e i = true) (n2 : notPar (e.set i x) j = true) (q : kn ((e.set i x).set j y)) : ∃ x' y', [x, y] = [x', y'] ∧ keepable x' = true ∧ keepable y' = true ∧ notPar e i = true ∧ notPar (e.set i x') j = true ∧ kn ((e.set i x').set j y') := ⟨x, y, rfl, k1, k2, n1, n2, q⟩
theorem y_par3 {i j l : Nat} (q : aa e fun xs e1 => ∃ x y z, xs = [x, y, z] ∧ keepable x = true ∧ keepable y = true ∧ keepable z = true ∧ notPar e1 i = true ∧ notPar (e1.set i x) j = true ∧ notPar ((e1.set i x).set j y) l = true ∧ D.nx (((e1.set i x).set j y).set l z)) : sPar3 i j l aa D e := q
theorem y_par3E {i j l : Nat} {z : SV} (k1 : keepable x = true) (k2 : keepable y = true) (k3 : keepable z = true) (n1 : notPar e i = true) (n2 : notPar (e.set i x) j = true) (n3 : notPar ((e.set i x).set j y) l = true) (q : kn (((e.set i x).set j y).set l z)) : ∃ x' y' z', [x, y, z] = [x', y', z'] ∧ keepable x' = true ∧ keepable y' = true ∧ keepable z' = true ∧ notPar e i = true ∧ notPar (e.set i x') j = true ∧ notPar ((e.set i x').set j y') l = true ∧ kn (((e.set i x').set j y').set l z') := ⟨x, y, z, rfl, k1, k2, k3, n1, n2, n3, q⟩
/-! loops -/
theorem y_sfor (q : di e fun xs e1 => ∃ W : Nat → Env → Prop, W 0 e1 ∧ (∀ (i : Nat) x e2, xs[i]? = some x → W i e2 → dg (.d x) e2 fun e3 => d1 { D with nx := W (i + 1), ct := W (i + 1), bk := D.nx } e3) ∧ ∀ e2, W xs.length e2 → D.nx e2) : sFor di dg d1 D e := q
theorem y_inv {xs : List PyData} (W : Nat → Env → Prop) (h0 : W 0 e) (hs : ∀ (i : Nat) x e2, xs[i]? = some x → W i e2 → dg (.d x) e2 fun e3 => d1 { D with nx := W (i + 1), ct := W (i + 1), bk := D.nx } e3) (hd : ∀ e2, W xs.length e2 → D.nx e2) :
    ∃ W : Nat → Env → Prop, W 0 e ∧ (∀ (i : Nat) x e2, xs[i]? = some x → W i e2 → dg (.d x) e2 fun e3 => d1 { D with nx := W (i + 1), ct := W (i + 1), bk := D.nx } e3) ∧ ∀ e2, W xs.length e2 → D.nx e2 := ⟨W, h0, hs, hd⟩
theorem y_invR {lo : Int} {n : Nat} (W : Nat → Env → Prop) (h0 : W 0 e) (hs : ∀ (i : Nat) e2, i < n → W i e2 → dg (.d (.int (lo + (i : Int)))) e2 fun e3 => d1 { D with nx := W (i + 1), ct := W (i + 1), bk := D.nx } e3) (hd : ∀ e2, W n e2 → D.nx e2) :
    ∃ W : Nat → Env → Prop, W 0 e ∧ (∀ (i : Nat) x e2, (rangeD lo n)[i]? = some x → W i e2 → dg (.d x) e2 fun e3 => d1 { D with nx := W (i + 1), ct := W (i + 1), bk := D.nx } e3) ∧ ∀ e2, W (rangeD lo n).length e2 → D.nx e2 :=
  ⟨W, h0, fun i x e2 hx hw => by obtain ⟨h1, rfl⟩ := rangeD_get hx; exact hs i e2 h1 hw, by rw [rangeD_len]; exact hd⟩
theorem y_iany (q : da e fun x e1 => asD x e1 fun d e2 => ∃ xs, iterD d = some xs ∧ kvs xs e2) : iAny da e kvs := q
theorem y_iter {xs : List PyData} {P : List PyData → Prop} (h : iterD d = some xs) (q : P xs) : ∃ xs, iterD d = some xs ∧ P xs := ⟨xs, h, q⟩
theorem y_r1 (q : da e fun x e1 => ∃ j, x = .d (.int j) ∧ -(2 ^ 62) ≤ j ∧ j < 2 ^ 62 ∧ kvs (rangeD 0 j.toNat) e1) : iR1 da e kvs := q
theorem y_r2 (q : da e fun x e1 => db e1 fun y e2 => ∃ i j, x = .d (.int i) ∧ y = .d (.int j) ∧ (-(2 ^ 62) ≤ i ∧ i < 2 ^ 62 ∧ -(2 ^ 62) ≤ j ∧ j < 2 ^ 62) ∧ kvs (rangeD i (j - i).toNat) e2) : iR2 da db e kvs := q
theorem y_isII {i j : Int} {P : Int → Int → Prop} (q : P i j) : ∃ a b, SV.d (.int i) = .d (.int a) ∧ SV.d (.int j) = .d (.int b) ∧ P a b := ⟨i, j, rfl, rfl, q⟩
theorem y_enum (q : da e fun x e1 => asD x e1 fun d e2 => ∃ ds, d = .list ds ∧ kvs (enumD ds) e2) : iEnumL da e kvs := q
theorem y_isL {P : List PyData → Prop} (q : P ds) : ∃ es, PyData.list ds = .list es ∧ P es := ⟨ds, rfl, q⟩
theorem y_zip (q : da e fun x e1 => asD x e1 fun a e2 => db e2 fun y e3 => asD y e3 fun b e4 => match a, b with
  | .list ds, .list es => kvs (zipD ds es) e4
  | .tuple ds, .tuple es => kvs (zipD ds es) e4
  | _, _ => False) : iZip2 da db e kvs := q
theorem y_lc {vs : List Nat} (q : di e fun xs e1 => ∃ W : Nat → List PyData → Env → Prop, W 0 [] e1 ∧
  (∀ (i : Nat) x acc e2, xs[i]? = some x → W i acc e2 → dg (.d x) (wipeE e2 vs) fun e3 => dt e3 fun b e4 => if b = true then de e4 fun y e5 => asD y e5 fun d e6 => acc.length < sizeLine ∧ W (i + 1) (acc ++ [d]) (mergeE e2 e6 vs) else W (i + 1) acc (mergeE e2 e4 vs)) ∧
  ∀ acc e2, W xs.length acc e2 → k (.own (.lst acc)) e2) : dLc di dg dt de vs e k := q
theorem y_yes (q : kb true e) : dYes e kb := q
theorem y_lcI {xs : List PyData} {vs : List Nat} (W : Nat → List PyData → Env → Prop) (h0 : W 0 [] e)
  (hs : ∀ (i : Nat) x acc e2, xs[i]? = some x → W i acc e2 → dg (.d x) (wipeE e2 vs) fun e3 => dt e3 fun b e4 => if b = true then de e4 fun y e5 => asD y e5 fun d e6 => acc.length < sizeLine ∧ W (i + 1) (acc ++ [d]) (mergeE e2 e6 vs) else W (i + 1) acc (mergeE e2 e4 vs))
  (hd : ∀ acc e2, W xs.length acc e2 → k (.own (.lst acc)) e2) : ∃ W : Nat → List PyData → Env → Prop, W 0 [] e ∧
  (∀ (i : Nat) x acc e2, xs[i]? = some x → W i acc e2 → dg (.d x) (wipeE e2 vs) fun e3 => dt e3 fun b e4 => if b = true then de e4 fun y e5 => asD y e5 fun d e6 => acc.length < sizeLine ∧ W (i + 1) (acc ++ [d]) (mergeE e2 e6 vs) else W (i + 1) acc (mergeE e2 e4 vs)) ∧
  ∀ acc e2, W xs.length acc e2 → k (.own (.lst acc)) e2 := ⟨W, h0, hs, hd⟩
end
theorem depth_strs' : ∀ ys : List Str, PyData.depthAll (ys.map PyData.str) = 0
  | [] => rfl
  | y :: r => by
    have := depth_strs' r
    rw [List.map_cons]
    unfold PyData.depthAll
    rw [this]
    rfl
theorem depth_strs (ys : List Str) : PyData.depth (.list (ys.map PyData.str)) = 1 := by
  unfold PyData.depth
  rw [depth_strs']
theorem inD_strs (x : Str) (ys : List Str) : inD (.str x) (ys.map PyData.str) = decide (x ∈ ys) := by
  unfold inD
  induction ys with
  | nil => rfl
  | cons y r ih =>
    rw [List.map_cons, List.any_cons, ih]
    have e : PyData.eqv (.str y) (.str x) = (y == x) := by unfold PyData.eqv; rfl
    rw [e, Bool.beq_eq_decide_eq]
    by_cases h : x = y
    · subst h; simp
    · have h2 : ¬ y = x := fun z => h z.symm
      simp [h, h2]
def smallD : PyData → Bool
  | .str z => decide (z.length ≤ 100000)
  | _ => true
end DL

/-! plain laws of texts: the first place of a sign, cuts -/
namespace DL
open PySem PySem.Spec PyProof.Rows L2 TL
/-- the first place of c at i or behind -/
def firstAt (c : Nat) (l : List Nat) (i : Nat) : Option Nat := ((l.drop i).findIdx? (· == c)).map (i + ·)
def sub (l : List Nat) (i j : Nat) : List Nat := (l.drop i).take (j - i)
def mkS (l : List Nat) : Str := ⟨l.toArray⟩
theorem tl_mkS (l : List Nat) : tl (mkS l) = l := by simp [mkS, tl]
theorem firstAt_some {c : Nat} {l : List Nat} {i e : Nat} (h : firstAt c l i = some e) : i ≤ e ∧ l[e]? = some c ∧ e < l.length ∧ ∀ j, i ≤ j → j < e → l[j]? ≠ some c := by
  unfold firstAt at h
  obtain ⟨m, hm, rfl⟩ := Option.map_eq_some_iff.mp h
  rw [List.findIdx?_eq_some_iff_getElem] at hm
  obtain ⟨h1, h2, h3⟩ := hm
  rw [List.length_drop] at h1
  have e1 : l[i + m]? = some c := by
    have := eq_of_beq h2
    rw [List.getElem_drop] at this
    rw [List.getElem?_eq_getElem (by omega), this]
  refine ⟨by omega, e1, by omega, fun j hj hl hc => ?_⟩
  have h4 := h3 (j - i) (by omega)
  rw [List.getElem_drop] at h4
  obtain ⟨hh, hv⟩ := List.getElem?_eq_some_iff.mp hc
  have : i + (j - i) = j := by omega
  simp only [this, hv] at h4
  simp at h4
theorem firstAt_none {c : Nat} {l : List Nat} {i : Nat} (h : firstAt c l i = none) : ∀ j, i ≤ j → l[j]? ≠ some c := by
  unfold firstAt at h
  rw [Option.map_eq_none_iff, List.findIdx?_eq_none_iff] at h
  intro j hj hc
  have := h c (List.mem_of_getElem? (i := j - i) (by rw [List.getElem?_drop, show i + (j - i) = j by omega]; exact hc))
  simp at this
theorem firstAt_eq {c : Nat} {l : List Nat} {i e : Nat} (h1 : i ≤ e) (h2 : l[e]? = some c) (h3 : ∀ j, i ≤ j → j < e → l[j]? ≠ some c) : firstAt c l i = some e := by
  cases h : firstAt c l i with
  | none => exact absurd h2 (firstAt_none h e h1)
  | some f =>
    obtain ⟨g1, g2, g3, g4⟩ := firstAt_some h
    congr 1
    rcases Nat.lt_trichotomy f e with z | z | z
    · exact absurd g2 (h3 f g1 z)
    · exact z
    · exact absurd h2 (g4 e h1 z)
theorem sub_split {l : List Nat} {i j k : Nat} (h1 : i ≤ j) (h2 : j ≤ k) : sub l i k = sub l i j ++ sub l j k := by
  unfold sub
  rw [show k - i = (j - i) + (k - j) by omega, List.take_add, List.drop_drop, show i + (j - i) = j by omega]
theorem sub_one {l : List Nat} {i c : Nat} (h : l[i]? = some c) : sub l i (i + 1) = [c] := by
  unfold sub
  rw [show i + 1 - i = 1 by omega]
  obtain ⟨h1, h2⟩ := List.getElem?_eq_some_iff.mp h
  rw [List.drop_eq_getElem_cons h1, h2]
  rfl

theorem sub_len {l : List Nat} {i j : Nat} : (sub l i j).length = min (j - i) (l.length - i) := by
  unfold sub
  rw [List.length_take, List.length_drop]
theorem len_mkS (l : List Nat) : (mkS l).length = l.length := by rw [len_tl, tl_mkS]
theorem mkS_tl (z : Str) : mkS (tl z) = z := ext_tl (tl_mkS _)
theorem mkS_one (c : Nat) : mkS [c] = ⟨#[c]⟩ := rfl
theorem mkS_app (l m : List Nat) : mkS (l ++ m) = mkS l ++ mkS m := ext_tl (by rw [tl_append, tl_mkS, tl_mkS, tl_mkS])
theorem mkS_inj {l m : List Nat} (h : mkS l = mkS m) : l = m := by rw [← tl_mkS l, h, tl_mkS]
theorem cutS_sub (z : Str) (i j : Nat) : cutS z (some (i : Int)) (some (j : Int)) = mkS (sub (tl z) i j) := ext_tl (by rw [tl_mkS, tl_cut_lh]; rfl)
theorem cutS_lo (z : Str) (i : Nat) : cutS z (some (i : Int)) none = mkS ((tl z).drop i) := ext_tl (by rw [tl_mkS, tl_cut_lo])
theorem cutS_hi (z : Str) (i : Nat) : cutS z none (some (i : Int)) = mkS ((tl z).take i) := ext_tl (by rw [tl_mkS, tl_cut_hi])
theorem cutX_lh {α : Type} (xs : List α) (i j : Nat) : cutX xs (some (i : Int)) (some (j : Int)) = (xs.drop i).take (j - i) := by
  unfold cutX
  rw [HT.sIx_nat, HT.sIx_nat, take_drop_min]
theorem cutX_hi {α : Type} (xs : List α) (j : Nat) : cutX xs none (some (j : Int)) = xs.take j := by
  unfold cutX
  rw [HT.sIx_none, HT.sIx_nat, Nat.sub_zero, List.drop_zero]
  have := take_drop_min xs 0 j
  rw [Nat.zero_min, Nat.sub_zero, Nat.sub_zero, List.drop_zero] at this
  exact this
theorem cutX_lo {α : Type} (xs : List α) (i : Nat) : cutX xs (some (i : Int)) none = xs.drop i := by
  unfold cutX
  rw [HT.sIx_none, HT.sIx_nat, List.take_of_length_le (by rw [List.length_drop]; omega)]
  rcases Nat.le_total i xs.length with h | h
  · rw [Nat.min_eq_left h]
  · rw [Nat.min_eq_right h, List.drop_length, List.drop_of_length_le h]
theorem fromIx (n i : Nat) : fromIndex n (i : Int) = i := by
  unfold fromIndex
  rw [if_neg (by omega)]
  omega
/-- z.find(a sign, i) -/
theorem find_one (z : Str) (c i : Nat) : Txt.find3 z ⟨#[c]⟩ (i : Int) = match firstAt c (tl z) i with
    | some e => (e : Int)
    | none => -1 := by
  unfold Txt.find3
  rw [fromIx]
  rcases StrLaws.occ_head_from z ⟨#[c]⟩ i 1 (Nat.le_refl 1) with ⟨h0, hn⟩ | ⟨e, r, h0, h1, h2, h3⟩
  · rw [h0]
    have : firstAt c (tl z) i = none := by
      cases h : firstAt c (tl z) i with
      | none => rfl
      | some e =>
        obtain ⟨g1, g2, g3, g4⟩ := firstAt_some h
        exact absurd ((StrLaws.subAt_one z c e).mpr g2) (hn e g1)
    rw [this]
  · rw [h0]
    have : firstAt c (tl z) i = some e := firstAt_eq h1 ((StrLaws.subAt_one z c e).mp h2) fun j hj hl hc => h3 j hj hl ((StrLaws.subAt_one z c j).mpr hc)
    rw [this]
/-- z.partition(a sign) -/
theorem partition_one (z : Str) (c : Nat) : Txt.partition z ⟨#[c]⟩ = match firstAt c (tl z) 0 with
    | some e => (mkS ((tl z).take e), ⟨#[c]⟩, mkS ((tl z).drop (e + 1)))
    | none => (z, Str.empty, Str.empty) := by
  unfold Txt.partition
  rcases StrLaws.occ_head z ⟨#[c]⟩ 1 (Nat.le_refl 1) with ⟨h0, hn⟩ | ⟨e, r, h0, h2, h3⟩
  · rw [h0]
    have : firstAt c (tl z) 0 = none := by
      cases h : firstAt c (tl z) 0 with
      | none => rfl
      | some e =>
        obtain ⟨g1, g2, g3, g4⟩ := firstAt_some h
        exact absurd ((StrLaws.subAt_one z c e).mpr g2) (hn e)
    rw [this]
  · rw [h0]
    have : firstAt c (tl z) 0 = some e := firstAt_eq (Nat.zero_le _) ((StrLaws.subAt_one z c e).mp h2) fun j hj hl hc => h3 j hl ((StrLaws.subAt_one z c j).mpr hc)
    rw [this]
    have e1 : Builtin.Str.strSub z 0 e = mkS ((tl z).take e) := ext_tl (by rw [tl_strSub, tl_mkS, List.drop_zero, Nat.sub_zero])
    have e2 : Builtin.Str.strSub z (e + (⟨#[c]⟩ : Str).length) z.length = mkS ((tl z).drop (e + 1)) := ext_tl (by rw [tl_strSub_end, tl_mkS]; rfl)
    show (Builtin.Str.strSub z 0 e, (⟨#[c]⟩ : Str), Builtin.Str.strSub z (e + (⟨#[c]⟩ : Str).length) z.length) = _
    rw [e1, e2]
theorem firstAt_drop (c : Nat) (l : List Nat) (i : Nat) : firstAt c l i = (firstAt c (l.drop i) 0).map (i + ·) := by
  unfold firstAt
  rw [List.drop_zero, Option.map_map]
  congr 1
  funext n
  show i + n = i + (0 + n)
  omega
end DL

/-! repr of data; promises of defs that hold where no repr is under way -/
namespace L2
open PySem PySem.Spec PyProof.Rows C8
section
variable {X : Cx}
/-- repr(x), x a list or a tuple that holds data -/
def zRepr (K : PySem.W.Frag) (zs : List V) (H : Hp) (Q : VK) : Prop := ∃ a d, zs = [.ref a] ∧ Dp K H (.ref a) d ∧ PyData.showable d = true ∧ PyData.hasDict d = false ∧ PyData.depth d ≤ 60 ∧ (PyData.shown d).length ≤ sizeLine ∧ Q (.str (PyData.shown d)) H
theorem call_reprG (gd : X.A.guards = some []) (un : X.A.units + 64 < cLine) : CallR X (.builtin "repr") (zRepr X.K) := by
  rintro pins s σ H zs us Q I r ⟨a, d, rfl, hd, h1, h2, h3, h4, q⟩
  obtain ⟨u, e0, ru⟩ := vals1 r
  subst e0
  obtain ⟨as, rd⟩ := Dp.reads I d _ u hd ru
  cases ru
  refine repr_of_reads' rd h1 (fun z => by rw [h2] at z; cases z) gd (by omega) (fun _ _ z => z) (fun h' t tk k => ?_) h4
  exact ⟨.str (PyData.shown d), H, I.kept k, ⟨t, rfl⟩, q⟩
end
/-- a def's promise, wanted only where no repr is under way -/
structure FnG (P : Program) (w : World) (K : PySem.W.Frag) (mg : Str → Option Value) (base : Heap) (k : Nat) (f : Addr) (fd : FuncData) (ps : List Str) (sp : Sp) : Prop where
  ln : ∀ vs H Q E, sp vs H Q E → vs.length = ps.length
  go : ∀ (B : Around) (ot : List Env) (s : Shared) (H : Hp) (ar : Args) (us : List Value) (vs : List V) (Q : VK) (E : XK), B.guards = some [] → Room k B → Env0 P w K mg base B ot s H → BindsTo s fd ar (ps.zip us) → Vals vs us → sp vs H Q E →
    codeAny (model P w) B (.call (.ref f) ar) (CR CX0 ot P w H s Q E) s
theorem FnOk.toG {P : Program} {w : World} {K : PySem.W.Frag} {mg : Str → Option Value} {base : Heap} {k : Nat} {f : Addr} {fd : FuncData} {ps : List Str} {sp : Sp} (F : FnOk P w K mg base CX0 k f fd ps sp) : FnG P w K mg base k f fd ps sp :=
  ⟨F.len, fun B ot s H ar us vs Q E _ => F.run B ot s H ar us vs Q E⟩
theorem FnG.mono {P : Program} {w : World} {K : PySem.W.Frag} {mg : Str → Option Value} {base : Heap} {j k : Nat} {f : Addr} {fd : FuncData} {ps : List Str} {sp : Sp} (F : FnG P w K mg base j f fd ps sp) (h : j ≤ k) : FnG P w K mg base k f fd ps sp :=
  ⟨F.ln, fun B ot s H ar us vs Q E g r => F.go B ot s H ar us vs Q E g (r.mono h)⟩
section
variable {X : Cx} {k : Nat} {f : Addr} {fd : FuncData} {ps : List Str} {sp : Sp} {dvs : List V} {ds : List Value} {E : XK} {x : Str} {p pos : Pos} {e : Expr} {es : List Expr} {t : TA}
theorem pe_callG (F : FnG X.prog X.w X.K X.mg X.base k f fd ps sp) (gd : X.A.guards = some []) (rm : Room k X.A) (gl : Gl X x) (at_ : X.mg x = some (.ref f)) (kp : PySem.W.keepIn X.K (.ref f) = true) (bd : Binds X.K fd ps ds) (dv : Vals dvs ds)
    (aa : PA X (e :: es) t) (nd : (x == ("__debug__" : Str)) = false := by decide) (se : starEach (e :: es) X.env = (false, eval e X.env) :: starEach es X.env := by rfl) (sp0 : (backTo pos (starEach es X.env)).any (·.1) = false := by rfl) :
    PE X (.Call (.Name x p) (e :: es) [] pos) (tCall sp dvs E t) := ⟨fun pins s σ H Q I hq => by
  refine wpAny_Call_Name_kw (ld_glob I gl at_ ?_ nd)
  refine PySem.W.callWith_K (h₀ := X.base) I.ok.mod.kin kp (thn (aa.run pos pins s σ H _ I hq) ?_) se sp0
  rintro us s1 ⟨vs, H1, I1, rv, q⟩
  refine ⟨I1.kIn, ?_⟩
  have rv2 := rv.append dv
  have ll : (us ++ ds).length = ps.length := by rw [← rv2.length, F.ln _ _ _ _ q]
  refine wpAny_call (codeAny_mono (F.go X.A X.stack s1 H1 ⟨us, []⟩ _ _ Q E gd rm I1.env0 (bd s1 us I1.kIn ll) rv2 q) ?_)
  rintro (er | fl) s2 h2
  · exact h2.elim
  · cases fl with
    | ret u => exact I1.after h2
    | _ => exact h2.elim⟩
end
section
variable {P : Program} {K : PySem.W.Frag} {base : Heap} {w : World} {mg : Str → Option Value}
theorem deeper_guards {B : Around} {ev : Env} (h : B.guards = some []) : (B.deeper ev).guards = some [] := h
/-- a def by its body, where no repr is under way -/
theorem fnG {x qual : Str} {st : Stmt} {f : Addr} {fd : FuncData} {N ps : List Str} {k : Nat} {sp : Sp} (F : Fun K x qual st f fd) (S : FnScope N ps (defScope st)) (ln : ∀ vs H Q E, sp vs H Q E → vs.length = ps.length)
    (body : ∀ (cdv : Value) (B : Around) (ot : List Env) (s : Shared) (H : Hp) (vs : List V) (Q : VK) (E : XK), B.guards = some [] → Room k (B.deeper (envOfC qual (defScope st) s.heap.objs.size f cdv)) → sp vs H Q E →
      ∃ t, PSs (cxOf CX0 P w K mg base N qual (defScope st) f cdv B ot s H E).nox (defBody st) t ∧ t { nx := fun _ H' => Q .non H', rt := Q } (start N vs) H) : FnG P w K mg base (k + 1) f fd ps sp := by
  obtain ⟨c1, c2, c3, c4, c5, c6, cdv, c7, c8, rfl, lk, cc⟩ := F.ex
  refine ⟨ln, fun B ot s H ar us vs Q E gd rm v0 bd rv q => ?_⟩
  have kin : K.In s.heap := v0.mod.kin.keeps fun b o z => (v0.bs b o z).1
  have free := v0.mod.nolimit.keeps fun b o z => (v0.bs b o z).1
  refine codeAny_call_function rm.depth (kin _ _ lk) rfl S.co S.gen rfl (PySem.W.codeRec_of kin cc) (bd _ _ _ _ ?_)
  refine wpAny_newFunctionEnv_cells S.kind (fun y hy => ?_) fun ev he s1 ic => ?_
  · obtain ⟨n, v⟩ := y
    exact (S.par n (List.of_mem_zip hy).1).imp id fun c => ⟨c, PySem.W.cellsFrom_some _ _ _ (.inl c)⟩
  cases he
  refine ⟨free.keeps ic.toInCall.keep, codeAny_func ?_⟩
  obtain ⟨t, ht, ht2⟩ := body cdv B ot s H vs Q E gd (rm.deeper _) q
  have I0 := inv_start (CX := CX0) (P := P) (w := w) (E := E) S rm.hd v0 (ln _ _ _ _ q) rv ic
  refine wpAny_mono (ht.nox.run [] s1 (start N vs) H _ I0 ht2) ?_ fun e s' z => z
  rintro fl s' z
  cases fl with
  | ret u =>
    obtain ⟨v, σ', H', J, r1, z⟩ := z
    exact ⟨v, H', J.os, J.bare, J.base, J.hok, r1, z⟩
  | next =>
    obtain ⟨σ', H', J, z⟩ := z
    exact ⟨.non, H', J.os, J.bare, J.base, J.hok, rfl, z⟩
  | brk => exact z.elim fun _ z => z.elim fun _ z => z.2.elim
  | cont => exact z.elim fun _ z => z.elim fun _ z => z.2.elim
end
/-- the law's call, by such a promise -/
theorem lawG {P : Program} {w : World} {K : PySem.W.Frag} {mg mb : Str → Option Value} {k : Nat} {fa a : Addr} {fd : FuncData} {x : Str} {sp : Sp} {s1 : Shared} {vs : List Value} {ns : List Int}
    (kx : K.In s1.heap) (n1 : s1.heap.Ns mainGlobals mg) (n2 : s1.heap.Ns builtinsNs mb) (n3 : ∀ x : Str, x ≠ "__name__" → mb x = bootBuiltins x) (nl : s1.heap.NoLimit) (g0 : s1.gens = #[])
    (ga : s1.heap.get? a = some { cls := .type "list", data := .seq vs.toArray }) (ia : IntsAre vs ns) (ll : ns.length ≤ sizeLine) (rm : Room k callerA)
    (F : ∀ base : Heap, K.In base → base.Ns mainGlobals mg → FnG P w K mg base k fa fd [x] sp) (bd : ∀ (s : Shared) (u : Value), BindsTo s fd ⟨[u], []⟩ [(x, u)])
    (hs : ∀ H : Hp, Only H → SqL K H a (ns.map V.int) → sp [.ref a] H (fun v _ => v = .bl true) fun _ _ _ => False) :
    codeAny (model P w) callerA (.call (.ref fa) ⟨[.ref a], []⟩) (fun r s' => r = .ok (.ret (.bool true)) ∧ OldK s1.heap s'.heap ∧ s'.os = s1.os ∧ AllBare s'.gens) s1 := by
  have lv := ia.length
  -- at most the script is tracked
  have run : ∀ H : Hp, (∀ b, H b = none ∨ (b = a ∧ H b = some (.frz { cls := .type "list", data := .seq vs.toArray } (.lst (ns.map V.int))) ∧ K.lookup a = none)) → SqL K H a (ns.map V.int) → HOk P w H s1.heap →
      codeAny (model P w) callerA (.call (.ref fa) ⟨[.ref a], []⟩) (fun r s' => r = .ok (.ret (.bool true)) ∧ OldK s1.heap s'.heap ∧ s'.os = s1.os ∧ AllBare s'.gens) s1 := by
    intro H oh sq ok
    have only : Only H := fun b => (oh b).imp id fun z => ⟨_, _, z.2.1⟩
    have dic : ∀ {b : Addr} {o : Obj} {es : Array DictEntry} {ep : Nat}, s1.heap.get? b = some o → o.data = .dict es ep → H b = none := by
      intro b o es ep g1 g2
      rcases oh b with z | ⟨rfl, _, _⟩
      · exact z
      · rw [ga] at g1
        cases g1
        cases g2
    have nss : ∀ {b : Addr} {m : Str → Option Value}, s1.heap.Ns b m → (hidT s1.heap H).Ns b m := by
      rintro b m ⟨o, es, ep, g1, g2, g3⟩
      exact ⟨o, es, ep, hidT_get g1 (dic g1 g2), g2, g3⟩
    have kh : K.In (hidT s1.heap H) := by
      intro b o lk
      refine hidT_get (kx b o lk) ?_
      rcases oh b with z | ⟨rfl, _, z⟩
      · exact z
      · rw [z] at lk
        cases lk
    have md : Mod K mg (hidT s1.heap H) := by
      obtain ⟨mc, l1, l2⟩ := nl
      exact ⟨kh, nss n1, ⟨mb, nss n2, n3⟩, mc, nss l1, l2⟩
    have v0 : Env0 P w K mg (hidT s1.heap H) callerA [] s1 H := { frames := rfl, mod := md, bs := fun b o z => of_hidT z, bsz := Nat.le_of_eq (hidT_size _ _), funs := trivial, frf := (fun b z => absurd (show b ∈ ([] : List Addr) from z) (by simp)), hok := ok, bare := .of_eq g0 }
    have run1 := (F _ kh (nss n1)).go callerA [] s1 H ⟨[.ref a], []⟩ [.ref a] [.ref a] _ _ rfl rm v0 (bd s1 _) (.cons rfl .nil) (hs H only sq)
    refine codeAny_mono run1 ?_
    rintro (er | fl) s2 z
    · exact z.elim
    · cases fl with
      | ret u =>
        obtain ⟨v, H2, o2, b2, un, ok2, rv, qv⟩ := z
        have qv : v = .bl true := qv
        subst qv
        cases rv
        refine ⟨rfl, OldK.of_keep ?_, o2, b2⟩
        intro b o gb
        rcases oh b with z | ⟨rfl, z, _⟩
        · exact un.keep b o gb z (fun z => absurd (show b ∈ ([] : List Addr) from z) (by simp)) (by simp)
        · have z2 := un.frzs b _ _ z
          have e1 := (ok b _ z).1
          have e2 := (ok2 b _ z2).1
          rw [gb] at e1
          cases e1
          exact e2
      | _ => exact z.elim
  cases hk : K.lookup a with
  | some o =>
    have g1 := kx a o hk
    rw [ga] at g1
    cases g1
    exact run (fun _ => none) (fun _ => .inl rfl) (.inr ⟨_, vs.toArray, _, hk, rfl, rfl, rfl, by rw [List.size_toArray, lv]; exact ll, by simpa using vals_ints ia⟩) (fun b u z => nomatch z)
  | none =>
    refine run (fun b => if b = a then some (.frz { cls := .type "list", data := .seq vs.toArray } (.lst (ns.map V.int))) else none) (fun b => ?_) (.inl (.inr ⟨_, if_pos rfl⟩)) ?_
    · by_cases e : b = a
      · exact .inr ⟨e, if_pos e, hk⟩
      · exact .inl (if_neg e)
    · intro b u z
      by_cases e : b = a
      · subst e
        cases (if_pos rfl).symm.trans z
        exact ⟨ga, by rw [List.length_map]; exact ll, vs, _, vals_ints ia, ga⟩
      · cases (if_neg e).symm.trans z
theorem walk_ofG {l : PySem.W.OpenLaw} {n k : Nat} {q : Program} {loose : List Str} {XP : (Str → Option Value) → Heap → Prop} {YP : World → Heap → Prop} {d : DefRec} {K : Params → PySem.W.Frag} {sp : World → Sp} {x : Str}
    (hn : l.most = some n) (hn2 : n ≤ sizeLine) (df : d.params.defaults = []) (rm : Room k callerA) (hY : ∀ (w : World) (h : Heap), YP w h → (K w.params).In h)
    (F : ∀ (w : World) (mg : Str → Option Value) (fa : Addr) (h : Heap), (K w.params).In h → h.Ns mainGlobals mg → mg d.name = some (.ref fa) →
      ∃ fd : FuncData, (∀ (s : Shared) (u : Value), BindsTo s fd ⟨[u], []⟩ [(x, u)]) ∧ ∀ base : Heap, (K w.params).In base → base.Ns mainGlobals mg → FnG l.prog w (K w.params) mg base k fa fd [x] (sp w))
    (hs : ∀ (w : World) (H : Hp) (a : Addr) (ns : List Int), ns.length ≤ n → (∀ z ∈ ns, Builtin.Int.intBits z ≤ 1048576) → Only H → SqL (K w.params) H a (ns.map V.int) → sp w [.ref a] H (fun v _ => v = .bl true) fun _ _ _ => False) :
    PySem.W.WalkO q loose XP YP l.row.toRowW d [] (fun f vs => PySem.call f vs) := by
  refine Att.attach_callB hn df ?_
  intro w s0 s1 mg mb fa o pm cd doc a vs ns G Y _ _ _ at_ ob ia ln bt g0
  obtain ⟨fd, bd, hF⟩ := F w mg fa _ (hY w _ Y) G.T.g at_
  exact lawG (hY w _ Y) G.T.g G.T.b G.T.builtins G.T.nolimit g0 ob ia (Nat.le_trans ln hn2) rm hF bd fun H oh sq => hs w H a ns ln bt oh sq
end L2

/-! the data layer: repr -/
namespace DL
open PySem PySem.Spec PyProof.Rows L2 TL
theorem ok_app2 {x y : Str} (h1 : PyData.strOk x = true) (h2 : PyData.strOk y = true) : PyData.strOk (x ++ y) = true := strOk_iff.mpr fun c hc => by
  rw [tl_append] at hc
  rcases List.mem_append.mp hc with h | h
  · exact strOk_iff.mp h1 c h
  · exact strOk_iff.mp h2 c h
theorem ok_lit (s : String) : PyData.strOk (Str.ofString s) = true := strOk_iff.mpr fun c hc => by
  rw [Str.ofString_eq_toList] at hc
  have hc : c ∈ (s.toList.map Char.toNat).toArray.toList := hc
  rw [List.toList_toArray] at hc
  obtain ⟨ch, _, rfl⟩ := List.mem_map.mp hc
  have := ch.valid
  show ch.val.toNat < 1114112
  rcases this with h | h
  · have h : ch.val.toNat < 0xD800 := h
    omega
  · exact h.2
theorem ok_join (z : Str) (ys : List Str) (hz : PyData.strOk z = true) (h : ∀ y ∈ ys, PyData.strOk y = true) : PyData.strOk (Str.join z ys) = true := strOk_iff.mpr fun c hc => by
  rw [tl_join] at hc
  rcases joinL_mem hc with h1 | ⟨p, hp, h1⟩
  · exact strOk_iff.mp hz c h1
  · obtain ⟨y, hy, rfl⟩ := List.mem_map.mp hp
    exact strOk_iff.mp (h y hy) c h1
theorem digit_small : ∀ (n : Nat), ((Nat.digitChar (n % 16)).toNat) < 1114112 := fun n => by
  have h := (Nat.digitChar (n % 16)).valid
  rcases h with h | h
  · have h : (Nat.digitChar (n % 16)).val.toNat < 0xD800 := h
    show (Nat.digitChar (n % 16)).val.toNat < _
    omega
  · exact h.2
theorem char_small (ch : Char) : ch.toNat < 1114112 := by
  rcases ch.valid with h | h
  · have h : ch.val.toNat < 0xD800 := h
    show ch.val.toNat < _
    omega
  · exact h.2
theorem hex_small {w c d : Nat} (h : d ∈ List.replicate (w - ((Nat.toDigits 16 c).map Char.toNat).length) 48 ++ (Nat.toDigits 16 c).map Char.toNat) : d < 1114112 := by
  rcases List.mem_append.mp h with h | h
  · rw [(List.mem_replicate.mp h).2]; decide
  · obtain ⟨ch, _, rfl⟩ := List.mem_map.mp h
    exact char_small ch
theorem rc_small {q c d : Nat} (hc : c < 1114112) (h : d ∈ Builtin.Str.reprChar q c) : d < 1114112 := by
  unfold Builtin.Str.reprChar at h
  dsimp only at h
  repeat' split at h
  all_goals first
    | (simp only [List.mem_cons, List.not_mem_nil, or_false] at h; rcases h with rfl | rfl <;> omega)
    | (simp only [List.mem_cons, List.not_mem_nil, or_false] at h; omega)
    | (rcases List.mem_append.mp h with h | h
       · simp only [List.mem_cons, List.not_mem_nil, or_false] at h; omega
       · exact hex_small h)
theorem fold_small (q : Nat) : ∀ (l : List Nat) (acc : Array Nat), (∀ c ∈ l, c < 1114112) → (∀ c ∈ acc.toList, c < 1114112) → ∀ c ∈ (l.foldl (fun out c => out ++ (Builtin.Str.reprChar q c).toArray) acc).toList, c < 1114112
  | [], _, _, h2 => h2
  | x :: r, acc, h1, h2 => by
    rw [List.foldl_cons]
    refine fold_small q r _ (fun c hc => h1 c (List.mem_cons_of_mem _ hc)) fun c hc => ?_
    rw [Array.toList_append] at hc
    rcases List.mem_append.mp hc with hc | hc
    · exact h2 c hc
    · exact rc_small (h1 x (by simp)) (by simpa using hc)
theorem ok_repr {x : Str} (h : PyData.strOk x = true) : PyData.strOk (reprText x) = true := strOk_iff.mpr fun c hc => by
  have hq : reprQuote x < 1114112 := by unfold reprQuote; split <;> decide
  unfold reprText at hc
  have hc : c ∈ ((x.cps.foldl (fun out c => out ++ (Builtin.Str.reprChar (reprQuote x) c).toArray) #[reprQuote x]).push (reprQuote x)).toList := hc
  rw [Array.toList_push, ← Array.foldl_toList] at hc
  rcases List.mem_append.mp hc with hc | hc
  · refine fold_small (reprQuote x) x.cps.toList #[reprQuote x] (fun d hd => strOk_iff.mp h d hd) (fun d hd => ?_) c hc
    rw [show d = reprQuote x by simpa using hd]
    exact hq
  · rw [List.mem_singleton.mp hc]
    exact hq
mutual
theorem ok_shown : ∀ d : PyData, wfD d = true → PyData.strOk (PyData.shown d) = true
  | .none, _ => by rw [PyData.shown]; exact ok_lit _
  | .bool b, _ => by rw [PyData.shown]; cases b <;> exact ok_lit _
  | .int i, _ => by rw [PyData.shown]; exact ok_lit _
  | .str x, h => by rw [PyData.shown]; exact ok_repr (wf_str.mp h).2
  | .list xs, h => by
    rw [PyData.shown_list]
    exact ok_app2 (ok_app2 (ok_lit _) (ok_join _ _ (ok_lit _) (ok_shownAll xs (wf_list.mp h).2))) (ok_lit _)
  | .tuple xs, h => by
    rw [PyData.shown_tuple]
    exact ok_app2 (ok_app2 (ok_lit _) (ok_join _ _ (ok_lit _) (ok_shownAll xs (wf_tup.mp h).2))) (by split <;> exact ok_lit _)
  | .dict kvs, h => by cases h
theorem ok_shownAll : ∀ ds : List PyData, wfs ds = true → ∀ y ∈ PyData.shownAll ds, PyData.strOk y = true
  | [], _ => fun y hy => by rw [PyData.shownAll] at hy; cases hy
  | d :: ds, h => fun y hy => by
    rw [PyData.shownAll] at hy
    have h := wfs_iff.mp h
    rcases List.mem_cons.mp hy with rfl | hy
    · exact ok_shown d (h d (by simp))
    · exact ok_shownAll ds (wfs_iff.mpr fun x hx => h x (List.mem_cons_of_mem _ hx)) y hy
end
mutual
theorem noDict : ∀ d : PyData, wfD d = true → PyData.hasDict d = false
  | .none, _ => rfl
  | .bool b, _ => rfl
  | .int i, _ => rfl
  | .str x, _ => rfl
  | .list xs, h => by rw [PyData.hasDict]; exact noDicts xs (wf_list.mp h).2
  | .tuple xs, h => by rw [PyData.hasDict]; exact noDicts xs (wf_tup.mp h).2
  | .dict kvs, h => by cases h
theorem noDicts : ∀ ds : List PyData, wfs ds = true → PyData.hasDictAll ds = false
  | [], _ => rfl
  | d :: ds, h => by
    have h := wfs_iff.mp h
    rw [PyData.hasDictAll, noDict d (h d (by simp)), noDicts ds (wfs_iff.mpr fun x hx => h x (List.mem_cons_of_mem _ hx))]
    rfl
end
/-- repr(x), x a list or a tuple -/
def dRepr : DRs := fun ds k => match ds with
  | [.list xs] => PyData.showable (.list xs) = true ∧ PyData.depth (.list xs) ≤ 60 ∧ (PyData.shown (.list xs)).length ≤ sizeLine ∧ k (.d (.str (PyData.shown (.list xs))))
  | [.tuple xs] => PyData.showable (.tuple xs) = true ∧ PyData.depth (.tuple xs) ≤ 60 ∧ (PyData.shown (.tuple xs)).length ≤ sizeLine ∧ k (.d (.str (PyData.shown (.tuple xs))))
  | _ => False
theorem sr_repr {K : PySem.W.Frag} : SimRs K (zRepr K) dRepr := fun Hs H vs ds k Q sb h1 h3 o => by
  unfold dRepr at h3
  split at h3
  · obtain ⟨a1, a2, a3, h3⟩ := h3
    obtain ⟨v, rfl, h9⟩ := h1.one
    obtain ⟨p, vs, e0, e1, d1, l1⟩ := h9.lst sb
    subst e0
    exact ⟨p, _, rfl, h9.dp sb, a1, noDict _ h9.wf, a2, a3, o.str h3 a3 (ok_shown _ h9.wf)⟩
  · obtain ⟨a1, a2, a3, h3⟩ := h3
    obtain ⟨v, rfl, h9⟩ := h1.one
    obtain ⟨p, vs, e0, _, e1, d1, l1, _⟩ := h9.tup sb
    subst e0
    exact ⟨p, _, rfl, h9.dp sb, a1, noDict _ h9.wf, a2, a3, o.str h3 a3 (ok_shown _ h9.wf)⟩
  · exact h3.elim
theorem y_reprL {xs : List PyData} {ks : SV → Prop} (h1 : PyData.showable (.list xs) = true) (h2 : PyData.depth (.list xs) ≤ 60) (h3 : (PyData.shown (.list xs)).length ≤ sizeLine) (q : ks (.d (.str (PyData.shown (.list xs))))) : dRepr [.list xs] ks := ⟨h1, h2, h3, q⟩
theorem y_reprT {xs : List PyData} {ks : SV → Prop} (h1 : PyData.showable (.tuple xs) = true) (h2 : PyData.depth (.tuple xs) ≤ 60) (h3 : (PyData.shown (.tuple xs)).length ≤ sizeLine) (q : ks (.d (.str (PyData.shown (.tuple xs))))) : dRepr [.tuple xs] ks := ⟨h1, h2, h3, q⟩
end DL

/-! a, *b = a tuple -/
namespace L2
open PySem PySem.Spec PyProof.Rows PySem.W
section
variable {X : Cx} {pos : Pos}
theorem pg_starT {es : List Expr} {k : Nat} {t : TGs} {n i : Nat} (hc : X.calm = true) (h : PGs X es t) (hn : (assignEach es X.env).length = n := by rfl) (hst : (assignEach es X.env).findIdx? (·.1) = some i := by rfl) (hi : i < n := by decide) :
    PG X (.Tuple es k pos) (gStarT X.K n i t) := by
  refine ⟨fun pins s σ H v u Q I r hw => ?_⟩
  obtain ⟨a, xs, e1, hq, hl, hw⟩ := hw
  subst e1
  cases r
  obtain ⟨its, rv, pl, hz⟩ := I.tuple hq
  have hA := I.ok.hd hc
  have hL := pl
  have hlen : its.toArray.size = xs.length := by rw [List.size_toArray]; exact rv.length.symm
  rw [PyProof.Rows.assign_Tuple]
  refine wpAny_bind (wpAny_standAt ?_)
  unfold unpack
  rw [hn, hst]
  refine wpAny_bind (wpAny_holding ?_)
  have hlt : a ≠ s.heap.objs.size := by obtain ⟨o, ho, _⟩ := hL; exact Nat.ne_of_lt (Heap.lt_size ho)
  unfold unpackItems
  refine wpAny_bind ?_
  unfold notIterableAtAll
  refine wpAny_bind (wpAny_specialOf hL.typeIs PySem.F.slot_tuple_iter.lookup ?_)
  refine wpAny_pure ?_
  simp only [Bool.false_eq_true, if_false]
  refine wpAny_bind (wpAny_holding (iter_tuple hL ?_))
  refine wpAny_bind (wpAny_holding (draw_tuple hlt i 0 _ _ ⟨_, Heap.get?_push_size _ rfl, rfl, rfl⟩ (hL.push _) (by omega) fun h₁ hit₁ hs₁ => ?_))
  have hl₁ : IsTup h₁ a its.toArray := (hL.push _).extBut hs₁.extBut hlt
  rw [Nat.zero_add] at hit₁
  have hit₁' := hit₁
  obtain ⟨oi, hoi, _⟩ := hit₁'
  have hl₁' := hl₁
  obtain ⟨ol, hol, _⟩ := hl₁'
  rw [List.drop_zero]
  have hfl : (its.toArray.toList.take i).length = i := by rw [List.length_take, Array.length_toList]; omega
  rw [if_neg (show ¬ ((its.toArray.toList.take i).length < i) by rw [hfl]; omega)]
  refine wpAny_bind (wpAny_holding (PySem.W.kun_collect (s := { s with heap := h₁ }) (T := "tuple_iterator") (.inr (.inr (.inr rfl))) (Walks.tuple (A := X.A.in1) hA s.heap.objs.size a hlt its.toArray) (fun j u st => st.1.typeIs) (k := i) (by omega) ⟨hit₁, hl₁⟩ (Heap.lt_size hoi) (Heap.lt_size hol) (fun h₂ tk hk => ?_) (by rw [hlen]; exact hz)))
  have hrl : (its.toArray.toList.drop i).length = its.toArray.size - i := by rw [List.length_drop, Array.length_toList]
  have hmid : (its.toArray.toList.drop i).length - (n - 1 - i) = its.toArray.size + 1 - n := by rw [hrl]; omega
  show wpAny _ _ (if (its.toArray.toList.drop i).length < n - 1 - i then _ else _) _ _ _
  rw [if_neg (by rw [hrl]; omega)]
  show wpAny _ _ (newList ((its.toArray.toList.drop i).take ((its.toArray.toList.drop i).length - (n - 1 - i))) >>= fun d => pure (its.toArray.toList.take i ++ [d] ++ (its.toArray.toList.drop i).drop ((its.toArray.toList.drop i).length - (n - 1 - i)))) _ _ _
  rw [hmid, hlen]
  have I2 : Inv X pins σ H { s with heap := h₂, toks := tk } := I.kept (t' := tk) fun b o e => hk b o (Nat.ne_of_lt (Heap.lt_size e)) (hs₁.extBut b o (Nat.ne_of_lt (Heap.lt_size e)) (Heap.get?_push_of_some _ e))
  have hp := I2.hok.fresh (Nat.le_refl _)
  have rd : Vals (xs.drop i) (its.drop i) := rv.drop i
  have hm : (its.drop i).take (xs.length + 1 - n) = ((its.toArray.toList.drop i).take (xs.length + 1 - n)) := by simp
  refine wpAny_bind (wpAny_newList (s := { s with heap := h₂, toks := tk }) (wpAny_pure ?_) ?_)
  · have I3 := I2.laid (o := .lst ((xs.drop i).take (xs.length + 1 - n))) (t' := tk) (h' := h₂.push { cls := .type "list", data := .seq ((its.toArray.toList.drop i).take (xs.length + 1 - n)).toArray }) (fun b u q => Heap.get?_push_of_some _ q) (Nat.le_refl _)
      ⟨by rw [List.length_take, List.length_drop]; omega, (its.drop i).take (xs.length + 1 - n), _, rd.take _, by rw [hm]; exact Heap.get?_push_size _ rfl⟩
    refine h.run pins _ σ _ (xs.take i ++ [.ref _] ++ (xs.drop i).drop (xs.length + 1 - n)) _ Q I3 ?_ (hw _ hp)
    have e2 : its.toArray.toList = its := by simp
    rw [e2]
    exact ((rv.take i).append (Paired.cons (show RelV (.ref _) (Value.ref _) from rfl) .nil)).append (rd.drop _)
  · rw [List.length_take, hrl, hlen]
    show min _ _ ≤ sizeLine
    omega
end
end L2
namespace DL
open PySem PySem.Spec PyProof.Rows L2
section
variable {K : PySem.W.Frag}
def gStar1T (i j : Nat) : DG := fun x e k => ∃ d ds, see e x = some (.tuple (d :: ds)) ∧ notPar e i = true ∧ notPar (e.set i (.d d)) j = true ∧ k ((e.set i (.d d)).set j (.own (.lst ds)))
theorem sim_gStar1T (i j : Nat) : SimG K (gStarT K 2 1 (gCons (gName i) (gCons (gName j) gNil))) (gStar1T i j) := fun Hs0 H0 σ0 e0 Hs H σ e v x Q k f r hu c => by
  obtain ⟨d, ds, e1, n1, n2, hk⟩ := hu
  obtain ⟨p, vs, rfl, h0, h1, h2, h3, h4⟩ := (sees_of f.st r e1).tup f.st.sub
  obtain ⟨q1, q2⟩ := h2
  have q2 : (wfD d && wfs ds) = true := q2
  rw [Bool.and_eq_true] at q2
  cases q1 with
  | @cons v0 vs _ _ hv hvs =>
    refine ⟨p, _, rfl, h1, by simp, fun D hD => ?_⟩
    have es : (v0 :: vs).take 1 ++ [V.ref D] ++ ((v0 :: vs).drop 1).drop ((v0 :: vs).length + 1 - 2) = [v0, .ref D] := by simp
    have eu : ((v0 :: vs).drop 1).take ((v0 :: vs).length + 1 - 2) = vs := by simp
    rw [es, eu]
    obtain ⟨gp, sb⟩ := gp_cell (o := .lst vs) f.st.sub hD
    have f1 := f.more gp sb
    have f2 := f1.setD (i := i) (s := .d d) (w := v0) n1 ⟨v0, rfl, hv, q2.1⟩ rfl
    refine ⟨_, _, rfl, _, _, rfl, rfl, ?_⟩
    refine c _ Hs _ _ (f2.setO (i := j) (c := .lst ds) (a := D) n2 (none_sub f.st.sub hD) ⟨vs, upd_same, ⟨hvs, q2.2⟩, by simp at h3; omega⟩ (fresh_back f hD) fun l hl => ?_) (Same.refl _) hk
    rcases held_set hl with ⟨_, _, z⟩ | ⟨_, z⟩
    · cases z
    · obtain ⟨o, ho⟩ := f.st.heldSome z
      rw [hD] at ho
      cases ho
theorem y_gStar1T {e : Env} {x : SV} {d : PyData} {ds : List PyData} {i j : Nat} {kn : Env → Prop} (h : see e x = some (.tuple (d :: ds))) (n1 : notPar e i = true) (n2 : notPar (e.set i (.d d)) j = true) (q : kn ((e.set i (.d d)).set j (.own (.lst ds)))) : gStar1T i j x e kn := ⟨d, ds, h, n1, n2, q⟩
end
end DL

/-! the data layer: what is forgotten (names that nothing reads any more) -/
namespace DL
open PySem PySem.Spec PyProof.Rows L2 TL
section
variable {K : PySem.W.Frag} {ta tb tc te : TE} {tt tu tv : TT} {t u : TS} {ar : TA} {g : TG} {gs : TGs} {wi : TI} {da db dc de : DE} {dt du dw : DT} {d1 d2 : DS} {aa : DA} {dg : DG} {dgs : DGs} {di : DI} {i : Nat}
def forget1 (e : Env) (v : Nat) : Env := match e[v]? with
  | some (.par _) => e
  | _ => e.set v .no
def forgetE : Env → List Nat → Env
  | e, [] => e
  | e, v :: vs => forgetE (forget1 e v) vs
theorem forget1_len (e : Env) (v : Nat) : (forget1 e v).length = e.length := by
  unfold forget1
  split
  · rfl
  · rw [List.length_set]
theorem forget1_at (e : Env) (v i : Nat) : (forget1 e v)[i]? = e[i]? ∨ ((forget1 e v)[i]? = some .no ∧ ∃ s, e[i]? = some s ∧ ∀ o, s ≠ .par o) := by
  unfold forget1
  split
  · exact .inl rfl
  · rename_i hne
    by_cases h : v = i
    · subst h
      by_cases hl : v < e.length
      · refine .inr ⟨List.getElem?_set_self hl, _, List.getElem?_eq_getElem hl, fun o z => hne o ?_⟩
        rw [List.getElem?_eq_getElem hl, z]
      · exact .inl (by rw [List.getElem?_eq_none (by rw [List.length_set]; omega), List.getElem?_eq_none (by omega)])
    · exact .inl (List.getElem?_set_ne h)
theorem held_forget1 {σ : St} {e : Env} {v i : Nat} {a : Addr} (h : Held σ (forget1 e v) i a) : Held σ e i a := by
  obtain ⟨h1, s, h2, h3⟩ := h
  rcases forget1_at e v i with z | ⟨z, _⟩
  · exact ⟨h1, s, by rw [← z]; exact h2, h3⟩
  · rw [z] at h2; cases h2; cases h3
theorem Fw.forget1 {Hs0 H0 Hs H : Hp} {σ0 σ : St} {e0 e : Env} (f : Fw K Hs0 H0 σ0 e0 Hs H σ e) (v : Nat) : Fw K Hs0 H0 σ0 e0 Hs H σ (DL.forget1 e v) where
  st := {
    sub := f.st.sub
    len := by rw [forget1_len]; exact f.st.len
    rel := fun i t ht => by
      rcases forget1_at e v i with z | ⟨z, s, hs, _⟩
      · exact f.st.rel i t (by rw [← z]; exact ht)
      · rw [z] at ht
        cases ht
        obtain ⟨o, h1, _⟩ := f.st.rel i s hs
        exact ⟨o, h1, trivial⟩
    dis := fun i j a h1 h2 => f.st.dis i j a (held_forget1 h1) (held_forget1 h2) }
  go := f.go
  held := fun i a h => f.held i a (held_forget1 h)
  par := fun i o h => by
    obtain ⟨h1, o', h2⟩ := f.par i o h
    refine ⟨h1, ?_⟩
    rcases forget1_at e v i with z | ⟨_, s, hs, hn⟩
    · exact ⟨o', by rw [z]; exact h2⟩
    · rw [h2] at hs
      cases hs
      exact absurd rfl (hn o')
theorem Fw.forget {Hs0 H0 Hs H : Hp} {σ0 σ : St} {e0 e : Env} (f : Fw K Hs0 H0 σ0 e0 Hs H σ e) : ∀ vs : List Nat, Fw K Hs0 H0 σ0 e0 Hs H σ (forgetE e vs)
  | [] => f
  | v :: vs => Fw.forget (f.forget1 v) vs
/-- a statement behind which (in a straight line) the slots vs are forgotten -/
def dWipe (vs : List Nat) (d1 : DS) : DS := fun D e => d1 { D with nx := fun e1 => D.nx (forgetE e1 vs) } e
theorem sim_wipe (vs : List Nat) (h : SimS K t d1) : SimS K t (dWipe vs d1) := fun Hs H σ e D dD s hu S =>
  h Hs H σ e D _ s hu ⟨fun σ' Hs' H' e' f q => S.nx σ' Hs' H' _ (f.forget vs) q, S.rt, S.bk, S.ct⟩
def sCutW (vs : List Nat) (d1 d2 : DS) : DS := sCut (dWipe vs d1) d2
/-- loops at whose head the slots vs are forgotten -/
def sForW (vs : List Nat) (di : DI) (dg : DG) (d1 : DS) : DS := fun D e => di e fun xs e1 => ∃ W : Nat → Env → Prop, W 0 (forgetE e1 vs) ∧
  (∀ (i : Nat) x e2, xs[i]? = some x → W i e2 → dg (.d x) e2 fun e3 => d1 { D with nx := fun e4 => W (i + 1) (forgetE e4 vs), ct := fun e4 => W (i + 1) (forgetE e4 vs), bk := fun e4 => D.nx (forgetE e4 vs) } e3) ∧ ∀ e2, W xs.length e2 → D.nx e2
theorem sim_forW (vs : List Nat) (hi : SimI K wi di) (hg : SimG K g dg) (hb : SimS K t d1) : SimS K (tFor wi g t) (sForW vs di dg d1) := fun Hs H σ e D dD s hu S =>
  hi Hs H σ e _ _ s hu fun J xs Hs1 H1 e1 f1 rj h1 => by
    obtain ⟨W, h0, hs, hd⟩ := h1
    refine ⟨fun i m σ' H' => ∃ Hs' e', Fw K Hs1 H1 σ e1 Hs' H' σ' e' ∧ W i e' ∧ i ≤ xs.length ∧ m = xs.length - i, ⟨_, Hs1, _, (Fw.refl f1.st).forget vs, h0, Nat.zero_le _, rfl⟩, ?_⟩
    rintro i m σ' H' ⟨Hs', e', f, hw, hi, rfl⟩
    obtain ⟨rg, rs⟩ := rj Hs' H' f.go.p f.st.sub
    by_cases hlt : i < xs.length
    · have hx : xs[i]? = some xs[i] := List.getElem?_eq_getElem hlt
      obtain ⟨g1, g2⟩ := rg i _ hx
      refine .inr ⟨g1, fun σ2 H2 => ∃ Hs2 e2, Fw K Hs1 H1 σ e1 Hs2 H2 σ2 e2 ∧ W (i + 1) e2, fun σ2 H2 ⟨Hs2, e2, f2, w2⟩ => ⟨xs.length - (i + 1), by omega, Hs2, e2, f2, w2, hlt, rfl⟩, fun v H2 y => ?_⟩
      obtain ⟨Hs2, gp, sb, dw⟩ := g2 v H2 y
      have f2 := f.more gp sb
      refine hg Hs1 H1 σ e1 Hs2 H2 σ' e' v (.d xs[i]) _ _ f2 dw (hs i _ e' hx hw) fun σ3 Hs3 H3 e3 f3 _ h3 => ?_
      exact hb Hs3 H3 σ3 e3 _ _ f3.st h3 ⟨fun σ4 Hs4 H4 e4 f4 q => ⟨Hs4, _, (f3.trans f4).forget vs, q⟩, fun v x σ4 Hs4 H4 e4 f4 r q => S.rt _ _ _ _ _ _ ((f1.trans f3).trans f4) (r.back ((f1.trans f3).there)) q,
        fun σ4 Hs4 H4 e4 f4 q => S.nx _ _ _ _ (((f1.trans f3).trans f4).forget vs) q, fun σ4 Hs4 H4 e4 f4 q => ⟨Hs4, _, (f3.trans f4).forget vs, q⟩⟩
    · have e : i = xs.length := by omega
      subst e
      exact .inl ⟨rs, S.nx _ _ _ _ (f1.trans f) (hd e' hw)⟩
def sWhileW (vs : List Nat) (dt : DT) (d1 : DS) : DS := fun D e => ∃ W : Nat → Env → Prop, (∃ m, W m (forgetE e vs)) ∧ ∀ m e1, W m e1 → dt e1 fun b e2 => if b = true then d1 { D with nx := fun e3 => ∃ m', m' < m ∧ W m' (forgetE e3 vs), ct := fun e3 => ∃ m', m' < m ∧ W m' (forgetE e3 vs), bk := fun e3 => D.nx (forgetE e3 vs) } e2 else D.nx e2
theorem sim_whileW (vs : List Nat) (ht : SimT K tt dt) (hb : SimS K t d1) : SimS K (tWhile tt t) (sWhileW vs dt d1) := fun Hs H σ e D dD s hu S => by
  obtain ⟨W, ⟨m0, h0⟩, hs⟩ := hu
  refine ⟨fun m σ' H' => ∃ Hs' e', Fw K Hs H σ e Hs' H' σ' e' ∧ W m e', ⟨m0, Hs, _, (Fw.refl s).forget vs, h0⟩, ?_⟩
  rintro m σ' H' ⟨Hs', e', f, hw⟩
  refine ht Hs' H' σ' e' _ _ f.st (hs m e' hw) fun b Hs2 H2 e2 f2 h2 => ?_
  cases b with
  | true =>
    rw [if_pos rfl] at h2 ⊢
    refine ⟨fun σ3 H3 => ∃ Hs3 e3, Fw K Hs H σ e Hs3 H3 σ3 e3 ∧ ∃ m', m' < m ∧ W m' e3, fun σ3 H3 ⟨Hs3, e3, f3, m', h1, h2⟩ => ⟨m', h1, Hs3, e3, f3, h2⟩, ?_⟩
    exact hb Hs2 H2 σ' e2 _ _ f2.st h2 ⟨fun σ4 Hs4 H4 e4 f4 q => ⟨Hs4, _, ((f.trans f2).trans f4).forget vs, q⟩, fun v x σ4 Hs4 H4 e4 f4 r q => S.rt _ _ _ _ _ _ ((f.trans f2).trans f4) (r.back (f.trans f2).there) q,
      fun σ4 Hs4 H4 e4 f4 q => S.nx _ _ _ _ (((f.trans f2).trans f4).forget vs) q, fun σ4 Hs4 H4 e4 f4 q => ⟨Hs4, _, ((f.trans f2).trans f4).forget vs, q⟩⟩
  | false =>
    rw [if_neg Bool.false_ne_true] at h2 ⊢
    exact S.nx _ _ _ _ (f.trans f2) h2
end
section
variable {e e1 : Env} {D : DEnds} {dt : DT} {d1 d2 : DS} {dg : DG} {di : DI} {vs : List Nat}
theorem y_wipe (q : d1 { D with nx := fun e1 => D.nx (forgetE e1 vs) } e) : dWipe vs d1 D e := q
theorem y_cutW (M : Env → Prop) (h : d1 { D with nx := fun e1 => M (forgetE e1 vs) } e) (q : ∀ e', M e' → d2 D e') : sCutW vs d1 d2 D e := ⟨M, h, q⟩
theorem y_forW (q : di e fun xs e1 => ∃ W : Nat → Env → Prop, W 0 (forgetE e1 vs) ∧
  (∀ (i : Nat) x e2, xs[i]? = some x → W i e2 → dg (.d x) e2 fun e3 => d1 { D with nx := fun e4 => W (i + 1) (forgetE e4 vs), ct := fun e4 => W (i + 1) (forgetE e4 vs), bk := fun e4 => D.nx (forgetE e4 vs) } e3) ∧ ∀ e2, W xs.length e2 → D.nx e2) : sForW vs di dg d1 D e := q
end
end DL

/-! the data layer, step by step, environments laid out, ends apart -/
namespace DL
open PySem PySem.Spec PyProof.Rows L2 TL
/-- a continuation at an environment that is to be laid out -/
def atE (e : Env) (k : Env → Prop) : Prop := k e
theorem n_cons {l t t' : Env} {a : SV} (h : l = a :: t) (h2 : t = t') : l = a :: t' := by rw [h, h2]
section
variable {e e1 e' : Env} {k : DK} {x y : SV} {d d' : PyData} {w : V} {i j : Nat} {nx bk ct : Env → Prop} {rt : SV → Env → Prop} {D : DEnds} {da db dc de : DE} {dt du : DT} {d1 d2 : DS} {dg : DG} {dgs : DGs} {di : DI} {aa : DA} {dr : DV} {dl dh : DO} {kb : Bool → Env → Prop} {kn : Env → Prop} {kv : PyData → Env → Prop} {kvs : List PyData → Env → Prop} {ka : List SV → Env → Prop} {ko : Option Int → Env → Prop} {ks : SV → Prop} {ρ ρ' : DR2} {o : Own} {ds es : List PyData} {vs : List Nat}
theorem z_at (h : e = e') (q : kn e') : atE e kn := by rw [h]; exact q
theorem z_gd (hn : notPar e i = true) (q : atE (e.set i (.d d)) kn) : gN i (.d d) e kn := ⟨hn, q⟩
theorem z_gv (hn : notPar e i = true) (q : atE (e.set i (.v w)) kn) : gN i (.v w) e kn := ⟨hn, q⟩
theorem z_go (hn : notPar e i = true) (q : atE (e.set i (.own o)) kn) : gN i (.own o) e kn := ⟨hn, q⟩
theorem z_gal (h : e[j]? = some (.own (.lst ds))) (hn : notPar (e.set j (.d (.list ds))) i = true) (q : atE ((e.set j (.d (.list ds))).set i (.d (.list ds))) kn) : gN i (.al j) e kn := y_gal h hn q
theorem z_asal (h : e[i]? = some (.own (.lst ds))) (q : atE (e.set i (.d (.list ds))) (kv (.list ds))) : asD (.al i) e kv := y_asal h q
theorem z_aal (h : e[i]? = some (.own (.lst ds))) (q : atE (e.set i (.d (.list ds))) (k (.d (.list ds)))) : argK (.al i) e k := y_aal h q
theorem z_append (h : isLst e j) (q : da e fun x e1 => asD x e1 fun d e2 => ∃ ds, conS e2 j = some (.lst ds) ∧ ds.length < sizeLine ∧ atE (putL e2 j (ds ++ [d])) (k (.d .none))) : dAppend j da e k := ⟨h, q⟩
theorem z_extend (h : isLst e j) (q : da e fun x e1 => ∃ ds es, see e1 x = some (.list es) ∧ conS e1 j = some (.lst ds) ∧ ds.length + es.length ≤ sizeLine ∧ atE (putL e1 j (ds ++ es)) (k (.d .none))) : dExtend j da e k := ⟨h, q⟩
theorem z_reverse (h : conS e j = some (.lst ds)) (q : atE (putL e j ds.reverse) (k (.d .none))) : dReverse j e k := ⟨ds, h, q⟩
theorem z_pop (h : conS e j = some (.lst ds)) (h2 : ds[ds.length - 1]? = some d) (q : atE (putL e j ds.dropLast) (k (.d d))) : dPop j e k := ⟨ds, d, h, h2, q⟩
theorem z_popAt (h : isLst e j) (q : da e fun x e1 => ∃ ds d n m, x = .d (.int n) ∧ conS e1 j = some (.lst ds) ∧ -(2 ^ 63) ≤ n ∧ n < 2 ^ 63 ∧ seqIndex? n ds.length = some m ∧ ds[m]? = some d ∧ atE (putL e1 j (ds.eraseIdx m)) (k (.d d))) : dPopAt j da e k := ⟨h, q⟩
theorem z_call {sp : DSp} (q : aa e fun xs e1 => ∃ zs, parsOf e1 xs = some zs ∧ (alsOf xs).Nodup ∧ sp zs fun r ys => atE (backs e1 xs ys) (k r)) : dCall sp aa e k := q
theorem z_gStar1 (h : see e x = some (.list (d :: ds))) (n1 : notPar e i = true) (n2 : notPar (e.set i (.d d)) j = true) (q : atE ((e.set i (.d d)).set j (.own (.lst ds))) kn) : gStar1 i j x e kn := ⟨d, ds, h, n1, n2, q⟩
theorem z_gStar1T (h : see e x = some (.tuple (d :: ds))) (n1 : notPar e i = true) (n2 : notPar (e.set i (.d d)) j = true) (q : atE ((e.set i (.d d)).set j (.own (.lst ds))) kn) : gStar1T i j x e kn := ⟨d, ds, h, n1, n2, q⟩
theorem z_augE {n : Nat} {b : Prop} (h : b) (q : atE (e.set n (.d d)) kn) : ∃ c, SV.d d = .d c ∧ b ∧ kn (e.set n (.d c)) := ⟨d, rfl, h, q⟩
theorem z_parE {i j : Nat} (k1 : keepable x = true) (k2 : keepable y = true) (n1 : notPar e i = true) (n2 : notPar (e.set i x) j = true) (q : atE ((e.set i x).set j y) kn) : ∃ x' y', [x, y] = [x', y'] ∧ keepable x' = true ∧ keepable y' = true ∧ notPar e i = true ∧ notPar (e.set i x') j = true ∧ kn ((e.set i x').set j y') := ⟨x, y, rfl, k1, k2, n1, n2, q⟩
theorem z_par3E {i j l : Nat} {z : SV} (k1 : keepable x = true) (k2 : keepable y = true) (k3 : keepable z = true) (n1 : notPar e i = true) (n2 : notPar (e.set i x) j = true) (n3 : notPar ((e.set i x).set j y) l = true) (q : atE (((e.set i x).set j y).set l z) kn) : ∃ x' y' z', [x, y, z] = [x', y', z'] ∧ keepable x' = true ∧ keepable y' = true ∧ keepable z' = true ∧ notPar e i = true ∧ notPar (e.set i x') j = true ∧ notPar ((e.set i x').set j y') l = true ∧ kn (((e.set i x').set j y').set l z') := ⟨x, y, z, rfl, k1, k2, k3, n1, n2, n3, q⟩
/-! statements, their ends apart -/
theorem z_seq (q : d1 ⟨fun e1 => d2 ⟨nx, rt, bk, ct⟩ e1, rt, bk, ct⟩ e) : sSeq d1 d2 ⟨nx, rt, bk, ct⟩ e := q
theorem z_cut (M : Env → Prop) (h : d1 ⟨M, rt, bk, ct⟩ e) (q : ∀ e', M e' → d2 ⟨nx, rt, bk, ct⟩ e') : sCut d1 d2 ⟨nx, rt, bk, ct⟩ e := ⟨M, h, q⟩
theorem z_cutW (M : Env → Prop) (h : d1 ⟨fun e1 => M (forgetE e1 vs), rt, bk, ct⟩ e) (q : ∀ e', M e' → d2 ⟨nx, rt, bk, ct⟩ e') : sCutW vs d1 d2 ⟨nx, rt, bk, ct⟩ e := ⟨M, h, q⟩
theorem z_wipe (q : d1 ⟨fun e1 => nx (forgetE e1 vs), rt, bk, ct⟩ e) : dWipe vs d1 ⟨nx, rt, bk, ct⟩ e := q
theorem z_asg (q : da e fun x e1 => dg x e1 nx) : sAsg da dg ⟨nx, rt, bk, ct⟩ e := q
theorem z_asg2 {g1 g2 : DG} (q : da e fun x e1 => ∃ d, x = .d d ∧ g1 x e1 fun e2 => g2 x e2 nx) : sAsg2 da g1 g2 ⟨nx, rt, bk, ct⟩ e := q
theorem z_ret (q : da e rt) : sRet da ⟨nx, rt, bk, ct⟩ e := q
theorem z_retN (q : rt (.d .none) e) : sRetN ⟨nx, rt, bk, ct⟩ e := q
theorem z_drop (q : da e fun _ e1 => nx e1) : sDrop da ⟨nx, rt, bk, ct⟩ e := q
theorem z_next (q : nx e) : sNext ⟨nx, rt, bk, ct⟩ e := q
theorem z_break (q : bk e) : sBreak ⟨nx, rt, bk, ct⟩ e := q
theorem z_cont (q : ct e) : sCont ⟨nx, rt, bk, ct⟩ e := q
theorem z_aug {i : Nat} {f : DR2} (h : e[i]? = some (.d d)) (q : da e fun y e1 => ∃ b, see e1 y = some b ∧ f d b fun z => ∃ d, z = .d d ∧ notPar e1 i = true ∧ nx (e1.set i (.d d))) : sAug i da f ⟨nx, rt, bk, ct⟩ e := ⟨d, h, q⟩
theorem z_par {i j : Nat} (q : aa e fun xs e1 => ∃ x y, xs = [x, y] ∧ keepable x = true ∧ keepable y = true ∧ notPar e1 i = true ∧ notPar (e1.set i x) j = true ∧ nx ((e1.set i x).set j y)) : sPar i j aa ⟨nx, rt, bk, ct⟩ e := q
theorem z_par3 {i j l : Nat} (q : aa e fun xs e1 => ∃ x y z, xs = [x, y, z] ∧ keepable x = true ∧ keepable y = true ∧ keepable z = true ∧ notPar e1 i = true ∧ notPar (e1.set i x) j = true ∧ notPar ((e1.set i x).set j y) l = true ∧ nx (((e1.set i x).set j y).set l z)) : sPar3 i j l aa ⟨nx, rt, bk, ct⟩ e := q
theorem z_sfor (q : di e fun xs e1 => ∃ W : Nat → Env → Prop, W 0 e1 ∧ (∀ (i : Nat) x e2, xs[i]? = some x → W i e2 → dg (.d x) e2 fun e3 => d1 ⟨W (i + 1), rt, nx, W (i + 1)⟩ e3) ∧ ∀ e2, W xs.length e2 → nx e2) : sFor di dg d1 ⟨nx, rt, bk, ct⟩ e := q
theorem z_sforW (q : di e fun xs e1 => ∃ W : Nat → Env → Prop, W 0 (forgetE e1 vs) ∧ (∀ (i : Nat) x e2, xs[i]? = some x → W i e2 → dg (.d x) e2 fun e3 => d1 ⟨fun e4 => W (i + 1) (forgetE e4 vs), rt, fun e4 => nx (forgetE e4 vs), fun e4 => W (i + 1) (forgetE e4 vs)⟩ e3) ∧ ∀ e2, W xs.length e2 → nx e2) : sForW vs di dg d1 ⟨nx, rt, bk, ct⟩ e := q
theorem z_while (W : Nat → Env → Prop) (h0 : ∃ m, W m e) (q : ∀ m e1, W m e1 → dt e1 fun b e2 => if b = true then d1 ⟨fun e3 => ∃ m', m' < m ∧ W m' e3, rt, nx, fun e3 => ∃ m', m' < m ∧ W m' e3⟩ e2 else nx e2) : sWhile dt d1 ⟨nx, rt, bk, ct⟩ e := ⟨W, h0, q⟩
theorem z_whileW (W : Nat → Env → Prop) (h0 : ∃ m, W m (forgetE e vs)) (q : ∀ m e1, W m e1 → dt e1 fun b e2 => if b = true then d1 ⟨fun e3 => ∃ m', m' < m ∧ W m' (forgetE e3 vs), rt, fun e3 => nx (forgetE e3 vs), fun e3 => ∃ m', m' < m ∧ W m' (forgetE e3 vs)⟩ e2 else nx e2) : sWhileW vs dt d1 ⟨nx, rt, bk, ct⟩ e := ⟨W, h0, q⟩
theorem z_lc (q : di e fun xs e1 => ∃ W : Nat → List PyData → Env → Prop, W 0 [] e1 ∧
  (∀ (i : Nat) x acc e2, xs[i]? = some x → W i acc e2 → atE (wipeE e2 vs) fun e2' => dg (.d x) e2' fun e3 => dt e3 fun b e4 => if b = true then de e4 fun y e5 => asD y e5 fun d e6 => acc.length < sizeLine ∧ W (i + 1) (acc ++ [d]) (mergeE e2 e6 vs) else W (i + 1) acc (mergeE e2 e4 vs)) ∧
  ∀ acc e2, W xs.length acc e2 → k (.own (.lst acc)) e2) : dLc di dg dt de vs e k := q
end
end DL

/-! more rules: enumerate(a tuple, start=k) -/
namespace L2
open PySem PySem.Spec PyProof.Rows
/-- the tuple at a, each item in a new pair, counted from k -/
def ItS (K : PySem.W.Frag) (a : Addr) (k0 : Int) : It :=
  ⟨fun i H => ∃ (xs : List V) (x : V), SqT K H a xs ∧ xs[i]? = some x, fun i H v H' => ∃ T x, v = .ref T ∧ H T = none ∧ H' = upd H T (.tup [.int (k0 + (i : Int)), x]) ∧ ∀ xs, SqT K H a xs → xs[i]? = some x, fun i H => ∃ xs : List V, SqT K H a xs ∧ xs.length ≤ i⟩
theorem turn_enumS {P : Program} {w : World} {K : PySem.W.Frag} {elts : List Expr} {kk : Nat} {tpos : Pos} (a e it : Addr) (k0 : Int) :
    Turn P w K (.Tuple elts kk tpos) (ItS K a k0) [e, it] e (fun i h => (∃ old, IsEnum h e it (k0 + (i : Int)) old) ∧ h.IsTupleIter it a i ∧ e ≠ it ∧ a ≠ it ∧ e ≠ a) where
  mem := by simp
  obj := fun i h st b hb => by
    obtain ⟨⟨old, he⟩, ⟨o, ho, hc, hd⟩, _⟩ := st
    have e' : b = e ∨ b = it := by simpa using hb
    rcases e' with z | z
    · rw [z]; exact ⟨_, he, fun v q => nomatch q⟩
    · rw [z]; exact ⟨o, ho, fun v q => by rw [hd] at q; cases q⟩
  keep := fun i h h' st k => let ⟨⟨old, he⟩, hi, hne⟩ := st; ⟨⟨old, k e (by simp) _ he⟩, hi.at fun o q => k it (by simp) o q, hne⟩
  item := by
    intro X hP hw hK hc i pins s σ H E I hf st hg
    subst hP hw hK
    obtain ⟨⟨old, he⟩, hit, hne, hai, hea⟩ := st
    obtain ⟨xs, x, hq, hx⟩ := hg
    obtain ⟨its, rv, p, hz⟩ := I.tuple hq
    obtain ⟨u, hu, ru⟩ := rv.get hx
    have hel : e < s.heap.objs.size := Heap.lt_size he
    have hil : it < s.heap.objs.size := by obtain ⟨_, q, _⟩ := hit; exact Heap.lt_size q
    have hlt : i < its.toArray.size := by
      have := (List.getElem?_eq_some_iff.mp hu).1
      simpa using this
    refine wpAny_pyNext_enum_itemC (Draws.tuple (A := X.A.in1) (I.ok.hd hc) it a hai its.toArray) he ⟨hit, p⟩ hlt hne (by simp [hne, hea]) fun x' h' tk hP ho hs' hT hsz hk => ?_
    have exu : x' = u := by
      have h1 : its.toArray[i]? = some x' := hP
      have h2 : its.toArray[i]? = some u := by simpa using hu
      rw [h1] at h2
      exact Option.some.inj h2
    subst exu
    refine ⟨_, rfl, wpAny_letOwnedTupleGo_enum (s := { s with heap := h', toks := tk + 1 }) ho fun h'' he' sb => ?_⟩
    have hT2 : h''.get? s.heap.objs.size = some { cls := .type "tuple", data := .seq #[.int (k0 + (i : Int)) tk, x'] } := (sb.2 _ (Nat.ne_of_gt hel)).trans hT
    have new : ObjOk X.prog X.w (upd H s.heap.objs.size (.tup [.int (k0 + (i : Int)), x])) h'' s.heap.objs.size (.tup [.int (k0 + (i : Int)), x]) :=
      ⟨by show 2 ≤ sizeLine; decide, [.int (k0 + (i : Int)) tk, x'], .cons ⟨_, rfl⟩ (.cons ru .nil), ⟨_, hT2, rfl, _, rfl⟩⟩
    have I1 : Inv X pins σ (upd H s.heap.objs.size (.tup [.int (k0 + (i : Int)), x])) { s with heap := h'', toks := tk + 1 } :=
      I.turnedNew (ch := [e, it]) (fun b ob hb q => (sb.2 b (fun z => hb (by simp [z]))).trans (hk b ob (fun z => hb (by simp [z])) (fun z => hb (by simp [z])) q)) hf (Nat.le_refl _) new
    refine ⟨.ref s.heap.objs.size, _, I1, rfl, ⟨_, x, rfl, I.hok.fresh (Nat.le_refl _), rfl, fun ys hy => by rw [I.tuple_inj hy hq]; exact hx⟩, ⟨⟨x', ?_⟩, hs'.1.at fun o q => (sb.2 it (Ne.symm hne)).trans q, hne, hai, hea⟩, fun b hb => ?_⟩
    · have e1 : k0 + ((i + 1 : Nat) : Int) = k0 + (i : Int) + 1 := by omega
      rw [e1]; exact he'
    · have hb' : b < s.heap.objs.size := by
        have e' : b = e ∨ b = it := by simpa using hb
        rcases e' with z | z
        · rw [z]; exact hel
        · rw [z]; exact hil
      rw [upd_ne (Nat.ne_of_lt hb')]
      exact (hf b hb).1
  done := by
    intro X hP hw hK hc i pins s σ H E I hf st hg
    subst hP hw hK
    obtain ⟨⟨old, he⟩, hit, hne, hai, hea⟩ := st
    obtain ⟨xs, hq, hx⟩ := hg
    obtain ⟨its, rv, p, hz⟩ := I.tuple hq
    obtain ⟨f0, f1, f2, f3, f4, f5⟩ := hf it (by simp)
    have hl := rv.length
    have hT : s.TypeIs (.ref e) "enumerate" := ⟨_, he, rfl⟩
    unfold pyNext
    refine wpAny_bind (wpAny_attempt (wpAny_callSpecial?_slot (name := Str.ofString "__next__") hT F.slot_enumerate_next
      (wpAny_call_entry F.slot_enumerate_next hT F.entry_enumerate_next ?_ (F.args_enumerate_next_1 _))))
    show wpAny _ _ (field (.ref e) 2 >>= _) _ _ _
    refine wpAny_bind (wpAny_field he rfl (x := .ref it) rfl ?_)
    refine wpAny_bind (wpAny_nextOf_tuple_end (A := X.A.in1) (I.ok.hd hc) hit (show s.heap.IsTuple a its.toArray from p) (by simp; omega) fun h' x he' hx' => ?_)
    obtain ⟨o, ho, hc⟩ := hx'
    refine wpAny_bind (wpAny_isInstance (T := "StopIteration") (b := true) ⟨o, ho, hc⟩ isSubtype_stop ?_)
    exact wpAny_pure ⟨rfl, I.turned (t' := s.toks) (fun b o hb q => he' b o hb q) f0 f1 f3 f4 f5⟩
  self := fun A i s Q E st h => let ⟨⟨_, he⟩, _⟩ := st; wpAny_pyIter_enum he h
theorem callWith_typeK {M : Model} {A : Around} {E : Value → Shared → Prop} {s : Shared} {pos : Pos} {T : String} {first : List Value} {args : List (Bool × Sem Value)} {keywords : List (Option Str × Sem Value)} {Q : Value → Shared → Prop}
    (hplain : args.any (·.1) = false) (hkw : keywords.any (·.1.isNone) = false)
    (h : wpAny M A (evalArgs (.type T) true args keywords) (fun a s₁ => wpAny M A (call (.type T) (first ++ a.pos) a.kw) Q E s₁) E s) :
    wpAny M A (callWith pos (.type T) first args keywords) Q E s := by
  unfold callWith
  refine wpAny_bind (wpAny_holding (wpAny_mono h (fun a s₁ h₁ => wpAny_bind (wpAny_standAt ?_)) fun _ _ x => x))
  simp only [hplain, hkw, Bool.or_false]
  refine wpAny_bind (wpAny_pure ?_)
  exact wpAny_bind (wpAny_mono h₁ (fun r s₂ hr => wpAny_bind (wpAny_holding (wpAny_point (wpAny_pure hr)))) fun _ _ x => x)
def iEnumS (K : PySem.W.Frag) (ta : TA) (k0 : Int) : TI := fun σ H R => ta σ H fun vs H1 => ∃ a xs, vs = [.ref a] ∧ SqT K H1 a xs ∧ R (ItS K a k0) H1
theorem pi_enumS {X : Cx} {e : Expr} {ta : TA} {p pos tpos kpos cp : Pos} {elts : List Expr} {kk : Nat} {k0 : Int} {jj : Nat} (h0 : -(2 ^ 63) ≤ k0) (h1 : k0 < 2 ^ 63) (hg : Gl X "enumerate") (hm : X.mg "enumerate" = none) (ha : PA X [e] ta) (hs : starEach [e] X.env = [(false, eval e X.env)] := by rfl) :
    PI X (.Tuple elts kk tpos) (.Call (.Name "enumerate" p) [e] [⟨some "start", .Constant (.int k0) jj cp, kpos⟩] pos) (iEnumS X.K ta k0) := by
  refine ⟨fun pins s σ H R I h => ?_⟩
  refine wpAny_Call_Name_kw (ld_blt I hg hm boot_enumerate ?_)
  refine callWith_typeK (by rw [hs]; rfl) rfl ?_
  rw [hs]
  refine evalArgs_kwB rfl ?_
  have e0 := ha.run pos pins s σ H _ I h
  rw [hs] at e0
  refine thn e0 fun us s1 ⟨vs, H1, I1, r1, q1⟩ => ?_
  have ek := (pk_cons (nm := some "start") (kpos := kpos) (pe_int (X := X) (i := k0) (j := jj) (pos := cp)) pk_nil).run pos pins s1 σ H1 (fun zs H2 => zs = [.int k0] ∧ H2 = H1) I1 ⟨rfl, rfl⟩
  refine thn ek fun ws s2 ⟨zs, H2, I2, r2, q2⟩ => ?_
  obtain ⟨rfl, rfl⟩ := q2
  obtain ⟨a, xs, ex, hq, q⟩ := q1
  subst ex
  cases r1 with
  | cons r rr =>
    cases rr
    cases r
    cases r2 with
    | cons g gg =>
      cases gg
      obtain ⟨t, rfl⟩ := g
      obtain ⟨its, rv, p', hz⟩ := I2.tuple hq
      refine enum_begins_start (begins_tuple a its.toArray) (show s2.heap.IsTuple a its.toArray from p') h0 h1 fun h' he hit hsz hk => wpAny_pyIter_enum he ?_
      have I3 : Inv X pins σ H2 { s2 with heap := h' } := I2.kept (t' := s2.toks) hk
      have hlt : a < s2.heap.objs.size := by obtain ⟨o, q, _⟩ := p'; exact Heap.lt_size q
      refine ⟨s2.heap.objs.size + 1, [s2.heap.objs.size + 1, s2.heap.objs.size], _, _, H2, rfl, I3, turn_enumS a (s2.heap.objs.size + 1) s2.heap.objs.size k0, ⟨⟨.none, by rw [show k0 + ((0 : Nat) : Int) = k0 by omega]; exact he⟩, ⟨_, hit, rfl, rfl⟩, Nat.succ_ne_self _, Nat.ne_of_lt hlt, (fun z => absurd (show s2.heap.objs.size + 1 < s2.heap.objs.size by rw [z]; exact hlt) (Nat.not_lt.mpr (Nat.le_succ _)))⟩, fun b hb => ?_, q⟩
      have e' : b = s2.heap.objs.size + 1 ∨ b = s2.heap.objs.size := by simpa using hb
      have hle : s2.heap.objs.size ≤ b := by
        rcases e' with z | z
        · rw [z]; exact Nat.le_add_right _ _
        · rw [z]; exact Nat.le_refl _
      exact I2.fpOk hle (I2.hok.fresh hle)
end L2
namespace DL
open PySem PySem.Spec PyProof.Rows L2 TL
section
variable {K : PySem.W.Frag} {ta : TE} {da : DE} {e : Env} {kvs : List PyData → Env → Prop}
def enumS (k0 : Int) (ds : List PyData) : List PyData := ds.mapIdx fun i d => .tuple [.int (k0 + (i : Int)), d]
theorem enumS_len (k0 : Int) (ds : List PyData) : (enumS k0 ds).length = ds.length := by unfold enumS; rw [List.length_mapIdx]
theorem enumS_get {k0 : Int} {ds : List PyData} {i : Nat} {x : PyData} (h : (enumS k0 ds)[i]? = some x) : ∃ d, ds[i]? = some d ∧ x = .tuple [.int (k0 + (i : Int)), d] := by
  unfold enumS at h
  rw [List.getElem?_mapIdx] at h
  obtain ⟨d, h1, h2⟩ := Option.map_eq_some_iff.mp h
  exact ⟨d, h1, h2.symm⟩
theorem real_enumS {Hs : Hp} {a : Addr} {ds : List PyData} {k0 : Int} (h : Dw K Hs (.ref a) (.tuple ds)) : Real K (ItS K a k0) Hs (enumS k0 ds) := by
  have w := wf_tup.mp h.2
  cases h.1 with
  | @tup _ vs _ h1 h2 =>
    intro Hs' H' s1 s2
    have q := s2.sqt (s1.sqt h1)
    have d : Dws K Hs' vs ds := Dws.mono s1 ⟨h2, w.2⟩
    refine ⟨fun i x hx => ?_, vs, q, by rw [h2.len, enumS_len]; exact Nat.le_refl _⟩
    obtain ⟨d0, hx0, rfl⟩ := enumS_get hx
    obtain ⟨v, hv, hd⟩ := d.1.get hx0
    refine ⟨⟨vs, v, q, hv⟩, fun w H2 y => ?_⟩
    obtain ⟨T, u, rfl, hT, rfl, y⟩ := y
    exact laid_pair s2 hT ⟨.int _, rfl⟩ (dws_get d hx0 (y vs q))
def iEnumT (da : DE) (k0 : Int) : DI := fun e k => da e fun x e1 => asD x e1 fun d e2 => ∃ ds, d = .tuple ds ∧ k (enumS k0 ds) e2
theorem sim_enumT {k0 : Int} (ha : SimE K ta da) : SimI K (iEnumS K (tCons ta tNil) k0) (iEnumT da k0) := fun Hs H σ e R k s hu c =>
  ha Hs H σ e _ _ s hu fun v x Hs1 H1 e1 f1 r1 h1 => by
    obtain ⟨Hs2, e2, d, f2, r2, ⟨ds, rfl, h2⟩, _⟩ := asD_sim f1 r1 h1
    obtain ⟨p, vs, rfl, _, h3, _⟩ := (Sees.d (H := H1) r2).tup f2.st.sub
    exact ⟨p, vs, rfl, h3, c _ _ _ _ _ f2 (real_enumS r2) h2⟩
theorem z_enumT {k0 : Int} (q : da e fun x e1 => asD x e1 fun d e2 => ∃ ds, d = .tuple ds ∧ kvs (enumS k0 ds) e2) : iEnumT da k0 e kvs := q
theorem z_isT {ds : List PyData} {P : List PyData → Prop} (q : P ds) : ∃ es, PyData.tuple ds = .tuple es ∧ P es := ⟨ds, rfl, q⟩
end
end DL

/-! list comprehensions of two and three clauses, clause by clause -/
namespace L2
open PySem PySem.Spec PyProof.Rows
/-- a clause's turn, what comes behind its tests being of its own -/
def TurnBy (e : Expr) (k : Nat) (p : Pos) (tg : Expr) (ifs : List Expr) (acc : Value) (env : Env) (rest : Sem Fin → Sem Fin) : Prop :=
  ∀ it, compTurn e k it acc env = (do
    standAt p
    match ← pyNext it with
    | none => pure (.done .next)
    | some u =>
      letOwnedTupleGo tg it u
      assign tg env u
      let mut fine := true
      for t in ifs do
        if fine then fine ← isTrue t env (eval t env)
      if fine then rest (again (.compLoop e k it acc env)) else again (.compLoop e k it acc env))
/-- in a comprehension's block, wherever it stands -/
abbrev InBlk (X : Cx) (scope : Scope) (P : Cx → Prop) : Prop := ∀ (s : Shared) (H : Hp) (C : Addr) (cl : List (Str × Addr)) (fp : List Addr), P (X.blk s H scope (compEnvC scope cl C X.env) fp)
section
variable {prog : Program} {w : World} {A : Around} {R : Result → Shared → Prop} {s : Shared} {elt : Expr} {gens : List Comprehension} {scope : Scope} {pos p : Pos} {tg : Expr} {ifs : List Expr} {it acc : Value} {env : Env} {k : Nat} {rest : Sem Fin → Sem Fin}
abbrev nbR (prog : Program) (w : World) (A : Around) (env : Env) (R : Result → Shared → Prop) : Value → Shared → Prop := notedBy (model prog w) A env fun x s' => R (.error x) s'
theorem clause_loop (hT : TurnBy (.ListComp elt gens scope pos) k p tg ifs acc env rest) (I : Nat → Shared → Prop)
    (turn : ∀ n s, I n s → wpAny (model prog w) A (pyNext it) (fun r s1 => match r with
      | none => R (.ok .next) s1
      | some u => wpAny (model prog w) A (letOwnedTupleGo tg it u) (fun _ s2 => wpAny (model prog w) A (assign tg env u) (fun _ s3 =>
          wpAny (model prog w) A (forIn ifs true fun t r => if r = true then do let fine ← isTrue t env (eval t env); pure (ForInStep.yield fine) else pure (ForInStep.yield r)) (fun fine s4 =>
            if fine = true then ∀ (B : Around) (fin : Sem Fin) (Q : Fin → Shared → Prop), (∀ s5, (∃ m, m < n ∧ I m s5) → wpAny (model prog w) A fin Q (nbR prog w A env R) s5) → wpAny (model prog w) A (rest fin) Q (nbR prog w A env R) s4
            else ∃ m, m < n ∧ I m s4) (nbR prog w A env R) s3) (nbR prog w A env R) s2) (nbR prog w A env R) s1) (nbR prog w A env R) s)
    (n : Nat) (h : I n s) : codeAny (model prog w) A (.compLoop (.ListComp elt gens scope pos) k it acc env) R s := by
  refine codeAny_loop rfl I (fun n s hI => ?_) n h
  show wpAny _ A ((compTurn (.ListComp elt gens scope pos) k it acc env).onRaise (fun x => do noteFrame x env; theTreesLotGoes x)) _ _ s
  refine wpAny_noted ?_
  rw [hT it]
  have id3 : ∀ (a : Value) (b : Shared), nbR prog w A env R a b → nbR prog w A env R a b := fun _ _ z => z
  refine wpAny_bind (wpAny_standAt (wpAny_bind (wpAny_mono (turn n s hI) (fun r s1 h1 => ?_) id3)))
  cases r with
  | none => exact wpAny_pure h1
  | some u =>
    refine wpAny_bind (wpAny_mono h1 (fun _ s2 h2 => wpAny_bind (wpAny_mono h2 (fun _ s3 h3 => wpAny_bind (wpAny_mono h3 (fun fine s4 h4 => ?_) id3)) id3)) id3)
    cases fine with
    | false => exact wpAny_pure ⟨rfl, h4⟩
    | true => exact h4 A _ _ fun s5 h5 => wpAny_pure ⟨rfl, h5⟩
/-- a later clause's start: what is walked is asked for its iterator once more, or not -/
theorem clause_start (hk : ((clausesOf (.ListComp elt gens scope pos))[k]?).elim false (·.is_async != 0) = false) (h0 : codeAny (model prog w) A (.compLoop (.ListComp elt gens scope pos) k it acc env) R s)
    (h : wpAny (model prog w) A (pyIter it) (fun it2 s2 => codeAny (model prog w) A (.compLoop (.ListComp elt gens scope pos) k it2 acc env) R s2) (nbR prog w A env R) s) :
    codeAny (model prog w) A (.compStart (.ListComp elt gens scope pos) k it acc env) R s := by
  refine codeAny_of_tree ?_
  show wpAny _ _ ((compStart (.ListComp elt gens scope pos) k it acc env).onRaise (fun x => do noteFrame x env; standAt theWindowsPlace)) _ _ s
  refine wpAny_notedAt ?_
  unfold compStart
  rw [hk]
  simp only [Bool.false_eq_true, if_false]
  refine wpAny_bind (wpAny_askSetting (wpAny_ite ?_))
  split
  · exact wpAny_bind (wpAny_pure (wpAny_pure ⟨rfl, h0⟩))
  · refine wpAny_bind (wpAny_rule ?_)
    cases hg : (clausesOf (.ListComp elt gens scope pos))[k]? with
    | none => exact wpAny_bind (wpAny_mono h (fun it2 s2 h2 => wpAny_pure ⟨rfl, h2⟩) fun _ _ x => x)
    | some g => exact wpAny_bind (wpAny_standAt (wpAny_bind (wpAny_mono h (fun it2 s2 h2 => wpAny_pure ⟨rfl, h2⟩) fun _ _ x => x)))
end
/-- the next clause is begun; an item is put behind -/
abbrev nextCl (e : Expr) (k : Nat) (iter : Expr) (acc : Value) (env : Env) (fin : Sem Fin) : Sem Fin := do
  let x ← eval iter env
  standAt iter.pos
  let x ← foldedSetIterable iter env x
  let _ ← runOwn (.compStart e k (← holding [x] (pyIter x)) acc env) env
  fin
abbrev emitL (elt : Expr) (acc : Value) (env : Env) (fin : Sem Fin) : Sem Fin := do
  (do let _ ← call (.builtin "list.append") [acc, ← eval elt env])
  fin
/-- what is behind a clause's tests, as a rule: at slots that know what R asks it comes to Nx, the slots but vs being as they were -/
def RestR (X : Cx) (vs : List Nat) (rest : Sem Fin → Sem Fin) (R : St → Hp → (Hp → Prop) → Prop) : Prop :=
  ∀ (pins : List (Addr × Obj)) (s : Shared) (σ : St) (H : Hp) (Nx : Hp → Prop) (fin : Sem Fin) (Q : Fin → Shared → Prop) (E : Value → Shared → Prop), Inv X pins σ H s → R σ H Nx →
    (∀ s' H', Inv X pins (wipe σ vs) H' s' → Nx H' → wpAny (model X.prog X.w) X.A fin Q E s') → wpAny (model X.prog X.w) X.A (rest fin) Q E s
/-- a clause's walk -/
def tClW (J : It) (g : TG) (tt : TT) (R : St → Hp → (Hp → Prop) → Prop) (vs : List Nat) (σ : St) (H1 : Hp) (Nx : Hp → Prop) : Prop := ∃ W : Nat → Nat → Hp → Prop, (∃ m, W 0 m H1) ∧ ∀ i m H, W i m H →
  (J.stop i H ∧ Nx H) ∨ (J.go i H ∧ ∃ N1 : Hp → Prop, (∀ H', N1 H' → ∃ m', m' < m ∧ W (i + 1) m' H') ∧ ∀ x H', J.yld i H x H' → g x (wipe σ vs) H' fun σ2 H2 => wipe σ2 vs = wipe σ vs ∧ tt σ2 H2 fun b H3 => if b = true then R σ2 H3 N1 else N1 H3)
def tCl (wi : TI) (g : TG) (tt : TT) (R : St → Hp → (Hp → Prop) → Prop) (vs : List Nat) : St → Hp → (Hp → Prop) → Prop := fun σ H Nx => wi σ H fun J H1 => tClW J g tt R vs σ H1 Nx
theorem wipe_sub {σ : St} {vs ws : List Nat} (h : ∀ i ∈ ws, i ∈ vs) (i : Nat) (v : V) (e : (wipe σ vs)[i]? = some (some v)) : (wipe σ ws)[i]? = some (some v) := by
  obtain ⟨e1, e2⟩ := wipe_some e
  rw [wipe_out fun z => e2 (h i z)]
  exact e1
section
variable {X : Cx} {elt : Expr} {gens : List Comprehension} {scope : Scope} {pos p : Pos} {tg iter : Expr} {ifs : List Expr} {acc : Value} {k : Nat} {rest : Sem Fin → Sem Fin} {wi : TI} {g : TG} {tt : TT} {R : St → Hp → (Hp → Prop) → Prop} {vs ws : List Nat}
theorem rest_elt (hxe : X.xe = fun _ _ => False) {te : TE} {D : Addr} (he : PE X elt te) : RestR X vs (emitL elt (.ref D) X.env) (fun σ H Nx => te σ H fun y H4 => ∃ xs, H4 D = some (.lst xs) ∧ xs.length < sizeLine ∧ Nx (upd H4 D (.lst (xs ++ [y])))) := by
  intro pins s σ H Nx fin Q E I h c
  have h0 := he.run pins s σ H _ I h
  rw [hxe] at h0
  refine wpAny_bind (wpAny_bind (thnF h0 fun v s1 ⟨y, H1, I1, r1, xs, hD, hz, nx⟩ => ?_))
  refine wpAny_bind (app_ok I1 hD hz r1 fun s2 I2 => wpAny_pure (c s2 _ (I2.weak (wipe_length _ _) (fun j v e => (wipe_some e).1)) nx))
theorem rest_clause (hxe : X.xe = fun _ _ => False) (hc : X.calm = true) (hT : TurnBy (.ListComp elt gens scope pos) k iter.pos tg ifs acc X.env rest) (hk : ((clausesOf (.ListComp elt gens scope pos))[k]?).elim false (·.is_async != 0) = false)
    (hi : PI X tg iter wi) (hg : PG X tg g) (ht : PTs X ifs tt) (hr : RestR X ws rest R) (hw : ∀ i ∈ ws, i ∈ vs) (hs : ∀ x, foldedSetIterable iter X.env x = pure x) :
    RestR X vs (nextCl (.ListComp elt gens scope pos) k iter acc X.env) (tCl wi g tt R vs) := by
  intro pins s σ H Nx kfin Qk Ek I h ck
  have h0 := hi.run pins s σ H _ I h
  rw [hxe] at h0
  refine wpAny_bind (thnF h0 fun xv s1 hx => ?_)
  refine wpAny_bind (wpAny_standAt (wpAny_bind (wpAny_of_eq (hs xv) (wpAny_bind (wpAny_holding (thnF hx fun itv s2 h2 => ?_))))))
  obtain ⟨it, fp, tn, J, H2, rfl, I2, T, st2, f2, W, ⟨m0, w0⟩, turn⟩ := h2
  have fo : ∀ {H' : Hp}, (∀ b ∈ fp, H' b = none) → ∀ b ∈ fp, FpOk X pins H' b := fun hn b hb => ⟨hn b hb, (f2 b hb).2⟩
  refine wpAny_bind (wpAny_runOwn ?_)
  rw [Around.mark_none]
  have loop : codeAny (model X.prog X.w) X.A (.compLoop (.ListComp elt gens scope pos) k (.ref it) acc X.env) (fun r s' => match r with
      | .ok _ => ∃ H', Inv X pins (wipe σ vs) H' s' ∧ Nx H'
      | .error _ => False) s2 := by
    refine clause_loop hT (fun m s' => ∃ i H', Inv X pins (wipe σ vs) H' s' ∧ tn i s'.heap ∧ (∀ b ∈ fp, H' b = none) ∧ W i m H') ?_ m0 ⟨0, H2, I2.weak (wipe_length _ _) (fun j v e => (wipe_some e).1), st2, fun b hb => (f2 b hb).1, w0⟩
    rintro m s3 ⟨i, H3, I3, st3, n3, w3⟩
    rcases turn i m H3 w3 with ⟨stop, nx⟩ | ⟨go, N1, hN1, step⟩
    · refine thnF (T.done X rfl rfl rfl hc i pins s3 _ H3 (fun _ _ => False) I3 (fo n3) st3 stop) fun r s4 ⟨hr, I4⟩ => ?_
      subst hr
      exact ⟨H3, I4, nx⟩
    · refine thnF (T.item X rfl rfl rfl hc i pins s3 _ H3 (fun _ _ => False) I3 (fo n3) st3 go) fun r s4 ⟨u, hr4, h4⟩ => ?_
      subst hr4
      refine thnF h4 fun _ s5 ⟨x, H5, I5, r5, y5, st5, n5⟩ => ?_
      have I5' := I5.pinned (fo n5) (T.obj _ _ st5)
      have h5 := hg.run _ s5 _ H5 x u _ I5' r5 (step x H5 y5)
      rw [hxe] at h5
      refine thnF h5 fun _ s6 ⟨σ6, H6, I6, hw6, q6⟩ => ?_
      have h6 := ht.run _ s6 σ6 H6 _ I6 q6
      rw [hxe] at h6
      refine thnF h6 fun b s7 ⟨H7, I7, q7⟩ => ?_
      have fin : ∀ {σ' : St} {s' : Shared} {H' : Hp}, Inv X (pins ++ pinsAt fp s5.heap) σ' H' s' → (wipe σ vs).length = σ'.length → (∀ (j : Nat) v, (wipe σ vs)[j]? = some (some v) → σ'[j]? = some (some v)) → N1 H' → ∃ m', m' < m ∧ ∃ i H', Inv X pins (wipe σ vs) H' s' ∧ tn i s'.heap ∧ (∀ b ∈ fp, H' b = none) ∧ W i m' H' := fun {σ' s' H'} I' hl hk nx => by
        obtain ⟨m', hm, w'⟩ := hN1 H' nx
        have pin : ∀ b ∈ fp, ∀ o, s5.heap.get? b = some o → s'.heap.get? b = some o ∧ H' b = none := fun b hb o e =>
          let z := I'.pin (b, o) (List.mem_append_right _ (List.mem_append_right _ (mem_pinsAt hb e)))
          ⟨z.1, z.2.1⟩
        refine ⟨m', hm, i + 1, H', (I'.unpinned (pins := pins)).weak hl hk, T.keep _ _ _ st5 fun b hb o e => (pin b hb o e).1, fun b hb => ?_, w'⟩
        obtain ⟨o, e, _⟩ := T.obj _ _ st5 b hb
        exact (pin b hb o e).2
      have hl6 : (wipe σ vs).length = σ6.length := by rw [← hw6, wipe_length]
      have hk6 : ∀ (j : Nat) v, (wipe σ vs)[j]? = some (some v) → σ6[j]? = some (some v) := fun j v e => by
        rw [← hw6] at e
        exact (wipe_some e).1
      cases b with
      | false =>
        simp only [Bool.false_eq_true, if_false] at q7 ⊢
        exact fin I7 hl6 hk6 q7
      | true =>
        simp only [if_true] at q7 ⊢
        refine fun _ kf Qf hf => hr _ s7 σ6 H7 N1 kf Qf _ I7 q7 fun s8 H8 I8 nx8 => hf s8 ?_
        exact fin I8 (hl6.trans (wipe_length σ6 ws).symm) (fun j v e => wipe_sub hw j v (by rw [← hw6] at e; exact e)) nx8
  refine codeAny_mono (clause_start hk loop (T.self X.A 0 _ _ _ st2 loop)) fun r s' hr => ?_
  cases r with
  | ok f => obtain ⟨H', I', nx⟩ := hr; exact ck s' H' I' nx
  | error e => exact hr.elim
/-- a list comprehension, its first clause apart -/
def tLcR (wi : TI) (g : TG) (tt : TT) (R : Addr → St → Hp → (Hp → Prop) → Prop) (vs : List Nat) : TE := fun σ H Q => wi σ H fun J H1 => ∀ D, H1 D = none → tClW J g tt (R D) vs σ (upd H1 D (.lst [])) fun H' => Q (.ref D) H'
theorem lcr_core {pins : List (Addr × Obj)} {s : Shared} {σ : St} {H : Hp} {Q : VK} {gs : List Comprehension} {own : List (Str × Nat)} {posn : Pos} {RD : Addr → St → Hp → (Hp → Prop) → Prop} {restD : Value → Env → Sem Fin → Sem Fin} {use : Option (Value → Sem Unit)} {Qf : Value → Shared → Prop}
    (calm : X.calm = true) (nodup : X.N.Nodup) (I : Inv X pins σ H s) (hi : PI X tg iter wi) (blk : BlkOk X.N X.env.scope scope own) (sub : ∀ i ∈ ws, i ∈ own.map (·.2))
    (hT : ∀ (D : Value) (env : Env), TurnBy (.ListComp elt (⟨tg, iter, ifs, 0⟩ :: gs) scope pos) 0 p tg ifs D env (restD D env))
    (hg : InBlk X scope fun Y => PG Y tg g)
    (ht : InBlk X scope fun Y => PTs Y ifs tt)
    (hr : ∀ (s : Shared) (H : Hp) (C : Addr) (cl : List (Str × Addr)) (fp : List Addr) (D : Addr), RestR (X.blk s H scope (compEnvC scope cl C X.env) fp) ws (restD (.ref D) (compEnvC scope cl C X.env)) (RD D))
    (hs : ∀ x, foldedSetIterable iter X.env x = pure x) (h : tLcR wi g tt RD (own.map (·.2)) σ H Q)
    (fin : ∀ D C s' m H', Inv X pins σ H' s' → Q (.ref D) H' → s'.heap.Ns C m → FpOk X pins H' C → compPost (model X.prog X.w) X.A X.xe use Qf (.ref D) C (.ok .next) s') :
    wpAny (model X.prog X.w) X.A (comprehension (.ListComp elt (⟨tg, iter, ifs, 0⟩ :: gs) scope pos) scope X.env posn (newList []) false (eval iter X.env) use) Qf X.xe s := by
  have hfree : ∀ y ∈ scope.names, y.2 = .free → ∃ c, X.env.cells.lookup y.1 = some c := fun y hy e => (blk.free y hy e).elim (fun z => I.ok.has _ (.inl z)) (fun z => I.ok.has _ (.inr z))
  refine wpAny_comprehension_free (use := use) rfl hs (closure_ok hfree) blk.kind (fun y hy e => by rw [blk.uniq y hy, e]) (thn (hi.run pins s σ H _ I h) fun xv t1 hx => thn hx fun itv t2 ht2 => ?_)
  obtain ⟨it, fp, tn, J, Ha, rfl, Ia, T, sta, fa, q⟩ := ht2
  refine wpAny_newObj_type (newEnv_comp ?_) (by show 0 ≤ sizeLine; decide)
  generalize eD : t2.heap.objs.size = D
  obtain ⟨W, ⟨m0, w0⟩, turn⟩ := q D (Ia.hok.fresh (Nat.le_of_eq eD))
  -- the heap with the new list
  generalize e3 : ({ t2 with heap := t2.heap.push { cls := .type "list", data := .seq ([] : List Value).toArray } } : Shared) = t3
  have e3h : t3.heap = t2.heap.push { cls := .type "list", data := .seq ([] : List Value).toArray } := by rw [← e3]
  have Ib : Inv X pins σ (upd Ha D (.lst [])) t3 := by
    rw [← e3]
    exact Ia.laid (t' := t2.toks) (fun b o e => Heap.get?_push_of_some _ e) (Nat.le_of_eq eD) ⟨Nat.zero_le _, [], 0, .nil, by rw [← eD]; exact Heap.get?_push_size _ rfl⟩
  have old : ∀ b ∈ fp, b < t2.heap.objs.size := fun b hb => let ⟨_, e, _⟩ := T.obj _ _ sta b hb; Heap.lt_size e
  have fb : ∀ b ∈ fp, FpOk X pins (upd Ha D (.lst [])) b ∧ b < t3.heap.objs.size := fun b hb =>
    ⟨⟨by rw [upd_ne (by rw [← eD]; exact Nat.ne_of_lt (old b hb))]; exact (fa b hb).1, (fa b hb).2⟩, by rw [e3h, Heap.size_push]; exact Nat.lt_succ_of_lt (old b hb)⟩
  have Ic := block_start Ib blk nodup fb
  generalize ecl : cellsFrom (t3.heap.objs.size + 1) scope.names (cloFrom X.env.cells scope.names []) = cl at Ic
  have pg := hg t3 (upd Ha D (.lst [])) t3.heap.objs.size cl fp
  have pt := ht t3 (upd Ha D (.lst [])) t3.heap.objs.size cl fp
  have pr := hr t3 (upd Ha D (.lst [])) t3.heap.objs.size cl fp D
  have nb : ∀ b ∈ fp, (upd Ha D (.lst [])) b = none := fun b hb => (fb b hb).1.1
  show codeAny _ _ (.compStart (.ListComp elt (⟨tg, iter, ifs, 0⟩ :: gs) scope pos) 0 (.ref it) (.ref D) (compEnvC scope cl t3.heap.objs.size X.env)) (compPost (model X.prog X.w) X.A X.xe use Qf (.ref D) t3.heap.objs.size)
    { t3 with heap := pushCells (t3.heap.push { cls := .type "dict", data := .dict #[] }) scope.names }
  generalize ece : compEnvC scope cl t3.heap.objs.size X.env = ce at Ic pg pt pr ⊢
  have loc : ce.locals = t3.heap.objs.size := by subst ece; rfl
  generalize eHb : upd Ha D (.lst []) = Hb at Ib Ic pg pt pr w0 nb fb
  have std3 : tn 0 t3.heap := T.keep 0 t2.heap t3.heap sta fun b _ o e => by rw [e3h]; exact Heap.get?_push_of_some _ e
  have std : tn 0 (pushCells (t3.heap.push { cls := .type "dict", data := .dict #[] }) scope.names) := T.keep 0 t3.heap _ std3 fun b _ o e => pushCells_keeps _ _ _ _ (Heap.get?_push_of_some _ e)
  generalize e4 : ({ t3 with heap := pushCells (t3.heap.push { cls := .type "dict", data := .dict #[] }) scope.names } : Shared) = t4 at Ic ⊢
  have std : tn 0 t4.heap := by rw [← e4]; exact std
  have fo : ∀ {σ' : St} {H' : Hp} {s' : Shared}, Inv (X.blk t3 Hb scope ce fp) [] σ' H' s' → (∀ b ∈ fp, H' b = none) → ∀ b ∈ fp, FpOk (X.blk t3 Hb scope ce fp) [] H' b := fun I' hn b hb =>
    ⟨hn b hb, (I'.ok.exf b hb).1, I'.ok.exfs b hb, .inl hb, fun x c e => (I'.ok.exf b hb).2 x c e, fun p hp => absurd (show p ∈ ([] : List (Addr × Obj)) ++ [] from hp) (by simp)⟩
  have loop : codeAny (model X.prog X.w) X.A (.compLoop (.ListComp elt (⟨tg, iter, ifs, 0⟩ :: gs) scope pos) 0 (.ref it) (.ref D) ce) (compPost (model X.prog X.w) X.A X.xe use Qf (.ref D) t3.heap.objs.size) t4 := by
    refine clause_loop (hT (.ref D) ce) (fun m s' => ∃ i H', Inv (X.blk t3 Hb scope ce fp) [] (wipe σ (own.map (·.2))) H' s' ∧ tn i s'.heap ∧ (∀ b ∈ fp, H' b = none) ∧ W i m H') ?_ m0 ⟨0, Hb, Ic, std, nb, w0⟩
    rintro m s5 ⟨i, H5, I5, st5, n5, w5⟩
    rcases turn i m H5 w5 with ⟨stop, qq⟩ | ⟨go, N1, hN1, step⟩
    · refine thnF (T.done (X.blk t3 Hb scope ce fp) rfl rfl rfl calm i [] s5 _ H5 (fun _ _ => False) I5 (fo I5 n5) st5 stop) fun r s6 ⟨hr6, I6⟩ => ?_
      subst hr6
      have I7 : Inv X pins σ H5 s6 := Ib.call' (ch := fp) I6.os I6.base I6.hok I6.bare fun b hb => let z := (fb b hb).1; ⟨z.2.2.2.1, z.2.1, z.2.2.2.2.1, z.2.2.2.2.2⟩
      obtain ⟨mm, hn, _⟩ := I6.loc
      have hn : s6.heap.Ns ce.locals mm := hn
      have nC : H5 ce.locals = none := I6.free
      rw [loc] at hn nC
      exact fin D t3.heap.objs.size s6 mm H5 I7 qq hn (Ib.fpOk (Nat.le_refl _) nC)
    · refine thnF (T.item (X.blk t3 Hb scope ce fp) rfl rfl rfl calm i [] s5 _ H5 (fun _ _ => False) I5 (fo I5 n5) st5 go) fun r s6 ⟨u, hr6, h6⟩ => ?_
      subst hr6
      refine thnF h6 fun _ s7 ⟨x, H7, I7, r7, y7, st7, n7⟩ => ?_
      refine thnF (pg.run _ s7 _ H7 x u _ (I7.pinned (fo I7 n7) (T.obj _ _ st7)) r7 (step x H7 y7)) fun _ s8 ⟨σ8, H8, I8, hw8, q8⟩ => ?_
      refine thnF (pt.run _ s8 σ8 H8 _ I8 q8) fun b s9 ⟨H9, I9, q9⟩ => ?_
      have back : ∀ {σ' : St} {s' : Shared} {H' : Hp}, Inv (X.blk t3 Hb scope ce fp) ([] ++ pinsAt fp s7.heap) σ' H' s' → (wipe σ (own.map (·.2))).length = σ'.length → (∀ (j : Nat) v, (wipe σ (own.map (·.2)))[j]? = some (some v) → σ'[j]? = some (some v)) → N1 H' →
          ∃ m', m' < m ∧ ∃ i H', Inv (X.blk t3 Hb scope ce fp) [] (wipe σ (own.map (·.2))) H' s' ∧ tn i s'.heap ∧ (∀ b ∈ fp, H' b = none) ∧ W i m' H' := fun {σ' s' H'} I' hl hk nx => by
        obtain ⟨m', hm, w'⟩ := hN1 H' nx
        have pin : ∀ b ∈ fp, ∀ o, s7.heap.get? b = some o → s'.heap.get? b = some o ∧ H' b = none := fun b hb o e =>
          let z := I'.pin (b, o) (List.mem_append_right _ (List.mem_append_right _ (mem_pinsAt hb e)))
          ⟨z.1, z.2.1⟩
        refine ⟨m', hm, i + 1, H', (I'.unpinned (pins := [])).weak hl hk, T.keep _ _ _ st7 fun b hb o e => (pin b hb o e).1, fun b hb => ?_, w'⟩
        obtain ⟨o, e, _⟩ := T.obj _ _ st7 b hb
        exact (pin b hb o e).2
      have hl8 : (wipe σ (own.map (·.2))).length = σ8.length := by rw [← hw8, wipe_length]
      cases b with
      | false =>
        simp only [Bool.false_eq_true, if_false] at q9 ⊢
        exact back I9 hl8 (fun j v e => by rw [← hw8] at e; exact (wipe_some e).1) q9
      | true =>
        simp only [if_true] at q9 ⊢
        refine fun _ kf Qk hf => pr _ s9 σ8 H9 N1 kf Qk _ I9 q9 fun s10 H10 I10 nx => hf s10 ?_
        exact back I10 (hl8.trans (wipe_length σ8 ws).symm) (fun j v e => wipe_sub sub j v (by rw [← hw8] at e; exact e)) nx
  exact codeAny_compStart_list loop (T.self X.A 0 _ _ _ std loop)
theorem pe_lcr {gs : List Comprehension} {own : List (Str × Nat)} {RD : Addr → St → Hp → (Hp → Prop) → Prop} {restD : Value → Env → Sem Fin → Sem Fin} (calm : X.calm = true) (nodup : X.N.Nodup) (hi : PI X tg iter wi) (blk : BlkOk X.N X.env.scope scope own) (sub : ∀ i ∈ ws, i ∈ own.map (·.2))
    (hT : ∀ (D : Value) (env : Env), TurnBy (.ListComp elt (⟨tg, iter, ifs, 0⟩ :: gs) scope pos) 0 p tg ifs D env (restD D env))
    (hg : InBlk X scope fun Y => PG Y tg g)
    (ht : InBlk X scope fun Y => PTs Y ifs tt)
    (hr : ∀ (s : Shared) (H : Hp) (C : Addr) (cl : List (Str × Addr)) (fp : List Addr) (D : Addr), RestR (X.blk s H scope (compEnvC scope cl C X.env) fp) ws (restD (.ref D) (compEnvC scope cl C X.env)) (RD D))
    (hs : ∀ x, foldedSetIterable iter X.env x = pure x) : PE X (.ListComp elt (⟨tg, iter, ifs, 0⟩ :: gs) scope pos) (tLcR wi g tt RD (own.map (·.2))) := by
  refine ⟨fun pins s σ H Q I h => ?_⟩
  rw [eval_ListComp]
  refine lcr_core calm nodup I hi blk sub hT hg ht hr hs h fun D C s' m H' I' q hn f => ⟨m, hn, fun h2 sb => ?_⟩
  obtain ⟨a0, a1, a2, a3, a4, a5⟩ := f
  exact ⟨.ref D, H', I'.turned (t' := s'.toks) (fun b o hb e => (sb.2 b hb).trans e) a0 a1 a3 a4 a5, rfl, q⟩
end
abbrev rElt (te : TE) (D : Addr) : St → Hp → (Hp → Prop) → Prop := fun σ H Nx => te σ H fun y H4 => ∃ xs, H4 D = some (.lst xs) ∧ xs.length < sizeLine ∧ Nx (upd H4 D (.lst (xs ++ [y])))
section
variable {X : Cx} {elt tg iter tg1 iter1 tg2 iter2 : Expr} {ifs ifs1 ifs2 : List Expr} {scope : Scope} {pos : Pos} {own : List (Str × Nat)} {wi wi1 wi2 : TI} {g g1 g2 : TG} {tt tt1 tt2 : TT} {te : TE} {vs1 vs2 : List Nat}
theorem pe_lcc2 (calm : X.calm = true) (nodup : X.N.Nodup) (hi : PI X tg iter wi) (blk : BlkOk X.N X.env.scope scope own) (sub : ∀ i ∈ vs1, i ∈ own.map (·.2))
    (hg : InBlk X scope fun Y => PG Y tg g)
    (ht : InBlk X scope fun Y => PTs Y ifs tt)
    (hi1 : InBlk X scope fun Y => PI Y tg1 iter1 wi1)
    (hg1 : InBlk X scope fun Y => PG Y tg1 g1)
    (ht1 : InBlk X scope fun Y => PTs Y ifs1 tt1)
    (he : InBlk X scope fun Y => PE Y elt te)
    (hs : ∀ x, foldedSetIterable iter X.env x = pure x := by intro _; rfl) (hs1 : ∀ env x, foldedSetIterable iter1 env x = pure x := by intro _ _; rfl) :
    PE X (.ListComp elt [⟨tg, iter, ifs, 0⟩, ⟨tg1, iter1, ifs1, 0⟩] scope pos) (tLcR wi g tt (fun D => tCl wi1 g1 tt1 (rElt te D) vs1) (own.map (·.2))) :=
  pe_lcr (p := iter.pos) (restD := fun D env => nextCl (.ListComp elt [⟨tg, iter, ifs, 0⟩, ⟨tg1, iter1, ifs1, 0⟩] scope pos) 1 iter1 D env) calm nodup hi blk sub (fun D env it => rfl) hg ht (fun s H C cl fp D => rest_clause (X := X.blk s H scope (compEnvC scope cl C X.env) fp) (rest := emitL elt (.ref D) (compEnvC scope cl C X.env)) rfl calm (ws := []) (fun it => rfl) rfl (hi1 s H C cl fp) (hg1 s H C cl fp) (ht1 s H C cl fp) (rest_elt (X := X.blk s H scope (compEnvC scope cl C X.env) fp) rfl (he s H C cl fp)) (fun _ h => nomatch h) (hs1 _)) hs
theorem pe_lcc3 (calm : X.calm = true) (nodup : X.N.Nodup) (hi : PI X tg iter wi) (blk : BlkOk X.N X.env.scope scope own) (sub : ∀ i ∈ vs1, i ∈ own.map (·.2)) (sub2 : ∀ i ∈ vs2, i ∈ vs1)
    (hg : InBlk X scope fun Y => PG Y tg g)
    (ht : InBlk X scope fun Y => PTs Y ifs tt)
    (hi1 : InBlk X scope fun Y => PI Y tg1 iter1 wi1)
    (hg1 : InBlk X scope fun Y => PG Y tg1 g1)
    (ht1 : InBlk X scope fun Y => PTs Y ifs1 tt1)
    (hi2 : InBlk X scope fun Y => PI Y tg2 iter2 wi2)
    (hg2 : InBlk X scope fun Y => PG Y tg2 g2)
    (ht2 : InBlk X scope fun Y => PTs Y ifs2 tt2)
    (he : InBlk X scope fun Y => PE Y elt te)
    (hs : ∀ x, foldedSetIterable iter X.env x = pure x := by intro _; rfl) (hs1 : ∀ env x, foldedSetIterable iter1 env x = pure x := by intro _ _; rfl) (hs2 : ∀ env x, foldedSetIterable iter2 env x = pure x := by intro _ _; rfl) :
    PE X (.ListComp elt [⟨tg, iter, ifs, 0⟩, ⟨tg1, iter1, ifs1, 0⟩, ⟨tg2, iter2, ifs2, 0⟩] scope pos) (tLcR wi g tt (fun D => tCl wi1 g1 tt1 (tCl wi2 g2 tt2 (rElt te D) vs2) vs1) (own.map (·.2))) :=
  pe_lcr (p := iter.pos) (restD := fun D env => nextCl (.ListComp elt [⟨tg, iter, ifs, 0⟩, ⟨tg1, iter1, ifs1, 0⟩, ⟨tg2, iter2, ifs2, 0⟩] scope pos) 1 iter1 D env) calm nodup hi blk sub (fun D env it => rfl) hg ht (fun s H C cl fp D => rest_clause (X := X.blk s H scope (compEnvC scope cl C X.env) fp) (rest := nextCl (.ListComp elt [⟨tg, iter, ifs, 0⟩, ⟨tg1, iter1, ifs1, 0⟩, ⟨tg2, iter2, ifs2, 0⟩] scope pos) 2 iter2 (.ref D) (compEnvC scope cl C X.env)) rfl calm (ws := vs2) (fun it => rfl) rfl (hi1 s H C cl fp) (hg1 s H C cl fp) (ht1 s H C cl fp)
    (rest_clause (X := X.blk s H scope (compEnvC scope cl C X.env) fp) (rest := emitL elt (.ref D) (compEnvC scope cl C X.env)) rfl calm (ws := []) (fun it => rfl) rfl (hi2 s H C cl fp) (hg2 s H C cl fp) (ht2 s H C cl fp) (rest_elt (X := X.blk s H scope (compEnvC scope cl C X.env) fp) rfl (he s H C cl fp)) (fun _ h => nomatch h) (hs2 _)) sub2 (hs1 _)) hs
end
end L2

/-! the data layer: list comprehensions of several clauses; a star in front; text * n of any n; str of an int -/
namespace DL
open PySem PySem.Spec PyProof.Rows L2 TL
/-- a heap without one address -/
def eraseH (H : Hp) (D : Addr) : Hp := fun a => if a = D then none else H a
theorem erase_at (H : Hp) (D : Addr) : eraseH H D D = none := by unfold eraseH; rw [if_pos rfl]
theorem erase_ne {H : Hp} {D a : Addr} (h : a ≠ D) : eraseH H D a = H a := by unfold eraseH; rw [if_neg h]
theorem erase_some {H : Hp} {D a : Addr} {o : HO} (h : eraseH H D a = some o) : a ≠ D ∧ H a = some o := by
  by_cases q : a = D
  · rw [q, erase_at] at h; cases h
  · exact ⟨q, (erase_ne (H := H) q).symm.trans h⟩
theorem erase_none {H : Hp} {D a : Addr} (h : H a = none) : eraseH H D a = none := by
  by_cases q : a = D
  · rw [q, erase_at]
  · rw [erase_ne q]; exact h
theorem erase_id {H : Hp} {D : Addr} (h : H D = none) : eraseH H D = H := by
  funext a
  by_cases q : a = D
  · rw [q, erase_at, h]
  · exact erase_ne q
section
variable {K : PySem.W.Frag} {Hs H Hs' H' Hs0 H0 Hs1 H1 : Hp} {σ σ' σ0 : St} {e e' e0 e1 : Env} {D : Addr}
theorem Fw.erase (f : Fw K Hs H σ e Hs' H' σ' e') (d1 : Hs' D = none) (d2 : ∀ i, ¬ Held σ' e' i D) : Fw K Hs (eraseH H D) σ e Hs' (eraseH H' D) σ' e' := by
  refine ⟨f.st.to (fun a o ho => ?_) (Same.refl _) fun i a h => ⟨(f.st.held h).1, fun o ho => ?_⟩, ⟨f.go.p, fun a h1 h2 => ?_, fun a o h1 h2 => ?_, fun a h => ?_⟩, fun i a h => ?_, f.par⟩
  · rw [erase_ne (fun z => by rw [z, d1] at ho; cases ho)]
    exact f.st.sub a o ho
  · rw [erase_ne (fun z => d2 i (by rw [← z]; exact h))]
    exact ho
  · rcases f.go.new a h1 h2 with z | z
    · exact .inl (erase_none z)
    · exact .inr z
  · obtain ⟨q1, q2⟩ := erase_some h2
    rw [erase_ne q1]
    exact f.go.keep a o h1 q2
  · obtain ⟨o, ho⟩ := ne_some h
    obtain ⟨q1, q2⟩ := erase_some ho
    rw [erase_ne q1]
    exact f.go.there a (some_ne q2)
  · rcases f.held i a h with z | z
    · exact .inl z
    · exact .inr (erase_none z)
theorem Fw.born (s : StR K Hs H σ e) : Fw K Hs (eraseH H D) σ e Hs H σ e :=
  ⟨s, ⟨Same.refl _, fun _ h1 h2 => absurd h2 h1, fun a o _ h => (erase_some h).2, fun a h => by obtain ⟨o, ho⟩ := ne_some h; exact some_ne (erase_some ho).2⟩, fun i a h => .inl ⟨i, h⟩, fun i o h => ⟨rfl, o, h⟩⟩
/-- a list that grows and that no name holds -/
structure Grows (K : PySem.W.Frag) (Hs H : Hp) (σ : St) (e : Env) (D : Addr) (vacc : List V) (acc : List PyData) : Prop where
  hs : Hs D = none
  nh : ∀ i, ¬ Held σ e i D
  at_ : H D = some (.lst vacc)
  ds : Dws K Hs vacc acc
  len : acc.length ≤ sizeLine
theorem Grows.keep {vacc : List V} {acc : List PyData} (g : Grows K Hs H σ e D vacc acc) (f : Fw K Hs H σ e Hs' H' σ' e') : Grows K Hs' H' σ' e' D vacc acc := by
  refine ⟨?_, fun j hj => ?_, f.go.keep D _ (fun ⟨j, hj⟩ => g.nh j hj) g.at_, g.ds.mono f.go.p, g.len⟩
  · cases q : Hs' D with
    | none => rfl
    | some u =>
      rcases f.go.new D (some_ne q) g.hs with z | ⟨j, z⟩
      · rw [g.at_] at z; cases z
      · exact absurd z (g.nh j)
  · rcases f.held j D hj with ⟨l, z⟩ | z
    · exact g.nh l z
    · rw [g.at_] at z; cases z
theorem Grows.more {vacc : List V} {acc : List PyData} (g : Grows K Hs H σ e D vacc acc) (gp : GoP (fun _ => False) Hs H Hs' H') : Grows K Hs' H' σ e D vacc acc := by
  refine ⟨?_, g.nh, gp.keep D _ (fun z => z) g.at_, g.ds.mono gp.p, g.len⟩
  cases q : Hs' D with
  | none => rfl
  | some u =>
    rcases gp.new D (some_ne q) g.hs with z | z
    · rw [g.at_] at z; cases z
    · exact z.elim
theorem Grows.wipe {vacc : List V} {acc : List PyData} (g : Grows K Hs H σ e D vacc acc) (vs : List Nat) : Grows K Hs H (L2.wipe σ vs) (wipeE e vs) D vacc acc := ⟨g.hs, fun j hj => g.nh j (held_wipe hj).2, g.at_, g.ds, g.len⟩
theorem Grows.merge {vacc vacc2 : List V} {acc acc2 : List PyData} {Hs2 H2 : Hp} {σ2 : St} {e2 : Env} {vs : List Nat} (g : Grows K Hs H σ e D vacc acc) (g2 : Grows K Hs2 H2 σ2 e2 D vacc2 acc2) (le : e2.length = e.length) (hw : L2.wipe σ2 vs = L2.wipe σ vs) : Grows K Hs2 H2 σ (mergeE e e2 vs) D vacc2 acc2 := by
  refine ⟨g2.hs, fun j hj => ?_, g2.at_, g2.ds, g2.len⟩
  obtain ⟨h1, t, h2, h3⟩ := hj
  rw [mergeE_at le] at h2
  by_cases hj : j ∈ vs
  · rw [if_pos hj] at h2
    exact g.nh j ⟨h1, t, h2, h3⟩
  · rw [if_neg hj] at h2
    have := congrArg (fun l : St => l[j]?) hw
    simp only [wipe_at, if_neg hj] at this
    exact g2.nh j ⟨by rw [this]; exact h1, t, h2, h3⟩
end
abbrev DC := List PyData → Env → (List PyData → Env → Prop) → Prop
/-- what is behind a clause's tests, by data -/
def SimC (K : PySem.W.Frag) (R : Addr → St → Hp → (Hp → Prop) → Prop) (u : DC) : Prop := ∀ (D : Addr) (Hs H : Hp) (σ : St) (e : Env) (vacc : List V) (acc : List PyData) (Nx : Hp → Prop) (k : List PyData → Env → Prop), StR K Hs H σ e → Grows K Hs H σ e D vacc acc → u acc e k →
  (∀ Hs' H' e' vacc' acc', Fw K Hs (eraseH H D) σ e Hs' H' σ e' → Grows K Hs' H' σ e' D vacc' acc' → k acc' e' → Nx H') → R D σ H Nx
def dElt (de : DE) : DC := fun acc e k => de e fun y e5 => asD y e5 fun d e6 => acc.length < sizeLine ∧ k (acc ++ [d]) e6
def dCl (di : DI) (dg : DG) (dt : DT) (dR : DC) (vs : List Nat) : DC := fun acc e k => di e fun xs e1 => ∃ W : Nat → List PyData → Env → Prop, W 0 acc e1 ∧
  (∀ (i : Nat) x acc e2, xs[i]? = some x → W i acc e2 → atE (wipeE e2 vs) fun e2' => dg (.d x) e2' fun e3 => dt e3 fun b e4 => if b = true then dR acc e4 (fun acc' e6 => W (i + 1) acc' (mergeE e2 e6 vs)) else W (i + 1) acc (mergeE e2 e4 vs)) ∧
  ∀ acc e2, W xs.length acc e2 → k acc e2
def dLcR (di : DI) (dg : DG) (dt : DT) (dR : DC) (vs : List Nat) : DE := fun e k => dCl di dg dt dR vs [] e fun acc e2 => k (.own (.lst acc)) e2
section
variable {K : PySem.W.Frag} {te : TE} {tt : TT} {g : TG} {wi : TI} {de : DE} {dt : DT} {dg : DG} {di : DI} {R : Addr → St → Hp → (Hp → Prop) → Prop} {dR : DC} {vs : List Nat}
theorem sim_elt (he : SimE K te de) : SimC K (rElt te) (dElt de) := fun D Hs H σ e vacc acc Nx k s gr hu c =>
  he Hs H σ e _ _ s hu fun y x Hs5 H5 e5 f5 r5 h5 => by
    obtain ⟨Hs6, e6, d, f6, r6, ⟨hl, hk⟩, s6⟩ := asD_sim f5 r5 h5
    have g6 := gr.keep f6
    have fb := (f6.erase g6.hs g6.nh).trans (Fw.born (D := D) f6.st)
    refine ⟨vacc, g6.at_, by rw [gr.ds.1.len]; exact hl, ?_⟩
    refine c Hs6 _ e6 (vacc ++ [y]) (acc ++ [d]) ?_ ⟨g6.hs, g6.nh, upd_same, ⟨g6.ds.1.app (.cons r6.1 .nil), wfs_app g6.ds.2 (by show (wfD d && true) = true; rw [r6.2]; rfl)⟩, by rw [List.length_append]; exact hl⟩ hk
    refine ⟨fb.st.to (same_cell fb.st.sub g6.hs) (Same.refl _) fun j b hb => ⟨(fb.st.held hb).1, fun o ho => by rw [upd_ne (fun z => g6.nh j (by rw [← z]; exact hb))]; exact ho⟩, ⟨fb.go.p, fb.go.new, fun b o hb ho => ?_, fun b hb => ?_⟩, fb.held, fb.par⟩
    · rw [upd_ne (erase_some ho).1]
      exact fb.go.keep b o hb ho
    · by_cases q : b = D
      · rw [q, upd_same]; exact fun z => nomatch z
      · rw [upd_ne q]; exact fb.go.there b hb
theorem sim_clW (hg : SimGC K vs g dg) (ht : SimT K tt dt) (hR : SimC K R dR) {J : It} {D : Addr} {Hs0 H0 Hs1 H1 : Hp} {σ : St} {e0 e1 : Env} {vacc : List V} {acc : List PyData} {xs : List PyData} {Nx : Hp → Prop} {W : Nat → List PyData → Env → Prop}
    (h0 : H0 D = none) (f1 : Fw K Hs0 H0 σ e0 Hs1 H1 σ e1) (gr : Grows K Hs1 H1 σ e1 D vacc acc) (rj : Real K J Hs1 xs) (w0 : W 0 acc e1)
    (hs : ∀ (i : Nat) x acc e2, xs[i]? = some x → W i acc e2 → atE (wipeE e2 vs) fun e2' => dg (.d x) e2' fun e3 => dt e3 fun b e4 => if b = true then dR acc e4 (fun acc' e6 => W (i + 1) acc' (mergeE e2 e6 vs)) else W (i + 1) acc (mergeE e2 e4 vs))
    (fin : ∀ Hs' H' e' vacc' acc', Fw K Hs0 H0 σ e0 Hs' H' σ e' → Grows K Hs' H' σ e' D vacc' acc' → W xs.length acc' e' → Nx H') : tClW J g tt (R D) vs σ H1 Nx := by
  refine ⟨fun i m H' => ∃ Hs' e' acc vacc, Fw K Hs0 H0 σ e0 Hs' H' σ e' ∧ Same Hs1 Hs' ∧ Grows K Hs' H' σ e' D vacc acc ∧ W i acc e' ∧ i ≤ xs.length ∧ m = xs.length - i, ⟨_, Hs1, e1, acc, vacc, f1, Same.refl _, gr, w0, Nat.zero_le _, rfl⟩, ?_⟩
  rintro i m H' ⟨Hs', e', acc, vacc, f, s1, gr, hw, hi, rfl⟩
  obtain ⟨rg, rs⟩ := rj Hs' H' s1 f.st.sub
  by_cases hlt : i < xs.length
  · have hx : xs[i]? = some xs[i] := List.getElem?_eq_getElem hlt
    obtain ⟨g1, g2⟩ := rg i _ hx
    refine .inr ⟨g1, fun H2 => ∃ Hs2 e2 acc2 vacc2, Fw K Hs0 H0 σ e0 Hs2 H2 σ e2 ∧ Same Hs1 Hs2 ∧ Grows K Hs2 H2 σ e2 D vacc2 acc2 ∧ W (i + 1) acc2 e2, fun H2 ⟨Hs2, e2, acc2, va2, q1, q2, q3, q4⟩ => ⟨_, by omega, Hs2, e2, acc2, va2, q1, q2, q3, q4, hlt, rfl⟩, fun v H2 y => ?_⟩
    obtain ⟨Hs2, gp, sb, dw⟩ := g2 v H2 y
    have f2 := f.more gp sb
    have gr2 := gr.more gp
    have s2w := f2.st.wipe vs
    have grw := gr2.wipe vs
    have main := hg.sim Hs2 H2 (wipe σ vs) (wipeE e' vs) Hs2 H2 (wipe σ vs) (wipeE e' vs) v (.d xs[i]) (fun σ2 H2' => wipe σ2 vs = wipe σ vs → tt σ2 H2' fun b H3 => if b = true then R D σ2 H3 (fun H2 => ∃ Hs2 e2 acc2 vacc2, Fw K Hs0 H0 σ e0 Hs2 H2 σ e2 ∧ Same Hs1 Hs2 ∧ Grows K Hs2 H2 σ e2 D vacc2 acc2 ∧ W (i + 1) acc2 e2) else ∃ Hs2 e2 acc2 vacc2, Fw K Hs0 H0 σ e0 Hs2 H3 σ e2 ∧ Same Hs1 Hs2 ∧ Grows K Hs2 H3 σ e2 D vacc2 acc2 ∧ W (i + 1) acc2 e2) _ (Fw.refl s2w) dw (hs i _ acc e' hx hw) ?_
    · have m2 := hg.gin _ _ _ _ main
      rw [wipe_wipe] at m2
      exact hg.gm _ _ _ _ _ (fun σ2 H2' ⟨z1, z2⟩ => ⟨z1, z2 z1⟩) m2
    · intro σ3 Hs3 H3 e3 f3 s3 h3 hw3
      refine ht Hs3 H3 σ3 e3 _ _ f3.st h3 fun b Hs4 H4 e4 f4 h4 => ?_
      have f34 := f3.trans f4
      have g4 := grw.keep f34
      have l2 : σ3.length = σ.length := by have := congrArg List.length hw3; rw [wipe_length, wipe_length] at this; exact this
      cases b with
      | false =>
        rw [if_neg Bool.false_ne_true] at h4 ⊢
        have le : e4.length = e'.length := by rw [← f34.st.len, l2, f.st.len]
        exact ⟨Hs4, _, acc, vacc, f2.unwipe f34 hw3, (s1.trans gp.p).trans f34.go.p, gr2.merge g4 le hw3, h4⟩
      | true =>
        rw [if_pos rfl] at h4 ⊢
        refine hR D Hs4 H4 σ3 e4 vacc acc _ _ f4.st g4 h4 fun Hs5 H5 e5 vacc5 acc5 f5 g5 h5 => ?_
        have le : e5.length = e'.length := by rw [← f5.st.len, l2, f.st.len]
        have f35 := (f34.erase g4.hs g4.nh).trans f5
        have f2e := f2.erase gr2.hs gr2.nh
        have fu := f2e.unwipe f35 hw3
        rw [erase_id h0] at fu
        exact ⟨Hs5, _, acc5, vacc5, fu, (s1.trans gp.p).trans f35.go.p, gr2.merge g5 le hw3, h5⟩
  · have e : i = xs.length := by omega
    subst e
    exact .inl ⟨rs, fin Hs' H' e' vacc acc f gr hw⟩
theorem sim_cl (hi : SimI K wi di) (hg : SimGC K vs g dg) (ht : SimT K tt dt) (hR : SimC K R dR) : SimC K (fun D => tCl wi g tt (R D) vs) (dCl di dg dt dR vs) := fun D Hs H σ e vacc acc Nx k s gr hu c =>
  hi Hs H σ e _ _ s hu fun J xs Hs1 H1 e1 f1 rj h1 => by
    obtain ⟨W, h0, hs, hd⟩ := h1
    have g1 := gr.keep f1
    exact sim_clW hg ht hR (erase_at H D) ((f1.erase g1.hs g1.nh).trans (Fw.born (D := D) f1.st)) g1 rj h0 hs fun Hs' H' e' vacc' acc' f g w => c Hs' H' e' vacc' acc' f g (hd _ _ w)
theorem sim_lcr (hi : SimI K wi di) (hg : SimGC K vs g dg) (ht : SimT K tt dt) (hR : SimC K R dR) : SimE K (tLcR wi g tt R vs) (dLcR di dg dt dR vs) := fun Hs H σ e Q k s hu c =>
  hi Hs H σ e _ _ s hu fun J xs Hs1 H1 e1 f1 rj h1 => by
    obtain ⟨W, h0, hs, hd⟩ := h1
    intro D hD
    have nd1 : ∀ i, ¬ Held σ e1 i D := fun i hi => by
      obtain ⟨o, ho⟩ := f1.st.heldSome hi
      rw [hD] at ho; cases ho
    obtain ⟨gp, sb⟩ := gp_cell (o := .lst []) f1.st.sub hD
    refine sim_clW hg ht hR (fresh_back f1 hD) (f1.more gp sb) ⟨none_sub f1.st.sub hD, nd1, upd_same, ⟨.nil, rfl⟩, Nat.zero_le _⟩ rj h0 hs fun Hs' H' e' vacc' acc' f g w => ?_
    exact c (.ref D) (.own (.lst acc')) Hs' H' e' f ⟨D, rfl, g.hs, ⟨vacc', g.at_, g.ds, g.len⟩, fresh_back f1 hD, g.nh⟩ (hd _ _ w)
end
section
variable {e : Env} {k : DK} {de : DE} {dt : DT} {dg : DG} {di : DI} {dR : DC} {vs : List Nat} {acc : List PyData} {kc : List PyData → Env → Prop}
theorem z_lcr (q : dCl di dg dt dR vs [] e fun acc e2 => k (.own (.lst acc)) e2) : dLcR di dg dt dR vs e k := q
theorem z_cl (q : di e fun xs e1 => ∃ W : Nat → List PyData → Env → Prop, W 0 acc e1 ∧
  (∀ (i : Nat) x acc e2, xs[i]? = some x → W i acc e2 → atE (wipeE e2 vs) fun e2' => dg (.d x) e2' fun e3 => dt e3 fun b e4 => if b = true then dR acc e4 (fun acc' e6 => W (i + 1) acc' (mergeE e2 e6 vs)) else W (i + 1) acc (mergeE e2 e4 vs)) ∧
  ∀ acc e2, W xs.length acc e2 → kc acc e2) : dCl di dg dt dR vs acc e kc := q
theorem z_elt (q : de e fun y e5 => asD y e5 fun d e6 => acc.length < sizeLine ∧ kc (acc ++ [d]) e6) : dElt de acc e kc := q
end
end DL
namespace L2
open PySem PySem.Spec PyProof.Rows
/-- text * n, n at most 1 -/
abbrev zRepS1 : R2 := fun x y H Q => ∃ (z : Str) (n : Int), x = .str z ∧ y = .int n ∧ -(2 ^ 63) ≤ n ∧ n ≤ 1 ∧ z.length ≤ sizeLine ∧ Q (.str (if n < 1 then Str.empty else z)) H
theorem oRepS1 {X : Cx} : OpR X (binaryOp .Mult) zRepS1 := by
  intro pins s σ H x y v u Q I rx ry h
  obtain ⟨z, n, rfl, rfl, h1, h2, h3, q⟩ := h
  obtain ⟨t, rfl⟩ := rx
  obtain ⟨t', rfl⟩ := ry
  by_cases hn : n < 1
  · rw [if_pos hn] at q
    exact PySem.P.mul_str_none hn (by omega) ⟨.str _, H, I.tok _, ⟨_, rfl⟩, q⟩
  · rw [if_neg hn] at q
    have e1 : n = 1 := by omega
    subst e1
    refine PySem.P.mul_str (by decide) (fun _ h => ?_) (fun _ h => ?_) ?_
    · simp at h
    · simp at h
    · rw [if_neg (by decide), if_pos (by simp)]
      exact ⟨.str z, H, I, ⟨t, rfl⟩, q⟩
end L2
namespace DL
open PySem PySem.Spec PyProof.Rows L2 TL
section
variable {K : PySem.W.Frag} {k : SV → Prop} {ks : SV → Prop} {e : Env} {kn : Env → Prop} {x : SV} {d : PyData} {ds : List PyData} {i j : Nat}
/-- a * b, a text any times -/
def dMul2 : DR2 := fun a b k => match a, b with
  | .str z, .int n => (2 ≤ n ∧ n ≤ 1000 ∧ 1 ≤ z.length ∧ z.length ≤ 1000 ∧ k (.d (.str (repS n z)))) ∨ (-(2 ^ 63) ≤ n ∧ n ≤ 1 ∧ k (.d (.str (repS n z))))
  | a, b => dMul a b k
abbrev uMul2 (K : PySem.W.Frag) : R2 := zOr (uMul K) zRepS1
theorem oUMul2 {X : Cx} : OpR X (binaryOp .Mult) (uMul2 X.K) := oUMul.or oRepS1
theorem repS_le1 {n : Int} {z : Str} (h : n ≤ 1) : repS n z = if n < 1 then Str.empty else z := by
  by_cases hn : n < 1
  · rw [if_pos hn]
    refine ext_tl ?_
    rw [tl_repS, show n.toNat = 0 by omega]
    rfl
  · rw [if_neg hn]
    refine ext_tl ?_
    rw [tl_repS, show n.toNat = 1 by omega]
    simp
theorem sr_mul2 : SimR2 K (uMul2 K) dMul2 := fun Hs H v w a b k Q sb h1 h2 h3 o => by
  unfold dMul2 at h3
  split at h3
  · rename_i z n
    rcases h3 with ⟨q1, q2, q3, q4, h3⟩ | ⟨q1, q2, h3⟩
    · exact .inl (sr_mul Hs H v w _ _ k Q sb h1 h2 (show dMul (.str z) (.int n) k from ⟨q1, q2, q3, q4, h3⟩) o)
    · obtain ⟨rfl, l1, o1⟩ := h1.str
      refine .inr ⟨_, _, rfl, h2.int, q1, q2, l1, ?_⟩
      rw [repS_le1 q2] at h3
      by_cases hn : n < 1
      · rw [if_pos hn] at h3 ⊢
        exact o.str h3 (sz_le (by decide)) (by decide +kernel)
      · rw [if_neg hn] at h3 ⊢
        exact o.str h3 l1 o1
  · exact .inl (sr_mul Hs H v w _ _ k Q sb h1 h2 h3 o)
theorem z_mulI {i j : Int} (h : CMulX i j) (q : ks (.d (.int (i * j)))) : dMul2 (.int i) (.int j) ks := ⟨h, q⟩
theorem z_mulL {n : Int} (h1 : -(2 ^ 63) ≤ n) (h2 : n < 2 ^ 63) (h : ds.length * n.toNat ≤ sizeLine) (q : ks (.own (.lst (repD n ds)))) : dMul2 (.list ds) (.int n) ks := ⟨h1, h2, h, q⟩
theorem z_mulS {n : Int} {z : Str} (h1 : -(2 ^ 63) ≤ n) (h2 : n ≤ 1000) (h3 : z.length ≤ 1000) (h4 : n ≤ 1 ∨ 1 ≤ z.length) (q : ks (.d (.str (repS n z)))) : dMul2 (.str z) (.int n) ks := by
  by_cases h : n ≤ 1
  · exact .inr ⟨h1, h, q⟩
  · exact .inl ⟨by omega, h2, h4.resolve_left h, h3, q⟩
/-- str(an int) -/
def intS (i : Int) : Str := Str.ofString (toString i)
def dStr : DRs := fun ds k => match ds with
  | [.int i] => i.natAbs.log2 < 1920 ∧ k (.d (.str (intS i)))
  | [.str z] => k (.d (.str z))
  | _ => False
abbrev zStr1 : List V → Hp → VK → Prop := fun xs H Q => (∃ i, xs = [.int i] ∧ i.natAbs.log2 < 1920 ∧ Q (.str (toString i)) H) ∨ ∃ a, xs = [.str a] ∧ Q (.str a) H
theorem len_intS {i : Int} {n : Nat} (h : i.natAbs.log2 < n + 1) : (intS i).length ≤ n + 2 := by
  have := PySem.int_text_length_le (a := i) (k := n + 1) (by omega) h
  have e : (intS i).length = (toString i).length := by
    unfold intS
    rw [PySem.Str.ofString_eq_toList]
    show ((toString i).toList.map Char.toNat).toArray.size = _
    rw [List.size_toArray, List.length_map, String.length_toList]
  omega
theorem sr_str : SimRs K zStr1 dStr := fun Hs H vs ds k Q sb h1 h3 o => by
  unfold dStr at h3
  split at h3
  · rename_i i
    obtain ⟨v, rfl, h⟩ := h1.one
    rw [h.int]
    exact .inl ⟨i, rfl, h3.1, o.str (z := intS i) h3.2 (sz_le (Nat.le_trans (len_intS (n := 1919) h3.1) (by decide))) (ok_lit _)⟩
  · obtain ⟨v, rfl, h⟩ := h1.one
    obtain ⟨rfl, l1, o1⟩ := h.str
    exact .inr ⟨_, rfl, o.str h3 l1 o1⟩
  · exact h3.elim
theorem z_strI {i : Int} (h : i.natAbs.log2 < 1920) (q : ks (.d (.str (intS i)))) : dStr [.int i] ks := ⟨h, q⟩
theorem z_strS {z : Str} (q : ks (.d (.str z))) : dStr [.str z] ks := q
/-- *a, b = a list; the list behind the star is new -/
def gStar0 (i j : Nat) : DG := fun x e k => ∃ d ds, see e x = some (.list (ds ++ [d])) ∧ notPar e i = true ∧ notPar (e.set i (.own (.lst ds))) j = true ∧ k ((e.set i (.own (.lst ds))).set j (.d d))
theorem dq_split {H : Hp} {vs : List V} {ds : List PyData} {d : PyData} (h : DqAll K H vs (ds ++ [d])) : ∃ ws w, vs = ws ++ [w] ∧ DqAll K H ws ds ∧ Dq K H w d := by
  have hl : vs.length = ds.length + 1 := by rw [h.len, List.length_append]; rfl
  have h1 := h.take ds.length
  have h2 := h.drop ds.length
  rw [List.take_left' rfl] at h1
  rw [List.drop_left' rfl] at h2
  have e : vs = vs.take ds.length ++ vs.drop ds.length := (List.take_append_drop _ _).symm
  generalize vs.drop ds.length = us at h2 e
  cases h2 with
  | cons q r => cases r; exact ⟨_, _, e, h1, q⟩
theorem sim_gStar0 (i j : Nat) : SimG K (gStarL K 2 0 (gCons (gName i) (gCons (gName j) gNil))) (gStar0 i j) := fun Hs0 H0 σ0 e0 Hs H σ e v x Q k f r hu c => by
  obtain ⟨d, ds, e1, n1, n2, hk⟩ := hu
  obtain ⟨p, vs, rfl, h1, h2, h3⟩ := (sees_of f.st r e1).lst f.st.sub
  obtain ⟨q1, q2⟩ := h2
  obtain ⟨ws, w, rfl, qw, qd⟩ := dq_split q1
  have wd : wfD d = true := wfs_iff.mp q2 d (by simp)
  have wds : wfs ds = true := wfs_iff.mpr fun y hy => wfs_iff.mp q2 y (by simp [hy])
  refine ⟨p, _, rfl, SqL.of h1, by simp, fun D hD => ?_⟩
  have es : (ws ++ [w]).take 0 ++ [V.ref D] ++ ((ws ++ [w]).drop 0).drop ((ws ++ [w]).length + 1 - 2) = [.ref D, w] := by simp
  have eu : ((ws ++ [w]).drop 0).take ((ws ++ [w]).length + 1 - 2) = ws := by simp
  rw [es, eu]
  obtain ⟨gp, sb⟩ := gp_cell (o := .lst ws) f.st.sub hD
  have f1 := f.more gp sb
  have f2 := f1.setO (i := i) (c := .lst ds) (a := D) n1 (none_sub f.st.sub hD) ⟨ws, upd_same, ⟨qw, wds⟩, by simp at h3; omega⟩ (fresh_back f hD) fun l hl => by
    obtain ⟨o, ho⟩ := f.st.heldSome hl
    rw [hD] at ho
    cases ho
  refine ⟨_, _, rfl, _, _, rfl, rfl, ?_⟩
  exact c _ Hs _ _ (f2.setD (i := j) (s := .d d) (w := w) n2 ⟨w, rfl, qd, wd⟩ rfl) (Same.refl _) hk
theorem z_gStar0 (h : see e x = some (.list (ds ++ [d]))) (n1 : notPar e i = true) (n2 : notPar (e.set i (.own (.lst ds))) j = true) (q : atE ((e.set i (.own (.lst ds))).set j (.d d)) kn) : gStar0 i j x e kn := ⟨d, ds, h, n1, n2, q⟩
end
theorem call_str_any {X : Cx} : CallR X (.type "str") zStr1 := by
  intro pins s σ H xs us Q I r h
  rcases h with h | h
  · exact call_str_int pins s σ H xs us Q I r h
  · exact SkE.call_str_str pins s σ H xs us Q I r h
end DL
namespace DL
open PySem PySem.Spec PyProof.Rows L2 TL
section
variable {K : PySem.W.Frag} {ar : TA} {aa : DA} {e : Env} {k : DK} {d : PyData} {ds : List PyData}
/-! ### a call that only looks: its answer is flat, or a new list of flat things -/
def flatR : SV → Bool
  | .d d => flatD d
  | .own (.lst ds) => ds.all flatD
  | _ => false
def dCallF (sp : DSp) (aa : DA) : DE := fun e k => aa e fun xs e1 => ∃ zs, parsB e1 xs = some zs ∧ sp zs fun r ys => flatR r = true ∧ k r e1
theorem dqs_flat {H H' : Hp} : ∀ {vs : List V} {ds : List PyData}, Dws K H vs ds → ds.all flatD = true → Dws K H' vs ds
  | _, [], h, _ => by
    obtain ⟨h1, h2⟩ := h
    cases h1
    exact ⟨.nil, rfl⟩
  | _, d :: ds, h, f => by
    obtain ⟨h1, h2⟩ := h
    have h2 : (wfD d && wfs ds) = true := h2
    rw [Bool.and_eq_true] at h2
    rw [List.all_cons, Bool.and_eq_true] at f
    cases h1 with
    | cons a b =>
      have r := dqs_flat (H' := H') ⟨b, h2.2⟩ f.2
      exact ⟨.cons (dq_flat ⟨a, h2.1⟩ f.1).1 r.1, by show (wfD d && wfs ds) = true; rw [h2.1, h2.2]; rfl⟩
theorem callF_core {sp : DSp} {Hs H Hb H0 : Hp} {σ : St} {e1 eb : Env} {vs : List V} {xs zs : List SV} {k : DK} {Q : VK} {E : XK} (f1 : Fw K Hb H0 σ eb Hs H σ e1) (r1 : RelXl K H0 Hs H σ e1 vs xs) (hz : parsB e1 xs = some zs)
    (hs : sp zs fun r ys => flatR r = true ∧ k r e1) (c : ∀ v x Hs' H' e', Fw K Hb H0 σ eb Hs' H' σ e' → RelX K H0 Hs' H' σ e' v x → k x e' → Q v H') : lift K sp vs H Q E := by
  have s := f1.st
  obtain ⟨hl, hr⟩ := parsB_str s r1 hz
  refine ⟨zs, H, _, ⟨Same.refl _, by rw [List.length_map, hl], fun i t ht => ?_, fun i j a h1 h2 => ?_⟩, fun i o h => ?_, hs, fun r ys v Hs' H' hk na f hr2 => ?_⟩
  · obtain ⟨_, v, hv, hq⟩ := hr i t ht
    exact ⟨some v, by rw [List.getElem?_map, hv]; rfl, hq⟩
  · obtain ⟨_, t, ht, hh⟩ := h1
    rw [(hr i t ht).1] at hh
    cases hh
  · have := (hr i _ h).1
    cases this
  · obtain ⟨fl, hk⟩ := hk
    have gk : ∀ a o, H a = some o → H' a = some o := fun a o ha => f.go.keep a o (fun ⟨i, _, t, ht, hh⟩ => by rw [(hr i t ht).1] at hh; cases hh) ha
    have sb : Same Hs H' := fun a o ha => gk a o (s.sub a o ha)
    have ft : Fw K Hb H0 σ eb Hs H' σ e1 := f1.trans ⟨s.to sb (Same.refl _) fun i a hi => ⟨(s.held hi).1, fun o ho => gk a o ho⟩, ⟨Same.refl _, fun a h1 h2 => absurd h2 h1, fun a o _ ho => gk a o ho, f.go.there⟩, fun i a h => .inl ⟨i, h⟩, fun i o h => ⟨rfl, o, h⟩⟩
    cases r with
    | d d => exact c v (.d d) Hs H' e1 ft (show Dw K Hs v d from dq_flat hr2 fl) hk
    | own o =>
      cases o with
      | lst ds =>
        obtain ⟨a, rfl, ha, ⟨ws, q1, q2, q3⟩, h0, nh⟩ := hr2
        refine c (.ref a) (.own (.lst ds)) Hs H' e1 ft ⟨a, rfl, s.sub.free h0, ⟨ws, q1, dqs_flat q2 fl, q3⟩, fresh_back f1 h0, fun i hi => ?_⟩ hk
        obtain ⟨o, ho⟩ := s.heldSome hi
        rw [h0] at ho; cases ho
      | dct kvs => cases fl
      | box n => cases fl
    | v w => cases fl
    | par o => cases fl
    | al i => cases fl
    | no => cases fl
theorem sim_callF {sp : DSp} {E : XK} (ha : SimAl K ar aa) : SimE K (tCall (lift K sp) [] E ar) (dCallF sp aa) := fun Hs H σ e Q k s hu c =>
  ha Hs H σ e _ _ s hu fun vs xs Hs1 H1 e1 f1 r1 h1 => by
    obtain ⟨zs, hz, hs⟩ := h1
    rw [List.append_nil]
    exact callF_core f1 r1 hz hs c
theorem sim_callFK {sp : DSp} {E : XK} (ha : SimAl K ar aa) : SimE K (tCallK (lift K sp) (fun vs zs => vs ++ zs) E tNil ar) (dCallF sp aa) := fun Hs H σ e Q k s hu c =>
  ha Hs H σ e _ _ s hu fun vs xs Hs1 H1 e1 f1 r1 h1 => by
    obtain ⟨zs, hz, hs⟩ := h1
    exact callF_core f1 r1 hz hs c
theorem z_callF {sp : DSp} (q : aa e fun xs e1 => ∃ zs, parsB e1 xs = some zs ∧ sp zs fun r ys => flatR r = true ∧ k r e1) : dCallF sp aa e k := q
theorem z_flatR {x : SV} {P : Prop} (h : flatR x = true) (q : P) : flatR x = true ∧ P := ⟨h, q⟩
end
end DL
namespace DL
open PySem PySem.Spec PyProof.Rows L2 TL
section
variable {K : PySem.W.Frag} {ks : SV → Prop}
/-! ### int of an int, of a truth, of a text -/
def dIntA : DRs := fun ds k => match ds with
  | [.str z] => ∃ n, PySem.intText? z = some n ∧ z.length ≤ 640 ∧ k (.d (.int n))
  | ds => dInt1 ds k
abbrev zIntA : List V → Hp → VK → Prop := fun xs H Q => zInt1 xs H Q ∨ ∃ a n, xs = [.str a] ∧ PySem.intText? a = some n ∧ a.length ≤ 640 ∧ Q (.int n) H
theorem call_intA {X : Cx} : CallR X (.type "int") zIntA := by
  intro pins s σ H xs us Q I r h
  rcases h with h | h
  · exact call_int1 pins s σ H xs us Q I r h
  · exact call_int_str pins s σ H xs us Q I r h
theorem sr_intA : SimRs K zIntA dIntA := fun Hs H vs ds k Q sb h1 h3 o => by
  unfold dIntA at h3
  split at h3
  · obtain ⟨v, rfl, h⟩ := h1.one
    obtain ⟨n, e1, e2, h3⟩ := h3
    obtain ⟨rfl, _⟩ := h.str
    exact .inr ⟨_, n, rfl, e1, e2, o.int h3⟩
  · exact .inl (sr_int1 Hs H vs ds k Q sb h1 h3 o)
theorem z_int1 {i : Int} (q : ks (.d (.int i))) : dIntA [.int i] ks := q
theorem z_int1b {b : Bool} (q : ks (.d (.int (if b then 1 else 0)))) : dIntA [.bool b] ks := q
theorem z_intS {z : Str} {n : Int} (h : PySem.intText? z = some n) (h2 : z.length ≤ 640) (q : ks (.d (.int n))) : dIntA [.str z] ks := ⟨n, h, h2, q⟩
end
end DL
namespace DL
open PySem PySem.Spec PyProof.Rows L2 TL
section
variable {K : PySem.W.Frag} {t : TS} {d1 : DS} {e : Env} {D : DEnds}
/-! ### a statement at whose start all data is known to be well made -/
def WfE (e : Env) : Prop := ∀ (i : Nat) (d : PyData), (e[i]? = some (.d d) ∨ ∃ ds, d = .list ds ∧ (e[i]? = some (.own (.lst ds)) ∨ e[i]? = some (.par (.lst ds)))) → wfD d = true
theorem wfE_of {Hs H : Hp} {σ : St} (s : StR K Hs H σ e) : WfE e := fun i d h => by
  rcases h with h | ⟨ds, rfl, h | h⟩
  · obtain ⟨o, _, v, _, h2⟩ := s.rel i _ h
    exact h2.2
  · obtain ⟨o, _, a, _, _, vs, _, h2, h3⟩ := s.rel i _ h
    exact wf_list.mpr ⟨h3, h2.2⟩
  · obtain ⟨o, _, a, _, _, vs, _, h2, h3⟩ := s.rel i _ h
    exact wf_list.mpr ⟨h3, h2.2⟩
def dW (d1 : DS) : DS := fun D e => WfE e → d1 D e
theorem sim_dW (h : SimS K t d1) : SimS K t (dW d1) := fun Hs H σ e D dD s hu S => h Hs H σ e D dD s (hu (wfE_of s)) S
theorem z_w (q : WfE e → d1 D e) : dW d1 D e := q
theorem WfE.d {i : Nat} {d : PyData} (h : WfE e) (q : e[i]? = some (.d d)) : wfD d = true := h i d (.inl q)
theorem WfE.l {i : Nat} {ds : List PyData} (h : WfE e) (q : e[i]? = some (.own (.lst ds))) : wfs ds = true := (wf_list.mp (h i _ (.inr ⟨ds, rfl, .inl q⟩))).2
end
end DL
namespace DL
open PySem PySem.Spec PyProof.Rows L2 TL
section
variable {K : PySem.W.Frag} {ta : TE} {da : DE} {e : Env} {k : DK}
/-! ### a value that changes no more from its assignment on -/
def dFrz (da : DE) : DE := fun e k => da e fun x e1 => asD x e1 fun d e2 => k (.d d) e2
theorem sim_frz (ha : SimE K ta da) : SimE K ta (dFrz da) := fun Hs H σ e Q k s hu c =>
  ha Hs H σ e _ _ s hu fun v x Hs1 H1 e1 f1 r1 h1 => by
    obtain ⟨Hs2, e2, d, f2, r2, h2, _⟩ := asD_sim f1 r1 h1
    exact c v (.d d) _ _ _ f2 r2 h2
theorem z_frz (q : da e fun x e1 => asD x e1 fun d e2 => k (.d d) e2) : dFrz da e k := q
end
end DL
namespace DL
open PySem PySem.Spec PyProof.Rows L2 TL
section
variable {db : DE} {e : Env} {x : SV} {kn : Env → Prop} {j : Nat}
theorem z_gSubL (q : asD x e fun d e1 => isLst e1 j ∧ db e1 fun y e2 => ∃ n ds m, y = .d (.int n) ∧ conS e2 j = some (.lst ds) ∧ ixN ds.length n = some m ∧ atE (setC e2 j (.lst (ds.set m d))) kn) : gSubL j db x e kn := q
theorem cutX_front {α : Type} (xs : List α) (y : α) : cutX (xs ++ [y]) none (some (-1)) = xs := by
  have e : HT.sIx (xs ++ [y]).length (xs ++ [y]).length (some (-1)) = xs.length := by
    rw [List.length_append, List.length_singleton]
    unfold HT.sIx
    simp
    omega
  unfold cutX
  rw [HT.sIx_none, e, Nat.sub_zero, List.drop_zero, List.take_left' rfl]
end
end DL

/-! the module's dicts: a text goes through all its pairs; its keys in turn -/
namespace L2
open PySem PySem.Spec PyProof.Rows
section
variable {X : Cx} {pins : List (Addr × Obj)} {σ : St} {H : Hp} {s : Shared}
/-- the frame's names are written, nothing else -/
theorem Inv.names {σ' : St} {h' : Heap} {m' : Str → Option Value} {tk : Nat} (I : Inv X pins σ H s) (sb : Heap.SameBut X.env.locals s.heap h') (hn : h'.Ns X.env.locals m') (hl : σ'.length = σ.length)
    (look : ∀ (i : Nat) (x : Str) (v : V), X.N[i]? = some x → σ'[i]? = some (some v) → Vis X.env.scope x → ∃ u, RelV v u ∧ Look X.env h' m' x u) : Inv X pins σ' H { s with heap := h', toks := tk } := by
  have far : ∀ {b : Addr} {o : Obj}, X.s_0.heap.get? b = some o → h'.get? b = s.heap.get? b := fun q =>
    sb.2 _ fun z => absurd I.ok.above (Nat.not_le.mpr (by rw [← z]; exact Heap.lt_size q))
  obtain ⟨B1, B2, B3, B4, B5, B6, B7⟩ := I.base
  refine ⟨I.ok, I.os, I.bare, ?_, ⟨m', hn, look⟩, ?_, I.free, I.freeC, ?_, ?_, hl.trans I.len⟩
  · exact ⟨fun b o q1 q2 q3 q4 => (far q1).trans (B1 b o q1 q2 q3 q4), fun b o q1 q2 q3 q4 => let ⟨sl, q⟩ := B2 b o q1 q2 q3 q4; ⟨sl, (far q1).trans q⟩, B3, fun b o q1 q2 => let ⟨o', q⟩ := B4 b o q1 q2; ⟨o', (far q1).trans q⟩, B5, B6, B7⟩
  · intro y c q
    obtain ⟨v, z⟩ := I.cell y c q
    exact ⟨v, z.sameBut sb (I.cne y c q)⟩
  · intro p hp
    obtain ⟨q1, q2, q3, q4⟩ := I.pin p hp
    exact ⟨(sb.2 p.1 q3).trans q1, q2, q3, q4⟩
  · intro b ob q
    refine (I.hok b ob q).stay (fun c w' hc z => (sb.2 c ?_).trans z) (fun _ z => z) fun _ _ z => z
    rintro rfl
    rcases hc with rfl | hc
    · rw [I.free] at q; cases q
    · rw [I.free] at hc; cases hc
/-- a name of the frame, as it lies there -/
theorem Inv.raw {x : Str} {v : V} {i : Nat} (I : Inv X pins σ H s) (hi : X.N[i]? = some x) (hσ : σ[i]? = some (some v)) (k : X.env.scope.names.lookup x = some .local) {m : Str → Option Value} (hl : ∀ (i : Nat) (x : Str) (v : V), X.N[i]? = some x → σ[i]? = some (some v) → Vis X.env.scope x → ∃ u, RelV v u ∧ Look X.env s.heap m x u) : ∃ u, RelV v u ∧ m x = some u := by
  obtain ⟨u, r, h⟩ := hl i x v hi hσ (.inl k)
  rcases h with ⟨_, h⟩ | ⟨h, _⟩
  · exact ⟨u, r, h⟩
  · have k' : X.env.kindOf x = some .local := k
    rcases h with h | h
    · rw [k'] at h; cases h
    · rw [k'] at h; cases h
end
def escF (kvs : List (Str × Str)) (x : Str) : Str := kvs.foldl (fun x p => Txt.replace x p.1 p.2) x
def escFit : List (Str × Str) → Str → Prop
  | [], _ => True
  | p :: r, x => x.length + (x.length + 1) * p.2.length ≤ 16777216 ∧ escFit r (Txt.replace x p.1 p.2)
/-- an entry's two texts are two objects, unlike -/
def EscE (e : DictEntry) (p : Str × Str) : Prop := ∃ t u, e.key = .str p.1 t ∧ e.val = .str p.2 u ∧ t ≠ 0 ∧ u ≠ 0 ∧ t ≠ u ∧ (p.1 == p.2) = false
def EscL : List DictEntry → List (Str × Str) → Prop
  | [], [] => True
  | e :: r, p :: q => EscE e p ∧ EscL r q
  | _, _ => False
theorem EscL.get : ∀ {es : List DictEntry} {kvs : List (Str × Str)}, EscL es kvs → es.length = kvs.length ∧ ∀ (i : Nat) (e : DictEntry), es[i]? = some e → ∃ p, kvs[i]? = some p ∧ EscE e p
  | [], [], _ => ⟨rfl, fun i e h => nomatch h⟩
  | e :: r, p :: q, h => by
    obtain ⟨h1, h2⟩ := h
    obtain ⟨l, g⟩ := EscL.get h2
    refine ⟨by simp [l], fun i e' he => ?_⟩
    cases i with
    | zero => cases he; exact ⟨p, rfl, h1⟩
    | succ i => exact g i e' he
  | [], _ :: _, h => h.elim
  | _ :: _, [], h => h.elim
def tEsc (i j l : Nat) (kvs : List (Str × Str)) : TS := fun D σ H => ∃ x, σ[l]? = some (some (.str x)) ∧ escFit kvs x ∧ D.nx (((σ.set i none).set j none).set l (some (.str (escF kvs x)))) H
theorem escF_succ {kvs : List (Str × Str)} {n : Nat} {p : Str × Str} {x : Str} (h : kvs[n]? = some p) : escF (kvs.take (n + 1)) x = Txt.replace (escF (kvs.take n) x) p.1 p.2 := by
  unfold escF
  rw [List.take_add_one, h, List.foldl_append]
  rfl
theorem escFit_at : ∀ {kvs : List (Str × Str)} {n : Nat} {p : Str × Str} {x : Str}, escFit kvs x → kvs[n]? = some p → (escF (kvs.take n) x).length + ((escF (kvs.take n) x).length + 1) * p.2.length ≤ 16777216
  | q :: r, 0, p, x, h, e => by cases e; exact h.1
  | q :: r, n + 1, p, x, h, e => escFit_at (kvs := r) h.2 e
section
variable {X : Cx}
set_option maxHeartbeats 8000000 in
theorem ps_esc {xt xk xv xd : Str} {i j l : Nat} {d : Addr} {es : Array DictEntry} {n x1 : Nat} {kvs : List (Str × Str)} {pk pv pt pd apos cpos p1 p2 p3 p4 p5 apos2 cpos2 pos : Pos}
    (hd : PE X (.Name xd pd) (tC (.ref d))) (hK : X.K.lookup d = some ⟨.type "dict", none, .dict es n, #[]⟩) (hE : EscL es.toList kvs) (low : (d == sysModules) = false)
    (hN : X.N.Nodup) (hi : X.N[i]? = some xk) (hj : X.N[j]? = some xv) (hl : X.N[l]? = some xt)
    (kt : X.env.scope.names.lookup xt = some .local) (kk : X.env.scope.names.lookup xk = some .local) (kv : X.env.scope.names.lookup xv = some .local)
    (n1 : (xk == xv) = false) (n2 : (xt == xk) = false) (n3 : (xt == xv) = false) (hc : X.calm = true) (hp : PassesOwn (model X.prog X.w) X.A X.env X.xe)
    (hb1 : attributeBase (.Name xd pd) "items" X.env (eval (.Name xd pd) X.env) = eval (.Name xd pd) X.env := by rfl) (hb2 : attributeBase (.Name xt p2) "replace" X.env (eval (.Name xt p2) X.env) = eval (.Name xt p2) X.env := by rfl)
    (hl1 : (apos.endLine == cpos.line) = true := by rfl) (hl2 : (apos2.endLine == cpos2.line) = true := by rfl)
    (hs : ∀ x, foldedSetIterable (.Call (.Attribute (.Name xd pd) "items" apos) [] [] cpos) X.env x = pure x := by intro _; rfl)
    (hst : starEach [.Name xk p3, .Name xv p4] X.env = [(false, eval (.Name xk p3) X.env), (false, eval (.Name xv p4) X.env)] := by rfl)
    (hsw : swapsWith (.Call (.Attribute (.Name xt p2) "replace" apos2) [.Name xk p3, .Name xv p4] [] cpos2) (some (.Name xt p1)) p5.line X.env = pure false := by rfl)
    (ha : assignEach [.Name xk pk, .Name xv pv] X.env = [(false, assign (.Name xk pk) X.env), (false, assign (.Name xv pv) X.env)] := by rfl)
    (d1 : (xt == ("__debug__" : Str)) = false := by decide) (d2 : (xk == ("__debug__" : Str)) = false := by decide) (d3 : (xv == ("__debug__" : Str)) = false := by decide) :
    PS X (.For (.Tuple [.Name xk pk, .Name xv pv] x1 pt) (.Call (.Attribute (.Name xd pd) "items" apos) [] [] cpos) [.Assign [.Name xt p1] (.Call (.Attribute (.Name xt p2) "replace" apos2) [.Name xk p3, .Name xv p4] [] cpos2) p5] [] pos) (tEsc i j l kvs) := by
  refine ⟨fun pins s σ H D I h => ?_⟩
  obtain ⟨x, hσ, hf, hq⟩ := h
  obtain ⟨hsz, hen⟩ := hE.get
  have nk : xk ≠ xv := fun z => by rw [z, beq_self_eq_true] at n1; cases n1
  have nt : xt ≠ xk := fun z => by rw [z, beq_self_eq_true] at n2; cases n2
  have nv : xt ≠ xv := fun z => by rw [z, beq_self_eq_true] at n3; cases n3
  have il : i ≠ l := fun z => nt (by rw [z, hl] at hi; exact Option.some.inj hi)
  have jl : j ≠ l := fun z => nv (by rw [z, hl] at hj; exact Option.some.inj hj)
  have ll : l < σ.length := by rw [I.len]; exact (List.getElem?_eq_some_iff.mp hl).1
  have hcls : (X.env.scope.kind == .class || (X.env.scope.kind == .module && X.env.locals != X.env.globals)) = false := by rw [I.ok.kind]; rfl
  have dict : ∀ {s' : Shared} {σ' : St}, Inv X pins σ' H s' → s'.heap.DictRaw d es n := fun I' => ⟨_, I'.kIn d _ hK, ⟨rfl, rfl, rfl⟩, rfl⟩
  refine wpAny_For ?_ hs
  refine wpAny_Call_method (T := "dict") (id := "dict.items") hb1 rfl hl1 PySem.F.plainAttrs_dict PySem.F.slot_dict_items PySem.F.type_dict_items (thn (hd.run pins s σ H (fun v H' => v = .ref d ∧ H' = H) I ⟨rfl, rfl⟩) fun u s1 ⟨v, H1, I1, r1, e1, e2⟩ => ?_)
  subst e1 e2
  obtain rfl : u = Value.ref d := r1
  have dr := dict I1
  have nod : ∀ dd, (⟨.type "dict", none, .dict es n, #[]⟩ : Obj).dict = some dd → False := fun dd z => nomatch z
  refine ⟨dr.typeIs, fun o ho => ?_, PySem.method_meetsIn PySem.F.slot_dict_items PySem.F.entry_dict_items rfl (PySem.evalArgs_none ⟨rfl, dr.typeIs, PySem.F.args_dict_items_1 _, _, meets_dict_items_raw d low, ⟨es, n, dr⟩, ?_⟩)⟩
  · cases ho
    exact ⟨_, I1.kIn d _ hK, rfl⟩
  have I2 : Inv X pins σ H1 { s1 with heap := s1.heap.push { cls := .type "dict_items", data := .fields #[.ref d] } } := I1.kept (t' := s1.toks) fun b o q => Heap.get?_push_of_some _ q
  refine wpAny_pyIter_items_raw ⟨_, Heap.get?_push_size _ rfl, rfl, rfl⟩ (dict I2) ?_
  generalize hS : ({ s1 with heap := s1.heap.push { cls := .type "dict_items", data := .fields #[.ref d] } } : Shared) = s2 at I2 ⊢
  generalize hO : ({ cls := .type "dict_itemiterator", data := .fields #[.none, .bool false, .ref d, .int 0 0, .int es.size 0, .int n 0, .none, .none] } : Obj) = io
  have I3 : Inv X pins σ H1 { s2 with heap := s2.heap.push io } := I2.kept (t' := s2.toks) fun b o q => Heap.get?_push_of_some _ q
  have fp : FpOk X pins H1 s2.heap.objs.size := I2.fpOk (Nat.le_refl _) (I2.hok.fresh (Nat.le_refl _))
  have it0 : IsItemIter (s2.heap.push io) s2.heap.objs.size d 0 es.size n .none .none := by rw [← hO]; exact Heap.get?_push_size _ rfl
  generalize hit : s2.heap.objs.size = it at fp it0 ⊢
  have hdt : d ≠ it := fun z => by
    obtain ⟨o, ho, _⟩ := dict I2
    exact absurd (Heap.lt_size ho) (by rw [z, hit]; exact Nat.lt_irrefl _)
  have sl : ((σ.set i none).set j none).length = σ.length := by rw [List.length_set, List.length_set]
  have at_l : ∀ v, (((σ.set i none).set j none).set l (some v))[l]? = some (some v) := fun v => List.getElem?_set_self (by rw [sl]; exact ll)
  refine PySem.codeAny_forLoop_any (fun m s' => ∃ q ok ov, m = es.size - q ∧ q ≤ es.size ∧ Inv X pins (((σ.set i none).set j none).set l (some (.str (escF (kvs.take q) x)))) H1 s' ∧ IsItemIter s'.heap it d q es.size n ok ov) ?_ es.size ⟨0, .none, .none, rfl, Nat.zero_le _, ?_, it0⟩
  · rintro m s3 ⟨q, ok, ov, rfl, hq2, I4, st⟩
    obtain ⟨f0, f1, f2, f3, f4, f5⟩ := fp
    have hlt : it < s3.heap.objs.size := Heap.lt_size st
    by_cases hlq : q < es.size
    · obtain ⟨p, hkp, t, u, ek, ev, t0, u0, tu, neq⟩ := hen q es[q] (by simp [hlq])
      refine wpAny_passesOwn hp (PySem.wpAny_pyNext_items_item_raw st (dict I4) hlq fun h1 out hT hz1 hk1 => ?_)
      rw [ek, ev] at out hT
      refine wpAny_passesOwn hp (PySem.wpAny_letOwnedTupleGo_items (s := { s3 with heap := h1 }) out fun h2 st2 sb2 => ?_)
      have hT2 : h2.IsTuple s3.heap.objs.size #[.str p.1 t, .str p.2 u] := ⟨_, (sb2.2 _ (Nat.ne_of_gt hlt)).trans hT, rfl, _, rfl⟩
      have I5 : Inv X pins (((σ.set i none).set j none).set l (some (.str (escF (kvs.take q) x)))) H1 { s3 with heap := h2, toks := s3.toks } := I4.turned (fun b o nb e => (sb2.2 b nb).trans (hk1 b o nb e)) f0 f1 f3 f4 f5
      refine wpAny_passesOwn hp (PySem.wpAny_assign_Tuple (I5.ok.hd hc) hT2 (by rw [ha]; rfl) (by rw [ha]; rfl) fun h3 hx3 => ?_)
      have I6 : Inv X pins (((σ.set i none).set j none).set l (some (.str (escF (kvs.take q) x)))) H1 { s3 with heap := h3, toks := s3.toks } := I5.kept fun b o e => hx3 b o (Nat.ne_of_lt (Heap.lt_size e)) e
      obtain ⟨mm, hn, hlook⟩ := I6.loc
      obtain ⟨ut, ⟨tt, rfl⟩, hmt⟩ := I6.raw hl (at_l _) kt hlook
      rw [ha]
      show wpAny _ _ (do holding [.str p.2 u] (assign (.Name xk pk) X.env (.str p.1 t)); assignInOrder [assign (.Name xv pv) X.env] [.str p.2 u]) _ _ _
      refine wpAny_bind (wpAny_holding (wpAny_assign_Name (wpAny_storeName_local kk hn (fun h4 hn4 sb4 => ?_) hcls)))
      show wpAny _ _ (do holding [] (assign (.Name xv pv) X.env (.str p.2 u)); assignInOrder [] []) _ _ _
      refine wpAny_bind (wpAny_holding (wpAny_assign_Name (wpAny_storeName_local kv hn4 (fun h5 hn5 sb5 => wpAny_pure ?_) hcls)))
      refine wpAny_passesOwn hp (PySem.wpAny_execs_cons (PySem.wpAny_Assign_Name (PySem.Call_method2 hb2 hst hl2 (wpAny_Name (wpAny_loadName_local I.ok.kind kt hn5 (v := .str (escF (kvs.take q) x) tt) (by simp [nt, nv, hmt]) ?_) d1)) hsw))
      refine ⟨"str", _, PySem.F.plainAttrs_str, PySem.F.slot_str_replace, PySem.F.type_str_replace, typeIs_str _ _ _, (fun _ e => nomatch e), Calls.callWith_builtin rfl (Calls.evalArgs_plain (Calls.spliced_cons (wpAny_Name (wpAny_loadName_local I.ok.kind kk hn5 (v := .str p.1 t) (by simp [nk]) (Calls.spliced_cons (wpAny_Name (wpAny_loadName_local I.ok.kind kv hn5 (v := .str p.2 u) (by simp) (Calls.spliced_nil ?_)) d3))) d2)))⟩
      refine PySem.SC.replace t0 u0 tu neq (escFit_at hf hkp) fun t' k' => ?_
      refine wpAny_storeName_local kt hn5 (fun h6 hn6 sb6 => wpAny_execs_nil ?_) hcls
      have sb46 : Heap.SameBut X.env.locals h3 h6 := ⟨sb6.1.trans (sb5.1.trans sb4.1), fun b nb => (sb6.2 b nb).trans ((sb5.2 b nb).trans (sb4.2 b nb))⟩
      refine ⟨es.size - (q + 1), by omega, q + 1, .str p.1 t, .str p.2 u, rfl, hlq, ?_, ?_⟩
      · refine I6.names (σ' := ((σ.set i none).set j none).set l (some (.str (escF (kvs.take (q + 1)) x)))) sb46 hn6 (by simp) fun a y v e1 e2 e3 => ?_
        by_cases hal : a = l
        · subst hal
          rw [hl] at e1; cases e1
          rw [at_l] at e2; cases e2
          exact ⟨_, ⟨t', rfl⟩, .inl ⟨kt, by rw [escF_succ hkp]; simp⟩⟩
        · have e2' := e2
          rw [List.getElem?_set_ne (Ne.symm hal)] at e2
          have haj : j ≠ a := by
            rintro rfl
            rw [List.getElem?_set] at e2
            rw [if_pos rfl] at e2
            split at e2 <;> cases e2
          have e4 := e2
          rw [List.getElem?_set_ne haj] at e4
          have hai : i ≠ a := by
            rintro rfl
            rw [List.getElem?_set] at e4
            rw [if_pos rfl] at e4
            split at e4 <;> cases e4
          obtain ⟨w, rw_, lk⟩ := hlook a y v e1 (by rw [List.getElem?_set_ne (Ne.symm hal)]; exact e2) e3
          refine ⟨w, rw_, ?_⟩
          rcases lk with ⟨k1, k2⟩ | ⟨k1, c, k2, k3⟩
          · have y1 : y ≠ xk := fun z => hai (nodup_ix hN hi (z ▸ e1))
            have y2 : y ≠ xv := fun z => haj (nodup_ix hN hj (z ▸ e1))
            have y3 : y ≠ xt := fun z => hal (nodup_ix hN e1 (z ▸ hl))
            exact .inl ⟨k1, by simp [y1, y2, y3, k2]⟩
          · exact .inr ⟨k1, c, k2, k3.sameBut sb46 (I6.cne y c k2)⟩
      · exact (sb46.2 it f1).trans (hx3 it _ (Nat.ne_of_lt (Heap.lt_size st2)) st2)
    · have eq : q = es.size := by omega
      subst eq
      refine wpAny_passesOwn hp (PySem.wpAny_pyNext_items_end_raw (I4.ok.hd hc) st (dict I4) (Nat.le_refl _) fun h1 eb => wpAny_execs_nil ⟨_, H1, I4.turned (t' := s3.toks) (fun b o nb e => eb b o nb e) f0 f1 f3 f4 f5, ?_⟩)
      have : kvs.take es.size = kvs := List.take_of_length_le (by rw [← hsz]; simp)
      rw [this]
      exact hq
  · refine I3.weak (by rw [List.length_set, sl]) fun a v e => ?_
    by_cases hal : a = l
    · subst hal
      rw [at_l] at e
      cases e
      exact hσ
    · rw [List.getElem?_set_ne (Ne.symm hal)] at e
      have haj : j ≠ a := by
        rintro rfl
        rw [List.getElem?_set] at e
        rw [if_pos rfl] at e
        split at e <;> cases e
      rw [List.getElem?_set_ne haj] at e
      have hai : i ≠ a := by
        rintro rfl
        rw [List.getElem?_set] at e
        rw [if_pos rfl] at e
        split at e <;> cases e
      rw [List.getElem?_set_ne hai] at e
      exact e
end
end L2
namespace L2
open PySem PySem.Spec PyProof.Rows
/-! ### the module's dict: its keys in turn -/
/-- an entry and what it is as data -/
def KvE (K : PySem.W.Frag) (e : DictEntry) (p : Str × PyData) : Prop := ∃ t v, e.key = .str p.1 t ∧ RelV v e.val ∧ ∀ H : Hp, DL.Dw K H v p.2
def KvL (K : PySem.W.Frag) : List DictEntry → List (Str × PyData) → Prop
  | [], [] => True
  | e :: r, p :: q => KvE K e p ∧ KvL K r q
  | _, _ => False
/-- the module's dict at a -/
def ModD (K : PySem.W.Frag) (a : Addr) (kvs : List (Str × PyData)) : Prop := ∃ es n, K.lookup a = some ⟨.type "dict", none, .dict es n, #[]⟩ ∧ KvL K es.toList kvs ∧ (a == sysModules) = false
theorem KvL.get {K : PySem.W.Frag} : ∀ {es : List DictEntry} {kvs : List (Str × PyData)}, KvL K es kvs → es.length = kvs.length ∧ ∀ (i : Nat) (e : DictEntry), es[i]? = some e → ∃ p, kvs[i]? = some p ∧ KvE K e p
  | [], [], _ => ⟨rfl, fun i e h => nomatch h⟩
  | e :: r, p :: q, h => by
    obtain ⟨h1, h2⟩ := h
    obtain ⟨l, g⟩ := KvL.get h2
    refine ⟨by simp [l], fun i e' he => ?_⟩
    cases i with
    | zero => cases he; exact ⟨p, rfl, h1⟩
    | succ i => exact g i e' he
  | [], _ :: _, h => h.elim
  | _ :: _, [], h => h.elim
def lookM (kvs : List (Str × PyData)) (z : Str) : Option PyData := (kvs.find? fun p => p.1 == z).map (·.2)
theorem KvL.find {K : PySem.W.Frag} {z : Str} : ∀ {es : List DictEntry} {kvs : List (Str × PyData)}, KvL K es kvs → (∃ e d v, es.find? (·.key.isStr z) = some e ∧ lookM kvs z = some d ∧ RelV v e.val ∧ ∀ H : Hp, DL.Dw K H v d) ∨ (es.find? (·.key.isStr z) = none ∧ es.any (·.refKey) = false ∧ lookM kvs z = none)
  | [], [], _ => .inr ⟨rfl, rfl, rfl⟩
  | e :: r, p :: q, h => by
    obtain ⟨⟨t, v, h1, h2, h3⟩, h4⟩ := h
    have e1 : e.key.isStr z = (p.1 == z) := by rw [h1]; rfl
    have e2 : e.refKey = false := by unfold DictEntry.refKey; rw [h1]
    by_cases hz : (p.1 == z) = true
    · refine .inl ⟨e, p.2, v, ?_, ?_, h2, h3⟩
      · rw [List.find?_cons, e1, hz]
      · unfold lookM; rw [List.find?_cons, hz]; rfl
    · have hz : (p.1 == z) = false := by simpa using hz
      have e3 : lookM (p :: q) z = lookM q z := by unfold lookM; rw [List.find?_cons, hz]
      rcases KvL.find (z := z) h4 with ⟨e', d, v', q1, q2, q3⟩ | ⟨q1, q2, q3⟩
      · refine .inl ⟨e', d, v', ?_, e3.trans q2, q3⟩
        rw [List.find?_cons, e1, hz]
        exact q1
      · refine .inr ⟨?_, ?_, e3.trans q3⟩
        · rw [List.find?_cons, e1, hz]
          exact q1
        · rw [List.any_cons, e2, q2]; rfl
  | [], _ :: _, h => h.elim
  | _ :: _, [], h => h.elim
/-- what the kit's look into the module's dict finds -/
theorem ModD.ns {K : PySem.W.Frag} {a : Addr} {kvs : List (Str × PyData)} (M : ModD K a kvs) (z : Str) : ∃ r, PySem.W.nsIn K a z = some r ∧ r.isSome = (lookM kvs z).isSome ∧ ∀ d, lookM kvs z = some d → ∃ u v, r = some u ∧ RelV v u ∧ ∀ H : Hp, DL.Dw K H v d := by
  obtain ⟨es, n, h1, h2, _⟩ := M
  unfold PySem.W.nsIn
  rw [h1]
  dsimp only
  rcases h2.find (z := z) with ⟨e, d, v, q1, q2, q3, q4⟩ | ⟨q1, q2, q3⟩
  · rw [q1]
    exact ⟨_, rfl, by rw [q2]; rfl, fun d' hd => by rw [q2] at hd; cases hd; exact ⟨_, v, rfl, q3, q4⟩⟩
  · rw [q1, q2]
    exact ⟨none, rfl, by rw [q3]; rfl, fun d' hd => by rw [q3] at hd; cases hd⟩
def ItM (ks : List Str) : It := ⟨fun i _ => i < ks.length, fun i H x H' => H' = H ∧ ∃ z, ks[i]? = some z ∧ x = .str z, fun i _ => ks.length ≤ i⟩
def iMod (ks : List Str) : TI := fun _ H R => R (ItM ks) H
section
variable {K : PySem.W.Frag} {d it : Addr} {es : Array DictEntry} {n : Nat} {ks : List Str} {kvs : List (Str × PyData)}
theorem turn_mod {P : Program} {w : World} {tg : Expr} (hK : K.lookup d = some ⟨.type "dict", none, .dict es n, #[]⟩) (hl : es.size = ks.length) (hk : ∀ (i : Nat) (h : i < es.size), ∃ z t, ks[i]? = some z ∧ es[i].key = .str z t) : Turn P w K tg (ItM ks) [it] it (fun i h => h.IsKeyIter it d i es.size n) where
  mem := List.mem_singleton.mpr rfl
  obj := fun i h st b hb => by
    obtain rfl := List.mem_singleton.mp hb
    obtain ⟨o, q1, q2, q3⟩ := st
    exact ⟨o, q1, fun v z => by rw [q3] at z; cases z⟩
  keep := fun i h h' st k => let ⟨o, q1, q2⟩ := st; ⟨o, k it (List.mem_singleton.mpr rfl) o q1, q2⟩
  item := by
    intro X hP hw hK' hc i pins s σ H E I hf st hg
    subst hP hw hK'
    obtain ⟨f0, f1, f2, f3, f4, f5⟩ := hf it (List.mem_singleton.mpr rfl)
    have lt : i < es.size := by rw [hl]; exact hg
    obtain ⟨z, t, hz, ht⟩ := hk i lt
    have dr : s.heap.DictRaw d es n := ⟨_, I.kIn d _ hK, ⟨rfl, rfl, rfl⟩, rfl⟩
    refine PySem.wpAny_pyNext_keys_item_raw st dr lt fun h' st' sb => ⟨_, rfl, ?_⟩
    obtain ⟨oi, q1, q2, q3⟩ := id st'
    refine go_of (s := { s with heap := h' }) q1 q2 q3 (by decide) ⟨.str z, H, ?_, ⟨t, ht⟩, ⟨rfl, z, hz, rfl⟩, st', fun b hb => (hf b hb).1⟩
    exact I.turned (t' := s.toks) (fun b o nb q => (sb.2 b nb).trans q) f0 f1 f3 f4 f5
  done := by
    intro X hP hw hK' hc i pins s σ H E I hf st hg
    subst hP hw hK'
    obtain ⟨f0, f1, f2, f3, f4, f5⟩ := hf it (List.mem_singleton.mpr rfl)
    have dr : s.heap.DictRaw d es n := ⟨_, I.kIn d _ hK, ⟨rfl, rfl, rfl⟩, rfl⟩
    have ge : es.size ≤ i := by rw [hl]; exact hg
    exact PySem.wpAny_pyNext_keys_end_raw (I.ok.hd hc) st dr ge fun h' eb => ⟨rfl, I.turned (t' := s.toks) (fun b o nb q => eb b o nb q) f0 f1 f3 f4 f5⟩
  self := fun A i s Q E st h => wpAny_pyIter_keyiter st h
theorem pi_mod {X : Cx} {tg : Expr} {xd : Str} {pd : Pos} (hd : PE X (.Name xd pd) (tC (.ref d))) (M : ModD X.K d kvs) : PI X tg (.Name xd pd) (iMod (kvs.map (·.1))) := by
  refine ⟨fun pins s σ H R I h => ?_⟩
  obtain ⟨es, n, hK, hE, low⟩ := M
  obtain ⟨hl, hg⟩ := hE.get
  refine thn (hd.run pins s σ H (fun v H' => v = .ref d ∧ H' = H) I ⟨rfl, rfl⟩) fun u s1 ⟨v, H1, I1, r1, e1, e2⟩ => ?_
  subst e1 e2
  obtain rfl : u = Value.ref d := r1
  refine PySem.wpAny_pyIter_dict_raw low (⟨_, I1.kIn d _ hK, ⟨rfl, rfl, rfl⟩, rfl⟩ : s1.heap.DictRaw d es n) (pi_one (tk := s1.toks) I1 _ (turn_mod hK ?_ ?_) ⟨_, Heap.get?_push_size _ rfl, rfl, rfl⟩ h)
  · rw [List.length_map, ← hl]; simp
  · intro i hi
    obtain ⟨p, hp, t, v, q1, _⟩ := hg i es[i] (by simp [hi])
    exact ⟨p.1, t, by rw [List.getElem?_map, hp]; rfl, q1⟩
end
/-! ### text[::-1] -/
def tRevS (te : TE) : TE := fun σ H Q => te σ H fun x H1 => ∃ z : Str, x = .str z ∧ z.length ≤ sizeLine ∧ Q (.str ⟨z.cps.toList.reverse.toArray⟩) H1
section
variable {X : Cx}
theorem picked_rev (z : Str) (t : Tok) : (PySem.slicePicked z none none (some (-1, t))).filterMap (z.cps[·]?) = z.cps.toList.reverse := by
  show ((sliceRange ((z.cps.size : Int) - 1) (-1) (-1)).filterMap (z.cps[·]?)) = _
  rw [PySem.W.krv_sliceRange, PySem.W.krv_range, List.filterMap_reverse, PySem.W.krv_all]
theorem pe_revS {e : Expr} {te : TE} {k : Nat} {p1 p2 p3 pos : Pos} (he : PE X e te) : PE X (.Subscript e (.Slice none none (some (.UnaryOp .USub (.Constant (.int 1) k p1) p2)) p3) pos) (tRevS te) := by
  refine ⟨fun pins s σ H Q I h => ?_⟩
  refine Subscript_ (thn (he.run pins s σ H _ I h) fun v s1 ⟨x, H1, I1, r1, z, ex, hz, q⟩ => ?_)
  subst ex
  obtain ⟨t, rfl⟩ := r1
  have hst : PO X (some (.UnaryOp .USub (.Constant (.int 1) k p1) p2)) (tPart (tUn (rU fun i => .int (-i)) (tC (.int 1)))) := po_some (pe_un un_neg pe_int)
  refine wpAny_Slice (thn (po_none.run pins s1 σ H1 (fun o H2 => o = none ∧ H2 = H1) I1 ⟨rfl, rfl⟩) fun vl s2 ⟨l, H2, I2, pl, el, e2⟩ => ?_)
  subst el e2
  refine thn (po_none.run pins s2 σ H2 (fun o H3 => o = none ∧ H3 = H2) I2 ⟨rfl, rfl⟩) fun vu s3 ⟨u, H3, I3, pu, eu, e3⟩ => ?_
  subst eu e3
  refine thn (hst.run pins s3 σ H3 (fun o H4 => o = some (-1) ∧ H4 = H3) I3 ⟨1, rfl, -1, rfl, rfl, rfl⟩) fun vs s4 ⟨o, H4, I4, ps, eo, e4⟩ => ?_
  subst eo e4
  cases pl
  cases pu
  cases ps with
  | int i t4 =>
    have I5 : Inv X pins σ H4 { s4 with heap := s4.heap.push { cls := .type "slice", data := .fields #[.none, .none, .int (-1) t4] } } := I4.kept (t' := s4.toks) fun b ob q => Heap.get?_push_of_some _ q
    refine tail_any (ops := [.str z t, .ref s4.heap.objs.size]) (typeIs_str _ z t) (PySem.F.slot_str_getitem.lookup) ?_ (by with_unfolding_all rfl)
    refine PySem.wpAny_getItem_str_slice (l := none) (u := none) (st := some (-1, t4)) ⟨_, Heap.get?_push_size _ rfl, rfl, rfl⟩ rfl ?_
    unfold PySem.sliceMade
    rw [picked_rev]
    exact ⟨by show (z.cps.toList.reverse.toArray).size ≤ sizeLine; rw [List.size_toArray, List.length_reverse]; exact hz, ⟨.str _, H4, I5.tok _, ⟨_, rfl⟩, q⟩⟩
end
end L2

/-! the data layer: the module's dicts; text[::-1]; texts escaped -/
namespace DL
open PySem PySem.Spec PyProof.Rows L2 TL
section
variable {K : PySem.W.Frag} {Hs H Hs' H' : Hp} {σ σ' : St} {e e' : Env} {te : TE} {de : DE}
/-- a local that nothing reads any more is left without a value -/
theorem Fw.drop (f : Fw K Hs H σ e Hs' H' σ' e') {i : Nat} (hn : notPar e' i = true) : Fw K Hs H σ e Hs' H' (σ'.set i none) (e'.set i .no) := by
  have hl := notPar_lt hn
  have hl2 : i < σ'.length := by rw [f.st.len]; exact hl
  have back : ∀ {j : Nat} {a : Addr}, Held (σ'.set i none) (e'.set i .no) j a → j ≠ i ∧ Held σ' e' j a := fun {j a} h => by
    obtain ⟨h1, t, h2, h3⟩ := h
    by_cases hj : i = j
    · subst hj
      rw [List.getElem?_set_self hl] at h2
      cases h2
      cases h3
    · rw [List.getElem?_set_ne hj] at h1 h2
      exact ⟨fun z => hj z.symm, h1, t, h2, h3⟩
  refine ⟨⟨f.st.sub, by rw [List.length_set, List.length_set]; exact f.st.len, fun j t ht => ?_, fun j l a h1 h2 => f.st.dis j l a (back h1).2 (back h2).2⟩, f.go, fun j a h => f.held j a (back h).2, fun j o h => ?_⟩
  · by_cases hj : i = j
    · subst hj
      rw [List.getElem?_set_self hl] at ht
      cases ht
      exact ⟨none, List.getElem?_set_self hl2, trivial⟩
    · rw [List.getElem?_set_ne hj] at ht
      rw [List.getElem?_set_ne hj]
      exact f.st.rel j t ht
  · obtain ⟨h1, o', h2⟩ := f.par j o h
    have hj : i ≠ j := fun z => by
      subst z
      unfold notPar at hn
      rw [h2] at hn
      cases hn
    exact ⟨by rw [List.getElem?_set_ne hj]; exact h1, o', by rw [List.getElem?_set_ne hj]; exact h2⟩
theorem notPar_set {i j : Nat} (h : notPar e i = true) : notPar (e.set j .no) i = true := by
  have hl := notPar_lt h
  unfold notPar at h ⊢
  by_cases hj : j = i
  · subst hj
    rw [List.getElem?_set_self hl]
  · rw [List.getElem?_set_ne hj]
    exact h
theorem notPar_d {i : Nat} {d : PyData} (h : e[i]? = some (.d d)) : notPar e i = true := by unfold notPar; rw [h]
/-! ### the loop of a dict's pairs over a text -/
theorem repl_in {y z : List Nat} : ∀ (n : Nat) (l : List Nat) {c : Nat}, c ∈ StrLaws.replS y z n l → c ∈ l ∨ c ∈ z
  | n, [], c, h => by rw [StrLaws.replS] at h; cases h
  | 0, a :: r, c, h => by
    rw [StrLaws.replS] at h
    split at h
    · rcases List.mem_append.mp h with h | h
      · exact .inr h
      · rcases repl_in _ r h with q | q
        · exact .inl (List.mem_cons_of_mem _ q)
        · exact .inr q
    · rcases List.mem_cons.mp h with rfl | h
      · exact .inl (List.mem_cons_self ..)
      · rcases repl_in _ r h with q | q
        · exact .inl (List.mem_cons_of_mem _ q)
        · exact .inr q
  | n + 1, a :: r, c, h => by
    rw [StrLaws.replS] at h
    rcases repl_in _ r h with q | q
    · exact .inl (List.mem_cons_of_mem _ q)
    · exact .inr q
theorem ok_repl {x y z : Str} (hy : 1 ≤ y.length) (hx : PyData.strOk x = true) (hz : PyData.strOk z = true) : PyData.strOk (Txt.replace x y z) = true := strOk_iff.mpr fun c hc => by
  have hc : c ∈ (Txt.replace x y z).cps.toList := hc
  rw [StrLaws.replace_list hy] at hc
  rcases repl_in _ _ hc with q | q
  · exact strOk_iff.mp hx c q
  · exact strOk_iff.mp hz c q
def escOk (kvs : List (Str × Str)) : Bool := kvs.all fun p => decide (1 ≤ p.1.length) && PyData.strOk p.2
theorem ok_escF : ∀ {kvs : List (Str × Str)} {x : Str}, escOk kvs = true → PyData.strOk x = true → PyData.strOk (escF kvs x) = true
  | [], x, _, h => h
  | p :: r, x, hk, h => by
    have hk : (decide (1 ≤ p.1.length) && PyData.strOk p.2 && escOk r) = true := by unfold escOk at hk ⊢; rwa [List.all_cons] at hk
    rw [Bool.and_eq_true, Bool.and_eq_true, decide_eq_true_eq] at hk
    exact ok_escF (kvs := r) hk.2 (ok_repl hk.1.1 h hk.1.2)
def dEsc (i j l : Nat) (kvs : List (Str × Str)) : DS := fun D e => ∃ x, e[l]? = some (.d (.str x)) ∧ escFit kvs x ∧ (escF kvs x).length ≤ sizeLine ∧ notPar e i = true ∧ notPar e j = true ∧ D.nx (((e.set i .no).set j .no).set l (.d (.str (escF kvs x))))
theorem sim_esc (i j l : Nat) {kvs : List (Str × Str)} (hk : escOk kvs = true) : SimS K (tEsc i j l kvs) (dEsc i j l kvs) := fun Hs H σ e D dD s hu S => by
  obtain ⟨x, h1, h2, h3, h4, h5, hq⟩ := hu
  obtain ⟨o, ho, v, rfl, hv⟩ := s.rel l _ h1
  obtain ⟨hv, hw⟩ := hv
  have w := wf_str.mp hw
  cases hv
  refine ⟨x, ho, h2, S.nx _ Hs H _ ?_ hq⟩
  have f2 := ((Fw.refl s).drop h4).drop (notPar_set h5)
  exact f2.setD (i := l) (s := .d (.str (escF kvs x))) (w := .str (escF kvs x)) (notPar_set (notPar_set (notPar_d h1))) ⟨_, rfl, .str _, wf_str.mpr ⟨h3, ok_escF hk w.2⟩⟩ rfl
/-! ### the module's dict -/
def iModD (ks : List Str) : DI := fun e k => k (ks.map .str) e
theorem sim_mod {ks : List Str} (hw : (ks.all fun z => wfD (.str z)) = true) : SimI K (iMod ks) (iModD ks) := fun Hs H σ e R k s hu c =>
  c (ItM ks) (ks.map .str) Hs H e (Fw.refl s) (fun Hs' H' s1 s2 => by
    refine ⟨fun i x hx => ?_, by show ks.length ≤ (ks.map PyData.str).length; rw [List.length_map]; exact Nat.le_refl _⟩
    rw [List.getElem?_map] at hx
    obtain ⟨z, hz, rfl⟩ := Option.map_eq_some_iff.mp hx
    refine ⟨(List.getElem?_eq_some_iff.mp hz).1, fun v H2 y => ?_⟩
    obtain ⟨rfl, z', hz', rfl⟩ := y
    rw [hz] at hz'
    cases hz'
    exact ⟨Hs', GoP.refl, s2, .str _, List.all_eq_true.mp hw z (List.mem_of_getElem? hz)⟩) hu
/-- text in the dict -/
def dInM (kvs : List (Str × PyData)) (neg : Bool) (da : DE) : DE := fun e k => da e fun x e1 => ∃ z, see e1 x = some (.str z) ∧ k (.d (.bool ((lookM kvs z).isSome != neg))) e1
abbrev zInM (K : PySem.W.Frag) (d : Addr) : R2 := fun x y H Q => ∃ (z : Str) (r : Option Value), x = .str z ∧ y = .ref d ∧ PySem.W.nsIn K d z = some r ∧ Q (.bl r.isSome) H
abbrev zNotInM (K : PySem.W.Frag) (d : Addr) : R2 := fun x y H Q => ∃ (z : Str) (r : Option Value), x = .str z ∧ y = .ref d ∧ PySem.W.nsIn K d z = some r ∧ Q (.bl (!r.isSome)) H
theorem sim_inM {a : Addr} {kvs : List (Str × PyData)} (M : ModD K a kvs) (he : SimE K te de) : SimE K (tOp (zInM K a) te (tC (.ref a))) (dInM kvs false de) := fun Hs H σ e Q k s hu c =>
  he Hs H σ e _ _ s hu fun v x Hs1 H1 e1 f1 r1 h1 => by
    obtain ⟨z, hz, hk⟩ := h1
    obtain ⟨rfl, _⟩ := (sees_of f1.st r1 hz).str
    obtain ⟨r, q1, q2, _⟩ := M.ns z
    refine ⟨z, r, rfl, rfl, q1, ?_⟩
    rw [q2]
    exact c _ (.d (.bool (lookM kvs z).isSome)) _ _ _ f1 ⟨.bl _, rfl⟩ (by rw [Bool.bne_false] at hk; exact hk)
theorem sim_notInM {a : Addr} {kvs : List (Str × PyData)} (M : ModD K a kvs) (he : SimE K te de) : SimE K (tOp (zNotInM K a) te (tC (.ref a))) (dInM kvs true de) := fun Hs H σ e Q k s hu c =>
  he Hs H σ e _ _ s hu fun v x Hs1 H1 e1 f1 r1 h1 => by
    obtain ⟨z, hz, hk⟩ := h1
    obtain ⟨rfl, _⟩ := (sees_of f1.st r1 hz).str
    obtain ⟨r, q1, q2, _⟩ := M.ns z
    refine ⟨z, r, rfl, rfl, q1, ?_⟩
    rw [q2]
    exact c _ (.d (.bool (!(lookM kvs z).isSome))) _ _ _ f1 ⟨.bl _, rfl⟩ (by rw [Bool.bne_true] at hk; exact hk)
/-- dict[text] -/
def dIxM (kvs : List (Str × PyData)) (da : DE) : DE := fun e k => da e fun x e1 => ∃ z d, see e1 x = some (.str z) ∧ lookM kvs z = some d ∧ k (.d d) e1
theorem sim_ixM {w : World} {a : Addr} {kvs : List (Str × PyData)} (M : ModD K a kvs) (hl : ∀ es n, K.lookup a = some ⟨.type "dict", none, .dict es n, #[]⟩ → PySem.W.KeysLit w.params es.toList) (he : SimE K te de) : SimE K (tOp (rIxD K w) (tC (.ref a)) te) (dIxM kvs de) := fun Hs H σ e Q k s hu c =>
  he Hs H σ e _ _ s hu fun v x Hs1 H1 e1 f1 r1 h1 => by
    obtain ⟨z, d, hz, hd, hk⟩ := h1
    obtain ⟨rfl, _⟩ := (sees_of f1.st r1 hz).str
    obtain ⟨r, q1, _, q3⟩ := M.ns z
    obtain ⟨u, v', rfl, q4, q5⟩ := q3 d hd
    obtain ⟨es, n, h1, h2, h3⟩ := M
    exact ⟨a, z, v', rfl, rfl, ⟨es, n, u, h1, hl es n h1, q1, q4⟩, c _ (.d d) _ _ _ f1 (q5 _) hk⟩
/-! ### text[::-1] -/
def revS (z : Str) : Str := mkS (tl z).reverse
def dRevS (da : DE) : DE := fun e k => da e fun x e1 => ∃ z, see e1 x = some (.str z) ∧ k (.d (.str (revS z))) e1
theorem sim_revS (he : SimE K te de) : SimE K (tRevS te) (dRevS de) := fun Hs H σ e Q k s hu c =>
  he Hs H σ e _ _ s hu fun v x Hs1 H1 e1 f1 r1 h1 => by
    obtain ⟨z, hz, hk⟩ := h1
    obtain ⟨rfl, l1, o1⟩ := (sees_of f1.st r1 hz).str
    refine ⟨z, rfl, l1, c _ (.d (.str (revS z))) _ _ _ f1 ⟨.str _, wf_str.mpr ⟨?_, ?_⟩⟩ hk⟩
    · unfold revS; rw [len_mkS, List.length_reverse, ← len_tl]; exact l1
    · exact ok_sub o1 fun c hc => by unfold revS at hc; rw [tl_mkS] at hc; exact List.mem_reverse.mp hc
end
section
variable {e : Env} {k : DK} {x : SV} {d : PyData} {nx bk ct : Env → Prop} {rt : SV → Env → Prop} {de : DE} {kvs : List (Str × PyData)} {neg : Bool} {z : Str} {kl : List PyData → Env → Prop} {ks : List Str}
theorem z_esc {i j l : Nat} {q : List (Str × Str)} (h1 : e[l]? = some (.d (.str z))) (h2 : escFit q z) (h3 : (escF q z).length ≤ sizeLine) (h4 : notPar e i = true) (h5 : notPar e j = true) (hq : atE (((e.set i .no).set j .no).set l (.d (.str (escF q z)))) nx) : dEsc i j l q ⟨nx, rt, bk, ct⟩ e := ⟨z, h1, h2, h3, h4, h5, hq⟩
theorem z_modk (q : kl (ks.map .str) e) : iModD ks e kl := q
theorem z_inM (q : de e fun x e1 => ∃ z, see e1 x = some (.str z) ∧ k (.d (.bool ((lookM kvs z).isSome != neg))) e1) : dInM kvs neg de e k := q
theorem z_ixM (q : de e fun x e1 => ∃ z d, see e1 x = some (.str z) ∧ lookM kvs z = some d ∧ k (.d d) e1) : dIxM kvs de e k := q
theorem z_revS (q : de e fun x e1 => ∃ z, see e1 x = some (.str z) ∧ k (.d (.str (revS z))) e1) : dRevS de e k := q
theorem z_seeS {P : Str → Prop} (h : see e x = some (.str z)) (q : P z) : ∃ z, see e x = some (.str z) ∧ P z := ⟨z, h, q⟩
theorem z_seeM {P : PyData → Prop} (h : see e x = some (.str z)) (q : ∃ d, lookM kvs z = some d ∧ P d) : ∃ z d, see e x = some (.str z) ∧ lookM kvs z = some d ∧ P d := let ⟨d, q1, q2⟩ := q; ⟨z, d, h, q1, q2⟩
end
end DL

/-! the data layer: small rules; list.count, max(a list) -/
namespace L2
open PySem PySem.Spec PyProof.Rows
def cntD (d : PyData) (ds : List PyData) : Nat := ds.countP fun y => PyData.eqv y d
def rCntD (K : PySem.W.Frag) : V → List V → Hp → VK → Prop := fun x xs H Q => ∃ (y : V) (ds : List PyData) (d : PyData), xs = [y] ∧ Dp K H x (.list ds) ∧ Dp K H y d ∧ SeqAt.shaped (.list ds) = true ∧ SeqAt.shaped d = true ∧ Q (.int (cntD d ds : Nat)) H
theorem cnt_by_data {s : Shared} {vs : Array Value} {xs : List PyData} {as : List Addr} {d : PyData} (rs : ReadsAll s.heap vs.toList xs as) (hxs : PyData.canLayAll0 xs = true) :
    vs.toList.countP (fun y => PyData.eqv (SeqAt.readOf s.heap y) d) = cntD d xs := by
  unfold cntD
  rw [← SeqAt.readsAll_map xs _ _ hxs rs, List.countP_map]
  rfl
theorem mt_lcountD {X : Cx} (un : X.A.units + 65 < cLine) : MtR X "list.count" (rCntD X.K) := by
  intro pins s σ H x xs v us Q I rx rxs h
  obtain ⟨y, ds, d, rfl, dx, dy, sx, sy, q⟩ := h
  obtain ⟨u, rfl, ru⟩ := rxs.one
  obtain ⟨as, r1⟩ := Dp.reads I (.list ds) x v dx rx
  obtain ⟨bs, r2⟩ := Dp.reads I d y u dy ru
  have hx := SeqAt.canLay_of_shaped sx
  rw [PyData.canLay0] at hx
  cases r1 with
  | @list a o items n _ as1 h1 h2 h3 h4 =>
    obtain ⟨cls, dd, data, sl⟩ := o
    have h2 : cls = _ := h2
    have h3 : data = _ := h3
    subst h2 h3
    refine call_meets PySem.F.slot_list_count ⟨_, h1, rfl⟩ PySem.F.entry_list_count (PySem.F.args_list_count_2 _ _)
      (SeqAt.list_countAt _ _ _ _ _ u _) ⟨h1, SeqAt.items_eqAt h4 r2 hx (SeqAt.canLay_of_shaped sy) (by
        have h2 : d.depth ≤ 64 := by
          unfold SeqAt.shaped at sy
          simp only [Bool.and_eq_true, decide_eq_true_eq] at sy
          first | exact sy.2 | exact sy.1
        omega), ?_⟩
    refine ⟨.int (cntD d ds : Nat), H, I.tok _, ⟨s.toks, ?_⟩, q⟩
    rw [cnt_by_data h4 hx]
/-- repr(x), x any data -/
def zReprA (K : PySem.W.Frag) (zs : List V) (H : Hp) (Q : VK) : Prop := ∃ v d, zs = [v] ∧ Dp K H v d ∧ PyData.showable d = true ∧ PyData.hasDict d = false ∧ PyData.depth d ≤ 60 ∧ (PyData.shown d).length ≤ sizeLine ∧ Q (.str (PyData.shown d)) H
theorem call_reprA {X : Cx} (gd : X.A.guards = some []) (un : X.A.units + 64 < cLine) : CallR X (.builtin "repr") (zReprA X.K) := by
  rintro pins s σ H zs us Q I r ⟨v, d, rfl, hd, h1, h2, h3, h4, q⟩
  cases hd with
  | non =>
    obtain ⟨u, rfl, ru⟩ := vals1 r
    cases ru
    rw [PyData.shown_none] at q
    exact PySem.P.repr_of_none ⟨.str _, H, I.tok _, ⟨_, rfl⟩, q⟩
  | bl b =>
    obtain ⟨u, rfl, ru⟩ := vals1 r
    cases ru
    rw [PyData.shown_bool] at q
    refine PySem.P.repr_of_bool ⟨.str _, H, I.tok _, ⟨s.toks, ?_⟩, q⟩
    cases b <;> rfl
  | int i =>
    obtain ⟨u, rfl, t, rfl⟩ := vals1 r
    rw [PyData.shown_int] at q
    rw [PyData.showable] at h1
    exact PySem.P.repr_of_int (of_decide_eq_true h1) ⟨.str _, H, I.tok _, ⟨_, rfl⟩, q⟩
  | str x =>
    obtain ⟨u, rfl, t, rfl⟩ := vals1 r
    rw [PyData.shown_str] at q h4
    exact PySem.call_repr_gives (typeIs_str s x t) PySem.F.slot_str_repr PySem.F.entry_str_repr (PySem.F.args_str_repr_1 _) (gives_str_repr x t) ⟨.str _, H, I.tok _, ⟨_, rfl⟩, q⟩ (hx := h4)
  | lst a b => exact call_reprG gd un pins s σ H _ us Q I r ⟨_, _, rfl, .lst a b, h1, h2, h3, h4, q⟩
  | tup a b => exact call_reprG gd un pins s σ H _ us Q I r ⟨_, _, rfl, .tup a b, h1, h2, h3, h4, q⟩
end L2
namespace DL
open PySem PySem.Spec PyProof.Rows L2 TL
section
variable {e e1 e' : Env} {k : DK} {x y : SV} {d d' : PyData} {nx bk ct : Env → Prop} {rt : SV → Env → Prop} {da : DE} {aa : DA} {kn : Env → Prop} {ks : SV → Prop} {ds es : List PyData}
theorem z_ifc {b c : Bool} {P R : Prop} (h : b = c) (q : if c = true then P else R) : if b = true then P else R := by rw [h]; exact q
theorem z_parA {i j : Nat} (q : aa e fun xs e1 => ∃ x y, xs = [x, y] ∧ keepable x = true ∧ keepable y = true ∧ notPar e1 i = true ∧ notPar (e1.set i x) j = true ∧ atE ((e1.set i x).set j y) nx) : sPar i j aa ⟨nx, rt, bk, ct⟩ e := q
theorem z_parEA {i j : Nat} (k1 : keepable x = true) (k2 : keepable y = true) (n1 : notPar e i = true) (n2 : notPar (e.set i x) j = true) (q : atE ((e.set i x).set j y) kn) : ∃ x' y', [x, y] = [x', y'] ∧ keepable x' = true ∧ keepable y' = true ∧ notPar e i = true ∧ notPar (e.set i x') j = true ∧ atE ((e.set i x').set j y') kn := ⟨x, y, rfl, k1, k2, n1, n2, q⟩
theorem z_par3A {i j l : Nat} (q : aa e fun xs e1 => ∃ x y z, xs = [x, y, z] ∧ keepable x = true ∧ keepable y = true ∧ keepable z = true ∧ notPar e1 i = true ∧ notPar (e1.set i x) j = true ∧ notPar ((e1.set i x).set j y) l = true ∧ atE (((e1.set i x).set j y).set l z) nx) : sPar3 i j l aa ⟨nx, rt, bk, ct⟩ e := q
theorem z_par3EA {i j l : Nat} {z : SV} (k1 : keepable x = true) (k2 : keepable y = true) (k3 : keepable z = true) (n1 : notPar e i = true) (n2 : notPar (e.set i x) j = true) (n3 : notPar ((e.set i x).set j y) l = true) (q : atE (((e.set i x).set j y).set l z) kn) : ∃ x' y' z', [x, y, z] = [x', y', z'] ∧ keepable x' = true ∧ keepable y' = true ∧ keepable z' = true ∧ notPar e i = true ∧ notPar (e.set i x') j = true ∧ notPar ((e.set i x').set j y') l = true ∧ atE (((e.set i x').set j y').set l z') kn := ⟨x, y, z, rfl, k1, k2, k3, n1, n2, n3, q⟩
theorem z_augA {i : Nat} {f : DR2} (h : e[i]? = some (.d d)) (q : da e fun y e1 => ∃ b, see e1 y = some b ∧ f d b fun z => ∃ d, z = .d d ∧ notPar e1 i = true ∧ atE (e1.set i (.d d)) nx) : sAug i da f ⟨nx, rt, bk, ct⟩ e := ⟨d, h, q⟩
theorem z_augEA {n : Nat} (h : notPar e n = true) (q : atE (e.set n (.d d)) kn) : ∃ c, SV.d d = .d c ∧ notPar e n = true ∧ atE (e.set n (.d c)) kn := ⟨d, rfl, h, q⟩
theorem eqv_nilL (ds : List PyData) : PyData.eqv (.list ds) (.list []) = ds.isEmpty := by
  cases ds with
  | nil => rfl
  | cons a r => simp [PyData.eqv, PyData.eqvAll]
theorem eqv_nilT (ds : List PyData) : PyData.eqv (.tuple ds) (.tuple []) = ds.isEmpty := by
  cases ds with
  | nil => rfl
  | cons a r => simp [PyData.eqv, PyData.eqvAll]
theorem z_neNil (h : PyData.depth (.list ds) ≤ 64) (q : ks (.d (.bool (!ds.isEmpty)))) : dNe (.list ds) (.list []) ks := ⟨h, by decide, by rw [eqv_nilL]; exact q⟩
theorem z_eqNil (h : PyData.depth (.list ds) ≤ 64) (q : ks (.d (.bool ds.isEmpty))) : dEq (.list ds) (.list []) ks := ⟨h, by decide, by rw [eqv_nilL]; exact q⟩
theorem z_neNilT (h : PyData.depth (.tuple ds) ≤ 64) (q : ks (.d (.bool (!ds.isEmpty)))) : dNe (.tuple ds) (.tuple []) ks := ⟨h, by decide, by rw [eqv_nilT]; exact q⟩
theorem z_eqNilT (h : PyData.depth (.tuple ds) ≤ 64) (q : ks (.d (.bool ds.isEmpty))) : dEq (.tuple ds) (.tuple []) ks := ⟨h, by decide, by rw [eqv_nilT]; exact q⟩
theorem z_mulT2 {n : Int} (h1 : ds ≠ []) (h2 : 2 ≤ n) (h3 : n ≤ 1000) (h4 : ds.length ≤ 1000) (q : ks (.d (.tuple (repD n ds)))) : dMul2 (.tuple ds) (.int n) ks := ⟨h1, h2, h3, h4, q⟩
def dCount (j : Nat) (da : DE) : DE := fun e k => isLst e j ∧ da e fun x e1 => ∃ ds d, conS e1 j = some (.lst ds) ∧ see e1 x = some d ∧ PyData.depth (.list ds) ≤ 64 ∧ PyData.depth d ≤ 64 ∧ k (.d (.int (cntD d ds : Nat))) e1
theorem sim_count {K : PySem.W.Frag} {ta : TE} {j : Nat} (ha : SimE K ta da) : SimE K (tBM K "list" (rCntD K) (tVar j) (tCons ta tNil)) (dCount j da) := fun Hs H σ e Q k s hu c => by
  obtain ⟨hl, hu⟩ := hu
  obtain ⟨a, hx, ty⟩ := tyL_at s hl
  refine ⟨_, hx, ty, ha Hs H σ e _ _ s hu fun w y Hs2 H2 e2 f2 r2 h2 => ?_⟩
  obtain ⟨ds, d, hc, hs, l1, l2, hk⟩ := h2
  obtain ⟨hh, vs, h3, h4, h5⟩ := con_at f2.st hc hx
  have S1 : Sees K Hs2 H2 (.ref a) (.list ds) := .l h3 h4 h5
  have S2 := sees_of f2.st r2 hs
  exact ⟨w, ds, d, rfl, S1.dp f2.st.sub, S2.dp f2.st.sub, wf_shaped S1.wf l1, wf_shaped S2.wf l2, c _ (.d (.int _)) _ _ _ f2 ⟨.int _, rfl⟩ hk⟩
theorem z_count {j : Nat} (h : isLst e j) (q : da e fun x e1 => ∃ ds d, conS e1 j = some (.lst ds) ∧ see e1 x = some d ∧ PyData.depth (.list ds) ≤ 64 ∧ PyData.depth d ≤ 64 ∧ k (.d (.int (cntD d ds : Nat))) e1) : dCount j da e k := ⟨h, q⟩
def dReprA : DRs := fun ds k => ∃ d, ds = [d] ∧ PyData.showable d = true ∧ PyData.depth d ≤ 60 ∧ (PyData.shown d).length ≤ sizeLine ∧ k (.d (.str (PyData.shown d)))
theorem sr_reprA {K : PySem.W.Frag} : SimRs K (zReprA K) dReprA := fun Hs H vs ds k Q sb h1 h3 o => by
  obtain ⟨d, rfl, a1, a2, a3, h3⟩ := h3
  obtain ⟨v, rfl, h9⟩ := h1.one
  exact ⟨v, d, rfl, h9.dp sb, a1, noDict _ h9.wf, a2, a3, o.str h3 a3 (ok_shown _ h9.wf)⟩
/-- max(a list of ints) -/
def maxI : List Int → Int
  | [] => 0
  | [a] => a
  | a :: r => max a (maxI r)
theorem maxI_mem : ∀ {ns : List Int}, ns ≠ [] → maxI ns ∈ ns ∧ ∀ y ∈ ns, y ≤ maxI ns
  | [], h => absurd rfl h
  | [a], _ => ⟨by simp [maxI], by simp [maxI]⟩
  | a :: b :: r, _ => by
    obtain ⟨h1, h2⟩ := maxI_mem (ns := b :: r) (by simp)
    show max a (maxI (b :: r)) ∈ _ ∧ ∀ y ∈ _, y ≤ max a (maxI (b :: r))
    refine ⟨?_, fun y hy => ?_⟩
    · rcases Int.le_total a (maxI (b :: r)) with h | h
      · rw [Int.max_eq_right h]; exact List.mem_cons_of_mem _ h1
      · rw [Int.max_eq_left h]; simp
    · rcases List.mem_cons.mp hy with rfl | hy
      · exact Int.le_max_left _ _
      · exact Int.le_trans (h2 y hy) (Int.le_max_right _ _)
def dMaxL : DRs := fun ds k => ∃ ns : List Int, ds = [.list (ns.map .int)] ∧ ns ≠ [] ∧ k (.d (.int (maxI ns)))
theorem sr_maxL {K : PySem.W.Frag} : SimRs K (rMax K) dMaxL := fun Hs H vs ds k Q sb h1 h3 o => by
  obtain ⟨ns, rfl, hne, h3⟩ := h3
  obtain ⟨v, rfl, h⟩ := h1.one
  obtain ⟨p, ws, rfl, e1, d1, l1⟩ := h.lst sb
  rw [d1.1.of_ints] at e1
  refine ⟨p, ns, rfl, SqL.of e1, List.length_pos_iff.mpr hne, fun m hm hm2 => ?_⟩
  obtain ⟨g1, g2⟩ := maxI_mem hne
  have : m = maxI ns := Int.le_antisymm (g2 m hm) (hm2 _ g1)
  rw [this]
  exact o.int h3
theorem z_maxL {ns : List Int} (e : ds = ns.map .int) (hne : ns ≠ []) (q : ks (.d (.int (maxI ns)))) : dMaxL [.list ds] ks := ⟨ns, by rw [e], hne, q⟩
theorem atI_zero {α : Type} (a : α) (r : List α) : atI (a :: r) 0 = some a := atI_nat (show (a :: r)[0]? = some a from rfl)
end
theorem deep_le {n : Nat} : ∀ {ds : List PyData}, (∀ d ∈ ds, PyData.depth d ≤ n) → PyData.depthAll ds ≤ n
  | [], _ => by unfold PyData.depthAll; exact Nat.zero_le _
  | d :: ds, h => by
    have h1 := h d (by simp)
    have h2 := deep_le (ds := ds) fun x hx => h x (by simp [hx])
    unfold PyData.depthAll
    exact Nat.max_le.mpr ⟨h1, h2⟩
theorem deep_list {n : Nat} {ds : List PyData} (h : ∀ d ∈ ds, PyData.depth d ≤ n) : PyData.depth (.list ds) ≤ n + 1 := by
  have := deep_le h
  unfold PyData.depth
  omega
theorem deep_tuple {n : Nat} {ds : List PyData} (h : ∀ d ∈ ds, PyData.depth d ≤ n) : PyData.depth (.tuple ds) ≤ n + 1 := by
  have := deep_le h
  unfold PyData.depth
  omega
end DL

/-! a tuple's [::-1] -/
namespace L2
open PySem PySem.Spec PyProof.Rows
open HT
theorem rev_adjust (n : Nat) : Builtin.Slice.sliceAdjust none none (-1) (n : Int) = ((n : Int) - 1, -1) := by
  unfold Builtin.Slice.sliceAdjust
  rfl
theorem rev_places (n : Nat) : Builtin.Slice.slicePlaces ((n : Int) - 1) (-1) (-1) = n := by
  unfold Builtin.Slice.slicePlaces
  rw [if_neg (by decide)]
  rw [show (- -1 : Int) = 1 by decide, Int.ediv_one]
  split <;> omega
theorem rev_pick (xs : Array Value) : (List.range xs.size).filterMap (fun (k : Nat) => xs[((xs.size : Int) - 1 + (k : Int) * -1).toNat]?) = xs.toList.reverse := by
  have h := congrArg List.toArray (rfl : xs.toList.reverse = xs.toList.reverse)
  have e : (List.range xs.size).filterMap (fun (k : Nat) => xs[((xs.size : Int) - 1 + (k : Int) * -1).toNat]?) = ((List.range xs.size).map (fun k => xs.size - 1 - k)).filterMap (xs[·]?) := by
    rw [List.filterMap_map]
    have g : ∀ l : List Nat, (∀ k ∈ l, k < xs.size) → l.filterMap (fun (k : Nat) => xs[((xs.size : Int) - 1 + (k : Int) * -1).toNat]?) = l.filterMap ((fun x => xs[x]?) ∘ fun k => xs.size - 1 - k) := fun l => by
      induction l with
      | nil => intro _; rfl
      | cons a r ih =>
        intro h
        have ha := h a (by simp)
        have e1 : ((xs.size : Int) - 1 + (a : Int) * -1).toNat = xs.size - 1 - a := by omega
        rw [List.filterMap_cons, List.filterMap_cons, ih fun k hk => h k (by simp [hk]), e1]
        rfl
    exact g _ fun k hk => List.mem_range.mp hk
  rw [e, PySem.W.krv_range, List.filterMap_reverse, PySem.W.krv_all]
section
variable {prog : Program} {w : World} {A : Around} {E : Value → Shared → Prop} {s : Shared}
theorem rev_applied {sl : Addr} {v1 : Value} {n : Nat} {Q : Int × Int × Nat → Shared → Prop} (hs : s.heap.IsSliceOf sl .none .none v1) (p1 : IsPart v1 (some (-1)))
    (h : Q ((n : Int) - 1, -1, n) s) : wpAny (model prog w) A (Builtin.Slice.sliceApplied (.ref sl) (pure (n : Int))) Q E s := by
  obtain ⟨os, hos, hcs, hds⟩ := id hs
  unfold Builtin.Slice.sliceApplied Builtin.Slice.sliceFields
  refine wpAny_bind (wpAny_bind (wpAny_field hos hds (x := .none) rfl (wpAny_bind (wpAny_field hos hds (x := .none) rfl (wpAny_bind (wpAny_field hos hds (x := v1) rfl (wpAny_pure ?_)))))))
  refine wpAny_bind (slicePart_ p1 ?_)
  show wpAny _ _ (if ((-1 : Int) == 0) = true then _ else _) _ _ s
  rw [if_neg (by decide)]
  refine wpAny_bind (slicePart_ .none (wpAny_bind (slicePart_ .none (wpAny_bind (wpAny_pure ?_)))))
  show wpAny _ _ (match Builtin.Slice.sliceAdjust none none (-1) (n : Int) with | (lo, hi) => pure (lo, (-1 : Int), Builtin.Slice.slicePlaces lo hi (-1))) _ _ s
  rw [rev_adjust]
  show wpAny _ _ (pure ((n : Int) - 1, (-1 : Int), Builtin.Slice.slicePlaces ((n : Int) - 1) (-1) (-1))) _ _ s
  rw [rev_places]
  exact wpAny_pure h
theorem getItem_tuple_rev {t sl : Addr} {items : Array Value} {v1 : Value} {Q : Value → Shared → Prop} (ht : IsTup s.heap t items) (hs : s.heap.IsSliceOf sl .none .none v1) (p1 : IsPart v1 (some (-1)))
    (h : Q (.ref s.heap.objs.size) { s with heap := s.heap.push { cls := .type "tuple", data := .seq items.toList.reverse.toArray } })
    (hsz : items.size ≤ sizeLine) : wpAny (model prog w) A (getItem (.ref t) (.ref sl)) Q E s := by
  have htake : sizeOk (.seq items.toList.reverse.toArray) := by
    show items.toList.reverse.toArray.size ≤ sizeLine
    rw [List.size_toArray, List.length_reverse, Array.length_toList]
    exact hsz
  obtain ⟨os, hos, hcs, hds⟩ := id hs
  have hTs : s.TypeIs (.ref sl) "slice" := ⟨os, hos, hcs⟩
  unfold getItem
  try with_reducible refine wpAny_holding ?_
  first | refine wpAny_bind (wpAny_pure ?_) | skip
  refine wpAny_bind (wpAny_sequenceKey ht.typeIs (by decide) ?_)
  refine wpAny_bind (wpAny_callSpecial?_slot (name := Str.ofString "__getitem__") ht.typeIs PyProof.Rows.slot_tuple_getitem
    (wpAny_call_entry PyProof.Rows.slot_tuple_getitem ht.typeIs entry_tuple_getitem ?_ (args_tuple_getitem _ _)))
  show wpAny _ _ (Builtin.Tuple.tupleItemsOf (.ref t) >>= _) _ _ s
  refine wpAny_bind (tupleItemsOf_ ht ?_)
  refine wpAny_bind (wpAny_typeOf hTs ?_)
  rw [if_pos (by decide)]
  refine wpAny_bind (rev_applied hs p1 ?_)
  have hno : ¬ ((((items.size : Int) - 1 == 0) && (-1 : Int) == 1 && items.size == items.size) = true) := by
    intro q
    rw [Bool.and_eq_true, Bool.and_eq_true] at q
    exact absurd (eq_of_beq q.1.2) (by decide)
  show wpAny _ _ (if (((items.size : Int) - 1 == 0) && (-1 : Int) == 1 && items.size == items.size) = true then _ else _) _ _ s
  rw [if_neg hno, rev_pick]
  first
    | exact wpAny_bind (m := Builtin.Tuple.tupleExact _) (wpAny_newObj_type (wpAny_pure ⟨_, rfl, wpAny_pure h⟩) htake)
    | exact wpAny_bind (m := Builtin.Tuple.tupleExact _) (wpAny_newObj_type (wpAny_bind (wpAny_pure (wpAny_pure ⟨_, rfl, wpAny_pure h⟩))) htake)
    | exact wpAny_bind (wpAny_bind (m := Builtin.Tuple.tupleExact _) (wpAny_newObj_type (wpAny_pure (wpAny_pure ⟨_, rfl, wpAny_pure h⟩)) htake))
    | exact wpAny_bind (wpAny_bind (m := Builtin.Tuple.tupleExact _) (wpAny_newObj_type (wpAny_pure ⟨_, rfl, wpAny_pure h⟩) htake))
end
def tRevT (K : PySem.W.Frag) (te : TE) : TE := fun σ H Q => te σ H fun x H1 => ∃ a xs, x = .ref a ∧ SqT K H1 a xs ∧ ∀ p, H1 p = none → Q (.ref p) (upd H1 p (.tup xs.reverse))
section
variable {X : Cx}
theorem pe_revT {e : Expr} {te : TE} {k : Nat} {p1 p2 p3 pos : Pos} (he : PE X e te) : PE X (.Subscript e (.Slice none none (some (.UnaryOp .USub (.Constant (.int 1) k p1) p2)) p3) pos) (tRevT X.K te) := by
  refine ⟨fun pins s σ H Q I h => ?_⟩
  refine Subscript_ (thn (he.run pins s σ H _ I h) fun v s1 ⟨x, H1, I1, r1, q1⟩ => ?_)
  obtain ⟨a, xs, ex, hx, q⟩ := q1
  subst ex
  cases r1
  have hst : PO X (some (.UnaryOp .USub (.Constant (.int 1) k p1) p2)) (tPart (tUn (rU fun i => .int (-i)) (tC (.int 1)))) := po_some (pe_un un_neg pe_int)
  refine wpAny_Slice (thn (po_none.run pins s1 σ H1 (fun o H2 => o = none ∧ H2 = H1) I1 ⟨rfl, rfl⟩) fun vl s2 ⟨l, H2, I2, pl, el, e2⟩ => ?_)
  subst el e2
  refine thn (po_none.run pins s2 σ H2 (fun o H3 => o = none ∧ H3 = H2) I2 ⟨rfl, rfl⟩) fun vu s3 ⟨u, H3, I3, pu, eu, e3⟩ => ?_
  subst eu e3
  refine thn (hst.run pins s3 σ H3 (fun o H4 => o = some (-1) ∧ H4 = H3) I3 ⟨1, rfl, -1, rfl, rfl, rfl⟩) fun vs s4 ⟨o, H4, I4, ps, eo, e4⟩ => ?_
  subst eo e4
  cases pl
  cases pu
  have I5 : Inv X pins σ H4 { s4 with heap := s4.heap.push { cls := .type "slice", data := .fields #[.none, .none, vs] } } := I4.kept (t' := s4.toks) fun b ob q => Heap.get?_push_of_some _ q
  obtain ⟨its, r, ht, hz⟩ := I5.tuple hx
  show wpAny (model X.prog X.w) X.A (subscriptTail e (.Slice none none (some (.UnaryOp .USub (.Constant (.int 1) k p1) p2)) p3) (.ref a) (.ref s4.heap.objs.size)) (EP X pins σ Q) X.xe { s4 with heap := s4.heap.push { cls := .type "slice", data := .fields #[.none, .none, vs] } }
  refine tail_any (ops := [.ref a, .ref s4.heap.objs.size]) ht.typeIs (PyProof.Rows.slot_tuple_getitem.lookup) ?_ (by with_unfolding_all rfl)
  refine getItem_tuple_rev ht (Heap.IsSliceOf.new _ .none .none vs) ps ?_ (by rw [List.size_toArray, ← r.length]; exact hz)
  refine ⟨.ref _, _, I5.laid (t' := s4.toks) (o := .tup xs.reverse) (fun b ob q => Heap.get?_push_of_some _ q) (Nat.le_refl _) ?_, rfl, q _ (I5.hok.fresh (Nat.le_refl _))⟩
  exact ⟨by rw [List.length_reverse]; exact hz, _, r.reverse, IsTup.new _ _⟩
end
end L2
namespace DL
open PySem PySem.Spec PyProof.Rows L2 TL
section
variable {K : PySem.W.Frag} {te : TE} {da : DE} {e : Env} {k : DK}
def dRevT (da : DE) : DE := fun e k => da e fun x e1 => ∃ ds, see e1 x = some (.tuple ds) ∧ k (.d (.tuple ds.reverse)) e1
theorem sim_revT (ha : SimE K te da) : SimE K (tRevT K te) (dRevT da) := fun Hs H σ e Q k s hu c =>
  ha Hs H σ e _ _ s hu fun v x Hs1 H1 e1 f1 r1 h1 => by
    obtain ⟨ds, ea, h1⟩ := h1
    obtain ⟨p, vs, rfl, _, g1, g2, g3, _⟩ := (sees_of f1.st r1 ea).tup f1.st.sub
    exact ⟨p, vs, rfl, g1, fun q hq => (out_of f1 c).tup _ _ q h1 hq ⟨g2.1.rev, wfs_sub g2.2 fun d hd => List.mem_reverse.mp hd⟩ (by rw [List.length_reverse]; exact g3)⟩
theorem z_revT (q : da e fun x e1 => ∃ ds, see e1 x = some (.tuple ds) ∧ k (.d (.tuple ds.reverse)) e1) : dRevT da e k := q
theorem z_seeT {x : SV} {ds : List PyData} {P : List PyData → Prop} (h : see e x = some (.tuple ds)) (q : P ds) : ∃ ds, see e x = some (.tuple ds) ∧ P ds := ⟨ds, h, q⟩
end
end DL

/-! dicts that are looked at, f-strings, a default at the end of the arguments -/
namespace DL
open PySem PySem.Spec PyProof.Rows L2 TL
abbrev KD := List (Key × PyData)
def keyD : PyData → Option Key
  | .int i => some (.inl i)
  | .str z => some (.inr z)
  | _ => none
def valD (kvs : KD) (k : Key) : Option PyData := (kvs.find? fun p => decide (p.1 = k)).map (·.2)
def putD (kvs : KD) (k : Key) (v : PyData) : KD :=
  if (kvs.any fun p => decide (p.1 = k)) = true then kvs.map (fun p => if p.1 = k then (p.1, v) else p) else kvs ++ [(k, v)]
def mergeD (kvs more : KD) : KD := more.foldl (fun acc p => putD acc p.1 p.2) kvs
abbrev RelD (K : PySem.W.Frag) (Hs : Hp) : List (Key × V) → KD → Prop := Paired (fun (p : Key × V) (q : Key × PyData) => p.1 = q.1 ∧ Dw K Hs p.2 q.2)
theorem relD_get {K : PySem.W.Frag} {Hs : Hp} {k : Key} : ∀ {ws : List (Key × V)} {kvs : KD}, RelD K Hs ws kvs →
    (valD kvs k = none ∧ valV ws k = none) ∨ ∃ d v, valD kvs k = some d ∧ valV ws k = some v ∧ Dw K Hs v d
  | _, _, .nil => .inl ⟨rfl, rfl⟩
  | (k1, v) :: ws, (k2, d) :: kvs, .cons h t => by
    obtain ⟨h1, h2⟩ := h
    have h1 : k1 = k2 := h1
    subst h1
    by_cases e : k1 = k
    · refine .inr ⟨d, v, ?_, valV_pos e, h2⟩
      simp [valD, List.find?_cons, e]
    · have e1 : valD ((k1, d) :: kvs) k = valD kvs k := by simp [valD, List.find?_cons, e]
      have e2 : valV ((k1, v) :: ws) k = valV ws k := valV_neg e
      rw [e1, e2]
      exact relD_get t
theorem relD_any {K : PySem.W.Frag} {Hs : Hp} {k : Key} : ∀ {ws : List (Key × V)} {kvs : KD}, RelD K Hs ws kvs → (ws.any fun p => decide (p.1 = k)) = (kvs.any fun p => decide (p.1 = k))
  | _, _, .nil => rfl
  | (k1, v) :: ws, (k2, d) :: kvs, .cons h t => by
    have h1 : k1 = k2 := h.1
    rw [List.any_cons, List.any_cons, relD_any t, h1]
theorem relD_map {K : PySem.W.Frag} {Hs : Hp} {k : Key} {v : V} {d : PyData} (h : Dw K Hs v d) : ∀ {ws : List (Key × V)} {kvs : KD}, RelD K Hs ws kvs → RelD K Hs (ws.map (fun p => if p.1 = k then (p.1, v) else p)) (kvs.map (fun p => if p.1 = k then (p.1, d) else p))
  | _, _, .nil => .nil
  | p :: ws, q :: kvs, .cons h1 t => by
    rw [List.map_cons, List.map_cons]
    refine .cons ?_ (relD_map h t)
    obtain ⟨e1, e2⟩ := h1
    show (if p.1 = k then (p.1, v) else p).1 = (if q.1 = k then (q.1, d) else q).1 ∧ Dw K Hs (if p.1 = k then (p.1, v) else p).2 (if q.1 = k then (q.1, d) else q).2
    rw [e1]
    by_cases e : q.1 = k
    · rw [if_pos e, if_pos e]; exact ⟨rfl, h⟩
    · rw [if_neg e, if_neg e]; exact ⟨e1, e2⟩
theorem relD_snoc {K : PySem.W.Frag} {Hs : Hp} {k : Key} {v : V} {d : PyData} (h : Dw K Hs v d) : ∀ {ws : List (Key × V)} {kvs : KD}, RelD K Hs ws kvs → RelD K Hs (ws ++ [(k, v)]) (kvs ++ [(k, d)])
  | _, _, .nil => .cons ⟨rfl, h⟩ .nil
  | p :: ws, q :: kvs, .cons h1 t => .cons h1 (relD_snoc h t)
theorem relD_put {K : PySem.W.Frag} {Hs : Hp} {k : Key} {v : V} {d : PyData} (h : Dw K Hs v d) {ws : List (Key × V)} {kvs : KD} (r : RelD K Hs ws kvs) : RelD K Hs (putK ws k v) (putD kvs k d) := by
  unfold putK putD
  rw [relD_any r]
  split
  · exact relD_map h r
  · exact relD_snoc h r
theorem relD_merge {K : PySem.W.Frag} {Hs : Hp} : ∀ {ms : List (Key × V)} {mds : KD} {ws : List (Key × V)} {kvs : KD}, RelD K Hs ms mds → RelD K Hs ws kvs → RelD K Hs (mergeK ws ms) (mergeD kvs mds) := by
  intro ms mds ws kvs r
  induction r generalizing ws kvs with
  | nil => intro q; exact q
  | @cons p q ps qs h t ih =>
    intro r0
    have e : RelD K Hs (putK ws p.1 p.2) (putD kvs q.1 q.2) := by
      rw [h.1]; exact relD_put h.2 r0
    exact ih e
section
variable {K : PySem.W.Frag} {ta tb tc te : TE} {da db dc de : DE} {i : Nat} {e : Env} {k : DK} {x : SV}
theorem key_kV {Hs H : Hp} {v : V} {d : PyData} {ky : Key} (h : Sees K Hs H v d) (e : keyD d = some ky) : v = kV ky := by
  cases d with
  | int j => cases e; exact h.int
  | str z => cases e; exact h.str.1
  | _ => cases e
/-- the dict in slot i, as it stands -/
def isDct (e : Env) (i : Nat) : Prop := ∃ kvs, conS e i = some (.dct kvs)
theorem dct_at {Hs H : Hp} {σ : St} (s : StR K Hs H σ e) {kvs : KD} (h : conS e i = some (.dct kvs)) : ∃ a ws, σ[i]? = some (some (.ref a)) ∧ H a = some (.dK ws) ∧ RelD K Hs ws kvs := by
  obtain ⟨a, hh, ws, h1, h2⟩ := con_held s h
  exact ⟨a, ws, hh.1, h1, h2⟩
def keyS (e : Env) (x : SV) : Option Key := (see e x).bind keyD
/-- d[y] -/
def dDGet (i : Nat) (db : DE) : DE := fun e k => isDct e i ∧ db e fun y e1 => ∃ kvs ky d, conS e1 i = some (.dct kvs) ∧ keyS e1 y = some ky ∧ valD kvs ky = some d ∧ k (.d d) e1
theorem key_of {H0 Hs H : Hp} {σ : St} {v : V} {ky : Key} (s : StR K Hs H σ e) (r : RelX K H0 Hs H σ e v x) (h : keyS e x = some ky) : v = kV ky := by
  unfold keyS at h
  cases q : see e x with
  | none => rw [q] at h; cases h
  | some d => rw [q] at h; exact key_kV (sees_of s r q) h
theorem sim_dget (hb : SimE K tb db) : SimE K (tDGet (tVar i) tb) (dDGet i db) := fun Hs H σ e Q k s hu c => by
  obtain ⟨⟨kv0, h0⟩, hu⟩ := hu
  obtain ⟨a, ws0, ea, _, _⟩ := dct_at s h0
  refine ⟨.ref a, ea, hb Hs H σ e _ _ s hu fun w y Hs1 H1 e1 f1 r1 h1 => ?_⟩
  obtain ⟨kvs, ky, d, e1', e2, e3, h1⟩ := h1
  obtain ⟨a', ws, ea', e4, e5⟩ := dct_at f1.st e1'
  rw [ea] at ea'
  cases ea'
  rcases relD_get (k := ky) e5 with ⟨z, _⟩ | ⟨d', v, z1, z2, z3⟩
  · rw [z] at e3; cases e3
  · rw [e3] at z1
    cases z1
    refine ⟨a, v, rfl, ?_, c v (.d d) _ _ _ f1 z3 h1⟩
    rw [key_of f1.st r1 e2, ← z2]
    exact DGet.k e4
/-- d.get(y) -/
def getD1 (kvs : KD) (k : Key) : PyData := (valD kvs k).getD .none
def dDGet1 (i : Nat) (db : DE) : DE := fun e k => isDct e i ∧ db e fun y e1 => ∃ kvs ky, conS e1 i = some (.dct kvs) ∧ keyS e1 y = some ky ∧ k (.d (getD1 kvs ky)) e1
theorem sim_dget1 (hb : SimE K tb db) : SimE K (tDGet1 (tVar i) tb) (dDGet1 i db) := fun Hs H σ e Q k s hu c => by
  obtain ⟨⟨kv0, h0⟩, hu⟩ := hu
  obtain ⟨a, ws0, ea, es0, _⟩ := dct_at s h0
  refine ⟨.ref a, ea, a, rfl, .inl ⟨ws0, .inl es0⟩, hb Hs H σ e _ _ s hu fun w y Hs1 H1 e1 f1 r1 h1 => ?_⟩
  obtain ⟨kvs, ky, e1', e2, h1⟩ := h1
  obtain ⟨a', ws, ea', e4, e5⟩ := dct_at f1.st e1'
  rw [ea] at ea'
  cases ea'
  refine ⟨valV ws ky, ?_, ?_⟩
  · rw [key_of f1.st r1 e2]
    exact DGet.k e4
  · unfold getD1 at h1
    rcases relD_get (k := ky) e5 with ⟨z, z'⟩ | ⟨d', v, z1, z2, z3⟩
    · rw [z] at h1
      rw [z']
      exact c .non (.d .none) _ _ _ f1 ⟨.non, rfl⟩ h1
    · rw [z1] at h1
      rw [z2]
      exact c v (.d d') _ _ _ f1 z3 h1
/-- y in d, y not in d -/
def dDIn (db : DE) (i : Nat) : DE := fun e k => db e fun y e1 => ∃ kvs ky, conS e1 i = some (.dct kvs) ∧ keyS e1 y = some ky ∧ k (.d (.bool (valD kvs ky).isSome)) e1
def dDNotIn (db : DE) (i : Nat) : DE := fun e k => db e fun y e1 => ∃ kvs ky, conS e1 i = some (.dct kvs) ∧ keyS e1 y = some ky ∧ k (.d (.bool (!(valD kvs ky).isSome))) e1
theorem sim_din (hb : SimE K tb db) : SimE K (tDIn tb (tVar i)) (dDIn db i) := fun Hs H σ e Q k s hu c =>
  hb Hs H σ e _ _ s hu fun w y Hs1 H1 e1 f1 r1 h1 => by
    obtain ⟨kvs, ky, e1', e2, h1⟩ := h1
    obtain ⟨a, ws, ea, e4, e5⟩ := dct_at f1.st e1'
    refine ⟨.ref a, ea, a, valV ws ky, rfl, ?_, ?_⟩
    · rw [key_of f1.st r1 e2]; exact DGet.k e4
    · have e6 : (valV ws ky).isSome = (valD kvs ky).isSome := by
        rcases relD_get (k := ky) e5 with ⟨z, z'⟩ | ⟨d', v, z1, z2, z3⟩
        · rw [z, z'] <;> rfl
        · rw [z1, z2] <;> rfl
      rw [e6]
      exact c _ (.d (.bool _)) _ _ _ f1 ⟨.bl _, rfl⟩ h1
theorem sim_dnotin (hb : SimE K tb db) : SimE K (tDNotIn tb (tVar i)) (dDNotIn db i) := fun Hs H σ e Q k s hu c =>
  hb Hs H σ e _ _ s hu fun w y Hs1 H1 e1 f1 r1 h1 => by
    obtain ⟨kvs, ky, e1', e2, h1⟩ := h1
    obtain ⟨a, ws, ea, e4, e5⟩ := dct_at f1.st e1'
    refine ⟨.ref a, ea, a, valV ws ky, rfl, ?_, ?_⟩
    · rw [key_of f1.st r1 e2]; exact DGet.k e4
    · have e6 : (valV ws ky).isSome = (valD kvs ky).isSome := by
        rcases relD_get (k := ky) e5 with ⟨z, z'⟩ | ⟨d', v, z1, z2, z3⟩
        · rw [z, z'] <;> rfl
        · rw [z1, z2] <;> rfl
      rw [e6]
      exact c _ (.d (.bool _)) _ _ _ f1 ⟨.bl _, rfl⟩ h1
theorem z_dget (h : isDct e i) (q : db e fun y e1 => ∃ kvs ky d, conS e1 i = some (.dct kvs) ∧ keyS e1 y = some ky ∧ valD kvs ky = some d ∧ k (.d d) e1) : dDGet i db e k := ⟨h, q⟩
theorem z_dget1 (h : isDct e i) (q : db e fun y e1 => ∃ kvs ky, conS e1 i = some (.dct kvs) ∧ keyS e1 y = some ky ∧ k (.d (getD1 kvs ky)) e1) : dDGet1 i db e k := ⟨h, q⟩
theorem z_dgetE {kvs : KD} {ky : Key} {d : PyData} {P : PyData → Prop} (h1 : conS e i = some (.dct kvs)) (h2 : keyS e x = some ky) (h3 : valD kvs ky = some d) (q : P d) : ∃ kvs ky d, conS e i = some (.dct kvs) ∧ keyS e x = some ky ∧ valD kvs ky = some d ∧ P d := ⟨kvs, ky, d, h1, h2, h3, q⟩
theorem z_dget1E {kvs : KD} {ky : Key} {P : KD → Key → Prop} (h1 : conS e i = some (.dct kvs)) (h2 : keyS e x = some ky) (q : P kvs ky) : ∃ kvs ky, conS e i = some (.dct kvs) ∧ keyS e x = some ky ∧ P kvs ky := ⟨kvs, ky, h1, h2, q⟩
theorem z_din (q : db e fun y e1 => ∃ kvs ky, conS e1 i = some (.dct kvs) ∧ keyS e1 y = some ky ∧ k (.d (.bool (valD kvs ky).isSome)) e1) : dDIn db i e k := q
theorem z_dnotin (q : db e fun y e1 => ∃ kvs ky, conS e1 i = some (.dct kvs) ∧ keyS e1 y = some ky ∧ k (.d (.bool (!(valD kvs ky).isSome))) e1) : dDNotIn db i e k := q
/-! ### f-strings -/
def fmtD (d : PyData) (k : Str → Prop) : Prop := match d with
  | .str z => k z
  | .int i => i.natAbs.log2 < 1920 ∧ k (intS i)
  | _ => False
def dFmt (da : DE) : DE := fun e k => da e fun x e1 => ∃ d, see e1 x = some d ∧ fmtD d fun z => k (.d (.str z)) e1
theorem sim_fmt (ha : SimE K ta da) : SimE K (tFmt ta) (dFmt da) := fun Hs H σ e Q k s hu c =>
  ha Hs H σ e _ _ s hu fun v x Hs1 H1 e1 f1 r1 h1 => by
    obtain ⟨d, e2, h1⟩ := h1
    have q := sees_of f1.st r1 e2
    unfold fmtD at h1
    split at h1
    · rename_i z
      obtain ⟨rfl, l1, o1⟩ := q.str
      exact .inl ⟨z, rfl, l1, c _ (.d (.str z)) _ _ _ f1 ⟨.str z, wf_str.mpr ⟨l1, o1⟩⟩ h1⟩
    · rename_i i
      obtain ⟨h0, h1⟩ := h1
      rw [q.int]
      exact .inr ⟨i, rfl, h0, c _ (.d (.str (intS i))) _ _ _ f1 ⟨.str _, wf_str.mpr ⟨sz_le (Nat.le_trans (len_intS (n := 1919) h0) (by decide)), ok_lit _⟩⟩ h1⟩
    · exact h1.elim
inductive SimJ (K : PySem.W.Frag) : List TE → List DE → Prop
  | nil : SimJ K [] []
  | cons {t : TE} {d : DE} {ts : List TE} {ds : List DE} : SimE K t d → SimJ K ts ds → SimJ K (t :: ts) (d :: ds)
def dJs : List DE → Str → Env → (Str → Env → Prop) → Prop
  | [], acc, e, k => k acc e
  | d :: ds, acc, e, k => d e fun x e1 => ∃ z, see e1 x = some (.str z) ∧ (acc ++ z).length ≤ sizeLine ∧ dJs ds (acc ++ z) e1 k
def dJoined (ds : List DE) : DE := fun e k => match ds with
  | [] => False
  | d :: ds => d e fun x e1 => ∃ z, see e1 x = some (.str z) ∧ dJs ds z e1 fun z e2 => k (.d (.str z)) e2
theorem empty_app (z : Str) : Str.empty ++ z = z := ext_tl (by rw [tl_append]; rfl)
theorem simJ_run {ts : List TE} {ds : List DE} (h : SimJ K ts ds) : ∀ {Hb H0 Hs H : Hp} {σ : St} {e0 e : Env} {acc : Str} {Q : Str → Hp → Prop} {k : Str → Env → Prop}, Fw K Hb H0 σ e0 Hs H σ e → acc.length ≤ sizeLine → PyData.strOk acc = true → dJs ds acc e k →
    (∀ z Hs' H' e', Fw K Hb H0 σ e0 Hs' H' σ e' → z.length ≤ sizeLine → PyData.strOk z = true → k z e' → Q z H') → tJs ts acc σ H Q := by
  induction h with
  | nil => intro _ _ _ _ _ _ _ _ _ _ f l o hu c; exact c _ _ _ _ f l o hu
  | cons h1 h2 ih =>
    intro Hb H0 Hs H σ e0 e acc Q k f l o hu c
    refine h1 Hs H σ e _ _ f.st hu fun v x Hs1 H1 e1 f1 r1 q => ?_
    obtain ⟨z, e2, lz, q⟩ := q
    obtain ⟨rfl, l1, o1⟩ := (sees_of f1.st r1 e2).str
    exact ⟨z, rfl, lz, ih (f.trans f1) lz (ok_app o o1) q c⟩
theorem sim_joined {ts : List TE} {ds : List DE} (h : SimJ K ts ds) : SimE K (fun σ H Q => tJs ts Str.empty σ H fun out H1 => Q (.str out) H1) (dJoined ds) := fun Hs H σ e Q k s hu c => by
  cases h with
  | nil => exact hu.elim
  | cons h1 h2 =>
    refine h1 Hs H σ e _ _ s hu fun v x Hs1 H1 e1 f1 r1 q => ?_
    obtain ⟨z, e2, q⟩ := q
    obtain ⟨rfl, l1, o1⟩ := (sees_of f1.st r1 e2).str
    refine ⟨z, rfl, by rw [empty_app]; exact l1, ?_⟩
    rw [empty_app]
    exact simJ_run h2 f1 l1 o1 q fun z Hs' H' e' f' l' o' h' => c _ (.d (.str z)) _ _ _ f' ⟨.str z, wf_str.mpr ⟨l', o'⟩⟩ h'
theorem z_fmt (q : da e fun x e1 => ∃ d, see e1 x = some d ∧ fmtD d fun z => k (.d (.str z)) e1) : dFmt da e k := q
theorem z_fmtS {z : Str} {P : Str → Prop} (h : see e x = some (.str z)) (q : P z) : ∃ d, see e x = some d ∧ fmtD d P := ⟨_, h, q⟩
theorem z_fmtI {i : Int} {P : Str → Prop} (h : see e x = some (.int i)) (h2 : i.natAbs.log2 < 1920) (q : P (intS i)) : ∃ d, see e x = some d ∧ fmtD d P := ⟨_, h, h2, q⟩
theorem z_joined {d : DE} {ds : List DE} (q : d e fun x e1 => ∃ z, see e1 x = some (.str z) ∧ dJs ds z e1 fun z e2 => k (.d (.str z)) e2) : dJoined (d :: ds) e k := q
theorem z_jsE {z : Str} {P : Str → Prop} (h : see e x = some (.str z)) (q : P z) : ∃ z, see e x = some (.str z) ∧ P z := ⟨z, h, q⟩
theorem z_jsC {d : DE} {ds : List DE} {acc : Str} {kk : Str → Env → Prop} (q : d e fun x e1 => ∃ z, see e1 x = some (.str z) ∧ (acc ++ z).length ≤ sizeLine ∧ dJs ds (acc ++ z) e1 kk) : dJs (d :: ds) acc e kk := q
theorem z_jsF {z acc : Str} {P : Str → Prop} (h : see e x = some (.str z)) (l : (acc ++ z).length ≤ sizeLine) (q : P (acc ++ z)) : ∃ z, see e x = some (.str z) ∧ (acc ++ z).length ≤ sizeLine ∧ P (acc ++ z) := ⟨z, h, l, q⟩
theorem z_jsN {acc : Str} {kk : Str → Env → Prop} (q : kk acc e) : dJs [] acc e kk := q
/-! ### a default behind the arguments -/
def aSnoc (aa : DA) (x : SV) : DA := fun e k => aa e fun xs e1 => k (xs ++ [x]) e1
theorem RelXs.snoc {H0 Hs H : Hp} {σ : St} {w : V} {d : PyData} (hd : Dw K Hs w d) {vs : List V} {xs : List SV} (h : RelXs K H0 Hs H σ e vs xs) : RelXs K H0 Hs H σ e (vs ++ [w]) (xs ++ [.d d]) := by
  induction h with
  | nil => exact .cons (x := .d d) hd .nil fun z => by cases z
  | @cons v x vs xs h1 h2 h3 ih =>
    refine .cons h1 ih fun hx j y (hy : (xs ++ [SV.d d])[j]? = some y) hh => ?_
    show (vs ++ [w])[j]? ≠ some v
    by_cases hj : j < xs.length
    · rw [List.getElem?_append_left hj] at hy
      rw [List.getElem?_append_left (by rw [h2.len]; exact hj)]
      exact h3 hx j y hy hh
    · rw [List.getElem?_append_right (by omega)] at hy
      cases q : j - xs.length with
      | zero =>
        rw [q] at hy
        cases hy
        cases hh
      | succ m => rw [q] at hy; cases hy
theorem sim_callD {sp : DSp} {E : XK} {ar : TA} {aa : DA} {w : V} {d : PyData} (hw : ∀ H, Dw K H w d) (ha : SimA K ar aa) : SimE K (tCall (lift K sp) [w] E ar) (dCall sp (aSnoc aa (.d d))) := fun Hs H σ e Q k s hu c =>
  ha Hs H σ e _ _ s hu fun vs xs Hs1 H1 e1 f1 r1 h1 => by
    obtain ⟨zs, hz, nd, hs⟩ := h1
    exact call_core f1 (RelXs.snoc (hw _) r1) hz nd hs c
theorem z_snoc {aa : DA} {kk : List SV → Env → Prop} (q : aa e fun xs e1 => kk (xs ++ [x]) e1) : aSnoc aa x e kk := q
end
end DL
namespace DL
open PySem PySem.Spec PyProof.Rows L2 TL
/-! ### {k: v for .. in a list} -/
theorem RelD.mono {K : PySem.W.Frag} {H H' : Hp} {ws : List (Key × V)} {kvs : KD} (s : Same H H') (h : RelD K H ws kvs) : RelD K H' ws kvs := Paired.imp (fun _ _ z => ⟨z.1, z.2.mono s⟩) h
def dDc (di : DI) (dg : DG) (dt : DT) (dk de : DE) (vs : List Nat) : DE := fun e k => di e fun xs e1 => ∃ W : Nat → KD → Env → Prop, W 0 [] e1 ∧
  (∀ (i : Nat) x acc e2, xs[i]? = some x → W i acc e2 → dg (.d x) (wipeE e2 vs) fun e3 => dt e3 fun b e4 => if b = true then dk e4 fun yk e5 => de e5 fun y e6 => ∃ ky, keyS e6 yk = some ky ∧ asD y e6 fun d e7 => acc.length < sizeLine ∧ W (i + 1) (putD acc ky d) (mergeE e2 e7 vs) else W (i + 1) acc (mergeE e2 e4 vs)) ∧
  ∀ acc e2, W xs.length acc e2 → k (.own (.dct acc)) e2
section
variable {K : PySem.W.Frag} {wi : TI} {g : TG} {tt : TT} {te tk : TE} {di : DI} {dg : DG} {dt : DT} {de dk : DE}
theorem sim_dc {vs : List Nat} (hi : SimI K wi di) (hg : SimGC K vs g dg) (ht : SimT K tt dt) (hk : SimE K tk dk) (he : SimE K te de) : SimE K (tDc wi g tt tk te vs) (dDc di dg dt dk de vs) := fun Hs H σ e Q k s hu c =>
  hi Hs H σ e _ _ s hu fun J xs Hs1 H1 e1 f1 rj h1 => by
    obtain ⟨W, h0, hs, hd⟩ := h1
    intro D hD
    -- the new list is nobody's: it stands in the heap, none of the frame's cells
    have nd1 : ∀ i, ¬ Held σ e1 i D := fun i hi => by
      obtain ⟨o, ho⟩ := f1.st.heldSome hi
      rw [hD] at ho; cases ho
    obtain ⟨gp, sb⟩ := gp_cell (o := .dK []) f1.st.sub hD
    refine ⟨fun i m H' => ∃ Hs' e' acc vacc, Fw K Hs H σ e Hs' H' σ e' ∧ Same Hs1 Hs' ∧ Hs' D = none ∧ (∀ i, ¬ Held σ e' i D) ∧ H' D = some (.dK vacc) ∧ RelD K Hs' vacc acc ∧ W i acc e' ∧ i ≤ xs.length ∧ m = xs.length - i,
      ⟨_, Hs1, e1, [], [], f1.more gp sb, Same.refl _, none_sub f1.st.sub hD, nd1, upd_same, .nil, h0, Nat.zero_le _, rfl⟩, ?_⟩
    rintro i m H' ⟨Hs', e', acc, vacc, f, s1, hD1, nd, hD2, hacc, hw, hi, rfl⟩
    obtain ⟨rg, rs⟩ := rj Hs' H' s1 f.st.sub
    by_cases hlt : i < xs.length
    · have hx : xs[i]? = some xs[i] := List.getElem?_eq_getElem hlt
      obtain ⟨g1, g2⟩ := rg i _ hx
      refine .inr ⟨g1, fun H2 => ∃ Hs2 e2 acc2 vacc2, Fw K Hs H σ e Hs2 H2 σ e2 ∧ Same Hs1 Hs2 ∧ Hs2 D = none ∧ (∀ i, ¬ Held σ e2 i D) ∧ H2 D = some (.dK vacc2) ∧ RelD K Hs2 vacc2 acc2 ∧ W (i + 1) acc2 e2, fun H2 ⟨Hs2, e2, acc2, va2, q1, q2, q3, q4, q5, q6, q8⟩ => ⟨_, by omega, Hs2, e2, acc2, va2, q1, q2, q3, q4, q5, q6, q8, hlt, rfl⟩, fun v H2 y => ?_⟩
      obtain ⟨Hs2, gp, sb, dw⟩ := g2 v H2 y
      have f2 := f.more gp sb
      have f2w := f2.st.wipe vs
      -- what is known of D behind a step of the turn
      have off : ∀ {σ3 : St} {Hs3 H3 : Hp} {e3 : Env}, Fw K Hs2 H2 (wipe σ vs) (wipeE e' vs) Hs3 H3 σ3 e3 → Hs3 D = none ∧ H3 D = some (.dK vacc) ∧ (∀ i, ¬ Held σ3 e3 i D) := fun {σ3 Hs3 H3 e3} f3 => by
        have hD3 : H2 D = some (.dK vacc) := gp.keep D _ (fun z => z) hD2
        have hD4 : Hs2 D = none := by
          cases q : Hs2 D with
          | none => rfl
          | some u =>
            rcases gp.new D (some_ne q) hD1 with z | z
            · rw [hD2] at z; cases z
            · exact z.elim
        have nw : ∀ j, ¬ Held (wipe σ vs) (wipeE e' vs) j D := fun j hj => nd j (held_wipe hj).2
        refine ⟨?_, f3.go.keep D _ (fun ⟨j, hj⟩ => nw j hj) hD3, fun j hj => ?_⟩
        · cases q : Hs3 D with
          | none => rfl
          | some u =>
            rcases f3.go.new D (some_ne q) hD4 with z | ⟨j, z⟩
            · rw [hD3] at z; cases z
            · exact absurd z (nw j)
        · rcases f3.held j D hj with ⟨l, z⟩ | z
          · exact nw l z
          · rw [hD3] at z; cases z
      have key : ∀ {σ3 : St} {Hs3 H3 : Hp} {e3 : Env}, Fw K Hs2 H2 (wipe σ vs) (wipeE e' vs) Hs3 H3 σ3 e3 → wipe σ3 vs = wipe σ vs → Fw K Hs H σ e Hs3 H3 σ (mergeE e' e3 vs) ∧ (∀ i, ¬ Held σ (mergeE e' e3 vs) i D) := fun {σ3 Hs3 H3 e3} f3 hw3 => by
        refine ⟨f2.unwipe f3 hw3, fun j hj => ?_⟩
        have le : e3.length = e'.length := by
          have l2 : σ3.length = σ.length := by have := congrArg List.length hw3; rw [wipe_length, wipe_length] at this; exact this
          rw [← f3.st.len, l2, f.st.len]
        obtain ⟨h1, t, h2, h3⟩ := hj
        rw [mergeE_at le] at h2
        by_cases hj : j ∈ vs
        · rw [if_pos hj] at h2
          exact nd j ⟨h1, t, h2, h3⟩
        · rw [if_neg hj] at h2
          have := congrArg (fun l : St => l[j]?) hw3
          simp only [wipe_at, if_neg hj] at this
          exact (off f3).2.2 j ⟨by rw [this]; exact h1, t, h2, h3⟩
      have main := hg.sim Hs2 H2 (wipe σ vs) (wipeE e' vs) Hs2 H2 (wipe σ vs) (wipeE e' vs) v (.d xs[i]) (fun σ2 H2' => wipe σ2 vs = wipe σ vs → tt σ2 H2' fun b H3 => if b = true then tk σ2 H3 fun y H4 => te σ2 H4 fun z H5 => ∃ kvs ky, y = kV ky ∧ H5 D = some (.dK kvs) ∧ kvs.length < sizeLine ∧ (∃ Hs2 e2 acc2 vacc2, Fw K Hs H σ e Hs2 (upd H5 D (.dK (putK kvs ky z))) σ e2 ∧ Same Hs1 Hs2 ∧ Hs2 D = none ∧ (∀ i, ¬ Held σ e2 i D) ∧ (upd H5 D (.dK (putK kvs ky z))) D = some (.dK vacc2) ∧ RelD K Hs2 vacc2 acc2 ∧ W (i + 1) acc2 e2) else ∃ Hs2 e2 acc2 vacc2, Fw K Hs H σ e Hs2 H3 σ e2 ∧ Same Hs1 Hs2 ∧ Hs2 D = none ∧ (∀ i, ¬ Held σ e2 i D) ∧ H3 D = some (.dK vacc2) ∧ RelD K Hs2 vacc2 acc2 ∧ W (i + 1) acc2 e2) _ (Fw.refl f2w) dw (hs i _ acc e' hx hw) ?_
      · have m2 := hg.gin _ _ _ _ main
        rw [wipe_wipe] at m2
        exact hg.gm _ _ _ _ _ (fun σ2 H2' ⟨z1, z2⟩ => ⟨z1, z2 z1⟩) m2
      · intro σ3 Hs3 H3 e3 f3 s3 h3 hw3
        refine ht Hs3 H3 σ3 e3 _ _ f3.st h3 fun b Hs4 H4 e4 f4 h4 => ?_
        have f34 := f3.trans f4
        cases b with
        | false =>
          rw [if_neg Bool.false_ne_true] at h4 ⊢
          obtain ⟨k1, k2⟩ := key f34 hw3
          obtain ⟨o1, o2, _⟩ := off f34
          exact ⟨Hs4, _, acc, vacc, k1, (s1.trans gp.p).trans f34.go.p, o1, k2, o2, RelD.mono f34.go.p (RelD.mono gp.p hacc), h4⟩
        | true =>
          rw [if_pos rfl] at h4 ⊢
          refine hk Hs4 H4 σ3 e4 _ _ f4.st h4 fun y xk Hs5 H5 e5 f5 r5 h5 => ?_
          refine he Hs5 H5 σ3 e5 _ _ f5.st h5 fun z x Hs6 H6 e6 f6 r6 h6 => ?_
          obtain ⟨ky, hky, h6⟩ := h6
          have ey : y = kV ky := key_of f6.st (r5.keep f6) hky
          have f36 := (f34.trans f5).trans f6
          obtain ⟨Hs7, e7, d, f7, r7, ⟨hl7, h7⟩, s7⟩ := asD_sim f36 (r6.back (f34.trans f5).there) h6
          obtain ⟨k1, k2⟩ := key f7 hw3
          obtain ⟨o1, o2, _⟩ := off f7
          have hacc2 : RelD K Hs7 vacc acc := RelD.mono f7.go.p (RelD.mono gp.p hacc)
          have hacc3 : RelD K Hs7 (putK vacc ky z) (putD acc ky d) := relD_put r7 hacc2
          have hDx : H D = none := fresh_back f1 hD
          have hlen : vacc.length = acc.length := hacc.length
          refine ⟨vacc, ky, ey, o2, by rw [hlen]; exact hl7, Hs7, _, putD acc ky d, putK vacc ky z, ?_, (s1.trans gp.p).trans f7.go.p, o1, k2, upd_same, hacc3, h7⟩
          -- the list grows: nobody's cell is changed
          refine ⟨k1.st.to (same_cell k1.st.sub o1) (Same.refl _) fun j b hb => ⟨(k1.st.held hb).1, fun o ho => by rw [upd_ne (fun z => k2 j (by rw [← z]; exact hb))]; exact ho⟩, ⟨k1.go.p, k1.go.new, fun b o hb ho => ?_, fun b hb => ?_⟩, k1.held, k1.par⟩
          · rw [upd_ne (fun z => by rw [z, hDx] at ho; cases ho)]
            exact k1.go.keep b o hb ho
          · by_cases q : b = D
            · rw [q, upd_same]; exact fun z => nomatch z
            · rw [upd_ne q]; exact k1.go.there b hb
    · have e : i = xs.length := by omega
      subst e
      have hkk := hd acc e' hw
      refine .inl ⟨rs, c (.ref D) (.own (.dct acc)) Hs' H' e' f ⟨D, rfl, hD1, ⟨vacc, hD2, hacc⟩, ?_, nd⟩ hkk⟩
      exact fresh_back f1 hD
end
end DL
namespace DL
open PySem PySem.Spec PyProof.Rows L2 TL
/-! ### dict(a list of pairs) -/
def pairD : PyData → Option (Key × PyData)
  | .tuple [a, b] => (keyD a).map fun k => (k, b)
  | _ => none
def pairsD : List PyData → Option KD
  | [] => some []
  | d :: ds => match pairD d, pairsD ds with
    | some p, some ps => some (p :: ps)
    | _, _ => none
def rDictP (K : PySem.W.Frag) : List V → Hp → VK → Prop := fun xs H Q => ∃ (a : Addr) (ps : List Addr) (kvs : List (Key × V)), xs = [.ref a] ∧ SqL K H a (ps.map V.ref) ∧ Paired (fun p kv => SqT K H p [kV kv.1, kv.2]) ps kvs ∧
    ∀ p, H p = none → Q (.ref p) (upd H p (.dK (mergeK [] kvs)))
section
variable {K : PySem.W.Frag} {ar : TA} {aa : DA} {e : Env} {k : DK} {x : SV}
theorem pair_rel {Hs : Hp} {v : V} {d : PyData} {p : Key × PyData} (h : Dw K Hs v d) (e : pairD d = some p) : ∃ a w, v = .ref a ∧ SqT K Hs a [kV p.1, w] ∧ Dw K Hs w p.2 := by
  unfold pairD at e
  split at e
  · rename_i a b
    cases q : keyD a with
    | none => rw [q] at e; cases e
    | some ky =>
      rw [q] at e
      cases e
      obtain ⟨h1, h2⟩ := h
      have h2 := wf_tup.mp h2
      cases h1 with
      | @tup ad xs ds hs ha =>
        cases ha with
        | cons u1 t1 =>
          cases t1 with
          | cons u2 t2 =>
            cases t2
            have w2 := h2.2
            have w2 : (wfD a && (wfD b && true)) = true := w2
            rw [Bool.and_eq_true, Bool.and_true] at w2
            have ek := key_kV (K := K) (Hs := Hs) (H := Hs) (.d ⟨u1, w2.1⟩) q
            subst ek
            exact ⟨ad, _, rfl, hs, u2, w2.2⟩
  · cases e
theorem pairs_rel {Hs : Hp} : ∀ {vs : List V} {ds : List PyData} {kds : KD}, Dws K Hs vs ds → pairsD ds = some kds → ∃ (ps : List Addr) (kvs : List (Key × V)), vs = ps.map V.ref ∧ Paired (fun p kv => SqT K Hs p [kV kv.1, kv.2]) ps kvs ∧ RelD K Hs kvs kds
  | _, [], _, h, e => by
    cases e
    obtain ⟨h1, _⟩ := h
    cases h1
    exact ⟨[], [], rfl, .nil, .nil⟩
  | _, d :: ds, _, h, e => by
    obtain ⟨h1, h2⟩ := h
    have h2 : (wfD d && wfs ds) = true := h2
    rw [Bool.and_eq_true] at h2
    cases h1 with
    | cons a b =>
      have e : (match pairD d, pairsD ds with
        | some p, some ps => some (p :: ps)
        | _, _ => none) = some _ := e
      split at e
      · rename_i p ps e1 e2
        cases e
        obtain ⟨ad, w, rfl, hs, hw⟩ := pair_rel ⟨a, h2.1⟩ e1
        obtain ⟨qs, kvs, rfl, hp, hr⟩ := pairs_rel ⟨b, h2.2⟩ e2
        exact ⟨ad :: qs, (p.1, w) :: kvs, rfl, .cons hs hp, .cons ⟨rfl, hw⟩ hr⟩
      · cases e
def dDictOf (aa : DA) : DE := fun e k => aa e fun xs e1 => ∃ ds kds, seeAll e1 xs = some [.list ds] ∧ pairsD ds = some kds ∧ k (.own (.dct (mergeD [] kds))) e1
theorem sim_dictOf (ha : SimAl K ar aa) : SimE K (tCB (rDictP K) ar) (dDictOf aa) := fun Hs H σ e Q k s hu c =>
  ha Hs H σ e _ _ s hu fun vs xs Hs1 H1 e1 f1 r1 h1 => by
    obtain ⟨ds, kds, e2, e3, h1⟩ := h1
    obtain ⟨v, rfl, hv⟩ := (sees_all f1.st r1 e2).one
    obtain ⟨p, ws, rfl, hp, hw, hl⟩ := hv.lst f1.st.sub
    obtain ⟨ps, kvs, rfl, hq, hr⟩ := pairs_rel hw e3
    refine ⟨p, ps, kvs, rfl, SqL.of hp, Paired.imp (fun _ _ z => f1.st.sub.sqt z) hq, fun D hD => ?_⟩
    obtain ⟨f2, r2⟩ := new_own (o := .dK (mergeK [] kvs)) f1 (c := .dct (mergeD [] kds)) hD ⟨mergeK [] kvs, upd_same, relD_merge hr .nil⟩
    exact c _ _ _ _ _ f2 r2 h1
theorem z_dictOf (q : aa e fun xs e1 => ∃ ds kds, seeAll e1 xs = some [.list ds] ∧ pairsD ds = some kds ∧ k (.own (.dct (mergeD [] kds))) e1) : dDictOf aa e k := q
theorem z_dictE {xs : List SV} {ds : List PyData} {kds : KD} {P : KD → Prop} (h1 : seeAll e xs = some [.list ds]) (h2 : pairsD ds = some kds) (q : P kds) : ∃ ds kds, seeAll e xs = some [.list ds] ∧ pairsD ds = some kds ∧ P kds := ⟨ds, kds, h1, h2, q⟩
end
end DL
namespace DL
open PySem PySem.Spec PyProof.Rows L2 TL
/-! ### [(t, d[t]) for t in d] -/
def keyB : Key → PyData
  | .inl i => .int i
  | .inr z => .str z
theorem dq_key {K : PySem.W.Frag} {H : Hp} (k : Key) : Dq K H (kV k) (keyB k) := by
  cases k with
  | inl i => exact .int i
  | inr z => exact .str z
def itemD (kvs : KD) (p : Key × PyData) : PyData := .tuple [keyB p.1, (valD kvs p.1).getD .none]
def itemsD (kvs : KD) : List PyData := kvs.map (itemD kvs)
abbrev tKV (K : PySem.W.Frag) (i j : Nat) : TE := tLockE (tLc (iKeys (tVar i)) (gName j) tYes (tTup (tCons (tVar j) (tCons (tDGet (tVar i) (tVar j)) tNil))) [j])
def dKV (i j : Nat) : DE := fun e k => ∃ kvs, conS e i = some (.dct kvs) ∧ j < e.length ∧ j ≠ i ∧ (kvs.all fun p => wfD (keyB p.1)) = true ∧ kvs.length ≤ sizeLine ∧ k (.own (.lst (itemsD kvs))) e
section
variable {K : PySem.W.Frag} {e : Env} {k : DK}
theorem relD_has {Hs : Hp} {ky : Key} {ws : List (Key × V)} {kvs : KD} (r : RelD K Hs ws kvs) (h : ∃ v, (ky, v) ∈ ws) : ∃ d v, valD kvs ky = some d ∧ valV ws ky = some v ∧ Dw K Hs v d := by
  obtain ⟨v, hv⟩ := h
  rcases relD_get (k := ky) r with ⟨_, z⟩ | h
  · exfalso
    have h2 : (ws.any fun kv => decide (kv.1 = ky)) = true := List.any_eq_true.mpr ⟨_, hv, by simp⟩
    have h3 := valV_any ky ws
    rw [z, h2] at h3
    cases h3
  · exact h
theorem paired_get {α β : Type} {R : α → β → Prop} : ∀ {xs : List α} {ys : List β} {m : Nat} {x : α} {y : β}, Paired R xs ys → xs[m]? = some x → ys[m]? = some y → R x y
  | _, _, _, _, _, .nil, h, _ => by simp at h
  | _, _, 0, _, _, .cons h _, e1, e2 => by
    simp at e1 e2
    subst e1 e2
    exact h
  | _, _, m + 1, _, _, .cons _ t, e1, e2 => paired_get (m := m) t (by simpa using e1) (by simpa using e2)
theorem dws_pt {Hs : Hp} {g : Key × PyData → PyData} : ∀ {ps : List Addr} {qs : KD}, ps.length = qs.length → (∀ (m : Nat) p q, ps[m]? = some p → qs[m]? = some q → Dw K Hs (.ref p) (g q)) → Dws K Hs (ps.map V.ref) (qs.map g)
  | [], [], _, _ => ⟨.nil, rfl⟩
  | p :: ps, q :: qs, hl, h => by
    obtain ⟨h1, h2⟩ := h 0 p q rfl rfl
    obtain ⟨t1, t2⟩ := dws_pt (ps := ps) (qs := qs) (by simpa using hl) fun m p' q' e1 e2 => h (m + 1) p' q' (by simpa using e1) (by simpa using e2)
    exact ⟨.cons h1 t1, by show (wfD (g q) && wfs (qs.map g)) = true; rw [h2, t2]; rfl⟩
structure KvI (H : Hp) (a D : Addr) (od : Obj) (ws : List (Key × V)) (t : Nat) (H' : Hp) (ps : List Addr) : Prop where
  fz : H' a = some (.frz od (.dK ws))
  len : ps.length = t
  lst : H' D = some (.lst (ps.map V.ref))
  tup : ∀ (m : Nat) p, ps[m]? = some p → H p = none ∧ p ≠ D ∧ p ≠ a ∧ ∃ kv v, ws[m]? = some kv ∧ valV ws kv.1 = some v ∧ H' p = some (.tup [kV kv.1, v])
  keep : ∀ b o, b ≠ D → b ≠ a → H b = some o → H' b = some o
theorem sim_kv {i j : Nat} : SimE K (tKV K i j) (dKV i j) := fun Hs H σ e Q k s hu c => by
  obtain ⟨kvs, h0, hj, hij, hk, hl, hu⟩ := hu
  obtain ⟨a, ws, ea, es, er⟩ := dct_at s h0
  have hlen : ws.length = kvs.length := er.length
  have hjs : j < σ.length := by rw [s.len]; exact hj
  refine ⟨a, .dK ws, es, True.intro, fun od => ⟨.ref a, ea, a, od, rfl, .inl ⟨ws, upd_same, fun D hD => ?_⟩⟩⟩
  have hDa : D ≠ a := fun z => by rw [z, upd_same] at hD; cases hD
  have hD0 : H D = none := by rw [upd_ne hDa] at hD; exact hD
  refine lc_it (J := Itk a od ws) (n := ws.length) walk_keys (fun t H' => ∃ ps, KvI H a D od ws t H' ps) ⟨[], ?_, rfl, upd_same, fun m p z => by simp at z, fun b o hb ha ho => ?_⟩ (fun t H' _ ⟨ps, p⟩ => p.fz) ?_ ?_
  · rw [upd_ne (fun z => hDa z.symm), upd_same]
  · rw [upd_ne hb, upd_ne ha]; exact ho
  · rintro t x H1 H1' ht ⟨ps, p⟩ ⟨rfl, ky, v0, hky, rfl⟩
    refine ⟨?_, ?_⟩
    · simp [wipe, List.set_set]
    · unfold tYes
      dsimp only
      rw [if_pos rfl]
      have hs2 : ((wipe σ [j]).set j (some (kV ky)))[j]? = some (some (kV ky)) := by simp [wipe, hjs]
      have hs3 : ((wipe σ [j]).set j (some (kV ky)))[i]? = some (some (.ref a)) := by
        rw [List.getElem?_set_ne hij]
        show ((σ.set j none) : St)[i]? = _
        rw [List.getElem?_set_ne hij]; exact ea
      obtain ⟨d, v, z1, z2, z3⟩ := relD_has er ⟨v0, List.mem_of_getElem? hky⟩
      refine ⟨kV ky, hs2, .ref a, hs3, kV ky, hs2, a, v, rfl, .inl ⟨ws, ky, .inr ⟨od, p.fz⟩, rfl, z2.symm⟩, by show 2 ≤ sizeLine; decide, fun T hT => ?_⟩
      have hTD : T ≠ D := fun z => by rw [z, p.lst] at hT; cases hT
      have hTa : T ≠ a := fun z => by rw [z, p.fz] at hT; cases hT
      refine ⟨ps.map V.ref, by rw [upd_ne (fun z => hTD z.symm)]; exact p.lst, by rw [List.length_map, p.len]; omega, ps ++ [T], ?_, by rw [List.length_append, p.len]; rfl, by rw [upd_same, List.map_append]; rfl, fun m q hq => ?_, fun b o hb ha ho => ?_⟩
      · rw [upd_ne (fun z => hDa z.symm), upd_ne (fun z => hTa z.symm)]; exact p.fz
      · by_cases hm : m < ps.length
        · rw [List.getElem?_append_left hm] at hq
          obtain ⟨y1, y2, y3, kv, v', y4, y5, y6⟩ := p.tup m q hq
          refine ⟨y1, y2, y3, kv, v', y4, y5, ?_⟩
          rw [upd_ne y2, upd_ne (fun z => by rw [z, hT] at y6; cases y6)]
          exact y6
        · rw [List.getElem?_append_right (by omega)] at hq
          have em : m = ps.length := by
            cases r : m - ps.length with
            | zero => omega
            | succ n => rw [r] at hq; simp at hq
          subst em
          rw [Nat.sub_self] at hq
          have hq : some T = some q := hq
          cases hq
          refine ⟨?_, hTD, hTa, (ky, v0), v, by rw [p.len]; exact hky, z2, by rw [upd_ne hTD, upd_same]⟩
          cases r : H T with
          | none => rfl
          | some o => rw [p.keep T o hTD hTa r] at hT; cases hT
      · rw [upd_ne hb, upd_ne (fun z => ?_)]
        · exact p.keep b o hb ha ho
        · rw [z] at hb ha ho
          rw [p.keep T o hb ha ho] at hT; cases hT
  · rintro H' ⟨ps, p⟩
    refine ⟨p.fz, ?_⟩
    have hps : ∀ b, b ∈ ps → H b = none ∧ b ≠ D ∧ b ≠ a := fun b hb => by
      obtain ⟨m, hm⟩ := List.getElem?_of_mem hb
      obtain ⟨y1, y2, y3, _⟩ := p.tup m b hm
      exact ⟨y1, y2, y3⟩
    have kp : ∀ b o, H b = some o → (upd H' a (.dK ws)) b = some o := fun b o ho => by
      by_cases hb : b = a
      · subst hb
        rw [upd_same, ← es, ho]
      · rw [upd_ne hb]
        exact p.keep b o (fun z => by rw [z, hD0] at ho; cases ho) hb ho
    have hHs : ∀ b, b ∉ ps → (if b ∈ ps then H' b else Hs b) = Hs b := fun b hb => if_neg hb
    have gp : GoP (fun _ => False) Hs H (fun b => if b ∈ ps then H' b else Hs b) (upd H' a (.dK ws)) := by
      refine ⟨fun b o ho => ?_, fun b h1 h2 => ?_, fun b o _ ho => kp b o ho, fun b hb => ?_⟩
      · show (if b ∈ ps then H' b else Hs b) = some o
        rw [if_neg (fun z => by have := (hps b z).1; rw [s.sub b o ho] at this; cases this)]
        exact ho
      · by_cases hb : b ∈ ps
        · exact .inl (hps b hb).1
        · exact absurd h2 (by have h1 : (if b ∈ ps then H' b else Hs b) ≠ none := h1; rw [if_neg hb] at h1; exact h1)
      · cases r : H b with
        | none => exact absurd r hb
        | some o => rw [kp b o r]; exact fun z => nomatch z
    have sb : Same (fun b => if b ∈ ps then H' b else Hs b) (upd H' a (.dK ws)) := fun b o ho => by
      have ho : (if b ∈ ps then H' b else Hs b) = some o := ho
      by_cases hb : b ∈ ps
      · rw [if_pos hb] at ho
        rw [upd_ne (hps b hb).2.2]; exact ho
      · rw [if_neg hb] at ho
        exact kp b o (s.sub b o ho)
    refine c (.ref D) (.own (.lst (itemsD kvs))) _ _ _ (s.ext gp sb) ⟨D, rfl, ?_, ⟨ps.map V.ref, by rw [upd_ne hDa]; exact p.lst, ?_, by unfold itemsD; rw [List.length_map]; exact hl⟩, hD0, fun l hl => ?_⟩ hu
    · show (if D ∈ ps then H' D else Hs D) = none
      rw [if_neg (fun z => (hps D z).2.1 rfl)]
      exact s.sub.free hD0
    · refine dws_pt (by rw [p.len, hlen]) fun m q kd h1 h2 => ?_
      obtain ⟨y1, y2, y3, kv, v, y4, y5, y6⟩ := p.tup m q h1
      obtain ⟨e1, _⟩ := paired_get er y4 h2
      obtain ⟨d, v', z1, z2, z3⟩ := relD_has er (ky := kv.1) ⟨kv.2, List.mem_of_getElem? y4⟩
      rw [y5] at z2
      cases z2
      have hm : q ∈ ps := List.mem_of_getElem? h1
      have z4 := z3.mono gp.p
      unfold itemD
      rw [← e1, z1]
      have hkw : wfD (keyB kv.1) = true := by
        have := List.all_eq_true.mp hk kd (List.mem_of_getElem? h2)
        rw [e1]; exact this
      refine ⟨.tup (SqT.of (show (if q ∈ ps then H' q else Hs q) = _ by rw [if_pos hm]; exact y6)) (.cons (dq_key _) (.cons z4.1 .nil)), wf_tup.mpr ⟨by show 2 ≤ sizeLine; decide, ?_⟩⟩
      show (wfD (keyB kv.1) && (wfD d && true)) = true
      rw [hkw, z4.2]; rfl
    · obtain ⟨o, ho⟩ := s.heldSome hl
      rw [hD0] at ho; cases ho
theorem z_kv {i j : Nat} {kvs : KD} (h1 : conS e i = some (.dct kvs)) (h2 : j < e.length) (h3 : j ≠ i) (h4 : (kvs.all fun p => wfD (keyB p.1)) = true) (h5 : kvs.length ≤ sizeLine) (q : k (.own (.lst (itemsD kvs))) e) : dKV i j e k := ⟨kvs, h1, h2, h3, h4, h5, q⟩
end
end DL
namespace DL
open PySem PySem.Spec PyProof.Rows L2 TL
section
variable {K : PySem.W.Frag} {e : Env} {k : DK} {i : Nat} {kvs : KD}
abbrev tJoined (ts : List TE) : TE := fun σ H Q => tJs ts Str.empty σ H fun out H1 => Q (.str out) H1
theorem call_dict_of {X : Cx} (hc : X.calm = true) : CallR X (.type "dict") (rDictP X.K) := call_dictP hc
theorem z_adct (h : e[i]? = some (.own (.dct kvs))) (q : k (.al i) e) : argK (.al i) e k := by
  unfold argK
  simp only [h]
  exact q
theorem z_aown (q : k (.own (.dct kvs)) e) : argK (.own (.dct kvs)) e k := q
theorem z_dc {di : DI} {dg : DG} {dt : DT} {dk de : DE} {vs : List Nat} (q : di e fun xs e1 => ∃ W : Nat → KD → Env → Prop, W 0 [] e1 ∧
  (∀ (i : Nat) x acc e2, xs[i]? = some x → W i acc e2 → dg (.d x) (wipeE e2 vs) fun e3 => dt e3 fun b e4 => if b = true then dk e4 fun yk e5 => de e5 fun y e6 => ∃ ky, keyS e6 yk = some ky ∧ asD y e6 fun d e7 => acc.length < sizeLine ∧ W (i + 1) (putD acc ky d) (mergeE e2 e7 vs) else W (i + 1) acc (mergeE e2 e4 vs)) ∧
  ∀ acc e2, W xs.length acc e2 → k (.own (.dct acc)) e2) : dDc di dg dt dk de vs e k := q
theorem z_keyE {x : SV} {ky : Key} {P : Key → Prop} (h : keyS e x = some ky) (q : P ky) : ∃ ky, keyS e x = some ky ∧ P ky := ⟨ky, h, q⟩
end
end DL
namespace L2
open PySem PySem.Spec PyProof.Rows
section
variable {X : Cx}
/-- name = {k: v for ..} on one line, the name a local -/
theorem ps_setDc {i : Nat} {y : Str} {py : Pos} {kx vx tg iter : Expr} {ifs : List Expr} {scope : Scope} {own : List (Str × Nat)} {pos spos : Pos} {wi : TI} {g : TG} {tt : TT} {tk tv : TE} (hc : X.calm = true) (hN : X.N.Nodup) (hy : X.N[i]? = some y) (hyl : X.env.scope.names.lookup y = some .local)
    (hsw : swapsWith (.DictComp kx vx [⟨tg, iter, ifs, 0⟩] scope pos) (some (.Name y py)) spos.line X.env = pure true) (hi : PI X tg iter wi) (ok : BlkOk X.N X.env.scope scope own)
    (hg : ∀ (s : Shared) (H : Hp) (C : Addr) (cl : List (Str × Addr)) (fp : List Addr), PG (X.blk s H scope (compEnvC scope cl C X.env) fp) tg g) (ht : ∀ (s : Shared) (H : Hp) (C : Addr) (cl : List (Str × Addr)) (fp : List Addr), PTs (X.blk s H scope (compEnvC scope cl C X.env) fp) ifs tt)
    (hk : ∀ (s : Shared) (H : Hp) (C : Addr) (cl : List (Str × Addr)) (fp : List Addr), PE (X.blk s H scope (compEnvC scope cl C X.env) fp) kx tk)
    (he : ∀ (s : Shared) (H : Hp) (C : Addr) (cl : List (Str × Addr)) (fp : List Addr), PE (X.blk s H scope (compEnvC scope cl C X.env) fp) vx tv) (hs : ∀ x, foldedSetIterable iter X.env x = pure x := by intro _; rfl) :
    PS X (.Assign [.Name y py] (.DictComp kx vx [⟨tg, iter, ifs, 0⟩] scope pos) spos) (tAsg (tDc wi g tt tk tv (own.map (·.2))) (gName i)) := by
  refine ⟨fun pins s σ H D I h => ?_⟩
  rw [exec_Assign_Name_used _ _ _ _ hsw]
  refine wpAny_bind (wpAny_standAt (wpAny_bind ?_))
  show wpAny _ X.A (do let _ ← comprehension (.DictComp kx vx [⟨tg, iter, ifs, 0⟩] scope pos) scope X.env (firstIterPos [⟨tg, iter, ifs, 0⟩] pos) newDict false (eval iter X.env) (some (assign (.Name y py) X.env))) _ _ s
  have h : tDc wi g tt tk tv (own.map (·.2)) σ H (fun x H1 => gName i x σ H1 D.nx) := h
  refine wpAny_bind (thn (dc_core (Qf := fun _ s' => SP X pins D .next s') hc hN I hi ok hg ht hk he hs h fun L C s' m H' I' q hn f => ?_) fun _ s' hq => wpAny_pure (wpAny_pure hq))
  show wpAny _ _ (assign (.Name y py) X.env (.ref L)) _ _ _
  refine wpAny_assign_Name (store_ok2 (v := V.ref L) I' hN hy (.inl hyl) rfl (fun s2 I2 ⟨a, sb, ha⟩ => ?_) (.inr hyl))
  obtain ⟨f0, f1, f2, f3, f4, f5⟩ := f
  have haC : C ≠ a := by
    rcases ha with z | z
    · rw [z]; exact f1
    · exact fun e => f4 y a z e.symm
  refine ⟨m, hn.sameBut sb haC, fun h3 sb3 => ?_⟩
  exact ⟨_, H', I2.turned (t' := s2.toks) (fun b o hb e => (sb3.2 b hb).trans e) f0 f1 f3 f4 f5, q⟩
theorem sw_trueD {kx vx : Expr} {gs : List Comprehension} {scope : Scope} {pos py : Pos} {y : Str} {l : Nat} {env : Env} (hk : env.scope.kind = .function) (hy : env.scope.names.lookup y = some .local) (hl : (py.line == pos.line) = true)
    (ha : (scope.names.any fun (n, k) => n == y && (k == .local || k == .cell)) = false) : swapsWith (.DictComp kx vx gs scope pos) (some (.Name y py)) l env = pure true := by
  have ky : env.kindOf y = some .local := hy
  have hb : env.blockKind = .function := by unfold Env.blockKind; rw [hk]; rfl
  unfold swapsWith
  simp only [hb, ky, ha, Expr.pos, hl]
  rfl
end
end L2
namespace DL
open PySem PySem.Spec PyProof.Rows L2
section
variable {K : PySem.W.Frag}
/-! ### a, b, *c = a tuple -/
def gStar2T (i j l : Nat) : DG := fun x e k => ∃ d d2 ds, see e x = some (.tuple (d :: d2 :: ds)) ∧ notPar e i = true ∧ notPar (e.set i (.d d)) j = true ∧ notPar ((e.set i (.d d)).set j (.d d2)) l = true ∧ k (((e.set i (.d d)).set j (.d d2)).set l (.own (.lst ds)))
theorem sim_gStar2T (i j l : Nat) : SimG K (gStarT K 3 2 (gCons (gName i) (gCons (gName j) (gCons (gName l) gNil)))) (gStar2T i j l) := fun Hs0 H0 σ0 e0 Hs H σ e v x Q k f r hu c => by
  obtain ⟨d, d2, ds, e1, n1, n2, n3, hk⟩ := hu
  obtain ⟨p, vs, rfl, h0, h1, h2, h3, h4⟩ := (sees_of f.st r e1).tup f.st.sub
  obtain ⟨q1, q2⟩ := h2
  have q2 : (wfD d && (wfD d2 && wfs ds)) = true := q2
  rw [Bool.and_eq_true, Bool.and_eq_true] at q2
  cases q1 with
  | @cons v0 vs _ _ hv hvs =>
    cases hvs with
    | @cons v1 vs _ _ hv1 hvs =>
      refine ⟨p, _, rfl, h1, by simp, fun D hD => ?_⟩
      have es : (v0 :: v1 :: vs).take 2 ++ [V.ref D] ++ ((v0 :: v1 :: vs).drop 2).drop ((v0 :: v1 :: vs).length + 1 - 3) = [v0, v1, .ref D] := by simp
      have eu : ((v0 :: v1 :: vs).drop 2).take ((v0 :: v1 :: vs).length + 1 - 3) = vs := by simp
      rw [es, eu]
      obtain ⟨gp, sb⟩ := gp_cell (o := .lst vs) f.st.sub hD
      have f1 := f.more gp sb
      have f2 := f1.setD (i := i) (s := .d d) (w := v0) n1 ⟨v0, rfl, hv, q2.1⟩ rfl
      have f3 := f2.setD (i := j) (s := .d d2) (w := v1) n2 ⟨v1, rfl, hv1, q2.2.1⟩ rfl
      refine ⟨_, _, rfl, _, _, rfl, _, _, rfl, rfl, ?_⟩
      refine c _ Hs _ _ (f3.setO (i := l) (c := .lst ds) (a := D) n3 (none_sub f.st.sub hD) ⟨vs, upd_same, ⟨hvs, q2.2.2⟩, by simp at h3; omega⟩ (fresh_back f hD) fun m hl => ?_) (Same.refl _) hk
      rcases held_set hl with ⟨_, _, z⟩ | ⟨_, z⟩
      · cases z
      rcases held_set z with ⟨_, _, z⟩ | ⟨_, z⟩
      · cases z
      · obtain ⟨o, ho⟩ := f.st.heldSome z
        rw [hD] at ho
        cases ho
theorem z_gStar2T {e : Env} {x : SV} {d d2 : PyData} {ds : List PyData} {i j l : Nat} {kn : Env → Prop} (h : see e x = some (.tuple (d :: d2 :: ds))) (n1 : notPar e i = true) (n2 : notPar (e.set i (.d d)) j = true) (n3 : notPar ((e.set i (.d d)).set j (.d d2)) l = true) (q : atE (((e.set i (.d d)).set j (.d d2)).set l (.own (.lst ds))) kn) : gStar2T i j l x e kn := ⟨d, d2, ds, h, n1, n2, n3, q⟩
/-! ### a statement that is never reached -/
def tDead : TS := fun _ _ _ => False
def dDead : DS := fun _ _ => False
theorem ps_dead {X : Cx} {st : Stmt} : PS X st tDead := ⟨fun _ _ _ _ _ _ h => h.elim⟩
theorem sim_dead : SimS K tDead dDead := fun _ _ _ _ _ _ _ h _ => h.elim
end
end DL

/-! defs that want a token out ahead of them: e.replace of written texts -/
namespace L2
open PySem PySem.Spec PyProof.Rows CwR
/-- a def's promise, wanted only where a token is out -/
structure FnT (P : Program) (w : World) (K : PySem.W.Frag) (mg : Str → Option Value) (base : Heap) (k : Nat) (f : Addr) (fd : FuncData) (ps : List Str) (sp : Sp) : Prop where
  ln : ∀ vs H Q E, sp vs H Q E → vs.length = ps.length
  go : ∀ (B : Around) (ot : List Env) (s : Shared) (H : Hp) (ar : Args) (us : List Value) (vs : List V) (Q : VK) (E : XK), 1 ≤ s.toks → Room k B → Env0 P w K mg base B ot s H → BindsTo s fd ar (ps.zip us) → Vals vs us → sp vs H Q E →
    codeAny (model P w) B (.call (.ref f) ar) (CR CX0 ot P w H s Q E) s
section
variable {X : Cx} {k : Nat} {f : Addr} {fd : FuncData} {ps : List Str} {sp : Sp} {dvs : List V} {ds : List Value} {E : XK} {x : Str} {p pos : Pos} {e : Expr} {es : List Expr} {t : TA}
theorem pet_callT (F : FnT X.prog X.w X.K X.mg X.base k f fd ps sp) (rm : Room k X.A) (gl : Gl X x) (at_ : X.mg x = some (.ref f)) (kp : PySem.W.keepIn X.K (.ref f) = true) (bd : Binds X.K fd ps ds) (dv : Vals dvs ds)
    (aa : PA X (e :: es) t) (nd : (x == ("__debug__" : Str)) = false := by decide) (se : starEach (e :: es) X.env = (false, eval e X.env) :: starEach es X.env := by rfl) (sp0 : (backTo pos (starEach es X.env)).any (·.1) = false := by rfl) :
    PET X (.Call (.Name x p) (e :: es) [] pos) (tCall sp dvs E t) := by
  intro pins s σ H Q h0 I hq
  refine wpAny_Call_Name_kw (ld_glob I gl at_ ?_ nd)
  refine PySem.W.callWith_K (h₀ := X.base) I.ok.mod.kin kp (wpAny_mono (PySem.wpAny_toks (aa.run pos pins s σ H _ I hq)) ?_ fun _ _ z => z.2) se sp0
  rintro us s1 ⟨hk, vs, H1, I1, rv, q⟩
  refine ⟨I1.kIn, ?_⟩
  have rv2 := rv.append dv
  have ll : (us ++ ds).length = ps.length := by rw [← rv2.length, F.ln _ _ _ _ q]
  refine wpAny_call (codeAny_mono (F.go X.A X.stack s1 H1 ⟨us, []⟩ _ _ Q E (Nat.le_trans h0 hk) rm I1.env0 (bd s1 us I1.kIn ll) rv2 q) ?_)
  rintro (er | fl) s2 h2
  · exact h2.elim
  · cases fl with
    | ret u => exact I1.after h2
    | _ => exact h2.elim
end
theorem PSsT.nox {X : Cx} {st : List Stmt} {t : TS} (h : PSsT X.nox st t) : PSsT X st t := fun pins s σ H D h0 I hw =>
  wpAny_mono (h pins s σ H D h0 (I.wish _) hw) (fun f s1 q => by
    cases f with
    | next => obtain ⟨σ', H', J, z⟩ := q; exact ⟨σ', H', J.wish _, z⟩
    | brk => obtain ⟨σ', H', J, z⟩ := q; exact ⟨σ', H', J.wish _, z⟩
    | cont => obtain ⟨σ', H', J, z⟩ := q; exact ⟨σ', H', J.wish _, z⟩
    | ret v => obtain ⟨x, σ', H', J, z⟩ := q; exact ⟨x, σ', H', J.wish _, z⟩) fun _ _ z => z.elim
section
variable {P : Program} {K : PySem.W.Frag} {base : Heap} {w : World} {mg : Str → Option Value}
/-- such a def by its body -/
theorem fnT {x qual : Str} {st : Stmt} {f : Addr} {fd : FuncData} {N ps : List Str} {k : Nat} {sp : Sp} (F : Fun K x qual st f fd) (S : FnScope N ps (defScope st)) (ln : ∀ vs H Q E, sp vs H Q E → vs.length = ps.length)
    (body : ∀ (cdv : Value) (B : Around) (ot : List Env) (s : Shared) (H : Hp) (vs : List V) (Q : VK) (E : XK), Room k (B.deeper (envOfC qual (defScope st) s.heap.objs.size f cdv)) → sp vs H Q E →
      ∃ t, PSsT (cxOf CX0 P w K mg base N qual (defScope st) f cdv B ot s H E).nox (defBody st) t ∧ t { nx := fun _ H' => Q .non H', rt := Q } (start N vs) H) : FnT P w K mg base (k + 1) f fd ps sp := by
  obtain ⟨c1, c2, c3, c4, c5, c6, cdv, c7, c8, rfl, lk, cc⟩ := F.ex
  refine ⟨ln, fun B ot s H ar us vs Q E h0 rm v0 bd rv q => ?_⟩
  have kin : K.In s.heap := v0.mod.kin.keeps fun b o z => (v0.bs b o z).1
  have free := v0.mod.nolimit.keeps fun b o z => (v0.bs b o z).1
  refine codeAny_call_function rm.depth (kin _ _ lk) rfl S.co S.gen rfl (PySem.W.codeRec_of kin cc) (bd _ _ _ _ ?_)
  refine wpAny_mono (PySem.wpAny_toks (wpAny_newFunctionEnv_cells (Q := fun ev s1 => ev = newEnv (PySem.W.fnOf x qual (defArgs st) (defBody st) (defScope st) Value.none c3 c4 c5 c6 cdv c7).scope s.heap.objs.size (PySem.W.fnOf x qual (defArgs st) (defBody st) (defScope st) Value.none c3 c4 c5 c6 cdv c7).globals (cellsFrom (s.heap.objs.size + 1) (PySem.W.fnOf x qual (defArgs st) (defBody st) (defScope st) Value.none c3 c4 c5 c6 cdv c7).scope.names []) ((PySem.W.fnOf x qual (defArgs st) (defBody st) (defScope st) Value.none c3 c4 c5 c6 cdv c7).qualname ++ Str.ofString ".<locals>.") (some f) (PySem.W.fnOf x qual (defArgs st) (defBody st) (defScope st) Value.none c3 c4 c5 c6 cdv c7).code none (PySem.W.fnOf x qual (defArgs st) (defBody st) (defScope st) Value.none c3 c4 c5 c6 cdv c7).builtins ∧ InCallC s ev.locals (bindL ev.kindOf (ps.zip us) fun _ => none) ev.cells (bindC ev.kindOf (ps.zip us) fun _ => none) s1) S.kind ?hk ?hq)) ?rest fun _ _ z => z.2
  case hq => exact fun ev he s1 ic => And.intro he ic
  case hk =>
    intro y hy
    obtain ⟨n, v⟩ := y
    exact (S.par n (List.of_mem_zip hy).1).imp id fun c => ⟨c, PySem.W.cellsFrom_some _ _ _ (.inl c)⟩
  case rest =>
    rintro ev s1 ⟨hk, he, ic⟩
    cases he
    refine ⟨free.keeps ic.toInCall.keep, codeAny_func ?_⟩
    obtain ⟨t, ht, ht2⟩ := body cdv B ot s H vs Q E (rm.deeper _) q
    have I0 := inv_start (CX := CX0) (P := P) (w := w) (E := E) S rm.hd v0 (ln _ _ _ _ q) rv ic
    refine wpAny_mono (ht.nox [] s1 (start N vs) H _ (Nat.le_trans h0 hk) I0 ht2) ?_ fun e s' z => z
    rintro fl s' z
    cases fl with
    | ret u =>
      obtain ⟨v, σ', H', J, r1, z⟩ := z
      exact ⟨v, H', J.os, J.bare, J.base, J.hok, r1, z⟩
    | next =>
      obtain ⟨σ', H', J, z⟩ := z
      exact ⟨.non, H', J.os, J.bare, J.base, J.hok, rfl, z⟩
    | brk => exact z.elim fun _ z => z.elim fun _ z => z.2.elim
    | cont => exact z.elim fun _ z => z.elim fun _ z => z.2.elim
end
end L2
namespace L2
open PySem PySem.Spec PyProof.Rows CwR
section
variable {X : Cx} {a c : Expr} {ta : TE} {tc : TT} {z : Str} {j : Nat} {p pos : Pos} {A B rest : List Stmt} {t u v : TS}
/-- a test behind which a token is out -/
def PTK (X : Cx) (c : Expr) (t : TT) : Prop :=
  ∀ (pins : List (Addr × Obj)) (s : Shared) (σ : St) (H : Hp) (Q : Bool → Hp → Prop) (whole : Sem Value), Inv X pins σ H s → t σ H Q → wpAny (model X.prog X.w) X.A (isTrue c X.env whole) (fun b s' => 1 ≤ s'.toks ∧ ∃ H', Inv X pins σ H' s' ∧ Q b H') X.xe s
theorem ptk_cmp {op : CmpOp} {r : R2} (ho : OpR X (compareOp op) r) (ha : PE X a ta) (hm : behindInMarks op (.Constant (.str z) j p) = false) : PTK X (.Compare a [op] [.Constant (.str z) j p] pos) (tTest (tOp r ta (tC (.str z)))) := by
  intro pins s σ H Q whole I h
  refine wpAny_isTrue_Compare1 (thn (ha.run pins s σ H _ I h) fun w s1 ⟨x, H1, I1, r1, q1⟩ => ?_) hm
  refine Calls.Constant_str ?_
  refine wpAny_mono (PySem.wpAny_toks (ho pins { s1 with toks := s1.toks + 1 } σ H1 x (.str z) w (.str z s1.toks) _ (I1.tok _) r1 ⟨_, rfl⟩ q1)) ?_ fun _ _ z => z.2
  rintro d s3 ⟨hk, y, H3, I3, r3, k, e, q3⟩
  subst e
  cases r3
  exact wpAny_truthy_bool ⟨Nat.le_trans (Nat.succ_le_succ (Nat.zero_le _)) hk, H3, I3, q3⟩
theorem pss_ifK (hc : PTK X c tc) (ha : PSsT X A t) (hb : PSsT X B u) (hr : PSsT X rest v) : PSs X (.If c A B pos :: rest) (tSeq (tIfS tc t u) v) := by
  refine ⟨fun pins s σ H D I h => ?_⟩
  refine wpAny_execs_cons (wpAny_If (wpAny_mono (hc pins s σ H _ _ I h) (fun d s1 q => ?_) fun _ _ z => z))
  obtain ⟨hk, H1, I1, q1⟩ := q
  cases d with
  | true =>
    refine wpAny_mono (PySem.wpAny_toks (ha pins s1 σ H1 { D with nx := v D } hk I1 q1)) (fun f s2 q => ?_) fun _ _ z => z.2
    obtain ⟨hk2, q⟩ := q
    cases f with
    | next => obtain ⟨σ2, H2, I2, q2⟩ := q; exact hr pins s2 σ2 H2 D (Nat.le_trans hk hk2) I2 q2
    | brk => exact q
    | cont => exact q
    | ret w => exact q
  | false =>
    refine wpAny_mono (PySem.wpAny_toks (hb pins s1 σ H1 { D with nx := v D } hk I1 q1)) (fun f s2 q => ?_) fun _ _ z => z.2
    obtain ⟨hk2, q⟩ := q
    cases f with
    | next => obtain ⟨σ2, H2, I2, q2⟩ := q; exact hr pins s2 σ2 H2 D (Nat.le_trans hk hk2) I2 q2
    | brk => exact q
    | cont => exact q
    | ret w => exact q
end
end L2
namespace DL
open PySem PySem.Spec PyProof.Rows L2 TL CwR
section
variable {K : PySem.W.Frag} {ta : TE} {da : DE} {e : Env} {k : DK} {x : SV}
/-! ### e.replace of written texts -/
def dReplC (da : DE) (y z : Str) : DE := fun e k => da e fun x e1 => ∃ w, see e1 x = some (.str w) ∧ w.length + (w.length + 1) * z.length ≤ 16777216 ∧ k (.d (.str (Txt.replace w y z))) e1
theorem sim_replC {y z : Str} (hy : (decide (1 ≤ y.length) && PyData.strOk z) = true) (ha : SimE K ta da) : SimE K (tReplC ta y z) (dReplC da y z) := fun Hs H σ e Q k s hu c =>
  ha Hs H σ e _ _ s hu fun v x Hs1 H1 e1 f1 r1 h1 => by
    obtain ⟨w, e2, hl, h1⟩ := h1
    obtain ⟨rfl, l1, o1⟩ := (sees_of f1.st r1 e2).str
    rw [Bool.and_eq_true, decide_eq_true_iff] at hy
    refine ⟨w, rfl, hl, c _ (.d (.str _)) _ _ _ f1 ⟨.str _, wf_str.mpr ⟨?_, ok_repl hy.1 o1 hy.2⟩⟩ h1⟩
    exact Nat.le_trans (TK.replace_len w y z) hl
theorem z_replC {y z : Str} (q : da e fun x e1 => ∃ w, see e1 x = some (.str w) ∧ w.length + (w.length + 1) * z.length ≤ 16777216 ∧ k (.d (.str (Txt.replace w y z))) e1) : dReplC da y z e k := q
theorem z_replE {w y z : Str} {P : Str → Prop} (h : see e x = some (.str w)) (l : w.length + (w.length + 1) * z.length ≤ 16777216) (q : P w) : ∃ w, see e x = some (.str w) ∧ w.length + (w.length + 1) * z.length ≤ 16777216 ∧ P w := ⟨w, h, l, q⟩
end
end DL

/-! the data layer: small rules of later laws; `and`/`or` of which both sides are reckoned -/
namespace DL
open PySem PySem.Spec PyProof.Rows L2 TL
theorem z_fS {z : Str} {P : Str → Prop} (q : P z) : fmtD (.str z) P := q
theorem z_fI {i : Int} {P : Str → Prop} (h : i.natAbs.log2 < 1920) (q : P (intS i)) : fmtD (.int i) P := ⟨h, q⟩
section
variable {K : PySem.W.Frag} {ta tb : TE} {da db : DE} {tt tu : TT} {dt du : DT} {e : Env} {k : DK} {kb : Bool → Env → Prop} {b c : Bool}
def dAndTB (da db : DE) : DE := dAndT da db
def dOrTB (da db : DE) : DE := dOrT da db
def dAndB (dt du : DT) : DT := dAnd dt du
def dOrB (dt du : DT) : DT := dOr dt du
theorem sim_andTB (ha : SimE K ta da) (hb : SimE K tb db) : SimE K (tAndT K ta tb) (dAndTB da db) := sim_andT ha hb
theorem sim_orTB (ha : SimE K ta da) (hb : SimE K tb db) : SimE K (tOrT K ta tb) (dOrTB da db) := sim_orT ha hb
theorem sim_andB (ha : SimT K tt dt) (hb : SimT K tu du) : SimT K (tAnd tt tu) (dAndB dt du) := sim_and ha hb
theorem sim_orB (ha : SimT K tt dt) (hb : SimT K tu du) : SimT K (tOr tt tu) (dOrB dt du) := sim_or ha hb
theorem z_andTB (h1 : ∀ k' : DK, k' (.d (.bool b)) e → da e k') (h2 : ∀ k' : DK, k' (.d (.bool c)) e → db e k') (q : k (.d (.bool (b && c))) e) : dAndTB da db e k :=
  y_andT (h1 _ (y_tkB rfl (by cases b with
    | true => rw [if_pos rfl]; exact h2 _ q
    | false => rw [if_neg (by decide)]; exact q)))
theorem z_orTB (h1 : ∀ k' : DK, k' (.d (.bool b)) e → da e k') (h2 : ∀ k' : DK, k' (.d (.bool c)) e → db e k') (q : k (.d (.bool (b || c))) e) : dOrTB da db e k :=
  y_orT (h1 _ (y_tkB rfl (by cases b with
    | true => rw [if_pos rfl]; exact q
    | false => rw [if_neg (by decide)]; exact h2 _ q)))
theorem z_andB (h1 : ∀ k' : Bool → Env → Prop, k' b e → dt e k') (h2 : ∀ k' : Bool → Env → Prop, k' c e → du e k') (q : kb (b && c) e) : dAndB dt du e kb :=
  y_and (h1 _ (by cases b with
    | true => rw [if_pos rfl]; exact h2 _ q
    | false => rw [if_neg (by decide)]; exact q))
theorem z_orB (h1 : ∀ k' : Bool → Env → Prop, k' b e → dt e k') (h2 : ∀ k' : Bool → Env → Prop, k' c e → du e k') (q : kb (b || c) e) : dOrB dt du e kb :=
  y_or (h1 _ (by cases b with
    | true => rw [if_pos rfl]; exact q
    | false => rw [if_neg (by decide)]; exact h2 _ q))
end
end DL

/-! zip(a dict of the module, a tuple, strict=True) -/
namespace L2
open PySem PySem.Spec PyProof.Rows RZ
section
variable {prog : Program} {w : World} {A : Around} {E : Value → Shared → Prop} {s : Shared}
/-- strictly drawn: as a loop draws -/
theorem nextOrEnd_of {M : Model} {it : Value} {Q : Option Value → Shared → Prop} (h : wpAny M A (pyNext it) Q E s) : wpAny M A (Builtin.SmallTypes.nextOrEnd it) Q E s := fun Γ p hΓ => by
  have h := h Γ p hΓ
  unfold pyNext at h
  unfold Builtin.SmallTypes.nextOrEnd Builtin.SmallTypes.nextOf
  rw [Sem.wp_bind', Sem.wp_attempt] at h ⊢
  rw [Sem.wp_bind']
  refine Sem.wp_mono _ _ _ (fun o p' s' h' => ?_) (fun e p' s' h' => h') p s h
  cases o with
  | none =>
    rw [Sem.wp_cmd_unsupported] at h'
    exact h'.elim
  | some v => exact h'
abbrev ZipS (h : Heap) (z TI TO : Addr) (f : Value) : Prop := h.get? z = some { cls := .type "zip", dict := none, data := .fields #[f, .bool false, .bool true, .ref TI, .ref TO], slots := #[] }
theorem zipS_item {z TI TO i1 i2 d l : Addr} {k n : Nat} {es : Array DictEntry} {ys : Array Value} {y a b : Value} {Q : Value → Shared → Prop} (D : ZipApart z TI TO i1 i2 d l)
    (gz : ZipS s.heap z TI TO .none) (gI : IsPair s.heap TI (.ref i1) (.ref i2)) (gO : IsPair s.heap TO a b)
    (g1 : s.heap.IsKeyIter i1 d k es.size n) (gd : s.heap.DictRaw d es n) (g2 : s.heap.IsTupleIter i2 l k) (gl : s.heap.IsTuple l ys) (lt : k < es.size) (gy : ys[k]? = some y)
    (hQ : ∀ h', ZipS h' z TI TO (rawInt s.heap.objs.size) → IsPair h' TO es[k].key y → h'.IsKeyIter i1 d (k + 1) es.size n → h'.IsTupleIter i2 l (k + 1) → IsPair h' s.heap.objs.size es[k].key y →
      (∀ c o, c ≠ z → c ≠ TO → c ≠ i1 → c ≠ i2 → s.heap.get? c = some o → h'.get? c = some o) → Q (.ref s.heap.objs.size) { s with heap := h' }) :
    wpAny (model prog w) A (Builtin.«zip.__next__» ⟨[.ref z], []⟩) (fun fin s' => ∃ v, fin = .done (.ret v) ∧ Q v s') E s := by
  show wpAny _ A (field (.ref z) 2 >>= _) _ E s
  refine wpAny_bind (wpAny_field gz rfl (x := .bool true) rfl ?_)
  show wpAny _ A (field (.ref z) 3 >>= _) _ E s
  refine wpAny_bind (wpAny_field gz rfl (x := .ref TI) rfl ?_)
  refine wpAny_bind (wpAny_seqItems gI rfl ?_)
  show wpAny _ A (Builtin.SmallTypes.ownedTupleIsFree (.ref z) >>= _) _ E s
  refine wpAny_bind ?_
  unfold Builtin.SmallTypes.ownedTupleIsFree
  refine wpAny_bind (wpAny_field gz rfl (x := .none) rfl (wpAny_pure ?_))
  simp only [if_true]
  refine wpAny_bind (wpAny_rule ?_)
  refine wpAny_bind (wpAny_field gz rfl (x := .ref TO) rfl ?_)
  refine wpAny_bind (wpAny_setField_rec gz (by simp) fun ha gz1 sa => ?_)
  replace gz1 : ZipS ha z TI TO .ellipsis := gz1
  refine wpAny_bind ?_
  simp only [List.zipIdx_cons, List.zipIdx_nil, List.forIn_cons, List.forIn_nil]
  refine wpAny_bind (wpAny_bind (wpAny_onRaise ?_))
  show wpAny _ A (Builtin.SmallTypes.nextOrEnd (.ref i1)) _ _ _
  refine nextOrEnd_of (wpAny_pyNext_keys_item_raw (g1.extBut sa.extBut D.i1z) (gd.at fun o q => sa.extBut _ _ D.l1z q) lt fun hb g1b sb => ?_)
  have gO2 : IsPair hb TO a b := sb.extBut _ _ D.TOi1 (sa.extBut _ _ D.TOz gO)
  refine wpAny_bind (wpAny_seqItems gO2 rfl ?_)
  refine wpAny_bind (wpAny_updateSeq_pair gO2 fun hc gO3 sc => ?_)
  replace gO3 : IsPair hc TO es[k].key b := gO3
  refine wpAny_bind (wpAny_letGo (wpAny_pure ?_))
  refine wpAny_bind (wpAny_bind (wpAny_onRaise ?_))
  show wpAny _ A (Builtin.SmallTypes.nextOrEnd (.ref i2)) _ _ _
  refine nextOrEnd_of (wpAny_pyNext_tuple_item (((g2.extBut sa.extBut D.i2z).extBut sb.extBut D.i12.symm).extBut sc.extBut D.TOi2.symm)
    (((gl.extBut sa.extBut D.l2z).extBut sb.extBut D.l2i1).extBut sc.extBut D.l2TO) gy fun hd g2d sd => ?_)
  have gO4 : IsPair hd TO es[k].key b := sd.extBut _ _ D.TOi2 gO3
  refine wpAny_bind (wpAny_seqItems gO4 rfl ?_)
  refine wpAny_bind (wpAny_updateSeq_pair gO4 fun he gO5 se => ?_)
  replace gO5 : IsPair he TO es[k].key y := gO5
  refine wpAny_bind (wpAny_letGo (wpAny_pure (wpAny_pure ?_)))
  refine wpAny_bind (wpAny_seqItems gO5 rfl ?_)
  refine wpAny_bind (wpAny_newTuple ?_)
  have zz : he.objs.size = s.heap.objs.size := by rw [se.1, sd.1, sc.1, sb.1, sa.1]
  have gz5 : ZipS he z TI TO .ellipsis := se.extBut _ _ D.TOz.symm (sd.extBut _ _ D.i2z.symm (sc.extBut _ _ D.TOz.symm (sb.extBut _ _ D.i1z.symm gz1)))
  have kp : ∀ c o, c ≠ z → c ≠ TO → c ≠ i1 → c ≠ i2 → s.heap.get? c = some o → he.get? c = some o := fun c o c1 c2 c3 c4 q =>
    se.extBut _ _ c2 (sd.extBut _ _ c4 (sc.extBut _ _ c2 (sb.extBut _ _ c3 (sa.extBut _ _ c1 q))))
  have g1e : he.IsKeyIter i1 d (k + 1) es.size n := ((g1b.extBut sc.extBut D.TOi1.symm).extBut sd.extBut D.i12).extBut se.extBut D.TOi1.symm
  have g2e : he.IsTupleIter i2 l (k + 1) := g2d.extBut se.extBut D.TOi2.symm
  have lz : z < he.objs.size := Heap.lt_size gz5
  show wpAny _ A (Builtin.SmallTypes.ownedTupleHandOut (.ref z) (.ref he.objs.size) >>= _) _ E _
  refine wpAny_bind ?_
  unfold Builtin.SmallTypes.ownedTupleHandOut
  have gz6 : ZipS (he.push { cls := .type "tuple", data := .seq #[es[k].key, y] }) z TI TO .ellipsis := Heap.get?_push_of_some _ gz5
  refine wpAny_bind (wpAny_setField_rec gz6 (by simp) fun hf gz7 sf => ?_)
  replace gz7 : ZipS hf z TI TO (rawInt he.objs.size) := gz7
  refine wpAny_setField_rec gz7 (by simp) fun hg gz8 sg => ?_
  replace gz8 : ZipS hg z TI TO (rawInt he.objs.size) := gz8
  have up : ∀ c o, c ≠ z → he.get? c = some o → hg.get? c = some o := fun c o c1 q => sg.extBut _ _ c1 (sf.extBut _ _ c1 (Heap.get?_push_of_some _ q))
  have gT : IsPair hg he.objs.size es[k].key y := sg.extBut _ _ (Nat.ne_of_gt lz) (sf.extBut _ _ (Nat.ne_of_gt lz) (Heap.get?_push_size _ rfl))
  rw [zz] at gz8 gT
  refine wpAny_pure ⟨_, rfl, ?_⟩
  show Q (.ref he.objs.size) _
  rw [zz]
  exact hQ hg gz8 (up _ _ D.TOz gO5) (g1e.at fun o q => up _ o D.i1z q) (g2e.at fun o q => up _ o D.i2z q) gT fun c o c1 c2 c3 c4 q => up c o c1 (kp c o c1 c2 c3 c4 q)
theorem zipS_end {z TI TO i1 i2 d l : Addr} {k n : Nat} {es : Array DictEntry} {ys : Array Value} {a b : Value} {Q : Fin → Shared → Prop} (hh : A.handled = none) (D : ZipApart z TI TO i1 i2 d l)
    (gz : ZipS s.heap z TI TO .none) (gI : IsPair s.heap TI (.ref i1) (.ref i2)) (gO : IsPair s.heap TO a b)
    (g1 : s.heap.IsKeyIter i1 d k es.size n) (gd : s.heap.DictRaw d es n) (g2 : s.heap.IsTupleIter i2 l k) (gl : s.heap.IsTuple l ys) (ge : es.size ≤ k) (gy : ys[k]? = none)
    (hE : ∀ h' e, (∀ c o, c ≠ z → c ≠ TO → c ≠ i1 → c ≠ i2 → s.heap.get? c = some o → h'.get? c = some o) → (∃ o, h'.get? e = some o ∧ o.cls = .type "StopIteration") → E (.ref e) { s with heap := h' }) :
    wpAny (model prog w) A (Builtin.«zip.__next__» ⟨[.ref z], []⟩) Q E s := by
  show wpAny _ A (field (.ref z) 2 >>= _) _ E s
  refine wpAny_bind (wpAny_field gz rfl (x := .bool true) rfl ?_)
  show wpAny _ A (field (.ref z) 3 >>= _) _ E s
  refine wpAny_bind (wpAny_field gz rfl (x := .ref TI) rfl ?_)
  refine wpAny_bind (wpAny_seqItems gI rfl ?_)
  show wpAny _ A (Builtin.SmallTypes.ownedTupleIsFree (.ref z) >>= _) _ E s
  refine wpAny_bind ?_
  unfold Builtin.SmallTypes.ownedTupleIsFree
  refine wpAny_bind (wpAny_field gz rfl (x := .none) rfl (wpAny_pure ?_))
  simp only [if_true]
  refine wpAny_bind (wpAny_rule ?_)
  refine wpAny_bind (wpAny_field gz rfl (x := .ref TO) rfl ?_)
  refine wpAny_bind (wpAny_setField_rec gz (by simp) fun ha gz1 sa => ?_)
  replace gz1 : ZipS ha z TI TO .ellipsis := gz1
  refine wpAny_bind ?_
  simp only [List.zipIdx_cons, List.zipIdx_nil, List.forIn_cons, List.forIn_nil]
  refine wpAny_bind (wpAny_bind (wpAny_onRaise ?_))
  show wpAny _ A (Builtin.SmallTypes.nextOrEnd (.ref i1)) _ _ _
  refine nextOrEnd_of (wpAny_pyNext_keys_end_raw hh (g1.extBut sa.extBut D.i1z) (gd.at fun o q => sa.extBut _ _ D.l1z q) ge fun hb sb => ?_)
  have gz2 : ZipS hb z TI TO .ellipsis := sb _ _ D.i1z.symm gz1
  refine wpAny_bind (wpAny_setField_rec gz2 (by simp) fun hc gz3 sc => ?_)
  refine wpAny_bind ?_
  show wpAny _ A (forIn (([Value.ref i1, Value.ref i2].drop 1).zipIdx 1) PUnit.unit _ >>= _) _ _ _
  refine wpAny_bind ?_
  simp only [List.drop_succ_cons, List.drop_zero, List.zipIdx_cons, List.zipIdx_nil, List.forIn_cons, List.forIn_nil]
  refine wpAny_bind ?_
  refine wpAny_bind ?_
  have kc : ∀ c o, c ≠ z → c ≠ i1 → s.heap.get? c = some o → hc.get? c = some o := fun c o c1 c2 q => sc.extBut _ _ c1 (sb _ _ c2 (sa.extBut _ _ c1 q))
  refine nextOrEnd_of (wpAny_pyNext_tuple_end hh (g2.at fun o q => kc _ o D.i2z D.i12.symm q) (gl.at fun o q => kc _ o D.l2z D.l2i1 q) gy fun hd sd => ?_)
  show wpAny _ A (pure (ForInStep.yield PUnit.unit)) _ _ _
  refine wpAny_pure (wpAny_pure (wpAny_bind (wpAny_rule ?_)))
  unfold Builtin.SmallTypes.stopIteration
  show wpAny _ A (newExc (.type "StopIteration") [] >>= _) _ E _
  refine wpAny_bind ?_
  simp only [newExc, newTuple]
  refine wpAny_bind (wpAny_newObj_type ?_ (by size_fits)); refine wpAny_bind (m := firstArgMember _ _) (wpAny_of_eq (a := Value.none) (by first | rfl | (simp only [firstArgMember]; rfl)) ?_); refine wpAny_newObj_type ?_ (by size_fits)
  simp only [raiseNew]
  refine wpAny_bind (wpAny_handled ?_)
  rw [hh]
  refine wpAny_bind (wpAny_pure (wpAny_throw ?_))
  exact hE _ _ (fun c o c1 c2 c3 c4 q => Heap.get?_push_of_some _ (Heap.get?_push_of_some _ (sd _ _ c4 (kc c o c1 c3 q)))) ⟨_, Heap.get?_push_size _ rfl, rfl⟩
theorem next_zipS_item {z TI TO i1 i2 d l : Addr} {k n : Nat} {es : Array DictEntry} {ys : Array Value} {y a b : Value} {Q : Option Value → Shared → Prop} (D : ZipApart z TI TO i1 i2 d l)
    (gz : ZipS s.heap z TI TO .none) (gI : IsPair s.heap TI (.ref i1) (.ref i2)) (gO : IsPair s.heap TO a b)
    (g1 : s.heap.IsKeyIter i1 d k es.size n) (gd : s.heap.DictRaw d es n) (g2 : s.heap.IsTupleIter i2 l k) (gl : s.heap.IsTuple l ys) (lt : k < es.size) (gy : ys[k]? = some y)
    (hQ : ∀ h', ZipS h' z TI TO (rawInt s.heap.objs.size) → IsPair h' TO es[k].key y → h'.IsKeyIter i1 d (k + 1) es.size n → h'.IsTupleIter i2 l (k + 1) → IsPair h' s.heap.objs.size es[k].key y →
      (∀ c o, c ≠ z → c ≠ TO → c ≠ i1 → c ≠ i2 → s.heap.get? c = some o → h'.get? c = some o) → Q (some (.ref s.heap.objs.size)) { s with heap := h' }) :
    wpAny (model prog w) A (pyNext (.ref z)) Q E s := by
  have hT : s.TypeIs (.ref z) "zip" := ⟨_, gz, rfl⟩
  unfold pyNext
  exact wpAny_bind (wpAny_attempt (wpAny_callSpecial?_slot (name := Str.ofString "__next__") hT F.slot_zip_next (wpAny_call_entry F.slot_zip_next hT F.entry_zip_next
    (zipS_item D gz gI gO g1 gd g2 gl lt gy fun h' a1 a2 a3 a4 a5 a6 => wpAny_pure (hQ h' a1 a2 a3 a4 a5 a6)) (F.args_zip_next_1 _))))
theorem next_zipS_end {z TI TO i1 i2 d l : Addr} {k n : Nat} {es : Array DictEntry} {ys : Array Value} {a b : Value} {Q : Option Value → Shared → Prop} (hh : A.handled = none) (D : ZipApart z TI TO i1 i2 d l)
    (gz : ZipS s.heap z TI TO .none) (gI : IsPair s.heap TI (.ref i1) (.ref i2)) (gO : IsPair s.heap TO a b)
    (g1 : s.heap.IsKeyIter i1 d k es.size n) (gd : s.heap.DictRaw d es n) (g2 : s.heap.IsTupleIter i2 l k) (gl : s.heap.IsTuple l ys) (ge : es.size ≤ k) (gy : ys[k]? = none)
    (hQ : ∀ h', (∀ c o, c ≠ z → c ≠ TO → c ≠ i1 → c ≠ i2 → s.heap.get? c = some o → h'.get? c = some o) → Q none { s with heap := h' }) : wpAny (model prog w) A (pyNext (.ref z)) Q E s := by
  have hT : s.TypeIs (.ref z) "zip" := ⟨_, gz, rfl⟩
  unfold pyNext
  refine wpAny_bind (wpAny_attempt (wpAny_callSpecial?_slot (name := Str.ofString "__next__") hT F.slot_zip_next (wpAny_call_entry F.slot_zip_next hT F.entry_zip_next
    (zipS_end hh D gz gI gO g1 gd g2 gl ge gy fun h' e hk he => ?_) (F.args_zip_next_1 _))))
  obtain ⟨o, ho, hc⟩ := he
  refine wpAny_bind (wpAny_isInstance (T := "StopIteration") (b := true) ⟨o, ho, hc⟩ isSubtype_stop (wpAny_pure (hQ _ hk)))
theorem zipS_go {elts : List Expr} {x1} {pos : Pos} {z TI TO T : Addr} {Q : Unit → Shared → Prop} (hz : ZipS s.heap z TI TO (rawInt T))
    (hQ : ∀ h', ZipS h' z TI TO .none → Heap.SameBut z s.heap h' → Q () { s with heap := h' }) :
    wpAny (model prog w) A (letOwnedTupleGo (.Tuple elts x1 pos) (.ref z) (.ref T)) Q E s := by
  unfold letOwnedTupleGo
  refine wpAny_bind (wpAny_load hz ?_)
  show wpAny _ A (if (["enumerate", "zip", "dict_itemiterator", "dict_reverseitemiterator", "odict_iterator", "itertools.zip_longest", "itertools.pairwise"].contains "zip" &&
      (#[rawInt T, .bool false, .bool true, .ref TI, .ref TO] : Array Value)[0]? == some (rawInt T)) = true then _ else _) Q E s
  rw [if_pos (by simp)]
  refine wpAny_bind (wpAny_rule ?_)
  show wpAny _ A (setField (.ref z) 0 .none) Q E s
  exact wpAny_setField_rec hz (by simp) hQ
theorem iter_zipS {z TI TO : Addr} {f0 : Value} {Q : Value → Shared → Prop} (hz : ZipS s.heap z TI TO f0) (h : Q (.ref z) s) : wpAny (model prog w) A (pyIter (.ref z)) Q E s := by
  have hT : s.TypeIs (.ref z) "zip" := ⟨_, hz, rfl⟩
  refine wpAny_pyIter_slot hT F.slot_zip_iter (wpAny_call_entry F.slot_zip_iter hT F.entry_zip_iter ?_ (F.args_zip_iter_1 _))
  show wpAny _ _ (ret (.ref z)) _ E s
  exact wpAny_pure ⟨_, rfl, "zip", _, hT, F.slot_zip_next.lookup, h⟩
end
abbrev zsA (h : Heap) (d : Addr) (n m : Nat) : Heap := h.push { cls := .type "dict_keyiterator", data := .fields #[.ref d, .int 0 0, .int n 0, .int m 0] }
abbrev zsB (h : Heap) (d l : Addr) (n m : Nat) : Heap := (zsA h d n m).push { cls := .type "tuple_iterator", data := .fields #[.ref l, .int 0 0] }
abbrev zsC (h : Heap) (d l : Addr) (n m : Nat) : Heap := (zsB h d l n m).push { cls := .type "tuple", data := .seq #[.ref h.objs.size, .ref (zsA h d n m).objs.size] }
abbrev zsD (h : Heap) (d l : Addr) (n m : Nat) : Heap := (zsC h d l n m).push { cls := .type "tuple", data := .seq #[.none, .none] }
abbrev zsE (h : Heap) (d l : Addr) (n m : Nat) : Heap := (zsD h d l n m).push { cls := .type "zip", data := .fields #[.none, .bool false, .bool true, .ref (zsB h d l n m).objs.size, .ref (zsC h d l n m).objs.size] }
theorem meets_zipS (d l : Addr) (es : Array DictEntry) (n : Nat) (ys : Array Value) (low : (d == sysModules) = false) :
    Meets (Builtin.«zip.__new__» ⟨[.type "zip", .ref d, .ref l], [(Str.ofString "strict", .bool true)]⟩) (fun _ R s => s.heap.DictRaw d es n ∧ s.heap.IsTuple l ys ∧
      R (.ok (.ret (.ref (zsD s.heap d l es.size n).objs.size))) { s with heap := zsE s.heap d l es.size n }) :=
  .of_wp fun prog w A R s h => by
    obtain ⟨hp, g, dr, tk, os⟩ := s; obtain ⟨hl1, hl2, h⟩ := h
    have hsub := sub_zip
    have hL1 : Heap.DictRaw (Shared.heap ⟨hp, g, dr, tk, os⟩) d es n := hl1
    have hL2 : Heap.IsTuple (Shared.heap ⟨hp.push { cls := .type "dict_keyiterator", data := .fields #[.ref d, .int 0 0, .int es.size 0, .int n 0] }, g, dr, tk, os⟩) l ys := Heap.IsTuple.push hl2 _
    wp_walk using wpAny_pyIter_dict_raw low hL1, wpAny_pyIter_tuple hL2
    exact ⟨_, rfl, h⟩
theorem tc_zipS (a b v : Value) : checkTypeCall "zip" ⟨[a, b], [(Str.ofString "strict", v)]⟩ = pure () := by kernel_rfl
theorem nc_zipS (a b v : Value) : checkBuiltinCall "zip.__new__" ⟨[.type "zip", a, b], [(Str.ofString "strict", v)]⟩ = pure () := by kernel_rfl
theorem ok_zipS (o a b v : Value) : argsOk "object.__init__" ⟨[o, a, b], [(Str.ofString "strict", v)]⟩ := by unfold argsOk; kernel_rfl
section
variable {prog : Program} {w : World} {A : Around} {E : Value → Shared → Prop} {s : Shared}
theorem call_zipS {d l : Addr} {es : Array DictEntry} {n : Nat} {ys : Array Value} {Q : Value → Shared → Prop} (low : (d == sysModules) = false) (hl1 : s.heap.DictRaw d es n) (hl2 : s.heap.IsTuple l ys)
    (h : ∀ h', ZipS h' (s.heap.objs.size + 4) (s.heap.objs.size + 2) (s.heap.objs.size + 3) .none → IsPair h' (s.heap.objs.size + 2) (.ref s.heap.objs.size) (.ref (s.heap.objs.size + 1)) →
      IsPair h' (s.heap.objs.size + 3) .none .none → h'.IsKeyIter s.heap.objs.size d 0 es.size n → h'.IsTupleIter (s.heap.objs.size + 1) l 0 →
      (∀ c o, s.heap.get? c = some o → h'.get? c = some o) → Q (.ref (s.heap.objs.size + 4)) { s with heap := h' }) :
    wpAny (model prog w) A (call (.type "zip") [.ref d, .ref l] [(Str.ofString "strict", .bool true)]) Q E s := by
  refine callType_newKw F.called_zip (by decide) (tc_zipS _ _ _) (nc_zipS _ _ _) (fun obj => ok_zipS obj _ _ _) F.entry_zip_new (meets_zipS d l es n ys low) ⟨hl1, hl2, ?_⟩
  have z1 : (zsA s.heap d es.size n).objs.size = s.heap.objs.size + 1 := Heap.size_push ..
  have z2 : (zsB s.heap d l es.size n).objs.size = s.heap.objs.size + 2 := by rw [Heap.size_push, z1]
  have z3 : (zsC s.heap d l es.size n).objs.size = s.heap.objs.size + 3 := by rw [Heap.size_push, z2]
  have z4 : (zsD s.heap d l es.size n).objs.size = s.heap.objs.size + 4 := by rw [Heap.size_push, z3]
  have g5 : (zsE s.heap d l es.size n).get? (zsD s.heap d l es.size n).objs.size = some _ := Heap.get?_push_size _ rfl
  have g4 : (zsE s.heap d l es.size n).get? (zsC s.heap d l es.size n).objs.size = some _ := Heap.get?_push_of_some _ (Heap.get?_push_size _ rfl)
  have g3 : (zsE s.heap d l es.size n).get? (zsB s.heap d l es.size n).objs.size = some _ := Heap.get?_push_of_some _ (Heap.get?_push_of_some _ (Heap.get?_push_size _ rfl))
  have g2 : (zsE s.heap d l es.size n).get? (zsA s.heap d es.size n).objs.size = some _ := Heap.get?_push_of_some _ (Heap.get?_push_of_some _ (Heap.get?_push_of_some _ (Heap.get?_push_size _ rfl)))
  have g1 : (zsE s.heap d l es.size n).get? s.heap.objs.size = some _ := Heap.get?_push_of_some _ (Heap.get?_push_of_some _ (Heap.get?_push_of_some _ (Heap.get?_push_of_some _ (Heap.get?_push_size _ rfl))))
  show _ ∧ _
  rw [z2, z3, z4] at g5
  rw [z1, z2] at g3
  rw [z3] at g4
  rw [z1] at g2
  rw [z4]
  exact ⟨⟨_, g5, rfl⟩, h _ g5 g3 g4 ⟨_, g1, rfl, rfl⟩ ⟨_, g2, rfl, rfl⟩ fun c o x =>
    Heap.get?_push_of_some _ (Heap.get?_push_of_some _ (Heap.get?_push_of_some _ (Heap.get?_push_of_some _ (Heap.get?_push_of_some _ x))))⟩
end
/-- the keys ks beside the tuple at l, in new pairs -/
def ItZS (K : PySem.W.Frag) (ks : List Str) (l : Addr) : It :=
  ⟨fun i H => ∃ (z : Str) (ys : List V) (y : V), ks[i]? = some z ∧ SqT K H l ys ∧ ys[i]? = some y,
    fun i H v H' => ∃ T z y, v = .ref T ∧ H T = none ∧ H' = upd H T (.tup [.str z, y]) ∧ ks[i]? = some z ∧ ∀ ys, SqT K H l ys → ys[i]? = some y,
    fun i H => ∃ ys : List V, SqT K H l ys ∧ ks.length ≤ i ∧ ys.length ≤ i⟩
/-- a dict of the module that has these keys -/
def KeysD (K : PySem.W.Frag) (d : Addr) (ks : List Str) : Prop := ∃ es n, K.lookup d = some ⟨.type "dict", none, .dict es n, #[]⟩ ∧ es.size = ks.length ∧ (∀ (i : Nat) (h : i < es.size), ∃ z t, ks[i]? = some z ∧ es[i].key = .str z t) ∧ (d == sysModules) = false
section
variable {K : PySem.W.Frag} {d l z TI TO i1 i2 : Addr} {es : Array DictEntry} {n : Nat} {ks : List Str}
theorem turn_zipS {P : Program} {w : World} {elts : List Expr} {kk : Nat} {tpos : Pos} (hK : K.lookup d = some ⟨.type "dict", none, .dict es n, #[]⟩) (hl : es.size = ks.length) (hk : ∀ (i : Nat) (h : i < es.size), ∃ z t, ks[i]? = some z ∧ es[i].key = .str z t) (D : ZipApart z TI TO i1 i2 d l) :
    Turn P w K (.Tuple elts kk tpos) (ItZS K ks l) [z, TI, TO, i1, i2] z (fun i h => ZipS h z TI TO .none ∧ IsPair h TI (.ref i1) (.ref i2) ∧ (∃ x y, IsPair h TO x y) ∧ h.IsKeyIter i1 d i es.size n ∧ h.IsTupleIter i2 l i) where
  mem := List.mem_cons_self ..
  obj := fun i h st c hc => by
    obtain ⟨gz, gI, ⟨x, y, gO⟩, ⟨o1, e1, _, d1⟩, ⟨o2, e2, _, d2⟩⟩ := st
    have e' : c = z ∨ c = TI ∨ c = TO ∨ c = i1 ∨ c = i2 := by simpa using hc
    rcases e' with rfl | rfl | rfl | rfl | rfl
    · exact ⟨_, gz, fun v q => nomatch q⟩
    · exact ⟨_, gI, fun v q => nomatch q⟩
    · exact ⟨_, gO, fun v q => nomatch q⟩
    · exact ⟨o1, e1, fun v q => by rw [d1] at q; cases q⟩
    · exact ⟨o2, e2, fun v q => by rw [d2] at q; cases q⟩
  keep := fun i h h' st k => by
    obtain ⟨gz, gI, ⟨x, y, gO⟩, g1, g2⟩ := st
    exact ⟨k z (by simp) _ gz, k TI (by simp) _ gI, ⟨x, y, k TO (by simp) _ gO⟩, g1.at fun o q => k i1 (by simp) o q, g2.at fun o q => k i2 (by simp) o q⟩
  item := by
    intro X hP hw hK' hc i pins s σ H E I hf st hg
    subst hP hw hK'
    obtain ⟨gz, gI, ⟨x0, y0, gO⟩, g1, g2⟩ := st
    obtain ⟨kz, ys, y, hkz, hqy, hy⟩ := hg
    obtain ⟨its2, rv2, p2, _⟩ := I.tuple hqy
    obtain ⟨u2, hu2, ru2⟩ := rv2.get hy
    have lt : i < es.size := by rw [hl]; exact (List.getElem?_eq_some_iff.mp hkz).1
    obtain ⟨kz', t, hkz', ht⟩ := hk i lt
    rw [hkz] at hkz'
    cases hkz'
    have dr : s.heap.DictRaw d es n := ⟨_, I.kIn d _ hK, ⟨rfl, rfl, rfl⟩, rfl⟩
    have lz : z < s.heap.objs.size := Heap.lt_size gz
    refine next_zipS_item D gz gI gO g1 dr g2 p2 lt (y := u2) (by simpa using hu2) fun h' gz' gO' g1' g2' gT kp => ?_
    refine ⟨_, rfl, zipS_go (s := { s with heap := h' }) gz' fun h'' gz'' sb => ?_⟩
    have gT2 : h''.get? s.heap.objs.size = some { cls := .type "tuple", data := .seq #[es[i].key, u2] } := (sb.2 _ (Nat.ne_of_gt lz)).trans gT
    have new : ObjOk X.prog X.w (upd H s.heap.objs.size (.tup [.str kz, y])) h'' s.heap.objs.size (.tup [.str kz, y]) :=
      ⟨by show 2 ≤ sizeLine; decide, [es[i].key, u2], .cons ⟨t, ht⟩ (.cons ru2 .nil), ⟨_, gT2, rfl, _, rfl⟩⟩
    have I1 : Inv X pins σ (upd H s.heap.objs.size (.tup [.str kz, y])) { s with heap := h'' } :=
      I.turnedNew (t' := s.toks) (ch := [z, TI, TO, i1, i2]) (fun c o nb q => (sb.2 c (fun q' => nb (by simp [q']))).trans (kp c o (fun q' => nb (by simp [q'])) (fun q' => nb (by simp [q'])) (fun q' => nb (by simp [q'])) (fun q' => nb (by simp [q'])) q)) hf (Nat.le_refl _) new
    refine ⟨.ref s.heap.objs.size, _, I1, rfl, ⟨_, kz, y, rfl, I.hok.fresh (Nat.le_refl _), rfl, hkz, fun m hm => by rw [I.tuple_inj hm hqy]; exact hy⟩, ⟨gz'', ?_, ⟨es[i].key, u2, ?_⟩, ?_, ?_⟩, fun c hcm => ?_⟩
    · exact (sb.2 _ D.TIz).trans (kp _ _ D.TIz D.TITO D.TIi1 D.TIi2 gI)
    · exact (sb.2 _ D.TOz).trans gO'
    · exact g1'.at fun o q => (sb.2 _ D.i1z).trans q
    · exact g2'.at fun o q => (sb.2 _ D.i2z).trans q
    · have lc : c < s.heap.objs.size := by
        have e' : c = z ∨ c = TI ∨ c = TO ∨ c = i1 ∨ c = i2 := by simpa using hcm
        rcases e' with rfl | rfl | rfl | rfl | rfl
        · exact lz
        · exact Heap.lt_size gI
        · exact Heap.lt_size gO
        · obtain ⟨_, e1, _⟩ := g1; exact Heap.lt_size e1
        · obtain ⟨_, e2, _⟩ := g2; exact Heap.lt_size e2
      rw [upd_ne (Nat.ne_of_lt lc)]
      exact (hf c hcm).1
  done := by
    intro X hP hw hK' hc i pins s σ H E I hf st hg
    subst hP hw hK'
    obtain ⟨gz, gI, ⟨x0, y0, gO⟩, g1, g2⟩ := st
    obtain ⟨ys, hqy, hk1, hk2⟩ := hg
    obtain ⟨its2, rv2, p2, _⟩ := I.tuple hqy
    have l2 := rv2.length
    have dr : s.heap.DictRaw d es n := ⟨_, I.kIn d _ hK, ⟨rfl, rfl, rfl⟩, rfl⟩
    exact next_zipS_end (I.ok.hd hc) D gz gI gO g1 dr g2 p2 (by rw [hl]; exact hk1) (by simp; omega) fun h' kp => ⟨rfl, I.turnedL (t' := s.toks) (ch := [z, TI, TO, i1, i2]) (fun c o nb q =>
      kp c o (fun q' => nb (by simp [q'])) (fun q' => nb (by simp [q'])) (fun q' => nb (by simp [q'])) (fun q' => nb (by simp [q'])) q) hf⟩
  self := fun A i s Q E st h => iter_zipS st.1 h
end
section
def iZipS (K : PySem.W.Frag) (ks : List Str) (d : Addr) (ta : TA) : TI := fun σ H R => ta σ H fun vs H1 => ∃ l ys, vs = [.ref d, .ref l] ∧ SqT K H1 l ys ∧ R (ItZS K ks l) H1
theorem pi_zipS {X : Cx} {ks : List Str} {d : Addr} {e1 e2 : Expr} {ta : TA} {p pos tpos kpos cp : Pos} {elts : List Expr} {kk jj : Nat} (M : KeysD X.K d ks) (hg : Gl X "zip") (hm : X.mg "zip" = none) (ha : PA X [e1, e2] ta)
    (hs : starEach [e1, e2] X.env = [(false, eval e1 X.env), (false, eval e2 X.env)] := by rfl) :
    PI X (.Tuple elts kk tpos) (.Call (.Name "zip" p) [e1, e2] [⟨some "strict", .Constant (.bool true) jj cp, kpos⟩] pos) (iZipS X.K ks d ta) := by
  refine ⟨fun pins s σ H R I h => ?_⟩
  refine wpAny_Call_Name_kw (ld_blt I hg hm PyProof.Rows.boot_zip ?_)
  refine callWith_typeK (by rw [hs]; rfl) rfl ?_
  rw [hs]
  refine evalArgs_kwB rfl ?_
  have e0 := ha.run pos pins s σ H _ I h
  rw [hs] at e0
  refine thn e0 fun us s1 ⟨vs, H1, I1, r1, q1⟩ => ?_
  have ek := (pk_cons (nm := some "strict") (kpos := kpos) (pe_bl (X := X) (b := true) (j := jj) (pos := cp)) pk_nil).run pos pins s1 σ H1 (fun zs H2 => zs = [.bl true] ∧ H2 = H1) I1 ⟨rfl, rfl⟩
  refine thn ek fun ws s2 ⟨zs, H2, I2, r2, q2⟩ => ?_
  obtain ⟨rfl, rfl⟩ := q2
  obtain ⟨l, ys, ex, hq, q⟩ := q1
  subst ex
  obtain ⟨es, n, hK, hl, hk, low⟩ := M
  cases r1 with
  | cons g1 t1 =>
    cases t1 with
    | cons g2 t2 =>
      cases t2
      cases g1
      cases g2
      cases r2 with
      | cons g3 t3 =>
        cases t3
        cases g3
        obtain ⟨its, rv, p1, _⟩ := I2.tuple hq
        have dr : s2.heap.DictRaw d es n := ⟨_, I2.kIn d _ hK, ⟨rfl, rfl, rfl⟩, rfl⟩
        obtain ⟨o1, ho1, _⟩ := id p1
        refine call_zipS low dr (show s2.heap.IsTuple l its.toArray from p1) fun h' gz gI gO g1 g2 kp => iter_zipS gz ?_
        have I3 : Inv X pins σ H2 { s2 with heap := h' } := I2.kept (t' := s2.toks) kp
        refine ⟨s2.heap.objs.size + 4, [s2.heap.objs.size + 4, s2.heap.objs.size + 2, s2.heap.objs.size + 3, s2.heap.objs.size, s2.heap.objs.size + 1], _, _, H2, rfl, I3, turn_zipS hK hl hk (PySem.W.ktu_apart s2.heap.objs.size d l (let ⟨_, q, _⟩ := dr; Heap.lt_size q) (Heap.lt_size ho1)), ⟨gz, gI, ⟨_, _, gO⟩, g1, g2⟩, fun c hcm => ?_, q⟩
        have e' : c = s2.heap.objs.size + 4 ∨ c = s2.heap.objs.size + 2 ∨ c = s2.heap.objs.size + 3 ∨ c = s2.heap.objs.size ∨ c = s2.heap.objs.size + 1 := by simpa using hcm
        have hle : s2.heap.objs.size ≤ c := by
          rcases e' with rfl | rfl | rfl | rfl | rfl
          · exact Nat.le_add_right _ _
          · exact Nat.le_add_right _ _
          · exact Nat.le_add_right _ _
          · exact Nat.le_refl _
          · exact Nat.le_add_right _ _
        exact I2.fpOk hle (I2.hok.fresh hle)
end
end L2
namespace DL
open PySem PySem.Spec PyProof.Rows L2 TL
section
variable {K : PySem.W.Frag} {ta : TE} {da : DE} {e : Env} {kl : List PyData → Env → Prop}
def zipK (ks : List Str) (ds : List PyData) : List PyData := (ks.zip ds).map fun p => .tuple [.str p.1, p.2]
theorem zipK_get {ks : List Str} {ds : List PyData} {i : Nat} {x : PyData} (h : (zipK ks ds)[i]? = some x) : ∃ z d, ks[i]? = some z ∧ ds[i]? = some d ∧ x = .tuple [.str z, d] := by
  unfold zipK at h
  rw [List.getElem?_map] at h
  obtain ⟨⟨z, d⟩, h1, rfl⟩ := Option.map_eq_some_iff.mp h
  rw [List.getElem?_zip_eq_some] at h1
  exact ⟨z, d, h1.1, h1.2, rfl⟩
theorem zipK_len {ks : List Str} {ds : List PyData} (h : ds.length = ks.length) : (zipK ks ds).length = ks.length := by
  unfold zipK
  rw [List.length_map, List.length_zip]
  omega
theorem real_zipS {Hs : Hp} {a : Addr} {ks : List Str} {ds : List PyData} (hk : (ks.all fun z => wfD (.str z)) = true) (hl : ds.length = ks.length) (h : Dw K Hs (.ref a) (.tuple ds)) : Real K (ItZS K ks a) Hs (zipK ks ds) := by
  have w := wf_tup.mp h.2
  cases h.1 with
  | @tup _ vs _ h1 h2 =>
    intro Hs' H' s1 s2
    have q := s2.sqt (s1.sqt h1)
    have d : Dws K Hs' vs ds := Dws.mono s1 ⟨h2, w.2⟩
    refine ⟨fun i x hx => ?_, vs, q, by rw [zipK_len hl]; exact Nat.le_refl _, by rw [h2.len, zipK_len hl]; omega⟩
    obtain ⟨z, d0, hz, hx0, rfl⟩ := zipK_get hx
    obtain ⟨v, hv, hd⟩ := d.1.get hx0
    refine ⟨⟨z, vs, v, hz, q, hv⟩, fun w H2 y => ?_⟩
    obtain ⟨T, z', u, rfl, hT, rfl, hz', y⟩ := y
    rw [hz] at hz'
    cases hz'
    exact laid_pair s2 hT ⟨.str _, List.all_eq_true.mp hk z (List.mem_of_getElem? hz)⟩ (dws_get d hx0 (y vs q))
def iZipK (ks : List Str) (da : DE) : DI := fun e k => da e fun x e1 => asD x e1 fun d e2 => ∃ ds, d = .tuple ds ∧ ds.length = ks.length ∧ k (zipK ks ds) e2
theorem sim_zipS {ks : List Str} {d : Addr} (hk : (ks.all fun z => wfD (.str z)) = true) (ha : SimE K ta da) : SimI K (iZipS K ks d (tCons (tC (.ref d)) (tCons ta tNil))) (iZipK ks da) := fun Hs H σ e R k s hu c =>
  ha Hs H σ e _ _ s hu fun v x Hs1 H1 e1 f1 r1 h1 => by
    obtain ⟨Hs2, e2, d, f2, r2, ⟨ds, rfl, hl, h2⟩, _⟩ := asD_sim f1 r1 h1
    obtain ⟨p, vs, rfl, _, h3, _⟩ := (Sees.d (H := H1) r2).tup f2.st.sub
    exact ⟨p, vs, rfl, h3, c _ _ _ _ _ f2 (real_zipS hk hl r2) h2⟩
theorem z_zipK {ks : List Str} (q : da e fun x e1 => asD x e1 fun d e2 => ∃ ds, d = .tuple ds ∧ ds.length = ks.length ∧ kl (zipK ks ds) e2) : iZipK ks da e kl := q
end
end DL

/-! dicts of defs: `look = LOOKS[part]`, `look(thing)` -/
namespace L2
open PySem PySem.Spec PyProof.Rows
/-- the i-th slot holds one of some defs -/
def tCallR (i : Nat) (R : Addr → Sp → Prop) (t : TA) : TE := fun σ H Q => ∃ f sp, σ[i]? = some (some (.ref f)) ∧ R f sp ∧ t σ H fun vs H1 => sp vs H1 Q E0
theorem pe_callR {X : Cx} {k i : Nat} {R : Addr → Sp → Prop} {x : Str} {p pos : Pos} {e : Expr} {es : List Expr} {t : TA} (A : ∀ f sp, R f sp → ∃ fd ps, FnOk X.prog X.w X.K X.mg X.base CX0 k f fd ps sp ∧ PySem.W.keepIn X.K (.ref f) = true ∧ Binds X.K fd ps [])
    (hr : Room k X.A) (hN : X.N[i]? = some x) (hv : Vis X.env.scope x) (ha : PA X (e :: es) t)
    (hd1 : (x == ("__debug__" : Str)) = false := by decide) (hd2 : (x == ("__classdict__" : Str)) = false := by decide)
    (he : starEach (e :: es) X.env = (false, eval e X.env) :: starEach es X.env := by rfl) (hl : (backTo pos (starEach es X.env)).any (·.1) = false := by rfl) : PE X (.Call (.Name x p) (e :: es) [] pos) (tCallR i R t) := by
  refine ⟨fun pins s σ H Q I h => ?_⟩
  obtain ⟨f, sp, hs, hS, ht⟩ := h
  obtain ⟨fd, ps, F, hk, hb⟩ := A f sp hS
  have r := pe_callL (p := p) (i := i) (f := f) (sp := sp) (dvs := []) (E := E0) F hr hN hv hk hb .nil pass0 ha hd1 hd2 he hl
  refine r.run pins s σ H Q I ⟨hs, ?_⟩
  have e0 : (fun (vs : List V) (H1 : Hp) => sp (vs ++ []) H1 Q E0) = fun vs H1 => sp vs H1 Q E0 := by
    funext vs H1
    rw [List.append_nil]
  show t σ H (fun vs H1 => sp (vs ++ []) H1 Q E0)
  rw [e0]
  exact ht
def FnE (e : DictEntry) (p : Str × Addr) : Prop := (∃ t, e.key = .str p.1 t) ∧ e.val = .ref p.2
def FnL : List DictEntry → List (Str × Addr) → Prop
  | [], [] => True
  | e :: r, p :: q => FnE e p ∧ FnL r q
  | _, _ => False
/-- the module's dict of defs at a -/
def FnD (K : PySem.W.Frag) (a : Addr) (tb : List (Str × Addr)) : Prop := ∃ es n, K.lookup a = some ⟨.type "dict", none, .dict es n, #[]⟩ ∧ FnL es.toList tb ∧ (a == sysModules) = false
theorem FnL.get : ∀ {es : List DictEntry} {tb : List (Str × Addr)}, FnL es tb → es.length = tb.length ∧ ∀ (i : Nat) (e : DictEntry), es[i]? = some e → ∃ p, tb[i]? = some p ∧ FnE e p
  | [], [], _ => ⟨rfl, fun i e h => nomatch h⟩
  | e :: r, p :: q, h => by
    obtain ⟨h1, h2⟩ := h
    obtain ⟨l, g⟩ := FnL.get h2
    refine ⟨by simp [l], fun i e' he => ?_⟩
    cases i with
    | zero => cases he; exact ⟨p, rfl, h1⟩
    | succ i => exact g i e' he
  | [], _ :: _, h => h.elim
  | _ :: _, [], h => h.elim
theorem FnL.find {z : Str} {f : Addr} : ∀ {es : List DictEntry} {tb : List (Str × Addr)}, FnL es tb → (tb.map (·.1)).Nodup → (z, f) ∈ tb → ∃ e, es.find? (·.key.isStr z) = some e ∧ e.val = .ref f
  | [], [], _, _, h => nomatch h
  | e :: r, p :: q, h, nd, hm => by
    obtain ⟨⟨⟨t, h1⟩, h2⟩, h4⟩ := h
    have e1 : e.key.isStr z = (p.1 == z) := by rw [h1]; rfl
    rw [List.map_cons, List.nodup_cons] at nd
    rcases List.mem_cons.mp hm with rfl | hm
    · exact ⟨e, by rw [List.find?_cons, e1, beq_self_eq_true], h2⟩
    · have hz : (p.1 == z) = false := beq_eq_false_iff_ne.mpr fun q' => nd.1 (by rw [q']; exact List.mem_map.mpr ⟨_, hm, rfl⟩)
      obtain ⟨e', q1, q2⟩ := FnL.find h4 nd.2 hm
      exact ⟨e', by rw [List.find?_cons, e1, hz]; exact q1, q2⟩
  | [], _ :: _, h, _, _ => h.elim
  | _ :: _, [], h, _, _ => h.elim
theorem FnD.keys {K : PySem.W.Frag} {a : Addr} {tb : List (Str × Addr)} (M : FnD K a tb) : KeysD K a (tb.map (·.1)) := by
  obtain ⟨es, n, h1, h2, h3⟩ := M
  obtain ⟨hl, hg⟩ := h2.get
  refine ⟨es, n, h1, by rw [List.length_map, ← hl]; simp, fun i h => ?_, h3⟩
  obtain ⟨p, hp, ⟨t, ht⟩, _⟩ := hg i es[i] (by rw [Array.getElem?_toList, Array.getElem?_eq_getElem h])
  exact ⟨p.1, t, by rw [List.getElem?_map, hp]; rfl, ht⟩
theorem FnD.ns {K : PySem.W.Frag} {a : Addr} {tb : List (Str × Addr)} (M : FnD K a tb) (nd : (tb.map (·.1)).Nodup) {z : Str} {f : Addr} (h : (z, f) ∈ tb) : PySem.W.nsIn K a z = some (some (.ref f)) := by
  obtain ⟨es, n, h1, h2, _⟩ := M
  obtain ⟨e, q1, q2⟩ := h2.find nd h
  unfold PySem.W.nsIn
  rw [h1]
  dsimp only
  rw [q1]
  show some (some e.val) = _
  rw [q2]
end L2
namespace DL
open PySem PySem.Spec PyProof.Rows L2 TL
section
variable {K : PySem.W.Frag} {te : TE} {de : DE} {ar : TA} {aa : DA} {t : TS} {u u' : DS}
abbrev TblT := List (Str × Addr × DSp)
def dIxF (tb : TblT) (da : DE) : DE := fun e k => da e fun x e1 => ∃ z f sp, see e1 x = some (.str z) ∧ (z, f, sp) ∈ tb ∧ k (.v (.ref f)) e1
theorem sim_ixF {w : World} {a : Addr} {tb : TblT} (M : FnD K a (tb.map fun p => (p.1, p.2.1))) (nd : (tb.map (·.1)).Nodup) (hl : ∀ es n, K.lookup a = some ⟨.type "dict", none, .dict es n, #[]⟩ → PySem.W.KeysLit w.params es.toList) (he : SimE K te de) : SimE K (tOp (rIxD K w) (tC (.ref a)) te) (dIxF tb de) := fun Hs H σ e Q k s hu c =>
  he Hs H σ e _ _ s hu fun v x Hs1 H1 e1 f1 r1 h1 => by
    obtain ⟨z, f, sp, hz, hm, hk⟩ := h1
    obtain ⟨rfl, _⟩ := (sees_of f1.st r1 hz).str
    have q1 := M.ns (by rw [List.map_map]; exact nd) (List.mem_map.mpr ⟨_, hm, rfl⟩)
    obtain ⟨es, n, h1, h2, h3⟩ := M
    exact ⟨a, z, .ref f, rfl, rfl, ⟨es, n, .ref f, h1, hl es n h1, q1, rfl⟩, c _ (.v _) _ _ _ f1 rfl hk⟩
def tbR (K : PySem.W.Frag) (tb : TblT) : Addr → Sp → Prop := fun f sp => ∃ z d, (z, f, d) ∈ tb ∧ sp = lift K d
def dCallR (tb : TblT) (i : Nat) (aa : DA) : DE := fun e k => ∃ z f sp, e[i]? = some (.v (.ref f)) ∧ (z, f, sp) ∈ tb ∧ dCall sp aa e k
theorem sim_callR {tb : TblT} {i : Nat} (ha : SimA K ar aa) : SimE K (tCallR i (tbR K tb) ar) (dCallR tb i aa) := fun Hs H σ e Q k s hu c => by
  obtain ⟨z, f, sp, hi, hm, hu⟩ := hu
  obtain ⟨o, q1, q2⟩ := s.rel i _ hi
  have q2 : o = some (.ref f) := q2
  subst q2
  refine ⟨f, lift K sp, q1, ⟨z, sp, hm, rfl⟩, ?_⟩
  exact ha Hs H σ e _ _ s hu fun vs xs Hs1 H1 e1 f1 r1 h1 => by
    obtain ⟨zs, hz, nd, hs⟩ := h1
    exact call_core f1 r1 hz nd hs c
theorem SimS.imp (h : SimS K t u) (g : ∀ D e, u' D e → u D e) : SimS K t u' := fun Hs H σ e D dD s hu S => h Hs H σ e D dD s (g dD e hu) S
/-- look = LOOKS[part]; if not look(thing): return part -/
def dLookB (tb : List (Str × DSp)) (p t l : Nat) : DS := fun D e => ∃ z d sp, e[p]? = some (.d (.str z)) ∧ e[t]? = some (.d d) ∧ (z, sp) ∈ tb ∧ notPar e l = true ∧
  ∀ w : V, sp [.d d] fun x _ => ∃ b : Bool, x = .d (.bool b) ∧ if b = true then D.nx (e.set l (.v w)) else D.rt (.d (.str z)) (e.set l (.v w))
theorem sim_lookB {w : World} {a : Addr} {tb : TblT} {p t l : Nat} (M : FnD K a (tb.map fun p => (p.1, p.2.1))) (nd : (tb.map (·.1)).Nodup) (hl : ∀ es n, K.lookup a = some ⟨.type "dict", none, .dict es n, #[]⟩ → PySem.W.KeysLit w.params es.toList)
    (mono : ∀ z f sp, (z, f, sp) ∈ tb → ∀ xs k k', (∀ x ys, k x ys → k' x ys) → sp xs k → sp xs k') (hp : p ≠ l) (ht : t ≠ l) :
    SimS K (tSeq (tAsg (tOp (rIxD K w) (tC (.ref a)) (tVar p)) (gName l)) (tIfS (tNot (zTruth K (tCallR l (tbR K tb) (tCons (tVar t) tNil)))) (tRet (tVar p)) tNext)) (dLookB (tb.map fun p => (p.1, p.2.2)) p t l) := by
  refine SimS.imp (u := sSeq (sAsg (dIxF tb (dVar p)) (gN l)) (sIf (dNot (dTru (dCallR tb l (aCons (argA (dVar t)) aNil)))) (sRet (dVar p)) sNext)) ?_ ?_
  · exact sim_seq (sim_asg (sim_ixF M nd hl (sim_var p)) (sim_gN l)) (sim_ifs (sim_not (sim_tru (sim_callR (sim_xcons (sim_argA (sim_var t)) sim_xnil)))) (sim_ret (sim_var p)) sim_next)
  · rintro D e ⟨z, d, sp, ep, et, hm, np, h⟩
    obtain ⟨⟨z', f, sp'⟩, hm0, e2⟩ := List.mem_map.mp hm
    clear hm
    have hm := hm0
    cases e2
    have hlt : l < e.length := notPar_lt np
    have h := h (.ref f)
    have gp : (e.set l (.v (.ref f)))[p]? = some (.d (.str z')) := by rw [List.getElem?_set_ne (Ne.symm hp)]; exact ep
    have gt : (e.set l (.v (.ref f)))[t]? = some (.d d) := by rw [List.getElem?_set_ne (Ne.symm ht)]; exact et
    have gl : (e.set l (.v (.ref f)))[l]? = some (.v (.ref f)) := List.getElem?_set_self hlt
    cases D with
    | mk nx rt bk ct =>
    refine z_seq (z_asg ?_)
    refine y_vd ep ⟨z', f, sp', rfl, hm, y_gv np ?_⟩
    show sIf _ _ _ _ _
    refine (show dTru _ _ _ from ?_)
    refine (show dCallR tb l _ _ _ from ⟨z', f, sp', gl, hm, ?_⟩)
    refine z_call (y_acons (y_argA (y_vd gt (y_ad (y_anil ?_)))))
    refine ⟨[.d d], rfl, List.nodup_nil, ?_⟩
    refine mono z' f sp' hm _ _ _ (fun x ys hx => ?_) h
    obtain ⟨b, rfl, hx⟩ := hx
    have eb : backs (e.set l (.v (.ref f))) [.d d] ys = e.set l (.v (.ref f)) := by cases ys <;> rfl
    rw [eb]
    refine ⟨_, rfl, ?_⟩
    cases b with
    | true => exact hx
    | false => exact y_vd gp hx
end
end DL

/-! `sorted(set(xs))`, xs a list or a tuple of texts -/
namespace L2
open PySem PySem.Spec PyProof.Rows
/-! ### the texts, each once -/
def oneOff (l : List Str) (k : Str) : List Str := if k ∈ l then l else k :: l
def onesOf (xs : List Str) : List Str := xs.foldl oneOff []
theorem oneOff_mem {l : List Str} {k z : Str} : z ∈ oneOff l k ↔ z ∈ l ∨ z = k := by
  unfold oneOff
  split
  · rename_i h
    exact ⟨.inl, fun q => q.elim id fun e => e ▸ h⟩
  · rw [List.mem_cons]
    exact Or.comm
theorem oneOff_nd {l : List Str} {k : Str} (h : l.Nodup) : (oneOff l k).Nodup := by
  unfold oneOff
  split
  · exact h
  · rename_i n
    exact List.nodup_cons.mpr ⟨n, h⟩
theorem oneOff_len {l : List Str} {k : Str} : (oneOff l k).length ≤ l.length + 1 := by
  unfold oneOff
  split
  · omega
  · rw [List.length_cons]
    omega
theorem ones_go : ∀ (xs l : List Str), l.Nodup → (xs.foldl oneOff l).Nodup ∧ (∀ z, z ∈ xs.foldl oneOff l ↔ z ∈ l ∨ z ∈ xs) ∧ (xs.foldl oneOff l).length ≤ l.length + xs.length
  | [], l, h => ⟨h, fun z => by simp, Nat.le_refl _⟩
  | x :: r, l, h => by
    obtain ⟨a, b, c⟩ := ones_go r (oneOff l x) (oneOff_nd h)
    refine ⟨a, fun z => ?_, ?_⟩
    · show z ∈ r.foldl oneOff (oneOff l x) ↔ _
      rw [b z, oneOff_mem, List.mem_cons]
      exact or_assoc
    · show (r.foldl oneOff (oneOff l x)).length ≤ _
      have := oneOff_len (l := l) (k := x)
      rw [List.length_cons]
      omega
theorem ones_nd (xs : List Str) : (onesOf xs).Nodup := (ones_go xs [] List.nodup_nil).1
theorem ones_mem (xs : List Str) (z : Str) : z ∈ onesOf xs ↔ z ∈ xs := ((ones_go xs [] List.nodup_nil).2.1 z).trans (by simp)
theorem ones_len (xs : List Str) : (onesOf xs).length ≤ xs.length := by
  have := (ones_go xs [] List.nodup_nil).2.2
  rw [List.length_nil, Nat.zero_add] at this
  exact this
theorem ones_next {xs : List Str} {i : Nat} {k : Str} (h : xs[i]? = some k) : onesOf (xs.take (i + 1)) = oneOff (onesOf (xs.take i)) k := by
  unfold onesOf
  rw [show xs.take (i + 1) = xs.take i ++ [k] by rw [List.take_add_one, h] <;> rfl, List.foldl_append] <;> rfl
/-! ### the set -/
theorem tailTx_ris {ep : Nat} {es1 : Array (Int × Value)} {t2 : SetTable} {b : Bool} (r : Ris t2.place.toList) : Ris (Froz.tailTx ep es1 t2 b).2.2.place.toList := by
  unfold Froz.tailTx
  split
  · exact relayAll_ris _ _ _
  · exact r
theorem tailTx_led {ep : Nat} {es1 : Array (Int × Value)} {t2 : SetTable} {b : Bool} : (Froz.tailTx ep es1 t2 b).2.2.led = t2.led := by
  unfold Froz.tailTx
  split
  · exact relayAll_led _ _ _
  · rfl
theorem plainOff_ris {t : SetTable} (r : Ris t.place.toList) : Ris (if t.plain = true then { t with plain := false } else t).place.toList := by
  split <;> exact r
theorem plainOff_led {t : SetTable} : (if t.plain = true then { t with plain := false } else t).led = t.led := by
  split <;> rfl
theorem addTx_ris {D : Froz.SD} {h : Int} {v : Value} (r : Ris D.2.2.place.toList) : Ris (Froz.addTx h v D).2.2.place.toList :=
  tailTx_ris (plainOff_ris (layNew_ris D.2.2 D.1 h v r))
theorem addTx_led {D : Froz.SD} {h : Int} {v : Value} : (Froz.addTx h v D).2.2.led = D.2.2.led :=
  (tailTx_led.trans plainOff_led).trans (layNew_led D.2.2 D.1 h v)
/-- the set at a: the texts l -/
def TxSet (P : Program) (w : World) (h : Heap) (a : Addr) (l : List Str) : Prop :=
  ∃ D : Froz.SD, h.get? a = some (Froz.sObj "set" D) ∧ Froz.TxOk P w D l ∧ l.Nodup ∧ Ris D.2.2.place.toList ∧ (w.params.followText "set-order" = true ∨ D.2.2.led = true)
theorem TxSet.keep {P : Program} {w : World} {h h' : Heap} {a : Addr} {l : List Str} (R : TxSet P w h a l) (k : ∀ o, h.get? a = some o → h'.get? a = some o) : TxSet P w h' a l :=
  let ⟨D, ho, r⟩ := R
  ⟨D, k _ ho, r⟩
section
variable {P : Program} {w : World} {A : Around} {E : Value → Shared → Prop} {s : Shared}
theorem txset_fresh {h : Heap} {a : Addr} (ho : h.get? a = some { cls := .type "set", dict := none, data := .set #[] 0 (.fresh 0 0 (!w.params.followText "set-order")) }) : TxSet P w h a [] :=
  ⟨(#[], 0, .fresh 0 0 (!w.params.followText "set-order")), ho, Froz.TxOk.nil rfl, List.nodup_nil, List.Pairwise.nil, by
    show _ ∨ (!w.params.followText "set-order") = true
    cases w.params.followText "set-order"
    · exact .inr rfl
    · exact .inl rfl⟩
theorem txset_add {a : Addr} {l : List Str} {k : Str} {u : Tok} {Q : Bool → Shared → Prop} (R : TxSet P w s.heap a l) (hb : l.length + 1 < scanBound)
    (hQ : ∀ h' b, (∀ c, c ≠ a → h'.get? c = s.heap.get? c) → TxSet P w h' a (oneOff l k) → Q b { s with heap := h' }) : wpAny (model P w) A (setAddHashed a (.str k u) (hashStr w k)) Q E s := by
  obtain ⟨D, ho, F, nd, r, hl⟩ := R
  by_cases hk : k ∈ l
  · obtain ⟨es, ep, t⟩ := D
    have hd : (Froz.sObj "set" (es, ep, t)).data = .set es ep t := rfl
    have hf : t.fits es.size = true := F.fit
    have hel : ElemsOf (strKind P w) es.toList := F.el
    have hb0 : es.size < scanBound := by
      have : es.size = l.length := F.sz
      omega
    have hkey : (strKind P w).is k (.str k u) = true := Froz.is_str k u
    unfold setAddHashed setAddHashedIn
    refine wpAny_holding (wpAny_bind (wpAny_setState_of ho hd hf ?_))
    dsimp only
    rw [byScan_of rfl hb0 hel]
    simp only [↓reduceIte]
    unfold setAddByScan
    refine wpAny_bind ?_
    refine wpAny_bind (wpAny_rule ?_)
    refine wpAny_bind (wpAny_setScan_of (knd := strKind P w) (k := k) hkey ho hd hf hel ?_)
    cases hfi : List.findIdx? (fun e => (strKind P w).is k e.2) es.toList with
    | none =>
      obtain ⟨e, he, q⟩ := (F.mem k).mp hk
      have c := List.findIdx?_eq_none_iff.mp hfi e he
      rw [q] at c
      cases c
    | some j =>
      dsimp only
      refine wpAny_pure (wpAny_pure ?_)
      have e1 : oneOff l k = l := if_pos hk
      exact hQ s.heap _ (fun c _ => rfl) (by rw [e1]; exact ⟨_, ho, F, nd, r, hl⟩)
  · refine Froz.add_x ho F hk hb ?_
    have e1 : oneOff l k = k :: l := if_neg hk
    refine hQ _ _ (fun c hc => Heap.get?_update_other _ _ (Ne.symm hc)) ?_
    rw [e1]
    exact ⟨_, Froz.get_upd _ ho rfl, Froz.add_ok u F, List.nodup_cons.mpr ⟨hk, nd⟩, addTx_ris r, hl.imp id fun z => by rw [addTx_led]; exact z⟩
/-- the loop of set.update -/
theorem set_update_txs {I : Addr} {fp wr : List Addr} {G : Array GenState → Array GenState → Prop} {n : Nat} {Pv : Nat → Value → Prop} {St : Nat → Shared → Prop} {R : Result → Shared → Prop}
    (W : WalksS P w A.in1 I fp wr G n Pv St) (S : Addr) (hSf : S ∉ fp) (xs : List Str) (hn : n = xs.length) (hfew : xs.length < 64) (hval : ∀ i v, Pv i v → ∃ k u, xs[i]? = some k ∧ v = .str k u)
    (h0 : Heap) (hS0 : h0.get? S = none) (hw0 : ∀ b ∈ wr, h0.get? b = none) :
    ∀ (k i : Nat) (s : Shared), n - i = k → i ≤ n → St i s → (∀ b o, h0.get? b = some o → s.heap.get? b = some o) → TxSet P w s.heap S (onesOf (xs.take i)) →
      (∀ s', Moved (S :: wr) G s s' → TxSet P w s'.heap S (onesOf xs) → (∀ b o, h0.get? b = some o → s'.heap.get? b = some o) → R (.ok (.ret .none)) s') →
      codeAny (model P w) A (.builtin "set.update.loop" ⟨[.ref S, .ref I], []⟩) R s := by
  have hSw : S ∉ wr := fun h => hSf (W.sub _ h)
  have hsub : ∀ b ∈ wr, b ∈ S :: wr := fun b hb => List.mem_cons_of_mem _ hb
  have keepM : ∀ {s s' : Shared}, Moved wr G s s' → (∀ b o, h0.get? b = some o → s.heap.get? b = some o) → ∀ b o, h0.get? b = some o → s'.heap.get? b = some o := fun hm hkp b o e =>
    hm.heap b o (fun hb => by rw [hw0 b hb] at e; cases e) (hkp b o e)
  intro k
  induction k with
  | zero =>
    intro i s hk' hi hst hkp hS hR
    have hin : i = n := by omega
    subst hin
    refine codeAny_builtin F.entry_set_update_loop ?_
    rw [Around.under_plainId F.plain_set_update_loop _]
    show wpAny _ A.in1 (pyNext (.ref I) >>= _) _ _ s
    refine wpAny_bind (W.done s _ _ hst fun s' hm => ?_)
    show wpAny _ A.in1 (ret Value.none) _ _ s'
    rw [hn, List.take_length] at hS
    exact wpAny_pure (hR s' (hm.mono hsub) (hS.keep fun o e => hm.heap S o hSw e) (keepM hm hkp))
  | succ k ih =>
    intro i s hk' hi hst hkp hS hR
    have hlt : i < n := by omega
    refine codeAny_builtin F.entry_set_update_loop ?_
    rw [Around.under_plainId F.plain_set_update_loop _]
    show wpAny _ A.in1 (pyNext (.ref I) >>= _) _ _ s
    refine wpAny_bind (W.item i s _ _ hlt hst fun v s' hP hst' hm => ?_)
    obtain ⟨p, u, hp, rfl⟩ := hval i v hP
    have hkp' := keepM hm hkp
    have hS' := hS.keep (h' := s'.heap) fun o e => hm.heap S o hSw e
    have hl : (onesOf (xs.take i)).length + 1 < scanBound := by
      have h1 := ones_len (xs.take i)
      have h2 : (xs.take i).length ≤ xs.length := by rw [List.length_take]; omega
      unfold scanBound
      omega
    show wpAny _ A.in1 (holding [Value.str p u] (setAdd S (.str p u)) >>= _) _ _ s'
    refine wpAny_bind (wpAny_holding ?_)
    unfold setAdd
    refine wpAny_holding ?_
    refine wpAny_bind ((strKind P w).pyHash (Froz.is_str p u) ?_)
    refine txset_add (s := { s' with toks := s'.toks + 1 }) hS' hl fun h' b hsb hS2 => ?_
    rw [← ones_next hp] at hS2
    have hkp2 : ∀ b o, h0.get? b = some o → h'.get? b = some o := fun b o e => (hsb b (fun z => by rw [z, hS0] at e; cases e)).trans (hkp' b o e)
    refine wpAny_pure ⟨plainId_quiet F.plain_set_update_loop _, ih (i + 1) _ (by omega) hlt (W.frame _ s' _ _ hst' (Nat.le_add_right _ _) fun b hb o e => ?_) hkp2 hS2 fun s'' hm'' hS'' hkp'' => ?_⟩
    · rw [hsb b (fun h : b = S => hSf (by rw [← h]; exact hb))]; exact e
    · refine hR s'' (Moved.trans W.gtrans ((hm.mono hsub).then_heap (Nat.le_add_right _ _) fun b o hb e => ?_) hm'') hS'' hkp''
      rw [hsb b (fun h : b = S => hb (by rw [h]; exact List.mem_cons_self))]; exact e
/-- what a run of `set(x)` must bring -/
abbrev SetOut (P : Program) (w : World) (s : Shared) (xs : List Str) (Q : Value → Shared → Prop) : Prop :=
  ∀ (h' : Heap) (tk : Nat), TxSet P w h' s.heap.objs.size (onesOf xs) → (∀ b o, s.heap.get? b = some o → h'.get? b = some o) → Q (.ref s.heap.objs.size) { s with heap := h', toks := tk }
abbrev pushSet (w : World) (h : Heap) : Heap := h.push { cls := .type "set", dict := none, data := .set #[] 0 (.fresh 0 0 (!w.params.followText "set-order")) }
/-- set(x), as its __init__ goes -/
theorem call_set_by {x : Value} {xs : List Str} {Q : Value → Shared → Prop}
    (hin : ∀ (A' : Around) (R : Fin → Shared → Prop), A'.handled = A.handled → (∀ (h' : Heap) (tk : Nat), TxSet P w h' s.heap.objs.size (onesOf xs) → (∀ b o, s.heap.get? b = some o → h'.get? b = some o) → R (.done (.ret .none)) { s with heap := h', toks := tk }) →
      wpAny (model P w) A' (Builtin.«set.__init__» ⟨[.ref s.heap.objs.size, x], []⟩) R E { s with heap := pushSet w s.heap })
    (h : SetOut P w s xs Q) : wpAny (model P w) A (call (.type "set") [x]) Q E s := by
  obtain ⟨c, tl, hmro⟩ := F.called_set.mro
  have hmade := F.called_set.made
  have hsub := F.called_set.sub
  refine wpAny_call (codeAny_of_tree ?_)
  show wpAny _ _ (callAny (.type "set") _) _ _ _
  refine wpAny_pure ⟨Code.quiet_builtin _ (by decide +kernel), codeAny_builtin F.entry_type_call ?_⟩
  rw [Around.under_plain (weight_type_call_type "set" [x] []) rfl]
  have h1 := F.called_set.notType
  have h2 := F.called_set.canCreate
  have hct := F.typeCall_set_1 x
  repeat (any_goals (first | assumption | wp_step))
  refine codeAny_mono (code_set_led1 x (E := E) (Q₁ := fun obj s₁ => obj = .ref s.heap.objs.size ∧ s₁ = { s with heap := pushSet w s.heap }) ⟨rfl, rfl⟩) fun r s₁ hr => ?_
  cases r with
  | error e => exact hr
  | ok fl =>
    cases fl with
    | ret obj =>
      obtain ⟨rfl, rfl⟩ := hr
      have hS : (pushSet w s.heap).get? s.heap.objs.size = some { cls := .type "set", dict := none, data := .set #[] 0 (.fresh 0 0 (!w.params.followText "set-order")) } := Heap.get?_push_size _ rfl
      have hT : Shared.TypeIs { s with heap := pushSet w s.heap } (.ref s.heap.objs.size) "set" := ⟨_, hS, rfl⟩
      have hli := F.called_set.init.lookup
      have hbi := F.called_set.init.bind (.ref s.heap.objs.size)
      repeat (any_goals (first | assumption | wp_step))
      refine codeAny_mono (codeAny_call_builtin (R := wants (fun r s₂ => r = .none ∧ ∃ h' tk, s₂ = { s with heap := h', toks := tk } ∧ TxSet P w h' s.heap.objs.size (onesOf xs) ∧
          (∀ b o, s.heap.get? b = some o → h'.get? b = some o)) E) F.called_set.init.plain F.entry_set_init (check_set_init_1 hT ?_)) fun r₂ s₂ hr₂ => ?_
      · refine hin _ _ (by simp) fun h' tk a b => ?_
        exact ⟨rfl, h', tk, rfl, a, b⟩
      · cases r₂ with
        | error e => exact hr₂
        | ok fl₂ =>
          cases fl₂ with
          | ret r =>
            obtain ⟨rfl, h', tk, rfl, hS', hk'⟩ := hr₂
            repeat (any_goals (first | assumption | wp_step))
            exact h _ _ hS' hk'
          | _ => exact hr₂.elim
    | _ => exact hr.elim
theorem none_past {h : Heap} {b : Addr} (hb : h.objs.size ≤ b) : h.get? b = none := by
  cases q : h.get? b with
  | none => rfl
  | some o => exact absurd (Nat.lt_of_lt_of_le (Heap.lt_size q) hb) (Nat.lt_irrefl _)
theorem txt_at {vs : List Value} {xs : List Str} (r : StrsAre vs xs) : ∀ (i : Nat) (v : Value), vs[i]? = some v → ∃ k u, xs[i]? = some k ∧ v = .str k u := by
  induction r with
  | nil => intro i v h; cases h
  | cons k u _ ih =>
    intro i v h
    cases i with
    | zero => exact ⟨k, u, rfl, (Option.some.inj h).symm⟩
    | succ i => exact ih i v h
theorem call_set_listS {l : Addr} {items : Array Value} {xs : List Str} {Q : Value → Shared → Prop} (hh : A.handled = none) (hl : s.heap.IsList l items) (hit : StrsAre items.toList xs) (hfew : xs.length < 64)
    (h : SetOut P w s xs Q) : wpAny (model P w) A (call (.type "set") [.ref l]) Q E s := by
  have hisz : items.size = xs.length := by rw [← Array.length_toList]; exact hit.length
  refine call_set_by (xs := xs) (fun A' R hA hR => ?_) h
  obtain ⟨ol, hol, hcl, nl, hdl⟩ := hl
  obtain ⟨ocls, odict, odata, oslots⟩ := ol
  simp only at hcl hdl
  subst hcl; subst hdl
  have hlt := Heap.lt_size hol
  have hol' : (pushSet w s.heap).get? l = some { cls := .type "list", dict := odict, data := .seq items nl, slots := oslots } := Heap.get?_push_of_some _ hol
  have hsls := F.sub_list_set
  have hslf := F.sub_list_frozenset
  have hne : (Value.type "list" == Value.type "dict") = false := by decide
  have hl1 : (pushSet w s.heap).IsList l items := ⟨_, hol', rfl, nl, rfl⟩
  unfold Builtin.«set.__init__» noKeywords Builtin.Frozenset.updateFrom
  generalize hPI : pyIter = PI
  wp_walk
  subst hPI
  refine wpAny_pyIter_list hl1 ?_
  refine wpAny_bind (wpAny_runValue ?_)
  have hz1 : (pushSet w s.heap).objs.size = s.heap.objs.size + 1 := Heap.size_push ..
  have hneI : l ≠ (pushSet w s.heap).objs.size := by
    rw [hz1]; exact Nat.ne_of_lt (Nat.lt_succ_of_lt hlt)
  have hSf : s.heap.objs.size ∉ [(pushSet w s.heap).objs.size, l] := by
    rw [hz1]; simp only [List.mem_cons, List.mem_singleton, List.not_mem_nil, or_false, not_or]
    exact ⟨Nat.ne_of_lt (Nat.lt_succ_self _), Nat.ne_of_gt hlt⟩
  have hh3 : A'.in1.handled = none := by simp [hA, hh]
  refine set_update_txs ((Walks.list hh3 _ l hneI items).toS) s.heap.objs.size
    hSf xs hisz hfew (fun i v hv => txt_at hit i v (by rw [Array.getElem?_toList]; exact hv)) s.heap (none_past (Nat.le_refl _)) (fun b hb => none_past (by
      rw [List.mem_singleton.mp hb, hz1]; omega)) (items.size - 0) 0 _ (by omega) (Nat.zero_le _)
    ⟨⟨_, Heap.get?_push_size _ rfl, rfl, rfl⟩, (hl1.push _)⟩ (fun b o e => Heap.get?_push_of_some _ (Heap.get?_push_of_some _ e)) (txset_fresh (Heap.get?_push_of_some _ (Heap.get?_push_size _ rfl))) ?hR
  intro s' hm hS' hkp
  obtain ⟨h', g2, d', tk', os'⟩ := s'
  have eg : g2 = s.gens := hm.gens
  have ed : d' = s.drawn := hm.drawn
  have eo : os' = s.os := hm.os
  subst eg; subst ed; subst eo
  show wpAny _ _ _ _ _ _
  refine wpAny_pure ?_
  show wpAny _ _ (ret Value.none) _ _ _
  exact wpAny_pure (hR h' tk' hS' hkp)
theorem call_set_tupS {l : Addr} {items : Array Value} {xs : List Str} {Q : Value → Shared → Prop} (hh : A.handled = none) (hl : s.heap.IsTuple l items) (hit : StrsAre items.toList xs) (hfew : xs.length < 64)
    (h : SetOut P w s xs Q) : wpAny (model P w) A (call (.type "set") [.ref l]) Q E s := by
  have hisz : items.size = xs.length := by rw [← Array.length_toList]; exact hit.length
  refine call_set_by (xs := xs) (fun A' R hA hR => ?_) h
  obtain ⟨ol, hol, hcl, nl, hdl⟩ := hl
  obtain ⟨ocls, odict, odata, oslots⟩ := ol
  simp only at hcl hdl
  subst hcl; subst hdl
  have hlt := Heap.lt_size hol
  have hol' : (pushSet w s.heap).get? l = some { cls := .type "tuple", dict := odict, data := .seq items nl, slots := oslots } := Heap.get?_push_of_some _ hol
  have hsls := F.sub_tuple_set
  have hslf := F.sub_tuple_frozenset
  have hne : (Value.type "tuple" == Value.type "dict") = false := by decide
  have hl1 : (pushSet w s.heap).IsTuple l items := ⟨_, hol', rfl, nl, rfl⟩
  unfold Builtin.«set.__init__» noKeywords Builtin.Frozenset.updateFrom
  generalize hPI : pyIter = PI
  wp_walk
  subst hPI
  refine wpAny_pyIter_tuple hl1 ?_
  refine wpAny_bind (wpAny_runValue ?_)
  have hz1 : (pushSet w s.heap).objs.size = s.heap.objs.size + 1 := Heap.size_push ..
  have hneI : l ≠ (pushSet w s.heap).objs.size := by
    rw [hz1]; exact Nat.ne_of_lt (Nat.lt_succ_of_lt hlt)
  have hSf : s.heap.objs.size ∉ [(pushSet w s.heap).objs.size, l] := by
    rw [hz1]; simp only [List.mem_cons, List.mem_singleton, List.not_mem_nil, or_false, not_or]
    exact ⟨Nat.ne_of_lt (Nat.lt_succ_self _), Nat.ne_of_gt hlt⟩
  have hh3 : A'.in1.handled = none := by simp [hA, hh]
  refine set_update_txs ((Walks.tuple hh3 _ l hneI items).toS) s.heap.objs.size
    hSf xs hisz hfew (fun i v hv => txt_at hit i v (by rw [Array.getElem?_toList]; exact hv)) s.heap (none_past (Nat.le_refl _)) (fun b hb => none_past (by
      rw [List.mem_singleton.mp hb, hz1]; omega)) (items.size - 0) 0 _ (by omega) (Nat.zero_le _)
    ⟨⟨_, Heap.get?_push_size _ rfl, rfl, rfl⟩, (hl1.push _)⟩ (fun b o e => Heap.get?_push_of_some _ (Heap.get?_push_of_some _ e)) (txset_fresh (Heap.get?_push_of_some _ (Heap.get?_push_size _ rfl))) ?hR
  intro s' hm hS' hkp
  obtain ⟨h', g2, d', tk', os'⟩ := s'
  have eg : g2 = s.gens := hm.gens
  have ed : d' = s.drawn := hm.drawn
  have eo : os' = s.os := hm.os
  subst eg; subst ed; subst eo
  show wpAny _ _ _ _ _ _
  refine wpAny_pure ?_
  show wpAny _ _ (ret Value.none) _ _ _
  exact wpAny_pure (hR h' tk' hS' hkp)
/-! ### sorted -/
theorem perm_of_sub : ∀ (l m : List Str), l.Nodup → (∀ x ∈ l, x ∈ m) → m.length ≤ l.length → m.Perm l
  | [], m, _, _, h => by
    have : m = [] := List.eq_nil_of_length_eq_zero (Nat.le_zero.mp h)
    rw [this]
  | x :: l, m, nd, hs, h => by
    obtain ⟨n1, n2⟩ := List.nodup_cons.mp nd
    have hx := hs x List.mem_cons_self
    have p := List.perm_cons_erase hx
    have hl : (m.erase x).length ≤ l.length := by
      rw [List.length_erase_of_mem hx]
      rw [List.length_cons] at h
      omega
    refine p.trans ((perm_of_sub l (m.erase x) n2 (fun y hy => ?_) hl).cons x)
    have hne : y ≠ x := fun e => n1 (e ▸ hy)
    exact (List.mem_erase_of_ne hne).mpr (hs y (List.mem_cons_of_mem _ hy))
theorem txs_vals : ∀ {l : List (Int × Value)}, ElemsOf (strKind P w) l → ∃ ss, StrsAre (l.map (·.2)) ss ∧ (∀ z, z ∈ ss ↔ ∃ e ∈ l, (strKind P w).is z e.2 = true)
  | [], _ => ⟨[], .nil, fun z => by simp⟩
  | e :: l, h => by
    obtain ⟨ss, h1, h2⟩ := txs_vals (l := l) fun x hx => h x (List.mem_cons_of_mem _ hx)
    obtain ⟨⟨k, hk, _⟩, _⟩ := h e List.mem_cons_self
    obtain ⟨i, v⟩ := e
    cases v with
    | str k' u =>
      refine ⟨k' :: ss, .cons k' u h1, fun z => ?_⟩
      have hz : (strKind P w).is z (.str k' u) = true ↔ z = k' := by
        show ((k' == z) = true) ↔ z = k'
        rw [beq_iff_eq]
        exact eq_comm
      rw [List.mem_cons, h2 z]
      constructor
      · rintro (e | ⟨x, hx, q⟩)
        · exact ⟨_, List.mem_cons_self, hz.mpr e⟩
        · exact ⟨x, List.mem_cons_of_mem _ hx, q⟩
      · rintro ⟨x, hx, q⟩
        rcases List.mem_cons.mp hx with rfl | hx
        · exact .inl (hz.mp q)
        · exact .inr ⟨x, hx, q⟩
    | _ => cases hk
/-- sorted(set) of fewer than 64 texts -/
theorem sorted_txset {a : Addr} {l : List Str} {Q : Value → Shared → Prop} (R : TxSet P w s.heap a l) (hh : A.handled = none) (h64 : l.length < 64)
    (hQ : ∀ s' p (out : Array Value) (c : Nat) (ys : List Str), (∀ b o, s.heap.get? b = some o → s'.heap.get? b = some o) → s'.gens = s.gens → s'.os = s.os → s.heap.objs.size ≤ p →
      s'.heap.get? p = some (seqObj "list" out c) → StrsAre out.toList ys → ys.Perm l → sortedS ys = true → Q (.ref p) s') :
    wpAny (model P w) A (call (.builtin "sorted") [.ref a]) Q E s := by
  obtain ⟨⟨es, ep, t⟩, ho, F, nd, hr, hl⟩ := R
  have hel : ElemsOf (strKind P w) es.toList := F.el
  have hsz : es.size = l.length := F.sz
  obtain ⟨ss, hss, hmem⟩ := txs_vals hel
  have hp0 : ss.Perm l := by
    refine perm_of_sub l ss nd (fun x hx => (hmem x).mpr ((F.mem x).mp hx)) ?_
    have q := hss.length
    rw [List.length_map, Array.length_toList] at q
    omega
  refine Calls.call_function_entry kind_sorted plain_sorted entry_sorted (args_sorted1 _) ?_
  unfold Builtin.«sorted»
  refine wpAny_bind (m := checkCount "sorted" 1 1 _) (wpAny_pure ?_)
  refine wpAny_bind (collect_set (A := A.in1) hh (es := es) (ep := ep) (t := t) ⟨_, ho, rfl, rfl⟩ F.fit (by unfold scanBound; omega) hr hl fun s1 vs k1 hz g1 o1 pm => ?_)
  obtain ⟨ts, hts, hpt⟩ : ∃ ts, StrsAre vs ts ∧ ts.Perm l := by
    have hv : ∀ v ∈ vs, ∃ x u, v = Value.str x u := fun v hv => hss.all _ (pm.mem_iff.mp hv)
    refine ⟨vs.map strOf, strsAre_map vs hv, ?_⟩
    have q := pm.map strOf
    rw [hss.strs] at q
    exact q.trans hp0
  have hvl : vs.length < 64 := by
    rw [pm.length_eq, List.length_map, Array.length_toList]
    omega
  refine wpAny_bind (wpAny_newList ?_ (by rw [sizeLine_eq]; omega))
  have hoL : (s1.heap.push (seqObj "list" vs.toArray 0)).get? s1.heap.objs.size = some (seqObj "list" vs.toArray 0) := Heap.get?_push_size _ rfl
  refine wpAny_bind (wpAny_holding (wpAny_call_entry slot_list_sort ⟨_, hoL, rfl⟩ entry_list_sort (list_sort_treeK strKind_oneLt hoL hts.keysOf (fun v₁ v₂ rest e => keyKind_strs (by rw [← e]; exact hts)) hvl fun st' a1 a2 => ⟨_, rfl, ?_⟩) (args_list_sort _)))
  obtain ⟨ys, h1, h2, h3⟩ := sorted_out_str hts a1 a2
  obtain ⟨c, hc⟩ := sortedHeap_at (vs := vs) (out := (arrOf st').map (·.2)) hoL
  refine wpAny_pure ⟨_, rfl, hQ _ s1.heap.objs.size _ c ys (fun b u e => ?_) g1 o1 hz hc h1 (h2.trans hpt) h3⟩
  have q := k1 b u e
  have hlt := Heap.lt_size q
  show (sortedHeap (s1.heap.push (seqObj "list" vs.toArray 0)) s1.heap.objs.size vs _).get? b = some u
  rw [sortedHeap_old (Nat.ne_of_lt hlt) (by rw [size_push']; exact Nat.lt_succ_of_lt hlt)]
  exact Heap.get?_push_of_some _ q
end
end L2
namespace L2
open PySem PySem.Spec PyProof.Rows
/-- sorted(set(x)), x a list or a tuple of fewer than 64 texts -/
def zSortSet (K : PySem.W.Frag) : List V → Hp → VK → Prop := fun vs H Q => ∃ (a : Addr) (xs : List Str), vs = [V.ref a] ∧ (SqL K H a (xs.map V.str) ∨ SqT K H a (xs.map V.str)) ∧ xs.length < 64 ∧
  ∀ (ys : List Str) (p : Addr), ys.Nodup → (∀ z, z ∈ ys ↔ z ∈ xs) → sortedS ys = true → H p = none → Q (.ref p) (upd H p (.lst (ys.map V.str)))
section
variable {X : Cx}
theorem pe_sortSet {a : Expr} {t : TA} {p p2 q pos : Pos} (hc : X.calm = true) (hg : Gl X "sorted") (hm : X.mg "sorted" = none) (hg2 : Gl X "set") (hm2 : X.mg "set" = none) (ha : PA X [a] t)
    (na : starEach [a] X.env = (false, eval a X.env) :: starEach [] X.env := by rfl) : PE X (.Call (.Name "sorted" p) [.Call (.Name "set" p2) [a] [] q] [] pos) (tCB (zSortSet X.K) t) := by
  refine ⟨fun pins s σ H Q I h => ?_⟩
  refine wpAny_Call_Name_kw (ld_blt I hg hm PyProof.Rows.boot_sorted ?_)
  refine PyProof.Rows.callWith_builtin1 (PyProof.Rows.args_cons ?_ rfl) rfl rfl
  refine wpAny_Call_Name_kw (ld_blt I hg2 hm2 PyProof.Rows.boot_set ?_)
  refine PyProof.Rows.callWith_type1 (thn (ha.run q pins s σ H _ I h) fun us s1 ⟨vs, H1, I1, r1, q1⟩ => ?_) na rfl
  obtain ⟨l, xs, rfl, hq, h64, q1⟩ := q1
  rw [Vals.ref1 r1]
  have fin : SetOut X.prog X.w s1 xs (fun v s2 => wpAny (model X.prog X.w) X.A (call (.builtin "sorted") [v]) (EP X pins σ Q) X.xe s2) := fun h' tk hS hk => by
    have I2 : Inv X pins σ H1 { s1 with heap := h', toks := tk } := I1.kept hk
    have hlen := ones_len xs
    refine sorted_txset hS (I1.ok.hd hc) (by omega) fun s' p out c ys k g o hp hg' hv pm so => ?_
    have hyl : (ys.map V.str).length ≤ sizeLine := by rw [List.length_map, pm.length_eq, sizeLine_eq]; omega
    have hn : H1 p = none := I2.hok.fresh hp
    have J : Inv X pins σ (upd H1 p (.lst (ys.map V.str))) { ({ s1 with heap := h', toks := tk } : Shared) with heap := s'.heap, gens := s'.gens, drawn := s'.drawn, toks := s'.toks } :=
      I2.call (ch := []) (Un.laid k hp hn) (I2.hok.laid k hp ⟨hyl, out.toList, c, vals_of_strs hv, hg'⟩) (by rw [g]; exact I2.bare) (fun _ z => nomatch z)
    have e : s' = { ({ s1 with heap := h', toks := tk } : Shared) with heap := s'.heap, gens := s'.gens, drawn := s'.drawn, toks := s'.toks } := by
      cases s'
      cases s1
      cases o
      rfl
    rw [e]
    exact ⟨.ref p, _, J, rfl, q1 ys p (pm.nodup_iff.mpr (ones_nd xs)) (fun z => pm.mem_iff.trans (ones_mem xs z)) so hn⟩
  rcases hq with hq | hq
  · obtain ⟨its, rv, pl, hz⟩ := I1.list hq
    exact call_set_listS (I1.ok.hd hc) pl.isList (by simpa using rv.strs) h64 fun h' tk hS hk => PyProof.Rows.args_nil (fin h' tk hS hk)
  · obtain ⟨its, rv, pl, hz⟩ := I1.tuple hq
    exact call_set_tupS (I1.ok.hd hc) pl (by simpa using rv.strs) h64 fun h' tk hS hk => PyProof.Rows.args_nil (fin h' tk hS hk)
end
theorem nodup_sub_len : ∀ (l m : List Str), l.Nodup → (∀ x ∈ l, x ∈ m) → l.length ≤ m.length
  | [], m, _, _ => Nat.zero_le _
  | x :: l, m, nd, hs => by
    obtain ⟨n1, n2⟩ := List.nodup_cons.mp nd
    have hx := hs x List.mem_cons_self
    have ih := nodup_sub_len l (m.erase x) n2 fun y hy => (List.mem_erase_of_ne fun e : y = x => n1 (e ▸ hy)).mpr (hs y (List.mem_cons_of_mem _ hy))
    rw [List.length_erase_of_mem hx] at ih
    have : 0 < m.length := List.length_pos_of_mem hx
    rw [List.length_cons]
    omega
end L2
namespace DL
open PySem PySem.Spec PyProof.Rows L2 TL
/-- the same, on data -/
def dSortSet : DRs := fun ds k => ∃ xs : List Str, (ds = [.list (xs.map .str)] ∨ ds = [.tuple (xs.map .str)]) ∧ xs.length < 64 ∧ (∀ x ∈ xs, x.length ≤ sizeLine ∧ PyData.strOk x = true) ∧
  ∀ ys : List Str, ys.Nodup → (∀ z, z ∈ ys ↔ z ∈ xs) → sortedS ys = true → k (.own (.lst (ys.map .str)))
theorem sr_sortSet {K : PySem.W.Frag} : SimRs K (zSortSet K) dSortSet := fun Hs H vs ds k Q sb h1 h3 o => by
  obtain ⟨xs, hd, h64, hw, h3⟩ := h3
  have fin : ∀ (ys : List Str) (p : Addr), ys.Nodup → (∀ z, z ∈ ys ↔ z ∈ xs) → sortedS ys = true → H p = none → Q (.ref p) (upd H p (.lst (ys.map V.str))) := fun ys p a b c hp =>
    o.lst _ _ p (h3 ys a b c) hp ⟨DqAll.strs _, wfs_strs fun y hy => hw y ((b y).mp hy)⟩ (by
    have := nodup_sub_len ys xs a fun x hx => (b x).mp hx
    rw [List.length_map, sizeLine_eq]
    omega)
  rcases hd with rfl | rfl
  · obtain ⟨v, rfl, h⟩ := h1.one
    obtain ⟨p, ws, rfl, e1, d1, l1⟩ := h.lst sb
    rw [d1.1.of_strs] at e1
    exact ⟨p, xs, rfl, .inl (SqL.of e1), h64, fin⟩
  · obtain ⟨v, rfl, h⟩ := h1.one
    obtain ⟨p, ws, rfl, _, e1, d1, l1, _⟩ := h.tup sb
    rw [d1.1.of_strs] at e1
    exact ⟨p, xs, rfl, .inr e1, h64, fin⟩
end DL

/-! the length of a module's dict; `z.strip(" ")` -/
namespace L2
open PySem PySem.Spec PyProof.Rows
section
variable {prog : Program} {w : World} {A : Around} {E : Value → Shared → Prop} {s : Shared}
/-- len(a dict of texts) -/
theorem len_rawD {d : Addr} {es : Array DictEntry} {ep : Nat} {Q : Value → Shared → Prop} (low : (d == sysModules) = false) (hm : s.heap.DictRaw d es ep) (hz : es.size ≤ 4096)
    (h : ∀ t k, Q (.int es.size t) { s with toks := k }) : wpAny (model prog w) A (call (.builtin "len") [.ref d]) Q E s := by
  refine Calls.call_function_entry kind_len plain_len entry_len (args_len1 _) ?_
  unfold Builtin.«len»
  refine wpAny_bind (m := oneArg "len" _) (wpAny_pure ?_)
  refine wpAny_bind (m := callSpecial? (.ref d) (Str.ofString "__len__")) (wpAny_callSpecial?_slot (name := Str.ofString "__len__") hm.typeIs F.slot_dict_len (call_len_raw low hm ?_))
  show wpAny _ _ _ _ _ { s with toks := s.toks + 1 }
  refine wpAny_bind (wpAny_holding (wpAny_pure ?_))
  refine wpAny_bind (wpAny_letGo ?_)
  show wpAny _ _ (if ((es.size : Nat) : Int) < 0 then _ else _) _ _ _
  rw [if_neg (by omega)]
  show wpAny _ _ (if ((es.size : Nat) : Int) ≥ 2 ^ 63 then _ else _) _ _ _
  rw [if_neg (by omega)]
  exact wpAny_bind (wpAny_mkInt (wpAny_pure ⟨_, rfl, h _ _⟩))
end
def zLenC (d : Addr) (n : Nat) : List V → Hp → VK → Prop := fun xs H Q => xs = [.ref d] ∧ Q (.int n) H
theorem call_lenK {X : Cx} {ks : List Str} {d : Addr} (M : KeysD X.K d ks) (hz : ks.length ≤ 4096) : CallR X (.builtin "len") (zLenC d ks.length) := by
  intro pins s σ H xs us Q I r h
  obtain ⟨rfl, q⟩ := h
  rw [Vals.ref1 r]
  obtain ⟨es, n, hK, hl, _, low⟩ := M
  have dr : s.heap.DictRaw d es n := ⟨_, I.kIn d _ hK, ⟨rfl, rfl, rfl⟩, rfl⟩
  exact len_rawD low dr (by omega) fun t k => ⟨.int ks.length, H, I.tok k, ⟨t, by rw [hl]⟩, q⟩
end L2
namespace DL
open PySem PySem.Spec PyProof.Rows L2 TL PySem.Builtin.Str
theorem sim_lenK {K : PySem.W.Frag} {d : Addr} {n : Nat} : SimE K (tCB (zLenC d n) (tCons (tC (.ref d)) tNil)) (dC (.d (.int n))) := fun Hs H σ e Q k s hu c =>
  ⟨rfl, sim_int (n : Int) Hs H σ e Q k s hu c⟩
/-! ### strip -/
abbrev blankS : Str := " "
abbrev zStripC : V → List V → Hp → VK → Prop := fun x xs H Q => ∃ a b, x = .str a ∧ xs = [.str b] ∧ a.length ≤ sizeLine ∧ Q (.str (Txt.stripChars a b)) H
theorem tl_sub {x : Str} {i j c : Nat} (h : c ∈ tl (strSub x i j)) : c ∈ tl x := by
  unfold strSub at h
  have e : tl (⟨x.cps.extract i j⟩ : Str) = ((tl x).drop i).take (j - i) := by
    show (x.cps.extract i j).toList = _
    rw [Array.toList_extract] <;> rfl
  rw [e] at h
  exact List.mem_of_mem_drop (List.mem_of_mem_take h)
theorem len_sub {x : Str} {i j : Nat} : (strSub x i j).length ≤ x.length := by
  show (x.cps.extract i j).size ≤ x.cps.size
  rw [Array.size_extract]
  omega
theorem strip_cases (z y : Str) : Txt.stripChars z y = z ∨ ∃ i j, Txt.stripChars z y = strSub z i j := by
  unfold Txt.stripChars Txt.stripBy
  split
  · exact .inl rfl
  · exact .inr ⟨_, _, rfl⟩
def dStripC : DM1 := fun z b k => ∃ y, b = .str y ∧ k (.d (.str (Txt.stripChars z y)))
theorem sr_stripC {K : PySem.W.Frag} : SimM1 K zStripC dStripC := fun Hs H z w b k Q sb l1 o1 h2 h3 o => by
  obtain ⟨y, rfl, h3⟩ := h3
  refine ⟨_, _, rfl, by rw [h2.str.1], l1, ?_⟩
  rcases strip_cases z y with e | ⟨i, j, e⟩
  · rw [e] at h3 ⊢
    exact o.str h3 l1 o1
  · rw [e] at h3 ⊢
    exact o.str h3 (Nat.le_trans len_sub l1) (ok_sub o1 fun c hc => tl_sub hc)
theorem z_stripC {z y : Str} {ks : SV → Prop} (q : ks (.d (.str (Txt.stripChars z y)))) : dStripC z (.str y) ks := ⟨y, rfl, q⟩
/-- what strip(" ") leaves as it is -/
theorem strip_same {z : Str} {a : Nat} {r : List Nat} (h : tl z = a :: r) : Txt.stripChars z blankS = z ↔ a ≠ 32 ∧ (a :: r).getLast (by simp) ≠ 32 := by
  have hg : ∀ c, blankS.cps.contains c = true ↔ c = 32 := fun c => by
    show (#[32] : Array Nat).contains c = true ↔ c = 32
    simp [eq_comm]
  have hz : z.cps.toList = a :: r := h
  have hlen : z.length = r.length + 1 := by rw [len_tl, h, List.length_cons]
  have hlast : (a :: r).reverse = (a :: r).getLast (by simp) :: (a :: r).dropLast.reverse := by
    conv => lhs; rw [← List.dropLast_concat_getLast (l := a :: r) (by simp)]
    rw [List.reverse_append] <;> rfl
  generalize (a :: r).getLast (by simp) = b at hlast ⊢
  have lo : stripLo blankS.cps.contains true z = 0 ↔ a ≠ 32 := by
    unfold stripLo
    rw [if_pos rfl, hz, List.takeWhile_cons]
    cases hc : blankS.cps.contains a with
    | true => simp [(hg a).mp hc]
    | false =>
      have : a ≠ 32 := fun e => by rw [(hg a).mpr e] at hc; cases hc
      simp [this]
  have hi : stripHi blankS.cps.contains true z 0 = z.length ↔ b ≠ 32 := by
    unfold stripHi
    rw [if_pos rfl, List.drop_zero, hz, hlast, List.takeWhile_cons]
    cases hc : blankS.cps.contains b with
    | true =>
      have : b = 32 := (hg b).mp hc
      simp [this]
      omega
    | false =>
      have : b ≠ 32 := fun e => by rw [(hg b).mpr e] at hc; cases hc
      simp [this]
  have same : stripSame blankS.cps.contains true true z = true ↔ a ≠ 32 ∧ b ≠ 32 := by
    unfold stripSame
    rw [Bool.and_eq_true, beq_iff_eq, beq_iff_eq]
    constructor
    · rintro ⟨h1, h2⟩
      rw [h1] at h2
      exact ⟨lo.mp h1, hi.mp h2⟩
    · rintro ⟨h1, h2⟩
      have h3 := lo.mpr h1
      exact ⟨h3, by rw [h3]; exact hi.mpr h2⟩
  rw [← same]
  unfold Txt.stripChars Txt.stripBy
  constructor
  · intro e
    by_cases hs : stripSame blankS.cps.contains true true z = true
    · exact hs
    · rw [if_neg hs] at e
      unfold stripped at e
      have e2 := congrArg Str.length e
      have e3 : (strSub z (stripLo blankS.cps.contains true z) (stripHi blankS.cps.contains true z (stripLo blankS.cps.contains true z))).length = min (stripHi blankS.cps.contains true z (stripLo blankS.cps.contains true z)) z.length - stripLo blankS.cps.contains true z := by
        show (z.cps.extract _ _).size = _
        rw [Array.size_extract] <;> rfl
      rw [e3] at e2
      refine absurd ?_ hs
      unfold stripSame
      rw [Bool.and_eq_true, beq_iff_eq, beq_iff_eq]
      have hh : stripHi blankS.cps.contains true z (stripLo blankS.cps.contains true z) ≤ z.length := by
        unfold stripHi
        rw [if_pos rfl]
        omega
      omega
  · intro hs
    rw [if_pos hs]
end DL

/-! plain: data of any make: alike with itself, shown -/
namespace DL
open PySem PySem.Spec PyProof.Rows L2 TL
mutual
/-- no dict, ints within twelve figures -/
def plainD : PyData → Bool
  | .dict _ => false
  | .int i => decide (i.natAbs < 10 ^ 12)
  | .list xs => plainAll xs
  | .tuple xs => plainAll xs
  | .none => true
  | .bool _ => true
  | .str _ => true
def plainAll : List PyData → Bool
  | [] => true
  | x :: xs => plainD x && plainAll xs
end
theorem plainAll_iff : ∀ {ds : List PyData}, plainAll ds = true ↔ ∀ d ∈ ds, plainD d = true
  | [] => by simp [plainAll]
  | d :: ds => by
    rw [plainAll, Bool.and_eq_true, plainAll_iff (ds := ds)]
    simp
mutual
theorem same_self : ∀ d : PyData, plainD d = true → sameD d d = true
  | .none, _ => by rw [sameD]
  | .bool _, _ => by rw [sameD]; simp
  | .int _, _ => by rw [sameD]; simp
  | .str _, _ => by rw [sameD]; simp
  | .list ds, h => by rw [sameD]; exact sames_self ds (by rw [plainD] at h; exact h)
  | .tuple ds, h => by rw [sameD]; exact sames_self ds (by rw [plainD] at h; exact h)
  | .dict _, h => by rw [plainD] at h; cases h
theorem sames_self : ∀ ds : List PyData, plainAll ds = true → sameD.sameAll ds ds = true
  | [], _ => by rw [sameD.sameAll]
  | d :: ds, h => by
    rw [plainAll, Bool.and_eq_true] at h
    rw [sameD.sameAll, same_self d h.1, sames_self ds h.2]
    rfl
end
theorem log2_small {i : Int} (h : i.natAbs < 10 ^ 12) : i.natAbs.log2 < 1920 := by
  by_cases h0 : i.natAbs = 0
  · rw [h0]; decide
  · have : i.natAbs.log2 < 40 := (Nat.log2_lt h0).mpr (Nat.lt_trans h (by decide))
    omega
mutual
theorem plain_show : ∀ d : PyData, plainD d = true → PyData.showable d = true ∧ PyData.intsShort 13 d = true
  | .none, _ => ⟨rfl, rfl⟩
  | .bool _, _ => ⟨rfl, rfl⟩
  | .int i, h => by
    rw [plainD, decide_eq_true_eq] at h
    exact ⟨by rw [PyData.showable]; exact decide_eq_true (log2_small h), by rw [PyData.intsShort]; exact decide_eq_true (PyData.shown_int_le h)⟩
  | .str _, _ => ⟨rfl, rfl⟩
  | .list ds, h => by rw [plainD] at h; rw [PyData.showable, PyData.intsShort]; exact plains_show ds h
  | .tuple ds, h => by rw [plainD] at h; rw [PyData.showable, PyData.intsShort]; exact plains_show ds h
  | .dict _, h => by rw [plainD] at h; cases h
theorem plains_show : ∀ ds : List PyData, plainAll ds = true → PyData.showableAll ds = true ∧ PyData.intsShortAll 13 ds = true
  | [], _ => ⟨rfl, rfl⟩
  | d :: ds, h => by
    rw [plainAll, Bool.and_eq_true] at h
    have h1 := plain_show d h.1
    have h2 := plains_show ds h.2
    rw [PyData.showableAll, PyData.intsShortAll, h1.1, h1.2, h2.1, h2.2]
    exact ⟨rfl, rfl⟩
end
/-- repr of data -/
theorem repr_ok {d : PyData} (w : wfD d = true) (h : plainD d = true) (hw : PyData.weight d ≤ 2 ^ 20) : PyData.showable d = true ∧ (PyData.shown d).length ≤ sizeLine := by
  obtain ⟨h1, h2⟩ := plain_show d h
  exact ⟨h1, PyData.shown_fits (B := 13) (by decide) (by decide) (PyData.leavesShort_of_canLay0 13 d (wf_lay d w) h2) hw⟩
theorem plain_strs (ys : List Str) : plainAll (ys.map .str) = true := plainAll_iff.mpr fun d hd => by
  obtain ⟨y, _, rfl⟩ := List.mem_map.mp hd
  rfl
theorem weight_strs {n : Nat} : ∀ {ys : List Str}, (∀ y ∈ ys, y.length ≤ n) → PyData.weightAll (ys.map .str) ≤ ys.length * (n + 1)
  | [], _ => by simp [PyData.weightAll]
  | y :: r, h => by
    have ih := weight_strs (n := n) (ys := r) fun x hx => h x (by simp [hx])
    have hy := h y (by simp)
    rw [List.map_cons, PyData.weightAll, List.length_cons, Nat.succ_mul]
    have e : PyData.weight (.str y) = y.length := rfl
    rw [e]
    omega
section
variable {ks : SV → Prop} {k : DK}
theorem z_repr {d : PyData} (h0 : (match d with | .list _ => true | .tuple _ => true | _ => false) = true) (w : wfD d = true) (h : plainD d = true) (hw : PyData.weight d ≤ 2 ^ 20) (hd : PyData.depth d ≤ 60) (q : ks (.d (.str (PyData.shown d)))) : dRepr [d] ks := by
  obtain ⟨h1, h2⟩ := repr_ok w h hw
  cases d with
  | list ds => exact ⟨h1, hd, h2, q⟩
  | tuple ds => exact ⟨h1, hd, h2, q⟩
  | _ => cases h0
theorem z_reprA {d : PyData} (w : wfD d = true) (h : plainD d = true) (hw : PyData.weight d ≤ 2 ^ 20) (hd : PyData.depth d ≤ 60) (q : ks (.d (.str (PyData.shown d)))) : dReprA [d] ks := by
  obtain ⟨h1, h2⟩ := repr_ok w h hw
  exact ⟨d, rfl, h1, hd, h2, q⟩
end
end DL

/-! plain: what templates are -/
namespace DL
open PySem PySem.Spec PyProof.Rows L2 TL
def textD (f : Str → Bool) : PyData → Bool
  | .str z => f z
  | _ => false
def plainT (z : Str) : Bool := decide (1 ≤ z.length) && decide (z.length ≤ 60) && !subIn "{" z && !subIn "}" z
def fieldL : List PyData := [.str "title", .str "path", .str "day", .str "tags", .str "body", .str "inner"]
def fieldT (z : Str) : Bool := inD (.str z) fieldL
/-- a word and one thing -/
def twoT (w : Str) (x : PyData) : Bool :=
  if w = "plain" then textD plainT x else if w = "to" then textD pathB x
  else decide (w = "use") && nameD x || decide (w = "field") && textD fieldT x
def oneT (w : Str) : List PyData → Bool
  | [x] => twoT w x
  | _ => false
def pairT (w : Str) : List PyData → Bool
  | [x, y] => nameD x && (decide (w = "when") || nameD y)
  | _ => false
def pieceT (w : Str) (hs : List PyData) : Bool := if w = "pages" ∨ w = "when" then pairT w hs else oneT w hs
/-- a piece, what stands within when by f -/
def pcT (f : PyData → Bool) : PyData → Bool
  | .tuple [.str w, x] => twoT w x
  | .tuple [.str w, x, y] => nameD x && (decide (w = "pages") && nameD y || decide (w = "when") && f y)
  | _ => false
def headT : PyData → PyData
  | .tuple (d :: _) => d
  | _ => .none
/-- two plain ones side by side -/
def adjT : List PyData → Bool
  | a :: b :: r => PyData.eqv (headT a) (.str "plain") && PyData.eqv (headT b) (.str "plain") || adjT (b :: r)
  | _ => false
def pcsT : Nat → PyData → Bool
  | 0, _ => false
  | n + 1, .tuple ps => ps.all (pcT (pcsT n)) && !adjT ps
  | _ + 1, _ => false
/-- all pieces, those within when, too -/
def allP : Nat → PyData → List PyData
  | 0, p => [p]
  | n + 1, .tuple [.str w, x, .tuple qs] => if w = "when" then .tuple [.str w, x, .tuple qs] :: qs.flatMap (allP n) else [.tuple [.str w, x, .tuple qs]]
  | _ + 1, p => [p]
def allT (n : Nat) (ps : List PyData) : List PyData := ps.flatMap (allP n)
def innerD : PyData := .tuple [.str "field", .str "inner"]
def bodyD : PyData := .tuple [.str "field", .str "body"]
def tmplT : PyData → Bool
  | .tuple [.str h, .tuple ps] => (decide (h = "") || nameB h) && pcsT 4 (.tuple ps) && decide ((allT 3 ps).length ≤ 12) && decide (cntD innerD (allT 3 ps) < 2) && decide (cntD bodyD (allT 3 ps) < 2)
  | _ => false
/-! ### snoc -/
theorem adj_snoc : ∀ (l : List PyData) (a b : PyData), adjT (l ++ [a, b]) = (adjT (l ++ [a]) || PyData.eqv (headT a) (.str "plain") && PyData.eqv (headT b) (.str "plain"))
  | [], a, b => by simp [adjT]
  | [x], a, b => by simp [adjT]
  | x :: y :: r, a, b => by
    have ih := adj_snoc (y :: r) a b
    simp only [List.cons_append] at ih ⊢
    rw [adjT, ih, adjT, Bool.or_assoc]
theorem all_snoc (n : Nat) (l : List PyData) (a : PyData) : allT n (l ++ [a]) = allT n l ++ allP n a := by
  unfold allT
  rw [List.flatMap_append]
  simp
/-- what a piece is -/
theorem pcT_cases {f : PyData → Bool} {p : PyData} (h : pcT f p = true) : (∃ w x, p = .tuple [.str w, x] ∧ twoT w x = true) ∨ (∃ x y, p = .tuple [.str "pages", x, y] ∧ nameD x = true ∧ nameD y = true) ∨ ∃ x y, p = .tuple [.str "when", x, y] ∧ nameD x = true ∧ f y = true := by
  unfold pcT at h
  split at h
  · exact .inl ⟨_, _, rfl, h⟩
  · rename_i w x y
    rw [Bool.and_eq_true, Bool.or_eq_true, Bool.and_eq_true, Bool.and_eq_true, decide_eq_true_eq, decide_eq_true_eq] at h
    obtain ⟨h1, ⟨rfl, h2⟩ | ⟨rfl, h2⟩⟩ := h
    · exact .inr (.inl ⟨_, _, rfl, h1, h2⟩)
    · exact .inr (.inr ⟨_, _, rfl, h1, h2⟩)
  · cases h
theorem pcsT_tup {n : Nat} {d : PyData} (h : pcsT n d = true) : ∃ m ps, n = m + 1 ∧ d = .tuple ps ∧ (∀ p ∈ ps, pcT (pcsT m) p = true) ∧ adjT ps = false := by
  cases n with
  | zero => cases h
  | succ m =>
    cases d with
    | tuple ps =>
      have h : (ps.all (pcT (pcsT m)) && !adjT ps) = true := h
      rw [Bool.and_eq_true, List.all_eq_true, Bool.not_eq_true'] at h
      exact ⟨m, ps, rfl, rfl, h.1, h.2⟩
    | _ => cases h
/-- a two's text is no plain one twice, no when -/
theorem two_word {w : Str} {x : PyData} (h : twoT w x = true) : w ≠ "when" ∧ w ≠ "pages" := by
  unfold twoT at h
  constructor
  · rintro rfl
    rw [if_neg (by decide +kernel), if_neg (by decide +kernel), decide_eq_false (by decide +kernel), decide_eq_false (by decide +kernel)] at h
    cases h
  · rintro rfl
    rw [if_neg (by decide +kernel), if_neg (by decide +kernel), decide_eq_false (by decide +kernel), decide_eq_false (by decide +kernel)] at h
    cases h
theorem allP_two (n : Nat) (w : Str) (x : PyData) : allP n (.tuple [.str w, x]) = [.tuple [.str w, x]] := by cases n <;> rfl
theorem allP_pages (n : Nat) (x y : PyData) : allP n (.tuple [.str "pages", x, y]) = [.tuple [.str "pages", x, y]] := by
  cases n with
  | zero => rfl
  | succ n => cases y <;> first | rfl | (show (if ("pages" : Str) = "when" then _ else _) = _; rw [if_neg (by decide +kernel)])
theorem allP_when (n : Nat) (x : PyData) (qs : List PyData) : allP (n + 1) (.tuple [.str "when", x, .tuple qs]) = .tuple [.str "when", x, .tuple qs] :: allT n qs := by
  show (if ("when" : Str) = "when" then _ else _) = _
  rw [if_pos rfl]
  rfl
/-! ### how many -/
theorem allP_le : ∀ (n : Nat) (p : PyData), (allP n p).length ≤ PyData.weight p + 1
  | 0, p => by simp [allP]
  | n + 1, p => by
    unfold allP
    split
    · rename_i h; cases h
    · rename_i n0 w x qs h
      cases h
      split
      · have g : ∀ qs : List PyData, (qs.flatMap (allP n)).length ≤ PyData.weightAll qs := fun qs => by
          induction qs with
          | nil => simp
          | cons q r ih =>
            have := allP_le n q
            rw [List.flatMap_cons, List.length_append, PyData.weightAll]
            omega
        have := g qs
        simp only [PyData.weight, PyData.weightAll, List.length_cons]
        omega
      · simp
    · simp
theorem allT_le (n : Nat) : ∀ ps : List PyData, (allT n ps).length ≤ PyData.weightAll ps
  | [] => by simp [allT]
  | p :: r => by
    have h1 := allP_le n p
    have h2 := allT_le n r
    unfold allT at h2 ⊢
    rw [List.flatMap_cons, List.length_append, PyData.weightAll]
    omega
theorem weight_mem {p : PyData} : ∀ {ps : List PyData}, p ∈ ps → PyData.weight p + 1 ≤ PyData.weightAll ps
  | q :: r, h => by
    rw [PyData.weightAll]
    rcases List.mem_cons.mp h with rfl | h
    · omega
    · have := weight_mem h
      omega
theorem allT_take (n i : Nat) (ps : List PyData) : (allT n (ps.take i)).length ≤ PyData.weightAll ps := by
  refine Nat.le_trans ?_ (allT_le n ps)
  unfold allT
  conv => rhs; rw [← List.take_append_drop i ps, List.flatMap_append, List.length_append]
  omega
end DL

/-! plain: drawn pieces of templates -/
namespace DL
open PySem PySem.Spec PyProof.Rows L2 TL
/-- a piece, whens within at most n deep -/
def okP : Nat → PyData → Bool
  | _, .tuple [.str w, .str _] => decide (w = "field") || decide (w = "plain") || decide (w = "use") || decide (w = "to")
  | _, .tuple [.str w, .str _, .str _] => decide (w = "pages")
  | n + 1, .tuple [.str w, .str _, .tuple ps] => decide (w = "when") && ps.all (okP n)
  | _, _ => false
/-- the three makes of a piece -/
theorem okP_cases {n : Nat} {p : PyData} (h : okP n p = true) : (∃ w x, p = .tuple [.str w, .str x] ∧ (w = "field" ∨ w = "plain" ∨ w = "use" ∨ w = "to")) ∨ (∃ x y, p = .tuple [.str "pages", .str x, .str y]) ∨
    ∃ m x ps, n = m + 1 ∧ p = .tuple [.str "when", .str x, .tuple ps] ∧ ∀ q ∈ ps, okP m q = true := by
  unfold okP at h
  split at h
  · rename_i w x
    refine .inl ⟨w, x, rfl, ?_⟩
    simp only [Bool.or_eq_true, decide_eq_true_eq] at h
    rcases h with ((h | h) | h) | h
    · exact .inl h
    · exact .inr (.inl h)
    · exact .inr (.inr (.inl h))
    · exact .inr (.inr (.inr h))
  · rename_i w x y
    have h := of_decide_eq_true h
    subst h
    exact .inr (.inl ⟨x, y, rfl⟩)
  · rename_i n w x ps
    rw [Bool.and_eq_true, List.all_eq_true] at h
    have h1 := of_decide_eq_true h.1
    subst h1
    exact .inr (.inr ⟨n, x, ps, rfl, rfl, h.2⟩)
  · cases h
theorem depth_okP : ∀ (n : Nat) (p : PyData), okP n p = true → PyData.depth p ≤ 2 * n + 1
  | n, p, h => by
    rcases okP_cases h with ⟨w, x, rfl, _⟩ | ⟨x, y, rfl⟩ | ⟨m, x, ps, rfl, rfl, hq⟩
    · simp [PyData.depth, PyData.depthAll]
    · simp [PyData.depth, PyData.depthAll]
    · have := deep_le (n := 2 * m + 1) (ds := ps) fun q h => depth_okP m q (hq q h)
      have e : PyData.depth (.tuple [.str "when", .str x, .tuple ps]) = 1 + max (max 0 (max 0 (max (1 + PyData.depthAll ps) 0))) 0 ∨ PyData.depth (.tuple [.str "when", .str x, .tuple ps]) ≤ 2 + PyData.depthAll ps := by
        right
        simp only [PyData.depth, PyData.depthAll]
        omega
      rcases e with e | e <;> omega
theorem depth_okPs {n : Nat} {ps : List PyData} (h : ∀ p ∈ ps, okP n p = true) : PyData.depth (.list ps) ≤ 2 * n + 2 := by
  have := deep_le (n := 2 * n + 1) (ds := ps) fun q hq => depth_okP n q (h q hq)
  unfold PyData.depth
  omega
/-- a piece whose texts are short and well made -/
def shortP : Nat → PyData → Bool
  | _, .tuple [.str w, .str x] => decide (w.length ≤ 5) && PyData.strOk w && decide (x.length ≤ 60) && PyData.strOk x
  | _, .tuple [.str w, .str x, .str y] => decide (w.length ≤ 5) && PyData.strOk w && decide (x.length ≤ 8) && PyData.strOk x && decide (y.length ≤ 8) && PyData.strOk y
  | n + 1, .tuple [.str w, .str x, .tuple ps] => decide (w.length ≤ 5) && PyData.strOk w && decide (x.length ≤ 8) && PyData.strOk x && decide (ps.length ≤ 7) && ps.all (shortP n)
  | _, _ => false
mutual
/-- within such a line, at any depth -/
def fitN (n : Nat) : PyData → Bool
  | .str z => decide (z.length ≤ n) && PyData.strOk z
  | .list ds => decide (ds.length ≤ n) && fitsN n ds
  | .tuple ds => decide (ds.length ≤ n) && fitsN n ds
  | .dict _ => false
  | .none => true
  | .bool _ => true
  | .int _ => true
def fitsN (n : Nat) : List PyData → Bool
  | [] => true
  | d :: ds => fitN n d && fitsN n ds
end
theorem fitsN_iff {n : Nat} : ∀ {ds : List PyData}, fitsN n ds = true ↔ ∀ d ∈ ds, fitN n d = true
  | [] => by simp [fitsN]
  | d :: ds => by
    rw [fitsN, Bool.and_eq_true, fitsN_iff (ds := ds)]
    simp
theorem fitAll_iff : ∀ {ds : List PyData}, fitD.fitAll ds = true ↔ ∀ d ∈ ds, fitD d = true
  | [] => by simp [fitD.fitAll]
  | d :: ds => by
    rw [fitD.fitAll, Bool.and_eq_true, fitAll_iff (ds := ds)]
    simp
mutual
theorem fitN_up {n m : Nat} (h : n ≤ m) : ∀ d : PyData, fitN n d = true → fitN m d = true
  | .str z, q => by rw [fitN, Bool.and_eq_true] at q ⊢; exact ⟨decide_eq_true (by have := of_decide_eq_true q.1; omega), q.2⟩
  | .list ds, q => by rw [fitN, Bool.and_eq_true] at q ⊢; exact ⟨decide_eq_true (by have := of_decide_eq_true q.1; omega), fitsN_up h ds q.2⟩
  | .tuple ds, q => by rw [fitN, Bool.and_eq_true] at q ⊢; exact ⟨decide_eq_true (by have := of_decide_eq_true q.1; omega), fitsN_up h ds q.2⟩
  | .dict _, q => by rw [fitN] at q; cases q
  | .none, _ => by rw [fitN]
  | .bool _, _ => by rw [fitN]
  | .int _, _ => by rw [fitN]
theorem fitsN_up {n m : Nat} (h : n ≤ m) : ∀ ds : List PyData, fitsN n ds = true → fitsN m ds = true
  | [], _ => by rw [fitsN]
  | d :: ds, q => by rw [fitsN, Bool.and_eq_true] at q ⊢; exact ⟨fitN_up h d q.1, fitsN_up h ds q.2⟩
end
mutual
theorem fitN_fit {n : Nat} (h : n ≤ 100000) : ∀ d : PyData, fitN n d = true → fitD d = true
  | .str z, q => by rw [fitN, Bool.and_eq_true] at q; rw [fitD, Bool.and_eq_true]; exact ⟨decide_eq_true (by have := of_decide_eq_true q.1; omega), q.2⟩
  | .list ds, q => by rw [fitN, Bool.and_eq_true] at q; rw [fitD, Bool.and_eq_true]; exact ⟨decide_eq_true (by have := of_decide_eq_true q.1; omega), fitsN_fit h ds q.2⟩
  | .tuple ds, q => by rw [fitN, Bool.and_eq_true] at q; rw [fitD, Bool.and_eq_true]; exact ⟨decide_eq_true (by have := of_decide_eq_true q.1; omega), fitsN_fit h ds q.2⟩
  | .dict _, q => by rw [fitN] at q; cases q
  | .none, _ => rfl
  | .bool _, _ => rfl
  | .int _, _ => rfl
theorem fitsN_fit {n : Nat} (h : n ≤ 100000) : ∀ ds : List PyData, fitsN n ds = true → fitD.fitAll ds = true
  | [], _ => by rw [fitD.fitAll]
  | d :: ds, q => by rw [fitsN, Bool.and_eq_true] at q; rw [fitD.fitAll, Bool.and_eq_true]; exact ⟨fitN_fit h d q.1, fitsN_fit h ds q.2⟩
end
/-- a thing of such a make: plain, within such lines, so deep, so heavy -/
structure GoodD (d : PyData) (dep wgt lim : Nat) : Prop where
  pl : plainD d = true
  ft : fitN lim d = true
  dp : PyData.depth d ≤ dep
  wt : PyData.weight d ≤ wgt
theorem GoodD.mono {d : PyData} {a b l a' b' l' : Nat} (h : GoodD d a b l) (h1 : a ≤ a') (h2 : b ≤ b') (h3 : l ≤ l') : GoodD d a' b' l' := ⟨h.pl, fitN_up h3 d h.ft, Nat.le_trans h.dp h1, Nat.le_trans h.wt h2⟩
def goodB (d : PyData) (dep wgt lim : Nat) : Bool := plainD d && fitN lim d && decide (PyData.depth d ≤ dep) && decide (PyData.weight d ≤ wgt)
theorem goodB_iff {d : PyData} {a b l : Nat} (h : goodB d a b l = true) : GoodD d a b l := by
  unfold goodB at h
  rw [Bool.and_eq_true, Bool.and_eq_true, Bool.and_eq_true] at h
  exact ⟨h.1.1.1, h.1.1.2, of_decide_eq_true h.1.2, of_decide_eq_true h.2⟩
theorem weight_app : ∀ a b : List PyData, PyData.weightAll (a ++ b) = PyData.weightAll a + PyData.weightAll b
  | [], b => by simp [PyData.weightAll]
  | x :: a, b => by
    rw [List.cons_append, PyData.weightAll, PyData.weightAll, weight_app a b]
    omega
/-- a tuple, by its things -/
theorem good_of {ds : List PyData} {a b l : Nat} (h1 : ds.length ≤ l) (h2 : ∀ d ∈ ds, plainD d = true ∧ fitN l d = true ∧ PyData.depth d + 1 ≤ a) (ha : 1 ≤ a) (h3 : PyData.weightAll ds ≤ b) : GoodD (.tuple ds) a b l := by
  refine ⟨?_, ?_, ?_, h3⟩
  · rw [plainD]; exact plainAll_iff.mpr fun d hd => (h2 d hd).1
  · rw [fitN, Bool.and_eq_true]; exact ⟨decide_eq_true h1, fitsN_iff.mpr fun d hd => (h2 d hd).2.1⟩
  · have := deep_tuple (n := a - 1) (ds := ds) fun d hd => by have := (h2 d hd).2.2; omega
    omega
theorem GoodD.parts {ds : List PyData} {a b l : Nat} (h : GoodD (.tuple ds) a b l) : ds.length ≤ l ∧ (∀ d ∈ ds, plainD d = true ∧ fitN l d = true ∧ PyData.depth d + 1 ≤ a) ∧ 1 ≤ a ∧ PyData.weightAll ds ≤ b := by
  obtain ⟨p, f, dd, w⟩ := h
  rw [plainD] at p
  rw [fitN, Bool.and_eq_true] at f
  have hd : ∀ d ∈ ds, PyData.depth d ≤ PyData.depthAll ds := fun d hd => by
    clear p f w dd
    induction ds with
    | nil => cases hd
    | cons x r ih =>
      unfold PyData.depthAll
      rcases List.mem_cons.mp hd with rfl | hd
      · exact Nat.le_max_left _ _
      · exact Nat.le_trans (ih hd) (Nat.le_max_right _ _)
  unfold PyData.depth at dd
  exact ⟨of_decide_eq_true f.1, fun d h => ⟨plainAll_iff.mp p d h, fitsN_iff.mp f.2 d h, by have := hd d h; omega⟩, by omega, w⟩
theorem good_list {ds : List PyData} {a b l : Nat} (h : GoodD (.tuple ds) a b l) : GoodD (.list ds) a b l := ⟨h.pl, h.ft, h.dp, h.wt⟩
def wB : Nat → Nat
  | 0 => 70
  | n + 1 => 80 + 7 * (wB n + 1)
theorem good_tuple {ds : List PyData} {a b c l : Nat} (hl : ds.length ≤ c) (hc : c ≤ l) (h : ∀ d ∈ ds, GoodD d a b l) : GoodD (.tuple ds) (a + 1) (c * (b + 1)) l := by
  refine good_of (by omega) (fun d hd => ⟨(h d hd).pl, (h d hd).ft, by have := (h d hd).dp; omega⟩) (by omega) ?_
  have : ∀ ds : List PyData, (∀ d ∈ ds, GoodD d a b l) → PyData.weightAll ds ≤ ds.length * (b + 1) := fun ds => by
    induction ds with
    | nil => intro _; simp [PyData.weightAll]
    | cons d r ih =>
      intro h
      have h1 := ih fun x hx => h x (by simp [hx])
      have h2 := (h d (by simp)).wt
      rw [PyData.weightAll, List.length_cons, Nat.succ_mul]
      omega
  have h1 := this ds h
  have h2 : ds.length * (b + 1) ≤ c * (b + 1) := Nat.mul_le_mul_right _ hl
  omega
theorem good_str {z : Str} {n l : Nat} (h1 : z.length ≤ n) (hn : n ≤ l) (h2 : PyData.strOk z = true) : GoodD (.str z) 0 n l := ⟨rfl, by rw [fitN, h2, Bool.and_true]; exact decide_eq_true (by omega), Nat.le_refl _, h1⟩
theorem wB_ge : ∀ n, 70 ≤ wB n
  | 0 => Nat.le_refl _
  | n + 1 => by unfold wB; omega
theorem good_short : ∀ (n : Nat) (p : PyData), shortP n p = true → GoodD p (2 * n + 1) (wB n) 100
  | n, p, h => by
    have hB := wB_ge n
    unfold shortP at h
    split at h
    · rename_i w x
      simp only [Bool.and_eq_true, decide_eq_true_eq] at h
      obtain ⟨⟨⟨h1, h2⟩, h3⟩, h4⟩ := h
      have g1 : GoodD (.str w) 0 60 100 := good_str (by omega) (by decide) h2
      have g2 : GoodD (.str x) 0 60 100 := good_str h3 (by decide) h4
      refine good_of (by show 2 ≤ 100; decide) (fun d hd => ?_) (by omega) ?_
      · simp only [List.mem_cons, List.not_mem_nil, or_false] at hd
        rcases hd with rfl | rfl
        · exact ⟨g1.pl, g1.ft, by have := g1.dp; omega⟩
        · exact ⟨g2.pl, g2.ft, by have := g2.dp; omega⟩
      · simp only [PyData.weight, PyData.weightAll]
        have e1 : w.cps.size = w.length := rfl
        have e2 : x.cps.size = x.length := rfl
        omega
    · rename_i w x y
      simp only [Bool.and_eq_true, decide_eq_true_eq] at h
      obtain ⟨⟨⟨⟨⟨h1, h2⟩, h3⟩, h4⟩, h5⟩, h6⟩ := h
      have g1 : GoodD (.str w) 0 60 100 := good_str (by omega) (by decide) h2
      have g2 : GoodD (.str x) 0 60 100 := good_str (by omega) (by decide) h4
      have g3 : GoodD (.str y) 0 60 100 := good_str (by omega) (by decide) h6
      refine good_of (by show 3 ≤ 100; decide) (fun d hd => ?_) (by omega) ?_
      · simp only [List.mem_cons, List.not_mem_nil, or_false] at hd
        rcases hd with rfl | rfl | rfl
        · exact ⟨g1.pl, g1.ft, by have := g1.dp; omega⟩
        · exact ⟨g2.pl, g2.ft, by have := g2.dp; omega⟩
        · exact ⟨g3.pl, g3.ft, by have := g3.dp; omega⟩
      · simp only [PyData.weight, PyData.weightAll]
        have e1 : w.cps.size = w.length := rfl
        have e2 : x.cps.size = x.length := rfl
        have e3 : y.cps.size = y.length := rfl
        omega
    · rename_i n w x ps
      simp only [Bool.and_eq_true, decide_eq_true_eq, List.all_eq_true] at h
      obtain ⟨⟨⟨⟨⟨h1, h2⟩, h3⟩, h4⟩, h5⟩, h6⟩ := h
      have g := good_tuple h5 (by decide) fun q hq => good_short n q (h6 q hq)
      have g1 : GoodD (.str w) 0 60 100 := good_str (by omega) (by decide) h2
      have g2 : GoodD (.str x) 0 60 100 := good_str (by omega) (by decide) h4
      refine good_of (by show 3 ≤ 100; decide) (fun d hd => ?_) (by omega) ?_
      · simp only [List.mem_cons, List.not_mem_nil, or_false] at hd
        rcases hd with rfl | rfl | rfl
        · exact ⟨g1.pl, g1.ft, by have := g1.dp; omega⟩
        · exact ⟨g2.pl, g2.ft, by have := g2.dp; omega⟩
        · exact ⟨g.pl, g.ft, by have := g.dp; omega⟩
      · have g4 := g.wt
        simp only [PyData.weight, PyData.weightAll] at g4 ⊢
        have e1 : w.cps.size = w.length := rfl
        have e2 : x.cps.size = x.length := rfl
        show _ ≤ 80 + 7 * (wB n + 1)
        omega
    · cases h
/-- a whole template -/
theorem good_tpl {hd : Str} {ps : List PyData} (h1 : hd.length ≤ 8) (h2 : PyData.strOk hd = true) (h3 : ps.length ≤ 7) (h : ∀ p ∈ ps, shortP 3 p = true) : GoodD (.tuple [.str hd, .tuple ps]) 9 250000 100 := by
  have g := good_tuple h3 (by decide) fun q hq => good_short 3 q (h q hq)
  have e : wB 3 ≤ 35000 := by decide
  have g1 : GoodD (.str hd) 0 60 100 := good_str (by omega) (by decide) h2
  refine good_of (by show 2 ≤ 100; decide) (fun d hd => ?_) (by omega) ?_
  · simp only [List.mem_cons, List.not_mem_nil, or_false] at hd
    rcases hd with rfl | rfl
    · exact ⟨g1.pl, g1.ft, by have := g1.dp; omega⟩
    · exact ⟨g.pl, g.ft, by have := g.dp; omega⟩
  · have g4 := g.wt
    simp only [PyData.weight, PyData.weightAll] at g4 ⊢
    have e1 : hd.cps.size = hd.length := rfl
    omega
/-! ### a thing otherwise at one place -/
theorem good_sub {ds es : List PyData} {a b l : Nat} (h : GoodD (.tuple ds) a b l) (hs : ∀ d ∈ es, d ∈ ds) (hl : es.length ≤ l) (hw : PyData.weightAll es ≤ b) : GoodD (.tuple es) a b l := by
  obtain ⟨h1, h2, h3, h4⟩ := h.parts
  exact good_of hl (fun d hd => h2 d (hs d hd)) h3 hw
theorem weight_cut (ds : List PyData) (i : Nat) : PyData.weightAll ds = PyData.weightAll (ds.take i) + PyData.weightAll (ds.drop i) := by
  rw [← weight_app, List.take_append_drop]
theorem weight_at {ds : List PyData} {i : Nat} {x : PyData} (h : ds[i]? = some x) : PyData.weightAll (ds.drop i) = PyData.weight x + 1 + PyData.weightAll (ds.drop (i + 1)) := by
  obtain ⟨h1, h2⟩ := List.getElem?_eq_some_iff.mp h
  rw [List.drop_eq_getElem_cons h1, h2, PyData.weightAll]
theorem good_put {ds : List PyData} {a b l i j c w : Nat} {d : PyData} (h : GoodD (.tuple ds) a b l) (hd : GoodD d c w (l + 1)) (hij : i ≤ j) (hc : c + 1 ≤ a + 3) (hw : PyData.weightAll (ds.take i) + w + 1 + PyData.weightAll (ds.drop j) ≤ 2 * b + 70) : GoodD (.tuple (ds.take i ++ [d] ++ ds.drop j)) (a + 3) (2 * b + 70) (l + 1) := by
  obtain ⟨h1, h2, h3, h4⟩ := h.parts
  refine good_of ?_ (fun x hx => ?_) (by omega) ?_
  · rw [List.length_append, List.length_append, List.length_take, List.length_singleton, List.length_drop]
    omega
  · rcases List.mem_append.mp hx with hx | hx
    · rcases List.mem_append.mp hx with hx | hx
      · obtain ⟨q1, q2, q3⟩ := h2 x (List.mem_of_mem_take hx)
        exact ⟨q1, fitN_up (Nat.le_succ _) x q2, by omega⟩
      · rw [List.mem_singleton.mp hx]
        exact ⟨hd.pl, hd.ft, by have := hd.dp; omega⟩
    · obtain ⟨q1, q2, q3⟩ := h2 x (List.mem_of_mem_drop hx)
      exact ⟨q1, fitN_up (Nat.le_succ _) x q2, by omega⟩
  · have := hd.wt
    rw [weight_app, weight_app]
    simp only [PyData.weightAll]
    omega
end DL

/-! what a source is -/
namespace DL
open PySem PySem.Spec PyProof.Rows L2 TL
def numD (lo hi : Int) : PyData → Bool
  | .int i => decide (lo ≤ i) && decide (i ≤ hi)
  | _ => false
def dayD (d : PyData) : Bool := numD 0 999 d
def titleB (z : Str) : Bool := match tl z with
  | [] => false
  | a :: r => decide (r.length < 40) && !decide (10 ∈ a :: r) && decide (a ≠ 32) && decide ((a :: r).getLast (by simp) ≠ 32)
def titleD : PyData → Bool
  | .str z => titleB z
  | _ => false
def truthD : PyData → Bool
  | .bool _ => true
  | _ => false
def lineB (z : Str) : Bool := decide (z.length ≤ 50) && !decide (10 ∈ tl z)
def lineD : PyData → Bool
  | .str z => lineB z
  | _ => false
def risesB : List Str → Bool
  | a :: b :: r => decide (tl a < tl b) && risesB (b :: r)
  | _ => true
def txtD : PyData → Str
  | .str z => z
  | _ => ⟨#[]⟩
def textsOf (ds : List PyData) : List Str := ds.map txtD
def tagsD : PyData → Bool
  | .tuple ds => decide (ds.length ≤ 3) && ds.all nameD && risesB (textsOf ds)
  | _ => false
def oldsD : PyData → Bool
  | .tuple ds => decide (ds.length ≤ 6) && ds.all pathD && risesB (textsOf ds)
  | _ => false
def rowsD : PyData → Bool
  | .tuple ds => decide (ds.length ≤ 8) && ds.all lineD
  | _ => false
abbrev partsB : List (Str × (PyData → Bool)) := [("title", titleD), ("day", dayD), ("draft", truthD), ("tags", tagsD), ("under", nameD), ("olds", oldsD), ("rows", rowsD)]
def badOf : List (Str × (PyData → Bool)) → List PyData → PyData
  | p :: r, d :: ds => if p.2 d = true then badOf r ds else .str p.1
  | _, _ => .none
def sourceD : PyData → Bool
  | .tuple ds => match ds with
    | [a, b, c, d, e, f, g] => titleD a && dayD b && truthD c && tagsD d && nameD e && oldsD f && rowsD g
    | _ => false
  | _ => false
/-- its texts, to the depth where a source has some, are no giants -/
def smallT : PyData → Bool
  | .tuple ds => decide (ds.length ≤ 100000) && ds.all fun x => smallD x && match x with
    | .tuple es => decide (es.length ≤ 100000) && es.all smallD
    | _ => true
  | d => smallD d
def isN : PyData → Bool
  | .none => true
  | _ => false
theorem badOf_none : ∀ (ps : List (Str × (PyData → Bool))) (ds : List PyData), ds.length = ps.length → isN (badOf ps ds) = (ps.zip ds).all fun p => p.1.2 p.2
  | [], [], _ => rfl
  | p :: r, d :: ds, h => by
    have ih := badOf_none r ds (by simpa using h)
    unfold badOf
    rw [List.zip_cons_cons, List.all_cons]
    cases hp : p.2 d with
    | true => simpa using ih
    | false => simp [isN]
  | [], _ :: _, h => by simp at h
  | _ :: _, [], h => by simp at h
theorem source_bad {ds : List PyData} (h : ds.length = 7) : sourceD (.tuple ds) = isN (badOf partsB ds) := by
  rw [badOf_none partsB ds h]
  match ds, h with
  | [a, b, c, d, e, f, g], _ =>
    show (titleD a && dayD b && truthD c && tagsD d && nameD e && oldsD f && rowsD g) = _
    simp only [partsB, List.zip_cons_cons, List.all_cons, List.zip_nil_left, List.all_nil, Bool.and_true, Bool.and_assoc]
theorem source_len {ds : List PyData} (h : ds.length ≠ 7) : sourceD (.tuple ds) = false := by
  unfold sourceD
  dsimp only
  split
  · exact absurd rfl h
  · rfl
/-! ### rising -/
theorem rises_pw : ∀ ys : List Str, risesB ys = true → ys.Pairwise fun a b => tl a < tl b
  | [], _ => .nil
  | [a], _ => List.pairwise_singleton _ _
  | a :: b :: r, h => by
    rw [risesB, Bool.and_eq_true] at h
    have ih := rises_pw (b :: r) h.2
    have hab := of_decide_eq_true h.1
    refine List.pairwise_cons.mpr ⟨fun x hx => ?_, ih⟩
    rcases List.mem_cons.mp hx with rfl | hx
    · exact hab
    · exact List.lt_trans hab ((List.pairwise_cons.mp ih).1 x hx)
theorem pw_rises : ∀ ys : List Str, (ys.Pairwise fun a b => tl a < tl b) → risesB ys = true
  | [], _ => rfl
  | [a], _ => rfl
  | a :: b :: r, h => by
    obtain ⟨h1, h2⟩ := List.pairwise_cons.mp h
    rw [risesB, decide_eq_true (h1 b (by simp)), pw_rises (b :: r) h2] <;> rfl
theorem tl_inj {a b : Str} (h : tl a = tl b) : a = b := by
  cases a
  cases b
  exact congrArg _ (Array.toList_inj.mp h)
theorem rising_pw : ∀ (p : Str) (l : List Str), risingS p l = true → (p :: l).Nodup → risesB (p :: l) = true
  | p, [], _, _ => rfl
  | p, x :: r, h, nd => by
    have h : (!ltCps x.cps.toList p.cps.toList && risingS x r) = true := h
    rw [Bool.and_eq_true, Bool.not_eq_true', ltCps_eq] at h
    obtain ⟨n1, n2⟩ := List.nodup_cons.mp nd
    have h1 : ¬ tl x < tl p := of_decide_eq_false h.1
    have hne : tl p ≠ tl x := fun e => n1 (by rw [tl_inj e]; simp)
    rw [risesB, decide_eq_true (Std.lt_of_le_of_ne (List.not_lt.mp h1) hne), rising_pw x r h.2 n2] <;> rfl
theorem sorted_rises {l : List Str} (h : sortedS l = true) (nd : l.Nodup) : risesB l = true := by
  cases l with
  | nil => rfl
  | cons p l => exact rising_pw p l h nd
theorem pw_unique : ∀ l m : List Str, (l.Pairwise fun a b => tl a < tl b) → (m.Pairwise fun a b => tl a < tl b) → (∀ z, z ∈ l ↔ z ∈ m) → l = m
  | [], m, _, _, h => by
    cases m with
    | nil => rfl
    | cons b m => exact absurd ((h b).mpr (by simp)) (by simp)
  | a :: l, [], _, _, h => absurd ((h a).mp (by simp)) (by simp)
  | a :: l, b :: m, hl, hm, h => by
    obtain ⟨l1, l2⟩ := List.pairwise_cons.mp hl
    obtain ⟨m1, m2⟩ := List.pairwise_cons.mp hm
    have e : a = b := by
      rcases List.mem_cons.mp ((h a).mp (by simp)) with e | e
      · exact e
      · rcases List.mem_cons.mp ((h b).mpr (by simp)) with e' | e'
        · exact e'.symm
        · exact absurd (m1 a e) (List.lt_asymm (l1 b e'))
    subst e
    have irr : ∀ {q : List Str}, (∀ x ∈ q, tl a < tl x) → a ∉ q := fun hq hm => List.lt_irrefl _ (hq a hm)
    have e2 := pw_unique l m l2 m2 fun z => by
      constructor
      · intro hz
        rcases List.mem_cons.mp ((h z).mp (by simp [hz])) with e | e
        · subst e; exact absurd hz (irr l1)
        · exact e
      · intro hz
        rcases List.mem_cons.mp ((h z).mpr (by simp [hz])) with e | e
        · subst e; exact absurd hz (irr m1)
        · exact e
    rw [e2]
/-- sorted(set(ys)) == ys -/
theorem sorted_same {ys zs : List Str} (nd : zs.Nodup) (hm : ∀ z, z ∈ zs ↔ z ∈ ys) (hs : sortedS zs = true) : zs = ys ↔ risesB ys = true := by
  have h1 := rises_pw zs (sorted_rises hs nd)
  constructor
  · intro e
    rw [← e]
    exact sorted_rises hs nd
  · intro h
    exact pw_unique zs ys h1 (rises_pw ys h) hm
theorem rises_zip : ∀ ys : List Str, ((ys.zip (ys.drop 1)).all fun p => decide (tl p.1 < tl p.2)) = risesB ys
  | [] => rfl
  | [a] => rfl
  | a :: b :: r => by
    have ih := rises_zip (b :: r)
    rw [risesB, ← ih] <;> rfl
theorem texts_of {ds : List PyData} {f : PyData → Bool} (hf : ∀ d, f d = true → ∃ z, d = .str z) (h : ds.all f = true) : ds = (textsOf ds).map .str := by
  unfold textsOf
  rw [List.map_map]
  conv => lhs; rw [← List.map_id ds]
  refine List.map_congr_left fun d hd => ?_
  obtain ⟨z, rfl⟩ := hf d (List.all_eq_true.mp h d hd)
  rfl
theorem name_text (d : PyData) (h : nameD d = true) : ∃ z, d = .str z := by
  cases d with
  | str z => exact ⟨z, rfl⟩
  | _ => cases h
theorem path_text (d : PyData) (h : pathD d = true) : ∃ z, d = .str z := by
  cases d with
  | str z => exact ⟨z, rfl⟩
  | _ => cases h
theorem texts_map (ys : List Str) : textsOf (ys.map .str) = ys := by
  unfold textsOf
  rw [List.map_map]
  conv => rhs; rw [← List.map_id ys]
  rfl
theorem eqvs_strs : ∀ ys zs : List Str, PyData.eqvAll (ys.map .str) (zs.map .str) = decide (ys = zs)
  | [], [] => by simp [PyData.eqvAll]
  | [], _ :: _ => by simp [PyData.eqvAll]
  | _ :: _, [] => by simp [PyData.eqvAll]
  | y :: ys, z :: zs => by
    have ih := eqvs_strs ys zs
    rw [List.map_cons, List.map_cons, PyData.eqvAll, ih]
    have e : PyData.eqv (.str y) (.str z) = decide (y = z) := by
      show (y == z) = _
      rw [Bool.beq_eq_decide_eq]
    rw [e]
    by_cases h1 : y = z <;> by_cases h2 : ys = zs <;> simp [h1, h2]
theorem eqv_strs (ys zs : List Str) : PyData.eqv (.list (ys.map .str)) (.list (zs.map .str)) = decide (ys = zs) := by
  rw [← eqvs_strs]
  simp [PyData.eqv]
end DL

namespace K04
open PySem PySem.Spec PyProof.Rows L2 DL TL CwR
def topS (i : Nat) : Stmt := PySem.Challenge.pw_pagemaker_k04_things_of_any_make.main.body.getD i (.Pass ⟨0, 0, 0, 0⟩)
/-! ### is_name -/
abbrev s_is_name : Stmt := topS 6
abbrev N_is_name : List Str := ["thing", "sign"]
abbrev P_is_name : List Str := ["thing"]
theorem sc_is_name : FnScope N_is_name P_is_name (defScope s_is_name) := ⟨rfl, rfl, rfl, by decide +kernel, rfl, by decide +kernel, by decide +kernel⟩
/-! ### is_path -/
abbrev s_is_path : Stmt := topS 7
abbrev N_is_path : List Str := ["thing", "first", "rest", "one"]
abbrev P_is_path : List Str := ["thing"]
theorem sc_is_path : FnScope N_is_path P_is_path (defScope s_is_path) := ⟨rfl, rfl, rfl, by decide +kernel, rfl, by decide +kernel, by decide +kernel⟩
/-! ### is_number -/
abbrev s_is_number : Stmt := topS 8
abbrev N_is_number : List Str := ["thing", "least", "most"]
abbrev P_is_number : List Str := ["thing", "least", "most"]
theorem sc_is_number : FnScope N_is_number P_is_number (defScope s_is_number) := ⟨rfl, rfl, rfl, by decide +kernel, rfl, by decide +kernel, by decide +kernel⟩
/-! ### is_day -/
abbrev s_is_day : Stmt := topS 9
abbrev N_is_day : List Str := ["thing"]
abbrev P_is_day : List Str := ["thing"]
theorem sc_is_day : FnScope N_is_day P_is_day (defScope s_is_day) := ⟨rfl, rfl, rfl, by decide +kernel, rfl, by decide +kernel, by decide +kernel⟩
/-! ### is_title -/
abbrev s_is_title : Stmt := topS 16
abbrev N_is_title : List Str := ["thing"]
abbrev P_is_title : List Str := ["thing"]
theorem sc_is_title : FnScope N_is_title P_is_title (defScope s_is_title) := ⟨rfl, rfl, rfl, by decide +kernel, rfl, by decide +kernel, by decide +kernel⟩
/-! ### is_truth -/
abbrev s_is_truth : Stmt := topS 17
abbrev N_is_truth : List Str := ["thing"]
abbrev P_is_truth : List Str := ["thing"]
theorem sc_is_truth : FnScope N_is_truth P_is_truth (defScope s_is_truth) := ⟨rfl, rfl, rfl, by decide +kernel, rfl, by decide +kernel, by decide +kernel⟩
/-! ### is_line -/
abbrev s_is_line : Stmt := topS 18
abbrev N_is_line : List Str := ["thing"]
abbrev P_is_line : List Str := ["thing"]
theorem sc_is_line : FnScope N_is_line P_is_line (defScope s_is_line) := ⟨rfl, rfl, rfl, by decide +kernel, rfl, by decide +kernel, by decide +kernel⟩
/-! ### rises -/
abbrev s_rises : Stmt := topS 19
abbrev N_rises : List Str := ["some", "one", "other"]
abbrev P_rises : List Str := ["some"]
theorem sc_rises : FnScope N_rises P_rises (defScope s_rises) := ⟨rfl, rfl, rfl, by decide +kernel, rfl, by decide +kernel, by decide +kernel⟩
/-! ### are_tags -/
abbrev s_are_tags : Stmt := topS 20
abbrev N_are_tags : List Str := ["thing", "one"]
abbrev P_are_tags : List Str := ["thing"]
theorem sc_are_tags : FnScope N_are_tags P_are_tags (defScope s_are_tags) := ⟨rfl, rfl, rfl, by decide +kernel, rfl, by decide +kernel, by decide +kernel⟩
/-! ### are_olds -/
abbrev s_are_olds : Stmt := topS 21
abbrev N_are_olds : List Str := ["thing", "one"]
abbrev P_are_olds : List Str := ["thing"]
theorem sc_are_olds : FnScope N_are_olds P_are_olds (defScope s_are_olds) := ⟨rfl, rfl, rfl, by decide +kernel, rfl, by decide +kernel, by decide +kernel⟩
/-! ### are_rows -/
abbrev s_are_rows : Stmt := topS 22
abbrev N_are_rows : List Str := ["thing", "one"]
abbrev P_are_rows : List Str := ["thing"]
theorem sc_are_rows : FnScope N_are_rows P_are_rows (defScope s_are_rows) := ⟨rfl, rfl, rfl, by decide +kernel, rfl, by decide +kernel, by decide +kernel⟩
/-! ### first_bad -/
abbrev s_first_bad : Stmt := topS 24
abbrev N_first_bad : List Str := ["things", "part", "thing", "look"]
abbrev P_first_bad : List Str := ["things"]
theorem sc_first_bad : FnScope N_first_bad P_first_bad (defScope s_first_bad) := ⟨rfl, rfl, rfl, by decide +kernel, rfl, by decide +kernel, by decide +kernel⟩
/-! ### is_source -/
abbrev s_is_source : Stmt := topS 25
abbrev N_is_source : List Str := ["thing"]
abbrev P_is_source : List Str := ["thing"]
theorem sc_is_source : FnScope N_is_source P_is_source (defScope s_is_source) := ⟨rfl, rfl, rfl, by decide +kernel, rfl, by decide +kernel, by decide +kernel⟩
/-! ### _law_dip -/
abbrev s_l_dip : Stmt := topS 27
abbrev N_l_dip : List Str := ["_law_script", "_law_k", "_law_cell"]
abbrev P_l_dip : List Str := ["_law_script", "_law_k"]
theorem sc_l_dip : FnScope N_l_dip P_l_dip (defScope s_l_dip) := ⟨rfl, rfl, rfl, by decide +kernel, rfl, by decide +kernel, by decide +kernel⟩
/-! ### _law_take -/
abbrev s_l_take : Stmt := topS 28
abbrev N_l_take : List Str := ["_law_box", "_law_many", "_law_found", "_law_once", "_law_twice"]
abbrev P_l_take : List Str := ["_law_box", "_law_many"]
theorem sc_l_take : FnScope N_l_take P_l_take (defScope s_l_take) := ⟨rfl, rfl, rfl, by decide +kernel, rfl, by decide +kernel, by decide +kernel⟩
/-! ### _law_folded -/
abbrev s_l_folded : Stmt := topS 29
abbrev N_l_folded : List Str := ["_law_script", "_law_size", "_law_cells", "_law_k", "_law_cell"]
abbrev P_l_folded : List Str := ["_law_script", "_law_size"]
theorem sc_l_folded : FnScope N_l_folded P_l_folded (defScope s_l_folded) := ⟨rfl, rfl, rfl, by decide +kernel, rfl, by decide +kernel, by decide +kernel⟩
/-! ### _law_made -/
abbrev s_l_made : Stmt := topS 30
abbrev N_l_made : List Str := ["_law_box", "_law_deep", "_law_way", "_law_some", "_law_k"]
abbrev P_l_made : List Str := ["_law_box", "_law_deep"]
theorem sc_l_made : FnScope N_l_made P_l_made (defScope s_l_made) := ⟨rfl, rfl, rfl, by decide +kernel, rfl, by decide +kernel, by decide +kernel⟩
/-! ### _law_within -/
abbrev s_l_within : Stmt := topS 31
abbrev N_l_within : List Str := ["_law_odd", "_law_deep", "_law_turn"]
abbrev P_l_within : List Str := ["_law_odd", "_law_deep"]
theorem sc_l_within : FnScope N_l_within P_l_within (defScope s_l_within) := ⟨rfl, rfl, rfl, by decide +kernel, rfl, by decide +kernel, by decide +kernel⟩
/-! ### _law_is_one -/
abbrev s_l_is_one : Stmt := topS 32
abbrev N_l_is_one : List Str := ["_law_odd", "_law_sign"]
abbrev P_l_is_one : List Str := ["_law_odd"]
theorem sc_l_is_one : FnScope N_l_is_one P_l_is_one (defScope s_l_is_one) := ⟨rfl, rfl, rfl, by decide +kernel, rfl, by decide +kernel, by decide +kernel⟩
/-! ### _law_is_way -/
abbrev s_l_is_way : Stmt := topS 33
abbrev N_l_is_way : List Str := ["_law_odd", "_law_names", "_law_name"]
abbrev P_l_is_way : List Str := ["_law_odd"]
theorem sc_l_is_way : FnScope N_l_is_way P_l_is_way (defScope s_l_is_way) := ⟨rfl, rfl, rfl, by decide +kernel, rfl, by decide +kernel, by decide +kernel⟩
/-! ### _law_is_bare -/
abbrev s_l_is_bare : Stmt := topS 34
abbrev N_l_is_bare : List Str := ["_law_odd", "_law_one", "_law_k"]
abbrev P_l_is_bare : List Str := ["_law_odd"]
theorem sc_l_is_bare : FnScope N_l_is_bare P_l_is_bare (defScope s_l_is_bare) := ⟨rfl, rfl, rfl, by decide +kernel, rfl, by decide +kernel, by decide +kernel⟩
/-! ### _law_right -/
abbrev s_l_right : Stmt := topS 35
abbrev N_l_right : List Str := ["_law_odd", "_law_kept", "_law_due", "_law_found", "_law_again"]
abbrev P_l_right : List Str := ["_law_odd"]
theorem sc_l_right : FnScope N_l_right P_l_right (defScope s_l_right) := ⟨rfl, rfl, rfl, by decide +kernel, rfl, by decide +kernel, by decide +kernel⟩
/-! ### law -/
abbrev s_law : Stmt := topS 36
abbrev N_law : List Str := ["_law_script", "_law_cells", "_law_fixed", "_law_bare", "_law_k", "_law_box", "_law_turn", "_law_odd"]
abbrev P_law : List Str := ["_law_script"]
theorem sc_law : FnScope N_law P_law (defScope s_law) := ⟨rfl, rfl, rfl, by decide +kernel, rfl, by decide +kernel, by decide +kernel⟩
abbrev keys_LOOKS : List Str := ["title", "day", "draft", "tags", "under", "olds", "rows"]
structure Ad where
  w : World
  f_is_name : Addr
  d_is_name : FuncData
  f_is_path : Addr
  d_is_path : FuncData
  f_is_number : Addr
  d_is_number : FuncData
  f_is_day : Addr
  d_is_day : FuncData
  f_is_title : Addr
  d_is_title : FuncData
  f_is_truth : Addr
  d_is_truth : FuncData
  f_is_line : Addr
  d_is_line : FuncData
  f_rises : Addr
  d_rises : FuncData
  f_are_tags : Addr
  d_are_tags : FuncData
  f_are_olds : Addr
  d_are_olds : FuncData
  f_are_rows : Addr
  d_are_rows : FuncData
  f_first_bad : Addr
  d_first_bad : FuncData
  f_is_source : Addr
  d_is_source : FuncData
  f_l_dip : Addr
  d_l_dip : FuncData
  f_l_take : Addr
  d_l_take : FuncData
  f_l_folded : Addr
  d_l_folded : FuncData
  f_l_made : Addr
  d_l_made : FuncData
  f_l_within : Addr
  d_l_within : FuncData
  f_l_is_one : Addr
  d_l_is_one : FuncData
  f_l_is_way : Addr
  d_l_is_way : FuncData
  f_l_is_bare : Addr
  d_l_is_bare : FuncData
  f_l_right : Addr
  d_l_right : FuncData
  f_law : Addr
  d_law : FuncData
  a_LOOKS : Addr
structure Top (K : PySem.W.Frag) (mg : Str → Option Value) (A : Ad) : Prop where
  F_is_name : Fun K "is_name" "is_name" s_is_name A.f_is_name A.d_is_name
  g_is_name : mg "is_name" = some (.ref A.f_is_name)
  F_is_path : Fun K "is_path" "is_path" s_is_path A.f_is_path A.d_is_path
  g_is_path : mg "is_path" = some (.ref A.f_is_path)
  F_is_number : Fun K "is_number" "is_number" s_is_number A.f_is_number A.d_is_number
  g_is_number : mg "is_number" = some (.ref A.f_is_number)
  F_is_day : Fun K "is_day" "is_day" s_is_day A.f_is_day A.d_is_day
  g_is_day : mg "is_day" = some (.ref A.f_is_day)
  F_is_title : Fun K "is_title" "is_title" s_is_title A.f_is_title A.d_is_title
  g_is_title : mg "is_title" = some (.ref A.f_is_title)
  F_is_truth : Fun K "is_truth" "is_truth" s_is_truth A.f_is_truth A.d_is_truth
  g_is_truth : mg "is_truth" = some (.ref A.f_is_truth)
  F_is_line : Fun K "is_line" "is_line" s_is_line A.f_is_line A.d_is_line
  g_is_line : mg "is_line" = some (.ref A.f_is_line)
  F_rises : Fun K "rises" "rises" s_rises A.f_rises A.d_rises
  g_rises : mg "rises" = some (.ref A.f_rises)
  F_are_tags : Fun K "are_tags" "are_tags" s_are_tags A.f_are_tags A.d_are_tags
  g_are_tags : mg "are_tags" = some (.ref A.f_are_tags)
  F_are_olds : Fun K "are_olds" "are_olds" s_are_olds A.f_are_olds A.d_are_olds
  g_are_olds : mg "are_olds" = some (.ref A.f_are_olds)
  F_are_rows : Fun K "are_rows" "are_rows" s_are_rows A.f_are_rows A.d_are_rows
  g_are_rows : mg "are_rows" = some (.ref A.f_are_rows)
  F_first_bad : Fun K "first_bad" "first_bad" s_first_bad A.f_first_bad A.d_first_bad
  g_first_bad : mg "first_bad" = some (.ref A.f_first_bad)
  F_is_source : Fun K "is_source" "is_source" s_is_source A.f_is_source A.d_is_source
  g_is_source : mg "is_source" = some (.ref A.f_is_source)
  F_l_dip : Fun K "_law_dip" "_law_dip" s_l_dip A.f_l_dip A.d_l_dip
  g_l_dip : mg "_law_dip" = some (.ref A.f_l_dip)
  F_l_take : Fun K "_law_take" "_law_take" s_l_take A.f_l_take A.d_l_take
  g_l_take : mg "_law_take" = some (.ref A.f_l_take)
  F_l_folded : Fun K "_law_folded" "_law_folded" s_l_folded A.f_l_folded A.d_l_folded
  g_l_folded : mg "_law_folded" = some (.ref A.f_l_folded)
  F_l_made : Fun K "_law_made" "_law_made" s_l_made A.f_l_made A.d_l_made
  g_l_made : mg "_law_made" = some (.ref A.f_l_made)
  F_l_within : Fun K "_law_within" "_law_within" s_l_within A.f_l_within A.d_l_within
  g_l_within : mg "_law_within" = some (.ref A.f_l_within)
  F_l_is_one : Fun K "_law_is_one" "_law_is_one" s_l_is_one A.f_l_is_one A.d_l_is_one
  g_l_is_one : mg "_law_is_one" = some (.ref A.f_l_is_one)
  F_l_is_way : Fun K "_law_is_way" "_law_is_way" s_l_is_way A.f_l_is_way A.d_l_is_way
  g_l_is_way : mg "_law_is_way" = some (.ref A.f_l_is_way)
  F_l_is_bare : Fun K "_law_is_bare" "_law_is_bare" s_l_is_bare A.f_l_is_bare A.d_l_is_bare
  g_l_is_bare : mg "_law_is_bare" = some (.ref A.f_l_is_bare)
  F_l_right : Fun K "_law_right" "_law_right" s_l_right A.f_l_right A.d_l_right
  g_l_right : mg "_law_right" = some (.ref A.f_l_right)
  F_law : Fun K "law" "law" s_law A.f_law A.d_law
  g_law : mg "law" = some (.ref A.f_law)
  n_abs : mg "abs" = none
  n_all : mg "all" = none
  n_bool : mg "bool" = none
  n_enumerate : mg "enumerate" = none
  n_int : mg "int" = none
  n_isinstance : mg "isinstance" = none
  n_len : mg "len" = none
  n_list : mg "list" = none
  n_range : mg "range" = none
  n_repr : mg "repr" = none
  n_set : mg "set" = none
  n_sorted : mg "sorted" = none
  n_str : mg "str" = none
  n_tuple : mg "tuple" = none
  n_zip : mg "zip" = none
  c_LETTERS : ∃ u, mg "LETTERS" = some u ∧ RelV (.str "abcdefghijklmnopqrstuvwxyz") u
  c_MOST_LETTERS : ∃ u, mg "MOST_LETTERS" = some u ∧ RelV (.int 8) u
  c_MOST_NAMES : ∃ u, mg "MOST_NAMES" = some u ∧ RelV (.int 3) u
  c_MOST_DAY : ∃ u, mg "MOST_DAY" = some u ∧ RelV (.int 999) u
  c_TAG : ∃ u, mg "TAG" = some u ∧ RelV (.str "tag") u
  c_MOST_TITLE : ∃ u, mg "MOST_TITLE" = some u ∧ RelV (.int 40) u
  c_MOST_TAGS : ∃ u, mg "MOST_TAGS" = some u ∧ RelV (.int 3) u
  c_MOST_OLDS : ∃ u, mg "MOST_OLDS" = some u ∧ RelV (.int 6) u
  c_MOST_ROWS : ∃ u, mg "MOST_ROWS" = some u ∧ RelV (.int 8) u
  c_MOST_SIGNS : ∃ u, mg "MOST_SIGNS" = some u ∧ RelV (.int 50) u
  c_LOOKS : ∃ u, mg "LOOKS" = some u ∧ RelV (.ref A.a_LOOKS) u
  fd_LOOKS : FnD K A.a_LOOKS [("title", A.f_is_title), ("day", A.f_is_day), ("draft", A.f_is_truth), ("tags", A.f_are_tags), ("under", A.f_is_name), ("olds", A.f_are_olds), ("rows", A.f_are_rows)]
  lit_LOOKS : ∀ es n, K.lookup A.a_LOOKS = some ⟨.type "dict", none, .dict es n, #[]⟩ → PySem.W.KeysLit A.w.params es.toList
section
variable {K : PySem.W.Frag} {mg : Str → Option Value} {A : Ad}
theorem Top.k_is_name (T : Top K mg A) : PySem.W.keepIn K (.ref A.f_is_name) = true := T.F_is_name.kp
theorem Top.b_is_name (T : Top K mg A) : Binds K A.d_is_name P_is_name [] := T.F_is_name.binds fun _ _ _ _ _ _ us hl => match us, hl with | [_], _ => rfl
theorem Top.k_is_path (T : Top K mg A) : PySem.W.keepIn K (.ref A.f_is_path) = true := T.F_is_path.kp
theorem Top.b_is_path (T : Top K mg A) : Binds K A.d_is_path P_is_path [] := T.F_is_path.binds fun _ _ _ _ _ _ us hl => match us, hl with | [_], _ => rfl
theorem Top.k_is_number (T : Top K mg A) : PySem.W.keepIn K (.ref A.f_is_number) = true := T.F_is_number.kp
theorem Top.b_is_number (T : Top K mg A) : Binds K A.d_is_number P_is_number [] := T.F_is_number.binds fun _ _ _ _ _ _ us hl => match us, hl with | [_, _, _], _ => rfl
theorem Top.k_is_day (T : Top K mg A) : PySem.W.keepIn K (.ref A.f_is_day) = true := T.F_is_day.kp
theorem Top.b_is_day (T : Top K mg A) : Binds K A.d_is_day P_is_day [] := T.F_is_day.binds fun _ _ _ _ _ _ us hl => match us, hl with | [_], _ => rfl
theorem Top.k_is_title (T : Top K mg A) : PySem.W.keepIn K (.ref A.f_is_title) = true := T.F_is_title.kp
theorem Top.b_is_title (T : Top K mg A) : Binds K A.d_is_title P_is_title [] := T.F_is_title.binds fun _ _ _ _ _ _ us hl => match us, hl with | [_], _ => rfl
theorem Top.k_is_truth (T : Top K mg A) : PySem.W.keepIn K (.ref A.f_is_truth) = true := T.F_is_truth.kp
theorem Top.b_is_truth (T : Top K mg A) : Binds K A.d_is_truth P_is_truth [] := T.F_is_truth.binds fun _ _ _ _ _ _ us hl => match us, hl with | [_], _ => rfl
theorem Top.k_is_line (T : Top K mg A) : PySem.W.keepIn K (.ref A.f_is_line) = true := T.F_is_line.kp
theorem Top.b_is_line (T : Top K mg A) : Binds K A.d_is_line P_is_line [] := T.F_is_line.binds fun _ _ _ _ _ _ us hl => match us, hl with | [_], _ => rfl
theorem Top.k_rises (T : Top K mg A) : PySem.W.keepIn K (.ref A.f_rises) = true := T.F_rises.kp
theorem Top.b_rises (T : Top K mg A) : Binds K A.d_rises P_rises [] := T.F_rises.binds fun _ _ _ _ _ _ us hl => match us, hl with | [_], _ => rfl
theorem Top.k_are_tags (T : Top K mg A) : PySem.W.keepIn K (.ref A.f_are_tags) = true := T.F_are_tags.kp
theorem Top.b_are_tags (T : Top K mg A) : Binds K A.d_are_tags P_are_tags [] := T.F_are_tags.binds fun _ _ _ _ _ _ us hl => match us, hl with | [_], _ => rfl
theorem Top.k_are_olds (T : Top K mg A) : PySem.W.keepIn K (.ref A.f_are_olds) = true := T.F_are_olds.kp
theorem Top.b_are_olds (T : Top K mg A) : Binds K A.d_are_olds P_are_olds [] := T.F_are_olds.binds fun _ _ _ _ _ _ us hl => match us, hl with | [_], _ => rfl
theorem Top.k_are_rows (T : Top K mg A) : PySem.W.keepIn K (.ref A.f_are_rows) = true := T.F_are_rows.kp
theorem Top.b_are_rows (T : Top K mg A) : Binds K A.d_are_rows P_are_rows [] := T.F_are_rows.binds fun _ _ _ _ _ _ us hl => match us, hl with | [_], _ => rfl
theorem Top.k_first_bad (T : Top K mg A) : PySem.W.keepIn K (.ref A.f_first_bad) = true := T.F_first_bad.kp
theorem Top.b_first_bad (T : Top K mg A) : Binds K A.d_first_bad P_first_bad [] := T.F_first_bad.binds fun _ _ _ _ _ _ us hl => match us, hl with | [_], _ => rfl
theorem Top.k_is_source (T : Top K mg A) : PySem.W.keepIn K (.ref A.f_is_source) = true := T.F_is_source.kp
theorem Top.b_is_source (T : Top K mg A) : Binds K A.d_is_source P_is_source [] := T.F_is_source.binds fun _ _ _ _ _ _ us hl => match us, hl with | [_], _ => rfl
theorem Top.k_l_dip (T : Top K mg A) : PySem.W.keepIn K (.ref A.f_l_dip) = true := T.F_l_dip.kp
theorem Top.b_l_dip (T : Top K mg A) : Binds K A.d_l_dip P_l_dip [] := T.F_l_dip.binds fun _ _ _ _ _ _ us hl => match us, hl with | [_, _], _ => rfl
theorem Top.k_l_take (T : Top K mg A) : PySem.W.keepIn K (.ref A.f_l_take) = true := T.F_l_take.kp
theorem Top.b_l_take (T : Top K mg A) : Binds K A.d_l_take P_l_take [] := T.F_l_take.binds fun _ _ _ _ _ _ us hl => match us, hl with | [_, _], _ => rfl
theorem Top.k_l_folded (T : Top K mg A) : PySem.W.keepIn K (.ref A.f_l_folded) = true := T.F_l_folded.kp
theorem Top.b_l_folded (T : Top K mg A) : Binds K A.d_l_folded P_l_folded [] := T.F_l_folded.binds fun _ _ _ _ _ _ us hl => match us, hl with | [_, _], _ => rfl
theorem Top.k_l_made (T : Top K mg A) : PySem.W.keepIn K (.ref A.f_l_made) = true := T.F_l_made.kp
theorem Top.b_l_made (T : Top K mg A) : Binds K A.d_l_made P_l_made [] := T.F_l_made.binds fun _ _ _ _ _ _ us hl => match us, hl with | [_, _], _ => rfl
theorem Top.k_l_within (T : Top K mg A) : PySem.W.keepIn K (.ref A.f_l_within) = true := T.F_l_within.kp
theorem Top.b_l_within (T : Top K mg A) : Binds K A.d_l_within P_l_within [] := T.F_l_within.binds fun _ _ _ _ _ _ us hl => match us, hl with | [_, _], _ => rfl
theorem Top.k_l_is_one (T : Top K mg A) : PySem.W.keepIn K (.ref A.f_l_is_one) = true := T.F_l_is_one.kp
theorem Top.b_l_is_one (T : Top K mg A) : Binds K A.d_l_is_one P_l_is_one [] := T.F_l_is_one.binds fun _ _ _ _ _ _ us hl => match us, hl with | [_], _ => rfl
theorem Top.k_l_is_way (T : Top K mg A) : PySem.W.keepIn K (.ref A.f_l_is_way) = true := T.F_l_is_way.kp
theorem Top.b_l_is_way (T : Top K mg A) : Binds K A.d_l_is_way P_l_is_way [] := T.F_l_is_way.binds fun _ _ _ _ _ _ us hl => match us, hl with | [_], _ => rfl
theorem Top.k_l_is_bare (T : Top K mg A) : PySem.W.keepIn K (.ref A.f_l_is_bare) = true := T.F_l_is_bare.kp
theorem Top.b_l_is_bare (T : Top K mg A) : Binds K A.d_l_is_bare P_l_is_bare [] := T.F_l_is_bare.binds fun _ _ _ _ _ _ us hl => match us, hl with | [_], _ => rfl
theorem Top.k_l_right (T : Top K mg A) : PySem.W.keepIn K (.ref A.f_l_right) = true := T.F_l_right.kp
theorem Top.b_l_right (T : Top K mg A) : Binds K A.d_l_right P_l_right [] := T.F_l_right.binds fun _ _ _ _ _ _ us hl => match us, hl with | [_], _ => rfl
theorem Top.k_law (T : Top K mg A) : PySem.W.keepIn K (.ref A.f_law) = true := T.F_law.kp
theorem Top.b_law (T : Top K mg A) : Binds K A.d_law P_law [] := T.F_law.binds fun _ _ _ _ _ _ us hl => match us, hl with | [_], _ => rfl
theorem Top.kb_is_source_thing (T : Top K mg A) : KBinds K A.d_is_source P_is_source ["thing"] (fun us ws => us ++ ws) (fun vs zs => vs ++ zs) := T.F_is_source.kbinds fun _ _ _ _ _ _ us ws hl => match us, ws, hl with | [], [_], _ => rfl | [_], [], _ => rfl
theorem Top.kb_is_path_thing (T : Top K mg A) : KBinds K A.d_is_path P_is_path ["thing"] (fun us ws => us ++ ws) (fun vs zs => vs ++ zs) := T.F_is_path.kbinds fun _ _ _ _ _ _ us ws hl => match us, ws, hl with | [], [_], _ => rfl | [_], [], _ => rfl
theorem Top.kb_is_name_thing (T : Top K mg A) : KBinds K A.d_is_name P_is_name ["thing"] (fun us ws => us ++ ws) (fun vs zs => vs ++ zs) := T.F_is_name.kbinds fun _ _ _ _ _ _ us ws hl => match us, ws, hl with | [], [_], _ => rfl | [_], [], _ => rfl
end
def sp_is_name : DSp := fun xs k => ∃ (d : PyData), xs = [.d d] ∧ k (.d (.bool (nameD d))) [.no]
theorem len_is_name {xs : List SV} {k : SV → List SV → Prop} (h : sp_is_name xs k) : xs.length = P_is_name.length := by
  obtain ⟨_, rfl, _⟩ := h
  rfl
def t_is_name (K : PySem.W.Frag) (A : Ad) : TS :=
  (tSeq (tIfS (tOr (tNot (zTruth K (tCB (rIsi K) (tCons (tVar 0) (tCons (tC (.ty "str")) tNil))))) (tNot (tTest (tChain uLtE uLtE (tC (.int 1)) (tCB (zLenA K) (tCons (tVar 0) tNil)) (tC (.int 8)))))) (tRet (tC (.bl false))) tNext)
    (tRet (tCB (rAll K) (tCons (tLc (uIt K (tVar 0)) (gName 1) tYes (tOp (uIn K) (tVar 1) (tC (.str "abcdefghijklmnopqrstuvwxyz"))) [1]) tNil))))
def d_is_name : DS :=
  (sSeq (sIf (dOr (dNot (dTru (dIsi isD_str (dVar 0)))) (dNot (dB (dChain dLtE dLtE (dC (.d (.int 1))) (dCB dLen (aCons (dVar 0) aNil)) (dC (.d (.int 8))))))) (sRet (dC (.d (.bool false)))) sNext)
    (sRet (dCB dAll (aCons (dLc (iAny (dVar 0)) (gN 1) dYes (dOp dIn (dVar 1) (dC (.d (.str "abcdefghijklmnopqrstuvwxyz")))) [1]) aNil))))
def sp_is_path : DSp := fun xs k => ∃ (d : PyData), xs = [.d d] ∧ smallD d = true ∧ k (.d (.bool (pathD d))) [.no]
theorem len_is_path {xs : List SV} {k : SV → List SV → Prop} (h : sp_is_path xs k) : xs.length = P_is_path.length := by
  obtain ⟨_, rfl, _⟩ := h
  rfl
def t_is_path (K : PySem.W.Frag) (A : Ad) : TS :=
  (tSeq (tIfS (tNot (zTruth K (tCB (rIsi K) (tCons (tVar 0) (tCons (tC (.ty "str")) tNil))))) (tRet (tC (.bl false))) tNext)
    (tSeq (tAsg (tM1 zSplit (tVar 0) (tC (.str "/"))) (gStarL K 2 1 (gCons (gName 1) (gCons (gName 2) gNil))))
    (tRet (tAndT K (tOp uLt (tCB (zLenA K) (tCons (tVar 2) tNil)) (tC (.int 3))) (tAndT K (tOp (rNeD K) (tVar 1) (tC (.str "tag"))) (tCB (rAll K) (tCons (tLc (uIt K (tOp (uAdd K) (tLst (tCons (tVar 1) tNil)) (tVar 2))) (gName 3) tYes (tCall (lift K sp_is_name) [] E0 (tCons (tVar 3) tNil)) [3]) tNil)))))))
def d_is_path : DS :=
  (sSeq (sIf (dNot (dTru (dIsi isD_str (dVar 0)))) (sRet (dC (.d (.bool false)))) sNext)
    (sSeq (sAsg (dM1 dSplit (dVar 0) (dC (.d (.str "/")))) (gStar1 1 2))
    (sRet (dAndT (dOp dLt (dCB dLen (aCons (dVar 2) aNil)) (dC (.d (.int 3)))) (dAndT (dOp dNe (dVar 1) (dC (.d (.str "tag")))) (dCB dAll (aCons (dLc (iAny (dOp dAdd (dLst (vCons (dVar 1) vNil)) (dVar 2))) (gN 3) dYes (dCallB sp_is_name (aCons (dVar 3) aNil)) [3]) aNil)))))))
def sp_is_number : DSp := fun xs k => ∃ (d : PyData) (lo hi : Int), xs = [.d d, .d (.int lo), .d (.int hi)] ∧ k (.d (.bool (numD lo hi d))) [.no, .no, .no]
theorem len_is_number {xs : List SV} {k : SV → List SV → Prop} (h : sp_is_number xs k) : xs.length = P_is_number.length := by
  obtain ⟨_, _, _, rfl, _⟩ := h
  rfl
def t_is_number (K : PySem.W.Frag) (A : Ad) : TS :=
  (tRet (tAndT K (tCB (rIsi K) (tCons (tVar 0) (tCons (tC (.ty "int")) tNil))) (tAndT K (tNotT K (tCB (rIsi K) (tCons (tVar 0) (tCons (tC (.ty "bool")) tNil)))) (tChain uLtE uLtE (tVar 1) (tVar 0) (tVar 2)))))
def d_is_number : DS :=
  (sRet (dAndT (dIsi isD_int (dVar 0)) (dAndT (dNotT (dIsi isD_bool (dVar 0))) (dChain dLtE dLtE (dVar 1) (dVar 0) (dVar 2)))))
def sp_is_day : DSp := fun xs k => ∃ (d : PyData), xs = [.d d] ∧ k (.d (.bool (dayD d))) [.no]
theorem len_is_day {xs : List SV} {k : SV → List SV → Prop} (h : sp_is_day xs k) : xs.length = P_is_day.length := by
  obtain ⟨_, rfl, _⟩ := h
  rfl
def t_is_day (K : PySem.W.Frag) (A : Ad) : TS :=
  (tRet (tCall (lift K sp_is_number) [] E0 (tCons (tVar 0) (tCons (tC (.int 0)) (tCons (tC (.int 999)) tNil)))))
def d_is_day : DS :=
  (sRet (dCall sp_is_number (aCons (argA (dVar 0)) (aCons (argA (dC (.d (.int 0)))) (aCons (argA (dC (.d (.int 999)))) aNil)))))
def sp_is_title : DSp := fun xs k => ∃ (d : PyData), xs = [.d d] ∧ k (.d (.bool (titleD d))) [.no]
theorem len_is_title {xs : List SV} {k : SV → List SV → Prop} (h : sp_is_title xs k) : xs.length = P_is_title.length := by
  obtain ⟨_, rfl, _⟩ := h
  rfl
def t_is_title (K : PySem.W.Frag) (A : Ad) : TS :=
  (tSeq (tIfS (tOr (tNot (zTruth K (tCB (rIsi K) (tCons (tVar 0) (tCons (tC (.ty "str")) tNil))))) (tOr (tNot (tTest (tChain uLtE uLtE (tC (.int 1)) (tCB (zLenA K) (tCons (tVar 0) tNil)) (tC (.int 40))))) (tTest (tOp (uIn K) (tC (.str "\n")) (tVar 0))))) (tRet (tC (.bl false))) tNext)
    (tRet (tAndT K (tOp (rNeD K) (tOp (rIx K) (tVar 0) (tC (.int 0))) (tC (.str " "))) (tOp (rNeD K) (tOp (rIx K) (tVar 0) (tUn zNeg (tC (.int 1)))) (tC (.str " "))))))
def d_is_title : DS :=
  (sSeq (sIf (dOr (dNot (dTru (dIsi isD_str (dVar 0)))) (dOr (dNot (dB (dChain dLtE dLtE (dC (.d (.int 1))) (dCB dLen (aCons (dVar 0) aNil)) (dC (.d (.int 40)))))) (dB (dOp dIn (dC (.d (.str "\n"))) (dVar 0))))) (sRet (dC (.d (.bool false)))) sNext)
    (sRet (dAndT (dOp dNe (dOp dIx (dVar 0) (dC (.d (.int 0)))) (dC (.d (.str " ")))) (dOp dNe (dOp dIx (dVar 0) (dUn dNeg (dC (.d (.int 1))))) (dC (.d (.str " ")))))))
def sp_is_truth : DSp := fun xs k => ∃ (d : PyData), xs = [.d d] ∧ k (.d (.bool (truthD d))) [.no]
theorem len_is_truth {xs : List SV} {k : SV → List SV → Prop} (h : sp_is_truth xs k) : xs.length = P_is_truth.length := by
  obtain ⟨_, rfl, _⟩ := h
  rfl
def t_is_truth (K : PySem.W.Frag) (A : Ad) : TS :=
  (tRet (tCB (rIsi K) (tCons (tVar 0) (tCons (tC (.ty "bool")) tNil))))
def d_is_truth : DS :=
  (sRet (dIsi isD_bool (dVar 0)))
def sp_is_line : DSp := fun xs k => ∃ (d : PyData), xs = [.d d] ∧ k (.d (.bool (lineD d))) [.no]
theorem len_is_line {xs : List SV} {k : SV → List SV → Prop} (h : sp_is_line xs k) : xs.length = P_is_line.length := by
  obtain ⟨_, rfl, _⟩ := h
  rfl
def t_is_line (K : PySem.W.Frag) (A : Ad) : TS :=
  (tRet (tAndT K (tCB (rIsi K) (tCons (tVar 0) (tCons (tC (.ty "str")) tNil))) (tAndT K (tOp uLtE (tCB (zLenA K) (tCons (tVar 0) tNil)) (tC (.int 50))) (tOp (uNotIn K) (tC (.str "\n")) (tVar 0)))))
def d_is_line : DS :=
  (sRet (dAndT (dIsi isD_str (dVar 0)) (dAndT (dOp dLtE (dCB dLen (aCons (dVar 0) aNil)) (dC (.d (.int 50)))) (dOp dNotIn (dC (.d (.str "\n"))) (dVar 0)))))
def sp_rises : DSp := fun xs k => ∃ (ys : List Str), xs = [.d (.tuple (ys.map .str))] ∧ ys.length ≤ 100 ∧ k (.d (.bool (risesB ys))) [.no]
theorem len_rises {xs : List SV} {k : SV → List SV → Prop} (h : sp_rises xs k) : xs.length = P_rises.length := by
  obtain ⟨_, rfl, _⟩ := h
  rfl
def t_rises (K : PySem.W.Frag) (A : Ad) : TS :=
  (tRet (tCB (rAll K) (tCons (tLc (RZ.iZipA K (tCons (tVar 0) (tCons (tSl (uSl K) (tVar 0) (tPart (tC (.int 1))) tNoPart) tNil))) (gTup K 2 (gCons (gName 1) (gCons (gName 2) gNil))) tYes (tOp uLt (tVar 1) (tVar 2)) [1, 2]) tNil)))
def d_rises : DS :=
  (sRet (dCB dAll (aCons (dLc (iZip2 (dVar 0) (dSl (dVar 0) (oSome (dC (.d (.int 1)))) oNone)) (gT 2 (gsCons (gN 1) (gsCons (gN 2) gsNil))) dYes (dOp dLt (dVar 1) (dVar 2)) [1, 2]) aNil)))
def sp_are_tags : DSp := fun xs k => ∃ (d : PyData), xs = [.d d] ∧ k (.d (.bool (tagsD d))) [.no]
theorem len_are_tags {xs : List SV} {k : SV → List SV → Prop} (h : sp_are_tags xs k) : xs.length = P_are_tags.length := by
  obtain ⟨_, rfl, _⟩ := h
  rfl
def t_are_tags (K : PySem.W.Frag) (A : Ad) : TS :=
  (tSeq (tIfS (tOr (tNot (zTruth K (tCB (rIsi K) (tCons (tVar 0) (tCons (tC (.ty "tuple")) tNil))))) (tOr (tTest (tOp uGt (tCB (zLenA K) (tCons (tVar 0) tNil)) (tC (.int 3)))) (tNot (zTruth K (tCB (rAll K) (tCons (tLc (uIt K (tVar 0)) (gName 1) tYes (tCall (lift K sp_is_name) [] E0 (tCons (tVar 1) tNil)) [1]) tNil)))))) (tRet (tC (.bl false))) tNext)
    (tRet (tCall (lift K sp_rises) [] E0 (tCons (tVar 0) tNil))))
def d_are_tags : DS :=
  (sSeq (sIf (dOr (dNot (dTru (dIsi isD_tuple (dVar 0)))) (dOr (dB (dOp dGt (dCB dLen (aCons (dVar 0) aNil)) (dC (.d (.int 3))))) (dNot (dTru (dCB dAll (aCons (dLc (iAny (dVar 0)) (gN 1) dYes (dCallB sp_is_name (aCons (dVar 1) aNil)) [1]) aNil)))))) (sRet (dC (.d (.bool false)))) sNext)
    (sRet (dCall sp_rises (aCons (argA (dVar 0)) aNil))))
def sp_are_olds : DSp := fun xs k => ∃ (d : PyData), xs = [.d d] ∧ smallT d = true ∧ k (.d (.bool (oldsD d))) [.no]
theorem len_are_olds {xs : List SV} {k : SV → List SV → Prop} (h : sp_are_olds xs k) : xs.length = P_are_olds.length := by
  obtain ⟨_, rfl, _⟩ := h
  rfl
def t_are_olds (K : PySem.W.Frag) (A : Ad) : TS :=
  (tSeq (tIfS (tOr (tNot (zTruth K (tCB (rIsi K) (tCons (tVar 0) (tCons (tC (.ty "tuple")) tNil))))) (tOr (tTest (tOp uGt (tCB (zLenA K) (tCons (tVar 0) tNil)) (tC (.int 6)))) (tNot (zTruth K (tCB (rAll K) (tCons (tLc (uIt K (tVar 0)) (gName 1) tYes (tCall (lift K sp_is_path) [] E0 (tCons (tVar 1) tNil)) [1]) tNil)))))) (tRet (tC (.bl false))) tNext)
    (tRet (tCall (lift K sp_rises) [] E0 (tCons (tVar 0) tNil))))
def d_are_olds : DS :=
  (sSeq (sIf (dOr (dNot (dTru (dIsi isD_tuple (dVar 0)))) (dOr (dB (dOp dGt (dCB dLen (aCons (dVar 0) aNil)) (dC (.d (.int 6))))) (dNot (dTru (dCB dAll (aCons (dLc (iAny (dVar 0)) (gN 1) dYes (dCallB sp_is_path (aCons (dVar 1) aNil)) [1]) aNil)))))) (sRet (dC (.d (.bool false)))) sNext)
    (sRet (dCall sp_rises (aCons (argA (dVar 0)) aNil))))
def sp_are_rows : DSp := fun xs k => ∃ (d : PyData), xs = [.d d] ∧ k (.d (.bool (rowsD d))) [.no]
theorem len_are_rows {xs : List SV} {k : SV → List SV → Prop} (h : sp_are_rows xs k) : xs.length = P_are_rows.length := by
  obtain ⟨_, rfl, _⟩ := h
  rfl
def t_are_rows (K : PySem.W.Frag) (A : Ad) : TS :=
  (tRet (tAndT K (tCB (rIsi K) (tCons (tVar 0) (tCons (tC (.ty "tuple")) tNil))) (tAndT K (tOp uLtE (tCB (zLenA K) (tCons (tVar 0) tNil)) (tC (.int 8))) (tCB (rAll K) (tCons (tLc (uIt K (tVar 0)) (gName 1) tYes (tCall (lift K sp_is_line) [] E0 (tCons (tVar 1) tNil)) [1]) tNil)))))
def d_are_rows : DS :=
  (sRet (dAndT (dIsi isD_tuple (dVar 0)) (dAndT (dOp dLtE (dCB dLen (aCons (dVar 0) aNil)) (dC (.d (.int 8)))) (dCB dAll (aCons (dLc (iAny (dVar 0)) (gN 1) dYes (dCall sp_is_line (aCons (argA (dVar 1)) aNil)) [1]) aNil)))))
def sp_first_bad : DSp := fun xs k => ∃ (ds : List PyData), xs = [.d (.tuple ds)] ∧ ds.length = 7 ∧ (∀ x ∈ ds, smallT x = true) ∧ k (.d (badOf partsB ds)) [.no]
theorem len_first_bad {xs : List SV} {k : SV → List SV → Prop} (h : sp_first_bad xs k) : xs.length = P_first_bad.length := by
  obtain ⟨_, rfl, _⟩ := h
  rfl
def tbl_LOOKS (A : Ad) : TblT := [("title", A.f_is_title, sp_is_title), ("day", A.f_is_day, sp_is_day), ("draft", A.f_is_truth, sp_is_truth), ("tags", A.f_are_tags, sp_are_tags), ("under", A.f_is_name, sp_is_name), ("olds", A.f_are_olds, sp_are_olds), ("rows", A.f_are_rows, sp_are_rows)]
def tbd_LOOKS : List (Str × DSp) := [("title", sp_is_title), ("day", sp_is_day), ("draft", sp_is_truth), ("tags", sp_are_tags), ("under", sp_is_name), ("olds", sp_are_olds), ("rows", sp_are_rows)]
theorem nd_LOOKS : keys_LOOKS.Nodup := by decide +kernel
theorem mono_LOOKS {A : Ad} : ∀ z f sp, (z, f, sp) ∈ tbl_LOOKS A → ∀ xs k k', (∀ x ys, k x ys → k' x ys) → sp xs k → sp xs k' := by
  intro z f sp h xs k k' hk
  simp only [tbl_LOOKS, List.mem_cons, List.not_mem_nil, or_false, Prod.mk.injEq] at h
  rcases h with ⟨rfl, rfl, rfl⟩ | ⟨rfl, rfl, rfl⟩ | ⟨rfl, rfl, rfl⟩ | ⟨rfl, rfl, rfl⟩ | ⟨rfl, rfl, rfl⟩ | ⟨rfl, rfl, rfl⟩ | ⟨rfl, rfl, rfl⟩
  all_goals first | (rintro ⟨d, h1, q⟩; exact ⟨d, h1, hk _ _ q⟩) | (rintro ⟨d, h1, h2, q⟩; exact ⟨d, h1, h2, hk _ _ q⟩)
def t_first_bad (K : PySem.W.Frag) (A : Ad) : TS :=
  (tSeq (tFor (iZipS K keys_LOOKS A.a_LOOKS (tCons (tC (.ref A.a_LOOKS)) (tCons (tVar 0) tNil))) (gTup K 2 (gCons (gName 1) (gCons (gName 2) gNil))) (tSeq (tAsg (tOp (rIxD K A.w) (tC (.ref A.a_LOOKS)) (tVar 1)) (gName 3)) (tIfS (tNot (zTruth K (tCallR 3 (tbR K (tbl_LOOKS A)) (tCons (tVar 2) tNil)))) (tRet (tVar 1)) tNext)))
    (tRet (tC .non)))
def d_first_bad : DS :=
  (sSeq (sForW [1, 2, 3] (iZipK keys_LOOKS (dVar 0)) (gT 2 (gsCons (gN 1) (gsCons (gN 2) gsNil))) (dLookB tbd_LOOKS 1 2 3))
    (sRet (dC (.d .none))))
/-- the texts of it and of what lies in it are no giants -/
def smallS (d : PyData) : Bool := smallT d && match d with
  | .tuple ds => ds.all smallT
  | _ => true
def sp_is_source : DSp := fun xs k => ∃ (d : PyData), xs = [.d d] ∧ smallS d = true ∧ k (.d (.bool (sourceD d))) [.no]
theorem len_is_source {xs : List SV} {k : SV → List SV → Prop} (h : sp_is_source xs k) : xs.length = P_is_source.length := by
  obtain ⟨_, rfl, _⟩ := h
  rfl
def t_is_source (K : PySem.W.Frag) (A : Ad) : TS :=
  (tRet (tAndT K (tCB (rIsi K) (tCons (tVar 0) (tCons (tC (.ty "tuple")) tNil))) (tAndT K (tOp (rEqD K) (tCB (zLenA K) (tCons (tVar 0) tNil)) (tCB (zLenC A.a_LOOKS keys_LOOKS.length) (tCons (tC (.ref A.a_LOOKS)) tNil))) (tOp zIsN (tCall (lift K sp_first_bad) [] E0 (tCons (tVar 0) tNil)) (tC .non)))))
def d_is_source : DS :=
  (sRet (dAndT (dIsi isD_tuple (dVar 0)) (dAndT (dOp dEq (dCB dLen (aCons (dVar 0) aNil)) (dC (.d (.int keys_LOOKS.length)))) (dOp dIsN (dCall sp_first_bad (aCons (argA (dVar 0)) aNil)) (dC (.d .none))))))
def t_l_dip (K : PySem.W.Frag) (A : Ad) : TS :=
  (tSeq (tAsg (tIf (tTest (tOp zLt (tVar 1) (tCB (zLenQ K) (tCons (tVar 0) tNil)))) (tOp (rIxL K) (tVar 0) (tVar 1)) (tC (.int 0))) (gName 2))
    (tRet (tLst (tCons (tOp zMul (tCB zAbs (tCons (tVar 2) tNil)) (tCB zInt1 (tCons (tOp zGtE (tCB zAbs (tCons (tVar 2) tNil)) (tOp zPow (tC (.int 10)) (tC (.int 18)))) tNil))) (tCons (tOp zAdd (tOp zAdd (tOp zMod (tVar 2) (tC (.int 2305843009213693951))) (tOp zMul (tC (.int 39373)) (tVar 1))) (tC (.int 17))) (tCons (tC (.int 0)) tNil))))))
def t_l_take (K : PySem.W.Frag) (A : Ad) : TS :=
  (tSeq (tIfS (tTest (tOp zGt (tOp (rIxL K) (tVar 0) (tC (.int 0))) (tC (.int 0)))) (tSeq (tAsg (tOp zMod (tOp (rIxL K) (tVar 0) (tC (.int 0))) (tVar 1)) (gName 2))
    (tSeq (tAsg (tOp zFdv (tOp (rIxL K) (tVar 0) (tC (.int 0))) (tVar 1)) (gSub (tVar 0) (tC (.int 0)) rSetL))
    (tRet (tVar 2)))) tNext)
    (tSeq (tAsg (tOp zAdd (tOp (rIxL K) (tVar 0) (tC (.int 2))) (tC (.int 1))) (gSub (tVar 0) (tC (.int 2)) rSetL))
    (tSeq (tAsg (tOp zMod (tOp zPow (tOp zAdd (tOp (rIxL K) (tVar 0) (tC (.int 1))) (tOp zMul (tC (.int 39373)) (tOp (rIxL K) (tVar 0) (tC (.int 2))))) (tC (.int 5))) (tC (.int 2147483647))) (gName 3))
    (tSeq (tAsg (tOp zMod (tOp zMul (tOp zAdd (tOp zAdd (tVar 3) (tOp (rIxL K) (tVar 0) (tC (.int 2)))) (tOp zFdv (tOp (rIxL K) (tVar 0) (tC (.int 1))) (tC (.int 1000003)))) (tOp zAdd (tOp zAdd (tOp zMod (tVar 3) (tC (.int 40009))) (tC (.int 7))) (tOp (rIxL K) (tVar 0) (tC (.int 2))))) (tC (.int 2147483629))) (gName 4))
    (tRet (tOp zMod (tOp zFdv (tOp zMod (tOp zAdd (tOp zMul (tVar 4) (tC (.int 48271))) (tVar 3)) (tC (.int 2147483587))) (tC (.int 64))) (tVar 1)))))))
def t_l_folded (K : PySem.W.Frag) (A : Ad) : TS :=
  (tSeq (tAsg (tCB (zListOf K) (tCons (tSl (rSlL K) (tVar 0) tNoPart (tPart (tVar 1))) tNil)) (gName 2))
    (tSeq (tFor (iEnum K (tCons (tSl (rSlL K) (tVar 0) (tPart (tVar 1)) (tPart (tC (.int 63)))) tNil)) (gTup K 2 (gCons (gName 3) (gCons (gName 4) gNil))) (tAsg (tOp zAdd (tOp (rIxL K) (tVar 2) (tOp zMod (tVar 3) (tVar 1))) (tOp zMul (tVar 4) (tOp zAdd (tVar 3) (tC (.int 2))))) (gSub (tVar 2) (tOp zMod (tVar 3) (tVar 1)) rSetL)))
    (tRet (tVar 2))))
def drawM : Nat → Nat
  | 0 => 20
  | d + 1 => 20 + 7 * drawM d
def sizeM : Nat → Nat
  | 0 => 40
  | d + 1 => 7 * (sizeM d + 1) + 10
def sp_l_made_n (n : Nat) : DSp := fun xs k => ∃ (c d : Nat), xs = [.par (.box c), .d (.int (d : Int))] ∧ d < n ∧ d ≤ 4 ∧ drawM d ≤ c ∧ ∀ (x : PyData) (c' : Nat), c - drawM d ≤ c' → GoodD x (2 * d + 1) (sizeM d) 60 → k (.d x) [.par (.box c'), .no]
abbrev sp_l_made : DSp := sp_l_made_n 6
theorem len_l_made {n : Nat} {xs : List SV} {k : SV → List SV → Prop} (h : sp_l_made_n n xs k) : xs.length = P_l_made.length := by
  obtain ⟨_, _, rfl, _⟩ := h
  rfl
def t_l_made (n : Nat) (K : PySem.W.Frag) (A : Ad) : TS :=
  (tSeq (tAsg (tCall (lift K sp_l_take) [] E0 (tCons (tVar 0) (tCons (tIf (tTest (tOp uGt (tVar 1) (tC (.int 0)))) (tC (.int 10)) (tC (.int 7))) tNil))) (gName 2))
    (tSeq (tIfS (tTest (tOp uLt (tVar 2) (tC (.int 7)))) (tSeq (tAsg (tLst (tCons (tOp zSub (tCall (lift K sp_l_take) [] E0 (tCons (tVar 0) (tCons (tC (.int 12)) tNil))) (tC (.int 3))) (tCons (tOp zPow (tC (.int 10)) (tC (.int 9))) (tCons (tC (.bl true)) (tCons (tC (.bl false)) (tCons (tC .non) (tCons (tC (.str "")) (tCons (tC (.str "page")) (tCons (tC (.str "a/b")) (tCons (tC (.str "tag")) (tCons (tC (.str "So")) (tCons (tTup tNil) (tCons (tOp (uMul2 K) (tC (.str "a")) (tC (.int 9))) tNil))))))))))))) (gName 3))
    (tRet (tOp (rIx K) (tVar 3) (tCall (lift K sp_l_take) [] E0 (tCons (tVar 0) (tCons (tC (.int 12)) tNil)))))) tNext)
    (tSeq (tAsg (tLc (iRng1 (tCons (tCall (lift K sp_l_take) [] E0 (tCons (tVar 0) (tCons (tC (.int 8)) tNil))) tNil)) (gName 4) tYes (tCall (lift K (sp_l_made_n n)) [] E0 (tCons (tVar 0) (tCons (tOp zSub (tVar 1) (tC (.int 1))) tNil))) [4]) (gName 3))
    (tRet (tOp (rIx K) (tLst (tCons (tVar 3) (tCons (tCB (zTupleOf K) (tCons (tVar 3) tNil)) (tCons (tTup (tCons (tVar 3) (tCons (tC (.str "page")) tNil))) tNil)))) (tOp zSub (tVar 2) (tC (.int 7))))))))
def d_l_made (n : Nat) : DS :=
  (sSeq (sAsg (dCall sp_l_take (aCons (argA (dVar 0)) (aCons (argA (dIf (dB (dOp dGt (dVar 1) (dC (.d (.int 0))))) (dC (.d (.int 10))) (dC (.d (.int 7))))) aNil))) (gN 2))
    (sSeq (sIf (dB (dOp dLt (dVar 2) (dC (.d (.int 7))))) (sSeq (sAsg (dFrz (dLst (vCons (dOp dSub (dCall sp_l_take (aCons (argA (dVar 0)) (aCons (argA (dC (.d (.int 12)))) aNil))) (dC (.d (.int 3)))) (vCons (dOp dPow (dC (.d (.int 10))) (dC (.d (.int 9)))) (vCons (dC (.d (.bool true))) (vCons (dC (.d (.bool false))) (vCons (dC (.d .none)) (vCons (dC (.d (.str ""))) (vCons (dC (.d (.str "page"))) (vCons (dC (.d (.str "a/b"))) (vCons (dC (.d (.str "tag"))) (vCons (dC (.d (.str "So"))) (vCons (dTup vNil) (vCons (dOp dMul2 (dC (.d (.str "a"))) (dC (.d (.int 9)))) vNil)))))))))))))) (gN 3))
    (sRet (dOp dIx (dVar 3) (dCall sp_l_take (aCons (argA (dVar 0)) (aCons (argA (dC (.d (.int 12)))) aNil)))))) sNext)
    (sSeq (sAsg (dFrz (dLc (iR1 (dCall sp_l_take (aCons (argA (dVar 0)) (aCons (argA (dC (.d (.int 8)))) aNil)))) (gN 4) dYes (dCall (sp_l_made_n n) (aCons (argA (dVar 0)) (aCons (argA (dOp dSub (dVar 1) (dC (.d (.int 1))))) aNil))) [4])) (gN 3))
    (sRet (dOp dIx (dLst (vCons (dVar 3) (vCons (dCB dTupleOf (aCons (dVar 3) aNil)) (vCons (dTup (vCons (dVar 3) (vCons (dC (.d (.str "page"))) vNil))) vNil)))) (dOp dSub (dVar 2) (dC (.d (.int 7)))))))))
def withinD (d : PyData) : Nat → PyData
  | 0 => d
  | n + 1 => if n % 2 = 0 then .list [withinD d n] else .tuple [withinD d n]
def sp_l_within : DSp := fun xs k => ∃ (d : PyData) (n : Nat), xs = [.d d, .d (.int (n : Int))] ∧ n ≤ 20 ∧ k (.d (withinD d n)) [.no, .no]
theorem len_l_within {xs : List SV} {k : SV → List SV → Prop} (h : sp_l_within xs k) : xs.length = P_l_within.length := by
  obtain ⟨_, _, rfl, _⟩ := h
  rfl
def t_l_within (K : PySem.W.Frag) (A : Ad) : TS :=
  (tSeq (tFor (iRng1 (tCons (tVar 1) tNil)) (gName 2) (tAsg (tIf (tTest (tOp (rEqD K) (tOp zMod (tVar 2) (tC (.int 2))) (tC (.int 0)))) (tLst (tCons (tVar 0) tNil)) (tTup (tCons (tVar 0) tNil))) (gName 0)))
    (tRet (tVar 0)))
def d_l_within : DS :=
  (sSeq (sForW [2] (iR1 (dVar 1)) (gN 2) (sAsg (dFrz (dIf (dB (dOp dEq (dOp dMod (dVar 2) (dC (.d (.int 2)))) (dC (.d (.int 0))))) (dLst (vCons (dVar 0) vNil)) (dTup (vCons (dVar 0) vNil)))) (gN 0)))
    (sRet (dVar 0)))
def sp_l_is_one : DSp := fun xs k => ∃ (d : PyData), xs = [.d d] ∧ k (.d (.bool (nameD d))) [.no]
theorem len_l_is_one {xs : List SV} {k : SV → List SV → Prop} (h : sp_l_is_one xs k) : xs.length = P_l_is_one.length := by
  obtain ⟨_, rfl, _⟩ := h
  rfl
def t_l_is_one (K : PySem.W.Frag) (A : Ad) : TS :=
  (tRet (tAndT K (tCB (rIsi K) (tCons (tVar 0) (tCons (tC (.ty "str")) tNil))) (tAndT K (tChain uLt uLt (tC (.int 0)) (tCB (zLenA K) (tCons (tVar 0) tNil)) (tC (.int 9))) (tCB (rAll K) (tCons (tLc (uIt K (tVar 0)) (gName 1) tYes (tChain uLtE uLtE (tC (.str "a")) (tVar 1) (tC (.str "z"))) [1]) tNil)))))
def d_l_is_one : DS :=
  (sRet (dAndT (dIsi isD_str (dVar 0)) (dAndT (dChain dLt dLt (dC (.d (.int 0))) (dCB dLen (aCons (dVar 0) aNil)) (dC (.d (.int 9)))) (dCB dAll (aCons (dLc (iAny (dVar 0)) (gN 1) dYes (dChain dLtE dLtE (dC (.d (.str "a"))) (dVar 1) (dC (.d (.str "z")))) [1]) aNil)))))
def sp_l_is_way : DSp := fun xs k => ∃ (d : PyData), xs = [.d d] ∧ smallD d = true ∧ k (.d (.bool (pathD d))) [.no]
theorem len_l_is_way {xs : List SV} {k : SV → List SV → Prop} (h : sp_l_is_way xs k) : xs.length = P_l_is_way.length := by
  obtain ⟨_, rfl, _⟩ := h
  rfl
def t_l_is_way (K : PySem.W.Frag) (A : Ad) : TS :=
  (tSeq (tIfS (tNot (zTruth K (tCB (rIsi K) (tCons (tVar 0) (tCons (tC (.ty "str")) tNil))))) (tRet (tC (.bl false))) tNext)
    (tSeq (tAsg (tM1 zSplit (tVar 0) (tC (.str "/"))) (gName 1))
    (tRet (tAndT K (tOp uLt (tCB (zLenA K) (tCons (tVar 1) tNil)) (tC (.int 4))) (tAndT K (tOp (rNeD K) (tOp (rIx K) (tVar 1) (tC (.int 0))) (tC (.str "tag"))) (tCB (rAll K) (tCons (tLc (uIt K (tVar 1)) (gName 2) tYes (tCall (lift K sp_l_is_one) [] E0 (tCons (tVar 2) tNil)) [2]) tNil)))))))
def d_l_is_way : DS :=
  (sSeq (sIf (dNot (dTru (dIsi isD_str (dVar 0)))) (sRet (dC (.d (.bool false)))) sNext)
    (sSeq (sAsg (dM1 dSplit (dVar 0) (dC (.d (.str "/")))) (gN 1))
    (sRet (dAndT (dOp dLt (dCB dLen (aCons (dVar 1) aNil)) (dC (.d (.int 4)))) (dAndT (dOp dNe (dOp dIx (dVar 1) (dC (.d (.int 0)))) (dC (.d (.str "tag")))) (dCB dAll (aCons (dLc (iAny (dVar 1)) (gN 2) dYes (dCallB sp_l_is_one (aCons (dVar 2) aNil)) [2]) aNil)))))))
def sp_l_is_bare : DSp := fun xs k => ∃ (d : PyData), xs = [.d d] ∧ smallS d = true ∧ k (.d (.bool (sourceD d))) [.no]
theorem len_l_is_bare {xs : List SV} {k : SV → List SV → Prop} (h : sp_l_is_bare xs k) : xs.length = P_l_is_bare.length := by
  obtain ⟨_, rfl, _⟩ := h
  rfl
def t_l_is_bare (K : PySem.W.Frag) (A : Ad) : TS :=
  (tSeq (tIfS (tOr (tNot (zTruth K (tCB (rIsi K) (tCons (tVar 0) (tCons (tC (.ty "tuple")) tNil))))) (tOr (tTest (tOp (rNeD K) (tCB (zLenA K) (tCons (tVar 0) tNil)) (tC (.int 7)))) (tOr (tNot (zTruth K (tCB (rIsi K) (tCons (tOp (rIx K) (tVar 0) (tC (.int 0))) (tCons (tC (.ty "str")) tNil))))) (tNot (tTest (tChain uLt uLt (tC (.int 0)) (tCB (zLenA K) (tCons (tOp (rIx K) (tVar 0) (tC (.int 0))) tNil)) (tC (.int 41)))))))) (tRet (tC (.bl false))) tNext)
    (tSeq (tIfS (tOr (tTest (tOp (rNeD K) (tM1 zStripC (tOp (rIx K) (tVar 0) (tC (.int 0))) (tC (.str " "))) (tOp (rIx K) (tVar 0) (tC (.int 0))))) (tOr (tTest (tOp (uIn K) (tC (.str "\n")) (tOp (rIx K) (tVar 0) (tC (.int 0))))) (tOr (tNot (zTruth K (tCB (rIsi K) (tCons (tOp (rIx K) (tVar 0) (tC (.int 1))) (tCons (tC (.ty "int")) tNil))))) (zTruth K (tCB (rIsi K) (tCons (tOp (rIx K) (tVar 0) (tC (.int 1))) (tCons (tC (.ty "bool")) tNil))))))) (tRet (tC (.bl false))) tNext)
    (tSeq (tIfS (tOr (tNot (tTest (tChain uLtE uLtE (tC (.int 0)) (tOp (rIx K) (tVar 0) (tC (.int 1))) (tC (.int 999))))) (tOr (tNot (zTruth K (tCB (rIsi K) (tCons (tOp (rIx K) (tVar 0) (tC (.int 2))) (tCons (tC (.ty "bool")) tNil))))) (tNot (zTruth K (tCall (lift K sp_l_is_one) [] E0 (tCons (tOp (rIx K) (tVar 0) (tC (.int 4))) tNil)))))) (tRet (tC (.bl false))) tNext)
    (tSeq (tIfS (tOr (tNot (zTruth K (tCB (rAll K) (tCons (tLc (uIt K (tTup (tCons (tC (.int 3)) (tCons (tC (.int 5)) (tCons (tC (.int 6)) tNil))))) (gName 2) tYes (tCB (rIsi K) (tCons (tOp (rIx K) (tVar 0) (tVar 2)) (tCons (tC (.ty "tuple")) tNil))) [2]) tNil)))) (tOr (tTest (tOp uGt (tCB (zLenA K) (tCons (tOp (rIx K) (tVar 0) (tC (.int 3))) tNil)) (tC (.int 3)))) (tOr (tTest (tOp uGt (tCB (zLenA K) (tCons (tOp (rIx K) (tVar 0) (tC (.int 5))) tNil)) (tC (.int 6)))) (tTest (tOp uGt (tCB (zLenA K) (tCons (tOp (rIx K) (tVar 0) (tC (.int 6))) tNil)) (tC (.int 8))))))) (tRet (tC (.bl false))) tNext)
    (tSeq (tIfS (tOr (tNot (zTruth K (tCB (rAll K) (tCons (tLc (uIt K (tOp (rIx K) (tVar 0) (tC (.int 3)))) (gName 1) tYes (tCall (lift K sp_l_is_one) [] E0 (tCons (tVar 1) tNil)) [1]) tNil)))) (tNot (zTruth K (tCB (rAll K) (tCons (tLc (uIt K (tOp (rIx K) (tVar 0) (tC (.int 5)))) (gName 1) tYes (tCall (lift K sp_l_is_way) [] E0 (tCons (tVar 1) tNil)) [1]) tNil))))) (tRet (tC (.bl false))) tNext)
    (tSeq (tIfS (tOr (tTest (tOp (rNeD K) (tCB (zSortSet K) (tCons (tOp (rIx K) (tVar 0) (tC (.int 3))) tNil)) (tCB (zListOf K) (tCons (tOp (rIx K) (tVar 0) (tC (.int 3))) tNil)))) (tTest (tOp (rNeD K) (tCB (zSortSet K) (tCons (tOp (rIx K) (tVar 0) (tC (.int 5))) tNil)) (tCB (zListOf K) (tCons (tOp (rIx K) (tVar 0) (tC (.int 5))) tNil))))) (tRet (tC (.bl false))) tNext)
    (tRet (tCB (rAll K) (tCons (tLc (uIt K (tOp (rIx K) (tVar 0) (tC (.int 6)))) (gName 1) tYes (tAndT K (tCB (rIsi K) (tCons (tVar 1) (tCons (tC (.ty "str")) tNil))) (tAndT K (tOp uLt (tCB (zLenA K) (tCons (tVar 1) tNil)) (tC (.int 51))) (tOp (uNotIn K) (tC (.str "\n")) (tVar 1)))) [1]) tNil)))))))))
def d_l_is_bare : DS :=
  (sSeq (sIf (dOr (dNot (dTru (dIsi isD_tuple (dVar 0)))) (dOr (dB (dOp dNe (dCB dLen (aCons (dVar 0) aNil)) (dC (.d (.int 7))))) (dOr (dNot (dTru (dIsi isD_str (dOp dIx (dVar 0) (dC (.d (.int 0))))))) (dNot (dB (dChain dLt dLt (dC (.d (.int 0))) (dCB dLen (aCons (dOp dIx (dVar 0) (dC (.d (.int 0)))) aNil)) (dC (.d (.int 41))))))))) (sRet (dC (.d (.bool false)))) sNext)
    (sSeq (sIf (dOr (dB (dOp dNe (dM1 dStripC (dOp dIx (dVar 0) (dC (.d (.int 0)))) (dC (.d (.str " ")))) (dOp dIx (dVar 0) (dC (.d (.int 0)))))) (dOr (dB (dOp dIn (dC (.d (.str "\n"))) (dOp dIx (dVar 0) (dC (.d (.int 0)))))) (dOr (dNot (dTru (dIsi isD_int (dOp dIx (dVar 0) (dC (.d (.int 1))))))) (dTru (dIsi isD_bool (dOp dIx (dVar 0) (dC (.d (.int 1))))))))) (sRet (dC (.d (.bool false)))) sNext)
    (sSeq (sIf (dOr (dNot (dB (dChain dLtE dLtE (dC (.d (.int 0))) (dOp dIx (dVar 0) (dC (.d (.int 1)))) (dC (.d (.int 999)))))) (dOr (dNot (dTru (dIsi isD_bool (dOp dIx (dVar 0) (dC (.d (.int 2))))))) (dNot (dTru (dCallB sp_l_is_one (aCons (dOp dIx (dVar 0) (dC (.d (.int 4)))) aNil)))))) (sRet (dC (.d (.bool false)))) sNext)
    (sSeq (sIf (dOr (dNot (dTru (dCB dAll (aCons (dLc (iAny (dTup (vCons (dC (.d (.int 3))) (vCons (dC (.d (.int 5))) (vCons (dC (.d (.int 6))) vNil))))) (gN 2) dYes (dIsi isD_tuple (dOp dIx (dVar 0) (dVar 2))) [2]) aNil)))) (dOr (dB (dOp dGt (dCB dLen (aCons (dOp dIx (dVar 0) (dC (.d (.int 3)))) aNil)) (dC (.d (.int 3))))) (dOr (dB (dOp dGt (dCB dLen (aCons (dOp dIx (dVar 0) (dC (.d (.int 5)))) aNil)) (dC (.d (.int 6))))) (dB (dOp dGt (dCB dLen (aCons (dOp dIx (dVar 0) (dC (.d (.int 6)))) aNil)) (dC (.d (.int 8)))))))) (sRet (dC (.d (.bool false)))) sNext)
    (sSeq (sIf (dOr (dNot (dTru (dCB dAll (aCons (dLc (iAny (dOp dIx (dVar 0) (dC (.d (.int 3))))) (gN 1) dYes (dCallB sp_l_is_one (aCons (dVar 1) aNil)) [1]) aNil)))) (dNot (dTru (dCB dAll (aCons (dLc (iAny (dOp dIx (dVar 0) (dC (.d (.int 5))))) (gN 1) dYes (dCallB sp_l_is_way (aCons (dVar 1) aNil)) [1]) aNil))))) (sRet (dC (.d (.bool false)))) sNext)
    (sSeq (sIf (dOr (dB (dOp dNe (dCB dSortSet (aCons (dOp dIx (dVar 0) (dC (.d (.int 3)))) aNil)) (dCB dListOf (aCons (dOp dIx (dVar 0) (dC (.d (.int 3)))) aNil)))) (dB (dOp dNe (dCB dSortSet (aCons (dOp dIx (dVar 0) (dC (.d (.int 5)))) aNil)) (dCB dListOf (aCons (dOp dIx (dVar 0) (dC (.d (.int 5)))) aNil))))) (sRet (dC (.d (.bool false)))) sNext)
    (sRet (dCB dAll (aCons (dLc (iAny (dOp dIx (dVar 0) (dC (.d (.int 6))))) (gN 1) dYes (dAndT (dIsi isD_str (dVar 1)) (dAndT (dOp dLt (dCB dLen (aCons (dVar 1) aNil)) (dC (.d (.int 51)))) (dOp dNotIn (dC (.d (.str "\n"))) (dVar 1)))) [1]) aNil)))))))))
/-- a thing that repr shows -/
def okR (d : PyData) : Prop := PyData.showable d = true ∧ PyData.depth d ≤ 60 ∧ (PyData.shown d).length ≤ sizeLine
def sp_l_right : DSp := fun xs k => ∃ (d : PyData), xs = [.d d] ∧ (wfD d = true → okR d) ∧ smallS d = true ∧ k (.d (.bool true)) [.no]
theorem len_l_right {xs : List SV} {k : SV → List SV → Prop} (h : sp_l_right xs k) : xs.length = P_l_right.length := by
  obtain ⟨_, rfl, _⟩ := h
  rfl
def t_l_right (K : PySem.W.Frag) (A : Ad) : TS :=
  (tSeq (tPar 1 2 (tCons (tCB (zReprA K) (tCons (tVar 0) tNil)) (tCons (tLst (tCons (tCall (lift K sp_l_is_one) [] E0 (tCons (tVar 0) tNil)) (tCons (tCall (lift K sp_l_is_way) [] E0 (tCons (tVar 0) tNil)) (tCons (tCall (lift K sp_l_is_bare) [] E0 (tCons (tVar 0) tNil)) tNil)))) tNil)))
    (tSeq (tAsg (tLst (tCons (tCall (lift K sp_is_name) [] E0 (tCons (tVar 0) tNil)) (tCons (tCall (lift K sp_is_path) [] E0 (tCons (tVar 0) tNil)) (tCons (tCall (lift K sp_is_source) [] E0 (tCons (tVar 0) tNil)) tNil)))) (gName 3))
    (tSeq (tAsg (tLst (tCons (tCallK (lift K sp_is_name) (fun vs zs => vs ++ zs) E0 tNil (tCons (tVar 0) tNil)) (tCons (tCallK (lift K sp_is_path) (fun vs zs => vs ++ zs) E0 tNil (tCons (tVar 0) tNil)) (tCons (tCallK (lift K sp_is_source) (fun vs zs => vs ++ zs) E0 tNil (tCons (tVar 0) tNil)) tNil)))) (gName 4))
    (tRet (tAndT K (tOp (rEqD K) (tCB (zReprA K) (tCons (tLst (tCons (tVar 3) (tCons (tVar 4) tNil))) tNil)) (tCB (zReprA K) (tCons (tLst (tCons (tVar 2) (tCons (tVar 2) tNil))) tNil))) (tOp (rEqD K) (tCB (zReprA K) (tCons (tVar 0) tNil)) (tVar 1)))))))
def d_l_right : DS :=
  (sSeq (sPar 1 2 (aCons (argN (dCB dReprA (aCons (dVar 0) aNil))) (aCons (argN (dLst (vCons (dCallB sp_l_is_one (aCons (dVar 0) aNil)) (vCons (dCallB sp_l_is_way (aCons (dVar 0) aNil)) (vCons (dCallB sp_l_is_bare (aCons (dVar 0) aNil)) vNil))))) aNil)))
    (sSeq (sAsg (dLst (vCons (dCallB sp_is_name (aCons (dVar 0) aNil)) (vCons (dCallB sp_is_path (aCons (dVar 0) aNil)) (vCons (dCallB sp_is_source (aCons (dVar 0) aNil)) vNil)))) (gN 3))
    (sSeq (sAsg (dLst (vCons (dCallB sp_is_name (aCons (dVar 0) aNil)) (vCons (dCallB sp_is_path (aCons (dVar 0) aNil)) (vCons (dCallB sp_is_source (aCons (dVar 0) aNil)) vNil)))) (gN 4))
    (sRet (dAndT (dOp dEq (dCB dReprA (aCons (dLst (vCons (dVar 3) (vCons (dVar 4) vNil))) aNil)) (dCB dReprA (aCons (dLst (vCons (dVar 2) (vCons (dVar 2) vNil))) aNil))) (dOp dEq (dCB dReprA (aCons (dVar 0) aNil)) (dVar 1)))))))
def t_law1 (K : PySem.W.Frag) (A : Ad) : TS := (tAsg (tCall (sp_l_folded K) [] E0 (tCons (tVar 0) (tCons (tC (.int 4)) tNil))) (gName 1))
def t_law2 (K : PySem.W.Frag) (A : Ad) : TS :=
  (tSeq (tAsg (tLst (tCons (tC (.int 0)) (tCons (tC (.int 1)) (tCons (tUn zNeg (tC (.int 1))) (tCons (tC (.bl true)) (tCons (tC (.bl false)) (tCons (tC .non) (tCons (tC (.str "")) (tCons (tTup tNil) (tCons (tLst tNil) (tCons (tC (.str "page")) (tCons (tLst (tCons (tC (.str "page")) tNil)) (tCons (tTup (tCons (tC (.str "page")) tNil)) (tCons (tC (.str "a/b")) (tCons (tTup (tCons (tC (.str "a")) (tCons (tC (.str "b")) tNil))) (tCons (tC (.str "tag")) (tCons (tOp zPow (tC (.int 10)) (tC (.int 30))) tNil))))))))))))))))) (gName 2))
    (tSeq (tAsg (tTup (tCons (tC (.str "So")) (tCons (tC (.int 0)) (tCons (tC (.bl false)) (tCons (tTup tNil) (tCons (tC (.str "page")) (tCons (tTup tNil) (tCons (tTup tNil) tNil)))))))) (gName 3))
    (tSeq (tAsg (tOp (uAdd K) (tVar 2) (tLst (tCons (tVar 3) (tCons (tCB (zListOf K) (tCons (tVar 3) tNil)) (tCons (tSl (uSl K) (tVar 3) tNoPart (tPart (tC (.int 6)))) (tCons (tOp (uAdd K) (tVar 3) (tTup (tCons (tTup tNil) tNil))) (tCons (tCall (lift K sp_l_within) [] E0 (tCons (tC (.str "page")) (tCons (tC (.int 11)) tNil))) (tCons (tCall (lift K sp_l_within) [] E0 (tCons (tVar 3) (tCons (tC (.int 9)) tNil))) tNil)))))))) (gName 2))
    (tSeq (tAsg (tOp (uAdd K) (tVar 2) (tLst (tCons (tTup (tCons (tC (.str "So")) (tCons (tC (.int 0)) (tCons (tC (.bl false)) (tCons (tTup tNil) (tCons (tC (.str "page")) (tCons (tTup tNil) (tCons (tTup (tCons (tC .non) tNil)) tNil)))))))) (tCons (tTup (tCons (tC (.str "So")) (tCons (tC (.int 0)) (tCons (tC (.int 0)) (tCons (tTup tNil) (tCons (tC (.str "page")) (tCons (tTup tNil) (tCons (tTup tNil) tNil)))))))) (tCons (tOp (uAdd K) (tTup (tCons (tC (.str "So")) tNil)) (tOp (uMul2 K) (tTup (tCons (tC .non) tNil)) (tC (.int 6)))) tNil))))) (gName 2))
    (tSeq (tIfS (tNot (zTruth K (tCB (rAll K) (tCons (tLc (uIt K (tVar 2)) (gName 7) tYes (tCall (lift K sp_l_right) [] E0 (tCons (tVar 7) tNil)) [7]) tNil)))) (tRet (tC (.bl false))) tNext)
    (tSeq (tFor (iRng1 (tCons (tOp (uAdd K) (tC (.int 1)) (tCB (zLenA K) (tCons (tVar 1) tNil))) tNil)) (gName 4) (tSeq (tAsg (tCall (lift K sp_l_dip) [] E0 (tCons (tVar 1) (tCons (tVar 4) tNil))) (gName 5))
    (tFor (iRng1 (tCons (tC (.int 40)) tNil)) (gName 6) (tIfS (tNot (zTruth K (tCall (lift K sp_l_right) [] E0 (tCons (tCall (lift K sp_l_made) [] E0 (tCons (tVar 5) (tCons (tOp (uAdd K) (tC (.int 1)) (tCall (lift K sp_l_take) [] E0 (tCons (tVar 5) (tCons (tC (.int 4)) tNil)))) tNil))) tNil)))) (tRet (tC (.bl false))) tNext))))
    (tRet (tC (.bl true)))))))))
def t_law (K : PySem.W.Frag) (A : Ad) : TS := tSeq (t_law1 K A) (t_law2 K A)
def d_law : DS :=
  (sSeq (sAsg (dLst (vCons (dC (.d (.int 0))) (vCons (dC (.d (.int 1))) (vCons (dUn dNeg (dC (.d (.int 1)))) (vCons (dC (.d (.bool true))) (vCons (dC (.d (.bool false))) (vCons (dC (.d .none)) (vCons (dC (.d (.str ""))) (vCons (dTup vNil) (vCons (dLst vNil) (vCons (dC (.d (.str "page"))) (vCons (dLst (vCons (dC (.d (.str "page"))) vNil)) (vCons (dTup (vCons (dC (.d (.str "page"))) vNil)) (vCons (dC (.d (.str "a/b"))) (vCons (dTup (vCons (dC (.d (.str "a"))) (vCons (dC (.d (.str "b"))) vNil))) (vCons (dC (.d (.str "tag"))) (vCons (dOp dPow (dC (.d (.int 10))) (dC (.d (.int 30)))) vNil))))))))))))))))) (gN 2))
    (sSeq (sAsg (dTup (vCons (dC (.d (.str "So"))) (vCons (dC (.d (.int 0))) (vCons (dC (.d (.bool false))) (vCons (dTup vNil) (vCons (dC (.d (.str "page"))) (vCons (dTup vNil) (vCons (dTup vNil) vNil)))))))) (gN 3))
    (sSeq (sAsg (dOp dAdd (dVar 2) (dLst (vCons (dVar 3) (vCons (dCB dListOf (aCons (dVar 3) aNil)) (vCons (dSl (dVar 3) oNone (oSome (dC (.d (.int 6))))) (vCons (dOp dAdd (dVar 3) (dTup (vCons (dTup vNil) vNil))) (vCons (dCall sp_l_within (aCons (argA (dC (.d (.str "page")))) (aCons (argA (dC (.d (.int 11)))) aNil))) (vCons (dCall sp_l_within (aCons (argA (dVar 3)) (aCons (argA (dC (.d (.int 9)))) aNil))) vNil)))))))) (gN 2))
    (sSeq (sAsg (dOp dAdd (dVar 2) (dLst (vCons (dTup (vCons (dC (.d (.str "So"))) (vCons (dC (.d (.int 0))) (vCons (dC (.d (.bool false))) (vCons (dTup vNil) (vCons (dC (.d (.str "page"))) (vCons (dTup vNil) (vCons (dTup (vCons (dC (.d .none)) vNil)) vNil)))))))) (vCons (dTup (vCons (dC (.d (.str "So"))) (vCons (dC (.d (.int 0))) (vCons (dC (.d (.int 0))) (vCons (dTup vNil) (vCons (dC (.d (.str "page"))) (vCons (dTup vNil) (vCons (dTup vNil) vNil)))))))) (vCons (dOp dAdd (dTup (vCons (dC (.d (.str "So"))) vNil)) (dOp dMul2 (dTup (vCons (dC (.d .none)) vNil)) (dC (.d (.int 6))))) vNil))))) (gN 2))
    (sSeq (sIf (dNot (dTru (dCB dAll (aCons (dLc (iAny (dVar 2)) (gN 7) dYes (dCall sp_l_right (aCons (argA (dVar 7)) aNil)) [7]) aNil)))) (sRet (dC (.d (.bool false)))) sNext)
    (sSeq (sForW [2, 3, 4, 5, 6] (iR1 (dOp dAdd (dC (.d (.int 1))) (dCB dLen (aCons (dVar 1) aNil)))) (gN 4) (sSeq (sAsg (dCall sp_l_dip (aCons (argA (dVar 1)) (aCons (argA (dVar 4)) aNil))) (gN 5))
    (sForW [2, 3, 4, 6] (iR1 (dC (.d (.int 40)))) (gN 6) (sIf (dNot (dTru (dCall sp_l_right (aCons (argA (dCall sp_l_made (aCons (argA (dVar 5)) (aCons (argA (dOp dAdd (dC (.d (.int 1))) (dCall sp_l_take (aCons (argA (dVar 5)) (aCons (argA (dC (.d (.int 4)))) aNil))))) aNil)))) aNil)))) (sRet (dC (.d (.bool false)))) sNext))))
    (sRet (dC (.d (.bool true))))))))))
end K04

namespace K04
open PySem PySem.Spec PyProof.Rows L2 DL TL CwR
section
variable {K : PySem.W.Frag} {mg : Str → Option Value} {A : Ad}
theorem sim_is_name (T : Top K mg A) : SimS K (t_is_name K A) (d_is_name) :=
  (sim_seq (sim_ifs (sim_or (sim_not (sim_tru (sim_isi isI_str (sim_var 0)))) (sim_not (sim_test (sim_chain sr_le sr_le (sim_int 1) (sim_cb sr_len (sim_acons (sim_var 0) sim_anil)) (sim_int 8))))) (sim_ret (sim_bl false)) sim_next)
    (sim_ret (sim_cb sr_all (sim_acons (sim_lc (sim_iany (sim_var 0)) (gc_name 1) sim_yes (sim_op sr_in (sim_var 1) (sim_str "abcdefghijklmnopqrstuvwxyz" (by decide +kernel)))) sim_anil))))
theorem sim_is_path (T : Top K mg A) : SimS K (t_is_path K A) (d_is_path) :=
  (sim_seq (sim_ifs (sim_not (sim_tru (sim_isi isI_str (sim_var 0)))) (sim_ret (sim_bl false)) sim_next)
    (sim_seq (sim_asg (sim_m1 sr_split (sim_var 0) (sim_str "/" (by decide +kernel))) (sim_gStar1 1 2))
    (sim_ret (sim_andT (sim_op sr_lt (sim_cb sr_len (sim_acons (sim_var 2) sim_anil)) (sim_int 3)) (sim_andT (sim_op sr_ne (sim_var 1) (sim_str "tag" (by decide +kernel))) (sim_cb sr_all (sim_acons (sim_lc (sim_iany (sim_op sr_add (sim_lst (sim_vcons (sim_var 1) sim_vnil)) (sim_var 2))) (gc_name 3) sim_yes (sim_callB (sim_acons (sim_var 3) sim_anil))) sim_anil)))))))
theorem sim_is_number (T : Top K mg A) : SimS K (t_is_number K A) (d_is_number) :=
  (sim_ret (sim_andT (sim_isi isI_int (sim_var 0)) (sim_andT (sim_notT (sim_isi isI_bool (sim_var 0))) (sim_chain sr_le sr_le (sim_var 1) (sim_var 0) (sim_var 2)))))
theorem sim_is_day (T : Top K mg A) : SimS K (t_is_day K A) (d_is_day) :=
  (sim_ret (sim_call (sim_xcons (sim_argA (sim_var 0)) (sim_xcons (sim_argA (sim_int 0)) (sim_xcons (sim_argA (sim_int 999)) sim_xnil)))))
theorem sim_is_title (T : Top K mg A) : SimS K (t_is_title K A) (d_is_title) :=
  (sim_seq (sim_ifs (sim_or (sim_not (sim_tru (sim_isi isI_str (sim_var 0)))) (sim_or (sim_not (sim_test (sim_chain sr_le sr_le (sim_int 1) (sim_cb sr_len (sim_acons (sim_var 0) sim_anil)) (sim_int 40)))) (sim_test (sim_op sr_in (sim_str "\n" (by decide +kernel)) (sim_var 0))))) (sim_ret (sim_bl false)) sim_next)
    (sim_ret (sim_andT (sim_op sr_ne (sim_op sr_ix (sim_var 0) (sim_int 0)) (sim_str " " (by decide +kernel))) (sim_op sr_ne (sim_op sr_ix (sim_var 0) (sim_un sr_neg (sim_int 1))) (sim_str " " (by decide +kernel))))))
theorem sim_is_truth (T : Top K mg A) : SimS K (t_is_truth K A) (d_is_truth) :=
  (sim_ret (sim_isi isI_bool (sim_var 0)))
theorem sim_is_line (T : Top K mg A) : SimS K (t_is_line K A) (d_is_line) :=
  (sim_ret (sim_andT (sim_isi isI_str (sim_var 0)) (sim_andT (sim_op sr_le (sim_cb sr_len (sim_acons (sim_var 0) sim_anil)) (sim_int 50)) (sim_op sr_notIn (sim_str "\n" (by decide +kernel)) (sim_var 0)))))
theorem sim_rises (T : Top K mg A) : SimS K (t_rises K A) (d_rises) :=
  (sim_ret (sim_cb sr_all (sim_acons (sim_lc (sim_zip (sim_var 0) (sim_sl (sim_var 0) (sim_osome (sim_int 1)) sim_onone)) (gc_tup (gc_cons 1 (gc_cons 2 gc_nil))) sim_yes (sim_op sr_lt (sim_var 1) (sim_var 2))) sim_anil)))
theorem sim_are_tags (T : Top K mg A) : SimS K (t_are_tags K A) (d_are_tags) :=
  (sim_seq (sim_ifs (sim_or (sim_not (sim_tru (sim_isi isI_tuple (sim_var 0)))) (sim_or (sim_test (sim_op sr_gt (sim_cb sr_len (sim_acons (sim_var 0) sim_anil)) (sim_int 3))) (sim_not (sim_tru (sim_cb sr_all (sim_acons (sim_lc (sim_iany (sim_var 0)) (gc_name 1) sim_yes (sim_callB (sim_acons (sim_var 1) sim_anil))) sim_anil)))))) (sim_ret (sim_bl false)) sim_next)
    (sim_ret (sim_call (sim_xcons (sim_argA (sim_var 0)) sim_xnil))))
theorem sim_are_olds (T : Top K mg A) : SimS K (t_are_olds K A) (d_are_olds) :=
  (sim_seq (sim_ifs (sim_or (sim_not (sim_tru (sim_isi isI_tuple (sim_var 0)))) (sim_or (sim_test (sim_op sr_gt (sim_cb sr_len (sim_acons (sim_var 0) sim_anil)) (sim_int 6))) (sim_not (sim_tru (sim_cb sr_all (sim_acons (sim_lc (sim_iany (sim_var 0)) (gc_name 1) sim_yes (sim_callB (sim_acons (sim_var 1) sim_anil))) sim_anil)))))) (sim_ret (sim_bl false)) sim_next)
    (sim_ret (sim_call (sim_xcons (sim_argA (sim_var 0)) sim_xnil))))
theorem sim_are_rows (T : Top K mg A) : SimS K (t_are_rows K A) (d_are_rows) :=
  (sim_ret (sim_andT (sim_isi isI_tuple (sim_var 0)) (sim_andT (sim_op sr_le (sim_cb sr_len (sim_acons (sim_var 0) sim_anil)) (sim_int 8)) (sim_cb sr_all (sim_acons (sim_lc (sim_iany (sim_var 0)) (gc_name 1) sim_yes (sim_call (sim_xcons (sim_argA (sim_var 1)) sim_xnil))) sim_anil)))))
theorem sim_first_bad (T : Top K mg A) : SimS K (t_first_bad K A) (d_first_bad) :=
  (sim_seq (sim_forW [1, 2, 3] (sim_zipS (by decide +kernel) (sim_var 0)) (sim_gT (sim_gscons (sim_gN 1) (sim_gscons (sim_gN 2) sim_gsnil))) (sim_lookB (tb := tbl_LOOKS A) T.fd_LOOKS nd_LOOKS T.lit_LOOKS mono_LOOKS (by decide) (by decide)))
    (sim_ret sim_non))
theorem sim_is_source (T : Top K mg A) : SimS K (t_is_source K A) (d_is_source) :=
  (sim_ret (sim_andT (sim_isi isI_tuple (sim_var 0)) (sim_andT (sim_op sr_eq (sim_cb sr_len (sim_acons (sim_var 0) sim_anil)) sim_lenK) (sim_op sr_isN (sim_call (sim_xcons (sim_argA (sim_var 0)) sim_xnil)) sim_non))))
theorem sim_l_made (n : Nat) (T : Top K mg A) : SimS K (t_l_made n K A) (d_l_made n) :=
  (sim_seq (sim_asg (sim_call (sim_xcons (sim_argA (sim_var 0)) (sim_xcons (sim_argA (sim_if (sim_test (sim_op sr_gt (sim_var 1) (sim_int 0))) (sim_int 10) (sim_int 7))) sim_xnil))) (sim_gN 2))
    (sim_seq (sim_ifs (sim_test (sim_op sr_lt (sim_var 2) (sim_int 7))) (sim_seq (sim_asg (sim_frz (sim_lst (sim_vcons (sim_op sr_sub (sim_call (sim_xcons (sim_argA (sim_var 0)) (sim_xcons (sim_argA (sim_int 12)) sim_xnil))) (sim_int 3)) (sim_vcons (sim_op sr_pow (sim_int 10) (sim_int 9)) (sim_vcons (sim_bl true) (sim_vcons (sim_bl false) (sim_vcons sim_non (sim_vcons (sim_str "" (by decide +kernel)) (sim_vcons (sim_str "page" (by decide +kernel)) (sim_vcons (sim_str "a/b" (by decide +kernel)) (sim_vcons (sim_str "tag" (by decide +kernel)) (sim_vcons (sim_str "So" (by decide +kernel)) (sim_vcons (sim_tup sim_vnil) (sim_vcons (sim_op sr_mul2 (sim_str "a" (by decide +kernel)) (sim_int 9)) sim_vnil)))))))))))))) (sim_gN 3))
    (sim_ret (sim_op sr_ix (sim_var 3) (sim_call (sim_xcons (sim_argA (sim_var 0)) (sim_xcons (sim_argA (sim_int 12)) sim_xnil)))))) sim_next)
    (sim_seq (sim_asg (sim_frz (sim_lc (sim_r1 (sim_call (sim_xcons (sim_argA (sim_var 0)) (sim_xcons (sim_argA (sim_int 8)) sim_xnil)))) (gc_name 4) sim_yes (sim_call (sim_xcons (sim_argA (sim_var 0)) (sim_xcons (sim_argA (sim_op sr_sub (sim_var 1) (sim_int 1))) sim_xnil))))) (sim_gN 3))
    (sim_ret (sim_op sr_ix (sim_lst (sim_vcons (sim_var 3) (sim_vcons (sim_cb sr_tupleOf (sim_acons (sim_var 3) sim_anil)) (sim_vcons (sim_tup (sim_vcons (sim_var 3) (sim_vcons (sim_str "page" (by decide +kernel)) sim_vnil))) sim_vnil)))) (sim_op sr_sub (sim_var 2) (sim_int 7)))))))
theorem sim_l_within (T : Top K mg A) : SimS K (t_l_within K A) (d_l_within) :=
  (sim_seq (sim_forW [2] (sim_r1 (sim_var 1)) (sim_gN 2) (sim_asg (sim_frz (sim_if (sim_test (sim_op sr_eq (sim_op sr_mod (sim_var 2) (sim_int 2)) (sim_int 0))) (sim_lst (sim_vcons (sim_var 0) sim_vnil)) (sim_tup (sim_vcons (sim_var 0) sim_vnil)))) (sim_gN 0)))
    (sim_ret (sim_var 0)))
theorem sim_l_is_one (T : Top K mg A) : SimS K (t_l_is_one K A) (d_l_is_one) :=
  (sim_ret (sim_andT (sim_isi isI_str (sim_var 0)) (sim_andT (sim_chain sr_lt sr_lt (sim_int 0) (sim_cb sr_len (sim_acons (sim_var 0) sim_anil)) (sim_int 9)) (sim_cb sr_all (sim_acons (sim_lc (sim_iany (sim_var 0)) (gc_name 1) sim_yes (sim_chain sr_le sr_le (sim_str "a" (by decide +kernel)) (sim_var 1) (sim_str "z" (by decide +kernel)))) sim_anil)))))
theorem sim_l_is_way (T : Top K mg A) : SimS K (t_l_is_way K A) (d_l_is_way) :=
  (sim_seq (sim_ifs (sim_not (sim_tru (sim_isi isI_str (sim_var 0)))) (sim_ret (sim_bl false)) sim_next)
    (sim_seq (sim_asg (sim_m1 sr_split (sim_var 0) (sim_str "/" (by decide +kernel))) (sim_gN 1))
    (sim_ret (sim_andT (sim_op sr_lt (sim_cb sr_len (sim_acons (sim_var 1) sim_anil)) (sim_int 4)) (sim_andT (sim_op sr_ne (sim_op sr_ix (sim_var 1) (sim_int 0)) (sim_str "tag" (by decide +kernel))) (sim_cb sr_all (sim_acons (sim_lc (sim_iany (sim_var 1)) (gc_name 2) sim_yes (sim_callB (sim_acons (sim_var 2) sim_anil))) sim_anil)))))))
theorem sim_l_is_bare (T : Top K mg A) : SimS K (t_l_is_bare K A) (d_l_is_bare) :=
  (sim_seq (sim_ifs (sim_or (sim_not (sim_tru (sim_isi isI_tuple (sim_var 0)))) (sim_or (sim_test (sim_op sr_ne (sim_cb sr_len (sim_acons (sim_var 0) sim_anil)) (sim_int 7))) (sim_or (sim_not (sim_tru (sim_isi isI_str (sim_op sr_ix (sim_var 0) (sim_int 0))))) (sim_not (sim_test (sim_chain sr_lt sr_lt (sim_int 0) (sim_cb sr_len (sim_acons (sim_op sr_ix (sim_var 0) (sim_int 0)) sim_anil)) (sim_int 41))))))) (sim_ret (sim_bl false)) sim_next)
    (sim_seq (sim_ifs (sim_or (sim_test (sim_op sr_ne (sim_m1 sr_stripC (sim_op sr_ix (sim_var 0) (sim_int 0)) (sim_str " " (by decide +kernel))) (sim_op sr_ix (sim_var 0) (sim_int 0)))) (sim_or (sim_test (sim_op sr_in (sim_str "\n" (by decide +kernel)) (sim_op sr_ix (sim_var 0) (sim_int 0)))) (sim_or (sim_not (sim_tru (sim_isi isI_int (sim_op sr_ix (sim_var 0) (sim_int 1))))) (sim_tru (sim_isi isI_bool (sim_op sr_ix (sim_var 0) (sim_int 1))))))) (sim_ret (sim_bl false)) sim_next)
    (sim_seq (sim_ifs (sim_or (sim_not (sim_test (sim_chain sr_le sr_le (sim_int 0) (sim_op sr_ix (sim_var 0) (sim_int 1)) (sim_int 999)))) (sim_or (sim_not (sim_tru (sim_isi isI_bool (sim_op sr_ix (sim_var 0) (sim_int 2))))) (sim_not (sim_tru (sim_callB (sim_acons (sim_op sr_ix (sim_var 0) (sim_int 4)) sim_anil)))))) (sim_ret (sim_bl false)) sim_next)
    (sim_seq (sim_ifs (sim_or (sim_not (sim_tru (sim_cb sr_all (sim_acons (sim_lc (sim_iany (sim_tup (sim_vcons (sim_int 3) (sim_vcons (sim_int 5) (sim_vcons (sim_int 6) sim_vnil))))) (gc_name 2) sim_yes (sim_isi isI_tuple (sim_op sr_ix (sim_var 0) (sim_var 2)))) sim_anil)))) (sim_or (sim_test (sim_op sr_gt (sim_cb sr_len (sim_acons (sim_op sr_ix (sim_var 0) (sim_int 3)) sim_anil)) (sim_int 3))) (sim_or (sim_test (sim_op sr_gt (sim_cb sr_len (sim_acons (sim_op sr_ix (sim_var 0) (sim_int 5)) sim_anil)) (sim_int 6))) (sim_test (sim_op sr_gt (sim_cb sr_len (sim_acons (sim_op sr_ix (sim_var 0) (sim_int 6)) sim_anil)) (sim_int 8)))))) (sim_ret (sim_bl false)) sim_next)
    (sim_seq (sim_ifs (sim_or (sim_not (sim_tru (sim_cb sr_all (sim_acons (sim_lc (sim_iany (sim_op sr_ix (sim_var 0) (sim_int 3))) (gc_name 1) sim_yes (sim_callB (sim_acons (sim_var 1) sim_anil))) sim_anil)))) (sim_not (sim_tru (sim_cb sr_all (sim_acons (sim_lc (sim_iany (sim_op sr_ix (sim_var 0) (sim_int 5))) (gc_name 1) sim_yes (sim_callB (sim_acons (sim_var 1) sim_anil))) sim_anil))))) (sim_ret (sim_bl false)) sim_next)
    (sim_seq (sim_ifs (sim_or (sim_test (sim_op sr_ne (sim_cb sr_sortSet (sim_acons (sim_op sr_ix (sim_var 0) (sim_int 3)) sim_anil)) (sim_cb sr_listOf (sim_acons (sim_op sr_ix (sim_var 0) (sim_int 3)) sim_anil)))) (sim_test (sim_op sr_ne (sim_cb sr_sortSet (sim_acons (sim_op sr_ix (sim_var 0) (sim_int 5)) sim_anil)) (sim_cb sr_listOf (sim_acons (sim_op sr_ix (sim_var 0) (sim_int 5)) sim_anil))))) (sim_ret (sim_bl false)) sim_next)
    (sim_ret (sim_cb sr_all (sim_acons (sim_lc (sim_iany (sim_op sr_ix (sim_var 0) (sim_int 6))) (gc_name 1) sim_yes (sim_andT (sim_isi isI_str (sim_var 1)) (sim_andT (sim_op sr_lt (sim_cb sr_len (sim_acons (sim_var 1) sim_anil)) (sim_int 51)) (sim_op sr_notIn (sim_str "\n" (by decide +kernel)) (sim_var 1))))) sim_anil)))))))))
theorem sim_l_right (T : Top K mg A) : SimS K (t_l_right K A) (d_l_right) :=
  (sim_seq (sim_par (sim_xcons (sim_argN (sim_cb sr_reprA (sim_acons (sim_var 0) sim_anil))) (sim_xcons (sim_argN (sim_lst (sim_vcons (sim_callB (sim_acons (sim_var 0) sim_anil)) (sim_vcons (sim_callB (sim_acons (sim_var 0) sim_anil)) (sim_vcons (sim_callB (sim_acons (sim_var 0) sim_anil)) sim_vnil))))) sim_xnil)))
    (sim_seq (sim_asg (sim_lst (sim_vcons (sim_callB (sim_acons (sim_var 0) sim_anil)) (sim_vcons (sim_callB (sim_acons (sim_var 0) sim_anil)) (sim_vcons (sim_callB (sim_acons (sim_var 0) sim_anil)) sim_vnil)))) (sim_gN 3))
    (sim_seq (sim_asg (sim_lst (sim_vcons (sim_callBK (sim_acons (sim_var 0) sim_anil)) (sim_vcons (sim_callBK (sim_acons (sim_var 0) sim_anil)) (sim_vcons (sim_callBK (sim_acons (sim_var 0) sim_anil)) sim_vnil)))) (sim_gN 4))
    (sim_ret (sim_andT (sim_op sr_eq (sim_cb sr_reprA (sim_acons (sim_lst (sim_vcons (sim_var 3) (sim_vcons (sim_var 4) sim_vnil))) sim_anil)) (sim_cb sr_reprA (sim_acons (sim_lst (sim_vcons (sim_var 2) (sim_vcons (sim_var 2) sim_vnil))) sim_anil))) (sim_op sr_eq (sim_cb sr_reprA (sim_acons (sim_var 0) sim_anil)) (sim_var 1)))))))
theorem sim_law (T : Top K mg A) : SimS K (t_law2 K A) (d_law) :=
  (sim_seq (sim_asg (sim_lst (sim_vcons (sim_int 0) (sim_vcons (sim_int 1) (sim_vcons (sim_un sr_neg (sim_int 1)) (sim_vcons (sim_bl true) (sim_vcons (sim_bl false) (sim_vcons sim_non (sim_vcons (sim_str "" (by decide +kernel)) (sim_vcons (sim_tup sim_vnil) (sim_vcons (sim_lst sim_vnil) (sim_vcons (sim_str "page" (by decide +kernel)) (sim_vcons (sim_lst (sim_vcons (sim_str "page" (by decide +kernel)) sim_vnil)) (sim_vcons (sim_tup (sim_vcons (sim_str "page" (by decide +kernel)) sim_vnil)) (sim_vcons (sim_str "a/b" (by decide +kernel)) (sim_vcons (sim_tup (sim_vcons (sim_str "a" (by decide +kernel)) (sim_vcons (sim_str "b" (by decide +kernel)) sim_vnil))) (sim_vcons (sim_str "tag" (by decide +kernel)) (sim_vcons (sim_op sr_pow (sim_int 10) (sim_int 30)) sim_vnil))))))))))))))))) (sim_gN 2))
    (sim_seq (sim_asg (sim_tup (sim_vcons (sim_str "So" (by decide +kernel)) (sim_vcons (sim_int 0) (sim_vcons (sim_bl false) (sim_vcons (sim_tup sim_vnil) (sim_vcons (sim_str "page" (by decide +kernel)) (sim_vcons (sim_tup sim_vnil) (sim_vcons (sim_tup sim_vnil) sim_vnil)))))))) (sim_gN 3))
    (sim_seq (sim_asg (sim_op sr_add (sim_var 2) (sim_lst (sim_vcons (sim_var 3) (sim_vcons (sim_cb sr_listOf (sim_acons (sim_var 3) sim_anil)) (sim_vcons (sim_sl (sim_var 3) sim_onone (sim_osome (sim_int 6))) (sim_vcons (sim_op sr_add (sim_var 3) (sim_tup (sim_vcons (sim_tup sim_vnil) sim_vnil))) (sim_vcons (sim_call (sim_xcons (sim_argA (sim_str "page" (by decide +kernel))) (sim_xcons (sim_argA (sim_int 11)) sim_xnil))) (sim_vcons (sim_call (sim_xcons (sim_argA (sim_var 3)) (sim_xcons (sim_argA (sim_int 9)) sim_xnil))) sim_vnil)))))))) (sim_gN 2))
    (sim_seq (sim_asg (sim_op sr_add (sim_var 2) (sim_lst (sim_vcons (sim_tup (sim_vcons (sim_str "So" (by decide +kernel)) (sim_vcons (sim_int 0) (sim_vcons (sim_bl false) (sim_vcons (sim_tup sim_vnil) (sim_vcons (sim_str "page" (by decide +kernel)) (sim_vcons (sim_tup sim_vnil) (sim_vcons (sim_tup (sim_vcons sim_non sim_vnil)) sim_vnil)))))))) (sim_vcons (sim_tup (sim_vcons (sim_str "So" (by decide +kernel)) (sim_vcons (sim_int 0) (sim_vcons (sim_int 0) (sim_vcons (sim_tup sim_vnil) (sim_vcons (sim_str "page" (by decide +kernel)) (sim_vcons (sim_tup sim_vnil) (sim_vcons (sim_tup sim_vnil) sim_vnil)))))))) (sim_vcons (sim_op sr_add (sim_tup (sim_vcons (sim_str "So" (by decide +kernel)) sim_vnil)) (sim_op sr_mul2 (sim_tup (sim_vcons sim_non sim_vnil)) (sim_int 6))) sim_vnil))))) (sim_gN 2))
    (sim_seq (sim_ifs (sim_not (sim_tru (sim_cb sr_all (sim_acons (sim_lc (sim_iany (sim_var 2)) (gc_name 7) sim_yes (sim_call (sim_xcons (sim_argA (sim_var 7)) sim_xnil))) sim_anil)))) (sim_ret (sim_bl false)) sim_next)
    (sim_seq (sim_forW [2, 3, 4, 5, 6] (sim_r1 (sim_op sr_add (sim_int 1) (sim_cb sr_len (sim_acons (sim_var 1) sim_anil)))) (sim_gN 4) (sim_seq (sim_asg (sim_call (sim_xcons (sim_argA (sim_var 1)) (sim_xcons (sim_argA (sim_var 4)) sim_xnil))) (sim_gN 5))
    (sim_forW [2, 3, 4, 6] (sim_r1 (sim_int 40)) (sim_gN 6) (sim_ifs (sim_not (sim_tru (sim_call (sim_xcons (sim_argA (sim_call (sim_xcons (sim_argA (sim_var 5)) (sim_xcons (sim_argA (sim_op sr_add (sim_int 1) (sim_call (sim_xcons (sim_argA (sim_var 5)) (sim_xcons (sim_argA (sim_int 4)) sim_xnil))))) sim_xnil)))) sim_xnil)))) (sim_ret (sim_bl false)) sim_next))))
    (sim_ret (sim_bl true))))))))
end
end K04

namespace K04
open PySem PySem.Spec PyProof.Rows L2 DL TL
local macro_rules | `(tactic| walk_at "rd1") => `(tactic| first
  | with_reducible refine x_seq ?_ | with_reducible refine x_asg ?_ | with_reducible refine x_name ?_ | with_reducible refine x_ret ?_ | with_reducible refine x_drop ?_
  | with_reducible refine x_next ?_ | with_reducible refine x_ifs ?_ | with_reducible refine x_test ?_ | with_reducible refine x_tB ?_ | with_reducible refine x_bl ?_
  | with_reducible refine x_nil ?_ | with_reducible refine x_cons ?_ | with_reducible refine x_cb ?_ | with_reducible refine x_not ?_ | with_reducible refine x_and ?_ | with_reducible refine x_or ?_
  | with_reducible refine x_andV ?_ | with_reducible refine x_orV ?_ | with_reducible refine x_notV ?_ | with_reducible refine x_if ?_ | with_reducible refine x_chain ?_
  | with_reducible refine x_op ?_ | with_reducible refine x_un ?_ | with_reducible refine x_c ?_ | with_reducible refine x_I0 ?_ | with_reducible refine x_U ?_ | with_reducible refine x_bm ?_
  | with_reducible refine x_call ?_ | with_reducible refine x_callK ?_ | with_reducible refine x_m1 ?_ | with_reducible refine x_isstr ?_ | with_reducible refine x_sub ?_ | with_reducible refine x_lstA ?_ | with_reducible refine x_tupA ?_
  | with_reducible refine x_abs ?_ | with_reducible refine x_int1b ?_ | with_reducible refine x_sl ?_ | with_reducible refine x_nopart ?_ | with_reducible refine x_part ?_ | with_reducible refine x_isint ?_
  | with_reducible refine x_gcons ?_ | with_reducible refine x_gnil ?_ | with_reducible refine x_tpar ?_ | with_reducible refine x_par ?_ | with_reducible refine x_for ?_ | with_reducible refine x_rng1 ?_
  | with_reducible refine x_istr ?_ | with_reducible refine x_strv ?_ | with_reducible refine x_ilist ?_ | with_reducible refine x_ienum ?_
  | with_reducible refine x_isN ?_ | with_reducible refine x_isNotN ?_ | with_reducible refine x_izip ?_
  | with_reducible refine x_tpar3 ?_ | with_reducible refine x_par3 ?_ | with_reducible refine x_slS (by assumption) ?_
  | with_reducible refine x_lc ?_ | with_reducible refine x_yes ?_ | with_reducible refine iteT ?_ | with_reducible refine iteF ?_
  | with_reducible refine x_lenL (by assumption) ?_ | with_reducible refine x_lenT (by assumption) ?_ | with_reducible refine x_lenS (by assumption) ?_
  | ((with_reducible show tVar _ _ _ _); refine ⟨_, rfl, ?_⟩)
  | ((with_reducible apply x_ixL); (first | assumption | exact SqL.of (by assumption)); rfl))
local macro_rules | `(tactic| walk_at "rd") => `(tactic| repeat walk_at "rd1")
local macro_rules | `(tactic| walk_at "sn") => `(tactic| simp only [reduceCtorEq, decide_false, decide_true, Bool.false_eq_true, Bool.not_true, Bool.not_false, if_false, if_true, ite_true, ite_false, isD_list, isD_tuple, isD_str, isD_bool, isD_int, isSeq])
local macro_rules | `(tactic| walk_at "go") => `(tactic| repeat (first | walk_at "rd1" | walk_at "sn"))

local macro_rules | `(tactic| walk_at "nc") => `(tactic| ((refine DL.n_cons (t' := ?t1) rfl ?_); rotate_left))
local macro_rules | `(tactic| walk_at "nE") => `(tactic| ((repeat walk_at "nc"); exact (rfl : (_ : DL.Env) = [])))
local macro_rules | `(tactic| walk_at "dl1") => `(tactic| ((with_reducible show ∃ r, DL.retC _ _ = some r ∧ _); refine ⟨_, rfl, ?_⟩))
local macro_rules | `(tactic| walk_at "dl1") => `(tactic| with_reducible refine DL.y_yes ?_)
local macro_rules | `(tactic| walk_at "dl1") => `(tactic| with_reducible refine DL.z_lc ?_)
local macro_rules | `(tactic| walk_at "dl1") => `(tactic| with_reducible refine DL.z_fS ?_)
local macro_rules | `(tactic| walk_at "dl1") => `(tactic| with_reducible refine DL.z_replC ?_)
local macro_rules | `(tactic| walk_at "dl1") => `(tactic| with_reducible refine DL.z_stripC ?_)
local macro_rules | `(tactic| walk_at "dl1") => `(tactic| with_reducible refine DL.z_zipK ?_)
local macro_rules | `(tactic| walk_at "dl1") => `(tactic| ((with_reducible refine DL.z_gStar2T (d := ?d1) (d2 := ?d2) (ds := ?d3) ?h1 ?h2 ?h3 ?h4 ?q); (case h1 => exact rfl); (case h2 => exact rfl); (case h3 => exact rfl); (case h4 => exact rfl)))
local macro_rules | `(tactic| walk_at "dl1") => `(tactic| ((with_reducible refine DL.z_keyE (ky := ?d1) ?h ?q); (case h => exact rfl)))
local macro_rules | `(tactic| walk_at "dl1") => `(tactic| with_reducible refine DL.z_dc ?_)
local macro_rules | `(tactic| walk_at "dl1") => `(tactic| with_reducible refine DL.z_dictOf ?_)
local macro_rules | `(tactic| walk_at "dl1") => `(tactic| with_reducible refine DL.z_snoc ?_)
local macro_rules | `(tactic| walk_at "dl1") => `(tactic| with_reducible refine DL.z_jsN ?_)
local macro_rules | `(tactic| walk_at "dl1") => `(tactic| with_reducible refine DL.z_jsC ?_)
local macro_rules | `(tactic| walk_at "dl1") => `(tactic| ((with_reducible refine DL.z_jsE (z := ?d1) ?h ?q); (case h => exact rfl)))
local macro_rules | `(tactic| walk_at "dl1") => `(tactic| with_reducible refine DL.z_joined ?_)
local macro_rules | `(tactic| walk_at "dl1") => `(tactic| ((with_reducible refine DL.z_fmtS (z := ?d1) ?h ?q); (case h => exact rfl)))
local macro_rules | `(tactic| walk_at "dl1") => `(tactic| with_reducible refine DL.z_fmt ?_)
local macro_rules | `(tactic| walk_at "dl1") => `(tactic| ((with_reducible refine DL.z_dget1E (kvs := ?d1) (ky := ?d2) ?h1 ?h2 ?q); (case h1 => exact rfl); (case h2 => exact rfl)))
local macro_rules | `(tactic| walk_at "dl1") => `(tactic| with_reducible refine DL.z_dnotin ?_)
local macro_rules | `(tactic| walk_at "dl1") => `(tactic| with_reducible refine DL.z_din ?_)
local macro_rules | `(tactic| walk_at "dl1") => `(tactic| ((with_reducible refine DL.z_dget1 ?h ?q); (case h => exact ⟨_, rfl⟩)))
local macro_rules | `(tactic| walk_at "dl1") => `(tactic| ((with_reducible refine DL.z_dget ?h ?q); (case h => exact ⟨_, rfl⟩)))
local macro_rules | `(tactic| walk_at "dl1") => `(tactic| ((with_reducible refine DL.z_seeS (z := ?d1) ?h ?q); (case h => exact rfl)))
local macro_rules | `(tactic| walk_at "dl1") => `(tactic| ((with_reducible refine DL.z_seeM (z := ?d1) ?h ?q); (case h => exact rfl)))
local macro_rules | `(tactic| walk_at "dl1") => `(tactic| ((with_reducible refine DL.z_count ?h ?q); (case h => exact ⟨_, rfl⟩)))
local macro_rules | `(tactic| walk_at "dl1") => `(tactic| ((with_reducible refine DL.z_seeT (ds := ?d1) ?h ?q); (case h => exact rfl)))
local macro_rules | `(tactic| walk_at "dl1") => `(tactic| with_reducible refine DL.z_revT ?_)
local macro_rules | `(tactic| walk_at "dl1") => `(tactic| with_reducible refine DL.z_revS ?_)
local macro_rules | `(tactic| walk_at "dl1") => `(tactic| with_reducible refine DL.z_ixM ?_)
local macro_rules | `(tactic| walk_at "dl1") => `(tactic| with_reducible refine DL.z_inM ?_)
local macro_rules | `(tactic| walk_at "dl1") => `(tactic| with_reducible refine DL.z_modk ?_)
local macro_rules | `(tactic| walk_at "dl1") => `(tactic| ((with_reducible refine DL.z_gStar0 (d := ?d1) (ds := ?d2) ?h1 ?h2 ?h3 ?q); (case h1 => exact rfl); (case h2 => exact rfl); (case h3 => exact rfl)))
local macro_rules | `(tactic| walk_at "dl1") => `(tactic| with_reducible refine DL.z_strS ?_)
local macro_rules | `(tactic| walk_at "dl1") => `(tactic| with_reducible refine DL.z_isT ?_)
local macro_rules | `(tactic| walk_at "dl1") => `(tactic| with_reducible refine DL.z_enumT ?_)
local macro_rules | `(tactic| walk_at "dl1") => `(tactic| with_reducible refine DL.z_elt ?_)
local macro_rules | `(tactic| walk_at "dl1") => `(tactic| with_reducible refine DL.z_cl ?_)
local macro_rules | `(tactic| walk_at "dl1") => `(tactic| with_reducible refine DL.z_lcr ?_)
local macro_rules | `(tactic| walk_at "dl1") => `(tactic| ((with_reducible refine DL.z_flatR ?h1 ?q); (case h1 => exact rfl)))
local macro_rules | `(tactic| walk_at "dl1") => `(tactic| with_reducible refine DL.z_callF ?_)
local macro_rules | `(tactic| walk_at "dl1") => `(tactic| with_reducible refine DL.z_int1b ?_)
local macro_rules | `(tactic| walk_at "dl1") => `(tactic| with_reducible refine DL.z_int1 ?_)
local macro_rules | `(tactic| walk_at "dl1") => `(tactic| with_reducible refine DL.z_frz ?_)
local macro_rules | `(tactic| walk_at "dl1") => `(tactic| with_reducible refine DL.y_zip ?_)
local macro_rules | `(tactic| walk_at "dl1") => `(tactic| with_reducible refine DL.y_isL ?_)
local macro_rules | `(tactic| walk_at "dl1") => `(tactic| with_reducible refine DL.y_enum ?_)
local macro_rules | `(tactic| walk_at "dl1") => `(tactic| with_reducible refine DL.y_isII ?_)
local macro_rules | `(tactic| walk_at "dl1") => `(tactic| with_reducible refine DL.y_r2 ?_)
local macro_rules | `(tactic| walk_at "dl1") => `(tactic| with_reducible refine DL.y_r1 ?_)
local macro_rules | `(tactic| walk_at "dl1") => `(tactic| ((with_reducible refine DL.y_iter (xs := ?d1) ?h1 ?q); (case h1 => exact rfl)))
local macro_rules | `(tactic| walk_at "dl1") => `(tactic| with_reducible refine DL.y_iany ?_)
local macro_rules | `(tactic| walk_at "dl1") => `(tactic| with_reducible refine DL.z_wipe ?_)
local macro_rules | `(tactic| walk_at "dl1") => `(tactic| with_reducible refine DL.z_sforW ?_)
local macro_rules | `(tactic| walk_at "dl1") => `(tactic| with_reducible refine DL.z_sfor ?_)
local macro_rules | `(tactic| walk_at "dl1") => `(tactic| ((with_reducible refine DL.z_par3EA ?k1 ?k2 ?k3 ?n1 ?n2 ?n3 ?q); (case k1 => exact rfl); (case k2 => exact rfl); (case k3 => exact rfl); (case n1 => exact rfl); (case n2 => exact rfl); (case n3 => exact rfl)))
local macro_rules | `(tactic| walk_at "dl1") => `(tactic| ((with_reducible refine DL.z_parEA ?k1 ?k2 ?n1 ?n2 ?q); (case k1 => exact rfl); (case k2 => exact rfl); (case n1 => exact rfl); (case n2 => exact rfl)))
local macro_rules | `(tactic| walk_at "dl1") => `(tactic| with_reducible refine DL.z_par3A ?_)
local macro_rules | `(tactic| walk_at "dl1") => `(tactic| with_reducible refine DL.z_parA ?_)
local macro_rules | `(tactic| walk_at "dl1") => `(tactic| with_reducible refine DL.y_isD ?_)
local macro_rules | `(tactic| walk_at "dl1") => `(tactic| with_reducible refine DL.z_asg2 ?_)
local macro_rules | `(tactic| walk_at "dl1") => `(tactic| ((with_reducible refine DL.z_augEA ?h1 ?q); (case h1 => exact rfl)))
local macro_rules | `(tactic| walk_at "dl1") => `(tactic| with_reducible refine DL.y_aI ?_)
local macro_rules | `(tactic| walk_at "dl1") => `(tactic| ((with_reducible refine DL.z_augA (d := ?d1) ?h ?q); (case h => exact rfl)))
local macro_rules | `(tactic| walk_at "dl1") => `(tactic| ((with_reducible show DL.gT _ _ _ _ _); refine DL.y_gT rfl ?_))
local macro_rules | `(tactic| walk_at "dl1") => `(tactic| with_reducible refine DL.y_gscons ?_)
local macro_rules | `(tactic| walk_at "dl1") => `(tactic| with_reducible refine DL.y_gsnil ?_)
local macro_rules | `(tactic| walk_at "dl1") => `(tactic| ((with_reducible refine DL.y_flat ?h1 ?q); (case h1 => exact rfl)))
local macro_rules | `(tactic| walk_at "dl1") => `(tactic| ((with_reducible refine DL.y_parsB (zs := ?d1) ?h1 ?q); (case h1 => exact rfl)))
local macro_rules | `(tactic| walk_at "dl1") => `(tactic| with_reducible refine DL.y_callB ?_)
local macro_rules | `(tactic| walk_at "dl1") => `(tactic| ((with_reducible refine DL.y_pars (zs := ?d1) ?h1 ?h2 ?q); (case h1 => exact rfl); (case h2 => (first | exact List.nodup_nil | exact List.nodup_singleton _ | simp [DL.alsOf]))))
local macro_rules | `(tactic| walk_at "dl1") => `(tactic| with_reducible refine DL.z_call ?_)
local macro_rules | `(tactic| walk_at "dl1") => `(tactic| ((with_reducible show DL.argOK _ _ _); first | refine DL.y_ao ?_ | refine DL.y_aoo ?_))
local macro_rules | `(tactic| walk_at "dl1") => `(tactic| ((with_reducible show DL.argK _ _ _); first | with_reducible refine DL.y_ad ?_ | with_reducible refine DL.y_al ?_ | with_reducible refine DL.y_ab ?_ | ((with_reducible refine DL.y_aap (o := ?d1) ?h ?q); (case h => exact rfl)) | ((with_reducible refine DL.z_aal (ds := ?d1) ?h ?q); (case h => exact rfl)) | ((with_reducible refine DL.y_aab (n := ?d1) ?h ?q); (case h => exact rfl)) | with_reducible refine DL.y_av ?_ | ((with_reducible refine DL.z_adct (kvs := ?d1) ?h ?q); (case h => exact rfl)) | with_reducible refine DL.z_aown ?_))
local macro_rules | `(tactic| walk_at "dl1") => `(tactic| ((with_reducible show DL.noAl _ _ _); first | with_reducible refine DL.y_nd ?_ | with_reducible refine DL.y_no ?_ | with_reducible refine DL.y_nal ?_ | with_reducible refine DL.y_nv ?_))
local macro_rules | `(tactic| walk_at "dl1") => `(tactic| with_reducible refine DL.y_argN ?_)
local macro_rules | `(tactic| walk_at "dl1") => `(tactic| with_reducible refine DL.y_argO ?_)
local macro_rules | `(tactic| walk_at "dl1") => `(tactic| with_reducible refine DL.y_argA ?_)
local macro_rules | `(tactic| walk_at "dl1") => `(tactic| ((with_reducible refine DL.z_reverse (ds := ?d1) ?h ?q); (case h => exact rfl)))
local macro_rules | `(tactic| walk_at "dl1") => `(tactic| ((with_reducible refine DL.y_con (ds := ?d1) ?h1 ?q); (case h1 => exact rfl)))
local macro_rules | `(tactic| walk_at "dl1") => `(tactic| ((with_reducible refine DL.z_extend ?h ?q); (case h => exact ⟨_, rfl⟩)))
local macro_rules | `(tactic| walk_at "dl1") => `(tactic| ((with_reducible refine DL.z_append ?h ?q); (case h => exact ⟨_, rfl⟩)))
local macro_rules | `(tactic| walk_at "dl1") => `(tactic| with_reducible refine DL.y_neg ?_)
local macro_rules | `(tactic| walk_at "dl1") => `(tactic| with_reducible refine DL.y_un ?_)
local macro_rules | `(tactic| walk_at "dl1") => `(tactic| with_reducible refine DL.y_isSD ?_)
local macro_rules | `(tactic| walk_at "dl1") => `(tactic| with_reducible refine DL.y_getW ?_)
local macro_rules | `(tactic| walk_at "dl1") => `(tactic| with_reducible refine DL.y_isSI ?_)
local macro_rules | `(tactic| walk_at "dl1") => `(tactic| with_reducible refine DL.y_find3 ?_)
local macro_rules | `(tactic| walk_at "dl1") => `(tactic| ((with_reducible refine DL.z_gStar1 (d := ?d1) (ds := ?d2) ?h1 ?h2 ?h3 ?q); (case h1 => exact rfl); (case h2 => exact rfl); (case h3 => exact rfl)))
local macro_rules | `(tactic| walk_at "dl1") => `(tactic| ((with_reducible refine DL.z_gStar1T (d := ?d1) (ds := ?d2) ?h1 ?h2 ?h3 ?q); (case h1 => exact rfl); (case h2 => exact rfl); (case h3 => exact rfl)))
local macro_rules | `(tactic| walk_at "dl1") => `(tactic| with_reducible refine DL.y_startswith ?_)
local macro_rules | `(tactic| walk_at "dl1") => `(tactic| with_reducible refine DL.y_m1 ?_)
local macro_rules | `(tactic| walk_at "dl1") => `(tactic| with_reducible refine DL.y_isi ?_)
local macro_rules | `(tactic| walk_at "dl1") => `(tactic| with_reducible refine DL.y_min2 ?_)
local macro_rules | `(tactic| walk_at "dl1") => `(tactic| with_reducible refine DL.y_max2 ?_)
local macro_rules | `(tactic| walk_at "dl1") => `(tactic| with_reducible refine DL.y_tupleOfT ?_)
local macro_rules | `(tactic| walk_at "dl1") => `(tactic| with_reducible refine DL.y_tupleOf ?_)
local macro_rules | `(tactic| walk_at "dl1") => `(tactic| with_reducible refine DL.y_listOfT ?_)
local macro_rules | `(tactic| walk_at "dl1") => `(tactic| with_reducible refine DL.y_listOf ?_)
local macro_rules | `(tactic| walk_at "dl1") => `(tactic| with_reducible refine DL.y_int1b ?_)
local macro_rules | `(tactic| walk_at "dl1") => `(tactic| with_reducible refine DL.y_int1 ?_)
local macro_rules | `(tactic| walk_at "dl1") => `(tactic| with_reducible refine DL.y_abs ?_)
local macro_rules | `(tactic| walk_at "dl1") => `(tactic| ((with_reducible show DL.dLen _ _); refine DL.y_len1 rfl ?_))
local macro_rules | `(tactic| walk_at "dl1") => `(tactic| ((with_reducible refine DL.y_seeAll (ds := ?d1) ?h1 ?q); (case h1 => exact rfl)))
local macro_rules | `(tactic| walk_at "dl1") => `(tactic| with_reducible refine DL.y_cb ?_)
local macro_rules | `(tactic| walk_at "dl1") => `(tactic| with_reducible refine DL.y_acons ?_)
local macro_rules | `(tactic| walk_at "dl1") => `(tactic| with_reducible refine DL.y_anil ?_)
local macro_rules | `(tactic| walk_at "dl1") => `(tactic| ((with_reducible refine DL.y_see1 (d := ?d1) ?h1 ?q); (case h1 => exact rfl)))
local macro_rules | `(tactic| walk_at "dl1") => `(tactic| with_reducible refine DL.y_slS ?_)
local macro_rules | `(tactic| walk_at "dl1") => `(tactic| with_reducible refine DL.y_slT ?_)
local macro_rules | `(tactic| walk_at "dl1") => `(tactic| with_reducible refine DL.y_slL ?_)
local macro_rules | `(tactic| walk_at "dl1") => `(tactic| with_reducible refine DL.y_osome ?_)
local macro_rules | `(tactic| walk_at "dl1") => `(tactic| with_reducible refine DL.y_onone ?_)
local macro_rules | `(tactic| walk_at "dl1") => `(tactic| with_reducible refine DL.y_sl ?_)
local macro_rules | `(tactic| walk_at "dl1") => `(tactic| ((with_reducible show _ ≤ sizeLine ∧ _); refine DL.y_len rfl ?_))
local macro_rules | `(tactic| walk_at "dl1") => `(tactic| ((with_reducible show DL.asD _ _ _); first | with_reducible refine DL.y_asd ?_ | with_reducible refine DL.y_asl ?_ | ((with_reducible refine DL.z_asal (ds := ?d1) ?h ?q); (case h => exact rfl))))
local macro_rules | `(tactic| walk_at "dl1") => `(tactic| with_reducible refine DL.y_lst ?_)
local macro_rules | `(tactic| walk_at "dl1") => `(tactic| with_reducible refine DL.y_tup ?_)
local macro_rules | `(tactic| walk_at "dl1") => `(tactic| with_reducible refine DL.y_vcons ?_)
local macro_rules | `(tactic| walk_at "dl1") => `(tactic| with_reducible refine DL.y_vnil ?_)
local macro_rules | `(tactic| walk_at "dl1") => `(tactic| ((with_reducible show DL.dIsNotN _ _ _); refine DL.y_isNotNf rfl ?_))
local macro_rules | `(tactic| walk_at "dl1") => `(tactic| ((with_reducible show DL.dIsN _ _ _); refine DL.y_isNf rfl ?_))
local macro_rules | `(tactic| walk_at "dl1") => `(tactic| with_reducible refine DL.y_isNotNt ?_)
local macro_rules | `(tactic| walk_at "dl1") => `(tactic| with_reducible refine DL.y_isNt ?_)
local macro_rules | `(tactic| walk_at "dl1") => `(tactic| with_reducible refine DL.z_cont ?_)
local macro_rules | `(tactic| walk_at "dl1") => `(tactic| with_reducible refine DL.z_break ?_)
local macro_rules | `(tactic| walk_at "dl1") => `(tactic| with_reducible refine DL.z_next ?_)
local macro_rules | `(tactic| walk_at "dl1") => `(tactic| with_reducible refine DL.z_drop ?_)
local macro_rules | `(tactic| walk_at "dl1") => `(tactic| with_reducible refine DL.z_retN ?_)
local macro_rules | `(tactic| walk_at "dl1") => `(tactic| with_reducible refine DL.z_ret ?_)
local macro_rules | `(tactic| walk_at "dl1") => `(tactic| with_reducible refine DL.y_ifs ?_)
local macro_rules | `(tactic| walk_at "dl1") => `(tactic| with_reducible refine DL.y_chain ?_)
local macro_rules | `(tactic| walk_at "dl1") => `(tactic| with_reducible refine DL.y_if ?_)
local macro_rules | `(tactic| walk_at "dl1") => `(tactic| with_reducible refine DL.y_orT ?_)
local macro_rules | `(tactic| walk_at "dl1") => `(tactic| with_reducible refine DL.y_andT ?_)
local macro_rules | `(tactic| walk_at "dl1") => `(tactic| with_reducible refine DL.y_notT ?_)
local macro_rules | `(tactic| walk_at "dl1") => `(tactic| with_reducible refine DL.y_or ?_)
local macro_rules | `(tactic| walk_at "dl1") => `(tactic| with_reducible refine DL.y_and ?_)
local macro_rules | `(tactic| walk_at "dl1") => `(tactic| with_reducible refine DL.y_not ?_)
local macro_rules | `(tactic| walk_at "dl1") => `(tactic| with_reducible refine DL.y_nx ?_)
local macro_rules | `(tactic| walk_at "dl1") => `(tactic| with_reducible refine DL.y_rt ?_)
local macro_rules | `(tactic| walk_at "dl1") => `(tactic| with_reducible refine DL.y_i4 ?_)
local macro_rules | `(tactic| walk_at "dl1") => `(tactic| with_reducible refine DL.y_i3 ?_)
local macro_rules | `(tactic| walk_at "dl1") => `(tactic| with_reducible refine DL.y_i2 ?_)
local macro_rules | `(tactic| walk_at "dl1") => `(tactic| with_reducible refine DL.y_i1 ?_)
local macro_rules | `(tactic| walk_at "dl1") => `(tactic| with_reducible refine DL.y_ie1 ?_)
local macro_rules | `(tactic| walk_at "dl1") => `(tactic| with_reducible refine DL.y_ie0 ?_)
local macro_rules | `(tactic| walk_at "dl1") => `(tactic| with_reducible refine DL.y_ifN ?_)
local macro_rules | `(tactic| walk_at "dl1") => `(tactic| with_reducible refine iteF ?_)
local macro_rules | `(tactic| walk_at "dl1") => `(tactic| with_reducible refine iteT ?_)
local macro_rules | `(tactic| walk_at "dl1") => `(tactic| ((with_reducible show DL.isiK _ _ _ _); first | refine DL.y_isk (b := true) rfl rfl ?_ | refine DL.y_isk (b := false) rfl rfl ?_ | refine DL.y_isk rfl rfl ?_))
local macro_rules | `(tactic| walk_at "dl1") => `(tactic| ((with_reducible show DL.truK _ _ _); first | refine DL.y_tkB rfl ?_ | refine DL.y_tkN rfl ?_ | refine DL.y_tkS rfl ?_ | refine DL.y_tkI rfl ?_ | refine DL.y_tkLb (b := true) rfl rfl ?_ | refine DL.y_tkLb (b := false) rfl rfl ?_ | refine DL.y_tkTb (b := true) rfl rfl ?_ | refine DL.y_tkTb (b := false) rfl rfl ?_ | refine DL.y_tkL rfl ?_ | refine DL.y_tkT rfl ?_))
local macro_rules | `(tactic| walk_at "dl1") => `(tactic| with_reducible refine DL.y_isS ?_)
local macro_rules | `(tactic| walk_at "dl1") => `(tactic| with_reducible refine DL.y_isI ?_)
local macro_rules | `(tactic| walk_at "dl1") => `(tactic| with_reducible refine DL.y_bool ?_)
local macro_rules | `(tactic| walk_at "dl1") => `(tactic| with_reducible refine DL.y_B ?_)
local macro_rules | `(tactic| walk_at "dl1") => `(tactic| with_reducible refine DL.y_tru ?_)
local macro_rules | `(tactic| walk_at "dl1") => `(tactic| ((with_reducible show DL.gN _ _ _ _); first | ((with_reducible refine DL.z_gd ?h ?q); (case h => exact rfl)) | ((with_reducible refine DL.z_go ?h ?q); (case h => exact rfl)) | ((with_reducible refine DL.z_gal (ds := ?d1) ?h ?h2 ?q); (case h => exact rfl); (case h2 => exact rfl)) | ((with_reducible refine DL.z_gv ?h ?q); (case h => exact rfl))))
local macro_rules | `(tactic| walk_at "dl1") => `(tactic| with_reducible refine DL.y_neB ?_)
local macro_rules | `(tactic| walk_at "dl1") => `(tactic| with_reducible refine DL.y_neI ?_)
local macro_rules | `(tactic| walk_at "dl1") => `(tactic| with_reducible refine DL.y_neS ?_)
local macro_rules | `(tactic| walk_at "dl1") => `(tactic| with_reducible refine DL.y_eqB ?_)
local macro_rules | `(tactic| walk_at "dl1") => `(tactic| with_reducible refine DL.y_eqI ?_)
local macro_rules | `(tactic| walk_at "dl1") => `(tactic| with_reducible refine DL.y_eqS ?_)
local macro_rules | `(tactic| walk_at "dl1") => `(tactic| with_reducible refine DL.y_geS ?_)
local macro_rules | `(tactic| walk_at "dl1") => `(tactic| with_reducible refine DL.y_gtS ?_)
local macro_rules | `(tactic| walk_at "dl1") => `(tactic| with_reducible refine DL.y_leS ?_)
local macro_rules | `(tactic| walk_at "dl1") => `(tactic| with_reducible refine DL.y_ltS ?_)
local macro_rules | `(tactic| walk_at "dl1") => `(tactic| with_reducible refine DL.y_geI ?_)
local macro_rules | `(tactic| walk_at "dl1") => `(tactic| with_reducible refine DL.y_gtI ?_)
local macro_rules | `(tactic| walk_at "dl1") => `(tactic| with_reducible refine DL.y_leI ?_)
local macro_rules | `(tactic| walk_at "dl1") => `(tactic| with_reducible refine DL.y_ltI ?_)
local macro_rules | `(tactic| walk_at "dl1") => `(tactic| with_reducible refine DL.y_subI ?_)
local macro_rules | `(tactic| walk_at "dl1") => `(tactic| with_reducible refine DL.y_addI ?_)
local macro_rules | `(tactic| walk_at "dl1") => `(tactic| ((with_reducible refine DL.y_see2 (d := ?d1) (d' := ?d2) ?h1 ?h2 ?q); (case h1 => exact rfl); (case h2 => exact rfl)))
local macro_rules | `(tactic| walk_at "dl1") => `(tactic| with_reducible refine DL.y_op ?_)
local macro_rules | `(tactic| walk_at "dl1") => `(tactic| ((with_reducible refine DL.z_at (e' := ?d1) ?he ?q); (case he => walk_at "nE")))
local macro_rules | `(tactic| walk_at "dl1") => `(tactic| ((with_reducible show DL.dVar _ _ _); first | ((with_reducible refine DL.y_vd (d := ?d1) ?h ?q); (case h => exact rfl)) | ((with_reducible refine DL.y_vo (o := ?d1) ?h ?q); (case h => exact rfl)) | ((with_reducible refine DL.y_vp (o := ?d1) ?h ?q); (case h => exact rfl)) | ((with_reducible refine DL.y_vv (w := ?d1) ?h ?q); (case h => exact rfl))))
local macro_rules | `(tactic| walk_at "dl1") => `(tactic| with_reducible refine DL.y_c ?_)
local macro_rules | `(tactic| walk_at "dl1") => `(tactic| with_reducible refine DL.z_asg ?_)
local macro_rules | `(tactic| walk_at "dl1") => `(tactic| with_reducible refine DL.z_seq ?_)
local macro_rules | `(tactic| walk_at "dl") => `(tactic| repeat walk_at "dl1")
local macro_rules | `(tactic| walk_at "tt") => `(tactic| (walk_at "dl"; refine DL.z_ifc (c := true) rfl ?_; walk_at "dl"))
local macro_rules | `(tactic| walk_at "ff") => `(tactic| (walk_at "dl"; refine DL.z_ifc (c := false) rfl ?_; walk_at "dl"))

theorem pure_l_take {K : PySem.W.Frag} {mg : Str → Option Value} {A : Ad} {H : Hp} {Q : VK} {E : XK} {vs : List V} (T : Top K mg A) (h : osp_take K vs H Q E) : t_l_take K A { nx := fun _ H' => Q .non H', rt := Q } (L2.start N_l_take vs) H := by
  obtain ⟨b, m, k, rfl, Hs, sb, hb, m0, m1, ⟨x, y, z, e, hx, hy, hy2, hz, hz2⟩, q⟩ := h
  unfold t_l_take
  walk_at "rd"
  refine ite2 (fun c => ?_) (fun c => ?_)
  · have c : 0 < x := of_decide_eq_true c
    walk_at "rd"
    refine x_I m0 ?_
    walk_at "rd"
    refine x_I (wide_pos m0 m1) ?_
    walk_at "rd"
    refine x_setL e rfl ?_
    walk_at "rd"
    exact q _ _ (Int.emod_nonneg _ (by omega)) (Int.emod_lt_of_pos _ m0) (Go.put sb hb (List.mem_singleton.mpr rfl)) ⟨x / m, y, z, upd_same, Int.ediv_nonneg hx (by omega), hy, hy2, hz, by omega⟩
  · walk_at "rd"
    refine x_setL e rfl ?_
    have e1 : (upd H b (.lst [.int x, .int y, .int (z + 1)])) b = some (.lst [.int x, .int y, .int (z + 1)]) := upd_same
    walk_at "rd"
    refine x_I (mulx_small (by omega) (by omega)) ?_
    walk_at "rd"
    refine x_I ⟨by omega, by omega, by omega⟩ ?_
    walk_at "rd"
    refine x_I (show (0 : Int) < 2147483647 by decide) ?_
    have o1 := Int.emod_nonneg ((y + 39373 * (z + 1)) ^ Int.toNat 5) (show (2147483647 : Int) ≠ 0 by decide)
    have o2 := Int.emod_lt_of_pos ((y + 39373 * (z + 1)) ^ Int.toNat 5) (show (0 : Int) < 2147483647 by decide)
    generalize (y + 39373 * (z + 1)) ^ Int.toNat 5 % 2147483647 = once at o1 o2 ⊢
    walk_at "rd"
    refine x_I (wide_pos (by decide) (by decide)) ?_
    walk_at "rd"
    refine x_I (show (0 : Int) < 40009 by decide) ?_
    walk_at "rd"
    have o3 := Int.emod_nonneg once (show (40009 : Int) ≠ 0 by decide)
    have o4 := Int.emod_lt_of_pos once (show (0 : Int) < 40009 by decide)
    refine x_I (mulx_small (by omega) (by omega)) ?_
    walk_at "rd"
    refine x_I (show (0 : Int) < 2147483629 by decide) ?_
    have o5 := Int.emod_nonneg ((once + (z + 1) + y / 1000003) * (once % 40009 + 7 + (z + 1))) (show (2147483629 : Int) ≠ 0 by decide)
    have o6 := Int.emod_lt_of_pos ((once + (z + 1) + y / 1000003) * (once % 40009 + 7 + (z + 1))) (show (0 : Int) < 2147483629 by decide)
    generalize (once + (z + 1) + y / 1000003) * (once % 40009 + 7 + (z + 1)) % 2147483629 = twice at o5 o6 ⊢
    walk_at "rd"
    refine x_I (mulx_small (by omega) (by omega)) ?_
    walk_at "rd"
    refine x_I (show (0 : Int) < 2147483587 by decide) ?_
    walk_at "rd"
    refine x_I (wide_pos (by decide) (by decide)) ?_
    walk_at "rd"
    refine x_I m0 ?_
    exact q _ _ (Int.emod_nonneg _ (by omega)) (Int.emod_lt_of_pos _ m0) (Go.put sb hb (List.mem_singleton.mpr rfl)) ⟨x, y, z + 1, upd_same, hx, hy, hy2, by omega, by omega⟩
theorem pure_l_dip {K : PySem.W.Frag} {mg : Str → Option Value} {A : Ad} {H : Hp} {Q : VK} {E : XK} {vs : List V} (T : Top K mg A) (h : osp_dip K vs H Q E) : t_l_dip K A { nx := fun _ H' => Q .non H', rt := Q } (L2.start N_l_dip vs) H := by
  obtain ⟨c, ns, k, a, rfl, Hs, sb, hc, hb, ha, hk, q⟩ := h
  have hc' := sb.seq hc
  have fin : ∀ z : Int, z.natAbs < 2 ^ (a + 1) → (tRet (tLst (tCons (tOp zMul (tCB zAbs (tCons (tVar 2) tNil)) (tCB zInt1 (tCons (tOp zGtE (tCB zAbs (tCons (tVar 2) tNil)) (tOp zPow (tC (.int 10)) (tC (.int 18)))) tNil))) (tCons (tOp zAdd (tOp zAdd (tOp zMod (tVar 2) (tC (.int 2305843009213693951))) (tOp zMul (tC (.int 39373)) (tVar 1))) (tC (.int 17))) (tCons (tC (.int 0)) tNil))))) { nx := fun _ H' => Q .non H', rt := Q } [some (.ref c), some (.int (k : Int)), some (.int z)] H := by
    intro z hz
    walk_at "rd"
    refine x_I ⟨by decide, by decide, by decide⟩ ?_
    walk_at "rd"
    have h1 : (if decide ((10 : Int) ^ Int.toNat 18 ≤ (z.natAbs : Int)) = true then (1 : Int) else 0).natAbs < 2 ^ 1 := by split <;> decide
    have h0 : 0 ≤ (if decide ((10 : Int) ^ Int.toNat 18 ≤ (z.natAbs : Int)) = true then (1 : Int) else 0) := by split <;> decide
    generalize (if decide ((10 : Int) ^ Int.toNat 18 ≤ (z.natAbs : Int)) = true then (1 : Int) else 0) = w at h1 h0 ⊢
    refine x_I (mulx_ok (a := a + 1) (b := 1) (by rw [Int.natAbs_natCast]; exact hz) h1 (by omega)) ?_
    walk_at "rd"
    refine x_I (show (0 : Int) < 2305843009213693951 by decide) ?_
    walk_at "rd"
    refine x_I (mulx_small (by decide) (by omega)) ?_
    walk_at "rd"
    have o3 := Int.emod_nonneg z (show (2305843009213693951 : Int) ≠ 0 by decide)
    have o4 := Int.emod_lt_of_pos z (show (0 : Int) < 2305843009213693951 by decide)
    refine ⟨by show 3 ≤ sizeLine; decide, fun p hn => x_cell2 sb hn fun H' g hs hp => q H' p hn hs g ⟨_, _, _, hp, Int.mul_nonneg (Int.natCast_nonneg _) h0, by omega, by omega, by decide, by decide⟩⟩
  unfold t_l_dip
  walk_at "rd"
  refine ite2 (fun c => ?_) (fun c => ?_)
  · have c1 : (k : Int) < ((ns.map V.int).length : Int) := of_decide_eq_true c
    have c2 : k < ns.length := by rw [List.length_map] at c1; omega
    have g1 : (ns.map V.int)[k]? = some (.int ns[k]) := by rw [List.getElem?_map, List.getElem?_eq_getElem c2]; rfl
    walk_at "rd"
    refine x_ixL hc' (atI_nat g1) ?_
    refine x_name ?_
    have := hb ns[k] (List.getElem_mem c2)
    exact fin _ (by rw [Nat.pow_succ]; omega)
  · refine x_c (x_name ?_)
    exact fin 0 (Nat.two_pow_pos _)
theorem pure_l_folded {K : PySem.W.Frag} {mg : Str → Option Value} {A : Ad} {H : Hp} {Q : VK} {E : XK} {vs : List V} (T : Top K mg A) (h : sp_l_folded K vs H Q E) : t_l_folded K A { nx := fun _ H' => Q .non H', rt := Q } (L2.start N_l_folded vs) H := by
  obtain ⟨c, ns, n, a, rfl, Hs, sb, hc, hl, hn, hn2, hb, ha, q⟩ := h
  have hc' := sb.seq hc
  unfold t_l_folded
  walk_at "rd"
  refine x_slL hc' fun p1 n1 => ?_
  refine x_new3 sb n1 fun Hs1 H1 c1 e1 => ?_
  walk_at "rd"
  have e1' := c1.sub _ _ e1
  refine x_listOf (SqL.of e1') fun l n2 => ?_
  refine x_cell3 c1.sub n2 fun H2 c2 hs2 e2 => ?_
  walk_at "rd"
  refine x_slL (c2.sub.seq (c1.p.seq hc)) fun p3 n3 => ?_
  refine x_new3 c2.sub n3 fun Hs3 H3 c3 e3 => ?_
  walk_at "rd"
  refine x_ienumv (SqL.of (c3.sub _ _ e3)) ?_
  have k1 : cutV (ns.map V.int) none (some (n : Int)) = (ns.take n).map V.int := by
    unfold cutV
    rw [HT.sIx_none, show HT.sIx (ns.map V.int).length (ns.map V.int).length (some (n : Int)) = min n (ns.map V.int).length from HT.sIx_nat _ _ n, Nat.sub_zero, List.drop_zero, List.length_map]
    rw [← List.map_take]
    congr 1
    rcases Nat.le_total n ns.length with h | h
    · rw [Nat.min_eq_left h]
    · rw [Nat.min_eq_right h, List.take_of_length_le (Nat.le_refl _), List.take_of_length_le h]
  have k3 : cutV (ns.map V.int) (some (n : Int)) (some 63) = ((ns.drop n).take 63).map V.int := by
    unfold cutV
    rw [show HT.sIx (ns.map V.int).length 0 (some (n : Int)) = min n (ns.map V.int).length from HT.sIx_nat _ _ n, show HT.sIx (ns.map V.int).length (ns.map V.int).length (some 63) = min 63 (ns.map V.int).length from HT.sIx_nat _ _ 63, List.length_map]
    rw [← List.map_drop, ← List.map_take]
    congr 1
    rcases Nat.le_total n ns.length with h | h
    · rw [Nat.min_eq_left h, Nat.min_eq_right hl, List.take_of_length_le (by rw [List.length_drop]; omega), List.take_of_length_le (by rw [List.length_drop]; omega)]
    · rw [Nat.min_eq_right h, List.drop_length, List.drop_of_length_le h, List.take_nil, List.take_nil]
  rw [k1] at e2
  rw [k3] at e3
  have hz : ∀ x ∈ (ns.drop n).take 63, x.natAbs < 2 ^ a := fun x hx => hb x (List.mem_of_mem_drop (List.mem_of_mem_take hx))
  have hzl : ((ns.drop n).take 63).length ≤ 63 := List.length_take_le _ _
  have hzn : (ns.drop n).take 63 ≠ [] → n ≤ ns.length := fun h => by
    rcases Nat.le_total n ns.length with h2 | h2
    · exact h2
    · rw [List.drop_of_length_le h2, List.take_nil] at h
      exact absurd rfl h
  generalize (ns.drop n).take 63 = zs at e3 hz hzl hzn ⊢
  have hs3 : Hs3 l = none := c3.off e2 hs2
  have hl0 : H l = none := c1.fresh n2
  -- the loop: behind i turns the cells are sums
  refine for_enum (xs := zs.map V.int) (fun i σ H' => ∃ (ms : List Int) (y3 y4 : Option V), σ = [some (.ref c), some (.int (n : Int)), some (.ref l), y3, y4] ∧ Gone [] Hs H Hs3 H' ∧ H' l = some (.lst (ms.map V.int)) ∧ ms.length = min n ns.length ∧
      ∀ z ∈ ms, z.natAbs ≤ 2 ^ a * (1 + 100 * i)) ?_ ?_ ?_ ?_
  · exact ⟨ns.take n, none, none, rfl, ⟨((c1.pure c2).pure c3)⟩, c3.keep _ _ (by simp) e2, List.length_take, fun z hz => by
      have := hb z (List.mem_of_mem_take hz)
      omega⟩
  · rintro i σ H' hi ⟨ms, y3, y4, rfl, g, _⟩
    exact g.g.sub.seq (SqL.of e3)
  · rintro i x σ H' T' hx ⟨ms, y3, y4, rfl, g, hl', hlen, hbd⟩ hT
    obtain ⟨w, hw, rfl⟩ : ∃ w, zs[i]? = some w ∧ x = V.int w := by
      rw [List.getElem?_map] at hx
      cases e : zs[i]? with
      | none => rw [e] at hx; cases hx
      | some w => rw [e] at hx; exact ⟨w, rfl, (Option.some.inj hx).symm⟩
    have hwz := hz w (List.mem_of_getElem? hw)
    have hi : i < zs.length := (List.getElem?_eq_some_iff.mp hw).1
    have hnn : n ≤ ns.length := hzn (fun z => by rw [z] at hi; exact absurd hi (Nat.not_lt_zero _))
    have hmn : ms.length = n := by omega
    refine x_cell3 g.g.sub hT fun H4 c4 hs4 e4 => ?_
    refine x_gtup (SqT.of e4) rfl ?_
    have el4 : H4 l = some (.lst (ms.map V.int)) := c4.keep _ _ (by simp) hl'
    have hj : i % n < ms.length := by rw [hmn]; exact Nat.mod_lt _ hn
    have ej : (i : Int) % (n : Int) = ((i % n : Nat) : Int) := (Int.natCast_emod i n).symm
    have g1 : (ms.map V.int)[i % n]? = some (.int ms[i % n]) := by rw [List.getElem?_map, List.getElem?_eq_getElem hj]; rfl
    have hm := hbd ms[i % n] (List.getElem_mem hj)
    walk_at "rd"
    refine x_I (show (0 : Int) < (n : Int) by omega) ?_
    rw [ej]
    refine x_ixL (SqL.of el4) (atI_nat g1) ?_
    walk_at "rd"
    refine x_I (mulx_ok (a := a) (b := 10) hwz (by omega) (by omega)) ?_
    walk_at "rd"
    refine x_I (show (0 : Int) < (n : Int) by omega) ?_
    rw [ej]
    refine x_setL el4 (j := i % n) (by
      unfold ixN
      rw [List.length_map, if_pos (by omega), if_pos (by omega), Int.toNat_natCast]) ?_
    refine ⟨ms.set (i % n) (ms[i % n] + w * ((i : Int) + 2)), _, _, rfl, (g.pure c4).put hs3 (.inr hl0), ?_, by rw [List.length_set]; exact hlen, ?_⟩
    · rw [List.map_set]
      exact upd_same
    · intro z hzm
      rcases List.mem_or_eq_of_mem_set hzm with h | h
      · have := hbd z h
        refine Nat.le_trans this (Nat.mul_le_mul_left _ (by omega))
      · rw [h]
        have h1 : (w * ((i : Int) + 2)).natAbs ≤ 2 ^ a * 100 := by
          rw [Int.natAbs_mul]
          exact Nat.mul_le_mul (Nat.le_of_lt hwz) (by omega)
        have h2 := Int.natAbs_add_le ms[i % n] (w * ((i : Int) + 2))
        have h3 : 2 ^ a * (1 + 100 * (i + 1)) = 2 ^ a * (1 + 100 * i) + 2 ^ a * 100 := by rw [show 1 + 100 * (i + 1) = (1 + 100 * i) + 100 by omega, Nat.mul_add]
        omega
  · rintro σ H' ⟨ms, y3, y4, rfl, g, hl', hlen, hbd⟩
    walk_at "rd"
    refine q (upd Hs3 l (.lst (ms.map V.int))) H' l ms (g.frozen hl' hl0 hs3).g upd_same hlen fun z hz => ?_
    have h1 := hbd z hz
    rw [List.length_map] at h1
    have h2 : 2 ^ (a + 20) = 2 ^ a * 1048576 := by rw [Nat.pow_add]
    have h3 : 2 ^ a * (1 + 100 * zs.length) < 2 ^ a * 1048576 := Nat.mul_lt_mul_of_pos_left (by omega) (Nat.two_pow_pos _)
    omega
theorem pure_is_name {xs : List SV} {k : SV → List SV → Prop} (h : sp_is_name xs k) (w : WfArgs xs) : d_is_name (dEnd k xs) (dstart N_is_name xs) := by
  obtain ⟨d, rfl, q⟩ := h
  unfold d_is_name
  cases d with
  | str z =>
    have hw := (wf_str.mp (w 0 _ rfl)).1
    have q : k (.d (.bool (nameB z))) [.no] := q
    walk_at "dl"
    refine ite2 (fun h1 => ?_) (fun h1 => ?_)
    · have h1 : 1 ≤ z.length := by have := of_decide_eq_true h1; omega
      walk_at "dl"
      by_cases h2 : (z.length : Int) ≤ 8
      · rw [decide_eq_true h2]
        have h2 : z.length ≤ 8 := by omega
        walk_at "dl"
        refine ⟨fun i acc e => e = [.d (.str z), .no] ∧ acc = ((tl z).take i).map fun c => .bool (decide (97 ≤ c) && decide (c ≤ 122)), ⟨rfl, rfl⟩, ?_, ?_⟩
        · rintro i x acc e2 hx ⟨rfl, rfl⟩
          unfold sgns at hx
          rw [List.getElem?_map] at hx
          obtain ⟨c, hc, rfl⟩ := Option.map_eq_some_iff.mp hx
          walk_at "dl"
          refine y_inSg ?_
          rw [in_alpha]
          walk_at "dl"
          refine ⟨sz_lt (by rw [List.length_map, List.length_take, ← len_tl]; omega), rfl, ?_⟩
          rw [List.take_add_one, hc, List.map_append]
          rfl
        · rintro acc e2 ⟨rfl, rfl⟩
          walk_at "dl"
          refine y_all (bs := (tl z).map fun c => decide (97 ≤ c) && decide (c ≤ 122)) ?_ ?_
          · unfold sgns
            rw [List.length_map, List.take_length, List.map_map]
            rfl
          · walk_at "dl"
            rw [nameB_eq, decide_eq_true h1, decide_eq_true h2, Bool.true_and, Bool.true_and, ← all_map] at q
            exact q
      · rw [decide_eq_false h2]
        walk_at "dl"
        rw [nameB_eq, decide_eq_false (show ¬ z.length ≤ 8 by omega), Bool.and_false, Bool.false_and] at q
        exact q
    · have h1 : ¬ 1 ≤ z.length := fun z => h1 (decide_eq_true (by omega))
      walk_at "dl"
      rw [nameB_eq, decide_eq_false h1, Bool.false_and, Bool.false_and] at q
      exact q
  | _ =>
    walk_at "dl"
    exact q
theorem pure_is_path {xs : List SV} {k : SV → List SV → Prop} (h : sp_is_path xs k) (w : WfArgs xs) : d_is_path (dEnd k xs) (dstart N_is_path xs) := by
  obtain ⟨d, rfl, hz, q⟩ := h
  unfold d_is_path
  cases d with
  | str z =>
    have hz : z.length ≤ 100000 := of_decide_eq_true hz
    have q : k (.d (.bool (pathB z))) [.no] := q
    walk_at "dl"
    refine y_split (s := 47) (by decide +kernel) (by decide) (by rw [sizeLine_eq]; omega) ?_
    obtain ⟨f, rs, es, ec, hlen, hparts⟩ := split_parts z (y := "/") (s := 47) (by decide +kernel) (by decide)
    rw [path_parts ec] at q
    rw [es, List.map_cons]
    refine y_gStar1 rfl rfl rfl ?_
    walk_at "dl"
    rw [List.length_map]
    by_cases h3 : rs.length < 3
    · rw [decide_eq_true (show (rs.length : Int) < 3 by omega)]
      rw [decide_eq_true h3, Bool.true_and] at q
      walk_at "dl"
      rw [Bool.beq_eq_decide_eq]
      by_cases hT : f = "tag"
      · rw [decide_eq_true hT] at q ⊢
        walk_at "dl"
        exact q
      · rw [decide_eq_false hT] at q ⊢
        rw [Bool.not_false, Bool.true_and] at q
        walk_at "dl"
        refine y_addL (by rw [List.length_map]; exact sz_le (by show 1 + rs.length ≤ _; omega)) ?_
        walk_at "dl"
        refine ⟨fun i acc e => e = [.d (.str z), .d (.str f), .own (.lst (rs.map .str)), .no] ∧ acc = ((f :: rs).take i).map fun p => .bool (nameB p), ⟨rfl, rfl⟩, ?_, ?_⟩
        · rintro i x acc e2 hx ⟨rfl, rfl⟩
          have hx : ((f :: rs).map PyData.str)[i]? = some x := hx
          rw [List.getElem?_map] at hx
          obtain ⟨y, hy, rfl⟩ := Option.map_eq_some_iff.mp hx
          walk_at "dl"
          refine ⟨_, rfl, ?_⟩
          walk_at "dl"
          refine ⟨sz_lt (by rw [List.length_map, List.length_take, List.length_cons]; omega), rfl, ?_⟩
          rw [List.take_add_one, hy, List.map_append]
          rfl
        · rintro acc e2 ⟨rfl, rfl⟩
          walk_at "dl"
          refine y_all (bs := (f :: rs).map nameB) ?_ ?_
          · show ((f :: rs).take ((f :: rs).map PyData.str).length).map _ = _
            rw [List.length_map, List.take_length, List.map_map]
            rfl
          · walk_at "dl"
            rw [show ((f :: rs).map nameB).all id = (f :: rs).all nameB by rw [List.all_map]; rfl]
            exact q
    · rw [decide_eq_false (show ¬ (rs.length : Int) < 3 by omega)]
      rw [decide_eq_false h3, Bool.false_and] at q
      walk_at "dl"
      exact q
  | _ =>
    walk_at "dl"
    exact q
theorem pure_is_number {xs : List SV} {k : SV → List SV → Prop} (h : sp_is_number xs k) (w : WfArgs xs) : d_is_number (dEnd k xs) (dstart N_is_number xs) := by
  obtain ⟨d, lo, hi, rfl, q⟩ := h
  unfold d_is_number
  cases d with
  | int i =>
    have q : k (.d (.bool (decide (lo ≤ i) && decide (i ≤ hi)))) [.no, .no, .no] := q
    walk_at "dl"
    by_cases h1 : lo ≤ i
    · rw [decide_eq_true h1] at q ⊢
      walk_at "dl"
      exact q
    · rw [decide_eq_false h1] at q ⊢
      walk_at "dl"
      exact q
  | _ =>
    walk_at "dl"
    exact q
theorem pure_is_day {xs : List SV} {k : SV → List SV → Prop} (h : sp_is_day xs k) (w : WfArgs xs) : d_is_day (dEnd k xs) (dstart N_is_day xs) := by
  obtain ⟨d, rfl, q⟩ := h
  unfold d_is_day
  walk_at "dl"
  refine ⟨d, 0, 999, rfl, ?_⟩
  walk_at "dl"
  exact q
theorem title_eq {z : Str} {a : Nat} {r : List Nat} (h : tl z = a :: r) : titleB z = (decide (r.length < 40) && !decide (10 ∈ a :: r) && decide (a ≠ 32) && decide ((a :: r).getLast (by simp) ≠ 32)) := by
  unfold titleB
  split
  · rename_i e
    rw [e] at h
    cases h
  · rename_i b t e
    rw [e] at h
    cases h
    rfl
theorem atI_gl {a : Nat} {r : List Nat} : atI (a :: r) (-1) = some ((a :: r).getLast (by simp)) := by
  have h := atI_last (a :: r).dropLast ((a :: r).getLast (by simp))
  rw [List.dropLast_concat_getLast] at h
  exact h
theorem one_beq {a c : Nat} : ((⟨#[a]⟩ : Str) == ⟨#[c]⟩) = decide (a = c) := by
  rw [Bool.beq_eq_decide_eq]
  refine decide_eq_decide.mpr ⟨fun e => ?_, fun e => by rw [e]⟩
  have := congrArg (fun s : Str => s.cps.toList) e
  simpa using this
theorem z_notInSg {c : Nat} {z : Str} {ks : SV → Prop} (q : ks (.d (.bool (!decide (c ∈ tl z))))) : dNotIn (.str ⟨#[c]⟩) (.str z) ks := .inr ⟨c, rfl, q⟩
theorem pure_is_title {xs : List SV} {k : SV → List SV → Prop} (h : sp_is_title xs k) (w : WfArgs xs) : d_is_title (dEnd k xs) (dstart N_is_title xs) := by
  obtain ⟨d, rfl, q⟩ := h
  unfold d_is_title
  cases d with
  | str z =>
    have hlen := len_tl z
    have q : k (.d (.bool (titleB z))) [.no] := q
    walk_at "dl"
    cases hz : tl z with
    | nil =>
      rw [hz] at hlen
      have hlen : z.length = 0 := hlen
      have e : titleB z = false := by
        unfold titleB
        rw [hz]
      rw [e] at q
      rw [decide_eq_false (show ¬ (1 : Int) ≤ (z.length : Int) by omega)]
      walk_at "dl"
      exact q
    | cons a r =>
      rw [hz, List.length_cons] at hlen
      rw [title_eq hz] at q
      rw [decide_eq_true (show (1 : Int) ≤ (z.length : Int) by omega)]
      walk_at "dl"
      by_cases h2 : r.length < 40
      · rw [decide_eq_true (show (z.length : Int) ≤ 40 by omega)]
        rw [decide_eq_true h2] at q
        walk_at "dl"
        refine y_inSg (c := 10) ?_
        rw [hz]
        by_cases h3 : 10 ∈ a :: r
        · rw [decide_eq_true h3] at q ⊢
          walk_at "dl"
          exact q
        · rw [decide_eq_false h3] at q ⊢
          walk_at "dl"
          refine y_ixS (c := a) (by rw [hz]; exact atI_zero _ _) ?_
          walk_at "dl"
          rw [show (({ cps := #[a] } : Str) == " ") = decide (a = 32) from one_beq]
          by_cases h4 : a = 32
          · rw [decide_eq_true h4]
            rw [decide_eq_false (show ¬ a ≠ 32 from fun n => n h4)] at q
            walk_at "dl"
            exact q
          · rw [decide_eq_false h4]
            rw [decide_eq_true (show a ≠ 32 from h4)] at q
            walk_at "dl"
            refine y_ixS (c := (a :: r).getLast (by simp)) (by rw [hz]; exact atI_gl) ?_
            walk_at "dl"
            rw [show (({ cps := #[(a :: r).getLast (by simp)] } : Str) == " ") = decide ((a :: r).getLast (by simp) = 32) from one_beq]
            by_cases h5 : (a :: r).getLast (by simp) = 32
            · rw [decide_eq_true h5]
              rw [decide_eq_false (show ¬ (a :: r).getLast (by simp) ≠ 32 from fun n => n h5)] at q
              exact q
            · rw [decide_eq_false h5]
              rw [decide_eq_true (show (a :: r).getLast (by simp) ≠ 32 from h5)] at q
              exact q
      · rw [decide_eq_false (show ¬ (z.length : Int) ≤ 40 by omega)]
        rw [decide_eq_false h2] at q
        walk_at "dl"
        exact q
  | _ =>
    walk_at "dl"
    exact q
theorem pure_is_truth {xs : List SV} {k : SV → List SV → Prop} (h : sp_is_truth xs k) (w : WfArgs xs) : d_is_truth (dEnd k xs) (dstart N_is_truth xs) := by
  obtain ⟨d, rfl, q⟩ := h
  unfold d_is_truth
  cases d <;> (walk_at "dl"; exact q)
theorem pure_is_line {xs : List SV} {k : SV → List SV → Prop} (h : sp_is_line xs k) (w : WfArgs xs) : d_is_line (dEnd k xs) (dstart N_is_line xs) := by
  obtain ⟨d, rfl, q⟩ := h
  unfold d_is_line
  cases d with
  | str z =>
    have q : k (.d (.bool (decide (z.length ≤ 50) && !decide (10 ∈ tl z)))) [.no] := q
    walk_at "dl"
    by_cases h1 : z.length ≤ 50
    · rw [decide_eq_true (show (z.length : Int) ≤ 50 by omega)]
      rw [decide_eq_true h1] at q
      walk_at "dl"
      refine z_notInSg (c := 10) ?_
      walk_at "dl"
      exact q
    · rw [decide_eq_false (show ¬ (z.length : Int) ≤ 50 by omega)]
      rw [decide_eq_false h1] at q
      walk_at "dl"
      exact q
  | _ =>
    walk_at "dl"
    exact q
theorem pure_rises {xs : List SV} {k : SV → List SV → Prop} (h : sp_rises xs k) (w : WfArgs xs) : d_rises (dEnd k xs) (dstart N_rises xs) := by
  obtain ⟨ys, rfl, hl, q⟩ := h
  unfold d_rises
  walk_at "dl"
  rw [show cutX (ys.map PyData.str) (some 1) none = (ys.map PyData.str).drop 1 from cutX_lo _ 1]
  refine ⟨fun i acc e => e = dstart N_rises [.d (.tuple (ys.map .str))] ∧ acc = ((ys.zip (ys.drop 1)).take i).map fun p => .bool (decide (tl p.1 < tl p.2)), ⟨rfl, rfl⟩, ?_, ?_⟩
  · rintro i x acc e2 hx ⟨rfl, rfl⟩
    obtain ⟨a, b, ha, hb, rfl⟩ := zipD_get hx
    rw [List.getElem?_map] at ha
    rw [← List.map_drop, List.getElem?_map] at hb
    obtain ⟨y, hy, rfl⟩ := Option.map_eq_some_iff.mp ha
    obtain ⟨y2, hy2, rfl⟩ := Option.map_eq_some_iff.mp hb
    walk_at "dl"
    have hp : (ys.zip (ys.drop 1))[i]? = some (y, y2) := List.getElem?_zip_eq_some.mpr ⟨hy, hy2⟩
    refine ⟨sz_lt (by rw [List.length_map, List.length_take, List.length_zip]; omega), rfl, ?_⟩
    rw [List.take_add_one, hp, List.map_append]
    rfl
  · rintro acc e2 ⟨rfl, rfl⟩
    walk_at "dl"
    refine y_all (bs := (ys.zip (ys.drop 1)).map fun p => decide (tl p.1 < tl p.2)) ?_ ?_
    · rw [List.map_map, List.take_of_length_le]
      · rfl
      · unfold zipD
        rw [List.length_map, List.length_zip, List.length_zip, List.length_drop, List.length_drop, List.length_map]
        exact Nat.le_refl _
    · rw [List.all_map]
      have e := rises_zip ys
      rw [← e] at q
      walk_at "dl"
      exact q
theorem look_at {i : Nat} {z : Str} (h : keys_LOOKS[i]? = some z) : ∃ (sp : DSp) (f : PyData → Bool), (z, sp) ∈ tbd_LOOKS ∧ partsB[i]? = some (z, f) ∧ ∀ (d : PyData) (k : SV → List SV → Prop), smallT d = true → k (.d (.bool (f d))) [.no] → sp [.d d] k := by
  match i, h with
  | 0, h => cases h; exact ⟨sp_is_title, titleD, by simp [tbd_LOOKS], rfl, fun d k _ q => ⟨d, rfl, q⟩⟩
  | 1, h => cases h; exact ⟨sp_is_day, dayD, by simp [tbd_LOOKS], rfl, fun d k _ q => ⟨d, rfl, q⟩⟩
  | 2, h => cases h; exact ⟨sp_is_truth, truthD, by simp [tbd_LOOKS], rfl, fun d k _ q => ⟨d, rfl, q⟩⟩
  | 3, h => cases h; exact ⟨sp_are_tags, tagsD, by simp [tbd_LOOKS], rfl, fun d k _ q => ⟨d, rfl, q⟩⟩
  | 4, h => cases h; exact ⟨sp_is_name, nameD, by simp [tbd_LOOKS], rfl, fun d k _ q => ⟨d, rfl, q⟩⟩
  | 5, h => cases h; exact ⟨sp_are_olds, oldsD, by simp [tbd_LOOKS], rfl, fun d k s q => ⟨d, rfl, s, q⟩⟩
  | 6, h => cases h; exact ⟨sp_are_rows, rowsD, by simp [tbd_LOOKS], rfl, fun d k _ q => ⟨d, rfl, q⟩⟩
  | n + 7, h => cases h
theorem bad_step {ps : List (Str × (PyData → Bool))} {ds : List PyData} {i : Nat} {z : Str} {f : PyData → Bool} {d : PyData} (h1 : ps[i]? = some (z, f)) (h2 : ds[i]? = some d) :
    badOf (ps.drop i) (ds.drop i) = if f d = true then badOf (ps.drop (i + 1)) (ds.drop (i + 1)) else .str z := by
  obtain ⟨l1, e1⟩ := List.getElem?_eq_some_iff.mp h1
  obtain ⟨l2, e2⟩ := List.getElem?_eq_some_iff.mp h2
  rw [List.drop_eq_getElem_cons l1, List.drop_eq_getElem_cons l2, e1, e2]
  rfl
theorem pure_first_bad {xs : List SV} {k : SV → List SV → Prop} (h : sp_first_bad xs k) (w : WfArgs xs) : d_first_bad (dEnd k xs) (dstart N_first_bad xs) := by
  obtain ⟨ds, rfl, hl, hs, q⟩ := h
  unfold d_first_bad
  walk_at "dl"
  refine ⟨hl, ?_⟩
  refine ⟨fun i e => e = [.d (.tuple ds), .no, .no, .no] ∧ badOf partsB ds = badOf (partsB.drop i) (ds.drop i), ⟨rfl, rfl⟩, ?_, ?_⟩
  · rintro i x e2 hx ⟨rfl, hb⟩
    obtain ⟨z, d, hz, hd, rfl⟩ := zipK_get hx
    obtain ⟨sp, f, hm, hp, hsp⟩ := look_at hz
    walk_at "dl"
    refine ⟨z, d, sp, rfl, rfl, hm, rfl, fun w => hsp d _ (hs d (List.mem_of_getElem? hd)) ⟨f d, rfl, ?_⟩⟩
    rw [bad_step hp hd] at hb
    cases hf : f d with
    | true =>
      rw [hf] at hb
      exact ⟨rfl, hb⟩
    | false =>
      rw [hf] at hb
      have hb : badOf partsB ds = .str z := hb
      rw [hb] at q
      refine iteF ?_
      walk_at "dl"
      exact q
  · rintro e2 ⟨rfl, hb⟩
    walk_at "dl"
    have e : badOf partsB ds = .none := by
      rw [hb]
      unfold zipK
      rw [List.length_map, List.length_zip, hl, List.drop_of_length_le (show partsB.length ≤ min keys_LOOKS.length 7 from Nat.le_refl 7)]
      rfl
    rw [e] at q
    exact q
theorem pure_is_source {xs : List SV} {k : SV → List SV → Prop} (h : sp_is_source xs k) (w : WfArgs xs) : d_is_source (dEnd k xs) (dstart N_is_source xs) := by
  obtain ⟨d, rfl, hs, q⟩ := h
  unfold d_is_source
  cases d with
  | tuple ds =>
    walk_at "dl"
    by_cases h7 : ds.length = 7
    · rw [show ((ds.length : Int) == (keys_LOOKS.length : Int)) = true by rw [h7]; rfl]
      rw [source_bad h7] at q
      walk_at "dl"
      have hs2 : ∀ x ∈ ds, smallT x = true := by
        unfold smallS at hs
        rw [Bool.and_eq_true] at hs
        exact List.all_eq_true.mp hs.2
      refine ⟨ds, rfl, h7, hs2, ?_⟩
      walk_at "dl"
      cases hb : badOf partsB ds with
      | none =>
        rw [hb] at q
        walk_at "dl"
        exact q
      | _ =>
        rw [hb] at q
        walk_at "dl"
        exact q
    · rw [show ((ds.length : Int) == (keys_LOOKS.length : Int)) = false by rw [beq_eq_false_iff_ne]; show (ds.length : Int) ≠ 7; omega]
      rw [source_len h7] at q
      walk_at "dl"
      exact q
  | _ =>
    walk_at "dl"
    exact q
end K04

namespace K04
open PySem PySem.Spec PyProof.Rows L2 DL TL
local macro_rules | `(tactic| walk_at "rd1") => `(tactic| first
  | with_reducible refine x_seq ?_ | with_reducible refine x_asg ?_ | with_reducible refine x_name ?_ | with_reducible refine x_ret ?_ | with_reducible refine x_drop ?_
  | with_reducible refine x_next ?_ | with_reducible refine x_ifs ?_ | with_reducible refine x_test ?_ | with_reducible refine x_tB ?_ | with_reducible refine x_bl ?_
  | with_reducible refine x_nil ?_ | with_reducible refine x_cons ?_ | with_reducible refine x_cb ?_ | with_reducible refine x_not ?_ | with_reducible refine x_and ?_ | with_reducible refine x_or ?_
  | with_reducible refine x_andV ?_ | with_reducible refine x_orV ?_ | with_reducible refine x_notV ?_ | with_reducible refine x_if ?_ | with_reducible refine x_chain ?_
  | with_reducible refine x_op ?_ | with_reducible refine x_un ?_ | with_reducible refine x_c ?_ | with_reducible refine x_I0 ?_ | with_reducible refine x_U ?_ | with_reducible refine x_bm ?_
  | with_reducible refine x_call ?_ | with_reducible refine x_callK ?_ | with_reducible refine x_m1 ?_ | with_reducible refine x_isstr ?_ | with_reducible refine x_sub ?_ | with_reducible refine x_lstA ?_ | with_reducible refine x_tupA ?_
  | with_reducible refine x_abs ?_ | with_reducible refine x_int1b ?_ | with_reducible refine x_sl ?_ | with_reducible refine x_nopart ?_ | with_reducible refine x_part ?_ | with_reducible refine x_isint ?_
  | with_reducible refine x_gcons ?_ | with_reducible refine x_gnil ?_ | with_reducible refine x_tpar ?_ | with_reducible refine x_par ?_ | with_reducible refine x_for ?_ | with_reducible refine x_rng1 ?_
  | with_reducible refine x_istr ?_ | with_reducible refine x_strv ?_ | with_reducible refine x_ilist ?_ | with_reducible refine x_ienum ?_
  | with_reducible refine x_isN ?_ | with_reducible refine x_isNotN ?_ | with_reducible refine x_izip ?_
  | with_reducible refine x_tpar3 ?_ | with_reducible refine x_par3 ?_ | with_reducible refine x_slS (by assumption) ?_
  | with_reducible refine x_lc ?_ | with_reducible refine x_yes ?_ | with_reducible refine iteT ?_ | with_reducible refine iteF ?_
  | with_reducible refine x_lenL (by assumption) ?_ | with_reducible refine x_lenT (by assumption) ?_ | with_reducible refine x_lenS (by assumption) ?_
  | ((with_reducible show tVar _ _ _ _); refine ⟨_, rfl, ?_⟩)
  | ((with_reducible apply x_ixL); (first | assumption | exact SqL.of (by assumption)); rfl))
local macro_rules | `(tactic| walk_at "rd") => `(tactic| repeat walk_at "rd1")
local macro_rules | `(tactic| walk_at "sn") => `(tactic| simp only [reduceCtorEq, decide_false, decide_true, Bool.false_eq_true, Bool.not_true, Bool.not_false, if_false, if_true, ite_true, ite_false, isD_list, isD_tuple, isD_str, isD_bool, isD_int, isSeq])
local macro_rules | `(tactic| walk_at "go") => `(tactic| repeat (first | walk_at "rd1" | walk_at "sn"))

local macro_rules | `(tactic| walk_at "nc") => `(tactic| ((refine DL.n_cons (t' := ?t1) rfl ?_); rotate_left))
local macro_rules | `(tactic| walk_at "nE") => `(tactic| ((repeat walk_at "nc"); exact (rfl : (_ : DL.Env) = [])))
local macro_rules | `(tactic| walk_at "dl1") => `(tactic| ((with_reducible show ∃ r, DL.retC _ _ = some r ∧ _); refine ⟨_, rfl, ?_⟩))
local macro_rules | `(tactic| walk_at "dl1") => `(tactic| with_reducible refine DL.y_yes ?_)
local macro_rules | `(tactic| walk_at "dl1") => `(tactic| with_reducible refine DL.z_lc ?_)
local macro_rules | `(tactic| walk_at "dl1") => `(tactic| with_reducible refine DL.z_fS ?_)
local macro_rules | `(tactic| walk_at "dl1") => `(tactic| with_reducible refine DL.z_replC ?_)
local macro_rules | `(tactic| walk_at "dl1") => `(tactic| with_reducible refine DL.z_stripC ?_)
local macro_rules | `(tactic| walk_at "dl1") => `(tactic| with_reducible refine DL.z_zipK ?_)
local macro_rules | `(tactic| walk_at "dl1") => `(tactic| ((with_reducible refine DL.z_gStar2T (d := ?d1) (d2 := ?d2) (ds := ?d3) ?h1 ?h2 ?h3 ?h4 ?q); (case h1 => exact rfl); (case h2 => exact rfl); (case h3 => exact rfl); (case h4 => exact rfl)))
local macro_rules | `(tactic| walk_at "dl1") => `(tactic| ((with_reducible refine DL.z_keyE (ky := ?d1) ?h ?q); (case h => exact rfl)))
local macro_rules | `(tactic| walk_at "dl1") => `(tactic| with_reducible refine DL.z_dc ?_)
local macro_rules | `(tactic| walk_at "dl1") => `(tactic| with_reducible refine DL.z_dictOf ?_)
local macro_rules | `(tactic| walk_at "dl1") => `(tactic| with_reducible refine DL.z_snoc ?_)
local macro_rules | `(tactic| walk_at "dl1") => `(tactic| with_reducible refine DL.z_jsN ?_)
local macro_rules | `(tactic| walk_at "dl1") => `(tactic| with_reducible refine DL.z_jsC ?_)
local macro_rules | `(tactic| walk_at "dl1") => `(tactic| ((with_reducible refine DL.z_jsE (z := ?d1) ?h ?q); (case h => exact rfl)))
local macro_rules | `(tactic| walk_at "dl1") => `(tactic| with_reducible refine DL.z_joined ?_)
local macro_rules | `(tactic| walk_at "dl1") => `(tactic| ((with_reducible refine DL.z_fmtS (z := ?d1) ?h ?q); (case h => exact rfl)))
local macro_rules | `(tactic| walk_at "dl1") => `(tactic| with_reducible refine DL.z_fmt ?_)
local macro_rules | `(tactic| walk_at "dl1") => `(tactic| ((with_reducible refine DL.z_dget1E (kvs := ?d1) (ky := ?d2) ?h1 ?h2 ?q); (case h1 => exact rfl); (case h2 => exact rfl)))
local macro_rules | `(tactic| walk_at "dl1") => `(tactic| with_reducible refine DL.z_dnotin ?_)
local macro_rules | `(tactic| walk_at "dl1") => `(tactic| with_reducible refine DL.z_din ?_)
local macro_rules | `(tactic| walk_at "dl1") => `(tactic| ((with_reducible refine DL.z_dget1 ?h ?q); (case h => exact ⟨_, rfl⟩)))
local macro_rules | `(tactic| walk_at "dl1") => `(tactic| ((with_reducible refine DL.z_dget ?h ?q); (case h => exact ⟨_, rfl⟩)))
local macro_rules | `(tactic| walk_at "dl1") => `(tactic| ((with_reducible refine DL.z_seeS (z := ?d1) ?h ?q); (case h => exact rfl)))
local macro_rules | `(tactic| walk_at "dl1") => `(tactic| ((with_reducible refine DL.z_seeM (z := ?d1) ?h ?q); (case h => exact rfl)))
local macro_rules | `(tactic| walk_at "dl1") => `(tactic| ((with_reducible refine DL.z_count ?h ?q); (case h => exact ⟨_, rfl⟩)))
local macro_rules | `(tactic| walk_at "dl1") => `(tactic| ((with_reducible refine DL.z_seeT (ds := ?d1) ?h ?q); (case h => exact rfl)))
local macro_rules | `(tactic| walk_at "dl1") => `(tactic| with_reducible refine DL.z_revT ?_)
local macro_rules | `(tactic| walk_at "dl1") => `(tactic| with_reducible refine DL.z_revS ?_)
local macro_rules | `(tactic| walk_at "dl1") => `(tactic| with_reducible refine DL.z_ixM ?_)
local macro_rules | `(tactic| walk_at "dl1") => `(tactic| with_reducible refine DL.z_inM ?_)
local macro_rules | `(tactic| walk_at "dl1") => `(tactic| with_reducible refine DL.z_modk ?_)
local macro_rules | `(tactic| walk_at "dl1") => `(tactic| ((with_reducible refine DL.z_gStar0 (d := ?d1) (ds := ?d2) ?h1 ?h2 ?h3 ?q); (case h1 => exact rfl); (case h2 => exact rfl); (case h3 => exact rfl)))
local macro_rules | `(tactic| walk_at "dl1") => `(tactic| with_reducible refine DL.z_strS ?_)
local macro_rules | `(tactic| walk_at "dl1") => `(tactic| with_reducible refine DL.z_isT ?_)
local macro_rules | `(tactic| walk_at "dl1") => `(tactic| with_reducible refine DL.z_enumT ?_)
local macro_rules | `(tactic| walk_at "dl1") => `(tactic| with_reducible refine DL.z_elt ?_)
local macro_rules | `(tactic| walk_at "dl1") => `(tactic| with_reducible refine DL.z_cl ?_)
local macro_rules | `(tactic| walk_at "dl1") => `(tactic| with_reducible refine DL.z_lcr ?_)
local macro_rules | `(tactic| walk_at "dl1") => `(tactic| ((with_reducible refine DL.z_flatR ?h1 ?q); (case h1 => exact rfl)))
local macro_rules | `(tactic| walk_at "dl1") => `(tactic| with_reducible refine DL.z_callF ?_)
local macro_rules | `(tactic| walk_at "dl1") => `(tactic| with_reducible refine DL.z_int1b ?_)
local macro_rules | `(tactic| walk_at "dl1") => `(tactic| with_reducible refine DL.z_int1 ?_)
local macro_rules | `(tactic| walk_at "dl1") => `(tactic| with_reducible refine DL.z_frz ?_)
local macro_rules | `(tactic| walk_at "dl1") => `(tactic| with_reducible refine DL.y_zip ?_)
local macro_rules | `(tactic| walk_at "dl1") => `(tactic| with_reducible refine DL.y_isL ?_)
local macro_rules | `(tactic| walk_at "dl1") => `(tactic| with_reducible refine DL.y_enum ?_)
local macro_rules | `(tactic| walk_at "dl1") => `(tactic| with_reducible refine DL.y_isII ?_)
local macro_rules | `(tactic| walk_at "dl1") => `(tactic| with_reducible refine DL.y_r2 ?_)
local macro_rules | `(tactic| walk_at "dl1") => `(tactic| with_reducible refine DL.y_r1 ?_)
local macro_rules | `(tactic| walk_at "dl1") => `(tactic| ((with_reducible refine DL.y_iter (xs := ?d1) ?h1 ?q); (case h1 => exact rfl)))
local macro_rules | `(tactic| walk_at "dl1") => `(tactic| with_reducible refine DL.y_iany ?_)
local macro_rules | `(tactic| walk_at "dl1") => `(tactic| with_reducible refine DL.z_wipe ?_)
local macro_rules | `(tactic| walk_at "dl1") => `(tactic| with_reducible refine DL.z_sforW ?_)
local macro_rules | `(tactic| walk_at "dl1") => `(tactic| with_reducible refine DL.z_sfor ?_)
local macro_rules | `(tactic| walk_at "dl1") => `(tactic| ((with_reducible refine DL.z_par3EA ?k1 ?k2 ?k3 ?n1 ?n2 ?n3 ?q); (case k1 => exact rfl); (case k2 => exact rfl); (case k3 => exact rfl); (case n1 => exact rfl); (case n2 => exact rfl); (case n3 => exact rfl)))
local macro_rules | `(tactic| walk_at "dl1") => `(tactic| ((with_reducible refine DL.z_parEA ?k1 ?k2 ?n1 ?n2 ?q); (case k1 => exact rfl); (case k2 => exact rfl); (case n1 => exact rfl); (case n2 => exact rfl)))
local macro_rules | `(tactic| walk_at "dl1") => `(tactic| with_reducible refine DL.z_par3A ?_)
local macro_rules | `(tactic| walk_at "dl1") => `(tactic| with_reducible refine DL.z_parA ?_)
local macro_rules | `(tactic| walk_at "dl1") => `(tactic| with_reducible refine DL.y_isD ?_)
local macro_rules | `(tactic| walk_at "dl1") => `(tactic| with_reducible refine DL.z_asg2 ?_)
local macro_rules | `(tactic| walk_at "dl1") => `(tactic| ((with_reducible refine DL.z_augEA ?h1 ?q); (case h1 => exact rfl)))
local macro_rules | `(tactic| walk_at "dl1") => `(tactic| with_reducible refine DL.y_aI ?_)
local macro_rules | `(tactic| walk_at "dl1") => `(tactic| ((with_reducible refine DL.z_augA (d := ?d1) ?h ?q); (case h => exact rfl)))
local macro_rules | `(tactic| walk_at "dl1") => `(tactic| ((with_reducible show DL.gT _ _ _ _ _); refine DL.y_gT rfl ?_))
local macro_rules | `(tactic| walk_at "dl1") => `(tactic| with_reducible refine DL.y_gscons ?_)
local macro_rules | `(tactic| walk_at "dl1") => `(tactic| with_reducible refine DL.y_gsnil ?_)
local macro_rules | `(tactic| walk_at "dl1") => `(tactic| ((with_reducible refine DL.y_flat ?h1 ?q); (case h1 => exact rfl)))
local macro_rules | `(tactic| walk_at "dl1") => `(tactic| ((with_reducible refine DL.y_parsB (zs := ?d1) ?h1 ?q); (case h1 => exact rfl)))
local macro_rules | `(tactic| walk_at "dl1") => `(tactic| with_reducible refine DL.y_callB ?_)
local macro_rules | `(tactic| walk_at "dl1") => `(tactic| ((with_reducible refine DL.y_pars (zs := ?d1) ?h1 ?h2 ?q); (case h1 => exact rfl); (case h2 => (first | exact List.nodup_nil | exact List.nodup_singleton _ | simp [DL.alsOf]))))
local macro_rules | `(tactic| walk_at "dl1") => `(tactic| with_reducible refine DL.z_call ?_)
local macro_rules | `(tactic| walk_at "dl1") => `(tactic| ((with_reducible show DL.argOK _ _ _); first | refine DL.y_ao ?_ | refine DL.y_aoo ?_))
local macro_rules | `(tactic| walk_at "dl1") => `(tactic| ((with_reducible show DL.argK _ _ _); first | with_reducible refine DL.y_ad ?_ | with_reducible refine DL.y_al ?_ | with_reducible refine DL.y_ab ?_ | ((with_reducible refine DL.y_aap (o := ?d1) ?h ?q); (case h => exact rfl)) | ((with_reducible refine DL.z_aal (ds := ?d1) ?h ?q); (case h => exact rfl)) | ((with_reducible refine DL.y_aab (n := ?d1) ?h ?q); (case h => exact rfl)) | with_reducible refine DL.y_av ?_ | ((with_reducible refine DL.z_adct (kvs := ?d1) ?h ?q); (case h => exact rfl)) | with_reducible refine DL.z_aown ?_))
local macro_rules | `(tactic| walk_at "dl1") => `(tactic| ((with_reducible show DL.noAl _ _ _); first | with_reducible refine DL.y_nd ?_ | with_reducible refine DL.y_no ?_ | with_reducible refine DL.y_nal ?_ | with_reducible refine DL.y_nv ?_))
local macro_rules | `(tactic| walk_at "dl1") => `(tactic| with_reducible refine DL.y_argN ?_)
local macro_rules | `(tactic| walk_at "dl1") => `(tactic| with_reducible refine DL.y_argO ?_)
local macro_rules | `(tactic| walk_at "dl1") => `(tactic| with_reducible refine DL.y_argA ?_)
local macro_rules | `(tactic| walk_at "dl1") => `(tactic| ((with_reducible refine DL.z_reverse (ds := ?d1) ?h ?q); (case h => exact rfl)))
local macro_rules | `(tactic| walk_at "dl1") => `(tactic| ((with_reducible refine DL.y_con (ds := ?d1) ?h1 ?q); (case h1 => exact rfl)))
local macro_rules | `(tactic| walk_at "dl1") => `(tactic| ((with_reducible refine DL.z_extend ?h ?q); (case h => exact ⟨_, rfl⟩)))
local macro_rules | `(tactic| walk_at "dl1") => `(tactic| ((with_reducible refine DL.z_append ?h ?q); (case h => exact ⟨_, rfl⟩)))
local macro_rules | `(tactic| walk_at "dl1") => `(tactic| with_reducible refine DL.y_neg ?_)
local macro_rules | `(tactic| walk_at "dl1") => `(tactic| with_reducible refine DL.y_un ?_)
local macro_rules | `(tactic| walk_at "dl1") => `(tactic| with_reducible refine DL.y_isSD ?_)
local macro_rules | `(tactic| walk_at "dl1") => `(tactic| with_reducible refine DL.y_getW ?_)
local macro_rules | `(tactic| walk_at "dl1") => `(tactic| with_reducible refine DL.y_isSI ?_)
local macro_rules | `(tactic| walk_at "dl1") => `(tactic| with_reducible refine DL.y_find3 ?_)
local macro_rules | `(tactic| walk_at "dl1") => `(tactic| ((with_reducible refine DL.z_gStar1 (d := ?d1) (ds := ?d2) ?h1 ?h2 ?h3 ?q); (case h1 => exact rfl); (case h2 => exact rfl); (case h3 => exact rfl)))
local macro_rules | `(tactic| walk_at "dl1") => `(tactic| ((with_reducible refine DL.z_gStar1T (d := ?d1) (ds := ?d2) ?h1 ?h2 ?h3 ?q); (case h1 => exact rfl); (case h2 => exact rfl); (case h3 => exact rfl)))
local macro_rules | `(tactic| walk_at "dl1") => `(tactic| with_reducible refine DL.y_startswith ?_)
local macro_rules | `(tactic| walk_at "dl1") => `(tactic| with_reducible refine DL.y_m1 ?_)
local macro_rules | `(tactic| walk_at "dl1") => `(tactic| with_reducible refine DL.y_isi ?_)
local macro_rules | `(tactic| walk_at "dl1") => `(tactic| with_reducible refine DL.y_min2 ?_)
local macro_rules | `(tactic| walk_at "dl1") => `(tactic| with_reducible refine DL.y_max2 ?_)
local macro_rules | `(tactic| walk_at "dl1") => `(tactic| with_reducible refine DL.y_tupleOfT ?_)
local macro_rules | `(tactic| walk_at "dl1") => `(tactic| with_reducible refine DL.y_tupleOf ?_)
local macro_rules | `(tactic| walk_at "dl1") => `(tactic| with_reducible refine DL.y_listOfT ?_)
local macro_rules | `(tactic| walk_at "dl1") => `(tactic| with_reducible refine DL.y_listOf ?_)
local macro_rules | `(tactic| walk_at "dl1") => `(tactic| with_reducible refine DL.y_int1b ?_)
local macro_rules | `(tactic| walk_at "dl1") => `(tactic| with_reducible refine DL.y_int1 ?_)
local macro_rules | `(tactic| walk_at "dl1") => `(tactic| with_reducible refine DL.y_abs ?_)
local macro_rules | `(tactic| walk_at "dl1") => `(tactic| ((with_reducible show DL.dLen _ _); refine DL.y_len1 rfl ?_))
local macro_rules | `(tactic| walk_at "dl1") => `(tactic| ((with_reducible refine DL.y_seeAll (ds := ?d1) ?h1 ?q); (case h1 => exact rfl)))
local macro_rules | `(tactic| walk_at "dl1") => `(tactic| with_reducible refine DL.y_cb ?_)
local macro_rules | `(tactic| walk_at "dl1") => `(tactic| with_reducible refine DL.y_acons ?_)
local macro_rules | `(tactic| walk_at "dl1") => `(tactic| with_reducible refine DL.y_anil ?_)
local macro_rules | `(tactic| walk_at "dl1") => `(tactic| ((with_reducible refine DL.y_see1 (d := ?d1) ?h1 ?q); (case h1 => exact rfl)))
local macro_rules | `(tactic| walk_at "dl1") => `(tactic| with_reducible refine DL.y_slS ?_)
local macro_rules | `(tactic| walk_at "dl1") => `(tactic| with_reducible refine DL.y_slT ?_)
local macro_rules | `(tactic| walk_at "dl1") => `(tactic| with_reducible refine DL.y_slL ?_)
local macro_rules | `(tactic| walk_at "dl1") => `(tactic| with_reducible refine DL.y_osome ?_)
local macro_rules | `(tactic| walk_at "dl1") => `(tactic| with_reducible refine DL.y_onone ?_)
local macro_rules | `(tactic| walk_at "dl1") => `(tactic| with_reducible refine DL.y_sl ?_)
local macro_rules | `(tactic| walk_at "dl1") => `(tactic| ((with_reducible show _ ≤ sizeLine ∧ _); refine DL.y_len rfl ?_))
local macro_rules | `(tactic| walk_at "dl1") => `(tactic| ((with_reducible show DL.asD _ _ _); first | with_reducible refine DL.y_asd ?_ | with_reducible refine DL.y_asl ?_ | ((with_reducible refine DL.z_asal (ds := ?d1) ?h ?q); (case h => exact rfl))))
local macro_rules | `(tactic| walk_at "dl1") => `(tactic| with_reducible refine DL.y_lst ?_)
local macro_rules | `(tactic| walk_at "dl1") => `(tactic| with_reducible refine DL.y_tup ?_)
local macro_rules | `(tactic| walk_at "dl1") => `(tactic| with_reducible refine DL.y_vcons ?_)
local macro_rules | `(tactic| walk_at "dl1") => `(tactic| with_reducible refine DL.y_vnil ?_)
local macro_rules | `(tactic| walk_at "dl1") => `(tactic| ((with_reducible show DL.dIsNotN _ _ _); refine DL.y_isNotNf rfl ?_))
local macro_rules | `(tactic| walk_at "dl1") => `(tactic| ((with_reducible show DL.dIsN _ _ _); refine DL.y_isNf rfl ?_))
local macro_rules | `(tactic| walk_at "dl1") => `(tactic| with_reducible refine DL.y_isNotNt ?_)
local macro_rules | `(tactic| walk_at "dl1") => `(tactic| with_reducible refine DL.y_isNt ?_)
local macro_rules | `(tactic| walk_at "dl1") => `(tactic| with_reducible refine DL.z_cont ?_)
local macro_rules | `(tactic| walk_at "dl1") => `(tactic| with_reducible refine DL.z_break ?_)
local macro_rules | `(tactic| walk_at "dl1") => `(tactic| with_reducible refine DL.z_next ?_)
local macro_rules | `(tactic| walk_at "dl1") => `(tactic| with_reducible refine DL.z_drop ?_)
local macro_rules | `(tactic| walk_at "dl1") => `(tactic| with_reducible refine DL.z_retN ?_)
local macro_rules | `(tactic| walk_at "dl1") => `(tactic| with_reducible refine DL.z_ret ?_)
local macro_rules | `(tactic| walk_at "dl1") => `(tactic| with_reducible refine DL.y_ifs ?_)
local macro_rules | `(tactic| walk_at "dl1") => `(tactic| with_reducible refine DL.y_chain ?_)
local macro_rules | `(tactic| walk_at "dl1") => `(tactic| with_reducible refine DL.y_if ?_)
local macro_rules | `(tactic| walk_at "dl1") => `(tactic| with_reducible refine DL.y_orT ?_)
local macro_rules | `(tactic| walk_at "dl1") => `(tactic| with_reducible refine DL.y_andT ?_)
local macro_rules | `(tactic| walk_at "dl1") => `(tactic| with_reducible refine DL.y_notT ?_)
local macro_rules | `(tactic| walk_at "dl1") => `(tactic| with_reducible refine DL.y_or ?_)
local macro_rules | `(tactic| walk_at "dl1") => `(tactic| with_reducible refine DL.y_and ?_)
local macro_rules | `(tactic| walk_at "dl1") => `(tactic| with_reducible refine DL.y_not ?_)
local macro_rules | `(tactic| walk_at "dl1") => `(tactic| with_reducible refine DL.y_nx ?_)
local macro_rules | `(tactic| walk_at "dl1") => `(tactic| with_reducible refine DL.y_rt ?_)
local macro_rules | `(tactic| walk_at "dl1") => `(tactic| with_reducible refine DL.y_i4 ?_)
local macro_rules | `(tactic| walk_at "dl1") => `(tactic| with_reducible refine DL.y_i3 ?_)
local macro_rules | `(tactic| walk_at "dl1") => `(tactic| with_reducible refine DL.y_i2 ?_)
local macro_rules | `(tactic| walk_at "dl1") => `(tactic| with_reducible refine DL.y_i1 ?_)
local macro_rules | `(tactic| walk_at "dl1") => `(tactic| with_reducible refine DL.y_ie1 ?_)
local macro_rules | `(tactic| walk_at "dl1") => `(tactic| with_reducible refine DL.y_ie0 ?_)
local macro_rules | `(tactic| walk_at "dl1") => `(tactic| with_reducible refine DL.y_ifN ?_)
local macro_rules | `(tactic| walk_at "dl1") => `(tactic| with_reducible refine iteF ?_)
local macro_rules | `(tactic| walk_at "dl1") => `(tactic| with_reducible refine iteT ?_)
local macro_rules | `(tactic| walk_at "dl1") => `(tactic| ((with_reducible show DL.isiK _ _ _ _); first | refine DL.y_isk (b := true) rfl rfl ?_ | refine DL.y_isk (b := false) rfl rfl ?_ | refine DL.y_isk rfl rfl ?_))
local macro_rules | `(tactic| walk_at "dl1") => `(tactic| ((with_reducible show DL.truK _ _ _); first | refine DL.y_tkB rfl ?_ | refine DL.y_tkN rfl ?_ | refine DL.y_tkS rfl ?_ | refine DL.y_tkI rfl ?_ | refine DL.y_tkLb (b := true) rfl rfl ?_ | refine DL.y_tkLb (b := false) rfl rfl ?_ | refine DL.y_tkTb (b := true) rfl rfl ?_ | refine DL.y_tkTb (b := false) rfl rfl ?_ | refine DL.y_tkL rfl ?_ | refine DL.y_tkT rfl ?_))
local macro_rules | `(tactic| walk_at "dl1") => `(tactic| with_reducible refine DL.y_isS ?_)
local macro_rules | `(tactic| walk_at "dl1") => `(tactic| with_reducible refine DL.y_isI ?_)
local macro_rules | `(tactic| walk_at "dl1") => `(tactic| with_reducible refine DL.y_bool ?_)
local macro_rules | `(tactic| walk_at "dl1") => `(tactic| with_reducible refine DL.y_B ?_)
local macro_rules | `(tactic| walk_at "dl1") => `(tactic| with_reducible refine DL.y_tru ?_)
local macro_rules | `(tactic| walk_at "dl1") => `(tactic| ((with_reducible show DL.gN _ _ _ _); first | ((with_reducible refine DL.z_gd ?h ?q); (case h => exact rfl)) | ((with_reducible refine DL.z_go ?h ?q); (case h => exact rfl)) | ((with_reducible refine DL.z_gal (ds := ?d1) ?h ?h2 ?q); (case h => exact rfl); (case h2 => exact rfl)) | ((with_reducible refine DL.z_gv ?h ?q); (case h => exact rfl))))
local macro_rules | `(tactic| walk_at "dl1") => `(tactic| with_reducible refine DL.y_neB ?_)
local macro_rules | `(tactic| walk_at "dl1") => `(tactic| with_reducible refine DL.y_neI ?_)
local macro_rules | `(tactic| walk_at "dl1") => `(tactic| with_reducible refine DL.y_neS ?_)
local macro_rules | `(tactic| walk_at "dl1") => `(tactic| with_reducible refine DL.y_eqB ?_)
local macro_rules | `(tactic| walk_at "dl1") => `(tactic| with_reducible refine DL.y_eqI ?_)
local macro_rules | `(tactic| walk_at "dl1") => `(tactic| with_reducible refine DL.y_eqS ?_)
local macro_rules | `(tactic| walk_at "dl1") => `(tactic| with_reducible refine DL.y_geS ?_)
local macro_rules | `(tactic| walk_at "dl1") => `(tactic| with_reducible refine DL.y_gtS ?_)
local macro_rules | `(tactic| walk_at "dl1") => `(tactic| with_reducible refine DL.y_leS ?_)
local macro_rules | `(tactic| walk_at "dl1") => `(tactic| with_reducible refine DL.y_ltS ?_)
local macro_rules | `(tactic| walk_at "dl1") => `(tactic| with_reducible refine DL.y_geI ?_)
local macro_rules | `(tactic| walk_at "dl1") => `(tactic| with_reducible refine DL.y_gtI ?_)
local macro_rules | `(tactic| walk_at "dl1") => `(tactic| with_reducible refine DL.y_leI ?_)
local macro_rules | `(tactic| walk_at "dl1") => `(tactic| with_reducible refine DL.y_ltI ?_)
local macro_rules | `(tactic| walk_at "dl1") => `(tactic| with_reducible refine DL.y_subI ?_)
local macro_rules | `(tactic| walk_at "dl1") => `(tactic| with_reducible refine DL.y_addI ?_)
local macro_rules | `(tactic| walk_at "dl1") => `(tactic| ((with_reducible refine DL.y_see2 (d := ?d1) (d' := ?d2) ?h1 ?h2 ?q); (case h1 => exact rfl); (case h2 => exact rfl)))
local macro_rules | `(tactic| walk_at "dl1") => `(tactic| with_reducible refine DL.y_op ?_)
local macro_rules | `(tactic| walk_at "dl1") => `(tactic| ((with_reducible refine DL.z_at (e' := ?d1) ?he ?q); (case he => walk_at "nE")))
local macro_rules | `(tactic| walk_at "dl1") => `(tactic| ((with_reducible show DL.dVar _ _ _); first | ((with_reducible refine DL.y_vd (d := ?d1) ?h ?q); (case h => exact rfl)) | ((with_reducible refine DL.y_vo (o := ?d1) ?h ?q); (case h => exact rfl)) | ((with_reducible refine DL.y_vp (o := ?d1) ?h ?q); (case h => exact rfl)) | ((with_reducible refine DL.y_vv (w := ?d1) ?h ?q); (case h => exact rfl))))
local macro_rules | `(tactic| walk_at "dl1") => `(tactic| with_reducible refine DL.y_c ?_)
local macro_rules | `(tactic| walk_at "dl1") => `(tactic| with_reducible refine DL.z_asg ?_)
local macro_rules | `(tactic| walk_at "dl1") => `(tactic| with_reducible refine DL.z_seq ?_)
local macro_rules | `(tactic| walk_at "dl") => `(tactic| repeat walk_at "dl1")
local macro_rules | `(tactic| walk_at "tt") => `(tactic| (walk_at "dl"; refine DL.z_ifc (c := true) rfl ?_; walk_at "dl"))
local macro_rules | `(tactic| walk_at "ff") => `(tactic| (walk_at "dl"; refine DL.z_ifc (c := false) rfl ?_; walk_at "dl"))

theorem pure_are_tags {xs : List SV} {k : SV → List SV → Prop} (h : sp_are_tags xs k) (w : WfArgs xs) : d_are_tags (dEnd k xs) (dstart N_are_tags xs) := by
  obtain ⟨d, rfl, q⟩ := h
  unfold d_are_tags
  cases d with
  | tuple ds =>
    have q : k (.d (.bool (decide (ds.length ≤ 3) && ds.all nameD && risesB (textsOf ds)))) [.no] := q
    walk_at "dl"
    by_cases h1 : ds.length ≤ 3
    · rw [decide_eq_true h1] at q
      rw [decide_eq_false (show ¬ (ds.length : Int) > 3 by omega)]
      walk_at "dl"
      refine ⟨fun i acc e => e = dstart N_are_tags [.d (.tuple ds)] ∧ acc = (ds.take i).map fun x => .bool (nameD x), ⟨rfl, rfl⟩, ?_, ?_⟩
      · rintro i x acc e2 hx ⟨rfl, rfl⟩
        walk_at "dl"
        refine ⟨x, rfl, ?_⟩
        walk_at "dl"
        refine ⟨sz_lt (by rw [List.length_map, List.length_take]; omega), rfl, ?_⟩
        rw [List.take_add_one, hx, List.map_append]
        rfl
      · rintro acc e2 ⟨rfl, rfl⟩
        walk_at "dl"
        refine y_all (bs := ds.map nameD) (by rw [List.map_map, List.take_length]; rfl) ?_
        rw [List.all_map]
        rw [show (ds.all (id ∘ nameD)) = ds.all nameD from rfl]
        cases ha : ds.all nameD with
        | false =>
          rw [ha] at q
          walk_at "dl"
          exact q
        | true =>
          rw [ha] at q
          have e := texts_of name_text ha
          have hl : (textsOf ds).length ≤ 100 := by
            unfold textsOf
            rw [List.length_map]
            omega
          walk_at "dl"
          refine ⟨textsOf ds, by rw [← e], hl, ?_⟩
          walk_at "dl"
          exact q
    · rw [decide_eq_false h1] at q
      rw [decide_eq_true (show (ds.length : Int) > 3 by omega)]
      walk_at "dl"
      exact q
  | _ =>
    walk_at "dl"
    exact q
theorem small_in {ds : List PyData} (h : smallT (.tuple ds) = true) {i : Nat} {x : PyData} (hx : ds[i]? = some x) : smallD x = true := by
  have h : (decide (ds.length ≤ 100000) && ds.all fun x => smallD x && match x with | .tuple es => decide (es.length ≤ 100000) && es.all smallD | _ => true) = true := h
  rw [Bool.and_eq_true] at h
  have := List.all_eq_true.mp h.2 x (List.mem_of_getElem? hx)
  rw [Bool.and_eq_true] at this
  exact this.1
theorem pure_are_olds {xs : List SV} {k : SV → List SV → Prop} (h : sp_are_olds xs k) (w : WfArgs xs) : d_are_olds (dEnd k xs) (dstart N_are_olds xs) := by
  obtain ⟨d, rfl, hsm, q⟩ := h
  unfold d_are_olds
  cases d with
  | tuple ds =>
    have q : k (.d (.bool (decide (ds.length ≤ 6) && ds.all pathD && risesB (textsOf ds)))) [.no] := q
    walk_at "dl"
    by_cases h1 : ds.length ≤ 6
    · rw [decide_eq_true h1] at q
      rw [decide_eq_false (show ¬ (ds.length : Int) > 6 by omega)]
      walk_at "dl"
      refine ⟨fun i acc e => e = dstart N_are_olds [.d (.tuple ds)] ∧ acc = (ds.take i).map fun x => .bool (pathD x), ⟨rfl, rfl⟩, ?_, ?_⟩
      · rintro i x acc e2 hx ⟨rfl, rfl⟩
        walk_at "dl"
        refine ⟨x, rfl, small_in hsm hx, ?_⟩
        walk_at "dl"
        refine ⟨sz_lt (by rw [List.length_map, List.length_take]; omega), rfl, ?_⟩
        rw [List.take_add_one, hx, List.map_append]
        rfl
      · rintro acc e2 ⟨rfl, rfl⟩
        walk_at "dl"
        refine y_all (bs := ds.map pathD) (by rw [List.map_map, List.take_length]; rfl) ?_
        rw [List.all_map]
        rw [show (ds.all (id ∘ pathD)) = ds.all pathD from rfl]
        cases ha : ds.all pathD with
        | false =>
          rw [ha] at q
          walk_at "dl"
          exact q
        | true =>
          rw [ha] at q
          have e := texts_of path_text ha
          have hl : (textsOf ds).length ≤ 100 := by
            unfold textsOf
            rw [List.length_map]
            omega
          walk_at "dl"
          refine ⟨textsOf ds, by rw [← e], hl, ?_⟩
          walk_at "dl"
          exact q
    · rw [decide_eq_false h1] at q
      rw [decide_eq_true (show (ds.length : Int) > 6 by omega)]
      walk_at "dl"
      exact q
  | _ =>
    walk_at "dl"
    exact q
theorem pure_are_rows {xs : List SV} {k : SV → List SV → Prop} (h : sp_are_rows xs k) (w : WfArgs xs) : d_are_rows (dEnd k xs) (dstart N_are_rows xs) := by
  obtain ⟨d, rfl, q⟩ := h
  unfold d_are_rows
  cases d with
  | tuple ds =>
    have q : k (.d (.bool (decide (ds.length ≤ 8) && ds.all lineD))) [.no] := q
    walk_at "dl"
    by_cases h1 : ds.length ≤ 8
    · rw [decide_eq_true h1] at q
      rw [decide_eq_true (show (ds.length : Int) ≤ 8 by omega)]
      walk_at "dl"
      refine ⟨fun i acc e => e = dstart N_are_rows [.d (.tuple ds)] ∧ acc = (ds.take i).map fun x => .bool (lineD x), ⟨rfl, rfl⟩, ?_, ?_⟩
      · rintro i x acc e2 hx ⟨rfl, rfl⟩
        walk_at "dl"
        refine ⟨x, rfl, ?_⟩
        walk_at "dl"
        refine ⟨sz_lt (by rw [List.length_map, List.length_take]; omega), rfl, ?_⟩
        rw [List.take_add_one, hx, List.map_append]
        rfl
      · rintro acc e2 ⟨rfl, rfl⟩
        walk_at "dl"
        refine y_all (bs := ds.map lineD) (by rw [List.map_map, List.take_length]; rfl) ?_
        rw [List.all_map]
        rw [show (ds.all (id ∘ lineD)) = ds.all lineD from rfl]
        walk_at "dl"
        exact q
    · rw [decide_eq_false h1] at q
      rw [decide_eq_false (show ¬ (ds.length : Int) ≤ 8 by omega)]
      walk_at "dl"
      exact q
  | _ =>
    walk_at "dl"
    exact q
theorem pure_l_within {xs : List SV} {k : SV → List SV → Prop} (h : sp_l_within xs k) (w : WfArgs xs) : d_l_within (dEnd k xs) (dstart N_l_within xs) := by
  obtain ⟨d, n, rfl, hn, q⟩ := h
  unfold d_l_within
  walk_at "dl"
  refine ⟨by omega, by omega, fun i e => e = [.d (withinD d i), .d (.int (n : Int)), .no], rfl, ?_, ?_⟩
  · rintro i x e2 hx rfl
    obtain ⟨hi, rfl⟩ := rangeD_get hx
    have hi : i < n := by omega
    walk_at "dl"
    refine ⟨show (0 : Int) < 2 by decide, ?_⟩
    walk_at "dl"
    by_cases hp : i % 2 = 0
    · rw [show ((0 + (i : Int)) % 2 == 0) = true by rw [beq_iff_eq]; omega]
      walk_at "dl"
      show _ = [SV.d (if i % 2 = 0 then _ else _), _, _]
      rw [if_pos hp]
      rfl
    · rw [show ((0 + (i : Int)) % 2 == 0) = false by rw [beq_eq_false_iff_ne]; omega]
      walk_at "dl"
      show _ = [SV.d (if i % 2 = 0 then _ else _), _, _]
      rw [if_neg hp]
      rfl
  · rintro e2 rfl
    walk_at "dl"
    rw [rangeD_len, Int.toNat_natCast]
    exact q
theorem z_reprB {a b c a2 b2 c2 : Bool} {ks : SV → Prop} (q : ks (.d (.str (PyData.shown (.list [.list [.bool a, .bool b, .bool c], .list [.bool a2, .bool b2, .bool c2]]))))) :
    dReprA [.list [.list [.bool a, .bool b, .bool c], .list [.bool a2, .bool b2, .bool c2]]] ks :=
  z_reprA (by cases a <;> cases b <;> cases c <;> cases a2 <;> cases b2 <;> cases c2 <;> rfl) (by cases a <;> cases b <;> cases c <;> cases a2 <;> cases b2 <;> cases c2 <;> rfl) (by cases a <;> cases b <;> cases c <;> cases a2 <;> cases b2 <;> cases c2 <;> decide) (by cases a <;> cases b <;> cases c <;> cases a2 <;> cases b2 <;> cases c2 <;> decide) q
theorem pure_l_right {xs : List SV} {k : SV → List SV → Prop} (h : sp_l_right xs k) (w : WfArgs xs) : d_l_right (dEnd k xs) (dstart N_l_right xs) := by
  obtain ⟨d, rfl, hr, hs, q⟩ := h
  have hr := hr (w 0 _ rfl)
  have hsm : smallD d = true := by
    unfold smallS smallT at hs
    cases d <;> first | rfl | (simp only [Bool.and_eq_true] at hs; exact hs.1)
  unfold d_l_right
  walk_at "dl"
  refine ⟨d, rfl, hr.1, hr.2.1, hr.2.2, ?_⟩
  walk_at "dl"
  refine ⟨d, rfl, ?_⟩
  walk_at "dl"
  refine ⟨d, rfl, hsm, ?_⟩
  walk_at "dl"
  refine ⟨d, rfl, hs, ?_⟩
  walk_at "dl"
  refine ⟨d, rfl, ?_⟩
  walk_at "dl"
  refine ⟨d, rfl, hsm, ?_⟩
  walk_at "dl"
  refine ⟨d, rfl, hs, ?_⟩
  walk_at "dl"
  refine ⟨d, rfl, ?_⟩
  walk_at "dl"
  refine ⟨d, rfl, hsm, ?_⟩
  walk_at "dl"
  refine ⟨d, rfl, hs, ?_⟩
  walk_at "dl"
  refine z_reprB ?_
  walk_at "dl"
  refine z_reprB ?_
  walk_at "dl"
  rw [beq_self_eq_true]
  walk_at "dl"
  refine ⟨d, rfl, hr.1, hr.2.1, hr.2.2, ?_⟩
  walk_at "dl"
  rw [beq_self_eq_true]
  walk_at "dl"
  exact q
end K04

namespace K04
open PySem PySem.Spec PyProof.Rows L2 DL TL
local macro_rules | `(tactic| walk_at "rd1") => `(tactic| first
  | with_reducible refine x_seq ?_ | with_reducible refine x_asg ?_ | with_reducible refine x_name ?_ | with_reducible refine x_ret ?_ | with_reducible refine x_drop ?_
  | with_reducible refine x_next ?_ | with_reducible refine x_ifs ?_ | with_reducible refine x_test ?_ | with_reducible refine x_tB ?_ | with_reducible refine x_bl ?_
  | with_reducible refine x_nil ?_ | with_reducible refine x_cons ?_ | with_reducible refine x_cb ?_ | with_reducible refine x_not ?_ | with_reducible refine x_and ?_ | with_reducible refine x_or ?_
  | with_reducible refine x_andV ?_ | with_reducible refine x_orV ?_ | with_reducible refine x_notV ?_ | with_reducible refine x_if ?_ | with_reducible refine x_chain ?_
  | with_reducible refine x_op ?_ | with_reducible refine x_un ?_ | with_reducible refine x_c ?_ | with_reducible refine x_I0 ?_ | with_reducible refine x_U ?_ | with_reducible refine x_bm ?_
  | with_reducible refine x_call ?_ | with_reducible refine x_callK ?_ | with_reducible refine x_m1 ?_ | with_reducible refine x_isstr ?_ | with_reducible refine x_sub ?_ | with_reducible refine x_lstA ?_ | with_reducible refine x_tupA ?_
  | with_reducible refine x_abs ?_ | with_reducible refine x_int1b ?_ | with_reducible refine x_sl ?_ | with_reducible refine x_nopart ?_ | with_reducible refine x_part ?_ | with_reducible refine x_isint ?_
  | with_reducible refine x_gcons ?_ | with_reducible refine x_gnil ?_ | with_reducible refine x_tpar ?_ | with_reducible refine x_par ?_ | with_reducible refine x_for ?_ | with_reducible refine x_rng1 ?_
  | with_reducible refine x_istr ?_ | with_reducible refine x_strv ?_ | with_reducible refine x_ilist ?_ | with_reducible refine x_ienum ?_
  | with_reducible refine x_isN ?_ | with_reducible refine x_isNotN ?_ | with_reducible refine x_izip ?_
  | with_reducible refine x_tpar3 ?_ | with_reducible refine x_par3 ?_ | with_reducible refine x_slS (by assumption) ?_
  | with_reducible refine x_lc ?_ | with_reducible refine x_yes ?_ | with_reducible refine iteT ?_ | with_reducible refine iteF ?_
  | with_reducible refine x_lenL (by assumption) ?_ | with_reducible refine x_lenT (by assumption) ?_ | with_reducible refine x_lenS (by assumption) ?_
  | ((with_reducible show tVar _ _ _ _); refine ⟨_, rfl, ?_⟩)
  | ((with_reducible apply x_ixL); (first | assumption | exact SqL.of (by assumption)); rfl))
local macro_rules | `(tactic| walk_at "rd") => `(tactic| repeat walk_at "rd1")
local macro_rules | `(tactic| walk_at "sn") => `(tactic| simp only [reduceCtorEq, decide_false, decide_true, Bool.false_eq_true, Bool.not_true, Bool.not_false, if_false, if_true, ite_true, ite_false, isD_list, isD_tuple, isD_str, isD_bool, isD_int, isSeq])
local macro_rules | `(tactic| walk_at "go") => `(tactic| repeat (first | walk_at "rd1" | walk_at "sn"))

local macro_rules | `(tactic| walk_at "nc") => `(tactic| ((refine DL.n_cons (t' := ?t1) rfl ?_); rotate_left))
local macro_rules | `(tactic| walk_at "nE") => `(tactic| ((repeat walk_at "nc"); exact (rfl : (_ : DL.Env) = [])))
local macro_rules | `(tactic| walk_at "dl1") => `(tactic| ((with_reducible show ∃ r, DL.retC _ _ = some r ∧ _); refine ⟨_, rfl, ?_⟩))
local macro_rules | `(tactic| walk_at "dl1") => `(tactic| with_reducible refine DL.y_yes ?_)
local macro_rules | `(tactic| walk_at "dl1") => `(tactic| with_reducible refine DL.z_lc ?_)
local macro_rules | `(tactic| walk_at "dl1") => `(tactic| with_reducible refine DL.z_fS ?_)
local macro_rules | `(tactic| walk_at "dl1") => `(tactic| with_reducible refine DL.z_replC ?_)
local macro_rules | `(tactic| walk_at "dl1") => `(tactic| with_reducible refine DL.z_stripC ?_)
local macro_rules | `(tactic| walk_at "dl1") => `(tactic| with_reducible refine DL.z_zipK ?_)
local macro_rules | `(tactic| walk_at "dl1") => `(tactic| ((with_reducible refine DL.z_gStar2T (d := ?d1) (d2 := ?d2) (ds := ?d3) ?h1 ?h2 ?h3 ?h4 ?q); (case h1 => exact rfl); (case h2 => exact rfl); (case h3 => exact rfl); (case h4 => exact rfl)))
local macro_rules | `(tactic| walk_at "dl1") => `(tactic| ((with_reducible refine DL.z_keyE (ky := ?d1) ?h ?q); (case h => exact rfl)))
local macro_rules | `(tactic| walk_at "dl1") => `(tactic| with_reducible refine DL.z_dc ?_)
local macro_rules | `(tactic| walk_at "dl1") => `(tactic| with_reducible refine DL.z_dictOf ?_)
local macro_rules | `(tactic| walk_at "dl1") => `(tactic| with_reducible refine DL.z_snoc ?_)
local macro_rules | `(tactic| walk_at "dl1") => `(tactic| with_reducible refine DL.z_jsN ?_)
local macro_rules | `(tactic| walk_at "dl1") => `(tactic| with_reducible refine DL.z_jsC ?_)
local macro_rules | `(tactic| walk_at "dl1") => `(tactic| ((with_reducible refine DL.z_jsE (z := ?d1) ?h ?q); (case h => exact rfl)))
local macro_rules | `(tactic| walk_at "dl1") => `(tactic| with_reducible refine DL.z_joined ?_)
local macro_rules | `(tactic| walk_at "dl1") => `(tactic| ((with_reducible refine DL.z_fmtS (z := ?d1) ?h ?q); (case h => exact rfl)))
local macro_rules | `(tactic| walk_at "dl1") => `(tactic| with_reducible refine DL.z_fmt ?_)
local macro_rules | `(tactic| walk_at "dl1") => `(tactic| ((with_reducible refine DL.z_dget1E (kvs := ?d1) (ky := ?d2) ?h1 ?h2 ?q); (case h1 => exact rfl); (case h2 => exact rfl)))
local macro_rules | `(tactic| walk_at "dl1") => `(tactic| with_reducible refine DL.z_dnotin ?_)
local macro_rules | `(tactic| walk_at "dl1") => `(tactic| with_reducible refine DL.z_din ?_)
local macro_rules | `(tactic| walk_at "dl1") => `(tactic| ((with_reducible refine DL.z_dget1 ?h ?q); (case h => exact ⟨_, rfl⟩)))
local macro_rules | `(tactic| walk_at "dl1") => `(tactic| ((with_reducible refine DL.z_dget ?h ?q); (case h => exact ⟨_, rfl⟩)))
local macro_rules | `(tactic| walk_at "dl1") => `(tactic| ((with_reducible refine DL.z_seeS (z := ?d1) ?h ?q); (case h => exact rfl)))
local macro_rules | `(tactic| walk_at "dl1") => `(tactic| ((with_reducible refine DL.z_seeM (z := ?d1) ?h ?q); (case h => exact rfl)))
local macro_rules | `(tactic| walk_at "dl1") => `(tactic| ((with_reducible refine DL.z_count ?h ?q); (case h => exact ⟨_, rfl⟩)))
local macro_rules | `(tactic| walk_at "dl1") => `(tactic| ((with_reducible refine DL.z_seeT (ds := ?d1) ?h ?q); (case h => exact rfl)))
local macro_rules | `(tactic| walk_at "dl1") => `(tactic| with_reducible refine DL.z_revT ?_)
local macro_rules | `(tactic| walk_at "dl1") => `(tactic| with_reducible refine DL.z_revS ?_)
local macro_rules | `(tactic| walk_at "dl1") => `(tactic| with_reducible refine DL.z_ixM ?_)
local macro_rules | `(tactic| walk_at "dl1") => `(tactic| with_reducible refine DL.z_inM ?_)
local macro_rules | `(tactic| walk_at "dl1") => `(tactic| with_reducible refine DL.z_modk ?_)
local macro_rules | `(tactic| walk_at "dl1") => `(tactic| ((with_reducible refine DL.z_gStar0 (d := ?d1) (ds := ?d2) ?h1 ?h2 ?h3 ?q); (case h1 => exact rfl); (case h2 => exact rfl); (case h3 => exact rfl)))
local macro_rules | `(tactic| walk_at "dl1") => `(tactic| with_reducible refine DL.z_strS ?_)
local macro_rules | `(tactic| walk_at "dl1") => `(tactic| with_reducible refine DL.z_isT ?_)
local macro_rules | `(tactic| walk_at "dl1") => `(tactic| with_reducible refine DL.z_enumT ?_)
local macro_rules | `(tactic| walk_at "dl1") => `(tactic| with_reducible refine DL.z_elt ?_)
local macro_rules | `(tactic| walk_at "dl1") => `(tactic| with_reducible refine DL.z_cl ?_)
local macro_rules | `(tactic| walk_at "dl1") => `(tactic| with_reducible refine DL.z_lcr ?_)
local macro_rules | `(tactic| walk_at "dl1") => `(tactic| ((with_reducible refine DL.z_flatR ?h1 ?q); (case h1 => exact rfl)))
local macro_rules | `(tactic| walk_at "dl1") => `(tactic| with_reducible refine DL.z_callF ?_)
local macro_rules | `(tactic| walk_at "dl1") => `(tactic| with_reducible refine DL.z_int1b ?_)
local macro_rules | `(tactic| walk_at "dl1") => `(tactic| with_reducible refine DL.z_int1 ?_)
local macro_rules | `(tactic| walk_at "dl1") => `(tactic| with_reducible refine DL.z_frz ?_)
local macro_rules | `(tactic| walk_at "dl1") => `(tactic| with_reducible refine DL.y_zip ?_)
local macro_rules | `(tactic| walk_at "dl1") => `(tactic| with_reducible refine DL.y_isL ?_)
local macro_rules | `(tactic| walk_at "dl1") => `(tactic| with_reducible refine DL.y_enum ?_)
local macro_rules | `(tactic| walk_at "dl1") => `(tactic| with_reducible refine DL.y_isII ?_)
local macro_rules | `(tactic| walk_at "dl1") => `(tactic| with_reducible refine DL.y_r2 ?_)
local macro_rules | `(tactic| walk_at "dl1") => `(tactic| with_reducible refine DL.y_r1 ?_)
local macro_rules | `(tactic| walk_at "dl1") => `(tactic| ((with_reducible refine DL.y_iter (xs := ?d1) ?h1 ?q); (case h1 => exact rfl)))
local macro_rules | `(tactic| walk_at "dl1") => `(tactic| with_reducible refine DL.y_iany ?_)
local macro_rules | `(tactic| walk_at "dl1") => `(tactic| with_reducible refine DL.z_wipe ?_)
local macro_rules | `(tactic| walk_at "dl1") => `(tactic| with_reducible refine DL.z_sforW ?_)
local macro_rules | `(tactic| walk_at "dl1") => `(tactic| with_reducible refine DL.z_sfor ?_)
local macro_rules | `(tactic| walk_at "dl1") => `(tactic| ((with_reducible refine DL.z_par3EA ?k1 ?k2 ?k3 ?n1 ?n2 ?n3 ?q); (case k1 => exact rfl); (case k2 => exact rfl); (case k3 => exact rfl); (case n1 => exact rfl); (case n2 => exact rfl); (case n3 => exact rfl)))
local macro_rules | `(tactic| walk_at "dl1") => `(tactic| ((with_reducible refine DL.z_parEA ?k1 ?k2 ?n1 ?n2 ?q); (case k1 => exact rfl); (case k2 => exact rfl); (case n1 => exact rfl); (case n2 => exact rfl)))
local macro_rules | `(tactic| walk_at "dl1") => `(tactic| with_reducible refine DL.z_par3A ?_)
local macro_rules | `(tactic| walk_at "dl1") => `(tactic| with_reducible refine DL.z_parA ?_)
local macro_rules | `(tactic| walk_at "dl1") => `(tactic| with_reducible refine DL.y_isD ?_)
local macro_rules | `(tactic| walk_at "dl1") => `(tactic| with_reducible refine DL.z_asg2 ?_)
local macro_rules | `(tactic| walk_at "dl1") => `(tactic| ((with_reducible refine DL.z_augEA ?h1 ?q); (case h1 => exact rfl)))
local macro_rules | `(tactic| walk_at "dl1") => `(tactic| with_reducible refine DL.y_aI ?_)
local macro_rules | `(tactic| walk_at "dl1") => `(tactic| ((with_reducible refine DL.z_augA (d := ?d1) ?h ?q); (case h => exact rfl)))
local macro_rules | `(tactic| walk_at "dl1") => `(tactic| ((with_reducible show DL.gT _ _ _ _ _); refine DL.y_gT rfl ?_))
local macro_rules | `(tactic| walk_at "dl1") => `(tactic| with_reducible refine DL.y_gscons ?_)
local macro_rules | `(tactic| walk_at "dl1") => `(tactic| with_reducible refine DL.y_gsnil ?_)
local macro_rules | `(tactic| walk_at "dl1") => `(tactic| ((with_reducible refine DL.y_flat ?h1 ?q); (case h1 => exact rfl)))
local macro_rules | `(tactic| walk_at "dl1") => `(tactic| ((with_reducible refine DL.y_parsB (zs := ?d1) ?h1 ?q); (case h1 => exact rfl)))
local macro_rules | `(tactic| walk_at "dl1") => `(tactic| with_reducible refine DL.y_callB ?_)
local macro_rules | `(tactic| walk_at "dl1") => `(tactic| ((with_reducible refine DL.y_pars (zs := ?d1) ?h1 ?h2 ?q); (case h1 => exact rfl); (case h2 => (first | exact List.nodup_nil | exact List.nodup_singleton _ | simp [DL.alsOf]))))
local macro_rules | `(tactic| walk_at "dl1") => `(tactic| with_reducible refine DL.z_call ?_)
local macro_rules | `(tactic| walk_at "dl1") => `(tactic| ((with_reducible show DL.argOK _ _ _); first | refine DL.y_ao ?_ | refine DL.y_aoo ?_))
local macro_rules | `(tactic| walk_at "dl1") => `(tactic| ((with_reducible show DL.argK _ _ _); first | with_reducible refine DL.y_ad ?_ | with_reducible refine DL.y_al ?_ | with_reducible refine DL.y_ab ?_ | ((with_reducible refine DL.y_aap (o := ?d1) ?h ?q); (case h => exact rfl)) | ((with_reducible refine DL.z_aal (ds := ?d1) ?h ?q); (case h => exact rfl)) | ((with_reducible refine DL.y_aab (n := ?d1) ?h ?q); (case h => exact rfl)) | with_reducible refine DL.y_av ?_ | ((with_reducible refine DL.z_adct (kvs := ?d1) ?h ?q); (case h => exact rfl)) | with_reducible refine DL.z_aown ?_))
local macro_rules | `(tactic| walk_at "dl1") => `(tactic| ((with_reducible show DL.noAl _ _ _); first | with_reducible refine DL.y_nd ?_ | with_reducible refine DL.y_no ?_ | with_reducible refine DL.y_nal ?_ | with_reducible refine DL.y_nv ?_))
local macro_rules | `(tactic| walk_at "dl1") => `(tactic| with_reducible refine DL.y_argN ?_)
local macro_rules | `(tactic| walk_at "dl1") => `(tactic| with_reducible refine DL.y_argO ?_)
local macro_rules | `(tactic| walk_at "dl1") => `(tactic| with_reducible refine DL.y_argA ?_)
local macro_rules | `(tactic| walk_at "dl1") => `(tactic| ((with_reducible refine DL.z_reverse (ds := ?d1) ?h ?q); (case h => exact rfl)))
local macro_rules | `(tactic| walk_at "dl1") => `(tactic| ((with_reducible refine DL.y_con (ds := ?d1) ?h1 ?q); (case h1 => exact rfl)))
local macro_rules | `(tactic| walk_at "dl1") => `(tactic| ((with_reducible refine DL.z_extend ?h ?q); (case h => exact ⟨_, rfl⟩)))
local macro_rules | `(tactic| walk_at "dl1") => `(tactic| ((with_reducible refine DL.z_append ?h ?q); (case h => exact ⟨_, rfl⟩)))
local macro_rules | `(tactic| walk_at "dl1") => `(tactic| with_reducible refine DL.y_neg ?_)
local macro_rules | `(tactic| walk_at "dl1") => `(tactic| with_reducible refine DL.y_un ?_)
local macro_rules | `(tactic| walk_at "dl1") => `(tactic| with_reducible refine DL.y_isSD ?_)
local macro_rules | `(tactic| walk_at "dl1") => `(tactic| with_reducible refine DL.y_getW ?_)
local macro_rules | `(tactic| walk_at "dl1") => `(tactic| with_reducible refine DL.y_isSI ?_)
local macro_rules | `(tactic| walk_at "dl1") => `(tactic| with_reducible refine DL.y_find3 ?_)
local macro_rules | `(tactic| walk_at "dl1") => `(tactic| ((with_reducible refine DL.z_gStar1 (d := ?d1) (ds := ?d2) ?h1 ?h2 ?h3 ?q); (case h1 => exact rfl); (case h2 => exact rfl); (case h3 => exact rfl)))
local macro_rules | `(tactic| walk_at "dl1") => `(tactic| ((with_reducible refine DL.z_gStar1T (d := ?d1) (ds := ?d2) ?h1 ?h2 ?h3 ?q); (case h1 => exact rfl); (case h2 => exact rfl); (case h3 => exact rfl)))
local macro_rules | `(tactic| walk_at "dl1") => `(tactic| with_reducible refine DL.y_startswith ?_)
local macro_rules | `(tactic| walk_at "dl1") => `(tactic| with_reducible refine DL.y_m1 ?_)
local macro_rules | `(tactic| walk_at "dl1") => `(tactic| with_reducible refine DL.y_isi ?_)
local macro_rules | `(tactic| walk_at "dl1") => `(tactic| with_reducible refine DL.y_min2 ?_)
local macro_rules | `(tactic| walk_at "dl1") => `(tactic| with_reducible refine DL.y_max2 ?_)
local macro_rules | `(tactic| walk_at "dl1") => `(tactic| with_reducible refine DL.y_tupleOfT ?_)
local macro_rules | `(tactic| walk_at "dl1") => `(tactic| with_reducible refine DL.y_tupleOf ?_)
local macro_rules | `(tactic| walk_at "dl1") => `(tactic| with_reducible refine DL.y_listOfT ?_)
local macro_rules | `(tactic| walk_at "dl1") => `(tactic| with_reducible refine DL.y_listOf ?_)
local macro_rules | `(tactic| walk_at "dl1") => `(tactic| with_reducible refine DL.y_int1b ?_)
local macro_rules | `(tactic| walk_at "dl1") => `(tactic| with_reducible refine DL.y_int1 ?_)
local macro_rules | `(tactic| walk_at "dl1") => `(tactic| with_reducible refine DL.y_abs ?_)
local macro_rules | `(tactic| walk_at "dl1") => `(tactic| ((with_reducible show DL.dLen _ _); refine DL.y_len1 rfl ?_))
local macro_rules | `(tactic| walk_at "dl1") => `(tactic| ((with_reducible refine DL.y_seeAll (ds := ?d1) ?h1 ?q); (case h1 => exact rfl)))
local macro_rules | `(tactic| walk_at "dl1") => `(tactic| with_reducible refine DL.y_cb ?_)
local macro_rules | `(tactic| walk_at "dl1") => `(tactic| with_reducible refine DL.y_acons ?_)
local macro_rules | `(tactic| walk_at "dl1") => `(tactic| with_reducible refine DL.y_anil ?_)
local macro_rules | `(tactic| walk_at "dl1") => `(tactic| ((with_reducible refine DL.y_see1 (d := ?d1) ?h1 ?q); (case h1 => exact rfl)))
local macro_rules | `(tactic| walk_at "dl1") => `(tactic| with_reducible refine DL.y_slS ?_)
local macro_rules | `(tactic| walk_at "dl1") => `(tactic| with_reducible refine DL.y_slT ?_)
local macro_rules | `(tactic| walk_at "dl1") => `(tactic| with_reducible refine DL.y_slL ?_)
local macro_rules | `(tactic| walk_at "dl1") => `(tactic| with_reducible refine DL.y_osome ?_)
local macro_rules | `(tactic| walk_at "dl1") => `(tactic| with_reducible refine DL.y_onone ?_)
local macro_rules | `(tactic| walk_at "dl1") => `(tactic| with_reducible refine DL.y_sl ?_)
local macro_rules | `(tactic| walk_at "dl1") => `(tactic| ((with_reducible show _ ≤ sizeLine ∧ _); refine DL.y_len rfl ?_))
local macro_rules | `(tactic| walk_at "dl1") => `(tactic| ((with_reducible show DL.asD _ _ _); first | with_reducible refine DL.y_asd ?_ | with_reducible refine DL.y_asl ?_ | ((with_reducible refine DL.z_asal (ds := ?d1) ?h ?q); (case h => exact rfl))))
local macro_rules | `(tactic| walk_at "dl1") => `(tactic| with_reducible refine DL.y_lst ?_)
local macro_rules | `(tactic| walk_at "dl1") => `(tactic| with_reducible refine DL.y_tup ?_)
local macro_rules | `(tactic| walk_at "dl1") => `(tactic| with_reducible refine DL.y_vcons ?_)
local macro_rules | `(tactic| walk_at "dl1") => `(tactic| with_reducible refine DL.y_vnil ?_)
local macro_rules | `(tactic| walk_at "dl1") => `(tactic| ((with_reducible show DL.dIsNotN _ _ _); refine DL.y_isNotNf rfl ?_))
local macro_rules | `(tactic| walk_at "dl1") => `(tactic| ((with_reducible show DL.dIsN _ _ _); refine DL.y_isNf rfl ?_))
local macro_rules | `(tactic| walk_at "dl1") => `(tactic| with_reducible refine DL.y_isNotNt ?_)
local macro_rules | `(tactic| walk_at "dl1") => `(tactic| with_reducible refine DL.y_isNt ?_)
local macro_rules | `(tactic| walk_at "dl1") => `(tactic| with_reducible refine DL.z_cont ?_)
local macro_rules | `(tactic| walk_at "dl1") => `(tactic| with_reducible refine DL.z_break ?_)
local macro_rules | `(tactic| walk_at "dl1") => `(tactic| with_reducible refine DL.z_next ?_)
local macro_rules | `(tactic| walk_at "dl1") => `(tactic| with_reducible refine DL.z_drop ?_)
local macro_rules | `(tactic| walk_at "dl1") => `(tactic| with_reducible refine DL.z_retN ?_)
local macro_rules | `(tactic| walk_at "dl1") => `(tactic| with_reducible refine DL.z_ret ?_)
local macro_rules | `(tactic| walk_at "dl1") => `(tactic| with_reducible refine DL.y_ifs ?_)
local macro_rules | `(tactic| walk_at "dl1") => `(tactic| with_reducible refine DL.y_chain ?_)
local macro_rules | `(tactic| walk_at "dl1") => `(tactic| with_reducible refine DL.y_if ?_)
local macro_rules | `(tactic| walk_at "dl1") => `(tactic| with_reducible refine DL.y_orT ?_)
local macro_rules | `(tactic| walk_at "dl1") => `(tactic| with_reducible refine DL.y_andT ?_)
local macro_rules | `(tactic| walk_at "dl1") => `(tactic| with_reducible refine DL.y_notT ?_)
local macro_rules | `(tactic| walk_at "dl1") => `(tactic| with_reducible refine DL.y_or ?_)
local macro_rules | `(tactic| walk_at "dl1") => `(tactic| with_reducible refine DL.y_and ?_)
local macro_rules | `(tactic| walk_at "dl1") => `(tactic| with_reducible refine DL.y_not ?_)
local macro_rules | `(tactic| walk_at "dl1") => `(tactic| with_reducible refine DL.y_nx ?_)
local macro_rules | `(tactic| walk_at "dl1") => `(tactic| with_reducible refine DL.y_rt ?_)
local macro_rules | `(tactic| walk_at "dl1") => `(tactic| with_reducible refine DL.y_i4 ?_)
local macro_rules | `(tactic| walk_at "dl1") => `(tactic| with_reducible refine DL.y_i3 ?_)
local macro_rules | `(tactic| walk_at "dl1") => `(tactic| with_reducible refine DL.y_i2 ?_)
local macro_rules | `(tactic| walk_at "dl1") => `(tactic| with_reducible refine DL.y_i1 ?_)
local macro_rules | `(tactic| walk_at "dl1") => `(tactic| with_reducible refine DL.y_ie1 ?_)
local macro_rules | `(tactic| walk_at "dl1") => `(tactic| with_reducible refine DL.y_ie0 ?_)
local macro_rules | `(tactic| walk_at "dl1") => `(tactic| with_reducible refine DL.y_ifN ?_)
local macro_rules | `(tactic| walk_at "dl1") => `(tactic| with_reducible refine iteF ?_)
local macro_rules | `(tactic| walk_at "dl1") => `(tactic| with_reducible refine iteT ?_)
local macro_rules | `(tactic| walk_at "dl1") => `(tactic| ((with_reducible show DL.isiK _ _ _ _); first | refine DL.y_isk (b := true) rfl rfl ?_ | refine DL.y_isk (b := false) rfl rfl ?_ | refine DL.y_isk rfl rfl ?_))
local macro_rules | `(tactic| walk_at "dl1") => `(tactic| ((with_reducible show DL.truK _ _ _); first | refine DL.y_tkB rfl ?_ | refine DL.y_tkN rfl ?_ | refine DL.y_tkS rfl ?_ | refine DL.y_tkI rfl ?_ | refine DL.y_tkLb (b := true) rfl rfl ?_ | refine DL.y_tkLb (b := false) rfl rfl ?_ | refine DL.y_tkTb (b := true) rfl rfl ?_ | refine DL.y_tkTb (b := false) rfl rfl ?_ | refine DL.y_tkL rfl ?_ | refine DL.y_tkT rfl ?_))
local macro_rules | `(tactic| walk_at "dl1") => `(tactic| with_reducible refine DL.y_isS ?_)
local macro_rules | `(tactic| walk_at "dl1") => `(tactic| with_reducible refine DL.y_isI ?_)
local macro_rules | `(tactic| walk_at "dl1") => `(tactic| with_reducible refine DL.y_bool ?_)
local macro_rules | `(tactic| walk_at "dl1") => `(tactic| with_reducible refine DL.y_B ?_)
local macro_rules | `(tactic| walk_at "dl1") => `(tactic| with_reducible refine DL.y_tru ?_)
local macro_rules | `(tactic| walk_at "dl1") => `(tactic| ((with_reducible show DL.gN _ _ _ _); first | ((with_reducible refine DL.z_gd ?h ?q); (case h => exact rfl)) | ((with_reducible refine DL.z_go ?h ?q); (case h => exact rfl)) | ((with_reducible refine DL.z_gal (ds := ?d1) ?h ?h2 ?q); (case h => exact rfl); (case h2 => exact rfl)) | ((with_reducible refine DL.z_gv ?h ?q); (case h => exact rfl))))
local macro_rules | `(tactic| walk_at "dl1") => `(tactic| with_reducible refine DL.y_neB ?_)
local macro_rules | `(tactic| walk_at "dl1") => `(tactic| with_reducible refine DL.y_neI ?_)
local macro_rules | `(tactic| walk_at "dl1") => `(tactic| with_reducible refine DL.y_neS ?_)
local macro_rules | `(tactic| walk_at "dl1") => `(tactic| with_reducible refine DL.y_eqB ?_)
local macro_rules | `(tactic| walk_at "dl1") => `(tactic| with_reducible refine DL.y_eqI ?_)
local macro_rules | `(tactic| walk_at "dl1") => `(tactic| with_reducible refine DL.y_eqS ?_)
local macro_rules | `(tactic| walk_at "dl1") => `(tactic| with_reducible refine DL.y_geS ?_)
local macro_rules | `(tactic| walk_at "dl1") => `(tactic| with_reducible refine DL.y_gtS ?_)
local macro_rules | `(tactic| walk_at "dl1") => `(tactic| with_reducible refine DL.y_leS ?_)
local macro_rules | `(tactic| walk_at "dl1") => `(tactic| with_reducible refine DL.y_ltS ?_)
local macro_rules | `(tactic| walk_at "dl1") => `(tactic| with_reducible refine DL.y_geI ?_)
local macro_rules | `(tactic| walk_at "dl1") => `(tactic| with_reducible refine DL.y_gtI ?_)
local macro_rules | `(tactic| walk_at "dl1") => `(tactic| with_reducible refine DL.y_leI ?_)
local macro_rules | `(tactic| walk_at "dl1") => `(tactic| with_reducible refine DL.y_ltI ?_)
local macro_rules | `(tactic| walk_at "dl1") => `(tactic| with_reducible refine DL.y_subI ?_)
local macro_rules | `(tactic| walk_at "dl1") => `(tactic| with_reducible refine DL.y_addI ?_)
local macro_rules | `(tactic| walk_at "dl1") => `(tactic| ((with_reducible refine DL.y_see2 (d := ?d1) (d' := ?d2) ?h1 ?h2 ?q); (case h1 => exact rfl); (case h2 => exact rfl)))
local macro_rules | `(tactic| walk_at "dl1") => `(tactic| with_reducible refine DL.y_op ?_)
local macro_rules | `(tactic| walk_at "dl1") => `(tactic| ((with_reducible refine DL.z_at (e' := ?d1) ?he ?q); (case he => walk_at "nE")))
local macro_rules | `(tactic| walk_at "dl1") => `(tactic| ((with_reducible show DL.dVar _ _ _); first | ((with_reducible refine DL.y_vd (d := ?d1) ?h ?q); (case h => exact rfl)) | ((with_reducible refine DL.y_vo (o := ?d1) ?h ?q); (case h => exact rfl)) | ((with_reducible refine DL.y_vp (o := ?d1) ?h ?q); (case h => exact rfl)) | ((with_reducible refine DL.y_vv (w := ?d1) ?h ?q); (case h => exact rfl))))
local macro_rules | `(tactic| walk_at "dl1") => `(tactic| with_reducible refine DL.y_c ?_)
local macro_rules | `(tactic| walk_at "dl1") => `(tactic| with_reducible refine DL.z_asg ?_)
local macro_rules | `(tactic| walk_at "dl1") => `(tactic| with_reducible refine DL.z_seq ?_)
local macro_rules | `(tactic| walk_at "dl") => `(tactic| repeat walk_at "dl1")
local macro_rules | `(tactic| walk_at "tt") => `(tactic| (walk_at "dl"; refine DL.z_ifc (c := true) rfl ?_; walk_at "dl"))
local macro_rules | `(tactic| walk_at "ff") => `(tactic| (walk_at "dl"; refine DL.z_ifc (c := false) rfl ?_; walk_at "dl"))

theorem lt_a (c : Nat) : decide (tl (⟨#[c]⟩ : Str) < tl ("a" : Str)) = !decide (97 ≤ c) := by rw [← le_a, Bool.not_not]
theorem pure_l_is_one {xs : List SV} {k : SV → List SV → Prop} (h : sp_l_is_one xs k) (w : WfArgs xs) : d_l_is_one (dEnd k xs) (dstart N_l_is_one xs) := by
  obtain ⟨d, rfl, q⟩ := h
  unfold d_l_is_one
  cases d with
  | str z =>
    have hw := (wf_str.mp (w 0 _ rfl)).1
    have q : k (.d (.bool (nameB z))) [.no] := q
    walk_at "dl"
    refine ite2 (fun h1 => ?_) (fun h1 => ?_)
    · have h1 : 1 ≤ z.length := by have := of_decide_eq_true h1; omega
      walk_at "dl"
      by_cases h2 : (z.length : Int) < 9
      · rw [decide_eq_true h2]
        have h2 : z.length ≤ 8 := by omega
        walk_at "dl"
        refine ⟨fun j acc2 e => e = [.d (.str z), .no] ∧ acc2 = ((tl z).take j).map fun c => .bool (decide (97 ≤ c) && decide (c ≤ 122)), ⟨rfl, rfl⟩, ?_, ?_⟩
        · rintro j x acc2 e hx ⟨rfl, rfl⟩
          unfold sgns at hx
          rw [List.getElem?_map] at hx
          obtain ⟨c, hc, rfl⟩ := Option.map_eq_some_iff.mp hx
          have hacc2 : (((tl z).take j).map fun c => PyData.bool (decide (97 ≤ c) && decide (c ≤ 122))).length < sizeLine := sz_lt (by rw [List.length_map, List.length_take, ← len_tl]; omega)
          have fin2 : ∀ b, b = (decide (97 ≤ c) && decide (c ≤ 122)) → ((tl z).take j).map (fun c => PyData.bool (decide (97 ≤ c) && decide (c ≤ 122))) ++ [.bool b] = ((tl z).take (j + 1)).map fun c => PyData.bool (decide (97 ≤ c) && decide (c ≤ 122)) := fun b hb => by rw [hb, List.take_add_one, hc, List.map_append]; rfl
          walk_at "dl"
          rw [lt_a]
          by_cases h : 97 ≤ c
          · rw [decide_eq_true h]
            walk_at "dl"
            rw [le_z]
            refine ⟨hacc2, rfl, fin2 _ ?_⟩
            rw [decide_eq_true h, Bool.true_and]
          · rw [decide_eq_false h]
            walk_at "dl"
            refine ⟨hacc2, rfl, fin2 _ ?_⟩
            rw [decide_eq_false h, Bool.false_and]
        · rintro acc2 e ⟨rfl, rfl⟩
          walk_at "dl"
          refine y_all (bs := (tl z).map fun c => decide (97 ≤ c) && decide (c ≤ 122)) ?_ ?_
          · unfold sgns
            rw [List.length_map, List.take_length, List.map_map]
            rfl
          · walk_at "dl"
            rw [nameB_eq, decide_eq_true h1, decide_eq_true h2, Bool.true_and, Bool.true_and, ← all_map] at q
            exact q
      · rw [decide_eq_false h2]
        walk_at "dl"
        rw [nameB_eq, decide_eq_false (show ¬ z.length ≤ 8 by omega), Bool.and_false, Bool.false_and] at q
        exact q
    · have h1 : ¬ 1 ≤ z.length := fun z => h1 (decide_eq_true (by omega))
      walk_at "dl"
      rw [nameB_eq, decide_eq_false h1, Bool.false_and, Bool.false_and] at q
      exact q
  | _ =>
    walk_at "dl"
    exact q
theorem pure_l_is_way {xs : List SV} {k : SV → List SV → Prop} (h : sp_l_is_way xs k) (w : WfArgs xs) : d_l_is_way (dEnd k xs) (dstart N_l_is_way xs) := by
  obtain ⟨d, rfl, hz, q⟩ := h
  unfold d_l_is_way
  cases d with
  | str z =>
    have hz : z.length ≤ 100000 := of_decide_eq_true hz
    have q : k (.d (.bool (pathB z))) [.no] := q
    walk_at "dl"
    refine y_split (s := 47) (by decide +kernel) (by decide) (by rw [sizeLine_eq]; omega) ?_
    obtain ⟨f, rs, es, ec, hlen, hparts⟩ := split_parts z (y := "/") (s := 47) (by decide +kernel) (by decide)
    rw [path_parts ec] at q
    rw [es]
    walk_at "dl"
    by_cases h3 : rs.length < 3
    · rw [decide_eq_true (show (((f :: rs).map PyData.str).length : Int) < 4 by rw [List.length_map, List.length_cons]; omega)]
      rw [decide_eq_true h3, Bool.true_and] at q
      walk_at "dl"
      refine y_ixL (d := .str f) (atI_zero _ _) ?_
      walk_at "dl"
      rw [Bool.beq_eq_decide_eq]
      by_cases hT : f = "tag"
      · rw [decide_eq_true hT] at q ⊢
        walk_at "dl"
        exact q
      · rw [decide_eq_false hT] at q ⊢
        rw [Bool.not_false, Bool.true_and] at q
        walk_at "dl"
        refine ⟨fun i acc e => e = [.d (.str z), .d (.list ((f :: rs).map .str)), .no] ∧ acc = ((f :: rs).take i).map fun p => .bool (nameB p), ⟨rfl, rfl⟩, ?_, ?_⟩
        · rintro i x acc e2 hx ⟨rfl, rfl⟩
          rw [List.getElem?_map] at hx
          obtain ⟨y, hy, rfl⟩ := Option.map_eq_some_iff.mp hx
          walk_at "dl"
          refine ⟨_, rfl, ?_⟩
          walk_at "dl"
          refine ⟨sz_lt (by rw [List.length_map, List.length_take, List.length_cons]; omega), rfl, ?_⟩
          rw [List.take_add_one, hy, List.map_append]
          rfl
        · rintro acc e2 ⟨rfl, rfl⟩
          walk_at "dl"
          refine y_all (bs := (f :: rs).map nameB) (by rw [List.map_map, List.length_map, List.take_length]; rfl) ?_
          rw [List.all_map]
          walk_at "dl"
          exact q
    · rw [decide_eq_false (show ¬ (((f :: rs).map PyData.str).length : Int) < 4 by rw [List.length_map, List.length_cons]; omega)]
      rw [decide_eq_false h3] at q
      walk_at "dl"
      exact q
  | _ =>
    walk_at "dl"
    exact q
theorem tup_or (d : PyData) : (∃ ds, d = .tuple ds) ∨ (isD_tuple d = false ∧ tagsD d = false ∧ oldsD d = false ∧ rowsD d = false) := by
  cases d with
  | tuple ds => exact .inl ⟨ds, rfl⟩
  | _ => exact .inr ⟨rfl, rfl, rfl, rfl⟩
theorem pure_l_is_bare {xs : List SV} {k : SV → List SV → Prop} (h : sp_l_is_bare xs k) (w : WfArgs xs) : d_l_is_bare (dEnd k xs) (dstart N_l_is_bare xs) := by
  obtain ⟨d, rfl, hs, q⟩ := h
  unfold d_l_is_bare
  cases d with
  | tuple ds =>
    walk_at "dl"
    by_cases h7 : ds.length = 7
    · rw [show ((ds.length : Int) == 7) = true by rw [h7]; rfl]
      match ds, h7 with
      | [a, b, c, d, e, f, g], _ =>
        have q : k (.d (.bool (titleD a && dayD b && truthD c && tagsD d && nameD e && oldsD f && rowsD g))) [.no] := q
        walk_at "dl"
        refine y_ixT (d := a) (atI_nat (j := 0) rfl) ?_
        have noT : titleD a = false → k (.d (.bool false)) [.no] := fun h => by rw [h] at q; simpa using q
        have noB : dayD b = false → k (.d (.bool false)) [.no] := fun h => by rw [h] at q; simpa using q
        have noC : truthD c = false → k (.d (.bool false)) [.no] := fun h => by rw [h] at q; simpa using q
        have noD : tagsD d = false → k (.d (.bool false)) [.no] := fun h => by rw [h] at q; simpa using q
        have noE : nameD e = false → k (.d (.bool false)) [.no] := fun h => by rw [h] at q; simpa using q
        have noF : oldsD f = false → k (.d (.bool false)) [.no] := fun h => by rw [h] at q; simpa using q
        have noG : rowsD g = false → k (.d (.bool false)) [.no] := fun h => by rw [h] at q; simpa using q
        cases a with
        | str z =>
          have hlen := len_tl z
          walk_at "dl"
          refine y_ixT (d := .str z) (atI_nat (j := 0) rfl) ?_
          walk_at "dl"
          cases hz : tl z with
          | nil =>
            rw [hz] at hlen
            have hlen : z.length = 0 := hlen
            rw [decide_eq_false (show ¬ (0 : Int) < (z.length : Int) by omega)]
            walk_at "dl"
            exact noT (by show titleB z = false; unfold titleB; rw [hz])
          | cons x r =>
            rw [hz, List.length_cons] at hlen
            have ht : titleD (.str z) = _ := title_eq hz
            rw [decide_eq_true (show (0 : Int) < (z.length : Int) by omega)]
            walk_at "dl"
            by_cases h2 : r.length < 40
            · rw [decide_eq_true (show (z.length : Int) < 41 by omega)]
              rw [decide_eq_true h2] at ht
              walk_at "dl"
              refine y_ixT (d := .str z) (atI_nat (j := 0) rfl) ?_
              walk_at "dl"
              refine y_ixT (d := .str z) (atI_nat (j := 0) rfl) ?_
              walk_at "dl"
              have hsame := strip_same hz
              by_cases h3 : Txt.stripChars z blankS = z
              · rw [show (Txt.stripChars z " " == z) = true from beq_iff_eq.mpr h3]
                obtain ⟨h4, h5⟩ := hsame.mp h3
                rw [decide_eq_true h4, decide_eq_true h5] at ht
                walk_at "dl"
                refine y_ixT (d := .str z) (atI_nat (j := 0) rfl) ?_
                walk_at "dl"
                refine y_inSg (c := 10) ?_
                rw [hz]
                by_cases h6 : 10 ∈ x :: r
                · rw [decide_eq_true h6] at ht ⊢
                  walk_at "dl"
                  exact noT ht
                · rw [decide_eq_false h6] at ht ⊢
                  walk_at "dl"
                  refine y_ixT (d := b) (atI_nat (j := 1) rfl) ?_
                  cases b with
                  | int i =>
                    walk_at "dl"
                    refine y_ixT (d := .int i) (atI_nat (j := 1) rfl) ?_
                    walk_at "dl"
                    refine y_ixT (d := .int i) (atI_nat (j := 1) rfl) ?_
                    walk_at "dl"
                    by_cases h7 : 0 ≤ i
                    · rw [decide_eq_true h7]
                      walk_at "dl"
                      by_cases h8 : i ≤ 999
                      · rw [decide_eq_true h8]
                        walk_at "dl"
                        refine y_ixT (d := c) (atI_nat (j := 2) rfl) ?_
                        cases c with
                        | bool v =>
                          walk_at "dl"
                          refine y_ixT (d := e) (atI_nat (j := 4) rfl) ?_
                          walk_at "dl"
                          refine ⟨e, rfl, ?_⟩
                          walk_at "dl"
                          cases he : nameD e with
                          | false =>
                            walk_at "dl"
                            exact noE he
                          | true =>
                            walk_at "dl"
                            refine ⟨fun j acc e2 => e2 = dstart N_l_is_bare [.d (.tuple [.str z, .int i, .bool v, d, e, f, g])] ∧ acc = ([isD_tuple d, isD_tuple f, isD_tuple g].take j).map .bool, ⟨rfl, rfl⟩, ?_, ?_⟩
                            · rintro j x acc e2 hx ⟨rfl, rfl⟩
                              match j, hx with
                              | 0, hx =>
                                cases hx
                                walk_at "dl"
                                refine y_ixT (d := d) (atI_nat (j := 3) rfl) ?_
                                walk_at "dl"
                                exact ⟨sz_lt (show (0 : Nat) < 100000 by decide), rfl, rfl⟩
                              | 1, hx =>
                                cases hx
                                walk_at "dl"
                                refine y_ixT (d := f) (atI_nat (j := 5) rfl) ?_
                                walk_at "dl"
                                exact ⟨sz_lt (show (1 : Nat) < 100000 by decide), rfl, rfl⟩
                              | 2, hx =>
                                cases hx
                                walk_at "dl"
                                refine y_ixT (d := g) (atI_nat (j := 6) rfl) ?_
                                walk_at "dl"
                                exact ⟨sz_lt (show (2 : Nat) < 100000 by decide), rfl, rfl⟩
                              | n + 3, hx => cases hx
                            · rintro acc e2 ⟨rfl, rfl⟩
                              walk_at "dl"
                              refine y_all (bs := [isD_tuple d, isD_tuple f, isD_tuple g]) rfl ?_
                              rcases tup_or d with ⟨td, rfl⟩ | ⟨hd, hd2⟩
                              · rcases tup_or f with ⟨tf, rfl⟩ | ⟨hf, hf2⟩
                                · rcases tup_or g with ⟨tg, rfl⟩ | ⟨hg, hg2⟩
                                  · rw [show ([isD_tuple (.tuple td), isD_tuple (.tuple tf), isD_tuple (.tuple tg)].all id) = true from rfl]
                                    walk_at "dl"
                                    refine y_ixT (d := .tuple td) (atI_nat (j := 3) rfl) ?_
                                    walk_at "dl"
                                    by_cases h9 : td.length ≤ 3
                                    · rw [decide_eq_false (show ¬ (td.length : Int) > 3 by omega)]
                                      walk_at "dl"
                                      refine y_ixT (d := .tuple tf) (atI_nat (j := 5) rfl) ?_
                                      walk_at "dl"
                                      by_cases h10 : tf.length ≤ 6
                                      · rw [decide_eq_false (show ¬ (tf.length : Int) > 6 by omega)]
                                        walk_at "dl"
                                        refine y_ixT (d := .tuple tg) (atI_nat (j := 6) rfl) ?_
                                        walk_at "dl"
                                        by_cases h11 : tg.length ≤ 8
                                        · rw [decide_eq_false (show ¬ (tg.length : Int) > 8 by omega)]
                                          walk_at "dl"
                                          have hsf : smallT (.tuple tf) = true := by
                                            unfold smallS at hs
                                            rw [Bool.and_eq_true] at hs
                                            exact List.all_eq_true.mp hs.2 _ (by simp)

                                          refine y_ixT (d := .tuple td) (atI_nat (j := 3) rfl) ?_
                                          walk_at "dl"
                                          refine ⟨fun j acc e2 => e2 = dstart N_l_is_bare [.d (.tuple [.str z, .int i, .bool v, .tuple td, e, .tuple tf, .tuple tg])] ∧ acc = (td.take j).map fun x => .bool (nameD x), ⟨rfl, rfl⟩, ?_, ?_⟩
                                          · rintro j x acc e2 hx ⟨rfl, rfl⟩
                                            walk_at "dl"
                                            refine ⟨x, rfl, ?_⟩
                                            walk_at "dl"
                                            refine ⟨sz_lt (by rw [List.length_map, List.length_take]; omega), rfl, ?_⟩
                                            rw [List.take_add_one, hx, List.map_append]
                                            rfl
                                          · rintro acc e2 ⟨rfl, rfl⟩
                                            walk_at "dl"
                                            refine y_all (bs := td.map nameD) (by rw [List.map_map, List.take_length]; rfl) ?_
                                            rw [List.all_map]
                                            rw [show (td.all (id ∘ nameD)) = td.all nameD from rfl]
                                            cases ha : td.all nameD with
                                            | false =>
                                              walk_at "dl"
                                              exact noD (by show (decide (td.length ≤ 3) && td.all nameD && _) = false; rw [ha, Bool.and_false, Bool.false_and])
                                            | true =>
                                              walk_at "dl"
                                              refine y_ixT (d := .tuple tf) (atI_nat (j := 5) rfl) ?_
                                              walk_at "dl"
                                              refine ⟨fun j acc e2 => e2 = dstart N_l_is_bare [.d (.tuple [.str z, .int i, .bool v, .tuple td, e, .tuple tf, .tuple tg])] ∧ acc = (tf.take j).map fun x => .bool (pathD x), ⟨rfl, rfl⟩, ?_, ?_⟩
                                              · rintro j x acc e2 hx ⟨rfl, rfl⟩
                                                walk_at "dl"
                                                refine ⟨x, rfl, small_in hsf hx, ?_⟩
                                                walk_at "dl"
                                                refine ⟨sz_lt (by rw [List.length_map, List.length_take]; omega), rfl, ?_⟩
                                                rw [List.take_add_one, hx, List.map_append]
                                                rfl
                                              · rintro acc e2 ⟨rfl, rfl⟩
                                                walk_at "dl"
                                                refine y_all (bs := tf.map pathD) (by rw [List.map_map, List.take_length]; rfl) ?_
                                                rw [List.all_map]
                                                rw [show (tf.all (id ∘ pathD)) = tf.all pathD from rfl]
                                                cases hb : tf.all pathD with
                                                | false =>
                                                  walk_at "dl"
                                                  exact noF (by show (decide (tf.length ≤ 6) && tf.all pathD && _) = false; rw [hb, Bool.and_false, Bool.false_and])
                                                | true =>
                                                  obtain ⟨yd, rfl⟩ : ∃ ys : List Str, td = ys.map .str := ⟨_, texts_of name_text ha⟩
                                                  obtain ⟨yf, rfl⟩ : ∃ ys : List Str, tf = ys.map .str := ⟨_, texts_of path_text hb⟩
                                                  walk_at "dl"
                                                  have hwd := (wf_tup.mp (w 0 _ rfl)).2
                                                  have hw3 : ∀ y ∈ yd, y.length ≤ sizeLine ∧ PyData.strOk y = true := fun y hy => wf_str.mp (wfs_iff.mp (wf_tup.mp (wfs_iff.mp hwd (.tuple (yd.map .str)) (by simp))).2 (.str y) (List.mem_map.mpr ⟨y, hy, rfl⟩))
                                                  have hw5 : ∀ y ∈ yf, y.length ≤ sizeLine ∧ PyData.strOk y = true := fun y hy => wf_str.mp (wfs_iff.mp (wf_tup.mp (wfs_iff.mp hwd (.tuple (yf.map .str)) (by simp))).2 (.str y) (List.mem_map.mpr ⟨y, hy, rfl⟩))
                                                  
                                                  refine y_ixT (d := .tuple (yd.map .str)) (atI_nat (j := 3) rfl) ?_
                                                  walk_at "dl"
                                                  refine ⟨yd, .inr rfl, by rw [List.length_map] at h9; omega, hw3, fun ys nd hm hso => ?_⟩
                                                  walk_at "dl"
                                                  refine y_ixT (d := .tuple (yd.map .str)) (atI_nat (j := 3) rfl) ?_
                                                  walk_at "dl"
                                                  refine y_ne (by rw [depth_strs]; decide) (by rw [depth_strs]; decide) ?_
                                                  rw [eqv_strs]
                                                  have hrs := sorted_same nd hm hso
                                                  cases hryd : risesB yd with
                                                  | false =>
                                                    rw [decide_eq_false (fun e => by rw [hrs.mp e] at hryd; cases hryd)]
                                                    walk_at "dl"
                                                    exact noD (by show (_ && _ && risesB (textsOf (yd.map .str))) = false; rw [texts_map, hryd, Bool.and_false])
                                                  | true =>
                                                    rw [decide_eq_true (hrs.mpr hryd)]
                                                    walk_at "dl"
                                                    refine y_ixT (d := .tuple (yf.map .str)) (atI_nat (j := 5) rfl) ?_
                                                    walk_at "dl"
                                                    refine ⟨yf, .inr rfl, by rw [List.length_map] at h10; omega, hw5, fun ys nd hm hso => ?_⟩
                                                    walk_at "dl"
                                                    refine y_ixT (d := .tuple (yf.map .str)) (atI_nat (j := 5) rfl) ?_
                                                    walk_at "dl"
                                                    refine y_ne (by rw [depth_strs]; decide) (by rw [depth_strs]; decide) ?_
                                                    rw [eqv_strs]
                                                    have hrs := sorted_same nd hm hso
                                                    cases hryf : risesB yf with
                                                    | false =>
                                                      rw [decide_eq_false (fun e => by rw [hrs.mp e] at hryf; cases hryf)]
                                                      walk_at "dl"
                                                      exact noF (by show (_ && _ && risesB (textsOf (yf.map .str))) = false; rw [texts_map, hryf, Bool.and_false])
                                                    | true =>
                                                      rw [decide_eq_true (hrs.mpr hryf)]
                                                      walk_at "dl"
                                                      refine y_ixT (d := .tuple tg) (atI_nat (j := 6) rfl) ?_
                                                      walk_at "dl"
                                                      have hall : (titleD (.str z) && dayD (.int i) && truthD (.bool v) && tagsD (.tuple (yd.map .str)) && nameD e && oldsD (.tuple (yf.map .str)) && rowsD (.tuple tg)) = tg.all lineD := by
                                                        have e1 : titleD (.str z) = true := by rw [ht]; rfl
                                                        have e2 : dayD (.int i) = true := by show (decide (0 ≤ i) && decide (i ≤ 999)) = true; rw [decide_eq_true h7, decide_eq_true h8]; rfl
                                                        have e3 : tagsD (.tuple (yd.map .str)) = true := by show (decide _ && _ && risesB (textsOf (yd.map .str))) = true; rw [decide_eq_true h9, ha, texts_map, hryd]; rfl
                                                        have e4 : oldsD (.tuple (yf.map .str)) = true := by show (decide _ && _ && risesB (textsOf (yf.map .str))) = true; rw [decide_eq_true h10, hb, texts_map, hryf]; rfl
                                                        have e5 : rowsD (.tuple tg) = tg.all lineD := by show (decide (tg.length ≤ 8) && _) = _; rw [decide_eq_true h11, Bool.true_and]
                                                        rw [e1, e2, e3, he, e4, e5]
                                                        rfl
                                                      rw [hall] at q
                                                      refine ⟨fun j acc e2 => e2 = dstart N_l_is_bare [.d (.tuple [.str z, .int i, .bool v, .tuple (yd.map .str), e, .tuple (yf.map .str), .tuple tg])] ∧ acc = (tg.take j).map fun x => .bool (lineD x), ⟨rfl, rfl⟩, ?_, ?_⟩
                                                      · rintro j x acc e2 hx ⟨rfl, rfl⟩
                                                        have hacc : ((tg.take j).map fun x => PyData.bool (lineD x)).length < sizeLine := sz_lt (by rw [List.length_map, List.length_take]; omega)
                                                        have fin : ∀ b, b = lineD x → ((tg.take j).map fun x => PyData.bool (lineD x)) ++ [.bool b] = (tg.take (j + 1)).map fun x => PyData.bool (lineD x) := fun b hb => by rw [hb, List.take_add_one, hx, List.map_append]; rfl
                                                        cases x with
                                                        | str y =>
                                                          walk_at "dl"
                                                          by_cases hy : y.length ≤ 50
                                                          · rw [decide_eq_true (show (y.length : Int) < 51 by omega)]
                                                            walk_at "dl"
                                                            refine z_notInSg (c := 10) ?_
                                                            walk_at "dl"
                                                            exact ⟨hacc, rfl, fin _ (by show _ = (decide (y.length ≤ 50) && _); rw [decide_eq_true hy, Bool.true_and])⟩
                                                          · rw [decide_eq_false (show ¬ (y.length : Int) < 51 by omega)]
                                                            walk_at "dl"
                                                            exact ⟨hacc, rfl, fin _ (by show _ = (decide (y.length ≤ 50) && _); rw [decide_eq_false hy, Bool.false_and])⟩
                                                        | _ =>
                                                          walk_at "dl"
                                                          exact ⟨hacc, rfl, fin _ rfl⟩
                                                      · rintro acc e2 ⟨rfl, rfl⟩
                                                        walk_at "dl"
                                                        refine y_all (bs := tg.map lineD) (by rw [List.map_map, List.take_length]; rfl) ?_
                                                        rw [List.all_map]
                                                        walk_at "dl"
                                                        exact q
                                        · rw [decide_eq_true (show (tg.length : Int) > 8 by omega)]
                                          walk_at "dl"
                                          exact noG (by show (decide (tg.length ≤ 8) && _) = false; rw [decide_eq_false h11, Bool.false_and])
                                      · rw [decide_eq_true (show (tf.length : Int) > 6 by omega)]
                                        walk_at "dl"
                                        exact noF (by show (decide (tf.length ≤ 6) && _ && _) = false; rw [decide_eq_false h10, Bool.false_and, Bool.false_and])
                                    · rw [decide_eq_true (show (td.length : Int) > 3 by omega)]
                                      walk_at "dl"
                                      exact noD (by show (decide (td.length ≤ 3) && _ && _) = false; rw [decide_eq_false h9, Bool.false_and, Bool.false_and])
                                  · rw [hg, show ([isD_tuple (.tuple td), isD_tuple (.tuple tf), false].all id) = false from rfl]
                                    walk_at "dl"
                                    exact noG hg2.2.2
                                · rw [hf, show ([isD_tuple (.tuple td), false, isD_tuple g].all id) = false from rfl]
                                  walk_at "dl"
                                  exact noF hf2.2.1
                              · rw [hd, show ([false, isD_tuple f, isD_tuple g].all id) = false from rfl]
                                walk_at "dl"
                                exact noD hd2.1
                        | _ =>
                          walk_at "dl"
                          exact noC rfl
                      · rw [decide_eq_false h8]
                        walk_at "dl"
                        exact noB (by show (decide (0 ≤ i) && decide (i ≤ 999)) = false; rw [decide_eq_false h8, Bool.and_false])
                    · rw [decide_eq_false h7]
                      walk_at "dl"
                      exact noB (by show (decide (0 ≤ i) && decide (i ≤ 999)) = false; rw [decide_eq_false h7, Bool.false_and])
                  | bool v =>
                    walk_at "dl"
                    refine y_ixT (d := .bool v) (atI_nat (j := 1) rfl) ?_
                    walk_at "dl"
                    exact noB rfl
                  | _ =>
                    walk_at "dl"
                    exact noB rfl
              · rw [show (Txt.stripChars z " " == z) = false from beq_eq_false_iff_ne.mpr h3]
                walk_at "dl"
                refine noT (ht.trans ?_)
                by_cases h4 : x = 32
                · simp [h4]
                · have h5 : ¬ (x :: r).getLast (by simp) ≠ 32 := fun h5 => h3 (hsame.mpr ⟨h4, h5⟩)
                  rw [decide_eq_false h5, Bool.and_false]
            · rw [decide_eq_false (show ¬ (z.length : Int) < 41 by omega)]
              rw [decide_eq_false h2] at ht
              walk_at "dl"
              exact noT ht
        | _ =>
          walk_at "dl"
          exact noT rfl
    · rw [show ((ds.length : Int) == 7) = false by rw [beq_eq_false_iff_ne]; omega]
      rw [source_len h7] at q
      walk_at "dl"
      exact q
  | _ =>
    walk_at "dl"
    exact q
end K04

namespace K04
open PySem PySem.Spec PyProof.Rows L2 DL TL
local macro_rules | `(tactic| walk_at "rd1") => `(tactic| first
  | with_reducible refine x_seq ?_ | with_reducible refine x_asg ?_ | with_reducible refine x_name ?_ | with_reducible refine x_ret ?_ | with_reducible refine x_drop ?_
  | with_reducible refine x_next ?_ | with_reducible refine x_ifs ?_ | with_reducible refine x_test ?_ | with_reducible refine x_tB ?_ | with_reducible refine x_bl ?_
  | with_reducible refine x_nil ?_ | with_reducible refine x_cons ?_ | with_reducible refine x_cb ?_ | with_reducible refine x_not ?_ | with_reducible refine x_and ?_ | with_reducible refine x_or ?_
  | with_reducible refine x_andV ?_ | with_reducible refine x_orV ?_ | with_reducible refine x_notV ?_ | with_reducible refine x_if ?_ | with_reducible refine x_chain ?_
  | with_reducible refine x_op ?_ | with_reducible refine x_un ?_ | with_reducible refine x_c ?_ | with_reducible refine x_I0 ?_ | with_reducible refine x_U ?_ | with_reducible refine x_bm ?_
  | with_reducible refine x_call ?_ | with_reducible refine x_callK ?_ | with_reducible refine x_m1 ?_ | with_reducible refine x_isstr ?_ | with_reducible refine x_sub ?_ | with_reducible refine x_lstA ?_ | with_reducible refine x_tupA ?_
  | with_reducible refine x_abs ?_ | with_reducible refine x_int1b ?_ | with_reducible refine x_sl ?_ | with_reducible refine x_nopart ?_ | with_reducible refine x_part ?_ | with_reducible refine x_isint ?_
  | with_reducible refine x_gcons ?_ | with_reducible refine x_gnil ?_ | with_reducible refine x_tpar ?_ | with_reducible refine x_par ?_ | with_reducible refine x_for ?_ | with_reducible refine x_rng1 ?_
  | with_reducible refine x_istr ?_ | with_reducible refine x_strv ?_ | with_reducible refine x_ilist ?_ | with_reducible refine x_ienum ?_
  | with_reducible refine x_isN ?_ | with_reducible refine x_isNotN ?_ | with_reducible refine x_izip ?_
  | with_reducible refine x_tpar3 ?_ | with_reducible refine x_par3 ?_ | with_reducible refine x_slS (by assumption) ?_
  | with_reducible refine x_lc ?_ | with_reducible refine x_yes ?_ | with_reducible refine iteT ?_ | with_reducible refine iteF ?_
  | with_reducible refine x_lenL (by assumption) ?_ | with_reducible refine x_lenT (by assumption) ?_ | with_reducible refine x_lenS (by assumption) ?_
  | ((with_reducible show tVar _ _ _ _); refine ⟨_, rfl, ?_⟩)
  | ((with_reducible apply x_ixL); (first | assumption | exact SqL.of (by assumption)); rfl))
local macro_rules | `(tactic| walk_at "rd") => `(tactic| repeat walk_at "rd1")
local macro_rules | `(tactic| walk_at "sn") => `(tactic| simp only [reduceCtorEq, decide_false, decide_true, Bool.false_eq_true, Bool.not_true, Bool.not_false, if_false, if_true, ite_true, ite_false, isD_list, isD_tuple, isD_str, isD_bool, isD_int, isSeq])
local macro_rules | `(tactic| walk_at "go") => `(tactic| repeat (first | walk_at "rd1" | walk_at "sn"))

local macro_rules | `(tactic| walk_at "nc") => `(tactic| ((refine DL.n_cons (t' := ?t1) rfl ?_); rotate_left))
local macro_rules | `(tactic| walk_at "nE") => `(tactic| ((repeat walk_at "nc"); exact (rfl : (_ : DL.Env) = [])))
local macro_rules | `(tactic| walk_at "dl1") => `(tactic| ((with_reducible show ∃ r, DL.retC _ _ = some r ∧ _); refine ⟨_, rfl, ?_⟩))
local macro_rules | `(tactic| walk_at "dl1") => `(tactic| with_reducible refine DL.y_yes ?_)
local macro_rules | `(tactic| walk_at "dl1") => `(tactic| with_reducible refine DL.z_lc ?_)
local macro_rules | `(tactic| walk_at "dl1") => `(tactic| with_reducible refine DL.z_fS ?_)
local macro_rules | `(tactic| walk_at "dl1") => `(tactic| with_reducible refine DL.z_replC ?_)
local macro_rules | `(tactic| walk_at "dl1") => `(tactic| with_reducible refine DL.z_stripC ?_)
local macro_rules | `(tactic| walk_at "dl1") => `(tactic| with_reducible refine DL.z_zipK ?_)
local macro_rules | `(tactic| walk_at "dl1") => `(tactic| ((with_reducible refine DL.z_gStar2T (d := ?d1) (d2 := ?d2) (ds := ?d3) ?h1 ?h2 ?h3 ?h4 ?q); (case h1 => exact rfl); (case h2 => exact rfl); (case h3 => exact rfl); (case h4 => exact rfl)))
local macro_rules | `(tactic| walk_at "dl1") => `(tactic| ((with_reducible refine DL.z_keyE (ky := ?d1) ?h ?q); (case h => exact rfl)))
local macro_rules | `(tactic| walk_at "dl1") => `(tactic| with_reducible refine DL.z_dc ?_)
local macro_rules | `(tactic| walk_at "dl1") => `(tactic| with_reducible refine DL.z_dictOf ?_)
local macro_rules | `(tactic| walk_at "dl1") => `(tactic| with_reducible refine DL.z_snoc ?_)
local macro_rules | `(tactic| walk_at "dl1") => `(tactic| with_reducible refine DL.z_jsN ?_)
local macro_rules | `(tactic| walk_at "dl1") => `(tactic| with_reducible refine DL.z_jsC ?_)
local macro_rules | `(tactic| walk_at "dl1") => `(tactic| ((with_reducible refine DL.z_jsE (z := ?d1) ?h ?q); (case h => exact rfl)))
local macro_rules | `(tactic| walk_at "dl1") => `(tactic| with_reducible refine DL.z_joined ?_)
local macro_rules | `(tactic| walk_at "dl1") => `(tactic| ((with_reducible refine DL.z_fmtS (z := ?d1) ?h ?q); (case h => exact rfl)))
local macro_rules | `(tactic| walk_at "dl1") => `(tactic| with_reducible refine DL.z_fmt ?_)
local macro_rules | `(tactic| walk_at "dl1") => `(tactic| ((with_reducible refine DL.z_dget1E (kvs := ?d1) (ky := ?d2) ?h1 ?h2 ?q); (case h1 => exact rfl); (case h2 => exact rfl)))
local macro_rules | `(tactic| walk_at "dl1") => `(tactic| with_reducible refine DL.z_dnotin ?_)
local macro_rules | `(tactic| walk_at "dl1") => `(tactic| with_reducible refine DL.z_din ?_)
local macro_rules | `(tactic| walk_at "dl1") => `(tactic| ((with_reducible refine DL.z_dget1 ?h ?q); (case h => exact ⟨_, rfl⟩)))
local macro_rules | `(tactic| walk_at "dl1") => `(tactic| ((with_reducible refine DL.z_dget ?h ?q); (case h => exact ⟨_, rfl⟩)))
local macro_rules | `(tactic| walk_at "dl1") => `(tactic| ((with_reducible refine DL.z_seeS (z := ?d1) ?h ?q); (case h => exact rfl)))
local macro_rules | `(tactic| walk_at "dl1") => `(tactic| ((with_reducible refine DL.z_seeM (z := ?d1) ?h ?q); (case h => exact rfl)))
local macro_rules | `(tactic| walk_at "dl1") => `(tactic| ((with_reducible refine DL.z_count ?h ?q); (case h => exact ⟨_, rfl⟩)))
local macro_rules | `(tactic| walk_at "dl1") => `(tactic| ((with_reducible refine DL.z_seeT (ds := ?d1) ?h ?q); (case h => exact rfl)))
local macro_rules | `(tactic| walk_at "dl1") => `(tactic| with_reducible refine DL.z_revT ?_)
local macro_rules | `(tactic| walk_at "dl1") => `(tactic| with_reducible refine DL.z_revS ?_)
local macro_rules | `(tactic| walk_at "dl1") => `(tactic| with_reducible refine DL.z_ixM ?_)
local macro_rules | `(tactic| walk_at "dl1") => `(tactic| with_reducible refine DL.z_inM ?_)
local macro_rules | `(tactic| walk_at "dl1") => `(tactic| with_reducible refine DL.z_modk ?_)
local macro_rules | `(tactic| walk_at "dl1") => `(tactic| ((with_reducible refine DL.z_gStar0 (d := ?d1) (ds := ?d2) ?h1 ?h2 ?h3 ?q); (case h1 => exact rfl); (case h2 => exact rfl); (case h3 => exact rfl)))
local macro_rules | `(tactic| walk_at "dl1") => `(tactic| with_reducible refine DL.z_strS ?_)
local macro_rules | `(tactic| walk_at "dl1") => `(tactic| with_reducible refine DL.z_isT ?_)
local macro_rules | `(tactic| walk_at "dl1") => `(tactic| with_reducible refine DL.z_enumT ?_)
local macro_rules | `(tactic| walk_at "dl1") => `(tactic| with_reducible refine DL.z_elt ?_)
local macro_rules | `(tactic| walk_at "dl1") => `(tactic| with_reducible refine DL.z_cl ?_)
local macro_rules | `(tactic| walk_at "dl1") => `(tactic| with_reducible refine DL.z_lcr ?_)
local macro_rules | `(tactic| walk_at "dl1") => `(tactic| ((with_reducible refine DL.z_flatR ?h1 ?q); (case h1 => exact rfl)))
local macro_rules | `(tactic| walk_at "dl1") => `(tactic| with_reducible refine DL.z_callF ?_)
local macro_rules | `(tactic| walk_at "dl1") => `(tactic| with_reducible refine DL.z_int1b ?_)
local macro_rules | `(tactic| walk_at "dl1") => `(tactic| with_reducible refine DL.z_int1 ?_)
local macro_rules | `(tactic| walk_at "dl1") => `(tactic| with_reducible refine DL.z_frz ?_)
local macro_rules | `(tactic| walk_at "dl1") => `(tactic| with_reducible refine DL.y_zip ?_)
local macro_rules | `(tactic| walk_at "dl1") => `(tactic| with_reducible refine DL.y_isL ?_)
local macro_rules | `(tactic| walk_at "dl1") => `(tactic| with_reducible refine DL.y_enum ?_)
local macro_rules | `(tactic| walk_at "dl1") => `(tactic| with_reducible refine DL.y_isII ?_)
local macro_rules | `(tactic| walk_at "dl1") => `(tactic| with_reducible refine DL.y_r2 ?_)
local macro_rules | `(tactic| walk_at "dl1") => `(tactic| with_reducible refine DL.y_r1 ?_)
local macro_rules | `(tactic| walk_at "dl1") => `(tactic| ((with_reducible refine DL.y_iter (xs := ?d1) ?h1 ?q); (case h1 => exact rfl)))
local macro_rules | `(tactic| walk_at "dl1") => `(tactic| with_reducible refine DL.y_iany ?_)
local macro_rules | `(tactic| walk_at "dl1") => `(tactic| with_reducible refine DL.z_wipe ?_)
local macro_rules | `(tactic| walk_at "dl1") => `(tactic| with_reducible refine DL.z_sforW ?_)
local macro_rules | `(tactic| walk_at "dl1") => `(tactic| with_reducible refine DL.z_sfor ?_)
local macro_rules | `(tactic| walk_at "dl1") => `(tactic| ((with_reducible refine DL.z_par3EA ?k1 ?k2 ?k3 ?n1 ?n2 ?n3 ?q); (case k1 => exact rfl); (case k2 => exact rfl); (case k3 => exact rfl); (case n1 => exact rfl); (case n2 => exact rfl); (case n3 => exact rfl)))
local macro_rules | `(tactic| walk_at "dl1") => `(tactic| ((with_reducible refine DL.z_parEA ?k1 ?k2 ?n1 ?n2 ?q); (case k1 => exact rfl); (case k2 => exact rfl); (case n1 => exact rfl); (case n2 => exact rfl)))
local macro_rules | `(tactic| walk_at "dl1") => `(tactic| with_reducible refine DL.z_par3A ?_)
local macro_rules | `(tactic| walk_at "dl1") => `(tactic| with_reducible refine DL.z_parA ?_)
local macro_rules | `(tactic| walk_at "dl1") => `(tactic| with_reducible refine DL.y_isD ?_)
local macro_rules | `(tactic| walk_at "dl1") => `(tactic| with_reducible refine DL.z_asg2 ?_)
local macro_rules | `(tactic| walk_at "dl1") => `(tactic| ((with_reducible refine DL.z_augEA ?h1 ?q); (case h1 => exact rfl)))
local macro_rules | `(tactic| walk_at "dl1") => `(tactic| with_reducible refine DL.y_aI ?_)
local macro_rules | `(tactic| walk_at "dl1") => `(tactic| ((with_reducible refine DL.z_augA (d := ?d1) ?h ?q); (case h => exact rfl)))
local macro_rules | `(tactic| walk_at "dl1") => `(tactic| ((with_reducible show DL.gT _ _ _ _ _); refine DL.y_gT rfl ?_))
local macro_rules | `(tactic| walk_at "dl1") => `(tactic| with_reducible refine DL.y_gscons ?_)
local macro_rules | `(tactic| walk_at "dl1") => `(tactic| with_reducible refine DL.y_gsnil ?_)
local macro_rules | `(tactic| walk_at "dl1") => `(tactic| ((with_reducible refine DL.y_flat ?h1 ?q); (case h1 => exact rfl)))
local macro_rules | `(tactic| walk_at "dl1") => `(tactic| ((with_reducible refine DL.y_parsB (zs := ?d1) ?h1 ?q); (case h1 => exact rfl)))
local macro_rules | `(tactic| walk_at "dl1") => `(tactic| with_reducible refine DL.y_callB ?_)
local macro_rules | `(tactic| walk_at "dl1") => `(tactic| ((with_reducible refine DL.y_pars (zs := ?d1) ?h1 ?h2 ?q); (case h1 => exact rfl); (case h2 => (first | exact List.nodup_nil | exact List.nodup_singleton _ | simp [DL.alsOf]))))
local macro_rules | `(tactic| walk_at "dl1") => `(tactic| with_reducible refine DL.z_call ?_)
local macro_rules | `(tactic| walk_at "dl1") => `(tactic| ((with_reducible show DL.argOK _ _ _); first | refine DL.y_ao ?_ | refine DL.y_aoo ?_))
local macro_rules | `(tactic| walk_at "dl1") => `(tactic| ((with_reducible show DL.argK _ _ _); first | with_reducible refine DL.y_ad ?_ | with_reducible refine DL.y_al ?_ | with_reducible refine DL.y_ab ?_ | ((with_reducible refine DL.y_aap (o := ?d1) ?h ?q); (case h => exact rfl)) | ((with_reducible refine DL.z_aal (ds := ?d1) ?h ?q); (case h => exact rfl)) | ((with_reducible refine DL.y_aab (n := ?d1) ?h ?q); (case h => exact rfl)) | with_reducible refine DL.y_av ?_ | ((with_reducible refine DL.z_adct (kvs := ?d1) ?h ?q); (case h => exact rfl)) | with_reducible refine DL.z_aown ?_))
local macro_rules | `(tactic| walk_at "dl1") => `(tactic| ((with_reducible show DL.noAl _ _ _); first | with_reducible refine DL.y_nd ?_ | with_reducible refine DL.y_no ?_ | with_reducible refine DL.y_nal ?_ | with_reducible refine DL.y_nv ?_))
local macro_rules | `(tactic| walk_at "dl1") => `(tactic| with_reducible refine DL.y_argN ?_)
local macro_rules | `(tactic| walk_at "dl1") => `(tactic| with_reducible refine DL.y_argO ?_)
local macro_rules | `(tactic| walk_at "dl1") => `(tactic| with_reducible refine DL.y_argA ?_)
local macro_rules | `(tactic| walk_at "dl1") => `(tactic| ((with_reducible refine DL.z_reverse (ds := ?d1) ?h ?q); (case h => exact rfl)))
local macro_rules | `(tactic| walk_at "dl1") => `(tactic| ((with_reducible refine DL.y_con (ds := ?d1) ?h1 ?q); (case h1 => exact rfl)))
local macro_rules | `(tactic| walk_at "dl1") => `(tactic| ((with_reducible refine DL.z_extend ?h ?q); (case h => exact ⟨_, rfl⟩)))
local macro_rules | `(tactic| walk_at "dl1") => `(tactic| ((with_reducible refine DL.z_append ?h ?q); (case h => exact ⟨_, rfl⟩)))
local macro_rules | `(tactic| walk_at "dl1") => `(tactic| with_reducible refine DL.y_neg ?_)
local macro_rules | `(tactic| walk_at "dl1") => `(tactic| with_reducible refine DL.y_un ?_)
local macro_rules | `(tactic| walk_at "dl1") => `(tactic| with_reducible refine DL.y_isSD ?_)
local macro_rules | `(tactic| walk_at "dl1") => `(tactic| with_reducible refine DL.y_getW ?_)
local macro_rules | `(tactic| walk_at "dl1") => `(tactic| with_reducible refine DL.y_isSI ?_)
local macro_rules | `(tactic| walk_at "dl1") => `(tactic| with_reducible refine DL.y_find3 ?_)
local macro_rules | `(tactic| walk_at "dl1") => `(tactic| ((with_reducible refine DL.z_gStar1 (d := ?d1) (ds := ?d2) ?h1 ?h2 ?h3 ?q); (case h1 => exact rfl); (case h2 => exact rfl); (case h3 => exact rfl)))
local macro_rules | `(tactic| walk_at "dl1") => `(tactic| ((with_reducible refine DL.z_gStar1T (d := ?d1) (ds := ?d2) ?h1 ?h2 ?h3 ?q); (case h1 => exact rfl); (case h2 => exact rfl); (case h3 => exact rfl)))
local macro_rules | `(tactic| walk_at "dl1") => `(tactic| with_reducible refine DL.y_startswith ?_)
local macro_rules | `(tactic| walk_at "dl1") => `(tactic| with_reducible refine DL.y_m1 ?_)
local macro_rules | `(tactic| walk_at "dl1") => `(tactic| with_reducible refine DL.y_isi ?_)
local macro_rules | `(tactic| walk_at "dl1") => `(tactic| with_reducible refine DL.y_min2 ?_)
local macro_rules | `(tactic| walk_at "dl1") => `(tactic| with_reducible refine DL.y_max2 ?_)
local macro_rules | `(tactic| walk_at "dl1") => `(tactic| with_reducible refine DL.y_tupleOfT ?_)
local macro_rules | `(tactic| walk_at "dl1") => `(tactic| with_reducible refine DL.y_tupleOf ?_)
local macro_rules | `(tactic| walk_at "dl1") => `(tactic| with_reducible refine DL.y_listOfT ?_)
local macro_rules | `(tactic| walk_at "dl1") => `(tactic| with_reducible refine DL.y_listOf ?_)
local macro_rules | `(tactic| walk_at "dl1") => `(tactic| with_reducible refine DL.y_int1b ?_)
local macro_rules | `(tactic| walk_at "dl1") => `(tactic| with_reducible refine DL.y_int1 ?_)
local macro_rules | `(tactic| walk_at "dl1") => `(tactic| with_reducible refine DL.y_abs ?_)
local macro_rules | `(tactic| walk_at "dl1") => `(tactic| ((with_reducible show DL.dLen _ _); refine DL.y_len1 rfl ?_))
local macro_rules | `(tactic| walk_at "dl1") => `(tactic| ((with_reducible refine DL.y_seeAll (ds := ?d1) ?h1 ?q); (case h1 => exact rfl)))
local macro_rules | `(tactic| walk_at "dl1") => `(tactic| with_reducible refine DL.y_cb ?_)
local macro_rules | `(tactic| walk_at "dl1") => `(tactic| with_reducible refine DL.y_acons ?_)
local macro_rules | `(tactic| walk_at "dl1") => `(tactic| with_reducible refine DL.y_anil ?_)
local macro_rules | `(tactic| walk_at "dl1") => `(tactic| ((with_reducible refine DL.y_see1 (d := ?d1) ?h1 ?q); (case h1 => exact rfl)))
local macro_rules | `(tactic| walk_at "dl1") => `(tactic| with_reducible refine DL.y_slS ?_)
local macro_rules | `(tactic| walk_at "dl1") => `(tactic| with_reducible refine DL.y_slT ?_)
local macro_rules | `(tactic| walk_at "dl1") => `(tactic| with_reducible refine DL.y_slL ?_)
local macro_rules | `(tactic| walk_at "dl1") => `(tactic| with_reducible refine DL.y_osome ?_)
local macro_rules | `(tactic| walk_at "dl1") => `(tactic| with_reducible refine DL.y_onone ?_)
local macro_rules | `(tactic| walk_at "dl1") => `(tactic| with_reducible refine DL.y_sl ?_)
local macro_rules | `(tactic| walk_at "dl1") => `(tactic| ((with_reducible show _ ≤ sizeLine ∧ _); refine DL.y_len rfl ?_))
local macro_rules | `(tactic| walk_at "dl1") => `(tactic| ((with_reducible show DL.asD _ _ _); first | with_reducible refine DL.y_asd ?_ | with_reducible refine DL.y_asl ?_ | ((with_reducible refine DL.z_asal (ds := ?d1) ?h ?q); (case h => exact rfl))))
local macro_rules | `(tactic| walk_at "dl1") => `(tactic| with_reducible refine DL.y_lst ?_)
local macro_rules | `(tactic| walk_at "dl1") => `(tactic| with_reducible refine DL.y_tup ?_)
local macro_rules | `(tactic| walk_at "dl1") => `(tactic| with_reducible refine DL.y_vcons ?_)
local macro_rules | `(tactic| walk_at "dl1") => `(tactic| with_reducible refine DL.y_vnil ?_)
local macro_rules | `(tactic| walk_at "dl1") => `(tactic| ((with_reducible show DL.dIsNotN _ _ _); refine DL.y_isNotNf rfl ?_))
local macro_rules | `(tactic| walk_at "dl1") => `(tactic| ((with_reducible show DL.dIsN _ _ _); refine DL.y_isNf rfl ?_))
local macro_rules | `(tactic| walk_at "dl1") => `(tactic| with_reducible refine DL.y_isNotNt ?_)
local macro_rules | `(tactic| walk_at "dl1") => `(tactic| with_reducible refine DL.y_isNt ?_)
local macro_rules | `(tactic| walk_at "dl1") => `(tactic| with_reducible refine DL.z_cont ?_)
local macro_rules | `(tactic| walk_at "dl1") => `(tactic| with_reducible refine DL.z_break ?_)
local macro_rules | `(tactic| walk_at "dl1") => `(tactic| with_reducible refine DL.z_next ?_)
local macro_rules | `(tactic| walk_at "dl1") => `(tactic| with_reducible refine DL.z_drop ?_)
local macro_rules | `(tactic| walk_at "dl1") => `(tactic| with_reducible refine DL.z_retN ?_)
local macro_rules | `(tactic| walk_at "dl1") => `(tactic| with_reducible refine DL.z_ret ?_)
local macro_rules | `(tactic| walk_at "dl1") => `(tactic| with_reducible refine DL.y_ifs ?_)
local macro_rules | `(tactic| walk_at "dl1") => `(tactic| with_reducible refine DL.y_chain ?_)
local macro_rules | `(tactic| walk_at "dl1") => `(tactic| with_reducible refine DL.y_if ?_)
local macro_rules | `(tactic| walk_at "dl1") => `(tactic| with_reducible refine DL.y_orT ?_)
local macro_rules | `(tactic| walk_at "dl1") => `(tactic| with_reducible refine DL.y_andT ?_)
local macro_rules | `(tactic| walk_at "dl1") => `(tactic| with_reducible refine DL.y_notT ?_)
local macro_rules | `(tactic| walk_at "dl1") => `(tactic| with_reducible refine DL.y_or ?_)
local macro_rules | `(tactic| walk_at "dl1") => `(tactic| with_reducible refine DL.y_and ?_)
local macro_rules | `(tactic| walk_at "dl1") => `(tactic| with_reducible refine DL.y_not ?_)
local macro_rules | `(tactic| walk_at "dl1") => `(tactic| with_reducible refine DL.y_nx ?_)
local macro_rules | `(tactic| walk_at "dl1") => `(tactic| with_reducible refine DL.y_rt ?_)
local macro_rules | `(tactic| walk_at "dl1") => `(tactic| with_reducible refine DL.y_i4 ?_)
local macro_rules | `(tactic| walk_at "dl1") => `(tactic| with_reducible refine DL.y_i3 ?_)
local macro_rules | `(tactic| walk_at "dl1") => `(tactic| with_reducible refine DL.y_i2 ?_)
local macro_rules | `(tactic| walk_at "dl1") => `(tactic| with_reducible refine DL.y_i1 ?_)
local macro_rules | `(tactic| walk_at "dl1") => `(tactic| with_reducible refine DL.y_ie1 ?_)
local macro_rules | `(tactic| walk_at "dl1") => `(tactic| with_reducible refine DL.y_ie0 ?_)
local macro_rules | `(tactic| walk_at "dl1") => `(tactic| with_reducible refine DL.y_ifN ?_)
local macro_rules | `(tactic| walk_at "dl1") => `(tactic| with_reducible refine iteF ?_)
local macro_rules | `(tactic| walk_at "dl1") => `(tactic| with_reducible refine iteT ?_)
local macro_rules | `(tactic| walk_at "dl1") => `(tactic| ((with_reducible show DL.isiK _ _ _ _); first | refine DL.y_isk (b := true) rfl rfl ?_ | refine DL.y_isk (b := false) rfl rfl ?_ | refine DL.y_isk rfl rfl ?_))
local macro_rules | `(tactic| walk_at "dl1") => `(tactic| ((with_reducible show DL.truK _ _ _); first | refine DL.y_tkB rfl ?_ | refine DL.y_tkN rfl ?_ | refine DL.y_tkS rfl ?_ | refine DL.y_tkI rfl ?_ | refine DL.y_tkLb (b := true) rfl rfl ?_ | refine DL.y_tkLb (b := false) rfl rfl ?_ | refine DL.y_tkTb (b := true) rfl rfl ?_ | refine DL.y_tkTb (b := false) rfl rfl ?_ | refine DL.y_tkL rfl ?_ | refine DL.y_tkT rfl ?_))
local macro_rules | `(tactic| walk_at "dl1") => `(tactic| with_reducible refine DL.y_isS ?_)
local macro_rules | `(tactic| walk_at "dl1") => `(tactic| with_reducible refine DL.y_isI ?_)
local macro_rules | `(tactic| walk_at "dl1") => `(tactic| with_reducible refine DL.y_bool ?_)
local macro_rules | `(tactic| walk_at "dl1") => `(tactic| with_reducible refine DL.y_B ?_)
local macro_rules | `(tactic| walk_at "dl1") => `(tactic| with_reducible refine DL.y_tru ?_)
local macro_rules | `(tactic| walk_at "dl1") => `(tactic| ((with_reducible show DL.gN _ _ _ _); first | ((with_reducible refine DL.z_gd ?h ?q); (case h => exact rfl)) | ((with_reducible refine DL.z_go ?h ?q); (case h => exact rfl)) | ((with_reducible refine DL.z_gal (ds := ?d1) ?h ?h2 ?q); (case h => exact rfl); (case h2 => exact rfl)) | ((with_reducible refine DL.z_gv ?h ?q); (case h => exact rfl))))
local macro_rules | `(tactic| walk_at "dl1") => `(tactic| with_reducible refine DL.y_neB ?_)
local macro_rules | `(tactic| walk_at "dl1") => `(tactic| with_reducible refine DL.y_neI ?_)
local macro_rules | `(tactic| walk_at "dl1") => `(tactic| with_reducible refine DL.y_neS ?_)
local macro_rules | `(tactic| walk_at "dl1") => `(tactic| with_reducible refine DL.y_eqB ?_)
local macro_rules | `(tactic| walk_at "dl1") => `(tactic| with_reducible refine DL.y_eqI ?_)
local macro_rules | `(tactic| walk_at "dl1") => `(tactic| with_reducible refine DL.y_eqS ?_)
local macro_rules | `(tactic| walk_at "dl1") => `(tactic| with_reducible refine DL.y_geS ?_)
local macro_rules | `(tactic| walk_at "dl1") => `(tactic| with_reducible refine DL.y_gtS ?_)
local macro_rules | `(tactic| walk_at "dl1") => `(tactic| with_reducible refine DL.y_leS ?_)
local macro_rules | `(tactic| walk_at "dl1") => `(tactic| with_reducible refine DL.y_ltS ?_)
local macro_rules | `(tactic| walk_at "dl1") => `(tactic| with_reducible refine DL.y_geI ?_)
local macro_rules | `(tactic| walk_at "dl1") => `(tactic| with_reducible refine DL.y_gtI ?_)
local macro_rules | `(tactic| walk_at "dl1") => `(tactic| with_reducible refine DL.y_leI ?_)
local macro_rules | `(tactic| walk_at "dl1") => `(tactic| with_reducible refine DL.y_ltI ?_)
local macro_rules | `(tactic| walk_at "dl1") => `(tactic| with_reducible refine DL.y_subI ?_)
local macro_rules | `(tactic| walk_at "dl1") => `(tactic| with_reducible refine DL.y_addI ?_)
local macro_rules | `(tactic| walk_at "dl1") => `(tactic| ((with_reducible refine DL.y_see2 (d := ?d1) (d' := ?d2) ?h1 ?h2 ?q); (case h1 => exact rfl); (case h2 => exact rfl)))
local macro_rules | `(tactic| walk_at "dl1") => `(tactic| with_reducible refine DL.y_op ?_)
local macro_rules | `(tactic| walk_at "dl1") => `(tactic| ((with_reducible refine DL.z_at (e' := ?d1) ?he ?q); (case he => walk_at "nE")))
local macro_rules | `(tactic| walk_at "dl1") => `(tactic| ((with_reducible show DL.dVar _ _ _); first | ((with_reducible refine DL.y_vd (d := ?d1) ?h ?q); (case h => exact rfl)) | ((with_reducible refine DL.y_vo (o := ?d1) ?h ?q); (case h => exact rfl)) | ((with_reducible refine DL.y_vp (o := ?d1) ?h ?q); (case h => exact rfl)) | ((with_reducible refine DL.y_vv (w := ?d1) ?h ?q); (case h => exact rfl))))
local macro_rules | `(tactic| walk_at "dl1") => `(tactic| with_reducible refine DL.y_c ?_)
local macro_rules | `(tactic| walk_at "dl1") => `(tactic| with_reducible refine DL.z_asg ?_)
local macro_rules | `(tactic| walk_at "dl1") => `(tactic| with_reducible refine DL.z_seq ?_)
local macro_rules | `(tactic| walk_at "dl") => `(tactic| repeat walk_at "dl1")
local macro_rules | `(tactic| walk_at "tt") => `(tactic| (walk_at "dl"; refine DL.z_ifc (c := true) rfl ?_; walk_at "dl"))
local macro_rules | `(tactic| walk_at "ff") => `(tactic| (walk_at "dl"; refine DL.z_ifc (c := false) rfl ?_; walk_at "dl"))

theorem zero_l_made {xs : List SV} {k : SV → List SV → Prop} (h : sp_l_made_n 0 xs k) : False := by
  obtain ⟨c, d, _, h, _⟩ := h
  omega
theorem pure_l_made (n : Nat) {xs : List SV} {k : SV → List SV → Prop} (h : sp_l_made_n (n + 1) xs k) (w : WfArgs xs) : d_l_made n (dEnd k xs) (dstart N_l_made xs) := by
  obtain ⟨c, d, rfl, h1, h2, hc, q⟩ := h
  have hd20 : 20 ≤ drawM d := by
    cases d with
    | zero => exact Nat.le_refl _
    | succ e => show 20 ≤ 20 + 7 * drawM e; omega
  have hc20 : 20 ≤ c := by omega
  have leaf : ∀ (r : Int) (L : List PyData) (x : PyData), (L.all fun d => goodB d 1 40 60) = true → x ∈ .int (r - 3) :: L → 0 ≤ r → r < 12 → GoodD x (2 * d + 1) (sizeM d) 60 := by
    intro r L x hL hx h0 h9
    have hsz : 40 ≤ sizeM d := by
      clear q hc hd20 hc20 h1 h2 w
      induction d with
      | zero => exact Nat.le_refl _
      | succ e ih => show 40 ≤ 7 * (sizeM e + 1) + 10; omega
    rcases List.mem_cons.mp hx with rfl | hx
    · refine ⟨by rw [plainD]; exact decide_eq_true (by omega), rfl, by show 0 ≤ _; omega, ?_⟩
      simp only [PyData.weight]
      by_cases h00 : r - 3 = 0
      · rw [if_pos (beq_iff_eq.mpr h00)]
        omega
      · rw [if_neg (fun z => h00 (beq_iff_eq.mp z))]
        have hn0 : (r - 3).natAbs ≠ 0 := by omega
        have hn5 : (r - 3).natAbs < 2 ^ 5 := by
          have : (2 : Nat) ^ 5 = 32 := rfl
          omega
        have := (Nat.log2_lt hn0).mpr hn5
        omega
    · exact (goodB_iff (List.all_eq_true.mp hL x hx)).mono (by omega) hsz (by omega)
  unfold d_l_made
  walk_at "dl"
  by_cases h0 : 0 < d
  · rw [decide_eq_true (show (0 : Int) < (d : Int) by omega)]
    walk_at "dl"
    refine ⟨10, _, rfl, by omega, by decide, by decide, fun r r0 r1 => ?_⟩
    walk_at "dl"
    by_cases h7 : r < 7
    · rw [decide_eq_true h7]
      walk_at "dl"
      refine ⟨12, _, rfl, by omega, by decide, by decide, fun r2 r20 r21 => ?_⟩
      walk_at "dl"
      refine ⟨⟨by decide, by decide, by decide⟩, ?_⟩
      walk_at "dl"
      refine z_mulS (by decide) (by decide) (by decide +kernel) (.inr (by decide +kernel)) ?_
      walk_at "dl"
      refine ⟨12, _, rfl, by omega, by decide, by decide, fun r3 r30 r31 => ?_⟩
      walk_at "dl"
      obtain ⟨j, rfl⟩ : ∃ j : Nat, r3 = (j : Int) := ⟨r3.toNat, by omega⟩
      have hj : j < 12 := by omega
      refine y_ixL (atI_nat (List.getElem?_eq_getElem hj)) ?_
      walk_at "dl"
      exact q _ _ (by omega) (leaf r2 _ _ (by decide +kernel) (List.getElem_mem hj) r20 r21)
    · rw [decide_eq_false h7]
      walk_at "dl"
      refine ⟨8, _, rfl, by omega, by decide, by decide, fun r2 r20 r21 => ?_⟩
      walk_at "dl"
      obtain ⟨e, rfl⟩ : ∃ e, d = e + 1 := ⟨d - 1, by omega⟩
      have hdr : drawM (e + 1) = 20 + 7 * drawM e := rfl
      have hsm : sizeM (e + 1) = 7 * (sizeM e + 1) + 10 := rfl
      obtain ⟨m, rfl⟩ : ∃ m : Nat, r2 = (m : Int) := ⟨r2.toNat, by omega⟩
      have hm : m ≤ 7 := by omega
      refine ⟨by omega, by omega, fun i acc e2 => ∃ c', c - 2 - i * drawM e ≤ c' ∧ e2 = [.par (.box c'), .d (.int ((e + 1 : Nat) : Int)), .d (.int r), .no, .no] ∧ acc.length = i ∧ ∀ x ∈ acc, GoodD x (2 * e + 1) (sizeM e) 60, ⟨_, by omega, rfl, rfl, fun x hx => nomatch hx⟩, ?_, ?_⟩
      · rintro i x acc e2 hx ⟨c', hc', rfl, rfl, hacc⟩
        obtain ⟨hi, rfl⟩ := rangeD_get hx
        have hi : acc.length < m := by omega
        have hmul : acc.length * drawM e + drawM e ≤ 7 * drawM e := by
          have : (acc.length + 1) * drawM e ≤ 7 * drawM e := Nat.mul_le_mul_right _ (by omega)
          rw [Nat.add_mul, Nat.one_mul] at this
          exact this
        walk_at "dl"
        refine ⟨c', e, by rw [show ((e + 1 : Nat) : Int) - 1 = (e : Int) by omega], by omega, by omega, by omega, fun x c2 hc2 hg => ?_⟩
        walk_at "dl"
        refine ⟨sz_lt (by omega), c2, ?_, rfl, by rw [List.length_append] <;> rfl, fun y hy => ?_⟩
        · rw [Nat.add_mul, Nat.one_mul]
          omega
        · rcases List.mem_append.mp hy with hy | hy
          · exact hacc y hy
          · rw [List.mem_singleton.mp hy]
            exact hg
      · rintro acc e2 ⟨c', hc', rfl, hl, hacc⟩
        rw [rangeD_len, Int.toNat_natCast] at hl hc'
        have hmul : m * drawM e ≤ 7 * drawM e := Nat.mul_le_mul_right _ hm
        have gt : GoodD (.tuple acc) (2 * e + 2) (7 * (sizeM e + 1)) 60 := good_tuple (by omega) (by decide) hacc
        have gl := good_list gt
        have gp : GoodD (.tuple [.list acc, .str "page"]) (2 * e + 3) (7 * (sizeM e + 1) + 10) 60 := by
          refine good_of (by show 2 ≤ 60; decide) (fun x hx => ?_) (by omega) ?_
          · rcases List.mem_cons.mp hx with rfl | hx
            · exact ⟨gl.pl, gl.ft, by have := gl.dp; omega⟩
            · rw [List.mem_singleton.mp hx]
              exact ⟨rfl, by decide +kernel, by show 0 + 1 ≤ _; omega⟩
          · have := gl.wt
            have e4 : PyData.weight (.str "page") = 4 := by decide +kernel
            simp only [PyData.weightAll, e4]
            omega
        walk_at "dl"
        have h3 : r = 7 ∨ r = 8 ∨ r = 9 := by omega
        rcases h3 with rfl | rfl | rfl
        · refine y_ixL (d := .list acc) (atI_nat (j := 0) rfl) ?_
          walk_at "dl"
          exact q _ _ (by omega) (gl.mono (by omega) (by omega) (Nat.le_refl _))
        · refine y_ixL (d := .tuple acc) (atI_nat (j := 1) rfl) ?_
          walk_at "dl"
          exact q _ _ (by omega) (gt.mono (by omega) (by omega) (Nat.le_refl _))
        · refine y_ixL (d := .tuple [.list acc, .str "page"]) (atI_nat (j := 2) rfl) ?_
          walk_at "dl"
          exact q _ _ (by omega) (gp.mono (by omega) (by omega) (Nat.le_refl _))
  · rw [decide_eq_false (show ¬ (0 : Int) < (d : Int) by omega)]
    walk_at "dl"
    refine ⟨7, _, rfl, by omega, by decide, by decide, fun r r0 r1 => ?_⟩
    walk_at "dl"
    rw [decide_eq_true (show r < 7 by omega)]
    walk_at "dl"
    refine ⟨12, _, rfl, by omega, by decide, by decide, fun r2 r20 r21 => ?_⟩
    walk_at "dl"
    refine ⟨⟨by decide, by decide, by decide⟩, ?_⟩
    walk_at "dl"
    refine z_mulS (by decide) (by decide) (by decide +kernel) (.inr (by decide +kernel)) ?_
    walk_at "dl"
    refine ⟨12, _, rfl, by omega, by decide, by decide, fun r3 r30 r31 => ?_⟩
    walk_at "dl"
    obtain ⟨j, rfl⟩ : ∃ j : Nat, r3 = (j : Int) := ⟨r3.toNat, by omega⟩
    have hj : j < 12 := by omega
    refine y_ixL (atI_nat (List.getElem?_eq_getElem hj)) ?_
    walk_at "dl"
    exact q _ _ (by omega) (leaf r2 _ _ (by decide +kernel) (List.getElem_mem hj) r20 r21)
end K04

namespace K04
open PySem PySem.Spec PyProof.Rows L2 DL TL
local macro_rules | `(tactic| walk_at "rd1") => `(tactic| first
  | with_reducible refine x_seq ?_ | with_reducible refine x_asg ?_ | with_reducible refine x_name ?_ | with_reducible refine x_ret ?_ | with_reducible refine x_drop ?_
  | with_reducible refine x_next ?_ | with_reducible refine x_ifs ?_ | with_reducible refine x_test ?_ | with_reducible refine x_tB ?_ | with_reducible refine x_bl ?_
  | with_reducible refine x_nil ?_ | with_reducible refine x_cons ?_ | with_reducible refine x_cb ?_ | with_reducible refine x_not ?_ | with_reducible refine x_and ?_ | with_reducible refine x_or ?_
  | with_reducible refine x_andV ?_ | with_reducible refine x_orV ?_ | with_reducible refine x_notV ?_ | with_reducible refine x_if ?_ | with_reducible refine x_chain ?_
  | with_reducible refine x_op ?_ | with_reducible refine x_un ?_ | with_reducible refine x_c ?_ | with_reducible refine x_I0 ?_ | with_reducible refine x_U ?_ | with_reducible refine x_bm ?_
  | with_reducible refine x_call ?_ | with_reducible refine x_callK ?_ | with_reducible refine x_m1 ?_ | with_reducible refine x_isstr ?_ | with_reducible refine x_sub ?_ | with_reducible refine x_lstA ?_ | with_reducible refine x_tupA ?_
  | with_reducible refine x_abs ?_ | with_reducible refine x_int1b ?_ | with_reducible refine x_sl ?_ | with_reducible refine x_nopart ?_ | with_reducible refine x_part ?_ | with_reducible refine x_isint ?_
  | with_reducible refine x_gcons ?_ | with_reducible refine x_gnil ?_ | with_reducible refine x_tpar ?_ | with_reducible refine x_par ?_ | with_reducible refine x_for ?_ | with_reducible refine x_rng1 ?_
  | with_reducible refine x_istr ?_ | with_reducible refine x_strv ?_ | with_reducible refine x_ilist ?_ | with_reducible refine x_ienum ?_
  | with_reducible refine x_isN ?_ | with_reducible refine x_isNotN ?_ | with_reducible refine x_izip ?_
  | with_reducible refine x_tpar3 ?_ | with_reducible refine x_par3 ?_ | with_reducible refine x_slS (by assumption) ?_
  | with_reducible refine x_lc ?_ | with_reducible refine x_yes ?_ | with_reducible refine iteT ?_ | with_reducible refine iteF ?_
  | with_reducible refine x_lenL (by assumption) ?_ | with_reducible refine x_lenT (by assumption) ?_ | with_reducible refine x_lenS (by assumption) ?_
  | ((with_reducible show tVar _ _ _ _); refine ⟨_, rfl, ?_⟩)
  | ((with_reducible apply x_ixL); (first | assumption | exact SqL.of (by assumption)); rfl))
local macro_rules | `(tactic| walk_at "rd") => `(tactic| repeat walk_at "rd1")
local macro_rules | `(tactic| walk_at "sn") => `(tactic| simp only [reduceCtorEq, decide_false, decide_true, Bool.false_eq_true, Bool.not_true, Bool.not_false, if_false, if_true, ite_true, ite_false, isD_list, isD_tuple, isD_str, isD_bool, isD_int, isSeq])
local macro_rules | `(tactic| walk_at "go") => `(tactic| repeat (first | walk_at "rd1" | walk_at "sn"))

local macro_rules | `(tactic| walk_at "nc") => `(tactic| ((refine DL.n_cons (t' := ?t1) rfl ?_); rotate_left))
local macro_rules | `(tactic| walk_at "nE") => `(tactic| ((repeat walk_at "nc"); exact (rfl : (_ : DL.Env) = [])))
local macro_rules | `(tactic| walk_at "dl1") => `(tactic| ((with_reducible show ∃ r, DL.retC _ _ = some r ∧ _); refine ⟨_, rfl, ?_⟩))
local macro_rules | `(tactic| walk_at "dl1") => `(tactic| with_reducible refine DL.y_yes ?_)
local macro_rules | `(tactic| walk_at "dl1") => `(tactic| with_reducible refine DL.z_lc ?_)
local macro_rules | `(tactic| walk_at "dl1") => `(tactic| with_reducible refine DL.z_fS ?_)
local macro_rules | `(tactic| walk_at "dl1") => `(tactic| with_reducible refine DL.z_replC ?_)
local macro_rules | `(tactic| walk_at "dl1") => `(tactic| with_reducible refine DL.z_stripC ?_)
local macro_rules | `(tactic| walk_at "dl1") => `(tactic| with_reducible refine DL.z_zipK ?_)
local macro_rules | `(tactic| walk_at "dl1") => `(tactic| ((with_reducible refine DL.z_gStar2T (d := ?d1) (d2 := ?d2) (ds := ?d3) ?h1 ?h2 ?h3 ?h4 ?q); (case h1 => exact rfl); (case h2 => exact rfl); (case h3 => exact rfl); (case h4 => exact rfl)))
local macro_rules | `(tactic| walk_at "dl1") => `(tactic| ((with_reducible refine DL.z_keyE (ky := ?d1) ?h ?q); (case h => exact rfl)))
local macro_rules | `(tactic| walk_at "dl1") => `(tactic| with_reducible refine DL.z_dc ?_)
local macro_rules | `(tactic| walk_at "dl1") => `(tactic| with_reducible refine DL.z_dictOf ?_)
local macro_rules | `(tactic| walk_at "dl1") => `(tactic| with_reducible refine DL.z_snoc ?_)
local macro_rules | `(tactic| walk_at "dl1") => `(tactic| with_reducible refine DL.z_jsN ?_)
local macro_rules | `(tactic| walk_at "dl1") => `(tactic| with_reducible refine DL.z_jsC ?_)
local macro_rules | `(tactic| walk_at "dl1") => `(tactic| ((with_reducible refine DL.z_jsE (z := ?d1) ?h ?q); (case h => exact rfl)))
local macro_rules | `(tactic| walk_at "dl1") => `(tactic| with_reducible refine DL.z_joined ?_)
local macro_rules | `(tactic| walk_at "dl1") => `(tactic| ((with_reducible refine DL.z_fmtS (z := ?d1) ?h ?q); (case h => exact rfl)))
local macro_rules | `(tactic| walk_at "dl1") => `(tactic| with_reducible refine DL.z_fmt ?_)
local macro_rules | `(tactic| walk_at "dl1") => `(tactic| ((with_reducible refine DL.z_dget1E (kvs := ?d1) (ky := ?d2) ?h1 ?h2 ?q); (case h1 => exact rfl); (case h2 => exact rfl)))
local macro_rules | `(tactic| walk_at "dl1") => `(tactic| with_reducible refine DL.z_dnotin ?_)
local macro_rules | `(tactic| walk_at "dl1") => `(tactic| with_reducible refine DL.z_din ?_)
local macro_rules | `(tactic| walk_at "dl1") => `(tactic| ((with_reducible refine DL.z_dget1 ?h ?q); (case h => exact ⟨_, rfl⟩)))
local macro_rules | `(tactic| walk_at "dl1") => `(tactic| ((with_reducible refine DL.z_dget ?h ?q); (case h => exact ⟨_, rfl⟩)))
local macro_rules | `(tactic| walk_at "dl1") => `(tactic| ((with_reducible refine DL.z_seeS (z := ?d1) ?h ?q); (case h => exact rfl)))
local macro_rules | `(tactic| walk_at "dl1") => `(tactic| ((with_reducible refine DL.z_seeM (z := ?d1) ?h ?q); (case h => exact rfl)))
local macro_rules | `(tactic| walk_at "dl1") => `(tactic| ((with_reducible refine DL.z_count ?h ?q); (case h => exact ⟨_, rfl⟩)))
local macro_rules | `(tactic| walk_at "dl1") => `(tactic| ((with_reducible refine DL.z_seeT (ds := ?d1) ?h ?q); (case h => exact rfl)))
local macro_rules | `(tactic| walk_at "dl1") => `(tactic| with_reducible refine DL.z_revT ?_)
local macro_rules | `(tactic| walk_at "dl1") => `(tactic| with_reducible refine DL.z_revS ?_)
local macro_rules | `(tactic| walk_at "dl1") => `(tactic| with_reducible refine DL.z_ixM ?_)
local macro_rules | `(tactic| walk_at "dl1") => `(tactic| with_reducible refine DL.z_inM ?_)
local macro_rules | `(tactic| walk_at "dl1") => `(tactic| with_reducible refine DL.z_modk ?_)
local macro_rules | `(tactic| walk_at "dl1") => `(tactic| ((with_reducible refine DL.z_gStar0 (d := ?d1) (ds := ?d2) ?h1 ?h2 ?h3 ?q); (case h1 => exact rfl); (case h2 => exact rfl); (case h3 => exact rfl)))
local macro_rules | `(tactic| walk_at "dl1") => `(tactic| with_reducible refine DL.z_strS ?_)
local macro_rules | `(tactic| walk_at "dl1") => `(tactic| with_reducible refine DL.z_isT ?_)
local macro_rules | `(tactic| walk_at "dl1") => `(tactic| with_reducible refine DL.z_enumT ?_)
local macro_rules | `(tactic| walk_at "dl1") => `(tactic| with_reducible refine DL.z_elt ?_)
local macro_rules | `(tactic| walk_at "dl1") => `(tactic| with_reducible refine DL.z_cl ?_)
local macro_rules | `(tactic| walk_at "dl1") => `(tactic| with_reducible refine DL.z_lcr ?_)
local macro_rules | `(tactic| walk_at "dl1") => `(tactic| ((with_reducible refine DL.z_flatR ?h1 ?q); (case h1 => exact rfl)))
local macro_rules | `(tactic| walk_at "dl1") => `(tactic| with_reducible refine DL.z_callF ?_)
local macro_rules | `(tactic| walk_at "dl1") => `(tactic| with_reducible refine DL.z_int1b ?_)
local macro_rules | `(tactic| walk_at "dl1") => `(tactic| with_reducible refine DL.z_int1 ?_)
local macro_rules | `(tactic| walk_at "dl1") => `(tactic| with_reducible refine DL.z_frz ?_)
local macro_rules | `(tactic| walk_at "dl1") => `(tactic| with_reducible refine DL.y_zip ?_)
local macro_rules | `(tactic| walk_at "dl1") => `(tactic| with_reducible refine DL.y_isL ?_)
local macro_rules | `(tactic| walk_at "dl1") => `(tactic| with_reducible refine DL.y_enum ?_)
local macro_rules | `(tactic| walk_at "dl1") => `(tactic| with_reducible refine DL.y_isII ?_)
local macro_rules | `(tactic| walk_at "dl1") => `(tactic| with_reducible refine DL.y_r2 ?_)
local macro_rules | `(tactic| walk_at "dl1") => `(tactic| with_reducible refine DL.y_r1 ?_)
local macro_rules | `(tactic| walk_at "dl1") => `(tactic| ((with_reducible refine DL.y_iter (xs := ?d1) ?h1 ?q); (case h1 => exact rfl)))
local macro_rules | `(tactic| walk_at "dl1") => `(tactic| with_reducible refine DL.y_iany ?_)
local macro_rules | `(tactic| walk_at "dl1") => `(tactic| with_reducible refine DL.z_wipe ?_)
local macro_rules | `(tactic| walk_at "dl1") => `(tactic| with_reducible refine DL.z_sforW ?_)
local macro_rules | `(tactic| walk_at "dl1") => `(tactic| with_reducible refine DL.z_sfor ?_)
local macro_rules | `(tactic| walk_at "dl1") => `(tactic| ((with_reducible refine DL.z_par3EA ?k1 ?k2 ?k3 ?n1 ?n2 ?n3 ?q); (case k1 => exact rfl); (case k2 => exact rfl); (case k3 => exact rfl); (case n1 => exact rfl); (case n2 => exact rfl); (case n3 => exact rfl)))
local macro_rules | `(tactic| walk_at "dl1") => `(tactic| ((with_reducible refine DL.z_parEA ?k1 ?k2 ?n1 ?n2 ?q); (case k1 => exact rfl); (case k2 => exact rfl); (case n1 => exact rfl); (case n2 => exact rfl)))
local macro_rules | `(tactic| walk_at "dl1") => `(tactic| with_reducible refine DL.z_par3A ?_)
local macro_rules | `(tactic| walk_at "dl1") => `(tactic| with_reducible refine DL.z_parA ?_)
local macro_rules | `(tactic| walk_at "dl1") => `(tactic| with_reducible refine DL.y_isD ?_)
local macro_rules | `(tactic| walk_at "dl1") => `(tactic| with_reducible refine DL.z_asg2 ?_)
local macro_rules | `(tactic| walk_at "dl1") => `(tactic| ((with_reducible refine DL.z_augEA ?h1 ?q); (case h1 => exact rfl)))
local macro_rules | `(tactic| walk_at "dl1") => `(tactic| with_reducible refine DL.y_aI ?_)
local macro_rules | `(tactic| walk_at "dl1") => `(tactic| ((with_reducible refine DL.z_augA (d := ?d1) ?h ?q); (case h => exact rfl)))
local macro_rules | `(tactic| walk_at "dl1") => `(tactic| ((with_reducible show DL.gT _ _ _ _ _); refine DL.y_gT rfl ?_))
local macro_rules | `(tactic| walk_at "dl1") => `(tactic| with_reducible refine DL.y_gscons ?_)
local macro_rules | `(tactic| walk_at "dl1") => `(tactic| with_reducible refine DL.y_gsnil ?_)
local macro_rules | `(tactic| walk_at "dl1") => `(tactic| ((with_reducible refine DL.y_flat ?h1 ?q); (case h1 => exact rfl)))
local macro_rules | `(tactic| walk_at "dl1") => `(tactic| ((with_reducible refine DL.y_parsB (zs := ?d1) ?h1 ?q); (case h1 => exact rfl)))
local macro_rules | `(tactic| walk_at "dl1") => `(tactic| with_reducible refine DL.y_callB ?_)
local macro_rules | `(tactic| walk_at "dl1") => `(tactic| ((with_reducible refine DL.y_pars (zs := ?d1) ?h1 ?h2 ?q); (case h1 => exact rfl); (case h2 => (first | exact List.nodup_nil | exact List.nodup_singleton _ | simp [DL.alsOf]))))
local macro_rules | `(tactic| walk_at "dl1") => `(tactic| with_reducible refine DL.z_call ?_)
local macro_rules | `(tactic| walk_at "dl1") => `(tactic| ((with_reducible show DL.argOK _ _ _); first | refine DL.y_ao ?_ | refine DL.y_aoo ?_))
local macro_rules | `(tactic| walk_at "dl1") => `(tactic| ((with_reducible show DL.argK _ _ _); first | with_reducible refine DL.y_ad ?_ | with_reducible refine DL.y_al ?_ | with_reducible refine DL.y_ab ?_ | ((with_reducible refine DL.y_aap (o := ?d1) ?h ?q); (case h => exact rfl)) | ((with_reducible refine DL.z_aal (ds := ?d1) ?h ?q); (case h => exact rfl)) | ((with_reducible refine DL.y_aab (n := ?d1) ?h ?q); (case h => exact rfl)) | with_reducible refine DL.y_av ?_ | ((with_reducible refine DL.z_adct (kvs := ?d1) ?h ?q); (case h => exact rfl)) | with_reducible refine DL.z_aown ?_))
local macro_rules | `(tactic| walk_at "dl1") => `(tactic| ((with_reducible show DL.noAl _ _ _); first | with_reducible refine DL.y_nd ?_ | with_reducible refine DL.y_no ?_ | with_reducible refine DL.y_nal ?_ | with_reducible refine DL.y_nv ?_))
local macro_rules | `(tactic| walk_at "dl1") => `(tactic| with_reducible refine DL.y_argN ?_)
local macro_rules | `(tactic| walk_at "dl1") => `(tactic| with_reducible refine DL.y_argO ?_)
local macro_rules | `(tactic| walk_at "dl1") => `(tactic| with_reducible refine DL.y_argA ?_)
local macro_rules | `(tactic| walk_at "dl1") => `(tactic| ((with_reducible refine DL.z_reverse (ds := ?d1) ?h ?q); (case h => exact rfl)))
local macro_rules | `(tactic| walk_at "dl1") => `(tactic| ((with_reducible refine DL.y_con (ds := ?d1) ?h1 ?q); (case h1 => exact rfl)))
local macro_rules | `(tactic| walk_at "dl1") => `(tactic| ((with_reducible refine DL.z_extend ?h ?q); (case h => exact ⟨_, rfl⟩)))
local macro_rules | `(tactic| walk_at "dl1") => `(tactic| ((with_reducible refine DL.z_append ?h ?q); (case h => exact ⟨_, rfl⟩)))
local macro_rules | `(tactic| walk_at "dl1") => `(tactic| with_reducible refine DL.y_neg ?_)
local macro_rules | `(tactic| walk_at "dl1") => `(tactic| with_reducible refine DL.y_un ?_)
local macro_rules | `(tactic| walk_at "dl1") => `(tactic| with_reducible refine DL.y_isSD ?_)
local macro_rules | `(tactic| walk_at "dl1") => `(tactic| with_reducible refine DL.y_getW ?_)
local macro_rules | `(tactic| walk_at "dl1") => `(tactic| with_reducible refine DL.y_isSI ?_)
local macro_rules | `(tactic| walk_at "dl1") => `(tactic| with_reducible refine DL.y_find3 ?_)
local macro_rules | `(tactic| walk_at "dl1") => `(tactic| ((with_reducible refine DL.z_gStar1 (d := ?d1) (ds := ?d2) ?h1 ?h2 ?h3 ?q); (case h1 => exact rfl); (case h2 => exact rfl); (case h3 => exact rfl)))
local macro_rules | `(tactic| walk_at "dl1") => `(tactic| ((with_reducible refine DL.z_gStar1T (d := ?d1) (ds := ?d2) ?h1 ?h2 ?h3 ?q); (case h1 => exact rfl); (case h2 => exact rfl); (case h3 => exact rfl)))
local macro_rules | `(tactic| walk_at "dl1") => `(tactic| with_reducible refine DL.y_startswith ?_)
local macro_rules | `(tactic| walk_at "dl1") => `(tactic| with_reducible refine DL.y_m1 ?_)
local macro_rules | `(tactic| walk_at "dl1") => `(tactic| with_reducible refine DL.y_isi ?_)
local macro_rules | `(tactic| walk_at "dl1") => `(tactic| with_reducible refine DL.y_min2 ?_)
local macro_rules | `(tactic| walk_at "dl1") => `(tactic| with_reducible refine DL.y_max2 ?_)
local macro_rules | `(tactic| walk_at "dl1") => `(tactic| with_reducible refine DL.y_tupleOfT ?_)
local macro_rules | `(tactic| walk_at "dl1") => `(tactic| with_reducible refine DL.y_tupleOf ?_)
local macro_rules | `(tactic| walk_at "dl1") => `(tactic| with_reducible refine DL.y_listOfT ?_)
local macro_rules | `(tactic| walk_at "dl1") => `(tactic| with_reducible refine DL.y_listOf ?_)
local macro_rules | `(tactic| walk_at "dl1") => `(tactic| with_reducible refine DL.y_int1b ?_)
local macro_rules | `(tactic| walk_at "dl1") => `(tactic| with_reducible refine DL.y_int1 ?_)
local macro_rules | `(tactic| walk_at "dl1") => `(tactic| with_reducible refine DL.y_abs ?_)
local macro_rules | `(tactic| walk_at "dl1") => `(tactic| ((with_reducible show DL.dLen _ _); refine DL.y_len1 rfl ?_))
local macro_rules | `(tactic| walk_at "dl1") => `(tactic| ((with_reducible refine DL.y_seeAll (ds := ?d1) ?h1 ?q); (case h1 => exact rfl)))
local macro_rules | `(tactic| walk_at "dl1") => `(tactic| with_reducible refine DL.y_cb ?_)
local macro_rules | `(tactic| walk_at "dl1") => `(tactic| with_reducible refine DL.y_acons ?_)
local macro_rules | `(tactic| walk_at "dl1") => `(tactic| with_reducible refine DL.y_anil ?_)
local macro_rules | `(tactic| walk_at "dl1") => `(tactic| ((with_reducible refine DL.y_see1 (d := ?d1) ?h1 ?q); (case h1 => exact rfl)))
local macro_rules | `(tactic| walk_at "dl1") => `(tactic| with_reducible refine DL.y_slS ?_)
local macro_rules | `(tactic| walk_at "dl1") => `(tactic| with_reducible refine DL.y_slT ?_)
local macro_rules | `(tactic| walk_at "dl1") => `(tactic| with_reducible refine DL.y_slL ?_)
local macro_rules | `(tactic| walk_at "dl1") => `(tactic| with_reducible refine DL.y_osome ?_)
local macro_rules | `(tactic| walk_at "dl1") => `(tactic| with_reducible refine DL.y_onone ?_)
local macro_rules | `(tactic| walk_at "dl1") => `(tactic| with_reducible refine DL.y_sl ?_)
local macro_rules | `(tactic| walk_at "dl1") => `(tactic| ((with_reducible show _ ≤ sizeLine ∧ _); refine DL.y_len rfl ?_))
local macro_rules | `(tactic| walk_at "dl1") => `(tactic| ((with_reducible show DL.asD _ _ _); first | with_reducible refine DL.y_asd ?_ | with_reducible refine DL.y_asl ?_ | ((with_reducible refine DL.z_asal (ds := ?d1) ?h ?q); (case h => exact rfl))))
local macro_rules | `(tactic| walk_at "dl1") => `(tactic| with_reducible refine DL.y_lst ?_)
local macro_rules | `(tactic| walk_at "dl1") => `(tactic| with_reducible refine DL.y_tup ?_)
local macro_rules | `(tactic| walk_at "dl1") => `(tactic| with_reducible refine DL.y_vcons ?_)
local macro_rules | `(tactic| walk_at "dl1") => `(tactic| with_reducible refine DL.y_vnil ?_)
local macro_rules | `(tactic| walk_at "dl1") => `(tactic| ((with_reducible show DL.dIsNotN _ _ _); refine DL.y_isNotNf rfl ?_))
local macro_rules | `(tactic| walk_at "dl1") => `(tactic| ((with_reducible show DL.dIsN _ _ _); refine DL.y_isNf rfl ?_))
local macro_rules | `(tactic| walk_at "dl1") => `(tactic| with_reducible refine DL.y_isNotNt ?_)
local macro_rules | `(tactic| walk_at "dl1") => `(tactic| with_reducible refine DL.y_isNt ?_)
local macro_rules | `(tactic| walk_at "dl1") => `(tactic| with_reducible refine DL.z_cont ?_)
local macro_rules | `(tactic| walk_at "dl1") => `(tactic| with_reducible refine DL.z_break ?_)
local macro_rules | `(tactic| walk_at "dl1") => `(tactic| with_reducible refine DL.z_next ?_)
local macro_rules | `(tactic| walk_at "dl1") => `(tactic| with_reducible refine DL.z_drop ?_)
local macro_rules | `(tactic| walk_at "dl1") => `(tactic| with_reducible refine DL.z_retN ?_)
local macro_rules | `(tactic| walk_at "dl1") => `(tactic| with_reducible refine DL.z_ret ?_)
local macro_rules | `(tactic| walk_at "dl1") => `(tactic| with_reducible refine DL.y_ifs ?_)
local macro_rules | `(tactic| walk_at "dl1") => `(tactic| with_reducible refine DL.y_chain ?_)
local macro_rules | `(tactic| walk_at "dl1") => `(tactic| with_reducible refine DL.y_if ?_)
local macro_rules | `(tactic| walk_at "dl1") => `(tactic| with_reducible refine DL.y_orT ?_)
local macro_rules | `(tactic| walk_at "dl1") => `(tactic| with_reducible refine DL.y_andT ?_)
local macro_rules | `(tactic| walk_at "dl1") => `(tactic| with_reducible refine DL.y_notT ?_)
local macro_rules | `(tactic| walk_at "dl1") => `(tactic| with_reducible refine DL.y_or ?_)
local macro_rules | `(tactic| walk_at "dl1") => `(tactic| with_reducible refine DL.y_and ?_)
local macro_rules | `(tactic| walk_at "dl1") => `(tactic| with_reducible refine DL.y_not ?_)
local macro_rules | `(tactic| walk_at "dl1") => `(tactic| with_reducible refine DL.y_nx ?_)
local macro_rules | `(tactic| walk_at "dl1") => `(tactic| with_reducible refine DL.y_rt ?_)
local macro_rules | `(tactic| walk_at "dl1") => `(tactic| with_reducible refine DL.y_i4 ?_)
local macro_rules | `(tactic| walk_at "dl1") => `(tactic| with_reducible refine DL.y_i3 ?_)
local macro_rules | `(tactic| walk_at "dl1") => `(tactic| with_reducible refine DL.y_i2 ?_)
local macro_rules | `(tactic| walk_at "dl1") => `(tactic| with_reducible refine DL.y_i1 ?_)
local macro_rules | `(tactic| walk_at "dl1") => `(tactic| with_reducible refine DL.y_ie1 ?_)
local macro_rules | `(tactic| walk_at "dl1") => `(tactic| with_reducible refine DL.y_ie0 ?_)
local macro_rules | `(tactic| walk_at "dl1") => `(tactic| with_reducible refine DL.y_ifN ?_)
local macro_rules | `(tactic| walk_at "dl1") => `(tactic| with_reducible refine iteF ?_)
local macro_rules | `(tactic| walk_at "dl1") => `(tactic| with_reducible refine iteT ?_)
local macro_rules | `(tactic| walk_at "dl1") => `(tactic| ((with_reducible show DL.isiK _ _ _ _); first | refine DL.y_isk (b := true) rfl rfl ?_ | refine DL.y_isk (b := false) rfl rfl ?_ | refine DL.y_isk rfl rfl ?_))
local macro_rules | `(tactic| walk_at "dl1") => `(tactic| ((with_reducible show DL.truK _ _ _); first | refine DL.y_tkB rfl ?_ | refine DL.y_tkN rfl ?_ | refine DL.y_tkS rfl ?_ | refine DL.y_tkI rfl ?_ | refine DL.y_tkLb (b := true) rfl rfl ?_ | refine DL.y_tkLb (b := false) rfl rfl ?_ | refine DL.y_tkTb (b := true) rfl rfl ?_ | refine DL.y_tkTb (b := false) rfl rfl ?_ | refine DL.y_tkL rfl ?_ | refine DL.y_tkT rfl ?_))
local macro_rules | `(tactic| walk_at "dl1") => `(tactic| with_reducible refine DL.y_isS ?_)
local macro_rules | `(tactic| walk_at "dl1") => `(tactic| with_reducible refine DL.y_isI ?_)
local macro_rules | `(tactic| walk_at "dl1") => `(tactic| with_reducible refine DL.y_bool ?_)
local macro_rules | `(tactic| walk_at "dl1") => `(tactic| with_reducible refine DL.y_B ?_)
local macro_rules | `(tactic| walk_at "dl1") => `(tactic| with_reducible refine DL.y_tru ?_)
local macro_rules | `(tactic| walk_at "dl1") => `(tactic| ((with_reducible show DL.gN _ _ _ _); first | ((with_reducible refine DL.z_gd ?h ?q); (case h => exact rfl)) | ((with_reducible refine DL.z_go ?h ?q); (case h => exact rfl)) | ((with_reducible refine DL.z_gal (ds := ?d1) ?h ?h2 ?q); (case h => exact rfl); (case h2 => exact rfl)) | ((with_reducible refine DL.z_gv ?h ?q); (case h => exact rfl))))
local macro_rules | `(tactic| walk_at "dl1") => `(tactic| with_reducible refine DL.y_neB ?_)
local macro_rules | `(tactic| walk_at "dl1") => `(tactic| with_reducible refine DL.y_neI ?_)
local macro_rules | `(tactic| walk_at "dl1") => `(tactic| with_reducible refine DL.y_neS ?_)
local macro_rules | `(tactic| walk_at "dl1") => `(tactic| with_reducible refine DL.y_eqB ?_)
local macro_rules | `(tactic| walk_at "dl1") => `(tactic| with_reducible refine DL.y_eqI ?_)
local macro_rules | `(tactic| walk_at "dl1") => `(tactic| with_reducible refine DL.y_eqS ?_)
local macro_rules | `(tactic| walk_at "dl1") => `(tactic| with_reducible refine DL.y_geS ?_)
local macro_rules | `(tactic| walk_at "dl1") => `(tactic| with_reducible refine DL.y_gtS ?_)
local macro_rules | `(tactic| walk_at "dl1") => `(tactic| with_reducible refine DL.y_leS ?_)
local macro_rules | `(tactic| walk_at "dl1") => `(tactic| with_reducible refine DL.y_ltS ?_)
local macro_rules | `(tactic| walk_at "dl1") => `(tactic| with_reducible refine DL.y_geI ?_)
local macro_rules | `(tactic| walk_at "dl1") => `(tactic| with_reducible refine DL.y_gtI ?_)
local macro_rules | `(tactic| walk_at "dl1") => `(tactic| with_reducible refine DL.y_leI ?_)
local macro_rules | `(tactic| walk_at "dl1") => `(tactic| with_reducible refine DL.y_ltI ?_)
local macro_rules | `(tactic| walk_at "dl1") => `(tactic| with_reducible refine DL.y_subI ?_)
local macro_rules | `(tactic| walk_at "dl1") => `(tactic| with_reducible refine DL.y_addI ?_)
local macro_rules | `(tactic| walk_at "dl1") => `(tactic| ((with_reducible refine DL.y_see2 (d := ?d1) (d' := ?d2) ?h1 ?h2 ?q); (case h1 => exact rfl); (case h2 => exact rfl)))
local macro_rules | `(tactic| walk_at "dl1") => `(tactic| with_reducible refine DL.y_op ?_)
local macro_rules | `(tactic| walk_at "dl1") => `(tactic| ((with_reducible refine DL.z_at (e' := ?d1) ?he ?q); (case he => walk_at "nE")))
local macro_rules | `(tactic| walk_at "dl1") => `(tactic| ((with_reducible show DL.dVar _ _ _); first | ((with_reducible refine DL.y_vd (d := ?d1) ?h ?q); (case h => exact rfl)) | ((with_reducible refine DL.y_vo (o := ?d1) ?h ?q); (case h => exact rfl)) | ((with_reducible refine DL.y_vp (o := ?d1) ?h ?q); (case h => exact rfl)) | ((with_reducible refine DL.y_vv (w := ?d1) ?h ?q); (case h => exact rfl))))
local macro_rules | `(tactic| walk_at "dl1") => `(tactic| with_reducible refine DL.y_c ?_)
local macro_rules | `(tactic| walk_at "dl1") => `(tactic| with_reducible refine DL.z_asg ?_)
local macro_rules | `(tactic| walk_at "dl1") => `(tactic| with_reducible refine DL.z_seq ?_)
local macro_rules | `(tactic| walk_at "dl") => `(tactic| repeat walk_at "dl1")
local macro_rules | `(tactic| walk_at "tt") => `(tactic| (walk_at "dl"; refine DL.z_ifc (c := true) rfl ?_; walk_at "dl"))
local macro_rules | `(tactic| walk_at "ff") => `(tactic| (walk_at "dl"; refine DL.z_ifc (c := false) rfl ?_; walk_at "dl"))

def okRB (d : PyData) : Bool := PyData.showable d && decide (PyData.depth d ≤ 60) && decide ((PyData.shown d).length ≤ 100000) && smallS d
theorem okRB_iff {d : PyData} (h : okRB d = true) : okR d ∧ smallS d = true := by
  unfold okRB at h
  simp only [Bool.and_eq_true, decide_eq_true_eq] at h
  exact ⟨⟨h.1.1.1, h.1.1.2, sz_le h.1.2⟩, h.2⟩
abbrev bareD : PyData := .tuple [.str "So", .int 0, .bool false, .tuple [], .str "page", .tuple [], .tuple []]
abbrev fixL : List PyData := [.int 0, .int 1, .int (-1), .bool true, .bool false, .none, .str "", .tuple [], .list [], .str "page", .list [.str "page"], .tuple [.str "page"], .str "a/b", .tuple [.str "a", .str "b"], .str "tag", .int ((10 : Int) ^ (30 : Int).toNat)] ++
  [bareD, .list [.str "So", .int 0, .bool false, .tuple [], .str "page", .tuple [], .tuple []], .tuple (cutX [.str "So", .int 0, .bool false, .tuple [], .str "page", .tuple [], .tuple []] none (some 6)), .tuple ([.str "So", .int 0, .bool false, .tuple [], .str "page", .tuple [], .tuple []] ++ [.tuple []]), withinD (.str "page") 11, withinD bareD 9] ++
  [.tuple [.str "So", .int 0, .bool false, .tuple [], .str "page", .tuple [], .tuple [.none]], .tuple [.str "So", .int 0, .int 0, .tuple [], .str "page", .tuple [], .tuple []], .tuple ([.str "So"] ++ repD 6 [.none])]
theorem fix_ok : (fixL.all okRB) = true := by decide +kernel
theorem rep_all (n : Nat) : ((List.replicate n true).all id) = true := by
  rw [List.all_eq_true]
  intro x hx
  exact (List.mem_replicate.mp hx).2
theorem fit_smallD {n : Nat} (hn : n ≤ 100000) {d : PyData} (h : fitN n d = true) : smallD d = true := by
  cases d with
  | str z =>
    rw [fitN, Bool.and_eq_true] at h
    have := of_decide_eq_true h.1
    exact decide_eq_true (by omega)
  | _ => rfl
theorem fit_smallT {n : Nat} (hn : n ≤ 100000) {d : PyData} (h : fitN n d = true) : smallT d = true := by
  cases d with
  | tuple ds =>
    rw [fitN, Bool.and_eq_true, fitsN_iff] at h
    have h1 := of_decide_eq_true h.1
    unfold smallT
    rw [Bool.and_eq_true, List.all_eq_true]
    refine ⟨decide_eq_true (by omega), fun x hx => ?_⟩
    have hx := h.2 x hx
    rw [fit_smallD hn hx, Bool.true_and]
    cases x with
    | tuple es =>
      rw [fitN, Bool.and_eq_true, fitsN_iff] at hx
      have h2 := of_decide_eq_true hx.1
      dsimp only
      rw [Bool.and_eq_true, List.all_eq_true]
      exact ⟨decide_eq_true (by omega), fun y hy => fit_smallD hn (hx.2 y hy)⟩
    | _ => rfl
  | _ => exact fit_smallD hn h
theorem fit_smallS {n : Nat} (hn : n ≤ 100000) {d : PyData} (h : fitN n d = true) : smallS d = true := by
  unfold smallS
  rw [fit_smallT hn h, Bool.true_and]
  cases d with
  | tuple ds =>
    rw [fitN, Bool.and_eq_true, fitsN_iff] at h
    exact List.all_eq_true.mpr fun x hx => fit_smallT hn (h.2 x hx)
  | _ => rfl
theorem good_okR {d : PyData} {m : Nat} (hm : m ≤ 4) (h : GoodD d (2 * m + 1) (sizeM m) 60) : (wfD d = true → okR d) ∧ smallS d = true := by
  have hs : sizeM m ≤ 2 ^ 20 := by
    match m, hm with
    | 0, _ => decide
    | 1, _ => decide
    | 2, _ => decide
    | 3, _ => decide
    | 4, _ => decide
  refine ⟨fun w => ?_, fit_smallS (by decide) h.ft⟩
  obtain ⟨a, b⟩ := repr_ok w h.pl (Nat.le_trans h.wt hs)
  exact ⟨a, by have := h.dp; omega, b⟩
theorem draw_le {m : Nat} (hm : m ≤ 4) : drawM m ≤ 60000 := by
  match m, hm with
  | 0, _ => decide
  | 1, _ => decide
  | 2, _ => decide
  | 3, _ => decide
  | 4, _ => decide
theorem step_c {Z M j b D c2 : Nat} (hb : Z - j * M ≤ b) (h5 : b - 1 - D ≤ c2) (h6 : D + 1 ≤ M) : Z - (j + 1) * M ≤ c2 := by
  rw [Nat.add_mul, Nat.one_mul]
  generalize j * M = J at hb ⊢
  omega
theorem pure_law {K : PySem.W.Frag} {mg : Str → Option Value} {A : Ad} {H : Hp} {Q : VK} {E : XK} {vs : List V} (T : Top K mg A) (h : L2.sp_law K vs H Q E) : t_law K A { nx := fun _ H' => Q .non H', rt := Q } (L2.start N_law vs) H := by
  obtain ⟨c, ns, a, rfl, hs, hl, ha, ha2, q⟩ := h
  unfold t_law t_law1
  walk_at "rd"
  refine ⟨c, ns, 4, a, rfl, H, Same.refl _, hs, hl, by decide, by decide, ha, ha2, fun Hs1 H1 p ms c1 e1 hm hma => ?_⟩
  have hm3 : ms.length ≤ 4 := by omega
  walk_at "rd"
  refine law_run (sim_law T) (str_law (n := 6) c1.sub e1 (sz_le (by omega))) ?_ (fun H' => ?_)
  · unfold d_law
    walk_at "dl"
    refine ⟨⟨by decide, by decide, by decide⟩, ?_⟩
    walk_at "dl"
    refine y_addT (by decide +kernel) ?_
    walk_at "dl"
    refine ⟨_, 11, rfl, by decide, ?_⟩
    walk_at "dl"
    refine ⟨_, 9, rfl, by decide, ?_⟩
    walk_at "dl"
    refine y_addL (Nat.le_of_ble_eq_true rfl) ?_
    walk_at "dl"
    refine z_mulT2 (by simp) (by decide) (by decide) (by decide) ?_
    walk_at "dl"
    refine y_addT (Nat.le_of_ble_eq_true rfl) ?_
    walk_at "dl"
    refine y_addL (Nat.le_of_ble_eq_true rfl) ?_
    walk_at "dl"
    refine ⟨fun i acc e => e = [.v (.ref c), .d (.list (ms.map .int)), .d (.list fixL), .d bareD, .no, .no, .no, .no] ∧ acc = (List.replicate i true).map .bool, ⟨rfl, rfl⟩, ?_, ?_⟩
    · rintro i x acc e hx ⟨rfl, rfl⟩
      have hx : fixL[i]? = some x := hx
      have hi : i < 100 := Nat.lt_of_lt_of_le (List.getElem?_eq_some_iff.mp hx).1 (by decide +kernel)
      obtain ⟨k1, k2⟩ := okRB_iff (List.all_eq_true.mp fix_ok x (List.mem_of_getElem? hx))
      walk_at "dl"
      refine ⟨x, rfl, fun _ => k1, k2, ?_⟩
      walk_at "dl"
      refine ⟨sz_lt (by rw [List.length_map, List.length_replicate]; omega), rfl, ?_⟩
      rw [List.replicate_succ', List.map_append]
      rfl
    · rintro acc e ⟨rfl, rfl⟩
      walk_at "dl"
      refine y_all (bs := List.replicate _ true) rfl ?_
      rw [rep_all]
      walk_at "dl"
      rw [List.length_map]
      refine ⟨by omega, by omega, fun i e => e = [.v (.ref c), .d (.list (ms.map .int)), .no, .no, .no, .no, .no, .no], rfl, ?_, ?_⟩
      · rintro i x e hx rfl
        obtain ⟨hi, rfl⟩ := rangeD_get hx
        have hi : i < 5 := by omega
        walk_at "dl"
        refine ⟨ms, i, a + 20, by rw [show (0 : Int) + (i : Int) = (i : Int) from Int.zero_add _], hma, by omega, by omega, ?_⟩
        walk_at "dl"
        refine ⟨by decide, by decide, fun j e => ∃ b, 1000000000 - j * 60001 ≤ b ∧ e = [.v (.ref c), .d (.list (ms.map .int)), .no, .no, .no, .own (.box b), .no, .no], ⟨1000000000, Nat.sub_le _ _, rfl⟩, ?_, ?_⟩
        · rintro j x e hx ⟨b, hb, rfl⟩
          obtain ⟨hj, rfl⟩ := rangeD_get hx
          have hj : j < 40 := hj
          walk_at "dl"
          refine ⟨4, _, rfl, by omega, by decide, by decide, fun r r0 r1 => ?_⟩
          walk_at "dl"
          obtain ⟨m, rfl⟩ : ∃ m : Nat, r = (m : Int) := ⟨r.toNat, by omega⟩
          have hm4 : 1 + m ≤ 4 := by omega
          have hdr := draw_le hm4
          refine ⟨b - 1, 1 + m, by rw [show ((1 + m : Nat) : Int) = 1 + (m : Int) by omega], by omega, hm4, by omega, fun x c2 hc2 hg => ?_⟩
          obtain ⟨g1, g2⟩ := good_okR hm4 hg
          walk_at "dl"
          refine ⟨x, rfl, g1, g2, ?_⟩
          walk_at "dl"
          have key := step_c hb hc2 (Nat.succ_le_succ hdr)
          exact ⟨c2, key, rfl⟩
        · rintro e ⟨b, hb, rfl⟩
          walk_at "dl"
          rfl
      · rintro e rfl
        walk_at "dl"
        rfl
  · exact q H'
end K04

namespace K04
open PySem PySem.Spec PyProof.Rows L2 DL TL CwR
section
variable {P : Program} {w : World} {K : PySem.W.Frag} {mg : Str → Option Value} {base : Heap} {A : Ad}
theorem ok_is_name (T : Top K mg A) : FnOk P A.w K mg base CX0 1 A.f_is_name A.d_is_name P_is_name (lift K sp_is_name) := by
  refine T.F_is_name.ok sc_is_name (fun vs H Q E h => lift_len (fun xs k => len_is_name) h) (fun cdv Ar outer s H vs Q E hr h => ⟨t_is_name K A, ?_, fn_sim (sim_is_name T) (fun xs k h w => pure_is_name h w) h⟩)
  exact (pss_cons (ps_if (PW.pt (pw_or (pt_not (pt_truth (pe_callB call_isi (by rfl) T.n_isinstance (by decide +kernel) (pa_cons (pv 0) (pa_cons (pe_bltn (v := .ty "str") (by rfl) T.n_str (by decide +kernel) rfl) pa_nil))) (by intro _; rfl))) (pw_or1 (pt_not (pt_chain oULtE oULtE pe_int (pe_callB call_len (by rfl) T.n_len PySem.boot_len (pa_cons (pv 0) pa_nil)) (C8.pe_gc rfl T.c_MOST_LETTERS)))))) (pss_one (ps_ret pe_bl)) pss_nil)
    (pss_one (ps_ret (pe_callB (cr_all rfl) (by rfl) T.n_all (by decide +kernel) (pa_cons (pe_lc (own := [("sign", 1)]) (wi := (uIt K (tVar 0))) (g := (gName 1)) (tt := tYes) (te := (tOp (uIn K) (tVar 1) (tC (.str "abcdefghijklmnopqrstuvwxyz")))) rfl sc_is_name.nd (pi_any (pv 0)) (blkOk_by (own := [("sign", 1)]) (N := N_is_name) (sc := defScope s_is_name) (by decide +kernel)) (fun _ _ _ _ _ => by exact (pg_name (i := 1) sc_is_name.nd rfl (Or.inl rfl))) (fun _ _ _ _ _ => by exact pts_nil) (fun _ _ _ _ _ => by exact (pe_cmpR (oUIn (units65 hr)) (pv 1) (C8.pe_gc rfl T.c_LETTERS) (by with_unfolding_all rfl)))) pa_nil)))))
theorem ok_is_path (T : Top K mg A) : FnOk P A.w K mg base CX0 2 A.f_is_path A.d_is_path P_is_path (lift K sp_is_path) := by
  have G_is_name : FnOk P A.w K mg base CX0 1 A.f_is_name A.d_is_name P_is_name (lift K sp_is_name) := ok_is_name T
  refine T.F_is_path.ok sc_is_path (fun vs H Q E h => lift_len (fun xs k => len_is_path) h) (fun cdv Ar outer s H vs Q E hr h => ⟨t_is_path K A, ?_, fn_sim (sim_is_path T) (fun xs k h w => pure_is_path h w) h⟩)
  exact (pss_cons (ps_if (pt_not (pt_truth (pe_callB call_isi (by rfl) T.n_isinstance (by decide +kernel) (pa_cons (pv 0) (pa_cons (pe_bltn (v := .ty "str") (by rfl) T.n_str (by decide +kernel) rfl) pa_nil))) (by intro _; rfl))) (pss_one (ps_ret pe_bl)) pss_nil)
    (pss_cons (ps_asg (pe_split (pv 0) pe_str) (pg_starL (n := 2) (i := 1) rfl (pgs_cons (pg_name (i := 1) sc_is_path.nd rfl (Or.inl rfl)) (pgs_star (pg_name (i := 2) sc_is_path.nd rfl (Or.inl rfl)) pgs_nil))))
    (pss_one (ps_ret (pe_andT (pe_cmpR oULt (pe_callB call_len (by rfl) T.n_len PySem.boot_len (pa_cons (pv 2) pa_nil)) (C8.pe_gc rfl T.c_MOST_NAMES) (nomark _)) (pe_andT (pe_cmpR (oNotEqD hr.units) (pv 1) (C8.pe_gc rfl T.c_TAG) (nomark _)) (pe_one (pe_callB (cr_all rfl) (by rfl) T.n_all (by decide +kernel) (pa_cons (pe_lc (own := [("one", 3)]) (wi := (uIt K (tOp (uAdd K) (tLst (tCons (tVar 1) tNil)) (tVar 2)))) (g := (gName 3)) (tt := tYes) (te := (tCall (lift K sp_is_name) [] E0 (tCons (tVar 3) tNil))) rfl sc_is_path.nd (pi_any (pe_op oUAdd (pe_lst (pa_cons (pv 1) pa_nil)) (pv 2))) (blkOk_by (own := [("one", 3)]) (N := N_is_path) (sc := defScope s_is_path) (by decide +kernel)) (fun _ _ _ _ _ => by exact (pg_name (i := 3) sc_is_path.nd rfl (Or.inl rfl))) (fun _ _ _ _ _ => by exact pts_nil) (fun _ _ _ _ _ => by exact (pe_call G_is_name (hr.mono (by decide)) (by rfl) T.g_is_name T.k_is_name T.b_is_name .nil pass0 (pa_cons (pv 3) pa_nil)))) pa_nil)))))))))
theorem ok_is_number (T : Top K mg A) : FnOk P A.w K mg base CX0 1 A.f_is_number A.d_is_number P_is_number (lift K sp_is_number) := by
  refine T.F_is_number.ok sc_is_number (fun vs H Q E h => lift_len (fun xs k => len_is_number) h) (fun cdv Ar outer s H vs Q E hr h => ⟨t_is_number K A, ?_, fn_sim (sim_is_number T) (fun xs k h w => pure_is_number h w) h⟩)
  exact (pss_one (ps_ret (pe_andT (pe_callB call_isi (by rfl) T.n_isinstance (by decide +kernel) (pa_cons (pv 0) (pa_cons (pe_bltn (v := .ty "int") (by rfl) T.n_int (by decide +kernel) rfl) pa_nil))) (pe_andT (pe_notT (pe_callB call_isi (by rfl) T.n_isinstance (by decide +kernel) (pa_cons (pv 0) (pa_cons (pe_bltn (v := .ty "bool") (by rfl) T.n_bool (by decide +kernel) rfl) pa_nil)))) (pe_one (pe_chain oULtE oULtE (pv 1) (pv 0) (pv 2)))))))
theorem ok_is_day (T : Top K mg A) : FnOk P A.w K mg base CX0 2 A.f_is_day A.d_is_day P_is_day (lift K sp_is_day) := by
  have G_is_number : FnOk P A.w K mg base CX0 1 A.f_is_number A.d_is_number P_is_number (lift K sp_is_number) := ok_is_number T
  refine T.F_is_day.ok sc_is_day (fun vs H Q E h => lift_len (fun xs k => len_is_day) h) (fun cdv Ar outer s H vs Q E hr h => ⟨t_is_day K A, ?_, fn_sim (sim_is_day T) (fun xs k h w => pure_is_day h w) h⟩)
  exact (pss_one (ps_ret (pe_call G_is_number (hr.mono (by decide)) (by rfl) T.g_is_number T.k_is_number T.b_is_number .nil pass0 (pa_cons (pv 0) (pa_cons pe_int (pa_cons (C8.pe_gc rfl T.c_MOST_DAY) pa_nil))))))
theorem ok_is_title (T : Top K mg A) : FnOk P A.w K mg base CX0 1 A.f_is_title A.d_is_title P_is_title (lift K sp_is_title) := by
  refine T.F_is_title.ok sc_is_title (fun vs H Q E h => lift_len (fun xs k => len_is_title) h) (fun cdv Ar outer s H vs Q E hr h => ⟨t_is_title K A, ?_, fn_sim (sim_is_title T) (fun xs k h w => pure_is_title h w) h⟩)
  exact (pss_cons (ps_if (PW.pt (pw_or (pt_not (pt_truth (pe_callB call_isi (by rfl) T.n_isinstance (by decide +kernel) (pa_cons (pv 0) (pa_cons (pe_bltn (v := .ty "str") (by rfl) T.n_str (by decide +kernel) rfl) pa_nil))) (by intro _; rfl))) (pw_or (pt_not (pt_chain oULtE oULtE pe_int (pe_callB call_len (by rfl) T.n_len PySem.boot_len (pa_cons (pv 0) pa_nil)) (C8.pe_gc rfl T.c_MOST_TITLE))) (pw_or1 (pt_cmpR (oUIn (units65 hr)) pe_str (pv 0) (by with_unfolding_all rfl)))))) (pss_one (ps_ret pe_bl)) pss_nil)
    (pss_one (ps_ret (pe_andT (pe_cmpR (oNotEqD hr.units) (pe_ix ix_seq (pv 0) pe_int (fun _ _ => rfl)) pe_str (nomark _)) (pe_one (pe_cmpR (oNotEqD hr.units) (pe_ix ix_seq (pv 0) (pe_un un_neg pe_int) (fun _ _ => rfl)) pe_str (nomark _)))))))
theorem ok_is_truth (T : Top K mg A) : FnOk P A.w K mg base CX0 1 A.f_is_truth A.d_is_truth P_is_truth (lift K sp_is_truth) := by
  refine T.F_is_truth.ok sc_is_truth (fun vs H Q E h => lift_len (fun xs k => len_is_truth) h) (fun cdv Ar outer s H vs Q E hr h => ⟨t_is_truth K A, ?_, fn_sim (sim_is_truth T) (fun xs k h w => pure_is_truth h w) h⟩)
  exact (pss_one (ps_ret (pe_callB call_isi (by rfl) T.n_isinstance (by decide +kernel) (pa_cons (pv 0) (pa_cons (pe_bltn (v := .ty "bool") (by rfl) T.n_bool (by decide +kernel) rfl) pa_nil)))))
theorem ok_is_line (T : Top K mg A) : FnOk P A.w K mg base CX0 1 A.f_is_line A.d_is_line P_is_line (lift K sp_is_line) := by
  refine T.F_is_line.ok sc_is_line (fun vs H Q E h => lift_len (fun xs k => len_is_line) h) (fun cdv Ar outer s H vs Q E hr h => ⟨t_is_line K A, ?_, fn_sim (sim_is_line T) (fun xs k h w => pure_is_line h w) h⟩)
  exact (pss_one (ps_ret (pe_andT (pe_callB call_isi (by rfl) T.n_isinstance (by decide +kernel) (pa_cons (pv 0) (pa_cons (pe_bltn (v := .ty "str") (by rfl) T.n_str (by decide +kernel) rfl) pa_nil))) (pe_andT (pe_cmpR oULtE (pe_callB call_len (by rfl) T.n_len PySem.boot_len (pa_cons (pv 0) pa_nil)) (C8.pe_gc rfl T.c_MOST_SIGNS) (nomark _)) (pe_one (pe_cmpR (oUNotIn (units65 hr)) pe_str (pv 0) (by with_unfolding_all rfl)))))))
theorem ok_rises (T : Top K mg A) : FnOk P A.w K mg base CX0 1 A.f_rises A.d_rises P_rises (lift K sp_rises) := by
  refine T.F_rises.ok sc_rises (fun vs H Q E h => lift_len (fun xs k => len_rises) h) (fun cdv Ar outer s H vs Q E hr h => ⟨t_rises K A, ?_, fn_sim (sim_rises T) (fun xs k h w => pure_rises h w) h⟩)
  exact (pss_one (ps_ret (pe_callB (cr_all rfl) (by rfl) T.n_all (by decide +kernel) (pa_cons (pe_lc (own := [("one", 1), ("other", 2)]) (wi := (RZ.iZipA K (tCons (tVar 0) (tCons (tSl (uSl K) (tVar 0) (tPart (tC (.int 1))) tNoPart) tNil)))) (g := (gTup K 2 (gCons (gName 1) (gCons (gName 2) gNil)))) (tt := tYes) (te := (tOp uLt (tVar 1) (tVar 2))) rfl sc_rises.nd (RZ.pi_zipA rfl T.n_zip (pa_cons (pv 0) (pa_cons (pe_slice sl_any (pv 0) (po_some pe_int) po_none) pa_nil))) (blkOk_by (own := [("one", 1), ("other", 2)]) (N := N_rises) (sc := defScope s_rises) (by decide +kernel)) (fun _ _ _ _ _ => by exact (pg_tup rfl (pgs_cons (pg_name (i := 1) sc_rises.nd rfl (Or.inl rfl)) (pgs_cons (pg_name (i := 2) sc_rises.nd rfl (Or.inl rfl)) pgs_nil)))) (fun _ _ _ _ _ => by exact pts_nil) (fun _ _ _ _ _ => by exact (pe_cmpR oULt (pv 1) (pv 2) (nomark _)))) pa_nil))))
theorem ok_are_tags (T : Top K mg A) : FnOk P A.w K mg base CX0 2 A.f_are_tags A.d_are_tags P_are_tags (lift K sp_are_tags) := by
  have G_rises : FnOk P A.w K mg base CX0 1 A.f_rises A.d_rises P_rises (lift K sp_rises) := ok_rises T
  have G_is_name : FnOk P A.w K mg base CX0 1 A.f_is_name A.d_is_name P_is_name (lift K sp_is_name) := ok_is_name T
  refine T.F_are_tags.ok sc_are_tags (fun vs H Q E h => lift_len (fun xs k => len_are_tags) h) (fun cdv Ar outer s H vs Q E hr h => ⟨t_are_tags K A, ?_, fn_sim (sim_are_tags T) (fun xs k h w => pure_are_tags h w) h⟩)
  exact (pss_cons (ps_if (PW.pt (pw_or (pt_not (pt_truth (pe_callB call_isi (by rfl) T.n_isinstance (by decide +kernel) (pa_cons (pv 0) (pa_cons (pe_bltn (v := .ty "tuple") (by rfl) T.n_tuple (by decide +kernel) rfl) pa_nil))) (by intro _; rfl))) (pw_or (pt_cmpR oUGt (pe_callB call_len (by rfl) T.n_len PySem.boot_len (pa_cons (pv 0) pa_nil)) (C8.pe_gc rfl T.c_MOST_TAGS) (nomark _)) (pw_or1 (pt_not (pt_truth (pe_callB (cr_all rfl) (by rfl) T.n_all (by decide +kernel) (pa_cons (pe_lc (own := [("one", 1)]) (wi := (uIt K (tVar 0))) (g := (gName 1)) (tt := tYes) (te := (tCall (lift K sp_is_name) [] E0 (tCons (tVar 1) tNil))) rfl sc_are_tags.nd (pi_any (pv 0)) (blkOk_by (own := [("one", 1)]) (N := N_are_tags) (sc := defScope s_are_tags) (by decide +kernel)) (fun _ _ _ _ _ => by exact (pg_name (i := 1) sc_are_tags.nd rfl (Or.inl rfl))) (fun _ _ _ _ _ => by exact pts_nil) (fun _ _ _ _ _ => by exact (pe_call G_is_name (hr.mono (by decide)) (by rfl) T.g_is_name T.k_is_name T.b_is_name .nil pass0 (pa_cons (pv 1) pa_nil)))) pa_nil)) (by intro _; rfl))))))) (pss_one (ps_ret pe_bl)) pss_nil)
    (pss_one (ps_ret (pe_call G_rises (hr.mono (by decide)) (by rfl) T.g_rises T.k_rises T.b_rises .nil pass0 (pa_cons (pv 0) pa_nil)))))
theorem ok_are_olds (T : Top K mg A) : FnOk P A.w K mg base CX0 3 A.f_are_olds A.d_are_olds P_are_olds (lift K sp_are_olds) := by
  have G_rises : FnOk P A.w K mg base CX0 1 A.f_rises A.d_rises P_rises (lift K sp_rises) := ok_rises T
  have G_is_path : FnOk P A.w K mg base CX0 2 A.f_is_path A.d_is_path P_is_path (lift K sp_is_path) := ok_is_path T
  refine T.F_are_olds.ok sc_are_olds (fun vs H Q E h => lift_len (fun xs k => len_are_olds) h) (fun cdv Ar outer s H vs Q E hr h => ⟨t_are_olds K A, ?_, fn_sim (sim_are_olds T) (fun xs k h w => pure_are_olds h w) h⟩)
  exact (pss_cons (ps_if (PW.pt (pw_or (pt_not (pt_truth (pe_callB call_isi (by rfl) T.n_isinstance (by decide +kernel) (pa_cons (pv 0) (pa_cons (pe_bltn (v := .ty "tuple") (by rfl) T.n_tuple (by decide +kernel) rfl) pa_nil))) (by intro _; rfl))) (pw_or (pt_cmpR oUGt (pe_callB call_len (by rfl) T.n_len PySem.boot_len (pa_cons (pv 0) pa_nil)) (C8.pe_gc rfl T.c_MOST_OLDS) (nomark _)) (pw_or1 (pt_not (pt_truth (pe_callB (cr_all rfl) (by rfl) T.n_all (by decide +kernel) (pa_cons (pe_lc (own := [("one", 1)]) (wi := (uIt K (tVar 0))) (g := (gName 1)) (tt := tYes) (te := (tCall (lift K sp_is_path) [] E0 (tCons (tVar 1) tNil))) rfl sc_are_olds.nd (pi_any (pv 0)) (blkOk_by (own := [("one", 1)]) (N := N_are_olds) (sc := defScope s_are_olds) (by decide +kernel)) (fun _ _ _ _ _ => by exact (pg_name (i := 1) sc_are_olds.nd rfl (Or.inl rfl))) (fun _ _ _ _ _ => by exact pts_nil) (fun _ _ _ _ _ => by exact (pe_call G_is_path (hr.mono (by decide)) (by rfl) T.g_is_path T.k_is_path T.b_is_path .nil pass0 (pa_cons (pv 1) pa_nil)))) pa_nil)) (by intro _; rfl))))))) (pss_one (ps_ret pe_bl)) pss_nil)
    (pss_one (ps_ret (pe_call G_rises (hr.mono (by decide)) (by rfl) T.g_rises T.k_rises T.b_rises .nil pass0 (pa_cons (pv 0) pa_nil)))))
theorem ok_are_rows (T : Top K mg A) : FnOk P A.w K mg base CX0 2 A.f_are_rows A.d_are_rows P_are_rows (lift K sp_are_rows) := by
  have G_is_line : FnOk P A.w K mg base CX0 1 A.f_is_line A.d_is_line P_is_line (lift K sp_is_line) := ok_is_line T
  refine T.F_are_rows.ok sc_are_rows (fun vs H Q E h => lift_len (fun xs k => len_are_rows) h) (fun cdv Ar outer s H vs Q E hr h => ⟨t_are_rows K A, ?_, fn_sim (sim_are_rows T) (fun xs k h w => pure_are_rows h w) h⟩)
  exact (pss_one (ps_ret (pe_andT (pe_callB call_isi (by rfl) T.n_isinstance (by decide +kernel) (pa_cons (pv 0) (pa_cons (pe_bltn (v := .ty "tuple") (by rfl) T.n_tuple (by decide +kernel) rfl) pa_nil))) (pe_andT (pe_cmpR oULtE (pe_callB call_len (by rfl) T.n_len PySem.boot_len (pa_cons (pv 0) pa_nil)) (C8.pe_gc rfl T.c_MOST_ROWS) (nomark _)) (pe_one (pe_callB (cr_all rfl) (by rfl) T.n_all (by decide +kernel) (pa_cons (pe_lc (own := [("one", 1)]) (wi := (uIt K (tVar 0))) (g := (gName 1)) (tt := tYes) (te := (tCall (lift K sp_is_line) [] E0 (tCons (tVar 1) tNil))) rfl sc_are_rows.nd (pi_any (pv 0)) (blkOk_by (own := [("one", 1)]) (N := N_are_rows) (sc := defScope s_are_rows) (by decide +kernel)) (fun _ _ _ _ _ => by exact (pg_name (i := 1) sc_are_rows.nd rfl (Or.inl rfl))) (fun _ _ _ _ _ => by exact pts_nil) (fun _ _ _ _ _ => by exact (pe_call G_is_line (hr.mono (by decide)) (by rfl) T.g_is_line T.k_is_line T.b_is_line .nil pass0 (pa_cons (pv 1) pa_nil)))) pa_nil)))))))
theorem ok_first_bad (T : Top K mg A) : FnOk P A.w K mg base CX0 4 A.f_first_bad A.d_first_bad P_first_bad (lift K sp_first_bad) := by
  have G_is_title : FnOk P A.w K mg base CX0 1 A.f_is_title A.d_is_title P_is_title (lift K sp_is_title) := ok_is_title T
  have G_is_day : FnOk P A.w K mg base CX0 2 A.f_is_day A.d_is_day P_is_day (lift K sp_is_day) := ok_is_day T
  have G_is_truth : FnOk P A.w K mg base CX0 1 A.f_is_truth A.d_is_truth P_is_truth (lift K sp_is_truth) := ok_is_truth T
  have G_are_tags : FnOk P A.w K mg base CX0 2 A.f_are_tags A.d_are_tags P_are_tags (lift K sp_are_tags) := ok_are_tags T
  have G_is_name : FnOk P A.w K mg base CX0 1 A.f_is_name A.d_is_name P_is_name (lift K sp_is_name) := ok_is_name T
  have G_are_olds : FnOk P A.w K mg base CX0 3 A.f_are_olds A.d_are_olds P_are_olds (lift K sp_are_olds) := ok_are_olds T
  have G_are_rows : FnOk P A.w K mg base CX0 2 A.f_are_rows A.d_are_rows P_are_rows (lift K sp_are_rows) := ok_are_rows T
  have held_LOOKS : ∀ f sp, tbR K (tbl_LOOKS A) f sp → ∃ fd ps, FnOk P A.w K mg base CX0 3 f fd ps sp ∧ PySem.W.keepIn K (.ref f) = true ∧ Binds K fd ps [] := by
    intro f sp h
    obtain ⟨z, d, hm, rfl⟩ := h
    simp only [tbl_LOOKS, List.mem_cons, List.not_mem_nil, or_false, Prod.mk.injEq] at hm
    rcases hm with ⟨rfl, rfl, rfl⟩ | ⟨rfl, rfl, rfl⟩ | ⟨rfl, rfl, rfl⟩ | ⟨rfl, rfl, rfl⟩ | ⟨rfl, rfl, rfl⟩ | ⟨rfl, rfl, rfl⟩ | ⟨rfl, rfl, rfl⟩
    · exact ⟨_, _, G_is_title.mono (by decide), T.k_is_title, T.b_is_title⟩
    · exact ⟨_, _, G_is_day.mono (by decide), T.k_is_day, T.b_is_day⟩
    · exact ⟨_, _, G_is_truth.mono (by decide), T.k_is_truth, T.b_is_truth⟩
    · exact ⟨_, _, G_are_tags.mono (by decide), T.k_are_tags, T.b_are_tags⟩
    · exact ⟨_, _, G_is_name.mono (by decide), T.k_is_name, T.b_is_name⟩
    · exact ⟨_, _, G_are_olds.mono (by decide), T.k_are_olds, T.b_are_olds⟩
    · exact ⟨_, _, G_are_rows.mono (by decide), T.k_are_rows, T.b_are_rows⟩
  refine T.F_first_bad.ok sc_first_bad (fun vs H Q E h => lift_len (fun xs k => len_first_bad) h) (fun cdv Ar outer s H vs Q E hr h => ⟨t_first_bad K A, ?_, fn_sim (sim_first_bad T) (fun xs k h w => pure_first_bad h w) h⟩)
  exact (pss_cons (ps_for PassesOwn.never rfl (pi_zipS (ks := keys_LOOKS) T.fd_LOOKS.keys (by rfl) T.n_zip (pa_cons (C8.pe_gc rfl T.c_LOOKS) (pa_cons (pv 0) pa_nil))) (pg_tup rfl (pgs_cons (pg_name (i := 1) sc_first_bad.nd rfl (Or.inl rfl)) (pgs_cons (pg_name (i := 2) sc_first_bad.nd rfl (Or.inl rfl)) pgs_nil))) (pss_cons (ps_set (i := 3) sc_first_bad.nd rfl (Or.inl rfl) (pe_ix ix_kdict (C8.pe_gc rfl T.c_LOOKS) (pv 1) (fun _ _ => rfl))) (pss_one (ps_if (pt_not (pt_truth (pe_callR (i := 3) held_LOOKS (hr.mono (by decide)) rfl (by first | exact Or.inl rfl | exact Or.inr rfl) (pa_cons (pv 2) pa_nil)) (by intro _; rfl))) (pss_one (ps_ret (pv 1))) pss_nil))))
    (pss_one (ps_ret pe_non)))
theorem ok_is_source (T : Top K mg A) : FnOk P A.w K mg base CX0 5 A.f_is_source A.d_is_source P_is_source (lift K sp_is_source) := by
  have G_first_bad : FnOk P A.w K mg base CX0 4 A.f_first_bad A.d_first_bad P_first_bad (lift K sp_first_bad) := ok_first_bad T
  refine T.F_is_source.ok sc_is_source (fun vs H Q E h => lift_len (fun xs k => len_is_source) h) (fun cdv Ar outer s H vs Q E hr h => ⟨t_is_source K A, ?_, fn_sim (sim_is_source T) (fun xs k h w => pure_is_source h w) h⟩)
  exact (pss_one (ps_ret (pe_andT (pe_callB call_isi (by rfl) T.n_isinstance (by decide +kernel) (pa_cons (pv 0) (pa_cons (pe_bltn (v := .ty "tuple") (by rfl) T.n_tuple (by decide +kernel) rfl) pa_nil))) (pe_andT (pe_cmpR (oEqD hr.units) (pe_callB call_len (by rfl) T.n_len PySem.boot_len (pa_cons (pv 0) pa_nil)) (pe_callB (call_lenK (ks := keys_LOOKS) T.fd_LOOKS.keys (by decide +kernel)) (by rfl) T.n_len PySem.boot_len (pa_cons (C8.pe_gc rfl T.c_LOOKS) pa_nil)) (nomark _)) (pe_one (pe_cmpR oIsN (pe_call G_first_bad (hr.mono (by decide)) (by rfl) T.g_first_bad T.k_first_bad T.b_first_bad .nil pass0 (pa_cons (pv 0) pa_nil)) pe_non (nomark _)))))))
theorem ok_l_dip (T : Top K mg A) : FnOk P A.w K mg base CX0 1 A.f_l_dip A.d_l_dip P_l_dip (lift K sp_l_dip) := by
  refine T.F_l_dip.ok sc_l_dip (fun vs H Q E h => ?_) (fun cdv Ar outer s H vs Q E hr h => ⟨t_l_dip K A, ?_, (pure_l_dip T (dip_old h))⟩)
  · obtain ⟨_, _, _, _, rfl, _⟩ := (dip_old h)
    rfl
  · exact (pss_cons (ps_set (i := 2) sc_l_dip.nd rfl (Or.inl rfl) (pe_ifExp (pt_cmpR oLt (pv 1) (pe_callB call_len_seq (by rfl) T.n_len PySem.boot_len (pa_cons (pv 0) pa_nil)) (nomark _)) (pe_ix ix_list (pv 0) (pv 1) (fun _ _ => rfl)) pe_int))
    (pss_one (ps_ret (pe_lst (pa_cons (pe_op oMul (pe_callB call_abs (by rfl) T.n_abs (by decide +kernel) (pa_cons (pv 2) pa_nil)) (pe_callTy call_int1 (by rfl) T.n_int (by decide +kernel) (pa_cons (pe_cmpR oGtE (pe_callB call_abs (by rfl) T.n_abs (by decide +kernel) (pa_cons (pv 2) pa_nil)) (pe_op oPow pe_int pe_int) (nomark _)) pa_nil))) (pa_cons (pe_op oAdd (pe_op oAdd (pe_op oMod (pv 2) pe_int) (pe_op oMul pe_int (pv 1))) pe_int) (pa_cons pe_int pa_nil)))))))
theorem ok_l_take (T : Top K mg A) : FnOk P A.w K mg base CX0 1 A.f_l_take A.d_l_take P_l_take (lift K sp_l_take) := by
  refine T.F_l_take.ok sc_l_take (fun vs H Q E h => ?_) (fun cdv Ar outer s H vs Q E hr h => ⟨t_l_take K A, ?_, (pure_l_take T (take_old h))⟩)
  · obtain ⟨_, _, _, rfl, _⟩ := (take_old h)
    rfl
  · exact (pss_cons (ps_if (pt_cmpR oGt (pe_ix ix_list (pv 0) pe_int (fun _ _ => rfl)) pe_int (nomark _)) (pss_cons (ps_set (i := 2) sc_l_take.nd rfl (Or.inl rfl) (pe_op oMod (pe_ix ix_list (pv 0) pe_int (fun _ _ => rfl)) (pv 1)))
    (pss_cons (ps_asg (pe_op oFdv (pe_ix ix_list (pv 0) pe_int (fun _ _ => rfl)) (pv 1)) (pg_sub (pv 0) pe_int set_list))
    (pss_one (ps_ret (pv 2))))) pss_nil)
    (pss_cons (ps_asg (pe_op oAdd (pe_ix ix_list (pv 0) pe_int (fun _ _ => rfl)) pe_int) (pg_sub (pv 0) pe_int set_list))
    (pss_cons (ps_set (i := 3) sc_l_take.nd rfl (Or.inl rfl) (pe_op oMod (pe_op oPow (pe_op oAdd (pe_ix ix_list (pv 0) pe_int (fun _ _ => rfl)) (pe_op oMul pe_int (pe_ix ix_list (pv 0) pe_int (fun _ _ => rfl)))) pe_int) pe_int))
    (pss_cons (ps_set (i := 4) sc_l_take.nd rfl (Or.inl rfl) (pe_op oMod (pe_op oMul (pe_op oAdd (pe_op oAdd (pv 3) (pe_ix ix_list (pv 0) pe_int (fun _ _ => rfl))) (pe_op oFdv (pe_ix ix_list (pv 0) pe_int (fun _ _ => rfl)) pe_int)) (pe_op oAdd (pe_op oAdd (pe_op oMod (pv 3) pe_int) pe_int) (pe_ix ix_list (pv 0) pe_int (fun _ _ => rfl)))) pe_int))
    (pss_one (ps_ret (pe_op oMod (pe_op oFdv (pe_op oMod (pe_op oAdd (pe_op oMul (pv 4) pe_int) (pv 3)) pe_int) pe_int) (pv 1))))))))
theorem ok_l_folded (T : Top K mg A) : FnOk P A.w K mg base CX0 1 A.f_l_folded A.d_l_folded P_l_folded (sp_l_folded K) := by
  refine T.F_l_folded.ok sc_l_folded (fun vs H Q E h => ?_) (fun cdv Ar outer s H vs Q E hr h => ⟨t_l_folded K A, ?_, (pure_l_folded T h)⟩)
  · obtain ⟨_, _, _, _, rfl, _⟩ := h
    rfl
  · exact (pss_cons (ps_set (i := 2) sc_l_folded.nd rfl (Or.inl rfl) (pe_callTy call_list_of (by rfl) T.n_list (by decide +kernel) (pa_cons (pe_slice sl_list (pv 0) po_none (po_some (pv 1))) pa_nil)))
    (pss_cons (ps_for PassesOwn.never rfl (pi_enum rfl T.n_enumerate (pa_cons (pe_slice sl_list (pv 0) (po_some (pv 1)) (po_some pe_int)) pa_nil)) (pg_tup rfl (pgs_cons (pg_name (i := 3) sc_l_folded.nd rfl (Or.inl rfl)) (pgs_cons (pg_name (i := 4) sc_l_folded.nd rfl (Or.inl rfl)) pgs_nil))) (pss_one (ps_asg (pe_op oAdd (pe_ix ix_list (pv 2) (pe_op oMod (pv 3) (pv 1)) (fun _ _ => rfl)) (pe_op oMul (pv 4) (pe_op oAdd (pv 3) pe_int))) (pg_sub (pv 2) (pe_op oMod (pv 3) (pv 1)) set_list))))
    (pss_one (ps_ret (pv 2)))))
theorem ok_l_made_n (T : Top K mg A) : ∀ n : Nat, FnOk P A.w K mg base CX0 (n + 1) A.f_l_made A.d_l_made P_l_made (lift K (sp_l_made_n n))
  | 0 => T.F_l_made.ok sc_l_made (fun vs H Q E h => (no_lift (fun xs k => zero_l_made) h).elim) (fun cdv Ar outer s H vs Q E hr h => (no_lift (fun xs k => zero_l_made) h).elim)
  | n + 1 => by
    have G_l_made := ok_l_made_n T n
    have G_l_take : FnOk P A.w K mg base CX0 1 A.f_l_take A.d_l_take P_l_take (lift K sp_l_take) := ok_l_take T
    refine T.F_l_made.ok sc_l_made (fun vs H Q E h => lift_len (fun xs k => len_l_made) h) (fun cdv Ar outer s H vs Q E hr h => ⟨t_l_made n K A, ?_, fn_sim (sim_l_made n T) (fun xs k h w => pure_l_made n h w) h⟩)
    exact (pss_cons (ps_set (i := 2) sc_l_made.nd rfl (Or.inl rfl) (pe_call G_l_take (hr.mono (by omega)) (by rfl) T.g_l_take T.k_l_take T.b_l_take .nil pass0 (pa_cons (pv 0) (pa_cons (pe_ifExp (pt_cmpR oUGt (pv 1) pe_int (nomark _)) pe_int pe_int) pa_nil))))
    (pss_cons (ps_if (pt_cmpR oULt (pv 2) pe_int (nomark _)) (pss_cons (ps_set (i := 3) sc_l_made.nd rfl (Or.inl rfl) (pe_lst (pa_cons (pe_op oSub (pe_call G_l_take (hr.mono (by omega)) (by rfl) T.g_l_take T.k_l_take T.b_l_take .nil pass0 (pa_cons (pv 0) (pa_cons pe_int pa_nil))) pe_int) (pa_cons (pe_op oPow pe_int pe_int) (pa_cons pe_bl (pa_cons pe_bl (pa_cons pe_non (pa_cons pe_str (pa_cons pe_str (pa_cons pe_str (pa_cons pe_str (pa_cons pe_str (pa_cons (pe_tup pa_nil) (pa_cons (pe_op oUMul2 pe_str pe_int) pa_nil))))))))))))))
    (pss_one (ps_ret (pe_ix ix_seq (pv 3) (pe_call G_l_take (hr.mono (by omega)) (by rfl) T.g_l_take T.k_l_take T.b_l_take .nil pass0 (pa_cons (pv 0) (pa_cons pe_int pa_nil))) (fun _ _ => rfl))))) pss_nil)
    (pss_cons (ps_setLc (i := 3) (own := [("_law_k", 4)]) (wi := (iRng1 (tCons (tCall (lift K sp_l_take) [] E0 (tCons (tVar 0) (tCons (tC (.int 8)) tNil))) tNil))) (g := (gName 4)) (tt := tYes) (te := (tCall (lift K (sp_l_made_n n)) [] E0 (tCons (tVar 0) (tCons (tOp zSub (tVar 1) (tC (.int 1))) tNil)))) rfl sc_l_made.nd rfl rfl (sw_true rfl rfl rfl (by decide +kernel)) (pi_range1 rfl T.n_range (pa_cons (pe_call G_l_take (hr.mono (by omega)) (by rfl) T.g_l_take T.k_l_take T.b_l_take .nil pass0 (pa_cons (pv 0) (pa_cons pe_int pa_nil))) pa_nil)) (blkOk_by (own := [("_law_k", 4)]) (N := N_l_made) (sc := defScope s_l_made) (by decide +kernel)) (fun _ _ _ _ _ => by exact (pg_name (i := 4) sc_l_made.nd rfl (Or.inl rfl))) (fun _ _ _ _ _ => by exact pts_nil) (fun _ _ _ _ _ => by exact (pe_call G_l_made hr (by rfl) T.g_l_made T.k_l_made T.b_l_made .nil pass0 (pa_cons (pv 0) (pa_cons (pe_op oSub (pv 1) pe_int) pa_nil)))))
    (pss_one (ps_ret (pe_ix ix_seq (pe_lst (pa_cons (pv 3) (pa_cons (pe_callTy call_tuple_of (by rfl) T.n_tuple (by decide +kernel) (pa_cons (pv 3) pa_nil)) (pa_cons (pe_tup (pa_cons (pv 3) (pa_cons pe_str pa_nil))) pa_nil)))) (pe_op oSub (pv 2) pe_int) (fun _ _ => rfl)))))))
theorem ok_l_made (T : Top K mg A) : FnOk P A.w K mg base CX0 7 A.f_l_made A.d_l_made P_l_made (lift K sp_l_made) := ok_l_made_n T 6
theorem ok_l_within (T : Top K mg A) : FnOk P A.w K mg base CX0 1 A.f_l_within A.d_l_within P_l_within (lift K sp_l_within) := by
  refine T.F_l_within.ok sc_l_within (fun vs H Q E h => lift_len (fun xs k => len_l_within) h) (fun cdv Ar outer s H vs Q E hr h => ⟨t_l_within K A, ?_, fn_sim (sim_l_within T) (fun xs k h w => pure_l_within h w) h⟩)
  exact (pss_cons (ps_for PassesOwn.never rfl (pi_range1 rfl T.n_range (pa_cons (pv 1) pa_nil)) (pg_name (i := 2) sc_l_within.nd rfl (Or.inl rfl)) (pss_one (ps_set (i := 0) sc_l_within.nd rfl (Or.inl rfl) (pe_ifExp (pt_cmpR (oEqD hr.units) (pe_op oMod (pv 2) pe_int) pe_int (nomark _)) (pe_lst (pa_cons (pv 0) pa_nil)) (pe_tup (pa_cons (pv 0) pa_nil))))))
    (pss_one (ps_ret (pv 0))))
theorem ok_l_is_one (T : Top K mg A) : FnOk P A.w K mg base CX0 1 A.f_l_is_one A.d_l_is_one P_l_is_one (lift K sp_l_is_one) := by
  refine T.F_l_is_one.ok sc_l_is_one (fun vs H Q E h => lift_len (fun xs k => len_l_is_one) h) (fun cdv Ar outer s H vs Q E hr h => ⟨t_l_is_one K A, ?_, fn_sim (sim_l_is_one T) (fun xs k h w => pure_l_is_one h w) h⟩)
  exact (pss_one (ps_ret (pe_andT (pe_callB call_isi (by rfl) T.n_isinstance (by decide +kernel) (pa_cons (pv 0) (pa_cons (pe_bltn (v := .ty "str") (by rfl) T.n_str (by decide +kernel) rfl) pa_nil))) (pe_andT (pe_chain oULt oULt pe_int (pe_callB call_len (by rfl) T.n_len PySem.boot_len (pa_cons (pv 0) pa_nil)) pe_int) (pe_one (pe_callB (cr_all rfl) (by rfl) T.n_all (by decide +kernel) (pa_cons (pe_lc (own := [("_law_sign", 1)]) (wi := (uIt K (tVar 0))) (g := (gName 1)) (tt := tYes) (te := (tChain uLtE uLtE (tC (.str "a")) (tVar 1) (tC (.str "z")))) rfl sc_l_is_one.nd (pi_any (pv 0)) (blkOk_by (own := [("_law_sign", 1)]) (N := N_l_is_one) (sc := defScope s_l_is_one) (by decide +kernel)) (fun _ _ _ _ _ => by exact (pg_name (i := 1) sc_l_is_one.nd rfl (Or.inl rfl))) (fun _ _ _ _ _ => by exact pts_nil) (fun _ _ _ _ _ => by exact (pe_chain oULtE oULtE pe_str (pv 1) pe_str))) pa_nil)))))))
theorem ok_l_is_way (T : Top K mg A) : FnOk P A.w K mg base CX0 2 A.f_l_is_way A.d_l_is_way P_l_is_way (lift K sp_l_is_way) := by
  have G_l_is_one : FnOk P A.w K mg base CX0 1 A.f_l_is_one A.d_l_is_one P_l_is_one (lift K sp_l_is_one) := ok_l_is_one T
  refine T.F_l_is_way.ok sc_l_is_way (fun vs H Q E h => lift_len (fun xs k => len_l_is_way) h) (fun cdv Ar outer s H vs Q E hr h => ⟨t_l_is_way K A, ?_, fn_sim (sim_l_is_way T) (fun xs k h w => pure_l_is_way h w) h⟩)
  exact (pss_cons (ps_if (pt_not (pt_truth (pe_callB call_isi (by rfl) T.n_isinstance (by decide +kernel) (pa_cons (pv 0) (pa_cons (pe_bltn (v := .ty "str") (by rfl) T.n_str (by decide +kernel) rfl) pa_nil))) (by intro _; rfl))) (pss_one (ps_ret pe_bl)) pss_nil)
    (pss_cons (ps_set (i := 1) sc_l_is_way.nd rfl (Or.inl rfl) (pe_split (pv 0) pe_str))
    (pss_one (ps_ret (pe_andT (pe_cmpR oULt (pe_callB call_len (by rfl) T.n_len PySem.boot_len (pa_cons (pv 1) pa_nil)) pe_int (nomark _)) (pe_andT (pe_cmpR (oNotEqD hr.units) (pe_ix ix_seq (pv 1) pe_int (fun _ _ => rfl)) pe_str (nomark _)) (pe_one (pe_callB (cr_all rfl) (by rfl) T.n_all (by decide +kernel) (pa_cons (pe_lc (own := [("_law_name", 2)]) (wi := (uIt K (tVar 1))) (g := (gName 2)) (tt := tYes) (te := (tCall (lift K sp_l_is_one) [] E0 (tCons (tVar 2) tNil))) rfl sc_l_is_way.nd (pi_any (pv 1)) (blkOk_by (own := [("_law_name", 2)]) (N := N_l_is_way) (sc := defScope s_l_is_way) (by decide +kernel)) (fun _ _ _ _ _ => by exact (pg_name (i := 2) sc_l_is_way.nd rfl (Or.inl rfl))) (fun _ _ _ _ _ => by exact pts_nil) (fun _ _ _ _ _ => by exact (pe_call G_l_is_one (hr.mono (by decide)) (by rfl) T.g_l_is_one T.k_l_is_one T.b_l_is_one .nil pass0 (pa_cons (pv 2) pa_nil)))) pa_nil)))))))))
theorem ok_l_is_bare (T : Top K mg A) : FnOk P A.w K mg base CX0 3 A.f_l_is_bare A.d_l_is_bare P_l_is_bare (lift K sp_l_is_bare) := by
  have G_l_is_one : FnOk P A.w K mg base CX0 1 A.f_l_is_one A.d_l_is_one P_l_is_one (lift K sp_l_is_one) := ok_l_is_one T
  have G_l_is_way : FnOk P A.w K mg base CX0 2 A.f_l_is_way A.d_l_is_way P_l_is_way (lift K sp_l_is_way) := ok_l_is_way T
  refine T.F_l_is_bare.ok sc_l_is_bare (fun vs H Q E h => lift_len (fun xs k => len_l_is_bare) h) (fun cdv Ar outer s H vs Q E hr h => ⟨t_l_is_bare K A, ?_, fn_sim (sim_l_is_bare T) (fun xs k h w => pure_l_is_bare h w) h⟩)
  exact (pss_cons (ps_if (PW.pt (pw_or (pt_not (pt_truth (pe_callB call_isi (by rfl) T.n_isinstance (by decide +kernel) (pa_cons (pv 0) (pa_cons (pe_bltn (v := .ty "tuple") (by rfl) T.n_tuple (by decide +kernel) rfl) pa_nil))) (by intro _; rfl))) (pw_or (pt_cmpR (oNotEqD hr.units) (pe_callB call_len (by rfl) T.n_len PySem.boot_len (pa_cons (pv 0) pa_nil)) pe_int (nomark _)) (pw_or (pt_not (pt_truth (pe_callB call_isi (by rfl) T.n_isinstance (by decide +kernel) (pa_cons (pe_ix ix_seq (pv 0) pe_int (fun _ _ => rfl)) (pa_cons (pe_bltn (v := .ty "str") (by rfl) T.n_str (by decide +kernel) rfl) pa_nil))) (by intro _; rfl))) (pw_or1 (pt_not (pt_chain oULt oULt pe_int (pe_callB call_len (by rfl) T.n_len PySem.boot_len (pa_cons (pe_ix ix_seq (pv 0) pe_int (fun _ _ => rfl)) pa_nil)) pe_int))))))) (pss_one (ps_ret pe_bl)) pss_nil)
    (pss_cons (ps_if (PW.pt (pw_or (pt_cmpR (oNotEqD hr.units) (pe_m1 PySem.F.slot_str_strip PySem.F.type_str_strip mt_stripChars (pe_ix ix_seq (pv 0) pe_int (fun _ _ => rfl)) pe_str) (pe_ix ix_seq (pv 0) pe_int (fun _ _ => rfl)) (nomark _)) (pw_or (pt_cmpR (oUIn (units65 hr)) pe_str (pe_ix ix_seq (pv 0) pe_int (fun _ _ => rfl)) (by with_unfolding_all rfl)) (pw_or (pt_not (pt_truth (pe_callB call_isi (by rfl) T.n_isinstance (by decide +kernel) (pa_cons (pe_ix ix_seq (pv 0) pe_int (fun _ _ => rfl)) (pa_cons (pe_bltn (v := .ty "int") (by rfl) T.n_int (by decide +kernel) rfl) pa_nil))) (by intro _; rfl))) (pw_or1 (pt_truth (pe_callB call_isi (by rfl) T.n_isinstance (by decide +kernel) (pa_cons (pe_ix ix_seq (pv 0) pe_int (fun _ _ => rfl)) (pa_cons (pe_bltn (v := .ty "bool") (by rfl) T.n_bool (by decide +kernel) rfl) pa_nil))) (by intro _; rfl))))))) (pss_one (ps_ret pe_bl)) pss_nil)
    (pss_cons (ps_if (PW.pt (pw_or (pt_not (pt_chain oULtE oULtE pe_int (pe_ix ix_seq (pv 0) pe_int (fun _ _ => rfl)) pe_int)) (pw_or (pt_not (pt_truth (pe_callB call_isi (by rfl) T.n_isinstance (by decide +kernel) (pa_cons (pe_ix ix_seq (pv 0) pe_int (fun _ _ => rfl)) (pa_cons (pe_bltn (v := .ty "bool") (by rfl) T.n_bool (by decide +kernel) rfl) pa_nil))) (by intro _; rfl))) (pw_or1 (pt_not (pt_truth (pe_call G_l_is_one (hr.mono (by decide)) (by rfl) T.g_l_is_one T.k_l_is_one T.b_l_is_one .nil pass0 (pa_cons (pe_ix ix_seq (pv 0) pe_int (fun _ _ => rfl)) pa_nil)) (by intro _; rfl))))))) (pss_one (ps_ret pe_bl)) pss_nil)
    (pss_cons (ps_if (PW.pt (pw_or (pt_not (pt_truth (pe_callB (cr_all rfl) (by rfl) T.n_all (by decide +kernel) (pa_cons (pe_lc (own := [("_law_k", 2)]) (wi := (uIt K (tTup (tCons (tC (.int 3)) (tCons (tC (.int 5)) (tCons (tC (.int 6)) tNil)))))) (g := (gName 2)) (tt := tYes) (te := (tCB (rIsi K) (tCons (tOp (rIx K) (tVar 0) (tVar 2)) (tCons (tC (.ty "tuple")) tNil)))) rfl sc_l_is_bare.nd (pi_any (pe_tup (pa_cons pe_int (pa_cons pe_int (pa_cons pe_int pa_nil))))) (blkOk_by (own := [("_law_k", 2)]) (N := N_l_is_bare) (sc := defScope s_l_is_bare) (by decide +kernel)) (fun _ _ _ _ _ => by exact (pg_name (i := 2) sc_l_is_bare.nd rfl (Or.inl rfl))) (fun _ _ _ _ _ => by exact pts_nil) (fun _ _ _ _ _ => by exact (pe_callB call_isi (by rfl) T.n_isinstance (by decide +kernel) (pa_cons (pe_ix ix_seq (pv 0) (pv 2) (fun _ _ => rfl)) (pa_cons (pe_bltn (v := .ty "tuple") (by rfl) T.n_tuple (by decide +kernel) rfl) pa_nil))))) pa_nil)) (by intro _; rfl))) (pw_or (pt_cmpR oUGt (pe_callB call_len (by rfl) T.n_len PySem.boot_len (pa_cons (pe_ix ix_seq (pv 0) pe_int (fun _ _ => rfl)) pa_nil)) pe_int (nomark _)) (pw_or (pt_cmpR oUGt (pe_callB call_len (by rfl) T.n_len PySem.boot_len (pa_cons (pe_ix ix_seq (pv 0) pe_int (fun _ _ => rfl)) pa_nil)) pe_int (nomark _)) (pw_or1 (pt_cmpR oUGt (pe_callB call_len (by rfl) T.n_len PySem.boot_len (pa_cons (pe_ix ix_seq (pv 0) pe_int (fun _ _ => rfl)) pa_nil)) pe_int (nomark _))))))) (pss_one (ps_ret pe_bl)) pss_nil)
    (pss_cons (ps_if (PW.pt (pw_or (pt_not (pt_truth (pe_callB (cr_all rfl) (by rfl) T.n_all (by decide +kernel) (pa_cons (pe_lc (own := [("_law_one", 1)]) (wi := (uIt K (tOp (rIx K) (tVar 0) (tC (.int 3))))) (g := (gName 1)) (tt := tYes) (te := (tCall (lift K sp_l_is_one) [] E0 (tCons (tVar 1) tNil))) rfl sc_l_is_bare.nd (pi_any (pe_ix ix_seq (pv 0) pe_int (fun _ _ => rfl))) (blkOk_by (own := [("_law_one", 1)]) (N := N_l_is_bare) (sc := defScope s_l_is_bare) (by decide +kernel)) (fun _ _ _ _ _ => by exact (pg_name (i := 1) sc_l_is_bare.nd rfl (Or.inl rfl))) (fun _ _ _ _ _ => by exact pts_nil) (fun _ _ _ _ _ => by exact (pe_call G_l_is_one (hr.mono (by decide)) (by rfl) T.g_l_is_one T.k_l_is_one T.b_l_is_one .nil pass0 (pa_cons (pv 1) pa_nil)))) pa_nil)) (by intro _; rfl))) (pw_or1 (pt_not (pt_truth (pe_callB (cr_all rfl) (by rfl) T.n_all (by decide +kernel) (pa_cons (pe_lc (own := [("_law_one", 1)]) (wi := (uIt K (tOp (rIx K) (tVar 0) (tC (.int 5))))) (g := (gName 1)) (tt := tYes) (te := (tCall (lift K sp_l_is_way) [] E0 (tCons (tVar 1) tNil))) rfl sc_l_is_bare.nd (pi_any (pe_ix ix_seq (pv 0) pe_int (fun _ _ => rfl))) (blkOk_by (own := [("_law_one", 1)]) (N := N_l_is_bare) (sc := defScope s_l_is_bare) (by decide +kernel)) (fun _ _ _ _ _ => by exact (pg_name (i := 1) sc_l_is_bare.nd rfl (Or.inl rfl))) (fun _ _ _ _ _ => by exact pts_nil) (fun _ _ _ _ _ => by exact (pe_call G_l_is_way (hr.mono (by decide)) (by rfl) T.g_l_is_way T.k_l_is_way T.b_l_is_way .nil pass0 (pa_cons (pv 1) pa_nil)))) pa_nil)) (by intro _; rfl)))))) (pss_one (ps_ret pe_bl)) pss_nil)
    (pss_cons (ps_if (PW.pt (pw_or (pt_cmpR (oNotEqD hr.units) (pe_sortSet rfl (by rfl) T.n_sorted (by rfl) T.n_set (pa_cons (pe_ix ix_seq (pv 0) pe_int (fun _ _ => rfl)) pa_nil)) (pe_callTy call_list_of (by rfl) T.n_list (by decide +kernel) (pa_cons (pe_ix ix_seq (pv 0) pe_int (fun _ _ => rfl)) pa_nil)) (nomark _)) (pw_or1 (pt_cmpR (oNotEqD hr.units) (pe_sortSet rfl (by rfl) T.n_sorted (by rfl) T.n_set (pa_cons (pe_ix ix_seq (pv 0) pe_int (fun _ _ => rfl)) pa_nil)) (pe_callTy call_list_of (by rfl) T.n_list (by decide +kernel) (pa_cons (pe_ix ix_seq (pv 0) pe_int (fun _ _ => rfl)) pa_nil)) (nomark _))))) (pss_one (ps_ret pe_bl)) pss_nil)
    (pss_one (ps_ret (pe_callB (cr_all rfl) (by rfl) T.n_all (by decide +kernel) (pa_cons (pe_lc (own := [("_law_one", 1)]) (wi := (uIt K (tOp (rIx K) (tVar 0) (tC (.int 6))))) (g := (gName 1)) (tt := tYes) (te := (tAndT K (tCB (rIsi K) (tCons (tVar 1) (tCons (tC (.ty "str")) tNil))) (tAndT K (tOp uLt (tCB (zLenA K) (tCons (tVar 1) tNil)) (tC (.int 51))) (tOp (uNotIn K) (tC (.str "\n")) (tVar 1))))) rfl sc_l_is_bare.nd (pi_any (pe_ix ix_seq (pv 0) pe_int (fun _ _ => rfl))) (blkOk_by (own := [("_law_one", 1)]) (N := N_l_is_bare) (sc := defScope s_l_is_bare) (by decide +kernel)) (fun _ _ _ _ _ => by exact (pg_name (i := 1) sc_l_is_bare.nd rfl (Or.inl rfl))) (fun _ _ _ _ _ => by exact pts_nil) (fun _ _ _ _ _ => by exact (pe_andT (pe_callB call_isi (by rfl) T.n_isinstance (by decide +kernel) (pa_cons (pv 1) (pa_cons (pe_bltn (v := .ty "str") (by rfl) T.n_str (by decide +kernel) rfl) pa_nil))) (pe_andT (pe_cmpR oULt (pe_callB call_len (by rfl) T.n_len PySem.boot_len (pa_cons (pv 1) pa_nil)) pe_int (nomark _)) (pe_one (pe_cmpR (oUNotIn (units65 hr)) pe_str (pv 1) (by with_unfolding_all rfl))))))) pa_nil))))))))))
theorem ok_l_right (T : Top K mg A) : FnG P A.w K mg base 6 A.f_l_right A.d_l_right P_l_right (lift K sp_l_right) := by
  have G_is_name : FnOk P A.w K mg base CX0 1 A.f_is_name A.d_is_name P_is_name (lift K sp_is_name) := ok_is_name T
  have G_is_path : FnOk P A.w K mg base CX0 2 A.f_is_path A.d_is_path P_is_path (lift K sp_is_path) := ok_is_path T
  have G_is_source : FnOk P A.w K mg base CX0 5 A.f_is_source A.d_is_source P_is_source (lift K sp_is_source) := ok_is_source T
  have G_l_is_one : FnOk P A.w K mg base CX0 1 A.f_l_is_one A.d_l_is_one P_l_is_one (lift K sp_l_is_one) := ok_l_is_one T
  have G_l_is_way : FnOk P A.w K mg base CX0 2 A.f_l_is_way A.d_l_is_way P_l_is_way (lift K sp_l_is_way) := ok_l_is_way T
  have G_l_is_bare : FnOk P A.w K mg base CX0 3 A.f_l_is_bare A.d_l_is_bare P_l_is_bare (lift K sp_l_is_bare) := ok_l_is_bare T
  refine fnG T.F_l_right sc_l_right (fun vs H Q E h => lift_len (fun xs k => len_l_right) h) (fun cdv Ar outer s H vs Q E hg hr h => ⟨t_l_right K A, ?_, fn_sim (sim_l_right T) (fun xs k h w => pure_l_right h w) h⟩)
  exact (pss_cons (ps_par (i := 1) (j := 2) (by rfl) sc_l_right.nd rfl rfl (by decide) rfl rfl (pa_cons (pe_callB (call_reprA hg hr.units) (by rfl) T.n_repr (by decide +kernel) (pa_cons (pv 0) pa_nil)) (pa_cons (pe_lst (pa_cons (pe_call G_l_is_one (hr.mono (by decide)) (by rfl) T.g_l_is_one T.k_l_is_one T.b_l_is_one .nil pass0 (pa_cons (pv 0) pa_nil)) (pa_cons (pe_call G_l_is_way (hr.mono (by decide)) (by rfl) T.g_l_is_way T.k_l_is_way T.b_l_is_way .nil pass0 (pa_cons (pv 0) pa_nil)) (pa_cons (pe_call G_l_is_bare (hr.mono (by decide)) (by rfl) T.g_l_is_bare T.k_l_is_bare T.b_l_is_bare .nil pass0 (pa_cons (pv 0) pa_nil)) pa_nil)))) pa_nil)) (by rfl))
    (pss_cons (ps_set (i := 3) sc_l_right.nd rfl (Or.inl rfl) (pe_lst (pa_cons (pe_call G_is_name (hr.mono (by decide)) (by rfl) T.g_is_name T.k_is_name T.b_is_name .nil pass0 (pa_cons (pv 0) pa_nil)) (pa_cons (pe_call G_is_path (hr.mono (by decide)) (by rfl) T.g_is_path T.k_is_path T.b_is_path .nil pass0 (pa_cons (pv 0) pa_nil)) (pa_cons (pe_call G_is_source (hr.mono (by decide)) (by rfl) T.g_is_source T.k_is_source T.b_is_source .nil pass0 (pa_cons (pv 0) pa_nil)) pa_nil)))))
    (pss_cons (ps_set (i := 4) sc_l_right.nd rfl (Or.inl rfl) (pe_lst (pa_cons (pe_callK0 G_is_name (hr.mono (by decide)) (by rfl) T.g_is_name T.k_is_name (T.kb_is_name_thing) pass0 (pk_cons (pv 0) pk_nil)) (pa_cons (pe_callK0 G_is_path (hr.mono (by decide)) (by rfl) T.g_is_path T.k_is_path (T.kb_is_path_thing) pass0 (pk_cons (pv 0) pk_nil)) (pa_cons (pe_callK0 G_is_source (hr.mono (by decide)) (by rfl) T.g_is_source T.k_is_source (T.kb_is_source_thing) pass0 (pk_cons (pv 0) pk_nil)) pa_nil)))))
    (pss_one (ps_ret (pe_andT (pe_cmpR (oEqD hr.units) (pe_callB (call_reprA hg hr.units) (by rfl) T.n_repr (by decide +kernel) (pa_cons (pe_lst (pa_cons (pv 3) (pa_cons (pv 4) pa_nil))) pa_nil)) (pe_callB (call_reprA hg hr.units) (by rfl) T.n_repr (by decide +kernel) (pa_cons (pe_lst (pa_cons (pv 2) (pa_cons (pv 2) pa_nil))) pa_nil)) (nomark _)) (pe_one (pe_cmpR (oEqD hr.units) (pe_callB (call_reprA hg hr.units) (by rfl) T.n_repr (by decide +kernel) (pa_cons (pv 0) pa_nil)) (pv 1) (nomark _)))))))))
theorem ok_law (T : Top K mg A) : FnG P A.w K mg base 8 A.f_law A.d_law P_law (sp_law K) := by
  have G_l_folded : FnOk P A.w K mg base CX0 1 A.f_l_folded A.d_l_folded P_l_folded (sp_l_folded K) := ok_l_folded T
  have G_l_dip : FnOk P A.w K mg base CX0 1 A.f_l_dip A.d_l_dip P_l_dip (lift K sp_l_dip) := ok_l_dip T
  have G_l_within : FnOk P A.w K mg base CX0 1 A.f_l_within A.d_l_within P_l_within (lift K sp_l_within) := ok_l_within T
  have G_l_right : FnG P A.w K mg base 6 A.f_l_right A.d_l_right P_l_right (lift K sp_l_right) := ok_l_right T
  have G_l_made : FnOk P A.w K mg base CX0 7 A.f_l_made A.d_l_made P_l_made (lift K sp_l_made) := ok_l_made T
  have G_l_take : FnOk P A.w K mg base CX0 1 A.f_l_take A.d_l_take P_l_take (lift K sp_l_take) := ok_l_take T
  refine fnG T.F_law sc_law (fun vs H Q E h => ?_) (fun cdv Ar outer s H vs Q E hg hr h => ⟨t_law K A, ?_, pure_law T h⟩)
  · obtain ⟨_, _, _, rfl, _⟩ := h
    rfl
  · exact (pss_cons (ps_set (i := 1) sc_law.nd rfl (Or.inl rfl) (pe_call G_l_folded (hr.mono (by decide)) (by rfl) T.g_l_folded T.k_l_folded T.b_l_folded .nil pass0 (pa_cons (pv 0) (pa_cons pe_int pa_nil))))
    (pss_cons (ps_set (i := 2) sc_law.nd rfl (Or.inl rfl) (pe_lst (pa_cons pe_int (pa_cons pe_int (pa_cons (pe_un un_neg pe_int) (pa_cons pe_bl (pa_cons pe_bl (pa_cons pe_non (pa_cons pe_str (pa_cons (pe_tup pa_nil) (pa_cons (pe_lst pa_nil) (pa_cons pe_str (pa_cons (pe_lst (pa_cons pe_str pa_nil)) (pa_cons (pe_tup (pa_cons pe_str pa_nil)) (pa_cons pe_str (pa_cons (pe_tup (pa_cons pe_str (pa_cons pe_str pa_nil))) (pa_cons pe_str (pa_cons (pe_op oPow pe_int pe_int) pa_nil))))))))))))))))))
    (pss_cons (ps_set (i := 3) sc_law.nd rfl (Or.inl rfl) (pe_tup (pa_cons pe_str (pa_cons pe_int (pa_cons pe_bl (pa_cons (pe_tup pa_nil) (pa_cons pe_str (pa_cons (pe_tup pa_nil) (pa_cons (pe_tup pa_nil) pa_nil)))))))))
    (pss_cons (ps_set (i := 2) sc_law.nd rfl (Or.inl rfl) (pe_op oUAdd (pv 2) (pe_lst (pa_cons (pv 3) (pa_cons (pe_callTy call_list_of (by rfl) T.n_list (by decide +kernel) (pa_cons (pv 3) pa_nil)) (pa_cons (pe_slice sl_any (pv 3) po_none (po_some pe_int)) (pa_cons (pe_op oUAdd (pv 3) (pe_tup (pa_cons (pe_tup pa_nil) pa_nil))) (pa_cons (pe_call G_l_within (hr.mono (by decide)) (by rfl) T.g_l_within T.k_l_within T.b_l_within .nil pass0 (pa_cons pe_str (pa_cons pe_int pa_nil))) (pa_cons (pe_call G_l_within (hr.mono (by decide)) (by rfl) T.g_l_within T.k_l_within T.b_l_within .nil pass0 (pa_cons (pv 3) (pa_cons pe_int pa_nil))) pa_nil)))))))))
    (pss_cons (ps_set (i := 2) sc_law.nd rfl (Or.inl rfl) (pe_op oUAdd (pv 2) (pe_lst (pa_cons (pe_tup (pa_cons pe_str (pa_cons pe_int (pa_cons pe_bl (pa_cons (pe_tup pa_nil) (pa_cons pe_str (pa_cons (pe_tup pa_nil) (pa_cons (pe_tup (pa_cons pe_non pa_nil)) pa_nil)))))))) (pa_cons (pe_tup (pa_cons pe_str (pa_cons pe_int (pa_cons pe_int (pa_cons (pe_tup pa_nil) (pa_cons pe_str (pa_cons (pe_tup pa_nil) (pa_cons (pe_tup pa_nil) pa_nil)))))))) (pa_cons (pe_op oUAdd (pe_tup (pa_cons pe_str pa_nil)) (pe_op oUMul2 (pe_tup (pa_cons pe_non pa_nil)) pe_int)) pa_nil))))))
    (pss_cons (ps_if (pt_not (pt_truth (pe_callB (cr_all rfl) (by rfl) T.n_all (by decide +kernel) (pa_cons (pe_lc (own := [("_law_odd", 7)]) (wi := (uIt K (tVar 2))) (g := (gName 7)) (tt := tYes) (te := (tCall (lift K sp_l_right) [] E0 (tCons (tVar 7) tNil))) rfl sc_law.nd (pi_any (pv 2)) (blkOk_by (own := [("_law_odd", 7)]) (N := N_law) (sc := defScope s_law) (by decide +kernel)) (fun _ _ _ _ _ => by exact (pg_name (i := 7) sc_law.nd rfl (Or.inl rfl))) (fun _ _ _ _ _ => by exact pts_nil) (fun _ _ _ _ _ => by exact (pe_callG G_l_right hg (hr.mono (by decide)) (by rfl) T.g_l_right T.k_l_right T.b_l_right .nil (pa_cons (pv 7) pa_nil)))) pa_nil)) (by intro _; rfl))) (pss_one (ps_ret pe_bl)) pss_nil)
    (pss_cons (ps_for PassesOwn.never rfl (pi_range1 rfl T.n_range (pa_cons (pe_op oUAdd pe_int (pe_callB call_len (by rfl) T.n_len PySem.boot_len (pa_cons (pv 1) pa_nil))) pa_nil)) (pg_name (i := 4) sc_law.nd rfl (Or.inl rfl)) (pss_cons (ps_set (i := 5) sc_law.nd rfl (Or.inl rfl) (pe_call G_l_dip (hr.mono (by decide)) (by rfl) T.g_l_dip T.k_l_dip T.b_l_dip .nil pass0 (pa_cons (pv 1) (pa_cons (pv 4) pa_nil))))
    (pss_one (ps_for PassesOwn.never rfl (pi_range1 rfl T.n_range (pa_cons pe_int pa_nil)) (pg_name (i := 6) sc_law.nd rfl (Or.inl rfl)) (pss_one (ps_if (pt_not (pt_truth (pe_callG G_l_right hg (hr.mono (by decide)) (by rfl) T.g_l_right T.k_l_right T.b_l_right .nil (pa_cons (pe_call G_l_made (hr.mono (by decide)) (by rfl) T.g_l_made T.k_l_made T.b_l_made .nil pass0 (pa_cons (pv 5) (pa_cons (pe_op oUAdd pe_int (pe_call G_l_take (hr.mono (by decide)) (by rfl) T.g_l_take T.k_l_take T.b_l_take .nil pass0 (pa_cons (pv 5) (pa_cons pe_int pa_nil)))) pa_nil))) pa_nil)) (by intro _; rfl))) (pss_one (ps_ret pe_bl)) pss_nil))))))
    (pss_one (ps_ret pe_bl)))))))))
end
end K04

namespace K04
open PySem PySem.Spec PyProof.Rows L2 DL TL CwR
set_option maxHeartbeats 0 in
theorem all_mk {l : PySem.W.OpenLaw} {w : World} {K : PySem.W.Frag} {h : Heap} {mg : Str → Option Value} {fa : Addr} (X : K.In h) (G : h.Ns mainGlobals mg) (hfa : mg "law" = some (.ref fa))
    {f_is_name : Addr} {od_is_name an_is_name : Option Addr} {sl_is_name : Array (Option Value)} {oc_is_name kV_is_name dc_is_name pm_is_name cd_is_name ct_is_name : Value}
    (a_is_name : PySem.W.nsIn K mainGlobals "is_name" = some (some (.ref f_is_name))) (l_is_name : K.lookup f_is_name = some ⟨oc_is_name, od_is_name, .func (PySem.W.fnOf "is_name" "is_name" (defArgs s_is_name) (defBody s_is_name) (defScope s_is_name) .none kV_is_name dc_is_name pm_is_name an_is_name cd_is_name ct_is_name), sl_is_name⟩) (e_is_name : PySem.W.codeIn K cd_is_name "is_name" = true) (k_is_name : PySem.W.keepIn K (.ref f_is_name) = true)
    {f_is_path : Addr} {od_is_path an_is_path : Option Addr} {sl_is_path : Array (Option Value)} {oc_is_path kV_is_path dc_is_path pm_is_path cd_is_path ct_is_path : Value}
    (a_is_path : PySem.W.nsIn K mainGlobals "is_path" = some (some (.ref f_is_path))) (l_is_path : K.lookup f_is_path = some ⟨oc_is_path, od_is_path, .func (PySem.W.fnOf "is_path" "is_path" (defArgs s_is_path) (defBody s_is_path) (defScope s_is_path) .none kV_is_path dc_is_path pm_is_path an_is_path cd_is_path ct_is_path), sl_is_path⟩) (e_is_path : PySem.W.codeIn K cd_is_path "is_path" = true) (k_is_path : PySem.W.keepIn K (.ref f_is_path) = true)
    {f_is_number : Addr} {od_is_number an_is_number : Option Addr} {sl_is_number : Array (Option Value)} {oc_is_number kV_is_number dc_is_number pm_is_number cd_is_number ct_is_number : Value}
    (a_is_number : PySem.W.nsIn K mainGlobals "is_number" = some (some (.ref f_is_number))) (l_is_number : K.lookup f_is_number = some ⟨oc_is_number, od_is_number, .func (PySem.W.fnOf "is_number" "is_number" (defArgs s_is_number) (defBody s_is_number) (defScope s_is_number) .none kV_is_number dc_is_number pm_is_number an_is_number cd_is_number ct_is_number), sl_is_number⟩) (e_is_number : PySem.W.codeIn K cd_is_number "is_number" = true) (k_is_number : PySem.W.keepIn K (.ref f_is_number) = true)
    {f_is_day : Addr} {od_is_day an_is_day : Option Addr} {sl_is_day : Array (Option Value)} {oc_is_day kV_is_day dc_is_day pm_is_day cd_is_day ct_is_day : Value}
    (a_is_day : PySem.W.nsIn K mainGlobals "is_day" = some (some (.ref f_is_day))) (l_is_day : K.lookup f_is_day = some ⟨oc_is_day, od_is_day, .func (PySem.W.fnOf "is_day" "is_day" (defArgs s_is_day) (defBody s_is_day) (defScope s_is_day) .none kV_is_day dc_is_day pm_is_day an_is_day cd_is_day ct_is_day), sl_is_day⟩) (e_is_day : PySem.W.codeIn K cd_is_day "is_day" = true) (k_is_day : PySem.W.keepIn K (.ref f_is_day) = true)
    {f_is_title : Addr} {od_is_title an_is_title : Option Addr} {sl_is_title : Array (Option Value)} {oc_is_title kV_is_title dc_is_title pm_is_title cd_is_title ct_is_title : Value}
    (a_is_title : PySem.W.nsIn K mainGlobals "is_title" = some (some (.ref f_is_title))) (l_is_title : K.lookup f_is_title = some ⟨oc_is_title, od_is_title, .func (PySem.W.fnOf "is_title" "is_title" (defArgs s_is_title) (defBody s_is_title) (defScope s_is_title) .none kV_is_title dc_is_title pm_is_title an_is_title cd_is_title ct_is_title), sl_is_title⟩) (e_is_title : PySem.W.codeIn K cd_is_title "is_title" = true) (k_is_title : PySem.W.keepIn K (.ref f_is_title) = true)
    {f_is_truth : Addr} {od_is_truth an_is_truth : Option Addr} {sl_is_truth : Array (Option Value)} {oc_is_truth kV_is_truth dc_is_truth pm_is_truth cd_is_truth ct_is_truth : Value}
    (a_is_truth : PySem.W.nsIn K mainGlobals "is_truth" = some (some (.ref f_is_truth))) (l_is_truth : K.lookup f_is_truth = some ⟨oc_is_truth, od_is_truth, .func (PySem.W.fnOf "is_truth" "is_truth" (defArgs s_is_truth) (defBody s_is_truth) (defScope s_is_truth) .none kV_is_truth dc_is_truth pm_is_truth an_is_truth cd_is_truth ct_is_truth), sl_is_truth⟩) (e_is_truth : PySem.W.codeIn K cd_is_truth "is_truth" = true) (k_is_truth : PySem.W.keepIn K (.ref f_is_truth) = true)
    {f_is_line : Addr} {od_is_line an_is_line : Option Addr} {sl_is_line : Array (Option Value)} {oc_is_line kV_is_line dc_is_line pm_is_line cd_is_line ct_is_line : Value}
    (a_is_line : PySem.W.nsIn K mainGlobals "is_line" = some (some (.ref f_is_line))) (l_is_line : K.lookup f_is_line = some ⟨oc_is_line, od_is_line, .func (PySem.W.fnOf "is_line" "is_line" (defArgs s_is_line) (defBody s_is_line) (defScope s_is_line) .none kV_is_line dc_is_line pm_is_line an_is_line cd_is_line ct_is_line), sl_is_line⟩) (e_is_line : PySem.W.codeIn K cd_is_line "is_line" = true) (k_is_line : PySem.W.keepIn K (.ref f_is_line) = true)
    {f_rises : Addr} {od_rises an_rises : Option Addr} {sl_rises : Array (Option Value)} {oc_rises kV_rises dc_rises pm_rises cd_rises ct_rises : Value}
    (a_rises : PySem.W.nsIn K mainGlobals "rises" = some (some (.ref f_rises))) (l_rises : K.lookup f_rises = some ⟨oc_rises, od_rises, .func (PySem.W.fnOf "rises" "rises" (defArgs s_rises) (defBody s_rises) (defScope s_rises) .none kV_rises dc_rises pm_rises an_rises cd_rises ct_rises), sl_rises⟩) (e_rises : PySem.W.codeIn K cd_rises "rises" = true) (k_rises : PySem.W.keepIn K (.ref f_rises) = true)
    {f_are_tags : Addr} {od_are_tags an_are_tags : Option Addr} {sl_are_tags : Array (Option Value)} {oc_are_tags kV_are_tags dc_are_tags pm_are_tags cd_are_tags ct_are_tags : Value}
    (a_are_tags : PySem.W.nsIn K mainGlobals "are_tags" = some (some (.ref f_are_tags))) (l_are_tags : K.lookup f_are_tags = some ⟨oc_are_tags, od_are_tags, .func (PySem.W.fnOf "are_tags" "are_tags" (defArgs s_are_tags) (defBody s_are_tags) (defScope s_are_tags) .none kV_are_tags dc_are_tags pm_are_tags an_are_tags cd_are_tags ct_are_tags), sl_are_tags⟩) (e_are_tags : PySem.W.codeIn K cd_are_tags "are_tags" = true) (k_are_tags : PySem.W.keepIn K (.ref f_are_tags) = true)
    {f_are_olds : Addr} {od_are_olds an_are_olds : Option Addr} {sl_are_olds : Array (Option Value)} {oc_are_olds kV_are_olds dc_are_olds pm_are_olds cd_are_olds ct_are_olds : Value}
    (a_are_olds : PySem.W.nsIn K mainGlobals "are_olds" = some (some (.ref f_are_olds))) (l_are_olds : K.lookup f_are_olds = some ⟨oc_are_olds, od_are_olds, .func (PySem.W.fnOf "are_olds" "are_olds" (defArgs s_are_olds) (defBody s_are_olds) (defScope s_are_olds) .none kV_are_olds dc_are_olds pm_are_olds an_are_olds cd_are_olds ct_are_olds), sl_are_olds⟩) (e_are_olds : PySem.W.codeIn K cd_are_olds "are_olds" = true) (k_are_olds : PySem.W.keepIn K (.ref f_are_olds) = true)
    {f_are_rows : Addr} {od_are_rows an_are_rows : Option Addr} {sl_are_rows : Array (Option Value)} {oc_are_rows kV_are_rows dc_are_rows pm_are_rows cd_are_rows ct_are_rows : Value}
    (a_are_rows : PySem.W.nsIn K mainGlobals "are_rows" = some (some (.ref f_are_rows))) (l_are_rows : K.lookup f_are_rows = some ⟨oc_are_rows, od_are_rows, .func (PySem.W.fnOf "are_rows" "are_rows" (defArgs s_are_rows) (defBody s_are_rows) (defScope s_are_rows) .none kV_are_rows dc_are_rows pm_are_rows an_are_rows cd_are_rows ct_are_rows), sl_are_rows⟩) (e_are_rows : PySem.W.codeIn K cd_are_rows "are_rows" = true) (k_are_rows : PySem.W.keepIn K (.ref f_are_rows) = true)
    {f_first_bad : Addr} {od_first_bad an_first_bad : Option Addr} {sl_first_bad : Array (Option Value)} {oc_first_bad kV_first_bad dc_first_bad pm_first_bad cd_first_bad ct_first_bad : Value}
    (a_first_bad : PySem.W.nsIn K mainGlobals "first_bad" = some (some (.ref f_first_bad))) (l_first_bad : K.lookup f_first_bad = some ⟨oc_first_bad, od_first_bad, .func (PySem.W.fnOf "first_bad" "first_bad" (defArgs s_first_bad) (defBody s_first_bad) (defScope s_first_bad) .none kV_first_bad dc_first_bad pm_first_bad an_first_bad cd_first_bad ct_first_bad), sl_first_bad⟩) (e_first_bad : PySem.W.codeIn K cd_first_bad "first_bad" = true) (k_first_bad : PySem.W.keepIn K (.ref f_first_bad) = true)
    {f_is_source : Addr} {od_is_source an_is_source : Option Addr} {sl_is_source : Array (Option Value)} {oc_is_source kV_is_source dc_is_source pm_is_source cd_is_source ct_is_source : Value}
    (a_is_source : PySem.W.nsIn K mainGlobals "is_source" = some (some (.ref f_is_source))) (l_is_source : K.lookup f_is_source = some ⟨oc_is_source, od_is_source, .func (PySem.W.fnOf "is_source" "is_source" (defArgs s_is_source) (defBody s_is_source) (defScope s_is_source) .none kV_is_source dc_is_source pm_is_source an_is_source cd_is_source ct_is_source), sl_is_source⟩) (e_is_source : PySem.W.codeIn K cd_is_source "is_source" = true) (k_is_source : PySem.W.keepIn K (.ref f_is_source) = true)
    {f_l_dip : Addr} {od_l_dip an_l_dip : Option Addr} {sl_l_dip : Array (Option Value)} {oc_l_dip kV_l_dip dc_l_dip pm_l_dip cd_l_dip ct_l_dip : Value}
    (a_l_dip : PySem.W.nsIn K mainGlobals "_law_dip" = some (some (.ref f_l_dip))) (l_l_dip : K.lookup f_l_dip = some ⟨oc_l_dip, od_l_dip, .func (PySem.W.fnOf "_law_dip" "_law_dip" (defArgs s_l_dip) (defBody s_l_dip) (defScope s_l_dip) .none kV_l_dip dc_l_dip pm_l_dip an_l_dip cd_l_dip ct_l_dip), sl_l_dip⟩) (e_l_dip : PySem.W.codeIn K cd_l_dip "_law_dip" = true) (k_l_dip : PySem.W.keepIn K (.ref f_l_dip) = true)
    {f_l_take : Addr} {od_l_take an_l_take : Option Addr} {sl_l_take : Array (Option Value)} {oc_l_take kV_l_take dc_l_take pm_l_take cd_l_take ct_l_take : Value}
    (a_l_take : PySem.W.nsIn K mainGlobals "_law_take" = some (some (.ref f_l_take))) (l_l_take : K.lookup f_l_take = some ⟨oc_l_take, od_l_take, .func (PySem.W.fnOf "_law_take" "_law_take" (defArgs s_l_take) (defBody s_l_take) (defScope s_l_take) .none kV_l_take dc_l_take pm_l_take an_l_take cd_l_take ct_l_take), sl_l_take⟩) (e_l_take : PySem.W.codeIn K cd_l_take "_law_take" = true) (k_l_take : PySem.W.keepIn K (.ref f_l_take) = true)
    {f_l_folded : Addr} {od_l_folded an_l_folded : Option Addr} {sl_l_folded : Array (Option Value)} {oc_l_folded kV_l_folded dc_l_folded pm_l_folded cd_l_folded ct_l_folded : Value}
    (a_l_folded : PySem.W.nsIn K mainGlobals "_law_folded" = some (some (.ref f_l_folded))) (l_l_folded : K.lookup f_l_folded = some ⟨oc_l_folded, od_l_folded, .func (PySem.W.fnOf "_law_folded" "_law_folded" (defArgs s_l_folded) (defBody s_l_folded) (defScope s_l_folded) .none kV_l_folded dc_l_folded pm_l_folded an_l_folded cd_l_folded ct_l_folded), sl_l_folded⟩) (e_l_folded : PySem.W.codeIn K cd_l_folded "_law_folded" = true) (k_l_folded : PySem.W.keepIn K (.ref f_l_folded) = true)
    {f_l_made : Addr} {od_l_made an_l_made : Option Addr} {sl_l_made : Array (Option Value)} {oc_l_made kV_l_made dc_l_made pm_l_made cd_l_made ct_l_made : Value}
    (a_l_made : PySem.W.nsIn K mainGlobals "_law_made" = some (some (.ref f_l_made))) (l_l_made : K.lookup f_l_made = some ⟨oc_l_made, od_l_made, .func (PySem.W.fnOf "_law_made" "_law_made" (defArgs s_l_made) (defBody s_l_made) (defScope s_l_made) .none kV_l_made dc_l_made pm_l_made an_l_made cd_l_made ct_l_made), sl_l_made⟩) (e_l_made : PySem.W.codeIn K cd_l_made "_law_made" = true) (k_l_made : PySem.W.keepIn K (.ref f_l_made) = true)
    {f_l_within : Addr} {od_l_within an_l_within : Option Addr} {sl_l_within : Array (Option Value)} {oc_l_within kV_l_within dc_l_within pm_l_within cd_l_within ct_l_within : Value}
    (a_l_within : PySem.W.nsIn K mainGlobals "_law_within" = some (some (.ref f_l_within))) (l_l_within : K.lookup f_l_within = some ⟨oc_l_within, od_l_within, .func (PySem.W.fnOf "_law_within" "_law_within" (defArgs s_l_within) (defBody s_l_within) (defScope s_l_within) .none kV_l_within dc_l_within pm_l_within an_l_within cd_l_within ct_l_within), sl_l_within⟩) (e_l_within : PySem.W.codeIn K cd_l_within "_law_within" = true) (k_l_within : PySem.W.keepIn K (.ref f_l_within) = true)
    {f_l_is_one : Addr} {od_l_is_one an_l_is_one : Option Addr} {sl_l_is_one : Array (Option Value)} {oc_l_is_one kV_l_is_one dc_l_is_one pm_l_is_one cd_l_is_one ct_l_is_one : Value}
    (a_l_is_one : PySem.W.nsIn K mainGlobals "_law_is_one" = some (some (.ref f_l_is_one))) (l_l_is_one : K.lookup f_l_is_one = some ⟨oc_l_is_one, od_l_is_one, .func (PySem.W.fnOf "_law_is_one" "_law_is_one" (defArgs s_l_is_one) (defBody s_l_is_one) (defScope s_l_is_one) .none kV_l_is_one dc_l_is_one pm_l_is_one an_l_is_one cd_l_is_one ct_l_is_one), sl_l_is_one⟩) (e_l_is_one : PySem.W.codeIn K cd_l_is_one "_law_is_one" = true) (k_l_is_one : PySem.W.keepIn K (.ref f_l_is_one) = true)
    {f_l_is_way : Addr} {od_l_is_way an_l_is_way : Option Addr} {sl_l_is_way : Array (Option Value)} {oc_l_is_way kV_l_is_way dc_l_is_way pm_l_is_way cd_l_is_way ct_l_is_way : Value}
    (a_l_is_way : PySem.W.nsIn K mainGlobals "_law_is_way" = some (some (.ref f_l_is_way))) (l_l_is_way : K.lookup f_l_is_way = some ⟨oc_l_is_way, od_l_is_way, .func (PySem.W.fnOf "_law_is_way" "_law_is_way" (defArgs s_l_is_way) (defBody s_l_is_way) (defScope s_l_is_way) .none kV_l_is_way dc_l_is_way pm_l_is_way an_l_is_way cd_l_is_way ct_l_is_way), sl_l_is_way⟩) (e_l_is_way : PySem.W.codeIn K cd_l_is_way "_law_is_way" = true) (k_l_is_way : PySem.W.keepIn K (.ref f_l_is_way) = true)
    {f_l_is_bare : Addr} {od_l_is_bare an_l_is_bare : Option Addr} {sl_l_is_bare : Array (Option Value)} {oc_l_is_bare kV_l_is_bare dc_l_is_bare pm_l_is_bare cd_l_is_bare ct_l_is_bare : Value}
    (a_l_is_bare : PySem.W.nsIn K mainGlobals "_law_is_bare" = some (some (.ref f_l_is_bare))) (l_l_is_bare : K.lookup f_l_is_bare = some ⟨oc_l_is_bare, od_l_is_bare, .func (PySem.W.fnOf "_law_is_bare" "_law_is_bare" (defArgs s_l_is_bare) (defBody s_l_is_bare) (defScope s_l_is_bare) .none kV_l_is_bare dc_l_is_bare pm_l_is_bare an_l_is_bare cd_l_is_bare ct_l_is_bare), sl_l_is_bare⟩) (e_l_is_bare : PySem.W.codeIn K cd_l_is_bare "_law_is_bare" = true) (k_l_is_bare : PySem.W.keepIn K (.ref f_l_is_bare) = true)
    {f_l_right : Addr} {od_l_right an_l_right : Option Addr} {sl_l_right : Array (Option Value)} {oc_l_right kV_l_right dc_l_right pm_l_right cd_l_right ct_l_right : Value}
    (a_l_right : PySem.W.nsIn K mainGlobals "_law_right" = some (some (.ref f_l_right))) (l_l_right : K.lookup f_l_right = some ⟨oc_l_right, od_l_right, .func (PySem.W.fnOf "_law_right" "_law_right" (defArgs s_l_right) (defBody s_l_right) (defScope s_l_right) .none kV_l_right dc_l_right pm_l_right an_l_right cd_l_right ct_l_right), sl_l_right⟩) (e_l_right : PySem.W.codeIn K cd_l_right "_law_right" = true) (k_l_right : PySem.W.keepIn K (.ref f_l_right) = true)
    {f_law : Addr} {od_law an_law : Option Addr} {sl_law : Array (Option Value)} {oc_law kV_law dc_law pm_law cd_law ct_law : Value}
    (a_law : PySem.W.nsIn K mainGlobals "law" = some (some (.ref f_law))) (l_law : K.lookup f_law = some ⟨oc_law, od_law, .func (PySem.W.fnOf "law" "law" (defArgs s_law) (defBody s_law) (defScope s_law) .none kV_law dc_law pm_law an_law cd_law ct_law), sl_law⟩) (e_law : PySem.W.codeIn K cd_law "law" = true) (k_law : PySem.W.keepIn K (.ref f_law) = true)
    (n_abs : PySem.W.nsIn K mainGlobals "abs" = some none)
    (n_all : PySem.W.nsIn K mainGlobals "all" = some none)
    (n_bool : PySem.W.nsIn K mainGlobals "bool" = some none)
    (n_enumerate : PySem.W.nsIn K mainGlobals "enumerate" = some none)
    (n_int : PySem.W.nsIn K mainGlobals "int" = some none)
    (n_isinstance : PySem.W.nsIn K mainGlobals "isinstance" = some none)
    (n_len : PySem.W.nsIn K mainGlobals "len" = some none)
    (n_list : PySem.W.nsIn K mainGlobals "list" = some none)
    (n_range : PySem.W.nsIn K mainGlobals "range" = some none)
    (n_repr : PySem.W.nsIn K mainGlobals "repr" = some none)
    (n_set : PySem.W.nsIn K mainGlobals "set" = some none)
    (n_sorted : PySem.W.nsIn K mainGlobals "sorted" = some none)
    (n_str : PySem.W.nsIn K mainGlobals "str" = some none)
    (n_tuple : PySem.W.nsIn K mainGlobals "tuple" = some none)
    (n_zip : PySem.W.nsIn K mainGlobals "zip" = some none)
    {u_LETTERS : Value} (v_LETTERS : PySem.W.nsIn K mainGlobals "LETTERS" = some (some u_LETTERS)) (r_LETTERS : RelV (.str "abcdefghijklmnopqrstuvwxyz") u_LETTERS)
    {u_MOST_LETTERS : Value} (v_MOST_LETTERS : PySem.W.nsIn K mainGlobals "MOST_LETTERS" = some (some u_MOST_LETTERS)) (r_MOST_LETTERS : RelV (.int 8) u_MOST_LETTERS)
    {u_MOST_NAMES : Value} (v_MOST_NAMES : PySem.W.nsIn K mainGlobals "MOST_NAMES" = some (some u_MOST_NAMES)) (r_MOST_NAMES : RelV (.int 3) u_MOST_NAMES)
    {u_MOST_DAY : Value} (v_MOST_DAY : PySem.W.nsIn K mainGlobals "MOST_DAY" = some (some u_MOST_DAY)) (r_MOST_DAY : RelV (.int 999) u_MOST_DAY)
    {u_TAG : Value} (v_TAG : PySem.W.nsIn K mainGlobals "TAG" = some (some u_TAG)) (r_TAG : RelV (.str "tag") u_TAG)
    {u_MOST_TITLE : Value} (v_MOST_TITLE : PySem.W.nsIn K mainGlobals "MOST_TITLE" = some (some u_MOST_TITLE)) (r_MOST_TITLE : RelV (.int 40) u_MOST_TITLE)
    {u_MOST_TAGS : Value} (v_MOST_TAGS : PySem.W.nsIn K mainGlobals "MOST_TAGS" = some (some u_MOST_TAGS)) (r_MOST_TAGS : RelV (.int 3) u_MOST_TAGS)
    {u_MOST_OLDS : Value} (v_MOST_OLDS : PySem.W.nsIn K mainGlobals "MOST_OLDS" = some (some u_MOST_OLDS)) (r_MOST_OLDS : RelV (.int 6) u_MOST_OLDS)
    {u_MOST_ROWS : Value} (v_MOST_ROWS : PySem.W.nsIn K mainGlobals "MOST_ROWS" = some (some u_MOST_ROWS)) (r_MOST_ROWS : RelV (.int 8) u_MOST_ROWS)
    {u_MOST_SIGNS : Value} (v_MOST_SIGNS : PySem.W.nsIn K mainGlobals "MOST_SIGNS" = some (some u_MOST_SIGNS)) (r_MOST_SIGNS : RelV (.int 50) u_MOST_SIGNS)
    {a_LOOKS : Addr} (v_LOOKS : PySem.W.nsIn K mainGlobals "LOOKS" = some (some (.ref a_LOOKS)))
    {es_LOOKS : Array DictEntry} {en_LOOKS : Nat} (kd_LOOKS : K.lookup a_LOOKS = some ⟨.type "dict", none, .dict es_LOOKS en_LOOKS, #[]⟩) (kf_LOOKS : FnL es_LOOKS.toList [("title", f_is_title), ("day", f_is_day), ("draft", f_is_truth), ("tags", f_are_tags), ("under", f_is_name), ("olds", f_are_olds), ("rows", f_are_rows)]) (lo_LOOKS : (a_LOOKS == sysModules) = false) (li_LOOKS : PySem.W.KeysLit w.params es_LOOKS.toList) :
    ∃ fd : FuncData, (∀ (s : Shared) (v : Value), BindsTo s fd ⟨[v], []⟩ [("_law_script", v)]) ∧ ∀ base : Heap, K.In base → base.Ns mainGlobals mg → FnG l.prog w K mg base 8 fa fd ["_law_script"] (sp_law K) := by
  have e := hfa.symm.trans (PySem.W.mg_of X G a_law)
  have e2 : f_law = fa := (Value.ref.inj (Option.some.inj e)).symm
  subst e2
  let A : Ad := { f_is_name := f_is_name, d_is_name := (PySem.W.fnOf "is_name" "is_name" (defArgs s_is_name) (defBody s_is_name) (defScope s_is_name) .none kV_is_name dc_is_name pm_is_name an_is_name cd_is_name ct_is_name), f_is_path := f_is_path, d_is_path := (PySem.W.fnOf "is_path" "is_path" (defArgs s_is_path) (defBody s_is_path) (defScope s_is_path) .none kV_is_path dc_is_path pm_is_path an_is_path cd_is_path ct_is_path), f_is_number := f_is_number, d_is_number := (PySem.W.fnOf "is_number" "is_number" (defArgs s_is_number) (defBody s_is_number) (defScope s_is_number) .none kV_is_number dc_is_number pm_is_number an_is_number cd_is_number ct_is_number), f_is_day := f_is_day, d_is_day := (PySem.W.fnOf "is_day" "is_day" (defArgs s_is_day) (defBody s_is_day) (defScope s_is_day) .none kV_is_day dc_is_day pm_is_day an_is_day cd_is_day ct_is_day), f_is_title := f_is_title, d_is_title := (PySem.W.fnOf "is_title" "is_title" (defArgs s_is_title) (defBody s_is_title) (defScope s_is_title) .none kV_is_title dc_is_title pm_is_title an_is_title cd_is_title ct_is_title), f_is_truth := f_is_truth, d_is_truth := (PySem.W.fnOf "is_truth" "is_truth" (defArgs s_is_truth) (defBody s_is_truth) (defScope s_is_truth) .none kV_is_truth dc_is_truth pm_is_truth an_is_truth cd_is_truth ct_is_truth), f_is_line := f_is_line, d_is_line := (PySem.W.fnOf "is_line" "is_line" (defArgs s_is_line) (defBody s_is_line) (defScope s_is_line) .none kV_is_line dc_is_line pm_is_line an_is_line cd_is_line ct_is_line), f_rises := f_rises, d_rises := (PySem.W.fnOf "rises" "rises" (defArgs s_rises) (defBody s_rises) (defScope s_rises) .none kV_rises dc_rises pm_rises an_rises cd_rises ct_rises), f_are_tags := f_are_tags, d_are_tags := (PySem.W.fnOf "are_tags" "are_tags" (defArgs s_are_tags) (defBody s_are_tags) (defScope s_are_tags) .none kV_are_tags dc_are_tags pm_are_tags an_are_tags cd_are_tags ct_are_tags), f_are_olds := f_are_olds, d_are_olds := (PySem.W.fnOf "are_olds" "are_olds" (defArgs s_are_olds) (defBody s_are_olds) (defScope s_are_olds) .none kV_are_olds dc_are_olds pm_are_olds an_are_olds cd_are_olds ct_are_olds), f_are_rows := f_are_rows, d_are_rows := (PySem.W.fnOf "are_rows" "are_rows" (defArgs s_are_rows) (defBody s_are_rows) (defScope s_are_rows) .none kV_are_rows dc_are_rows pm_are_rows an_are_rows cd_are_rows ct_are_rows), f_first_bad := f_first_bad, d_first_bad := (PySem.W.fnOf "first_bad" "first_bad" (defArgs s_first_bad) (defBody s_first_bad) (defScope s_first_bad) .none kV_first_bad dc_first_bad pm_first_bad an_first_bad cd_first_bad ct_first_bad), f_is_source := f_is_source, d_is_source := (PySem.W.fnOf "is_source" "is_source" (defArgs s_is_source) (defBody s_is_source) (defScope s_is_source) .none kV_is_source dc_is_source pm_is_source an_is_source cd_is_source ct_is_source), f_l_dip := f_l_dip, d_l_dip := (PySem.W.fnOf "_law_dip" "_law_dip" (defArgs s_l_dip) (defBody s_l_dip) (defScope s_l_dip) .none kV_l_dip dc_l_dip pm_l_dip an_l_dip cd_l_dip ct_l_dip), f_l_take := f_l_take, d_l_take := (PySem.W.fnOf "_law_take" "_law_take" (defArgs s_l_take) (defBody s_l_take) (defScope s_l_take) .none kV_l_take dc_l_take pm_l_take an_l_take cd_l_take ct_l_take), f_l_folded := f_l_folded, d_l_folded := (PySem.W.fnOf "_law_folded" "_law_folded" (defArgs s_l_folded) (defBody s_l_folded) (defScope s_l_folded) .none kV_l_folded dc_l_folded pm_l_folded an_l_folded cd_l_folded ct_l_folded), f_l_made := f_l_made, d_l_made := (PySem.W.fnOf "_law_made" "_law_made" (defArgs s_l_made) (defBody s_l_made) (defScope s_l_made) .none kV_l_made dc_l_made pm_l_made an_l_made cd_l_made ct_l_made), f_l_within := f_l_within, d_l_within := (PySem.W.fnOf "_law_within" "_law_within" (defArgs s_l_within) (defBody s_l_within) (defScope s_l_within) .none kV_l_within dc_l_within pm_l_within an_l_within cd_l_within ct_l_within), f_l_is_one := f_l_is_one, d_l_is_one := (PySem.W.fnOf "_law_is_one" "_law_is_one" (defArgs s_l_is_one) (defBody s_l_is_one) (defScope s_l_is_one) .none kV_l_is_one dc_l_is_one pm_l_is_one an_l_is_one cd_l_is_one ct_l_is_one), f_l_is_way := f_l_is_way, d_l_is_way := (PySem.W.fnOf "_law_is_way" "_law_is_way" (defArgs s_l_is_way) (defBody s_l_is_way) (defScope s_l_is_way) .none kV_l_is_way dc_l_is_way pm_l_is_way an_l_is_way cd_l_is_way ct_l_is_way), f_l_is_bare := f_l_is_bare, d_l_is_bare := (PySem.W.fnOf "_law_is_bare" "_law_is_bare" (defArgs s_l_is_bare) (defBody s_l_is_bare) (defScope s_l_is_bare) .none kV_l_is_bare dc_l_is_bare pm_l_is_bare an_l_is_bare cd_l_is_bare ct_l_is_bare), f_l_right := f_l_right, d_l_right := (PySem.W.fnOf "_law_right" "_law_right" (defArgs s_l_right) (defBody s_l_right) (defScope s_l_right) .none kV_l_right dc_l_right pm_l_right an_l_right cd_l_right ct_l_right), f_law := f_law, d_law := (PySem.W.fnOf "law" "law" (defArgs s_law) (defBody s_law) (defScope s_law) .none kV_law dc_law pm_law an_law cd_law ct_law), a_LOOKS := a_LOOKS, w := w }
  have T : Top K mg A := { F_is_name := fun_mk (st := s_is_name) l_is_name e_is_name k_is_name, g_is_name := PySem.W.mg_of X G a_is_name, F_is_path := fun_mk (st := s_is_path) l_is_path e_is_path k_is_path, g_is_path := PySem.W.mg_of X G a_is_path, F_is_number := fun_mk (st := s_is_number) l_is_number e_is_number k_is_number, g_is_number := PySem.W.mg_of X G a_is_number, F_is_day := fun_mk (st := s_is_day) l_is_day e_is_day k_is_day, g_is_day := PySem.W.mg_of X G a_is_day, F_is_title := fun_mk (st := s_is_title) l_is_title e_is_title k_is_title, g_is_title := PySem.W.mg_of X G a_is_title, F_is_truth := fun_mk (st := s_is_truth) l_is_truth e_is_truth k_is_truth, g_is_truth := PySem.W.mg_of X G a_is_truth, F_is_line := fun_mk (st := s_is_line) l_is_line e_is_line k_is_line, g_is_line := PySem.W.mg_of X G a_is_line, F_rises := fun_mk (st := s_rises) l_rises e_rises k_rises, g_rises := PySem.W.mg_of X G a_rises, F_are_tags := fun_mk (st := s_are_tags) l_are_tags e_are_tags k_are_tags, g_are_tags := PySem.W.mg_of X G a_are_tags, F_are_olds := fun_mk (st := s_are_olds) l_are_olds e_are_olds k_are_olds, g_are_olds := PySem.W.mg_of X G a_are_olds, F_are_rows := fun_mk (st := s_are_rows) l_are_rows e_are_rows k_are_rows, g_are_rows := PySem.W.mg_of X G a_are_rows, F_first_bad := fun_mk (st := s_first_bad) l_first_bad e_first_bad k_first_bad, g_first_bad := PySem.W.mg_of X G a_first_bad, F_is_source := fun_mk (st := s_is_source) l_is_source e_is_source k_is_source, g_is_source := PySem.W.mg_of X G a_is_source, F_l_dip := fun_mk (st := s_l_dip) l_l_dip e_l_dip k_l_dip, g_l_dip := PySem.W.mg_of X G a_l_dip, F_l_take := fun_mk (st := s_l_take) l_l_take e_l_take k_l_take, g_l_take := PySem.W.mg_of X G a_l_take, F_l_folded := fun_mk (st := s_l_folded) l_l_folded e_l_folded k_l_folded, g_l_folded := PySem.W.mg_of X G a_l_folded, F_l_made := fun_mk (st := s_l_made) l_l_made e_l_made k_l_made, g_l_made := PySem.W.mg_of X G a_l_made, F_l_within := fun_mk (st := s_l_within) l_l_within e_l_within k_l_within, g_l_within := PySem.W.mg_of X G a_l_within, F_l_is_one := fun_mk (st := s_l_is_one) l_l_is_one e_l_is_one k_l_is_one, g_l_is_one := PySem.W.mg_of X G a_l_is_one, F_l_is_way := fun_mk (st := s_l_is_way) l_l_is_way e_l_is_way k_l_is_way, g_l_is_way := PySem.W.mg_of X G a_l_is_way, F_l_is_bare := fun_mk (st := s_l_is_bare) l_l_is_bare e_l_is_bare k_l_is_bare, g_l_is_bare := PySem.W.mg_of X G a_l_is_bare, F_l_right := fun_mk (st := s_l_right) l_l_right e_l_right k_l_right, g_l_right := PySem.W.mg_of X G a_l_right, F_law := fun_mk (st := s_law) l_law e_law k_law, g_law := PySem.W.mg_of X G a_law, n_abs := PySem.W.mg_none_of X G n_abs, n_all := PySem.W.mg_none_of X G n_all, n_bool := PySem.W.mg_none_of X G n_bool, n_enumerate := PySem.W.mg_none_of X G n_enumerate, n_int := PySem.W.mg_none_of X G n_int, n_isinstance := PySem.W.mg_none_of X G n_isinstance, n_len := PySem.W.mg_none_of X G n_len, n_list := PySem.W.mg_none_of X G n_list, n_range := PySem.W.mg_none_of X G n_range, n_repr := PySem.W.mg_none_of X G n_repr, n_set := PySem.W.mg_none_of X G n_set, n_sorted := PySem.W.mg_none_of X G n_sorted, n_str := PySem.W.mg_none_of X G n_str, n_tuple := PySem.W.mg_none_of X G n_tuple, n_zip := PySem.W.mg_none_of X G n_zip, c_LETTERS := ⟨_, PySem.W.mg_of X G v_LETTERS, r_LETTERS⟩, c_MOST_LETTERS := ⟨_, PySem.W.mg_of X G v_MOST_LETTERS, r_MOST_LETTERS⟩, c_MOST_NAMES := ⟨_, PySem.W.mg_of X G v_MOST_NAMES, r_MOST_NAMES⟩, c_MOST_DAY := ⟨_, PySem.W.mg_of X G v_MOST_DAY, r_MOST_DAY⟩, c_TAG := ⟨_, PySem.W.mg_of X G v_TAG, r_TAG⟩, c_MOST_TITLE := ⟨_, PySem.W.mg_of X G v_MOST_TITLE, r_MOST_TITLE⟩, c_MOST_TAGS := ⟨_, PySem.W.mg_of X G v_MOST_TAGS, r_MOST_TAGS⟩, c_MOST_OLDS := ⟨_, PySem.W.mg_of X G v_MOST_OLDS, r_MOST_OLDS⟩, c_MOST_ROWS := ⟨_, PySem.W.mg_of X G v_MOST_ROWS, r_MOST_ROWS⟩, c_MOST_SIGNS := ⟨_, PySem.W.mg_of X G v_MOST_SIGNS, r_MOST_SIGNS⟩, c_LOOKS := ⟨_, PySem.W.mg_of X G v_LOOKS, rfl⟩, fd_LOOKS := ⟨_, _, kd_LOOKS, kf_LOOKS, lo_LOOKS⟩, lit_LOOKS := fun es n h => by rw [kd_LOOKS] at h; injection h with h; injection h with h1 h2 h3 h4; injection h3 with h5 h6; subst h5; exact li_LOOKS }
  exact ⟨A.d_law, fun s v => .of_eq rfl, fun base _ _ => ok_law T⟩
end K04
open PySem PySem.W PyProof.Rows
set_option maxHeartbeats 0 in
theorem PySem.Challenge.cw_pagemaker_k04_things_of_any_make_holds : PySem.Challenge.rw_pagemaker_k04_things_of_any_make.Holds := by
  w_on; o_law; k_head; (case hw => w_witness2)
  k_fill
  refine L2.walk_ofG (l := PySem.Challenge.rw_pagemaker_k04_things_of_any_make) (n := 63) (k := 8) (x := "_law_script") (sp := fun w => L2.sp_law _) rfl (by decide) rfl ⟨rfl, by decide, by decide⟩ (fun w h Y => PySem.W.kIn_of Y) ?F (fun _ _ a ns hl hb _ hS => ⟨a, ns, 1048576, rfl, hS, hl, L2.bits_lt hb, by decide, fun _ => rfl⟩)
  case F =>
    intro w mg fa h KX G hmg
    refine' K04.all_mk KX G hmg ?a_is_name ?l_is_name ?e_is_name ?k_is_name ?a_is_path ?l_is_path ?e_is_path ?k_is_path ?a_is_number ?l_is_number ?e_is_number ?k_is_number ?a_is_day ?l_is_day ?e_is_day ?k_is_day ?a_is_title ?l_is_title ?e_is_title ?k_is_title ?a_is_truth ?l_is_truth ?e_is_truth ?k_is_truth ?a_is_line ?l_is_line ?e_is_line ?k_is_line ?a_rises ?l_rises ?e_rises ?k_rises ?a_are_tags ?l_are_tags ?e_are_tags ?k_are_tags ?a_are_olds ?l_are_olds ?e_are_olds ?k_are_olds ?a_are_rows ?l_are_rows ?e_are_rows ?k_are_rows ?a_first_bad ?l_first_bad ?e_first_bad ?k_first_bad ?a_is_source ?l_is_source ?e_is_source ?k_is_source ?a_l_dip ?l_l_dip ?e_l_dip ?k_l_dip ?a_l_take ?l_l_take ?e_l_take ?k_l_take ?a_l_folded ?l_l_folded ?e_l_folded ?k_l_folded ?a_l_made ?l_l_made ?e_l_made ?k_l_made ?a_l_within ?l_l_within ?e_l_within ?k_l_within ?a_l_is_one ?l_l_is_one ?e_l_is_one ?k_l_is_one ?a_l_is_way ?l_l_is_way ?e_l_is_way ?k_l_is_way ?a_l_is_bare ?l_l_is_bare ?e_l_is_bare ?k_l_is_bare ?a_l_right ?l_l_right ?e_l_right ?k_l_right ?a_law ?l_law ?e_law ?k_law ?n_abs ?n_all ?n_bool ?n_enumerate ?n_int ?n_isinstance ?n_len ?n_list ?n_range ?n_repr ?n_set ?n_sorted ?n_str ?n_tuple ?n_zip ?v_LETTERS ?r_LETTERS ?v_MOST_LETTERS ?r_MOST_LETTERS ?v_MOST_NAMES ?r_MOST_NAMES ?v_MOST_DAY ?r_MOST_DAY ?v_TAG ?r_TAG ?v_MOST_TITLE ?r_MOST_TITLE ?v_MOST_TAGS ?r_MOST_TAGS ?v_MOST_OLDS ?r_MOST_OLDS ?v_MOST_ROWS ?r_MOST_ROWS ?v_MOST_SIGNS ?r_MOST_SIGNS ?v_LOOKS ?kd_LOOKS ?kf_LOOKS ?lo_LOOKS ?li_LOOKS
    (case a_is_name => k_is)
    (case l_is_name => k_is)
    (case e_is_name => k_is)
    (case k_is_name => k_is)
    (case a_is_path => k_is)
    (case l_is_path => k_is)
    (case e_is_path => k_is)
    (case k_is_path => k_is)
    (case a_is_number => k_is)
    (case l_is_number => k_is)
    (case e_is_number => k_is)
    (case k_is_number => k_is)
    (case a_is_day => k_is)
    (case l_is_day => k_is)
    (case e_is_day => k_is)
    (case k_is_day => k_is)
    (case a_is_title => k_is)
    (case l_is_title => k_is)
    (case e_is_title => k_is)
    (case k_is_title => k_is)
    (case a_is_truth => k_is)
    (case l_is_truth => k_is)
    (case e_is_truth => k_is)
    (case k_is_truth => k_is)
    (case a_is_line => k_is)
    (case l_is_line => k_is)
    (case e_is_line => k_is)
    (case k_is_line => k_is)
    (case a_rises => k_is)
    (case l_rises => k_is)
    (case e_rises => k_is)
    (case k_rises => k_is)
    (case a_are_tags => k_is)
    (case l_are_tags => k_is)
    (case e_are_tags => k_is)
    (case k_are_tags => k_is)
    (case a_are_olds => k_is)
    (case l_are_olds => k_is)
    (case e_are_olds => k_is)
    (case k_are_olds => k_is)
    (case a_are_rows => k_is)
    (case l_are_rows => k_is)
    (case e_are_rows => k_is)
    (case k_are_rows => k_is)
    (case a_first_bad => k_is)
    (case l_first_bad => k_is)
    (case e_first_bad => k_is)
    (case k_first_bad => k_is)
    (case a_is_source => k_is)
    (case l_is_source => k_is)
    (case e_is_source => k_is)
    (case k_is_source => k_is)
    (case a_l_dip => k_is)
    (case l_l_dip => k_is)
    (case e_l_dip => k_is)
    (case k_l_dip => k_is)
    (case a_l_take => k_is)
    (case l_l_take => k_is)
    (case e_l_take => k_is)
    (case k_l_take => k_is)
    (case a_l_folded => k_is)
    (case l_l_folded => k_is)
    (case e_l_folded => k_is)
    (case k_l_folded => k_is)
    (case a_l_made => k_is)
    (case l_l_made => k_is)
    (case e_l_made => k_is)
    (case k_l_made => k_is)
    (case a_l_within => k_is)
    (case l_l_within => k_is)
    (case e_l_within => k_is)
    (case k_l_within => k_is)
    (case a_l_is_one => k_is)
    (case l_l_is_one => k_is)
    (case e_l_is_one => k_is)
    (case k_l_is_one => k_is)
    (case a_l_is_way => k_is)
    (case l_l_is_way => k_is)
    (case e_l_is_way => k_is)
    (case k_l_is_way => k_is)
    (case a_l_is_bare => k_is)
    (case l_l_is_bare => k_is)
    (case e_l_is_bare => k_is)
    (case k_l_is_bare => k_is)
    (case a_l_right => k_is)
    (case l_l_right => k_is)
    (case e_l_right => k_is)
    (case k_l_right => k_is)
    (case a_law => k_is)
    (case l_law => k_is)
    (case e_law => k_is)
    (case k_law => k_is)
    (case n_abs => k_is)
    (case n_all => k_is)
    (case n_bool => k_is)
    (case n_enumerate => k_is)
    (case n_int => k_is)
    (case n_isinstance => k_is)
    (case n_len => k_is)
    (case n_list => k_is)
    (case n_range => k_is)
    (case n_repr => k_is)
    (case n_set => k_is)
    (case n_sorted => k_is)
    (case n_str => k_is)
    (case n_tuple => k_is)
    (case n_zip => k_is)
    (case v_LETTERS => k_is)
    (case v_MOST_LETTERS => k_is)
    (case v_MOST_NAMES => k_is)
    (case v_MOST_DAY => k_is)
    (case v_TAG => k_is)
    (case v_MOST_TITLE => k_is)
    (case v_MOST_TAGS => k_is)
    (case v_MOST_OLDS => k_is)
    (case v_MOST_ROWS => k_is)
    (case v_MOST_SIGNS => k_is)
    (case v_LOOKS => k_is)
    (case kd_LOOKS => k_is)
    (case r_LETTERS => exact ⟨_, rfl⟩)
    (case r_MOST_LETTERS => exact ⟨_, rfl⟩)
    (case r_MOST_NAMES => exact ⟨_, rfl⟩)
    (case r_MOST_DAY => exact ⟨_, rfl⟩)
    (case r_TAG => exact ⟨_, rfl⟩)
    (case r_MOST_TITLE => exact ⟨_, rfl⟩)
    (case r_MOST_TAGS => exact ⟨_, rfl⟩)
    (case r_MOST_OLDS => exact ⟨_, rfl⟩)
    (case r_MOST_ROWS => exact ⟨_, rfl⟩)
    (case r_MOST_SIGNS => exact ⟨_, rfl⟩)
    (case kf_LOOKS => exact ⟨⟨⟨_, rfl⟩, rfl⟩, ⟨⟨⟨_, rfl⟩, rfl⟩, ⟨⟨⟨_, rfl⟩, rfl⟩, ⟨⟨⟨_, rfl⟩, rfl⟩, ⟨⟨⟨_, rfl⟩, rfl⟩, ⟨⟨⟨_, rfl⟩, rfl⟩, ⟨⟨⟨_, rfl⟩, rfl⟩, trivial⟩⟩⟩⟩⟩⟩⟩)
    (case lo_LOOKS => decide +kernel)
    (case li_LOOKS => exact ⟨⟨_, _, rfl, rfl⟩, ⟨⟨_, _, rfl, rfl⟩, ⟨⟨_, _, rfl, rfl⟩, ⟨⟨_, _, rfl, rfl⟩, ⟨⟨_, _, rfl, rfl⟩, ⟨⟨_, _, rfl, rfl⟩, ⟨⟨_, _, rfl, rfl⟩, trivial⟩⟩⟩⟩⟩⟩⟩)
