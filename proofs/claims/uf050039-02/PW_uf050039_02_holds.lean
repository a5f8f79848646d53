import PyProof.Rows.All
import OpenK.KLine
import PyProof.ForAny
import PyProof.Walks
import PyProof.WalksMore
import PyProof.CompMap
import PyProof.Rows.Frame
import PyProof.Plain
import PyProof.Calls
import PyProof.Rows.Nodes
import PyProof.Rows.StrTemp
import PyProof.Rows.RuleB_mod
import PyProof.Rows.RuleB_floordiv
import PyProof.Rows.RuleB_mul
import PyProof.Rows.RuleB_sub
import PyProof.Rows.RuleN_abs
import PyProof.Rows.IntRules
import PyProof.Rows.Chain
import PyProof.Rows.News
import PyProof.StrOps
import PyProof.ListOps
import PyProof.ListCopy
import PyProof.ListRange
import PyProof.ListIndexNeg
import PyProof.MaxThree
import PyProof.WalkInts
import PyProof.Conv_int_bool
import PyProof.StrBlockG
import PyProof.StrWalks
import PyProof.PvWalk
import PyProof.ForRange
import PyProof.Rows.RuleU_int
import PyProof.IsiPairs
import PyProof.IsiSeqPairs
import PyProof.IsiHeapPairs
import PyProof.IsiNone
import PyProof.CompFree
import PyProof.EqAt
import PyProof.TupleOps
import PyProof.StrLawsIn
import PyProof.Rows.TupAssign
import KE.KRevSl
import PyProof.Rows.TupSub
import PyProof.MinMaxWalk
import PyProof.Rows.CallKwBuiltin
import KE.KMinKey
import PyProof.EqKinds
import OpenK.KWalk
import PyProof.Cells
import PyProof.Rows.CellsFrame
import PyProof.DictTable
import PyProof.Dict
import PyProof.StrCalls2
import PyProof.Rows.StrWeight2
import OpenK.KRaise
import KE.KTryOn
import PyProof.Rows.TopTwo
import PyProof.Rows.CatchBare
import PyProof.Rows.CatchOwn
import PyProof.Rows.Own
import PyProof.ExcBaseAll.ValueError
import OpenK.KNot
import OpenK.KMore
import KE.KIsNot
import PyProof.ExcArgsOwn
import PyProof.RulesDel
import PyProof.RulesAs
import PyProof.Rows.SeqSlice
import PyProof.Rows.SeqMore
import PyProof.SliceMore
import PyProof.AutoListH
import PyProof.FactsAll.list_3
import PyProof.NeKinds
import PyProof.FactsAll.dict_2
import PyProof.FactsAll.subtypes_3
import PyProof.Rows.EqBoolInt
import PyProof.Rows.EqNone
import PyProof.Rows.Walk
import PyProof.Rows.RuleC_int
import PyProof.Rows.RuleC_bool
import PySem.Challenge.RW_uf050039_02
set_option Elab.async false
set_option linter.unusedVariables false
section
namespace Mine

/-- the fewest changes, by the first letters -/
def lev : List Nat → List Nat → Nat
  | [], b => b.length
  | x :: a, [] => (x :: a).length
  | x :: a, y :: b => min (lev a (y :: b) + 1) (min (lev (x :: a) b + 1) (lev a b + if x = y then 0 else 1))
termination_by a b => a.length + b.length

inductive Al : List Nat → List Nat → Nat → Prop
  | nil : Al [] [] 0
  | del (x : Nat) {a b : List Nat} {n : Nat} : Al a b n → Al (x :: a) b (n + 1)
  | ins (y : Nat) {a b : List Nat} {n : Nat} : Al a b n → Al a (y :: b) (n + 1)
  | keep (x : Nat) {a b : List Nat} {n : Nat} : Al a b n → Al (x :: a) (x :: b) n
  | turn (x y : Nat) {a b : List Nat} {n : Nat} : Al a b n → Al (x :: a) (y :: b) (n + 1)

theorem lev_nil (b : List Nat) : lev [] b = b.length := by rw [lev]
theorem lev_nil' (a : List Nat) : lev a [] = a.length := by
  cases a with
  | nil => rw [lev]
  | cons x a => rw [lev]
theorem lev_cons (x y : Nat) (a b : List Nat) : lev (x :: a) (y :: b) = min (lev a (y :: b) + 1) (min (lev (x :: a) b + 1) (lev a b + if x = y then 0 else 1)) := by rw [lev]

theorem Al.all_ins : ∀ b : List Nat, Al [] b b.length
  | [] => .nil
  | y :: b => .ins y (Al.all_ins b)
theorem Al.all_del : ∀ a : List Nat, Al a [] a.length
  | [] => .nil
  | x :: a => .del x (Al.all_del a)

theorem lev_al : ∀ a b : List Nat, Al a b (lev a b)
  | [], b => by rw [lev_nil]; exact Al.all_ins b
  | x :: a, [] => by rw [lev_nil']; exact Al.all_del _
  | x :: a, y :: b => by
    have h1 := lev_al a (y :: b)
    have h2 := lev_al (x :: a) b
    have h3 := lev_al a b
    rw [lev_cons]
    by_cases c1 : lev a (y :: b) + 1 ≤ min (lev (x :: a) b + 1) (lev a b + if x = y then 0 else 1)
    · rw [Nat.min_eq_left c1]; exact .del x h1
    · rw [Nat.min_eq_right (by omega)]
      by_cases c2 : lev (x :: a) b + 1 ≤ lev a b + if x = y then 0 else 1
      · rw [Nat.min_eq_left c2]; exact .ins y h2
      · rw [Nat.min_eq_right (by omega)]
        by_cases e : x = y
        · subst e; rw [if_pos rfl]; exact .keep x h3
        · rw [if_neg e]; exact .turn x y h3
termination_by a b => a.length + b.length

theorem lev_del_le (x : Nat) (a b : List Nat) : lev (x :: a) b ≤ lev a b + 1 := by
  cases b with
  | nil => rw [lev_nil', lev_nil']; simp
  | cons y b => rw [lev_cons]; omega
theorem lev_ins_le (y : Nat) (a b : List Nat) : lev a (y :: b) ≤ lev a b + 1 := by
  cases a with
  | nil => rw [lev_nil, lev_nil]; simp
  | cons x a => rw [lev_cons]; omega

theorem Al.le {a b : List Nat} {n : Nat} (h : Al a b n) : lev a b ≤ n := by
  induction h with
  | nil => rw [lev_nil]; simp
  | del x _ ih => have := lev_del_le x; exact Nat.le_trans (lev_del_le _ _ _) (by omega)
  | ins y _ ih => exact Nat.le_trans (lev_ins_le _ _ _) (by omega)
  | keep x _ ih => rw [lev_cons, if_pos rfl]; omega
  | turn x y _ ih => rw [lev_cons]; split <;> omega

theorem Al.symm {a b : List Nat} {n : Nat} (h : Al a b n) : Al b a n := by
  induction h with
  | nil => exact .nil
  | del x _ ih => exact .ins x ih
  | ins y _ ih => exact .del y ih
  | keep x _ ih => exact .keep x ih
  | turn x y _ ih => exact .turn y x ih

theorem Al.append {a b a' b' : List Nat} {n k : Nat} (h : Al a b n) (h' : Al a' b' k) : Al (a ++ a') (b ++ b') (n + k) := by
  induction h with
  | nil => simpa using h'
  | del x _ ih => rw [Nat.add_right_comm]; exact .del x ih
  | ins y _ ih => rw [Nat.add_right_comm]; exact .ins y ih
  | keep x _ ih => exact .keep x ih
  | turn x y _ ih => rw [Nat.add_right_comm]; exact .turn x y ih

theorem Al.reverse {a b : List Nat} {n : Nat} (h : Al a b n) : Al a.reverse b.reverse n := by
  induction h with
  | nil => exact .nil
  | del x _ ih => rw [List.reverse_cons]; simpa using ih.append (Al.del x .nil)
  | ins y _ ih => rw [List.reverse_cons]; simpa using ih.append (Al.ins y .nil)
  | keep x _ ih => rw [List.reverse_cons, List.reverse_cons]; simpa using ih.append (Al.keep x .nil)
  | turn x y _ ih => rw [List.reverse_cons, List.reverse_cons]; simpa using ih.append (Al.turn x y .nil)

theorem lev_symm (a b : List Nat) : lev a b = lev b a := Nat.le_antisymm (lev_al b a).symm.le (lev_al a b).symm.le
theorem lev_reverse (a b : List Nat) : lev a.reverse b.reverse = lev a b := by
  refine Nat.le_antisymm (lev_al a b).reverse.le ?_
  have := (lev_al a.reverse b.reverse).reverse.le
  simpa using this

/-- one letter of the end less costs one more at most -/
theorem Al.drop_right {a b : List Nat} {n : Nat} (h : Al a b n) : ∀ {y : Nat} {b' : List Nat}, b = y :: b' → ∃ k, k ≤ n + 1 ∧ Al a b' k := by
  induction h with
  | nil => intro _ _ e; cases e
  | del x _ ih => intro y b' e; obtain ⟨k, hk, h⟩ := ih e; exact ⟨k + 1, by omega, .del x h⟩
  | ins z h _ => intro y b' e; cases e; exact ⟨_, by omega, h⟩
  | keep x h _ => intro y b' e; cases e; exact ⟨_, Nat.le_refl _, .del x h⟩
  | turn x z h _ => intro y b' e; cases e; exact ⟨_, by omega, .del x h⟩

theorem Al.cons_right {b' c' : List Nat} {m e : Nat} {y z : Nat} (hz : y = z ∨ 1 ≤ e) (ih : ∀ a n, Al a b' n → ∃ k, k ≤ n + m ∧ Al a c' k)
    {a b : List Nat} {n : Nat} (h : Al a b n) : b = y :: b' → ∃ k, k ≤ n + m + e ∧ Al a (z :: c') k := by
  induction h with
  | nil => intro e; cases e
  | del x _ ih' => intro e; obtain ⟨k, hk, h⟩ := ih' e; exact ⟨k + 1, by omega, .del x h⟩
  | ins w h _ => intro e; cases e; obtain ⟨k, hk, h'⟩ := ih _ _ h; exact ⟨k + 1, by omega, .ins z h'⟩
  | keep x h _ =>
    intro e; cases e; obtain ⟨k, hk, h'⟩ := ih _ _ h
    rcases hz with rfl | he
    · exact ⟨k, by omega, .keep _ h'⟩
    · exact ⟨k + 1, by omega, .turn _ _ h'⟩
  | turn x w h _ => intro e; cases e; obtain ⟨k, hk, h'⟩ := ih _ _ h; exact ⟨k + 1, by omega, .turn _ _ h'⟩

theorem Al.trans {b c : List Nat} {m : Nat} (h : Al b c m) : ∀ a n, Al a b n → ∃ k, k ≤ n + m ∧ Al a c k := by
  induction h with
  | nil => intro a n h; exact ⟨n, by omega, h⟩
  | del y _ ih => intro a n h; obtain ⟨k, hk, h'⟩ := h.drop_right rfl; obtain ⟨k', hk', h''⟩ := ih _ _ h'; exact ⟨k', by omega, h''⟩
  | ins z _ ih => intro a n h; obtain ⟨k, hk, h'⟩ := ih _ _ h; exact ⟨k + 1, by omega, .ins z h'⟩
  | keep y _ ih => intro a n h; obtain ⟨k, hk, h'⟩ := Al.cons_right (e := 0) (.inl rfl) ih h rfl; exact ⟨k, by omega, h'⟩
  | turn y z _ ih => intro a n h; obtain ⟨k, hk, h'⟩ := Al.cons_right (e := 1) (y := y) (z := z) (.inr (Nat.le_refl _)) ih h rfl; exact ⟨k, by omega, h'⟩

theorem lev_trans (a b c : List Nat) : lev a c ≤ lev a b + lev b c := by
  obtain ⟨k, hk, h⟩ := (lev_al b c).trans a _ (lev_al a b)
  exact Nat.le_trans h.le hk

theorem Al.drop_both {a b : List Nat} {n : Nat} (h : Al a b n) : ∀ {x y : Nat} {a' b' : List Nat}, a = x :: a' → b = y :: b' → ∃ k, k ≤ n ∧ Al a' b' k := by
  cases h with
  | nil => intro _ _ _ _ e; cases e
  | del x h => intro z y a' b' e e'; cases e; obtain ⟨k, hk, h'⟩ := h.drop_right e'; exact ⟨k, by omega, h'⟩
  | ins w h => intro z y a' b' e e'; cases e'; obtain ⟨k, hk, h'⟩ := h.symm.drop_right e; exact ⟨k, by omega, h'.symm⟩
  | keep x h => intro z y a' b' e e'; cases e; cases e'; exact ⟨_, Nat.le_refl _, h⟩
  | turn x w h => intro z y a' b' e e'; cases e; cases e'; exact ⟨_, by omega, h⟩

theorem lev_cons_same (x : Nat) (a b : List Nat) : lev (x :: a) (x :: b) = lev a b := by
  refine Nat.le_antisymm (Al.keep x (lev_al a b)).le ?_
  obtain ⟨k, hk, h⟩ := (lev_al (x :: a) (x :: b)).drop_both rfl rfl
  exact Nat.le_trans h.le hk

theorem lev_snoc_same (x : Nat) (a b : List Nat) : lev (a ++ [x]) (b ++ [x]) = lev a b := by
  rw [← lev_reverse, List.reverse_append, List.reverse_append]
  show lev (x :: a.reverse) (x :: b.reverse) = _
  rw [lev_cons_same, lev_reverse]

theorem Al.eq_of_zero {a b : List Nat} {n : Nat} (h : Al a b n) : n = 0 → a = b := by
  induction h with
  | nil => intro _; rfl
  | keep x _ ih => intro e; rw [ih e]
  | _ => intro e; omega
theorem Al.refl : ∀ a : List Nat, Al a a 0
  | [] => .nil
  | x :: a => .keep x (Al.refl a)
theorem lev_zero_iff (a b : List Nat) : lev a b = 0 ↔ a = b :=
  ⟨fun e => (lev_al a b).eq_of_zero e, fun e => by subst e; exact Nat.le_antisymm (Al.refl a).le (Nat.zero_le _)⟩

theorem Al.len {a b : List Nat} {n : Nat} (h : Al a b n) : a.length ≤ b.length + n ∧ b.length ≤ a.length + n := by
  induction h <;> simp only [List.length_cons, List.length_nil] at * <;> omega
theorem lev_ge (a b : List Nat) : a.length ≤ b.length + lev a b ∧ b.length ≤ a.length + lev a b := (lev_al a b).len
theorem lev_le : ∀ a b : List Nat, lev a b ≤ max a.length b.length
  | [], b => by rw [lev_nil]; simp
  | x :: a, [] => by rw [lev_nil']; simp
  | x :: a, y :: b => by
    have := lev_le a b
    rw [lev_cons]
    simp only [List.length_cons]
    split <;> omega
end Mine
end
section
namespace Mine
/-- the row behind one more letter -/
def nextF (r : Nat → Int) (w : List Nat) (c : Nat) : Nat → Int
  | 0 => r 0 + 1
  | k + 1 => min (nextF r w c k + 1) (min (r (k + 1) + 1) (r k + if w.getD k 0 = c then 0 else 1))

/-- the table of two words, by the numbers of letters -/
def T (a b : List Nat) : Nat → Nat → Int
  | 0 => fun j => (j : Int)
  | i + 1 => nextF (T a b i) b (a.getD i 0)

theorem T_zero (a b : List Nat) (j : Nat) : T a b 0 j = j := rfl
theorem T_succ_zero (a b : List Nat) (i : Nat) : T a b (i + 1) 0 = T a b i 0 + 1 := rfl
theorem T_succ (a b : List Nat) (i j : Nat) : T a b (i + 1) (j + 1) = min (T a b (i + 1) j + 1) (min (T a b i (j + 1) + 1) (T a b i j + if b.getD j 0 = a.getD i 0 then 0 else 1)) := rfl

theorem take_succ_rev (a : List Nat) (i : Nat) (h : i < a.length) : (a.take (i + 1)).reverse = a.getD i 0 :: (a.take i).reverse := by
  have e : a.getD i 0 = a[i] := by simp [List.getD, List.getElem?_eq_getElem h]
  rw [List.take_add_one, List.getElem?_eq_getElem h, List.reverse_append, e]
  rfl

theorem T_lev (a b : List Nat) : ∀ i j, i ≤ a.length → j ≤ b.length → T a b i j = (lev (a.take i).reverse (b.take j).reverse : Nat)
  | 0, j, _, hj => by
    rw [T_zero, List.take_zero, List.reverse_nil, lev_nil, List.length_reverse, List.length_take, Nat.min_eq_left hj]
  | i + 1, 0, hi, _ => by
    rw [T_succ_zero, T_lev a b i 0 (by omega) (by omega), List.take_zero, List.reverse_nil, lev_nil', lev_nil', List.length_reverse, List.length_reverse, List.length_take, List.length_take]
    omega
  | i + 1, j + 1, hi, hj => by
    rw [T_succ, T_lev a b (i + 1) j hi (by omega), T_lev a b i (j + 1) (by omega) hj, T_lev a b i j (by omega) (by omega), take_succ_rev a i hi, take_succ_rev b j hj, lev_cons]
    by_cases e : a.getD i 0 = b.getD j 0
    · rw [if_pos e, if_pos e.symm]; omega
    · rw [if_neg e, if_neg fun q => e q.symm]; omega

theorem T_last (a b : List Nat) : T a b a.length b.length = (lev a b : Nat) := by
  rw [T_lev a b _ _ (Nat.le_refl _) (Nat.le_refl _), List.take_length, List.take_length, lev_reverse]

theorem T_nonneg (a b : List Nat) (i j : Nat) (hi : i ≤ a.length) (hj : j ≤ b.length) : 0 ≤ T a b i j := by rw [T_lev a b i j hi hj]; omega

/-- equal letters: the number is the one above that which is ahead -/
theorem T_same (a b : List Nat) (i j : Nat) (hi : i < a.length) (hj : j < b.length) (e : a.getD i 0 = b.getD j 0) : T a b (i + 1) (j + 1) = T a b i j := by
  rw [T_lev a b _ _ hi hj, T_lev a b i j (by omega) (by omega), take_succ_rev a i hi, take_succ_rev b j hj, e, lev_cons_same]

/-- least of the first n + 1 -/
theorem nextF_ge (r : Nat → Int) (w : List Nat) (c : Nat) (m : Int) (n : Nat) (h : ∀ j, j ≤ n → m ≤ r j) : ∀ j, j ≤ n → m ≤ nextF r w c j
  | 0, _ => by have := h 0 (by omega); unfold nextF; omega
  | k + 1, hk => by
    have h1 := nextF_ge r w c m n h k (by omega)
    have h2 := h (k + 1) hk
    have h3 := h k (by omega)
    unfold nextF
    split <;> omega
end Mine
end
section
open PySem
set_option Elab.async false
namespace Mine

/-- one more name -/
def upd (m : Str → Option Value) (x : Str) (v : Value) : Str → Option Value := fun y => if y = x then some v else m y
theorem upd_same (m : Str → Option Value) (x : Str) (v : Value) : upd m x v x = some v := if_pos rfl
theorem upd_other {m : Str → Option Value} {x y : Str} {v : Value} {r : Option Value} (h : y ≠ x) (e : m y = r) : upd m x v y = r := (if_neg h).trans e

def Same (s s' : Shared) : Prop := s'.gens = s.gens ∧ s'.drawn = s.drawn ∧ s'.os = s.os
theorem Same.refl (s : Shared) : Same s s := ⟨rfl, rfl, rfl⟩
theorem Same.trans {s s' s'' : Shared} (a : Same s s') (b : Same s' s'') : Same s s'' := ⟨b.1.trans a.1, b.2.1.trans a.2.1, b.2.2.trans a.2.2⟩
theorem Same.eq {s s' : Shared} (a : Same s s') : s' = { s with heap := s'.heap, toks := s'.toks } := by
  obtain ⟨h, g, d, t, o⟩ := s
  obtain ⟨h', g', d', t', o'⟩ := s'
  obtain ⟨rfl, rfl, rfl⟩ := a
  rfl

/-- nothing of s is lost or turned -/
structure Kp (s s' : Shared) : Prop where
  same : Same s s'
  keep : ∀ b o, s.heap.get? b = some o → s'.heap.get? b = some o
theorem Kp.refl (s : Shared) : Kp s s := ⟨Same.refl s, fun _ _ e => e⟩
theorem Kp.trans {s s' s'' : Shared} (a : Kp s s') (b : Kp s' s'') : Kp s s'' := ⟨a.same.trans b.same, fun x o e => b.keep x o (a.keep x o e)⟩
theorem Kp.mk' {s : Shared} {h' : Heap} {tk : Nat} (k : ∀ b o, s.heap.get? b = some o → h'.get? b = some o) : Kp s { s with heap := h', toks := tk } := ⟨⟨rfl, rfl, rfl⟩, k⟩
theorem Kp.tok (s : Shared) (tk : Nat) : Kp s { s with toks := tk } := ⟨⟨rfl, rfl, rfl⟩, fun _ _ e => e⟩
theorem Kp.push (s : Shared) (o : Obj) : Kp s { s with heap := s.heap.push o } := ⟨⟨rfl, rfl, rfl⟩, fun _ _ e => Heap.get?_push_of_some _ e⟩

/-- the frame at L with its names m; what is known to stay (H); what is owned (σ) -/
structure St (k : Bool) (s₀ : Shared) (H : Addr → Obj → Prop) (L : Addr) (m : Str → Option Value) (σ : List (Addr × Obj)) (s : Shared) : Prop where
  same : Same s₀ s
  ns : s.heap.Ns L m
  keep : ∀ b o, H b o → s.heap.get? b = some o
  keepL : k = true → ∀ o, ¬ H L o
  own : ∀ p ∈ σ, s.heap.get? p.1 = some p.2 ∧ p.1 ≠ L ∧ ∀ o, ¬ H p.1 o
  nd : (σ.map (·.1)).Nodup

section
variable {k : Bool} {s₀ s s' : Shared} {H H' : Addr → Obj → Prop} {L : Addr} {m : Str → Option Value} {σ σ' : List (Addr × Obj)}

theorem St.kp (S : St k s₀ H L m σ s) (kp : Kp s s') : St k s₀ H L m σ s' :=
  ⟨S.same.trans kp.same, S.ns.keeps kp.keep, fun b o e => kp.keep _ _ (S.keep b o e), S.keepL, fun p hp => ⟨kp.keep _ _ (S.own p hp).1, (S.own p hp).2⟩, S.nd⟩

theorem St.anti (S : St k s₀ H' L m σ s) (h : ∀ b o, H b o → H' b o) : St k s₀ H L m σ s :=
  ⟨S.same, S.ns, fun b o e => S.keep b o (h b o e), fun hk o e => S.keepL hk o (h _ _ e), fun p hp => ⟨(S.own p hp).1, (S.own p hp).2.1, fun o e => (S.own p hp).2.2 o (h _ _ e)⟩, S.nd⟩

theorem St.names {m' : Str → Option Value} (S : St k s₀ H L m σ s) (e : m = m') : St k s₀ H L m' σ s := e ▸ S

theorem St.set {m' : Str → Option Value} {h' : Heap} {tk : Nat} (S : St true s₀ H L m σ s) (hn : h'.Ns L m') (hs : Heap.SameBut L s.heap h') : St true s₀ H L m' σ { s with heap := h', toks := tk } :=
  ⟨S.same.trans ⟨rfl, rfl, rfl⟩, hn, fun b o e => (hs.2 b (fun q => S.keepL rfl o (q ▸ e))).trans (S.keep b o e), S.keepL, fun p hp => ⟨(hs.2 _ (S.own p hp).2.1).trans (S.own p hp).1, (S.own p hp).2⟩, S.nd⟩

/-- fewer are owned -/
theorem St.drop (S : St k s₀ H L m σ s) (h : σ'.Sublist σ) : St k s₀ H L m σ' s :=
  ⟨S.same, S.ns, S.keep, S.keepL, fun p hp => S.own p (h.subset hp), S.nd.sublist (h.map _)⟩
theorem St.perm (S : St k s₀ H L m σ s) (h : σ.Perm σ') : St k s₀ H L m σ' s :=
  ⟨S.same, S.ns, S.keep, S.keepL, fun p hp => S.own p (h.mem_iff.mpr hp), (h.map _).nodup_iff.mp S.nd⟩

/-- a new object is owned -/
theorem St.add {a : Addr} {o : Obj} (S : St k s₀ H L m σ s) (kp : Kp s s') (hn : s.heap.get? a = none) (ho : s'.heap.get? a = some o) : St k s₀ H L m ((a, o) :: σ) s' := by
  have S' := S.kp kp
  refine ⟨S'.same, S'.ns, S'.keep, S'.keepL, fun p hp => ?_, ?_⟩
  · rcases List.mem_cons.mp hp with rfl | hp
    · refine ⟨ho, fun e => ?_, fun o' e => ?_⟩
      · obtain ⟨x, _, _, hx, _⟩ := S.ns
        dsimp only at e; rw [← e, hn] at hx; cases hx
      · have := S.keep _ _ e; rw [hn] at this; cases this
    · exact S'.own p hp
  · rw [List.map_cons, List.nodup_cons]
    refine ⟨fun hm => ?_, S.nd⟩
    obtain ⟨p, hp, e⟩ := List.mem_map.mp hm
    have := (S.own p hp).1
    rw [e, hn] at this; cases this

theorem St.get (S : St k s₀ H L m σ s) {a : Addr} {o : Obj} (h : (a, o) ∈ σ) : s.heap.get? a = some o := (S.own _ h).1

/-- the owned object at a is turned, by whatever road -/
theorem St.turn {a : Addr} {o o' : Obj} {σ₁ σ₂ : List (Addr × Obj)} {h' : Heap} {tk : Nat} (S : St k s₀ H L m (σ₁ ++ (a, o) :: σ₂) s) (hs : ∀ b x, b ≠ a → s.heap.get? b = some x → h'.get? b = some x)
    (ho : h'.get? a = some o') : St k s₀ H L m (σ₁ ++ (a, o') :: σ₂) { s with heap := h', toks := tk } := by
  have ha := S.own (a, o) (by simp)
  have hnd : a ∉ σ₁.map (·.1) ∧ a ∉ σ₂.map (·.1) := by
    have := S.nd
    rw [List.map_append, List.map_cons, List.nodup_append, List.nodup_cons] at this
    refine ⟨fun q => ?_, this.2.1.1⟩
    exact this.2.2 a q a (List.mem_cons_self ..) rfl
  refine ⟨S.same.trans ⟨rfl, rfl, rfl⟩, ?_, fun b x e => hs b x (fun q => ha.2.2 x (q ▸ e)) (S.keep b x e), S.keepL, fun p hp => ?_, ?_⟩
  · obtain ⟨x, es, ep, hx, r⟩ := S.ns
    exact ⟨x, es, ep, hs _ _ (Ne.symm ha.2.1) hx, r⟩
  · rcases List.mem_append.mp hp with hp | hp
    · have P := S.own p (List.mem_append_left _ hp)
      exact ⟨hs _ _ (fun q => hnd.1 (List.mem_map.mpr ⟨p, hp, q⟩)) P.1, P.2⟩
    · rcases List.mem_cons.mp hp with rfl | hp
      · exact ⟨ho, ha.2⟩
      · have P := S.own p (List.mem_append_right _ (List.mem_cons_of_mem _ hp))
        exact ⟨hs _ _ (fun q => hnd.2 (List.mem_map.mpr ⟨p, hp, q⟩)) P.1, P.2⟩
  · have := S.nd
    simpa only [List.map_append, List.map_cons] using this

/-- behind a call that nothing of ours is lost in -/
theorem St.back (S : St k s (fun b o => s.heap.get? b = some o) L m σ s') : Kp s s' := ⟨S.same, S.keep⟩
theorem St.fresh (S : St k s (fun b o => s.heap.get? b = some o) L m σ s') {a : Addr} {o : Obj} (h : (a, o) ∈ σ) : s.heap.get? a = none := by
  cases e : s.heap.get? a with
  | none => rfl
  | some x => exact absurd e ((S.own _ h).2.2 x)
end

end Mine
end
section
open PySem PyProof.Rows
set_option Elab.async false
namespace Mine
section
variable {prog : Program} {w : World} {A : Around} {E : Value → Shared → Prop} {s₀ s : Shared} {H : Addr → Obj → Prop} {L : Addr} {m : Str → Option Value} {σ : List (Addr × Obj)} {env : Env}

/-- what is left to do behind a statement -/
def thenK (prog : Program) (w : World) (A : Around) (rest : List Stmt) (env : Env) (Q : Flow → Shared → Prop) (E : Value → Shared → Prop) : Flow → Shared → Prop
  | .next, s => wpAny (model prog w) A (execs rest env) Q E s
  | f, s => Q f s
theorem thenK_next {rest : List Stmt} {Q : Flow → Shared → Prop} (h : wpAny (model prog w) A (execs rest env) Q E s) : thenK prog w A rest env Q E .next s := h
theorem thenK_ret {rest : List Stmt} {Q : Flow → Shared → Prop} {v : Value} (h : Q (.ret v) s) : thenK prog w A rest env Q E (.ret v) s := h
theorem thenK_brk {rest : List Stmt} {Q : Flow → Shared → Prop} (h : Q .brk s) : thenK prog w A rest env Q E .brk s := h
theorem thenK_cont {rest : List Stmt} {Q : Flow → Shared → Prop} (h : Q .cont s) : thenK prog w A rest env Q E .cont s := h

theorem x_cons {st : Stmt} {rest : List Stmt} {Q : Flow → Shared → Prop} (h : wpAny (model prog w) A (exec st env) (thenK prog w A rest env Q E) E s) :
    wpAny (model prog w) A (execs (st :: rest) env) Q E s :=
  wpAny_execs_cons (wpAny_mono h (fun f s' h' => by cases f <;> exact h') fun _ _ x => x)

/-- what a turn's end must show, for a body of a loop -/
def turnK (J : (Str → Option Value) → List (Addr × Obj) → Prop) (s₀ : Shared) (H : Addr → Obj → Prop) (L : Addr) (Q : Flow → Shared → Prop) : Flow → Shared → Prop
  | .next, s => ∃ m σ, St true s₀ H L m σ s ∧ J m σ
  | .cont, s => ∃ m σ, St true s₀ H L m σ s ∧ J m σ
  | .brk, s => Q .next s
  | .ret v, s => Q (.ret v) s
theorem turnK_next {J : (Str → Option Value) → List (Addr × Obj) → Prop} {Q : Flow → Shared → Prop} (S : St true s₀ H L m σ s) (h : J m σ) : turnK J s₀ H L Q .next s := ⟨m, σ, S, h⟩
theorem turnK_cont {J : (Str → Option Value) → List (Addr × Obj) → Prop} {Q : Flow → Shared → Prop} (S : St true s₀ H L m σ s) (h : J m σ) : turnK J s₀ H L Q .cont s := ⟨m, σ, S, h⟩
theorem turnK_ret {J : (Str → Option Value) → List (Addr × Obj) → Prop} {Q : Flow → Shared → Prop} {v : Value} (h : Q (.ret v) s) : turnK J s₀ H L Q (.ret v) s := h
theorem turnK_brk {J : (Str → Option Value) → List (Addr × Obj) → Prop} {Q : Flow → Shared → Prop} (h : Q .next s) : turnK J s₀ H L Q .brk s := h

/-- a loop over an iterator: between the turns J holds of the names and of what is owned -/
theorem forLoop_St {I : Addr} {fp wr : List Addr} {n : Nat} {P : Nat → Value → Prop} {Ti : Nat → Heap → Prop} (W : Walks prog w A I fp wr n P Ti)
    (hex : ∀ i h, Ti i h → ∀ b ∈ fp, ∃ o, h.get? b = some o)
    (J : Nat → (Str → Option Value) → List (Addr × Obj) → Prop) {x : Str} {px : Pos} {body : List Stmt} {q : Str} {sc : Scope} {f : Addr} {cd : Value} {Q : Flow → Shared → Prop} {R : Result → Shared → Prop}
    (S : St true s₀ H L m σ s) (hT : Ti 0 s.heap) (hfp : ∀ b ∈ fp, b ≠ L ∧ b ∉ σ.map (·.1)) (hwr : ∀ b ∈ wr, ∀ o, ¬ H b o) (h0 : J 0 m σ)
    (hk : sc.kind = .function) (hx : sc.names.lookup x = some .local)
    (turn : ∀ (E' : Value → Shared → Prop) i m' σ' s' v Hb, i < n → J i m' σ' → P i v → (∀ b o, H b o → Hb b o) → St true s₀ Hb L (upd m' x v) σ' s' →
      wpAny (model prog w) A (execs body (envOf q sc L f cd)) (turnK (J (i + 1)) s₀ Hb L Q) E' s')
    (done : ∀ m' σ' s', J n m' σ' → St true s₀ H L m' σ' s' → Q .next s') (hR : ∀ fl s', Q fl s' → R (.ok fl) s') :
    codeAny (model prog w) A (.forLoop (.Name x px) (.ref I) body [] (envOf q sc L f cd)) R s := by
  refine codeAny_forLoop (fun k s => ∃ i m σ, k = n - i ∧ i ≤ n ∧ J i m σ ∧ St true s₀ H L m σ s ∧ Ti i s.heap ∧ ∀ b ∈ fp, b ≠ L ∧ b ∉ σ.map (·.1)) (fun k s hI => ?_) n ⟨0, m, σ, by simp, Nat.zero_le _, h0, S, hT, hfp⟩
  obtain ⟨i, m, σ, rfl, hi, hJ, S, hT, hfp⟩ := hI
  have keepSt : ∀ (h' : Heap) (tk : Nat), (∀ b o, b ∉ wr → s.heap.get? b = some o → h'.get? b = some o) → St true s₀ H L m σ { s with heap := h', toks := tk } := fun h' tk hk' => by
    refine ⟨S.same.trans ⟨rfl, rfl, rfl⟩, ?_, fun b o e => hk' b o (fun q => hwr b q o e) (S.keep b o e), S.keepL, fun p hp => ⟨hk' _ _ (fun q => (hfp _ (W.sub _ q)).2 (List.mem_map.mpr ⟨p, hp, rfl⟩)) (S.own p hp).1, (S.own p hp).2⟩, S.nd⟩
    obtain ⟨oL, es, ep, hL, r⟩ := S.ns
    exact ⟨oL, es, ep, hk' _ _ (fun q => (hfp _ (W.sub _ q)).1 rfl) hL, r⟩
  rcases Nat.lt_or_eq_of_le hi with hlt | rfl
  · refine W.item i s _ _ hlt hT fun v h' tk hP hT' hk' => ?_
    have S1 := keepSt h' tk hk'
    have hfx : ∀ b ∈ fp, ∃ o, h'.get? b = some o := hex _ _ hT'
    have S2 : St true s₀ (fun b o => H b o ∨ (b ∈ fp ∧ h'.get? b = some o)) L m σ { s with heap := h', toks := tk } :=
      ⟨S1.same, S1.ns, fun b o e => e.elim (S1.keep b o) fun q => q.2, fun _ o e => e.elim (S1.keepL rfl o) fun q => (hfp _ q.1).1 rfl,
        fun p hp => ⟨(S1.own p hp).1, (S1.own p hp).2.1, fun o e => e.elim ((S1.own p hp).2.2 o) fun q => (hfp _ q.1).2 (List.mem_map.mpr ⟨p, hp, rfl⟩)⟩, S1.nd⟩
    refine wpAny_assign_Name (wpAny_storeName_local (env := envOf q sc L f cd) hx S2.ns (fun h'' hn hs => ?_) (by show (sc.kind == .class || (sc.kind == .module && L != mainGlobals)) = false; rw [hk]; rfl))
    have S3 := S2.set (tk := tk + 1) hn hs
    refine wpAny_mono (turn _ i m σ _ v _ hlt hJ hP (fun b o e => .inl e) S3) (fun fl s₃ h₃ => ?_) fun _ _ e => e
    have go : (∃ m σ, St true s₀ (fun b o => H b o ∨ (b ∈ fp ∧ h'.get? b = some o)) L m σ s₃ ∧ J (i + 1) m σ) →
        ∃ k, k < n - i ∧ ∃ i m σ, k = n - i ∧ i ≤ n ∧ J i m σ ∧ St true s₀ H L m σ s₃ ∧ Ti i s₃.heap ∧ ∀ b ∈ fp, b ≠ L ∧ b ∉ σ.map (·.1) := by
      rintro ⟨m'', σ'', S4, hJ'⟩
      refine ⟨n - (i + 1), by omega, i + 1, m'', σ'', rfl, hlt, hJ', S4.anti fun b o e => .inl e, W.frame _ _ _ hT' fun b hb o e => S4.keep b o (.inr ⟨hb, e⟩), fun b hb => ⟨(hfp b hb).1, fun hm => ?_⟩⟩
      obtain ⟨p, hp, rfl⟩ := List.mem_map.mp hm
      obtain ⟨o, ho⟩ := hfx _ hb
      exact (S4.own p hp).2.2 o (.inr ⟨hb, ho⟩)
    cases fl with
    | next => exact go h₃
    | cont => exact go h₃
    | brk => exact hR _ _ h₃
    | ret v => exact hR _ _ h₃
  · refine W.done s _ _ hT fun h' tk hk' => ?_
    exact wpAny_execs_nil (hR _ _ (done m σ _ hJ (keepSt h' tk hk')))

/-- a while: J k, k a measure -/
def turnW (J : Nat → (Str → Option Value) → List (Addr × Obj) → Prop) (k : Nat) (s₀ : Shared) (H : Addr → Obj → Prop) (L : Addr) (Q : Flow → Shared → Prop) : Flow → Shared → Prop
  | .next, s => ∃ k' m σ, k' < k ∧ St true s₀ H L m σ s ∧ J k' m σ
  | .cont, s => ∃ k' m σ, k' < k ∧ St true s₀ H L m σ s ∧ J k' m σ
  | .brk, s => Q .next s
  | .ret v, s => Q (.ret v) s
theorem turnW_next {J : Nat → (Str → Option Value) → List (Addr × Obj) → Prop} {k k' : Nat} {Q : Flow → Shared → Prop} (hk : k' < k) (S : St true s₀ H L m σ s) (h : J k' m σ) : turnW J k s₀ H L Q .next s := ⟨k', m, σ, hk, S, h⟩
theorem turnW_ret {J : Nat → (Str → Option Value) → List (Addr × Obj) → Prop} {k : Nat} {Q : Flow → Shared → Prop} {v : Value} (h : Q (.ret v) s) : turnW J k s₀ H L Q (.ret v) s := h

theorem while_St (J : Nat → (Str → Option Value) → List (Addr × Obj) → Prop) {test : Expr} {body : List Stmt} {pos : Pos} {k : Nat} {Q : Flow → Shared → Prop}
    (S : St true s₀ H L m σ s) (h0 : J k m σ)
    (turn : ∀ (E' : Value → Shared → Prop) k m' σ' s', J k m' σ' → St true s₀ H L m' σ' s' →
      wpAny (model prog w) A (isTrue test env (eval test env)) (fun b s₂ => if b = true then wpAny (model prog w) A (execs body env) (turnW J k s₀ H L Q) E' s₂ else Q .next s₂) E' s') :
    wpAny (model prog w) A (exec (.While test body [] pos) env) Q E s := by
  refine wpAny_While (codeAny_whileLoop (fun k s => ∃ m σ, J k m σ ∧ St true s₀ H L m σ s) (fun k s hI => ?_) k ⟨m, σ, h0, S⟩)
  obtain ⟨m, σ, hJ, S⟩ := hI
  refine wpAny_mono (turn _ k m σ s hJ S) (fun b s₂ h₂ => ?_) fun _ _ e => e
  cases b with
  | false => exact wpAny_execs_nil h₂
  | true =>
    refine wpAny_mono h₂ (fun fl s₃ h₃ => ?_) fun _ _ e => e
    cases fl with
    | next => obtain ⟨k', m', σ', hk, S', hJ'⟩ := h₃; exact ⟨k', hk, m', σ', hJ', S'⟩
    | cont => obtain ⟨k', m', σ', hk, S', hJ'⟩ := h₃; exact ⟨k', hk, m', σ', hJ', S'⟩
    | brk => exact h₃
    | ret v => exact h₃
end
end Mine
end
section
open PySem PyProof.Rows
set_option Elab.async false
namespace Mine

/-- what stands at every heap of the call: written objects, the module's names, the built-in names -/
structure Gd (KK : Addr → Obj → Prop) (mg mb : Str → Option Value) (h : Heap) : Prop where
  X : ∀ a o, KK a o → h.get? a = some o
  g : h.Ns mainGlobals mg
  b : h.Ns builtinsNs mb
  lim : h.NoLimit
theorem Gd.keeps {KK : Addr → Obj → Prop} {mg mb : Str → Option Value} {h h' : Heap} (G : Gd KK mg mb h) (k : ∀ b o, h.get? b = some o → h'.get? b = some o) : Gd KK mg mb h' :=
  ⟨fun a o e => k _ _ (G.X a o e), G.g.keeps k, G.b.keeps k, G.lim.keeps k⟩
def GdH (KK : Addr → Obj → Prop) (mg mb : Str → Option Value) (H : Addr → Obj → Prop) : Prop := ∀ h : Heap, (∀ b o, H b o → h.get? b = some o) → Gd KK mg mb h
theorem GdH.mono {KK : Addr → Obj → Prop} {mg mb : Str → Option Value} {H H' : Addr → Obj → Prop} (G : GdH KK mg mb H) (h : ∀ b o, H b o → H' b o) : GdH KK mg mb H' := fun hp k => G hp fun b o e => k b o (h b o e)
theorem Gd.toH {KK : Addr → Obj → Prop} {mg mb : Str → Option Value} {h : Heap} (G : Gd KK mg mb h) : GdH KK mg mb (fun b o => h.get? b = some o) := fun _ k => G.keeps k

/-- room for n more frames -/
structure Rm (A : Around) (n : Nat) : Prop where
  hh : A.handled = none
  dep : A.depth + n < 990
  un : A.units + 10 * n < 9800
theorem Rm.deeper {A : Around} {n : Nat} (r : Rm A (n + 1)) (env : Env) : Rm (A.deeper env) n := ⟨r.hh, by have := r.dep; show A.depth + 1 + n < 990; omega, by have := r.un; show A.units + 3 + 10 * n < 9800; omega⟩
theorem Rm.less {A : Around} {n k : Nat} (r : Rm A n) (h : k ≤ n) : Rm A k := ⟨r.hh, by have := r.dep; omega, by have := r.un; omega⟩

section
variable {k : Bool} {prog : Program} {w : World} {A : Around} {E : Value → Shared → Prop} {s₀ s : Shared} {H : Addr → Obj → Prop} {L : Addr} {m : Str → Option Value} {σ : List (Addr × Obj)} {env : Env}
  {KK : Addr → Obj → Prop} {mg mb : Str → Option Value} {q : Str} {sc : Scope} {f : Addr} {cd : Value}

theorem St.gd (S : St k s₀ H L m σ s) (G : GdH KK mg mb H) : Gd KK mg mb s.heap := G _ S.keep

/-- a def's end -/
def retK (Q : Value → Shared → Prop) : Flow → Shared → Prop
  | .ret v, s => Q v s
  | _, s => Q .none s
theorem retK_ret {Q : Value → Shared → Prop} {v : Value} (h : Q v s) : retK Q (.ret v) s := h
theorem retK_next {Q : Value → Shared → Prop} (h : Q .none s) : retK Q .next s := h

abbrev fnD (name qual : Str) (params : Arguments) (body : List Stmt) (scope : Scope) (dV kV doc pm : Value) (an : Option Addr) (cdv ct : Value) : FuncData :=
  { name, qualname := qual, params, body := .stmts body, scope, globals := mainGlobals, closure := [], defaults := dV, kwdefaults := kV, doc, pyModule := pm, annotations := an, code := cdv, closureTuple := ct, builtins := builtinsNs }

/-- enter a def -/
theorem enter {fa : Addr} {name qual : Str} {params : Arguments} {body : List Stmt} {scope : Scope} {dV kV doc pm cdv ct oc : Value} {an od : Option Addr} {osl : Array (Option Value)} {args : List Value} {binds : List (Str × Value)} {Q : Value → Shared → Prop}
    (G : Gd KK mg mb s.heap) (hr : A.depth < 990) (hf : KK fa ⟨oc, od, .func (fnD name qual params body scope dV kV doc pm an cdv ct), osl⟩) (hcd : s.heap.CodeRec cdv qual)
    (hb : bindArgs (fnD name qual params body scope dV kV doc pm an cdv ct) ⟨args, []⟩ = pure binds) (hloc : ∀ x ∈ binds, scope.names.lookup x.1 = some .local)
    (hcell : ∀ x ∈ scope.names, x.2 ≠ .cell) (hco : scope.isCoroutine = false) (hgen : scope.isGenerator = false) (hk : scope.kind = .function)
    (h : ∀ (E' : Value → Shared → Prop) L s', L = s.heap.objs.size → St true s (fun b o => s.heap.get? b = some o) L (fun x => binds.reverse.lookup x) [] s' →
      wpAny (model prog w) (A.deeper (envOf qual scope L fa cdv)) (execs body (envOf qual scope L fa cdv)) (retK Q) E' s') :
    wpAny (model prog w) A (call (.ref fa) args) Q E s := by
  refine wpAny_call (codeAny_call_function (fd := fnD name qual params body scope dV kV doc pm an cdv ct) (by show A.depth < 1000; omega) (G.X _ _ hf) rfl hco hgen rfl hcd ?_)
  rw [hb]
  refine wpAny_pure (wpAny_newFunctionEnv hcell hloc (fun h₀ hns₀ hsb₀ => ⟨G.lim.fresh _ hsb₀, codeAny_func ?_⟩) hk)
  have hk' : ∀ b o, s.heap.get? b = some o → h₀.get? b = some o := fun b o e => hsb₀.extBut b o (Nat.ne_of_lt (Heap.lt_size e)) (Heap.get?_push_of_some _ e)
  refine wpAny_mono (h _ s.heap.objs.size _ rfl ⟨⟨rfl, rfl, rfl⟩, hns₀, hk', fun _ o e => ?_, (fun p hp => (List.not_mem_nil hp).elim), List.nodup_nil⟩) (fun fl s' h' => ?_) fun _ _ x => x
  · exact absurd (Heap.lt_size e) (Nat.lt_irrefl _)
  · cases fl <;> exact h'

-- names
theorem r_loc {x : Str} {pos : Pos} {v : Value} {Q : Value → Shared → Prop} (S : St k s₀ H L m σ s) (hv : m x = some v) (h : Q v s)
    (hc : (env.scope.kind == .function && env.scope.names.lookup x == some .local && !(x == ("__debug__" : Str))) = true) (hL : env.locals = L := by with_unfolding_all rfl) :
    wpAny (model prog w) A (eval (.Name x pos) env) Q E s := by
  subst hL
  simp only [Bool.and_eq_true, beq_iff_eq, Bool.not_eq_true'] at hc
  exact wpAny_Name (wpAny_loadName_local hc.1.1 hc.1.2 S.ns hv h) hc.2
theorem r_glob {x : Str} {pos : Pos} {v : Value} {Q : Value → Shared → Prop} (S : St k s₀ H L m σ s) (G : GdH KK mg mb H) (hv : mg x = some v) (h : Q v s)
    (hc : (env.scope.kind == .function && env.scope.names.lookup x == some .globalImplicit && !(x == ("__debug__" : Str))) = true) (hg : env.globals = mainGlobals := by with_unfolding_all rfl) :
    wpAny (model prog w) A (eval (.Name x pos) env) Q E s := by
  simp only [Bool.and_eq_true, beq_iff_eq, Bool.not_eq_true'] at hc
  exact Calls.Name_function_global hc.1.1 hc.1.2 (Calls.loadGlobal_global (hg ▸ (S.gd G).g) hv h) hc.2
theorem r_blt {x : Str} {pos : Pos} {v : Value} {Q : Value → Shared → Prop} (S : St k s₀ H L m σ s) (G : GdH KK mg mb H) (hn : mg x = none) (hv : mb x = some v) (h : Q v s)
    (hc : (env.scope.kind == .function && env.scope.names.lookup x == some .globalImplicit && !(x == ("__debug__" : Str))) = true) (hg : env.globals = mainGlobals := by with_unfolding_all rfl) (hb : env.builtins = builtinsNs := by with_unfolding_all rfl) :
    wpAny (model prog w) A (eval (.Name x pos) env) Q E s := by
  simp only [Bool.and_eq_true, beq_iff_eq, Bool.not_eq_true'] at hc
  exact Calls.Name_function_global hc.1.1 hc.1.2 (Calls.loadGlobal_builtin (hg ▸ (S.gd G).g) hn (hb ▸ (S.gd G).b) hv h) hc.2
theorem r_store {x : Str} {v : Value} {Q : Unit → Shared → Prop} (S : St true s₀ H L m σ s) (h : ∀ s', St true s₀ H L (upd m x v) σ s' → Q () s')
    (hc : (env.scope.kind == .function && env.scope.names.lookup x == some .local) = true) (hL : env.locals = L := by with_unfolding_all rfl) : wpAny (model prog w) A (storeName env x v) Q E s := by
  subst hL
  simp only [Bool.and_eq_true, beq_iff_eq] at hc
  exact wpAny_storeName_local hc.2 S.ns (fun h' hn hs => h _ (S.set hn hs)) (by rw [hc.1]; rfl)

-- statements
theorem x_assign {x : Str} {px pos : Pos} {e : Expr} {rest : List Stmt} {Q : Flow → Shared → Prop}
    (h : wpAny (model prog w) A (eval e env) (fun v s₁ => wpAny (model prog w) A (storeName env x v) (fun _ s₂ => wpAny (model prog w) A (execs rest env) Q E s₂) E s₁) E s)
    (hs : swapsWith e (some (.Name x px)) pos.line env = pure false := by with_unfolding_all rfl) : wpAny (model prog w) A (execs (.Assign [.Name x px] e pos :: rest) env) Q E s :=
  x_cons (wpAny_Assign_Name h hs)
theorem x_ret {e : Expr} {pos : Pos} {rest : List Stmt} {Q : Flow → Shared → Prop} (h : wpAny (model prog w) A (eval e env) (fun v s₁ => Q (.ret v) s₁) E s) :
    wpAny (model prog w) A (execs (.Return (some e) pos :: rest) env) Q E s := x_cons (wpAny_Return_some h)
theorem x_if {test : Expr} {body orelse rest : List Stmt} {pos : Pos} {Q : Flow → Shared → Prop}
    (h : wpAny (model prog w) A (isTrue test env (eval test env)) (fun b s₂ => if b = true then wpAny (model prog w) A (execs body env) (thenK prog w A rest env Q E) E s₂ else wpAny (model prog w) A (execs orelse env) (thenK prog w A rest env Q E) E s₂) E s) :
    wpAny (model prog w) A (execs (.If test body orelse pos :: rest) env) Q E s := x_cons (wpAny_If h)
/-- an if whose else is empty -/
theorem x_if1 {test : Expr} {body rest : List Stmt} {pos : Pos} {Q : Flow → Shared → Prop}
    (h : wpAny (model prog w) A (isTrue test env (eval test env)) (fun b s₂ => if b = true then wpAny (model prog w) A (execs body env) (thenK prog w A rest env Q E) E s₂ else wpAny (model prog w) A (execs rest env) Q E s₂) E s) :
    wpAny (model prog w) A (execs (.If test body [] pos :: rest) env) Q E s := x_cons (wpAny_If (wpAny_mono h (fun b s₂ h' => by
      cases b with
      | true => exact h'
      | false => exact wpAny_execs_nil h') fun _ _ x => x))
theorem x_nil {Q : Flow → Shared → Prop} (h : Q .next s) : wpAny (model prog w) A (execs [] env) Q E s := wpAny_execs_nil h
theorem x_nil_then {rest : List Stmt} {Q : Flow → Shared → Prop} (h : wpAny (model prog w) A (execs rest env) Q E s) : wpAny (model prog w) A (execs [] env) (thenK prog w A rest env Q E) E s := wpAny_execs_nil h

theorem ite_t {c : Bool} {P P' : Prop} (hc : c = true) (h : P) : if c = true then P else P' := by rw [hc]; exact h
theorem ite_f {c : Bool} {P P' : Prop} (hc : c = false) (h : P') : if c = true then P else P' := by rw [hc]; exact h

-- what only counts on
theorem r_int {i : Int} {kk : Nat} {pos : Pos} {Q : Value → Shared → Prop} (S : St k s₀ H L m σ s) (h : ∀ t s', St k s₀ H L m σ s' → Q (.int i t) s') : wpAny (model prog w) A (eval (.Constant (.int i) kk pos) env) Q E s :=
  wpAny_Constant_int (h _ _ (S.kp (Kp.tok s _)))
theorem r_str {x : Str} {kk : Nat} {pos : Pos} {Q : Value → Shared → Prop} (S : St k s₀ H L m σ s) (h : ∀ t s', St k s₀ H L m σ s' → Q (.str x t) s') : wpAny (model prog w) A (eval (.Constant (.str x) kk pos) env) Q E s :=
  Calls.Constant_str (h _ _ (S.kp (Kp.tok s _)))
end
end Mine
end
section
open PySem PyProof.Rows
set_option Elab.async false
namespace Mine

/-- a list as it stands in the heap -/
abbrev lst (vs : List Value) (n : Nat) : Obj := { cls := .type "list", dict := none, data := .seq vs.toArray n, slots := #[] }
abbrev tup (vs : List Value) : Obj := { cls := .type "tuple", dict := none, data := .seq vs.toArray 0, slots := #[] }

section
variable {k : Bool} {prog : Program} {w : World} {A : Around} {E : Value → Shared → Prop} {s₀ s : Shared} {H : Addr → Obj → Prop} {L : Addr} {m : Str → Option Value} {σ : List (Addr × Obj)} {env : Env}
  {KK : Addr → Obj → Prop} {mg mb : Str → Option Value} {q : Str} {sc : Scope} {f : Addr} {cd : Value} {Q : Value → Shared → Prop}

-- ints
theorem r_add {a b : Int} {t u : Tok} (S : St k s₀ H L m σ s) (h : ∀ t s', St k s₀ H L m σ s' → Q (.int (a + b) t) s') : wpAny (model prog w) A (binaryOp .Add (.int a t) (.int b u)) Q E s := PyProof.Rows.add_int (h _ _ (S.kp (Kp.tok s _)))
theorem r_sub {a b : Int} {t u : Tok} (S : St k s₀ H L m σ s) (h : ∀ t s', St k s₀ H L m σ s' → Q (.int (a - b) t) s') : wpAny (model prog w) A (binaryOp .Sub (.int a t) (.int b u)) Q E s := PyProof.Rows.sub_int' (h _ _ (S.kp (Kp.tok s _)))
theorem r_mul {a b : Int} {t u : Tok} (S : St k s₀ H L m σ s) (hm : IntMulOk a b) (h : ∀ t s', St k s₀ H L m σ s' → Q (.int (a * b) t) s') : wpAny (model prog w) A (binaryOp .Mult (.int a t) (.int b u)) Q E s := PyProof.Rows.mul_int (h _ _ (S.kp (Kp.tok s _))) hm
theorem r_fdiv {a b : Int} {t u : Tok} (S : St k s₀ H L m σ s) (hb : b ≠ 0) (hs : b.natAbs < 1073741824) (h : ∀ t s', St k s₀ H L m σ s' → Q (.int (a.fdiv b) t) s') : wpAny (model prog w) A (binaryOp .FloorDiv (.int a t) (.int b u)) Q E s :=
  PyProof.Rows.floordiv_int hb (h _ _ (S.kp (Kp.tok s _))) (.inl (PyProof.noPylong_small hs))
theorem r_fmod {a b : Int} {t u : Tok} (S : St k s₀ H L m σ s) (hb : b ≠ 0) (h : ∀ t s', St k s₀ H L m σ s' → Q (.int (a.fmod b) t) s') : wpAny (model prog w) A (binaryOp .Mod (.int a t) (.int b u)) Q E s := PyProof.Rows.mod_int' hb (h _ _ (S.kp (Kp.tok s _)))
theorem r_neg {a : Int} {t : Tok} (S : St k s₀ H L m σ s) (h : ∀ t s', St k s₀ H L m σ s' → Q (.int (-a) t) s') : wpAny (model prog w) A (unaryOp .USub (.int a t)) Q E s := PyProof.Rows.neg_int (h _ _ (S.kp (Kp.tok s _)))

-- texts
theorem seqIndex_pos {i : Int} {n : Nat} (h0 : 0 ≤ i) (h : i < n) : seqIndex? i n = some i.toNat := by
  unfold seqIndex?
  have h1 : ¬ i < 0 := by omega
  simp only [h1, if_false]
  rw [if_pos (by simp only [Bool.and_eq_true, decide_eq_true_eq]; omega)]
theorem r_cat {x y : Str} {t u : Tok} (S : St k s₀ H L m σ s) (hz : x.length + y.length ≤ sizeLine) (h : ∀ t s', St k s₀ H L m σ s' → Q (.str (x ++ y) t) s') : wpAny (model prog w) A (binaryOp .Add (.str x t) (.str y u)) Q E s := by
  refine P.add_str ?_
  by_cases hx : (x.length == 0) = true
  · rw [if_pos hx]
    rw [show x ++ y = y from Str.append_left_empty hx] at h
    exact h _ _ S
  · rw [if_neg hx]
    by_cases hy : (y.length == 0) = true
    · rw [if_pos hy]
      rw [show x ++ y = x from Str.append_right_empty hy] at h
      exact h _ _ S
    · rw [if_neg hy]
      exact ⟨by rw [Str.length_append]; exact hz, h _ _ (S.kp (Kp.tok s _))⟩
theorem r_len_str {x : Str} {t : Tok} (S : St k s₀ H L m σ s) (hz : x.length ≤ sizeLine) (h : ∀ t s', St k s₀ H L m σ s' → Q (.int x.length t) s') : wpAny (model prog w) A (call (.builtin "len") [.str x t]) Q E s :=
  P.len_str (by rw [sizeLine_eq] at hz; omega) (h _ _ (S.kp (Kp.tok s _)))
theorem r_item_str {value slice : Expr} {x : Str} {t u : Tok} {i : Int} {c : Nat} (S : St k s₀ H L m σ s) (h0 : 0 ≤ i) (hz : x.length ≤ sizeLine) (hc : x.cps.toList[i.toNat]? = some c) (h : ∀ t s', St k s₀ H L m σ s' → Q (.str ⟨#[c]⟩ t) s')
    (hs : subscripted slice false (.str x t) (.int i u) = operate [.str x t, .int i u] (getItem (.str x t) (.int i u)) := by with_unfolding_all rfl) : wpAny (model prog w) A (subscriptTail value slice (.str x t) (.int i u)) Q E s := by
  have hlt : i.toNat < x.cps.toList.length := (List.getElem?_eq_some_iff.mp hc).1
  have hlen : x.cps.toList.length = x.length := by simp [Str.length]
  refine tail_any (typeIs_str s x t) F.slot_str_getitem.lookup (P.getItem_str ?_ ?_ (h _ _ (S.kp (Kp.tok s _)))) hs
  · rw [sizeLine_eq] at hz
    simp only [Bool.or_eq_false_iff, decide_eq_false_iff_not]; omega
  · have : seqIndex? i x.length = some i.toNat := by
      rw [hlen] at hlt
      exact seqIndex_pos h0 (by omega)
    rw [this]
    simpa using hc

-- one call by a name
theorem e_b1 {x : Str} {id : String} {p pos : Pos} {e : Expr} (S : St k s₀ H L m σ s) (G : GdH KK mg mb H) (hn : mg x = none) (hv : mb x = some (.builtin id))
    (hc : (env.scope.kind == .function && env.scope.names.lookup x == some .globalImplicit && !(x == ("__debug__" : Str))) = true)
    (h : wpAny (model prog w) A (eval e env) (fun v s₁ => wpAny (model prog w) A (call (.builtin id) [v]) Q E s₁) E s)
    (hs : backTo pos (starEach [e] env) = [(false, eval e env)] := by with_unfolding_all rfl) (hg : env.globals = mainGlobals := by with_unfolding_all rfl) (hb : env.builtins = builtinsNs := by with_unfolding_all rfl) :
    wpAny (model prog w) A (eval (.Call (.Name x p) [e] [] pos) env) Q E s := by
  refine wpAny_Call_NameR (r_blt S G hn hv ?_ hc hg hb)
  rw [hs]
  exact Calls.callWith_builtin rfl (Calls.evalArgs_plain (Calls.spliced_cons (wpAny_mono h (fun v s₁ h₁ => Calls.spliced_nil h₁) fun _ _ e => e)))
theorem e_b2 {x : Str} {id : String} {p pos : Pos} {e1 e2 : Expr} (S : St k s₀ H L m σ s) (G : GdH KK mg mb H) (hn : mg x = none) (hv : mb x = some (.builtin id))
    (hc : (env.scope.kind == .function && env.scope.names.lookup x == some .globalImplicit && !(x == ("__debug__" : Str))) = true)
    (h : wpAny (model prog w) A (eval e1 env) (fun v1 s₁ => wpAny (model prog w) A (eval e2 env) (fun v2 s₂ => wpAny (model prog w) A (call (.builtin id) [v1, v2]) Q E s₂) E s₁) E s)
    (hs : backTo pos (starEach [e1, e2] env) = [(false, eval e1 env), (false, eval e2 env)] := by with_unfolding_all rfl) (hg : env.globals = mainGlobals := by with_unfolding_all rfl) (hb : env.builtins = builtinsNs := by with_unfolding_all rfl) :
    wpAny (model prog w) A (eval (.Call (.Name x p) [e1, e2] [] pos) env) Q E s := by
  refine wpAny_Call_NameR (r_blt S G hn hv ?_ hc hg hb)
  rw [hs]
  exact Calls.callWith_builtin rfl (Calls.evalArgs_plain (Calls.spliced_cons (wpAny_mono h (fun v1 s₁ h₁ => Calls.spliced_cons (wpAny_mono h₁ (fun v2 s₂ h₂ => Calls.spliced_nil h₂) fun _ _ e => e)) fun _ _ e => e)))
theorem e_b3 {x : Str} {id : String} {p pos : Pos} {e1 e2 e3 : Expr} (S : St k s₀ H L m σ s) (G : GdH KK mg mb H) (hn : mg x = none) (hv : mb x = some (.builtin id))
    (hc : (env.scope.kind == .function && env.scope.names.lookup x == some .globalImplicit && !(x == ("__debug__" : Str))) = true)
    (h : wpAny (model prog w) A (eval e1 env) (fun v1 s₁ => wpAny (model prog w) A (eval e2 env) (fun v2 s₂ => wpAny (model prog w) A (eval e3 env) (fun v3 s₃ => wpAny (model prog w) A (call (.builtin id) [v1, v2, v3]) Q E s₃) E s₂) E s₁) E s)
    (hs : backTo pos (starEach [e1, e2, e3] env) = [(false, eval e1 env), (false, eval e2 env), (false, eval e3 env)] := by with_unfolding_all rfl) (hg : env.globals = mainGlobals := by with_unfolding_all rfl) (hb : env.builtins = builtinsNs := by with_unfolding_all rfl) :
    wpAny (model prog w) A (eval (.Call (.Name x p) [e1, e2, e3] [] pos) env) Q E s := by
  refine wpAny_Call_NameR (r_blt S G hn hv ?_ hc hg hb)
  rw [hs]
  exact Calls.callWith_builtin rfl (Calls.evalArgs_plain (Calls.spliced_cons (wpAny_mono h (fun v1 s₁ h₁ => Calls.spliced_cons (wpAny_mono h₁ (fun v2 s₂ h₂ => Calls.spliced_cons (wpAny_mono h₂ (fun v3 s₃ h₃ => Calls.spliced_nil h₃) fun _ _ e => e)) fun _ _ e => e)) fun _ _ e => e)))
/-- a built-in type called with one -/
theorem e_t1 {x : Str} {T : String} {p pos : Pos} {e : Expr} (S : St k s₀ H L m σ s) (G : GdH KK mg mb H) (hn : mg x = none) (hv : mb x = some (.type T))
    (hc : (env.scope.kind == .function && env.scope.names.lookup x == some .globalImplicit && !(x == ("__debug__" : Str))) = true)
    (h : wpAny (model prog w) A (eval e env) (fun v s₁ => wpAny (model prog w) A (call (.type T) [v]) Q E s₁) E s)
    (hs : backTo pos (starEach [e] env) = [(false, eval e env)] := by with_unfolding_all rfl) (hg : env.globals = mainGlobals := by with_unfolding_all rfl) (hb : env.builtins = builtinsNs := by with_unfolding_all rfl) :
    wpAny (model prog w) A (eval (.Call (.Name x p) [e] [] pos) env) Q E s := by
  refine wpAny_Call_NameR (r_blt S G hn hv ?_ hc hg hb)
  rw [hs]
  first | exact PySem.callWith_type rfl (Calls.evalArgs_plain (Calls.spliced_cons (wpAny_mono h (fun v s₁ h₁ => Calls.spliced_nil h₁) fun _ _ e => e))) | exact PyProof.Rows.callWith_type rfl (Calls.evalArgs_plain (Calls.spliced_cons (wpAny_mono h (fun v s₁ h₁ => Calls.spliced_nil h₁) fun _ _ e => e)))
/-- an own def called -/
theorem e_f {x : Str} {p pos : Pos} {e : Expr} {rest : List Expr} {fa : Addr} {o : Obj} {fd : FuncData} (S : St k s₀ H L m σ s) (G : GdH KK mg mb H) (hv : mg x = some (.ref fa)) (ho : KK fa o) (hd : o.data = .func fd)
    (hc : (env.scope.kind == .function && env.scope.names.lookup x == some .globalImplicit && !(x == ("__debug__" : Str))) = true)
    (h : wpAny (model prog w) A (spliced (backTo pos (starEach (e :: rest) env))) (fun vs s₁ => Gd KK mg mb s₁.heap ∧ wpAny (model prog w) A (call (.ref fa) vs) Q E s₁) E s)
    (he : starEach (e :: rest) env = (false, eval e env) :: starEach rest env := by with_unfolding_all rfl) (hg : env.globals = mainGlobals := by with_unfolding_all rfl) :
    wpAny (model prog w) A (eval (.Call (.Name x p) (e :: rest) [] pos) env) Q E s := by
  refine wpAny_Call_NameR (r_glob S G hv ?_ hc hg)
  refine Calls.callWith_function (o := o) (fd := fd) ?_
  rw [he] at h ⊢
  exact Calls.evalArgs_plain (wpAny_mono h (fun vs s₁ h₁ => ⟨⟨h₁.1.X _ _ ho, hd⟩, h₁.2⟩) fun _ _ e => e)

-- lists
theorem r_newList {vs : List Value} (S : St k s₀ H L m σ s) (hz : vs.length ≤ sizeLine) (h : ∀ a s', s.heap.get? a = none → St k s₀ H L m ((a, lst vs 0) :: σ) s' → Q (.ref a) s') : wpAny (model prog w) A (newList vs) Q E s := by
  have hn : s.heap.get? s.heap.objs.size = none := by
    cases e : s.heap.get? s.heap.objs.size with
    | none => rfl
    | some o => exact absurd (Heap.lt_size e) (Nat.lt_irrefl _)
  exact wpAny_newObj_type (h _ _ hn (S.add (Kp.push s _) hn (Heap.get?_push_size _ rfl))) (by show vs.toArray.size ≤ sizeLine; rw [List.size_toArray]; exact hz)
theorem r_newTuple {vs : List Value} (S : St k s₀ H L m σ s) (hz : vs.length ≤ sizeLine) (h : ∀ a s', s.heap.get? a = none → St k s₀ H L m ((a, tup vs) :: σ) s' → Q (.ref a) s') : wpAny (model prog w) A (newTuple vs) Q E s := by
  have hn : s.heap.get? s.heap.objs.size = none := by
    cases e : s.heap.get? s.heap.objs.size with
    | none => rfl
    | some o => exact absurd (Heap.lt_size e) (Nat.lt_irrefl _)
  exact wpAny_newObj_type (h _ _ hn (S.add (Kp.push s _) hn (Heap.get?_push_size _ rfl))) (by show vs.toArray.size ≤ sizeLine; rw [List.size_toArray]; exact hz)
theorem isL {h : Heap} {a : Addr} {vs : List Value} {n : Nat} (e : h.get? a = some (lst vs n)) : h.IsList a vs.toArray := ⟨_, e, rfl, n, rfl⟩
theorem r_len_list {a : Addr} {vs : List Value} (S : St k s₀ H L m σ s) (hl : s.heap.IsList a vs.toArray) (hz : vs.length ≤ sizeLine) (h : ∀ t s', St k s₀ H L m σ s' → Q (.int vs.length t) s') : wpAny (model prog w) A (call (.builtin "len") [.ref a]) Q E s := by
  have := Calls.call_len_list (prog := prog) (w := w) (A := A) (E := E) (Q := Q) hl (by rw [sizeLine_eq] at hz; simp; omega)
  simp only [List.size_toArray] at this
  exact this (h _ _ (S.kp (Kp.tok s _)))
theorem r_item_list {value slice : Expr} {a : Addr} {vs : List Value} {i : Int} {u : Tok} {v : Value} (hl : s.heap.IsList a vs.toArray) (h0 : 0 ≤ i) (hz : vs.length ≤ sizeLine) (hv : vs[i.toNat]? = some v) (h : Q v s)
    (hs : subscripted slice false (.ref a) (.int i u) = operate [.ref a, .int i u] (getItem (.ref a) (.int i u)) := by with_unfolding_all rfl) : wpAny (model prog w) A (subscriptTail value slice (.ref a) (.int i u)) Q E s := by
  have hlt := (List.getElem?_eq_some_iff.mp hv).1
  rw [sizeLine_eq] at hz
  exact tail_any hl.typeIs slot_list_getitem.lookup (wpAny_getItem_list hl h0 (by omega) (by simpa using hv) h) hs
/-- an item from the end -/
theorem r_item_last {value slice : Expr} {a : Addr} {vs : List Value} {u : Tok} {v : Value} (hl : s.heap.IsList a vs.toArray) (hv : vs.getLast? = some v) (h : Q v s)
    (hs : subscripted slice false (.ref a) (.int (-1) u) = operate [.ref a, .int (-1) u] (getItem (.ref a) (.int (-1) u)) := by with_unfolding_all rfl) : wpAny (model prog w) A (subscriptTail value slice (.ref a) (.int (-1) u)) Q E s := by
  have hne : vs ≠ [] := by rintro rfl; cases hv
  have hpos := List.length_pos_iff.mpr hne
  refine tail_any hl.typeIs slot_list_getitem.lookup (wpAny_getItem_list_neg hl (by omega) (by simp; omega) (by omega) ?_ h) hs
  rw [List.getLast?_eq_getElem?] at hv
  rw [List.size_toArray, show ((-1 : Int) + (vs.length : Int)).toNat = vs.length - 1 by omega]
  simpa using hv

-- the reckoning ones
theorem r_min3 {a b c : Int} {t u x : Tok} (S : St k s₀ H L m σ s) (hh : A.handled = none) (h : ∀ t s', St k s₀ H L m σ s' → Q (.int (min a (min b c)) t) s') : wpAny (model prog w) A (call (.builtin "min") [.int a t, .int b u, .int c x]) Q E s := by
  refine min_three_ints hh fun h' tk kp => ?_
  have S' := S.kp (Kp.mk' (s := s) (tk := tk) kp)
  by_cases h1 : b < a
  · rw [if_pos h1]
    by_cases h2 : c < b
    · rw [if_pos h2, show c = min a (min b c) by omega]; exact h _ _ S'
    · rw [if_neg h2, show b = min a (min b c) by omega]; exact h _ _ S'
  · rw [if_neg h1]
    by_cases h2 : c < a
    · rw [if_pos h2, show c = min a (min b c) by omega]; exact h _ _ S'
    · rw [if_neg h2, show a = min a (min b c) by omega]; exact h _ _ S'
theorem r_max2 {a b : Int} {t u : Tok} (S : St k s₀ H L m σ s) (hh : A.handled = none) (h : ∀ t s', St k s₀ H L m σ s' → Q (.int (max a b) t) s') : wpAny (model prog w) A (call (.builtin "max") [.int a t, .int b u]) Q E s := by
  refine max_two_ints hh fun h' tk kp => ?_
  have S' := S.kp (Kp.mk' (s := s) (tk := tk) kp)
  by_cases h1 : b > a
  · rw [if_pos h1, show b = max a b by omega]; exact h _ _ S'
  · rw [if_neg h1, show a = max a b by omega]; exact h _ _ S'
theorem r_abs {a : Int} {t : Tok} (S : St k s₀ H L m σ s) (h : ∀ t s', St k s₀ H L m σ s' → Q (.int (if a < 0 then -a else a) t) s') : wpAny (model prog w) A (call (.builtin "abs") [.int a t]) Q E s :=
  call_abs_int fun _ _ => h _ _ (S.kp (Kp.tok s _))
theorem r_int_bool {b : Bool} (S : St k s₀ H L m σ s) (h : ∀ t s', St k s₀ H L m σ s' → Q (.int (if b then 1 else 0) t) s') : wpAny (model prog w) A (call (.type "int") [.bool b]) Q E s := call_int_bool (h _ _ (S.kp (Kp.tok s _)))
end
end Mine
end
section
open PySem PyProof.Rows
set_option Elab.async false
namespace Mine
section
variable {k : Bool} {prog : Program} {w : World} {A : Around} {E : Value → Shared → Prop} {s₀ s : Shared} {H : Addr → Obj → Prop} {L : Addr} {m : Str → Option Value} {σ : List (Addr × Obj)} {env : Env}
  {KK : Addr → Obj → Prop} {mg mb : Str → Option Value} {q : Str} {sc : Scope} {f : Addr} {cd : Value} {Q : Value → Shared → Prop}
theorem isi_int_int {n : Int} {u : Tok} (S : St k s₀ H L m σ s) (h : ∀ s', St k s₀ H L m σ s' → Q (.bool true) s') : wpAny (model prog w) A (call (.builtin "isinstance") [.int n u, .type "int"]) Q E s := IsiPair.int_int (h _ S)
theorem isi_int_str {n : Int} {u : Tok} (S : St k s₀ H L m σ s) (h : ∀ s', St k s₀ H L m σ s' → Q (.bool false) s') : wpAny (model prog w) A (call (.builtin "isinstance") [.int n u, .type "str"]) Q E s := IsiPair.int_str (h _ (S.kp (Kp.tok s _)))
theorem isi_int_bool {n : Int} {u : Tok} (S : St k s₀ H L m σ s) (h : ∀ s', St k s₀ H L m σ s' → Q (.bool false) s') : wpAny (model prog w) A (call (.builtin "isinstance") [.int n u, .type "bool"]) Q E s := IsiPair.int_bool (h _ (S.kp (Kp.tok s _)))
theorem isi_int_list {n : Int} {u : Tok} (S : St k s₀ H L m σ s) (h : ∀ s', St k s₀ H L m σ s' → Q (.bool false) s') : wpAny (model prog w) A (call (.builtin "isinstance") [.int n u, .type "list"]) Q E s := IsiPair.int_list (h _ (S.kp (Kp.tok s _)))
theorem isi_int_tuple {n : Int} {u : Tok} (S : St k s₀ H L m σ s) (h : ∀ s', St k s₀ H L m σ s' → Q (.bool false) s') : wpAny (model prog w) A (call (.builtin "isinstance") [.int n u, .type "tuple"]) Q E s := IsiPair.int_tuple (h _ (S.kp (Kp.tok s _)))
theorem isi_str_int {x : Str} {u : Tok} (S : St k s₀ H L m σ s) (h : ∀ s', St k s₀ H L m σ s' → Q (.bool false) s') : wpAny (model prog w) A (call (.builtin "isinstance") [.str x u, .type "int"]) Q E s := IsiPair.str_int (h _ (S.kp (Kp.tok s _)))
theorem isi_str_str {x : Str} {u : Tok} (S : St k s₀ H L m σ s) (h : ∀ s', St k s₀ H L m σ s' → Q (.bool true) s') : wpAny (model prog w) A (call (.builtin "isinstance") [.str x u, .type "str"]) Q E s := IsiPair.str_str (h _ S)
theorem isi_str_bool {x : Str} {u : Tok} (S : St k s₀ H L m σ s) (h : ∀ s', St k s₀ H L m σ s' → Q (.bool false) s') : wpAny (model prog w) A (call (.builtin "isinstance") [.str x u, .type "bool"]) Q E s := IsiPair.str_bool (h _ (S.kp (Kp.tok s _)))
theorem isi_str_list {x : Str} {u : Tok} (S : St k s₀ H L m σ s) (h : ∀ s', St k s₀ H L m σ s' → Q (.bool false) s') : wpAny (model prog w) A (call (.builtin "isinstance") [.str x u, .type "list"]) Q E s := IsiPair.str_list (h _ (S.kp (Kp.tok s _)))
theorem isi_str_tuple {x : Str} {u : Tok} (S : St k s₀ H L m σ s) (h : ∀ s', St k s₀ H L m σ s' → Q (.bool false) s') : wpAny (model prog w) A (call (.builtin "isinstance") [.str x u, .type "tuple"]) Q E s := IsiPair.str_tuple (h _ (S.kp (Kp.tok s _)))
theorem isi_bool_int {b : Bool} (S : St k s₀ H L m σ s) (h : ∀ s', St k s₀ H L m σ s' → Q (.bool true) s') : wpAny (model prog w) A (call (.builtin "isinstance") [.bool b, .type "int"]) Q E s := IsiPair.bool_int (h _ S)
theorem isi_bool_str {b : Bool} (S : St k s₀ H L m σ s) (h : ∀ s', St k s₀ H L m σ s' → Q (.bool false) s') : wpAny (model prog w) A (call (.builtin "isinstance") [.bool b, .type "str"]) Q E s := IsiPair.bool_str (h _ (S.kp (Kp.tok s _)))
theorem isi_bool_bool {b : Bool} (S : St k s₀ H L m σ s) (h : ∀ s', St k s₀ H L m σ s' → Q (.bool true) s') : wpAny (model prog w) A (call (.builtin "isinstance") [.bool b, .type "bool"]) Q E s := IsiPair.bool_bool (h _ S)
theorem isi_bool_list {b : Bool} (S : St k s₀ H L m σ s) (h : ∀ s', St k s₀ H L m σ s' → Q (.bool false) s') : wpAny (model prog w) A (call (.builtin "isinstance") [.bool b, .type "list"]) Q E s := IsiPair.bool_list (h _ (S.kp (Kp.tok s _)))
theorem isi_bool_tuple {b : Bool} (S : St k s₀ H L m σ s) (h : ∀ s', St k s₀ H L m σ s' → Q (.bool false) s') : wpAny (model prog w) A (call (.builtin "isinstance") [.bool b, .type "tuple"]) Q E s := IsiPair.bool_tuple (h _ (S.kp (Kp.tok s _)))
theorem isi_NoneType_int  (S : St k s₀ H L m σ s) (h : ∀ s', St k s₀ H L m σ s' → Q (.bool false) s') : wpAny (model prog w) A (call (.builtin "isinstance") [.none, .type "int"]) Q E s := IsiPair.NoneType_int (h _ (S.kp (Kp.tok s _)))
theorem isi_NoneType_str  (S : St k s₀ H L m σ s) (h : ∀ s', St k s₀ H L m σ s' → Q (.bool false) s') : wpAny (model prog w) A (call (.builtin "isinstance") [.none, .type "str"]) Q E s := IsiPair.NoneType_str (h _ (S.kp (Kp.tok s _)))
theorem isi_NoneType_bool  (S : St k s₀ H L m σ s) (h : ∀ s', St k s₀ H L m σ s' → Q (.bool false) s') : wpAny (model prog w) A (call (.builtin "isinstance") [.none, .type "bool"]) Q E s := IsiPair.NoneType_bool (h _ (S.kp (Kp.tok s _)))
theorem isi_NoneType_list  (S : St k s₀ H L m σ s) (h : ∀ s', St k s₀ H L m σ s' → Q (.bool false) s') : wpAny (model prog w) A (call (.builtin "isinstance") [.none, .type "list"]) Q E s := IsiPair.NoneType_list (h _ (S.kp (Kp.tok s _)))
theorem isi_NoneType_tuple  (S : St k s₀ H L m σ s) (h : ∀ s', St k s₀ H L m σ s' → Q (.bool false) s') : wpAny (model prog w) A (call (.builtin "isinstance") [.none, .type "tuple"]) Q E s := IsiPair.NoneType_tuple (h _ (S.kp (Kp.tok s _)))
theorem isi_list_int {a : Addr} {o : Obj} (hx : s.heap.get? a = some o) (hc : o.cls = .type "list") (S : St k s₀ H L m σ s) (h : ∀ s', St k s₀ H L m σ s' → Q (.bool false) s') : wpAny (model prog w) A (call (.builtin "isinstance") [.ref a, .type "int"]) Q E s := IsiPair.list_int hx hc (h _ (S.kp (Kp.tok s _)))
theorem isi_list_str {a : Addr} {o : Obj} (hx : s.heap.get? a = some o) (hc : o.cls = .type "list") (S : St k s₀ H L m σ s) (h : ∀ s', St k s₀ H L m σ s' → Q (.bool false) s') : wpAny (model prog w) A (call (.builtin "isinstance") [.ref a, .type "str"]) Q E s := IsiPair.list_str hx hc (h _ (S.kp (Kp.tok s _)))
theorem isi_list_bool {a : Addr} {o : Obj} (hx : s.heap.get? a = some o) (hc : o.cls = .type "list") (S : St k s₀ H L m σ s) (h : ∀ s', St k s₀ H L m σ s' → Q (.bool false) s') : wpAny (model prog w) A (call (.builtin "isinstance") [.ref a, .type "bool"]) Q E s := IsiPair.list_bool hx hc (h _ (S.kp (Kp.tok s _)))
theorem isi_list_list {a : Addr} {o : Obj} (hx : s.heap.get? a = some o) (hc : o.cls = .type "list") (S : St k s₀ H L m σ s) (h : ∀ s', St k s₀ H L m σ s' → Q (.bool true) s') : wpAny (model prog w) A (call (.builtin "isinstance") [.ref a, .type "list"]) Q E s := IsiPair.list_list hx hc (h _ S)
theorem isi_list_tuple {a : Addr} {o : Obj} (hx : s.heap.get? a = some o) (hc : o.cls = .type "list") (S : St k s₀ H L m σ s) (h : ∀ s', St k s₀ H L m σ s' → Q (.bool false) s') : wpAny (model prog w) A (call (.builtin "isinstance") [.ref a, .type "tuple"]) Q E s := IsiPair.list_tuple hx hc (h _ (S.kp (Kp.tok s _)))
theorem isi_tuple_int {a : Addr} {o : Obj} (hx : s.heap.get? a = some o) (hc : o.cls = .type "tuple") (S : St k s₀ H L m σ s) (h : ∀ s', St k s₀ H L m σ s' → Q (.bool false) s') : wpAny (model prog w) A (call (.builtin "isinstance") [.ref a, .type "int"]) Q E s := IsiPair.tuple_int hx hc (h _ (S.kp (Kp.tok s _)))
theorem isi_tuple_str {a : Addr} {o : Obj} (hx : s.heap.get? a = some o) (hc : o.cls = .type "tuple") (S : St k s₀ H L m σ s) (h : ∀ s', St k s₀ H L m σ s' → Q (.bool false) s') : wpAny (model prog w) A (call (.builtin "isinstance") [.ref a, .type "str"]) Q E s := IsiPair.tuple_str hx hc (h _ (S.kp (Kp.tok s _)))
theorem isi_tuple_bool {a : Addr} {o : Obj} (hx : s.heap.get? a = some o) (hc : o.cls = .type "tuple") (S : St k s₀ H L m σ s) (h : ∀ s', St k s₀ H L m σ s' → Q (.bool false) s') : wpAny (model prog w) A (call (.builtin "isinstance") [.ref a, .type "bool"]) Q E s := IsiPair.tuple_bool hx hc (h _ (S.kp (Kp.tok s _)))
theorem isi_tuple_list {a : Addr} {o : Obj} (hx : s.heap.get? a = some o) (hc : o.cls = .type "tuple") (S : St k s₀ H L m σ s) (h : ∀ s', St k s₀ H L m σ s' → Q (.bool false) s') : wpAny (model prog w) A (call (.builtin "isinstance") [.ref a, .type "list"]) Q E s := IsiPair.tuple_list hx hc (h _ (S.kp (Kp.tok s _)))
theorem isi_tuple_tuple {a : Addr} {o : Obj} (hx : s.heap.get? a = some o) (hc : o.cls = .type "tuple") (S : St k s₀ H L m σ s) (h : ∀ s', St k s₀ H L m σ s' → Q (.bool true) s') : wpAny (model prog w) A (call (.builtin "isinstance") [.ref a, .type "tuple"]) Q E s := IsiPair.tuple_tuple hx hc (h _ S)
theorem isi_dict_int {a : Addr} {o : Obj} (hx : s.heap.get? a = some o) (hc : o.cls = .type "dict") (S : St k s₀ H L m σ s) (h : ∀ s', St k s₀ H L m σ s' → Q (.bool false) s') : wpAny (model prog w) A (call (.builtin "isinstance") [.ref a, .type "int"]) Q E s := IsiPair.dict_int hx hc (h _ (S.kp (Kp.tok s _)))
theorem isi_dict_str {a : Addr} {o : Obj} (hx : s.heap.get? a = some o) (hc : o.cls = .type "dict") (S : St k s₀ H L m σ s) (h : ∀ s', St k s₀ H L m σ s' → Q (.bool false) s') : wpAny (model prog w) A (call (.builtin "isinstance") [.ref a, .type "str"]) Q E s := IsiPair.dict_str hx hc (h _ (S.kp (Kp.tok s _)))
theorem isi_dict_bool {a : Addr} {o : Obj} (hx : s.heap.get? a = some o) (hc : o.cls = .type "dict") (S : St k s₀ H L m σ s) (h : ∀ s', St k s₀ H L m σ s' → Q (.bool false) s') : wpAny (model prog w) A (call (.builtin "isinstance") [.ref a, .type "bool"]) Q E s := IsiPair.dict_bool hx hc (h _ (S.kp (Kp.tok s _)))
theorem isi_dict_list {a : Addr} {o : Obj} (hx : s.heap.get? a = some o) (hc : o.cls = .type "dict") (S : St k s₀ H L m σ s) (h : ∀ s', St k s₀ H L m σ s' → Q (.bool false) s') : wpAny (model prog w) A (call (.builtin "isinstance") [.ref a, .type "list"]) Q E s := IsiPair.dict_list hx hc (h _ (S.kp (Kp.tok s _)))
theorem isi_dict_tuple {a : Addr} {o : Obj} (hx : s.heap.get? a = some o) (hc : o.cls = .type "dict") (S : St k s₀ H L m σ s) (h : ∀ s', St k s₀ H L m σ s' → Q (.bool false) s') : wpAny (model prog w) A (call (.builtin "isinstance") [.ref a, .type "tuple"]) Q E s := IsiPair.dict_tuple hx hc (h _ (S.kp (Kp.tok s _)))

/-- an owned object becomes one that stays -/
theorem St.freeze {a : Addr} {o : Obj} {σ₁ σ₂ : List (Addr × Obj)} (S : St k s₀ H L m (σ₁ ++ (a, o) :: σ₂) s) : St k s₀ (fun b x => H b x ∨ (b = a ∧ x = o)) L m (σ₁ ++ σ₂) s := by
  have ha := S.own (a, o) (by simp)
  have hnd := S.nd
  rw [List.map_append, List.map_cons] at hnd
  have hp : (σ₁.map (·.1) ++ a :: σ₂.map (·.1)).Perm (a :: (σ₁.map (·.1) ++ σ₂.map (·.1))) := List.perm_middle
  have hnd' := hp.nodup_iff.mp hnd
  rw [List.nodup_cons] at hnd'
  refine ⟨S.same, S.ns, fun b x e => e.elim (S.keep b x) fun q => by obtain ⟨rfl, rfl⟩ := q; exact ha.1, fun hk x e => e.elim (S.keepL hk x) fun q => ha.2.1 q.1.symm, fun p hp => ?_, by rw [List.map_append]; exact hnd'.2⟩
  have hp' : p ∈ σ₁ ++ (a, o) :: σ₂ := by
    rcases List.mem_append.mp hp with h | h
    · exact List.mem_append_left _ h
    · exact List.mem_append_right _ (List.mem_cons_of_mem _ h)
  refine ⟨(S.own p hp').1, (S.own p hp').2.1, fun x e => e.elim ((S.own p hp').2.2 x) fun q => hnd'.1 ?_⟩
  rw [← List.map_append]
  exact List.mem_map.mpr ⟨p, hp, q.1⟩
theorem St.thaw {a : Addr} {o : Obj} (S : St k s₀ (fun b x => H b x ∨ (b = a ∧ x = o)) L m σ s) (hn : ∀ x, ¬ H a x) (haL : a ≠ L) : St k s₀ H L m ((a, o) :: σ) s := by
  refine ⟨S.same, S.ns, fun b x e => S.keep b x (.inl e), fun hk x e => S.keepL hk x (.inl e), fun p hp => ?_, ?_⟩
  · rcases List.mem_cons.mp hp with rfl | hp
    · exact ⟨S.keep _ _ (.inr ⟨rfl, rfl⟩), haL, hn⟩
    · exact ⟨(S.own p hp).1, (S.own p hp).2.1, fun x e => (S.own p hp).2.2 x (.inl e)⟩
  · rw [List.map_cons, List.nodup_cons]
    refine ⟨fun hm => ?_, S.nd⟩
    obtain ⟨p, hp, e⟩ := List.mem_map.mp hm
    exact (S.own p hp).2.2 o (.inr ⟨e, rfl⟩)

-- append
theorem mapSeq_push (vs : List Value) (n : Nat) (v : Value) : (Obj.mapSeq (fun xs => xs.push v) (lst vs n)) = lst (vs ++ [v]) (n + 1) := by
  show Obj.mk _ _ (Data.seq (vs.toArray.push v) (if (vs.toArray.push v).size == vs.toArray.size then n else n + 1)) _ = _
  have : ((vs.toArray.push v).size == vs.toArray.size) = false := by simp
  rw [this]
  simp
/-- a call of a list's method append -/
theorem e_append {x : Str} {e : Expr} {p apos pos : Pos} {l : Addr} {vs : List Value} {n : Nat} (S : St k s₀ H L m σ s) (hv : m x = some (.ref l)) (hl : (l, lst vs n) ∈ σ)
    (hc : (env.scope.kind == .function && env.scope.names.lookup x == some .local && !(x == ("__debug__" : Str))) = true) (hline : (apos.endLine == pos.line) = true)
    (h : wpAny (model prog w) A (eval e env) (fun v s₂ => wpAny (model prog w) A (call (.builtin "list.append") [.ref l, v]) Q E s₂) E s) (hL : env.locals = L := by with_unfolding_all rfl)
    (hbase : attributeBase (.Name x p) (Str.ofString "append") env (eval (.Name x p) env) = eval (.Name x p) env := by with_unfolding_all rfl) (hs : starEach [e] env = [(false, eval e env)] := by with_unfolding_all rfl) :
    wpAny (model prog w) A (eval (.Call (.Attribute (.Name x p) (Str.ofString "append") apos) [e] [] pos) env) Q E s := by
  refine Call_method1 hbase hs hline (r_loc S hv ?_ hc hL)
  have ho := S.get hl
  refine ⟨"list", "list.append", F.plainAttrs_list, F.slot_list_append, F.type_list_append, ⟨_, ho, rfl⟩, fun a e => ?_, ?_⟩
  · cases e; exact ⟨_, ho, rfl⟩
  · exact Calls.callWith_builtin rfl (Calls.evalArgs_plain (Calls.spliced_cons (wpAny_mono h (fun y s₂ h₂ => Calls.spliced_nil h₂) fun _ _ e => e)))
theorem r_append {l : Addr} {vs : List Value} {n : Nat} {v : Value} {σ₁ σ₂ : List (Addr × Obj)} (S : St k s₀ H L m (σ₁ ++ (l, lst vs n) :: σ₂) s) (hz : vs.length ≤ sizeLine)
    (h : ∀ s', St k s₀ H L m (σ₁ ++ (l, lst (vs ++ [v]) (n + 1)) :: σ₂) s' → Q .none s') : wpAny (model prog w) A (call (.builtin "list.append") [.ref l, v]) Q E s := by
  have hget := S.get (a := l) (o := lst vs n) (by simp)
  refine call_meets F.slot_list_append ⟨_, hget, rfl⟩ F.entry_list_append (F.args_list_append_2 _ _) (list_append l vs.toArray n v (by simpa using hz)) ⟨hget, h _ (S.turn (tk := s.toks) (fun b x hb e => ?_) ?_)⟩
  · rw [Heap.get?_update_other _ _ (Ne.symm hb)]; exact e
  · rw [← mapSeq_push]; exact Heap.get?_update_self _ hget rfl
theorem r_append0 {l : Addr} {vs : List Value} {n : Nat} {v : Value} (S : St k s₀ H L m ((l, lst vs n) :: σ) s) (hz : vs.length ≤ sizeLine)
    (h : ∀ s', St k s₀ H L m ((l, lst (vs ++ [v]) (n + 1)) :: σ) s' → Q .none s') : wpAny (model prog w) A (call (.builtin "list.append") [.ref l, v]) Q E s := r_append (σ₁ := []) S hz h
theorem r_append1 {l : Addr} {vs : List Value} {n : Nat} {v : Value} {p : Addr × Obj} (S : St k s₀ H L m (p :: (l, lst vs n) :: σ) s) (hz : vs.length ≤ sizeLine)
    (h : ∀ s', St k s₀ H L m (p :: (l, lst (vs ++ [v]) (n + 1)) :: σ) s' → Q .none s') : wpAny (model prog w) A (call (.builtin "list.append") [.ref l, v]) Q E s := r_append (σ₁ := [p]) S hz h
/-- a statement that is only reckoned: what it gives is no object -/
def exprK (v : Value) (P : Prop) : Prop := match v with | .ref _ => False | _ => P
theorem exprK_none {P : Prop} (h : P) : exprK .none P := h
theorem exprK_str {P : Prop} {x : Str} {t : Tok} (h : P) : exprK (.str x t) P := h
theorem exprK_bool {P : Prop} {b : Bool} (h : P) : exprK (.bool b) P := h
theorem exprK_int {P : Prop} {i : Int} {t : Tok} (h : P) : exprK (.int i t) P := h
theorem x_expr {e : Expr} {pos : Pos} {rest : List Stmt} {Q : Flow → Shared → Prop} (h : wpAny (model prog w) A (eval e env) (fun v s' => exprK v (wpAny (model prog w) A (execs rest env) Q E s')) E s)
    (hi : interactive env = false := by with_unfolding_all rfl) (hs : swapsWith e none pos.line env = pure false := by with_unfolding_all rfl) : wpAny (model prog w) A (execs (.Expr e pos :: rest) env) Q E s :=
  x_cons (wpAny_Expr (wpAny_mono h (fun v s' h' => by cases v <;> exact h') fun _ _ x => x) hi hs)

-- slices of texts
def sl (x : Str) (l u : Option Int) : Str := Txt.slice x l u
theorem kbp : KeptByPush (St k s₀ H L m σ) := fun s ob n S => (S.kp (Kp.push s ob)).kp (Kp.tok _ n)
def SlUp (k : Bool) (s₀ : Shared) (H : Addr → Obj → Prop) (L : Addr) (Q : Value → Shared → Prop) (o u : Value) (s₂ : Shared) : Prop :=
  ∃ x t j tj m σ, o = .str x t ∧ u = .int j tj ∧ x.length ≤ sizeLine ∧ St k s₀ H L m σ s₂ ∧ ∀ t' s', St k s₀ H L m σ s' → Q (.str (sl x none (some j)) t') s'
theorem SlUp.mk {x : Str} {t tj : Tok} {j : Int} (S : St k s₀ H L m σ s) (hz : x.length ≤ sizeLine) (h : ∀ t' s', St k s₀ H L m σ s' → Q (.str (sl x none (some j)) t') s') : SlUp k s₀ H L Q (.str x t) (.int j tj) s := ⟨x, t, j, tj, m, σ, rfl, rfl, hz, S, h⟩
def SlLo (k : Bool) (s₀ : Shared) (H : Addr → Obj → Prop) (L : Addr) (Q : Value → Shared → Prop) (o u : Value) (s₂ : Shared) : Prop :=
  ∃ x t j tj m σ, o = .str x t ∧ u = .int j tj ∧ x.length ≤ sizeLine ∧ St k s₀ H L m σ s₂ ∧ ∀ t' s', St k s₀ H L m σ s' → Q (.str (sl x (some j) none) t') s'
theorem SlLo.mk {x : Str} {t tj : Tok} {j : Int} (S : St k s₀ H L m σ s) (hz : x.length ≤ sizeLine) (h : ∀ t' s', St k s₀ H L m σ s' → Q (.str (sl x (some j) none) t') s') : SlLo k s₀ H L Q (.str x t) (.int j tj) s := ⟨x, t, j, tj, m, σ, rfl, rfl, hz, S, h⟩
theorem e_slice_ns {value up : Expr} {p pos : Pos} (_S : St k s₀ H L m σ s)
    (h : wpAny (model prog w) A (eval value env) (fun o s₁ => wpAny (model prog w) A (eval up env) (fun u s₂ => SlUp k s₀ H L Q o u s₂) E s₁) E s)
    (ht : ∀ o r, letTemporaryGo value o r = pure () := by intro _ _; with_unfolding_all rfl) : wpAny (model prog w) A (eval (.Subscript value (.Slice none (some up) none p) pos) env) Q E s := by
  refine Subscript_Slice (wpAny_mono h (fun o s₁ h₁ => wpAny_Slice (evalPart_none_step (evalPart_some_step (wpAny_mono h₁ (fun u s₂ h₂ => evalPart_none_step ?_) fun _ _ x => x)))) fun _ _ x => x) ht
  obtain ⟨x, t, j, tj, m, σ, rfl, rfl, hz, S, hq⟩ := h₂
  exact SBG.sliceItem_ns kbp S (fun s' t' S' => hq t' s' S') hz
theorem e_slice_sn {value lo : Expr} {p pos : Pos} (_S : St k s₀ H L m σ s)
    (h : wpAny (model prog w) A (eval value env) (fun o s₁ => wpAny (model prog w) A (eval lo env) (fun u s₂ => SlLo k s₀ H L Q o u s₂) E s₁) E s)
    (ht : ∀ o r, letTemporaryGo value o r = pure () := by intro _ _; with_unfolding_all rfl) : wpAny (model prog w) A (eval (.Subscript value (.Slice (some lo) none none p) pos) env) Q E s := by
  refine Subscript_Slice (wpAny_mono h (fun o s₁ h₁ => wpAny_Slice (evalPart_some_step (wpAny_mono h₁ (fun u s₂ h₂ => evalPart_none_step (evalPart_none_step ?_)) fun _ _ x => x))) fun _ _ x => x) ht
  obtain ⟨x, t, j, tj, m, σ, rfl, rfl, hz, S, hq⟩ := h₂
  exact SBG.sliceItem_sn kbp S (fun s' t' S' => hq t' s' S') hz

-- ranges
theorem range_size (n : Int) : Builtin.Range.rangeSize 0 n 1 = (n.toNat : Int) := by rw [rangeSize_one]; split <;> omega
theorem e_list_range {n : Int} {t : Tok} (S : St k s₀ H L m σ s) (hh : A.handled = none) (h0 : 0 ≤ n) (hz : n ≤ 2 ^ 24)
    (h : ∀ a vs c s', vs.length = n.toNat → (∀ i, i < n.toNat → ∃ t, vs[i]? = some (.int i t)) → s.heap.get? a = none → St k s₀ H L m ((a, lst vs c) :: σ) s' → Q (.ref a) s') :
    wpAny (model prog w) A (call (.type "range") [.int n t]) (fun xv s₁ => wpAny (model prog w) A (call (.type "list") [xv]) Q E s₁) E s := by
  refine call_range_1 (call_list_range (n := n.toNat) hh (IsRange.new ..) (small_one (by decide) (by decide) (by omega) (by omega)) (range_size n) (by omega) fun h' tk acc' c' hk hg hI => ?_)
  have hnone : ∀ b, s.heap.objs.size ≤ b → s.heap.get? b = none := fun b hb => by
    cases e : s.heap.get? b with
    | none => rfl
    | some o => exact absurd (Heap.lt_size e) (Nat.not_lt.mpr hb)
  have kp : Kp s { s with heap := h', toks := tk } := Kp.mk' fun b o e => hk b o (Heap.get?_push_of_some _ e)
  refine h _ acc'.toList c' _ ?_ ?_ (hnone _ (by simp [Heap.size_push])) (S.add kp (hnone _ (by simp [Heap.size_push])) (by simpa using hg))
  · simpa using hI.1
  · intro i hi
    have hi' : i < acc'.size := by rw [hI.1]; exact hi
    obtain ⟨t, ht⟩ := hI.2 i acc'[i] (by simp [hi'])
    refine ⟨t, ?_⟩
    have : acc'.toList[i]? = some acc'[i] := by simp [hi']
    rw [this, ht]; simp
end
end Mine
end
section
open PySem PyProof.Rows
set_option Elab.async false
namespace Mine
section
variable {k : Bool} {prog : Program} {w : World} {A : Around} {E : Value → Shared → Prop} {s₀ s : Shared} {H : Addr → Obj → Prop} {L : Addr} {m : Str → Option Value} {σ : List (Addr × Obj)} {env : Env}
  {KK : Addr → Obj → Prop} {mg mb : Str → Option Value} {q : Str} {sc : Scope} {f : Addr} {cd : Value} {Q : Value → Shared → Prop}

theorem get_size_none (h : Heap) : h.get? h.objs.size = none := by
  cases e : h.get? h.objs.size with
  | none => rfl
  | some o => exact absurd (Heap.lt_size e) (Nat.lt_irrefl _)
theorem St.notNew (S : St k s₀ H L m σ s) {b : Addr} (hb : s.heap.get? b = none) : b ≠ L ∧ b ∉ σ.map (·.1) ∧ ∀ o, ¬ H b o := by
  refine ⟨fun e => ?_, fun hm => ?_, fun o e => ?_⟩
  · obtain ⟨o, _, _, ho, _⟩ := S.ns; rw [← e, hb] at ho; cases ho
  · obtain ⟨p, hp, e⟩ := List.mem_map.mp hm; have := (S.own p hp).1; rw [e, hb] at this; cases this
  · have := S.keep _ _ e; rw [hb] at this; cases this

/-- a statement for: what is looked over comes first -/
theorem x_for {target iter : Expr} {body rest : List Stmt} {pos : Pos} {Q : Flow → Shared → Prop}
    (h : wpAny (model prog w) A (eval iter env) (fun x s₁ => wpAny (model prog w) A (pyIter x) (fun it s₂ =>
      codeAny (model prog w) A (.forLoop target it body [] env) (fun r s' => match r with | .ok f => thenK prog w A rest env Q E f s' | .error e => cameBackBy (model prog w) A env E e s') s₂) E s₁) E s)
    (hs : ∀ x, foldedSetIterable iter env x = pure x := by intro _; rfl) : wpAny (model prog w) A (execs (.For target iter body [] pos :: rest) env) Q E s :=
  x_cons (wpAny_For h hs)

theorem for_str {x : Str} {t : Tok} {v : Str} {pv : Pos} {body : List Stmt} {Q : Flow → Shared → Prop} (J : Nat → (Str → Option Value) → List (Addr × Obj) → Prop)
    (S : St true s₀ H L m σ s) (hh : A.handled = none) (h0 : J 0 m σ) (hc : (sc.kind == .function && sc.names.lookup v == some .local) = true)
    (turn : ∀ (E' : Value → Shared → Prop) i m' σ' s' c t Hb, i < x.length → x.cps.toList[i]? = some c → J i m' σ' → (∀ b o, H b o → Hb b o) → St true s₀ Hb L (upd m' v (.str ⟨#[c]⟩ t)) σ' s' →
      wpAny (model prog w) A (execs body (envOf q sc L f cd)) (turnK (J (i + 1)) s₀ Hb L Q) E' s')
    (done : ∀ m' σ' s', J x.length m' σ' → St true s₀ H L m' σ' s' → Q .next s') :
    wpAny (model prog w) A (pyIter (.str x t)) (fun it s₂ => codeAny (model prog w) A (.forLoop (.Name v pv) it body [] (envOf q sc L f cd))
      (fun r s' => match r with | .ok f => Q f s' | .error e => cameBackBy (model prog w) A (envOf q sc L f cd) E e s') s₂) E s := by
  simp only [Bool.and_eq_true, beq_iff_eq] at hc
  have hn := get_size_none s.heap
  have nn := S.notNew hn
  have go : ∀ (ty : String) (o : Obj), Walks prog w A s.heap.objs.size [s.heap.objs.size] [s.heap.objs.size] x.cps.size (SignAt x) (fun i h => h.IsStrIter s.heap.objs.size ty x t i) →
      (s.heap.push o).IsStrIter s.heap.objs.size ty x t 0 → codeAny (model prog w) A (.forLoop (.Name v pv) (.ref s.heap.objs.size) body [] (envOf q sc L f cd))
      (fun r s' => match r with | .ok f => Q f s' | .error e => cameBackBy (model prog w) A (envOf q sc L f cd) E e s') { s with heap := s.heap.push o } := by
    intro ty o W hT
    refine forLoop_St W ?_ J (S.kp (Kp.push s o)) hT ?_ ?_ h0 hc.1 hc.2 (fun E' i m' σ' s' v' Hb hi hJ hP hb S₂ => ?_) done (fun _ _ h => h)
    · intro i h hTi b hb
      rcases List.mem_cons.mp hb with rfl | hb
      · obtain ⟨o, ho, _⟩ := hTi; exact ⟨o, ho⟩
      · cases hb
    · intro b hb; rcases List.mem_cons.mp hb with rfl | hb
      · exact ⟨nn.1, nn.2.1⟩
      · cases hb
    · intro b hb; rcases List.mem_cons.mp hb with rfl | hb
      · exact nn.2.2
      · cases hb
    · obtain ⟨c, u, hc', rfl⟩ := hP
      exact turn E' i m' σ' s' c u Hb hi (by simpa using hc') hJ hb S₂
  cases ha : x.cps.all (· < 128)
  · exact wpAny_pyIter_wide ha (go _ _ (Walks.strWide hh _ x t) ⟨_, Heap.get?_push_size _ rfl, rfl, rfl⟩)
  · exact wpAny_pyIter_ascii ha (go _ _ (Walks.strAscii hh _ x t) ⟨_, Heap.get?_push_size _ rfl, rfl, rfl⟩)

/-- for v in range(n) -/
theorem for_range {n : Int} {t : Tok} {v : Str} {pv : Pos} {body : List Stmt} {Q : Flow → Shared → Prop} (J : Nat → (Str → Option Value) → List (Addr × Obj) → Prop)
    (S : St true s₀ H L m σ s) (hh : A.handled = none) (hn0 : -(2 ^ 62) ≤ n) (hn1 : n < 2 ^ 62) (h0 : J 0 m σ) (hc : (sc.kind == .function && sc.names.lookup v == some .local) = true)
    (turn : ∀ (E' : Value → Shared → Prop) i m' σ' s' t Hb, i < n.toNat → J i m' σ' → (∀ b o, H b o → Hb b o) → St true s₀ Hb L (upd m' v (.int i t)) σ' s' →
      wpAny (model prog w) A (execs body (envOf q sc L f cd)) (turnK (J (i + 1)) s₀ Hb L Q) E' s')
    (done : ∀ m' σ' s', J n.toNat m' σ' → St true s₀ H L m' σ' s' → Q .next s') :
    wpAny (model prog w) A (call (.type "range") [.int n t]) (fun xv s₁ => wpAny (model prog w) A (pyIter xv) (fun it s₂ => codeAny (model prog w) A (.forLoop (.Name v pv) it body [] (envOf q sc L f cd))
      (fun r s' => match r with | .ok f => Q f s' | .error e => cameBackBy (model prog w) A (envOf q sc L f cd) E e s') s₂) E s₁) E s := by
  simp only [Bool.and_eq_true, beq_iff_eq] at hc
  refine call_range_1 (wpAny_pyIter_range (IsRange.new ..) (small_one (by decide) (by decide) hn0 hn1) ?_)
  have S1 : St true s₀ H L m σ { s with heap := s.heap.push { cls := .type "range", data := .fields #[.int 0 s.toks, .int n t, .int 1 (s.toks + 1)] }, toks := s.toks + 1 + 1 } := (S.kp (Kp.push s _)).kp (Kp.tok _ _)
  have nn := S1.notNew (get_size_none _)
  refine forLoop_St (Walks.range hh _ 0 1 n.toNat) ?_ J (S1.kp (Kp.push _ _)) ?_ ?_ ?_ h0 hc.1 hc.2 (fun E' i m' σ' s' v' Hb hi hJ hP hb S₂ => ?_) done (fun _ _ h => h)
  · intro i h hTi b hb
    rcases List.mem_cons.mp hb with rfl | hb
    · exact ⟨_, hTi⟩
    · cases hb
  · have e1 : (0 + ((0 : Nat) : Int) * 1) = 0 := by simp
    have e2 : ((n.toNat : Int) - ((0 : Nat) : Int)) = Builtin.Range.rangeSize 0 n 1 := by rw [range_size]; simp
    show IsRangeIter _ _ (0 + ((0 : Nat) : Int) * 1) ((n.toNat : Int) - ((0 : Nat) : Int)) 1
    rw [e1, e2]
    exact Heap.get?_push_size _ rfl
  · intro b hb; rcases List.mem_cons.mp hb with rfl | hb
    · exact ⟨nn.1, nn.2.1⟩
    · cases hb
  · intro b hb; rcases List.mem_cons.mp hb with rfl | hb
    · exact nn.2.2
    · cases hb
  · obtain ⟨u, rfl⟩ := hP
    refine turn E' i m' σ' s' u Hb hi hJ hb ?_
    simpa using S₂

/-- for v in a list that stays -/
theorem for_list {a : Addr} {vs : List Value} {n : Nat} {v : Str} {pv : Pos} {body : List Stmt} {Q : Flow → Shared → Prop} (J : Nat → (Str → Option Value) → List (Addr × Obj) → Prop)
    (S : St true s₀ H L m σ s) (hH : H a (lst vs n)) (hh : A.handled = none) (h0 : J 0 m σ) (hc : (sc.kind == .function && sc.names.lookup v == some .local) = true)
    (turn : ∀ (E' : Value → Shared → Prop) i m' σ' s' x Hb, i < vs.length → vs[i]? = some x → J i m' σ' → (∀ b o, H b o → Hb b o) → St true s₀ Hb L (upd m' v x) σ' s' →
      wpAny (model prog w) A (execs body (envOf q sc L f cd)) (turnK (J (i + 1)) s₀ Hb L Q) E' s')
    (done : ∀ m' σ' s', J vs.length m' σ' → St true s₀ H L m' σ' s' → Q .next s') :
    wpAny (model prog w) A (pyIter (.ref a)) (fun it s₂ => codeAny (model prog w) A (.forLoop (.Name v pv) it body [] (envOf q sc L f cd))
      (fun r s' => match r with | .ok f => Q f s' | .error e => cameBackBy (model prog w) A (envOf q sc L f cd) E e s') s₂) E s := by
  simp only [Bool.and_eq_true, beq_iff_eq] at hc
  have hl := isL (S.keep _ _ hH)
  refine wpAny_pyIter_list hl ?_
  have nn := S.notNew (get_size_none s.heap)
  have hne : a ≠ s.heap.objs.size := fun e => nn.2.2 _ (e ▸ hH)
  have haL : a ≠ L := fun e => S.keepL rfl _ (e ▸ hH)
  have haσ : a ∉ σ.map (·.1) := fun hm => by obtain ⟨p, hp, e⟩ := List.mem_map.mp hm; exact (S.own p hp).2.2 _ (e ▸ hH)
  have W := Walks.list (prog := prog) (w := w) (A := A) hh s.heap.objs.size a hne vs.toArray
  rw [List.size_toArray] at W
  refine forLoop_St W ?_ J (S.kp (Kp.push s _)) ⟨⟨_, Heap.get?_push_size _ rfl, rfl, rfl⟩, hl.push _⟩ ?_ ?_ h0 hc.1 hc.2 (fun E' i m' σ' s' v' Hb hi hJ hP hb S₂ => turn E' i m' σ' s' v' Hb hi (by simpa using hP) hJ hb S₂) done (fun _ _ h => h)
  · intro i h hTi b hb
    rcases List.mem_cons.mp hb with rfl | hb
    · obtain ⟨⟨o, ho, _⟩, _⟩ := hTi; exact ⟨o, ho⟩
    · rcases List.mem_cons.mp hb with rfl | hb
      · obtain ⟨_, o, ho, _⟩ := hTi; exact ⟨o, ho⟩
      · cases hb
  · intro b hb; rcases List.mem_cons.mp hb with rfl | hb
    · exact ⟨nn.1, nn.2.1⟩
    · rcases List.mem_cons.mp hb with rfl | hb
      · exact ⟨haL, haσ⟩
      · cases hb
  · intro b hb; rcases List.mem_cons.mp hb with rfl | hb
    · exact nn.2.2
    · cases hb

/-- a, b = e -/
def UnpK (prog : Program) (w : World) (A : Around) (x1 x2 : Str) (rest : List Stmt) (env : Env) (Q : Flow → Shared → Prop) (E : Value → Shared → Prop) (s₀ : Shared) (H : Addr → Obj → Prop) (L : Addr) (v : Value) (s₁ : Shared) : Prop :=
  ∃ T v1 v2 m σ, v = .ref T ∧ A.handled = none ∧ IsTup s₁.heap T #[v1, v2] ∧ St true s₀ H L m σ s₁ ∧ ∀ s₂, St true s₀ H L (upd (upd m x1 v1) x2 v2) σ s₂ → wpAny (model prog w) A (execs rest env) Q E s₂
theorem UnpK.mk {x1 x2 : Str} {rest : List Stmt} {Q : Flow → Shared → Prop} {T : Addr} {v1 v2 : Value} (S : St true s₀ H L m σ s) (hh : A.handled = none) (hT : (T, tup [v1, v2]) ∈ σ)
    (h : ∀ s₂, St true s₀ H L (upd (upd m x1 v1) x2 v2) σ s₂ → wpAny (model prog w) A (execs rest env) Q E s₂) : UnpK prog w A x1 x2 rest env Q E s₀ H L (.ref T) s :=
  ⟨T, v1, v2, m, σ, rfl, hh, ⟨_, S.get hT, rfl, 0, rfl⟩, S, h⟩
theorem x_unpack2 {x1 x2 : Str} {p1 p2 tp pos : Pos} {kk : Nat} {e : Expr} {rest : List Stmt} {Q : Flow → Shared → Prop} (_S : St true s₀ H L m σ s)
    (h : wpAny (model prog w) A (eval e env) (fun v s₁ => UnpK prog w A x1 x2 rest env Q E s₀ H L v s₁) E s)
    (hc : (env.scope.kind == .function && env.scope.names.lookup x1 == some .local && env.scope.names.lookup x2 == some .local) = true)
    (hL : env.locals = L := by with_unfolding_all rfl) (hs : swapsWithSole [.Tuple [.Name x1 p1, .Name x2 p2] kk tp] e pos.line env = pure false := by with_unfolding_all rfl)
    (hw : swappedStores [.Tuple [.Name x1 p1, .Name x2 p2] kk tp] e env = pure none := by with_unfolding_all rfl) :
    wpAny (model prog w) A (execs (.Assign [.Tuple [.Name x1 p1, .Name x2 p2] kk tp] e pos :: rest) env) Q E s := by
  subst hL
  simp only [Bool.and_eq_true, beq_iff_eq] at hc
  refine x_cons (Assign_Tuple (wpAny_mono h (fun v s₁ h₁ => ?_) fun _ _ x => x) hs hw)
  obtain ⟨T, v1, v2, m, σ, rfl, hh, hT, S, hq⟩ := h₁
  refine assign_Tuple_tuple hh hT rfl rfl fun h' he => ?_
  have kp : Kp s₁ { s₁ with heap := h' } := ⟨⟨rfl, rfl, rfl⟩, fun b o e => he b o (Nat.ne_of_lt (Heap.lt_size e)) e⟩
  have S1 := S.kp kp
  have hp : (env.scope.kind == .class || (env.scope.kind == .module && env.locals != env.globals)) = false := by rw [hc.1.1]; rfl
  show wpAny _ _ (assignInOrder [assign (.Name x1 p1) env, assign (.Name x2 p2) env] [v1, v2]) _ _ _
  refine assignInOrder_cons (PyProof.Rows.assign_Name (wpAny_storeName_local hc.1.2 S1.ns (fun h1 hn1 hs1 => ?_) hp))
  have S2 := S1.set (tk := s₁.toks + 1) hn1 hs1
  refine assignInOrder_cons (PyProof.Rows.assign_Name (wpAny_storeName_local hc.2 S2.ns (fun h2 hn2 hs2 => ?_) hp))
  exact assignInOrder_nil (hq _ (S2.set (tk := s₁.toks + 1 + 1) hn2 hs2))
end
end Mine
end
section
open PySem PyProof.Rows
set_option Elab.async false
namespace Mine
theorem Kp.toKeeps {s s' : Shared} (k : Kp s s') : Keeps s s' := ⟨_, _, k.same.eq, k.keep⟩
/-- the code of a one-letter text -/
def codeOf : Value → Nat
  | .str x _ => x.cps.toList.headD 0
  | _ => 0
theorem codes_eq {x : Str} {vs : List Value} (hl : vs.length = x.cps.size) (hP : ∀ j v, vs[j]? = some v → SignAt x j v) : vs.map codeOf = x.cps.toList := by
  apply List.ext_getElem?
  intro j
  rw [List.getElem?_map]
  cases hj : vs[j]? with
  | none =>
    have : vs.length ≤ j := by simpa using hj
    rw [hl] at this
    exact (List.getElem?_eq_none (by simpa using this)).symm
  | some v =>
    obtain ⟨c, u, hc, rfl⟩ := hP j v hj
    simp [codeOf, hc]
theorem filter_len {x : Str} {vs : List Value} (p : Nat → Bool) (hl : vs.length = x.cps.size) (hP : ∀ j v, vs[j]? = some v → SignAt x j v) : (vs.filter fun v => p (codeOf v)).length = (x.cps.toList.filter p).length := by
  rw [← codes_eq hl hP, List.filter_map, List.length_map]
  rfl

section
variable {k : Bool} {prog : Program} {w : World} {A : Around} {E : Value → Shared → Prop} {s₀ s : Shared} {H : Addr → Obj → Prop} {L : Addr} {m : Str → Option Value} {σ : List (Addr × Obj)} {env : Env}
  {KK : Addr → Obj → Prop} {mg mb : Str → Option Value} {q : Str} {sc : Scope} {f : Addr} {cd : Value} {Q : Value → Shared → Prop}
theorem startR {s : Shared} {C : Addr} {m : Str → Option Value} (h : s.heap.Ns C m) : St false s (fun b o => s.heap.get? b = some o) C m [] s :=
  ⟨Same.refl s, h, fun _ _ e => e, (fun e => nomatch e), (fun p hp => (List.not_mem_nil hp).elim), List.nodup_nil⟩

/-- [elt for v in text if test]: how many there are -/
theorem e_comp_str {elt iter test : Expr} {v : Str} {pv : Pos} {scope : Scope} {pos : Pos} (p : Nat → Bool) (hclos : closureFor scope env = pure []) (hcell : ∀ y ∈ scope.names, y.2 ≠ .cell) (hkind : scope.kind = .function)
    (hnames : ∀ y ∈ scope.names, y.2 = .local → scope.names.lookup y.1 = some .local) (hx : scope.names.lookup v = some .local)
    (h : wpAny (model prog w) A (eval iter env) (fun xv s₁ => ∃ x t m σ, xv = .str x t ∧ x.length ≤ sizeLine ∧ A.handled = none ∧ St k s₀ H L m σ s₁ ∧
      (∀ E' C c u m₃ s₃, (∀ b o, H b o → s₃.heap.get? b = some o) → c ∈ x.cps.toList → St false s₃ (fun b o => s₃.heap.get? b = some o) C m₃ [] s₃ → m₃ v = some (.str ⟨#[c]⟩ u) →
        wpAny (model prog w) A (isTrue test (compEnvC scope [] C env) (eval test (compEnvC scope [] C env))) (fun ok s₄ => ok = p c ∧ Kp s₃ s₄) E' s₃) ∧
      (∀ E' C c u m₃ s₃, (∀ b o, H b o → s₃.heap.get? b = some o) → c ∈ x.cps.toList → St false s₃ (fun b o => s₃.heap.get? b = some o) C m₃ [] s₃ → m₃ v = some (.str ⟨#[c]⟩ u) →
        wpAny (model prog w) A (eval elt (compEnvC scope [] C env)) (fun _ s₄ => Kp s₃ s₄) E' s₃) ∧
      (∀ D ys n s', s₁.heap.get? D = none → ys.length = (x.cps.toList.filter p).length → St k s₀ H L m ((D, lst ys n) :: σ) s' → Q (.ref D) s')) E s)
    (hs : ∀ x, foldedSetIterable iter env x = pure x := by intro _; rfl) :
    wpAny (model prog w) A (eval (.ListComp elt [⟨.Name v pv, iter, [test], 0⟩] scope pos) env) Q E s := by
  refine wpAny_ListComp_free (fun v => p (codeOf v)) (fun _ _ => True) hclos hcell hkind hnames hx (wpAny_mono h (fun xv s₁ h₁ => ?_) fun _ _ e => e) hs
  obtain ⟨x, t, m, σ, rfl, hz, hh, S, htest, helt, hQ⟩ := h₁
  have nn := S.notNew (get_size_none s₁.heap)
  refine wpAny_pyIter_str fun o Ti W hT => ?_
  have keepH : ∀ s₃ : Shared, (∀ b o', b ∉ [s₁.heap.objs.size] → (s₁.heap.push o).get? b = some o' → s₃.heap.get? b = some o') → ∀ b o', H b o' → s₃.heap.get? b = some o' := fun s₃ hk b o' e =>
    hk b o' (fun hm => by rcases List.mem_cons.mp hm with rfl | hm; exact nn.2.2 _ e; cases hm) (Heap.get?_push_of_some _ (S.keep _ _ e))
  refine ⟨_, _, _, _, _, Ti, rfl, W A hh, by simpa [Str.length] using hz, hT, ?_, ⟨?_, ?_⟩, ?_⟩
  · intro b hb
    rcases List.mem_cons.mp hb with rfl | hb
    · show _ < (s₁.heap.push o).objs.size; rw [Heap.size_push]; exact Nat.lt_succ_self _
    · cases hb
  · intro C i v' s₃ m₃ E' _ hP hn hm hk _
    obtain ⟨c, u, hc, rfl⟩ := hP
    refine wpAny_tests_one (wpAny_mono (htest E' C c u m₃ s₃ (keepH s₃ hk) (Array.mem_toList_iff.mpr (Array.mem_of_getElem? hc)) (startR hn) hm) (fun ok s₄ h₄ => ⟨?_, h₄.2.toKeeps⟩) fun _ _ e => e)
    simpa [codeOf] using h₄.1
  · intro C i v' s₃ m₃ E' _ hP _ hn hm hk _
    obtain ⟨c, u, hc, rfl⟩ := hP
    exact wpAny_mono (helt E' C c u m₃ s₃ (keepH s₃ hk) (Array.mem_toList_iff.mpr (Array.mem_of_getElem? hc)) (startR hn) hm) (fun _ s₄ h₄ => ⟨trivial, h₄.toKeeps⟩) fun _ _ e => e
  · intro D h' tk ys vs hD _ hpl hlen hP hF hk
    obtain ⟨n, hpl⟩ := hpl
    have kp : Kp s₁ { s₁ with heap := h', toks := tk } := Kp.mk' fun b o' e => hk b o' (fun hm => by
      rcases List.mem_cons.mp hm with rfl | hm
      · rw [get_size_none] at e; cases e
      · cases hm) (Heap.get?_push_of_some _ e)
    have hD' : s₁.heap.get? D = none := by
      cases e : s₁.heap.get? D with
      | none => rfl
      | some o' => rw [show (s₁.heap.push o).get? D = some o' from Heap.get?_push_of_some _ e] at hD; cases hD
    refine hQ D ys.toList n _ hD' ?_ (S.add kp hD' (by simpa using hpl))
    rw [← hF.length, filter_len p hlen hP]

/-- a list compared with an empty one -/
theorem r_eq_nil {a b : Addr} {vs ws : List Value} (hl : s.heap.IsList a vs.toArray) (hb : s.heap.IsList b ws.toArray) (hw : ws = []) (hu : A.units < cLine) (h : Q (.bool (vs.length == 0)) s) : wpAny (model prog w) A (compareOp .Eq (.ref a) (.ref b)) Q E s := by
  subst hw
  by_cases hz : vs.length = 0
  · refine SeqAt.eq_listAt (e := fun _ => true) hl hb (by simp [hz]) hu (fun j h1 _ => ?_) ?_
    · simp [hz] at h1
    · have : vs = [] := List.length_eq_zero_iff.mp hz
      subst this; simpa using h
  · refine SeqAt.eq_list_lengthsAt hl hb (by simpa using hz) hu ?_
    rw [show (vs.length == 0) = false by simpa using hz] at h; exact h
theorem Rm.line {A : Around} {n : Nat} (r : Rm A n) : A.units < cLine := by have := r.un; show A.units < 9900; omega
end
end Mine
end
section
open PySem PyProof.Rows PySem.Builtin PySem.Builtin.Str
set_option Elab.async false
namespace Mine
/-- the letters' numbers of a text -/
abbrev cl (x : Str) : List Nat := x.cps.toList
theorem cl_length (x : Str) : (cl x).length = x.length := by simp [cl, Str.length]
theorem ext_cl {x y : Str} (h : cl x = cl y) : x = y := by
  obtain ⟨⟨a⟩⟩ := x; obtain ⟨⟨b⟩⟩ := y
  simp only [cl] at h; subst h; rfl
theorem cl_append (x y : Str) : cl (x ++ y) = cl x ++ cl y := by
  obtain ⟨a⟩ := x; obtain ⟨b⟩ := y
  show (a ++ b).toList = _
  simp [cl]
theorem cl_one (c : Nat) : cl ⟨#[c]⟩ = [c] := rfl

theorem clip_none (n : Nat) : strSliceIndices none none 1 n = (List.range n).map (0 + ·) := by
  show sliceRange (((0 : Nat) : Int)) ((n : Nat) : Int) 1 = _
  rw [sliceRange_one]; simp
theorem idx_take (j : Int) (n : Nat) (h0 : 0 ≤ j) : strSliceIndices none (some j) 1 n = (List.range (min j.toNat n)).map (0 + ·) := by
  have e : strSliceIndices none (some j) 1 n = sliceRange ((0 : Nat) : Int) ((min j.toNat n : Nat) : Int) 1 := by
    unfold strSliceIndices
    have h1 : ¬ j < 0 := by omega
    simp only [show ((1 : Int) > 0) = True from by simp, if_true, h1, if_false]
    congr 1
    omega
  rw [e, sliceRange_one]; simp
theorem idx_drop (j : Int) (n : Nat) (h0 : 0 ≤ j) : strSliceIndices (some j) none 1 n = (List.range (n - min j.toNat n)).map ((min j.toNat n) + ·) := by
  have e : strSliceIndices (some j) none 1 n = sliceRange ((min j.toNat n : Nat) : Int) ((n : Nat) : Int) 1 := by
    unfold strSliceIndices
    have h1 : ¬ j < 0 := by omega
    simp only [show ((1 : Int) > 0) = True from by simp, if_true, h1, if_false]
    congr 1
    omega
  rw [e, sliceRange_one]
theorem sl_take (x : Str) (j : Int) (h0 : 0 ≤ j) : cl (sl x none (some j)) = (cl x).take j.toNat := by
  unfold sl Txt.slice
  rw [idx_take j _ h0]
  split
  · rename_i h
    simp only [Bool.and_eq_true, beq_iff_eq, List.length_map, List.length_range, true_and] at h
    rw [List.take_of_length_le (by rw [cl_length]; omega)]
  · show (List.filterMap _ _).toArray.toList = _
    rw [pick_run]
    show (List.drop 0 (cl x)).take _ = _
    rw [List.drop_zero]
    apply List.ext_getElem?
    intro i
    rw [List.getElem?_take, List.getElem?_take]
    by_cases h1 : i < j.toNat
    · by_cases h2 : i < x.length
      · rw [if_pos (by omega), if_pos h1]
      · rw [if_neg (by omega), if_pos h1]
        exact (List.getElem?_eq_none (by rw [cl_length]; omega)).symm
    · rw [if_neg (by omega), if_neg h1]
theorem sl_drop (x : Str) (j : Int) (h0 : 0 ≤ j) : cl (sl x (some j) none) = (cl x).drop j.toNat := by
  unfold sl Txt.slice
  rw [idx_drop j _ h0]
  split
  · rename_i h
    simp only [Bool.and_eq_true, beq_iff_eq, List.length_map, List.length_range, true_and] at h
    by_cases hz : j.toNat = 0
    · rw [hz, List.drop_zero]
    · have : x.length = 0 := by omega
      have : cl x = [] := List.length_eq_zero_iff.mp (by rw [cl_length]; exact this)
      rw [this]; simp
  · show (List.filterMap _ _).toArray.toList = _
    rw [pick_run]
    show (List.drop _ (cl x)).take _ = _
    by_cases h1 : j.toNat ≤ x.length
    · rw [Nat.min_eq_left h1, List.take_of_length_le (by rw [List.length_drop, cl_length]; omega)]
    · rw [Nat.min_eq_right (by omega), Nat.sub_self, List.take_zero, List.drop_of_length_le (by rw [cl_length]; omega)]

theorem idx_rev (n : Nat) : strSliceIndices none none (-1) n = (List.range n).reverse := by
  show sliceRange ((n : Int) - 1) (-1) (-1) = _
  rw [PySem.W.krv_sliceRange, PySem.W.krv_range]
section
variable {k : Bool} {prog : Program} {w : World} {A : Around} {E : Value → Shared → Prop} {s₀ s : Shared} {H : Addr → Obj → Prop} {L : Addr} {m : Str → Option Value} {σ : List (Addr × Obj)} {env : Env}
  {Q : Value → Shared → Prop}
def SlRev (k : Bool) (s₀ : Shared) (H : Addr → Obj → Prop) (L : Addr) (Q : Value → Shared → Prop) (o u : Value) (s₂ : Shared) : Prop :=
  ∃ x t tj m σ, o = .str x t ∧ u = .int (-1) tj ∧ x.length ≤ sizeLine ∧ St k s₀ H L m σ s₂ ∧ ∀ t' y s', cl y = (cl x).reverse → St k s₀ H L m σ s' → Q (.str y t') s'
theorem SlRev.mk {x : Str} {t tj : Tok} (S : St k s₀ H L m σ s) (hz : x.length ≤ sizeLine) (h : ∀ t' y s', cl y = (cl x).reverse → St k s₀ H L m σ s' → Q (.str y t') s') : SlRev k s₀ H L Q (.str x t) (.int (-1) tj) s := ⟨x, t, tj, m, σ, rfl, rfl, hz, S, h⟩
theorem e_slice_rev {value st : Expr} {p pos : Pos} (_S : St k s₀ H L m σ s)
    (h : wpAny (model prog w) A (eval value env) (fun o s₁ => wpAny (model prog w) A (eval st env) (fun u s₂ => SlRev k s₀ H L Q o u s₂) E s₁) E s)
    (ht : ∀ o r, letTemporaryGo value o r = pure () := by intro _ _; with_unfolding_all rfl) : wpAny (model prog w) A (eval (.Subscript value (.Slice none none (some st) p) pos) env) Q E s := by
  refine wpAny_Subscript_Slice_step (T := "str") F.slot_str_getitem.lookup (wpAny_mono h (fun o s₁ h₁ => wpAny_Slice (evalPart_none_step (evalPart_none_step (evalPart_some_step (wpAny_mono h₁ (fun u s₂ h₂ => ?_) fun _ _ x => x))))) fun _ _ x => x) ht
  obtain ⟨x, t, tj, m, σ, rfl, rfl, hz, S, hq⟩ := h₂
  refine ⟨typeIs_str _ x t, wpAny_getItem_str_slice (l := none) (u := none) (st := some (-1, tj)) ⟨_, Heap.get?_push_size _ rfl, rfl, rfl⟩ rfl ?_⟩
  unfold sliceMade
  have hne : ¬ ((((some ((-1 : Int), tj)).map (·.1)).getD 1 == 1 && (slicePicked x none none (some (-1, tj))).length == x.length) = true) := by simp
  rw [if_neg hne]
  have hpick : (slicePicked x none none (some (-1, tj))).filterMap (x.cps[·]?) = (cl x).reverse := by
    show (strSliceIndices none none (-1) x.length).filterMap (x.cps[·]?) = _
    rw [idx_rev, List.filterMap_reverse]
    congr 1
    have := pick_run x.cps 0 x.length
    simp only [Nat.zero_add, List.map_id', List.drop_zero] at this
    rw [this, List.take_of_length_le (by simp [Str.length])]
  refine ⟨?_, hq _ _ _ ?_ ((S.kp (Kp.push s₂ _)).kp (Kp.tok _ _))⟩
  · show (List.filterMap _ _).toArray.size ≤ sizeLine
    rw [hpick]; simp [cl]; simpa [Str.length] using hz
  · show (List.filterMap _ _).toArray.toList = _
    rw [hpick]
end
def Lets (x : Str) : Prop := ∀ c ∈ cl x, 97 ≤ c ∧ c ≤ 122
theorem Lets.append {x y : Str} (hx : Lets x) (hy : Lets y) : Lets (x ++ y) := fun c hc => by
  rw [cl_append] at hc
  exact (List.mem_append.mp hc).elim (hx c) (hy c)
theorem Lets.up {x : Str} (hx : Lets x) (j : Int) (h0 : 0 ≤ j) : Lets (sl x none (some j)) := fun c hc => by
  rw [sl_take x j h0] at hc; exact hx c (List.mem_of_mem_take hc)
theorem Lets.lo {x : Str} (hx : Lets x) (j : Int) (h0 : 0 ≤ j) : Lets (sl x (some j) none) := fun c hc => by
  rw [sl_drop x j h0] at hc; exact hx c (List.mem_of_mem_drop hc)
theorem Lets.one {c : Nat} (h : 97 ≤ c ∧ c ≤ 122) : Lets ⟨#[c]⟩ := fun d hd => by
  rw [cl_one] at hd; obtain rfl : d = c := by simpa using hd
  exact h
theorem len_up (x : Str) (j : Int) (h0 : 0 ≤ j) : (sl x none (some j)).length = min j.toNat x.length := by rw [← cl_length, sl_take x j h0, List.length_take, cl_length]
theorem len_lo (x : Str) (j : Int) (h0 : 0 ≤ j) : (sl x (some j) none).length = x.length - j.toNat := by rw [← cl_length, sl_drop x j h0, List.length_drop, cl_length]
theorem len_app (x y : Str) : (x ++ y).length = x.length + y.length := by rw [← cl_length, cl_append, List.length_append, cl_length, cl_length]
theorem len_one (c : Nat) : (⟨#[c]⟩ : Str).length = 1 := rfl
end Mine
end
section
open PySem PyProof.Rows
set_option Elab.async false
namespace Mine
section
variable {k : Bool} {prog : Program} {w : World} {A : Around} {E : Value → Shared → Prop} {s₀ s : Shared} {H : Addr → Obj → Prop} {L : Addr} {m : Str → Option Value} {σ : List (Addr × Obj)} {env : Env}
  {Q : Value → Shared → Prop}
theorem isT {h : Heap} {a : Addr} {vs : List Value} (e : h.get? a = some (tup vs)) : IsTup h a vs.toArray := ⟨_, e, rfl, 0, rfl⟩
theorem r_item_tup {value slice : Expr} {a : Addr} {vs : List Value} {i : Int} {u : Tok} {v : Value} (e : s.heap.get? a = some (tup vs)) (h0 : 0 ≤ i) (hi : i < 1000000) (hv : vs[i.toNat]? = some v) (h : Q v s)
    (hs : subscripted slice false (.ref a) (.int i u) = operate [.ref a, .int i u] (getItem (.ref a) (.int i u)) := by with_unfolding_all rfl) (hg : ∀ r, letTemporaryGo value (.ref a) r = pure () := by intro _; with_unfolding_all rfl) :
    wpAny (model prog w) A (subscriptTail value slice (.ref a) (.int i u)) Q E s := by
  have hlt := (List.getElem?_eq_some_iff.mp hv).1
  refine item_tupleL (j := i.toNat) (isT e) (by omega) (by omega) ?_ hv h hs hg
  unfold seqIndex?
  have h1 : ¬ i < 0 := by omega
  have h2 : i < (vs.length : Int) := by omega
  simp [h1, h0, h2]
theorem r_len_tup {a : Addr} {vs : List Value} (S : St k s₀ H L m σ s) (e : s.heap.get? a = some (tup vs)) (hz : vs.length ≤ 1000) (h : ∀ t s', St k s₀ H L m σ s' → Q (.int vs.length t) s') : wpAny (model prog w) A (call (.builtin "len") [.ref a]) Q E s := by
  have := P.len_tuple (prog := prog) (w := w) (A := A) (E := E) (Q := Q) (t := a) (items := vs.toArray) (n := 0) e (by simp; omega)
  simp only [List.size_toArray] at this
  exact this (h _ _ (S.kp (Kp.tok s _)))
theorem mapSeq_clear (vs : List Value) (n : Nat) : ∃ n', (Obj.mapSeq (fun _ => #[]) (lst vs n)) = lst [] n' := ⟨_, rfl⟩
/-- a call of a list's method clear -/
theorem e_clear {x : Str} {p apos pos : Pos} {l : Addr} {vs : List Value} {n : Nat} {σ₁ σ₂ : List (Addr × Obj)} (S : St k s₀ H L m (σ₁ ++ (l, lst vs n) :: σ₂) s) (hv : m x = some (.ref l)) (hz : vs.length ≤ sizeLine)
    (hc : (env.scope.kind == .function && env.scope.names.lookup x == some .local && !(x == ("__debug__" : Str))) = true) (hline : (apos.endLine == pos.line) = true)
    (h : ∀ n' s', St k s₀ H L m (σ₁ ++ (l, lst [] n') :: σ₂) s' → Q .none s') (hL : env.locals = L := by with_unfolding_all rfl)
    (hbase : attributeBase (.Name x p) (Str.ofString "clear") env (eval (.Name x p) env) = eval (.Name x p) env := by with_unfolding_all rfl) :
    wpAny (model prog w) A (eval (.Call (.Attribute (.Name x p) (Str.ofString "clear") apos) [] [] pos) env) Q E s := by
  refine Call_method0 hbase hline (r_loc S hv ?_ hc hL)
  have ho := S.get (a := l) (o := lst vs n) (by simp)
  refine ⟨"list", "list.clear", F.plainAttrs_list, F.slot_list_clear, F.type_list_clear, ⟨_, ho, rfl⟩, fun a e => ?_, ?_⟩
  · cases e; exact ⟨_, ho, rfl⟩
  · obtain ⟨n', hn'⟩ := mapSeq_clear vs n
    refine P.clear_list (items := vs.toArray) (n := n) ho (h n' _ (S.turn (tk := s.toks) (fun b x hb e => ?_) ?_)) (by simpa using hz)
    · rw [Heap.get?_update_other _ _ (Ne.symm hb)]; exact e
    · rw [← hn']; exact Heap.get?_update_self _ ho rfl
theorem x_while (J : Nat → (Str → Option Value) → List (Addr × Obj) → Prop) {test : Expr} {body rest : List Stmt} {pos : Pos} (k : Nat) {Q : Flow → Shared → Prop}
    (S : St true s₀ H L m σ s) (h0 : J k m σ)
    (turn : ∀ (E' : Value → Shared → Prop) k m' σ' s', J k m' σ' → St true s₀ H L m' σ' s' →
      wpAny (model prog w) A (isTrue test env (eval test env)) (fun b s₂ => if b = true then wpAny (model prog w) A (execs body env) (turnW J k s₀ H L (thenK prog w A rest env Q E)) E' s₂ else thenK prog w A rest env Q E .next s₂) E' s') :
    wpAny (model prog w) A (execs (.While test body [] pos :: rest) env) Q E s := x_cons (while_St J S h0 turn)
end
theorem ndec {p : Prop} [Decidable p] (h : p) : (!decide p) = false := by rw [decide_eq_true h]; rfl
theorem ndecT {p : Prop} [Decidable p] (h : ¬ p) : (!decide p) = true := by rw [decide_eq_false h]; rfl
theorem one_eq (c d : Nat) : ((⟨#[c]⟩ : Str).cps.toList == (⟨#[d]⟩ : Str).cps.toList) = decide (c = d) := by
  show ([c] == [d]) = _
  by_cases h : c = d
  · subst h; simp
  · simp [h]
theorem one_ne (c d : Nat) : ((⟨#[c]⟩ : Str).cps.toList != (⟨#[d]⟩ : Str).cps.toList) = !decide (c = d) := by
  rw [bne, one_eq]
theorem getD_of {l : List Nat} {i : Nat} (h : i < l.length) : l[i]? = some (l.getD i 0) := by simp [List.getD, List.getElem?_eq_getElem h]
end Mine
end
section
open PySem PyProof.Rows
set_option Elab.async false
set_option maxRecDepth 100000
namespace Mine
section
variable {prog : Program} {w : World} {A : Around} {E : Value → Shared → Prop} {Q : Value → Shared → Prop} {R : Result → Shared → Prop}
theorem min_args_default (a d : Value) : argsOk "min" ⟨[a], [(Str.ofString "default", d)]⟩ := by unfold argsOk; kernel_rfl
/-- the turns of min over a list of ints, whatever the keywords -/
theorem min_turns {K : List (Str × Value)} {vs : List Value} (num : Nat → Int) (hnum : ∀ (i : Nat) (v : Value), vs[i]? = some v → ∃ t, v = .int (num i) t) (hh : A.handled = none) {a I S : Addr} (haI : a ≠ I) (haS : a ≠ S) (hIS : I ≠ S) :
    ∀ (r j i : Nat) (vb : Value) (c : Nat) (s : Shared), vs.length - (j + 1) = r → j + 1 ≤ vs.length → s.heap.IsListIter I a (j + 1) → s.heap.IsList a vs.toArray → vs[i]? = some vb → (∀ j', j' ≤ j → num i ≤ num j') →
      s.heap.get? S = some (lst [vb, vb] c) →
      (∀ i v h' tk, vs[i]? = some v → (∀ j', j' < vs.length → num i ≤ num j') → (∀ b o, b ≠ I → b ≠ S → s.heap.get? b = some o → h'.get? b = some o) → R (.ok (.ret v)) { s with heap := h', toks := tk }) →
      codeAny (model prog w) A (.builtin "min.loop" ⟨[.ref I, .none, .ref S], K⟩) R s := by
  have hname : (toString "min" ++ toString ".loop" : String) = "min.loop" := by decide
  have W := Walks.list (prog := prog) (w := w) (A := A.in1) hh I a haI vs.toArray
  have hsz : vs.toArray.size = vs.length := List.size_toArray ..
  intro r
  induction r with
  | zero =>
    intro j i vb c s hr hj hit hl hvb hbest hS hR
    have hin : j + 1 = vs.toArray.size := by omega
    refine codeAny_builtin PySem.F.entry_min_loop ?_
    rw [Around.under_plainId PySem.F.plain_min_loop _]
    show wpAny _ A.in1 (seqItems? (.ref S) >>= _) _ _ s
    refine wpAny_bind (wpAny_seqItems hS rfl ?_)
    show wpAny _ A.in1 (tryCatch (pyNext (.ref I)) _ >>= _) _ _ s
    refine wpAny_bind (wpAny_tryCatch (W.done s _ _ ⟨hin ▸ hit, hl⟩ fun h' tk hk' => ?_))
    have hS' := hk' S _ (by simpa using hIS.symm) hS
    show wpAny _ A.in1 (updateSeq S (fun _ => #[]) >>= _) _ _ _
    refine wpAny_bind ?_
    refine wpAny_updateSeq hS' rfl (wpAny_bind (wpAny_letGo (wpAny_pure ?_)))
    exact hR i vb _ tk hvb (fun j' hj' => hbest j' (by omega)) fun b o hbI hbS e => (Heap.get?_update_other _ _ (Ne.symm hbS)).trans (hk' b o (by simpa using hbI) e)
  | succ r ih =>
    intro j i vb c s hr hj hit hl hvb hbest hS hR
    have hlt : j + 1 < vs.toArray.size := by omega
    refine codeAny_builtin PySem.F.entry_min_loop ?_
    rw [Around.under_plainId PySem.F.plain_min_loop _]
    show wpAny _ A.in1 (seqItems? (.ref S) >>= _) _ _ s
    refine wpAny_bind (wpAny_seqItems hS rfl ?_)
    show wpAny _ A.in1 (tryCatch (pyNext (.ref I)) _ >>= _) _ _ s
    refine wpAny_bind (wpAny_tryCatch (W.item (j + 1) s _ _ hlt ⟨hit, hl⟩ fun v h' tk hP hst' hk' => ?_))
    have hv : vs[j + 1]? = some v := by simpa using hP
    have hS' := hk' S _ (by simpa using hIS.symm) hS
    show wpAny _ A.in1 (tryCatch (holding [v, v] (richCompare .Lt v vb >>= _)) _ >>= _) _ _ _
    refine wpAny_bind (wpAny_tryCatch (wpAny_holding (wpAny_bind (CmpOf.ints_lt (prog := prog) (w := w) (A := A.in1) (P := fun i v => vs[i]? = some v) num (fun i v h => hnum i v h) (j + 1) i _ _ _ _ _ hv hvb ?_))))
    refine wpAny_bind (wpAny_holding (wpAny_truthy_bool ?_))
    refine wpAny_bind (wpAny_letGo (wpAny_pure ?_))
    by_cases hb : num (j + 1) < num i
    · simp only [hb, decide_true, if_true]
      refine wpAny_bind ?_
      refine wpAny_updateSeq hS' rfl (wpAny_bind (wpAny_letGo ?_))
      rw [hname]
      refine wpAny_pure ⟨plainId_quiet PySem.F.plain_min_loop _, ih (j + 1) (j + 1) v _ _ (by omega) (by omega) (hst'.1.at fun o e => (Heap.get?_update_other _ _ (Ne.symm hIS)).trans e) (hst'.2.at fun o e => (Heap.get?_update_other _ _ (Ne.symm haS)).trans e) hv (fun j' hj' => ?_) (Heap.get?_update_self _ hS' rfl) fun i' v' h'' tk'' hv' hb' hk'' => ?_⟩
      · by_cases e : j' = j + 1
        · rw [e]; omega
        · have := hbest j' (by omega); omega
      · exact hR i' v' h'' tk'' hv' hb' fun b o hbI hbS e => hk'' b o hbI hbS ((Heap.get?_update_other _ _ (Ne.symm hbS)).trans (hk' b o (by simpa using hbI) e))
    · simp only [hb, decide_false, Bool.false_eq_true, if_false]
      refine wpAny_bind (wpAny_letGo ?_)
      rw [hname]
      refine wpAny_pure ⟨plainId_quiet PySem.F.plain_min_loop _, ih (j + 1) i vb c _ (by omega) (by omega) hst'.1 hst'.2 hvb (fun j' hj' => ?_) hS' fun i' v' h'' tk'' hv' hb' hk'' => ?_⟩
      · by_cases e : j' = j + 1
        · rw [e]; omega
        · exact hbest j' (by omega)
      · exact hR i' v' h'' tk'' hv' hb' fun b o hbI hbS e => hk'' b o hbI hbS (hk' b o (by simpa using hbI) e)

theorem min_dflt {s : Shared} {a : Addr} {vs : List Value} {d : Value} (num : Nat → Int) (hnum : ∀ (i : Nat) (v : Value), vs[i]? = some v → ∃ t, v = .int (num i) t) (hh : A.handled = none) (hl : s.heap.IsList a vs.toArray)
    (h0 : vs = [] → ∀ s', Kp s s' → Q d s') (h1 : ∀ i v s', vs[i]? = some v → (∀ j, j < vs.length → num i ≤ num j) → Kp s s' → Q v s') :
    wpAny (model prog w) A (call (.builtin "min") [.ref a] [(Str.ofString "default", d)]) Q E s := by
  have hname : (toString "min" ++ toString ".loop" : String) = "min.loop" := by decide
  obtain ⟨ol, hol, _⟩ := id hl
  have ha : a < s.heap.objs.size := Heap.lt_size hol
  refine kmk_tree PySem.F.kind_min PySem.F.plain_min PySem.F.entry_min (min_args_default _ _) ?_
  show wpAny _ A.in1 (Builtin.Builtins.bindParams "min" ["key", "default"] 0 ⟨[], [(Str.ofString "default", d)]⟩ >>= _) _ _ s
  refine wpAny_bind (wpAny_of_eq (show Builtin.Builtins.bindParams "min" ["key", "default"] 0 ⟨[], [(Str.ofString "default", d)]⟩ = pure [none, some d] from rfl) ?_)
  refine wpAny_bind (wpAny_pure ?_)
  refine wpAny_bind (wpAny_pyIter_list hl ?_)
  refine wpAny_bind (wpAny_newList ?_ (Nat.zero_le _))
  rw [hname]
  have hS : (s.heap.push { cls := .type "list_iterator", data := .fields #[.ref a, .int 0 0] }).objs.size = s.heap.objs.size + 1 := Heap.size_push ..
  generalize hH1 : s.heap.push { cls := .type "list_iterator", data := .fields #[.ref a, .int 0 0] } = H1 at hS ⊢
  have haI : a ≠ s.heap.objs.size := Nat.ne_of_lt ha
  have haS : a ≠ H1.objs.size := by rw [hS]; exact Nat.ne_of_lt (Nat.lt_succ_of_lt ha)
  have hIS : s.heap.objs.size ≠ H1.objs.size := by rw [hS]; omega
  have gI : H1.get? s.heap.objs.size = some { cls := .type "list_iterator", data := .fields #[.ref a, .int 0 0] } := by rw [← hH1]; exact Heap.get?_push_size _ rfl
  have old : ∀ b o, s.heap.get? b = some o → H1.get? b = some o := fun b o e => by rw [← hH1]; exact Heap.get?_push_of_some _ e
  refine wpAny_pure ⟨plainId_quiet PySem.F.plain_min_loop _, ?_⟩
  have W := Walks.list (prog := prog) (w := w) (A := A.in1) hh s.heap.objs.size a haI vs.toArray
  have ne : ∀ b o, s.heap.get? b = some o → b ≠ s.heap.objs.size ∧ b ≠ H1.objs.size := fun b o e => by
    have := Heap.lt_size e; rw [hS]; exact ⟨Nat.ne_of_lt this, Nat.ne_of_lt (Nat.lt_succ_of_lt this)⟩
  refine codeAny_builtin PySem.F.entry_min_loop ?_
  rw [Around.under_plainId PySem.F.plain_min_loop _]
  show wpAny _ A.in1 (seqItems? (.ref H1.objs.size) >>= _) _ _ _
  refine wpAny_bind (wpAny_seqItems (Heap.get?_push_size _ rfl) rfl ?_)
  show wpAny _ A.in1 (tryCatch (pyNext (.ref s.heap.objs.size)) _ >>= _) _ _ _
  have hit : (H1.push { cls := .type "list", data := .seq ([] : List Value).toArray }).IsListIter s.heap.objs.size a 0 := ⟨_, Heap.get?_push_of_some _ gI, rfl, rfl⟩
  have hl' : (H1.push { cls := .type "list", data := .seq ([] : List Value).toArray }).IsList a vs.toArray := hl.at fun o e => Heap.get?_push_of_some _ (old _ _ e)
  by_cases hne : vs = []
  · subst hne
    refine wpAny_bind (wpAny_tryCatch (W.done _ _ _ ⟨hit, hl'⟩ fun h' tk hk' => ?_))
    have hq := h0 rfl _ (Kp.mk' (s := s) (tk := tk) fun b o e => hk' b o (by simpa using (ne b o e).1) (Heap.get?_push_of_some _ (old b o e)))
    show wpAny _ A.in1 (rule _ >>= fun _ => ret d) _ _ _
    refine wpAny_bind (wpAny_rule ?_)
    refine wpAny_pure ?_
    exact hq
  · have hpos := List.length_pos_iff.mpr hne
    refine wpAny_bind (wpAny_tryCatch (W.item 0 _ _ _ (by simpa using hpos) ⟨hit, hl'⟩ fun v h' tk hP hst' hk' => ?_))
    have hv : vs[0]? = some v := by simpa using hP
    have hS' := hk' H1.objs.size _ (by simpa using hIS.symm) (Heap.get?_push_size _ rfl)
    show wpAny _ A.in1 (updateSeq H1.objs.size (fun _ => #[v, v]) >>= _) _ _ _
    refine wpAny_bind ?_
    refine wpAny_updateSeq hS' rfl ?_
    rw [hname]
    refine wpAny_pure ⟨plainId_quiet PySem.F.plain_min_loop _, ?_⟩
    refine min_turns num hnum hh haI haS hIS _ 0 0 v _ _ rfl hpos ?_ ?_ hv ?_ (Heap.get?_update_self _ hS' rfl) ?_
    · exact hst'.1.at fun o e => (Heap.get?_update_other _ _ (Ne.symm hIS)).trans e
    · exact hst'.2.at fun o e => (Heap.get?_update_other _ _ (Ne.symm haS)).trans e
    · intro j' hj'
      obtain rfl : j' = 0 := by omega
      exact Int.le_refl _
    · intro i v' h'' tk'' hv' hb' hk''
      exact h1 i v' _ hv' hb' (Kp.mk' fun b o e => hk'' b o (ne b o e).1 (ne b o e).2 ((Heap.get?_update_other _ _ (Ne.symm (ne b o e).2)).trans (hk' b o (by simpa using (ne b o e).1) (Heap.get?_push_of_some _ (old b o e)))))
end
section
variable {k : Bool} {prog : Program} {w : World} {A : Around} {E : Value → Shared → Prop} {s₀ s : Shared} {H : Addr → Obj → Prop} {L : Addr} {m : Str → Option Value} {σ : List (Addr × Obj)} {env : Env}
  {KK : Addr → Obj → Prop} {mg mb : Str → Option Value} {Q : Value → Shared → Prop}
/-- f(e, name=d), f built in -/
theorem e_b1kw {x : Str} {id : String} {p pos : Pos} {e d : Expr} {kn : Str} {kp : Pos} (S : St k s₀ H L m σ s) (G : GdH KK mg mb H) (hn : mg x = none) (hv : mb x = some (.builtin id))
    (hc : (env.scope.kind == .function && env.scope.names.lookup x == some .globalImplicit && !(x == ("__debug__" : Str))) = true)
    (h : wpAny (model prog w) A (eval e env) (fun v s₁ => wpAny (model prog w) A (eval d env) (fun dv s₂ => wpAny (model prog w) A (call (.builtin id) [v] [(kn, dv)]) Q E s₂) E s₁) E s)
    (hs : backTo pos (starEach [e] env) = [(false, eval e env)] := by with_unfolding_all rfl) (hg : env.globals = mainGlobals := by with_unfolding_all rfl) (hb : env.builtins = builtinsNs := by with_unfolding_all rfl) :
    wpAny (model prog w) A (eval (.Call (.Name x p) [e] [⟨some kn, d, kp⟩] pos) env) Q E s := by
  show wpAny (model prog w) A (do callWith pos (← eval (.Name x p) env) [] (backTo pos (starEach [e] env)) (backToKw pos (keywordEach [⟨some kn, d, kp⟩] env))) Q E s
  refine wpAny_bind (r_blt S G hn hv ?_ hc hg hb)
  refine callWith_kw ?_ (he := by rw [hs]; with_unfolding_all rfl) (hplain := by rw [hs]; rfl)
  rw [hs]
  refine Calls.spliced_cons (wpAny_mono h (fun v s₁ h₁ => Calls.spliced_nil ?_) fun _ _ e => e)
  exact kws_cons (wpAny_mono h₁ (fun dv s₂ h₂ => kws_nil h₂) fun _ _ e => e)
end
end Mine
end
section
open PySem PyProof.Rows
set_option Elab.async false
namespace Mine
section
variable {k : Bool} {prog : Program} {w : World} {A : Around} {E : Value → Shared → Prop} {s₀ s : Shared} {H : Addr → Obj → Prop} {L : Addr} {m : Str → Option Value} {σ : List (Addr × Obj)} {env : Env}
  {Q : Value → Shared → Prop}
/-- the turns of a list comprehension: the frame at C, the list at D, what is made in τ -/
theorem compLoop_St {I C D : Addr} {fp wr : List Addr} {n : Nat} {P : Nat → Value → Prop} {Ti : Nat → Heap → Prop} (W : Walks prog w A I fp wr n P Ti) (hex : ∀ i h, Ti i h → ∀ b ∈ fp, ∃ o, h.get? b = some o)
    (J : Nat → List Value → List (Addr × Obj) → Prop) {x : Str} {px : Pos} {elt iter : Expr} {ifs : List Expr} {scope : Scope} {cl : List (Str × Addr)} {pos : Pos} {R : Result → Shared → Prop} {ys : List Value} {c : Nat} {τ : List (Addr × Obj)}
    (S : St true s₀ H C m ((D, lst ys c) :: τ) s) (hT : Ti 0 s.heap) (hfp : ∀ b ∈ fp, b ≠ C ∧ b ∉ ((D, lst ys c) :: τ).map (·.1)) (hwr : ∀ b ∈ wr, ∀ o, ¬ H b o) (h0 : J 0 ys τ) (hsz : ∀ i ys τ, J i ys τ → ys.length ≤ sizeLine)
    (hk : scope.kind = .function) (hx : scope.names.lookup x = some .local)
    (turn : ∀ (E' : Value → Shared → Prop) i m' ys c τ s' v Hb, i < n → J i ys τ → P i v → (∀ b o, H b o → Hb b o) → St true s₀ Hb C (upd m' x v) ((D, lst ys c) :: τ) s' →
      wpAny (model prog w) A (forIn ifs true fun c r => if r = true then do let ok ← isTrue c (compEnvC scope cl C env) (eval c (compEnvC scope cl C env)); pure (ForInStep.yield ok) else pure (ForInStep.yield r))
        (fun ok s₃ => if ok = true then wpAny (model prog w) A (eval elt (compEnvC scope cl C env)) (fun y s₄ => ∃ m'' τ', St true s₀ Hb C m'' ((D, lst ys c) :: τ') s₄ ∧ J (i + 1) (ys ++ [y]) τ') E' s₃
          else ∃ m'' τ', St true s₀ Hb C m'' ((D, lst ys c) :: τ') s₃ ∧ J (i + 1) ys τ') E' s')
    (done : ∀ m' ys c τ s', J n ys τ → St true s₀ H C m' ((D, lst ys c) :: τ) s' → R (.ok .next) s') :
    codeAny (model prog w) A (.compLoop (.ListComp elt [⟨.Name x px, iter, ifs, 0⟩] scope pos) 0 (.ref I) (.ref D) (compEnvC scope cl C env)) R s := by
  refine codeAny_compLoop_tests (fun kk s => ∃ i m ys c τ, kk = n - i ∧ i ≤ n ∧ J i ys τ ∧ St true s₀ H C m ((D, lst ys c) :: τ) s ∧ Ti i s.heap ∧ ∀ b ∈ fp, b ≠ C ∧ b ∉ ((D, lst ys c) :: τ).map (·.1)) (fun kk s hI => ?_) n ⟨0, m, ys, c, τ, by simp, Nat.zero_le _, h0, S, hT, hfp⟩
  obtain ⟨i, m, ys, c, τ, rfl, hi, hJ, S, hT, hfp⟩ := hI
  have keepSt : ∀ (h' : Heap) (tk : Nat), (∀ b o, b ∉ wr → s.heap.get? b = some o → h'.get? b = some o) → St true s₀ H C m ((D, lst ys c) :: τ) { s with heap := h', toks := tk } := fun h' tk hk' => by
    refine ⟨S.same.trans ⟨rfl, rfl, rfl⟩, ?_, fun b o e => hk' b o (fun q => hwr b q o e) (S.keep b o e), S.keepL, fun p hp => ⟨hk' _ _ (fun q => (hfp _ (W.sub _ q)).2 (List.mem_map.mpr ⟨p, hp, rfl⟩)) (S.own p hp).1, (S.own p hp).2⟩, S.nd⟩
    obtain ⟨oL, es, ep, hL, r⟩ := S.ns
    exact ⟨oL, es, ep, hk' _ _ (fun q => (hfp _ (W.sub _ q)).1 rfl) hL, r⟩
  rcases Nat.lt_or_eq_of_le hi with hlt | rfl
  · refine W.item i s _ _ hlt hT fun v h' tk hP hT' hk' => ?_
    have S1 := keepSt h' tk hk'
    have hfx : ∀ b ∈ fp, ∃ o, h'.get? b = some o := hex _ _ hT'
    have S2 : St true s₀ (fun b o => H b o ∨ (b ∈ fp ∧ h'.get? b = some o)) C m ((D, lst ys c) :: τ) { s with heap := h', toks := tk } :=
      ⟨S1.same, S1.ns, fun b o e => e.elim (S1.keep b o) fun q => q.2, fun _ o e => e.elim (S1.keepL rfl o) fun q => (hfp _ q.1).1 rfl,
        fun p hp => ⟨(S1.own p hp).1, (S1.own p hp).2.1, fun o e => e.elim ((S1.own p hp).2.2 o) fun q => (hfp _ q.1).2 (List.mem_map.mpr ⟨p, hp, rfl⟩)⟩, S1.nd⟩
    refine wpAny_assign_Name (wpAny_storeName_local (env := compEnvC scope cl C env) (lookup_relabel_local hx) S2.ns (fun h'' hn hs => ?_) (by simp [compEnvC, relabel, hk]))
    have S3 := S2.set (tk := tk + 1) hn hs
    have back : ∀ {s₃ : Shared} {m' : Str → Option Value} {ys' : List Value} {c' : Nat} {τ' : List (Addr × Obj)}, St true s₀ (fun b o => H b o ∨ (b ∈ fp ∧ h'.get? b = some o)) C m' ((D, lst ys' c') :: τ') s₃ → J (i + 1) ys' τ' →
        ∃ k, k < n - i ∧ ∃ i m ys c τ, k = n - i ∧ i ≤ n ∧ J i ys τ ∧ St true s₀ H C m ((D, lst ys c) :: τ) s₃ ∧ Ti i s₃.heap ∧ ∀ b ∈ fp, b ≠ C ∧ b ∉ ((D, lst ys c) :: τ).map (·.1) := fun {s₃ m' ys' c' τ'} S4 hJ' => by
      refine ⟨n - (i + 1), by omega, i + 1, m', ys', c', τ', rfl, hlt, hJ', S4.anti fun b o e => .inl e, W.frame _ _ _ hT' fun b hb o e => S4.keep b o (.inr ⟨hb, e⟩), fun b hb => ⟨(hfp b hb).1, fun hm => ?_⟩⟩
      obtain ⟨p, hp, rfl⟩ := List.mem_map.mp hm
      obtain ⟨o, ho⟩ := hfx _ hb
      exact (S4.own p hp).2.2 o (.inr ⟨hb, ho⟩)
    refine wpAny_mono (turn _ i m ys c τ _ v _ hlt hJ hP (fun b o e => .inl e) S3) (fun ok s₃ h₃ => ?_) fun _ _ e => e
    cases ok with
    | false =>
      obtain ⟨m'', τ', S4, hJ'⟩ := h₃
      exact back S4 hJ'
    | true =>
      refine wpAny_mono h₃ (fun y s₄ h₄ => ?_) fun _ _ e => e
      obtain ⟨m'', τ', S4, hJ'⟩ := h₄
      exact r_append0 S4 (hsz _ _ _ hJ) fun s' S5 => back S5 hJ'
  · refine W.done s _ _ hT fun h' tk hk' => ?_
    exact done m ys c τ _ hJ (keepSt h' tk hk')

theorem St.other {C : Addr} {h' : Heap} (S : St k s₀ H L m σ s) (hC : C ≠ L) (hσ : C ∉ σ.map (·.1)) (hH : ∀ o, ¬ H C o) (hs : Heap.SameBut C s.heap h') : St k s₀ H L m σ { s with heap := h' } :=
  ⟨S.same.trans ⟨rfl, rfl, rfl⟩, S.ns.sameBut hs (Ne.symm hC), fun b o e => hs.extBut b o (fun q => hH o (q ▸ e)) (S.keep b o e), S.keepL,
    fun p hp => ⟨hs.extBut _ _ (fun q => hσ (List.mem_map.mpr ⟨p, hp, q⟩)) (S.own p hp).1, (S.own p hp).2⟩, S.nd⟩
/-- from the comprehension's frame back to the one around -/
theorem St.outer {s₁ s' : Shared} {C : Addr} {m' : Str → Option Value} {τ : List (Addr × Obj)} (S : St k s₀ H L m σ s₁) (S' : St true s₁ (fun b o => s₁.heap.get? b = some o) C m' τ s') : St k s₀ H L m (τ ++ σ) s' := by
  have kp : Kp s₁ s' := S'.back
  have Sk := S.kp kp
  refine ⟨Sk.same, Sk.ns, Sk.keep, Sk.keepL, fun p hp => ?_, ?_⟩
  · rcases List.mem_append.mp hp with hp | hp
    · have nn := S.notNew (S'.fresh (a := p.1) (o := p.2) hp)
      exact ⟨(S'.own p hp).1, nn.1, nn.2.2⟩
    · exact Sk.own p hp
  · rw [List.map_append, List.nodup_append]
    refine ⟨S'.nd, S.nd, fun a ha b hb e => ?_⟩
    subst e
    obtain ⟨p, hp, rfl⟩ := List.mem_map.mp ha
    exact (S.notNew (S'.fresh (a := p.1) (o := p.2) hp)).2.1 hb
/-- a comprehension over a list, from the list on -/
theorem comp_core {elt iter : Expr} {x : Str} {px : Pos} {ifs : List Expr} {scope : Scope} {cl : List (Str × Addr)} {pos : Pos} {vs : List Value} {a : Addr} {s₁ : Shared} {RR : Value → Addr → Result → Shared → Prop} (J : Nat → List Value → List (Addr × Obj) → Prop)
    (hcell' : ∀ y ∈ scope.names, y.2 ≠ .cell) (hkind : scope.kind = .function) (hx : scope.names.lookup x = some .local) (h0 : J 0 [] []) (hsz : ∀ i ys τ, J i ys τ → ys.length ≤ sizeLine) (hh : A.handled = none) (hl : s₁.heap.IsList a vs.toArray)
    (turn : ∀ (E' : Value → Shared → Prop) C D i m' ys c τ s' v Hb, i < vs.length → J i ys τ → vs[i]? = some v → (∀ b o, s₁.heap.get? b = some o → Hb b o) → St true s₁ Hb C (upd m' x v) ((D, lst ys c) :: τ) s' →
        wpAny (model prog w) A (forIn ifs true fun c r => if r = true then do let ok ← isTrue c (compEnvC scope cl C env) (eval c (compEnvC scope cl C env)); pure (ForInStep.yield ok) else pure (ForInStep.yield r))
          (fun ok s₃ => if ok = true then wpAny (model prog w) A (eval elt (compEnvC scope cl C env)) (fun y s₄ => ∃ m'' τ', St true s₁ Hb C m'' ((D, lst ys c) :: τ') s₄ ∧ J (i + 1) (ys ++ [y]) τ') E' s₃
            else ∃ m'' τ', St true s₁ Hb C m'' ((D, lst ys c) :: τ') s₃ ∧ J (i + 1) ys τ') E' s')
    (fin : ∀ D C m' ys c τ s', J vs.length ys τ → s₁.heap.get? C = none → St true s₁ (fun b o => s₁.heap.get? b = some o) C m' ((D, lst ys c) :: τ) s' → RR (.ref D) C (.ok .next) s') :
    wpAny (model prog w) A (pyIter (.ref a)) (fun it s₂ => wpAny (model prog w) A (newList []) (fun acc s₃ => wpAny (model prog w) A (newFunctionEnv scope env.globals cl [] env.qual none .none (some env)) (fun cenv s₄ =>
      codeAny (model prog w) A (.compStart (.ListComp elt [⟨.Name x px, iter, ifs, 0⟩] scope pos) 0 it acc { cenv with scope := relabel scope env }) (RR acc cenv.locals) s₄) E s₃) E s₂) E s₁ := by
  refine wpAny_pyIter_list hl (wpAny_newObj_type (hd := by size_fits) (wpAny_newFunctionEnv hcell' (by intro y hy; simp at hy) (fun h₁ hns₁ hsb₁ => ?_) hkind))
  dsimp only at hns₁ hsb₁ ⊢
  obtain ⟨ol, hol, hol'⟩ := id hl
  have ha : a < s₁.heap.objs.size := Heap.lt_size hol
  generalize hH1 : s₁.heap.push { cls := .type "list_iterator", data := .fields #[.ref a, .int 0 0] } = H1 at hns₁ hsb₁ ⊢
  have hD : H1.objs.size = s₁.heap.objs.size + 1 := by rw [← hH1, Heap.size_push]
  generalize hH2 : H1.push { cls := .type "list", dict := none, data := .seq ([] : List Value).toArray } = H2 at hns₁ hsb₁ ⊢
  have hC : H2.objs.size = s₁.heap.objs.size + 2 := by rw [← hH2, Heap.size_push, hD]
  have none_of : ∀ b, s₁.heap.objs.size ≤ b → s₁.heap.get? b = none := fun b hb => by
    cases e : s₁.heap.get? b with
    | none => rfl
    | some o => exact absurd (Heap.lt_size e) (Nat.not_lt.mpr hb)
  have nI : s₁.heap.get? s₁.heap.objs.size = none := none_of _ (Nat.le_refl _)
  have nD : s₁.heap.get? H1.objs.size = none := none_of _ (by rw [hD]; exact Nat.le_succ _)
  have nC : s₁.heap.get? H2.objs.size = none := none_of _ (by rw [hC]; exact Nat.le_add_right _ _)
  have hDC : H1.objs.size ≠ H2.objs.size := by rw [hD, hC]; exact Nat.ne_of_lt (Nat.lt_succ_self _)
  have hIC : s₁.heap.objs.size ≠ H2.objs.size := by rw [hC]; exact Nat.ne_of_lt (Nat.lt_succ_of_lt (Nat.lt_succ_self _))
  have hID : s₁.heap.objs.size ≠ H1.objs.size := by rw [hD]; exact Nat.ne_of_lt (Nat.lt_succ_self _)
  have ne : ∀ b o, s₁.heap.get? b = some o → b ≠ s₁.heap.objs.size ∧ b ≠ H1.objs.size ∧ b ≠ H2.objs.size := fun b o e =>
    ⟨(fun q => by rw [q, nI] at e; cases e), (fun q => by rw [q, nD] at e; cases e), (fun q => by rw [q, nC] at e; cases e)⟩
  have old : ∀ b o, s₁.heap.get? b = some o → h₁.get? b = some o := fun b o e =>
    hsb₁.extBut b o (ne b o e).2.2 (Heap.get?_push_of_some _ (hH2 ▸ Heap.get?_push_of_some _ (hH1 ▸ Heap.get?_push_of_some _ e)))
  have hit : h₁.IsListIter s₁.heap.objs.size a 0 :=
    ⟨_, hsb₁.extBut _ _ hIC (Heap.get?_push_of_some _ (hH2 ▸ Heap.get?_push_of_some _ (hH1 ▸ Heap.get?_push_size _ rfl))), rfl, rfl⟩
  have hacc : h₁.get? H1.objs.size = some (lst [] 0) := hsb₁.extBut _ _ hDC (Heap.get?_push_of_some _ (hH2 ▸ Heap.get?_push_size _ rfl))
  have hl₁ : h₁.IsList a vs.toArray := ⟨ol, old _ _ hol, hol'⟩
  have haI : a ≠ s₁.heap.objs.size := (ne _ _ hol).1
  have W := Walks.list (prog := prog) (w := w) (A := A) hh s₁.heap.objs.size a haI vs.toArray
  have hsize : vs.toArray.size = vs.length := List.size_toArray ..
  have S0 : ∀ s₂ : Shared, s₂ = { s₁ with heap := h₁, toks := s₁.toks + ([] : List (Str × Value)).length } → St true s₁ (fun b o => s₁.heap.get? b = some o) H2.objs.size (fun x => ([] : List (Str × Value)).reverse.lookup x) [(H1.objs.size, lst [] 0)] s₂ := by
    rintro s₂ rfl
    refine ⟨⟨rfl, rfl, rfl⟩, hns₁, old, fun _ o e => (ne _ _ e).2.2 rfl, fun p hp => ?_, by simp⟩
    obtain rfl : p = (H1.objs.size, lst [] 0) := by simpa using hp
    exact ⟨hacc, hDC, fun o e => (ne _ _ e).2.1 rfl⟩
  have loop : ∀ s₂ : Shared, s₂ = { s₁ with heap := h₁, toks := s₁.toks + ([] : List (Str × Value)).length } →
      codeAny (model prog w) A (.compLoop (.ListComp elt [⟨.Name x px, iter, ifs, 0⟩] scope pos) 0 (.ref s₁.heap.objs.size) (.ref H1.objs.size) (compEnvC scope cl H2.objs.size env))
        (RR (.ref H1.objs.size) H2.objs.size) s₂ := by
    rintro s₂ rfl
    refine compLoop_St W ?_ J (S0 _ rfl) ⟨hit, hl₁⟩ ?_ ?_ h0 hsz hkind hx (fun E' i m' ys c τ s' v Hb hi hJ hP hb S₂ => turn E' _ _ i m' ys c τ s' v Hb (hsize ▸ hi) hJ (by simpa using hP) hb S₂) ?_
    · intro i h hTi b hb
      rcases List.mem_cons.mp hb with rfl | hb
      · obtain ⟨⟨o, ho, _⟩, _⟩ := hTi; exact ⟨o, ho⟩
      · rcases List.mem_cons.mp hb with rfl | hb
        · obtain ⟨_, o, ho, _⟩ := hTi; exact ⟨o, ho⟩
        · cases hb
    · intro b hb
      rcases List.mem_cons.mp hb with rfl | hb
      · exact ⟨hIC, by simpa using hID⟩
      · rcases List.mem_cons.mp hb with rfl | hb
        · exact ⟨(ne _ _ hol).2.2, by simpa using (ne _ _ hol).2.1⟩
        · cases hb
    · intro b hb o e
      rcases List.mem_cons.mp hb with rfl | hb
      · exact (ne _ _ e).1 rfl
      · cases hb
    · intro m' ys c τ s' hJ S'
      exact fin _ _ m' ys c τ s' (hsize ▸ hJ) nC S'
  exact codeAny_compStart_list (loop _ rfl) (wpAny_pyIter_listiter hit (loop _ rfl))
theorem allc {scope : Scope} (h : (scope.names.all fun y => y.2 != .cell) = true) : ∀ y ∈ scope.names, y.2 ≠ .cell := fun y hy => by simpa using List.all_eq_true.mp h y hy
theorem alln {scope : Scope} (h : (scope.names.all fun y => y.2 != .local || scope.names.lookup y.1 == some .local) = true) : ∀ y ∈ scope.names, y.2 = .local → scope.names.lookup y.1 = some .local := fun y hy e => by
  have := List.all_eq_true.mp h y hy
  simpa [e] using this
/-- what a comprehension over a list asks for: J of what came out and of what was made -/
def CompK (prog : Program) (w : World) (A : Around) (env : Env) (k : Bool) (s₀ : Shared) (H : Addr → Obj → Prop) (L : Addr) (elt : Expr) (x : Str) (ifs : List Expr) (scope : Scope) (cl : List (Str × Addr)) (J : Nat → List Value → List (Addr × Obj) → Prop) (fin : Addr → (Str → Option Value) → List (Addr × Obj) → Shared → Prop) (xv : Value) (s₁ : Shared) : Prop :=
  ∃ (a : Addr) (vs : List Value) (m : Str → Option Value) (σ : List (Addr × Obj)), xv = .ref a ∧ A.handled = none ∧ s₁.heap.IsList a vs.toArray ∧ St k s₀ H L m σ s₁ ∧
    (∀ (E' : Value → Shared → Prop) C D i m' ys c τ s' v Hb, i < vs.length → J i ys τ → vs[i]? = some v → (∀ b o, s₁.heap.get? b = some o → Hb b o) → St true s₁ Hb C (upd m' x v) ((D, lst ys c) :: τ) s' →
      wpAny (model prog w) A (forIn ifs true fun c r => if r = true then do let ok ← isTrue c (compEnvC scope cl C env) (eval c (compEnvC scope cl C env)); pure (ForInStep.yield ok) else pure (ForInStep.yield r))
        (fun ok s₃ => if ok = true then wpAny (model prog w) A (eval elt (compEnvC scope cl C env)) (fun y s₄ => ∃ m'' τ', St true s₁ Hb C m'' ((D, lst ys c) :: τ') s₄ ∧ J (i + 1) (ys ++ [y]) τ') E' s₃
          else ∃ m'' τ', St true s₁ Hb C m'' ((D, lst ys c) :: τ') s₃ ∧ J (i + 1) ys τ') E' s') ∧
    (∀ D ys c τ s' σ', J vs.length ys τ → σ' = ((D, lst ys c) :: τ) ++ σ → St k s₀ H L m σ' s' → fin D m σ' s')
theorem e_comp_list {elt iter : Expr} {x : Str} {px : Pos} {ifs : List Expr} {scope : Scope} {cl : List (Str × Addr)} {pos : Pos} (J : Nat → List Value → List (Addr × Obj) → Prop)
    (hclos : closureFor scope env = pure cl) (hcell : (scope.names.all fun y => y.2 != .cell) = true) (hkind : scope.kind = .function)
    (hnames : (scope.names.all fun y => y.2 != .local || scope.names.lookup y.1 == some .local) = true) (hx : scope.names.lookup x = some .local) (h0 : J 0 [] []) (hsz : ∀ i ys τ, J i ys τ → ys.length ≤ sizeLine)
    (h : wpAny (model prog w) A (eval iter env) (CompK prog w A env k s₀ H L elt x ifs scope cl J fun D _ _ s' => Q (.ref D) s') E s)
    (hs : ∀ x, foldedSetIterable iter env x = pure x := by intro _; rfl) :
    wpAny (model prog w) A (eval (.ListComp elt [⟨.Name x px, iter, ifs, 0⟩] scope pos) env) Q E s := by
  rw [eval_ListComp]
  refine wpAny_comprehension_free (use := none) rfl hs hclos hkind (alln hnames) (wpAny_mono h (fun xv s₁ h₁ => ?_) fun _ _ e => e)
  obtain ⟨a, vs, m, σ, rfl, hh, hl, S, turn, hQ⟩ := h₁
  refine comp_core (RR := fun acc C => compPost (model prog w) A E none Q acc C) J (allc hcell) hkind hx h0 hsz hh hl turn fun D C m' ys c τ s' hJ hC S' => ?_
  refine ⟨m', S'.ns, fun h' hs' => hQ D ys c τ _ _ hJ rfl ?_⟩
  have nn := S.notNew hC
  refine (S.outer S').other nn.1 (fun hm => ?_) nn.2.2 hs'
  rw [List.map_append] at hm
  rcases List.mem_append.mp hm with hm | hm
  · obtain ⟨p, hp, e⟩ := List.mem_map.mp hm
    exact (S'.own p hp).2.1 e
  · exact nn.2.1 hm
/-- y = [elt for x in a list ..] -/
theorem x_assign_comp {elt iter : Expr} {x y : Str} {px py : Pos} {ifs : List Expr} {scope : Scope} {cl : List (Str × Addr)} {pos spos : Pos} {rest : List Stmt} {Q : Flow → Shared → Prop} (J : Nat → List Value → List (Addr × Obj) → Prop)
    (hsw : swapsWith (.ListComp elt [⟨.Name x px, iter, ifs, 0⟩] scope pos) (some (.Name y py)) spos.line env = pure true)
    (hclos : closureFor scope env = pure cl) (hcell : (scope.names.all fun y => y.2 != .cell) = true) (hkind : scope.kind = .function)
    (hnames : (scope.names.all fun y => y.2 != .local || scope.names.lookup y.1 == some .local) = true) (hx : scope.names.lookup x = some .local)
    (hc : (env.scope.kind == .function && env.scope.names.lookup y == some .local) = true) (h0 : J 0 [] []) (hsz : ∀ i ys τ, J i ys τ → ys.length ≤ sizeLine)
    (h : wpAny (model prog w) A (eval iter env) (CompK prog w A env true s₀ H L elt x ifs scope cl J fun D m σ' s' => ∀ s'', St true s₀ H L (upd m y (.ref D)) σ' s'' → wpAny (model prog w) A (execs rest env) Q E s'') E s)
    (hL : env.locals = L := by with_unfolding_all rfl) (hs : ∀ x, foldedSetIterable iter env x = pure x := by intro _; rfl) :
    wpAny (model prog w) A (execs (.Assign [.Name y py] (.ListComp elt [⟨.Name x px, iter, ifs, 0⟩] scope pos) spos :: rest) env) Q E s := by
  subst hL
  simp only [Bool.and_eq_true, beq_iff_eq] at hc
  refine x_cons ?_
  rw [exec_Assign_Name_used _ _ _ _ hsw]
  refine wpAny_bind (wpAny_standAt (wpAny_bind ?_))
  show wpAny _ A (do let _ ← comprehension (.ListComp elt [⟨.Name x px, iter, ifs, 0⟩] scope pos) scope env _ (newList []) false (eval iter env) (some (assign (.Name y py) env))) _ _ s
  refine wpAny_bind (wpAny_mono (wpAny_comprehension_free (use := some (assign (.Name y py) env)) (Q := fun _ s' => thenK prog w A rest env Q E .next s') rfl hs hclos hkind (alln hnames)
    (wpAny_mono h (fun xv s₁ h₁ => ?_) fun _ _ e => e)) (fun _ s' hq => wpAny_pure (wpAny_pure hq)) fun _ _ e => e)
  obtain ⟨a, vs, m, σ, rfl, hh, hl, S, turn, hQ⟩ := h₁
  refine comp_core (RR := fun acc C => compPost (model prog w) A E (some (assign (.Name y py) env)) (fun _ s' => thenK prog w A rest env Q E .next s') acc C) J (allc hcell) hkind hx h0 hsz hh hl turn fun D C m' ys c τ s' hJ hC S' => ?_
  have nn := S.notNew hC
  have So := S.outer S'
  show wpAny _ A (assign (.Name y py) env (.ref D)) _ _ _
  refine wpAny_assign_Name (wpAny_storeName_local hc.2 So.ns (fun h₂ hn₂ hs₂ => ?_) (by rw [hc.1]; rfl))
  refine ⟨m', S'.ns.sameBut hs₂ nn.1, fun h₃ hs₃ => ?_⟩
  refine hQ D ys c τ _ _ hJ rfl So _ ((So.set (tk := s'.toks + 1) hn₂ hs₂).other nn.1 (fun hm => ?_) nn.2.2 hs₃)
  rw [List.map_append] at hm
  rcases List.mem_append.mp hm with hm | hm
  · obtain ⟨p, hp, e⟩ := List.mem_map.mp hm
    exact (S'.own p hp).2.1 e
  · exact nn.2.1 hm
end
end Mine
end
section
open PySem PyProof.Rows PySem.SeqAt
set_option Elab.async false
namespace Mine
section
variable {k : Bool} {prog : Program} {w : World} {A : Around} {E : Value → Shared → Prop} {s₀ s : Shared} {H : Addr → Obj → Prop} {L : Addr} {m : Str → Option Value} {σ : List (Addr × Obj)} {env : Env}
  {Q : Value → Shared → Prop}
theorem r_mind0 {a : Addr} {d : Value} (S : St k s₀ H L m σ s) (hh : A.handled = none) (hl : s.heap.IsList a ([] : List Value).toArray) (h : ∀ s', St k s₀ H L m σ s' → Q d s') : wpAny (model prog w) A (call (.builtin "min") [.ref a] [(Str.ofString "default", d)]) Q E s :=
  min_dflt (fun _ => 0) (fun i v e => by simp at e) hh hl (fun _ s' kp => h s' (S.kp kp)) (fun i v s' e => by simp at e)
theorem r_mind1 {a : Addr} {d : Value} {n : Int} {t : Tok} (S : St k s₀ H L m σ s) (hh : A.handled = none) (hl : s.heap.IsList a [Value.int n t].toArray) (h : ∀ s', St k s₀ H L m σ s' → Q (.int n t) s') : wpAny (model prog w) A (call (.builtin "min") [.ref a] [(Str.ofString "default", d)]) Q E s :=
  min_dflt (fun _ => n) (fun i v e => by
    rcases i with _ | i
    · exact ⟨t, by simpa using e.symm⟩
    · simp at e) hh hl (fun e => by cases e) (fun i v s' e _ kp => by
    rcases i with _ | i
    · obtain rfl : Value.int n t = v := by simpa using e
      exact h s' (S.kp kp)
    · simp at e)
theorem r_mind3 {a : Addr} {d : Value} {n1 n2 n3 : Int} {t1 t2 t3 : Tok} (S : St k s₀ H L m σ s) (hh : A.handled = none) (hl : s.heap.IsList a [Value.int n1 t1, Value.int n2 t2, Value.int n3 t3].toArray)
    (h : ∀ t s', St k s₀ H L m σ s' → Q (.int (min n1 (min n2 n3)) t) s') : wpAny (model prog w) A (call (.builtin "min") [.ref a] [(Str.ofString "default", d)]) Q E s :=
  min_dflt (fun i => [n1, n2, n3].getD i 0) (fun i v e => by
    rcases i with _ | _ | _ | i
    · exact ⟨t1, by simpa using e.symm⟩
    · exact ⟨t2, by simpa using e.symm⟩
    · exact ⟨t3, by simpa using e.symm⟩
    · simp at e) hh hl (fun e => by cases e) (fun i v s' e hb kp => by
    have b0 := hb 0 (by simp)
    have b1 := hb 1 (by simp)
    have b2 := hb 2 (by simp)
    simp only [List.getD_cons_zero, List.getD_cons_succ] at b0 b1 b2
    rcases i with _ | _ | _ | i
    · obtain rfl : Value.int n1 t1 = v := by simpa using e
      simp only [List.getD_cons_zero, List.getD_cons_succ] at b0 b1 b2
      rw [show n1 = min n1 (min n2 n3) by omega]
      exact h t1 s' (S.kp kp)
    · obtain rfl : Value.int n2 t2 = v := by simpa using e
      simp only [List.getD_cons_zero, List.getD_cons_succ] at b0 b1 b2
      rw [show n2 = min n1 (min n2 n3) by omega]
      exact h t2 s' (S.kp kp)
    · obtain rfl : Value.int n3 t3 = v := by simpa using e
      simp only [List.getD_cons_zero, List.getD_cons_succ] at b0 b1 b2
      rw [show n3 = min n1 (min n2 n3) by omega]
      exact h t3 s' (S.kp kp)
    · simp at e)
theorem r_list_copy {l : Addr} {vs : List Value} {n : Nat} (S : St k s₀ H L m σ s) (e : s.heap.get? l = some (lst vs n)) (hz : vs.length ≤ sizeLine)
    (h : ∀ D c s', s.heap.get? D = none → St k s₀ H L m ((D, lst vs c) :: σ) s' → Q (.ref D) s') : wpAny (model prog w) A (call (.type "list") [.ref l]) Q E s :=
  call_list_seq (hsz := by simpa using hz) l (.inl rfl) e rfl rfl fun h' c' hk hD =>
    h _ c' _ (get_size_none _) (S.add (Kp.mk' (tk := s.toks) hk) (get_size_none _) hD)
/-- what is cleared -/
def ClrK (k : Bool) (s₀ : Shared) (H : Addr → Obj → Prop) (L : Addr) (Q : Value → Shared → Prop) (ov : Value) (s₁ : Shared) : Prop :=
  ∃ l vs n m σ₁ σ₂, ov = .ref l ∧ vs.length ≤ sizeLine ∧ St k s₀ H L m (σ₁ ++ (l, lst vs n) :: σ₂) s₁ ∧ ∀ n' s', St k s₀ H L m (σ₁ ++ (l, lst [] n') :: σ₂) s' → Q .none s'
theorem e_clear_at {o : Expr} {apos pos : Pos} (_S : St k s₀ H L m σ s) (hline : (apos.endLine == pos.line) = true) (h : wpAny (model prog w) A (eval o env) (fun ov s₁ => ClrK k s₀ H L Q ov s₁) E s)
    (hbase : attributeBase o (Str.ofString "clear") env (eval o env) = eval o env := by with_unfolding_all rfl) :
    wpAny (model prog w) A (eval (.Call (.Attribute o (Str.ofString "clear") apos) [] [] pos) env) Q E s := by
  refine Call_method0 hbase hline (wpAny_mono h (fun ov s₁ h₁ => ?_) fun _ _ e => e)
  obtain ⟨l, vs, n, m, σ₁, σ₂, rfl, hz, S, hq⟩ := h₁
  have ho := S.get (a := l) (o := lst vs n) (by simp)
  refine ⟨"list", "list.clear", F.plainAttrs_list, F.slot_list_clear, F.type_list_clear, ⟨_, ho, rfl⟩, fun a e => ?_, ?_⟩
  · cases e; exact ⟨_, ho, rfl⟩
  · obtain ⟨n', hn'⟩ := mapSeq_clear vs n
    refine P.clear_list (items := vs.toArray) (n := n) ho (hq n' _ (S.turn (tk := s₁.toks) (fun b x hb e => ?_) ?_)) (by simpa using hz)
    · rw [Heap.get?_update_other _ _ (Ne.symm hb)]; exact e
    · rw [← hn']; exact Heap.get?_update_self _ ho rfl
/-- two lists whose items are equal, each to each -/
theorem r_eq_all {a b : Addr} {vs ws : List Value} (hl : s.heap.IsList a vs.toArray) (hb : s.heap.IsList b ws.toArray) (hlen : vs.length = ws.length) (hu : A.units < cLine)
    (he : ∀ (j : Nat) (v u : Value), vs[j]? = some v → ws[j]? = some u → EqAt A.in1 s v u true) (h : Q (.bool true) s) : wpAny (model prog w) A (compareOp .Eq (.ref a) (.ref b)) Q E s := by
  refine SeqAt.eq_listAt (e := fun _ => true) hl hb (by simpa using hlen) hu (fun j h1 h2 => he j _ _ (List.getElem?_eq_getElem (by simpa using h1)) (List.getElem?_eq_getElem (by simpa using h2))) ?_
  have e : ((List.range vs.toArray.size).all fun _ => true) = true := List.all_eq_true.mpr fun _ _ => rfl
  rw [e]; exact h
theorem eqAt_ints {a b : Addr} {vs ws : List Value} (hne : a ≠ b) (hl : s.heap.IsList a vs.toArray) (hb : s.heap.IsList b ws.toArray) (hlen : vs.length = ws.length) (hu : A.units < cLine)
    (he : ∀ (j : Nat) (v u : Value), vs[j]? = some v → ws[j]? = some u → ∃ n t t', v = .int n t ∧ u = .int n t') : EqAt A s (.ref a) (.ref b) true := by
  refine EqAt.of_refs hne ?_
  have := SeqAt.RcAt.lists (A := A) (s := s) (e := fun _ => true) hl hb (by simpa using hlen) hu (fun j h1 h2 => by
    obtain ⟨n, t, t', e1, e2⟩ := he j (vs.toArray[j]) (ws.toArray[j]) (List.getElem?_eq_getElem (by simpa using h1)) (List.getElem?_eq_getElem (by simpa using h2))
    rw [e1, e2]
    simpa using EqAt.int_int n t n t')
  have e : ((List.range vs.toArray.size).all fun _ => true) = true := List.all_eq_true.mpr fun _ _ => rfl
  rw [e] at this; exact this
end
end Mine
end
section
open PySem PySem.W PyProof.Rows
set_option Elab.async false
namespace Mine
section
variable {prog : Program} {w : World} {A : Around} {E : Value → Shared → Prop} {s : Shared} {mg mb : Str → Option Value} {K : Frag}
theorem enterK (names : List Str) {fa : Addr} {name qual : Str} {params : Arguments} {body : List Stmt} {scope : Scope} {dV kV doc pm cdv ct oc : Value} {an od : Option Addr} {osl : Array (Option Value)} {args : List Value} {Q : Value → Shared → Prop}
    (G : Gd (fun a o => K.lookup a = some o) mg mb s.heap) (hf : K.lookup fa = some ⟨oc, od, .func (fnD name qual params body scope dV kV doc pm an cdv ct), osl⟩) (hcd : codeIn K cdv qual = true)
    {n : Nat} (r : Rm A (n + 1))
    (hb : bindArgs (fnD name qual params body scope dV kV doc pm an cdv ct) ⟨args, []⟩ = pure (names.zip args)) (hloc : (names.all fun x => decide (scope.names.lookup x = some .local)) = true)
    (hcell : (scope.names.all fun x => x.2 != .cell) = true) (hco : scope.isCoroutine = false) (hgen : scope.isGenerator = false) (hk : scope.kind = .function)
    (h : ∀ (E' : Value → Shared → Prop) L s' m, m = (fun x => (names.zip args).reverse.lookup x) → L = s.heap.objs.size → St true s (fun b o => s.heap.get? b = some o) L m [] s' → GdH (fun a o => K.lookup a = some o) mg mb (fun b o => s.heap.get? b = some o) → Rm (A.deeper (envOf qual scope L fa cdv)) n →
      wpAny (model prog w) (A.deeper (envOf qual scope L fa cdv)) (execs body (envOf qual scope L fa cdv)) (retK Q) E' s') :
    wpAny (model prog w) A (call (.ref fa) args) Q E s :=
  enter G (by have := r.dep; omega) hf (codeRec_of (fun a o e => G.X a o e) hcd) hb (fun x hx => of_decide_eq_true (List.all_eq_true.mp hloc x.1 (List.of_mem_zip hx).1)) (fun x hx => by
    have := List.all_eq_true.mp hcell x hx
    simpa using this) hco hgen hk (fun E' L s' hL S => h E' L s' _ rfl hL S G.toH (r.deeper _))
end
end Mine
end
section
open PySem PySem.W PyProof.Rows
set_option Elab.async false
namespace Mine
/-- the cells of a frame, owned -/
def CellsOwn (cm : Str → Option Value) : List (Str × Addr) → List (Addr × Obj) → Prop
  | [], σ => σ = []
  | (n, c) :: cs, σ => ∃ o σ', σ = (c, o) :: σ' ∧ o.data = .cell (cm n) ∧ CellsOwn cm cs σ'
section
variable {k : Bool} {prog : Program} {w : World} {A : Around} {E : Value → Shared → Prop} {s₀ s : Shared} {H : Addr → Obj → Prop} {L : Addr} {m : Str → Option Value} {σ : List (Addr × Obj)} {env : Env} {mg mb : Str → Option Value} {K : Frag}
theorem cells_own {cm : Str → Option Value} {h : Heap} : ∀ {cs : List (Str × Addr)}, (∀ n c, (n, c) ∈ cs → h.IsCell c (cm n)) → ∃ σ, CellsOwn cm cs σ ∧ (∀ p ∈ σ, h.get? p.1 = some p.2) ∧ σ.map (·.1) = cs.map (·.2)
  | [], _ => ⟨[], rfl, (fun p hp => (List.not_mem_nil hp).elim), rfl⟩
  | (n, c) :: cs, hc => by
    obtain ⟨σ, h1, h2, h3⟩ := cells_own (cs := cs) fun n c hm => hc n c (List.mem_cons_of_mem _ hm)
    obtain ⟨o, ho, hd⟩ := hc n c List.mem_cons_self
    refine ⟨(c, o) :: σ, ⟨o, σ, rfl, hd, h1⟩, fun p hp => ?_, by simp [h3]⟩
    rcases List.mem_cons.mp hp with rfl | hp
    · exact ho
    · exact h2 p hp
theorem lookup_of_nodup : ∀ {l : List (Str × Addr)}, (l.map (·.1)).Nodup → ∀ {n : Str} {c : Addr}, (n, c) ∈ l → l.lookup n = some c
  | [], _, _, _, h => (List.not_mem_nil h).elim
  | (a, b) :: l, hn, n, c, h => by
    rw [List.map_cons, List.nodup_cons] at hn
    rcases List.mem_cons.mp h with e | h
    · cases e; simp
    · have hne : n ≠ a := fun e => hn.1 (e ▸ List.mem_map.mpr ⟨(n, c), h, rfl⟩)
      rw [List.lookup_cons, show (n == a) = false from beq_eq_false_iff_ne.mpr hne]
      exact lookup_of_nodup hn.2 h
theorem cellsFrom_keys : ∀ (names : List (Str × NameKind)) (i : Nat) (acc : List (Str × Addr)), (cellsFrom i names acc).map (·.1) = ((names.filter fun x => x.2 == .cell).map (·.1)).reverse ++ acc.map (·.1)
  | [], _, _ => by simp [cellsFrom]
  | (n, kd) :: r, i, acc => by
    unfold cellsFrom
    by_cases hk : (kd == NameKind.cell) = true
    · rw [if_pos hk, cellsFrom_keys r, List.filter_cons_of_pos (by simpa using hk)]; simp
    · rw [if_neg hk, cellsFrom_keys r, List.filter_cons_of_neg (by simpa using hk)]
/-- enter a def with cells -/
theorem enterC (names : List Str) {fa : Addr} {name qual : Str} {params : Arguments} {body : List Stmt} {scope : Scope} {dV kV doc pm cdv ct oc : Value} {an od : Option Addr} {osl : Array (Option Value)} {args : List Value} {Q : Value → Shared → Prop}
    (G : Gd (fun a o => K.lookup a = some o) mg mb s.heap) (hf : K.lookup fa = some ⟨oc, od, .func (fnD name qual params body scope dV kV doc pm an cdv ct), osl⟩) (hcd : codeIn K cdv qual = true)
    {n : Nat} (r : Rm A (n + 1))
    (hb : bindArgs (fnD name qual params body scope dV kV doc pm an cdv ct) ⟨args, []⟩ = pure (names.zip args))
    (hloc : ∀ L : Nat, (names.all fun x => decide (scope.names.lookup x = some .local) || (decide (scope.names.lookup x = some .cell) && ((cellsFrom (L + 1) scope.names []).lookup x).isSome)) = true)
    (hnd : ((scope.names.filter fun x => x.2 == .cell).map (·.1)).Nodup)
    (hco : scope.isCoroutine = false) (hgen : scope.isGenerator = false) (hk : scope.kind = .function)
    (h : ∀ (E' : Value → Shared → Prop) L s' m cm σ, m = bindL (envOfC qual scope L fa cdv).kindOf (names.zip args) (fun _ => none) → cm = bindC (envOfC qual scope L fa cdv).kindOf (names.zip args) (fun _ => none) →
      CellsOwn cm (cellsFrom (L + 1) scope.names []) σ → St true s (fun b o => s.heap.get? b = some o) L m σ s' → GdH (fun a o => K.lookup a = some o) mg mb (fun b o => s.heap.get? b = some o) → Rm (A.deeper (envOfC qual scope L fa cdv)) n →
      wpAny (model prog w) (A.deeper (envOfC qual scope L fa cdv)) (execs body (envOfC qual scope L fa cdv)) (retK Q) E' s') :
    wpAny (model prog w) A (call (.ref fa) args) Q E s := by
  have hlook : ∀ (L : Nat) n c, (n, c) ∈ cellsFrom (L + 1) scope.names [] → (cellsFrom (L + 1) scope.names []).lookup n = some c := fun L n c hm => lookup_of_nodup (by
    rw [cellsFrom_keys, List.map_nil, List.append_nil]
    exact List.pairwise_reverse.mpr (hnd.imp Ne.symm)) hm
  refine wpAny_call (codeAny_call_cells (fd := fnD name qual params body scope dV kV doc pm an cdv ct) (by have := r.dep; show A.depth < 1000; omega) (G.X _ _ hf) rfl G.lim (codeRec_of (fun a o e => G.X a o e) hcd) rfl hb rfl (fun x hx => ?_) (fun s₁ X => ?_) hco hgen hk)
  · have := List.all_eq_true.mp (hloc s.heap.objs.size) x.1 (List.of_mem_zip hx).1
    rw [Bool.or_eq_true, Bool.and_eq_true, decide_eq_true_eq, decide_eq_true_eq] at this
    exact this
  · obtain ⟨σ, c1, c2, c3⟩ := cells_own (cm := bindC (envOfC qual scope s.heap.objs.size fa cdv).kindOf (names.zip args) (fun _ => none)) (h := s₁.heap) (cs := cellsFrom (s.heap.objs.size + 1) scope.names []) fun n c hm => X.cell n c (hlook _ n c hm)
    obtain ⟨h', tk, rfl, hkeep⟩ := X.done
    have fresh : ∀ b, s.heap.objs.size ≤ b → s.heap.get? b = none := fun b hb => by
      cases e : s.heap.get? b with
      | none => rfl
      | some o => exact absurd (Heap.lt_size e) (Nat.not_lt.mpr hb)
    have above : ∀ p ∈ σ, s.heap.objs.size < p.1 := fun p hp => by
      have hm : p.1 ∈ (cellsFrom (s.heap.objs.size + 1) scope.names []).map (·.2) := by rw [← c3]; exact List.mem_map.mpr ⟨p, hp, rfl⟩
      obtain ⟨⟨n, c⟩, hq, e⟩ := List.mem_map.mp hm
      rw [← e]; exact X.above n c hq
    have S : St true s (fun b o => s.heap.get? b = some o) s.heap.objs.size (bindL (envOfC qual scope s.heap.objs.size fa cdv).kindOf (names.zip args) (fun _ => none)) σ { s with heap := h', toks := tk } := by
      refine ⟨⟨rfl, rfl, rfl⟩, X.toInCall.ns, hkeep, fun _ o e => ?_, fun p hp => ⟨c2 p hp, Nat.ne_of_gt (above p hp), fun o e => ?_⟩, ?_⟩
      · rw [fresh _ (Nat.le_refl _)] at e; cases e
      · rw [fresh _ (Nat.le_of_lt (above p hp))] at e; cases e
      · rw [c3]
        have := X.apart
        exact (List.pairwise_map.mpr this)
    refine wpAny_mono (h _ s.heap.objs.size _ _ _ σ rfl rfl c1 S G.toH (r.deeper _)) (fun fl s' h' => ?_) fun _ _ x => x
    cases fl <;> exact h'
theorem r_cell {x : Str} {pos : Pos} {c : Addr} {o : Obj} {v : Value} {Q : Value → Shared → Prop} (hc : (env.scope.kind == .function && env.scope.names.lookup x == some .cell && !(x == ("__debug__" : Str))) = true)
    (hl : env.cells.lookup x = some c) (ho : s.heap.get? c = some o) (hd : o.data = .cell (some v)) (h : Q v s) : wpAny (model prog w) A (eval (.Name x pos) env) Q E s := by
  simp only [Bool.and_eq_true, beq_iff_eq, Bool.not_eq_true'] at hc
  exact wpAny_Name (wpAny_loadName_cell hc.1.1 hc.1.2 hl ⟨o, ho, hd⟩ h) hc.2
theorem r_storeC {x : Str} {v : Value} {c : Addr} {o : Obj} {v₀ : Option Value} {σ₁ σ₂ : List (Addr × Obj)} {Q : Unit → Shared → Prop} (S : St k s₀ H L m (σ₁ ++ (c, o) :: σ₂) s) (hd : o.data = .cell v₀) (hl : env.cells.lookup x = some c)
    (hc : (env.scope.kind == .function && env.scope.names.lookup x == some .cell) = true) (h : ∀ o' s', o'.data = .cell (some v) → St k s₀ H L m (σ₁ ++ (c, o') :: σ₂) s' → Q () s') : wpAny (model prog w) A (storeName env x v) Q E s := by
  simp only [Bool.and_eq_true, beq_iff_eq] at hc
  have ho := S.get (a := c) (o := o) (by simp)
  refine wpAny_storeName_cell hc.1 hc.2 hl ⟨o, ho, hd⟩ fun h' hi hs => ?_
  obtain ⟨o', ho', hd'⟩ := hi
  exact h o' _ hd' (S.turn (tk := s.toks) (fun b x hb e => hs.extBut b x hb e) ho')
end
end Mine
end
section
open PySem PySem.W PyProof.Rows
set_option Elab.async false
namespace Mine
abbrev dct0 : Obj := { cls := .type "dict", data := .dict #[] }
section
variable {k : Bool} {prog : Program} {w : World} {A : Around} {E : Value → Shared → Prop} {s₀ s : Shared} {H : Addr → Obj → Prop} {L : Addr} {m : Str → Option Value} {σ : List (Addr × Obj)} {env : Env}
  {Q : Value → Shared → Prop}
/-- {} -/
theorem e_dict0 {pos : Pos} (S : St k s₀ H L m σ s) (h : ∀ D s', s.heap.get? D = none → St k s₀ H L m ((D, dct0) :: σ) s' → Q (.ref D) s') : wpAny (model prog w) A (eval (.Dict [] [] pos) env) Q E s :=
  wpAny_Dict_empty (h _ _ (get_size_none _) (S.add (Kp.push s _) (get_size_none _) (Heap.get?_push_size _ rfl)))
/-- what is known behind {key: value} -/
def DictK (prog : Program) (w : World) (k : Bool) (s₀ : Shared) (H : Addr → Obj → Prop) (L : Addr) (Q : Value → Shared → Prop) (D : Addr) (kv vv : Value) (s₃ : Shared) : Prop :=
  ∃ (key : Str) (t : Tok) (σ' : List (Addr × Obj)) (m' : Str → Option Value), kv = .str key t ∧ St k s₀ H L m' ((D, dct0) :: σ') s₃ ∧
    ∀ o s', o.cls = .type "dict" → o.IsDictOf (PySem.strKind prog w) [(key, vv)] → St k s₀ H L m' ((D, o) :: σ') s' → Q (.ref D) s'
theorem DictK.mk {D : Addr} {key : Str} {t : Tok} {vv : Value} (S : St k s₀ H L m ((D, dct0) :: σ) s) (h : ∀ o s', o.cls = .type "dict" → o.IsDictOf (PySem.strKind prog w) [(key, vv)] → St k s₀ H L m ((D, o) :: σ) s' → Q (.ref D) s') : DictK prog w k s₀ H L Q D (.str key t) vv s :=
  ⟨key, t, σ, m, rfl, S, h⟩
theorem e_dict1 {ke ve : Expr} {pos : Pos} (S : St k s₀ H L m σ s)
    (h : ∀ D s₁, St k s₀ H L m ((D, dct0) :: σ) s₁ → wpAny (model prog w) A (eval ke env) (fun kv s₂ => wpAny (model prog w) A (eval ve env) (fun vv s₃ => DictK prog w k s₀ H L Q D kv vv s₃) E s₂) E s₁) :
    wpAny (model prog w) A (eval (.Dict [some ke] [ve] pos) env) Q E s := by
  refine wpAny_Dict_walk (knd := PySem.strKind prog w) rfl rfl (by simp) (by simp) ?_
  refine pairTrees_cons_walk (wpAny_mono (h s.heap.objs.size _ (S.add (Kp.push s _) (get_size_none _) (Heap.get?_push_size _ rfl))) (fun kv s₂ h₂ => wpAny_mono h₂ (fun vv s₃ h₃ => pairTrees_nil_walk ?_) fun _ _ e => e) fun _ _ e => e)
  obtain ⟨key, t, σ', m', rfl, S', hq⟩ := h₃
  have g := S'.get (a := s.heap.objs.size) (o := dct0) List.mem_cons_self
  refine ⟨[(key, vv)], ⟨by simp [PySem.strKind, Value.isStrOf], rfl, trivial⟩, (Heap.DictOf.new (knd := PySem.strKind prog w) s.heap).at fun o e => ?_, fun h' hd hs => ?_⟩
  · rw [Heap.get?_push_size _ rfl] at e; cases e; exact g
  · obtain ⟨o, ho, hi⟩ := Heap.dictOf_iff.mp hd
    have hm : merged [] [(key, vv)] = [(key, vv)] := by simp [merged, stored]
    rw [hm] at hi
    obtain ⟨es, ep, he, r⟩ := id hi
    exact hq o _ he.1 hi (S'.turn (σ₁ := []) (fun b x hb e => hs.extBut b x hb e) ho)
theorem paired_right {α β : Type} {F : β → Prop} : ∀ {l : List α} {r : List β}, Paired (fun _ y => F y) l r → ∀ y ∈ r, F y
  | _, _, .nil => fun _ h => (List.not_mem_nil h).elim
  | _, _, .cons h r => fun y hy => by
    rcases List.mem_cons.mp hy with rfl | hy
    · exact h
    · exact paired_right r y hy
theorem walks_lt {I : Addr} {fp wr : List Addr} {n : Nat} {P : Nat → Value → Prop} {Ti : Nat → Heap → Prop} (W : Walks prog w A I fp wr n P Ti) : Walks prog w A I fp wr n (fun i v => i < n ∧ P i v) Ti :=
  ⟨W.sub, W.frame, fun i s Q E hi st hQ => W.item i s Q E hi st fun v h' tk hP => hQ v h' tk ⟨hi, hP⟩, W.done, W.self⟩
/-- what is known behind a list of n items -/
def RangePost (k : Bool) (s₀ : Shared) (H : Addr → Obj → Prop) (L : Addr) (m : Str → Option Value) (σ : List (Addr × Obj)) (n : Int) (F : Value → Prop) (v : Value) (s' : Shared) : Prop :=
  ∃ D ys c, v = .ref D ∧ ys.length = n.toNat ∧ (∀ y ∈ ys, F y) ∧ St k s₀ H L m ((D, lst ys c) :: σ) s'
/-- [elt for x in range(n)]: what is true of each item -/
theorem comp_range {elt : Expr} {x : Str} {scope : Scope} {cl : List (Str × Addr)} {n : Int} {t : Tok} (F : Value → Prop)
    (S : St k s₀ H L m σ s) (hh : A.handled = none) (h0 : 0 ≤ n) (hn : n ≤ 1000)
    (turn : ∀ (E' : Value → Shared → Prop) C (i : Nat) u m₃ s₃, (i : Int) < n → (∀ b o, s.heap.get? b = some o → s₃.heap.get? b = some o) → St false s₃ (fun b o => s₃.heap.get? b = some o) C m₃ [] s₃ → m₃ x = some (.int i u) →
      wpAny (model prog w) A (eval elt (compEnvC scope cl C env)) (fun y s₄ => F y ∧ Kp s₃ s₄) E' s₃)
    (hQ : ∀ D ys c s', ys.length = n.toNat → (∀ y ∈ ys, F y) → St k s₀ H L m ((D, lst ys c) :: σ) s' → Q (.ref D) s') :
    wpAny (model prog w) A (call (.type "range") [.int n t]) (fun xv s₁ => wpAny (model prog w) A (pyIter xv) (fun it s₂ => ∃ I fp wr n P Ti, it = .ref I ∧ Walks prog w A I fp wr n P Ti ∧ n ≤ sizeLine ∧ Ti 0 s₂.heap ∧ (∀ b ∈ fp, b < s₂.heap.objs.size) ∧
      QuietOnC prog w A env scope cl x [] elt wr P (fun _ => true) (fun _ y => F y) s₂ ∧
      (∀ D h' tk ys (vs : List Value), s₂.heap.get? D = none → h'.IsList D ys → h'.PlainList D ys → vs.length = n → (∀ j v, vs[j]? = some v → P j v) → Paired (fun _ y => F y) (vs.filter fun _ => true) ys.toList →
        (∀ b o, b ∉ wr → s₂.heap.get? b = some o → h'.get? b = some o) → Q (.ref D) { s₂ with heap := h', toks := tk })) E s₁) E s := by
  refine call_range_1 (wpAny_pyIter_range (IsRange.new ..) (small_one (by decide) (by decide) (by omega) (by omega)) ?_)
  let s1 : Shared := { s with heap := s.heap.push { cls := .type "range", data := .fields #[.int 0 s.toks, .int n t, .int 1 (s.toks + 1)] }, toks := s.toks + 1 + 1 }
  have K1 : Kp s s1 := (Kp.push s _).trans (Kp.tok _ _)
  have nI := get_size_none s1.heap
  have ne : ∀ b o, s.heap.get? b = some o → b ∉ [s1.heap.objs.size] := fun b o e hm => by
    rcases List.mem_cons.mp hm with rfl | hm
    · rw [K1.keep _ _ e] at nI; cases nI
    · cases hm
  refine ⟨_, _, _, n.toNat, _, _, rfl, walks_lt (Walks.range hh _ 0 1 n.toNat), by rw [sizeLine_eq]; omega, ?_, ?_, ⟨?_, ?_⟩, ?_⟩
  · have e1 : (0 + ((0 : Nat) : Int) * 1) = 0 := by simp
    have e2 : ((n.toNat : Int) - ((0 : Nat) : Int)) = Builtin.Range.rangeSize 0 n 1 := by rw [range_size]; simp
    show IsRangeIter _ _ (0 + ((0 : Nat) : Int) * 1) ((n.toNat : Int) - ((0 : Nat) : Int)) 1
    rw [e1, e2]
    exact Heap.get?_push_size _ rfl
  · intro b hb
    rcases List.mem_cons.mp hb with rfl | hb
    · exact Nat.lt_of_lt_of_eq (Nat.lt_succ_self s1.heap.objs.size) (Heap.size_push s1.heap _).symm
    · cases hb
  · intro C i v s₃ m₃ E' _ _ _ _ _ _
    exact wpAny_tests_nil ⟨rfl, (Kp.refl _).toKeeps⟩
  · intro C i v s₃ m₃ E' hCs hP _ hn hm hk _
    obtain ⟨hi, u, rfl⟩ := hP
    exact wpAny_mono (turn E' C i u m₃ s₃ (by omega) (fun b o e => hk b o (ne b o e) (Heap.get?_push_of_some _ (K1.keep b o e))) (startR hn) (by simpa using hm)) (fun y s₄ h₄ => ⟨h₄.1, h₄.2.toKeeps⟩) fun _ _ e => e
  · intro D h' tk ys vs hD _ hpl hlen hP hF hk
    obtain ⟨c, hpl⟩ := hpl
    have kp : Kp s { s with heap := h', toks := tk } := Kp.mk' fun b o e => hk b o (ne b o e) (Heap.get?_push_of_some _ (K1.keep b o e))
    have hD' : s.heap.get? D = none := by
      cases e : s.heap.get? D with
      | none => rfl
      | some o => rw [show ((s1.heap.push _).get? D = some o) from Heap.get?_push_of_some _ (K1.keep _ _ e)] at hD; cases hD
    refine hQ D ys.toList c _ ?_ ?_ (S.add kp hD' (by simpa using hpl))
    · rw [← hF.length, List.filter_eq_self.mpr fun _ _ => rfl, hlen]
    · exact paired_right hF
/-- ''.join(e) -/
theorem e_join {x : Str} {kk : Nat} {e : Expr} {p apos pos : Pos} (S : St k s₀ H L m σ s) (hline : (apos.endLine == pos.line) = true)
    (h : ∀ t s₁, St k s₀ H L m σ s₁ → wpAny (model prog w) A (eval e env) (fun v s₂ => wpAny (model prog w) A (call (.builtin "str.join") [.str x t, v]) Q E s₂) E s₁)
    (hbase : attributeBase (.Constant (.str x) kk p) (Str.ofString "join") env (eval (.Constant (.str x) kk p) env) = eval (.Constant (.str x) kk p) env := by with_unfolding_all rfl) (hs : starEach [e] env = [(false, eval e env)] := by with_unfolding_all rfl) :
    wpAny (model prog w) A (eval (.Call (.Attribute (.Constant (.str x) kk p) (Str.ofString "join") apos) [e] [] pos) env) Q E s := by
  refine Call_method1 hbase hs hline (r_str S fun t s₁ S₁ => ?_)
  refine ⟨"str", "str.join", F.plainAttrs_str, F.slot_str_join, F.type_str_join, typeIs_str _ _ _, (fun a e => by cases e), ?_⟩
  exact Calls.callWith_builtin rfl (Calls.evalArgs_plain (Calls.spliced_cons (wpAny_mono (h t s₁ S₁) (fun y s₂ h₂ => Calls.spliced_nil h₂) fun _ _ e => e)))
def IsOne (v : Value) : Prop := ∃ c t, v = .str ⟨#[c]⟩ t
theorem ones_of : ∀ {ys : List Value}, (∀ y ∈ ys, IsOne y) → ∃ l : List (Str × Tok), strValues l = ys ∧ ((l.map (·.1)).map (·.length)).sum = ys.length ∧ l.length = ys.length
  | [], _ => ⟨[], rfl, rfl, rfl⟩
  | y :: ys, h => by
    obtain ⟨l, h1, h2, h3⟩ := ones_of (ys := ys) fun y hy => h y (List.mem_cons_of_mem _ hy)
    obtain ⟨c, t, rfl⟩ := h y List.mem_cons_self
    refine ⟨(⟨#[c]⟩, t) :: l, ?_, ?_, by simp [h3]⟩
    · simp only [strValues, List.map_cons] at h1 ⊢; rw [h1]
    · simp only [List.map_cons, List.sum_cons, List.length_cons, h2]
      show 1 + ys.length = ys.length + 1
      omega
theorem r_join {D : Addr} {ys : List Value} {t : Tok} (S : St k s₀ H L m σ s) (hl : s.heap.IsList D ys.toArray) (hys : ∀ y ∈ ys, IsOne y) (hlen : ys.length ≤ 1000) (h : ∀ x t' s', x.length ≤ ys.length → St k s₀ H L m σ s' → Q (.str x t') s') :
    wpAny (model prog w) A (call (.builtin "str.join") [.str (Str.ofString "") t, .ref D]) Q E s := by
  obtain ⟨l, h1, h2, h3⟩ := ones_of hys
  refine SC.join (l := l) (by rw [h1]; exact hl) rfl (joinOk_of_weight (by rw [h2, List.length_map, h3]; omega) (by decide)) fun t' kk => h _ _ _ ?_ (S.kp (Kp.tok s kk))
  have e := StrLaws.join_length_le (Str.ofString "") (l.map (·.1))
  rw [h2] at e
  have z : (Str.ofString "").length = 0 := by decide
  rw [z] at e
  show (Builtin.Str.glued (Str.ofString "") (l.map (·.1))).length ≤ _
  rw [StrLaws.glued_eq_join]
  omega
end
end Mine
end
section
open PySem PySem.W PyProof.Rows
set_option Elab.async false
namespace Mine
/-- the frames of a stack stand in h -/
def FF (h : Heap) (l : List Env) : Prop := ∀ env ∈ l, env.scope.kind ≠ .module ∧ ∃ L o, env.frame = some L ∧ h.get? L = some o ∧ ∀ vs, o.data ≠ .fields vs
theorem FF.fun {h base : Heap} : ∀ {l : List Env}, FF h l → (∀ env ∈ l, ∀ a, env.frame = some a → base.get? a = none) → h.FunFrames base l
  | [], _, _ => trivial
  | env :: l, f, n => by
    obtain ⟨hk, L, o, hf, ho, hd⟩ := f env (.head _)
    exact ⟨hk, ⟨L, o, hf, n env (.head _) L hf, ho, hd⟩, FF.fun (fun e he => f e (.tail _ he)) fun e he => n e (.tail _ he)⟩
theorem FF.keeps {h h' : Heap} {l : List Env} (f : FF h l) (k : ∀ b o, h.get? b = some o → h'.get? b = some o) : FF h' l := fun env he => by
  obtain ⟨hk, L, o, hf, ho, hd⟩ := f env he
  exact ⟨hk, L, o, hf, k _ _ ho, hd⟩
theorem FF.slots {h h' : Heap} {l : List Env} (f : FF h l) (k : h.UpToSlots h') : FF h' l := fun env he => by
  obtain ⟨hk, L, o, hf, ho, hd⟩ := f env he
  obtain ⟨sl, hs⟩ := k _ _ ho hd
  exact ⟨hk, L, _, hf, hs, hd⟩
def frs (l : List Env) : List Addr := l.filterMap (·.frame)
/-- what a flying exception keeps -/
abbrev hid (h : Heap) (l : List Env) : Heap := hideAll h (frs l)
theorem hid_none {h : Heap} {l : List Env} : ∀ env ∈ l, ∀ a, env.frame = some a → (hid h l).get? a = none := fun env he a ha => hideAll_none _ (List.mem_filterMap.mpr ⟨env, he, ha⟩)
structure Stk (A : Around) (l : List Env) (h : Heap) : Prop where
  fr : A.frames = some l
  ff : FF h l
theorem Stk.keeps {A : Around} {l : List Env} {h h' : Heap} (f : Stk A l h) (k : ∀ b o, h.get? b = some o → h'.get? b = some o) : Stk A l h' := ⟨f.fr, f.ff.keeps k⟩
/-- an exception of the class C flies out of a call that began in s -/
def Fly (l : List Env) (C : Value) (s : Shared) (e : Value) (s' : Shared) : Prop :=
  ∃ ea a0, e = .ref ea ∧ Same s s' ∧ s.heap.UpToSlots s'.heap ∧ Heap.FlyingW (hid s.heap l) l ea C a0 s'.heap
/-- the frame at L has noted it -/
def FlyH (l : List Env) (L : Addr) (C : Value) (s : Shared) (e : Value) (s' : Shared) : Prop :=
  ∃ ea a0, e = .ref ea ∧ Same s s' ∧ s.heap.UpToSlots s'.heap ∧ Heap.HeldW (hid s.heap l) l ea C a0 L s'.heap
theorem heldW_base' {base B h : Heap} {l : List Env} {e L : Addr} {cls a0 : Value} (k : base.StaysIn B) (x : Heap.HeldW B l e cls a0 L h) : Heap.HeldW base l e cls a0 L h := heldW_base k x
section
variable {M : Model} {prog : Program} {w : World} {A : Around} {E : Value → Shared → Prop} {s₀ s s₁ : Shared} {H : Addr → Obj → Prop} {L : Addr} {m : Str → Option Value} {σ : List (Addr × Obj)} {env : Env}
  {mg mb : Str → Option Value} {q : Str} {sc : Scope} {f : Addr} {cd : Value} {l : List Env} {C : Value} {e : Value}

theorem St.dictL {k : Bool} (S : St k s₀ H L m σ s) : ∃ o, s.heap.get? L = some o ∧ ∀ vs, o.data ≠ .fields vs := by
  obtain ⟨o, es, ep, ho, hd, _⟩ := S.ns
  exact ⟨o, ho, fun vs q => by rw [hd] at q; cases q⟩
theorem Stk.deeper {k : Bool} (T : Stk A l s.heap) (S : St k s (fun b o => s.heap.get? b = some o) L m σ s₁) (hk : sc.kind = .function) : Stk (A.deeper (envOf q sc L f cd)) (envOf q sc L f cd :: l) s₁.heap := by
  refine ⟨Around.frames_deeper T.fr, fun env he => ?_⟩
  rcases List.mem_cons.mp he with rfl | he
  · obtain ⟨o, ho, hd⟩ := S.dictL
    exact ⟨(by show sc.kind ≠ .module; rw [hk]; intro q; cases q), L, o, rfl, ho, hd⟩
  · exact T.ff.keeps S.keep env he
theorem St.noL (S : St true s (fun b o => s.heap.get? b = some o) L m σ s₁) : s.heap.get? L = none := by
  cases e : s.heap.get? L with
  | none => rfl
  | some o => exact absurd e (S.keepL rfl o)
/-- what is left to do when an exception leaves a def -/
def lvE (prog : Program) (w : World) (A : Around) (env : Env) (E : Value → Shared → Prop) : Value → Shared → Prop :=
  fun e s' => wpAny (model prog w) (A.deeper env) (leaving env e) (fun _ s'' => E e s'') (fun e' s'' => E e' s'') s'
/-- .. a loop -/
def fbE (prog : Program) (w : World) (A : Around) (env : Env) (E : Value → Shared → Prop) : Value → Shared → Prop :=
  notedBy (model prog w) A env fun e s' => cameBackBy (model prog w) A env E e s'
theorem hid_stays (S : St true s (fun b o => s.heap.get? b = some o) L m σ s₁) : (hid s.heap l).StaysIn (hid s₁.heap (envOf q sc L f cd :: l)) := fun b o e => by
  have e1 := of_hideAll _ e
  refine hideAll_get _ (S.keep _ _ e1) fun hm => ?_
  rcases List.mem_cons.mp (show b ∈ L :: frs l from hm) with rfl | hm
  · rw [S.noL] at e1; cases e1
  · rw [hideAll_none _ hm] at e; cases e
/-- made here -/
theorem lv_made {ea : Addr} {vs : List Value} {h' : Heap} (T : Stk A l s.heap) (S : St true s (fun b o => s.heap.get? b = some o) L m σ s₁) (hx : Heap.MadeExcOf s₁.heap h' ea C vs) (hk : sc.kind = .function)
    (hE : ∀ s'', Fly l C s (.ref ea) s'' → E (.ref ea) s'') : lvE prog w A (envOf q sc L f cd) E (.ref ea) { s₁ with heap := h' } := by
  have T1 := T.deeper (q := q) (sc := sc) (f := f) (cd := cd) S hk
  refine wpAny_leaves_madeW (base := hid s.heap l) (h := s₁.heap) (outer := l) (L := L) T1.fr rfl (fun b o e => S.keep _ _ (of_hideAll _ e)) (T1.ff.fun fun env he a ha => ?_) hx fun h'' t x1 x2 x3 x4 => hE _ ⟨ea, _, rfl, S.same.trans ⟨rfl, rfl, rfl⟩, ?_, x1⟩
  · rcases List.mem_cons.mp he with rfl | he
    · cases ha
      cases e : (hid s.heap l).get? L with
      | none => rfl
      | some o => have := of_hideAll _ e; rw [S.noL] at this; cases this
    · exact hid_none env he a ha
  · exact ((Heap.UpToSlots.of_keeps S.keep).trans (Heap.UpToSlots.of_keeps hx.keeps)).trans x4
theorem Fly.less {s' : Shared} (S : St true s (fun b o => s.heap.get? b = some o) L m σ s₁) (F : Fly (envOf q sc L f cd :: l) C s₁ e s') : ∃ ea a0, e = .ref ea ∧ Same s s' ∧ s.heap.UpToSlots s'.heap ∧ Heap.FlyingW (hid s.heap l) (envOf q sc L f cd :: l) ea C a0 s'.heap := by
  obtain ⟨ea, a0, he, sm, up, fl⟩ := F
  exact ⟨ea, a0, he, S.same.trans sm, (Heap.UpToSlots.of_keeps S.keep).trans up, flyingW_base (hid_stays S) fl⟩
/-- it leaves the next def -/
theorem lv_fly {s' : Shared} (T : Stk A l s.heap) (S : St true s (fun b o => s.heap.get? b = some o) L m σ s₁) (F : Fly (envOf q sc L f cd :: l) C s₁ e s') (hE : ∀ s'', Fly l C s e s'' → E e s'') :
    lvE prog w A (envOf q sc L f cd) E e s' := by
  obtain ⟨ea, a0, rfl, sm, up, fl⟩ := F.less S
  exact wpAny_leaves_onW (L := L) (Around.frames_deeper T.fr) rfl fl fun h' x1 x2 => hE _ ⟨ea, a0, rfl, sm.trans ⟨rfl, rfl, rfl⟩, up.trans x2, x1⟩
theorem lv_held {s' : Shared} {ea : Addr} {a0 : Value} (sm : Same s s') (up : s.heap.UpToSlots s'.heap) (fl : Heap.HeldW (hid s.heap l) (envOf q sc L f cd :: l) ea C a0 L s'.heap) (hE : ∀ s'', Fly l C s (.ref ea) s'' → E (.ref ea) s'') :
    lvE prog w A (envOf q sc L f cd) E (.ref ea) s' := by
  unfold lvE leaving
  refine wpAny_bind (wpAny_noteFrame_againW (L := L) rfl fl.2.2.2 ?_)
  refine wpAny_landsW fl fun h' hfl x2 => ?_
  obtain ⟨k1, k2, ⟨_, _, k3⟩, k4⟩ := hfl
  exact hE _ ⟨ea, a0, rfl, sm.trans ⟨rfl, rfl, rfl⟩, up.trans x2, k1, k2, k3, k4⟩
theorem setFlight_heldW {base : Heap} {ea : Addr} {a0 : Value} {Q : Unit → Shared → Prop} (R : Heap.HeldW base l ea C a0 L s.heap)
    (h : ∀ h', Heap.HeldW base l ea C a0 L h' → s.heap.UpToSlots h' → Q () { s with heap := h' }) : wpAny M A (setFlight (.ref ea) (some L)) Q E s := by
  obtain ⟨hkb, hen, hl, oe, vs, T, oT, ts, he, hcls, hd, h1, hnT, hTe, hT, hdT, h3⟩ := R
  have hsz3 : 3 < ts.size := (Array.getElem?_eq_some_iff.mp h3).1
  have other : ∀ b, b ≠ T → (s.heap.update T (Obj.mapFields (·.setIfInBounds 3 ((some L).elim Value.none fun f => rawInt f)))).get? b = s.heap.get? b :=
    fun b hb => Heap.get?_update_other _ _ (Ne.symm hb)
  have noRecord : ∀ b o, s.heap.get? b = some o → (∀ vs, o.data ≠ .fields vs) → b ≠ T := fun b o hb hnf q => by
    rw [q, hT] at hb; injection hb with hb; subst hb; exact hnf ts hdT
  unfold setFlight
  refine wpAny_bind (wpAny_field he hd h1 ?_)
  rw [if_pos (show (Value.ref T != Value.none) = true from by simp)]
  refine wpAny_setField hT hdT hsz3 (h _ ⟨fun b o hbo => (other b fun q => by rw [q, hnT] at hbo; cases hbo).trans (hkb b o hbo), hen,
    hl.of_keeps fun b o hb hnf => ⟨o, (other b (noRecord b o hb hnf)).trans hb, rfl⟩, ?_⟩ fun b o hb hnf => ⟨o.slots, (other b (noRecord b o hb hnf)).trans hb⟩)
  exact ⟨oe, vs, T, _, _, (other ea (Ne.symm hTe)).trans he, hcls, hd, h1, hnT, hTe, Heap.get?_update_self _ hT (Obj.isFreed_of_fields (Obj.data_mapFields hdT _)), Obj.data_mapFields hdT _, by simp [hsz3]⟩
/-- out of a loop of a def, and out of the def -/
theorem fb_fly {s' : Shared} (T : Stk A l s.heap) (S : St true s (fun b o => s.heap.get? b = some o) L m σ s₁) (F : Fly (envOf q sc L f cd :: l) C s₁ e s') (hE : ∀ s'', Fly l C s e s'' → E e s'') :
    fbE prog w (A.deeper (envOf q sc L f cd)) (envOf q sc L f cd) (lvE prog w A (envOf q sc L f cd) E) e s' := by
  obtain ⟨ea, a0, rfl, sm, up, fl⟩ := F.less S
  refine wpAny_looks_onW (L := L) (Around.frames_deeper T.fr) rfl fl fun h' x1 x2 => ?_
  unfold cameBackBy
  obtain ⟨g1, g2, g3, oe, ws, Tb, oT, ts, he, hc, hd, h1, g4⟩ := id x1
  refine wpAny_bind (wpAny_field he hd h1 ?_)
  rw [if_neg (show ¬ ((Value.ref Tb == Value.none) = true) from by simp)]
  first
    | exact wpAny_bind (wpAny_pure (setFlight_heldW x1 fun h'' y1 y2 => lv_held (sm.trans ⟨rfl, rfl, rfl⟩) ((up.trans x2).trans y2) y1 hE))
    | exact setFlight_heldW x1 fun h'' y1 y2 => lv_held (sm.trans ⟨rfl, rfl, rfl⟩) ((up.trans x2).trans y2) y1 hE
end
end Mine
end
section
open PySem PySem.W PyProof.Rows
set_option Elab.async false
namespace Mine
section
variable {M : Model} {prog : Program} {w : World} {A : Around} {E : Value → Shared → Prop} {s₀ s s₁ : Shared} {H : Addr → Obj → Prop} {L : Addr} {m : Str → Option Value} {σ : List (Addr × Obj)} {env : Env}
  {mg mb : Str → Option Value} {q : Str} {sc : Scope} {f : Addr} {cd : Value} {l : List Env} {K : Frag}
/-- enter a def that may raise -/
theorem enterX (names : List Str) {fa : Addr} {name qual : Str} {params : Arguments} {body : List Stmt} {scope : Scope} {dV kV doc pm cdv ct oc : Value} {an od : Option Addr} {osl : Array (Option Value)} {args : List Value} {Q : Value → Shared → Prop}
    (G : Gd (fun a o => K.lookup a = some o) mg mb s.heap) (hf : K.lookup fa = some ⟨oc, od, .func (fnD name qual params body scope dV kV doc pm an cdv ct), osl⟩) (hcd : codeIn K cdv qual = true)
    {n : Nat} (r : Rm A (n + 1))
    (hb : bindArgs (fnD name qual params body scope dV kV doc pm an cdv ct) ⟨args, []⟩ = pure (names.zip args)) (hloc : (names.all fun x => decide (scope.names.lookup x = some .local)) = true)
    (hcell : (scope.names.all fun x => x.2 != .cell) = true) (hco : scope.isCoroutine = false) (hgen : scope.isGenerator = false) (hk : scope.kind = .function)
    (h : ∀ L s' m, m = (fun x => (names.zip args).reverse.lookup x) → St true s (fun b o => s.heap.get? b = some o) L m [] s' → GdH (fun a o => K.lookup a = some o) mg mb (fun b o => s.heap.get? b = some o) → Rm (A.deeper (envOf qual scope L fa cdv)) n →
      wpAny (model prog w) (A.deeper (envOf qual scope L fa cdv)) (execs body (envOf qual scope L fa cdv)) (retK Q) (lvE prog w A (envOf qual scope L fa cdv) E) s') :
    wpAny (model prog w) A (call (.ref fa) args) Q E s := by
  have hloc' : ∀ x ∈ names.zip args, scope.names.lookup x.1 = some .local := fun x hx => of_decide_eq_true (List.all_eq_true.mp hloc x.1 (List.of_mem_zip hx).1)
  have hcell' : ∀ x ∈ scope.names, x.2 ≠ .cell := fun x hx => by
    have := List.all_eq_true.mp hcell x hx
    simpa using this
  refine wpAny_call (codeAny_call_function (fd := fnD name qual params body scope dV kV doc pm an cdv ct) (by have := r.dep; show A.depth < 1000; omega) (G.X _ _ hf) rfl hco hgen rfl (codeRec_of (fun a o e => G.X a o e) hcd) ?_)
  rw [hb]
  refine wpAny_pure (wpAny_newFunctionEnv hcell' hloc' (fun h₀ hns₀ hsb₀ => ⟨G.lim.fresh _ hsb₀, codeAny_func ?_⟩) hk)
  have hk' : ∀ b o, s.heap.get? b = some o → h₀.get? b = some o := fun b o e => hsb₀.extBut b o (Nat.ne_of_lt (Heap.lt_size e)) (Heap.get?_push_of_some _ e)
  refine wpAny_mono (h s.heap.objs.size _ _ rfl ⟨⟨rfl, rfl, rfl⟩, hns₀, hk', fun _ o e => ?_, (fun p hp => (List.not_mem_nil hp).elim), List.nodup_nil⟩ G.toH (r.deeper _)) (fun fl s' h' => ?_) fun _ _ x => x
  · exact absurd (Heap.lt_size e) (Nat.lt_irrefl _)
  · cases fl <;> exact h'
theorem own_of_K {h : Heap} {x : Str} {C : Addr} {bmB : List Value} {newId : String} (X : ∀ a o, K.lookup a = some o → h.get? a = some o) (e : mg x = some (.ref C)) (q : excIn K C bmB newId = true) : OwnCls x C bmB newId mg h := by
  refine ⟨e, ?_⟩
  unfold excIn at q
  split at q
  · rename_i dd cd sl ho
    split at q
    · rename_i C' bm k0 k1 k2 k3 n k5 hm hs
      simp only [Bool.and_eq_true, beq_iff_eq, Bool.not_eq_true'] at q
      obtain ⟨⟨⟨⟨⟨rfl, rfl⟩, hdel⟩, ht⟩, hok⟩, hni⟩ := q
      obtain ⟨nm, bs, mro, ns, qn, hd, sn, sub, ab, col, del⟩ := cd
      dsimp only at hm hdel hok hni
      subst hm hdel
      have hsl : sl = #[k0, k1, k2, k3, some (.builtin n), k5] := by
        obtain ⟨l⟩ := sl
        simp only at hs
        rw [hs]
      subst hsl
      exact ⟨bm, ns, nm, qn, bs, hd, sn, sub, ab, col, dd, k0, k1, k2, k3, k5, _, X _ _ ho, .of_isNs (isNs_of_in X hok), nsMap_none_of_in X hok hni, tail_of_in X ht⟩
    · cases q
  · cases q
/-- raise X('..') -/
theorem x_raise {x : Str} {C : Addr} {np cp cpos pos : Pos} {msg : Str} {kk : Nat} {rest : List Stmt} {Q : Flow → Shared → Prop} (S : St true s₀ H L m σ s) (G : GdH (fun a o => K.lookup a = some o) mg mb H) (hv : mg x = some (.ref C))
    (hx : excIn K C [.type "ValueError", .type "Exception", .type "BaseException", .type "object"] "ValueError.__new__" = true) (hh : A.handled = none)
    (h : ∀ t s₁ h' e, St true s₀ H L m σ s₁ → Heap.MadeExcOf s₁.heap h' e (.ref C) [.str msg t] → E (.ref e) { s₁ with heap := h' })
    (hc : (env.scope.kind == .function && env.scope.names.lookup x == some .globalImplicit && !(x == ("__debug__" : Str))) = true) (hg : env.globals = mainGlobals := by with_unfolding_all rfl)
    (hs : backTo cpos (starEach [.Constant (.str msg) kk cp] env) = [(false, eval (.Constant (.str msg) kk cp) env)] := by with_unfolding_all rfl) :
    wpAny (model prog w) A (execs (.Raise (some (.Call (.Name x np) [.Constant (.str msg) kk cp] [] cpos)) none pos :: rest) env) Q E s := by
  have O := own_of_K (S.gd G).X hv hx
  have FB := PySem.F.excBase_ValueError
  obtain ⟨tl, N, nm, q, bs, hdct, sn, sub, ab, col, dd, k0, k1, k2, k3, k5, mN, hC, hN, hni, T⟩ := O.obj
  refine x_cons (wpAny_Raise_call_subU (C := C) (nm := nm) (q := q) (N := N) (bs := bs) (bm := tl) (hdct := hdct) (sn := sn) (sub := sub) (ab := ab) (col := col) (dd := dd) (k0 := k0) (k1 := k1) (k2 := k2) (k3 := k3) (k5 := k5)
    FB (by decide +kernel) FB (mN := mN) (T.hasType FB.hasBase) hh (by rw [hs]; rfl) hni (r_glob S G hv ⟨rfl, ?_⟩ hc hg))
  rw [hs]
  refine Calls.evalArgs_plain (Calls.spliced_cons (Calls.Constant_str (Calls.spliced_nil ?_)))
  have kp := Kp.tok s (s.toks + 1)
  exact ⟨rfl, (by show 1 ≤ sizeLine; decide), hC, hN, T, fun h' e hm => h _ _ h' e (S.kp kp) hm⟩
end
end Mine
end
section
open PySem PySem.W PyProof.Rows
set_option Elab.async false
namespace Mine
section
variable {prog : Program} {w : World} {A : Around} {E : Value → Shared → Prop} {s₀ s : Shared} {H : Addr → Obj → Prop} {L : Addr} {m : Str → Option Value} {σ : List (Addr × Obj)} {env : Env}
/-- .. whose turns may raise -/
theorem forLoop_StX {I : Addr} {fp wr : List Addr} {n : Nat} {P : Nat → Value → Prop} {Ti : Nat → Heap → Prop} (W : Walks prog w A I fp wr n P Ti)
    (hex : ∀ i h, Ti i h → ∀ b ∈ fp, ∃ o, h.get? b = some o)
    (J : Nat → (Str → Option Value) → List (Addr × Obj) → Prop) {x : Str} {px : Pos} {body : List Stmt} {q : Str} {sc : Scope} {f : Addr} {cd : Value} {Q : Flow → Shared → Prop} {R : Result → Shared → Prop}
    (S : St true s₀ H L m σ s) (hT : Ti 0 s.heap) (hfp : ∀ b ∈ fp, b ≠ L ∧ b ∉ σ.map (·.1)) (hwr : ∀ b ∈ wr, ∀ o, ¬ H b o) (h0 : J 0 m σ)
    (hk : sc.kind = .function) (hx : sc.names.lookup x = some .local)
    (turn : ∀ i m' σ' s' v Hb, i < n → J i m' σ' → P i v → (∀ b o, H b o → Hb b o) → St true s₀ Hb L (upd m' x v) σ' s' →
      wpAny (model prog w) A (execs body (envOf q sc L f cd)) (turnK (J (i + 1)) s₀ Hb L Q) (notedBy (model prog w) A (envOf q sc L f cd) fun e s' => R (.error e) s') s')
    (done : ∀ m' σ' s', J n m' σ' → St true s₀ H L m' σ' s' → Q .next s') (hR : ∀ fl s', Q fl s' → R (.ok fl) s') :
    codeAny (model prog w) A (.forLoop (.Name x px) (.ref I) body [] (envOf q sc L f cd)) R s := by
  refine codeAny_forLoop (fun k s => ∃ i m σ, k = n - i ∧ i ≤ n ∧ J i m σ ∧ St true s₀ H L m σ s ∧ Ti i s.heap ∧ ∀ b ∈ fp, b ≠ L ∧ b ∉ σ.map (·.1)) (fun k s hI => ?_) n ⟨0, m, σ, by simp, Nat.zero_le _, h0, S, hT, hfp⟩
  obtain ⟨i, m, σ, rfl, hi, hJ, S, hT, hfp⟩ := hI
  have keepSt : ∀ (h' : Heap) (tk : Nat), (∀ b o, b ∉ wr → s.heap.get? b = some o → h'.get? b = some o) → St true s₀ H L m σ { s with heap := h', toks := tk } := fun h' tk hk' => by
    refine ⟨S.same.trans ⟨rfl, rfl, rfl⟩, ?_, fun b o e => hk' b o (fun q => hwr b q o e) (S.keep b o e), S.keepL, fun p hp => ⟨hk' _ _ (fun q => (hfp _ (W.sub _ q)).2 (List.mem_map.mpr ⟨p, hp, rfl⟩)) (S.own p hp).1, (S.own p hp).2⟩, S.nd⟩
    obtain ⟨oL, es, ep, hL, r⟩ := S.ns
    exact ⟨oL, es, ep, hk' _ _ (fun q => (hfp _ (W.sub _ q)).1 rfl) hL, r⟩
  rcases Nat.lt_or_eq_of_le hi with hlt | rfl
  · refine W.item i s _ _ hlt hT fun v h' tk hP hT' hk' => ?_
    have S1 := keepSt h' tk hk'
    have hfx : ∀ b ∈ fp, ∃ o, h'.get? b = some o := hex _ _ hT'
    have S2 : St true s₀ (fun b o => H b o ∨ (b ∈ fp ∧ h'.get? b = some o)) L m σ { s with heap := h', toks := tk } :=
      ⟨S1.same, S1.ns, fun b o e => e.elim (S1.keep b o) fun q => q.2, fun _ o e => e.elim (S1.keepL rfl o) fun q => (hfp _ q.1).1 rfl,
        fun p hp => ⟨(S1.own p hp).1, (S1.own p hp).2.1, fun o e => e.elim ((S1.own p hp).2.2 o) fun q => (hfp _ q.1).2 (List.mem_map.mpr ⟨p, hp, rfl⟩)⟩, S1.nd⟩
    refine wpAny_assign_Name (wpAny_storeName_local (env := envOf q sc L f cd) hx S2.ns (fun h'' hn hs => ?_) (by show (sc.kind == .class || (sc.kind == .module && L != mainGlobals)) = false; rw [hk]; rfl))
    have S3 := S2.set (tk := tk + 1) hn hs
    refine wpAny_mono (turn i m σ _ v _ hlt hJ hP (fun b o e => .inl e) S3) (fun fl s₃ h₃ => ?_) fun _ _ e => e
    have go : (∃ m σ, St true s₀ (fun b o => H b o ∨ (b ∈ fp ∧ h'.get? b = some o)) L m σ s₃ ∧ J (i + 1) m σ) →
        ∃ k, k < n - i ∧ ∃ i m σ, k = n - i ∧ i ≤ n ∧ J i m σ ∧ St true s₀ H L m σ s₃ ∧ Ti i s₃.heap ∧ ∀ b ∈ fp, b ≠ L ∧ b ∉ σ.map (·.1) := by
      rintro ⟨m'', σ'', S4, hJ'⟩
      refine ⟨n - (i + 1), by omega, i + 1, m'', σ'', rfl, hlt, hJ', S4.anti fun b o e => .inl e, W.frame _ _ _ hT' fun b hb o e => S4.keep b o (.inr ⟨hb, e⟩), fun b hb => ⟨(hfp b hb).1, fun hm => ?_⟩⟩
      obtain ⟨p, hp, rfl⟩ := List.mem_map.mp hm
      obtain ⟨o, ho⟩ := hfx _ hb
      exact (S4.own p hp).2.2 o (.inr ⟨hb, ho⟩)
    cases fl with
    | next => exact go h₃
    | cont => exact go h₃
    | brk => exact hR _ _ h₃
    | ret v => exact hR _ _ h₃
  · refine W.done s _ _ hT fun h' tk hk' => ?_
    exact wpAny_execs_nil (hR _ _ (done m σ _ hJ (keepSt h' tk hk')))

end
section
variable {prog : Program} {w : World} {A : Around} {E : Value → Shared → Prop} {s₀ s : Shared} {H : Addr → Obj → Prop} {L : Addr} {m : Str → Option Value} {σ : List (Addr × Obj)} {q : Str} {sc : Scope} {f : Addr} {cd : Value}
/-- for v in a list that stays -/
theorem for_listX {a : Addr} {vs : List Value} {n : Nat} {v : Str} {pv : Pos} {body : List Stmt} {Q : Flow → Shared → Prop} (J : Nat → (Str → Option Value) → List (Addr × Obj) → Prop)
    (S : St true s₀ H L m σ s) (hH : H a (lst vs n)) (hh : A.handled = none) (h0 : J 0 m σ) (hc : (sc.kind == .function && sc.names.lookup v == some .local) = true)
    (turn : ∀ i m' σ' s' x Hb, i < vs.length → vs[i]? = some x → J i m' σ' → (∀ b o, H b o → Hb b o) → St true s₀ Hb L (upd m' v x) σ' s' →
      wpAny (model prog w) A (execs body (envOf q sc L f cd)) (turnK (J (i + 1)) s₀ Hb L Q) (fbE prog w A (envOf q sc L f cd) E) s')
    (done : ∀ m' σ' s', J vs.length m' σ' → St true s₀ H L m' σ' s' → Q .next s') :
    wpAny (model prog w) A (pyIter (.ref a)) (fun it s₂ => codeAny (model prog w) A (.forLoop (.Name v pv) it body [] (envOf q sc L f cd))
      (fun r s' => match r with | .ok f => Q f s' | .error e => cameBackBy (model prog w) A (envOf q sc L f cd) E e s') s₂) E s := by
  simp only [Bool.and_eq_true, beq_iff_eq] at hc
  have hl := isL (S.keep _ _ hH)
  refine wpAny_pyIter_list hl ?_
  have nn := S.notNew (get_size_none s.heap)
  have hne : a ≠ s.heap.objs.size := fun e => nn.2.2 _ (e ▸ hH)
  have haL : a ≠ L := fun e => S.keepL rfl _ (e ▸ hH)
  have haσ : a ∉ σ.map (·.1) := fun hm => by obtain ⟨p, hp, e⟩ := List.mem_map.mp hm; exact (S.own p hp).2.2 _ (e ▸ hH)
  have W := Walks.list (prog := prog) (w := w) (A := A) hh s.heap.objs.size a hne vs.toArray
  rw [List.size_toArray] at W
  refine forLoop_StX W ?_ J (S.kp (Kp.push s _)) ⟨⟨_, Heap.get?_push_size _ rfl, rfl, rfl⟩, hl.push _⟩ ?_ ?_ h0 hc.1 hc.2 (fun i m' σ' s' v' Hb hi hJ hP hb S₂ => turn i m' σ' s' v' Hb hi (by simpa using hP) hJ hb S₂) done (fun _ _ h => h)
  · intro i h hTi b hb
    rcases List.mem_cons.mp hb with rfl | hb
    · obtain ⟨⟨o, ho, _⟩, _⟩ := hTi; exact ⟨o, ho⟩
    · rcases List.mem_cons.mp hb with rfl | hb
      · obtain ⟨_, o, ho, _⟩ := hTi; exact ⟨o, ho⟩
      · cases hb
  · intro b hb; rcases List.mem_cons.mp hb with rfl | hb
    · exact ⟨nn.1, nn.2.1⟩
    · rcases List.mem_cons.mp hb with rfl | hb
      · exact ⟨haL, haσ⟩
      · cases hb
  · intro b hb; rcases List.mem_cons.mp hb with rfl | hb
    · exact nn.2.2
    · cases hb

end
section
variable {prog : Program} {w : World} {A : Around} {E : Value → Shared → Prop} {s₀ s s₁ : Shared} {H : Addr → Obj → Prop} {L : Addr} {m : Str → Option Value} {σ : List (Addr × Obj)} {env : Env} {q : Str} {sc : Scope} {f : Addr} {cd : Value} {l : List Env} {K : Frag} {mg mb : Str → Option Value}
/-- what is left to do when an exception leaves a try's body -/
def tryE (prog : Program) (w : World) (A : Around) (env : Env) (hs : List ExceptHandler) (Q : Flow → Shared → Prop) (E : Value → Shared → Prop) : Value → Shared → Prop :=
  fun e s₁ => wpAny (model prog w) A (noteFrame e env) (fun _ s₂ => wpAny (model prog w) A (setFlight e none) (fun _ s₃ => wpAny (model prog w) A (handleBy e env hs) Q E s₃) E s₂) E s₁
theorem x_try {body rest : List Stmt} {h₀ : ExceptHandler} {hs : List ExceptHandler} {pos : Pos} {Q : Flow → Shared → Prop}
    (h : wpAny (model prog w) A (execs body env) (thenK prog w A rest env Q E) (tryE prog w A env (h₀ :: hs) (thenK prog w A rest env Q E) E) s) : wpAny (model prog w) A (execs (.Try body (h₀ :: hs) [] [] pos :: rest) env) Q E s :=
  x_cons (wpAny_Try_except (wpAny_mono h (fun f s₁ h₁ => by
    cases f with
    | next => exact wpAny_execs_nil h₁
    | ret v => exact h₁
    | brk => exact h₁
    | cont => exact h₁) fun _ _ x => x))
/-- of the frames of the stack none is kept or owned here -/
def Apart (l : List Env) (H : Addr → Obj → Prop) (σ : List (Addr × Obj)) : Prop := ∀ a ∈ frs l, (∀ o, ¬ H a o) ∧ a ∉ σ.map (·.1)
theorem Apart.nil : Apart [] H σ := fun _ h => (List.not_mem_nil h).elim
theorem St.fly {s' : Shared} (S : St true s₀ H L m σ s) (sm : Same s s') (k : (hid s.heap (envOf q sc L f cd :: l)).StaysIn s'.heap) (up : s.heap.UpToSlots s'.heap) (ap : Apart l H σ) : St true s₀ H L m σ s' := by
  have go : ∀ b o, s.heap.get? b = some o → b ≠ L → b ∉ frs l → s'.heap.get? b = some o := fun b o e n1 n2 => k b o (hideAll_get _ e fun hm => by
    rcases List.mem_cons.mp (show b ∈ L :: frs l from hm) with rfl | hm
    · exact n1 rfl
    · exact n2 hm)
  refine ⟨S.same.trans sm, up.ns S.ns, fun b o e => go b o (S.keep b o e) (fun q => S.keepL rfl o (q ▸ e)) fun hm => (ap b hm).1 o e, S.keepL, fun p hp => ⟨go _ _ (S.own p hp).1 (S.own p hp).2.1 fun hm => (ap _ hm).2 (List.mem_map.mpr ⟨p, hp, rfl⟩), (S.own p hp).2⟩, S.nd⟩
theorem looks_isType {M : Model} {h : Heap} {CB : Addr} {b : Value} {r : Bool} (X : K.In h) (h3 : mroIn K CB b = some r) : Looks M h (isType (.ref CB)) true := by
  obtain ⟨cd, a, _⟩ := Option.bind_eq_some_iff.mp h3
  unfold clsIn at a
  split at a
  · rename_i ho
    cases a
    exact (Looks.ld (part := none) (X _ _ ho)).andThen .now
  · cases a
theorem looks_exc {M : Model} {h : Heap} {ea C CB : Addr} {oe : Obj} (X : K.In h) (he : h.get? ea = some oe) (hcls : oe.cls = .ref C) (h1 : instIn K (.ref CB) (.type "tuple") = some false)
    (h3 : mroIn K CB (.type "BaseException") = some true) (h4 : mroIn K C (.ref CB) = some true) : Looks M h (excMatches (.ref ea) (.ref CB)) true := by
  have l1 := looks_instIn (M := M) X h1
  have l2 := looks_isType (M := M) X h3
  have l3 := looks_mroIn (M := M) X h3
  have l4 := looks_mroIn (M := M) X h4
  have l5 : Looks M h (typeOf (.ref ea)) (.ref C) := hcls ▸ (Looks.ld he).andThen .now
  have l6 : Looks M h (isExcClass (.ref CB)) true := by
    unfold isExcClass
    exact l2.andThen l3
  unfold excMatches
  refine l1.andThen ?_
  simp only [Bool.false_eq_true, if_false]
  refine Looks.now.andThen ?_
  simp only [List.forIn_cons, List.forIn_nil]
  refine Looks.andThen (a := PUnit.unit) ?_ ?_
  · refine Looks.andThen (a := ForInStep.yield PUnit.unit) ?_ .now
    refine l6.andThen ?_
    simp only [Bool.not_true, Bool.false_eq_true, if_false]
    exact .now
  refine l5.andThen ?_
  refine Looks.andThen (a := (some true, ())) ?_ .now
  refine Looks.andThen (a := ForInStep.done (some true, ())) ?_ .now
  refine l4.andThen ?_
  simp only [if_true]
  exact .now
/-- except X: -/
theorem catch_own {x : Str} {np hpos : Pos} {b₀ : Stmt} {suite : List Stmt} {hs : List ExceptHandler} {C CB : Addr} {e : Value} {s' : Shared} {Q : Flow → Shared → Prop}
    (hA : A.frames = some (envOf q sc L f cd :: l)) (S : St true s₀ H L m σ s) (G : GdH (fun a o => K.lookup a = some o) mg mb H) (ap : Apart l H σ) (F : Fly (envOf q sc L f cd :: l) (.ref C) s e s') (hv : mg x = some (.ref CB))
    (h1 : instIn K (.ref CB) (.type "tuple") = some false) (h3 : mroIn K CB (.type "BaseException") = some true) (h4 : mroIn K C (.ref CB) = some true)
    (hc : ((envOf q sc L f cd).scope.kind == .function && (envOf q sc L f cd).scope.names.lookup x == some .globalImplicit && !(x == ("__debug__" : Str))) = true)
    (k : ∀ (E' : Value → Shared → Prop) ea s'', St true s₀ H L m σ s'' → wpAny (model prog w) (A.mark (some (.ref ea))) (execs (b₀ :: suite) (envOf q sc L f cd)) Q E' s'') :
    tryE prog w A (envOf q sc L f cd) (.ExceptHandler (some (.Name x np)) none (b₀ :: suite) hpos :: hs) Q E e s' := by
  obtain ⟨ea, a0, rfl, sm, up, fl⟩ := F
  refine wpAny_looks_onW (L := L) hA rfl fl fun h₄ held up₄ => ?_
  refine wpAny_landsW held fun h₅ fl₅ up₅ => ?_
  have S₅ : St true s₀ H L m σ { s' with heap := h₅ } := S.fly (s' := { s' with heap := h₅ }) (q := q) (sc := sc) (f := f) (cd := cd) (sm.trans ⟨rfl, rfl, rfl⟩) fl₅.1 ((up.trans up₄).trans up₅) ap
  obtain ⟨ob, hob, hobc⟩ := fl₅.there
  refine wpAny_handleBy_cons (codeAny_handlers_test (r_glob S₅ G hv ?_ hc)) (by intro q; cases q)
  refine looks_exc (h := h₅) (S₅.gd G).X hob hobc h1 h3 h4 _ _ _ _ (fun _ _ e => e) ?_
  refine codeAny_handlers_suite ?_
  refine lands_againW fl₅ fun h₆ fl₆ up₆ => ?_
  exact k _ ea _ (S.fly (s' := { s' with heap := h₆ }) (q := q) (sc := sc) (f := f) (cd := cd) (sm.trans ⟨rfl, rfl, rfl⟩) fl₆.1 (((up.trans up₄).trans up₅).trans up₆) ap)
end
end Mine
end
section
open PySem PySem.W PyProof.Rows PySem.Calls Builtin Builtin.ObjectAttr Builtin.Getset_descriptor
set_option Elab.async false
set_option maxRecDepth 100000
set_option maxHeartbeats 2000000
namespace Mine
section
variable {M : Model} {prog : Program} {w : World} {A : Around} {E : Value → Shared → Prop} {s : Shared} {K : Frag} {x D C : Addr} {ox : Obj} {T : String}
theorem looks_cls {h : Heap} (he : h.get? x = some ox) (hc : ox.cls = .ref D) : ∀ M, Looks M h (typeOf (.ref x)) (.ref D) := fun _ => hc ▸ (Looks.ld he).andThen .now
theorem isiT_nested {v : Value} {dep : Int} {tk : Tok} {Q : Fin → Shared → Prop} (X : K.In s.heap) (ht : Looks M s.heap (typeOf v) (.ref D)) (hty : typeOf (.type T) = pure (.type "type")) (e : subIn K (.ref D) (.type T) = some true) (h : Q (.done (.ret (.bool true))) s) :
    wpAny M A (Builtin.«isinstance.nested» ⟨[v, .type T, .int dep tk], []⟩) Q E s := by
  obtain ⟨hh, g, d, tt, os⟩ := s
  unfold Builtin.«isinstance.nested»
  refine wpAny_bind (ht.at ?_)
  rw [if_neg (fun q => by cases beq_iff_eq.mp q)]
  have L1 : Looks M hh (typeOf (.type T)) (.type "type") := Looks.of_pure hty
  have L3 : Looks M hh (isInstance v (.type T)) true := ht.andThen (looks_subIn X e)
  refine wpAny_bind (L1.at ?_)
  rw [if_pos (by decide)]
  k_delta "plainIsInstance"
  unfold isType
  refine wpAny_bind (wpAny_bind (wpAny_pure ?_))
  simp only [Bool.not_true, Bool.false_eq_true, if_false]
  refine wpAny_bind (L3.at ?_)
  simp only [if_true]
  exact wpAny_pure (wpAny_pure h)
theorem isiT_call {v : Value} {Q : Value → Shared → Prop} (X : K.In s.heap) (ht : ∀ M, Looks M s.heap (typeOf v) (.ref D)) (hty : typeOf (.type T) = pure (.type "type")) (e : subIn K (.ref D) (.type T) = some true) (hx : v ≠ .builtin "__main__.__loader__#opaque") (h : Q (.bool true) s) :
    wpAny (model prog w) A (call (.builtin "isinstance") [v, .type T]) Q E s :=
  call_isinstance (S := fun _ R s => (K.In s.heap ∧ ∀ M, Looks M s.heap (typeOf v) (.ref D)) ∧ R (.ok (.ret (.bool true))) s) (fun _ _ _ _ _ hs => isinstance_outer (isiT_nested hs.1.1 (hs.1.2 _) hty e hs.2) hx) ⟨⟨X, ht⟩, h⟩
variable (hga : findIn K (.ref D) "__getattribute__" = some (some (.builtin "BaseException.__getattribute__"))) (hgt : findIn K (.ref D) "__getattr__" = some none) (ha : findIn K (.ref D) "__class__" = some (some (.builtin "object.__class__")))
  (hn : specialIn K (.builtin "object.__class__") "__get__" = some (some (.builtin "getset_descriptor.__get__"))) (htk : takesIn K (.builtin "object.__class__") = some true) (hm : mroIn K D (.type "object") = some true) (hme : mroIn K D (.type "BaseException") = some true)
include hm
theorem exc_class_ {R : Result → Shared → Prop} (X : K.In s.heap) (he : s.heap.get? x = some ox) (hc : ox.cls = .ref D) (h : R (.ok (.ret (.ref D))) s) : codeAny (model prog w) A (.call (.builtin "getset_descriptor.__get__") ⟨[.builtin "object.__class__", .ref x, .ref D], []⟩) R s := by
  have L0 := looks_cls he hc (model prog w)
  have L6 := looks_mroIn (M := model prog w) X hm
  obtain ⟨hh, g, d, t, os⟩ := s
  refine codeAny_call_builtin KF.slot_gs.plain KF.entry_gs (KF.slot_gs.check _ _ _ _ _ _ _ _ KF.type_class (KF.args_gs _ _ _) ?_)
  unfold Builtin.«getset_descriptor.__get__» descrGet
  rw [dga_obj]
  refine wpAny_bind (wpAny_pure ?_)
  unfold descrGetter descrCheckInstance descrNameAndClass isInstance
  simp only [KF.owner_class]
  repeat lk
  refine ⟨Code.quiet_builtin _ (by decide +kernel), codeAny_builtin KF.entry_class ?_⟩
  unfold Builtin.«object.__class__» shownTypeOf
  repeat lk
  exact h
include hga hgt ha hn htk hme
theorem exc_class {Q : Option Value → Shared → Prop} (X : K.In s.heap) (he : s.heap.get? x = some ox) (hc : ox.cls = .ref D) (h : Q (some (.ref D)) { s with toks := s.toks + 1 }) : wpAny (model prog w) A (getAttr? (.ref x) "__class__") Q E s := by
  have L0 := looks_cls he hc (model prog w)
  have L1 := looks_findIn (M := model prog w) X hga
  have L2 := looks_findIn (M := model prog w) X hgt
  have L3 := looks_findIn (M := model prog w) X ha
  have L4 := looks_specialIn (M := model prog w) X hn
  have L5 := looks_takesIn (M := model prog w) X htk
  have L6 := looks_mroIn (M := model prog w) X hm
  have L7 := looks_mroIn (M := model prog w) X hme
  have L8 : Looks (model prog w) s.heap (isInstance (.ref x) (.type "BaseException")) true := L0.andThen L7
  have F1 : Looks (model prog w) s.heap (Builtin.ObjectAttr.find (.ref x) (.ref D) "__class__") (.bind (.builtin "getset_descriptor.__get__") (.builtin "object.__class__")) := by
    refine L3.andThen (Looks.andThen (a := some (Value.builtin "getset_descriptor.__get__")) L4 ?_)
    have F0 : Looks (model prog w) s.heap (Builtin.ObjectAttr.dataDescriptor? (some (.builtin "object.__class__")) (some (.builtin "getset_descriptor.__get__"))) (some (.builtin "getset_descriptor.__get__", .builtin "object.__class__")) := by
      unfold Builtin.ObjectAttr.dataDescriptor?
      refine L5.andThen ?_
      exact .now
    exact F0.andThen (Looks.tag .now)
  obtain ⟨hh, g, d, t, os⟩ := s
  unfold getAttr? getAttrBy? getAttrBy
  refine wpAny_bind (wpAny_mkText (wpAny_bind (wpAny_attempt (wpAny_holding (wpAny_bind (L0.at (wpAny_bind (L1.at ?_))))))))
  have hx2 : (onTheHeap (Value.ref D) && Value.builtin "BaseException.__getattribute__" == Value.builtin "object.__getattribute__") = false := by
    have : (Value.builtin "BaseException.__getattribute__" == Value.builtin "object.__getattribute__") = false := by decide +kernel
    rw [this]; rfl
  dsimp only
  rw [hx2]
  simp only [Bool.false_eq_true, if_false]
  unfold getAttrByItsOwn hookBefore
  refine wpAny_bind ?_
  rw [if_pos (show onTheHeap (Value.ref D) = true from rfl)]
  refine L2.at (wpAny_bind (wpAny_attempt (wpAny_holding ?_)))
  unfold callGetattribute
  rw [show (false && onTheHeap (Value.builtin "BaseException.__getattribute__")) = false from rfl]
  simp only [Bool.false_eq_true, if_false]
  unfold boundAndCalled
  rw [PySem.F.excAttr_ValueError.ga.bind]
  refine wpAny_bind (wpAny_pure ?_)
  dsimp only [List.cons_append, List.nil_append]
  refine wpAny_call ?_
  have hk : builtinKind "BaseException.__getattribute__" = some .slot := by decide +kernel
  have hsplit : splitId "BaseException.__getattribute__" = some ("BaseException", "__getattribute__") := by decide +kernel
  refine codeAny_call_builtin PySem.F.excAttr_ValueError.ga.plain PySem.F.entry_bexc_ga ?_
  refine @check_slot (model prog w) _ _ ⟨hh, g, d, t + 1, os⟩ "BaseException.__getattribute__" "BaseException" "__getattribute__" (.ref x) [.str "__class__" t] [] _ hk hsplit L8 (PySem.F.args_bexc_ga (.ref x) (.str "__class__" t)) ?_
  unfold Builtin.«object.__getattribute__»
  repeat (first | with_reducible refine wpAny_call ?_ | lk)
  refine exc_class_ hm X he hc ?_
  refine wpAny_pure ?_
  exact handed_on rfl (wpAny_pure h)
theorem isn_nested' {c : Value} {dep : Int} {tk : Tok} {Q : Fin → Shared → Prop} (X : K.In s.heap) (he : s.heap.get? x = some ox) (hc : ox.cls = .ref D) (hty : Looks (model prog w) s.heap (typeOf c) (.type "type")) (his : Looks (model prog w) s.heap (isType c) true)
    (hne : (Value.ref D == c) = false) (hsub : Looks (model prog w) s.heap (isSubtype (.ref D) c) false) (h : Q (.done (.ret (.bool false))) { s with toks := s.toks + 1 }) :
    wpAny (model prog w) A (Builtin.«isinstance.nested» ⟨[.ref x, c, .int dep tk], []⟩) Q E s := by
  have hisD : Looks (model prog w) s.heap (isType (.ref D)) true := looks_isType X hm
  have L0 := looks_cls he hc (model prog w)
  obtain ⟨h0, g, d, tt, os⟩ := s
  have LI : Looks (model prog w) h0 (isInstance (.ref x) c) false := L0.andThen hsub
  unfold Builtin.«isinstance.nested»
  refine wpAny_bind (L0.at ?_)
  rw [if_neg (fun q => by rw [hne] at q; exact Bool.noConfusion q)]
  refine wpAny_bind (hty.at ?_)
  rw [if_pos (by decide)]
  k_delta "plainIsInstance"
  refine wpAny_bind (wpAny_bind (his.at ?_))
  simp only [Bool.not_true, Bool.false_eq_true, if_false]
  refine wpAny_bind (LI.at ?_)
  simp only [Bool.false_eq_true, if_false]
  refine wpAny_bind (exc_class hga hgt ha hn htk hm hme X he hc ?_)
  refine wpAny_bind (hisD.at ?_)
  simp only [Bool.not_true, Bool.false_eq_true, if_false]
  refine wpAny_bind (wpAny_rule ?_)
  refine hsub.at ?_
  first
    | exact wpAny_pure h
    | exact wpAny_pure (wpAny_pure h)
    | exact wpAny_bind (wpAny_pure (wpAny_pure h))
theorem isn_own {Q : Value → Shared → Prop} (X : K.In s.heap) (he : s.heap.get? x = some ox) (hc : ox.cls = .ref D) (e : kin_not K D C = true) (h : Q (.bool false) { s with toks := s.toks + 1 }) : wpAny (model prog w) A (call (.builtin "isinstance") [.ref x, .ref C]) Q E s := by
  unfold kin_not at e
  rw [Bool.and_eq_true, Bool.and_eq_true, Bool.and_eq_true] at e
  obtain ⟨⟨⟨e0, e1⟩, e2⟩, e3⟩ := e
  have his : ∀ (M : Model) h', K.In h' → Looks M h' (isType (.ref C)) true := fun _ h' X' => by
    unfold clsIn at e1
    split at e1
    · rename_i c' d' cd' sl' ho
      intro A' Q' E' s' k q
      unfold isType loadHead
      exact wpAny_bind (wpAny_loadPart (k _ _ (X' _ _ ho)) (wpAny_pure q))
    · cases e1
  exact call_isinstance (S := fun _ R s => (K.In s.heap ∧ s.heap.get? x = some ox) ∧ R (.ok (.ret (.bool false))) { s with toks := s.toks + 1 })
    (fun _ _ _ _ _ hs => isinstance_outer (isn_nested' hga hgt ha hn htk hm hme hs.1.1 hs.1.2 hc (looks_typeIn hs.1.1 (beq_iff_eq.mp e2)) (his _ _ hs.1.1) (Bool.eq_false_iff.mpr fun q => of_decide_eq_true e0 (Value.ref.inj (beq_iff_eq.mp q))) (looks_subIn hs.1.1 (beq_iff_eq.mp e3)) hs.2) (by intro q; cases q)) ⟨⟨X, he⟩, h⟩
end
end Mine
end
section
open PySem PySem.W PyProof.Rows
set_option Elab.async false
namespace Mine
section
variable {prog : Program} {w : World} {A : Around} {E : Value → Shared → Prop} {s₀ s s₁ : Shared} {H : Addr → Obj → Prop} {L : Addr} {m : Str → Option Value} {σ : List (Addr × Obj)} {env : Env} {q : Str} {sc : Scope} {f : Addr} {cd : Value} {l : List Env} {K : Frag} {mg mb : Str → Option Value}
/-- more is known to stay -/
theorem St.more {k : Bool} {F : Addr → Obj → Prop} (S : St k s₀ H L m σ s) (hf : ∀ b o, F b o → s.heap.get? b = some o) (hL : ∀ o, ¬ F L o) (hσ : ∀ p ∈ σ, ∀ o, ¬ F p.1 o) : St k s₀ (fun b o => H b o ∨ F b o) L m σ s :=
  ⟨S.same, S.ns, fun b o e => e.elim (S.keep b o) (hf b o), fun hk o e => e.elim (S.keepL hk o) (hL o), fun p hp => ⟨(S.own p hp).1, (S.own p hp).2.1, fun o e => e.elim ((S.own p hp).2.2 o) (hσ p hp o)⟩, S.nd⟩
/-- what is left to do behind the suite of except .. as n: -/
def asK (prog : Program) (w : World) (A : Around) (env : Env) (n : Str) (pos : Pos) (Q : Flow → Shared → Prop) (E : Value → Shared → Prop) : Flow → Shared → Prop :=
  fun f s₄ => wpAny (model prog w) A (do bindName env n .none; unbindBehindTheSuite env n pos) (fun _ s₅ => Q f s₅) E s₄
theorem asK_mk {n : Str} {pos : Pos} {Q : Flow → Shared → Prop} {fl : Flow} (S : St true s₀ H L m σ s) (hc : (env.scope.kind == .function && env.scope.names.lookup n == some .local) = true) (h : ∀ m' s', St true s₀ H L m' σ s' → Q fl s') (hL : env.locals = L := by with_unfolding_all rfl) :
    asK prog w A env n pos Q E fl s := by
  unfold asK unbindBehindTheSuite
  have hc' := hc
  simp only [Bool.and_eq_true, beq_iff_eq] at hc'
  refine wpAny_bind (wpAny_bindName (r_store S (fun s₂ S₂ => wpAny_onRaise ?_) hc hL))
  subst hL
  refine wpAny_unbindName_local hc'.2 S₂.ns (upd_same _ _ _) (by rw [hc'.1]; rfl) fun h' u hn hs => ?_
  exact h _ _ (S₂.set (tk := s₂.toks) hn hs)
/-- except X as n: -/
theorem catch_as {x n : Str} {np hpos : Pos} {b₀ : Stmt} {suite : List Stmt} {hs : List ExceptHandler} {C CB : Addr} {e : Value} {s' : Shared} {Q : Flow → Shared → Prop}
    (hA : A.frames = some (envOf q sc L f cd :: l)) (S : St true s₀ H L m σ s) (G : GdH (fun a o => K.lookup a = some o) mg mb H) (ap : Apart l H σ) (F : Fly (envOf q sc L f cd :: l) (.ref C) s e s') (hv : mg x = some (.ref CB))
    (h1 : instIn K (.ref CB) (.type "tuple") = some false) (h3 : mroIn K CB (.type "BaseException") = some true) (h4 : mroIn K C (.ref CB) = some true)
    (hc : ((envOf q sc L f cd).scope.kind == .function && (envOf q sc L f cd).scope.names.lookup x == some .globalImplicit && !(x == ("__debug__" : Str))) = true)
    (hn : ((envOf q sc L f cd).scope.kind == .function && (envOf q sc L f cd).scope.names.lookup n == some .local) = true)
    (hLl : L ∉ frs l)
    (k : ∀ (E' : Value → Shared → Prop) ea oe h6 s'', oe.cls = .ref C → s.heap.UpToSlots h6 → St true s₀ (fun b o => H b o ∨ (b ∈ frs l ∧ h6.get? b = some o)) L (upd m n (.ref ea)) ((ea, oe) :: σ) s'' →
      wpAny (model prog w) (A.mark (some (.ref ea))) (execs (b₀ :: suite) (envOf q sc L f cd)) (asK prog w A (envOf q sc L f cd) n hpos Q E) E' s'') :
    tryE prog w A (envOf q sc L f cd) (.ExceptHandler (some (.Name x np)) (some n) (b₀ :: suite) hpos :: hs) Q E e s' := by
  obtain ⟨ea, a0, rfl, sm, up, fl⟩ := F
  refine wpAny_looks_onW (L := L) hA rfl fl fun h₄ held up₄ => ?_
  refine wpAny_landsW held fun h₅ fl₅ up₅ => ?_
  have S₅ : St true s₀ H L m σ { s' with heap := h₅ } := S.fly (s' := { s' with heap := h₅ }) (q := q) (sc := sc) (f := f) (cd := cd) (sm.trans ⟨rfl, rfl, rfl⟩) fl₅.1 ((up.trans up₄).trans up₅) ap
  obtain ⟨ob, hob, hobc⟩ := fl₅.there
  refine wpAny_handleBy_cons (codeAny_handlers_test (r_glob S₅ G hv ?_ hc)) (by intro q; cases q)
  refine looks_exc (h := h₅) (S₅.gd G).X hob hobc h1 h3 h4 _ _ _ _ (fun _ _ e => e) ?_
  refine codeAny_handlers_suite_as ?_
  refine lands_againW fl₅ fun h₆ fl₆ up₆ => ?_
  have up' := ((up.trans up₄).trans up₅).trans up₆
  have S₆ : St true s₀ H L m σ { s' with heap := h₆ } := S.fly (s' := { s' with heap := h₆ }) (q := q) (sc := sc) (f := f) (cd := cd) (sm.trans ⟨rfl, rfl, rfl⟩) fl₆.1 up' ap
  obtain ⟨oe, ws, hoe, hoec, hoed, hoe0⟩ := fl₆.first
  have hnb : (hid s.heap (envOf q sc L f cd :: l)).get? ea = none := fl₆.2.1
  have hfr : ea ∉ frs (envOf q sc L f cd :: l) := fun hm => by
    obtain ⟨_, o, ho, hnf⟩ := fl₆.2.2.1.mem hm
    rw [hoe] at ho; injection ho with ho; subst ho; exact hnf _ hoed
  have hfr' : ea ≠ L ∧ ea ∉ frs l := by
    have e : frs (envOf q sc L f cd :: l) = L :: frs l := rfl
    rw [e, List.mem_cons, not_or] at hfr
    exact hfr
  have hs0 : ∀ o, s.heap.get? ea ≠ some o := fun o e => by rw [hideAll_get _ e hfr] at hnb; cases hnb
  have S₇ : St true s₀ (fun b o => H b o ∨ (b ∈ frs l ∧ h₆.get? b = some o)) L m ((ea, oe) :: σ) { s' with heap := h₆ } := by
    refine ⟨S₆.same, S₆.ns, fun b o e => e.elim (S₆.keep b o) (·.2), fun hk o e => e.elim (S₆.keepL hk o) fun z => hLl z.1, fun p hp => ?_, ?_⟩
    · rcases List.mem_cons.mp hp with rfl | hp
      · exact ⟨hoe, hfr'.1, fun o e => e.elim (fun z => hs0 o (S.keep _ _ z)) fun z => hfr'.2 z.1⟩
      · exact ⟨(S₆.own p hp).1, (S₆.own p hp).2.1, fun o e => e.elim ((S₆.own p hp).2.2 o) fun z => (ap _ z.1).2 (List.mem_map.mpr ⟨p, hp, rfl⟩)⟩
    · rw [List.map_cons, List.nodup_cons]
      refine ⟨fun hm => ?_, S₆.nd⟩
      obtain ⟨p, hp, e⟩ := List.mem_map.mp hm
      dsimp only at e
      exact hs0 p.2 (e ▸ (S.own p hp).1)
  exact r_store S₇ (fun s₈ S₈ => k _ ea oe h₆ s₈ hoec up' S₈) hn
/-- enter a def while an exception is handled -/
theorem enterQ (names : List Str) {fa : Addr} {name qual : Str} {params : Arguments} {body : List Stmt} {scope : Scope} {dV kV doc pm cdv ct oc : Value} {an od : Option Addr} {osl : Array (Option Value)} {args : List Value} {Q : Value → Shared → Prop}
    (G : Gd (fun a o => K.lookup a = some o) mg mb s.heap) (hf : K.lookup fa = some ⟨oc, od, .func (fnD name qual params body scope dV kV doc pm an cdv ct), osl⟩) (hcd : codeIn K cdv qual = true)
    (r : A.depth < 990)
    (hb : bindArgs (fnD name qual params body scope dV kV doc pm an cdv ct) ⟨args, []⟩ = pure (names.zip args)) (hloc : (names.all fun x => decide (scope.names.lookup x = some .local)) = true)
    (hcell : (scope.names.all fun x => x.2 != .cell) = true) (hco : scope.isCoroutine = false) (hgen : scope.isGenerator = false) (hk : scope.kind = .function)
    (h : ∀ (E' : Value → Shared → Prop) L s' m, m = (fun x => (names.zip args).reverse.lookup x) → St true s (fun b o => s.heap.get? b = some o) L m [] s' → GdH (fun a o => K.lookup a = some o) mg mb (fun b o => s.heap.get? b = some o) →
      wpAny (model prog w) (A.deeper (envOf qual scope L fa cdv)) (execs body (envOf qual scope L fa cdv)) (retK Q) E' s') :
    wpAny (model prog w) A (call (.ref fa) args) Q E s :=
  enter G r hf (codeRec_of (fun a o e => G.X a o e) hcd) hb (fun x hx => of_decide_eq_true (List.all_eq_true.mp hloc x.1 (List.of_mem_zip hx).1)) (fun x hx => by
    have := List.all_eq_true.mp hcell x hx
    simpa using this) hco hgen hk (fun E' L s' hL S => h E' L s' _ rfl S G.toH)
variable {k : Bool} {ea D C : Addr} {oe : Obj} {T : String} {Q : Value → Shared → Prop}
theorem r_isi_T (S : St k s₀ H L m σ s) (G : GdH (fun a o => K.lookup a = some o) mg mb H) (he : s.heap.get? ea = some oe) (hc : oe.cls = .ref D) (hty : typeOf (.type T) = pure (.type "type")) (e : subIn K (.ref D) (.type T) = some true) (h : ∀ s', St k s₀ H L m σ s' → Q (.bool true) s') :
    wpAny (model prog w) A (call (.builtin "isinstance") [.ref ea, .type T]) Q E s := isiT_call (K := K) (S.gd G).X (looks_cls he hc) hty e (by intro q; cases q) (h _ S)
theorem r_isi_own (S : St k s₀ H L m σ s) (G : GdH (fun a o => K.lookup a = some o) mg mb H) (he : s.heap.get? ea = some oe) (hc : oe.cls = .ref D) (e : isIn K (.ref D) C = true) (h : ∀ s', St k s₀ H L m σ s' → Q (.bool true) s') :
    wpAny (model prog w) A (call (.builtin "isinstance") [.ref ea, .ref C]) Q E s := isi_call (K := K) (S.gd G).X (looks_cls he hc) e (by intro q; cases q) (h _ S)
theorem r_isn_own (S : St k s₀ H L m σ s) (G : GdH (fun a o => K.lookup a = some o) mg mb H) (he : s.heap.get? ea = some oe) (hc : oe.cls = .ref D)
    (hga : findIn K (.ref D) "__getattribute__" = some (some (.builtin "BaseException.__getattribute__"))) (hgt : findIn K (.ref D) "__getattr__" = some none) (ha : findIn K (.ref D) "__class__" = some (some (.builtin "object.__class__")))
    (hn : specialIn K (.builtin "object.__class__") "__get__" = some (some (.builtin "getset_descriptor.__get__"))) (htk : takesIn K (.builtin "object.__class__") = some true) (hm : mroIn K D (.type "object") = some true) (hme : mroIn K D (.type "BaseException") = some true)
    (e : kin_not K D C = true) (h : ∀ s', St k s₀ H L m σ s' → Q (.bool false) s') : wpAny (model prog w) A (call (.builtin "isinstance") [.ref ea, .ref C]) Q E s := isn_own hga hgt ha hn htk hm hme (S.gd G).X he hc e (h _ (S.kp (Kp.tok s _)))
end
end Mine
end
section
open PySem PySem.W PyProof.Rows
set_option Elab.async false
namespace Mine
section
variable {k : Bool} {prog : Program} {w : World} {A : Around} {E : Value → Shared → Prop} {s₀ s : Shared} {H : Addr → Obj → Prop} {L : Addr} {m : Str → Option Value} {σ : List (Addr × Obj)} {env : Env}
  {Q : Value → Shared → Prop}
theorem push2_St {o1 o2 : Obj} (S : St k s₀ H L m σ s) (h2 : o2.isFreed = false) : s.heap.get? (s.heap.push o1).objs.size = none ∧ St k s₀ H L m (((s.heap.push o1).objs.size, o2) :: σ) { s with heap := (s.heap.push o1).push o2 } := by
  have S1 := S.kp (Kp.push s o1)
  have hn : (s.heap.push o1).get? (s.heap.push o1).objs.size = none := get_size_none _
  refine ⟨?_, S1.add (Kp.push { s with heap := s.heap.push o1 } o2) hn (Heap.get?_push_size _ h2)⟩
  cases e : s.heap.get? (s.heap.push o1).objs.size with
  | none => rfl
  | some o => rw [Heap.get?_push_of_some o1 e] at hn; cases hn
/-- l[j:], l a list -/
def SlLst (k : Bool) (s₀ : Shared) (H : Addr → Obj → Prop) (L : Addr) (Q : Value → Shared → Prop) (o u : Value) (s₂ : Shared) : Prop :=
  ∃ (l : Addr) (vs : List Value) (j : Int) (tj : Tok) (m : Str → Option Value) (σ : List (Addr × Obj)), o = .ref l ∧ u = .int j tj ∧ 0 ≤ j ∧ s₂.heap.IsList l vs.toArray ∧ vs.length ≤ sizeLine ∧ St k s₀ H L m σ s₂ ∧ ∀ D s', s₂.heap.get? D = none → St k s₀ H L m ((D, lst (vs.drop j.toNat) 0) :: σ) s' → Q (.ref D) s'
theorem e_slice_from {value lo : Expr} {p pos : Pos} (_S : St k s₀ H L m σ s)
    (h : wpAny (model prog w) A (eval value env) (fun o s₁ => wpAny (model prog w) A (eval lo env) (fun u s₂ => SlLst k s₀ H L Q o u s₂) E s₁) E s)
    (ht : ∀ o r, letTemporaryGo value o r = pure () := by intro _ _; with_unfolding_all rfl) : wpAny (model prog w) A (eval (.Subscript value (.Slice (some lo) none none p) pos) env) Q E s := by
  refine Subscript_Slice (wpAny_mono h (fun o s₁ h₁ => wpAny_Slice (evalPart_some_step (wpAny_mono h₁ (fun u s₂ h₂ => evalPart_none_step (evalPart_none_step ?_)) fun _ _ x => x))) fun _ _ x => x) ht
  obtain ⟨l, vs, j, tj, m, σ, rfl, rfl, h0, hl, hz, S, hq⟩ := h₂
  refine ⟨"list", _, list_getitem_lookup, Heap.IsList.typeIs (s := { s₂ with heap := s₂.heap.push { cls := .type "slice", data := .fields #[.int j tj, .none, .none] } }) (hl.push _), wpAny_getItem_list_slice (hl.push _) (Heap.IsSliceOf.new ..) (.int j tj) .none .none (by simp) ?_ (by simpa using hz)⟩
  have e : slicePick vs.toArray (some j) none none = (vs.drop j.toNat).toArray := by
    have := slicePick_from' vs.toArray j.toNat
    rw [show ((j.toNat : Nat) : Int) = j by omega] at this
    simpa using this
  rw [e]
  have P := push2_St (o1 := { cls := .type "slice", data := .fields #[.int j tj, .none, .none] }) (o2 := lst (vs.drop j.toNat) 0) S rfl
  exact hq _ _ P.1 P.2
/-- l[i:j] -/
def SlTwo (k : Bool) (s₀ : Shared) (H : Addr → Obj → Prop) (L : Addr) (Q : Value → Shared → Prop) (o u v : Value) (s₂ : Shared) : Prop :=
  ∃ (l : Addr) (vs : List Value) (i : Int) (ti : Tok) (j : Int) (tj : Tok) (m : Str → Option Value) (σ : List (Addr × Obj)), o = .ref l ∧ u = .int i ti ∧ v = .int j tj ∧ s₂.heap.IsList l vs.toArray ∧ vs.length ≤ sizeLine ∧ St k s₀ H L m σ s₂ ∧ ∀ (D : Addr) (ws : List Value) (s' : Shared), ws.length ≤ vs.length → (∀ v ∈ ws, v ∈ vs) → s₂.heap.get? D = none → St k s₀ H L m ((D, lst ws 0) :: σ) s' → Q (.ref D) s'
theorem e_slice_two {value lo hi : Expr} {p pos : Pos} (_S : St k s₀ H L m σ s)
    (h : wpAny (model prog w) A (eval value env) (fun o s₁ => wpAny (model prog w) A (eval lo env) (fun u s₂ => wpAny (model prog w) A (eval hi env) (fun v s₃ => SlTwo k s₀ H L Q o u v s₃) E s₂) E s₁) E s)
    (ht : ∀ o r, letTemporaryGo value o r = pure () := by intro _ _; with_unfolding_all rfl) : wpAny (model prog w) A (eval (.Subscript value (.Slice (some lo) (some hi) none p) pos) env) Q E s := by
  refine Subscript_Slice (wpAny_mono h (fun o s₁ h₁ => wpAny_Slice (evalPart_some_step (wpAny_mono h₁ (fun u s₂ h₂ => evalPart_some_step (wpAny_mono h₂ (fun v s₃ h₃ => evalPart_none_step ?_) fun _ _ x => x)) fun _ _ x => x))) fun _ _ x => x) ht
  obtain ⟨l, vs, i, ti, j, tj, m, σ, rfl, rfl, rfl, hl, hz, S, hq⟩ := h₃
  refine ⟨"list", _, list_getitem_lookup, Heap.IsList.typeIs (s := { s₃ with heap := s₃.heap.push { cls := .type "slice", data := .fields #[.int i ti, .int j tj, .none] } }) (hl.push _), wpAny_getItem_list_slice (hl.push _) (Heap.IsSliceOf.new ..) (.int i ti) (.int j tj) .none (by simp) ?_ (by simpa using hz)⟩
  have e := slicePick_plain vs.toArray (some i) (some j)
  rw [e]
  have P := push2_St (o1 := { cls := .type "slice", data := .fields #[.int i ti, .int j tj, .none] }) (o2 := lst ((vs.drop ((some i).elim 0 (clipAt vs.toArray.size))).take ((some j).elim vs.toArray.size (clipAt vs.toArray.size) - (some i).elim 0 (clipAt vs.toArray.size))) 0) S rfl
  exact hq _ _ _ (by rw [List.length_take, List.length_drop]; omega) (fun v hv => List.mem_of_mem_drop (List.mem_of_mem_take hv)) P.1 P.2
-- insert
theorem mapSeq_insert (vs : List Value) (n j : Nat) (v : Value) : ∃ n', (Obj.mapSeq (fun xs : Array Value => (xs.extract 0 (min j xs.size)).push v ++ xs.extract (min j xs.size)) (lst vs n)) = lst (vs.take j ++ v :: vs.drop j) n' := by
  have e : ((vs.toArray.extract 0 (min j vs.toArray.size)).push v ++ vs.toArray.extract (min j vs.toArray.size)) = (vs.take j ++ v :: vs.drop j).toArray := by
    apply Array.ext'
    simp
    rcases Nat.le_total j vs.length with h | h
    · rw [Nat.min_eq_left h, List.take_of_length_le (l := List.drop j vs) (by simp)]
    · rw [Nat.min_eq_right h, List.drop_of_length_le (Nat.le_refl _), List.drop_of_length_le h, List.take_of_length_le h]; simp
  refine ⟨if ((vs.take j ++ v :: vs.drop j).toArray.size == vs.toArray.size) then n else n + 1, ?_⟩
  show Obj.mk _ _ (Data.seq ((vs.toArray.extract 0 (min j vs.toArray.size)).push v ++ vs.toArray.extract (min j vs.toArray.size)) (if (((vs.toArray.extract 0 (min j vs.toArray.size)).push v ++ vs.toArray.extract (min j vs.toArray.size)).size == vs.toArray.size) then n else n + 1)) _ = _
  rw [e]
theorem r_insert {l : Addr} {vs : List Value} {n : Nat} {v : Value} {i : Int} {u : Tok} {σ₁ σ₂ : List (Addr × Obj)} (S : St k s₀ H L m (σ₁ ++ (l, lst vs n) :: σ₂) s) (h0 : 0 ≤ i) (h1 : i ≤ 1000) (hz : vs.length ≤ sizeLine)
    (h : ∀ n' s', St k s₀ H L m (σ₁ ++ (l, lst (vs.take i.toNat ++ v :: vs.drop i.toNat) n') :: σ₂) s' → Q .none s') : wpAny (model prog w) A (call (.builtin "list.insert") [.ref l, .int i u, v]) Q E s := by
  have hget := S.get (a := l) (o := lst vs n) (by simp)
  obtain ⟨n', hn⟩ := mapSeq_insert vs n i.toNat v
  refine call_meets F.slot_list_insert ⟨_, hget, rfl⟩ F.entry_list_insert (F.args_list_insert_3 _ _ _) (PySem.AutoListH.list_insert_list_int_val_1 l vs.toArray n i u v (by simp [Builtin.List.listFitsIndex]; omega) (by simpa using hz)) ⟨hget, h n' _ (S.turn (tk := s.toks) (fun b x hb e => ?_) ?_)⟩
  · rw [Heap.get?_update_other _ _ (Ne.symm hb)]; exact e
  · rw [← hn]
    simp only [if_neg (show ¬ i < 0 by omega)]
    exact Heap.get?_update_self _ hget rfl
theorem e_insert {x : Str} {e1 e2 : Expr} {p apos pos : Pos} {l : Addr} {vs : List Value} {n : Nat} (S : St k s₀ H L m σ s) (hv : m x = some (.ref l)) (hl : (l, lst vs n) ∈ σ)
    (hc : (env.scope.kind == .function && env.scope.names.lookup x == some .local && !(x == ("__debug__" : Str))) = true) (hline : (apos.endLine == pos.line) = true)
    (h : wpAny (model prog w) A (eval e1 env) (fun v s₂ => wpAny (model prog w) A (eval e2 env) (fun v' s₃ => wpAny (model prog w) A (call (.builtin "list.insert") [.ref l, v, v']) Q E s₃) E s₂) E s) (hL : env.locals = L := by with_unfolding_all rfl)
    (hbase : attributeBase (.Name x p) (Str.ofString "insert") env (eval (.Name x p) env) = eval (.Name x p) env := by with_unfolding_all rfl) (hs : starEach [e1, e2] env = [(false, eval e1 env), (false, eval e2 env)] := by with_unfolding_all rfl) :
    wpAny (model prog w) A (eval (.Call (.Attribute (.Name x p) (Str.ofString "insert") apos) [e1, e2] [] pos) env) Q E s := by
  refine Call_method2 hbase hs hline (r_loc S hv ?_ hc hL)
  have ho := S.get hl
  refine ⟨"list", "list.insert", F.plainAttrs_list, F.slot_list_insert, F.type_list_insert, ⟨_, ho, rfl⟩, fun a e => ?_, ?_⟩
  · cases e; exact ⟨_, ho, rfl⟩
  · exact Calls.callWith_builtin rfl (Calls.evalArgs_plain (Calls.spliced_cons (wpAny_mono h (fun y s₂ h₂ => Calls.spliced_cons (wpAny_mono h₂ (fun z s₃ h₃ => Calls.spliced_nil h₃) fun _ _ e => e)) fun _ _ e => e)))
/-- l + l' -/
theorem r_catl {a b : Addr} {vs ws : List Value} (S : St k s₀ H L m σ s) (hl : s.heap.IsList a vs.toArray) (hb : s.heap.IsList b ws.toArray) (hz : vs.length + ws.length ≤ sizeLine)
    (h : ∀ D s', s.heap.get? D = none → St k s₀ H L m ((D, lst (vs ++ ws) 0) :: σ) s' → Q (.ref D) s') : wpAny (model prog w) A (binaryOp .Add (.ref a) (.ref b)) Q E s := by
  obtain ⟨⟨cls, dd, data, sl⟩, ho, hc, n, hd⟩ := id hl
  obtain ⟨⟨cls2, dd2, data2, sl2⟩, ho2, hc2, n2, hd2⟩ := id hb
  simp only at hc hd hc2 hd2
  subst hc hd hc2 hd2
  have e : vs.toArray ++ ws.toArray = (vs ++ ws).toArray := by simp
  refine concat_meets ⟨_, ho, rfl⟩ ⟨_, ho2, rfl⟩ noFill_list_add seq_list_add PySem.F.slot_list_add PySem.F.entry_list_add (PySem.F.args_list_add_2 _ _) (list_addW a b vs.toArray ws.toArray n n2 dd dd2 sl sl2 (by simpa using hz)) ⟨ho, ho2, ?_⟩
  rw [e]
  exact h _ _ (get_size_none _) (S.add (Kp.push s _) (get_size_none _) (Heap.get?_push_size _ rfl))
/-- two lists of the same items -/
theorem r_eq_same {a b : Addr} {vs : List Value} (hl : s.heap.IsList a vs.toArray) (hb : s.heap.IsList b vs.toArray) (hu : A.units < cLine) (h : Q (.bool true) s) : wpAny (model prog w) A (compareOp .Eq (.ref a) (.ref b)) Q E s :=
  r_eq_all hl hb rfl hu (fun j v u e1 e2 => by rw [e1] at e2; cases e2; exact PySem.SeqAt.EqAt.same v) h
end
end Mine
end
section
open PySem PySem.W PyProof.Rows
open AutoSeq1 (wpAny_loadPart')
open PySem.SeqAt
set_option Elab.async false
namespace Mine
theorem dict_ne_declines_str (l : Addr) (es : Array DictEntry) (n : Nat) (dd : Option Addr) (sl : Array (Option Value)) (b : Str) (u : Tok) :
    Meets (Builtin.«dict.__ne__» ⟨[.ref l, .str b u], []⟩) (fun _ R s => s.heap.get? l = some { cls := .type "dict", dict := dd, data := .dict es n, slots := sl } ∧ R (.ok (.ret .notImplemented)) s) :=
  .of_wp fun prog w A R s h => by obtain ⟨hp, g, d, tk, os⟩ := s; obtain ⟨hl, h⟩ := h; have f1 := F.sub_str_dict; wp_walk using wpAny_loadPart' hl; exact ⟨_, rfl, h⟩
theorem str_ne_declines_dict (b : Str) (u : Tok) (l : Addr) (c : Value) (es : Array DictEntry) (n : Nat) (dd : Option Addr) (sl : Array (Option Value)) :
    Meets (Builtin.«str.__ne__» ⟨[.str b u, .ref l], []⟩) (fun _ R s => s.heap.get? l = some { cls := c, dict := dd, data := .dict es n, slots := sl } ∧ R (.ok (.ret .notImplemented)) s) :=
  .of_wp fun prog w A R s h => by obtain ⟨hp, g, d, tk, os⟩ := s; obtain ⟨hl, h⟩ := h; wp_walk using wpAny_loadPart' hl, wpAny_load hl; exact ⟨_, rfl, h⟩
section
variable {k : Bool} {prog : Program} {w : World} {A : Around} {E : Value → Shared → Prop} {s : Shared} {Q : Value → Shared → Prop}
theorem r_ne_dict_str {l : Addr} {es : Array DictEntry} {n : Nat} {dd : Option Addr} {sl : Array (Option Value)} {b : Str} {u : Tok} (ho : s.heap.get? l = some { cls := .type "dict", dict := dd, data := .dict es n, slots := sl }) (hu : A.units < cLine) (h : Q (.bool true) s) :
    wpAny (model prog w) A (compareOp .NotEq (.ref l) (.str b u)) Q E s := by
  show wpAny (model prog w) A (richCompare .NotEq _ _) Q E s
  exact rc_ne_decline_or (k := false) ⟨_, ho, rfl⟩ (typeIs_str s b u) (by decide) F.sub_str_dict F.slot_dict_ne F.slot_str_ne_refl
    (fun _ hq => call_meets F.slot_dict_ne ⟨_, ho, rfl⟩ F.entry_dict_ne (F.args_dict_ne_2 _ _) (dict_ne_declines_str l es n dd sl b u) ⟨ho, hq⟩)
    (fun _ hq => call_meets F.slot_str_ne_refl (typeIs_str s b u) F.entry_str_ne (F.args_str_ne_2 _ _) (str_ne_declines_dict b u l _ es n dd sl) ⟨ho, hq⟩)
    (fun _ hq => wpAny_of_eq (rfl : isSame (.ref l) (.str b u) = pure false) hq) (.inr hu) h
theorem r_eq_list_str {l : Addr} {vs : List Value} {n : Nat} {b : Str} {u : Tok} (ho : s.heap.get? l = some (lst vs n)) (hu : A.units < cLine) (h : Q (.bool false) s) : wpAny (model prog w) A (compareOp .Eq (.ref l) (.str b u)) Q E s :=
  RcAt.list_str b u (isL ho) hu prog w E Q h
theorem r_ne_list_str {l : Addr} {vs : List Value} {n : Nat} {b : Str} {u : Tok} (ho : s.heap.get? l = some (lst vs n)) (hu : A.units < cLine) (h : Q (.bool true) s) : wpAny (model prog w) A (compareOp .NotEq (.ref l) (.str b u)) Q E s :=
  RcNeAt.list_str b u (isL ho) hu prog w E Q h
end
end Mine
end
section
open PySem PySem.W PyProof.Rows
set_option maxRecDepth 100000
set_option maxHeartbeats 8000000
namespace Mine
open_top hd for PySem.Challenge.rw_uf050039_02

-- enter a def; what is left: the names, the room
local macro_rules | `(tactic| walk_at "m enter") => `(tactic| ((case hf => k_is); (case hcd => k_is); (case hb => rfl); (case hloc => kernel_rfl!); (case hcell => kernel_rfl!); (case h1 => rfl); (case h2 => rfl); (case h3 => rfl)))
-- a name's value in the frame
local macro_rules | `(tactic| walk_at "m loc") => `(tactic| first | with_reducible exact upd_same _ _ _ | with_reducible assumption | (with_reducible refine upd_other (by decide +kernel) ?_; walk_at "m loc"))
-- a member of a short list
local macro_rules | `(tactic| walk_at "m mem") => `(tactic| first | with_reducible exact List.mem_cons_self | with_reducible assumption | (with_reducible refine List.mem_cons_of_mem _ ?_; walk_at "m mem"))
-- a size
local macro_rules | `(tactic| walk_at "m size") => `(tactic| first | with_reducible assumption | (simp only [sizeLine_eq, len_app, len_one, List.length_cons, List.length_nil, List.length_append, List.length_map, List.length_range] at *; omega))
-- an object that is known
local macro_rules | `(tactic| walk_at "m got") => `(tactic| ((with_reducible rename St _ _ _ _ _ _ _ => hS); first | with_reducible exact St.get hS (by walk_at "m mem") | with_reducible exact St.keep hS _ _ (by with_reducible assumption)))
-- an item of a tuple, by a number that is written
local macro_rules | `(tactic| walk_at "m sub") => `(tactic| (refine r_item_tup (by walk_at "m got") (by decide) (by decide) rfl ?_))
-- names
local macro_rules | `(tactic| walk_at "m name") => `(tactic| ((with_reducible rename St _ _ _ _ _ _ _ => hS); first
  | (with_reducible refine' r_loc hS ?hv ?_ ?hc; (case hv => walk_at "m loc"); (case hc => kernel_rfl!))
  | ((with_reducible rename GdH _ _ _ _ => hG); with_reducible refine' r_glob hS hG ?hv ?_ ?hc; (case hv => with_reducible assumption); (case hc => kernel_rfl!))
  | ((with_reducible rename GdH _ _ _ _ => hG); with_reducible refine' r_blt hS hG ?hn ?hv ?_ ?hc; (case hv => with_reducible assumption); (case hn => with_reducible assumption); (case hc => kernel_rfl!))
  | (with_reducible refine' r_cell ?hc ?hl ?ho ?hd ?_; (case hc => kernel_rfl!); (case hl => with_unfolding_all rfl); (case ho => walk_at "m got"); (case hd => with_reducible assumption))))
-- a call by a name
local macro_rules | `(tactic| walk_at "m call") => `(tactic| ((with_reducible rename St _ _ _ _ _ _ _ => hS); (with_reducible rename GdH _ _ _ _ => hG); first
  | (with_reducible refine' e_f hS hG ?hv ?ho ?hd ?hc ?_; (case hv => with_reducible assumption); (case ho => (first | k_is | (show List.lookup _ _ = _; k_is))); (case hd => rfl); (case hc => kernel_rfl!))
  | (with_reducible refine' e_b1 hS hG ?hn ?hv ?hc ?_; (case hv => with_reducible assumption); (case hn => with_reducible assumption); (case hc => kernel_rfl!))
  | (with_reducible refine' e_b2 hS hG ?hn ?hv ?hc ?_; (case hv => with_reducible assumption); (case hn => with_reducible assumption); (case hc => kernel_rfl!))
  | (with_reducible refine' e_b3 hS hG ?hn ?hv ?hc ?_; (case hv => with_reducible assumption); (case hn => with_reducible assumption); (case hc => kernel_rfl!))
  | (with_reducible refine' e_t1 hS hG ?hn ?hv ?hc ?_; (case hv => with_reducible assumption); (case hn => with_reducible assumption); (case hc => kernel_rfl!))))
-- built-in things called
local macro_rules | `(tactic| walk_at "m blt") => `(tactic| ((with_reducible rename St _ _ _ _ _ _ _ => hS); (first
  | (with_reducible refine r_len_str hS (by walk_at "m size") ?_)
  | with_reducible refine isi_int_int hS ?_ | with_reducible refine isi_int_bool hS ?_ | with_reducible refine isi_str_str hS ?_ | with_reducible refine isi_bool_bool hS ?_
  | (with_reducible refine r_len_tup hS (by walk_at "m got") (by first | omega | (simp only [List.length_cons, List.length_nil]; omega)) ?_)
  | (with_reducible refine isi_tuple_tuple (by walk_at "m got") rfl hS ?_) | (with_reducible refine isi_list_list (by walk_at "m got") rfl hS ?_)
  | with_reducible refine r_int_bool hS ?_ | with_reducible refine r_abs hS ?_
  | (with_reducible refine r_min3 hS (Rm.hh (by assumption)) ?_) | (with_reducible refine r_max2 hS (Rm.hh (by assumption)) ?_)
  | (with_reducible refine r_append0 hS (by walk_at "m size") ?_) | (with_reducible refine r_append1 hS (by walk_at "m size") ?_)); clear hS; intros))
local macro_rules | `(tactic| walk_at "m bin") => `(tactic| ((with_reducible rename St _ _ _ _ _ _ _ => hS); (first
  | with_reducible refine r_add hS ?_ | with_reducible refine r_sub hS ?_
  | (with_reducible refine r_fmod hS (by first | decide | omega) ?_) | (with_reducible refine r_fdiv hS (by first | decide | omega) (by first | decide | omega) ?_)
  | (with_reducible refine r_mul hS (by first | exact IntMulOk.of_left (intBits_le_64 (by omega) (by omega)) | exact IntMulOk.of_right (intBits_le_64 (by omega) (by omega))) ?_)
  | (with_reducible refine r_cat hS (by walk_at "m size") ?_)); clear hS; intros))
local macro_rules | `(tactic| walk_at "m cmp") => `(tactic| first
  | with_reducible refine PyProof.Rows.eq_int ?_ | with_reducible refine PyProof.Rows.ne_int ?_ | with_reducible refine PyProof.Rows.lt_int ?_ | with_reducible refine PyProof.Rows.gt_int ?_ | with_reducible refine PyProof.Rows.le_int ?_ | with_reducible refine PyProof.Rows.ge_int ?_
  | with_reducible refine P.eq_str ?_ | with_reducible refine P.ne_str ?_ | with_reducible refine P.in_str ?_ | with_reducible refine P.notIn_str ?_ | with_reducible refine PyProof.Rows.eq_bool ?_ | with_reducible refine PyProof.Rows.ne_bool ?_
  | with_reducible refine is_none ?_ | with_reducible refine isNot_none ?_)
-- statements
local macro_rules | `(tactic| walk_at "m stm") => `(tactic| first
  | with_reducible refine x_assign ?_ | with_reducible refine x_if1 ?_ | with_reducible refine x_if ?_ | with_reducible refine x_ret ?_ | with_reducible refine x_expr ?_
  | ((with_reducible rename St _ _ _ _ _ _ _ => hS); with_reducible refine' x_unpack2 hS ?_ ?hc; (case hc => kernel_rfl!))
  | with_reducible refine x_nil_then ?_ | with_reducible refine x_nil ?_)
-- expressions
local macro_rules | `(tactic| walk_at "m exp") => `(tactic| first
  | ((with_reducible show wpAny _ _ (eval (Expr.Name _ _) _) _ _ _); walk_at "m name")
  | ((with_reducible show wpAny _ _ (eval (Expr.Constant _ _ _) _) _ _ _); first
      | ((with_reducible rename St _ _ _ _ _ _ _ => hS); (first | with_reducible refine r_int hS ?_ | with_reducible refine r_str hS ?_); clear hS; intros)
      | with_reducible refine Constant_bool ?_ | with_reducible refine Constant_none ?_)
  | ((with_reducible show wpAny _ _ (eval (Expr.Call (Expr.Name _ _) _ _ _) _) _ _ _); walk_at "m call")
  | with_reducible refine wpAny_BinOp ?_
  | ((with_reducible show wpAny _ _ (eval (Expr.Compare _ [_] [_] _) _) _ _ _); refine wpAny_Compare1 ?_)
  | ((with_reducible show wpAny _ _ (eval (Expr.Compare _ (_ :: _ :: _) _ _) _) _ _ _); refine Compare_chain ?_)
  | with_reducible refine BoolOp_one ?_ | with_reducible refine BoolOp_and ?_ | with_reducible refine BoolOp_or ?_ | with_reducible refine UnaryOp_ ?_
  | ((with_reducible show wpAny _ _ (eval (Expr.Subscript _ (Expr.Slice _ _ _ _) _) _) _ _ _); (with_reducible rename St _ _ _ _ _ _ _ => hS); first | with_reducible refine e_slice_ns hS ?_ | with_reducible refine e_slice_sn hS ?_ | with_reducible refine e_slice_rev hS ?_)
  | with_reducible refine Subscript_ ?_
  | with_reducible refine List_ ?_ | with_reducible refine Tuple_ ?_
  | ((with_reducible show wpAny _ _ (eval (Expr.Dict _ _ _) _) _ _ _); (with_reducible rename St _ _ _ _ _ _ _ => hS); (first | with_reducible refine e_dict0 hS ?_ | with_reducible refine e_dict1 hS ?_); clear hS; intros)
  | ((with_reducible show wpAny _ _ (eval (Expr.Call (Expr.Attribute _ _ _) _ _ _) _) _ _ _); (with_reducible rename St _ _ _ _ _ _ _ => hS); with_reducible refine' e_append hS ?hv ?hl ?hc ?hli ?_; (case hv => walk_at "m loc"); (case hl => walk_at "m mem"); (case hc => kernel_rfl!); (case hli => kernel_rfl!)))
-- tests
local macro_rules | `(tactic| walk_at "m test") => `(tactic| first
  | ((with_reducible show wpAny _ _ (isTrue (Expr.Compare _ [_] [_] _) _ _) _ _ _); refine wpAny_isTrue_Compare1 ?_) | ((with_reducible show wpAny _ _ (isTrue (Expr.Compare _ (_ :: _ :: _) _ _) _ _) _ _ _); refine isTrue_chain ?_)
  | with_reducible refine isTrue_and_nil ?_ | with_reducible refine isTrue_or_nil ?_ | with_reducible refine isTrue_and ?_ | with_reducible refine isTrue_or ?_ | with_reducible refine isTrue_not ?_
  | refine PyProof.Rows.isTrue_plain ?_)
-- other trees
local macro_rules | `(tactic| walk_at "m tree") => `(tactic| first
  | with_reducible refine wpAny_truthy_bool ?_ | with_reducible refine truthy_none ?_ | with_reducible refine not_of ?_
  | ((with_reducible rename St _ _ _ _ _ _ _ => hS); (first | (with_reducible refine' r_store hS ?_ ?hc; (case hc => kernel_rfl!)) | (with_reducible refine r_newList hS (by walk_at "m size") ?_) | (with_reducible refine r_newTuple hS (by walk_at "m size") ?_) | with_reducible refine r_neg hS ?_); clear hS; intros)
  | with_reducible refine wpAny_items_nil ?_ | ((with_reducible show wpAny _ _ (spliced _) _ _ _); refine wpAny_items_cons ?_)
  | ((with_reducible show wpAny _ _ (testChain _ _ [_] _) _ _ _); refine test_last ?_) | ((with_reducible show wpAny _ _ (testChain _ _ _ _) _ _ _); refine test_link ?_) | ((with_reducible show wpAny _ _ (compareChain _ _ [_] _) _ _ _); refine chain_last ?_) | ((with_reducible show wpAny _ _ (compareChain _ _ _ _) _ _ _); refine chain_link ?_)
  | ((with_reducible show wpAny _ _ (subscriptTail _ _ _ _) _ _ _); walk_at "m sub"))
-- what is no tree
local macro_rules | `(tactic| walk_at "m end") => `(tactic| first
  | with_reducible refine retK_ret ?_ | with_reducible refine thenK_next ?_ | with_reducible refine thenK_ret ?_ | with_reducible refine retK_next ?_
  | with_reducible refine ite_t rfl ?_ | with_reducible refine ite_f rfl ?_
  | with_reducible refine exprK_none ?_ | with_reducible refine exprK_str ?_ | with_reducible refine exprK_bool ?_ | with_reducible refine exprK_int ?_
  | ((with_reducible show Gd _ _ _ _ ∧ _); (with_reducible rename St _ _ _ _ _ _ _ => hS); (with_reducible rename GdH _ _ _ _ => hG); refine ⟨St.gd hS hG, ?_⟩)
  | ((with_reducible rename St _ _ _ _ _ _ _ => hS); (with_reducible refine UnpK.mk hS (Rm.hh (by assumption)) (by walk_at "m mem") ?_); clear hS; intros)
  | ((with_reducible rename St _ _ _ _ _ _ _ => hS); (first | (with_reducible refine SlUp.mk hS (by walk_at "m size") ?_) | (with_reducible refine SlLo.mk hS (by walk_at "m size") ?_) | (with_reducible refine SlRev.mk hS (by walk_at "m size") ?_) | with_reducible refine DictK.mk hS ?_); clear hS; intros))
local macro_rules | `(tactic| walk_at "m step") => `(tactic| first
  | ((with_reducible show wpAny _ _ (eval _ _) _ _ _); walk_at "m exp")
  | ((with_reducible show wpAny _ _ (execs _ _) _ _ _); walk_at "m stm")
  | ((with_reducible show wpAny _ _ (isTrue _ _ _) _ _ _); walk_at "m test")
  | ((with_reducible show wpAny _ _ (call _ _ _) _ _ _); walk_at "m blt")
  | ((with_reducible show wpAny _ _ (binaryOp _ _ _) _ _ _); walk_at "m bin")
  | ((with_reducible show wpAny _ _ (compareOp _ _ _) _ _ _); walk_at "m cmp")
  | ((with_reducible show wpAny _ _ _ _ _ _); walk_at "m tree")
  | walk_at "m end")
-- every test both ways
local macro_rules | `(tactic| walk_at "m split") => `(tactic| first | (refine split_dec ?_ ?_ <;> intro _) | (refine split_bool ?_ ?_ <;> intro _))
local macro_rules | `(tactic| walk_at "m all") => `(tactic| repeat' (first | walk_at "m step" | walk_at "m split"))
local macro_rules | `(tactic| walk_at "m") => `(tactic| repeat' (walk_at "m step"))
-- tests that are settled
local macro_rules | `(tactic| walk_at "m dec") => `(tactic| first | (with_reducible refine' ite_t (decide_eq_true ?hp) ?_; (case hp => omega)) | (with_reducible refine' ite_f (decide_eq_false ?hp) ?_; (case hp => omega)) | (with_reducible refine' ite_f (ndec ?hp) ?_; (case hp => omega)) | (with_reducible refine' ite_t (ndecT ?hp) ?_; (case hp => omega)) | fail)
local macro_rules | `(tactic| walk_at "m lit") => `(tactic| first | (with_reducible refine' ite_t ?hp ?_; (case hp => decide +kernel)) | (with_reducible refine' ite_f ?hp ?_; (case hp => decide +kernel)) | fail)
local macro_rules | `(tactic| walk_at "m wd") => `(tactic| repeat' (first | walk_at "m step" | walk_at "m dec"))
local macro_rules | `(tactic| walk_at "m wl") => `(tactic| repeat' (first | walk_at "m step" | walk_at "m dec" | walk_at "m lit"))
abbrev KK (w : World) : Addr → Obj → Prop := fun a o => (hd.heap_39 w.params).lookup a = some o
abbrev prg : Program := PySem.Challenge.rw_uf050039_02.row.prog
theorem fill_frag : (fun P : Params => hd.heap_39 P) = (fun P => hd.heap_39 P) ∧ PySem.Challenge.rw_uf050039_02 = PySem.Challenge.rw_uf050039_02 := by
  k_fill
  exact ⟨rfl, rfl⟩
structure Nm (mg mb : Str → Option Value) : Prop where
  g_NearError : mg (Str.ofString "NearError") = some (.ref 24)
  g_BadWord : mg (Str.ofString "BadWord") = some (.ref 37)
  g_BadChange : mg (Str.ofString "BadChange") = some (.ref 49)
  g_BadMost : mg (Str.ofString "BadMost") = some (.ref 61)
  g_Full : mg (Str.ofString "Full") = some (.ref 73)
  g_LETTERS : mg (Str.ofString "LETTERS") = some (.str (Str.ofString "abcdefghijklmnopqrstuvwxyz") 273)
  g_is_letter : mg (Str.ofString "is_letter") = some (.ref 82)
  g_is_place : mg (Str.ofString "is_place") = some (.ref 89)
  g_is_change : mg (Str.ofString "is_change") = some (.ref 96)
  g_done : mg (Str.ofString "done") = some (.ref 103)
  g_law_at : mg (Str.ofString "_law_at") = some (.ref 110)
  g_law_whole : mg (Str.ofString "_law_whole") = some (.ref 117)
  g_law_letter : mg (Str.ofString "_law_letter") = some (.ref 124)
  g_law_word : mg (Str.ofString "_law_word") = some (.ref 131)
  g_law_step : mg (Str.ofString "_law_step") = some (.ref 138)
  g_law_kinds : mg (Str.ofString "_law_kinds") = some (.ref 145)
  g_law_sign : mg (Str.ofString "_law_sign") = some (.ref 152)
  g_law_change : mg (Str.ofString "_law_change") = some (.ref 159)
  g_law_done : mg (Str.ofString "_law_done") = some (.ref 166)
  g_law : mg (Str.ofString "law") = some (.ref 173)
  n_isinstance : mg (Str.ofString "isinstance") = none
  b_isinstance : mb (Str.ofString "isinstance") = some (.builtin "isinstance")
  n_len : mg (Str.ofString "len") = none
  b_len : mb (Str.ofString "len") = some (.builtin "len")
  n_range : mg (Str.ofString "range") = none
  b_range : mb (Str.ofString "range") = some (.type "range")
  n_int : mg (Str.ofString "int") = none
  b_int : mb (Str.ofString "int") = some (.type "int")
  n_str : mg (Str.ofString "str") = none
  b_str : mb (Str.ofString "str") = some (.type "str")
  n_bool : mg (Str.ofString "bool") = none
  b_bool : mb (Str.ofString "bool") = some (.type "bool")
  n_tuple : mg (Str.ofString "tuple") = none
  b_tuple : mb (Str.ofString "tuple") = some (.type "tuple")
  n_ValueError : mg (Str.ofString "ValueError") = none
  b_ValueError : mb (Str.ofString "ValueError") = some (.type "ValueError")
theorem nm_of {w : World} {p : Program} {loose : List Str} {mean : ExcName → Option Value} {mg mb : Str → Option Value} {h : Heap} (X : (hd.heap_39 w.params).In h) (T : Top p loose mean mg mb h) : Nm mg mb :=
  ⟨mg_of X T.g (by k_is),
   mg_of X T.g (by k_is),
   mg_of X T.g (by k_is),
   mg_of X T.g (by k_is),
   mg_of X T.g (by k_is),
   mg_of X T.g (by k_is),
   mg_of X T.g (by k_is),
   mg_of X T.g (by k_is),
   mg_of X T.g (by k_is),
   mg_of X T.g (by k_is),
   mg_of X T.g (by k_is),
   mg_of X T.g (by k_is),
   mg_of X T.g (by k_is),
   mg_of X T.g (by k_is),
   mg_of X T.g (by k_is),
   mg_of X T.g (by k_is),
   mg_of X T.g (by k_is),
   mg_of X T.g (by k_is),
   mg_of X T.g (by k_is),
   mg_of X T.g (by k_is),
   mg_none_of X T.g (by k_is),
   (T.builtins _ (by decide +kernel)).trans (by boot_fast),
   mg_none_of X T.g (by k_is),
   (T.builtins _ (by decide +kernel)).trans (by boot_fast),
   mg_none_of X T.g (by k_is),
   (T.builtins _ (by decide +kernel)).trans (by boot_fast),
   mg_none_of X T.g (by k_is),
   (T.builtins _ (by decide +kernel)).trans (by boot_fast),
   mg_none_of X T.g (by k_is),
   (T.builtins _ (by decide +kernel)).trans (by boot_fast),
   mg_none_of X T.g (by k_is),
   (T.builtins _ (by decide +kernel)).trans (by boot_fast),
   mg_none_of X T.g (by k_is),
   (T.builtins _ (by decide +kernel)).trans (by boot_fast),
   mg_none_of X T.g (by k_is),
   (T.builtins _ (by decide +kernel)).trans (by boot_fast)⟩
def isLc (c : Nat) : Bool := decide (97 ≤ c ∧ c ≤ 122)
theorem letters_in (c : Nat) : (!(Builtin.Str.occurrences (Str.ofString "abcdefghijklmnopqrstuvwxyz") ⟨#[c]⟩ 0 (Str.ofString "abcdefghijklmnopqrstuvwxyz").length 1).isEmpty) = isLc c := by
  rw [StrLaws.found_one]
  have e : (Str.ofString "abcdefghijklmnopqrstuvwxyz").cps.toList = (List.range 26).map (97 + ·) := by decide +kernel
  rw [e]
  unfold isLc
  congr 1
  refine propext ⟨fun h => ?_, fun h => ?_⟩
  · obtain ⟨i, hi, rfl⟩ := List.mem_map.mp h
    have := List.mem_range.mp hi; omega
  · exact List.mem_map.mpr ⟨c - 97, List.mem_range.mpr (by omega), by omega⟩
/-- a word -/
def isW (x : Str) : Bool := decide (x.length ≤ 24) && (cl x).all isLc
theorem isW_iff (x : Str) : isW x = true ↔ x.length ≤ 24 ∧ ∀ c ∈ cl x, 97 ≤ c ∧ c ≤ 122 := by
  unfold isW
  rw [Bool.and_eq_true, decide_eq_true_eq, List.all_eq_true]
  simp only [isLc, decide_eq_true_eq]
section
variable {w : World} {A : Around} {E : Value → Shared → Prop} {s : Shared} {mg mb : Str → Option Value} {Q : Value → Shared → Prop}
theorem c_is_letter {c : Nat} {t : Tok} (N : Nm mg mb) (G : Gd (KK w) mg mb s.heap) (r : Rm A 1) (h : ∀ s', Kp s s' → Q (.bool (isLc c)) s') : wpAny (model prg w) A (call (.ref 82) [.str ⟨#[c]⟩ t]) Q E s := by
  refine' enterK [Str.ofString "thing"] G ?hf ?hcd r ?hb ?hloc ?hcell ?h1 ?h2 ?h3 ?_
  walk_at "m enter"
  intro E' L s' m hm hL S GH r1
  have e1 : m (Str.ofString "thing") = some (.str ⟨#[c]⟩ t) := by subst hm; rfl
  clear hm hL
  cases N
  have hz : (⟨#[c]⟩ : Str).length ≤ sizeLine := by show 1 ≤ sizeLine; decide
  walk_at "m"
  rw [letters_in]
  exact h _ (St.back ‹_›)
end
/-- the script's items are ints -/
def Ints (vs : List Value) : Prop := ∀ (i : Nat) (v : Value), vs[i]? = some v → ∃ n t, v = Value.int n t
theorem Ints.of {vs : List Value} {ns : List Int} (h : IntsAre vs ns) : Ints vs := by
  induction h with
  | nil => intro i v e; simp at e
  | cons n t _ ih =>
    intro i v e
    cases i with
    | zero => exact ⟨n, t, by simpa using e.symm⟩
    | succ i => exact ih i v (by simpa using e)
theorem IntsAre.len {vs : List Value} {ns : List Int} (h : IntsAre vs ns) : vs.length = ns.length := by
  induction h with
  | nil => rfl
  | cons _ _ _ ih => simp [ih]
theorem fmod_lo (a : Int) {b : Int} (h : 0 < b) : 0 ≤ a.fmod b := Int.fmod_nonneg_of_pos a h
theorem fmod_hi (a : Int) {b : Int} (h : 0 < b) : a.fmod b < b := Int.fmod_lt_of_pos a h
section
variable {w : World} {A : Around} {E : Value → Shared → Prop} {s : Shared} {mg mb : Str → Option Value} {Q : Value → Shared → Prop}
theorem c_law_at {a : Addr} {vs : List Value} {i : Int} {t : Tok} (N : Nm mg mb) (G : Gd (KK w) mg mb s.heap) (r : Rm A 1) (hl : s.heap.IsList a vs.toArray) (hi : Ints vs) (hz : vs.length ≤ 63) (h0 : 0 ≤ i)
    (h : ∀ v t' s', Kp s s' → Q (.int v t') s') : wpAny (model prg w) A (call (.ref 110) [.ref a, .int i t]) Q E s := by
  refine' enterK [Str.ofString "_law_script", Str.ofString "_law_k"] G ?hf ?hcd r ?hb ?hloc ?hcell ?h1 ?h2 ?h3 ?_
  walk_at "m enter"
  intro E' L s' m hm hL S GH r1
  have e1 : m (Str.ofString "_law_script") = some (.ref a) := by subst hm; rfl
  have e2 : m (Str.ofString "_law_k") = some (.int i t) := by subst hm; rfl
  clear hm hL
  cases N
  have hz1 : vs.length ≤ sizeLine := by rw [sizeLine_eq]; omega
  walk_at "m"
  refine r_len_list ‹_› (hl.at fun o e => St.keep ‹_› _ _ e) hz1 ?_
  intros
  walk_at "m"
  refine split_dec (fun hc => ?_) (fun hc => ?_)
  · walk_at "m"
    have hlt : i.toNat < vs.length := by omega
    obtain ⟨n, tn, hn⟩ := hi i.toNat vs[i.toNat] (by simp [hlt])
    refine r_item_list (hl.at fun o e => St.keep ‹_› _ _ e) h0 hz1 (v := .int n tn) (by rw [← hn]; simp [hlt]) ?_
    walk_at "m"
    exact h _ _ _ (St.back ‹_›)
  · walk_at "m"
    exact h _ _ _ (St.back ‹_›)
end
-- a call of _law_at
local macro_rules | `(tactic| walk_at "m at") => `(tactic| ((with_reducible rename St _ _ _ _ _ _ _ => hS); (with_reducible rename GdH _ _ _ _ => hG); refine c_law_at (by assumption) (St.gd hS hG) (Rm.less (by assumption) (by omega)) (Heap.IsList.at (by assumption) fun o e => St.keep hS _ _ e) (by assumption) (by assumption) (by omega) ?_; (intro _ _ _ hk; have hS' := St.kp hS hk; clear hS hk)))
local macro_rules | `(tactic| walk_at "m w") => `(tactic| repeat' (first | walk_at "m step" | walk_at "m at"))
theorem az_at {i : Int} (h0 : 0 ≤ i) (h1 : i < 26) : ∃ c, (Str.ofString "abcdefghijklmnopqrstuvwxyz").cps.toList[i.toNat]? = some c ∧ 97 ≤ c ∧ c ≤ 122 := by
  have e : (Str.ofString "abcdefghijklmnopqrstuvwxyz").cps.toList = (List.range 26).map (97 + ·) := by decide +kernel
  refine ⟨97 + i.toNat, ?_, by omega, by omega⟩
  rw [e, List.getElem?_map, List.getElem?_range (by omega)]; rfl
/-- an int from 1 to 26 -/
def Sm (v : Value) : Prop := ∃ n t, v = Value.int n t ∧ 1 ≤ n ∧ n ≤ 26
theorem pick3 {v0 v1 v2 : Value} {i : Int} (h0 : 0 ≤ i) (h1 : i < 3) (ha : Sm v0) (hb : Sm v1) (hc : Sm v2) : ∃ v, [v0, v1, v2][i.toNat]? = some v ∧ Sm v := by
  have : i = 0 ∨ i = 1 ∨ i = 2 := by omega
  rcases this with rfl | rfl | rfl
  · exact ⟨_, rfl, ha⟩
  · exact ⟨_, rfl, hb⟩
  · exact ⟨_, rfl, hc⟩
theorem pick4 {v0 v1 v2 v3 : Value} {i : Int} (h0 : 0 ≤ i) (h1 : i < 4) (ha : Sm v0) (hb : Sm v1) (hc : Sm v2) (hd : Sm v3) : ∃ v, [v0, v1, v2, v3][i.toNat]? = some v ∧ Sm v := by
  have : i = 0 ∨ i = 1 ∨ i = 2 ∨ i = 3 := by omega
  rcases this with rfl | rfl | rfl | rfl
  · exact ⟨_, rfl, ha⟩
  · exact ⟨_, rfl, hb⟩
  · exact ⟨_, rfl, hc⟩
  · exact ⟨_, rfl, hd⟩
theorem sm {n : Int} {t : Tok} (h : 1 ≤ n ∧ n ≤ 26) : Sm (.int n t) := ⟨n, t, rfl, h⟩
theorem r_item_ex {prog : Program} {w : World} {A : Around} {E : Value → Shared → Prop} {s : Shared} {Q : Value → Shared → Prop} {value slice : Expr} {a : Addr} {vs : List Value} {i : Int} {u : Tok} (P : Value → Prop) (hl : s.heap.IsList a vs.toArray) (h0 : 0 ≤ i) (hz : vs.length ≤ sizeLine)
    (hv : ∃ v, vs[i.toNat]? = some v ∧ P v) (h : ∀ v, P v → Q v s)
    (hs : subscripted slice false (.ref a) (.int i u) = operate [.ref a, .int i u] (getItem (.ref a) (.int i u)) := by with_unfolding_all rfl) : wpAny (model prog w) A (subscriptTail value slice (.ref a) (.int i u)) Q E s := by
  obtain ⟨v, hv, hp⟩ := hv
  exact r_item_list hl h0 hz hv (h v hp) hs
section
variable {w : World} {A : Around} {E : Value → Shared → Prop} {s : Shared} {mg mb : Str → Option Value} {Q : Value → Shared → Prop}
theorem c_law_letter {mode num : Int} {t u : Tok} (N : Nm mg mb) (G : Gd (KK w) mg mb s.heap) (r : Rm A 1) (h : ∀ c t' s', 97 ≤ c → c ≤ 122 → Kp s s' → Q (.str ⟨#[c]⟩ t') s') :
    wpAny (model prg w) A (call (.ref 124) [.int mode t, .int num u]) Q E s := by
  refine' enterK [Str.ofString "_law_mode", Str.ofString "_law_number"] G ?hf ?hcd r ?hb ?hloc ?hcell ?h1 ?h2 ?h3 ?_
  walk_at "m enter"
  intro E' L s' m hm hL S GH r1
  have e1 : m (Str.ofString "_law_mode") = some (.int mode t) := by subst hm; rfl
  have e2 : m (Str.ofString "_law_number") = some (.int num u) := by subst hm; rfl
  clear hm hL
  cases N
  walk_at "m"
  refine r_item_ex Sm (isL (St.get ‹_› List.mem_cons_self)) (fmod_lo mode (by omega)) (by show 3 ≤ sizeLine; decide) (pick3 (fmod_lo _ (by omega)) (fmod_hi _ (by omega)) (sm (by omega)) (sm (by omega)) (sm (by omega))) ?_
  rintro _ ⟨n1, t1, rfl, hlo1, hhi1⟩
  walk_at "m"
  refine r_item_ex Sm (isL (St.get ‹_› List.mem_cons_self)) (fmod_lo _ (by omega)) (by show 4 ≤ sizeLine; decide) (pick4 (fmod_lo _ (by omega)) (fmod_hi _ (by omega)) (sm (by omega)) (sm (by omega)) (sm (by omega)) (sm (by omega))) ?_
  rintro _ ⟨n2, t2, rfl, hlo2, hhi2⟩
  walk_at "m"
  obtain ⟨c, hc, hc1, hc2⟩ := az_at (fmod_lo (mode.fdiv 3 + num.fmod n1 * n2) (b := 26) (by omega)) (fmod_hi _ (by omega))
  refine r_item_str ‹_› (fmod_lo _ (by omega)) (by rw [PySem.ofString_length, sizeLine_eq]; decide +kernel) hc ?_
  intros
  walk_at "m"
  exact h c _ _ hc1 hc2 (St.back ‹_›)
theorem c_law_word {mode cell most : Int} {t u v : Tok} (N : Nm mg mb) (G : Gd (KK w) mg mb s.heap) (r : Rm A 2) (h0 : 0 ≤ most) (h1 : most ≤ 1000)
    (h : ∀ x t' s', Lets x → x.length ≤ most.toNat → Kp s s' → Q (.str x t') s') : wpAny (model prg w) A (call (.ref 131) [.int mode t, .int cell u, .int most v]) Q E s := by
  refine' enterK [Str.ofString "_law_mode", Str.ofString "_law_cell", Str.ofString "_law_most"] G ?hf ?hcd r ?hb ?hloc ?hcell ?h1 ?h2 ?h3 ?_
  walk_at "m enter"
  intro E' L s' m hm hL S GH r1
  have e1 : m (Str.ofString "_law_mode") = some (.int mode t) := by subst hm; rfl
  have e2 : m (Str.ofString "_law_cell") = some (.int cell u) := by subst hm; rfl
  have e3 : m (Str.ofString "_law_most") = some (.int most v) := by subst hm; rfl
  clear hm hL
  have N' := N
  cases N
  walk_at "m"
  refine x_for ?_
  walk_at "m"
  have b0 := fmod_lo cell (b := most + 1) (by omega)
  have b1 := fmod_hi cell (b := most + 1) (by omega)
  refine for_range (J := fun i m' σ' => m' (Str.ofString "_law_mode") = some (.int mode t) ∧ ∃ ce tc x tx, m' (Str.ofString "_law_cell") = some (.int ce tc) ∧ m' (Str.ofString "_law_found") = some (.str x tx) ∧ Lets x ∧ x.length = i ∧ σ' = []) ‹_› r1.hh (by omega) (by omega) ?_ ?_ ?_ ?_
  · exact ⟨by walk_at "m loc", _, _, _, _, by walk_at "m loc", by walk_at "m loc", (fun c hc => by cases hc), rfl, rfl⟩
  · kernel_rfl!
  · intro E2 i m2 σ2 s2 t2 Hb hi hJ hb S2
    obtain ⟨f1, ce, tc, x, tx, f2, f3, hx, hlen, rfl⟩ := hJ
    have hG' := GdH.mono ‹_› hb
    walk_at "m"
    refine c_law_letter N' (St.gd ‹_› ‹_›) r1 fun c tc s3 hc1 hc2 k3 => ?_
    have S3 := St.kp ‹_› k3
    have hz : x.length + (⟨#[c]⟩ : Str).length ≤ sizeLine := by rw [len_one, sizeLine_eq]; omega
    walk_at "m"
    exact turnK_next ‹_› ⟨by walk_at "m loc", _, _, _, _, by walk_at "m loc", by walk_at "m loc", hx.append (.one ⟨hc1, hc2⟩), by rw [len_app, len_one]; omega, rfl⟩
  · intro m2 σ2 s2 hJ S2
    obtain ⟨f1, ce, tc, x, tx, f2, f3, hx, hlen, rfl⟩ := hJ
    walk_at "m"
    exact h x _ _ hx (by omega) (St.back ‹St _ _ _ _ m2 _ _›)
end
section
variable {w : World} {A : Around} {E : Value → Shared → Prop} {s : Shared} {mg mb : Str → Option Value} {Q : Value → Shared → Prop}
theorem c_law_whole {i : Int} {t : Tok} (N : Nm mg mb) (G : Gd (KK w) mg mb s.heap) (r : Rm A 1) (h : ∀ s', Kp s s' → Q (.bool true) s') : wpAny (model prg w) A (call (.ref 117) [.int i t]) Q E s := by
  refine' enterK [Str.ofString "_law_thing"] G ?hf ?hcd r ?hb ?hloc ?hcell ?h1 ?h2 ?h3 ?_
  walk_at "m enter"
  intro E' L s' m hm hL S GH r1
  have e1 : m (Str.ofString "_law_thing") = some (.int i t) := by subst hm; rfl
  clear hm hL
  cases N
  walk_at "m"
  exact h _ (St.back ‹_›)
end
section
variable {k : Bool} {w : World} {A : Around} {E : Value → Shared → Prop} {s₀ s : Shared} {H : Addr → Obj → Prop} {L : Addr} {m : Str → Option Value} {σ : List (Addr × Obj)} {mg mb : Str → Option Value} {Q : Value → Shared → Prop}
theorem r_item_sign {value slice : Expr} {x : Str} {t u : Tok} {i : Int} (S : St k s₀ H L m σ s) (h0 : 0 ≤ i) (h1 : i < x.length) (hz : x.length ≤ sizeLine) (h : ∀ c t s', St k s₀ H L m σ s' → Q (.str ⟨#[c]⟩ t) s')
    (hs : subscripted slice false (.str x t) (.int i u) = operate [.str x t, .int i u] (getItem (.str x t) (.int i u)) := by with_unfolding_all rfl) : wpAny (model prg w) A (subscriptTail value slice (.str x t) (.int i u)) Q E s :=
  r_item_str S h0 hz (getD_of (l := x.cps.toList) (by have := cl_length x; unfold cl at this; omega)) (fun t s' => h _ t s') hs
theorem c_law_sign {n : Int} {t : Tok} (N : Nm mg mb) (G : Gd (KK w) mg mb s.heap) (r : Rm A 1) (h : ∀ c t' s', Kp s s' → Q (.str ⟨#[c]⟩ t') s') : wpAny (model prg w) A (call (.ref 152) [.int n t]) Q E s := by
  refine' enterK [Str.ofString "_law_cell"] G ?hf ?hcd r ?hb ?hloc ?hcell ?h1 ?h2 ?h3 ?_
  walk_at "m enter"
  intro E' L s' m hm hL S GH r1
  have e1 : m (Str.ofString "_law_cell") = some (.int n t) := by subst hm; rfl
  clear hm hL
  have N' := N
  cases N
  walk_at "m"
  refine r_len_str ‹_› (by decide +kernel) ?_
  intros
  refine r_fmod ‹_› (by decide +kernel) ?_
  intros
  refine r_item_sign ‹_› (fmod_lo _ (by decide +kernel)) (fmod_hi _ (by decide +kernel)) (by decide +kernel) ?_
  intros
  walk_at "m"
  exact h _ _ _ (St.back ‹_›)
end
/-- no letter -/
def NoLet (g : Addr → Obj → Prop) (v : Value) : Prop := (∃ x t, v = .str x t ∧ x.length ≠ 1 ∧ x.length ≤ 1000) ∨ (∃ n t, v = .int n t) ∨ v = .none ∨ ∃ a o, v = .ref a ∧ g a o ∧ o.cls = .type "list"
theorem NoLet.mono {g g' : Addr → Obj → Prop} {v : Value} (h : NoLet g v) (k : ∀ a o, g a o → g' a o) : NoLet g' v :=
  h.imp id fun h => h.imp id fun h => h.imp id fun ⟨a, o, e, ho, hc⟩ => ⟨a, o, e, k _ _ ho, hc⟩
/-- no change of any text -/
inductive BadC (g : Addr → Obj → Prop) : Value → Prop
  | none : BadC g .none
  | int {n t} : BadC g (.int n t)
  | str {x t} : BadC g (.str x t)
  | lst {a o} : g a o → o.cls = .type "list" → BadC g (.ref a)
  | t0 {a} : g a (tup []) → BadC g (.ref a)
  | t1 {a t} : g a (tup [.str (Str.ofString "cut") t]) → BadC g (.ref a)
  | t4 {a t1 t2 t3 t4} : g a (tup [.str (Str.ofString "put") t1, .int 0 t2, .str (Str.ofString "a") t3, .str (Str.ofString "b") t4]) → BadC g (.ref a)
  | put {a t1 p t2 v} : g a (tup [.str (Str.ofString "put") t1, .int p t2, v]) → NoLet g v → BadC g (.ref a)
  | turn {a t1 p t2 v} : g a (tup [.str (Str.ofString "turn") t1, .int p t2, v]) → NoLet g v → BadC g (.ref a)
  | put2 {a t1 p t2} : g a (tup [.str (Str.ofString "put") t1, .int p t2]) → BadC g (.ref a)
  | turn2 {a t1 p t2} : g a (tup [.str (Str.ofString "turn") t1, .int p t2]) → BadC g (.ref a)
  | keep2 {a t1 p t2} : g a (tup [.str (Str.ofString "keep") t1, .int p t2]) → BadC g (.ref a)
  | cut3 {a t1 p t2 t3} : g a (tup [.str (Str.ofString "cut") t1, .int p t2, .str (Str.ofString "a") t3]) → BadC g (.ref a)
  | Put3 {a t1 p t2 t3} : g a (tup [.str (Str.ofString "Put") t1, .int p t2, .str (Str.ofString "a") t3]) → BadC g (.ref a)
  | true3 {a t1 t3} : g a (tup [.str (Str.ofString "put") t1, .bool true, .str (Str.ofString "a") t3]) → BadC g (.ref a)
  | false2 {a t1} : g a (tup [.str (Str.ofString "cut") t1, .bool false]) → BadC g (.ref a)
  | none2 {a t1} : g a (tup [.str (Str.ofString "cut") t1, .none]) → BadC g (.ref a)
  | str3 {a t1 t2 t3} : g a (tup [.str (Str.ofString "put") t1, .str (Str.ofString "0") t2, .str (Str.ofString "a") t3]) → BadC g (.ref a)
  | list3 {a b vs n t2 t3} : g a (tup [.ref b, .int 0 t2, .str (Str.ofString "a") t3]) → g b (Mine.lst vs n) → BadC g (.ref a)
  | list2 {a b o t1 t3} : g a (tup [.str (Str.ofString "put") t1, .ref b, .str (Str.ofString "a") t3]) → g b o → o.cls = .type "list" → BadC g (.ref a)
  | dict2 {a b t2} : g a (tup [.ref b, .int 0 t2]) → g b dct0 → BadC g (.ref a)
  | nonen {a t2} : g a (tup [.none, .int 0 t2]) → BadC g (.ref a)
theorem BadC.mono {g g' : Addr → Obj → Prop} {v : Value} (h : BadC g v) (k : ∀ a o, g a o → g' a o) : BadC g' v := by
  cases h with
  | none => exact .none
  | int => exact .int
  | str => exact .str
  | lst h1 h2 => exact .lst (k _ _ h1) h2
  | t0 h => exact .t0 (k _ _ h)
  | t1 h => exact .t1 (k _ _ h)
  | t4 h => exact .t4 (k _ _ h)
  | put h n => exact .put (k _ _ h) (n.mono k)
  | turn h n => exact .turn (k _ _ h) (n.mono k)
  | put2 h => exact .put2 (k _ _ h)
  | turn2 h => exact .turn2 (k _ _ h)
  | keep2 h => exact .keep2 (k _ _ h)
  | cut3 h => exact .cut3 (k _ _ h)
  | Put3 h => exact .Put3 (k _ _ h)
  | true3 h => exact .true3 (k _ _ h)
  | false2 h => exact .false2 (k _ _ h)
  | none2 h => exact .none2 (k _ _ h)
  | str3 h => exact .str3 (k _ _ h)
  | list3 h h1 => exact .list3 (k _ _ h) (k _ _ h1)
  | list2 h h1 h2 => exact .list2 (k _ _ h) (k _ _ h1) h2
  | dict2 h h1 => exact .dict2 (k _ _ h) (k _ _ h1)
  | nonen h => exact .nonen (k _ _ h)
/-- a thing that may be a change, and what it makes of a text -/
inductive CVal (g : Addr → Obj → Prop) : Value → (List Nat → Option (List Nat)) → Prop
  | put {a t1 p t2 c t3} : g a (tup [.str (Str.ofString "put") t1, .int p t2, .str ⟨#[c]⟩ t3]) → CVal g (.ref a) fun x => if isLc c = true ∧ 0 ≤ p ∧ p ≤ x.length then some (x.take p.toNat ++ c :: x.drop p.toNat) else none
  | turn {a t1 p t2 c t3} : g a (tup [.str (Str.ofString "turn") t1, .int p t2, .str ⟨#[c]⟩ t3]) → CVal g (.ref a) fun x => if isLc c = true ∧ 0 ≤ p ∧ p < x.length ∧ x.getD p.toNat 0 ≠ c then some (x.take p.toNat ++ c :: x.drop (p.toNat + 1)) else none
  | cut {a t1 p t2} : g a (tup [.str (Str.ofString "cut") t1, .int p t2]) → CVal g (.ref a) fun x => if 0 ≤ p ∧ p < x.length then some (x.take p.toNat ++ x.drop (p.toNat + 1)) else none
  | bad {v} : BadC g v → CVal g v fun _ => none
theorem CVal.mono {g g' : Addr → Obj → Prop} {v : Value} {f : List Nat → Option (List Nat)} (h : CVal g v f) (k : ∀ a o, g a o → g' a o) : CVal g' v f := by
  cases h with
  | put h => exact .put (k _ _ h)
  | turn h => exact .turn (k _ _ h)
  | cut h => exact .cut (k _ _ h)
  | bad h => exact .bad (h.mono k)
-- more kinds of things asked for their kind
local macro_rules | `(tactic| walk_at "m blt") => `(tactic| ((with_reducible rename St _ _ _ _ _ _ _ => hS); (first
  | with_reducible refine isi_NoneType_tuple hS ?_ | with_reducible refine isi_int_tuple hS ?_ | with_reducible refine isi_str_tuple hS ?_
  | with_reducible refine isi_NoneType_str hS ?_ | with_reducible refine isi_int_str hS ?_ | with_reducible refine isi_bool_str hS ?_
  | with_reducible refine isi_NoneType_int hS ?_ | with_reducible refine isi_str_int hS ?_ | with_reducible refine isi_bool_int hS ?_
  | (with_reducible refine isi_list_tuple (by walk_at "m got") (by first | rfl | assumption) hS ?_) | (with_reducible refine isi_list_str (by walk_at "m got") (by first | rfl | assumption) hS ?_) | (with_reducible refine isi_list_int (by walk_at "m got") (by first | rfl | assumption) hS ?_)
  | (with_reducible refine isi_dict_str (by walk_at "m got") (by first | rfl | assumption) hS ?_)); clear hS; intros))
-- and compared with texts
local macro_rules | `(tactic| walk_at "m cmp") => `(tactic| first
  | with_reducible refine PySem.EqNone.eq_none_str ?_ | with_reducible refine PySem.EqNone.ne_none_str ?_
  | (with_reducible refine r_ne_dict_str (by walk_at "m got") (Rm.line (by assumption)) ?_)
  | (with_reducible refine r_eq_list_str (by walk_at "m got") (Rm.line (by assumption)) ?_) | (with_reducible refine r_ne_list_str (by walk_at "m got") (Rm.line (by assumption)) ?_))
section
variable {w : World} {A : Around} {E : Value → Shared → Prop} {s : Shared} {mg mb : Str → Option Value} {Q : Value → Shared → Prop}
/-- no whole number -/
def NoNum (g : Addr → Obj → Prop) (v : Value) : Prop := (∃ x t, v = .str x t) ∨ (∃ b, v = .bool b) ∨ v = .none ∨ ∃ a o, v = .ref a ∧ g a o ∧ o.cls = .type "list"
theorem c_law_whole_no {v : Value} (N : Nm mg mb) (G : Gd (KK w) mg mb s.heap) (r : Rm A 1) (hv : NoNum (fun a o => s.heap.get? a = some o) v) (h : ∀ s', Kp s s' → Q (.bool false) s') : wpAny (model prg w) A (call (.ref 117) [v]) Q E s := by
  refine' enterK [Str.ofString "_law_thing"] G ?hf ?hcd r ?hb ?hloc ?hcell ?h1 ?h2 ?h3 ?_
  walk_at "m enter"
  intro E' L s' m hm hL S GH r1
  have e1 : m (Str.ofString "_law_thing") = some v := by subst hm; rfl
  clear hm hL
  cases N
  rcases hv with ⟨x, t, rfl⟩ | ⟨b, rfl⟩ | rfl | ⟨a, o, rfl, ho, hc⟩
  all_goals walk_at "m"
  all_goals exact h _ (St.back ‹_›)
theorem c_is_place_no {v : Value} {most : Int} {u : Tok} (N : Nm mg mb) (G : Gd (KK w) mg mb s.heap) (r : Rm A 1) (hv : NoNum (fun a o => s.heap.get? a = some o) v) (h : ∀ s', Kp s s' → Q (.bool false) s') : wpAny (model prg w) A (call (.ref 89) [v, .int most u]) Q E s := by
  refine' enterK [Str.ofString "thing", Str.ofString "most"] G ?hf ?hcd r ?hb ?hloc ?hcell ?h1 ?h2 ?h3 ?_
  walk_at "m enter"
  intro E' L s' m hm hL S GH r1
  have e1 : m (Str.ofString "thing") = some v := by subst hm; rfl
  clear hm hL
  cases N
  rcases hv with ⟨x, t, rfl⟩ | ⟨b, rfl⟩ | rfl | ⟨a, o, rfl, ho, hc⟩
  all_goals walk_at "m"
  all_goals exact h _ (St.back ‹_›)
theorem c_is_letter_no {v : Value} (N : Nm mg mb) (G : Gd (KK w) mg mb s.heap) (r : Rm A 1) (hv : NoLet (fun a o => s.heap.get? a = some o) v) (h : ∀ s', Kp s s' → Q (.bool false) s') : wpAny (model prg w) A (call (.ref 82) [v]) Q E s := by
  refine' enterK [Str.ofString "thing"] G ?hf ?hcd r ?hb ?hloc ?hcell ?h1 ?h2 ?h3 ?_
  walk_at "m enter"
  intro E' L s' m hm hL S GH r1
  have e1 : m (Str.ofString "thing") = some v := by subst hm; rfl
  clear hm hL
  cases N
  rcases hv with ⟨x, t, rfl, hx, hz⟩ | ⟨n, t, rfl⟩ | rfl | ⟨a, o, rfl, ho, hc⟩
  · have hz1 : x.length ≤ sizeLine := by rw [sizeLine_eq]; omega
    walk_at "m"
    rw [show ((x.length : Int) == 1) = false by rw [beq_eq_false_iff_ne]; omega]
    walk_at "m"
    exact h _ (St.back ‹_›)
  all_goals walk_at "m"
  all_goals exact h _ (St.back ‹_›)
end
section
variable {w : World} {A : Around} {E : Value → Shared → Prop} {s : Shared} {mg mb : Str → Option Value} {Q : Value → Shared → Prop}
theorem c_law_step_bad {v : Value} {x : Str} {t : Tok} (N : Nm mg mb) (G : Gd (KK w) mg mb s.heap) (r : Rm A 2) (hz : x.length ≤ 1000) (hb : BadC (fun a o => s.heap.get? a = some o) v)
    (h : ∀ s', Kp s s' → Q .none s') : wpAny (model prg w) A (call (.ref 138) [.str x t, v]) Q E s := by
  refine' enterK [Str.ofString "_law_text", Str.ofString "_law_change_here"] G ?hf ?hcd r ?hb ?hloc ?hcell ?h1 ?h2 ?h3 ?_
  walk_at "m enter"
  intro E' L s' m hm hL S GH r1
  have e1 : m (Str.ofString "_law_text") = some (.str x t) := by subst hm; rfl
  have e2 : m (Str.ofString "_law_change_here") = some v := by subst hm; rfl
  clear hm hL
  have N' := N
  cases N
  have hz1 : x.length ≤ sizeLine := by rw [sizeLine_eq]; omega
  have ha1 : (Str.ofString "a").length ≤ sizeLine := by decide +kernel
  cases hb
  case put hg hn =>
    rcases hn with ⟨y, ty, rfl, hy, hyz⟩ | ⟨n, tn, rfl⟩ | rfl | ⟨b, o, rfl, hb, hbc⟩
    · have hyz1 : y.length ≤ sizeLine := by rw [sizeLine_eq]; omega
      walk_at "m wl"
      refine c_law_whole N' (St.gd ‹_› ‹_›) (r1.less (by omega)) fun s1 k1 => ?_
      have S := St.kp ‹_› k1
      walk_at "m wl"
      refine ite_t (by rw [bne_iff_ne]; omega) ?_
      walk_at "m wl"
      exact h _ (St.back ‹_›)
    all_goals
      walk_at "m wl"
      refine c_law_whole N' (St.gd ‹_› ‹_›) (r1.less (by omega)) fun s1 k1 => ?_
      have S := St.kp ‹_› k1
      walk_at "m wl"
      exact h _ (St.back ‹_›)
  case turn hg hn =>
    rcases hn with ⟨y, ty, rfl, hy, hyz⟩ | ⟨n, tn, rfl⟩ | rfl | ⟨b, o, rfl, hb, hbc⟩
    · have hyz1 : y.length ≤ sizeLine := by rw [sizeLine_eq]; omega
      walk_at "m wl"
      refine c_law_whole N' (St.gd ‹_› ‹_›) (r1.less (by omega)) fun s1 k1 => ?_
      have S := St.kp ‹_› k1
      walk_at "m wl"
      refine ite_t (by rw [bne_iff_ne]; omega) ?_
      walk_at "m wl"
      exact h _ (St.back ‹_›)
    all_goals
      walk_at "m wl"
      refine c_law_whole N' (St.gd ‹_› ‹_›) (r1.less (by omega)) fun s1 k1 => ?_
      have S := St.kp ‹_› k1
      walk_at "m wl"
      exact h _ (St.back ‹_›)
  all_goals walk_at "m wl"
  all_goals try exact h _ (St.back ‹_›)
  all_goals first
    | (refine c_law_whole N' (St.gd ‹_› ‹_›) (r1.less (by omega)) fun s1 k1 => ?_; have S := St.kp ‹_› k1)
    | (refine c_law_whole_no N' (St.gd ‹_› ‹_›) (r1.less (by omega)) (by first | exact .inl ⟨_, _, rfl⟩ | exact .inr (.inl ⟨_, rfl⟩) | exact .inr (.inr (.inl rfl)) | exact .inr (.inr (.inr ⟨_, _, rfl, St.keep ‹_› _ _ (by assumption), by assumption⟩))) fun s1 k1 => ?_; have S := St.kp ‹_› k1)
  all_goals walk_at "m wl"
  all_goals try exact h _ (St.back ‹_›)
end
section
variable {w : World} {A : Around} {E : Value → Shared → Prop} {s : Shared} {mg mb : Str → Option Value} {Q : Value → Shared → Prop}
theorem c_law_step {v : Value} {f : List Nat → Option (List Nat)} {x : Str} {t : Tok} (N : Nm mg mb) (G : Gd (KK w) mg mb s.heap) (r : Rm A 2) (hz : x.length ≤ 1000) (hv : CVal (fun a o => s.heap.get? a = some o) v f)
    (h1 : ∀ y u s', f (cl x) = some (cl y) → Kp s s' → Q (.str y u) s') (h2 : f (cl x) = none → ∀ s', Kp s s' → Q .none s') : wpAny (model prg w) A (call (.ref 138) [.str x t, v]) Q E s := by
  cases hv with
  | bad hb => exact c_law_step_bad N G r hz hb (h2 rfl)
  | put hg =>
    rename_i a t1 p t2 c t3
    refine' enterK [Str.ofString "_law_text", Str.ofString "_law_change_here"] G ?hf ?hcd r ?hb ?hloc ?hcell ?h1 ?h2 ?h3 ?_
    walk_at "m enter"
    intro E' L s' m hm hL S GH r1
    have e1 : m (Str.ofString "_law_text") = some (.str x t) := by subst hm; rfl
    have e2 : m (Str.ofString "_law_change_here") = some (.ref a) := by subst hm; rfl
    clear hm hL
    have N' := N
    cases N
    have hz1 : x.length ≤ sizeLine := by rw [sizeLine_eq]; omega
    have cx := cl_length x
    have hc1 : (⟨#[c]⟩ : Str).length ≤ sizeLine := by show 1 ≤ sizeLine; decide
    have hL1 := len_one c
    walk_at "m wl"
    refine c_law_whole N' (St.gd ‹_› ‹_›) (r1.less (by omega)) fun s1 k1 => ?_
    have S := St.kp ‹_› k1
    walk_at "m wl"
    rw [letters_in]
    cases hlc : isLc c with
    | false =>
      walk_at "m wl"
      exact h2 (by dsimp only; rw [if_neg]; rintro ⟨q, _⟩; rw [hlc] at q; cases q) _ (St.back ‹_›)
    | true =>
      by_cases hp0 : 0 ≤ p
      · have l1 := len_up x p hp0
        have l2 := len_lo x p hp0
        by_cases hp1 : p ≤ x.length
        · walk_at "m wl"
          refine h1 _ _ _ ?_ (St.back ‹_›)
          dsimp only
          rw [if_pos ⟨hlc, hp0, by omega⟩, cl_append, cl_append, cl_one, sl_take _ _ (by omega), sl_drop _ _ (by omega)]
          simp
        · walk_at "m wl"
          exact h2 (by dsimp only; rw [if_neg]; rintro ⟨_, _, q⟩; omega) _ (St.back ‹_›)
      · walk_at "m wl"
        exact h2 (by dsimp only; rw [if_neg]; rintro ⟨_, q, _⟩; omega) _ (St.back ‹_›)
  | turn hg =>
    rename_i a t1 p t2 c t3
    refine' enterK [Str.ofString "_law_text", Str.ofString "_law_change_here"] G ?hf ?hcd r ?hb ?hloc ?hcell ?h1 ?h2 ?h3 ?_
    walk_at "m enter"
    intro E' L s' m hm hL S GH r1
    have e1 : m (Str.ofString "_law_text") = some (.str x t) := by subst hm; rfl
    have e2 : m (Str.ofString "_law_change_here") = some (.ref a) := by subst hm; rfl
    clear hm hL
    have N' := N
    cases N
    have hz1 : x.length ≤ sizeLine := by rw [sizeLine_eq]; omega
    have cx := cl_length x
    have hc1 : (⟨#[c]⟩ : Str).length ≤ sizeLine := by show 1 ≤ sizeLine; decide
    have hL1 := len_one c
    walk_at "m wl"
    refine c_law_whole N' (St.gd ‹_› ‹_›) (r1.less (by omega)) fun s1 k1 => ?_
    have S := St.kp ‹_› k1
    walk_at "m wl"
    rw [letters_in]
    cases hlc : isLc c with
    | false =>
      walk_at "m wl"
      exact h2 (by dsimp only; rw [if_neg]; rintro ⟨q, _⟩; rw [hlc] at q; cases q) _ (St.back ‹_›)
    | true =>
      by_cases hp0 : 0 ≤ p
      · have l1 := len_up x p hp0
        have l3 := len_lo x (p + 1) (by omega)
        have ep1 : (p + 1).toNat = p.toNat + 1 := by omega
        by_cases hp1 : p < x.length
        · walk_at "m wl"
          refine r_item_str ‹_› (by omega) hz1 (c := (cl x).getD p.toNat 0) (getD_of (l := cl x) (by omega)) ?_
          intros
          walk_at "m wl"
          rw [one_ne]
          by_cases hne : (cl x).getD p.toNat 0 = c
          · refine ite_f (ndec hne) ?_
            walk_at "m wl"
            exact h2 (by dsimp only; rw [if_neg]; rintro ⟨_, _, _, q⟩; exact q hne) _ (St.back ‹_›)
          · refine ite_t (ndecT hne) ?_
            walk_at "m wl"
            refine h1 _ _ _ ?_ (St.back ‹_›)
            dsimp only
            rw [if_pos ⟨hlc, hp0, by omega, hne⟩, cl_append, cl_append, cl_one, sl_take _ _ (by omega), sl_drop _ _ (by omega), ep1]
            simp
        · walk_at "m wl"
          exact h2 (by dsimp only; rw [if_neg]; rintro ⟨_, _, q, _⟩; omega) _ (St.back ‹_›)
      · walk_at "m wl"
        exact h2 (by dsimp only; rw [if_neg]; rintro ⟨_, q, _⟩; omega) _ (St.back ‹_›)
  | cut hg =>
    rename_i a t1 p t2
    refine' enterK [Str.ofString "_law_text", Str.ofString "_law_change_here"] G ?hf ?hcd r ?hb ?hloc ?hcell ?h1 ?h2 ?h3 ?_
    walk_at "m enter"
    intro E' L s' m hm hL S GH r1
    have e1 : m (Str.ofString "_law_text") = some (.str x t) := by subst hm; rfl
    have e2 : m (Str.ofString "_law_change_here") = some (.ref a) := by subst hm; rfl
    clear hm hL
    have N' := N
    cases N
    have hz1 : x.length ≤ sizeLine := by rw [sizeLine_eq]; omega
    have cx := cl_length x
    walk_at "m wl"
    refine c_law_whole N' (St.gd ‹_› ‹_›) (r1.less (by omega)) fun s1 k1 => ?_
    have S := St.kp ‹_› k1
    walk_at "m wl"
    by_cases hp0 : 0 ≤ p
    · have l1 := len_up x p hp0
      have l3 := len_lo x (p + 1) (by omega)
      have ep1 : (p + 1).toNat = p.toNat + 1 := by omega
      by_cases hp1 : p < x.length
      · walk_at "m wl"
        refine h1 _ _ _ ?_ (St.back ‹_›)
        dsimp only
        rw [if_pos ⟨hp0, by omega⟩, cl_append, sl_take _ _ (by omega), sl_drop _ _ (by omega), ep1]
      · walk_at "m wl"
        exact h2 (by dsimp only; rw [if_neg]; rintro ⟨_, q⟩; omega) _ (St.back ‹_›)
    · walk_at "m wl"
      exact h2 (by dsimp only; rw [if_neg]; rintro ⟨q, _⟩; omega) _ (St.back ‹_›)
end
section
variable {w : World} {A : Around} {E : Value → Shared → Prop} {s : Shared} {mg mb : Str → Option Value} {Q : Value → Shared → Prop}
theorem c_is_change_bad {v : Value} {x : Str} {t : Tok} (N : Nm mg mb) (G : Gd (KK w) mg mb s.heap) (r : Rm A 2) (hz : x.length ≤ 1000) (hb : BadC (fun a o => s.heap.get? a = some o) v)
    (h : ∀ s', Kp s s' → Q (.bool false) s') : wpAny (model prg w) A (call (.ref 96) [.str x t, v]) Q E s := by
  refine' enterK [Str.ofString "text", Str.ofString "change"] G ?hf ?hcd r ?hb ?hloc ?hcell ?h1 ?h2 ?h3 ?_
  walk_at "m enter"
  intro E' L s' m hm hL S GH r1
  have e1 : m (Str.ofString "text") = some (.str x t) := by subst hm; rfl
  have e2 : m (Str.ofString "change") = some v := by subst hm; rfl
  clear hm hL
  have N' := N
  cases N
  have hz1 : x.length ≤ sizeLine := by rw [sizeLine_eq]; omega
  have ha1 : (Str.ofString "a").length ≤ sizeLine := by decide +kernel
  cases hb
  case put hg hn =>
    walk_at "m wl"
    refine c_is_letter_no N' (St.gd ‹_› ‹_›) (r1.less (by omega)) (hn.mono fun a o e => St.keep ‹_› a o e) fun s1 k1 => ?_
    have S := St.kp ‹_› k1
    walk_at "m wl"
    exact h _ (St.back ‹_›)
  case turn hg hn =>
    walk_at "m wl"
    refine c_is_letter_no N' (St.gd ‹_› ‹_›) (r1.less (by omega)) (hn.mono fun a o e => St.keep ‹_› a o e) fun s1 k1 => ?_
    have S := St.kp ‹_› k1
    walk_at "m wl"
    exact h _ (St.back ‹_›)
  all_goals walk_at "m wl"
  all_goals try exact h _ (St.back ‹_›)
  all_goals try
    refine c_is_letter (c := 97) N' (St.gd ‹_› ‹_›) (r1.less (by omega)) fun s1 k1 => ?_
    have S := St.kp ‹_› k1
    rw [show isLc 97 = true by decide]
    walk_at "m wl"
  all_goals try exact h _ (St.back ‹_›)
  all_goals
    refine c_is_place_no N' (St.gd ‹_› ‹_›) (r1.less (by omega)) (by first | exact .inl ⟨_, _, rfl⟩ | exact .inr (.inl ⟨_, rfl⟩) | exact .inr (.inr (.inl rfl)) | exact .inr (.inr (.inr ⟨_, _, rfl, St.keep ‹_› _ _ (by assumption), by assumption⟩))) fun s1 k1 => ?_
    have S := St.kp ‹_› k1
    walk_at "m wl"
    exact h _ (St.back ‹_›)
theorem c_is_place {n most : Int} {t u : Tok} (N : Nm mg mb) (G : Gd (KK w) mg mb s.heap) (r : Rm A 1) (h : ∀ s', Kp s s' → Q (.bool (decide (0 ≤ n ∧ n ≤ most))) s') : wpAny (model prg w) A (call (.ref 89) [.int n t, .int most u]) Q E s := by
  refine' enterK [Str.ofString "thing", Str.ofString "most"] G ?hf ?hcd r ?hb ?hloc ?hcell ?h1 ?h2 ?h3 ?_
  walk_at "m enter"
  intro E' L s' m hm hL S GH r1
  have e1 : m (Str.ofString "thing") = some (.int n t) := by subst hm; rfl
  have e2 : m (Str.ofString "most") = some (.int most u) := by subst hm; rfl
  clear hm hL
  cases N
  by_cases h0 : 0 ≤ n
  · by_cases h1 : n ≤ most
    · rw [decide_eq_true ⟨h0, h1⟩] at h
      walk_at "m wd"
      simp only [decide_eq_true h1]
      exact h _ (St.back ‹_›)
    · rw [decide_eq_false fun q => h1 q.2] at h
      walk_at "m wd"
      simp only [decide_eq_false h1]
      exact h _ (St.back ‹_›)
  · rw [decide_eq_false fun q => h0 q.1] at h
    walk_at "m wd"
    simp only [decide_eq_false h0]
    exact h _ (St.back ‹_›)
theorem c_is_change {v : Value} {f : List Nat → Option (List Nat)} {x : Str} {t : Tok} (N : Nm mg mb) (G : Gd (KK w) mg mb s.heap) (r : Rm A 2) (hz : x.length ≤ 1000) (hv : CVal (fun a o => s.heap.get? a = some o) v f)
    (h : ∀ s', Kp s s' → Q (.bool (f (cl x)).isSome) s') : wpAny (model prg w) A (call (.ref 96) [.str x t, v]) Q E s := by
  cases hv with
  | bad hb => exact c_is_change_bad N G r hz hb h
  | put hg =>
    rename_i a t1 p t2 c t3
    dsimp only at h
    refine' enterK [Str.ofString "text", Str.ofString "change"] G ?hf ?hcd r ?hb ?hloc ?hcell ?h1 ?h2 ?h3 ?_
    walk_at "m enter"
    intro E' L s' m hm hL S GH r1
    have e1 : m (Str.ofString "text") = some (.str x t) := by subst hm; rfl
    have e2 : m (Str.ofString "change") = some (.ref a) := by subst hm; rfl
    clear hm hL
    have N' := N
    cases N
    have hz1 : x.length ≤ sizeLine := by rw [sizeLine_eq]; omega
    have cx := cl_length x
    walk_at "m wl"
    refine c_is_letter N' (St.gd ‹_› ‹_›) (r1.less (by omega)) fun s1 k1 => ?_
    have S := St.kp ‹_› k1
    cases hlc : isLc c with
    | false =>
      walk_at "m wl"
      rw [if_neg (by rintro ⟨q, _⟩; rw [hlc] at q; cases q)] at h
      exact h _ (St.back ‹_›)
    | true =>
      walk_at "m wl"
      refine c_is_place N' (St.gd ‹_› ‹_›) (r1.less (by omega)) fun s2 k2 => ?_
      have S := St.kp ‹_› k2
      walk_at "m wl"
      by_cases hp : 0 ≤ p ∧ p ≤ x.length
      · rw [if_pos ⟨hlc, hp.1, by omega⟩] at h
        rw [decide_eq_true hp]
        exact h _ (St.back ‹_›)
      · rw [if_neg (by rintro ⟨_, q1, q2⟩; omega)] at h
        rw [decide_eq_false hp]
        exact h _ (St.back ‹_›)
  | turn hg =>
    rename_i a t1 p t2 c t3
    dsimp only at h
    refine' enterK [Str.ofString "text", Str.ofString "change"] G ?hf ?hcd r ?hb ?hloc ?hcell ?h1 ?h2 ?h3 ?_
    walk_at "m enter"
    intro E' L s' m hm hL S GH r1
    have e1 : m (Str.ofString "text") = some (.str x t) := by subst hm; rfl
    have e2 : m (Str.ofString "change") = some (.ref a) := by subst hm; rfl
    clear hm hL
    have N' := N
    cases N
    have hz1 : x.length ≤ sizeLine := by rw [sizeLine_eq]; omega
    have cx := cl_length x
    walk_at "m wl"
    refine c_is_letter N' (St.gd ‹_› ‹_›) (r1.less (by omega)) fun s1 k1 => ?_
    have S := St.kp ‹_› k1
    cases hlc : isLc c with
    | false =>
      walk_at "m wl"
      rw [if_neg (by rintro ⟨q, _⟩; rw [hlc] at q; cases q)] at h
      exact h _ (St.back ‹_›)
    | true =>
      walk_at "m wl"
      refine c_is_place N' (St.gd ‹_› ‹_›) (r1.less (by omega)) fun s2 k2 => ?_
      have S := St.kp ‹_› k2
      by_cases hp : 0 ≤ p ∧ p < x.length
      · rw [decide_eq_true (by omega)]
        walk_at "m wl"
        refine r_item_str ‹_› (by omega) hz1 (c := (cl x).getD p.toNat 0) (getD_of (l := cl x) (by omega)) ?_
        intros
        walk_at "m wl"
        rw [one_ne]
        by_cases hne : (cl x).getD p.toNat 0 = c
        · rw [if_neg (by rintro ⟨_, _, _, q⟩; exact q hne)] at h
          rw [ndec hne]
          exact h _ (St.back ‹_›)
        · rw [if_pos ⟨hlc, hp.1, by omega, hne⟩] at h
          rw [ndecT hne]
          exact h _ (St.back ‹_›)
      · rw [decide_eq_false (by omega)]
        walk_at "m wl"
        rw [if_neg (by rintro ⟨_, q1, q2, _⟩; omega)] at h
        exact h _ (St.back ‹_›)
  | cut hg =>
    rename_i a t1 p t2
    dsimp only at h
    refine' enterK [Str.ofString "text", Str.ofString "change"] G ?hf ?hcd r ?hb ?hloc ?hcell ?h1 ?h2 ?h3 ?_
    walk_at "m enter"
    intro E' L s' m hm hL S GH r1
    have e1 : m (Str.ofString "text") = some (.str x t) := by subst hm; rfl
    have e2 : m (Str.ofString "change") = some (.ref a) := by subst hm; rfl
    clear hm hL
    have N' := N
    cases N
    have hz1 : x.length ≤ sizeLine := by rw [sizeLine_eq]; omega
    have cx := cl_length x
    walk_at "m wl"
    refine c_is_place N' (St.gd ‹_› ‹_›) (r1.less (by omega)) fun s2 k2 => ?_
    have S := St.kp ‹_› k2
    walk_at "m wl"
    by_cases hp : 0 ≤ p ∧ p < x.length
    · rw [if_pos ⟨hp.1, by omega⟩] at h
      rw [decide_eq_true (by omega)]
      exact h _ (St.back ‹_›)
    · rw [if_neg (by rintro ⟨q1, q2⟩; omega)] at h
      rw [decide_eq_false (by omega)]
      exact h _ (St.back ‹_›)
end
section
variable {w : World} {A : Around} {E : Value → Shared → Prop} {s : Shared} {mg mb : Str → Option Value} {Q : Value → Shared → Prop}
theorem c_done_ok {v : Value} {f : List Nat → Option (List Nat)} {x : Str} {t : Tok} {t' : List Nat} (N : Nm mg mb) (G : Gd (KK w) mg mb s.heap) (r : Rm A 3) (hz : x.length ≤ 900) (hv : CVal (fun a o => s.heap.get? a = some o) v f) (ha : f (cl x) = some t')
    (h : ∀ y t'' s', cl y = t' → Kp s s' → Q (.str y t'') s') : wpAny (model prg w) A (call (.ref 103) [.str x t, v]) Q E s := by
  refine' enterK [Str.ofString "text", Str.ofString "change"] G ?hf ?hcd r ?hb ?hloc ?hcell ?h1 ?h2 ?h3 ?_
  walk_at "m enter"
  intro E' L s' m hm hL S GH r1
  have e1 : m (Str.ofString "text") = some (.str x t) := by subst hm; rfl
  have e2 : m (Str.ofString "change") = some v := by subst hm; rfl
  clear hm hL
  have N' := N
  cases N
  have hz1 : x.length ≤ sizeLine := by rw [sizeLine_eq]; omega
  have cx := cl_length x
  walk_at "m"
  refine c_is_change N' (St.gd ‹_› ‹_›) (r1.less (by omega)) (by omega) (hv.mono fun a o e => St.keep ‹_› a o e) fun s1 k1 => ?_
  have S := St.kp ‹_› k1
  rw [ha]
  cases hv with
  | bad hb => cases ha
  | put hg =>
    rename_i a t1 p t2 c t3
    dsimp only at ha
    split at ha
    · rename_i hp
      have hL1 := len_one c
      have l1 := len_up x p (by omega)
      have l2 := len_lo x p (by omega)
      walk_at "m wl"
      refine h _ _ _ ?_ (St.back ‹_›)
      rw [cl_append, cl_append, cl_one, sl_take _ _ (by omega), sl_drop _ _ (by omega), ← Option.some.inj ha]
      simp
    · cases ha
  | turn hg =>
    rename_i a t1 p t2 c t3
    dsimp only at ha
    split at ha
    · rename_i hp
      have hL1 := len_one c
      have l1 := len_up x p (by omega)
      have l2 := len_lo x (p + 1) (by omega)
      walk_at "m wl"
      refine h _ _ _ ?_ (St.back ‹_›)
      rw [cl_append, cl_append, cl_one, sl_take _ _ (by omega), sl_drop _ _ (by omega), ← Option.some.inj ha, show (p + 1).toNat = p.toNat + 1 by omega]
      simp
    · cases ha
  | cut hg =>
    rename_i a t1 p t2
    dsimp only at ha
    split at ha
    · rename_i hp
      have l1 := len_up x p (by omega)
      have l2 := len_lo x (p + 1) (by omega)
      walk_at "m wl"
      refine h _ _ _ ?_ (St.back ‹_›)
      rw [cl_append, sl_take _ _ (by omega), sl_drop _ _ (by omega), ← Option.some.inj ha, show (p + 1).toNat = p.toNat + 1 by omega]
    · cases ha
theorem c_done_raise {v : Value} {f : List Nat → Option (List Nat)} {x : Str} {t : Tok} {l : List Env} (N : Nm mg mb) (G : Gd (KK w) mg mb s.heap) (T : Stk A l s.heap) (r : Rm A 3) (hz : x.length ≤ 900) (hv : CVal (fun a o => s.heap.get? a = some o) v f) (ha : f (cl x) = none)
    (h : ∀ e s', Fly l (.ref 49) s e s' → E e s') : wpAny (model prg w) A (call (.ref 103) [.str x t, v]) Q E s := by
  refine' enterX [Str.ofString "text", Str.ofString "change"] G ?hf ?hcd r ?hb ?hloc ?hcell ?h1 ?h2 ?h3 ?_
  walk_at "m enter"
  intro L s' m hm S GH r1
  have e1 : m (Str.ofString "text") = some (.str x t) := by subst hm; rfl
  have e2 : m (Str.ofString "change") = some v := by subst hm; rfl
  clear hm
  have N' := N
  cases N
  have hz1 : x.length ≤ sizeLine := by rw [sizeLine_eq]; omega
  walk_at "m"
  have SS := ‹St true s _ L m _ _›
  refine c_is_change N' (St.gd SS ‹_›) (r1.less (by omega)) (by omega) (hv.mono fun a o e => SS.keep a o e) fun s1 k1 => ?_
  have S1 := SS.kp k1
  clear SS
  rename St _ _ _ _ _ _ s' => old
  clear old
  rw [ha]
  walk_at "m wl"
  refine' x_raise ‹_› ‹_› ‹_› ?hx r1.hh ?_ ?hc
  (case hx => k_exc)
  (case hc => kernel_rfl!)
  intro tt s2 h' e S2 hm
  exact lv_made T S2 hm rfl fun s3 F => h _ _ F
/-- room, though an exception is handled -/
theorem c_law_kinds {ea : Addr} {oe : Obj} (N : Nm mg mb) (G : Gd (KK w) mg mb s.heap) (hdep : A.depth + 2 < 990) (hun : A.units + 20 < 9800) (he : s.heap.get? ea = some oe) (hc : oe.cls = .ref 49)
    (h : ∀ D s', s.heap.get? D = none → Kp s s' → s'.heap.get? D = some (lst [.bool false, .bool true, .bool false, .bool false] 0) → Q (.ref D) s') : wpAny (model prg w) A (call (.ref 145) [.ref ea]) Q E s := by
  refine' enterQ [Str.ofString "_law_error"] G ?hf ?hcd (by omega) ?hb ?hloc ?hcell ?h1 ?h2 ?h3 ?_
  walk_at "m enter"
  intro E' L s' m hm S GH
  have e1 : m (Str.ofString "_law_error") = some (.ref ea) := by subst hm; rfl
  clear hm
  have N' := N
  cases N
  walk_at "m"
  refine' r_isi_T ‹_› ‹_› (St.keep ‹_› _ _ he) hc ?a ?b ?_
  (case a => rfl)
  (case b => first | k_is | kernel_rfl!)
  intros
  walk_at "m"
  refine' r_isn_own ‹_› ‹_› (St.keep ‹_› _ _ he) hc ?a ?b ?c ?d ?e ?f ?g ?h ?_
  (case a => first | k_is | kernel_rfl!)
  (case b => first | k_is | kernel_rfl!)
  (case c => first | k_is | kernel_rfl!)
  (case d => first | k_is | kernel_rfl!)
  (case e => first | k_is | kernel_rfl!)
  (case f => first | k_is | kernel_rfl!)
  (case g => first | k_is | kernel_rfl!)
  (case h => first | k_is | kernel_rfl!)
  intros
  walk_at "m"
  refine' r_isi_own ‹_› ‹_› (St.keep ‹_› _ _ he) hc ?a ?_
  (case a => first | k_is | kernel_rfl!)
  intros
  walk_at "m"
  refine' r_isn_own ‹_› ‹_› (St.keep ‹_› _ _ he) hc ?a ?b ?c ?d ?e ?f ?g ?h ?_
  (case a => first | k_is | kernel_rfl!)
  (case b => first | k_is | kernel_rfl!)
  (case c => first | k_is | kernel_rfl!)
  (case d => first | k_is | kernel_rfl!)
  (case e => first | k_is | kernel_rfl!)
  (case f => first | k_is | kernel_rfl!)
  (case g => first | k_is | kernel_rfl!)
  (case h => first | k_is | kernel_rfl!)
  intros
  walk_at "m"
  refine' r_isn_own ‹_› ‹_› (St.keep ‹_› _ _ he) hc ?a ?b ?c ?d ?e ?f ?g ?h ?_
  (case a => first | k_is | kernel_rfl!)
  (case b => first | k_is | kernel_rfl!)
  (case c => first | k_is | kernel_rfl!)
  (case d => first | k_is | kernel_rfl!)
  (case e => first | k_is | kernel_rfl!)
  (case f => first | k_is | kernel_rfl!)
  (case g => first | k_is | kernel_rfl!)
  (case h => first | k_is | kernel_rfl!)
  intros
  walk_at "m"
  have SS := ‹St true s _ L _ (_ :: _ :: _) _›
  refine r_catl SS (isL (SS.get (List.mem_cons_of_mem _ List.mem_cons_self))) (isL (SS.get List.mem_cons_self)) (by show 2 + 2 ≤ sizeLine; decide) fun D s9 hD S9 => ?_
  clear SS
  walk_at "m"
  exact h D _ (S9.fresh List.mem_cons_self) S9.back (S9.get List.mem_cons_self)
end
section
variable {w : World} {A : Around} {E : Value → Shared → Prop} {s : Shared} {mg mb : Str → Option Value} {Q : Value → Shared → Prop}
theorem c_law_done {v : Value} {f : List Nat → Option (List Nat)} {x : Str} {t : Tok} {l : List Env} (N : Nm mg mb) (G : Gd (KK w) mg mb (hid s.heap l)) (T : Stk A l s.heap) (r : Rm A 6) (hz : x.length ≤ 900) (hv : CVal (fun a o => (hid s.heap l).get? a = some o) v f)
    (h1 : ∀ y u s', f (cl x) = some (cl y) → Kp s s' → Q (.str y u) s') (h2 : f (cl x) = none → ∀ s', Same s s' → (hid s.heap l).StaysIn s'.heap → s.heap.UpToSlots s'.heap → Q .none s') :
    wpAny (model prg w) A (call (.ref 166) [.str x t, v]) Q E s := by
  have G0 : Gd (KK w) mg mb s.heap := G.keeps fun b o e => of_hideAll _ e
  refine' enterK [Str.ofString "_law_text", Str.ofString "_law_change_here"] G0 ?hf ?hcd r ?hb ?hloc ?hcell ?h1 ?h2 ?h3 ?_
  walk_at "m enter"
  intro E' L s' m hm hL S GH r1
  have e1 : m (Str.ofString "_law_text") = some (.str x t) := by subst hm; rfl
  have e2 : m (Str.ofString "_law_change_here") = some v := by subst hm; rfl
  clear hm hL
  have N' := N
  cases N
  refine x_try ?_
  walk_at "m"
  have SS := ‹St true s _ L m [] _›
  have hv1 := hv.mono (g' := fun a o => s.heap.get? a = some o) fun a o e => of_hideAll _ e
  cases hf : f (cl x) with
  | some t' =>
    refine c_done_ok N' (St.gd SS ‹_›) (r1.less (by omega)) hz (hv1.mono fun a o e => SS.keep a o e) hf fun y u s1 hy k1 => ?_
    have S1 := SS.kp k1
    clear SS
    walk_at "m"
    exact h1 y u _ (by rw [hf, hy]) (St.back ‹_›)
  | none =>
    refine c_done_raise (l := _ :: l) N' (St.gd SS ‹_›) (T.deeper SS rfl) (r1.less (by omega)) hz (hv1.mono fun a o e => SS.keep a o e) hf fun e s3 F3 => ?_
    have S0 : St true s (fun b o => (hid s.heap l).get? b = some o) L m [] _ := SS.anti fun b o e => of_hideAll _ e
    have hLl : L ∉ frs l := fun hm => by
      obtain ⟨env, he, hf⟩ := List.mem_filterMap.mp hm
      obtain ⟨_, L', o, hf', ho, _⟩ := T.ff env he
      rw [hf] at hf'; cases hf'
      rw [SS.noL] at ho; cases ho
    have upS := Heap.UpToSlots.of_keeps SS.keep
    clear SS
    refine catch_as (l := l) (Around.frames_deeper T.fr) S0 G.toH (fun a ha => ⟨fun o e => (by rw [hideAll_none _ ha] at e; cases e), fun q => (List.not_mem_nil q).elim⟩) F3 ‹_› ?_ ?_ ?_ ?_ ?_ hLl fun E2 ea oe h6 s4 hoec up6 S4 => ?_
    · first | k_is | kernel_rfl!
    · first | k_is | kernel_rfl!
    · first | k_is | kernel_rfl!
    · kernel_rfl!
    · kernel_rfl!
    have GH4 := GdH.mono G.toH (H' := fun b o => (hid s.heap l).get? b = some o ∨ (b ∈ frs l ∧ h6.get? b = some o)) fun b o e => Or.inl e
    clear S0
    walk_at "m"
    refine c_law_kinds N' (St.gd ‹_› ‹_›) ?_ ?_ (St.get ‹_› List.mem_cons_self) hoec fun D s5 hD k5 hg => ?_
    · have := r1.dep; show A.depth + 1 + 2 < 990; have := r.dep; omega
    · have := r.un; show A.units + 3 + 20 < 9800; omega
    have S5 := St.add ‹_› k5 hD hg
    walk_at "m"
    have S6 := ‹St true s _ L _ (_ :: _ :: _) _›
    refine r_eq_same (isL (S6.get (List.mem_cons_of_mem _ List.mem_cons_self))) (isL (S6.get List.mem_cons_self)) r1.line ?_
    clear S6
    walk_at "m"
    refine' r_isi_own ‹_› ‹_› (St.get ‹_› (by walk_at "m mem")) hoec ?a ?_
    (case a => first | k_is | kernel_rfl!)
    intros
    walk_at "m"
    refine asK_mk ‹_› (by kernel_rfl!) fun m' s7 S7 => ?_
    walk_at "m"
    refine h2 hf s7 S7.same (fun b o e => S7.keep b o (.inl e)) fun b o e hd => ?_
    by_cases hb : b ∈ frs l
    · obtain ⟨sl, hs⟩ := (upS.trans up6) b o e hd
      exact ⟨sl, S7.keep b _ (.inr ⟨hb, hs⟩)⟩
    · exact ⟨o.slots, S7.keep b o (.inl (hideAll_get _ e hb))⟩
end
section
variable {k : Bool} {s₀ s s' : Shared} {H : Addr → Obj → Prop} {L : Addr} {m : Str → Option Value} {σ τ : List (Addr × Obj)}
/-- new objects are owned -/
theorem St.addAll (S : St k s₀ H L m σ s) (kp : Kp s s') (hn : ∀ p ∈ τ, s.heap.get? p.1 = none ∧ s'.heap.get? p.1 = some p.2) (nd : (τ.map (·.1)).Nodup) : St k s₀ H L m (τ ++ σ) s' := by
  have S' := S.kp kp
  refine ⟨S'.same, S'.ns, S'.keep, S'.keepL, fun p hp => ?_, ?_⟩
  · rcases List.mem_append.mp hp with hp | hp
    · have nn := S.notNew (hn p hp).1
      exact ⟨(hn p hp).2, nn.1, nn.2.2⟩
    · exact S'.own p hp
  · rw [List.map_append, List.nodup_append]
    refine ⟨nd, S.nd, fun a ha b hb e => ?_⟩
    subst e
    obtain ⟨p, hp, rfl⟩ := List.mem_map.mp ha
    exact (S.notNew (hn p hp).1).2.1 hb
/-- what is owned at a call's end is new to the caller -/
theorem St.given (S : St k s (fun b o => s.heap.get? b = some o) L m σ s') : (∀ p ∈ σ, s.heap.get? p.1 = none ∧ s'.heap.get? p.1 = some p.2) ∧ (σ.map (·.1)).Nodup :=
  ⟨fun p hp => ⟨S.fresh (a := p.1) (o := p.2) hp, (S.own p hp).1⟩, S.nd⟩
end
/-- what may stand for a letter -/
def Th (σ : List (Addr × Obj)) (v : Value) : Prop := (∃ c t, v = .str ⟨#[c]⟩ t) ∨ NoLet (fun a o => (a, o) ∈ σ) v
theorem r_item_all {prog : Program} {w : World} {A : Around} {E : Value → Shared → Prop} {s : Shared} {Q : Value → Shared → Prop} {value slice : Expr} {a : Addr} {vs : List Value} {i : Int} {u : Tok} (P : Value → Prop) (hl : s.heap.IsList a vs.toArray) (h0 : 0 ≤ i) (h1 : i < vs.length) (hz : vs.length ≤ sizeLine)
    (hv : ∀ v ∈ vs, P v) (h : ∀ v, P v → Q v s)
    (hs : subscripted slice false (.ref a) (.int i u) = operate [.ref a, .int i u] (getItem (.ref a) (.int i u)) := by with_unfolding_all rfl) : wpAny (model prog w) A (subscriptTail value slice (.ref a) (.int i u)) Q E s :=
  r_item_list hl h0 hz (List.getElem?_eq_getElem (by omega)) (h _ (hv _ (List.getElem_mem _))) hs
def thV {k : Bool} {s₀ s' : Shared} {H : Addr → Obj → Prop} {L : Addr} {m : Str → Option Value} {σ : List (Addr × Obj)} (_ : St k s₀ H L m σ s') (v : Value) : Prop := Th σ v
def curV {k : Bool} {s₀ s' : Shared} {H : Addr → Obj → Prop} {L : Addr} {m : Str → Option Value} {σ : List (Addr × Obj)} (_ : St k s₀ H L m σ s') (v : Value) : Prop := ∃ f, CVal (fun a o => (a, o) ∈ σ) v f
theorem curV.put {k : Bool} {s₀ s' : Shared} {H : Addr → Obj → Prop} {L : Addr} {m : Str → Option Value} {σ τ : List (Addr × Obj)} {S : St k s₀ H L m σ s'} {a : Addr} {t1 t2 : Tok} {p : Int} {v : Value} (hv : Th τ v) (hs : ∀ a o, (a, o) ∈ τ → (a, o) ∈ σ) (hm : (a, tup [.str (Str.ofString "put") t1, .int p t2, v]) ∈ σ) : curV S (.ref a) := by
  rcases hv with ⟨c, t, rfl⟩ | hn
  · exact ⟨_, .put hm⟩
  · exact ⟨_, .bad (.put hm (hn.mono hs))⟩
theorem curV.turn {k : Bool} {s₀ s' : Shared} {H : Addr → Obj → Prop} {L : Addr} {m : Str → Option Value} {σ τ : List (Addr × Obj)} {S : St k s₀ H L m σ s'} {a : Addr} {t1 t2 : Tok} {p : Int} {v : Value} (hv : Th τ v) (hs : ∀ a o, (a, o) ∈ τ → (a, o) ∈ σ) (hm : (a, tup [.str (Str.ofString "turn") t1, .int p t2, v]) ∈ σ) : curV S (.ref a) := by
  rcases hv with ⟨c, t, rfl⟩ | hn
  · exact ⟨_, .turn hm⟩
  · exact ⟨_, .bad (.turn hm (hn.mono hs))⟩
section
variable {w : World} {A : Around} {E : Value → Shared → Prop} {s : Shared} {mg mb : Str → Option Value} {Q : Value → Shared → Prop}
theorem c_law_change {mode cell : Int} {x : Str} {t1 t2 t3 : Tok} (N : Nm mg mb) (G : Gd (KK w) mg mb s.heap) (r : Rm A 2) (hz : x.length ≤ 900)
    (h : ∀ (v : Value) (τ : List (Addr × Obj)) (f : List Nat → Option (List Nat)) (s' : Shared), Kp s s' → (∀ p ∈ τ, s.heap.get? p.1 = none ∧ s'.heap.get? p.1 = some p.2) → (τ.map (·.1)).Nodup → CVal (fun a o => (a, o) ∈ τ) v f → Q v s') :
    wpAny (model prg w) A (call (.ref 159) [.int mode t1, .str x t2, .int cell t3]) Q E s := by
  refine' enterK [Str.ofString "_law_mode", Str.ofString "_law_text", Str.ofString "_law_cell"] G ?hf ?hcd r ?hb ?hloc ?hcell ?h1 ?h2 ?h3 ?_
  walk_at "m enter"
  intro E' L s' m hm hL S GH r1
  have e1 : m (Str.ofString "_law_mode") = some (.int mode t1) := by subst hm; rfl
  have e2 : m (Str.ofString "_law_text") = some (.str x t2) := by subst hm; rfl
  have e3 : m (Str.ofString "_law_cell") = some (.int cell t3) := by subst hm; rfl
  clear hm hL
  have N' := N
  cases N
  have hz1 : x.length ≤ sizeLine := by rw [sizeLine_eq]; omega
  walk_at "m"
  refine c_law_letter N' (St.gd ‹_› ‹_›) (r1.less (by omega)) fun c tc s3 hc1 hc2 k3 => ?_
  have S3 := St.kp ‹_› k3
  generalize (cell.fdiv 9).fmod (x.length + 5) - 2 = p at *
  walk_at "m"
  refine split_bool (fun hc => ?_) (fun hc => ?_)
  · walk_at "m"
    refine c_law_sign N' (St.gd ‹_› ‹_›) (r1.less (by omega)) fun c1 tc1 s4 k4 => ?_
    have S4 := St.kp ‹_› k4
    walk_at "m"
    refine c_law_sign N' (St.gd ‹_› ‹_›) (r1.less (by omega)) fun c2 tc2 s5 k5 => ?_
    have S5 := St.kp ‹_› k5
    walk_at "m"
    have S6 := ‹St true s _ L _ (_ :: _) _›
    refine r_item_all (thV S6) (isL (S6.get List.mem_cons_self)) (fmod_lo _ (by omega)) (by simp only [List.length_cons, List.length_nil]; exact fmod_hi _ (by omega)) (by show 8 ≤ sizeLine; decide) ?_ fun v hv0 => ?_
    · intro v hv
      simp only [List.mem_cons, List.not_mem_nil, or_false] at hv
      rcases hv with rfl | rfl | rfl | rfl | rfl | rfl | rfl | rfl
      · exact .inl ⟨_, _, rfl⟩
      · exact .inl ⟨_, _, rfl⟩
      · exact .inr (.inl ⟨_, _, rfl, by decide +kernel, by decide +kernel⟩)
      · exact .inr (.inl ⟨_, _, rfl, by decide +kernel, by decide +kernel⟩)
      · exact .inr (.inl ⟨_, _, rfl, by decide +kernel, by decide +kernel⟩)
      · exact .inr (.inr (.inl ⟨_, _, rfl⟩))
      · exact .inr (.inr (.inr (.inl rfl)))
      · exact .inr (.inr (.inr (.inr ⟨_, _, rfl, by walk_at "m mem", rfl⟩)))
    have hv : Th _ v := hv0
    clear hv0 S6
    walk_at "m"
    refine split_dec (fun hd => ?_) (fun hd => ?_)
    · walk_at "m"
      have S7 := ‹St true s _ L _ (_ :: _) _›
      refine r_item_all (curV S7) (isL (S7.get List.mem_cons_self)) (fmod_lo _ (by omega)) (by simp only [List.length_cons, List.length_nil]; exact fmod_hi _ (by omega)) (by show 3 ≤ sizeLine; decide) ?_ fun v2 hv2 => ?_
      · intro v2 hv2
        simp only [List.mem_cons, List.not_mem_nil, or_false] at hv2
        rcases hv2 with rfl | rfl | rfl
        · exact curV.put hv (fun a o hm => by walk_at "m mem") (by walk_at "m mem")
        · exact ⟨_, .cut (by walk_at "m mem")⟩
        · exact curV.turn hv (fun a o hm => by walk_at "m mem") (by walk_at "m mem")
      · obtain ⟨f, hf⟩ := hv2
        walk_at "m"
        exact h v2 _ f _ S7.back S7.given.1 S7.given.2 hf
    · walk_at "m"
      have S7 := ‹St true s _ L _ (_ :: _) _›
      refine r_catl S7 (isL (S7.get (by walk_at "m mem"))) (isL (S7.get List.mem_cons_self)) (by show 5 + 6 ≤ sizeLine; decide) ?_
      clear S7
      intros
      walk_at "m"
      have S7 := ‹St true s _ L _ (_ :: _) _›
      refine r_catl S7 (isL (S7.get (by walk_at "m mem"))) (isL (S7.get List.mem_cons_self)) (by show 11 + 4 ≤ sizeLine; decide) ?_
      clear S7
      intros
      walk_at "m"
      have S7 := ‹St true s _ L _ (_ :: _) _›
      refine r_catl S7 (isL (S7.get (by walk_at "m mem"))) (isL (S7.get List.mem_cons_self)) (by show 15 + 5 ≤ sizeLine; decide) ?_
      clear S7
      intros
      walk_at "m"
      have S7 := ‹St true s _ L _ (_ :: _) _›
      refine r_item_all (curV S7) (isL (S7.get (by walk_at "m mem"))) (fmod_lo _ (by omega)) (by simp only [List.length_append, List.length_cons, List.length_nil]; exact fmod_hi _ (by omega)) (by show 20 ≤ sizeLine; decide) ?_ fun v2 hv2 => ?_
      · intro v2 hv2
        simp only [List.mem_append, List.mem_cons, List.not_mem_nil, or_false] at hv2
        rcases hv2 with ((((rfl | rfl | rfl | rfl | rfl) | (rfl | rfl | rfl | rfl | rfl | rfl)) | (rfl | rfl | rfl | rfl)) | (rfl | rfl | rfl | rfl | rfl))
        · exact ⟨_, .bad (.put2 (by walk_at "m mem"))⟩
        · exact ⟨_, .bad (.cut3 (by walk_at "m mem"))⟩
        · exact ⟨_, .bad (.turn2 (by walk_at "m mem"))⟩
        · exact ⟨_, .bad (.Put3 (by walk_at "m mem"))⟩
        · exact ⟨_, .bad (.lst (o := Mine.lst _ _) (by walk_at "m mem") rfl)⟩
        · exact ⟨_, .bad (.true3 (by walk_at "m mem"))⟩
        · exact ⟨_, .bad (.false2 (by walk_at "m mem"))⟩
        · exact ⟨_, .bad (.none2 (by walk_at "m mem"))⟩
        · exact ⟨_, .bad (.str3 (by walk_at "m mem"))⟩
        · exact ⟨_, .bad (.t0 (by walk_at "m mem"))⟩
        · exact ⟨_, .bad (.t1 (by walk_at "m mem"))⟩
        · exact ⟨_, .bad .none⟩
        · exact ⟨_, .bad .int⟩
        · exact ⟨_, .bad .str⟩
        · exact ⟨_, .bad (.list3 (by walk_at "m mem") (by walk_at "m mem"))⟩
        · exact ⟨_, .bad (.list2 (by walk_at "m mem") (by walk_at "m mem") rfl)⟩
        · exact ⟨_, .bad (.dict2 (by walk_at "m mem") (by walk_at "m mem"))⟩
        · exact ⟨_, .bad (.keep2 (by walk_at "m mem"))⟩
        · exact ⟨_, .bad (.nonen (by walk_at "m mem"))⟩
        · exact ⟨_, .bad (.t4 (by walk_at "m mem"))⟩
      · obtain ⟨f, hf⟩ := hv2
        walk_at "m"
        exact h v2 _ f _ S7.back S7.given.1 S7.given.2 hf
  · have hv : Th [] (.str ⟨#[c]⟩ tc) := .inl ⟨c, tc, rfl⟩
    walk_at "m"
    refine split_dec (fun hd => ?_) (fun hd => ?_)
    · walk_at "m"
      have S7 := ‹St true s _ L _ (_ :: _) _›
      refine r_item_all (curV S7) (isL (S7.get List.mem_cons_self)) (fmod_lo _ (by omega)) (by simp only [List.length_cons, List.length_nil]; exact fmod_hi _ (by omega)) (by show 3 ≤ sizeLine; decide) ?_ fun v2 hv2 => ?_
      · intro v2 hv2
        simp only [List.mem_cons, List.not_mem_nil, or_false] at hv2
        rcases hv2 with rfl | rfl | rfl
        · exact curV.put hv (fun a o hm => by walk_at "m mem") (by walk_at "m mem")
        · exact ⟨_, .cut (by walk_at "m mem")⟩
        · exact curV.turn hv (fun a o hm => by walk_at "m mem") (by walk_at "m mem")
      · obtain ⟨f, hf⟩ := hv2
        walk_at "m"
        exact h v2 _ f _ S7.back S7.given.1 S7.given.2 hf
    · walk_at "m"
      have S7 := ‹St true s _ L _ (_ :: _) _›
      refine r_catl S7 (isL (S7.get (by walk_at "m mem"))) (isL (S7.get List.mem_cons_self)) (by show 5 + 6 ≤ sizeLine; decide) ?_
      clear S7
      intros
      walk_at "m"
      have S7 := ‹St true s _ L _ (_ :: _) _›
      refine r_catl S7 (isL (S7.get (by walk_at "m mem"))) (isL (S7.get List.mem_cons_self)) (by show 11 + 4 ≤ sizeLine; decide) ?_
      clear S7
      intros
      walk_at "m"
      have S7 := ‹St true s _ L _ (_ :: _) _›
      refine r_catl S7 (isL (S7.get (by walk_at "m mem"))) (isL (S7.get List.mem_cons_self)) (by show 15 + 5 ≤ sizeLine; decide) ?_
      clear S7
      intros
      walk_at "m"
      have S7 := ‹St true s _ L _ (_ :: _) _›
      refine r_item_all (curV S7) (isL (S7.get (by walk_at "m mem"))) (fmod_lo _ (by omega)) (by simp only [List.length_append, List.length_cons, List.length_nil]; exact fmod_hi _ (by omega)) (by show 20 ≤ sizeLine; decide) ?_ fun v2 hv2 => ?_
      · intro v2 hv2
        simp only [List.mem_append, List.mem_cons, List.not_mem_nil, or_false] at hv2
        rcases hv2 with ((((rfl | rfl | rfl | rfl | rfl) | (rfl | rfl | rfl | rfl | rfl | rfl)) | (rfl | rfl | rfl | rfl)) | (rfl | rfl | rfl | rfl | rfl))
        · exact ⟨_, .bad (.put2 (by walk_at "m mem"))⟩
        · exact ⟨_, .bad (.cut3 (by walk_at "m mem"))⟩
        · exact ⟨_, .bad (.turn2 (by walk_at "m mem"))⟩
        · exact ⟨_, .bad (.Put3 (by walk_at "m mem"))⟩
        · exact ⟨_, .bad (.lst (o := Mine.lst _ _) (by walk_at "m mem") rfl)⟩
        · exact ⟨_, .bad (.true3 (by walk_at "m mem"))⟩
        · exact ⟨_, .bad (.false2 (by walk_at "m mem"))⟩
        · exact ⟨_, .bad (.none2 (by walk_at "m mem"))⟩
        · exact ⟨_, .bad (.str3 (by walk_at "m mem"))⟩
        · exact ⟨_, .bad (.t0 (by walk_at "m mem"))⟩
        · exact ⟨_, .bad (.t1 (by walk_at "m mem"))⟩
        · exact ⟨_, .bad .none⟩
        · exact ⟨_, .bad .int⟩
        · exact ⟨_, .bad .str⟩
        · exact ⟨_, .bad (.list3 (by walk_at "m mem") (by walk_at "m mem"))⟩
        · exact ⟨_, .bad (.list2 (by walk_at "m mem") (by walk_at "m mem") rfl)⟩
        · exact ⟨_, .bad (.dict2 (by walk_at "m mem") (by walk_at "m mem"))⟩
        · exact ⟨_, .bad (.keep2 (by walk_at "m mem"))⟩
        · exact ⟨_, .bad (.nonen (by walk_at "m mem"))⟩
        · exact ⟨_, .bad (.t4 (by walk_at "m mem"))⟩
      · obtain ⟨f, hf⟩ := hv2
        walk_at "m"
        exact h v2 _ f _ S7.back S7.given.1 S7.given.2 hf
end
section
variable {w : World} {A : Around} {E : Value → Shared → Prop} {s : Shared} {mg mb : Str → Option Value} {Q : Value → Shared → Prop}
theorem c_law {vs : List Value} {a : Addr} (N : Nm mg mb) (G : Gd (KK w) mg mb s.heap) (r : Rm callerA 20) (hl : s.heap.IsList a vs.toArray) (hi : Ints vs) (hn : vs.length ≤ 63)
    (h : ∀ s', Kp s s' → Q (.bool true) s') : wpAny (model prg w) callerA (call (.ref 173) [.ref a]) Q E s := by
  have T : Stk callerA [] s.heap := ⟨rfl, fun _ h => (List.not_mem_nil h).elim⟩
  refine' enterK [Str.ofString "_law_script"] G ?hf ?hcd r ?hb ?hloc ?hcell ?h1 ?h2 ?h3 ?_
  walk_at "m enter"
  intro E' L s' m hm hL S GH r1
  have e1 : m (Str.ofString "_law_script") = some (.ref a) := by subst hm; rfl
  clear hm hL
  have N' := N
  cases N
  have hz : vs.length ≤ sizeLine := by rw [sizeLine_eq]; omega
  walk_at "m w"
  refine c_law_word N' (St.gd ‹_› ‹_›) (r1.less (by omega)) (by omega) (by omega) fun x tx s1 hx hlx k1 => ?_
  have S := St.kp ‹_› k1
  walk_at "m w"
  refine split_bool (fun hc => ?_) (fun hc => ?_)
  rotate_left
  all_goals walk_at "m w"
  rotate_left
  refine c_law_word N' (St.gd ‹_› ‹_›) (r1.less (by omega)) (by omega) (by omega) fun x tx s1 hx hlx k1 => ?_
  have S := St.kp ‹_› k1
  walk_at "m w"
  all_goals
    have hlx' : x.length ≤ 60 := by omega
    clear hlx hc
    refine x_for ?_
    refine e_slice_from ‹_› ?_
    walk_at "m w"
    refine ⟨a, vs, 3, _, _, _, rfl, rfl, by decide, hl.at fun o e => St.keep ‹_› _ _ e, hz, ‹_›, fun D s4 hD S4 => ?_⟩
    have S5 := St.freeze (σ₁ := []) S4
    rw [List.nil_append] at S5
    clear S4
    refine for_list (J := fun i m' σ' => m' (Str.ofString "_law_script") = some (.ref a) ∧ m' (Str.ofString "_law_text") = some (.str x tx) ∧ (∃ mode tm, m' (Str.ofString "_law_mode") = some (.int mode tm)) ∧ σ' = []) S5 (.inr ⟨rfl, rfl⟩) r1.hh ?_ ?_ ?_ ?_
    · exact ⟨by walk_at "m loc", by walk_at "m loc", ⟨_, _, by walk_at "m loc"⟩, rfl⟩
    · kernel_rfl!
    · intro E2 i m2 σ2 s2 v Hb hi2 hv hJ hb S2
      obtain ⟨f1, f2, ⟨mode, tm, f3⟩, rfl⟩ := hJ
      obtain ⟨ce, tc, rfl⟩ := hi _ v (by rw [List.getElem?_drop] at hv; exact hv)
      have hG' := GdH.mono ‹_› (fun b o e => hb _ _ (Or.inl e))
      walk_at "m w"
      refine c_law_change N' (St.gd ‹_› ‹_›) (r1.less (by omega)) (by omega) fun v τ f s3 k3 hnew hnd hcv => ?_
      have S3 := St.addAll ‹_› k3 hnew hnd
      rw [List.append_nil] at S3
      walk_at "m w"
      refine c_law_step N' (St.gd ‹_› ‹_›) (r1.less (by omega)) (by omega) (hcv.mono fun a o hm => St.get ‹_› hm) (fun y u s5 hy k5 => ?_) fun hnone s5 k5 => ?_
      · have S5 := St.kp ‹_› k5
        walk_at "m w"
        have S6 := ‹St true s Hb L _ τ _›
        have hG6 := ‹GdH _ mg mb Hb›
        refine c_law_done (l := [_]) N' (by exact hG6 _ fun b o e => hideAll_get _ (S6.keep b o e) fun hm => S6.keepL rfl o ((List.mem_singleton.mp (show b ∈ [L] from hm)) ▸ e)) (T.deeper (S6.anti fun b o e => hb _ _ (Or.inl e)) rfl) (r1.less (by omega)) (by omega)
          (by exact hcv.mono fun a o hm => hideAll_get _ (S6.get hm) fun hq => (S6.own _ hm).2.1 (List.mem_singleton.mp (show a ∈ [L] from hq))) (fun y2 u2 s7 hy2 k7 => ?_) fun hn2 s7 sm st up => ?_
        · have S7 := S6.kp k7
          clear S6
          have hyy : cl y2 = cl y := by rw [hy] at hy2; exact (Option.some.inj hy2).symm
          walk_at "m w"
          refine ite_f (by show (cl y2 != cl y) = false; rw [hyy]; simp) ?_
          walk_at "m w"
          exact turnK_next (St.drop ‹_› (List.nil_sublist _)) ⟨by walk_at "m loc", by walk_at "m loc", ⟨_, _, by walk_at "m loc"⟩, rfl⟩
        · rw [hy] at hn2; cases hn2
      · have S5 := St.kp ‹_› k5
        walk_at "m w"
        have S6 := ‹St true s Hb L _ τ _›
        have hG6 := ‹GdH _ mg mb Hb›
        refine c_law_done (l := [_]) N' (by exact hG6 _ fun b o e => hideAll_get _ (S6.keep b o e) fun hm => S6.keepL rfl o ((List.mem_singleton.mp (show b ∈ [L] from hm)) ▸ e)) (T.deeper (S6.anti fun b o e => hb _ _ (Or.inl e)) rfl) (r1.less (by omega)) (by omega)
          (by exact hcv.mono fun a o hm => hideAll_get _ (S6.get hm) fun hq => (S6.own _ hm).2.1 (List.mem_singleton.mp (show a ∈ [L] from hq))) (fun y2 u2 s7 hy2 k7 => ?_) fun hn2 s7 sm st up => ?_
        · rw [hnone] at hy2; cases hy2
        · have S7 := S6.fly (l := []) sm st up Apart.nil
          clear S6
          walk_at "m w"
          exact turnK_next (St.drop ‹_› (List.nil_sublist _)) ⟨by walk_at "m loc", by walk_at "m loc", ⟨_, _, by walk_at "m loc"⟩, rfl⟩
    · intro m2 σ2 s2 hJ S2
      obtain ⟨f1, f2, _, rfl⟩ := hJ
      have S3 := S2.anti fun b o e => Or.inl e
      clear S2
      walk_at "m w"
      exact h _ (St.back ‹St _ _ _ _ m2 _ _›)
end
theorem good_end {c : ClaimW} {cl : Str → Option Addr} {mean : ExcName → Option Value} {args : List WData} {s₁ s' : Shared} (k : Kp s₁ s') (hg : s₁.gens = #[]) (hn : ∀ cls, c.raises args cls = false) (hp : c.post args (.bool true) args = true) :
    GoodWG c cl mean args s₁ (.ok (.ret (.bool true))) s' :=
  GoodW.toG ⟨.inl ⟨.bool true, .bool true, [], rfl, hn, .bool true, hp, unshared_nil⟩, k.keep, k.same.2.2, k.same.1.trans hg⟩
theorem rm_caller : Rm callerA 40 := ⟨rfl, by decide, by decide⟩
end Mine
set_option maxHeartbeats 8000000 in
theorem PySem.Challenge.cw_uf050039_02_holds : PySem.Challenge.rw_uf050039_02.Holds :=
  Mine.hd (by
  k_fill
  intro w s₀ s₁ mg mb G Y fa o pm cd doc dV kV ho hd hcd hD hmg hg args vals as hpre hlay hrd hwl hlo
  have KX := kIn_of Y
  refine Ground.open G ?_
  intro T B D TE TW
  have hfa : fa = 173 := by
    have e := mg_of (n := Str.ofString "law") (v := .ref 173) KX T.g (by k_is)
    have := hmg.symm.trans e
    cases this; rfl
  subst hfa
  wrow_args hpre hlay hrd hwl hlo
  rename IntsAre _ _ => hia
  rename Heap.IsList _ _ _ => hil
  refine Mine.c_law (Mine.nm_of KX T) ⟨fun a o e => KX a o e, T.g, T.b, T.nolimit⟩ (Mine.rm_caller.less (by decide)) hil (Mine.Ints.of hia) (by rw [Mine.IntsAre.len hia]; omega) fun s' k => Mine.good_end k hg (fun _ => rfl) ?_
  exact postW_of rfl (w_eq_bool (w_res rfl) w_lit) rfl)
end
