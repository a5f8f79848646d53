import PyProof.Rows.All
import OpenK.KLine
import PyProof.ForAny
import PyProof.Walks
import PyProof.WalksMore
import PyProof.CompMap
import PyProof.Rows.Frame
import PyProof.Plain
import PyProof.Calls
import PyProof.Rows.Nodes
import PyProof.Rows.StrTemp
import PyProof.Rows.RuleB_mod
import PyProof.Rows.RuleB_floordiv
import PyProof.Rows.RuleB_mul
import PyProof.Rows.RuleB_sub
import PyProof.Rows.RuleN_abs
import PyProof.Rows.IntRules
import PyProof.Rows.Chain
import PyProof.Rows.News
import PyProof.StrOps
import PyProof.ListOps
import PyProof.ListCopy
import PyProof.ListRange
import PyProof.ListIndexNeg
import PyProof.MaxThree
import PyProof.WalkInts
import PyProof.Conv_int_bool
import PyProof.StrBlockG
import PyProof.StrWalks
import PyProof.PvWalk
import PyProof.ForRange
import PyProof.Rows.RuleU_int
import PyProof.IsiPairs
import PyProof.IsiSeqPairs
import PyProof.IsiHeapPairs
import PyProof.IsiNone
import PyProof.CompFree
import PyProof.EqAt
import PyProof.TupleOps
import PyProof.StrLawsIn
import PyProof.Rows.TupAssign
import KE.KRevSl
import PyProof.Rows.TupSub
import PyProof.MinMaxWalk
import PyProof.Rows.CallKwBuiltin
import KE.KMinKey
import PyProof.EqKinds
import OpenK.KWalk
import PyProof.Cells
import PyProof.Rows.CellsFrame
import PyProof.DictTable
import PyProof.Dict
import PyProof.StrCalls2
import PyProof.Rows.StrWeight2
import PyProof.Rows.SeqSlice
import PyProof.Rows.SeqMore
import PyProof.SliceMore
import PyProof.AutoListH
import PyProof.FactsAll.list_3
import OpenK.KMake
import OpenK.KCls
import OpenK.KMore
import PyProof.Rows.AttrNodeAny
import PyProof.AssignAttr
import KE.KDictList
import PyProof.Rows.SortStr
import PyProof.DictTruth
import PyProof.MeetsDictList
import PyProof.FactsAll.dict_3
import PyProof.Raises
import PyProof.SeqI3
import PyProof.Draws
import PyProof.EnumMake
import PyProof.DictWalks
import PyProof.NeKinds
import PyProof.ZipIter
import PyProof.Rows.StrInSeq3
import PyProof.StrLaws
import PyProof.Rows.Walk
import PyProof.Rows.RuleC_int
import PyProof.Rows.RuleC_bool
import PySem.Challenge.RW_uf050039_07
set_option Elab.async false
set_option linter.unusedVariables false
set_option compiler.extract_closed false
section
open PySem
set_option Elab.async false
namespace Mine

/-- one more name -/
def upd (m : Str → Option Value) (x : Str) (v : Value) : Str → Option Value := fun y => if y = x then some v else m y
theorem upd_same (m : Str → Option Value) (x : Str) (v : Value) : upd m x v x = some v := if_pos rfl
theorem upd_other {m : Str → Option Value} {x y : Str} {v : Value} {r : Option Value} (h : y ≠ x) (e : m y = r) : upd m x v y = r := (if_neg h).trans e

def Same (s s' : Shared) : Prop := s'.gens = s.gens ∧ s'.drawn = s.drawn ∧ s'.os = s.os
theorem Same.refl (s : Shared) : Same s s := ⟨rfl, rfl, rfl⟩
theorem Same.trans {s s' s'' : Shared} (a : Same s s') (b : Same s' s'') : Same s s'' := ⟨b.1.trans a.1, b.2.1.trans a.2.1, b.2.2.trans a.2.2⟩
theorem Same.eq {s s' : Shared} (a : Same s s') : s' = { s with heap := s'.heap, toks := s'.toks } := by
  obtain ⟨h, g, d, t, o⟩ := s
  obtain ⟨h', g', d', t', o'⟩ := s'
  obtain ⟨rfl, rfl, rfl⟩ := a
  rfl

/-- nothing of s is lost or turned -/
structure Kp (s s' : Shared) : Prop where
  same : Same s s'
  keep : ∀ b o, s.heap.get? b = some o → s'.heap.get? b = some o
theorem Kp.refl (s : Shared) : Kp s s := ⟨Same.refl s, fun _ _ e => e⟩
theorem Kp.trans {s s' s'' : Shared} (a : Kp s s') (b : Kp s' s'') : Kp s s'' := ⟨a.same.trans b.same, fun x o e => b.keep x o (a.keep x o e)⟩
theorem Kp.mk' {s : Shared} {h' : Heap} {tk : Nat} (k : ∀ b o, s.heap.get? b = some o → h'.get? b = some o) : Kp s { s with heap := h', toks := tk } := ⟨⟨rfl, rfl, rfl⟩, k⟩
theorem Kp.tok (s : Shared) (tk : Nat) : Kp s { s with toks := tk } := ⟨⟨rfl, rfl, rfl⟩, fun _ _ e => e⟩
theorem Kp.push (s : Shared) (o : Obj) : Kp s { s with heap := s.heap.push o } := ⟨⟨rfl, rfl, rfl⟩, fun _ _ e => Heap.get?_push_of_some _ e⟩

/-- the frame at L with its names m; what is known to stay (H); what is owned (σ) -/
structure St (k : Bool) (s₀ : Shared) (H : Addr → Obj → Prop) (L : Addr) (m : Str → Option Value) (σ : List (Addr × Obj)) (s : Shared) : Prop where
  same : Same s₀ s
  ns : s.heap.Ns L m
  keep : ∀ b o, H b o → s.heap.get? b = some o
  keepL : k = true → ∀ o, ¬ H L o
  own : ∀ p ∈ σ, s.heap.get? p.1 = some p.2 ∧ p.1 ≠ L ∧ ∀ o, ¬ H p.1 o
  nd : (σ.map (·.1)).Nodup

section
variable {k : Bool} {s₀ s s' : Shared} {H H' : Addr → Obj → Prop} {L : Addr} {m : Str → Option Value} {σ σ' : List (Addr × Obj)}

theorem St.kp (S : St k s₀ H L m σ s) (kp : Kp s s') : St k s₀ H L m σ s' :=
  ⟨S.same.trans kp.same, S.ns.keeps kp.keep, fun b o e => kp.keep _ _ (S.keep b o e), S.keepL, fun p hp => ⟨kp.keep _ _ (S.own p hp).1, (S.own p hp).2⟩, S.nd⟩

theorem St.anti (S : St k s₀ H' L m σ s) (h : ∀ b o, H b o → H' b o) : St k s₀ H L m σ s :=
  ⟨S.same, S.ns, fun b o e => S.keep b o (h b o e), fun hk o e => S.keepL hk o (h _ _ e), fun p hp => ⟨(S.own p hp).1, (S.own p hp).2.1, fun o e => (S.own p hp).2.2 o (h _ _ e)⟩, S.nd⟩

theorem St.names {m' : Str → Option Value} (S : St k s₀ H L m σ s) (e : m = m') : St k s₀ H L m' σ s := e ▸ S

theorem St.set {m' : Str → Option Value} {h' : Heap} {tk : Nat} (S : St true s₀ H L m σ s) (hn : h'.Ns L m') (hs : Heap.SameBut L s.heap h') : St true s₀ H L m' σ { s with heap := h', toks := tk } :=
  ⟨S.same.trans ⟨rfl, rfl, rfl⟩, hn, fun b o e => (hs.2 b (fun q => S.keepL rfl o (q ▸ e))).trans (S.keep b o e), S.keepL, fun p hp => ⟨(hs.2 _ (S.own p hp).2.1).trans (S.own p hp).1, (S.own p hp).2⟩, S.nd⟩

/-- fewer are owned -/
theorem St.drop (S : St k s₀ H L m σ s) (h : σ'.Sublist σ) : St k s₀ H L m σ' s :=
  ⟨S.same, S.ns, S.keep, S.keepL, fun p hp => S.own p (h.subset hp), S.nd.sublist (h.map _)⟩
theorem St.perm (S : St k s₀ H L m σ s) (h : σ.Perm σ') : St k s₀ H L m σ' s :=
  ⟨S.same, S.ns, S.keep, S.keepL, fun p hp => S.own p (h.mem_iff.mpr hp), (h.map _).nodup_iff.mp S.nd⟩

/-- a new object is owned -/
theorem St.add {a : Addr} {o : Obj} (S : St k s₀ H L m σ s) (kp : Kp s s') (hn : s.heap.get? a = none) (ho : s'.heap.get? a = some o) : St k s₀ H L m ((a, o) :: σ) s' := by
  have S' := S.kp kp
  refine ⟨S'.same, S'.ns, S'.keep, S'.keepL, fun p hp => ?_, ?_⟩
  · rcases List.mem_cons.mp hp with rfl | hp
    · refine ⟨ho, fun e => ?_, fun o' e => ?_⟩
      · obtain ⟨x, _, _, hx, _⟩ := S.ns
        dsimp only at e; rw [← e, hn] at hx; cases hx
      · have := S.keep _ _ e; rw [hn] at this; cases this
    · exact S'.own p hp
  · rw [List.map_cons, List.nodup_cons]
    refine ⟨fun hm => ?_, S.nd⟩
    obtain ⟨p, hp, e⟩ := List.mem_map.mp hm
    have := (S.own p hp).1
    rw [e, hn] at this; cases this

theorem St.get (S : St k s₀ H L m σ s) {a : Addr} {o : Obj} (h : (a, o) ∈ σ) : s.heap.get? a = some o := (S.own _ h).1

/-- the owned object at a is turned, by whatever road -/
theorem St.turn {a : Addr} {o o' : Obj} {σ₁ σ₂ : List (Addr × Obj)} {h' : Heap} {tk : Nat} (S : St k s₀ H L m (σ₁ ++ (a, o) :: σ₂) s) (hs : ∀ b x, b ≠ a → s.heap.get? b = some x → h'.get? b = some x)
    (ho : h'.get? a = some o') : St k s₀ H L m (σ₁ ++ (a, o') :: σ₂) { s with heap := h', toks := tk } := by
  have ha := S.own (a, o) (by simp)
  have hnd : a ∉ σ₁.map (·.1) ∧ a ∉ σ₂.map (·.1) := by
    have := S.nd
    rw [List.map_append, List.map_cons, List.nodup_append, List.nodup_cons] at this
    refine ⟨fun q => ?_, this.2.1.1⟩
    exact this.2.2 a q a (List.mem_cons_self ..) rfl
  refine ⟨S.same.trans ⟨rfl, rfl, rfl⟩, ?_, fun b x e => hs b x (fun q => ha.2.2 x (q ▸ e)) (S.keep b x e), S.keepL, fun p hp => ?_, ?_⟩
  · obtain ⟨x, es, ep, hx, r⟩ := S.ns
    exact ⟨x, es, ep, hs _ _ (Ne.symm ha.2.1) hx, r⟩
  · rcases List.mem_append.mp hp with hp | hp
    · have P := S.own p (List.mem_append_left _ hp)
      exact ⟨hs _ _ (fun q => hnd.1 (List.mem_map.mpr ⟨p, hp, q⟩)) P.1, P.2⟩
    · rcases List.mem_cons.mp hp with rfl | hp
      · exact ⟨ho, ha.2⟩
      · have P := S.own p (List.mem_append_right _ (List.mem_cons_of_mem _ hp))
        exact ⟨hs _ _ (fun q => hnd.2 (List.mem_map.mpr ⟨p, hp, q⟩)) P.1, P.2⟩
  · have := S.nd
    simpa only [List.map_append, List.map_cons] using this

/-- behind a call that nothing of ours is lost in -/
theorem St.back (S : St k s (fun b o => s.heap.get? b = some o) L m σ s') : Kp s s' := ⟨S.same, S.keep⟩
theorem St.fresh (S : St k s (fun b o => s.heap.get? b = some o) L m σ s') {a : Addr} {o : Obj} (h : (a, o) ∈ σ) : s.heap.get? a = none := by
  cases e : s.heap.get? a with
  | none => rfl
  | some x => exact absurd e ((S.own _ h).2.2 x)
end

end Mine
end
section
open PySem PyProof.Rows
set_option Elab.async false
namespace Mine
section
variable {prog : Program} {w : World} {A : Around} {E : Value → Shared → Prop} {s₀ s : Shared} {H : Addr → Obj → Prop} {L : Addr} {m : Str → Option Value} {σ : List (Addr × Obj)} {env : Env}

/-- what is left to do behind a statement -/
def thenK (prog : Program) (w : World) (A : Around) (rest : List Stmt) (env : Env) (Q : Flow → Shared → Prop) (E : Value → Shared → Prop) : Flow → Shared → Prop
  | .next, s => wpAny (model prog w) A (execs rest env) Q E s
  | f, s => Q f s
theorem thenK_next {rest : List Stmt} {Q : Flow → Shared → Prop} (h : wpAny (model prog w) A (execs rest env) Q E s) : thenK prog w A rest env Q E .next s := h
theorem thenK_ret {rest : List Stmt} {Q : Flow → Shared → Prop} {v : Value} (h : Q (.ret v) s) : thenK prog w A rest env Q E (.ret v) s := h
theorem thenK_brk {rest : List Stmt} {Q : Flow → Shared → Prop} (h : Q .brk s) : thenK prog w A rest env Q E .brk s := h
theorem thenK_cont {rest : List Stmt} {Q : Flow → Shared → Prop} (h : Q .cont s) : thenK prog w A rest env Q E .cont s := h

theorem x_cons {st : Stmt} {rest : List Stmt} {Q : Flow → Shared → Prop} (h : wpAny (model prog w) A (exec st env) (thenK prog w A rest env Q E) E s) :
    wpAny (model prog w) A (execs (st :: rest) env) Q E s :=
  wpAny_execs_cons (wpAny_mono h (fun f s' h' => by cases f <;> exact h') fun _ _ x => x)

/-- what a turn's end must show, for a body of a loop -/
def turnK (J : (Str → Option Value) → List (Addr × Obj) → Prop) (s₀ : Shared) (H : Addr → Obj → Prop) (L : Addr) (Q : Flow → Shared → Prop) : Flow → Shared → Prop
  | .next, s => ∃ m σ, St true s₀ H L m σ s ∧ J m σ
  | .cont, s => ∃ m σ, St true s₀ H L m σ s ∧ J m σ
  | .brk, s => Q .next s
  | .ret v, s => Q (.ret v) s
theorem turnK_next {J : (Str → Option Value) → List (Addr × Obj) → Prop} {Q : Flow → Shared → Prop} (S : St true s₀ H L m σ s) (h : J m σ) : turnK J s₀ H L Q .next s := ⟨m, σ, S, h⟩
theorem turnK_cont {J : (Str → Option Value) → List (Addr × Obj) → Prop} {Q : Flow → Shared → Prop} (S : St true s₀ H L m σ s) (h : J m σ) : turnK J s₀ H L Q .cont s := ⟨m, σ, S, h⟩
theorem turnK_ret {J : (Str → Option Value) → List (Addr × Obj) → Prop} {Q : Flow → Shared → Prop} {v : Value} (h : Q (.ret v) s) : turnK J s₀ H L Q (.ret v) s := h
theorem turnK_brk {J : (Str → Option Value) → List (Addr × Obj) → Prop} {Q : Flow → Shared → Prop} (h : Q .next s) : turnK J s₀ H L Q .brk s := h

/-- a loop over an iterator: between the turns J holds of the names and of what is owned -/
theorem forLoop_St {I : Addr} {fp wr : List Addr} {n : Nat} {P : Nat → Value → Prop} {Ti : Nat → Heap → Prop} (W : Walks prog w A I fp wr n P Ti)
    (hex : ∀ i h, Ti i h → ∀ b ∈ fp, ∃ o, h.get? b = some o)
    (J : Nat → (Str → Option Value) → List (Addr × Obj) → Prop) {x : Str} {px : Pos} {body : List Stmt} {q : Str} {sc : Scope} {f : Addr} {cd : Value} {Q : Flow → Shared → Prop} {R : Result → Shared → Prop}
    (S : St true s₀ H L m σ s) (hT : Ti 0 s.heap) (hfp : ∀ b ∈ fp, b ≠ L ∧ b ∉ σ.map (·.1)) (hwr : ∀ b ∈ wr, ∀ o, ¬ H b o) (h0 : J 0 m σ)
    (hk : sc.kind = .function) (hx : sc.names.lookup x = some .local)
    (turn : ∀ (E' : Value → Shared → Prop) i m' σ' s' v Hb, i < n → J i m' σ' → P i v → (∀ b o, H b o → Hb b o) → St true s₀ Hb L (upd m' x v) σ' s' →
      wpAny (model prog w) A (execs body (envOf q sc L f cd)) (turnK (J (i + 1)) s₀ Hb L Q) E' s')
    (done : ∀ m' σ' s', J n m' σ' → St true s₀ H L m' σ' s' → Q .next s') (hR : ∀ fl s', Q fl s' → R (.ok fl) s') :
    codeAny (model prog w) A (.forLoop (.Name x px) (.ref I) body [] (envOf q sc L f cd)) R s := by
  refine codeAny_forLoop (fun k s => ∃ i m σ, k = n - i ∧ i ≤ n ∧ J i m σ ∧ St true s₀ H L m σ s ∧ Ti i s.heap ∧ ∀ b ∈ fp, b ≠ L ∧ b ∉ σ.map (·.1)) (fun k s hI => ?_) n ⟨0, m, σ, by simp, Nat.zero_le _, h0, S, hT, hfp⟩
  obtain ⟨i, m, σ, rfl, hi, hJ, S, hT, hfp⟩ := hI
  have keepSt : ∀ (h' : Heap) (tk : Nat), (∀ b o, b ∉ wr → s.heap.get? b = some o → h'.get? b = some o) → St true s₀ H L m σ { s with heap := h', toks := tk } := fun h' tk hk' => by
    refine ⟨S.same.trans ⟨rfl, rfl, rfl⟩, ?_, fun b o e => hk' b o (fun q => hwr b q o e) (S.keep b o e), S.keepL, fun p hp => ⟨hk' _ _ (fun q => (hfp _ (W.sub _ q)).2 (List.mem_map.mpr ⟨p, hp, rfl⟩)) (S.own p hp).1, (S.own p hp).2⟩, S.nd⟩
    obtain ⟨oL, es, ep, hL, r⟩ := S.ns
    exact ⟨oL, es, ep, hk' _ _ (fun q => (hfp _ (W.sub _ q)).1 rfl) hL, r⟩
  rcases Nat.lt_or_eq_of_le hi with hlt | rfl
  · refine W.item i s _ _ hlt hT fun v h' tk hP hT' hk' => ?_
    have S1 := keepSt h' tk hk'
    have hfx : ∀ b ∈ fp, ∃ o, h'.get? b = some o := hex _ _ hT'
    have S2 : St true s₀ (fun b o => H b o ∨ (b ∈ fp ∧ h'.get? b = some o)) L m σ { s with heap := h', toks := tk } :=
      ⟨S1.same, S1.ns, fun b o e => e.elim (S1.keep b o) fun q => q.2, fun _ o e => e.elim (S1.keepL rfl o) fun q => (hfp _ q.1).1 rfl,
        fun p hp => ⟨(S1.own p hp).1, (S1.own p hp).2.1, fun o e => e.elim ((S1.own p hp).2.2 o) fun q => (hfp _ q.1).2 (List.mem_map.mpr ⟨p, hp, rfl⟩)⟩, S1.nd⟩
    refine wpAny_assign_Name (wpAny_storeName_local (env := envOf q sc L f cd) hx S2.ns (fun h'' hn hs => ?_) (by show (sc.kind == .class || (sc.kind == .module && L != mainGlobals)) = false; rw [hk]; rfl))
    have S3 := S2.set (tk := tk + 1) hn hs
    refine wpAny_mono (turn _ i m σ _ v _ hlt hJ hP (fun b o e => .inl e) S3) (fun fl s₃ h₃ => ?_) fun _ _ e => e
    have go : (∃ m σ, St true s₀ (fun b o => H b o ∨ (b ∈ fp ∧ h'.get? b = some o)) L m σ s₃ ∧ J (i + 1) m σ) →
        ∃ k, k < n - i ∧ ∃ i m σ, k = n - i ∧ i ≤ n ∧ J i m σ ∧ St true s₀ H L m σ s₃ ∧ Ti i s₃.heap ∧ ∀ b ∈ fp, b ≠ L ∧ b ∉ σ.map (·.1) := by
      rintro ⟨m'', σ'', S4, hJ'⟩
      refine ⟨n - (i + 1), by omega, i + 1, m'', σ'', rfl, hlt, hJ', S4.anti fun b o e => .inl e, W.frame _ _ _ hT' fun b hb o e => S4.keep b o (.inr ⟨hb, e⟩), fun b hb => ⟨(hfp b hb).1, fun hm => ?_⟩⟩
      obtain ⟨p, hp, rfl⟩ := List.mem_map.mp hm
      obtain ⟨o, ho⟩ := hfx _ hb
      exact (S4.own p hp).2.2 o (.inr ⟨hb, ho⟩)
    cases fl with
    | next => exact go h₃
    | cont => exact go h₃
    | brk => exact hR _ _ h₃
    | ret v => exact hR _ _ h₃
  · refine W.done s _ _ hT fun h' tk hk' => ?_
    exact wpAny_execs_nil (hR _ _ (done m σ _ hJ (keepSt h' tk hk')))

/-- a while: J k, k a measure -/
def turnW (J : Nat → (Str → Option Value) → List (Addr × Obj) → Prop) (k : Nat) (s₀ : Shared) (H : Addr → Obj → Prop) (L : Addr) (Q : Flow → Shared → Prop) : Flow → Shared → Prop
  | .next, s => ∃ k' m σ, k' < k ∧ St true s₀ H L m σ s ∧ J k' m σ
  | .cont, s => ∃ k' m σ, k' < k ∧ St true s₀ H L m σ s ∧ J k' m σ
  | .brk, s => Q .next s
  | .ret v, s => Q (.ret v) s
theorem turnW_next {J : Nat → (Str → Option Value) → List (Addr × Obj) → Prop} {k k' : Nat} {Q : Flow → Shared → Prop} (hk : k' < k) (S : St true s₀ H L m σ s) (h : J k' m σ) : turnW J k s₀ H L Q .next s := ⟨k', m, σ, hk, S, h⟩
theorem turnW_ret {J : Nat → (Str → Option Value) → List (Addr × Obj) → Prop} {k : Nat} {Q : Flow → Shared → Prop} {v : Value} (h : Q (.ret v) s) : turnW J k s₀ H L Q (.ret v) s := h

theorem while_St (J : Nat → (Str → Option Value) → List (Addr × Obj) → Prop) {test : Expr} {body : List Stmt} {pos : Pos} {k : Nat} {Q : Flow → Shared → Prop}
    (S : St true s₀ H L m σ s) (h0 : J k m σ)
    (turn : ∀ (E' : Value → Shared → Prop) k m' σ' s', J k m' σ' → St true s₀ H L m' σ' s' →
      wpAny (model prog w) A (isTrue test env (eval test env)) (fun b s₂ => if b = true then wpAny (model prog w) A (execs body env) (turnW J k s₀ H L Q) E' s₂ else Q .next s₂) E' s') :
    wpAny (model prog w) A (exec (.While test body [] pos) env) Q E s := by
  refine wpAny_While (codeAny_whileLoop (fun k s => ∃ m σ, J k m σ ∧ St true s₀ H L m σ s) (fun k s hI => ?_) k ⟨m, σ, h0, S⟩)
  obtain ⟨m, σ, hJ, S⟩ := hI
  refine wpAny_mono (turn _ k m σ s hJ S) (fun b s₂ h₂ => ?_) fun _ _ e => e
  cases b with
  | false => exact wpAny_execs_nil h₂
  | true =>
    refine wpAny_mono h₂ (fun fl s₃ h₃ => ?_) fun _ _ e => e
    cases fl with
    | next => obtain ⟨k', m', σ', hk, S', hJ'⟩ := h₃; exact ⟨k', hk, m', σ', hJ', S'⟩
    | cont => obtain ⟨k', m', σ', hk, S', hJ'⟩ := h₃; exact ⟨k', hk, m', σ', hJ', S'⟩
    | brk => exact h₃
    | ret v => exact h₃
end
end Mine
end
section
open PySem PyProof.Rows
set_option Elab.async false
namespace Mine

/-- what stands at every heap of the call: written objects, the module's names, the built-in names -/
structure Gd (KK : Addr → Obj → Prop) (mg mb : Str → Option Value) (h : Heap) : Prop where
  X : ∀ a o, KK a o → h.get? a = some o
  g : h.Ns mainGlobals mg
  b : h.Ns builtinsNs mb
  lim : h.NoLimit
theorem Gd.keeps {KK : Addr → Obj → Prop} {mg mb : Str → Option Value} {h h' : Heap} (G : Gd KK mg mb h) (k : ∀ b o, h.get? b = some o → h'.get? b = some o) : Gd KK mg mb h' :=
  ⟨fun a o e => k _ _ (G.X a o e), G.g.keeps k, G.b.keeps k, G.lim.keeps k⟩
def GdH (KK : Addr → Obj → Prop) (mg mb : Str → Option Value) (H : Addr → Obj → Prop) : Prop := ∀ h : Heap, (∀ b o, H b o → h.get? b = some o) → Gd KK mg mb h
theorem GdH.mono {KK : Addr → Obj → Prop} {mg mb : Str → Option Value} {H H' : Addr → Obj → Prop} (G : GdH KK mg mb H) (h : ∀ b o, H b o → H' b o) : GdH KK mg mb H' := fun hp k => G hp fun b o e => k b o (h b o e)
theorem Gd.toH {KK : Addr → Obj → Prop} {mg mb : Str → Option Value} {h : Heap} (G : Gd KK mg mb h) : GdH KK mg mb (fun b o => h.get? b = some o) := fun _ k => G.keeps k

/-- room for n more frames -/
structure Rm (A : Around) (n : Nat) : Prop where
  hh : A.handled = none
  dep : A.depth + n < 990
  un : A.units + 10 * n < 9800
theorem Rm.deeper {A : Around} {n : Nat} (r : Rm A (n + 1)) (env : Env) : Rm (A.deeper env) n := ⟨r.hh, by have := r.dep; show A.depth + 1 + n < 990; omega, by have := r.un; show A.units + 3 + 10 * n < 9800; omega⟩
theorem Rm.less {A : Around} {n k : Nat} (r : Rm A n) (h : k ≤ n) : Rm A k := ⟨r.hh, by have := r.dep; omega, by have := r.un; omega⟩

section
variable {k : Bool} {prog : Program} {w : World} {A : Around} {E : Value → Shared → Prop} {s₀ s : Shared} {H : Addr → Obj → Prop} {L : Addr} {m : Str → Option Value} {σ : List (Addr × Obj)} {env : Env}
  {KK : Addr → Obj → Prop} {mg mb : Str → Option Value} {q : Str} {sc : Scope} {f : Addr} {cd : Value}

theorem St.gd (S : St k s₀ H L m σ s) (G : GdH KK mg mb H) : Gd KK mg mb s.heap := G _ S.keep

/-- a def's end -/
def retK (Q : Value → Shared → Prop) : Flow → Shared → Prop
  | .ret v, s => Q v s
  | _, s => Q .none s
theorem retK_ret {Q : Value → Shared → Prop} {v : Value} (h : Q v s) : retK Q (.ret v) s := h
theorem retK_next {Q : Value → Shared → Prop} (h : Q .none s) : retK Q .next s := h

abbrev fnD (name qual : Str) (params : Arguments) (body : List Stmt) (scope : Scope) (dV kV doc pm : Value) (an : Option Addr) (cdv ct : Value) : FuncData :=
  { name, qualname := qual, params, body := .stmts body, scope, globals := mainGlobals, closure := [], defaults := dV, kwdefaults := kV, doc, pyModule := pm, annotations := an, code := cdv, closureTuple := ct, builtins := builtinsNs }

/-- enter a def -/
theorem enter {fa : Addr} {name qual : Str} {params : Arguments} {body : List Stmt} {scope : Scope} {dV kV doc pm cdv ct oc : Value} {an od : Option Addr} {osl : Array (Option Value)} {args : List Value} {binds : List (Str × Value)} {Q : Value → Shared → Prop}
    (G : Gd KK mg mb s.heap) (hr : A.depth < 990) (hf : KK fa ⟨oc, od, .func (fnD name qual params body scope dV kV doc pm an cdv ct), osl⟩) (hcd : s.heap.CodeRec cdv qual)
    (hb : bindArgs (fnD name qual params body scope dV kV doc pm an cdv ct) ⟨args, []⟩ = pure binds) (hloc : ∀ x ∈ binds, scope.names.lookup x.1 = some .local)
    (hcell : ∀ x ∈ scope.names, x.2 ≠ .cell) (hco : scope.isCoroutine = false) (hgen : scope.isGenerator = false) (hk : scope.kind = .function)
    (h : ∀ (E' : Value → Shared → Prop) L s', L = s.heap.objs.size → St true s (fun b o => s.heap.get? b = some o) L (fun x => binds.reverse.lookup x) [] s' →
      wpAny (model prog w) (A.deeper (envOf qual scope L fa cdv)) (execs body (envOf qual scope L fa cdv)) (retK Q) E' s') :
    wpAny (model prog w) A (call (.ref fa) args) Q E s := by
  refine wpAny_call (codeAny_call_function (fd := fnD name qual params body scope dV kV doc pm an cdv ct) (by show A.depth < 1000; omega) (G.X _ _ hf) rfl hco hgen rfl hcd ?_)
  rw [hb]
  refine wpAny_pure (wpAny_newFunctionEnv hcell hloc (fun h₀ hns₀ hsb₀ => ⟨G.lim.fresh _ hsb₀, codeAny_func ?_⟩) hk)
  have hk' : ∀ b o, s.heap.get? b = some o → h₀.get? b = some o := fun b o e => hsb₀.extBut b o (Nat.ne_of_lt (Heap.lt_size e)) (Heap.get?_push_of_some _ e)
  refine wpAny_mono (h _ s.heap.objs.size _ rfl ⟨⟨rfl, rfl, rfl⟩, hns₀, hk', fun _ o e => ?_, (fun p hp => (List.not_mem_nil hp).elim), List.nodup_nil⟩) (fun fl s' h' => ?_) fun _ _ x => x
  · exact absurd (Heap.lt_size e) (Nat.lt_irrefl _)
  · cases fl <;> exact h'

-- names
theorem r_loc {x : Str} {pos : Pos} {v : Value} {Q : Value → Shared → Prop} (S : St k s₀ H L m σ s) (hv : m x = some v) (h : Q v s)
    (hc : (env.scope.kind == .function && env.scope.names.lookup x == some .local && !(x == ("__debug__" : Str))) = true) (hL : env.locals = L := by with_unfolding_all rfl) :
    wpAny (model prog w) A (eval (.Name x pos) env) Q E s := by
  subst hL
  simp only [Bool.and_eq_true, beq_iff_eq, Bool.not_eq_true'] at hc
  exact wpAny_Name (wpAny_loadName_local hc.1.1 hc.1.2 S.ns hv h) hc.2
theorem r_glob {x : Str} {pos : Pos} {v : Value} {Q : Value → Shared → Prop} (S : St k s₀ H L m σ s) (G : GdH KK mg mb H) (hv : mg x = some v) (h : Q v s)
    (hc : (env.scope.kind == .function && env.scope.names.lookup x == some .globalImplicit && !(x == ("__debug__" : Str))) = true) (hg : env.globals = mainGlobals := by with_unfolding_all rfl) :
    wpAny (model prog w) A (eval (.Name x pos) env) Q E s := by
  simp only [Bool.and_eq_true, beq_iff_eq, Bool.not_eq_true'] at hc
  exact Calls.Name_function_global hc.1.1 hc.1.2 (Calls.loadGlobal_global (hg ▸ (S.gd G).g) hv h) hc.2
theorem r_blt {x : Str} {pos : Pos} {v : Value} {Q : Value → Shared → Prop} (S : St k s₀ H L m σ s) (G : GdH KK mg mb H) (hn : mg x = none) (hv : mb x = some v) (h : Q v s)
    (hc : (env.scope.kind == .function && env.scope.names.lookup x == some .globalImplicit && !(x == ("__debug__" : Str))) = true) (hg : env.globals = mainGlobals := by with_unfolding_all rfl) (hb : env.builtins = builtinsNs := by with_unfolding_all rfl) :
    wpAny (model prog w) A (eval (.Name x pos) env) Q E s := by
  simp only [Bool.and_eq_true, beq_iff_eq, Bool.not_eq_true'] at hc
  exact Calls.Name_function_global hc.1.1 hc.1.2 (Calls.loadGlobal_builtin (hg ▸ (S.gd G).g) hn (hb ▸ (S.gd G).b) hv h) hc.2
theorem r_store {x : Str} {v : Value} {Q : Unit → Shared → Prop} (S : St true s₀ H L m σ s) (h : ∀ s', St true s₀ H L (upd m x v) σ s' → Q () s')
    (hc : (env.scope.kind == .function && env.scope.names.lookup x == some .local) = true) (hL : env.locals = L := by with_unfolding_all rfl) : wpAny (model prog w) A (storeName env x v) Q E s := by
  subst hL
  simp only [Bool.and_eq_true, beq_iff_eq] at hc
  exact wpAny_storeName_local hc.2 S.ns (fun h' hn hs => h _ (S.set hn hs)) (by rw [hc.1]; rfl)

-- statements
theorem x_assign {x : Str} {px pos : Pos} {e : Expr} {rest : List Stmt} {Q : Flow → Shared → Prop}
    (h : wpAny (model prog w) A (eval e env) (fun v s₁ => wpAny (model prog w) A (storeName env x v) (fun _ s₂ => wpAny (model prog w) A (execs rest env) Q E s₂) E s₁) E s)
    (hs : swapsWith e (some (.Name x px)) pos.line env = pure false := by with_unfolding_all rfl) : wpAny (model prog w) A (execs (.Assign [.Name x px] e pos :: rest) env) Q E s :=
  x_cons (wpAny_Assign_Name h hs)
theorem x_ret {e : Expr} {pos : Pos} {rest : List Stmt} {Q : Flow → Shared → Prop} (h : wpAny (model prog w) A (eval e env) (fun v s₁ => Q (.ret v) s₁) E s) :
    wpAny (model prog w) A (execs (.Return (some e) pos :: rest) env) Q E s := x_cons (wpAny_Return_some h)
theorem x_if {test : Expr} {body orelse rest : List Stmt} {pos : Pos} {Q : Flow → Shared → Prop}
    (h : wpAny (model prog w) A (isTrue test env (eval test env)) (fun b s₂ => if b = true then wpAny (model prog w) A (execs body env) (thenK prog w A rest env Q E) E s₂ else wpAny (model prog w) A (execs orelse env) (thenK prog w A rest env Q E) E s₂) E s) :
    wpAny (model prog w) A (execs (.If test body orelse pos :: rest) env) Q E s := x_cons (wpAny_If h)
/-- an if whose else is empty -/
theorem x_if1 {test : Expr} {body rest : List Stmt} {pos : Pos} {Q : Flow → Shared → Prop}
    (h : wpAny (model prog w) A (isTrue test env (eval test env)) (fun b s₂ => if b = true then wpAny (model prog w) A (execs body env) (thenK prog w A rest env Q E) E s₂ else wpAny (model prog w) A (execs rest env) Q E s₂) E s) :
    wpAny (model prog w) A (execs (.If test body [] pos :: rest) env) Q E s := x_cons (wpAny_If (wpAny_mono h (fun b s₂ h' => by
      cases b with
      | true => exact h'
      | false => exact wpAny_execs_nil h') fun _ _ x => x))
theorem x_nil {Q : Flow → Shared → Prop} (h : Q .next s) : wpAny (model prog w) A (execs [] env) Q E s := wpAny_execs_nil h
theorem x_nil_then {rest : List Stmt} {Q : Flow → Shared → Prop} (h : wpAny (model prog w) A (execs rest env) Q E s) : wpAny (model prog w) A (execs [] env) (thenK prog w A rest env Q E) E s := wpAny_execs_nil h

theorem ite_t {c : Bool} {P P' : Prop} (hc : c = true) (h : P) : if c = true then P else P' := by rw [hc]; exact h
theorem ite_f {c : Bool} {P P' : Prop} (hc : c = false) (h : P') : if c = true then P else P' := by rw [hc]; exact h

-- what only counts on
theorem r_int {i : Int} {kk : Nat} {pos : Pos} {Q : Value → Shared → Prop} (S : St k s₀ H L m σ s) (h : ∀ t s', St k s₀ H L m σ s' → Q (.int i t) s') : wpAny (model prog w) A (eval (.Constant (.int i) kk pos) env) Q E s :=
  wpAny_Constant_int (h _ _ (S.kp (Kp.tok s _)))
theorem r_str {x : Str} {kk : Nat} {pos : Pos} {Q : Value → Shared → Prop} (S : St k s₀ H L m σ s) (h : ∀ t s', St k s₀ H L m σ s' → Q (.str x t) s') : wpAny (model prog w) A (eval (.Constant (.str x) kk pos) env) Q E s :=
  Calls.Constant_str (h _ _ (S.kp (Kp.tok s _)))
end
end Mine
end
section
open PySem PyProof.Rows
set_option Elab.async false
namespace Mine

/-- a list as it stands in the heap -/
abbrev lst (vs : List Value) (n : Nat) : Obj := { cls := .type "list", dict := none, data := .seq vs.toArray n, slots := #[] }
abbrev tup (vs : List Value) : Obj := { cls := .type "tuple", dict := none, data := .seq vs.toArray 0, slots := #[] }

section
variable {k : Bool} {prog : Program} {w : World} {A : Around} {E : Value → Shared → Prop} {s₀ s : Shared} {H : Addr → Obj → Prop} {L : Addr} {m : Str → Option Value} {σ : List (Addr × Obj)} {env : Env}
  {KK : Addr → Obj → Prop} {mg mb : Str → Option Value} {q : Str} {sc : Scope} {f : Addr} {cd : Value} {Q : Value → Shared → Prop}

-- ints
theorem r_add {a b : Int} {t u : Tok} (S : St k s₀ H L m σ s) (h : ∀ t s', St k s₀ H L m σ s' → Q (.int (a + b) t) s') : wpAny (model prog w) A (binaryOp .Add (.int a t) (.int b u)) Q E s := PyProof.Rows.add_int (h _ _ (S.kp (Kp.tok s _)))
theorem r_sub {a b : Int} {t u : Tok} (S : St k s₀ H L m σ s) (h : ∀ t s', St k s₀ H L m σ s' → Q (.int (a - b) t) s') : wpAny (model prog w) A (binaryOp .Sub (.int a t) (.int b u)) Q E s := PyProof.Rows.sub_int' (h _ _ (S.kp (Kp.tok s _)))
theorem r_mul {a b : Int} {t u : Tok} (S : St k s₀ H L m σ s) (hm : IntMulOk a b) (h : ∀ t s', St k s₀ H L m σ s' → Q (.int (a * b) t) s') : wpAny (model prog w) A (binaryOp .Mult (.int a t) (.int b u)) Q E s := PyProof.Rows.mul_int (h _ _ (S.kp (Kp.tok s _))) hm
theorem r_fdiv {a b : Int} {t u : Tok} (S : St k s₀ H L m σ s) (hb : b ≠ 0) (hs : b.natAbs < 1073741824) (h : ∀ t s', St k s₀ H L m σ s' → Q (.int (a.fdiv b) t) s') : wpAny (model prog w) A (binaryOp .FloorDiv (.int a t) (.int b u)) Q E s :=
  PyProof.Rows.floordiv_int hb (h _ _ (S.kp (Kp.tok s _))) (.inl (PyProof.noPylong_small hs))
theorem r_fmod {a b : Int} {t u : Tok} (S : St k s₀ H L m σ s) (hb : b ≠ 0) (h : ∀ t s', St k s₀ H L m σ s' → Q (.int (a.fmod b) t) s') : wpAny (model prog w) A (binaryOp .Mod (.int a t) (.int b u)) Q E s := PyProof.Rows.mod_int' hb (h _ _ (S.kp (Kp.tok s _)))
theorem r_neg {a : Int} {t : Tok} (S : St k s₀ H L m σ s) (h : ∀ t s', St k s₀ H L m σ s' → Q (.int (-a) t) s') : wpAny (model prog w) A (unaryOp .USub (.int a t)) Q E s := PyProof.Rows.neg_int (h _ _ (S.kp (Kp.tok s _)))

-- texts
theorem seqIndex_pos {i : Int} {n : Nat} (h0 : 0 ≤ i) (h : i < n) : seqIndex? i n = some i.toNat := by
  unfold seqIndex?
  have h1 : ¬ i < 0 := by omega
  simp only [h1, if_false]
  rw [if_pos (by simp only [Bool.and_eq_true, decide_eq_true_eq]; omega)]
theorem r_cat {x y : Str} {t u : Tok} (S : St k s₀ H L m σ s) (hz : x.length + y.length ≤ sizeLine) (h : ∀ t s', St k s₀ H L m σ s' → Q (.str (x ++ y) t) s') : wpAny (model prog w) A (binaryOp .Add (.str x t) (.str y u)) Q E s := by
  refine P.add_str ?_
  by_cases hx : (x.length == 0) = true
  · rw [if_pos hx]
    rw [show x ++ y = y from Str.append_left_empty hx] at h
    exact h _ _ S
  · rw [if_neg hx]
    by_cases hy : (y.length == 0) = true
    · rw [if_pos hy]
      rw [show x ++ y = x from Str.append_right_empty hy] at h
      exact h _ _ S
    · rw [if_neg hy]
      exact ⟨by rw [Str.length_append]; exact hz, h _ _ (S.kp (Kp.tok s _))⟩
theorem r_len_str {x : Str} {t : Tok} (S : St k s₀ H L m σ s) (hz : x.length ≤ sizeLine) (h : ∀ t s', St k s₀ H L m σ s' → Q (.int x.length t) s') : wpAny (model prog w) A (call (.builtin "len") [.str x t]) Q E s :=
  P.len_str (by rw [sizeLine_eq] at hz; omega) (h _ _ (S.kp (Kp.tok s _)))
theorem r_item_str {value slice : Expr} {x : Str} {t u : Tok} {i : Int} {c : Nat} (S : St k s₀ H L m σ s) (h0 : 0 ≤ i) (hz : x.length ≤ sizeLine) (hc : x.cps.toList[i.toNat]? = some c) (h : ∀ t s', St k s₀ H L m σ s' → Q (.str ⟨#[c]⟩ t) s')
    (hs : subscripted slice false (.str x t) (.int i u) = operate [.str x t, .int i u] (getItem (.str x t) (.int i u)) := by with_unfolding_all rfl) : wpAny (model prog w) A (subscriptTail value slice (.str x t) (.int i u)) Q E s := by
  have hlt : i.toNat < x.cps.toList.length := (List.getElem?_eq_some_iff.mp hc).1
  have hlen : x.cps.toList.length = x.length := by simp [Str.length]
  refine tail_any (typeIs_str s x t) F.slot_str_getitem.lookup (P.getItem_str ?_ ?_ (h _ _ (S.kp (Kp.tok s _)))) hs
  · rw [sizeLine_eq] at hz
    simp only [Bool.or_eq_false_iff, decide_eq_false_iff_not]; omega
  · have : seqIndex? i x.length = some i.toNat := by
      rw [hlen] at hlt
      exact seqIndex_pos h0 (by omega)
    rw [this]
    simpa using hc

-- one call by a name
theorem e_b1 {x : Str} {id : String} {p pos : Pos} {e : Expr} (S : St k s₀ H L m σ s) (G : GdH KK mg mb H) (hn : mg x = none) (hv : mb x = some (.builtin id))
    (hc : (env.scope.kind == .function && env.scope.names.lookup x == some .globalImplicit && !(x == ("__debug__" : Str))) = true)
    (h : wpAny (model prog w) A (eval e env) (fun v s₁ => wpAny (model prog w) A (call (.builtin id) [v]) Q E s₁) E s)
    (hs : backTo pos (starEach [e] env) = [(false, eval e env)] := by with_unfolding_all rfl) (hg : env.globals = mainGlobals := by with_unfolding_all rfl) (hb : env.builtins = builtinsNs := by with_unfolding_all rfl) :
    wpAny (model prog w) A (eval (.Call (.Name x p) [e] [] pos) env) Q E s := by
  refine wpAny_Call_NameR (r_blt S G hn hv ?_ hc hg hb)
  rw [hs]
  exact Calls.callWith_builtin rfl (Calls.evalArgs_plain (Calls.spliced_cons (wpAny_mono h (fun v s₁ h₁ => Calls.spliced_nil h₁) fun _ _ e => e)))
theorem e_b2 {x : Str} {id : String} {p pos : Pos} {e1 e2 : Expr} (S : St k s₀ H L m σ s) (G : GdH KK mg mb H) (hn : mg x = none) (hv : mb x = some (.builtin id))
    (hc : (env.scope.kind == .function && env.scope.names.lookup x == some .globalImplicit && !(x == ("__debug__" : Str))) = true)
    (h : wpAny (model prog w) A (eval e1 env) (fun v1 s₁ => wpAny (model prog w) A (eval e2 env) (fun v2 s₂ => wpAny (model prog w) A (call (.builtin id) [v1, v2]) Q E s₂) E s₁) E s)
    (hs : backTo pos (starEach [e1, e2] env) = [(false, eval e1 env), (false, eval e2 env)] := by with_unfolding_all rfl) (hg : env.globals = mainGlobals := by with_unfolding_all rfl) (hb : env.builtins = builtinsNs := by with_unfolding_all rfl) :
    wpAny (model prog w) A (eval (.Call (.Name x p) [e1, e2] [] pos) env) Q E s := by
  refine wpAny_Call_NameR (r_blt S G hn hv ?_ hc hg hb)
  rw [hs]
  exact Calls.callWith_builtin rfl (Calls.evalArgs_plain (Calls.spliced_cons (wpAny_mono h (fun v1 s₁ h₁ => Calls.spliced_cons (wpAny_mono h₁ (fun v2 s₂ h₂ => Calls.spliced_nil h₂) fun _ _ e => e)) fun _ _ e => e)))
theorem e_b3 {x : Str} {id : String} {p pos : Pos} {e1 e2 e3 : Expr} (S : St k s₀ H L m σ s) (G : GdH KK mg mb H) (hn : mg x = none) (hv : mb x = some (.builtin id))
    (hc : (env.scope.kind == .function && env.scope.names.lookup x == some .globalImplicit && !(x == ("__debug__" : Str))) = true)
    (h : wpAny (model prog w) A (eval e1 env) (fun v1 s₁ => wpAny (model prog w) A (eval e2 env) (fun v2 s₂ => wpAny (model prog w) A (eval e3 env) (fun v3 s₃ => wpAny (model prog w) A (call (.builtin id) [v1, v2, v3]) Q E s₃) E s₂) E s₁) E s)
    (hs : backTo pos (starEach [e1, e2, e3] env) = [(false, eval e1 env), (false, eval e2 env), (false, eval e3 env)] := by with_unfolding_all rfl) (hg : env.globals = mainGlobals := by with_unfolding_all rfl) (hb : env.builtins = builtinsNs := by with_unfolding_all rfl) :
    wpAny (model prog w) A (eval (.Call (.Name x p) [e1, e2, e3] [] pos) env) Q E s := by
  refine wpAny_Call_NameR (r_blt S G hn hv ?_ hc hg hb)
  rw [hs]
  exact Calls.callWith_builtin rfl (Calls.evalArgs_plain (Calls.spliced_cons (wpAny_mono h (fun v1 s₁ h₁ => Calls.spliced_cons (wpAny_mono h₁ (fun v2 s₂ h₂ => Calls.spliced_cons (wpAny_mono h₂ (fun v3 s₃ h₃ => Calls.spliced_nil h₃) fun _ _ e => e)) fun _ _ e => e)) fun _ _ e => e)))
/-- a built-in type called with one -/
theorem e_t1 {x : Str} {T : String} {p pos : Pos} {e : Expr} (S : St k s₀ H L m σ s) (G : GdH KK mg mb H) (hn : mg x = none) (hv : mb x = some (.type T))
    (hc : (env.scope.kind == .function && env.scope.names.lookup x == some .globalImplicit && !(x == ("__debug__" : Str))) = true)
    (h : wpAny (model prog w) A (eval e env) (fun v s₁ => wpAny (model prog w) A (call (.type T) [v]) Q E s₁) E s)
    (hs : backTo pos (starEach [e] env) = [(false, eval e env)] := by with_unfolding_all rfl) (hg : env.globals = mainGlobals := by with_unfolding_all rfl) (hb : env.builtins = builtinsNs := by with_unfolding_all rfl) :
    wpAny (model prog w) A (eval (.Call (.Name x p) [e] [] pos) env) Q E s := by
  refine wpAny_Call_NameR (r_blt S G hn hv ?_ hc hg hb)
  rw [hs]
  first | exact PySem.callWith_type rfl (Calls.evalArgs_plain (Calls.spliced_cons (wpAny_mono h (fun v s₁ h₁ => Calls.spliced_nil h₁) fun _ _ e => e))) | exact PyProof.Rows.callWith_type rfl (Calls.evalArgs_plain (Calls.spliced_cons (wpAny_mono h (fun v s₁ h₁ => Calls.spliced_nil h₁) fun _ _ e => e)))
/-- an own def called -/
theorem e_f {x : Str} {p pos : Pos} {e : Expr} {rest : List Expr} {fa : Addr} {o : Obj} {fd : FuncData} (S : St k s₀ H L m σ s) (G : GdH KK mg mb H) (hv : mg x = some (.ref fa)) (ho : KK fa o) (hd : o.data = .func fd)
    (hc : (env.scope.kind == .function && env.scope.names.lookup x == some .globalImplicit && !(x == ("__debug__" : Str))) = true)
    (h : wpAny (model prog w) A (spliced (backTo pos (starEach (e :: rest) env))) (fun vs s₁ => Gd KK mg mb s₁.heap ∧ wpAny (model prog w) A (call (.ref fa) vs) Q E s₁) E s)
    (he : starEach (e :: rest) env = (false, eval e env) :: starEach rest env := by with_unfolding_all rfl) (hg : env.globals = mainGlobals := by with_unfolding_all rfl) :
    wpAny (model prog w) A (eval (.Call (.Name x p) (e :: rest) [] pos) env) Q E s := by
  refine wpAny_Call_NameR (r_glob S G hv ?_ hc hg)
  refine Calls.callWith_function (o := o) (fd := fd) ?_
  rw [he] at h ⊢
  exact Calls.evalArgs_plain (wpAny_mono h (fun vs s₁ h₁ => ⟨⟨h₁.1.X _ _ ho, hd⟩, h₁.2⟩) fun _ _ e => e)

-- lists
theorem r_newList {vs : List Value} (S : St k s₀ H L m σ s) (hz : vs.length ≤ sizeLine) (h : ∀ a s', s.heap.get? a = none → St k s₀ H L m ((a, lst vs 0) :: σ) s' → Q (.ref a) s') : wpAny (model prog w) A (newList vs) Q E s := by
  have hn : s.heap.get? s.heap.objs.size = none := by
    cases e : s.heap.get? s.heap.objs.size with
    | none => rfl
    | some o => exact absurd (Heap.lt_size e) (Nat.lt_irrefl _)
  exact wpAny_newObj_type (h _ _ hn (S.add (Kp.push s _) hn (Heap.get?_push_size _ rfl))) (by show vs.toArray.size ≤ sizeLine; rw [List.size_toArray]; exact hz)
theorem r_newTuple {vs : List Value} (S : St k s₀ H L m σ s) (hz : vs.length ≤ sizeLine) (h : ∀ a s', s.heap.get? a = none → St k s₀ H L m ((a, tup vs) :: σ) s' → Q (.ref a) s') : wpAny (model prog w) A (newTuple vs) Q E s := by
  have hn : s.heap.get? s.heap.objs.size = none := by
    cases e : s.heap.get? s.heap.objs.size with
    | none => rfl
    | some o => exact absurd (Heap.lt_size e) (Nat.lt_irrefl _)
  exact wpAny_newObj_type (h _ _ hn (S.add (Kp.push s _) hn (Heap.get?_push_size _ rfl))) (by show vs.toArray.size ≤ sizeLine; rw [List.size_toArray]; exact hz)
theorem isL {h : Heap} {a : Addr} {vs : List Value} {n : Nat} (e : h.get? a = some (lst vs n)) : h.IsList a vs.toArray := ⟨_, e, rfl, n, rfl⟩
theorem r_len_list {a : Addr} {vs : List Value} (S : St k s₀ H L m σ s) (hl : s.heap.IsList a vs.toArray) (hz : vs.length ≤ sizeLine) (h : ∀ t s', St k s₀ H L m σ s' → Q (.int vs.length t) s') : wpAny (model prog w) A (call (.builtin "len") [.ref a]) Q E s := by
  have := Calls.call_len_list (prog := prog) (w := w) (A := A) (E := E) (Q := Q) hl (by rw [sizeLine_eq] at hz; simp; omega)
  simp only [List.size_toArray] at this
  exact this (h _ _ (S.kp (Kp.tok s _)))
theorem r_item_list {value slice : Expr} {a : Addr} {vs : List Value} {i : Int} {u : Tok} {v : Value} (hl : s.heap.IsList a vs.toArray) (h0 : 0 ≤ i) (hz : vs.length ≤ sizeLine) (hv : vs[i.toNat]? = some v) (h : Q v s)
    (hs : subscripted slice false (.ref a) (.int i u) = operate [.ref a, .int i u] (getItem (.ref a) (.int i u)) := by with_unfolding_all rfl) : wpAny (model prog w) A (subscriptTail value slice (.ref a) (.int i u)) Q E s := by
  have hlt := (List.getElem?_eq_some_iff.mp hv).1
  rw [sizeLine_eq] at hz
  exact tail_any hl.typeIs slot_list_getitem.lookup (wpAny_getItem_list hl h0 (by omega) (by simpa using hv) h) hs
/-- an item from the end -/
theorem r_item_last {value slice : Expr} {a : Addr} {vs : List Value} {u : Tok} {v : Value} (hl : s.heap.IsList a vs.toArray) (hv : vs.getLast? = some v) (h : Q v s)
    (hs : subscripted slice false (.ref a) (.int (-1) u) = operate [.ref a, .int (-1) u] (getItem (.ref a) (.int (-1) u)) := by with_unfolding_all rfl) : wpAny (model prog w) A (subscriptTail value slice (.ref a) (.int (-1) u)) Q E s := by
  have hne : vs ≠ [] := by rintro rfl; cases hv
  have hpos := List.length_pos_iff.mpr hne
  refine tail_any hl.typeIs slot_list_getitem.lookup (wpAny_getItem_list_neg hl (by omega) (by simp; omega) (by omega) ?_ h) hs
  rw [List.getLast?_eq_getElem?] at hv
  rw [List.size_toArray, show ((-1 : Int) + (vs.length : Int)).toNat = vs.length - 1 by omega]
  simpa using hv

-- the reckoning ones
theorem r_min3 {a b c : Int} {t u x : Tok} (S : St k s₀ H L m σ s) (hh : A.handled = none) (h : ∀ t s', St k s₀ H L m σ s' → Q (.int (min a (min b c)) t) s') : wpAny (model prog w) A (call (.builtin "min") [.int a t, .int b u, .int c x]) Q E s := by
  refine min_three_ints hh fun h' tk kp => ?_
  have S' := S.kp (Kp.mk' (s := s) (tk := tk) kp)
  by_cases h1 : b < a
  · rw [if_pos h1]
    by_cases h2 : c < b
    · rw [if_pos h2, show c = min a (min b c) by omega]; exact h _ _ S'
    · rw [if_neg h2, show b = min a (min b c) by omega]; exact h _ _ S'
  · rw [if_neg h1]
    by_cases h2 : c < a
    · rw [if_pos h2, show c = min a (min b c) by omega]; exact h _ _ S'
    · rw [if_neg h2, show a = min a (min b c) by omega]; exact h _ _ S'
theorem r_max2 {a b : Int} {t u : Tok} (S : St k s₀ H L m σ s) (hh : A.handled = none) (h : ∀ t s', St k s₀ H L m σ s' → Q (.int (max a b) t) s') : wpAny (model prog w) A (call (.builtin "max") [.int a t, .int b u]) Q E s := by
  refine max_two_ints hh fun h' tk kp => ?_
  have S' := S.kp (Kp.mk' (s := s) (tk := tk) kp)
  by_cases h1 : b > a
  · rw [if_pos h1, show b = max a b by omega]; exact h _ _ S'
  · rw [if_neg h1, show a = max a b by omega]; exact h _ _ S'
theorem r_abs {a : Int} {t : Tok} (S : St k s₀ H L m σ s) (h : ∀ t s', St k s₀ H L m σ s' → Q (.int (if a < 0 then -a else a) t) s') : wpAny (model prog w) A (call (.builtin "abs") [.int a t]) Q E s :=
  call_abs_int fun _ _ => h _ _ (S.kp (Kp.tok s _))
theorem r_int_bool {b : Bool} (S : St k s₀ H L m σ s) (h : ∀ t s', St k s₀ H L m σ s' → Q (.int (if b then 1 else 0) t) s') : wpAny (model prog w) A (call (.type "int") [.bool b]) Q E s := call_int_bool (h _ _ (S.kp (Kp.tok s _)))
end
end Mine
end
section
open PySem PyProof.Rows
set_option Elab.async false
namespace Mine
section
variable {k : Bool} {prog : Program} {w : World} {A : Around} {E : Value → Shared → Prop} {s₀ s : Shared} {H : Addr → Obj → Prop} {L : Addr} {m : Str → Option Value} {σ : List (Addr × Obj)} {env : Env}
  {KK : Addr → Obj → Prop} {mg mb : Str → Option Value} {q : Str} {sc : Scope} {f : Addr} {cd : Value} {Q : Value → Shared → Prop}
theorem isi_int_int {n : Int} {u : Tok} (S : St k s₀ H L m σ s) (h : ∀ s', St k s₀ H L m σ s' → Q (.bool true) s') : wpAny (model prog w) A (call (.builtin "isinstance") [.int n u, .type "int"]) Q E s := IsiPair.int_int (h _ S)
theorem isi_int_str {n : Int} {u : Tok} (S : St k s₀ H L m σ s) (h : ∀ s', St k s₀ H L m σ s' → Q (.bool false) s') : wpAny (model prog w) A (call (.builtin "isinstance") [.int n u, .type "str"]) Q E s := IsiPair.int_str (h _ (S.kp (Kp.tok s _)))
theorem isi_int_bool {n : Int} {u : Tok} (S : St k s₀ H L m σ s) (h : ∀ s', St k s₀ H L m σ s' → Q (.bool false) s') : wpAny (model prog w) A (call (.builtin "isinstance") [.int n u, .type "bool"]) Q E s := IsiPair.int_bool (h _ (S.kp (Kp.tok s _)))
theorem isi_int_list {n : Int} {u : Tok} (S : St k s₀ H L m σ s) (h : ∀ s', St k s₀ H L m σ s' → Q (.bool false) s') : wpAny (model prog w) A (call (.builtin "isinstance") [.int n u, .type "list"]) Q E s := IsiPair.int_list (h _ (S.kp (Kp.tok s _)))
theorem isi_int_tuple {n : Int} {u : Tok} (S : St k s₀ H L m σ s) (h : ∀ s', St k s₀ H L m σ s' → Q (.bool false) s') : wpAny (model prog w) A (call (.builtin "isinstance") [.int n u, .type "tuple"]) Q E s := IsiPair.int_tuple (h _ (S.kp (Kp.tok s _)))
theorem isi_str_int {x : Str} {u : Tok} (S : St k s₀ H L m σ s) (h : ∀ s', St k s₀ H L m σ s' → Q (.bool false) s') : wpAny (model prog w) A (call (.builtin "isinstance") [.str x u, .type "int"]) Q E s := IsiPair.str_int (h _ (S.kp (Kp.tok s _)))
theorem isi_str_str {x : Str} {u : Tok} (S : St k s₀ H L m σ s) (h : ∀ s', St k s₀ H L m σ s' → Q (.bool true) s') : wpAny (model prog w) A (call (.builtin "isinstance") [.str x u, .type "str"]) Q E s := IsiPair.str_str (h _ S)
theorem isi_str_bool {x : Str} {u : Tok} (S : St k s₀ H L m σ s) (h : ∀ s', St k s₀ H L m σ s' → Q (.bool false) s') : wpAny (model prog w) A (call (.builtin "isinstance") [.str x u, .type "bool"]) Q E s := IsiPair.str_bool (h _ (S.kp (Kp.tok s _)))
theorem isi_str_list {x : Str} {u : Tok} (S : St k s₀ H L m σ s) (h : ∀ s', St k s₀ H L m σ s' → Q (.bool false) s') : wpAny (model prog w) A (call (.builtin "isinstance") [.str x u, .type "list"]) Q E s := IsiPair.str_list (h _ (S.kp (Kp.tok s _)))
theorem isi_str_tuple {x : Str} {u : Tok} (S : St k s₀ H L m σ s) (h : ∀ s', St k s₀ H L m σ s' → Q (.bool false) s') : wpAny (model prog w) A (call (.builtin "isinstance") [.str x u, .type "tuple"]) Q E s := IsiPair.str_tuple (h _ (S.kp (Kp.tok s _)))
theorem isi_bool_int {b : Bool} (S : St k s₀ H L m σ s) (h : ∀ s', St k s₀ H L m σ s' → Q (.bool true) s') : wpAny (model prog w) A (call (.builtin "isinstance") [.bool b, .type "int"]) Q E s := IsiPair.bool_int (h _ S)
theorem isi_bool_str {b : Bool} (S : St k s₀ H L m σ s) (h : ∀ s', St k s₀ H L m σ s' → Q (.bool false) s') : wpAny (model prog w) A (call (.builtin "isinstance") [.bool b, .type "str"]) Q E s := IsiPair.bool_str (h _ (S.kp (Kp.tok s _)))
theorem isi_bool_bool {b : Bool} (S : St k s₀ H L m σ s) (h : ∀ s', St k s₀ H L m σ s' → Q (.bool true) s') : wpAny (model prog w) A (call (.builtin "isinstance") [.bool b, .type "bool"]) Q E s := IsiPair.bool_bool (h _ S)
theorem isi_bool_list {b : Bool} (S : St k s₀ H L m σ s) (h : ∀ s', St k s₀ H L m σ s' → Q (.bool false) s') : wpAny (model prog w) A (call (.builtin "isinstance") [.bool b, .type "list"]) Q E s := IsiPair.bool_list (h _ (S.kp (Kp.tok s _)))
theorem isi_bool_tuple {b : Bool} (S : St k s₀ H L m σ s) (h : ∀ s', St k s₀ H L m σ s' → Q (.bool false) s') : wpAny (model prog w) A (call (.builtin "isinstance") [.bool b, .type "tuple"]) Q E s := IsiPair.bool_tuple (h _ (S.kp (Kp.tok s _)))
theorem isi_NoneType_int  (S : St k s₀ H L m σ s) (h : ∀ s', St k s₀ H L m σ s' → Q (.bool false) s') : wpAny (model prog w) A (call (.builtin "isinstance") [.none, .type "int"]) Q E s := IsiPair.NoneType_int (h _ (S.kp (Kp.tok s _)))
theorem isi_NoneType_str  (S : St k s₀ H L m σ s) (h : ∀ s', St k s₀ H L m σ s' → Q (.bool false) s') : wpAny (model prog w) A (call (.builtin "isinstance") [.none, .type "str"]) Q E s := IsiPair.NoneType_str (h _ (S.kp (Kp.tok s _)))
theorem isi_NoneType_bool  (S : St k s₀ H L m σ s) (h : ∀ s', St k s₀ H L m σ s' → Q (.bool false) s') : wpAny (model prog w) A (call (.builtin "isinstance") [.none, .type "bool"]) Q E s := IsiPair.NoneType_bool (h _ (S.kp (Kp.tok s _)))
theorem isi_NoneType_list  (S : St k s₀ H L m σ s) (h : ∀ s', St k s₀ H L m σ s' → Q (.bool false) s') : wpAny (model prog w) A (call (.builtin "isinstance") [.none, .type "list"]) Q E s := IsiPair.NoneType_list (h _ (S.kp (Kp.tok s _)))
theorem isi_NoneType_tuple  (S : St k s₀ H L m σ s) (h : ∀ s', St k s₀ H L m σ s' → Q (.bool false) s') : wpAny (model prog w) A (call (.builtin "isinstance") [.none, .type "tuple"]) Q E s := IsiPair.NoneType_tuple (h _ (S.kp (Kp.tok s _)))
theorem isi_list_int {a : Addr} {o : Obj} (hx : s.heap.get? a = some o) (hc : o.cls = .type "list") (S : St k s₀ H L m σ s) (h : ∀ s', St k s₀ H L m σ s' → Q (.bool false) s') : wpAny (model prog w) A (call (.builtin "isinstance") [.ref a, .type "int"]) Q E s := IsiPair.list_int hx hc (h _ (S.kp (Kp.tok s _)))
theorem isi_list_str {a : Addr} {o : Obj} (hx : s.heap.get? a = some o) (hc : o.cls = .type "list") (S : St k s₀ H L m σ s) (h : ∀ s', St k s₀ H L m σ s' → Q (.bool false) s') : wpAny (model prog w) A (call (.builtin "isinstance") [.ref a, .type "str"]) Q E s := IsiPair.list_str hx hc (h _ (S.kp (Kp.tok s _)))
theorem isi_list_bool {a : Addr} {o : Obj} (hx : s.heap.get? a = some o) (hc : o.cls = .type "list") (S : St k s₀ H L m σ s) (h : ∀ s', St k s₀ H L m σ s' → Q (.bool false) s') : wpAny (model prog w) A (call (.builtin "isinstance") [.ref a, .type "bool"]) Q E s := IsiPair.list_bool hx hc (h _ (S.kp (Kp.tok s _)))
theorem isi_list_list {a : Addr} {o : Obj} (hx : s.heap.get? a = some o) (hc : o.cls = .type "list") (S : St k s₀ H L m σ s) (h : ∀ s', St k s₀ H L m σ s' → Q (.bool true) s') : wpAny (model prog w) A (call (.builtin "isinstance") [.ref a, .type "list"]) Q E s := IsiPair.list_list hx hc (h _ S)
theorem isi_list_tuple {a : Addr} {o : Obj} (hx : s.heap.get? a = some o) (hc : o.cls = .type "list") (S : St k s₀ H L m σ s) (h : ∀ s', St k s₀ H L m σ s' → Q (.bool false) s') : wpAny (model prog w) A (call (.builtin "isinstance") [.ref a, .type "tuple"]) Q E s := IsiPair.list_tuple hx hc (h _ (S.kp (Kp.tok s _)))
theorem isi_tuple_int {a : Addr} {o : Obj} (hx : s.heap.get? a = some o) (hc : o.cls = .type "tuple") (S : St k s₀ H L m σ s) (h : ∀ s', St k s₀ H L m σ s' → Q (.bool false) s') : wpAny (model prog w) A (call (.builtin "isinstance") [.ref a, .type "int"]) Q E s := IsiPair.tuple_int hx hc (h _ (S.kp (Kp.tok s _)))
theorem isi_tuple_str {a : Addr} {o : Obj} (hx : s.heap.get? a = some o) (hc : o.cls = .type "tuple") (S : St k s₀ H L m σ s) (h : ∀ s', St k s₀ H L m σ s' → Q (.bool false) s') : wpAny (model prog w) A (call (.builtin "isinstance") [.ref a, .type "str"]) Q E s := IsiPair.tuple_str hx hc (h _ (S.kp (Kp.tok s _)))
theorem isi_tuple_bool {a : Addr} {o : Obj} (hx : s.heap.get? a = some o) (hc : o.cls = .type "tuple") (S : St k s₀ H L m σ s) (h : ∀ s', St k s₀ H L m σ s' → Q (.bool false) s') : wpAny (model prog w) A (call (.builtin "isinstance") [.ref a, .type "bool"]) Q E s := IsiPair.tuple_bool hx hc (h _ (S.kp (Kp.tok s _)))
theorem isi_tuple_list {a : Addr} {o : Obj} (hx : s.heap.get? a = some o) (hc : o.cls = .type "tuple") (S : St k s₀ H L m σ s) (h : ∀ s', St k s₀ H L m σ s' → Q (.bool false) s') : wpAny (model prog w) A (call (.builtin "isinstance") [.ref a, .type "list"]) Q E s := IsiPair.tuple_list hx hc (h _ (S.kp (Kp.tok s _)))
theorem isi_tuple_tuple {a : Addr} {o : Obj} (hx : s.heap.get? a = some o) (hc : o.cls = .type "tuple") (S : St k s₀ H L m σ s) (h : ∀ s', St k s₀ H L m σ s' → Q (.bool true) s') : wpAny (model prog w) A (call (.builtin "isinstance") [.ref a, .type "tuple"]) Q E s := IsiPair.tuple_tuple hx hc (h _ S)
theorem isi_dict_int {a : Addr} {o : Obj} (hx : s.heap.get? a = some o) (hc : o.cls = .type "dict") (S : St k s₀ H L m σ s) (h : ∀ s', St k s₀ H L m σ s' → Q (.bool false) s') : wpAny (model prog w) A (call (.builtin "isinstance") [.ref a, .type "int"]) Q E s := IsiPair.dict_int hx hc (h _ (S.kp (Kp.tok s _)))
theorem isi_dict_str {a : Addr} {o : Obj} (hx : s.heap.get? a = some o) (hc : o.cls = .type "dict") (S : St k s₀ H L m σ s) (h : ∀ s', St k s₀ H L m σ s' → Q (.bool false) s') : wpAny (model prog w) A (call (.builtin "isinstance") [.ref a, .type "str"]) Q E s := IsiPair.dict_str hx hc (h _ (S.kp (Kp.tok s _)))
theorem isi_dict_bool {a : Addr} {o : Obj} (hx : s.heap.get? a = some o) (hc : o.cls = .type "dict") (S : St k s₀ H L m σ s) (h : ∀ s', St k s₀ H L m σ s' → Q (.bool false) s') : wpAny (model prog w) A (call (.builtin "isinstance") [.ref a, .type "bool"]) Q E s := IsiPair.dict_bool hx hc (h _ (S.kp (Kp.tok s _)))
theorem isi_dict_list {a : Addr} {o : Obj} (hx : s.heap.get? a = some o) (hc : o.cls = .type "dict") (S : St k s₀ H L m σ s) (h : ∀ s', St k s₀ H L m σ s' → Q (.bool false) s') : wpAny (model prog w) A (call (.builtin "isinstance") [.ref a, .type "list"]) Q E s := IsiPair.dict_list hx hc (h _ (S.kp (Kp.tok s _)))
theorem isi_dict_tuple {a : Addr} {o : Obj} (hx : s.heap.get? a = some o) (hc : o.cls = .type "dict") (S : St k s₀ H L m σ s) (h : ∀ s', St k s₀ H L m σ s' → Q (.bool false) s') : wpAny (model prog w) A (call (.builtin "isinstance") [.ref a, .type "tuple"]) Q E s := IsiPair.dict_tuple hx hc (h _ (S.kp (Kp.tok s _)))

/-- an owned object becomes one that stays -/
theorem St.freeze {a : Addr} {o : Obj} {σ₁ σ₂ : List (Addr × Obj)} (S : St k s₀ H L m (σ₁ ++ (a, o) :: σ₂) s) : St k s₀ (fun b x => H b x ∨ (b = a ∧ x = o)) L m (σ₁ ++ σ₂) s := by
  have ha := S.own (a, o) (by simp)
  have hnd := S.nd
  rw [List.map_append, List.map_cons] at hnd
  have hp : (σ₁.map (·.1) ++ a :: σ₂.map (·.1)).Perm (a :: (σ₁.map (·.1) ++ σ₂.map (·.1))) := List.perm_middle
  have hnd' := hp.nodup_iff.mp hnd
  rw [List.nodup_cons] at hnd'
  refine ⟨S.same, S.ns, fun b x e => e.elim (S.keep b x) fun q => by obtain ⟨rfl, rfl⟩ := q; exact ha.1, fun hk x e => e.elim (S.keepL hk x) fun q => ha.2.1 q.1.symm, fun p hp => ?_, by rw [List.map_append]; exact hnd'.2⟩
  have hp' : p ∈ σ₁ ++ (a, o) :: σ₂ := by
    rcases List.mem_append.mp hp with h | h
    · exact List.mem_append_left _ h
    · exact List.mem_append_right _ (List.mem_cons_of_mem _ h)
  refine ⟨(S.own p hp').1, (S.own p hp').2.1, fun x e => e.elim ((S.own p hp').2.2 x) fun q => hnd'.1 ?_⟩
  rw [← List.map_append]
  exact List.mem_map.mpr ⟨p, hp, q.1⟩
theorem St.thaw {a : Addr} {o : Obj} (S : St k s₀ (fun b x => H b x ∨ (b = a ∧ x = o)) L m σ s) (hn : ∀ x, ¬ H a x) (haL : a ≠ L) : St k s₀ H L m ((a, o) :: σ) s := by
  refine ⟨S.same, S.ns, fun b x e => S.keep b x (.inl e), fun hk x e => S.keepL hk x (.inl e), fun p hp => ?_, ?_⟩
  · rcases List.mem_cons.mp hp with rfl | hp
    · exact ⟨S.keep _ _ (.inr ⟨rfl, rfl⟩), haL, hn⟩
    · exact ⟨(S.own p hp).1, (S.own p hp).2.1, fun x e => (S.own p hp).2.2 x (.inl e)⟩
  · rw [List.map_cons, List.nodup_cons]
    refine ⟨fun hm => ?_, S.nd⟩
    obtain ⟨p, hp, e⟩ := List.mem_map.mp hm
    exact (S.own p hp).2.2 o (.inr ⟨e, rfl⟩)

-- append
theorem mapSeq_push (vs : List Value) (n : Nat) (v : Value) : (Obj.mapSeq (fun xs => xs.push v) (lst vs n)) = lst (vs ++ [v]) (n + 1) := by
  show Obj.mk _ _ (Data.seq (vs.toArray.push v) (if (vs.toArray.push v).size == vs.toArray.size then n else n + 1)) _ = _
  have : ((vs.toArray.push v).size == vs.toArray.size) = false := by simp
  rw [this]
  simp
/-- a call of a list's method append -/
theorem e_append {x : Str} {e : Expr} {p apos pos : Pos} {l : Addr} {vs : List Value} {n : Nat} (S : St k s₀ H L m σ s) (hv : m x = some (.ref l)) (hl : (l, lst vs n) ∈ σ)
    (hc : (env.scope.kind == .function && env.scope.names.lookup x == some .local && !(x == ("__debug__" : Str))) = true) (hline : (apos.endLine == pos.line) = true)
    (h : wpAny (model prog w) A (eval e env) (fun v s₂ => wpAny (model prog w) A (call (.builtin "list.append") [.ref l, v]) Q E s₂) E s) (hL : env.locals = L := by with_unfolding_all rfl)
    (hbase : attributeBase (.Name x p) (Str.ofString "append") env (eval (.Name x p) env) = eval (.Name x p) env := by with_unfolding_all rfl) (hs : starEach [e] env = [(false, eval e env)] := by with_unfolding_all rfl) :
    wpAny (model prog w) A (eval (.Call (.Attribute (.Name x p) (Str.ofString "append") apos) [e] [] pos) env) Q E s := by
  refine Call_method1 hbase hs hline (r_loc S hv ?_ hc hL)
  have ho := S.get hl
  refine ⟨"list", "list.append", F.plainAttrs_list, F.slot_list_append, F.type_list_append, ⟨_, ho, rfl⟩, fun a e => ?_, ?_⟩
  · cases e; exact ⟨_, ho, rfl⟩
  · exact Calls.callWith_builtin rfl (Calls.evalArgs_plain (Calls.spliced_cons (wpAny_mono h (fun y s₂ h₂ => Calls.spliced_nil h₂) fun _ _ e => e)))
theorem r_append {l : Addr} {vs : List Value} {n : Nat} {v : Value} {σ₁ σ₂ : List (Addr × Obj)} (S : St k s₀ H L m (σ₁ ++ (l, lst vs n) :: σ₂) s) (hz : vs.length ≤ sizeLine)
    (h : ∀ s', St k s₀ H L m (σ₁ ++ (l, lst (vs ++ [v]) (n + 1)) :: σ₂) s' → Q .none s') : wpAny (model prog w) A (call (.builtin "list.append") [.ref l, v]) Q E s := by
  have hget := S.get (a := l) (o := lst vs n) (by simp)
  refine call_meets F.slot_list_append ⟨_, hget, rfl⟩ F.entry_list_append (F.args_list_append_2 _ _) (list_append l vs.toArray n v (by simpa using hz)) ⟨hget, h _ (S.turn (tk := s.toks) (fun b x hb e => ?_) ?_)⟩
  · rw [Heap.get?_update_other _ _ (Ne.symm hb)]; exact e
  · rw [← mapSeq_push]; exact Heap.get?_update_self _ hget rfl
theorem r_append0 {l : Addr} {vs : List Value} {n : Nat} {v : Value} (S : St k s₀ H L m ((l, lst vs n) :: σ) s) (hz : vs.length ≤ sizeLine)
    (h : ∀ s', St k s₀ H L m ((l, lst (vs ++ [v]) (n + 1)) :: σ) s' → Q .none s') : wpAny (model prog w) A (call (.builtin "list.append") [.ref l, v]) Q E s := r_append (σ₁ := []) S hz h
theorem r_append1 {l : Addr} {vs : List Value} {n : Nat} {v : Value} {p : Addr × Obj} (S : St k s₀ H L m (p :: (l, lst vs n) :: σ) s) (hz : vs.length ≤ sizeLine)
    (h : ∀ s', St k s₀ H L m (p :: (l, lst (vs ++ [v]) (n + 1)) :: σ) s' → Q .none s') : wpAny (model prog w) A (call (.builtin "list.append") [.ref l, v]) Q E s := r_append (σ₁ := [p]) S hz h
/-- a statement that is only reckoned: what it gives is no object -/
def exprK (v : Value) (P : Prop) : Prop := match v with | .ref _ => False | _ => P
theorem exprK_none {P : Prop} (h : P) : exprK .none P := h
theorem exprK_str {P : Prop} {x : Str} {t : Tok} (h : P) : exprK (.str x t) P := h
theorem exprK_bool {P : Prop} {b : Bool} (h : P) : exprK (.bool b) P := h
theorem exprK_int {P : Prop} {i : Int} {t : Tok} (h : P) : exprK (.int i t) P := h
theorem x_expr {e : Expr} {pos : Pos} {rest : List Stmt} {Q : Flow → Shared → Prop} (h : wpAny (model prog w) A (eval e env) (fun v s' => exprK v (wpAny (model prog w) A (execs rest env) Q E s')) E s)
    (hi : interactive env = false := by with_unfolding_all rfl) (hs : swapsWith e none pos.line env = pure false := by with_unfolding_all rfl) : wpAny (model prog w) A (execs (.Expr e pos :: rest) env) Q E s :=
  x_cons (wpAny_Expr (wpAny_mono h (fun v s' h' => by cases v <;> exact h') fun _ _ x => x) hi hs)

-- slices of texts
def sl (x : Str) (l u : Option Int) : Str := Txt.slice x l u
theorem kbp : KeptByPush (St k s₀ H L m σ) := fun s ob n S => (S.kp (Kp.push s ob)).kp (Kp.tok _ n)
def SlUp (k : Bool) (s₀ : Shared) (H : Addr → Obj → Prop) (L : Addr) (Q : Value → Shared → Prop) (o u : Value) (s₂ : Shared) : Prop :=
  ∃ x t j tj m σ, o = .str x t ∧ u = .int j tj ∧ x.length ≤ sizeLine ∧ St k s₀ H L m σ s₂ ∧ ∀ t' s', St k s₀ H L m σ s' → Q (.str (sl x none (some j)) t') s'
theorem SlUp.mk {x : Str} {t tj : Tok} {j : Int} (S : St k s₀ H L m σ s) (hz : x.length ≤ sizeLine) (h : ∀ t' s', St k s₀ H L m σ s' → Q (.str (sl x none (some j)) t') s') : SlUp k s₀ H L Q (.str x t) (.int j tj) s := ⟨x, t, j, tj, m, σ, rfl, rfl, hz, S, h⟩
def SlLo (k : Bool) (s₀ : Shared) (H : Addr → Obj → Prop) (L : Addr) (Q : Value → Shared → Prop) (o u : Value) (s₂ : Shared) : Prop :=
  ∃ x t j tj m σ, o = .str x t ∧ u = .int j tj ∧ x.length ≤ sizeLine ∧ St k s₀ H L m σ s₂ ∧ ∀ t' s', St k s₀ H L m σ s' → Q (.str (sl x (some j) none) t') s'
theorem SlLo.mk {x : Str} {t tj : Tok} {j : Int} (S : St k s₀ H L m σ s) (hz : x.length ≤ sizeLine) (h : ∀ t' s', St k s₀ H L m σ s' → Q (.str (sl x (some j) none) t') s') : SlLo k s₀ H L Q (.str x t) (.int j tj) s := ⟨x, t, j, tj, m, σ, rfl, rfl, hz, S, h⟩
theorem e_slice_ns {value up : Expr} {p pos : Pos} (_S : St k s₀ H L m σ s)
    (h : wpAny (model prog w) A (eval value env) (fun o s₁ => wpAny (model prog w) A (eval up env) (fun u s₂ => SlUp k s₀ H L Q o u s₂) E s₁) E s)
    (ht : ∀ o r, letTemporaryGo value o r = pure () := by intro _ _; with_unfolding_all rfl) : wpAny (model prog w) A (eval (.Subscript value (.Slice none (some up) none p) pos) env) Q E s := by
  refine Subscript_Slice (wpAny_mono h (fun o s₁ h₁ => wpAny_Slice (evalPart_none_step (evalPart_some_step (wpAny_mono h₁ (fun u s₂ h₂ => evalPart_none_step ?_) fun _ _ x => x)))) fun _ _ x => x) ht
  obtain ⟨x, t, j, tj, m, σ, rfl, rfl, hz, S, hq⟩ := h₂
  exact SBG.sliceItem_ns kbp S (fun s' t' S' => hq t' s' S') hz
theorem e_slice_sn {value lo : Expr} {p pos : Pos} (_S : St k s₀ H L m σ s)
    (h : wpAny (model prog w) A (eval value env) (fun o s₁ => wpAny (model prog w) A (eval lo env) (fun u s₂ => SlLo k s₀ H L Q o u s₂) E s₁) E s)
    (ht : ∀ o r, letTemporaryGo value o r = pure () := by intro _ _; with_unfolding_all rfl) : wpAny (model prog w) A (eval (.Subscript value (.Slice (some lo) none none p) pos) env) Q E s := by
  refine Subscript_Slice (wpAny_mono h (fun o s₁ h₁ => wpAny_Slice (evalPart_some_step (wpAny_mono h₁ (fun u s₂ h₂ => evalPart_none_step (evalPart_none_step ?_)) fun _ _ x => x))) fun _ _ x => x) ht
  obtain ⟨x, t, j, tj, m, σ, rfl, rfl, hz, S, hq⟩ := h₂
  exact SBG.sliceItem_sn kbp S (fun s' t' S' => hq t' s' S') hz

-- ranges
theorem range_size (n : Int) : Builtin.Range.rangeSize 0 n 1 = (n.toNat : Int) := by rw [rangeSize_one]; split <;> omega
theorem e_list_range {n : Int} {t : Tok} (S : St k s₀ H L m σ s) (hh : A.handled = none) (h0 : 0 ≤ n) (hz : n ≤ 2 ^ 24)
    (h : ∀ a vs c s', vs.length = n.toNat → (∀ i, i < n.toNat → ∃ t, vs[i]? = some (.int i t)) → s.heap.get? a = none → St k s₀ H L m ((a, lst vs c) :: σ) s' → Q (.ref a) s') :
    wpAny (model prog w) A (call (.type "range") [.int n t]) (fun xv s₁ => wpAny (model prog w) A (call (.type "list") [xv]) Q E s₁) E s := by
  refine call_range_1 (call_list_range (n := n.toNat) hh (IsRange.new ..) (small_one (by decide) (by decide) (by omega) (by omega)) (range_size n) (by omega) fun h' tk acc' c' hk hg hI => ?_)
  have hnone : ∀ b, s.heap.objs.size ≤ b → s.heap.get? b = none := fun b hb => by
    cases e : s.heap.get? b with
    | none => rfl
    | some o => exact absurd (Heap.lt_size e) (Nat.not_lt.mpr hb)
  have kp : Kp s { s with heap := h', toks := tk } := Kp.mk' fun b o e => hk b o (Heap.get?_push_of_some _ e)
  refine h _ acc'.toList c' _ ?_ ?_ (hnone _ (by simp [Heap.size_push])) (S.add kp (hnone _ (by simp [Heap.size_push])) (by simpa using hg))
  · simpa using hI.1
  · intro i hi
    have hi' : i < acc'.size := by rw [hI.1]; exact hi
    obtain ⟨t, ht⟩ := hI.2 i acc'[i] (by simp [hi'])
    refine ⟨t, ?_⟩
    have : acc'.toList[i]? = some acc'[i] := by simp [hi']
    rw [this, ht]; simp
end
end Mine
end
section
open PySem PyProof.Rows
set_option Elab.async false
namespace Mine
section
variable {k : Bool} {prog : Program} {w : World} {A : Around} {E : Value → Shared → Prop} {s₀ s : Shared} {H : Addr → Obj → Prop} {L : Addr} {m : Str → Option Value} {σ : List (Addr × Obj)} {env : Env}
  {KK : Addr → Obj → Prop} {mg mb : Str → Option Value} {q : Str} {sc : Scope} {f : Addr} {cd : Value} {Q : Value → Shared → Prop}

theorem get_size_none (h : Heap) : h.get? h.objs.size = none := by
  cases e : h.get? h.objs.size with
  | none => rfl
  | some o => exact absurd (Heap.lt_size e) (Nat.lt_irrefl _)
theorem St.notNew (S : St k s₀ H L m σ s) {b : Addr} (hb : s.heap.get? b = none) : b ≠ L ∧ b ∉ σ.map (·.1) ∧ ∀ o, ¬ H b o := by
  refine ⟨fun e => ?_, fun hm => ?_, fun o e => ?_⟩
  · obtain ⟨o, _, _, ho, _⟩ := S.ns; rw [← e, hb] at ho; cases ho
  · obtain ⟨p, hp, e⟩ := List.mem_map.mp hm; have := (S.own p hp).1; rw [e, hb] at this; cases this
  · have := S.keep _ _ e; rw [hb] at this; cases this

/-- a statement for: what is looked over comes first -/
theorem x_for {target iter : Expr} {body rest : List Stmt} {pos : Pos} {Q : Flow → Shared → Prop}
    (h : wpAny (model prog w) A (eval iter env) (fun x s₁ => wpAny (model prog w) A (pyIter x) (fun it s₂ =>
      codeAny (model prog w) A (.forLoop target it body [] env) (fun r s' => match r with | .ok f => thenK prog w A rest env Q E f s' | .error e => cameBackBy (model prog w) A env E e s') s₂) E s₁) E s)
    (hs : ∀ x, foldedSetIterable iter env x = pure x := by intro _; rfl) : wpAny (model prog w) A (execs (.For target iter body [] pos :: rest) env) Q E s :=
  x_cons (wpAny_For h hs)

theorem for_str {x : Str} {t : Tok} {v : Str} {pv : Pos} {body : List Stmt} {Q : Flow → Shared → Prop} (J : Nat → (Str → Option Value) → List (Addr × Obj) → Prop)
    (S : St true s₀ H L m σ s) (hh : A.handled = none) (h0 : J 0 m σ) (hc : (sc.kind == .function && sc.names.lookup v == some .local) = true)
    (turn : ∀ (E' : Value → Shared → Prop) i m' σ' s' c t Hb, i < x.length → x.cps.toList[i]? = some c → J i m' σ' → (∀ b o, H b o → Hb b o) → St true s₀ Hb L (upd m' v (.str ⟨#[c]⟩ t)) σ' s' →
      wpAny (model prog w) A (execs body (envOf q sc L f cd)) (turnK (J (i + 1)) s₀ Hb L Q) E' s')
    (done : ∀ m' σ' s', J x.length m' σ' → St true s₀ H L m' σ' s' → Q .next s') :
    wpAny (model prog w) A (pyIter (.str x t)) (fun it s₂ => codeAny (model prog w) A (.forLoop (.Name v pv) it body [] (envOf q sc L f cd))
      (fun r s' => match r with | .ok f => Q f s' | .error e => cameBackBy (model prog w) A (envOf q sc L f cd) E e s') s₂) E s := by
  simp only [Bool.and_eq_true, beq_iff_eq] at hc
  have hn := get_size_none s.heap
  have nn := S.notNew hn
  have go : ∀ (ty : String) (o : Obj), Walks prog w A s.heap.objs.size [s.heap.objs.size] [s.heap.objs.size] x.cps.size (SignAt x) (fun i h => h.IsStrIter s.heap.objs.size ty x t i) →
      (s.heap.push o).IsStrIter s.heap.objs.size ty x t 0 → codeAny (model prog w) A (.forLoop (.Name v pv) (.ref s.heap.objs.size) body [] (envOf q sc L f cd))
      (fun r s' => match r with | .ok f => Q f s' | .error e => cameBackBy (model prog w) A (envOf q sc L f cd) E e s') { s with heap := s.heap.push o } := by
    intro ty o W hT
    refine forLoop_St W ?_ J (S.kp (Kp.push s o)) hT ?_ ?_ h0 hc.1 hc.2 (fun E' i m' σ' s' v' Hb hi hJ hP hb S₂ => ?_) done (fun _ _ h => h)
    · intro i h hTi b hb
      rcases List.mem_cons.mp hb with rfl | hb
      · obtain ⟨o, ho, _⟩ := hTi; exact ⟨o, ho⟩
      · cases hb
    · intro b hb; rcases List.mem_cons.mp hb with rfl | hb
      · exact ⟨nn.1, nn.2.1⟩
      · cases hb
    · intro b hb; rcases List.mem_cons.mp hb with rfl | hb
      · exact nn.2.2
      · cases hb
    · obtain ⟨c, u, hc', rfl⟩ := hP
      exact turn E' i m' σ' s' c u Hb hi (by simpa using hc') hJ hb S₂
  cases ha : x.cps.all (· < 128)
  · exact wpAny_pyIter_wide ha (go _ _ (Walks.strWide hh _ x t) ⟨_, Heap.get?_push_size _ rfl, rfl, rfl⟩)
  · exact wpAny_pyIter_ascii ha (go _ _ (Walks.strAscii hh _ x t) ⟨_, Heap.get?_push_size _ rfl, rfl, rfl⟩)

/-- for v in range(n) -/
theorem for_range {n : Int} {t : Tok} {v : Str} {pv : Pos} {body : List Stmt} {Q : Flow → Shared → Prop} (J : Nat → (Str → Option Value) → List (Addr × Obj) → Prop)
    (S : St true s₀ H L m σ s) (hh : A.handled = none) (hn0 : -(2 ^ 62) ≤ n) (hn1 : n < 2 ^ 62) (h0 : J 0 m σ) (hc : (sc.kind == .function && sc.names.lookup v == some .local) = true)
    (turn : ∀ (E' : Value → Shared → Prop) i m' σ' s' t Hb, i < n.toNat → J i m' σ' → (∀ b o, H b o → Hb b o) → St true s₀ Hb L (upd m' v (.int i t)) σ' s' →
      wpAny (model prog w) A (execs body (envOf q sc L f cd)) (turnK (J (i + 1)) s₀ Hb L Q) E' s')
    (done : ∀ m' σ' s', J n.toNat m' σ' → St true s₀ H L m' σ' s' → Q .next s') :
    wpAny (model prog w) A (call (.type "range") [.int n t]) (fun xv s₁ => wpAny (model prog w) A (pyIter xv) (fun it s₂ => codeAny (model prog w) A (.forLoop (.Name v pv) it body [] (envOf q sc L f cd))
      (fun r s' => match r with | .ok f => Q f s' | .error e => cameBackBy (model prog w) A (envOf q sc L f cd) E e s') s₂) E s₁) E s := by
  simp only [Bool.and_eq_true, beq_iff_eq] at hc
  refine call_range_1 (wpAny_pyIter_range (IsRange.new ..) (small_one (by decide) (by decide) hn0 hn1) ?_)
  have S1 : St true s₀ H L m σ { s with heap := s.heap.push { cls := .type "range", data := .fields #[.int 0 s.toks, .int n t, .int 1 (s.toks + 1)] }, toks := s.toks + 1 + 1 } := (S.kp (Kp.push s _)).kp (Kp.tok _ _)
  have nn := S1.notNew (get_size_none _)
  refine forLoop_St (Walks.range hh _ 0 1 n.toNat) ?_ J (S1.kp (Kp.push _ _)) ?_ ?_ ?_ h0 hc.1 hc.2 (fun E' i m' σ' s' v' Hb hi hJ hP hb S₂ => ?_) done (fun _ _ h => h)
  · intro i h hTi b hb
    rcases List.mem_cons.mp hb with rfl | hb
    · exact ⟨_, hTi⟩
    · cases hb
  · have e1 : (0 + ((0 : Nat) : Int) * 1) = 0 := by simp
    have e2 : ((n.toNat : Int) - ((0 : Nat) : Int)) = Builtin.Range.rangeSize 0 n 1 := by rw [range_size]; simp
    show IsRangeIter _ _ (0 + ((0 : Nat) : Int) * 1) ((n.toNat : Int) - ((0 : Nat) : Int)) 1
    rw [e1, e2]
    exact Heap.get?_push_size _ rfl
  · intro b hb; rcases List.mem_cons.mp hb with rfl | hb
    · exact ⟨nn.1, nn.2.1⟩
    · cases hb
  · intro b hb; rcases List.mem_cons.mp hb with rfl | hb
    · exact nn.2.2
    · cases hb
  · obtain ⟨u, rfl⟩ := hP
    refine turn E' i m' σ' s' u Hb hi hJ hb ?_
    simpa using S₂

/-- for v in a list that stays -/
theorem for_list {a : Addr} {vs : List Value} {n : Nat} {v : Str} {pv : Pos} {body : List Stmt} {Q : Flow → Shared → Prop} (J : Nat → (Str → Option Value) → List (Addr × Obj) → Prop)
    (S : St true s₀ H L m σ s) (hH : H a (lst vs n)) (hh : A.handled = none) (h0 : J 0 m σ) (hc : (sc.kind == .function && sc.names.lookup v == some .local) = true)
    (turn : ∀ (E' : Value → Shared → Prop) i m' σ' s' x Hb, i < vs.length → vs[i]? = some x → J i m' σ' → (∀ b o, H b o → Hb b o) → St true s₀ Hb L (upd m' v x) σ' s' →
      wpAny (model prog w) A (execs body (envOf q sc L f cd)) (turnK (J (i + 1)) s₀ Hb L Q) E' s')
    (done : ∀ m' σ' s', J vs.length m' σ' → St true s₀ H L m' σ' s' → Q .next s') :
    wpAny (model prog w) A (pyIter (.ref a)) (fun it s₂ => codeAny (model prog w) A (.forLoop (.Name v pv) it body [] (envOf q sc L f cd))
      (fun r s' => match r with | .ok f => Q f s' | .error e => cameBackBy (model prog w) A (envOf q sc L f cd) E e s') s₂) E s := by
  simp only [Bool.and_eq_true, beq_iff_eq] at hc
  have hl := isL (S.keep _ _ hH)
  refine wpAny_pyIter_list hl ?_
  have nn := S.notNew (get_size_none s.heap)
  have hne : a ≠ s.heap.objs.size := fun e => nn.2.2 _ (e ▸ hH)
  have haL : a ≠ L := fun e => S.keepL rfl _ (e ▸ hH)
  have haσ : a ∉ σ.map (·.1) := fun hm => by obtain ⟨p, hp, e⟩ := List.mem_map.mp hm; exact (S.own p hp).2.2 _ (e ▸ hH)
  have W := Walks.list (prog := prog) (w := w) (A := A) hh s.heap.objs.size a hne vs.toArray
  rw [List.size_toArray] at W
  refine forLoop_St W ?_ J (S.kp (Kp.push s _)) ⟨⟨_, Heap.get?_push_size _ rfl, rfl, rfl⟩, hl.push _⟩ ?_ ?_ h0 hc.1 hc.2 (fun E' i m' σ' s' v' Hb hi hJ hP hb S₂ => turn E' i m' σ' s' v' Hb hi (by simpa using hP) hJ hb S₂) done (fun _ _ h => h)
  · intro i h hTi b hb
    rcases List.mem_cons.mp hb with rfl | hb
    · obtain ⟨⟨o, ho, _⟩, _⟩ := hTi; exact ⟨o, ho⟩
    · rcases List.mem_cons.mp hb with rfl | hb
      · obtain ⟨_, o, ho, _⟩ := hTi; exact ⟨o, ho⟩
      · cases hb
  · intro b hb; rcases List.mem_cons.mp hb with rfl | hb
    · exact ⟨nn.1, nn.2.1⟩
    · rcases List.mem_cons.mp hb with rfl | hb
      · exact ⟨haL, haσ⟩
      · cases hb
  · intro b hb; rcases List.mem_cons.mp hb with rfl | hb
    · exact nn.2.2
    · cases hb

/-- a, b = e -/
def UnpK (prog : Program) (w : World) (A : Around) (x1 x2 : Str) (rest : List Stmt) (env : Env) (Q : Flow → Shared → Prop) (E : Value → Shared → Prop) (s₀ : Shared) (H : Addr → Obj → Prop) (L : Addr) (v : Value) (s₁ : Shared) : Prop :=
  ∃ T v1 v2 m σ, v = .ref T ∧ A.handled = none ∧ IsTup s₁.heap T #[v1, v2] ∧ St true s₀ H L m σ s₁ ∧ ∀ s₂, St true s₀ H L (upd (upd m x1 v1) x2 v2) σ s₂ → wpAny (model prog w) A (execs rest env) Q E s₂
theorem UnpK.mk {x1 x2 : Str} {rest : List Stmt} {Q : Flow → Shared → Prop} {T : Addr} {v1 v2 : Value} (S : St true s₀ H L m σ s) (hh : A.handled = none) (hT : (T, tup [v1, v2]) ∈ σ)
    (h : ∀ s₂, St true s₀ H L (upd (upd m x1 v1) x2 v2) σ s₂ → wpAny (model prog w) A (execs rest env) Q E s₂) : UnpK prog w A x1 x2 rest env Q E s₀ H L (.ref T) s :=
  ⟨T, v1, v2, m, σ, rfl, hh, ⟨_, S.get hT, rfl, 0, rfl⟩, S, h⟩
theorem x_unpack2 {x1 x2 : Str} {p1 p2 tp pos : Pos} {kk : Nat} {e : Expr} {rest : List Stmt} {Q : Flow → Shared → Prop} (_S : St true s₀ H L m σ s)
    (h : wpAny (model prog w) A (eval e env) (fun v s₁ => UnpK prog w A x1 x2 rest env Q E s₀ H L v s₁) E s)
    (hc : (env.scope.kind == .function && env.scope.names.lookup x1 == some .local && env.scope.names.lookup x2 == some .local) = true)
    (hL : env.locals = L := by with_unfolding_all rfl) (hs : swapsWithSole [.Tuple [.Name x1 p1, .Name x2 p2] kk tp] e pos.line env = pure false := by with_unfolding_all rfl)
    (hw : swappedStores [.Tuple [.Name x1 p1, .Name x2 p2] kk tp] e env = pure none := by with_unfolding_all rfl) :
    wpAny (model prog w) A (execs (.Assign [.Tuple [.Name x1 p1, .Name x2 p2] kk tp] e pos :: rest) env) Q E s := by
  subst hL
  simp only [Bool.and_eq_true, beq_iff_eq] at hc
  refine x_cons (Assign_Tuple (wpAny_mono h (fun v s₁ h₁ => ?_) fun _ _ x => x) hs hw)
  obtain ⟨T, v1, v2, m, σ, rfl, hh, hT, S, hq⟩ := h₁
  refine assign_Tuple_tuple hh hT rfl rfl fun h' he => ?_
  have kp : Kp s₁ { s₁ with heap := h' } := ⟨⟨rfl, rfl, rfl⟩, fun b o e => he b o (Nat.ne_of_lt (Heap.lt_size e)) e⟩
  have S1 := S.kp kp
  have hp : (env.scope.kind == .class || (env.scope.kind == .module && env.locals != env.globals)) = false := by rw [hc.1.1]; rfl
  show wpAny _ _ (assignInOrder [assign (.Name x1 p1) env, assign (.Name x2 p2) env] [v1, v2]) _ _ _
  refine assignInOrder_cons (PyProof.Rows.assign_Name (wpAny_storeName_local hc.1.2 S1.ns (fun h1 hn1 hs1 => ?_) hp))
  have S2 := S1.set (tk := s₁.toks + 1) hn1 hs1
  refine assignInOrder_cons (PyProof.Rows.assign_Name (wpAny_storeName_local hc.2 S2.ns (fun h2 hn2 hs2 => ?_) hp))
  exact assignInOrder_nil (hq _ (S2.set (tk := s₁.toks + 1 + 1) hn2 hs2))
end
end Mine
end
section
open PySem PyProof.Rows
set_option Elab.async false
namespace Mine
theorem Kp.toKeeps {s s' : Shared} (k : Kp s s') : Keeps s s' := ⟨_, _, k.same.eq, k.keep⟩
/-- the code of a one-letter text -/
def codeOf : Value → Nat
  | .str x _ => x.cps.toList.headD 0
  | _ => 0
theorem codes_eq {x : Str} {vs : List Value} (hl : vs.length = x.cps.size) (hP : ∀ j v, vs[j]? = some v → SignAt x j v) : vs.map codeOf = x.cps.toList := by
  apply List.ext_getElem?
  intro j
  rw [List.getElem?_map]
  cases hj : vs[j]? with
  | none =>
    have : vs.length ≤ j := by simpa using hj
    rw [hl] at this
    exact (List.getElem?_eq_none (by simpa using this)).symm
  | some v =>
    obtain ⟨c, u, hc, rfl⟩ := hP j v hj
    simp [codeOf, hc]
theorem filter_len {x : Str} {vs : List Value} (p : Nat → Bool) (hl : vs.length = x.cps.size) (hP : ∀ j v, vs[j]? = some v → SignAt x j v) : (vs.filter fun v => p (codeOf v)).length = (x.cps.toList.filter p).length := by
  rw [← codes_eq hl hP, List.filter_map, List.length_map]
  rfl

section
variable {k : Bool} {prog : Program} {w : World} {A : Around} {E : Value → Shared → Prop} {s₀ s : Shared} {H : Addr → Obj → Prop} {L : Addr} {m : Str → Option Value} {σ : List (Addr × Obj)} {env : Env}
  {KK : Addr → Obj → Prop} {mg mb : Str → Option Value} {q : Str} {sc : Scope} {f : Addr} {cd : Value} {Q : Value → Shared → Prop}
theorem startR {s : Shared} {C : Addr} {m : Str → Option Value} (h : s.heap.Ns C m) : St false s (fun b o => s.heap.get? b = some o) C m [] s :=
  ⟨Same.refl s, h, fun _ _ e => e, (fun e => nomatch e), (fun p hp => (List.not_mem_nil hp).elim), List.nodup_nil⟩

/-- [elt for v in text if test]: how many there are -/
theorem e_comp_str {elt iter test : Expr} {v : Str} {pv : Pos} {scope : Scope} {pos : Pos} (p : Nat → Bool) (hclos : closureFor scope env = pure []) (hcell : ∀ y ∈ scope.names, y.2 ≠ .cell) (hkind : scope.kind = .function)
    (hnames : ∀ y ∈ scope.names, y.2 = .local → scope.names.lookup y.1 = some .local) (hx : scope.names.lookup v = some .local)
    (h : wpAny (model prog w) A (eval iter env) (fun xv s₁ => ∃ x t m σ, xv = .str x t ∧ x.length ≤ sizeLine ∧ A.handled = none ∧ St k s₀ H L m σ s₁ ∧
      (∀ E' C c u m₃ s₃, (∀ b o, H b o → s₃.heap.get? b = some o) → c ∈ x.cps.toList → St false s₃ (fun b o => s₃.heap.get? b = some o) C m₃ [] s₃ → m₃ v = some (.str ⟨#[c]⟩ u) →
        wpAny (model prog w) A (isTrue test (compEnvC scope [] C env) (eval test (compEnvC scope [] C env))) (fun ok s₄ => ok = p c ∧ Kp s₃ s₄) E' s₃) ∧
      (∀ E' C c u m₃ s₃, (∀ b o, H b o → s₃.heap.get? b = some o) → c ∈ x.cps.toList → St false s₃ (fun b o => s₃.heap.get? b = some o) C m₃ [] s₃ → m₃ v = some (.str ⟨#[c]⟩ u) →
        wpAny (model prog w) A (eval elt (compEnvC scope [] C env)) (fun _ s₄ => Kp s₃ s₄) E' s₃) ∧
      (∀ D ys n s', s₁.heap.get? D = none → ys.length = (x.cps.toList.filter p).length → St k s₀ H L m ((D, lst ys n) :: σ) s' → Q (.ref D) s')) E s)
    (hs : ∀ x, foldedSetIterable iter env x = pure x := by intro _; rfl) :
    wpAny (model prog w) A (eval (.ListComp elt [⟨.Name v pv, iter, [test], 0⟩] scope pos) env) Q E s := by
  refine wpAny_ListComp_free (fun v => p (codeOf v)) (fun _ _ => True) hclos hcell hkind hnames hx (wpAny_mono h (fun xv s₁ h₁ => ?_) fun _ _ e => e) hs
  obtain ⟨x, t, m, σ, rfl, hz, hh, S, htest, helt, hQ⟩ := h₁
  have nn := S.notNew (get_size_none s₁.heap)
  refine wpAny_pyIter_str fun o Ti W hT => ?_
  have keepH : ∀ s₃ : Shared, (∀ b o', b ∉ [s₁.heap.objs.size] → (s₁.heap.push o).get? b = some o' → s₃.heap.get? b = some o') → ∀ b o', H b o' → s₃.heap.get? b = some o' := fun s₃ hk b o' e =>
    hk b o' (fun hm => by rcases List.mem_cons.mp hm with rfl | hm; exact nn.2.2 _ e; cases hm) (Heap.get?_push_of_some _ (S.keep _ _ e))
  refine ⟨_, _, _, _, _, Ti, rfl, W A hh, by simpa [Str.length] using hz, hT, ?_, ⟨?_, ?_⟩, ?_⟩
  · intro b hb
    rcases List.mem_cons.mp hb with rfl | hb
    · show _ < (s₁.heap.push o).objs.size; rw [Heap.size_push]; exact Nat.lt_succ_self _
    · cases hb
  · intro C i v' s₃ m₃ E' _ hP hn hm hk _
    obtain ⟨c, u, hc, rfl⟩ := hP
    refine wpAny_tests_one (wpAny_mono (htest E' C c u m₃ s₃ (keepH s₃ hk) (Array.mem_toList_iff.mpr (Array.mem_of_getElem? hc)) (startR hn) hm) (fun ok s₄ h₄ => ⟨?_, h₄.2.toKeeps⟩) fun _ _ e => e)
    simpa [codeOf] using h₄.1
  · intro C i v' s₃ m₃ E' _ hP _ hn hm hk _
    obtain ⟨c, u, hc, rfl⟩ := hP
    exact wpAny_mono (helt E' C c u m₃ s₃ (keepH s₃ hk) (Array.mem_toList_iff.mpr (Array.mem_of_getElem? hc)) (startR hn) hm) (fun _ s₄ h₄ => ⟨trivial, h₄.toKeeps⟩) fun _ _ e => e
  · intro D h' tk ys vs hD _ hpl hlen hP hF hk
    obtain ⟨n, hpl⟩ := hpl
    have kp : Kp s₁ { s₁ with heap := h', toks := tk } := Kp.mk' fun b o' e => hk b o' (fun hm => by
      rcases List.mem_cons.mp hm with rfl | hm
      · rw [get_size_none] at e; cases e
      · cases hm) (Heap.get?_push_of_some _ e)
    have hD' : s₁.heap.get? D = none := by
      cases e : s₁.heap.get? D with
      | none => rfl
      | some o' => rw [show (s₁.heap.push o).get? D = some o' from Heap.get?_push_of_some _ e] at hD; cases hD
    refine hQ D ys.toList n _ hD' ?_ (S.add kp hD' (by simpa using hpl))
    rw [← hF.length, filter_len p hlen hP]

/-- a list compared with an empty one -/
theorem r_eq_nil {a b : Addr} {vs ws : List Value} (hl : s.heap.IsList a vs.toArray) (hb : s.heap.IsList b ws.toArray) (hw : ws = []) (hu : A.units < cLine) (h : Q (.bool (vs.length == 0)) s) : wpAny (model prog w) A (compareOp .Eq (.ref a) (.ref b)) Q E s := by
  subst hw
  by_cases hz : vs.length = 0
  · refine SeqAt.eq_listAt (e := fun _ => true) hl hb (by simp [hz]) hu (fun j h1 _ => ?_) ?_
    · simp [hz] at h1
    · have : vs = [] := List.length_eq_zero_iff.mp hz
      subst this; simpa using h
  · refine SeqAt.eq_list_lengthsAt hl hb (by simpa using hz) hu ?_
    rw [show (vs.length == 0) = false by simpa using hz] at h; exact h
theorem Rm.line {A : Around} {n : Nat} (r : Rm A n) : A.units < cLine := by have := r.un; show A.units < 9900; omega
end
end Mine
end
section
open PySem PyProof.Rows PySem.Builtin PySem.Builtin.Str
set_option Elab.async false
namespace Mine
/-- the letters' numbers of a text -/
abbrev cl (x : Str) : List Nat := x.cps.toList
theorem cl_length (x : Str) : (cl x).length = x.length := by simp [cl, Str.length]
theorem ext_cl {x y : Str} (h : cl x = cl y) : x = y := by
  obtain ⟨⟨a⟩⟩ := x; obtain ⟨⟨b⟩⟩ := y
  simp only [cl] at h; subst h; rfl
theorem cl_append (x y : Str) : cl (x ++ y) = cl x ++ cl y := by
  obtain ⟨a⟩ := x; obtain ⟨b⟩ := y
  show (a ++ b).toList = _
  simp [cl]
theorem cl_one (c : Nat) : cl ⟨#[c]⟩ = [c] := rfl

theorem clip_none (n : Nat) : strSliceIndices none none 1 n = (List.range n).map (0 + ·) := by
  show sliceRange (((0 : Nat) : Int)) ((n : Nat) : Int) 1 = _
  rw [sliceRange_one]; simp
theorem idx_take (j : Int) (n : Nat) (h0 : 0 ≤ j) : strSliceIndices none (some j) 1 n = (List.range (min j.toNat n)).map (0 + ·) := by
  have e : strSliceIndices none (some j) 1 n = sliceRange ((0 : Nat) : Int) ((min j.toNat n : Nat) : Int) 1 := by
    unfold strSliceIndices
    have h1 : ¬ j < 0 := by omega
    simp only [show ((1 : Int) > 0) = True from by simp, if_true, h1, if_false]
    congr 1
    omega
  rw [e, sliceRange_one]; simp
theorem idx_drop (j : Int) (n : Nat) (h0 : 0 ≤ j) : strSliceIndices (some j) none 1 n = (List.range (n - min j.toNat n)).map ((min j.toNat n) + ·) := by
  have e : strSliceIndices (some j) none 1 n = sliceRange ((min j.toNat n : Nat) : Int) ((n : Nat) : Int) 1 := by
    unfold strSliceIndices
    have h1 : ¬ j < 0 := by omega
    simp only [show ((1 : Int) > 0) = True from by simp, if_true, h1, if_false]
    congr 1
    omega
  rw [e, sliceRange_one]
theorem sl_take (x : Str) (j : Int) (h0 : 0 ≤ j) : cl (sl x none (some j)) = (cl x).take j.toNat := by
  unfold sl Txt.slice
  rw [idx_take j _ h0]
  split
  · rename_i h
    simp only [Bool.and_eq_true, beq_iff_eq, List.length_map, List.length_range, true_and] at h
    rw [List.take_of_length_le (by rw [cl_length]; omega)]
  · show (List.filterMap _ _).toArray.toList = _
    rw [pick_run]
    show (List.drop 0 (cl x)).take _ = _
    rw [List.drop_zero]
    apply List.ext_getElem?
    intro i
    rw [List.getElem?_take, List.getElem?_take]
    by_cases h1 : i < j.toNat
    · by_cases h2 : i < x.length
      · rw [if_pos (by omega), if_pos h1]
      · rw [if_neg (by omega), if_pos h1]
        exact (List.getElem?_eq_none (by rw [cl_length]; omega)).symm
    · rw [if_neg (by omega), if_neg h1]
theorem sl_drop (x : Str) (j : Int) (h0 : 0 ≤ j) : cl (sl x (some j) none) = (cl x).drop j.toNat := by
  unfold sl Txt.slice
  rw [idx_drop j _ h0]
  split
  · rename_i h
    simp only [Bool.and_eq_true, beq_iff_eq, List.length_map, List.length_range, true_and] at h
    by_cases hz : j.toNat = 0
    · rw [hz, List.drop_zero]
    · have : x.length = 0 := by omega
      have : cl x = [] := List.length_eq_zero_iff.mp (by rw [cl_length]; exact this)
      rw [this]; simp
  · show (List.filterMap _ _).toArray.toList = _
    rw [pick_run]
    show (List.drop _ (cl x)).take _ = _
    by_cases h1 : j.toNat ≤ x.length
    · rw [Nat.min_eq_left h1, List.take_of_length_le (by rw [List.length_drop, cl_length]; omega)]
    · rw [Nat.min_eq_right (by omega), Nat.sub_self, List.take_zero, List.drop_of_length_le (by rw [cl_length]; omega)]

theorem idx_rev (n : Nat) : strSliceIndices none none (-1) n = (List.range n).reverse := by
  show sliceRange ((n : Int) - 1) (-1) (-1) = _
  rw [PySem.W.krv_sliceRange, PySem.W.krv_range]
section
variable {k : Bool} {prog : Program} {w : World} {A : Around} {E : Value → Shared → Prop} {s₀ s : Shared} {H : Addr → Obj → Prop} {L : Addr} {m : Str → Option Value} {σ : List (Addr × Obj)} {env : Env}
  {Q : Value → Shared → Prop}
def SlRev (k : Bool) (s₀ : Shared) (H : Addr → Obj → Prop) (L : Addr) (Q : Value → Shared → Prop) (o u : Value) (s₂ : Shared) : Prop :=
  ∃ x t tj m σ, o = .str x t ∧ u = .int (-1) tj ∧ x.length ≤ sizeLine ∧ St k s₀ H L m σ s₂ ∧ ∀ t' y s', cl y = (cl x).reverse → St k s₀ H L m σ s' → Q (.str y t') s'
theorem SlRev.mk {x : Str} {t tj : Tok} (S : St k s₀ H L m σ s) (hz : x.length ≤ sizeLine) (h : ∀ t' y s', cl y = (cl x).reverse → St k s₀ H L m σ s' → Q (.str y t') s') : SlRev k s₀ H L Q (.str x t) (.int (-1) tj) s := ⟨x, t, tj, m, σ, rfl, rfl, hz, S, h⟩
theorem e_slice_rev {value st : Expr} {p pos : Pos} (_S : St k s₀ H L m σ s)
    (h : wpAny (model prog w) A (eval value env) (fun o s₁ => wpAny (model prog w) A (eval st env) (fun u s₂ => SlRev k s₀ H L Q o u s₂) E s₁) E s)
    (ht : ∀ o r, letTemporaryGo value o r = pure () := by intro _ _; with_unfolding_all rfl) : wpAny (model prog w) A (eval (.Subscript value (.Slice none none (some st) p) pos) env) Q E s := by
  refine wpAny_Subscript_Slice_step (T := "str") F.slot_str_getitem.lookup (wpAny_mono h (fun o s₁ h₁ => wpAny_Slice (evalPart_none_step (evalPart_none_step (evalPart_some_step (wpAny_mono h₁ (fun u s₂ h₂ => ?_) fun _ _ x => x))))) fun _ _ x => x) ht
  obtain ⟨x, t, tj, m, σ, rfl, rfl, hz, S, hq⟩ := h₂
  refine ⟨typeIs_str _ x t, wpAny_getItem_str_slice (l := none) (u := none) (st := some (-1, tj)) ⟨_, Heap.get?_push_size _ rfl, rfl, rfl⟩ rfl ?_⟩
  unfold sliceMade
  have hne : ¬ ((((some ((-1 : Int), tj)).map (·.1)).getD 1 == 1 && (slicePicked x none none (some (-1, tj))).length == x.length) = true) := by simp
  rw [if_neg hne]
  have hpick : (slicePicked x none none (some (-1, tj))).filterMap (x.cps[·]?) = (cl x).reverse := by
    show (strSliceIndices none none (-1) x.length).filterMap (x.cps[·]?) = _
    rw [idx_rev, List.filterMap_reverse]
    congr 1
    have := pick_run x.cps 0 x.length
    simp only [Nat.zero_add, List.map_id', List.drop_zero] at this
    rw [this, List.take_of_length_le (by simp [Str.length])]
  refine ⟨?_, hq _ _ _ ?_ ((S.kp (Kp.push s₂ _)).kp (Kp.tok _ _))⟩
  · show (List.filterMap _ _).toArray.size ≤ sizeLine
    rw [hpick]; simp [cl]; simpa [Str.length] using hz
  · show (List.filterMap _ _).toArray.toList = _
    rw [hpick]
end
def Lets (x : Str) : Prop := ∀ c ∈ cl x, 97 ≤ c ∧ c ≤ 122
theorem Lets.append {x y : Str} (hx : Lets x) (hy : Lets y) : Lets (x ++ y) := fun c hc => by
  rw [cl_append] at hc
  exact (List.mem_append.mp hc).elim (hx c) (hy c)
theorem Lets.up {x : Str} (hx : Lets x) (j : Int) (h0 : 0 ≤ j) : Lets (sl x none (some j)) := fun c hc => by
  rw [sl_take x j h0] at hc; exact hx c (List.mem_of_mem_take hc)
theorem Lets.lo {x : Str} (hx : Lets x) (j : Int) (h0 : 0 ≤ j) : Lets (sl x (some j) none) := fun c hc => by
  rw [sl_drop x j h0] at hc; exact hx c (List.mem_of_mem_drop hc)
theorem Lets.one {c : Nat} (h : 97 ≤ c ∧ c ≤ 122) : Lets ⟨#[c]⟩ := fun d hd => by
  rw [cl_one] at hd; obtain rfl : d = c := by simpa using hd
  exact h
theorem len_up (x : Str) (j : Int) (h0 : 0 ≤ j) : (sl x none (some j)).length = min j.toNat x.length := by rw [← cl_length, sl_take x j h0, List.length_take, cl_length]
theorem len_lo (x : Str) (j : Int) (h0 : 0 ≤ j) : (sl x (some j) none).length = x.length - j.toNat := by rw [← cl_length, sl_drop x j h0, List.length_drop, cl_length]
theorem len_app (x y : Str) : (x ++ y).length = x.length + y.length := by rw [← cl_length, cl_append, List.length_append, cl_length, cl_length]
theorem len_one (c : Nat) : (⟨#[c]⟩ : Str).length = 1 := rfl
end Mine
end
section
open PySem PyProof.Rows
set_option Elab.async false
namespace Mine
section
variable {k : Bool} {prog : Program} {w : World} {A : Around} {E : Value → Shared → Prop} {s₀ s : Shared} {H : Addr → Obj → Prop} {L : Addr} {m : Str → Option Value} {σ : List (Addr × Obj)} {env : Env}
  {Q : Value → Shared → Prop}
theorem isT {h : Heap} {a : Addr} {vs : List Value} (e : h.get? a = some (tup vs)) : IsTup h a vs.toArray := ⟨_, e, rfl, 0, rfl⟩
theorem r_item_tup {value slice : Expr} {a : Addr} {vs : List Value} {i : Int} {u : Tok} {v : Value} (e : s.heap.get? a = some (tup vs)) (h0 : 0 ≤ i) (hi : i < 1000000) (hv : vs[i.toNat]? = some v) (h : Q v s)
    (hs : subscripted slice false (.ref a) (.int i u) = operate [.ref a, .int i u] (getItem (.ref a) (.int i u)) := by with_unfolding_all rfl) (hg : ∀ r, letTemporaryGo value (.ref a) r = pure () := by intro _; with_unfolding_all rfl) :
    wpAny (model prog w) A (subscriptTail value slice (.ref a) (.int i u)) Q E s := by
  have hlt := (List.getElem?_eq_some_iff.mp hv).1
  refine item_tupleL (j := i.toNat) (isT e) (by omega) (by omega) ?_ hv h hs hg
  unfold seqIndex?
  have h1 : ¬ i < 0 := by omega
  have h2 : i < (vs.length : Int) := by omega
  simp [h1, h0, h2]
theorem r_len_tup {a : Addr} {vs : List Value} (S : St k s₀ H L m σ s) (e : s.heap.get? a = some (tup vs)) (hz : vs.length ≤ 1000) (h : ∀ t s', St k s₀ H L m σ s' → Q (.int vs.length t) s') : wpAny (model prog w) A (call (.builtin "len") [.ref a]) Q E s := by
  have := P.len_tuple (prog := prog) (w := w) (A := A) (E := E) (Q := Q) (t := a) (items := vs.toArray) (n := 0) e (by simp; omega)
  simp only [List.size_toArray] at this
  exact this (h _ _ (S.kp (Kp.tok s _)))
theorem mapSeq_clear (vs : List Value) (n : Nat) : ∃ n', (Obj.mapSeq (fun _ => #[]) (lst vs n)) = lst [] n' := ⟨_, rfl⟩
/-- a call of a list's method clear -/
theorem e_clear {x : Str} {p apos pos : Pos} {l : Addr} {vs : List Value} {n : Nat} {σ₁ σ₂ : List (Addr × Obj)} (S : St k s₀ H L m (σ₁ ++ (l, lst vs n) :: σ₂) s) (hv : m x = some (.ref l)) (hz : vs.length ≤ sizeLine)
    (hc : (env.scope.kind == .function && env.scope.names.lookup x == some .local && !(x == ("__debug__" : Str))) = true) (hline : (apos.endLine == pos.line) = true)
    (h : ∀ n' s', St k s₀ H L m (σ₁ ++ (l, lst [] n') :: σ₂) s' → Q .none s') (hL : env.locals = L := by with_unfolding_all rfl)
    (hbase : attributeBase (.Name x p) (Str.ofString "clear") env (eval (.Name x p) env) = eval (.Name x p) env := by with_unfolding_all rfl) :
    wpAny (model prog w) A (eval (.Call (.Attribute (.Name x p) (Str.ofString "clear") apos) [] [] pos) env) Q E s := by
  refine Call_method0 hbase hline (r_loc S hv ?_ hc hL)
  have ho := S.get (a := l) (o := lst vs n) (by simp)
  refine ⟨"list", "list.clear", F.plainAttrs_list, F.slot_list_clear, F.type_list_clear, ⟨_, ho, rfl⟩, fun a e => ?_, ?_⟩
  · cases e; exact ⟨_, ho, rfl⟩
  · obtain ⟨n', hn'⟩ := mapSeq_clear vs n
    refine P.clear_list (items := vs.toArray) (n := n) ho (h n' _ (S.turn (tk := s.toks) (fun b x hb e => ?_) ?_)) (by simpa using hz)
    · rw [Heap.get?_update_other _ _ (Ne.symm hb)]; exact e
    · rw [← hn']; exact Heap.get?_update_self _ ho rfl
theorem x_while (J : Nat → (Str → Option Value) → List (Addr × Obj) → Prop) {test : Expr} {body rest : List Stmt} {pos : Pos} (k : Nat) {Q : Flow → Shared → Prop}
    (S : St true s₀ H L m σ s) (h0 : J k m σ)
    (turn : ∀ (E' : Value → Shared → Prop) k m' σ' s', J k m' σ' → St true s₀ H L m' σ' s' →
      wpAny (model prog w) A (isTrue test env (eval test env)) (fun b s₂ => if b = true then wpAny (model prog w) A (execs body env) (turnW J k s₀ H L (thenK prog w A rest env Q E)) E' s₂ else thenK prog w A rest env Q E .next s₂) E' s') :
    wpAny (model prog w) A (execs (.While test body [] pos :: rest) env) Q E s := x_cons (while_St J S h0 turn)
end
theorem ndec {p : Prop} [Decidable p] (h : p) : (!decide p) = false := by rw [decide_eq_true h]; rfl
theorem ndecT {p : Prop} [Decidable p] (h : ¬ p) : (!decide p) = true := by rw [decide_eq_false h]; rfl
theorem one_eq (c d : Nat) : ((⟨#[c]⟩ : Str).cps.toList == (⟨#[d]⟩ : Str).cps.toList) = decide (c = d) := by
  show ([c] == [d]) = _
  by_cases h : c = d
  · subst h; simp
  · simp [h]
theorem one_ne (c d : Nat) : ((⟨#[c]⟩ : Str).cps.toList != (⟨#[d]⟩ : Str).cps.toList) = !decide (c = d) := by
  rw [bne, one_eq]
theorem getD_of {l : List Nat} {i : Nat} (h : i < l.length) : l[i]? = some (l.getD i 0) := by simp [List.getD, List.getElem?_eq_getElem h]
end Mine
end
section
open PySem PyProof.Rows
set_option Elab.async false
set_option maxRecDepth 100000
namespace Mine
section
variable {prog : Program} {w : World} {A : Around} {E : Value → Shared → Prop} {Q : Value → Shared → Prop} {R : Result → Shared → Prop}
theorem min_args_default (a d : Value) : argsOk "min" ⟨[a], [(Str.ofString "default", d)]⟩ := by unfold argsOk; kernel_rfl
/-- the turns of min over a list of ints, whatever the keywords -/
theorem min_turns {K : List (Str × Value)} {vs : List Value} (num : Nat → Int) (hnum : ∀ (i : Nat) (v : Value), vs[i]? = some v → ∃ t, v = .int (num i) t) (hh : A.handled = none) {a I S : Addr} (haI : a ≠ I) (haS : a ≠ S) (hIS : I ≠ S) :
    ∀ (r j i : Nat) (vb : Value) (c : Nat) (s : Shared), vs.length - (j + 1) = r → j + 1 ≤ vs.length → s.heap.IsListIter I a (j + 1) → s.heap.IsList a vs.toArray → vs[i]? = some vb → (∀ j', j' ≤ j → num i ≤ num j') →
      s.heap.get? S = some (lst [vb, vb] c) →
      (∀ i v h' tk, vs[i]? = some v → (∀ j', j' < vs.length → num i ≤ num j') → (∀ b o, b ≠ I → b ≠ S → s.heap.get? b = some o → h'.get? b = some o) → R (.ok (.ret v)) { s with heap := h', toks := tk }) →
      codeAny (model prog w) A (.builtin "min.loop" ⟨[.ref I, .none, .ref S], K⟩) R s := by
  have hname : (toString "min" ++ toString ".loop" : String) = "min.loop" := by decide
  have W := Walks.list (prog := prog) (w := w) (A := A.in1) hh I a haI vs.toArray
  have hsz : vs.toArray.size = vs.length := List.size_toArray ..
  intro r
  induction r with
  | zero =>
    intro j i vb c s hr hj hit hl hvb hbest hS hR
    have hin : j + 1 = vs.toArray.size := by omega
    refine codeAny_builtin PySem.F.entry_min_loop ?_
    rw [Around.under_plainId PySem.F.plain_min_loop _]
    show wpAny _ A.in1 (seqItems? (.ref S) >>= _) _ _ s
    refine wpAny_bind (wpAny_seqItems hS rfl ?_)
    show wpAny _ A.in1 (tryCatch (pyNext (.ref I)) _ >>= _) _ _ s
    refine wpAny_bind (wpAny_tryCatch (W.done s _ _ ⟨hin ▸ hit, hl⟩ fun h' tk hk' => ?_))
    have hS' := hk' S _ (by simpa using hIS.symm) hS
    show wpAny _ A.in1 (updateSeq S (fun _ => #[]) >>= _) _ _ _
    refine wpAny_bind ?_
    refine wpAny_updateSeq hS' rfl (wpAny_bind (wpAny_letGo (wpAny_pure ?_)))
    exact hR i vb _ tk hvb (fun j' hj' => hbest j' (by omega)) fun b o hbI hbS e => (Heap.get?_update_other _ _ (Ne.symm hbS)).trans (hk' b o (by simpa using hbI) e)
  | succ r ih =>
    intro j i vb c s hr hj hit hl hvb hbest hS hR
    have hlt : j + 1 < vs.toArray.size := by omega
    refine codeAny_builtin PySem.F.entry_min_loop ?_
    rw [Around.under_plainId PySem.F.plain_min_loop _]
    show wpAny _ A.in1 (seqItems? (.ref S) >>= _) _ _ s
    refine wpAny_bind (wpAny_seqItems hS rfl ?_)
    show wpAny _ A.in1 (tryCatch (pyNext (.ref I)) _ >>= _) _ _ s
    refine wpAny_bind (wpAny_tryCatch (W.item (j + 1) s _ _ hlt ⟨hit, hl⟩ fun v h' tk hP hst' hk' => ?_))
    have hv : vs[j + 1]? = some v := by simpa using hP
    have hS' := hk' S _ (by simpa using hIS.symm) hS
    show wpAny _ A.in1 (tryCatch (holding [v, v] (richCompare .Lt v vb >>= _)) _ >>= _) _ _ _
    refine wpAny_bind (wpAny_tryCatch (wpAny_holding (wpAny_bind (CmpOf.ints_lt (prog := prog) (w := w) (A := A.in1) (P := fun i v => vs[i]? = some v) num (fun i v h => hnum i v h) (j + 1) i _ _ _ _ _ hv hvb ?_))))
    refine wpAny_bind (wpAny_holding (wpAny_truthy_bool ?_))
    refine wpAny_bind (wpAny_letGo (wpAny_pure ?_))
    by_cases hb : num (j + 1) < num i
    · simp only [hb, decide_true, if_true]
      refine wpAny_bind ?_
      refine wpAny_updateSeq hS' rfl (wpAny_bind (wpAny_letGo ?_))
      rw [hname]
      refine wpAny_pure ⟨plainId_quiet PySem.F.plain_min_loop _, ih (j + 1) (j + 1) v _ _ (by omega) (by omega) (hst'.1.at fun o e => (Heap.get?_update_other _ _ (Ne.symm hIS)).trans e) (hst'.2.at fun o e => (Heap.get?_update_other _ _ (Ne.symm haS)).trans e) hv (fun j' hj' => ?_) (Heap.get?_update_self _ hS' rfl) fun i' v' h'' tk'' hv' hb' hk'' => ?_⟩
      · by_cases e : j' = j + 1
        · rw [e]; omega
        · have := hbest j' (by omega); omega
      · exact hR i' v' h'' tk'' hv' hb' fun b o hbI hbS e => hk'' b o hbI hbS ((Heap.get?_update_other _ _ (Ne.symm hbS)).trans (hk' b o (by simpa using hbI) e))
    · simp only [hb, decide_false, Bool.false_eq_true, if_false]
      refine wpAny_bind (wpAny_letGo ?_)
      rw [hname]
      refine wpAny_pure ⟨plainId_quiet PySem.F.plain_min_loop _, ih (j + 1) i vb c _ (by omega) (by omega) hst'.1 hst'.2 hvb (fun j' hj' => ?_) hS' fun i' v' h'' tk'' hv' hb' hk'' => ?_⟩
      · by_cases e : j' = j + 1
        · rw [e]; omega
        · exact hbest j' (by omega)
      · exact hR i' v' h'' tk'' hv' hb' fun b o hbI hbS e => hk'' b o hbI hbS (hk' b o (by simpa using hbI) e)

theorem min_dflt {s : Shared} {a : Addr} {vs : List Value} {d : Value} (num : Nat → Int) (hnum : ∀ (i : Nat) (v : Value), vs[i]? = some v → ∃ t, v = .int (num i) t) (hh : A.handled = none) (hl : s.heap.IsList a vs.toArray)
    (h0 : vs = [] → ∀ s', Kp s s' → Q d s') (h1 : ∀ i v s', vs[i]? = some v → (∀ j, j < vs.length → num i ≤ num j) → Kp s s' → Q v s') :
    wpAny (model prog w) A (call (.builtin "min") [.ref a] [(Str.ofString "default", d)]) Q E s := by
  have hname : (toString "min" ++ toString ".loop" : String) = "min.loop" := by decide
  obtain ⟨ol, hol, _⟩ := id hl
  have ha : a < s.heap.objs.size := Heap.lt_size hol
  refine kmk_tree PySem.F.kind_min PySem.F.plain_min PySem.F.entry_min (min_args_default _ _) ?_
  show wpAny _ A.in1 (Builtin.Builtins.bindParams "min" ["key", "default"] 0 ⟨[], [(Str.ofString "default", d)]⟩ >>= _) _ _ s
  refine wpAny_bind (wpAny_of_eq (show Builtin.Builtins.bindParams "min" ["key", "default"] 0 ⟨[], [(Str.ofString "default", d)]⟩ = pure [none, some d] from rfl) ?_)
  refine wpAny_bind (wpAny_pure ?_)
  refine wpAny_bind (wpAny_pyIter_list hl ?_)
  refine wpAny_bind (wpAny_newList ?_ (Nat.zero_le _))
  rw [hname]
  have hS : (s.heap.push { cls := .type "list_iterator", data := .fields #[.ref a, .int 0 0] }).objs.size = s.heap.objs.size + 1 := Heap.size_push ..
  generalize hH1 : s.heap.push { cls := .type "list_iterator", data := .fields #[.ref a, .int 0 0] } = H1 at hS ⊢
  have haI : a ≠ s.heap.objs.size := Nat.ne_of_lt ha
  have haS : a ≠ H1.objs.size := by rw [hS]; exact Nat.ne_of_lt (Nat.lt_succ_of_lt ha)
  have hIS : s.heap.objs.size ≠ H1.objs.size := by rw [hS]; omega
  have gI : H1.get? s.heap.objs.size = some { cls := .type "list_iterator", data := .fields #[.ref a, .int 0 0] } := by rw [← hH1]; exact Heap.get?_push_size _ rfl
  have old : ∀ b o, s.heap.get? b = some o → H1.get? b = some o := fun b o e => by rw [← hH1]; exact Heap.get?_push_of_some _ e
  refine wpAny_pure ⟨plainId_quiet PySem.F.plain_min_loop _, ?_⟩
  have W := Walks.list (prog := prog) (w := w) (A := A.in1) hh s.heap.objs.size a haI vs.toArray
  have ne : ∀ b o, s.heap.get? b = some o → b ≠ s.heap.objs.size ∧ b ≠ H1.objs.size := fun b o e => by
    have := Heap.lt_size e; rw [hS]; exact ⟨Nat.ne_of_lt this, Nat.ne_of_lt (Nat.lt_succ_of_lt this)⟩
  refine codeAny_builtin PySem.F.entry_min_loop ?_
  rw [Around.under_plainId PySem.F.plain_min_loop _]
  show wpAny _ A.in1 (seqItems? (.ref H1.objs.size) >>= _) _ _ _
  refine wpAny_bind (wpAny_seqItems (Heap.get?_push_size _ rfl) rfl ?_)
  show wpAny _ A.in1 (tryCatch (pyNext (.ref s.heap.objs.size)) _ >>= _) _ _ _
  have hit : (H1.push { cls := .type "list", data := .seq ([] : List Value).toArray }).IsListIter s.heap.objs.size a 0 := ⟨_, Heap.get?_push_of_some _ gI, rfl, rfl⟩
  have hl' : (H1.push { cls := .type "list", data := .seq ([] : List Value).toArray }).IsList a vs.toArray := hl.at fun o e => Heap.get?_push_of_some _ (old _ _ e)
  by_cases hne : vs = []
  · subst hne
    refine wpAny_bind (wpAny_tryCatch (W.done _ _ _ ⟨hit, hl'⟩ fun h' tk hk' => ?_))
    have hq := h0 rfl _ (Kp.mk' (s := s) (tk := tk) fun b o e => hk' b o (by simpa using (ne b o e).1) (Heap.get?_push_of_some _ (old b o e)))
    show wpAny _ A.in1 (rule _ >>= fun _ => ret d) _ _ _
    refine wpAny_bind (wpAny_rule ?_)
    refine wpAny_pure ?_
    exact hq
  · have hpos := List.length_pos_iff.mpr hne
    refine wpAny_bind (wpAny_tryCatch (W.item 0 _ _ _ (by simpa using hpos) ⟨hit, hl'⟩ fun v h' tk hP hst' hk' => ?_))
    have hv : vs[0]? = some v := by simpa using hP
    have hS' := hk' H1.objs.size _ (by simpa using hIS.symm) (Heap.get?_push_size _ rfl)
    show wpAny _ A.in1 (updateSeq H1.objs.size (fun _ => #[v, v]) >>= _) _ _ _
    refine wpAny_bind ?_
    refine wpAny_updateSeq hS' rfl ?_
    rw [hname]
    refine wpAny_pure ⟨plainId_quiet PySem.F.plain_min_loop _, ?_⟩
    refine min_turns num hnum hh haI haS hIS _ 0 0 v _ _ rfl hpos ?_ ?_ hv ?_ (Heap.get?_update_self _ hS' rfl) ?_
    · exact hst'.1.at fun o e => (Heap.get?_update_other _ _ (Ne.symm hIS)).trans e
    · exact hst'.2.at fun o e => (Heap.get?_update_other _ _ (Ne.symm haS)).trans e
    · intro j' hj'
      obtain rfl : j' = 0 := by omega
      exact Int.le_refl _
    · intro i v' h'' tk'' hv' hb' hk''
      exact h1 i v' _ hv' hb' (Kp.mk' fun b o e => hk'' b o (ne b o e).1 (ne b o e).2 ((Heap.get?_update_other _ _ (Ne.symm (ne b o e).2)).trans (hk' b o (by simpa using (ne b o e).1) (Heap.get?_push_of_some _ (old b o e)))))
end
section
variable {k : Bool} {prog : Program} {w : World} {A : Around} {E : Value → Shared → Prop} {s₀ s : Shared} {H : Addr → Obj → Prop} {L : Addr} {m : Str → Option Value} {σ : List (Addr × Obj)} {env : Env}
  {KK : Addr → Obj → Prop} {mg mb : Str → Option Value} {Q : Value → Shared → Prop}
/-- f(e, name=d), f built in -/
theorem e_b1kw {x : Str} {id : String} {p pos : Pos} {e d : Expr} {kn : Str} {kp : Pos} (S : St k s₀ H L m σ s) (G : GdH KK mg mb H) (hn : mg x = none) (hv : mb x = some (.builtin id))
    (hc : (env.scope.kind == .function && env.scope.names.lookup x == some .globalImplicit && !(x == ("__debug__" : Str))) = true)
    (h : wpAny (model prog w) A (eval e env) (fun v s₁ => wpAny (model prog w) A (eval d env) (fun dv s₂ => wpAny (model prog w) A (call (.builtin id) [v] [(kn, dv)]) Q E s₂) E s₁) E s)
    (hs : backTo pos (starEach [e] env) = [(false, eval e env)] := by with_unfolding_all rfl) (hg : env.globals = mainGlobals := by with_unfolding_all rfl) (hb : env.builtins = builtinsNs := by with_unfolding_all rfl) :
    wpAny (model prog w) A (eval (.Call (.Name x p) [e] [⟨some kn, d, kp⟩] pos) env) Q E s := by
  show wpAny (model prog w) A (do callWith pos (← eval (.Name x p) env) [] (backTo pos (starEach [e] env)) (backToKw pos (keywordEach [⟨some kn, d, kp⟩] env))) Q E s
  refine wpAny_bind (r_blt S G hn hv ?_ hc hg hb)
  refine callWith_kw ?_ (he := by rw [hs]; with_unfolding_all rfl) (hplain := by rw [hs]; rfl)
  rw [hs]
  refine Calls.spliced_cons (wpAny_mono h (fun v s₁ h₁ => Calls.spliced_nil ?_) fun _ _ e => e)
  exact kws_cons (wpAny_mono h₁ (fun dv s₂ h₂ => kws_nil h₂) fun _ _ e => e)
end
end Mine
end
section
open PySem PyProof.Rows
set_option Elab.async false
namespace Mine
section
variable {k : Bool} {prog : Program} {w : World} {A : Around} {E : Value → Shared → Prop} {s₀ s : Shared} {H : Addr → Obj → Prop} {L : Addr} {m : Str → Option Value} {σ : List (Addr × Obj)} {env : Env}
  {Q : Value → Shared → Prop}
/-- the turns of a list comprehension: the frame at C, the list at D, what is made in τ -/
theorem compLoop_St {I C D : Addr} {fp wr : List Addr} {n : Nat} {P : Nat → Value → Prop} {Ti : Nat → Heap → Prop} (W : Walks prog w A I fp wr n P Ti) (hex : ∀ i h, Ti i h → ∀ b ∈ fp, ∃ o, h.get? b = some o)
    (J : Nat → List Value → List (Addr × Obj) → Prop) {x : Str} {px : Pos} {elt iter : Expr} {ifs : List Expr} {scope : Scope} {cl : List (Str × Addr)} {pos : Pos} {R : Result → Shared → Prop} {ys : List Value} {c : Nat} {τ : List (Addr × Obj)}
    (S : St true s₀ H C m ((D, lst ys c) :: τ) s) (hT : Ti 0 s.heap) (hfp : ∀ b ∈ fp, b ≠ C ∧ b ∉ ((D, lst ys c) :: τ).map (·.1)) (hwr : ∀ b ∈ wr, ∀ o, ¬ H b o) (h0 : J 0 ys τ) (hsz : ∀ i ys τ, J i ys τ → ys.length ≤ sizeLine)
    (hk : scope.kind = .function) (hx : scope.names.lookup x = some .local)
    (turn : ∀ (E' : Value → Shared → Prop) i m' ys c τ s' v Hb, i < n → J i ys τ → P i v → (∀ b o, H b o → Hb b o) → St true s₀ Hb C (upd m' x v) ((D, lst ys c) :: τ) s' →
      wpAny (model prog w) A (forIn ifs true fun c r => if r = true then do let ok ← isTrue c (compEnvC scope cl C env) (eval c (compEnvC scope cl C env)); pure (ForInStep.yield ok) else pure (ForInStep.yield r))
        (fun ok s₃ => if ok = true then wpAny (model prog w) A (eval elt (compEnvC scope cl C env)) (fun y s₄ => ∃ m'' τ', St true s₀ Hb C m'' ((D, lst ys c) :: τ') s₄ ∧ J (i + 1) (ys ++ [y]) τ') E' s₃
          else ∃ m'' τ', St true s₀ Hb C m'' ((D, lst ys c) :: τ') s₃ ∧ J (i + 1) ys τ') E' s')
    (done : ∀ m' ys c τ s', J n ys τ → St true s₀ H C m' ((D, lst ys c) :: τ) s' → R (.ok .next) s') :
    codeAny (model prog w) A (.compLoop (.ListComp elt [⟨.Name x px, iter, ifs, 0⟩] scope pos) 0 (.ref I) (.ref D) (compEnvC scope cl C env)) R s := by
  refine codeAny_compLoop_tests (fun kk s => ∃ i m ys c τ, kk = n - i ∧ i ≤ n ∧ J i ys τ ∧ St true s₀ H C m ((D, lst ys c) :: τ) s ∧ Ti i s.heap ∧ ∀ b ∈ fp, b ≠ C ∧ b ∉ ((D, lst ys c) :: τ).map (·.1)) (fun kk s hI => ?_) n ⟨0, m, ys, c, τ, by simp, Nat.zero_le _, h0, S, hT, hfp⟩
  obtain ⟨i, m, ys, c, τ, rfl, hi, hJ, S, hT, hfp⟩ := hI
  have keepSt : ∀ (h' : Heap) (tk : Nat), (∀ b o, b ∉ wr → s.heap.get? b = some o → h'.get? b = some o) → St true s₀ H C m ((D, lst ys c) :: τ) { s with heap := h', toks := tk } := fun h' tk hk' => by
    refine ⟨S.same.trans ⟨rfl, rfl, rfl⟩, ?_, fun b o e => hk' b o (fun q => hwr b q o e) (S.keep b o e), S.keepL, fun p hp => ⟨hk' _ _ (fun q => (hfp _ (W.sub _ q)).2 (List.mem_map.mpr ⟨p, hp, rfl⟩)) (S.own p hp).1, (S.own p hp).2⟩, S.nd⟩
    obtain ⟨oL, es, ep, hL, r⟩ := S.ns
    exact ⟨oL, es, ep, hk' _ _ (fun q => (hfp _ (W.sub _ q)).1 rfl) hL, r⟩
  rcases Nat.lt_or_eq_of_le hi with hlt | rfl
  · refine W.item i s _ _ hlt hT fun v h' tk hP hT' hk' => ?_
    have S1 := keepSt h' tk hk'
    have hfx : ∀ b ∈ fp, ∃ o, h'.get? b = some o := hex _ _ hT'
    have S2 : St true s₀ (fun b o => H b o ∨ (b ∈ fp ∧ h'.get? b = some o)) C m ((D, lst ys c) :: τ) { s with heap := h', toks := tk } :=
      ⟨S1.same, S1.ns, fun b o e => e.elim (S1.keep b o) fun q => q.2, fun _ o e => e.elim (S1.keepL rfl o) fun q => (hfp _ q.1).1 rfl,
        fun p hp => ⟨(S1.own p hp).1, (S1.own p hp).2.1, fun o e => e.elim ((S1.own p hp).2.2 o) fun q => (hfp _ q.1).2 (List.mem_map.mpr ⟨p, hp, rfl⟩)⟩, S1.nd⟩
    refine wpAny_assign_Name (wpAny_storeName_local (env := compEnvC scope cl C env) (lookup_relabel_local hx) S2.ns (fun h'' hn hs => ?_) (by simp [compEnvC, relabel, hk]))
    have S3 := S2.set (tk := tk + 1) hn hs
    have back : ∀ {s₃ : Shared} {m' : Str → Option Value} {ys' : List Value} {c' : Nat} {τ' : List (Addr × Obj)}, St true s₀ (fun b o => H b o ∨ (b ∈ fp ∧ h'.get? b = some o)) C m' ((D, lst ys' c') :: τ') s₃ → J (i + 1) ys' τ' →
        ∃ k, k < n - i ∧ ∃ i m ys c τ, k = n - i ∧ i ≤ n ∧ J i ys τ ∧ St true s₀ H C m ((D, lst ys c) :: τ) s₃ ∧ Ti i s₃.heap ∧ ∀ b ∈ fp, b ≠ C ∧ b ∉ ((D, lst ys c) :: τ).map (·.1) := fun {s₃ m' ys' c' τ'} S4 hJ' => by
      refine ⟨n - (i + 1), by omega, i + 1, m', ys', c', τ', rfl, hlt, hJ', S4.anti fun b o e => .inl e, W.frame _ _ _ hT' fun b hb o e => S4.keep b o (.inr ⟨hb, e⟩), fun b hb => ⟨(hfp b hb).1, fun hm => ?_⟩⟩
      obtain ⟨p, hp, rfl⟩ := List.mem_map.mp hm
      obtain ⟨o, ho⟩ := hfx _ hb
      exact (S4.own p hp).2.2 o (.inr ⟨hb, ho⟩)
    refine wpAny_mono (turn _ i m ys c τ _ v _ hlt hJ hP (fun b o e => .inl e) S3) (fun ok s₃ h₃ => ?_) fun _ _ e => e
    cases ok with
    | false =>
      obtain ⟨m'', τ', S4, hJ'⟩ := h₃
      exact back S4 hJ'
    | true =>
      refine wpAny_mono h₃ (fun y s₄ h₄ => ?_) fun _ _ e => e
      obtain ⟨m'', τ', S4, hJ'⟩ := h₄
      exact r_append0 S4 (hsz _ _ _ hJ) fun s' S5 => back S5 hJ'
  · refine W.done s _ _ hT fun h' tk hk' => ?_
    exact done m ys c τ _ hJ (keepSt h' tk hk')

theorem St.other {C : Addr} {h' : Heap} (S : St k s₀ H L m σ s) (hC : C ≠ L) (hσ : C ∉ σ.map (·.1)) (hH : ∀ o, ¬ H C o) (hs : Heap.SameBut C s.heap h') : St k s₀ H L m σ { s with heap := h' } :=
  ⟨S.same.trans ⟨rfl, rfl, rfl⟩, S.ns.sameBut hs (Ne.symm hC), fun b o e => hs.extBut b o (fun q => hH o (q ▸ e)) (S.keep b o e), S.keepL,
    fun p hp => ⟨hs.extBut _ _ (fun q => hσ (List.mem_map.mpr ⟨p, hp, q⟩)) (S.own p hp).1, (S.own p hp).2⟩, S.nd⟩
/-- from the comprehension's frame back to the one around -/
theorem St.outer {s₁ s' : Shared} {C : Addr} {m' : Str → Option Value} {τ : List (Addr × Obj)} (S : St k s₀ H L m σ s₁) (S' : St true s₁ (fun b o => s₁.heap.get? b = some o) C m' τ s') : St k s₀ H L m (τ ++ σ) s' := by
  have kp : Kp s₁ s' := S'.back
  have Sk := S.kp kp
  refine ⟨Sk.same, Sk.ns, Sk.keep, Sk.keepL, fun p hp => ?_, ?_⟩
  · rcases List.mem_append.mp hp with hp | hp
    · have nn := S.notNew (S'.fresh (a := p.1) (o := p.2) hp)
      exact ⟨(S'.own p hp).1, nn.1, nn.2.2⟩
    · exact Sk.own p hp
  · rw [List.map_append, List.nodup_append]
    refine ⟨S'.nd, S.nd, fun a ha b hb e => ?_⟩
    subst e
    obtain ⟨p, hp, rfl⟩ := List.mem_map.mp ha
    exact (S.notNew (S'.fresh (a := p.1) (o := p.2) hp)).2.1 hb
/-- a comprehension over a list, from the list on -/
theorem comp_core {elt iter : Expr} {x : Str} {px : Pos} {ifs : List Expr} {scope : Scope} {cl : List (Str × Addr)} {pos : Pos} {vs : List Value} {a : Addr} {s₁ : Shared} {RR : Value → Addr → Result → Shared → Prop} (J : Nat → List Value → List (Addr × Obj) → Prop)
    (hcell' : ∀ y ∈ scope.names, y.2 ≠ .cell) (hkind : scope.kind = .function) (hx : scope.names.lookup x = some .local) (h0 : J 0 [] []) (hsz : ∀ i ys τ, J i ys τ → ys.length ≤ sizeLine) (hh : A.handled = none) (hl : s₁.heap.IsList a vs.toArray)
    (turn : ∀ (E' : Value → Shared → Prop) C D i m' ys c τ s' v Hb, i < vs.length → J i ys τ → vs[i]? = some v → (∀ b o, s₁.heap.get? b = some o → Hb b o) → St true s₁ Hb C (upd m' x v) ((D, lst ys c) :: τ) s' →
        wpAny (model prog w) A (forIn ifs true fun c r => if r = true then do let ok ← isTrue c (compEnvC scope cl C env) (eval c (compEnvC scope cl C env)); pure (ForInStep.yield ok) else pure (ForInStep.yield r))
          (fun ok s₃ => if ok = true then wpAny (model prog w) A (eval elt (compEnvC scope cl C env)) (fun y s₄ => ∃ m'' τ', St true s₁ Hb C m'' ((D, lst ys c) :: τ') s₄ ∧ J (i + 1) (ys ++ [y]) τ') E' s₃
            else ∃ m'' τ', St true s₁ Hb C m'' ((D, lst ys c) :: τ') s₃ ∧ J (i + 1) ys τ') E' s')
    (fin : ∀ D C m' ys c τ s', J vs.length ys τ → s₁.heap.get? C = none → St true s₁ (fun b o => s₁.heap.get? b = some o) C m' ((D, lst ys c) :: τ) s' → RR (.ref D) C (.ok .next) s') :
    wpAny (model prog w) A (pyIter (.ref a)) (fun it s₂ => wpAny (model prog w) A (newList []) (fun acc s₃ => wpAny (model prog w) A (newFunctionEnv scope env.globals cl [] env.qual none .none (some env)) (fun cenv s₄ =>
      codeAny (model prog w) A (.compStart (.ListComp elt [⟨.Name x px, iter, ifs, 0⟩] scope pos) 0 it acc { cenv with scope := relabel scope env }) (RR acc cenv.locals) s₄) E s₃) E s₂) E s₁ := by
  refine wpAny_pyIter_list hl (wpAny_newObj_type (hd := by size_fits) (wpAny_newFunctionEnv hcell' (by intro y hy; simp at hy) (fun h₁ hns₁ hsb₁ => ?_) hkind))
  dsimp only at hns₁ hsb₁ ⊢
  obtain ⟨ol, hol, hol'⟩ := id hl
  have ha : a < s₁.heap.objs.size := Heap.lt_size hol
  generalize hH1 : s₁.heap.push { cls := .type "list_iterator", data := .fields #[.ref a, .int 0 0] } = H1 at hns₁ hsb₁ ⊢
  have hD : H1.objs.size = s₁.heap.objs.size + 1 := by rw [← hH1, Heap.size_push]
  generalize hH2 : H1.push { cls := .type "list", dict := none, data := .seq ([] : List Value).toArray } = H2 at hns₁ hsb₁ ⊢
  have hC : H2.objs.size = s₁.heap.objs.size + 2 := by rw [← hH2, Heap.size_push, hD]
  have none_of : ∀ b, s₁.heap.objs.size ≤ b → s₁.heap.get? b = none := fun b hb => by
    cases e : s₁.heap.get? b with
    | none => rfl
    | some o => exact absurd (Heap.lt_size e) (Nat.not_lt.mpr hb)
  have nI : s₁.heap.get? s₁.heap.objs.size = none := none_of _ (Nat.le_refl _)
  have nD : s₁.heap.get? H1.objs.size = none := none_of _ (by rw [hD]; exact Nat.le_succ _)
  have nC : s₁.heap.get? H2.objs.size = none := none_of _ (by rw [hC]; exact Nat.le_add_right _ _)
  have hDC : H1.objs.size ≠ H2.objs.size := by rw [hD, hC]; exact Nat.ne_of_lt (Nat.lt_succ_self _)
  have hIC : s₁.heap.objs.size ≠ H2.objs.size := by rw [hC]; exact Nat.ne_of_lt (Nat.lt_succ_of_lt (Nat.lt_succ_self _))
  have hID : s₁.heap.objs.size ≠ H1.objs.size := by rw [hD]; exact Nat.ne_of_lt (Nat.lt_succ_self _)
  have ne : ∀ b o, s₁.heap.get? b = some o → b ≠ s₁.heap.objs.size ∧ b ≠ H1.objs.size ∧ b ≠ H2.objs.size := fun b o e =>
    ⟨(fun q => by rw [q, nI] at e; cases e), (fun q => by rw [q, nD] at e; cases e), (fun q => by rw [q, nC] at e; cases e)⟩
  have old : ∀ b o, s₁.heap.get? b = some o → h₁.get? b = some o := fun b o e =>
    hsb₁.extBut b o (ne b o e).2.2 (Heap.get?_push_of_some _ (hH2 ▸ Heap.get?_push_of_some _ (hH1 ▸ Heap.get?_push_of_some _ e)))
  have hit : h₁.IsListIter s₁.heap.objs.size a 0 :=
    ⟨_, hsb₁.extBut _ _ hIC (Heap.get?_push_of_some _ (hH2 ▸ Heap.get?_push_of_some _ (hH1 ▸ Heap.get?_push_size _ rfl))), rfl, rfl⟩
  have hacc : h₁.get? H1.objs.size = some (lst [] 0) := hsb₁.extBut _ _ hDC (Heap.get?_push_of_some _ (hH2 ▸ Heap.get?_push_size _ rfl))
  have hl₁ : h₁.IsList a vs.toArray := ⟨ol, old _ _ hol, hol'⟩
  have haI : a ≠ s₁.heap.objs.size := (ne _ _ hol).1
  have W := Walks.list (prog := prog) (w := w) (A := A) hh s₁.heap.objs.size a haI vs.toArray
  have hsize : vs.toArray.size = vs.length := List.size_toArray ..
  have S0 : ∀ s₂ : Shared, s₂ = { s₁ with heap := h₁, toks := s₁.toks + ([] : List (Str × Value)).length } → St true s₁ (fun b o => s₁.heap.get? b = some o) H2.objs.size (fun x => ([] : List (Str × Value)).reverse.lookup x) [(H1.objs.size, lst [] 0)] s₂ := by
    rintro s₂ rfl
    refine ⟨⟨rfl, rfl, rfl⟩, hns₁, old, fun _ o e => (ne _ _ e).2.2 rfl, fun p hp => ?_, by simp⟩
    obtain rfl : p = (H1.objs.size, lst [] 0) := by simpa using hp
    exact ⟨hacc, hDC, fun o e => (ne _ _ e).2.1 rfl⟩
  have loop : ∀ s₂ : Shared, s₂ = { s₁ with heap := h₁, toks := s₁.toks + ([] : List (Str × Value)).length } →
      codeAny (model prog w) A (.compLoop (.ListComp elt [⟨.Name x px, iter, ifs, 0⟩] scope pos) 0 (.ref s₁.heap.objs.size) (.ref H1.objs.size) (compEnvC scope cl H2.objs.size env))
        (RR (.ref H1.objs.size) H2.objs.size) s₂ := by
    rintro s₂ rfl
    refine compLoop_St W ?_ J (S0 _ rfl) ⟨hit, hl₁⟩ ?_ ?_ h0 hsz hkind hx (fun E' i m' ys c τ s' v Hb hi hJ hP hb S₂ => turn E' _ _ i m' ys c τ s' v Hb (hsize ▸ hi) hJ (by simpa using hP) hb S₂) ?_
    · intro i h hTi b hb
      rcases List.mem_cons.mp hb with rfl | hb
      · obtain ⟨⟨o, ho, _⟩, _⟩ := hTi; exact ⟨o, ho⟩
      · rcases List.mem_cons.mp hb with rfl | hb
        · obtain ⟨_, o, ho, _⟩ := hTi; exact ⟨o, ho⟩
        · cases hb
    · intro b hb
      rcases List.mem_cons.mp hb with rfl | hb
      · exact ⟨hIC, by simpa using hID⟩
      · rcases List.mem_cons.mp hb with rfl | hb
        · exact ⟨(ne _ _ hol).2.2, by simpa using (ne _ _ hol).2.1⟩
        · cases hb
    · intro b hb o e
      rcases List.mem_cons.mp hb with rfl | hb
      · exact (ne _ _ e).1 rfl
      · cases hb
    · intro m' ys c τ s' hJ S'
      exact fin _ _ m' ys c τ s' (hsize ▸ hJ) nC S'
  exact codeAny_compStart_list (loop _ rfl) (wpAny_pyIter_listiter hit (loop _ rfl))
theorem allc {scope : Scope} (h : (scope.names.all fun y => y.2 != .cell) = true) : ∀ y ∈ scope.names, y.2 ≠ .cell := fun y hy => by simpa using List.all_eq_true.mp h y hy
theorem alln {scope : Scope} (h : (scope.names.all fun y => y.2 != .local || scope.names.lookup y.1 == some .local) = true) : ∀ y ∈ scope.names, y.2 = .local → scope.names.lookup y.1 = some .local := fun y hy e => by
  have := List.all_eq_true.mp h y hy
  simpa [e] using this
/-- what a comprehension over a list asks for: J of what came out and of what was made -/
def CompK (prog : Program) (w : World) (A : Around) (env : Env) (k : Bool) (s₀ : Shared) (H : Addr → Obj → Prop) (L : Addr) (elt : Expr) (x : Str) (ifs : List Expr) (scope : Scope) (cl : List (Str × Addr)) (J : Nat → List Value → List (Addr × Obj) → Prop) (fin : Addr → (Str → Option Value) → List (Addr × Obj) → Shared → Prop) (xv : Value) (s₁ : Shared) : Prop :=
  ∃ (a : Addr) (vs : List Value) (m : Str → Option Value) (σ : List (Addr × Obj)), xv = .ref a ∧ A.handled = none ∧ s₁.heap.IsList a vs.toArray ∧ St k s₀ H L m σ s₁ ∧
    (∀ (E' : Value → Shared → Prop) C D i m' ys c τ s' v Hb, i < vs.length → J i ys τ → vs[i]? = some v → (∀ b o, s₁.heap.get? b = some o → Hb b o) → St true s₁ Hb C (upd m' x v) ((D, lst ys c) :: τ) s' →
      wpAny (model prog w) A (forIn ifs true fun c r => if r = true then do let ok ← isTrue c (compEnvC scope cl C env) (eval c (compEnvC scope cl C env)); pure (ForInStep.yield ok) else pure (ForInStep.yield r))
        (fun ok s₃ => if ok = true then wpAny (model prog w) A (eval elt (compEnvC scope cl C env)) (fun y s₄ => ∃ m'' τ', St true s₁ Hb C m'' ((D, lst ys c) :: τ') s₄ ∧ J (i + 1) (ys ++ [y]) τ') E' s₃
          else ∃ m'' τ', St true s₁ Hb C m'' ((D, lst ys c) :: τ') s₃ ∧ J (i + 1) ys τ') E' s') ∧
    (∀ D ys c τ s' σ', J vs.length ys τ → σ' = ((D, lst ys c) :: τ) ++ σ → St k s₀ H L m σ' s' → fin D m σ' s')
theorem e_comp_list {elt iter : Expr} {x : Str} {px : Pos} {ifs : List Expr} {scope : Scope} {cl : List (Str × Addr)} {pos : Pos} (J : Nat → List Value → List (Addr × Obj) → Prop)
    (hclos : closureFor scope env = pure cl) (hcell : (scope.names.all fun y => y.2 != .cell) = true) (hkind : scope.kind = .function)
    (hnames : (scope.names.all fun y => y.2 != .local || scope.names.lookup y.1 == some .local) = true) (hx : scope.names.lookup x = some .local) (h0 : J 0 [] []) (hsz : ∀ i ys τ, J i ys τ → ys.length ≤ sizeLine)
    (h : wpAny (model prog w) A (eval iter env) (CompK prog w A env k s₀ H L elt x ifs scope cl J fun D _ _ s' => Q (.ref D) s') E s)
    (hs : ∀ x, foldedSetIterable iter env x = pure x := by intro _; rfl) :
    wpAny (model prog w) A (eval (.ListComp elt [⟨.Name x px, iter, ifs, 0⟩] scope pos) env) Q E s := by
  rw [eval_ListComp]
  refine wpAny_comprehension_free (use := none) rfl hs hclos hkind (alln hnames) (wpAny_mono h (fun xv s₁ h₁ => ?_) fun _ _ e => e)
  obtain ⟨a, vs, m, σ, rfl, hh, hl, S, turn, hQ⟩ := h₁
  refine comp_core (RR := fun acc C => compPost (model prog w) A E none Q acc C) J (allc hcell) hkind hx h0 hsz hh hl turn fun D C m' ys c τ s' hJ hC S' => ?_
  refine ⟨m', S'.ns, fun h' hs' => hQ D ys c τ _ _ hJ rfl ?_⟩
  have nn := S.notNew hC
  refine (S.outer S').other nn.1 (fun hm => ?_) nn.2.2 hs'
  rw [List.map_append] at hm
  rcases List.mem_append.mp hm with hm | hm
  · obtain ⟨p, hp, e⟩ := List.mem_map.mp hm
    exact (S'.own p hp).2.1 e
  · exact nn.2.1 hm
/-- y = [elt for x in a list ..] -/
theorem x_assign_comp {elt iter : Expr} {x y : Str} {px py : Pos} {ifs : List Expr} {scope : Scope} {cl : List (Str × Addr)} {pos spos : Pos} {rest : List Stmt} {Q : Flow → Shared → Prop} (J : Nat → List Value → List (Addr × Obj) → Prop)
    (hsw : swapsWith (.ListComp elt [⟨.Name x px, iter, ifs, 0⟩] scope pos) (some (.Name y py)) spos.line env = pure true)
    (hclos : closureFor scope env = pure cl) (hcell : (scope.names.all fun y => y.2 != .cell) = true) (hkind : scope.kind = .function)
    (hnames : (scope.names.all fun y => y.2 != .local || scope.names.lookup y.1 == some .local) = true) (hx : scope.names.lookup x = some .local)
    (hc : (env.scope.kind == .function && env.scope.names.lookup y == some .local) = true) (h0 : J 0 [] []) (hsz : ∀ i ys τ, J i ys τ → ys.length ≤ sizeLine)
    (h : wpAny (model prog w) A (eval iter env) (CompK prog w A env true s₀ H L elt x ifs scope cl J fun D m σ' s' => ∀ s'', St true s₀ H L (upd m y (.ref D)) σ' s'' → wpAny (model prog w) A (execs rest env) Q E s'') E s)
    (hL : env.locals = L := by with_unfolding_all rfl) (hs : ∀ x, foldedSetIterable iter env x = pure x := by intro _; rfl) :
    wpAny (model prog w) A (execs (.Assign [.Name y py] (.ListComp elt [⟨.Name x px, iter, ifs, 0⟩] scope pos) spos :: rest) env) Q E s := by
  subst hL
  simp only [Bool.and_eq_true, beq_iff_eq] at hc
  refine x_cons ?_
  rw [exec_Assign_Name_used _ _ _ _ hsw]
  refine wpAny_bind (wpAny_standAt (wpAny_bind ?_))
  show wpAny _ A (do let _ ← comprehension (.ListComp elt [⟨.Name x px, iter, ifs, 0⟩] scope pos) scope env _ (newList []) false (eval iter env) (some (assign (.Name y py) env))) _ _ s
  refine wpAny_bind (wpAny_mono (wpAny_comprehension_free (use := some (assign (.Name y py) env)) (Q := fun _ s' => thenK prog w A rest env Q E .next s') rfl hs hclos hkind (alln hnames)
    (wpAny_mono h (fun xv s₁ h₁ => ?_) fun _ _ e => e)) (fun _ s' hq => wpAny_pure (wpAny_pure hq)) fun _ _ e => e)
  obtain ⟨a, vs, m, σ, rfl, hh, hl, S, turn, hQ⟩ := h₁
  refine comp_core (RR := fun acc C => compPost (model prog w) A E (some (assign (.Name y py) env)) (fun _ s' => thenK prog w A rest env Q E .next s') acc C) J (allc hcell) hkind hx h0 hsz hh hl turn fun D C m' ys c τ s' hJ hC S' => ?_
  have nn := S.notNew hC
  have So := S.outer S'
  show wpAny _ A (assign (.Name y py) env (.ref D)) _ _ _
  refine wpAny_assign_Name (wpAny_storeName_local hc.2 So.ns (fun h₂ hn₂ hs₂ => ?_) (by rw [hc.1]; rfl))
  refine ⟨m', S'.ns.sameBut hs₂ nn.1, fun h₃ hs₃ => ?_⟩
  refine hQ D ys c τ _ _ hJ rfl So _ ((So.set (tk := s'.toks + 1) hn₂ hs₂).other nn.1 (fun hm => ?_) nn.2.2 hs₃)
  rw [List.map_append] at hm
  rcases List.mem_append.mp hm with hm | hm
  · obtain ⟨p, hp, e⟩ := List.mem_map.mp hm
    exact (S'.own p hp).2.1 e
  · exact nn.2.1 hm
end
end Mine
end
section
open PySem PyProof.Rows PySem.SeqAt
set_option Elab.async false
namespace Mine
section
variable {k : Bool} {prog : Program} {w : World} {A : Around} {E : Value → Shared → Prop} {s₀ s : Shared} {H : Addr → Obj → Prop} {L : Addr} {m : Str → Option Value} {σ : List (Addr × Obj)} {env : Env}
  {Q : Value → Shared → Prop}
theorem r_mind0 {a : Addr} {d : Value} (S : St k s₀ H L m σ s) (hh : A.handled = none) (hl : s.heap.IsList a ([] : List Value).toArray) (h : ∀ s', St k s₀ H L m σ s' → Q d s') : wpAny (model prog w) A (call (.builtin "min") [.ref a] [(Str.ofString "default", d)]) Q E s :=
  min_dflt (fun _ => 0) (fun i v e => by simp at e) hh hl (fun _ s' kp => h s' (S.kp kp)) (fun i v s' e => by simp at e)
theorem r_mind1 {a : Addr} {d : Value} {n : Int} {t : Tok} (S : St k s₀ H L m σ s) (hh : A.handled = none) (hl : s.heap.IsList a [Value.int n t].toArray) (h : ∀ s', St k s₀ H L m σ s' → Q (.int n t) s') : wpAny (model prog w) A (call (.builtin "min") [.ref a] [(Str.ofString "default", d)]) Q E s :=
  min_dflt (fun _ => n) (fun i v e => by
    rcases i with _ | i
    · exact ⟨t, by simpa using e.symm⟩
    · simp at e) hh hl (fun e => by cases e) (fun i v s' e _ kp => by
    rcases i with _ | i
    · obtain rfl : Value.int n t = v := by simpa using e
      exact h s' (S.kp kp)
    · simp at e)
theorem r_mind3 {a : Addr} {d : Value} {n1 n2 n3 : Int} {t1 t2 t3 : Tok} (S : St k s₀ H L m σ s) (hh : A.handled = none) (hl : s.heap.IsList a [Value.int n1 t1, Value.int n2 t2, Value.int n3 t3].toArray)
    (h : ∀ t s', St k s₀ H L m σ s' → Q (.int (min n1 (min n2 n3)) t) s') : wpAny (model prog w) A (call (.builtin "min") [.ref a] [(Str.ofString "default", d)]) Q E s :=
  min_dflt (fun i => [n1, n2, n3].getD i 0) (fun i v e => by
    rcases i with _ | _ | _ | i
    · exact ⟨t1, by simpa using e.symm⟩
    · exact ⟨t2, by simpa using e.symm⟩
    · exact ⟨t3, by simpa using e.symm⟩
    · simp at e) hh hl (fun e => by cases e) (fun i v s' e hb kp => by
    have b0 := hb 0 (by simp)
    have b1 := hb 1 (by simp)
    have b2 := hb 2 (by simp)
    simp only [List.getD_cons_zero, List.getD_cons_succ] at b0 b1 b2
    rcases i with _ | _ | _ | i
    · obtain rfl : Value.int n1 t1 = v := by simpa using e
      simp only [List.getD_cons_zero, List.getD_cons_succ] at b0 b1 b2
      rw [show n1 = min n1 (min n2 n3) by omega]
      exact h t1 s' (S.kp kp)
    · obtain rfl : Value.int n2 t2 = v := by simpa using e
      simp only [List.getD_cons_zero, List.getD_cons_succ] at b0 b1 b2
      rw [show n2 = min n1 (min n2 n3) by omega]
      exact h t2 s' (S.kp kp)
    · obtain rfl : Value.int n3 t3 = v := by simpa using e
      simp only [List.getD_cons_zero, List.getD_cons_succ] at b0 b1 b2
      rw [show n3 = min n1 (min n2 n3) by omega]
      exact h t3 s' (S.kp kp)
    · simp at e)
theorem r_list_copy {l : Addr} {vs : List Value} {n : Nat} (S : St k s₀ H L m σ s) (e : s.heap.get? l = some (lst vs n)) (hz : vs.length ≤ sizeLine)
    (h : ∀ D c s', s.heap.get? D = none → St k s₀ H L m ((D, lst vs c) :: σ) s' → Q (.ref D) s') : wpAny (model prog w) A (call (.type "list") [.ref l]) Q E s :=
  call_list_seq (hsz := by simpa using hz) l (.inl rfl) e rfl rfl fun h' c' hk hD =>
    h _ c' _ (get_size_none _) (S.add (Kp.mk' (tk := s.toks) hk) (get_size_none _) hD)
/-- what is cleared -/
def ClrK (k : Bool) (s₀ : Shared) (H : Addr → Obj → Prop) (L : Addr) (Q : Value → Shared → Prop) (ov : Value) (s₁ : Shared) : Prop :=
  ∃ l vs n m σ₁ σ₂, ov = .ref l ∧ vs.length ≤ sizeLine ∧ St k s₀ H L m (σ₁ ++ (l, lst vs n) :: σ₂) s₁ ∧ ∀ n' s', St k s₀ H L m (σ₁ ++ (l, lst [] n') :: σ₂) s' → Q .none s'
theorem e_clear_at {o : Expr} {apos pos : Pos} (_S : St k s₀ H L m σ s) (hline : (apos.endLine == pos.line) = true) (h : wpAny (model prog w) A (eval o env) (fun ov s₁ => ClrK k s₀ H L Q ov s₁) E s)
    (hbase : attributeBase o (Str.ofString "clear") env (eval o env) = eval o env := by with_unfolding_all rfl) :
    wpAny (model prog w) A (eval (.Call (.Attribute o (Str.ofString "clear") apos) [] [] pos) env) Q E s := by
  refine Call_method0 hbase hline (wpAny_mono h (fun ov s₁ h₁ => ?_) fun _ _ e => e)
  obtain ⟨l, vs, n, m, σ₁, σ₂, rfl, hz, S, hq⟩ := h₁
  have ho := S.get (a := l) (o := lst vs n) (by simp)
  refine ⟨"list", "list.clear", F.plainAttrs_list, F.slot_list_clear, F.type_list_clear, ⟨_, ho, rfl⟩, fun a e => ?_, ?_⟩
  · cases e; exact ⟨_, ho, rfl⟩
  · obtain ⟨n', hn'⟩ := mapSeq_clear vs n
    refine P.clear_list (items := vs.toArray) (n := n) ho (hq n' _ (S.turn (tk := s₁.toks) (fun b x hb e => ?_) ?_)) (by simpa using hz)
    · rw [Heap.get?_update_other _ _ (Ne.symm hb)]; exact e
    · rw [← hn']; exact Heap.get?_update_self _ ho rfl
/-- two lists whose items are equal, each to each -/
theorem r_eq_all {a b : Addr} {vs ws : List Value} (hl : s.heap.IsList a vs.toArray) (hb : s.heap.IsList b ws.toArray) (hlen : vs.length = ws.length) (hu : A.units < cLine)
    (he : ∀ (j : Nat) (v u : Value), vs[j]? = some v → ws[j]? = some u → EqAt A.in1 s v u true) (h : Q (.bool true) s) : wpAny (model prog w) A (compareOp .Eq (.ref a) (.ref b)) Q E s := by
  refine SeqAt.eq_listAt (e := fun _ => true) hl hb (by simpa using hlen) hu (fun j h1 h2 => he j _ _ (List.getElem?_eq_getElem (by simpa using h1)) (List.getElem?_eq_getElem (by simpa using h2))) ?_
  have e : ((List.range vs.toArray.size).all fun _ => true) = true := List.all_eq_true.mpr fun _ _ => rfl
  rw [e]; exact h
theorem eqAt_ints {a b : Addr} {vs ws : List Value} (hne : a ≠ b) (hl : s.heap.IsList a vs.toArray) (hb : s.heap.IsList b ws.toArray) (hlen : vs.length = ws.length) (hu : A.units < cLine)
    (he : ∀ (j : Nat) (v u : Value), vs[j]? = some v → ws[j]? = some u → ∃ n t t', v = .int n t ∧ u = .int n t') : EqAt A s (.ref a) (.ref b) true := by
  refine EqAt.of_refs hne ?_
  have := SeqAt.RcAt.lists (A := A) (s := s) (e := fun _ => true) hl hb (by simpa using hlen) hu (fun j h1 h2 => by
    obtain ⟨n, t, t', e1, e2⟩ := he j (vs.toArray[j]) (ws.toArray[j]) (List.getElem?_eq_getElem (by simpa using h1)) (List.getElem?_eq_getElem (by simpa using h2))
    rw [e1, e2]
    simpa using EqAt.int_int n t n t')
  have e : ((List.range vs.toArray.size).all fun _ => true) = true := List.all_eq_true.mpr fun _ _ => rfl
  rw [e] at this; exact this
end
end Mine
end
section
open PySem PySem.W PyProof.Rows
set_option Elab.async false
namespace Mine
section
variable {prog : Program} {w : World} {A : Around} {E : Value → Shared → Prop} {s : Shared} {mg mb : Str → Option Value} {K : Frag}
theorem enterK (names : List Str) {fa : Addr} {name qual : Str} {params : Arguments} {body : List Stmt} {scope : Scope} {dV kV doc pm cdv ct oc : Value} {an od : Option Addr} {osl : Array (Option Value)} {args : List Value} {Q : Value → Shared → Prop}
    (G : Gd (fun a o => K.lookup a = some o) mg mb s.heap) (hf : K.lookup fa = some ⟨oc, od, .func (fnD name qual params body scope dV kV doc pm an cdv ct), osl⟩) (hcd : codeIn K cdv qual = true)
    {n : Nat} (r : Rm A (n + 1))
    (hb : bindArgs (fnD name qual params body scope dV kV doc pm an cdv ct) ⟨args, []⟩ = pure (names.zip args)) (hloc : (names.all fun x => decide (scope.names.lookup x = some .local)) = true)
    (hcell : (scope.names.all fun x => x.2 != .cell) = true) (hco : scope.isCoroutine = false) (hgen : scope.isGenerator = false) (hk : scope.kind = .function)
    (h : ∀ (E' : Value → Shared → Prop) L s' m, m = (fun x => (names.zip args).reverse.lookup x) → L = s.heap.objs.size → St true s (fun b o => s.heap.get? b = some o) L m [] s' → GdH (fun a o => K.lookup a = some o) mg mb (fun b o => s.heap.get? b = some o) → Rm (A.deeper (envOf qual scope L fa cdv)) n →
      wpAny (model prog w) (A.deeper (envOf qual scope L fa cdv)) (execs body (envOf qual scope L fa cdv)) (retK Q) E' s') :
    wpAny (model prog w) A (call (.ref fa) args) Q E s :=
  enter G (by have := r.dep; omega) hf (codeRec_of (fun a o e => G.X a o e) hcd) hb (fun x hx => of_decide_eq_true (List.all_eq_true.mp hloc x.1 (List.of_mem_zip hx).1)) (fun x hx => by
    have := List.all_eq_true.mp hcell x hx
    simpa using this) hco hgen hk (fun E' L s' hL S => h E' L s' _ rfl hL S G.toH (r.deeper _))
end
end Mine
end
section
open PySem PySem.W PyProof.Rows
set_option Elab.async false
namespace Mine
/-- the cells of a frame, owned -/
def CellsOwn (cm : Str → Option Value) : List (Str × Addr) → List (Addr × Obj) → Prop
  | [], σ => σ = []
  | (n, c) :: cs, σ => ∃ o σ', σ = (c, o) :: σ' ∧ o.data = .cell (cm n) ∧ CellsOwn cm cs σ'
section
variable {k : Bool} {prog : Program} {w : World} {A : Around} {E : Value → Shared → Prop} {s₀ s : Shared} {H : Addr → Obj → Prop} {L : Addr} {m : Str → Option Value} {σ : List (Addr × Obj)} {env : Env} {mg mb : Str → Option Value} {K : Frag}
theorem cells_own {cm : Str → Option Value} {h : Heap} : ∀ {cs : List (Str × Addr)}, (∀ n c, (n, c) ∈ cs → h.IsCell c (cm n)) → ∃ σ, CellsOwn cm cs σ ∧ (∀ p ∈ σ, h.get? p.1 = some p.2) ∧ σ.map (·.1) = cs.map (·.2)
  | [], _ => ⟨[], rfl, (fun p hp => (List.not_mem_nil hp).elim), rfl⟩
  | (n, c) :: cs, hc => by
    obtain ⟨σ, h1, h2, h3⟩ := cells_own (cs := cs) fun n c hm => hc n c (List.mem_cons_of_mem _ hm)
    obtain ⟨o, ho, hd⟩ := hc n c List.mem_cons_self
    refine ⟨(c, o) :: σ, ⟨o, σ, rfl, hd, h1⟩, fun p hp => ?_, by simp [h3]⟩
    rcases List.mem_cons.mp hp with rfl | hp
    · exact ho
    · exact h2 p hp
theorem lookup_of_nodup : ∀ {l : List (Str × Addr)}, (l.map (·.1)).Nodup → ∀ {n : Str} {c : Addr}, (n, c) ∈ l → l.lookup n = some c
  | [], _, _, _, h => (List.not_mem_nil h).elim
  | (a, b) :: l, hn, n, c, h => by
    rw [List.map_cons, List.nodup_cons] at hn
    rcases List.mem_cons.mp h with e | h
    · cases e; simp
    · have hne : n ≠ a := fun e => hn.1 (e ▸ List.mem_map.mpr ⟨(n, c), h, rfl⟩)
      rw [List.lookup_cons, show (n == a) = false from beq_eq_false_iff_ne.mpr hne]
      exact lookup_of_nodup hn.2 h
theorem cellsFrom_keys : ∀ (names : List (Str × NameKind)) (i : Nat) (acc : List (Str × Addr)), (cellsFrom i names acc).map (·.1) = ((names.filter fun x => x.2 == .cell).map (·.1)).reverse ++ acc.map (·.1)
  | [], _, _ => by simp [cellsFrom]
  | (n, kd) :: r, i, acc => by
    unfold cellsFrom
    by_cases hk : (kd == NameKind.cell) = true
    · rw [if_pos hk, cellsFrom_keys r, List.filter_cons_of_pos (by simpa using hk)]; simp
    · rw [if_neg hk, cellsFrom_keys r, List.filter_cons_of_neg (by simpa using hk)]
/-- enter a def with cells -/
theorem enterC (names : List Str) {fa : Addr} {name qual : Str} {params : Arguments} {body : List Stmt} {scope : Scope} {dV kV doc pm cdv ct oc : Value} {an od : Option Addr} {osl : Array (Option Value)} {args : List Value} {Q : Value → Shared → Prop}
    (G : Gd (fun a o => K.lookup a = some o) mg mb s.heap) (hf : K.lookup fa = some ⟨oc, od, .func (fnD name qual params body scope dV kV doc pm an cdv ct), osl⟩) (hcd : codeIn K cdv qual = true)
    {n : Nat} (r : Rm A (n + 1))
    (hb : bindArgs (fnD name qual params body scope dV kV doc pm an cdv ct) ⟨args, []⟩ = pure (names.zip args))
    (hloc : ∀ L : Nat, (names.all fun x => decide (scope.names.lookup x = some .local) || (decide (scope.names.lookup x = some .cell) && ((cellsFrom (L + 1) scope.names []).lookup x).isSome)) = true)
    (hnd : ((scope.names.filter fun x => x.2 == .cell).map (·.1)).Nodup)
    (hco : scope.isCoroutine = false) (hgen : scope.isGenerator = false) (hk : scope.kind = .function)
    (h : ∀ (E' : Value → Shared → Prop) L s' m cm σ, m = bindL (envOfC qual scope L fa cdv).kindOf (names.zip args) (fun _ => none) → cm = bindC (envOfC qual scope L fa cdv).kindOf (names.zip args) (fun _ => none) →
      CellsOwn cm (cellsFrom (L + 1) scope.names []) σ → St true s (fun b o => s.heap.get? b = some o) L m σ s' → GdH (fun a o => K.lookup a = some o) mg mb (fun b o => s.heap.get? b = some o) → Rm (A.deeper (envOfC qual scope L fa cdv)) n →
      wpAny (model prog w) (A.deeper (envOfC qual scope L fa cdv)) (execs body (envOfC qual scope L fa cdv)) (retK Q) E' s') :
    wpAny (model prog w) A (call (.ref fa) args) Q E s := by
  have hlook : ∀ (L : Nat) n c, (n, c) ∈ cellsFrom (L + 1) scope.names [] → (cellsFrom (L + 1) scope.names []).lookup n = some c := fun L n c hm => lookup_of_nodup (by
    rw [cellsFrom_keys, List.map_nil, List.append_nil]
    exact List.pairwise_reverse.mpr (hnd.imp Ne.symm)) hm
  refine wpAny_call (codeAny_call_cells (fd := fnD name qual params body scope dV kV doc pm an cdv ct) (by have := r.dep; show A.depth < 1000; omega) (G.X _ _ hf) rfl G.lim (codeRec_of (fun a o e => G.X a o e) hcd) rfl hb rfl (fun x hx => ?_) (fun s₁ X => ?_) hco hgen hk)
  · have := List.all_eq_true.mp (hloc s.heap.objs.size) x.1 (List.of_mem_zip hx).1
    rw [Bool.or_eq_true, Bool.and_eq_true, decide_eq_true_eq, decide_eq_true_eq] at this
    exact this
  · obtain ⟨σ, c1, c2, c3⟩ := cells_own (cm := bindC (envOfC qual scope s.heap.objs.size fa cdv).kindOf (names.zip args) (fun _ => none)) (h := s₁.heap) (cs := cellsFrom (s.heap.objs.size + 1) scope.names []) fun n c hm => X.cell n c (hlook _ n c hm)
    obtain ⟨h', tk, rfl, hkeep⟩ := X.done
    have fresh : ∀ b, s.heap.objs.size ≤ b → s.heap.get? b = none := fun b hb => by
      cases e : s.heap.get? b with
      | none => rfl
      | some o => exact absurd (Heap.lt_size e) (Nat.not_lt.mpr hb)
    have above : ∀ p ∈ σ, s.heap.objs.size < p.1 := fun p hp => by
      have hm : p.1 ∈ (cellsFrom (s.heap.objs.size + 1) scope.names []).map (·.2) := by rw [← c3]; exact List.mem_map.mpr ⟨p, hp, rfl⟩
      obtain ⟨⟨n, c⟩, hq, e⟩ := List.mem_map.mp hm
      rw [← e]; exact X.above n c hq
    have S : St true s (fun b o => s.heap.get? b = some o) s.heap.objs.size (bindL (envOfC qual scope s.heap.objs.size fa cdv).kindOf (names.zip args) (fun _ => none)) σ { s with heap := h', toks := tk } := by
      refine ⟨⟨rfl, rfl, rfl⟩, X.toInCall.ns, hkeep, fun _ o e => ?_, fun p hp => ⟨c2 p hp, Nat.ne_of_gt (above p hp), fun o e => ?_⟩, ?_⟩
      · rw [fresh _ (Nat.le_refl _)] at e; cases e
      · rw [fresh _ (Nat.le_of_lt (above p hp))] at e; cases e
      · rw [c3]
        have := X.apart
        exact (List.pairwise_map.mpr this)
    refine wpAny_mono (h _ s.heap.objs.size _ _ _ σ rfl rfl c1 S G.toH (r.deeper _)) (fun fl s' h' => ?_) fun _ _ x => x
    cases fl <;> exact h'
theorem r_cell {x : Str} {pos : Pos} {c : Addr} {o : Obj} {v : Value} {Q : Value → Shared → Prop} (hc : (env.scope.kind == .function && env.scope.names.lookup x == some .cell && !(x == ("__debug__" : Str))) = true)
    (hl : env.cells.lookup x = some c) (ho : s.heap.get? c = some o) (hd : o.data = .cell (some v)) (h : Q v s) : wpAny (model prog w) A (eval (.Name x pos) env) Q E s := by
  simp only [Bool.and_eq_true, beq_iff_eq, Bool.not_eq_true'] at hc
  exact wpAny_Name (wpAny_loadName_cell hc.1.1 hc.1.2 hl ⟨o, ho, hd⟩ h) hc.2
theorem r_storeC {x : Str} {v : Value} {c : Addr} {o : Obj} {v₀ : Option Value} {σ₁ σ₂ : List (Addr × Obj)} {Q : Unit → Shared → Prop} (S : St k s₀ H L m (σ₁ ++ (c, o) :: σ₂) s) (hd : o.data = .cell v₀) (hl : env.cells.lookup x = some c)
    (hc : (env.scope.kind == .function && env.scope.names.lookup x == some .cell) = true) (h : ∀ o' s', o'.data = .cell (some v) → St k s₀ H L m (σ₁ ++ (c, o') :: σ₂) s' → Q () s') : wpAny (model prog w) A (storeName env x v) Q E s := by
  simp only [Bool.and_eq_true, beq_iff_eq] at hc
  have ho := S.get (a := c) (o := o) (by simp)
  refine wpAny_storeName_cell hc.1 hc.2 hl ⟨o, ho, hd⟩ fun h' hi hs => ?_
  obtain ⟨o', ho', hd'⟩ := hi
  exact h o' _ hd' (S.turn (tk := s.toks) (fun b x hb e => hs.extBut b x hb e) ho')
end
end Mine
end
section
open PySem PySem.W PyProof.Rows
set_option Elab.async false
namespace Mine
abbrev dct0 : Obj := { cls := .type "dict", data := .dict #[] }
section
variable {k : Bool} {prog : Program} {w : World} {A : Around} {E : Value → Shared → Prop} {s₀ s : Shared} {H : Addr → Obj → Prop} {L : Addr} {m : Str → Option Value} {σ : List (Addr × Obj)} {env : Env}
  {Q : Value → Shared → Prop}
/-- {} -/
theorem e_dict0 {pos : Pos} (S : St k s₀ H L m σ s) (h : ∀ D s', s.heap.get? D = none → St k s₀ H L m ((D, dct0) :: σ) s' → Q (.ref D) s') : wpAny (model prog w) A (eval (.Dict [] [] pos) env) Q E s :=
  wpAny_Dict_empty (h _ _ (get_size_none _) (S.add (Kp.push s _) (get_size_none _) (Heap.get?_push_size _ rfl)))
/-- what is known behind {key: value} -/
def DictK (prog : Program) (w : World) (k : Bool) (s₀ : Shared) (H : Addr → Obj → Prop) (L : Addr) (Q : Value → Shared → Prop) (D : Addr) (kv vv : Value) (s₃ : Shared) : Prop :=
  ∃ (key : Str) (t : Tok) (σ' : List (Addr × Obj)) (m' : Str → Option Value), kv = .str key t ∧ St k s₀ H L m' ((D, dct0) :: σ') s₃ ∧
    ∀ o s', o.cls = .type "dict" → o.IsDictOf (PySem.strKind prog w) [(key, vv)] → St k s₀ H L m' ((D, o) :: σ') s' → Q (.ref D) s'
theorem DictK.mk {D : Addr} {key : Str} {t : Tok} {vv : Value} (S : St k s₀ H L m ((D, dct0) :: σ) s) (h : ∀ o s', o.cls = .type "dict" → o.IsDictOf (PySem.strKind prog w) [(key, vv)] → St k s₀ H L m ((D, o) :: σ) s' → Q (.ref D) s') : DictK prog w k s₀ H L Q D (.str key t) vv s :=
  ⟨key, t, σ, m, rfl, S, h⟩
theorem e_dict1 {ke ve : Expr} {pos : Pos} (S : St k s₀ H L m σ s)
    (h : ∀ D s₁, St k s₀ H L m ((D, dct0) :: σ) s₁ → wpAny (model prog w) A (eval ke env) (fun kv s₂ => wpAny (model prog w) A (eval ve env) (fun vv s₃ => DictK prog w k s₀ H L Q D kv vv s₃) E s₂) E s₁) :
    wpAny (model prog w) A (eval (.Dict [some ke] [ve] pos) env) Q E s := by
  refine wpAny_Dict_walk (knd := PySem.strKind prog w) rfl rfl (by simp) (by simp) ?_
  refine pairTrees_cons_walk (wpAny_mono (h s.heap.objs.size _ (S.add (Kp.push s _) (get_size_none _) (Heap.get?_push_size _ rfl))) (fun kv s₂ h₂ => wpAny_mono h₂ (fun vv s₃ h₃ => pairTrees_nil_walk ?_) fun _ _ e => e) fun _ _ e => e)
  obtain ⟨key, t, σ', m', rfl, S', hq⟩ := h₃
  have g := S'.get (a := s.heap.objs.size) (o := dct0) List.mem_cons_self
  refine ⟨[(key, vv)], ⟨by simp [PySem.strKind, Value.isStrOf], rfl, trivial⟩, (Heap.DictOf.new (knd := PySem.strKind prog w) s.heap).at fun o e => ?_, fun h' hd hs => ?_⟩
  · rw [Heap.get?_push_size _ rfl] at e; cases e; exact g
  · obtain ⟨o, ho, hi⟩ := Heap.dictOf_iff.mp hd
    have hm : merged [] [(key, vv)] = [(key, vv)] := by simp [merged, stored]
    rw [hm] at hi
    obtain ⟨es, ep, he, r⟩ := id hi
    exact hq o _ he.1 hi (S'.turn (σ₁ := []) (fun b x hb e => hs.extBut b x hb e) ho)
theorem paired_right {α β : Type} {F : β → Prop} : ∀ {l : List α} {r : List β}, Paired (fun _ y => F y) l r → ∀ y ∈ r, F y
  | _, _, .nil => fun _ h => (List.not_mem_nil h).elim
  | _, _, .cons h r => fun y hy => by
    rcases List.mem_cons.mp hy with rfl | hy
    · exact h
    · exact paired_right r y hy
theorem walks_lt {I : Addr} {fp wr : List Addr} {n : Nat} {P : Nat → Value → Prop} {Ti : Nat → Heap → Prop} (W : Walks prog w A I fp wr n P Ti) : Walks prog w A I fp wr n (fun i v => i < n ∧ P i v) Ti :=
  ⟨W.sub, W.frame, fun i s Q E hi st hQ => W.item i s Q E hi st fun v h' tk hP => hQ v h' tk ⟨hi, hP⟩, W.done, W.self⟩
/-- what is known behind a list of n items -/
def RangePost (k : Bool) (s₀ : Shared) (H : Addr → Obj → Prop) (L : Addr) (m : Str → Option Value) (σ : List (Addr × Obj)) (n : Int) (F : Value → Prop) (v : Value) (s' : Shared) : Prop :=
  ∃ D ys c, v = .ref D ∧ ys.length = n.toNat ∧ (∀ y ∈ ys, F y) ∧ St k s₀ H L m ((D, lst ys c) :: σ) s'
/-- [elt for x in range(n)]: what is true of each item -/
theorem comp_range {elt : Expr} {x : Str} {scope : Scope} {cl : List (Str × Addr)} {n : Int} {t : Tok} (F : Value → Prop)
    (S : St k s₀ H L m σ s) (hh : A.handled = none) (h0 : 0 ≤ n) (hn : n ≤ 1000)
    (turn : ∀ (E' : Value → Shared → Prop) C (i : Nat) u m₃ s₃, (i : Int) < n → (∀ b o, s.heap.get? b = some o → s₃.heap.get? b = some o) → St false s₃ (fun b o => s₃.heap.get? b = some o) C m₃ [] s₃ → m₃ x = some (.int i u) →
      wpAny (model prog w) A (eval elt (compEnvC scope cl C env)) (fun y s₄ => F y ∧ Kp s₃ s₄) E' s₃)
    (hQ : ∀ D ys c s', ys.length = n.toNat → (∀ y ∈ ys, F y) → St k s₀ H L m ((D, lst ys c) :: σ) s' → Q (.ref D) s') :
    wpAny (model prog w) A (call (.type "range") [.int n t]) (fun xv s₁ => wpAny (model prog w) A (pyIter xv) (fun it s₂ => ∃ I fp wr n P Ti, it = .ref I ∧ Walks prog w A I fp wr n P Ti ∧ n ≤ sizeLine ∧ Ti 0 s₂.heap ∧ (∀ b ∈ fp, b < s₂.heap.objs.size) ∧
      QuietOnC prog w A env scope cl x [] elt wr P (fun _ => true) (fun _ y => F y) s₂ ∧
      (∀ D h' tk ys (vs : List Value), s₂.heap.get? D = none → h'.IsList D ys → h'.PlainList D ys → vs.length = n → (∀ j v, vs[j]? = some v → P j v) → Paired (fun _ y => F y) (vs.filter fun _ => true) ys.toList →
        (∀ b o, b ∉ wr → s₂.heap.get? b = some o → h'.get? b = some o) → Q (.ref D) { s₂ with heap := h', toks := tk })) E s₁) E s := by
  refine call_range_1 (wpAny_pyIter_range (IsRange.new ..) (small_one (by decide) (by decide) (by omega) (by omega)) ?_)
  let s1 : Shared := { s with heap := s.heap.push { cls := .type "range", data := .fields #[.int 0 s.toks, .int n t, .int 1 (s.toks + 1)] }, toks := s.toks + 1 + 1 }
  have K1 : Kp s s1 := (Kp.push s _).trans (Kp.tok _ _)
  have nI := get_size_none s1.heap
  have ne : ∀ b o, s.heap.get? b = some o → b ∉ [s1.heap.objs.size] := fun b o e hm => by
    rcases List.mem_cons.mp hm with rfl | hm
    · rw [K1.keep _ _ e] at nI; cases nI
    · cases hm
  refine ⟨_, _, _, n.toNat, _, _, rfl, walks_lt (Walks.range hh _ 0 1 n.toNat), by rw [sizeLine_eq]; omega, ?_, ?_, ⟨?_, ?_⟩, ?_⟩
  · have e1 : (0 + ((0 : Nat) : Int) * 1) = 0 := by simp
    have e2 : ((n.toNat : Int) - ((0 : Nat) : Int)) = Builtin.Range.rangeSize 0 n 1 := by rw [range_size]; simp
    show IsRangeIter _ _ (0 + ((0 : Nat) : Int) * 1) ((n.toNat : Int) - ((0 : Nat) : Int)) 1
    rw [e1, e2]
    exact Heap.get?_push_size _ rfl
  · intro b hb
    rcases List.mem_cons.mp hb with rfl | hb
    · exact Nat.lt_of_lt_of_eq (Nat.lt_succ_self s1.heap.objs.size) (Heap.size_push s1.heap _).symm
    · cases hb
  · intro C i v s₃ m₃ E' _ _ _ _ _ _
    exact wpAny_tests_nil ⟨rfl, (Kp.refl _).toKeeps⟩
  · intro C i v s₃ m₃ E' hCs hP _ hn hm hk _
    obtain ⟨hi, u, rfl⟩ := hP
    exact wpAny_mono (turn E' C i u m₃ s₃ (by omega) (fun b o e => hk b o (ne b o e) (Heap.get?_push_of_some _ (K1.keep b o e))) (startR hn) (by simpa using hm)) (fun y s₄ h₄ => ⟨h₄.1, h₄.2.toKeeps⟩) fun _ _ e => e
  · intro D h' tk ys vs hD _ hpl hlen hP hF hk
    obtain ⟨c, hpl⟩ := hpl
    have kp : Kp s { s with heap := h', toks := tk } := Kp.mk' fun b o e => hk b o (ne b o e) (Heap.get?_push_of_some _ (K1.keep b o e))
    have hD' : s.heap.get? D = none := by
      cases e : s.heap.get? D with
      | none => rfl
      | some o => rw [show ((s1.heap.push _).get? D = some o) from Heap.get?_push_of_some _ (K1.keep _ _ e)] at hD; cases hD
    refine hQ D ys.toList c _ ?_ ?_ (S.add kp hD' (by simpa using hpl))
    · rw [← hF.length, List.filter_eq_self.mpr fun _ _ => rfl, hlen]
    · exact paired_right hF
/-- ''.join(e) -/
theorem e_join {x : Str} {kk : Nat} {e : Expr} {p apos pos : Pos} (S : St k s₀ H L m σ s) (hline : (apos.endLine == pos.line) = true)
    (h : ∀ t s₁, St k s₀ H L m σ s₁ → wpAny (model prog w) A (eval e env) (fun v s₂ => wpAny (model prog w) A (call (.builtin "str.join") [.str x t, v]) Q E s₂) E s₁)
    (hbase : attributeBase (.Constant (.str x) kk p) (Str.ofString "join") env (eval (.Constant (.str x) kk p) env) = eval (.Constant (.str x) kk p) env := by with_unfolding_all rfl) (hs : starEach [e] env = [(false, eval e env)] := by with_unfolding_all rfl) :
    wpAny (model prog w) A (eval (.Call (.Attribute (.Constant (.str x) kk p) (Str.ofString "join") apos) [e] [] pos) env) Q E s := by
  refine Call_method1 hbase hs hline (r_str S fun t s₁ S₁ => ?_)
  refine ⟨"str", "str.join", F.plainAttrs_str, F.slot_str_join, F.type_str_join, typeIs_str _ _ _, (fun a e => by cases e), ?_⟩
  exact Calls.callWith_builtin rfl (Calls.evalArgs_plain (Calls.spliced_cons (wpAny_mono (h t s₁ S₁) (fun y s₂ h₂ => Calls.spliced_nil h₂) fun _ _ e => e)))
def IsOne (v : Value) : Prop := ∃ c t, v = .str ⟨#[c]⟩ t
theorem ones_of : ∀ {ys : List Value}, (∀ y ∈ ys, IsOne y) → ∃ l : List (Str × Tok), strValues l = ys ∧ ((l.map (·.1)).map (·.length)).sum = ys.length ∧ l.length = ys.length
  | [], _ => ⟨[], rfl, rfl, rfl⟩
  | y :: ys, h => by
    obtain ⟨l, h1, h2, h3⟩ := ones_of (ys := ys) fun y hy => h y (List.mem_cons_of_mem _ hy)
    obtain ⟨c, t, rfl⟩ := h y List.mem_cons_self
    refine ⟨(⟨#[c]⟩, t) :: l, ?_, ?_, by simp [h3]⟩
    · simp only [strValues, List.map_cons] at h1 ⊢; rw [h1]
    · simp only [List.map_cons, List.sum_cons, List.length_cons, h2]
      show 1 + ys.length = ys.length + 1
      omega
theorem r_join {D : Addr} {ys : List Value} {t : Tok} (S : St k s₀ H L m σ s) (hl : s.heap.IsList D ys.toArray) (hys : ∀ y ∈ ys, IsOne y) (hlen : ys.length ≤ 1000) (h : ∀ x t' s', x.length ≤ ys.length → St k s₀ H L m σ s' → Q (.str x t') s') :
    wpAny (model prog w) A (call (.builtin "str.join") [.str (Str.ofString "") t, .ref D]) Q E s := by
  obtain ⟨l, h1, h2, h3⟩ := ones_of hys
  refine SC.join (l := l) (by rw [h1]; exact hl) rfl (joinOk_of_weight (by rw [h2, List.length_map, h3]; omega) (by decide)) fun t' kk => h _ _ _ ?_ (S.kp (Kp.tok s kk))
  have e := StrLaws.join_length_le (Str.ofString "") (l.map (·.1))
  rw [h2] at e
  have z : (Str.ofString "").length = 0 := by decide
  rw [z] at e
  show (Builtin.Str.glued (Str.ofString "") (l.map (·.1))).length ≤ _
  rw [StrLaws.glued_eq_join]
  omega
end
end Mine
end
section
namespace Mine
/-- the row behind one more letter -/
def nextF (r : Nat → Int) (w : List Nat) (c : Nat) : Nat → Int
  | 0 => r 0 + 1
  | k + 1 => min (nextF r w c k + 1) (min (r (k + 1) + 1) (r k + if w.getD k 0 = c then 0 else 1))
/-- least of the first n + 1 -/
theorem nextF_ge (r : Nat → Int) (w : List Nat) (c : Nat) (m : Int) (n : Nat) (h : ∀ j, j ≤ n → m ≤ r j) : ∀ j, j ≤ n → m ≤ nextF r w c j
  | 0, _ => by have := h 0 (by omega); unfold nextF; omega
  | k + 1, hk => by
    have h1 := nextF_ge r w c m n h k (by omega)
    have h2 := h (k + 1) hk
    have h3 := h k (by omega)
    unfold nextF
    split <;> omega
end Mine
end
section
namespace Mine
/-- the beginnings of the words of W -/
def Begs (W : List Nat → Prop) (p : List Nat) : Prop := p = [] ∨ ∃ w, W w ∧ p <+: w
theorem Begs.closed {W : List Nat → Prop} {p : List Nat} {c : Nat} (h : Begs W (p ++ [c])) : Begs W p := by
  rcases h with h | ⟨w, hw, hp⟩
  · simp at h
  · exact .inr ⟨w, hw, (List.prefix_append p [c]).trans hp⟩
theorem prefix_snoc {p q : List Nat} (h : p <+: q) (hne : p ≠ q) : ∃ c, p ++ [c] <+: q := by
  obtain ⟨t, rfl⟩ := h
  cases t with
  | nil => simp at hne
  | cons c t => exact ⟨c, t, by simp⟩
theorem snoc_prefix_inj {p q : List Nat} {c d : Nat} (h1 : p ++ [c] <+: q) (h2 : p ++ [d] <+: q) : c = d := by
  obtain ⟨t, rfl⟩ := h1
  obtain ⟨u, e⟩ := h2
  simp only [List.append_assoc, List.singleton_append, List.append_cancel_left_eq, List.cons.injEq] at e
  exact e.1.symm
/-- how many of ks go on from p and pass the test -/
def cnt (ok : List Nat → Bool) (ks : List (List Nat)) (p : List Nat) : Nat := ks.countP fun q => p.isPrefixOf q && ok q
theorem cnt_zero {ok : List Nat → Bool} (anti : ∀ p c, ok (p ++ [c]) = true → ok p = true) {ks : List (List Nat)} {p : List Nat} (h : ok p = false) : cnt ok ks p = 0 := by
  have key' : ∀ (t p : List Nat), ok (p ++ t) = true → ok p = true := by
    intro t
    induction t with
    | nil => intro p h; simpa using h
    | cons c t ih => intro p h; exact anti _ c (ih (p ++ [c]) (by simpa using h))
  have key := fun t => key' t p
  unfold cnt
  rw [List.countP_eq_zero]
  intro q _ hq
  rw [Bool.and_eq_true, List.isPrefixOf_iff_prefix] at hq
  obtain ⟨⟨t, rfl⟩, h2⟩ := hq
  rw [key t h2] at h; cases h
theorem sum_ind {cs : List Nat} (hnd : cs.Nodup) (P : Nat → Bool) (uni : ∀ c d, P c = true → P d = true → c = d) : (cs.map fun c => if P c then 1 else 0).sum = if cs.any P then 1 else 0 := by
  induction cs with
  | nil => rfl
  | cons c cs ih =>
    rw [List.nodup_cons] at hnd
    rw [List.map_cons, List.sum_cons, ih hnd.2, List.any_cons]
    cases hc : P c with
    | false => simp
    | true =>
      have : cs.any P = false := by
        rw [List.any_eq_false]
        intro d hd hp
        exact hnd.1 (uni c d hc hp ▸ hd)
      simp [this]
theorem cnt_step {ok : List Nat → Bool} {ks : List (List Nat)} {p : List Nat} {cs : List Nat} (hnd : ks.Nodup) (hp : p ∈ ks) (hok : ok p = true) (hcs : cs.Nodup) (hk : ∀ q ∈ ks, p <+: q → p ≠ q → ∃ c ∈ cs, p ++ [c] <+: q) :
    cnt ok ks p = 1 + (cs.map fun c => cnt ok ks (p ++ [c])).sum := by
  have one : ∀ q, (p ≠ q → p <+: q → ∃ c ∈ cs, p ++ [c] <+: q) → (if (p.isPrefixOf q && ok q) = true then 1 else 0) = (if p = q then 1 else 0) + (cs.map fun c => if ((p ++ [c]).isPrefixOf q && ok q) = true then 1 else 0).sum := by
    intro q hq
    rw [sum_ind hcs (fun c => (p ++ [c]).isPrefixOf q && ok q) (fun c d h1 h2 => by
      simp only [Bool.and_eq_true, List.isPrefixOf_iff_prefix] at h1 h2
      exact snoc_prefix_inj h1.1 h2.1)]
    by_cases e : p = q
    · subst e
      have h1 : cs.any (fun c => (p ++ [c]).isPrefixOf p && ok p) = false := by
        rw [List.any_eq_false]
        intro c _ h
        simp only [Bool.and_eq_true, List.isPrefixOf_iff_prefix] at h
        have := h.1.length_le
        simp at this
        omega
      rw [h1, if_pos rfl]
      have h2 : p.isPrefixOf p = true := List.isPrefixOf_iff_prefix.mpr (List.prefix_refl p)
      simp [h2, hok]
    · rw [if_neg e]
      by_cases hpq : p <+: q
      · obtain ⟨c, hc, hcq⟩ := hq e hpq
        have h2 : p.isPrefixOf q = true := List.isPrefixOf_iff_prefix.mpr hpq
        cases ho : ok q with
        | false => simp
        | true =>
          have h1 : cs.any (fun c => (p ++ [c]).isPrefixOf q && true) = true := List.any_eq_true.mpr ⟨c, hc, by simp only [Bool.and_true, List.isPrefixOf_iff_prefix]; exact hcq⟩
          rw [h1]; simp [h2]
      · have h2 : p.isPrefixOf q = false := by rw [← Bool.not_eq_true, List.isPrefixOf_iff_prefix]; exact hpq
        have h1 : cs.any (fun c => (p ++ [c]).isPrefixOf q && ok q) = false := by
          rw [List.any_eq_false]
          intro c _ h
          simp only [Bool.and_eq_true, List.isPrefixOf_iff_prefix] at h
          exact hpq ((List.prefix_append p [c]).trans h.1)
        rw [h1]; simp [h2]
  have cnt_sum : ∀ (q : List Nat) (ks : List (List Nat)), cnt ok ks q = (ks.map fun x => if (q.isPrefixOf x && ok x) = true then 1 else 0).sum := by
    intro q ks
    induction ks with
    | nil => rfl
    | cons x ks ih =>
      show List.countP _ (x :: ks) = _
      rw [List.countP_cons, List.map_cons, List.sum_cons, Nat.add_comm, ← ih]; rfl
  have swap : ∀ ks : List (List Nat), (cs.map fun c => cnt ok ks (p ++ [c])).sum = (ks.map fun x => (cs.map fun c => if ((p ++ [c]).isPrefixOf x && ok x) = true then 1 else 0).sum).sum := by
    intro ks
    induction ks with
    | nil =>
      show (cs.map fun c => 0).sum = 0
      clear one hk hcs
      induction cs with
      | nil => rfl
      | cons c cs ih => rw [List.map_cons, List.sum_cons, ih]; rfl
    | cons x ks ih =>
      rw [List.map_cons, List.sum_cons, ← ih]
      clear one hk hcs ih
      induction cs with
      | nil => rfl
      | cons c cs ih =>
        rw [List.map_cons, List.sum_cons, List.map_cons, List.sum_cons, List.map_cons, List.sum_cons, ih]
        have : cnt ok (x :: ks) (p ++ [c]) = (if ((p ++ [c]).isPrefixOf x && ok x) = true then 1 else 0) + cnt ok ks (p ++ [c]) := by
          show List.countP _ (x :: ks) = _
          rw [List.countP_cons, Nat.add_comm]; rfl
        rw [this]; omega
  have ones : ∀ ks : List (List Nat), ks.Nodup → (ks.map fun x => if p = x then 1 else 0).sum = if p ∈ ks then 1 else 0 := by
    intro ks
    induction ks with
    | nil => intro _; rfl
    | cons x ks ih =>
      intro h
      rw [List.nodup_cons] at h
      rw [List.map_cons, List.sum_cons, ih h.2]
      by_cases e : p = x
      · subst e; simp [h.1]
      · simp [e]
  rw [cnt_sum, swap]
  have tot : ∀ ks : List (List Nat), (∀ q ∈ ks, p <+: q → p ≠ q → ∃ c ∈ cs, p ++ [c] <+: q) → (ks.map fun x => if (p.isPrefixOf x && ok x) = true then 1 else 0).sum = (ks.map fun x => if p = x then 1 else 0).sum + (ks.map fun x => (cs.map fun c => if ((p ++ [c]).isPrefixOf x && ok x) = true then 1 else 0).sum).sum := by
    intro ks
    induction ks with
    | nil => intro _; rfl
    | cons x ks ih =>
      intro h
      rw [List.map_cons, List.sum_cons, List.map_cons, List.sum_cons, List.map_cons, List.sum_cons, ih fun q hq => h q (List.mem_cons_of_mem _ hq), one x fun h1 h2 => h x List.mem_cons_self h2 h1]
      omega
  rw [tot ks hk, ones ks hnd, if_pos hp]
theorem nodup_len (a : Nat) : ∀ (m : Nat) (l : List Nat), l.Nodup → (∀ c ∈ l, a ≤ c ∧ c < a + m) → l.length ≤ m
  | 0, l, _, h => by
    cases l with
    | nil => simp
    | cons c l => have := h c List.mem_cons_self; omega
  | m + 1, l, nd, h => by
    have ih := nodup_len a m (l.erase (a + m)) (nd.erase _) fun c hc => by
      have h1 := h c (List.mem_of_mem_erase hc)
      have h2 : c ≠ a + m := fun e => by
        subst e
        exact (List.Nodup.not_mem_erase nd) hc
      omega
    have := List.length_erase (a := a + m) (l := l)
    split at this <;> omega
end Mine
end
section
namespace Mine
/-- one list of signs ahead of another -/
def Lt (a b : List Nat) : Prop := a < b
theorem Lt.irrefl (a : List Nat) : ¬ Lt a a := List.lt_irrefl a
theorem Lt.trans {a b c : List Nat} (h : Lt a b) (h' : Lt b c) : Lt a c := List.lt_trans h h'
theorem Lt.asymm {a b : List Nat} (h : Lt a b) : ¬ Lt b a := fun h' => Lt.irrefl a (h.trans h')
theorem Lt.tri (a b : List Nat) : Lt a b ∨ a = b ∨ Lt b a := by
  induction a generalizing b with
  | nil => cases b with
    | nil => exact .inr (.inl rfl)
    | cons y b => exact .inl (List.nil_lt_cons _ _)
  | cons x a ih => cases b with
    | nil => exact .inr (.inr (List.nil_lt_cons _ _))
    | cons y b =>
      rcases Nat.lt_trichotomy x y with h | rfl | h
      · exact .inl (List.cons_lt_cons_iff.mpr (.inl h))
      · rcases ih b with h | rfl | h
        · exact .inl (List.cons_lt_cons_iff.mpr (.inr ⟨rfl, h⟩))
        · exact .inr (.inl rfl)
        · exact .inr (.inr (List.cons_lt_cons_iff.mpr (.inr ⟨rfl, h⟩)))
      · exact .inr (.inr (List.cons_lt_cons_iff.mpr (.inl h)))
theorem Lt.app (p : List Nat) {a b : List Nat} (h : Lt a b) : Lt (p ++ a) (p ++ b) := by
  induction p with
  | nil => exact h
  | cons x p ih => exact List.cons_lt_cons_iff.mpr (.inr ⟨rfl, ih⟩)
theorem Lt.longer (p : List Nat) (c : Nat) (r : List Nat) : Lt p (p ++ c :: r) := by
  have := Lt.app p (List.nil_lt_cons c r)
  simpa using this
theorem Lt.fork (p : List Nat) {c d : Nat} (h : c < d) (r r' : List Nat) : Lt (p ++ c :: r) (p ++ d :: r') := Lt.app p (List.cons_lt_cons_iff.mpr (.inl h))
/-- two rising lists of the same items are one -/
theorem rising_eq : ∀ {l l' : List (List Nat)}, l.Pairwise Lt → l'.Pairwise Lt → (∀ q, q ∈ l ↔ q ∈ l') → l = l'
  | [], [], _, _, _ => rfl
  | [], b :: l', _, _, h => absurd ((h b).mpr List.mem_cons_self) (by simp)
  | a :: l, [], _, _, h => absurd ((h a).mp List.mem_cons_self) (by simp)
  | a :: l, b :: l', h1, h2, h => by
    rw [List.pairwise_cons] at h1 h2
    have hab : a = b := by
      rcases List.mem_cons.mp ((h a).mp List.mem_cons_self) with e | ha
      · exact e
      · rcases List.mem_cons.mp ((h b).mpr List.mem_cons_self) with e | hb
        · exact e.symm
        · exact absurd (h2.1 a ha) (h1.1 b hb).asymm
    subst hab
    have := rising_eq h1.2 h2.2 fun q => by
      constructor
      · intro hq
        rcases List.mem_cons.mp ((h q).mp (List.mem_cons_of_mem _ hq)) with rfl | hq'
        · exact absurd (h1.1 q hq) (Lt.irrefl q)
        · exact hq'
      · intro hq
        rcases List.mem_cons.mp ((h q).mpr (List.mem_cons_of_mem _ hq)) with rfl | hq'
        · exact absurd (h2.1 q hq) (Lt.irrefl q)
        · exact hq'
    rw [this]
/-- a list without doubles, rising in the weak sense, rises -/
theorem rising_of {l : List (List Nat)} (nd : l.Nodup) (h : l.Pairwise fun a b => ¬ Lt b a) : l.Pairwise Lt := by
  refine (nd.and h).imp fun {a b} hab => ?_
  rcases Lt.tri a b with h | rfl | h
  · exact h
  · exact absurd rfl hab.1
  · exact absurd h hab.2
theorem Nlt.trans {a b c : List Nat} (h : ¬ Lt b a) (h' : ¬ Lt c b) : ¬ Lt c a := fun q => by
  rcases Lt.tri a b with h1 | rfl | h1
  · exact h' (q.trans h1)
  · exact h' q
  · exact h h1
end Mine
end
section
open PySem PySem.W PyProof.Rows
set_option Elab.async false
namespace Mine
section
variable {k : Bool} {prog : Program} {w : World} {A : Around} {E : Value → Shared → Prop} {s₀ s : Shared} {H : Addr → Obj → Prop} {L : Addr} {m : Str → Option Value} {σ : List (Addr × Obj)} {env : Env}
  {Q : Value → Shared → Prop}
theorem push2_St {o1 o2 : Obj} (S : St k s₀ H L m σ s) (h2 : o2.isFreed = false) : s.heap.get? (s.heap.push o1).objs.size = none ∧ St k s₀ H L m (((s.heap.push o1).objs.size, o2) :: σ) { s with heap := (s.heap.push o1).push o2 } := by
  have S1 := S.kp (Kp.push s o1)
  have hn : (s.heap.push o1).get? (s.heap.push o1).objs.size = none := get_size_none _
  refine ⟨?_, S1.add (Kp.push { s with heap := s.heap.push o1 } o2) hn (Heap.get?_push_size _ h2)⟩
  cases e : s.heap.get? (s.heap.push o1).objs.size with
  | none => rfl
  | some o => rw [Heap.get?_push_of_some o1 e] at hn; cases hn
/-- l[j:], l a list -/
def SlLst (k : Bool) (s₀ : Shared) (H : Addr → Obj → Prop) (L : Addr) (Q : Value → Shared → Prop) (o u : Value) (s₂ : Shared) : Prop :=
  ∃ (l : Addr) (vs : List Value) (j : Int) (tj : Tok) (m : Str → Option Value) (σ : List (Addr × Obj)), o = .ref l ∧ u = .int j tj ∧ 0 ≤ j ∧ s₂.heap.IsList l vs.toArray ∧ vs.length ≤ sizeLine ∧ St k s₀ H L m σ s₂ ∧ ∀ D s', s₂.heap.get? D = none → St k s₀ H L m ((D, lst (vs.drop j.toNat) 0) :: σ) s' → Q (.ref D) s'
theorem e_slice_from {value lo : Expr} {p pos : Pos} (_S : St k s₀ H L m σ s)
    (h : wpAny (model prog w) A (eval value env) (fun o s₁ => wpAny (model prog w) A (eval lo env) (fun u s₂ => SlLst k s₀ H L Q o u s₂) E s₁) E s)
    (ht : ∀ o r, letTemporaryGo value o r = pure () := by intro _ _; with_unfolding_all rfl) : wpAny (model prog w) A (eval (.Subscript value (.Slice (some lo) none none p) pos) env) Q E s := by
  refine Subscript_Slice (wpAny_mono h (fun o s₁ h₁ => wpAny_Slice (evalPart_some_step (wpAny_mono h₁ (fun u s₂ h₂ => evalPart_none_step (evalPart_none_step ?_)) fun _ _ x => x))) fun _ _ x => x) ht
  obtain ⟨l, vs, j, tj, m, σ, rfl, rfl, h0, hl, hz, S, hq⟩ := h₂
  refine ⟨"list", _, list_getitem_lookup, Heap.IsList.typeIs (s := { s₂ with heap := s₂.heap.push { cls := .type "slice", data := .fields #[.int j tj, .none, .none] } }) (hl.push _), wpAny_getItem_list_slice (hl.push _) (Heap.IsSliceOf.new ..) (.int j tj) .none .none (by simp) ?_ (by simpa using hz)⟩
  have e : slicePick vs.toArray (some j) none none = (vs.drop j.toNat).toArray := by
    have := slicePick_from' vs.toArray j.toNat
    rw [show ((j.toNat : Nat) : Int) = j by omega] at this
    simpa using this
  rw [e]
  have P := push2_St (o1 := { cls := .type "slice", data := .fields #[.int j tj, .none, .none] }) (o2 := lst (vs.drop j.toNat) 0) S rfl
  exact hq _ _ P.1 P.2
/-- l[i:j] -/
def SlTwo (k : Bool) (s₀ : Shared) (H : Addr → Obj → Prop) (L : Addr) (Q : Value → Shared → Prop) (o u v : Value) (s₂ : Shared) : Prop :=
  ∃ (l : Addr) (vs : List Value) (i : Int) (ti : Tok) (j : Int) (tj : Tok) (m : Str → Option Value) (σ : List (Addr × Obj)), o = .ref l ∧ u = .int i ti ∧ v = .int j tj ∧ s₂.heap.IsList l vs.toArray ∧ vs.length ≤ sizeLine ∧ St k s₀ H L m σ s₂ ∧ ∀ (D : Addr) (ws : List Value) (s' : Shared), ws.length ≤ vs.length → (∀ v ∈ ws, v ∈ vs) → s₂.heap.get? D = none → St k s₀ H L m ((D, lst ws 0) :: σ) s' → Q (.ref D) s'
theorem e_slice_two {value lo hi : Expr} {p pos : Pos} (_S : St k s₀ H L m σ s)
    (h : wpAny (model prog w) A (eval value env) (fun o s₁ => wpAny (model prog w) A (eval lo env) (fun u s₂ => wpAny (model prog w) A (eval hi env) (fun v s₃ => SlTwo k s₀ H L Q o u v s₃) E s₂) E s₁) E s)
    (ht : ∀ o r, letTemporaryGo value o r = pure () := by intro _ _; with_unfolding_all rfl) : wpAny (model prog w) A (eval (.Subscript value (.Slice (some lo) (some hi) none p) pos) env) Q E s := by
  refine Subscript_Slice (wpAny_mono h (fun o s₁ h₁ => wpAny_Slice (evalPart_some_step (wpAny_mono h₁ (fun u s₂ h₂ => evalPart_some_step (wpAny_mono h₂ (fun v s₃ h₃ => evalPart_none_step ?_) fun _ _ x => x)) fun _ _ x => x))) fun _ _ x => x) ht
  obtain ⟨l, vs, i, ti, j, tj, m, σ, rfl, rfl, rfl, hl, hz, S, hq⟩ := h₃
  refine ⟨"list", _, list_getitem_lookup, Heap.IsList.typeIs (s := { s₃ with heap := s₃.heap.push { cls := .type "slice", data := .fields #[.int i ti, .int j tj, .none] } }) (hl.push _), wpAny_getItem_list_slice (hl.push _) (Heap.IsSliceOf.new ..) (.int i ti) (.int j tj) .none (by simp) ?_ (by simpa using hz)⟩
  have e := slicePick_plain vs.toArray (some i) (some j)
  rw [e]
  have P := push2_St (o1 := { cls := .type "slice", data := .fields #[.int i ti, .int j tj, .none] }) (o2 := lst ((vs.drop ((some i).elim 0 (clipAt vs.toArray.size))).take ((some j).elim vs.toArray.size (clipAt vs.toArray.size) - (some i).elim 0 (clipAt vs.toArray.size))) 0) S rfl
  exact hq _ _ _ (by rw [List.length_take, List.length_drop]; omega) (fun v hv => List.mem_of_mem_drop (List.mem_of_mem_take hv)) P.1 P.2
-- insert
theorem mapSeq_insert (vs : List Value) (n j : Nat) (v : Value) : ∃ n', (Obj.mapSeq (fun xs : Array Value => (xs.extract 0 (min j xs.size)).push v ++ xs.extract (min j xs.size)) (lst vs n)) = lst (vs.take j ++ v :: vs.drop j) n' := by
  have e : ((vs.toArray.extract 0 (min j vs.toArray.size)).push v ++ vs.toArray.extract (min j vs.toArray.size)) = (vs.take j ++ v :: vs.drop j).toArray := by
    apply Array.ext'
    simp
    rcases Nat.le_total j vs.length with h | h
    · rw [Nat.min_eq_left h, List.take_of_length_le (l := List.drop j vs) (by simp)]
    · rw [Nat.min_eq_right h, List.drop_of_length_le (Nat.le_refl _), List.drop_of_length_le h, List.take_of_length_le h]; simp
  refine ⟨if ((vs.take j ++ v :: vs.drop j).toArray.size == vs.toArray.size) then n else n + 1, ?_⟩
  show Obj.mk _ _ (Data.seq ((vs.toArray.extract 0 (min j vs.toArray.size)).push v ++ vs.toArray.extract (min j vs.toArray.size)) (if (((vs.toArray.extract 0 (min j vs.toArray.size)).push v ++ vs.toArray.extract (min j vs.toArray.size)).size == vs.toArray.size) then n else n + 1)) _ = _
  rw [e]
theorem r_insert {l : Addr} {vs : List Value} {n : Nat} {v : Value} {i : Int} {u : Tok} {σ₁ σ₂ : List (Addr × Obj)} (S : St k s₀ H L m (σ₁ ++ (l, lst vs n) :: σ₂) s) (h0 : 0 ≤ i) (h1 : i ≤ 1000) (hz : vs.length ≤ sizeLine)
    (h : ∀ n' s', St k s₀ H L m (σ₁ ++ (l, lst (vs.take i.toNat ++ v :: vs.drop i.toNat) n') :: σ₂) s' → Q .none s') : wpAny (model prog w) A (call (.builtin "list.insert") [.ref l, .int i u, v]) Q E s := by
  have hget := S.get (a := l) (o := lst vs n) (by simp)
  obtain ⟨n', hn⟩ := mapSeq_insert vs n i.toNat v
  refine call_meets F.slot_list_insert ⟨_, hget, rfl⟩ F.entry_list_insert (F.args_list_insert_3 _ _ _) (PySem.AutoListH.list_insert_list_int_val_1 l vs.toArray n i u v (by simp [Builtin.List.listFitsIndex]; omega) (by simpa using hz)) ⟨hget, h n' _ (S.turn (tk := s.toks) (fun b x hb e => ?_) ?_)⟩
  · rw [Heap.get?_update_other _ _ (Ne.symm hb)]; exact e
  · rw [← hn]
    simp only [if_neg (show ¬ i < 0 by omega)]
    exact Heap.get?_update_self _ hget rfl
theorem e_insert {x : Str} {e1 e2 : Expr} {p apos pos : Pos} {l : Addr} {vs : List Value} {n : Nat} (S : St k s₀ H L m σ s) (hv : m x = some (.ref l)) (hl : (l, lst vs n) ∈ σ)
    (hc : (env.scope.kind == .function && env.scope.names.lookup x == some .local && !(x == ("__debug__" : Str))) = true) (hline : (apos.endLine == pos.line) = true)
    (h : wpAny (model prog w) A (eval e1 env) (fun v s₂ => wpAny (model prog w) A (eval e2 env) (fun v' s₃ => wpAny (model prog w) A (call (.builtin "list.insert") [.ref l, v, v']) Q E s₃) E s₂) E s) (hL : env.locals = L := by with_unfolding_all rfl)
    (hbase : attributeBase (.Name x p) (Str.ofString "insert") env (eval (.Name x p) env) = eval (.Name x p) env := by with_unfolding_all rfl) (hs : starEach [e1, e2] env = [(false, eval e1 env), (false, eval e2 env)] := by with_unfolding_all rfl) :
    wpAny (model prog w) A (eval (.Call (.Attribute (.Name x p) (Str.ofString "insert") apos) [e1, e2] [] pos) env) Q E s := by
  refine Call_method2 hbase hs hline (r_loc S hv ?_ hc hL)
  have ho := S.get hl
  refine ⟨"list", "list.insert", F.plainAttrs_list, F.slot_list_insert, F.type_list_insert, ⟨_, ho, rfl⟩, fun a e => ?_, ?_⟩
  · cases e; exact ⟨_, ho, rfl⟩
  · exact Calls.callWith_builtin rfl (Calls.evalArgs_plain (Calls.spliced_cons (wpAny_mono h (fun y s₂ h₂ => Calls.spliced_cons (wpAny_mono h₂ (fun z s₃ h₃ => Calls.spliced_nil h₃) fun _ _ e => e)) fun _ _ e => e)))
/-- l + l' -/
theorem r_catl {a b : Addr} {vs ws : List Value} (S : St k s₀ H L m σ s) (hl : s.heap.IsList a vs.toArray) (hb : s.heap.IsList b ws.toArray) (hz : vs.length + ws.length ≤ sizeLine)
    (h : ∀ D s', s.heap.get? D = none → St k s₀ H L m ((D, lst (vs ++ ws) 0) :: σ) s' → Q (.ref D) s') : wpAny (model prog w) A (binaryOp .Add (.ref a) (.ref b)) Q E s := by
  obtain ⟨⟨cls, dd, data, sl⟩, ho, hc, n, hd⟩ := id hl
  obtain ⟨⟨cls2, dd2, data2, sl2⟩, ho2, hc2, n2, hd2⟩ := id hb
  simp only at hc hd hc2 hd2
  subst hc hd hc2 hd2
  have e : vs.toArray ++ ws.toArray = (vs ++ ws).toArray := by simp
  refine concat_meets ⟨_, ho, rfl⟩ ⟨_, ho2, rfl⟩ noFill_list_add seq_list_add PySem.F.slot_list_add PySem.F.entry_list_add (PySem.F.args_list_add_2 _ _) (list_addW a b vs.toArray ws.toArray n n2 dd dd2 sl sl2 (by simpa using hz)) ⟨ho, ho2, ?_⟩
  rw [e]
  exact h _ _ (get_size_none _) (S.add (Kp.push s _) (get_size_none _) (Heap.get?_push_size _ rfl))
/-- two lists of the same items -/
theorem r_eq_same {a b : Addr} {vs : List Value} (hl : s.heap.IsList a vs.toArray) (hb : s.heap.IsList b vs.toArray) (hu : A.units < cLine) (h : Q (.bool true) s) : wpAny (model prog w) A (compareOp .Eq (.ref a) (.ref b)) Q E s :=
  r_eq_all hl hb rfl hu (fun j v u e1 e2 => by rw [e1] at e2; cases e2; exact PySem.SeqAt.EqAt.same v) h
end
end Mine
end
section
open PySem PySem.W PyProof.Rows
set_option Elab.async false
namespace Mine
/-- the names of an object's own dict, at most k -/
def AD (o : Obj) (m : Str → Option Value) (k : Nat) : Prop := ∃ es n, o.data = .dict es n ∧ StrKeys es ∧ (∀ name, nsFind es name = m name) ∧ es.size ≤ k
theorem strKeys_noRef {es : Array DictEntry} (hk : StrKeys es) : es.any (·.refKey) = false := by
  rw [Array.any_eq_false']; intro e he; obtain ⟨n, t, h⟩ := hk e he; simp [DictEntry.refKey, h]
theorem AD.empty : AD emptyDict (fun _ => none) 0 := ⟨#[], 0, rfl, fun _ he => by simp at he, fun _ => rfl, Nat.le_refl _⟩
theorem AD.look {o : Obj} {m : Str → Option Value} {k : Nat} (h : AD o m k) (name : Str) : lookIn name o = some (m name) := by
  obtain ⟨es, n, hd, hk, hm, _⟩ := h
  unfold lookIn
  rw [hd, ← hm name]
  dsimp only
  unfold nsFind findBy
  rw [← Array.find?_toList]
  cases he : es.toList.find? (·.key.isStr name) with
  | some e => rfl
  | none =>
    dsimp only
    rw [if_neg]
    · rfl
    · rw [Array.any_toList, strKeys_noRef hk]; decide
theorem AD.put {o : Obj} {m : Str → Option Value} {k : Nat} (h : AD o m k) (name : Str) (hash : Int) (tk : Tok) (v : Value) : AD (Obj.putName name hash (.str name tk) v o) (upd m name v) (if (m name).isSome then k else k + 1) := by
  obtain ⟨es, ep, hd, hk, hm, hs⟩ := h
  obtain ⟨c, d, dt, sl⟩ := o
  subst hd
  cases hi : es.findIdx? (·.key.isStr name) with
  | some i =>
    refine ⟨_, ep, by simp only [Obj.putName_eq, Obj.putNameByArray, hi]; rfl, hk.modify _ _, fun x => ?_, by rw [Array.size_modify]; split <;> omega⟩
    show _ = if x = name then some v else m x
    rw [← hm]; exact findBy_modify (fun n v => v.isStr n) Value.isStr_inj es name x v i hi
  | none =>
    have hno : m name = none := by
      rw [← hm name]
      unfold nsFind findBy
      rw [Array.findIdx?_eq_none_iff] at hi
      rw [Array.find?_eq_none.mpr fun x hx => by simpa using hi x hx]
      rfl
    rw [hno]
    refine ⟨_, ep + 1, by simp only [Obj.putName_eq, Obj.putNameByArray, hi]; rfl, hk.push _ _ _ _, fun x => ?_, by rw [Array.size_push]; simp; omega⟩
    show _ = if x = name then some v else m x
    rw [← hm]
    exact findBy_push (fun n v => v.isStr n) es name x _ _ v (fun y => by
      show (name == y) = decide (y = name)
      by_cases h : y = name
      · subst h; simp
      · have : ¬ name = y := fun e => h e.symm
        simp [h, this]) hi
theorem AD.le {o : Obj} {m : Str → Option Value} {k k' : Nat} (h : AD o m k) (e : k ≤ k') : AD o m k' := by
  obtain ⟨es, n, h1, h2, h3, h4⟩ := h
  exact ⟨es, n, h1, h2, h3, Nat.le_trans h4 e⟩
theorem AD.data {o : Obj} {m : Str → Option Value} {k : Nat} (h : AD o m k) : ∃ (es : List DictEntry) (n : Nat), o.data = .dict es.toArray n ∧ es.length ≤ k := by
  obtain ⟨es, n, hd, _, _, hs⟩ := h
  exact ⟨es.toList, n, by rw [hd], by simpa using hs⟩
section
variable {k : Bool} {prog : Program} {w : World} {A : Around} {E : Value → Shared → Prop} {s₀ s : Shared} {H : Addr → Obj → Prop} {L : Addr} {m : Str → Option Value} {σ : List (Addr × Obj)} {env : Env}
  {Q : Value → Shared → Prop} {K : Frag} {C : Addr} {mg mb : Str → Option Value}
/-- what a class leaves to its objects -/
structure Plain (K : Frag) (C : Addr) : Prop where
  ga : findIn K (.ref C) "__getattribute__" = some (some (.builtin "object.__getattribute__"))
  sa : findIn K (.ref C) "__setattr__" = some (some (.builtin "object.__setattr__"))
  over : plainOver K C = true
  hd : (clsIn K C).any (·.hasDict) = true
theorem inst_at {x dx : Addr} {od : Obj} {h : Heap} (h1 : h.get? x = some (instObj C dx)) (h2 : h.get? dx = some od) : InstAt h x (instObj C dx) C (some od) := ⟨h1, rfl, rfl, h2⟩
/-- x.name, a name of the object's own -/
theorem get_attr {x dx : Addr} {od : Obj} {mo : Str → Option Value} {kk : Nat} {name : Str} {v : Value} {expr : Bool} (P : Plain K C) (X : K.In s.heap) (h1 : s.heap.get? x = some (instObj C dx)) (h2 : s.heap.get? dx = some od) (hd : AD od mo kk) (hv : mo name = some v)
    (hf : findIn K (.ref C) name = some none) (hh : handedIn v = true) (h : Q v { s with toks := s.toks + 1 }) : wpAny (model prog w) A (getAttr (.ref x) name expr) Q E s := by
  refine get_value X (inst_at h1 h2) P.ga ?_ hh h
  obtain ⟨cd, hc, hcd⟩ := any_some P.hd
  unfold findObj
  rw [hc, hf]
  simp only [Option.bind_some]
  unfold W.ownOf
  rw [if_pos hcd]
  dsimp only
  rw [hd.look, hv]
  rfl
/-- x.name = v -/
theorem set_attr {x dx : Addr} {od : Obj} {mo : Str → Option Value} {kk : Nat} {name : Str} {v : Value} {σ₁ σ₂ : List (Addr × Obj)} {Q : Unit → Shared → Prop} (P : Plain K C) (S : St k s₀ H L m (σ₁ ++ (dx, od) :: σ₂) s) (X : ∀ s' : Shared, (∀ b o, H b o → s'.heap.get? b = some o) → K.In s'.heap)
    (h1 : s.heap.get? x = some (instObj C dx)) (hd : AD od mo kk) (hk : kk ≤ 100) (ht : takerIn K C name = some none)
    (h : ∀ od' s', AD od' (upd mo name v) (if (mo name).isSome then kk else kk + 1) → St k s₀ H L m (σ₁ ++ (dx, od') :: σ₂) s' → Q () s') : wpAny (model prog w) A (setAttr (.ref x) name v) Q E s := by
  have X0 := X s S.keep
  have h2 := S.get (a := dx) (o := od) (by simp)
  refine set_plain X0 (inst_at h1 h2) P.sa ?_
  refine osa_open (s := { s with toks := s.toks + 1 }) X0 (inst_at h1 h2) P.over ht fun b => ?_
  obtain ⟨cd, hc, hd'⟩ := any_some P.hd
  refine wpAny_bind (wpAny_pure (wpAny_bind (wpAny_bind (wpAny_loadPart h1 (wpAny_bind ((looks_clsIn (h := s.heap) X0 hc) _ _ _ _ (fun _ _ e => e) ?_))))))
  rw [hd']
  refine wpAny_pure (a := some dx) (wpAny_bind (wpAny_pure (wpAny_bind ?_)))
  unfold nsSet
  refine wpAny_bind (wpAny_bind (wpAny_askSetting (wpAny_pure (wpAny_bind (wpAny_mkText (wpAny_bind (wpAny_loadPart h2 ?_)))))))
  obtain ⟨es₀, n₀, q, hk0, hm0, hs0⟩ := id hd
  rw [q]
  dsimp only
  have c : (!es₀.any (·.key.isStr name) && es₀.any (·.refKey)) = false := by rw [strKeys_noRef hk0, Bool.and_false]
  rw [aRefKeyMayBeTheName_at, c]
  have hp := hd.put name (PyData.keyHash w.params name) (s.toks + 1) v
  have hfr : (Obj.putName name (PyData.keyHash w.params name) (.str name (s.toks + 1)) v od).isFreed = false := by
    obtain ⟨es, n, e, _⟩ := hp; exact Obj.isFreed_of_dict e
  have D' := Heap.get?_update_self (h := s.heap) (Obj.putName name (PyData.keyHash w.params name) (.str name (s.toks + 1)) v) h2 hfr
  refine wpAny_updatePart h2 ?_
  obtain ⟨es, n, e', hs⟩ := hp.data
  refine wpAny_bind (wpAny_lookBehind D' (by rw [e']; exact pastItsLine_dict (by rw [List.size_toArray, sizeLine_eq]; split at hs <;> omega)) ?_)
  exact wpAny_pure (h _ _ hp (S.turn (fun b x hb e => by rw [Heap.get?_update_other _ _ (Ne.symm hb)]; exact e) D'))
end
end Mine
end
section
open PySem PySem.W PyProof.Rows
set_option Elab.async false
namespace Mine
/-- all of s but what is owned -/
def Hm (s : Shared) (σ : List (Addr × Obj)) : Addr → Obj → Prop := fun b o => s.heap.get? b = some o ∧ b ∉ σ.map (·.1)
/-- σ became σ', all else stayed -/
structure Gv (s : Shared) (σ σ' : List (Addr × Obj)) (s' : Shared) : Prop where
  same : Same s s'
  keep : ∀ b o, s.heap.get? b = some o → b ∉ σ.map (·.1) → s'.heap.get? b = some o
  own : ∀ p ∈ σ', s'.heap.get? p.1 = some p.2 ∧ (p.1 ∈ σ.map (·.1) ∨ s.heap.get? p.1 = none)
  nd : (σ'.map (·.1)).Nodup
section
variable {k : Bool} {prog : Program} {w : World} {A : Around} {E : Value → Shared → Prop} {s₀ s s' : Shared} {H : Addr → Obj → Prop} {L : Addr} {m : Str → Option Value} {σ σ' ρ : List (Addr × Obj)} {env : Env} {K : Frag} {mg mb : Str → Option Value}
theorem St.gv (S : St k s (Hm s σ) L m σ' s') : Gv s σ σ' s' := by
  refine ⟨S.same, fun b o e n => S.keep b o ⟨e, n⟩, fun p hp => ⟨(S.own p hp).1, ?_⟩, S.nd⟩
  cases e : s.heap.get? p.1 with
  | none => exact .inr rfl
  | some o =>
    refine .inl ?_
    by_cases q : p.1 ∈ σ.map (·.1)
    · exact q
    · exact absurd ⟨e, q⟩ ((S.own p hp).2.2 o)
theorem Gv.of_kp (kp : Kp s s') (hσ : ∀ p ∈ σ, s.heap.get? p.1 = some p.2) (nd : (σ.map (·.1)).Nodup) : Gv s σ σ s' := ⟨kp.same, fun b o e _ => kp.keep b o e, fun p hp => ⟨kp.keep _ _ (hσ p hp), .inl (List.mem_map.mpr ⟨p, hp, rfl⟩)⟩, nd⟩
theorem Gv.perm {σ₁ σ₁' : List (Addr × Obj)} (g : Gv s σ σ₁ s') (h : σ₁.Perm σ₁') : Gv s σ σ₁' s' := ⟨g.same, g.keep, fun p hp => g.own p (h.mem_iff.mpr hp), (h.map _).nodup_iff.mp g.nd⟩
theorem Gv.drop {σ₁ σ₁' : List (Addr × Obj)} (g : Gv s σ σ₁ s') (h : σ₁'.Sublist σ₁) : Gv s σ σ₁' s' := ⟨g.same, g.keep, fun p hp => g.own p (h.subset hp), g.nd.sublist (h.map _)⟩
theorem St.swap (S : St k s₀ H L m (σ ++ ρ) s) (g : Gv s σ σ' s') : St k s₀ H L m (σ' ++ ρ) s' := by
  have nd := S.nd
  rw [List.map_append, List.nodup_append] at nd
  have hL : L ∉ σ.map (·.1) := fun hm => by
    obtain ⟨p, hp, e⟩ := List.mem_map.mp hm
    exact (S.own p (List.mem_append_left _ hp)).2.1 e
  have hH : ∀ b o, H b o → b ∉ σ.map (·.1) := fun b o e hm => by
    obtain ⟨p, hp, rfl⟩ := List.mem_map.mp hm
    exact (S.own p (List.mem_append_left _ hp)).2.2 o e
  refine ⟨S.same.trans g.same, ?_, fun b o e => g.keep b o (S.keep b o e) (hH b o e), S.keepL, fun p hp => ?_, ?_⟩
  · obtain ⟨oL, es, ep, hLo, r⟩ := S.ns
    exact ⟨oL, es, ep, g.keep _ _ hLo hL, r⟩
  · rcases List.mem_append.mp hp with hp | hp
    · refine ⟨(g.own p hp).1, fun e => ?_, fun o e => ?_⟩
      · rcases (g.own p hp).2 with h | h
        · exact hL (e ▸ h)
        · obtain ⟨oL, _, _, hLo, _⟩ := S.ns
          rw [e, hLo] at h; cases h
      · rcases (g.own p hp).2 with h | h
        · exact hH _ o e h
        · rw [S.keep _ _ e] at h; cases h
    · have hq := S.own p (List.mem_append_right _ hp)
      exact ⟨g.keep _ _ hq.1 (fun hm => nd.2.2 _ hm _ (List.mem_map.mpr ⟨p, hp, rfl⟩) rfl), hq.2⟩
  · rw [List.map_append, List.nodup_append]
    refine ⟨g.nd, nd.2.1, fun a ha b hb e => ?_⟩
    subst e
    obtain ⟨p, hp, rfl⟩ := List.mem_map.mp ha
    obtain ⟨q, hq, e⟩ := List.mem_map.mp hb
    rcases (g.own p hp).2 with h | h
    · exact nd.2.2 _ h _ hb rfl
    · have := (S.own q (List.mem_append_right _ hq)).1
      rw [e, h] at this; cases this
theorem St.hm {KK : Addr → Obj → Prop} (S : St k s₀ H L m (σ ++ ρ) s) (G : GdH KK mg mb H) : GdH KK mg mb (Hm s σ) := G.mono fun b o e => ⟨S.keep b o e, fun hm => by
  obtain ⟨p, hp, rfl⟩ := List.mem_map.mp hm
  exact (S.own p (List.mem_append_left _ hp)).2.2 o e⟩
theorem St.have_ (S : St k s₀ H L m (σ ++ ρ) s) : (∀ p ∈ σ, s.heap.get? p.1 = some p.2) ∧ (σ.map (·.1)).Nodup := by
  have nd := S.nd
  rw [List.map_append, List.nodup_append] at nd
  exact ⟨fun p hp => (S.own p (List.mem_append_left _ hp)).1, nd.1⟩
/-- enter a def that turns objects of its caller's -/
theorem enterM (names : List Str) (σ : List (Addr × Obj)) {fa : Addr} {name qual : Str} {params : Arguments} {body : List Stmt} {scope : Scope} {dV kV doc pm cdv ct oc : Value} {an od : Option Addr} {osl : Array (Option Value)} {args : List Value} {Q : Value → Shared → Prop}
    (G : GdH (fun a o => K.lookup a = some o) mg mb (Hm s σ)) (hσ : (∀ p ∈ σ, s.heap.get? p.1 = some p.2) ∧ (σ.map (·.1)).Nodup) (hf : K.lookup fa = some ⟨oc, od, .func (fnD name qual params body scope dV kV doc pm an cdv ct), osl⟩) (hcd : codeIn K cdv qual = true)
    {n : Nat} (r : Rm A (n + 1))
    (hb : bindArgs (fnD name qual params body scope dV kV doc pm an cdv ct) ⟨args, []⟩ = pure (names.zip args)) (hloc : (names.all fun x => decide (scope.names.lookup x = some .local)) = true)
    (hcell : (scope.names.all fun x => x.2 != .cell) = true) (hco : scope.isCoroutine = false) (hgen : scope.isGenerator = false) (hk : scope.kind = .function)
    (h : ∀ (E' : Value → Shared → Prop) L s' m, m = (fun x => (names.zip args).reverse.lookup x) → St true s (Hm s σ) L m σ s' → GdH (fun a o => K.lookup a = some o) mg mb (Hm s σ) → Rm (A.deeper (envOf qual scope L fa cdv)) n →
      wpAny (model prog w) (A.deeper (envOf qual scope L fa cdv)) (execs body (envOf qual scope L fa cdv)) (retK Q) E' s') :
    codeAny (model prog w) A (.call (.ref fa) ⟨args, []⟩) (fun r s' => match r with | .ok (.ret v) => Q v s' | .ok _ => False | .error e => E e s') s := by
  have G0 := G s.heap fun b o e => e.1
  have hloc' : ∀ x ∈ names.zip args, scope.names.lookup x.1 = some .local := fun x hx => of_decide_eq_true (List.all_eq_true.mp hloc x.1 (List.of_mem_zip hx).1)
  have hcell' : ∀ x ∈ scope.names, x.2 ≠ .cell := fun x hx => by
    have := List.all_eq_true.mp hcell x hx
    simpa using this
  refine codeAny_call_function (fd := fnD name qual params body scope dV kV doc pm an cdv ct) (by have := r.dep; show A.depth < 1000; omega) (G0.X _ _ hf) rfl hco hgen rfl (codeRec_of (fun a o e => G0.X a o e) hcd) ?_
  rw [hb]
  refine wpAny_pure (wpAny_newFunctionEnv hcell' hloc' (fun h₀ hns₀ hsb₀ => ⟨G0.lim.fresh _ hsb₀, codeAny_func ?_⟩) hk)
  have hk' : ∀ b o, s.heap.get? b = some o → h₀.get? b = some o := fun b o e => hsb₀.extBut b o (Nat.ne_of_lt (Heap.lt_size e)) (Heap.get?_push_of_some _ e)
  refine wpAny_mono (h _ s.heap.objs.size _ _ rfl ⟨⟨rfl, rfl, rfl⟩, hns₀, fun b o e => hk' b o e.1, fun _ o e => ?_, fun p hp => ⟨hk' _ _ (hσ.1 p hp), fun e => ?_, fun o e => e.2 (List.mem_map.mpr ⟨p, hp, rfl⟩)⟩, hσ.2⟩ G (r.deeper _)) (fun fl s' h' => ?_) fun _ _ x => x
  · exact absurd (Heap.lt_size e.1) (Nat.lt_irrefl _)
  · have := Heap.lt_size (hσ.1 p hp); rw [e] at this; exact absurd this (Nat.lt_irrefl _)
  · cases fl <;> exact h'
end
end Mine
end
section
open PySem PySem.W PyProof.Rows
set_option Elab.async false
set_option linter.unusedVariables false
namespace Mine
section
variable {k : Bool} {prog : Program} {w : World} {A : Around} {E : Value → Shared → Prop} {s₀ s s' : Shared} {H : Addr → Obj → Prop} {L : Addr} {m : Str → Option Value} {σ : List (Addr × Obj)} {env : Env} {K : Frag} {mg mb : Str → Option Value} {C : Addr} {Q : Value → Shared → Prop}
/-- o.name, read -/
theorem r_attr {x dx : Addr} {od : Obj} {mo : Str → Option Value} {kk : Nat} {name : Str} {v : Value} {expr : Bool} (S : St k s₀ H L m σ s) (G : GdH (fun a o => K.lookup a = some o) mg mb H) (P : Plain K C) (h1 : s.heap.get? x = some (instObj C dx)) (h2 : s.heap.get? dx = some od) (hd : AD od mo kk) (hv : mo name = some v)
    (hf : findIn K (.ref C) name = some none) (hh : handedIn v = true) (h : ∀ s', St k s₀ H L m σ s' → Q v s') : wpAny (model prog w) A (getAttr (.ref x) name expr) Q E s :=
  get_attr P (S.gd G).X h1 h2 hd hv hf hh (h _ (S.kp (Kp.tok s _)))
/-- o.name = v, as a statement -/
theorem x_setattr {o value : Expr} {attr : Str} {pos' pos : Pos} {rest : List Stmt} {Q : Flow → Shared → Prop}
    (h : wpAny (model prog w) A (eval value env) (fun v s₁ => wpAny (model prog w) A (eval o env) (fun ov s₂ => wpAny (model prog w) A (setAttr ov attr v) (fun _ s₃ => wpAny (model prog w) A (execs rest env) Q E s₃) E s₂) E s₁) E s)
    (hs : swapsWith value (some (.Attribute o attr pos')) pos.line env = pure false := by with_unfolding_all rfl) : wpAny (model prog w) A (execs (.Assign [.Attribute o attr pos'] value pos :: rest) env) Q E s :=
  x_cons (plainObj_wpAny_Assign_Attribute (wpAny_mono h (fun v s₁ h₁ => wpAny_mono h₁ (fun ov s₂ h₂ => wpAny_mono h₂ (fun _ s₃ h₃ => h₃) fun _ _ x => x) fun _ _ x => x) fun _ _ x => x) hs)
/-- what is known of a method's object -/
def MethK (prog : Program) (w : World) (A : Around) (E : Value → Shared → Prop) (K : Frag) (pos : Pos) (trees : List (Bool × Sem Value)) (name : Str) (Q : Value → Shared → Prop) (ov : Value) (s₁ : Shared) : Prop :=
  ∃ x ox C od f, ov = .ref x ∧ K.In s₁.heap ∧ InstAt s₁.heap x ox C (some od) ∧ findIn K (.ref C) "__getattribute__" = some (some (.builtin "object.__getattribute__")) ∧ findIn K (.ref C) "__getattr__" = some none ∧
    findIn K (.ref C) name = some (some (.ref f)) ∧ typeIn K (.ref f) = some (.type "function") ∧ shadowIn (some od) name = some false ∧ wpAny (model prog w) A (callWith pos (.ref f) [.ref x] trees []) Q E s₁
theorem MethK.mk {x dx f : Addr} {od : Obj} {mo : Str → Option Value} {kk : Nat} {pos : Pos} {trees : List (Bool × Sem Value)} {name : Str} (S : St k s₀ H L m σ s) (G : GdH (fun a o => K.lookup a = some o) mg mb H) (P : Plain K C) (h1 : s.heap.get? x = some (instObj C dx)) (h2 : s.heap.get? dx = some od) (hd : AD od mo kk) (hno : mo name = none)
    (hk : findIn K (.ref C) "__getattr__" = some none) (hf : findIn K (.ref C) name = some (some (.ref f))) (ht : typeIn K (.ref f) = some (.type "function")) (h : wpAny (model prog w) A (callWith pos (.ref f) [.ref x] trees []) Q E s) : MethK prog w A E K pos trees name Q (.ref x) s :=
  ⟨x, _, C, od, f, rfl, (S.gd G).X, inst_at h1 h2, P.ga, hk, hf, ht, by unfold shadowIn; dsimp only; rw [hd.look, hno]; rfl, h⟩
/-- o.name(..) -/
theorem e_meth {o : Expr} {name : Str} {apos pos : Pos} {args : List Expr} (pl : Sem Bool)
    (h : wpAny (model prog w) A (eval o env) (fun ov s₁ => MethK prog w A E K pos (backTo pos (starEach args env)) name Q ov s₁) E s)
    (he : eval (.Call (.Attribute o name apos) args [] pos) env = (do
      let ov ← eval o env
      standAt apos.atName
      let (f, first) ← holding [ov] (getMethod ov name pl)
      callWith pos f first (backTo pos (starEach args env)) (backToKw pos (keywordEach [] env))) := by with_unfolding_all rfl) :
    wpAny (model prog w) A (eval (.Call (.Attribute o name apos) args [] pos) env) Q E s := by
  refine methodCall_KW (pl := pl) (wpAny_mono h (fun ov s₁ h₁ => ?_) fun _ _ x => x) he
  obtain ⟨x, ox, C, od, f, rfl, X, I, hga, hk, hf, ht, hs, hc⟩ := h₁
  exact method_fn X I hga hk hf ht hs hc
/-- a def called with a first thing -/
theorem e_first {f : Addr} {first : List Value} {pos : Pos} {e : Expr} {rest : List Expr} (hk : keepIn K (.ref f) = true) (X : K.In s.heap) (h : wpAny (model prog w) A (spliced (backTo pos (starEach (e :: rest) env))) (fun vs s₁ => K.In s₁.heap ∧ wpAny (model prog w) A (call (.ref f) (first ++ vs)) Q E s₁) E s)
    (he : starEach (e :: rest) env = (false, eval e env) :: starEach rest env := by with_unfolding_all rfl) (hplain : (backTo pos (starEach rest env)).any (·.1) = false := by with_unfolding_all rfl) :
    wpAny (model prog w) A (callWith pos (.ref f) first (backTo pos (starEach (e :: rest) env)) []) Q E s := callWith_K X hk h he hplain
theorem e_first0 {f : Addr} {first : List Value} {pos : Pos} (hk : keepIn K (.ref f) = true) (X : K.In s.heap) (h : wpAny (model prog w) A (call (.ref f) (first ++ [])) Q E s) :
    wpAny (model prog w) A (callWith pos (.ref f) first (backTo pos (starEach [] env)) []) Q E s := callWith_K0 X hk h
/-- a class called with nothing: its __init__ gets the new object, whose dict is the caller's to give -/
theorem e_new {x : Str} {p pos : Pos} {fI : Addr} (S : St k s₀ H L m σ s) (G : GdH (fun a o => K.lookup a = some o) mg mb H) (hv : mg x = some (.ref C)) (hk : keepIn K (.ref C) = true) (hm : makesIn K C = true) (hi : findIn K (.ref C) "__init__" = some (some (.ref fI))) (hf : typeIn K (.ref fI) = some (.type "function"))
    (hc : (env.scope.kind == .function && env.scope.names.lookup x == some .globalImplicit && !(x == ("__debug__" : Str))) = true)
    (h : ∀ a d s₁, s.heap.get? a = none → s.heap.get? d = none → d < a → s.heap.objs.size ≤ d → St k s₀ H L m ((a, instObj C d) :: (d, emptyDict) :: σ) s₁ →
      codeAny (model prog w) (A.under (.builtin "type.__call__" ⟨[.ref C], []⟩)) (.call (.ref fI) ⟨[.ref a], []⟩) (InitBack a fun r s' => match r with | .ok (.ret v) => Q v s' | .ok _ => False | .error e => E e s') s₁)
    (hg : env.globals = mainGlobals := by with_unfolding_all rfl) : wpAny (model prog w) A (eval (.Call (.Name x p) [] [] pos) env) Q E s := by
  refine wpAny_Call_NameR (r_glob S G hv ?_ hc hg)
  refine callWith_K0 (S.gd G).X hk (wpAny_call ?_)
  have X := (S.gd G).X
  have hn1 : s.heap.get? s.heap.objs.size = none := get_size_none _
  have S1 := S.add (Kp.push s emptyDict) hn1 (Heap.get?_push_size _ rfl)
  have hn2 : (s.heap.push emptyDict).get? (s.heap.push emptyDict).objs.size = none := get_size_none _
  have S2 := S1.add (Kp.push { s with heap := s.heap.push emptyDict } (instObj C s.heap.objs.size)) hn2 (Heap.get?_push_size _ rfl)
  rw [Heap.size_push] at S2 hn2
  have hn3 : s.heap.get? (s.heap.objs.size + 1) = none := by
    cases e : s.heap.get? (s.heap.objs.size + 1) with
    | none => rfl
    | some o => exact absurd (Heap.lt_size e) (Nat.not_lt.mpr (Nat.le_succ _))
  have key := h _ _ _ hn3 hn1 (Nat.lt_succ_self _) (Nat.le_refl _) S2
  obtain ⟨hh, g, d, t, os⟩ := s
  exact make_core (makes_of X hm) (looks_findIn X hi) (fun self => bind_fn X self hf) (.inl rfl) key
end
end Mine
end
section
open PySem PySem.W PyProof.Rows
set_option Elab.async false
set_option linter.unusedVariables false
namespace Mine
section
variable {k : Bool} {prog : Program} {w : World} {A : Around} {E : Value → Shared → Prop} {s₀ s s' : Shared} {H : Addr → Obj → Prop} {L : Addr} {m : Str → Option Value} {σ : List (Addr × Obj)} {env : Env} {Q : Value → Shared → Prop} {d : Addr} {o : Obj} {kvs : List (Str × Value)} {key : Str} {t : Tok}
/-- a dict with texts as keys -/
abbrev DS (prog : Program) (w : World) (o : Obj) (kvs : List (Str × Value)) : Prop := o.IsDictOf (PySem.strKind prog w) kvs
theorem DS.at {h : Heap} (e : h.get? d = some o) (D : DS prog w o kvs) : h.DictOf (PySem.strKind prog w) d kvs := Heap.dictOf_iff.mpr ⟨o, e, D⟩
theorem DS.empty : DS prog w dct0 [] := ⟨#[], 0, ⟨rfl, rfl, rfl⟩, rfl, fun _ he => by simp at he, Pairs.nil, List.nodup_nil⟩
theorem is_str (key : Str) (t : Tok) : (PySem.strKind prog w).is key (.str key t) = true := strKind_is prog w key t
theorem r_item_dict {value slice : Expr} {v : Value} (S : St k s₀ H L m σ s) (e : s.heap.get? d = some o) (D : DS prog w o kvs) (hv : valueAt kvs key = some v) (h : ∀ s', St k s₀ H L m σ s' → Q v s')
    (hs : subscripted slice false (.ref d) (.str key t) = operate [.ref d, .str key t] (getItem (.ref d) (.str key t)) := by with_unfolding_all rfl) : wpAny (model prog w) A (subscriptTail value slice (.ref d) (.str key t)) Q E s :=
  tail_any (D.at e).typeIs slot_dict_getitem.lookup (wpAny_getItem_of (is_str key t) (D.at e).mapOf hv (h _ (S.kp (Kp.tok s _)))) hs
theorem r_notin_dict (S : St k s₀ H L m σ s) (hd : d ≠ sysModules) (e : s.heap.get? d = some o) (D : DS prog w o kvs) (h : ∀ s', St k s₀ H L m σ s' → Q (.bool (!(valueAt kvs key).isSome)) s') : wpAny (model prog w) A (compareOp .NotIn (.str key t) (.ref d)) Q E s :=
  wpAny_notIn_of (is_str key t) (by simpa using hd) (D.at e).mapOf (h _ (S.kp (Kp.tok s _)))
theorem r_in_dict (S : St k s₀ H L m σ s) (hd : d ≠ sysModules) (e : s.heap.get? d = some o) (D : DS prog w o kvs) (h : ∀ s', St k s₀ H L m σ s' → Q (.bool (valueAt kvs key).isSome) s') : wpAny (model prog w) A (compareOp .In (.str key t) (.ref d)) Q E s :=
  wpAny_in_of (is_str key t) (by simpa using hd) (D.at e).mapOf (h _ (S.kp (Kp.tok s _)))
theorem r_len_dict (S : St k s₀ H L m σ s) (hd : d ≠ sysModules) (e : s.heap.get? d = some o) (D : DS prog w o kvs) (hz : kvs.length ≤ sizeLine) (h : ∀ t s', St k s₀ H L m σ s' → Q (.int kvs.length t) s') : wpAny (model prog w) A (call (.builtin "len") [.ref d]) Q E s :=
  call_len_dict (by simpa using hd) (D.at e) (by rw [sizeLine_eq] at hz; omega) (h _ _ ((S.kp (Kp.tok s _))))
/-- o[i] = v, as a statement -/
theorem x_setitem {oe i value : Expr} {pos' pos : Pos} {rest : List Stmt} {Q : Flow → Shared → Prop}
    (h : wpAny (model prog w) A (eval value env) (fun v s₁ => wpAny (model prog w) A (eval oe env) (fun ov s₂ => wpAny (model prog w) A (eval i env) (fun iv s₃ => wpAny (model prog w) A (setItem ov iv v) (fun _ s₄ => wpAny (model prog w) A (execs rest env) Q E s₄) E s₃) E s₂) E s₁) E s)
    (hs : swapsWith value (some (.Subscript oe i pos')) pos.line env = pure false := by with_unfolding_all rfl) : wpAny (model prog w) A (execs (.Assign [.Subscript oe i pos'] value pos :: rest) env) Q E s :=
  x_cons (wpAny_Assign_Subscript (wpAny_mono h (fun v s₁ h₁ => wpAny_mono h₁ (fun ov s₂ h₂ => wpAny_mono h₂ (fun iv s₃ h₃ => wpAny_mono h₃ (fun _ s₄ h₄ => h₄) fun _ _ x => x) fun _ _ x => x) fun _ _ x => x) fun _ _ x => x) hs)
theorem r_setitem {v : Value} {σ₁ σ₂ : List (Addr × Obj)} {Q : Unit → Shared → Prop} (S : St k s₀ H L m (σ₁ ++ (d, o) :: σ₂) s) (D : DS prog w o kvs) (hz : kvs.length ≤ sizeLine)
    (h : ∀ o' s', DS prog w o' (stored kvs key v) → St k s₀ H L m (σ₁ ++ (d, o') :: σ₂) s' → Q () s') : wpAny (model prog w) A (setItem (.ref d) (.str key t) v) Q E s := by
  have e := S.get (a := d) (o := o) (by simp)
  refine wpAny_setItem_pairs (is_str key t) (D.at e) (fun h' hd hs => ?_) hz
  obtain ⟨o', ho, hi⟩ := Heap.dictOf_iff.mp hd
  exact h o' _ hi (S.turn (fun b x hb e => hs.extBut b x hb e) ho)
theorem r_pop {v : Value} {σ₁ σ₂ : List (Addr × Obj)} (S : St k s₀ H L m (σ₁ ++ (d, o) :: σ₂) s) (D : DS prog w o kvs) (hz : kvs.length ≤ sizeLine) (hv : valueAt kvs key = some v)
    (h : ∀ o' s', DS prog w o' (without kvs key) → St k s₀ H L m (σ₁ ++ (d, o') :: σ₂) s' → Q v s') : wpAny (model prog w) A (call (.builtin "dict.pop") [.ref d, .str key t]) Q E s := by
  have e := S.get (a := d) (o := o) (by simp)
  refine call_meetsIn F.slot_dict_pop (D.at e).typeIs F.entry_dict_pop (F.args_dict_pop_2 _ _) (meets_dict_pop_there (PySem.strKind prog w) d (is_str key t) [] (.inl rfl) rfl) ⟨kvs, v, D.at e, hz, hv, fun h' hd hs => ?_⟩
  obtain ⟨o', ho, hi⟩ := Heap.dictOf_iff.mp hd
  exact h o' _ hi (S.turn (fun b x hb e => hs.extBut b x hb e) ho)
/-- list(d) -/
theorem r_list_dict (S : St k s₀ H L m σ s) (hh : A.handled = none) (hd : d ≠ sysModules) (e : s.heap.get? d = some o) (D : DS prog w o kvs) (hz : kvs.length ≤ sizeLine)
    (h : ∀ a vs c s', vs.length = kvs.length → (∀ (i : Nat) (v : Value), vs[i]? = some v → ∃ k x t, kvs[i]? = some (k, x) ∧ v = .str k t) → s.heap.get? a = none → St k s₀ H L m ((a, lst vs c) :: σ) s' → Q (.ref a) s') : wpAny (model prog w) A (call (.type "list") [.ref d]) Q E s := by
  obtain ⟨ep, hat⟩ := (D.at e).dictAt
  refine kdl_call (kdl_dict (ep := ep) (by simpa using hd)) hh hat hz fun h' tk acc' c' hk hg hI => ?_
  refine h _ acc'.toList c' _ (by rw [Array.length_toList]; exact hI.1) (fun i v hv => ?_) (get_size_none _) (S.add (Kp.mk' hk) (get_size_none _) (by simpa using hg))
  obtain ⟨k, x, hx, hk⟩ := hI.2 i v (by rw [← Array.getElem?_toList]; exact hv)
  obtain ⟨t, rfl⟩ := Value.isStrOf_shape (show Value.isStrOf k v = true from hk)
  exact ⟨k, x, t, hx, rfl⟩
/-- sorted(l), l a list of texts -/
theorem r_sorted {a : Addr} {vs : List Value} {ss : List Str} (S : St k s₀ H L m σ s) (hl : s.heap.IsList a vs.toArray) (hS : StrsAre vs ss) (h64 : vs.length < 64)
    (h : ∀ D vs' ss' c s', StrsAre vs' ss' → ss'.Perm ss → sortedS ss' = true → s.heap.get? D = none → St k s₀ H L m ((D, lst vs' c) :: σ) s' → Q (.ref D) s') : wpAny (model prog w) A (call (.builtin "sorted") [.ref a]) Q E s := by
  refine sorted_strs hl hS h64 fun out ss' a1 a2 a3 => ?_
  obtain ⟨c, hc⟩ := sortedAll_at s.heap vs out
  have hn : s.heap.get? (s.heap.objs.size + 1) = none := by
    cases e : s.heap.get? (s.heap.objs.size + 1) with
    | none => rfl
    | some o => exact absurd (Heap.lt_size e) (Nat.not_lt.mpr (Nat.le_succ _))
  exact h _ out.toList ss' c _ a1 a2 a3 hn (S.add (Kp.mk' (tk := s.toks) fun b o => sortedAll_old) hn (by simpa using hc))
/-- {} -/
theorem e_dict0S {pos : Pos} {KK : Addr → Obj → Prop} {mg mb : Str → Option Value} (S : St k s₀ H L m σ s) (G : GdH KK mg mb H) (h : ∀ D s', s.heap.get? D = none → D ≠ sysModules → St k s₀ H L m ((D, dct0) :: σ) s' → Q (.ref D) s') : wpAny (model prog w) A (eval (.Dict [] [] pos) env) Q E s :=
  wpAny_Dict_empty (h _ _ (get_size_none _) (by
    obtain ⟨mc, p, _⟩ := (S.gd G).lim
    have := p.lt
    intro e
    rw [e] at this
    exact absurd this (by decide)) (S.add (Kp.push s _) (get_size_none _) (Heap.get?_push_size _ rfl)))
end
end Mine
end
section
open PySem PySem.W PyProof.Rows
set_option Elab.async false
set_option linter.unusedVariables false
namespace Mine
/-- a node as it lies in the heap -/
structure NR where
  a : Addr
  d : Addr
  i : Addr
  od : Obj
  oi : Obj
  kept : Bool
  kids : List (Nat × Addr)
def NR.objs (C : Addr) (r : NR) : List (Addr × Obj) := [(r.a, instObj C r.d), (r.d, r.od), (r.i, r.oi)]
def one (c : Nat) : Str := ⟨#[c]⟩
theorem one_inj {c d : Nat} (h : one c = one d) : c = d := by simpa [one] using h
def kvsOf (kids : List (Nat × Addr)) : List (Str × Value) := kids.map fun x => (one x.1, .ref x.2)
def nodeM (kept : Bool) (i : Addr) : Str → Option Value := upd (upd (fun _ => none) (Str.ofString "is_kept") (.bool kept)) (Str.ofString "inner") (.ref i)
theorem nodeM_kept (b : Bool) (i : Addr) : nodeM b i (Str.ofString "is_kept") = some (.bool b) := by
  unfold nodeM; rw [upd_other (by decide +kernel) (upd_same _ _ _)]
theorem nodeM_inner (b : Bool) (i : Addr) : nodeM b i (Str.ofString "inner") = some (.ref i) := upd_same _ _ _
theorem nodeM_set (b b' : Bool) (i : Addr) : upd (nodeM b i) (Str.ofString "is_kept") (.bool b') = nodeM b' i := by
  have hne : (Str.ofString "inner") ≠ Str.ofString "is_kept" := by decide +kernel
  funext y
  unfold nodeM upd
  by_cases h1 : y = Str.ofString "is_kept"
  · subst h1; simp [hne.symm]
  · simp [h1]
structure NOk (prog : Program) (w : World) (r : NR) : Prop where
  ad : AD r.od (nodeM r.kept r.i) 2
  di : DS prog w r.oi (kvsOf r.kids)
  lo : r.i ≠ sysModules
abbrev Trie := List (List Nat × NR)
def objsT (C : Addr) (T : Trie) : List (Addr × Obj) := T.flatMap fun x => x.2.objs C
theorem kids_nodup {prog : Program} {w : World} {r : NR} (h : NOk prog w r) : (r.kids.map (·.1)).Nodup := by
  obtain ⟨_, _, _, _, _, _, hn⟩ := h.di
  rw [kvsOf, List.map_map] at hn
  have e : ((fun x : Str × Value => x.1) ∘ fun x : Nat × Addr => (one x.1, Value.ref x.2)) = one ∘ (·.1) := rfl
  rw [e, ← List.map_map] at hn
  exact List.Pairwise.of_map one (fun a b h e => h (by rw [e])) hn
theorem value_kid {kids : List (Nat × Addr)} (hn : (kids.map (·.1)).Nodup) {c : Nat} {b : Addr} (h : (c, b) ∈ kids) : valueAt (kvsOf kids) (one c) = some (.ref b) := by
  induction kids with
  | nil => cases h
  | cons x r ih =>
    rw [List.map_cons, List.nodup_cons] at hn
    unfold kvsOf valueAt
    rw [List.map_cons, List.find?_cons]
    rcases List.mem_cons.mp h with rfl | h
    · simp
    · have hne : ¬ one x.1 = one c := fun e => hn.1 (by rw [one_inj e]; exact List.mem_map.mpr ⟨_, h, rfl⟩)
      simp only [hne, decide_false]
      exact ih hn.2 h
theorem value_none {kids : List (Nat × Addr)} {c : Nat} (h : c ∉ kids.map (·.1)) : valueAt (kvsOf kids) (one c) = none := by
  unfold valueAt
  rw [Option.map_eq_none_iff, List.find?_eq_none]
  intro x hx
  obtain ⟨y, hy, rfl⟩ := List.mem_map.mp hx
  simp only [decide_eq_true_eq]
  exact fun e => h (by rw [← one_inj e]; exact List.mem_map.mpr ⟨y, hy, rfl⟩)
/-- the nodes stand at K, the words are W -/
structure Inv (prog : Program) (w : World) (K W : List Nat → Prop) (T : Trie) : Prop where
  nd : (T.map (·.1)).Nodup
  keys : ∀ p, p ∈ T.map (·.1) ↔ K p
  kept : ∀ p r, (p, r) ∈ T → (r.kept = true ↔ W p)
  kin : ∀ p r c b, (p, r) ∈ T → (c, b) ∈ r.kids → ∃ r', (p ++ [c], r') ∈ T ∧ r'.a = b
  kout : ∀ p r c r', (p, r) ∈ T → (p ++ [c], r') ∈ T → (c, r'.a) ∈ r.kids
  ok : ∀ p r, (p, r) ∈ T → NOk prog w r
  cl : ∀ p c, K (p ++ [c]) → K p
  root : K []
  wk : ∀ p, W p → K p
section
variable {prog : Program} {w : World} {K W : List Nat → Prop} {T T₁ T₂ : Trie} {p : List Nat} {r r' : NR} {c : Nat}
theorem Inv.node (I : Inv prog w K W T) (h : K p) : ∃ r, (p, r) ∈ T := by
  obtain ⟨x, hx, rfl⟩ := List.mem_map.mp ((I.keys p).mpr h)
  exact ⟨x.2, hx⟩
theorem Inv.here (I : Inv prog w K W T) (h : (p, r) ∈ T) : K p := (I.keys p).mp (List.mem_map.mpr ⟨_, h, rfl⟩)
theorem nd_inj {T : Trie} (nd : (T.map (·.1)).Nodup) (h : (p, r) ∈ T) (h' : (p, r') ∈ T) : r = r' := by
  induction T with
  | nil => cases h
  | cons x T ih =>
    rw [List.map_cons, List.nodup_cons] at nd
    rcases List.mem_cons.mp h with rfl | h1
    · rcases List.mem_cons.mp h' with e | h2
      · injection e with _ e; exact e.symm
      · exact absurd (List.mem_map.mpr ⟨_, h2, rfl⟩) nd.1
    · rcases List.mem_cons.mp h' with rfl | h2
      · exact absurd (List.mem_map.mpr ⟨_, h1, rfl⟩) nd.1
      · exact ih nd.2 h1 h2
theorem Inv.kidSome (I : Inv prog w K W T) (h : (p, r) ∈ T) (h' : (p ++ [c], r') ∈ T) : valueAt (kvsOf r.kids) (one c) = some (.ref r'.a) := value_kid (kids_nodup (I.ok p r h)) (I.kout p r c r' h h')
theorem Inv.kidNone (I : Inv prog w K W T) (h : (p, r) ∈ T) (h' : ¬ K (p ++ [c])) : valueAt (kvsOf r.kids) (one c) = none := value_none fun hm => by
  obtain ⟨x, hx, rfl⟩ := List.mem_map.mp hm
  obtain ⟨r', h1, _⟩ := I.kin p r x.1 x.2 h hx
  exact h' (I.here h1)
theorem Inv.kidIff (I : Inv prog w K W T) (h : (p, r) ∈ T) : c ∈ r.kids.map (·.1) ↔ K (p ++ [c]) := by
  constructor
  · intro hm
    obtain ⟨x, hx, rfl⟩ := List.mem_map.mp hm
    obtain ⟨r', h1, _⟩ := I.kin p r x.1 x.2 h hx
    exact I.here h1
  · intro hk
    obtain ⟨r', h'⟩ := I.node hk
    exact List.mem_map.mpr ⟨_, I.kout p r c r' h h', rfl⟩
theorem mem_split {T : Trie} (h : (p, r) ∈ T) : ∃ T₁ T₂, T = T₁ ++ (p, r) :: T₂ := List.append_of_mem h
theorem objsT_split {C : Addr} : objsT C (T₁ ++ (p, r) :: T₂) = objsT C T₁ ++ ([(r.a, instObj C r.d), (r.d, r.od), (r.i, r.oi)] ++ objsT C T₂) := by
  unfold objsT; rw [List.flatMap_append, List.flatMap_cons]; rfl
theorem repl_keys {r'' : NR} : ((T₁ ++ (p, r'') :: T₂).map (·.1)) = ((T₁ ++ (p, r) :: T₂).map (·.1)) := by simp
/-- an entry is laid anew -/
theorem repl_mem (nd : ((T₁ ++ (p, r) :: T₂).map (·.1)).Nodup) {q : List Nat} {x : NR} : (q, x) ∈ T₁ ++ (p, r') :: T₂ ↔ (q = p ∧ x = r') ∨ (q ≠ p ∧ (q, x) ∈ T₁ ++ (p, r) :: T₂) := by
  rw [List.map_append, List.map_cons, List.nodup_append, List.nodup_cons] at nd
  have n1 : ∀ x, (p, x) ∈ T₁ → False := fun x h => nd.2.2 p (List.mem_map.mpr ⟨_, h, rfl⟩) p List.mem_cons_self rfl
  have n2 : ∀ x, (p, x) ∈ T₂ → False := fun x h => nd.2.1.1 (List.mem_map.mpr ⟨_, h, rfl⟩)
  simp only [List.mem_append, List.mem_cons, Prod.mk.injEq]
  constructor
  · rintro (h | ⟨rfl, rfl⟩ | h)
    · exact .inr ⟨fun e => n1 x (e ▸ h), .inl h⟩
    · exact .inl ⟨rfl, rfl⟩
    · exact .inr ⟨fun e => n2 x (e ▸ h), .inr (.inr h)⟩
  · rintro (⟨rfl, rfl⟩ | ⟨hne, h | ⟨rfl, _⟩ | h⟩)
    · exact .inr (.inl ⟨rfl, rfl⟩)
    · exact .inl h
    · exact absurd rfl hne
    · exact .inr (.inr h)
/-- a word is kept or not -/
theorem Inv.setKept {b : Bool} {od' : Obj} (I : Inv prog w K W (T₁ ++ (p, r) :: T₂)) (hod : AD od' (nodeM b r.i) 2) :
    Inv prog w K (fun q => (q = p ∧ b = true) ∨ (q ≠ p ∧ W q)) (T₁ ++ (p, { r with kept := b, od := od' }) :: T₂) := by
  have hp : (p, r) ∈ T₁ ++ (p, r) :: T₂ := by simp
  have Kp := I.here hp
  have up : ∀ q x, (q, x) ∈ T₁ ++ (p, { r with kept := b, od := od' }) :: T₂ → ∃ y, (q, y) ∈ T₁ ++ (p, r) :: T₂ ∧ y.a = x.a ∧ y.kids = x.kids := fun q x h => by
    rcases (repl_mem I.nd).mp h with ⟨rfl, rfl⟩ | ⟨_, h⟩
    · exact ⟨r, hp, rfl, rfl⟩
    · exact ⟨x, h, rfl, rfl⟩
  have down : ∀ q y, (q, y) ∈ T₁ ++ (p, r) :: T₂ → ∃ x, (q, x) ∈ T₁ ++ (p, { r with kept := b, od := od' }) :: T₂ ∧ x.a = y.a := fun q y h => by
    by_cases e : q = p
    · subst e; obtain rfl := nd_inj I.nd h hp; exact ⟨_, (repl_mem I.nd).mpr (.inl ⟨rfl, rfl⟩), rfl⟩
    · exact ⟨y, (repl_mem I.nd).mpr (.inr ⟨e, h⟩), rfl⟩
  refine ⟨?_, fun q => ?_, fun q x h => ?_, fun q x c b' h hk => ?_, fun q x c x' h h' => ?_, fun q x h => ?_, I.cl, I.root, fun q hq => ?_⟩
  · rw [repl_keys (r := r)]; exact I.nd
  · rw [repl_keys (r := r)]; exact I.keys q
  · rcases (repl_mem I.nd).mp h with ⟨rfl, rfl⟩ | ⟨hne, h⟩
    · simp
    · rw [I.kept q x h]; simp [hne]
  · obtain ⟨y, hy, e1, e2⟩ := up q x h
    obtain ⟨z, hz, ez⟩ := I.kin q y c b' hy (e2 ▸ hk)
    obtain ⟨z', hz', ez'⟩ := down _ z hz
    exact ⟨z', hz', ez'.trans ez⟩
  · obtain ⟨y, hy, e1, e2⟩ := up q x h
    obtain ⟨y', hy', e1', _⟩ := up _ x' h'
    rw [← e2, ← e1']
    exact I.kout q y c y' hy hy'
  · rcases (repl_mem I.nd).mp h with ⟨rfl, rfl⟩ | ⟨_, h⟩
    · have := I.ok _ r hp; exact ⟨hod, this.di, this.lo⟩
    · exact I.ok q x h
  · rcases hq with ⟨rfl, _⟩ | ⟨_, hq⟩
    · exact Kp
    · exact I.wk q hq
/-- a node more -/
theorem Inv.addKid {oi' : Obj} {rn : NR} (I : Inv prog w K W (T₁ ++ (p, r) :: T₂)) (hn : ¬ K (p ++ [c])) (hoi : DS prog w oi' (kvsOf (r.kids ++ [(c, rn.a)]))) (hrn : NOk prog w rn) (hkn : rn.kids = []) (hkk : rn.kept = false) :
    Inv prog w (fun q => K q ∨ q = p ++ [c]) W ((p ++ [c], rn) :: (T₁ ++ (p, { r with oi := oi', kids := r.kids ++ [(c, rn.a)] }) :: T₂)) := by
  have hp : (p, r) ∈ T₁ ++ (p, r) :: T₂ := by simp
  have Kp := I.here hp
  have nsn : ∀ (q : List Nat) (d : Nat), q ≠ q ++ [d] := fun q d e => by have := congrArg List.length e; simp at this
  have mem : ∀ q x, (q, x) ∈ (p ++ [c], rn) :: (T₁ ++ (p, { r with oi := oi', kids := r.kids ++ [(c, rn.a)] }) :: T₂) ↔ (q = p ++ [c] ∧ x = rn) ∨ (q = p ∧ x = { r with oi := oi', kids := r.kids ++ [(c, rn.a)] }) ∨ (q ≠ p ∧ q ≠ p ++ [c] ∧ (q, x) ∈ T₁ ++ (p, r) :: T₂) := fun q x => by
    rw [List.mem_cons, repl_mem I.nd, Prod.mk.injEq]
    constructor
    · rintro (h | h | ⟨h1, h2⟩)
      · exact .inl h
      · exact .inr (.inl h)
      · exact .inr (.inr ⟨h1, fun e => hn (e ▸ I.here h2), h2⟩)
    · rintro (h | h | ⟨h1, _, h2⟩)
      · exact .inl h
      · exact .inr (.inl h)
      · exact .inr (.inr ⟨h1, h2⟩)
  refine ⟨?_, fun q => ?_, fun q x h => ?_, fun q x e b h hk => ?_, fun q x e x' h h' => ?_, fun q x h => ?_, fun q e hq => ?_, .inl I.root, fun q hq => .inl (I.wk q hq)⟩
  · rw [List.map_cons, repl_keys (r := r), List.nodup_cons]
    exact ⟨fun h => hn ((I.keys _).mp h), I.nd⟩
  · rw [List.map_cons, repl_keys (r := r), List.mem_cons, I.keys q]
    exact Or.comm
  · rcases (mem q x).mp h with ⟨rfl, rfl⟩ | ⟨rfl, rfl⟩ | ⟨_, _, h⟩
    · rw [hkk]; exact ⟨fun e => (by cases e), fun e => absurd (I.wk _ e) hn⟩
    · exact I.kept _ r hp
    · exact I.kept q x h
  · have fwd : ∀ e b, (e, b) ∈ r.kids → ∃ z, (p ++ [e], z) ∈ (p ++ [c], rn) :: (T₁ ++ (p, { r with oi := oi', kids := r.kids ++ [(c, rn.a)] }) :: T₂) ∧ z.a = b := fun e b he => by
      obtain ⟨z, hz, ez⟩ := I.kin p r e b hp he
      exact ⟨z, (mem _ _).mpr (.inr (.inr ⟨(nsn p e).symm, fun q => hn (q ▸ I.here hz), hz⟩)), ez⟩
    rcases (mem q x).mp h with ⟨rfl, rfl⟩ | ⟨rfl, rfl⟩ | ⟨h1, h2, h⟩
    · rw [hkn] at hk; cases hk
    · rcases List.mem_append.mp hk with hk | hk
      · exact fwd e b hk
      · obtain ⟨rfl, rfl⟩ : e = c ∧ b = rn.a := by simpa using hk
        exact ⟨rn, List.mem_cons_self, rfl⟩
    · obtain ⟨z, hz, ez⟩ := I.kin q x e b h hk
      by_cases e1 : q ++ [e] = p
      · subst e1
        obtain rfl := nd_inj I.nd hz hp
        exact ⟨_, (mem _ _).mpr (.inr (.inl ⟨rfl, rfl⟩)), ez⟩
      · exact ⟨z, (mem _ _).mpr (.inr (.inr ⟨e1, fun q' => hn (q' ▸ I.here hz), hz⟩)), ez⟩
  · have old : ∀ q' x', (q', x') ∈ (p ++ [c], rn) :: (T₁ ++ (p, { r with oi := oi', kids := r.kids ++ [(c, rn.a)] }) :: T₂) → q' ≠ p ++ [c] → ∃ y, (q', y) ∈ T₁ ++ (p, r) :: T₂ ∧ y.a = x'.a := fun q' x' h' hne => by
      rcases (mem q' x').mp h' with ⟨rfl, _⟩ | ⟨rfl, rfl⟩ | ⟨_, _, h'⟩
      · exact absurd rfl hne
      · exact ⟨r, hp, rfl⟩
      · exact ⟨x', h', rfl⟩
    rcases (mem q x).mp h with ⟨rfl, rfl⟩ | ⟨rfl, rfl⟩ | ⟨h1, h2, h⟩
    · exfalso
      have hK : K (p ++ [c] ++ [e]) := by
        rcases (mem _ _).mp h' with ⟨q1, _⟩ | ⟨q1, _⟩ | ⟨_, _, h'⟩
        · exact absurd q1.symm (nsn _ _)
        · have := congrArg List.length q1; simp at this
        · exact I.here h'
      exact hn (I.cl _ _ hK)
    · by_cases e1 : e = c
      · subst e1
        have : x' = rn := by
          rcases (mem _ _).mp h' with ⟨_, rfl⟩ | ⟨q1, _⟩ | ⟨_, q2, _⟩
          · rfl
          · exact absurd q1.symm (nsn _ _)
          · exact absurd rfl q2
        subst this
        exact List.mem_append_right _ List.mem_cons_self
      · obtain ⟨y, hy, ey⟩ := old _ x' h' (fun q1 => e1 (by simpa using q1))
        exact List.mem_append_left _ (ey ▸ I.kout _ r e y hp hy)
    · obtain ⟨y, hy, ey⟩ := old _ x' h' (fun q1 => h1 (by simpa using (List.append_inj_left' q1 rfl)))
      exact ey ▸ I.kout q x e y h hy
  · rcases (mem q x).mp h with ⟨rfl, rfl⟩ | ⟨rfl, rfl⟩ | ⟨_, _, h⟩
    · exact hrn
    · have := I.ok _ r hp; exact ⟨this.ad, hoi, this.lo⟩
    · exact I.ok q x h
  · rcases hq with hq | hq
    · exact .inl (I.cl q e hq)
    · exact .inl ((List.append_inj_left' hq rfl) ▸ Kp)
/-- a leaf less -/
theorem Inv.cutKid {oi' : Obj} {rc : NR} {U₁ U₂ : Trie} (I : Inv prog w K W (T₁ ++ (p, r) :: T₂)) (hT : T₁ ++ (p, { r with oi := oi', kids := r.kids.filter fun x => decide (x.1 ≠ c) }) :: T₂ = U₁ ++ (p ++ [c], rc) :: U₂) (hoi : DS prog w oi' (kvsOf (r.kids.filter fun x => decide (x.1 ≠ c)))) (hleaf : ∀ d, ¬ K (p ++ [c] ++ [d])) (hw : ¬ W (p ++ [c])) :
    Inv prog w (fun q => K q ∧ q ≠ p ++ [c]) W (U₁ ++ U₂) := by
  have hp : (p, r) ∈ T₁ ++ (p, r) :: T₂ := by simp
  have Kp := I.here hp
  have nsn : ∀ (q : List Nat) (d : Nat), q ≠ q ++ [d] := fun q d e => by have := congrArg List.length e; simp at this
  have nd' : ((U₁ ++ (p ++ [c], rc) :: U₂).map (·.1)).Nodup := by rw [← hT, repl_keys (r := r)]; exact I.nd
  have memU : ∀ q x, (q, x) ∈ U₁ ++ U₂ ↔ q ≠ p ++ [c] ∧ (q, x) ∈ U₁ ++ (p ++ [c], rc) :: U₂ := fun q x => by
    rw [List.map_append, List.map_cons, List.nodup_append, List.nodup_cons] at nd'
    simp only [List.mem_append, List.mem_cons, Prod.mk.injEq]
    constructor
    · rintro (h | h)
      · exact ⟨fun e => nd'.2.2 q (List.mem_map.mpr ⟨_, h, rfl⟩) _ List.mem_cons_self e, .inl h⟩
      · exact ⟨fun e => nd'.2.1.1 (e ▸ List.mem_map.mpr ⟨_, h, rfl⟩), .inr (.inr h)⟩
    · rintro ⟨hne, h | ⟨e, _⟩ | h⟩
      · exact .inl h
      · exact absurd e hne
      · exact .inr h
  have mem : ∀ q x, (q, x) ∈ U₁ ++ U₂ ↔ q ≠ p ++ [c] ∧ ((q = p ∧ x = { r with oi := oi', kids := r.kids.filter fun x => decide (x.1 ≠ c) }) ∨ (q ≠ p ∧ (q, x) ∈ T₁ ++ (p, r) :: T₂)) := fun q x => by
    rw [memU, ← hT, repl_mem I.nd]
  have hpT : (p ++ [c]) ∈ (T₁ ++ (p, r) :: T₂).map (·.1) := by rw [← repl_keys (r'' := { r with oi := oi', kids := r.kids.filter fun x => decide (x.1 ≠ c) }), hT]; simp
  refine ⟨?_, fun q => ?_, fun q x h => ?_, fun q x e b h hk => ?_, fun q x e x' h h' => ?_, fun q x h => ?_, fun q e hq => ?_, ⟨I.root, by simp⟩, fun q hq => ⟨I.wk q hq, fun e => hw (e ▸ hq)⟩⟩
  · exact nd'.sublist ((List.Sublist.append_left (List.sublist_cons_self ..) U₁).map _)
  · constructor
    · intro h
      obtain ⟨x, hx, rfl⟩ := List.mem_map.mp h
      obtain ⟨h1, h2⟩ := (mem x.1 x.2).mp hx
      refine ⟨?_, h1⟩
      rcases h2 with ⟨e, _⟩ | ⟨_, h2⟩
      · exact e ▸ Kp
      · exact I.here h2
    · rintro ⟨hK, hne⟩
      by_cases e : q = p
      · exact List.mem_map.mpr ⟨_, (mem q _).mpr ⟨hne, .inl ⟨e, rfl⟩⟩, rfl⟩
      · obtain ⟨x, hx⟩ := I.node hK
        exact List.mem_map.mpr ⟨_, (mem q x).mpr ⟨hne, .inr ⟨e, hx⟩⟩, rfl⟩
  · rcases (mem q x).mp h with ⟨_, ⟨rfl, rfl⟩ | ⟨_, h⟩⟩
    · exact I.kept _ r hp
    · exact I.kept q x h
  · have fin : ∀ z, (q ++ [e], z) ∈ T₁ ++ (p, r) :: T₂ → q ++ [e] ≠ p ++ [c] → ∃ z', (q ++ [e], z') ∈ U₁ ++ U₂ ∧ z'.a = z.a := fun z hz hne => by
      by_cases e1 : q ++ [e] = p
      · have hz' : (p, z) ∈ T₁ ++ (p, r) :: T₂ := e1 ▸ hz
        obtain rfl := nd_inj I.nd hz' hp
        exact ⟨_, (mem _ _).mpr ⟨hne, .inl ⟨e1, rfl⟩⟩, rfl⟩
      · exact ⟨z, (mem _ _).mpr ⟨hne, .inr ⟨e1, hz⟩⟩, rfl⟩
    rcases (mem q x).mp h with ⟨h0, ⟨rfl, rfl⟩ | ⟨h1, h⟩⟩
    · have hk' := List.mem_filter.mp hk
      obtain ⟨z, hz, ez⟩ := I.kin _ r e b hp hk'.1
      obtain ⟨z', hz', ez'⟩ := fin z hz (fun q1 => by have : e = c := by simpa using q1
                                                      have := of_decide_eq_true hk'.2; contradiction)
      exact ⟨z', hz', ez'.trans ez⟩
    · obtain ⟨z, hz, ez⟩ := I.kin q x e b h hk
      obtain ⟨z', hz', ez'⟩ := fin z hz (fun q1 => h1 (List.append_inj_left' q1 rfl))
      exact ⟨z', hz', ez'.trans ez⟩
  · have old : ∃ y, (q ++ [e], y) ∈ T₁ ++ (p, r) :: T₂ ∧ y.a = x'.a := by
      rcases (mem _ x').mp h' with ⟨_, ⟨q1, rfl⟩ | ⟨_, h'⟩⟩
      · exact ⟨r, q1 ▸ hp, rfl⟩
      · exact ⟨x', h', rfl⟩
    obtain ⟨y, hy, ey⟩ := old
    rcases (mem q x).mp h with ⟨h0, ⟨rfl, rfl⟩ | ⟨h1, h⟩⟩
    · refine List.mem_filter.mpr ⟨ey ▸ I.kout _ r e y hp hy, ?_⟩
      have := ((mem _ x').mp h').1
      simp only [decide_eq_true_eq]
      exact fun q1 => this (by rw [q1])
    · exact ey ▸ I.kout q x e y h hy
  · rcases (mem q x).mp h with ⟨_, ⟨rfl, rfl⟩ | ⟨_, h⟩⟩
    · have := I.ok _ r hp; exact ⟨this.ad, hoi, this.lo⟩
    · exact I.ok q x h
  · exact ⟨I.cl q e hq.1, fun q1 => hleaf e (q1 ▸ hq.1)⟩
end
end Mine
end
section
open PySem PySem.W PyProof.Rows
set_option Elab.async false
set_option linter.unusedVariables false
namespace Mine
section
variable {k : Bool} {prog : Program} {w : World} {A : Around} {E : Value → Shared → Prop} {s₀ s s' : Shared} {H : Addr → Obj → Prop} {L : Addr} {m : Str → Option Value} {σ : List (Addr × Obj)} {env : Env} {Q : Value → Shared → Prop}
/-- a statement that is only reckoned, whatever it gives -/
theorem x_expr_any {e : Expr} {pos : Pos} {rest : List Stmt} {Q : Flow → Shared → Prop} (h : wpAny (model prog w) A (eval e env) (fun _ s' => wpAny (model prog w) A (execs rest env) Q E s') E s)
    (hi : interactive env = false := by with_unfolding_all rfl) (hs : swapsWith e none pos.line env = pure false := by with_unfolding_all rfl) : wpAny (model prog w) A (execs (.Expr e pos :: rest) env) Q E s :=
  x_cons (wpAny_Expr_any h hi hs)
/-- d.pop(e) -/
def PopK (prog : Program) (w : World) (A : Around) (E : Value → Shared → Prop) (env : Env) (e : Expr) (Q : Value → Shared → Prop) (ov : Value) (s₁ : Shared) : Prop :=
  ∃ d o, ov = .ref d ∧ s₁.heap.get? d = some o ∧ o.ExactDict ∧ wpAny (model prog w) A (eval e env) (fun v s₂ => wpAny (model prog w) A (call (.builtin "dict.pop") [.ref d, v]) Q E s₂) E s₁
theorem PopK.mk {e : Expr} {d : Addr} {o : Obj} {kvs : List (Str × Value)} (e1 : s.heap.get? d = some o) (D : DS prog w o kvs) (h : wpAny (model prog w) A (eval e env) (fun v s₂ => wpAny (model prog w) A (call (.builtin "dict.pop") [.ref d, v]) Q E s₂) E s) : PopK prog w A E env e Q (.ref d) s := by
  obtain ⟨_, _, hx, _⟩ := D
  exact ⟨d, o, rfl, e1, hx, h⟩
theorem e_pop {o e : Expr} {apos pos : Pos} (hline : (apos.endLine == pos.line) = true) (h : wpAny (model prog w) A (eval o env) (fun ov s₁ => PopK prog w A E env e Q ov s₁) E s)
    (hbase : attributeBase o (Str.ofString "pop") env (eval o env) = eval o env := by with_unfolding_all rfl) (hs : starEach [e] env = [(false, eval e env)] := by with_unfolding_all rfl) :
    wpAny (model prog w) A (eval (.Call (.Attribute o (Str.ofString "pop") apos) [e] [] pos) env) Q E s := by
  refine Call_method1 hbase hs hline (wpAny_mono h (fun ov s₁ h₁ => ?_) fun _ _ e => e)
  obtain ⟨d, ob, rfl, ho, hx, h2⟩ := h₁
  refine ⟨"dict", "dict.pop", F.plainAttrs_dict, F.slot_dict_pop, F.type_dict_pop, ⟨_, ho, hx.1⟩, fun a e => ?_, ?_⟩
  · cases e; exact ⟨_, ho, hx.2.1⟩
  · exact Calls.callWith_builtin rfl (Calls.evalArgs_plain (Calls.spliced_cons (wpAny_mono h2 (fun y s₂ h₂ => Calls.spliced_nil h₂) fun _ _ e => e)))
/-- min of a list of numbers -/
theorem r_min_list {a : Addr} {vs : List Value} {rf : Nat → Int} {n : Nat} (S : St k s₀ H L m σ s) (hh : A.handled = none) (hl : s.heap.IsList a vs.toArray) (hlen : vs.length = n + 1) (hv : ∀ j, j < n + 1 → ∃ t, vs[j]? = some (.int (rf j) t))
    (h : ∀ i t s', i ≤ n → (∀ j, j ≤ n → rf i ≤ rf j) → St k s₀ H L m σ s' → Q (.int (rf i) t) s') : wpAny (model prog w) A (call (.builtin "min") [.ref a]) Q E s := by
  obtain ⟨ol, hol, _⟩ := id hl
  have hlt : a < s.heap.objs.size := Heap.lt_size hol
  refine call_min_walk (wpAny_pyIter_list hl ?_)
  have hnum : ∀ (i : Nat) (v : Value), vs.toArray[i]? = some v → ∃ t, v = .int (rf i) t := fun i v e => by
    have e' : vs[i]? = some v := by simpa using e
    have hi : i < n + 1 := by rw [← hlen]; exact (List.getElem?_eq_some_iff.mp e').1
    obtain ⟨t, ht⟩ := hv i hi
    rw [ht] at e'; cases e'
    exact ⟨t, rfl⟩
  refine ⟨_, _, _, _, _, _, _, rfl, Walks.list (A := A.in1) hh _ a (Nat.ne_of_lt hlt) vs.toArray, ⟨⟨_, Heap.get?_push_size _ rfl, rfl, rfl⟩, hl.push _⟩, ?_, by rw [List.size_toArray, hlen]; exact Nat.succ_pos _, CmpOf.ints_lt rf hnum, fun v h' tk hP hk => ?_⟩
  · intro b hb
    show b < (s.heap.push _).objs.size
    rw [Heap.size_push]
    rcases List.mem_cons.mp hb with rfl | hb
    · exact Nat.lt_succ_self _
    · rcases List.mem_cons.mp hb with rfl | hb
      · exact Nat.lt_succ_of_lt hlt
      · cases hb
  · have hb := argBest_lt rf (vs.toArray.size - 1)
    have hsz : vs.toArray.size - 1 = n := by rw [List.size_toArray, hlen]; rfl
    rw [hsz] at hb hP
    obtain ⟨t, rfl⟩ := hnum _ _ hP
    refine h _ t _ hb.1 hb.2 (S.kp (Kp.mk' fun b o e => hk b o (fun hm => ?_) (Heap.get?_push_of_some _ e)))
    rcases List.mem_cons.mp hm with rfl | hm
    · exact absurd (Heap.lt_size e) (Nat.lt_irrefl _)
    · cases hm
/-- a loop over an iterator, in whatever frame -/
theorem forLoopE_St {I : Addr} {fp wr : List Addr} {n : Nat} {P : Nat → Value → Prop} {Ti : Nat → Heap → Prop} (W : Walks prog w A I fp wr n P Ti)
    (hex : ∀ i h, Ti i h → ∀ b ∈ fp, ∃ o, h.get? b = some o)
    (J : Nat → (Str → Option Value) → List (Addr × Obj) → Prop) {x : Str} {px : Pos} {body : List Stmt} {Q : Flow → Shared → Prop} {R : Result → Shared → Prop}
    (S : St true s₀ H L m σ s) (hT : Ti 0 s.heap) (hfp : ∀ b ∈ fp, b ≠ L ∧ b ∉ σ.map (·.1)) (hwr : ∀ b ∈ wr, ∀ o, ¬ H b o) (h0 : J 0 m σ)
    (hL : env.locals = L) (hk : env.scope.kind = .function) (hx : env.scope.names.lookup x = some .local)
    (turn : ∀ (E' : Value → Shared → Prop) i m' σ' s' v Hb, i < n → J i m' σ' → P i v → (∀ b o, H b o → Hb b o) → St true s₀ Hb L (upd m' x v) σ' s' →
      wpAny (model prog w) A (execs body env) (turnK (J (i + 1)) s₀ Hb L Q) E' s')
    (done : ∀ m' σ' s', J n m' σ' → St true s₀ H L m' σ' s' → Q .next s') (hR : ∀ fl s', Q fl s' → R (.ok fl) s') :
    codeAny (model prog w) A (.forLoop (.Name x px) (.ref I) body [] env) R s := by
  subst hL
  refine codeAny_forLoop (fun k s => ∃ i m σ, k = n - i ∧ i ≤ n ∧ J i m σ ∧ St true s₀ H env.locals m σ s ∧ Ti i s.heap ∧ ∀ b ∈ fp, b ≠ env.locals ∧ b ∉ σ.map (·.1)) (fun k s hI => ?_) n ⟨0, m, σ, by simp, Nat.zero_le _, h0, S, hT, hfp⟩
  obtain ⟨i, m, σ, rfl, hi, hJ, S, hT, hfp⟩ := hI
  have keepSt : ∀ (h' : Heap) (tk : Nat), (∀ b o, b ∉ wr → s.heap.get? b = some o → h'.get? b = some o) → St true s₀ H env.locals m σ { s with heap := h', toks := tk } := fun h' tk hk' => by
    refine ⟨S.same.trans ⟨rfl, rfl, rfl⟩, ?_, fun b o e => hk' b o (fun q => hwr b q o e) (S.keep b o e), S.keepL, fun p hp => ⟨hk' _ _ (fun q => (hfp _ (W.sub _ q)).2 (List.mem_map.mpr ⟨p, hp, rfl⟩)) (S.own p hp).1, (S.own p hp).2⟩, S.nd⟩
    obtain ⟨oL, es, ep, hL, r⟩ := S.ns
    exact ⟨oL, es, ep, hk' _ _ (fun q => (hfp _ (W.sub _ q)).1 rfl) hL, r⟩
  rcases Nat.lt_or_eq_of_le hi with hlt | rfl
  · refine W.item i s _ _ hlt hT fun v h' tk hP hT' hk' => ?_
    have S1 := keepSt h' tk hk'
    have hfx : ∀ b ∈ fp, ∃ o, h'.get? b = some o := hex _ _ hT'
    have S2 : St true s₀ (fun b o => H b o ∨ (b ∈ fp ∧ h'.get? b = some o)) env.locals m σ { s with heap := h', toks := tk } :=
      ⟨S1.same, S1.ns, fun b o e => e.elim (S1.keep b o) fun q => q.2, fun _ o e => e.elim (S1.keepL rfl o) fun q => (hfp _ q.1).1 rfl,
        fun p hp => ⟨(S1.own p hp).1, (S1.own p hp).2.1, fun o e => e.elim ((S1.own p hp).2.2 o) fun q => (hfp _ q.1).2 (List.mem_map.mpr ⟨p, hp, rfl⟩)⟩, S1.nd⟩
    refine wpAny_assign_Name (wpAny_storeName_local (env := env) hx S2.ns (fun h'' hn hs => ?_) (by rw [hk]; rfl))
    have S3 := S2.set (tk := tk + 1) hn hs
    refine wpAny_mono (turn _ i m σ _ v _ hlt hJ hP (fun b o e => .inl e) S3) (fun fl s₃ h₃ => ?_) fun _ _ e => e
    have go : (∃ m σ, St true s₀ (fun b o => H b o ∨ (b ∈ fp ∧ h'.get? b = some o)) env.locals m σ s₃ ∧ J (i + 1) m σ) →
        ∃ k, k < n - i ∧ ∃ i m σ, k = n - i ∧ i ≤ n ∧ J i m σ ∧ St true s₀ H env.locals m σ s₃ ∧ Ti i s₃.heap ∧ ∀ b ∈ fp, b ≠ env.locals ∧ b ∉ σ.map (·.1) := by
      rintro ⟨m'', σ'', S4, hJ'⟩
      refine ⟨n - (i + 1), by omega, i + 1, m'', σ'', rfl, hlt, hJ', S4.anti fun b o e => .inl e, W.frame _ _ _ hT' fun b hb o e => S4.keep b o (.inr ⟨hb, e⟩), fun b hb => ⟨(hfp b hb).1, fun hm => ?_⟩⟩
      obtain ⟨p, hp, rfl⟩ := List.mem_map.mp hm
      obtain ⟨o, ho⟩ := hfx _ hb
      exact (S4.own p hp).2.2 o (.inr ⟨hb, ho⟩)
    cases fl with
    | next => exact go h₃
    | cont => exact go h₃
    | brk => exact hR _ _ h₃
    | ret v => exact hR _ _ h₃
  · refine W.done s _ _ hT fun h' tk hk' => ?_
    exact wpAny_execs_nil (hR _ _ (done m σ _ hJ (keepSt h' tk hk')))
/-- for v in a list that stays, in whatever frame -/
theorem forE_list {a : Addr} {vs : List Value} {n : Nat} {v : Str} {pv : Pos} {body : List Stmt} {Q : Flow → Shared → Prop} (J : Nat → (Str → Option Value) → List (Addr × Obj) → Prop)
    (S : St true s₀ H L m σ s) (hH : H a (lst vs n)) (hh : A.handled = none) (h0 : J 0 m σ) (hc : (env.scope.kind == .function && env.scope.names.lookup v == some .local) = true)
    (turn : ∀ (E' : Value → Shared → Prop) i m' σ' s' x Hb, i < vs.length → vs[i]? = some x → J i m' σ' → (∀ b o, H b o → Hb b o) → St true s₀ Hb L (upd m' v x) σ' s' →
      wpAny (model prog w) A (execs body env) (turnK (J (i + 1)) s₀ Hb L Q) E' s')
    (done : ∀ m' σ' s', J vs.length m' σ' → St true s₀ H L m' σ' s' → Q .next s') (hL : env.locals = L := by with_unfolding_all rfl) :
    wpAny (model prog w) A (pyIter (.ref a)) (fun it s₂ => codeAny (model prog w) A (.forLoop (.Name v pv) it body [] env)
      (fun r s' => match r with | .ok f => Q f s' | .error e => cameBackBy (model prog w) A env E e s') s₂) E s := by
  simp only [Bool.and_eq_true, beq_iff_eq] at hc
  have hl := isL (S.keep _ _ hH)
  refine wpAny_pyIter_list hl ?_
  have nn := S.notNew (get_size_none s.heap)
  have hne : a ≠ s.heap.objs.size := fun e => nn.2.2 _ (e ▸ hH)
  have haL : a ≠ L := fun e => S.keepL rfl _ (e ▸ hH)
  have haσ : a ∉ σ.map (·.1) := fun hm => by obtain ⟨p, hp, e⟩ := List.mem_map.mp hm; exact (S.own p hp).2.2 _ (e ▸ hH)
  have W := Walks.list (prog := prog) (w := w) (A := A) hh s.heap.objs.size a hne vs.toArray
  rw [List.size_toArray] at W
  refine forLoopE_St W ?_ J (S.kp (Kp.push s _)) ⟨⟨_, Heap.get?_push_size _ rfl, rfl, rfl⟩, hl.push _⟩ ?_ ?_ h0 hL hc.1 hc.2 (fun E' i m' σ' s' v' Hb hi hJ hP hb S₂ => turn E' i m' σ' s' v' Hb hi (by simpa using hP) hJ hb S₂) done (fun _ _ h => h)
  · intro i h hTi b hb
    rcases List.mem_cons.mp hb with rfl | hb
    · obtain ⟨⟨o, ho, _⟩, _⟩ := hTi; exact ⟨o, ho⟩
    · rcases List.mem_cons.mp hb with rfl | hb
      · obtain ⟨_, o, ho, _⟩ := hTi; exact ⟨o, ho⟩
      · cases hb
  · intro b hb; rcases List.mem_cons.mp hb with rfl | hb
    · exact ⟨nn.1, nn.2.1⟩
    · rcases List.mem_cons.mp hb with rfl | hb
      · exact ⟨haL, haσ⟩
      · cases hb
  · intro b hb; rcases List.mem_cons.mp hb with rfl | hb
    · exact nn.2.2
    · cases hb
/-- a loop over pairs -/
theorem forLoop2_St {I : Addr} {fp wr : List Addr} {n : Nat} {Pt : Nat → Array Value → Prop} {Ti : Nat → Heap → Prop} {Mid : Nat → Addr → Heap → Prop} {P2 : Nat → Value → Value → Prop}
    (W : WalksT prog w A I fp wr n Pt Ti Mid) (h2 : ∀ i vals, Pt i vals → ∃ v0 v1, vals = #[v0, v1] ∧ P2 i v0 v1)
    (hex : ∀ i h, Ti i h → ∀ b ∈ fp, ∃ o, h.get? b = some o) (hh : A.handled = none)
    (J : Nat → (Str → Option Value) → List (Addr × Obj) → Prop) {x y : Str} {px py pt : Pos} {x1 : Nat} {body : List Stmt} {Q : Flow → Shared → Prop} {R : Result → Shared → Prop}
    (S : St true s₀ H L m σ s) (hT : Ti 0 s.heap) (hfp : ∀ b ∈ fp, b ≠ L ∧ b ∉ σ.map (·.1)) (hwr : ∀ b ∈ wr, ∀ o, ¬ H b o) (h0 : J 0 m σ)
    (hL : env.locals = L) (hk : env.scope.kind = .function) (hx : env.scope.names.lookup x = some .local) (hy : env.scope.names.lookup y = some .local)
    (turn : ∀ (E' : Value → Shared → Prop) i m' σ' s' v0 v1 Hb, i < n → J i m' σ' → P2 i v0 v1 → (∀ b o, H b o → Hb b o) → St true s₀ Hb L (upd (upd m' x v0) y v1) σ' s' →
      wpAny (model prog w) A (execs body env) (turnK (J (i + 1)) s₀ Hb L Q) E' s')
    (done : ∀ m' σ' s', J n m' σ' → St true s₀ H L m' σ' s' → Q .next s') (hR : ∀ fl s', Q fl s' → R (.ok fl) s') :
    codeAny (model prog w) A (.forLoop (.Tuple [.Name x px, .Name y py] x1 pt) (.ref I) body [] env) R s := by
  subst hL
  have hp : (env.scope.kind == .class || (env.scope.kind == .module && env.locals != env.globals)) = false := by rw [hk]; rfl
  refine codeAny_forLoop_any (fun k s => ∃ i m σ, k = n - i ∧ i ≤ n ∧ J i m σ ∧ St true s₀ H env.locals m σ s ∧ Ti i s.heap ∧ ∀ b ∈ fp, b ≠ env.locals ∧ b ∉ σ.map (·.1)) (fun k s hI => ?_) n ⟨0, m, σ, by simp, Nat.zero_le _, h0, S, hT, hfp⟩
  obtain ⟨i, m, σ, rfl, hi, hJ, S, hT, hfp⟩ := hI
  have keepSt : ∀ (h' : Heap) (tk : Nat), (∀ b o, b ∉ wr → s.heap.get? b = some o → h'.get? b = some o) → St true s₀ H env.locals m σ { s with heap := h', toks := tk } := fun h' tk hk' => by
    refine ⟨S.same.trans ⟨rfl, rfl, rfl⟩, ?_, fun b o e => hk' b o (fun q => hwr b q o e) (S.keep b o e), S.keepL, fun p hp => ⟨hk' _ _ (fun q => (hfp _ (W.sub _ q)).2 (List.mem_map.mpr ⟨p, hp, rfl⟩)) (S.own p hp).1, (S.own p hp).2⟩, S.nd⟩
    obtain ⟨oL, es, ep, hL, r⟩ := S.ns
    exact ⟨oL, es, ep, hk' _ _ (fun q => (hfp _ (W.sub _ q)).1 rfl) hL, r⟩
  rcases Nat.lt_or_eq_of_le hi with hlt | rfl
  · refine W.item i s _ _ hlt hT fun T vals h₁ tk hPt _ hTu hMid hk₁ => ?_
    obtain ⟨v0, v1, rfl, hP2⟩ := h2 i vals hPt
    refine W.go _ x1 pt i T _ _ _ hMid fun h₂ hst₂ hk₂ => ?_
    have ht₂ : h₂.IsTuple T #[v0, v1] := hTu.at fun o e => hk₂ T o (W.apart i T h₁ hMid) e
    refine wpAny_assign_Tuple hh ht₂ rfl rfl fun h₃ hx₃ => ?_
    replace hx₃ : Heap.ExtBut h₂.objs.size h₂ h₃ := hx₃
    have up₃ : ∀ b o, h₂.get? b = some o → h₃.get? b = some o := fun b o x => hx₃ b o (Nat.ne_of_lt (Heap.lt_size x)) x
    have S1 := keepSt h₃ tk fun b o hb x => up₃ b o (hk₂ b o hb (hk₁ b o hb x))
    have hT' : Ti (i + 1) h₃ := W.frame _ _ _ hst₂ fun b _ o e => up₃ b o e
    have hfx : ∀ b ∈ fp, ∃ o, h₃.get? b = some o := hex _ _ hT'
    have S2 : St true s₀ (fun b o => H b o ∨ (b ∈ fp ∧ h₃.get? b = some o)) env.locals m σ { s with heap := h₃, toks := tk } :=
      ⟨S1.same, S1.ns, fun b o e => e.elim (S1.keep b o) fun q => q.2, fun _ o e => e.elim (S1.keepL rfl o) fun q => (hfp _ q.1).1 rfl,
        fun p hp => ⟨(S1.own p hp).1, (S1.own p hp).2.1, fun o e => e.elim ((S1.own p hp).2.2 o) fun q => (hfp _ q.1).2 (List.mem_map.mpr ⟨p, hp, rfl⟩)⟩, S1.nd⟩
    show wpAny _ A (do holding [v1] (assign (.Name x px) env v0); do holding [] (assign (.Name y py) env v1); pure ()) _ _ _
    refine wpAny_bind (wpAny_holding (wpAny_assign_Name (wpAny_storeName_local hx S2.ns (fun h₄ hn₄ hs₄ => ?_) hp)))
    have S3 := S2.set (tk := tk + 1) hn₄ hs₄
    refine wpAny_bind (wpAny_holding (wpAny_assign_Name (wpAny_storeName_local hy S3.ns (fun h₅ hn₅ hs₅ => wpAny_pure ?_) hp)))
    have S4 := S3.set (tk := tk + 1 + 1) hn₅ hs₅
    refine wpAny_mono (turn _ i m σ _ v0 v1 _ hlt hJ hP2 (fun b o e => .inl e) S4) (fun fl s₃ h₃' => ?_) fun _ _ e => e
    have go : (∃ m σ, St true s₀ (fun b o => H b o ∨ (b ∈ fp ∧ h₃.get? b = some o)) env.locals m σ s₃ ∧ J (i + 1) m σ) →
        ∃ k, k < n - i ∧ ∃ i m σ, k = n - i ∧ i ≤ n ∧ J i m σ ∧ St true s₀ H env.locals m σ s₃ ∧ Ti i s₃.heap ∧ ∀ b ∈ fp, b ≠ env.locals ∧ b ∉ σ.map (·.1) := by
      rintro ⟨m'', σ'', S4, hJ'⟩
      refine ⟨n - (i + 1), by omega, i + 1, m'', σ'', rfl, hlt, hJ', S4.anti fun b o e => .inl e, W.frame _ _ _ hT' fun b hb o e => S4.keep b o (.inr ⟨hb, e⟩), fun b hb => ⟨(hfp b hb).1, fun hm => ?_⟩⟩
      obtain ⟨p, hp, rfl⟩ := List.mem_map.mp hm
      obtain ⟨o, ho⟩ := hfx _ hb
      exact (S4.own p hp).2.2 o (.inr ⟨hb, ho⟩)
    cases fl with
    | next => exact go h₃'
    | cont => exact go h₃'
    | brk => exact hR _ _ h₃'
    | ret v => exact hR _ _ h₃'
  · refine W.done s _ _ hT fun h' tk hk' => ?_
    exact wpAny_execs_nil (hR _ _ (done m σ _ hJ (keepSt h' tk hk')))
end
-- enumerate of a tuple
section
variable {prog : Program} {w : World} {A : Around} {E : Value → Shared → Prop} {s : Shared}
theorem nextOf_tuple_item {it t : Addr} {i : Nat} {items} {x : Value} {Q : Value → Shared → Prop} (hit : s.heap.IsTupleIter it t i)
    (hl : s.heap.IsTuple t items) (hx : items[i]? = some x)
    (hQ : ∀ h', h'.IsTupleIter it t (i + 1) → Heap.SameBut it s.heap h' → Q x { s with heap := h' }) :
    wpAny (model prog w) A (Builtin.SmallTypes.nextOf (.ref it)) Q E s := by
  obtain ⟨o, ho, hc, hd⟩ := id hit
  obtain ⟨ol, hol, _, nl, hdl⟩ := hl
  unfold Builtin.SmallTypes.nextOf
  refine wpAny_bind (wpAny_callSpecial?_slot (name := Str.ofString "__next__") hit.typeIs F.slot_tuple_iterator_next
    (wpAny_call_entry F.slot_tuple_iterator_next hit.typeIs F.entry_tuple_iterator_next ?_ (F.args_tuple_iterator_next_1 _)))
  show wpAny _ _ (field (.ref it) 0 >>= _) _ _ s
  refine wpAny_bind (wpAny_field ho hd (x := .ref t) rfl ?_)
  show wpAny _ _ (if (Value.ref t == Value.none) = true then _ else _) _ _ s
  rw [if_neg (show ¬ ((Value.ref t == Value.none) = true) from Bool.false_ne_true)]
  show wpAny _ _ (field (.ref it) 1 >>= _) _ _ s
  refine wpAny_bind (wpAny_field ho hd (x := .int i 0) rfl ?_)
  show wpAny _ _ (seqItems? (.ref t) >>= _) _ _ s
  refine wpAny_bind (wpAny_seqItems hol hdl ?_)
  simp only [Int.toNat_natCast, hx]
  refine wpAny_bind (wpAny_setField ho hd (by simp) (wpAny_pure ⟨x, rfl, wpAny_pure (hQ _ ?_ (Heap.SameBut.update ..))⟩))
  exact ⟨_, Heap.get?_update_self _ ho (Obj.isFreed_of_fields (Obj.data_mapFields hd _)), (Obj.cls_mapFields ..).trans hc, by
    rw [Obj.data_mapFields hd]; simp [rawInt]⟩
theorem nextOf_tuple_end {it t : Addr} {i : Nat} {items} {Q : Value → Shared → Prop} (hh : A.handled = none)
    (hit : s.heap.IsTupleIter it t i) (hl : s.heap.IsTuple t items) (hx : items[i]? = none)
    (hE : ∀ h' e, Heap.ExtBut it s.heap h' → (∃ o, h'.get? e = some o ∧ o.cls = .type "StopIteration") → E (.ref e) { s with heap := h' }) :
    wpAny (model prog w) A (Builtin.SmallTypes.nextOf (.ref it)) Q E s := by
  obtain ⟨o, ho, hc, hd⟩ := id hit
  obtain ⟨ol, hol, _, nl, hdl⟩ := hl
  unfold Builtin.SmallTypes.nextOf
  refine wpAny_bind (wpAny_callSpecial?_slot (name := Str.ofString "__next__") hit.typeIs F.slot_tuple_iterator_next
    (wpAny_call_entry F.slot_tuple_iterator_next hit.typeIs F.entry_tuple_iterator_next ?_ (F.args_tuple_iterator_next_1 _)))
  show wpAny _ _ (field (.ref it) 0 >>= _) _ _ s
  refine wpAny_bind (wpAny_field ho hd (x := .ref t) rfl ?_)
  show wpAny _ _ (if (Value.ref t == Value.none) = true then _ else _) _ _ s
  rw [if_neg (show ¬ ((Value.ref t == Value.none) = true) from Bool.false_ne_true)]
  show wpAny _ _ (field (.ref it) 1 >>= _) _ _ s
  refine wpAny_bind (wpAny_field ho hd (x := .int i 0) rfl ?_)
  show wpAny _ _ (seqItems? (.ref t) >>= _) _ _ s
  refine wpAny_bind (wpAny_seqItems hol hdl ?_)
  simp only [Int.toNat_natCast, hx]
  refine wpAny_bind (wpAny_rule (wpAny_bind (wpAny_setField ho hd (by simp) ?_)))
  show wpAny _ _ (newExc (.type "StopIteration") [] >>= _) _ _ _
  refine wpAny_bind ?_
  simp only [newExc, newTuple]
  refine wpAny_bind (wpAny_newObj_type ?_ (by size_fits))
  refine wpAny_bind (m := firstArgMember _ _) (wpAny_of_eq (a := Value.none) (by first | rfl | (simp only [firstArgMember]; rfl)) ?_)
  refine wpAny_newObj_type ?_ (by size_fits)
  simp only [raiseNew]
  refine wpAny_bind (wpAny_handled ?_)
  first | rw [show A.in1.handled = none from hh] | rw [hh]
  refine wpAny_bind (wpAny_pure (wpAny_throw ?_))
  exact hE _ _ (((Heap.SameBut.update ..).extBut.push _).push _) ⟨_, Heap.get?_push_size _ rfl, rfl⟩
theorem draws_tuple (hh : A.handled = none) (it l : Addr) (hne : l ≠ it) (items : Array Value) :
    Draws prog w A it [it, l] items.size (fun i v => items[i]? = some v) (fun i h => h.IsTupleIter it l i ∧ h.IsTuple l items) where
  live := fun _ _ st => let ⟨o, ho, _⟩ := st.1; ⟨o, ho⟩
  frame := fun _ _ _ st hk => ⟨let ⟨o, ho, r⟩ := st.1; ⟨o, hk it (by simp) o ho, r⟩, let ⟨o, ho, r⟩ := st.2; ⟨o, hk l (by simp) o ho, r⟩⟩
  item := fun i s Q E hi st hQ => by
    refine nextOf_tuple_item st.1 st.2 (x := items[i]) (by simp [hi]) fun h' hit' hs' => ?_
    exact hQ _ h' s.toks (by simp [hi]) ⟨hit', st.2.extBut hs'.extBut hne⟩ hs'
  done := fun s Q E st hE => nextOf_tuple_end hh st.1 st.2 (by simp) hE
open AutoSeq1 (wpAny_loadPart') in
theorem meets_enum_newT (l : Addr) (items : Array Value) (n : Nat) (dct : Option Addr) (sl : Array (Option Value)) :
    Meets (Builtin.«enumerate.__new__» ⟨[.type "enumerate", .ref l], []⟩) (fun _ R s => s.heap.get? l = some { cls := .type "tuple", dict := dct, data := .seq items n, slots := sl } ∧
      R (.ok (.ret (.ref (s.heap.push { cls := .type "tuple_iterator", data := .fields #[.ref l, .int 0 0] }).objs.size)))
        { s with heap := (s.heap.push { cls := .type "tuple_iterator", data := .fields #[.ref l, .int 0 0] }).push { cls := .type "enumerate", data := .fields #[.none, .bool false, .ref s.heap.objs.size, rawInt 0, .none, .none] } }) :=
  .of_wp fun prog w A R s h => by
    obtain ⟨hp, g, d, tk, os⟩ := s; obtain ⟨hl, h⟩ := h
    have hsub := sub_enumerate
    have hL : Heap.IsTuple (Shared.heap ⟨hp, g, d, tk, os⟩) l items := ⟨_, hl, rfl, n, rfl⟩
    wp_walk using wpAny_loadPart' hl
    refine wpAny_stack_any fun st => wpAny_pure ?_
    split
    · rename_i c _ _ _ _ _
      cases (c == Value.type "enumerate")
      · wp_walk using wpAny_loadPart' hl, wpAny_pyIter_tuple hL
        exact ⟨_, rfl, h⟩
      · wp_walk using wpAny_loadPart' hl, wpAny_pyIter_tuple hL
        exact ⟨_, rfl, h⟩
    · wp_walk using wpAny_loadPart' hl, wpAny_pyIter_tuple hL
      exact ⟨_, rfl, h⟩
theorem call_enum_tup {l : Addr} {vs : List Value} {Q : Value → Shared → Prop} (hl : s.heap.get? l = some (tup vs))
    (h : ∀ h', IsEnum h' (s.heap.objs.size + 1) s.heap.objs.size 0 .none → h'.IsTupleIter s.heap.objs.size l 0 → h'.objs.size = s.heap.objs.size + 2 →
      (∀ b o, s.heap.get? b = some o → h'.get? b = some o) → Q (.ref (s.heap.objs.size + 1)) { s with heap := h' }) :
    wpAny (model prog w) A (call (.type "enumerate") [.ref l]) Q E s := by
  refine callType_new F.called_enumerate (by decide) (F.typeCall_enumerate_1 _) (F.newCall_enumerate_1 _) (fun obj => F.args_object_init_2 obj _) F.entry_enumerate_new
    (meets_enum_newT l vs.toArray 0 none #[]) ⟨hl, ?_⟩
  have hz : (s.heap.push { cls := .type "tuple_iterator", data := .fields #[.ref l, .int 0 0] }).objs.size = s.heap.objs.size + 1 := Heap.size_push ..
  show _ ∧ _
  rw [hz]
  have he : IsEnum ((s.heap.push { cls := .type "tuple_iterator", data := .fields #[.ref l, .int 0 0] }).push
      { cls := .type "enumerate", data := .fields #[.none, .bool false, .ref s.heap.objs.size, rawInt 0, .none, .none] }) (s.heap.objs.size + 1) s.heap.objs.size 0 .none := by
    have := Heap.get?_push_size (s.heap.push { cls := .type "tuple_iterator", data := .fields #[.ref l, .int 0 0] })
      (o := { cls := .type "enumerate", data := .fields #[.none, .bool false, .ref s.heap.objs.size, rawInt 0, .none, .none] }) rfl
    rw [hz] at this; exact this
  refine ⟨⟨_, he, rfl⟩, h _ he ⟨_, Heap.get?_push_of_some _ (Heap.get?_push_size _ rfl), rfl, rfl⟩ (by rw [Heap.size_push, hz]) fun b o x => Heap.get?_push_of_some _ (Heap.get?_push_of_some _ x)⟩
end
section
variable {k : Bool} {prog : Program} {w : World} {A : Around} {E : Value → Shared → Prop} {s₀ s s' : Shared} {H : Addr → Obj → Prop} {L : Addr} {m : Str → Option Value} {σ : List (Addr × Obj)} {env : Env} {Q : Value → Shared → Prop}
theorem for_enum {a : Addr} {vs : List Value} {x y : Str} {px py pt : Pos} {x1 : Nat} {body : List Stmt} {Q : Flow → Shared → Prop} (J : Nat → (Str → Option Value) → List (Addr × Obj) → Prop)
    (S : St true s₀ H L m σ s) (hH : H a (tup vs)) (hh : A.handled = none) (h0 : J 0 m σ) (hc : (env.scope.kind == .function && env.scope.names.lookup x == some .local && env.scope.names.lookup y == some .local) = true)
    (turn : ∀ (E' : Value → Shared → Prop) i m' σ' s' t v Hb, i < vs.length → vs[i]? = some v → J i m' σ' → (∀ b o, H b o → Hb b o) → St true s₀ Hb L (upd (upd m' x (.int i t)) y v) σ' s' →
      wpAny (model prog w) A (execs body env) (turnK (J (i + 1)) s₀ Hb L Q) E' s')
    (done : ∀ m' σ' s', J vs.length m' σ' → St true s₀ H L m' σ' s' → Q .next s') (hL : env.locals = L := by with_unfolding_all rfl) :
    wpAny (model prog w) A (call (.type "enumerate") [.ref a]) (fun xv s₁ => wpAny (model prog w) A (pyIter xv) (fun it s₂ => codeAny (model prog w) A (.forLoop (.Tuple [.Name x px, .Name y py] x1 pt) it body [] env)
      (fun r s' => match r with | .ok f => Q f s' | .error e => cameBackBy (model prog w) A env E e s') s₂) E s₁) E s := by
  simp only [Bool.and_eq_true, beq_iff_eq] at hc
  have hl := S.keep _ _ hH
  refine call_enum_tup hl fun h' he hit hsz hk => ?_
  refine wpAny_pyIter_enum he ?_
  have hlt : a < s.heap.objs.size := Heap.lt_size hl
  have haL : a ≠ L := fun e => S.keepL rfl _ (e ▸ hH)
  have haσ : a ∉ σ.map (·.1) := fun hm => by obtain ⟨p, hp, e⟩ := List.mem_map.mp hm; exact (S.own p hp).2.2 _ (e ▸ hH)
  have n1 : s.heap.get? (s.heap.objs.size + 1) = none := by
    cases e : s.heap.get? (s.heap.objs.size + 1) with
    | none => rfl
    | some o => exact absurd (Heap.lt_size e) (Nat.not_lt.mpr (Nat.le_succ _))
  have nn0 := S.notNew (get_size_none s.heap)
  have nn1 := S.notNew n1
  have hT : h'.IsTuple a vs.toArray := ⟨_, hk _ _ hl, rfl, 0, rfl⟩
  have D := draws_tuple (prog := prog) (w := w) (A := A.in1) hh s.heap.objs.size a (Nat.ne_of_lt hlt) vs.toArray
  have hef : s.heap.objs.size + 1 ∉ [s.heap.objs.size, a] := by
    intro hm
    rcases List.mem_cons.mp hm with e | hm
    · exact absurd e (Nat.succ_ne_self _)
    · have e : s.heap.objs.size + 1 = a := by simpa using hm
      rw [← e] at hlt
      exact absurd hlt (Nat.not_lt.mpr (Nat.le_succ _))
  have W := WalksT.enumerateD D (s.heap.objs.size + 1) (Nat.succ_ne_self _) hef List.mem_cons_self
  rw [List.size_toArray] at W
  refine forLoop2_St (P2 := fun i v0 v1 => ∃ t, v0 = .int i t ∧ vs[i]? = some v1) W (fun i vals hP => ?_) ?_ hh J (S.kp (Kp.mk' (tk := s.toks) hk)) ⟨⟨_, by simpa using he⟩, hit, hT⟩ ?_ ?_ h0 hL hc.1.1 hc.1.2 hc.2 (fun E' i m' σ' s' v0 v1 Hb hi hJ hP hb S₂ => ?_) done (fun _ _ h => h)
  · obtain ⟨t, x, hx, rfl⟩ := hP
    exact ⟨_, _, rfl, t, rfl, by simpa using hx⟩
  · rintro i h ⟨⟨old, he⟩, ⟨o, ho, _⟩, o', ho', _⟩ b hb
    rcases List.mem_cons.mp hb with rfl | hb
    · exact ⟨_, he⟩
    · rcases List.mem_cons.mp hb with rfl | hb
      · exact ⟨_, ho⟩
      · obtain rfl : b = a := by simpa using hb
        exact ⟨_, ho'⟩
  · intro b hb
    rcases List.mem_cons.mp hb with rfl | hb
    · exact ⟨nn1.1, nn1.2.1⟩
    · rcases List.mem_cons.mp hb with rfl | hb
      · exact ⟨nn0.1, nn0.2.1⟩
      · obtain rfl : b = a := by simpa using hb
        exact ⟨haL, haσ⟩
  · intro b hb
    rcases List.mem_cons.mp hb with rfl | hb
    · exact nn1.2.2
    · obtain rfl : b = s.heap.objs.size := by simpa using hb
      exact nn0.2.2
  · obtain ⟨t, rfl, hv⟩ := hP
    exact turn E' i m' σ' s' t v1 Hb hi hv hJ hb S₂
-- how many keys of a dict pass a test
def keyOf : Value → Str
  | .str x _ => x
  | _ => Str.ofString ""
theorem strs_keys {kvs : List (Str × Value)} {vs : List Value} (hl : vs.length = kvs.length) (hP : ∀ (j : Nat) (v : Value), vs[j]? = some v → ∃ k x, kvs[j]? = some (k, x) ∧ (PySem.strKind prog w).is k v = true) : vs.map keyOf = kvs.map (·.1) := by
  apply List.ext_getElem?
  intro j
  rw [List.getElem?_map, List.getElem?_map]
  cases hj : vs[j]? with
  | none =>
    have : vs.length ≤ j := by simpa using hj
    rw [List.getElem?_eq_none (by omega)]; rfl
  | some v =>
    obtain ⟨k, x, hk, hi⟩ := hP j v hj
    obtain ⟨t, rfl⟩ := Value.isStrOf_shape (show Value.isStrOf k v = true from hi)
    rw [hk]; rfl
theorem e_comp_dict {elt iter test : Expr} {v : Str} {pv : Pos} {scope : Scope} {cl : List (Str × Addr)} {pos : Pos} (p : Str → Bool) (hclos : closureFor scope env = pure cl) (hcell : (scope.names.all fun y => y.2 != .cell) = true) (hkind : scope.kind = .function)
    (hnames : (scope.names.all fun y => y.2 != .local || scope.names.lookup y.1 == some .local) = true) (hx : scope.names.lookup v = some .local)
    (h : wpAny (model prog w) A (eval iter env) (fun xv s₁ => ∃ (d : Addr) (o : Obj) (kvs : List (Str × Value)) (m : Str → Option Value) (σ : List (Addr × Obj)), xv = .ref d ∧ d ≠ sysModules ∧ s₁.heap.get? d = some o ∧ DS prog w o kvs ∧ kvs.length ≤ sizeLine ∧ A.handled = none ∧ St k s₀ H L m σ s₁ ∧
      (∀ (E' : Value → Shared → Prop) C key u m₃ s₃, (∀ b o, s₁.heap.get? b = some o → s₃.heap.get? b = some o) → key ∈ kvs.map (·.1) → St false s₃ (fun b o => s₃.heap.get? b = some o) C m₃ [] s₃ → m₃ v = some (.str key u) →
        wpAny (model prog w) A (isTrue test (compEnvC scope cl C env) (eval test (compEnvC scope cl C env))) (fun ok s₄ => ok = p key ∧ Kp s₃ s₄) E' s₃) ∧
      (∀ (E' : Value → Shared → Prop) C key u m₃ s₃, (∀ b o, s₁.heap.get? b = some o → s₃.heap.get? b = some o) → key ∈ kvs.map (·.1) → St false s₃ (fun b o => s₃.heap.get? b = some o) C m₃ [] s₃ → m₃ v = some (.str key u) →
        wpAny (model prog w) A (eval elt (compEnvC scope cl C env)) (fun _ s₄ => Kp s₃ s₄) E' s₃) ∧
      (∀ D ys n s', s₁.heap.get? D = none → ys.length = ((kvs.map (·.1)).filter p).length → St k s₀ H L m ((D, lst ys n) :: σ) s' → Q (.ref D) s')) E s)
    (hs : ∀ x, foldedSetIterable iter env x = pure x := by intro _; rfl) :
    wpAny (model prog w) A (eval (.ListComp elt [⟨.Name v pv, iter, [test], 0⟩] scope pos) env) Q E s := by
  refine wpAny_ListComp_free (fun v => p (keyOf v)) (fun _ _ => True) hclos (allc hcell) hkind (alln hnames) hx (wpAny_mono h (fun xv s₁ h₁ => ?_) fun _ _ e => e) hs
  obtain ⟨d, o, kvs, m, σ, rfl, hd, ho, D, hz, hh, S, htest, helt, hQ⟩ := h₁
  obtain ⟨ep, hat⟩ := (D.at ho).dictAt
  refine wpAny_pyIter_dict (by simpa using hd) hat ?_
  have nn := S.notNew (get_size_none s₁.heap)
  have hlt : d < s₁.heap.objs.size := Heap.lt_size ho
  generalize hob : ({ cls := .type "dict_keyiterator", data := .fields #[.ref d, .int 0 0, .int kvs.length 0, .int ep 0] } : Obj) = ob
  have old : ∀ s₃ : Shared, (∀ b o', b ∉ [s₁.heap.objs.size] → (s₁.heap.push ob).get? b = some o' → s₃.heap.get? b = some o') → ∀ b o', s₁.heap.get? b = some o' → s₃.heap.get? b = some o' := fun s₃ hk b o' e =>
    hk b o' (fun hm => by
      rcases List.mem_cons.mp hm with rfl | hm
      · rw [get_size_none] at e; cases e
      · cases hm) (Heap.get?_push_of_some _ e)
  have hkey : ∀ (i : Nat) (v' : Value), (∃ k x, kvs[i]? = some (k, x) ∧ (PySem.strKind prog w).is k v' = true) → ∃ key u, key ∈ kvs.map (·.1) ∧ v' = .str key u := fun i v' hP => by
    obtain ⟨key, x, hkx, hi⟩ := hP
    obtain ⟨t, rfl⟩ := Value.isStrOf_shape (show Value.isStrOf key v' = true from hi)
    exact ⟨key, t, List.mem_map.mpr ⟨_, List.mem_of_getElem? hkx, rfl⟩, rfl⟩
  refine ⟨_, _, _, _, _, _, rfl, Walks.dictKeys (knd := PySem.strKind prog w) hh s₁.heap.objs.size d (Nat.ne_of_lt hlt) kvs ep, hz, ?_, ?_, ⟨?_, ?_⟩, ?_⟩
  · subst hob
    exact ⟨by first | exact ⟨_, Heap.get?_push_size _ rfl, rfl, rfl⟩ | exact ⟨_, Heap.get?_push_size _ rfl, rfl⟩ | exact Heap.get?_push_size _ rfl, hat.at' fun o e => Heap.get?_push_of_some _ e⟩
  · intro b hb
    show b < (s₁.heap.push ob).objs.size
    rw [Heap.size_push]
    rcases List.mem_cons.mp hb with rfl | hb
    · exact Nat.lt_succ_self _
    · rcases List.mem_cons.mp hb with rfl | hb
      · exact Nat.lt_succ_of_lt hlt
      · cases hb
  · intro C i v' s₃ m₃ E' _ hP hn hm hk _
    obtain ⟨key, u, hm1, rfl⟩ := hkey i v' hP
    refine wpAny_tests_one (wpAny_mono (htest E' C key u m₃ s₃ (old s₃ hk) hm1 (startR hn) hm) (fun ok s₄ h₄ => ⟨h₄.1, h₄.2.toKeeps⟩) fun _ _ e => e)
  · intro C i v' s₃ m₃ E' _ hP _ hn hm hk _
    obtain ⟨key, u, hm1, rfl⟩ := hkey i v' hP
    exact wpAny_mono (helt E' C key u m₃ s₃ (old s₃ hk) hm1 (startR hn) hm) (fun _ s₄ h₄ => ⟨trivial, h₄.toKeeps⟩) fun _ _ e => e
  · intro D h' tk ys vs hD _ hpl hlen hP hF hk
    obtain ⟨n, hpl⟩ := hpl
    have kp : Kp s₁ { s₁ with heap := h', toks := tk } := Kp.mk' fun b o' e => hk b o' (fun hm => by
      rcases List.mem_cons.mp hm with rfl | hm
      · rw [get_size_none] at e; cases e
      · cases hm) (Heap.get?_push_of_some _ e)
    have hD' : s₁.heap.get? D = none := by
      cases e : s₁.heap.get? D with
      | none => rfl
      | some o' => rw [show (s₁.heap.push ob).get? D = some o' from Heap.get?_push_of_some _ e] at hD; cases hD
    refine hQ D ys.toList n _ hD' ?_ (S.add kp hD' (by simpa using hpl))
    rw [← hF.length, ← strs_keys (prog := prog) (w := w) hlen hP, List.filter_map, List.length_map]
    rfl
end
end Mine
end
section
open PySem PySem.W PyProof.Rows PySem.SeqAt
set_option Elab.async false
set_option linter.unusedVariables false
namespace Mine
section
variable {k : Bool} {prog : Program} {w : World} {A : Around} {E : Value → Shared → Prop} {s₀ s s' : Shared} {H : Addr → Obj → Prop} {L : Addr} {m : Str → Option Value} {σ : List (Addr × Obj)} {env : Env} {Q : Value → Shared → Prop}
/-- two lists of the same texts -/
theorem r_ne_strs {a b : Addr} {vs ws : List Value} {ss : List Str} (hl : s.heap.IsList a vs.toArray) (hb : s.heap.IsList b ws.toArray) (h1 : StrsAre vs ss) (h2 : StrsAre ws ss) (hu : A.units < cLine) (h : Q (.bool false) s) : wpAny (model prog w) A (compareOp .NotEq (.ref a) (.ref b)) Q E s := by
  show wpAny (model prog w) A (richCompare .NotEq _ _) Q E s
  refine RcNeAt.lists (e := fun _ => true) hl hb (by simp [h1.length, h2.length]) hu (fun j h1' h2' => ?_) prog w E Q ?_
  · obtain ⟨x, t, e1, e2⟩ := h1.item j vs.toArray[j] (by simp)
    obtain ⟨y, u, e3, e4⟩ := h2.item j ws.toArray[j] (by simp)
    rw [e2] at e4
    cases e4
    rw [e1, e3]
    have := EqAt.str_str (A := A.in1) (s := s) x t x u
    simpa using this
  · have e : (!(List.range vs.toArray.size).all fun _ => true) = false := by
      rw [Bool.not_eq_false']
      exact List.all_eq_true.mpr fun _ _ => rfl
    rw [e]; exact h
theorem starts_eq (x y : Str) : Txt.startswith x y = (cl y).isPrefixOf (cl x) := by
  unfold Txt.startswith
  rw [StrLaws.subAt_eq, Bool.eq_iff_iff, List.isPrefixOf_iff_prefix, Bool.and_eq_true, decide_eq_true_eq, beq_iff_eq, List.drop_zero, List.prefix_iff_eq_take]
  rw [show (cl y).length = y.length from cl_length y]
  constructor
  · rintro ⟨_, h⟩; exact h.symm
  · intro h
    refine ⟨?_, h.symm⟩
    have := congrArg List.length h
    rw [List.length_take, cl_length, cl_length] at this
    omega
/-- x.startswith(y) -/
theorem e_starts {o e : Expr} {apos pos : Pos} (hline : (apos.endLine == pos.line) = true) (h : wpAny (model prog w) A (eval o env) (fun ov s₁ => ∃ x t, ov = .str x t ∧ wpAny (model prog w) A (eval e env) (fun v s₂ => ∃ y u, v = .str y u ∧ Q (.bool ((cl y).isPrefixOf (cl x))) s₂) E s₁) E s)
    (hbase : attributeBase o (Str.ofString "startswith") env (eval o env) = eval o env := by with_unfolding_all rfl) (hs : starEach [e] env = [(false, eval e env)] := by with_unfolding_all rfl) :
    wpAny (model prog w) A (eval (.Call (.Attribute o (Str.ofString "startswith") apos) [e] [] pos) env) Q E s := by
  refine Call_method1 hbase hs hline (wpAny_mono h (fun ov s₁ h₁ => ?_) fun _ _ e => e)
  obtain ⟨x, t, rfl, h2⟩ := h₁
  exact SB.startswith (wpAny_mono h2 (fun v s₂ h₂ => by obtain ⟨y, u, rfl, hq⟩ := h₂; exact ⟨y, u, rfl, by rw [starts_eq]; exact hq⟩) fun _ _ e => e)
/-- o.append(e), o any list that is owned -/
def AppK (prog : Program) (w : World) (A : Around) (E : Value → Shared → Prop) (env : Env) (e : Expr) (Q : Value → Shared → Prop) (ov : Value) (s₁ : Shared) : Prop :=
  ∃ l vs n, ov = .ref l ∧ s₁.heap.get? l = some (lst vs n) ∧ wpAny (model prog w) A (eval e env) (fun v s₂ => wpAny (model prog w) A (call (.builtin "list.append") [.ref l, v]) Q E s₂) E s₁
theorem e_appendE {o e : Expr} {apos pos : Pos} (hline : (apos.endLine == pos.line) = true) (h : wpAny (model prog w) A (eval o env) (fun ov s₁ => AppK prog w A E env e Q ov s₁) E s)
    (hbase : attributeBase o (Str.ofString "append") env (eval o env) = eval o env := by with_unfolding_all rfl) (hs : starEach [e] env = [(false, eval e env)] := by with_unfolding_all rfl) :
    wpAny (model prog w) A (eval (.Call (.Attribute o (Str.ofString "append") apos) [e] [] pos) env) Q E s := by
  refine Call_method1 hbase hs hline (wpAny_mono h (fun ov s₁ h₁ => ?_) fun _ _ e => e)
  obtain ⟨l, vs, n, rfl, ho, h2⟩ := h₁
  refine ⟨"list", "list.append", F.plainAttrs_list, F.slot_list_append, F.type_list_append, ⟨_, ho, rfl⟩, fun a e => ?_, ?_⟩
  · cases e; exact ⟨_, ho, rfl⟩
  · exact Calls.callWith_builtin rfl (Calls.evalArgs_plain (Calls.spliced_cons (wpAny_mono h2 (fun y s₂ h₂ => Calls.spliced_nil h₂) fun _ _ e => e)))
/-- l.remove(e) -/
def RemK (prog : Program) (w : World) (A : Around) (E : Value → Shared → Prop) (env : Env) (e : Expr) (Q : Value → Shared → Prop) (ov : Value) (s₁ : Shared) : Prop :=
  ∃ l vs n, ov = .ref l ∧ s₁.heap.get? l = some (lst vs n) ∧ wpAny (model prog w) A (eval e env) (fun v s₂ => wpAny (model prog w) A (call (.builtin "list.remove") [.ref l, v]) Q E s₂) E s₁
theorem e_remove {o e : Expr} {apos pos : Pos} (hline : (apos.endLine == pos.line) = true) (h : wpAny (model prog w) A (eval o env) (fun ov s₁ => RemK prog w A E env e Q ov s₁) E s)
    (hbase : attributeBase o (Str.ofString "remove") env (eval o env) = eval o env := by with_unfolding_all rfl) (hs : starEach [e] env = [(false, eval e env)] := by with_unfolding_all rfl) :
    wpAny (model prog w) A (eval (.Call (.Attribute o (Str.ofString "remove") apos) [e] [] pos) env) Q E s := by
  refine Call_method1 hbase hs hline (wpAny_mono h (fun ov s₁ h₁ => ?_) fun _ _ e => e)
  obtain ⟨l, vs, n, rfl, ho, h2⟩ := h₁
  refine ⟨"list", "list.remove", F.plainAttrs_list, F.slot_list_remove, F.type_list_remove, ⟨_, ho, rfl⟩, fun a e => ?_, ?_⟩
  · cases e; exact ⟨_, ho, rfl⟩
  · exact Calls.callWith_builtin rfl (Calls.evalArgs_plain (Calls.spliced_cons (wpAny_mono h2 (fun y s₂ h₂ => Calls.spliced_nil h₂) fun _ _ e => e)))
theorem strs_keyOf {vs : List Value} (h : ∀ v ∈ vs, ∃ x t, v = .str x t) : StrsAre vs (vs.map keyOf) := by
  induction vs with
  | nil => exact .nil
  | cons v vs ih =>
    obtain ⟨x, t, rfl⟩ := h v List.mem_cons_self
    exact .cons x t (ih fun v hv => h v (List.mem_cons_of_mem _ hv))
theorem mapSeq_erase (vs : List Value) (n j : Nat) : ∃ n', (Obj.mapSeq (fun xs => xs.eraseIdxIfInBounds j) (lst vs n)) = lst (vs.eraseIdx j) n' := by
  refine ⟨if ((vs.toArray.eraseIdxIfInBounds j).size == vs.toArray.size) then n else n + 1, ?_⟩
  show Obj.mk _ _ (Data.seq (vs.toArray.eraseIdxIfInBounds j) _) _ = _
  have : vs.toArray.eraseIdxIfInBounds j = (vs.eraseIdx j).toArray := by
    apply Array.toList_inj.mp
    simp [Array.toList_eraseIdxIfInBounds]
  rw [this]
  show Obj.mk _ _ (Data.seq _ (if ((vs.toArray.eraseIdxIfInBounds j).size == vs.toArray.size) = true then n else n + 1)) _ = _
  rw [this]
theorem r_remove {l : Addr} {vs : List Value} {n j : Nat} {x : Str} {t u : Tok} {σ₁ σ₂ : List (Addr × Obj)} (S : St k s₀ H L m (σ₁ ++ (l, lst vs n) :: σ₂) s) (hs : ∀ v ∈ vs, ∃ x t, v = .str x t) (hz : vs.length ≤ sizeLine)
    (hj : vs[j]? = some (.str x u)) (hno : ∀ i, i < j → ∀ y t, vs[i]? = some (.str y t) → y ≠ x)
    (h : ∀ n' s', St k s₀ H L m (σ₁ ++ (l, lst (vs.eraseIdx j) n') :: σ₂) s' → Q .none s') : wpAny (model prog w) A (call (.builtin "list.remove") [.ref l, .str x t]) Q E s := by
  have hget := S.get (a := l) (o := lst vs n) (by simp)
  obtain ⟨n', hn⟩ := mapSeq_erase vs n j
  have hlt : j < vs.length := (List.getElem?_eq_some_iff.mp hj).1
  have hjv : vs[j] = .str x u := by rw [List.getElem?_eq_getElem hlt] at hj; exact Option.some.inj hj
  refine call_meets F.slot_list_remove ⟨_, hget, rfl⟩ F.entry_list_remove (F.args_list_remove_2 _ _) (MeetsSeq.list_remove l vs.toArray n (.str x t) (isStrOf x) (fun y hy => eq_isStrOf x t (strs_keyOf hs) y (by simpa using hy)) j (by simpa using hlt) ?_ (fun i hi hlt' => ?_) (by simpa using hz)) ⟨hget, h n' _ (S.turn (tk := s.toks) (fun b x hb e => ?_) ?_)⟩
  · simp [hjv, isStrOf]
  · have hi' : i < vs.length := by simpa using hi
    obtain ⟨y, ty, e⟩ := hs vs[i] (List.getElem_mem _)
    have hne := hno i hlt' y ty (by rw [List.getElem?_eq_getElem hi', e])
    simp [e, isStrOf, hne]
  · rw [Heap.get?_update_other _ _ (Ne.symm hb)]; exact e
  · rw [← hn]; exact Heap.get?_update_self _ hget rfl
/-- for x, y in zip(l1, l2), the lists stay -/
theorem for_zip {a b : Addr} {vs us : List Value} {nv nu : Nat} {x y : Str} {px py pt : Pos} {x1 : Nat} {body : List Stmt} {Q : Flow → Shared → Prop} (J : Nat → (Str → Option Value) → List (Addr × Obj) → Prop)
    (S : St true s₀ H L m σ s) (hA : H a (lst vs nv)) (hB : H b (lst us nu)) (hlen : vs.length = us.length) (hh : A.handled = none) (h0 : J 0 m σ) (hc : (env.scope.kind == .function && env.scope.names.lookup x == some .local && env.scope.names.lookup y == some .local) = true)
    (turn : ∀ (E' : Value → Shared → Prop) i m' σ' s' v u Hb, i < vs.length → vs[i]? = some v → us[i]? = some u → J i m' σ' → (∀ b o, H b o → Hb b o) → St true s₀ Hb L (upd (upd m' x v) y u) σ' s' →
      wpAny (model prog w) A (execs body env) (turnK (J (i + 1)) s₀ Hb L Q) E' s')
    (done : ∀ m' σ' s', J vs.length m' σ' → St true s₀ H L m' σ' s' → Q .next s') (hL : env.locals = L := by with_unfolding_all rfl) :
    wpAny (model prog w) A (call (.type "zip") [.ref a, .ref b]) (fun xv s₁ => wpAny (model prog w) A (pyIter xv) (fun it s₂ => codeAny (model prog w) A (.forLoop (.Tuple [.Name x px, .Name y py] x1 pt) it body [] env)
      (fun r s' => match r with | .ok f => Q f s' | .error e => cameBackBy (model prog w) A env E e s') s₂) E s₁) E s := by
  simp only [Bool.and_eq_true, beq_iff_eq] at hc
  have hla := S.keep _ _ hA
  have hlb := S.keep _ _ hB
  refine call_zip_2 (isL hla) (isL hlb) fun h' hz hTI hTO h1 h2 hsz hk => ?_
  refine wpAny_pyIter_zip hz ?_
  have lta : a < s.heap.objs.size := Heap.lt_size hla
  have ltb : b < s.heap.objs.size := Heap.lt_size hlb
  have none_of : ∀ i, s.heap.get? (s.heap.objs.size + i) = none := fun i => by
    cases e : s.heap.get? (s.heap.objs.size + i) with
    | none => rfl
    | some o => exact absurd (Heap.lt_size e) (Nat.not_lt.mpr (Nat.le_add_right _ _))
  have nn : ∀ i, _ := fun i => S.notNew (none_of i)
  have hne : ∀ {c : Addr} {o : Obj} (i : Nat), H c o → c ≠ s.heap.objs.size + i := fun i hc e => (nn i).2.2 _ (e ▸ hc)
  have haL : a ≠ L := fun e => S.keepL rfl _ (e ▸ hA)
  have hbL : b ≠ L := fun e => S.keepL rfl _ (e ▸ hB)
  have haσ : a ∉ σ.map (·.1) := fun hm => by obtain ⟨p, hp, e⟩ := List.mem_map.mp hm; exact (S.own p hp).2.2 _ (e ▸ hA)
  have hbσ : b ∉ σ.map (·.1) := fun hm => by obtain ⟨p, hp, e⟩ := List.mem_map.mp hm; exact (S.own p hp).2.2 _ (e ▸ hB)
  have Dp : ZipApart (s.heap.objs.size + 4) (s.heap.objs.size + 2) (s.heap.objs.size + 3) s.heap.objs.size (s.heap.objs.size + 1) a b := by
    constructor
    all_goals first | exact hne _ hA | exact hne _ hB | exact hne 0 hA | exact hne 0 hB | (intro e; have : (s.heap.objs.size : Nat) = _ := e; omega) | (intro e; simp at e)
  have W := WalksT.zip2 (prog := prog) (w := w) (A := A) hh _ _ _ _ _ a b Dp vs.toArray us.toArray
  have hmin : min vs.toArray.size us.toArray.size = vs.length := by rw [List.size_toArray, List.size_toArray, hlen, Nat.min_self]
  rw [hmin] at W
  refine forLoop2_St (P2 := fun i v0 v1 => vs[i]? = some v0 ∧ us[i]? = some v1) W (fun i vals hP => ?_) ?_ hh J (S.kp (Kp.mk' (tk := s.toks) hk)) ⟨hz, hTI, ⟨_, _, hTO⟩, h1, h2, isL (hk _ _ hla), isL (hk _ _ hlb)⟩ ?_ ?_ h0 hL hc.1.1 hc.1.2 hc.2 (fun E' i m' σ' s' v0 v1 Hb hi hJ hP hb S₂ => turn E' i m' σ' s' v0 v1 Hb hi hP.1 hP.2 hJ hb S₂) done (fun _ _ h => h)
  · obtain ⟨x, y, h1, h2, rfl⟩ := hP
    exact ⟨_, _, rfl, by simpa using h1, by simpa using h2⟩
  · rintro i h ⟨g1, g2, ⟨_, _, g3⟩, ⟨o4, g4, _⟩, ⟨o5, g5, _⟩, ⟨o6, g6, _⟩, ⟨o7, g7, _⟩⟩ c hc'
    simp only [List.mem_cons, List.not_mem_nil, or_false] at hc'
    rcases hc' with rfl | rfl | rfl | rfl | rfl | rfl | rfl
    · exact ⟨_, g1⟩
    · exact ⟨_, g2⟩
    · exact ⟨_, g3⟩
    · exact ⟨_, g4⟩
    · exact ⟨_, g5⟩
    · exact ⟨_, g6⟩
    · exact ⟨_, g7⟩
  · intro c hc'
    simp only [List.mem_cons, List.not_mem_nil, or_false] at hc'
    rcases hc' with rfl | rfl | rfl | rfl | rfl | rfl | rfl
    · exact ⟨(nn 4).1, (nn 4).2.1⟩
    · exact ⟨(nn 2).1, (nn 2).2.1⟩
    · exact ⟨(nn 3).1, (nn 3).2.1⟩
    · exact ⟨(nn 0).1, (nn 0).2.1⟩
    · exact ⟨(nn 1).1, (nn 1).2.1⟩
    · exact ⟨haL, haσ⟩
    · exact ⟨hbL, hbσ⟩
  · intro c hc'
    simp only [List.mem_cons, List.not_mem_nil, or_false] at hc'
    rcases hc' with rfl | rfl | rfl | rfl
    · exact (nn 4).2.2
    · exact (nn 3).2.2
    · exact (nn 0).2.2
    · exact (nn 1).2.2
end
end Mine
end
section
open PySem PySem.W PyProof.Rows
set_option maxRecDepth 100000
set_option maxHeartbeats 8000000
namespace Mine
theorem said0 : OpenRow.wellSaid (OpenLaw.row PySem.Challenge.rw_uf050039_07) = true := by k_qdec
def keepSt : Stmt → Bool
  | .Assign [.Name x _] _ _ => !(x == Str.ofString "__name__")
  | _ => true
/-- the text without the rows that name its files -/
def view : Program := { PySem.Challenge.pw_uf050039_07 with main := { PySem.Challenge.pw_uf050039_07.main with body := PySem.Challenge.pw_uf050039_07.main.body.filter keepSt } }
-- the head: the top is run at once (in pieces the compiled file grows by 20 MB)
local macro_rules | `(tactic| o_head $H) => `(tactic| (refine holds_open (q := view) (loose := []) (Xt := fun s => xlAt view [] s && recOk (RowW.records (OpenRow.toRowW (OpenLaw.row PySem.Challenge.rw_uf050039_07))) s) (XP := XL view []) (Yf := Hook.obs $H) (Ya := Hook.val $H) (YP := Hook.says $H) (N := 9000) ?hl (Hook.of $H) (Hook.keeps $H) (fun s e => xl_of s (Bool.and_eq_true_iff.mp e).1) XL.keeps (by rfl) (by rfl) (by rfl) (fun s e => recFacts_of (Bool.and_eq_true_iff.mp e).2) (by rfl) (by assumption) (by decide +kernel) ⟨rfl, rfl, rfl, rfl, rfl, by decide +kernel⟩ ?hw ?hc; (case hl => (intro w; unfold openEnds fencedOpening topFrom; rw [show (OpenLaw.row PySem.Challenge.rw_uf050039_07).prog = PySem.W.Fast.tw2531664992412712598 from PySem.W.Fast.te2531664992412712598, PySem.W.Fast.te10274390034422433532, PySem.W.Fast.te14082659384304107361, PySem.W.Fast.te4187177175401517315, PySem.W.Fast.te14364793385576792824, PySem.W.Fast.te1435165496053646825, PySem.W.Fast.te14289696077712309145]; kernel_rfl))))
open_top hd for PySem.Challenge.rw_uf050039_07

-- enter a def; what is left: the names, the room
local macro_rules | `(tactic| walk_at "m enter") => `(tactic| ((case hf => k_is); (case hcd => k_is); (case hb => rfl); (case hloc => kernel_rfl!); (case hcell => kernel_rfl!); (case h1 => rfl); (case h2 => rfl); (case h3 => rfl)))
-- a name's value in the frame
local macro_rules | `(tactic| walk_at "m loc") => `(tactic| first | with_reducible exact upd_same _ _ _ | with_reducible assumption | (with_reducible refine upd_other (by decide +kernel) ?_; walk_at "m loc"))
-- a member of a short list
local macro_rules | `(tactic| walk_at "m mem") => `(tactic| first | with_reducible exact List.mem_cons_self | with_reducible assumption | (with_reducible refine List.mem_cons_of_mem _ ?_; walk_at "m mem"))
-- a size
local macro_rules | `(tactic| walk_at "m size") => `(tactic| first | with_reducible assumption | (simp only [sizeLine_eq, len_app, len_one, List.length_cons, List.length_nil, List.length_append, List.length_map, List.length_range] at *; omega))
-- an object that is known
local macro_rules | `(tactic| walk_at "m got") => `(tactic| ((with_reducible rename St _ _ _ _ _ _ _ => hS); first | with_reducible exact St.get hS (by walk_at "m mem") | with_reducible exact St.keep hS _ _ (by with_reducible assumption)))
-- an item of a tuple, by a number that is written
local macro_rules | `(tactic| walk_at "m sub") => `(tactic| ((with_reducible show wpAny _ _ (subscriptTail _ _ _ (Value.int _ _)) _ _ _); refine r_item_tup (by walk_at "m got") (by decide) (by decide) rfl ?_))
-- names
local macro_rules | `(tactic| walk_at "m name") => `(tactic| ((with_reducible rename St _ _ _ _ _ _ _ => hS); first
  | (with_reducible refine' r_loc hS ?hv ?_ ?hc; (case hv => walk_at "m loc"); (case hc => kernel_rfl!))
  | ((with_reducible rename GdH _ _ _ _ => hG); with_reducible refine' r_glob hS hG ?hv ?_ ?hc; (case hv => with_reducible assumption); (case hc => kernel_rfl!))
  | ((with_reducible rename GdH _ _ _ _ => hG); with_reducible refine' r_blt hS hG ?hn ?hv ?_ ?hc; (case hv => with_reducible assumption); (case hn => with_reducible assumption); (case hc => kernel_rfl!))
  | (with_reducible refine' r_cell ?hc ?hl ?ho ?hd ?_; (case hc => kernel_rfl!); (case hl => with_unfolding_all rfl); (case ho => walk_at "m got"); (case hd => with_reducible assumption))))
-- a call by a name
local macro_rules | `(tactic| walk_at "m call") => `(tactic| ((with_reducible rename St _ _ _ _ _ _ _ => hS); (with_reducible rename GdH _ _ _ _ => hG); first
  | (with_reducible refine' e_f hS hG ?hv ?ho ?hd ?hc ?_; (case hv => with_reducible assumption); (case ho => (first | k_is | (show List.lookup _ _ = _; k_is))); (case hd => rfl); (case hc => kernel_rfl!))
  | (with_reducible refine' e_b1 hS hG ?hn ?hv ?hc ?_; (case hv => with_reducible assumption); (case hn => with_reducible assumption); (case hc => kernel_rfl!))
  | (with_reducible refine' e_b2 hS hG ?hn ?hv ?hc ?_; (case hv => with_reducible assumption); (case hn => with_reducible assumption); (case hc => kernel_rfl!))
  | (with_reducible refine' e_b3 hS hG ?hn ?hv ?hc ?_; (case hv => with_reducible assumption); (case hn => with_reducible assumption); (case hc => kernel_rfl!))
  | (with_reducible refine' e_t1 hS hG ?hn ?hv ?hc ?_; (case hv => with_reducible assumption); (case hn => with_reducible assumption); (case hc => kernel_rfl!))))
-- built-in things called
local macro_rules | `(tactic| walk_at "m blt") => `(tactic| ((with_reducible rename St _ _ _ _ _ _ _ => hS); (first
  | (with_reducible refine r_len_str hS (by walk_at "m size") ?_)
  | with_reducible refine isi_int_int hS ?_ | with_reducible refine isi_int_bool hS ?_ | with_reducible refine isi_str_str hS ?_ | with_reducible refine isi_bool_bool hS ?_
  | (with_reducible refine r_len_tup hS (by walk_at "m got") (by first | omega | (simp only [List.length_cons, List.length_nil]; omega)) ?_)
  | (with_reducible refine isi_tuple_tuple (by walk_at "m got") rfl hS ?_) | (with_reducible refine isi_list_list (by walk_at "m got") rfl hS ?_)
  | with_reducible refine r_int_bool hS ?_ | with_reducible refine r_abs hS ?_
  | (with_reducible refine r_min3 hS (Rm.hh (by assumption)) ?_) | (with_reducible refine r_max2 hS (Rm.hh (by assumption)) ?_)
  | (with_reducible refine r_append0 hS (by walk_at "m size") ?_) | (with_reducible refine r_append1 hS (by walk_at "m size") ?_)); clear hS; intros))
local macro_rules | `(tactic| walk_at "m bin") => `(tactic| ((with_reducible rename St _ _ _ _ _ _ _ => hS); (first
  | with_reducible refine r_add hS ?_ | with_reducible refine r_sub hS ?_
  | (with_reducible refine r_fmod hS (by first | decide | omega) ?_) | (with_reducible refine r_fdiv hS (by first | decide | omega) (by first | decide | omega) ?_)
  | (with_reducible refine r_mul hS (by first | exact IntMulOk.of_left (intBits_le_64 (by omega) (by omega)) | exact IntMulOk.of_right (intBits_le_64 (by omega) (by omega))) ?_)
  | (with_reducible refine r_cat hS (by walk_at "m size") ?_)); clear hS; intros))
local macro_rules | `(tactic| walk_at "m cmp") => `(tactic| first
  | with_reducible refine PyProof.Rows.eq_int ?_ | with_reducible refine PyProof.Rows.ne_int ?_ | with_reducible refine PyProof.Rows.lt_int ?_ | with_reducible refine PyProof.Rows.gt_int ?_ | with_reducible refine PyProof.Rows.le_int ?_ | with_reducible refine PyProof.Rows.ge_int ?_
  | with_reducible refine P.eq_str ?_ | with_reducible refine P.ne_str ?_ | with_reducible refine P.in_str ?_ | with_reducible refine P.notIn_str ?_ | with_reducible refine PyProof.Rows.eq_bool ?_ | with_reducible refine PyProof.Rows.ne_bool ?_
  | with_reducible refine is_none ?_ | with_reducible refine isNot_none ?_)
-- statements
local macro_rules | `(tactic| walk_at "m stm") => `(tactic| first
  | with_reducible refine x_assign ?_ | with_reducible refine x_if1 ?_ | with_reducible refine x_if ?_ | with_reducible refine x_ret ?_ | with_reducible refine x_expr ?_
  | ((with_reducible rename St _ _ _ _ _ _ _ => hS); with_reducible refine' x_unpack2 hS ?_ ?hc; (case hc => kernel_rfl!))
  | with_reducible refine x_nil_then ?_ | with_reducible refine x_nil ?_)
-- expressions
local macro_rules | `(tactic| walk_at "m exp") => `(tactic| first
  | ((with_reducible show wpAny _ _ (eval (Expr.Name _ _) _) _ _ _); walk_at "m name")
  | ((with_reducible show wpAny _ _ (eval (Expr.Constant _ _ _) _) _ _ _); first
      | ((with_reducible rename St _ _ _ _ _ _ _ => hS); (first | with_reducible refine r_int hS ?_ | with_reducible refine r_str hS ?_); clear hS; intros)
      | with_reducible refine Constant_bool ?_ | with_reducible refine Constant_none ?_)
  | ((with_reducible show wpAny _ _ (eval (Expr.Call (Expr.Name _ _) _ _ _) _) _ _ _); walk_at "m call")
  | with_reducible refine wpAny_BinOp ?_
  | ((with_reducible show wpAny _ _ (eval (Expr.Compare _ [_] [_] _) _) _ _ _); refine wpAny_Compare1 ?_)
  | ((with_reducible show wpAny _ _ (eval (Expr.Compare _ (_ :: _ :: _) _ _) _) _ _ _); refine Compare_chain ?_)
  | with_reducible refine BoolOp_one ?_ | with_reducible refine BoolOp_and ?_ | with_reducible refine BoolOp_or ?_ | with_reducible refine UnaryOp_ ?_
  | ((with_reducible show wpAny _ _ (eval (Expr.Subscript _ (Expr.Slice _ _ _ _) _) _) _ _ _); (with_reducible rename St _ _ _ _ _ _ _ => hS); first | with_reducible refine e_slice_ns hS ?_ | with_reducible refine e_slice_sn hS ?_ | with_reducible refine e_slice_rev hS ?_)
  | with_reducible refine Subscript_ ?_
  | with_reducible refine List_ ?_ | with_reducible refine Tuple_ ?_
  | ((with_reducible show wpAny _ _ (eval (Expr.Dict _ _ _) _) _ _ _); (with_reducible rename St _ _ _ _ _ _ _ => hS); (first | with_reducible refine e_dict0 hS ?_ | with_reducible refine e_dict1 hS ?_); clear hS; intros)
  | ((with_reducible show wpAny _ _ (eval (Expr.Call (Expr.Attribute _ _ _) _ _ _) _) _ _ _); (with_reducible rename St _ _ _ _ _ _ _ => hS); with_reducible refine' e_append hS ?hv ?hl ?hc ?hli ?_; (case hv => walk_at "m loc"); (case hl => walk_at "m mem"); (case hc => kernel_rfl!); (case hli => kernel_rfl!)))
-- tests
local macro_rules | `(tactic| walk_at "m test") => `(tactic| first
  | ((with_reducible show wpAny _ _ (isTrue (Expr.Compare _ [_] [_] _) _ _) _ _ _); refine wpAny_isTrue_Compare1 ?_) | ((with_reducible show wpAny _ _ (isTrue (Expr.Compare _ (_ :: _ :: _) _ _) _ _) _ _ _); refine isTrue_chain ?_)
  | with_reducible refine isTrue_and_nil ?_ | with_reducible refine isTrue_or_nil ?_ | with_reducible refine isTrue_and ?_ | with_reducible refine isTrue_or ?_ | with_reducible refine isTrue_not ?_
  | refine PyProof.Rows.isTrue_plain ?_)
-- other trees
local macro_rules | `(tactic| walk_at "m tree") => `(tactic| first
  | with_reducible refine wpAny_truthy_bool ?_ | with_reducible refine truthy_none ?_ | with_reducible refine not_of ?_
  | ((with_reducible rename St _ _ _ _ _ _ _ => hS); (first | (with_reducible refine' r_store hS ?_ ?hc; (case hc => kernel_rfl!)) | (with_reducible refine r_newList hS (by walk_at "m size") ?_) | (with_reducible refine r_newTuple hS (by walk_at "m size") ?_) | with_reducible refine r_neg hS ?_); clear hS; intros)
  | with_reducible refine wpAny_items_nil ?_ | ((with_reducible show wpAny _ _ (spliced _) _ _ _); refine wpAny_items_cons ?_)
  | ((with_reducible show wpAny _ _ (testChain _ _ [_] _) _ _ _); refine test_last ?_) | ((with_reducible show wpAny _ _ (testChain _ _ _ _) _ _ _); refine test_link ?_) | ((with_reducible show wpAny _ _ (compareChain _ _ [_] _) _ _ _); refine chain_last ?_) | ((with_reducible show wpAny _ _ (compareChain _ _ _ _) _ _ _); refine chain_link ?_)
  | ((with_reducible show wpAny _ _ (subscriptTail _ _ _ _) _ _ _); walk_at "m sub"))
-- what is no tree
local macro_rules | `(tactic| walk_at "m end") => `(tactic| first
  | with_reducible refine retK_ret ?_ | with_reducible refine thenK_next ?_ | with_reducible refine thenK_ret ?_ | with_reducible refine retK_next ?_
  | with_reducible refine ite_t rfl ?_ | with_reducible refine ite_f rfl ?_
  | with_reducible refine exprK_none ?_ | with_reducible refine exprK_str ?_ | with_reducible refine exprK_bool ?_ | with_reducible refine exprK_int ?_
  | ((with_reducible show Gd _ _ _ _ ∧ _); (with_reducible rename St _ _ _ _ _ _ _ => hS); (with_reducible rename GdH _ _ _ _ => hG); refine ⟨St.gd hS hG, ?_⟩)
  | ((with_reducible rename St _ _ _ _ _ _ _ => hS); (with_reducible refine UnpK.mk hS (Rm.hh (by assumption)) (by walk_at "m mem") ?_); clear hS; intros)
  | ((with_reducible rename St _ _ _ _ _ _ _ => hS); (first | (with_reducible refine SlUp.mk hS (by walk_at "m size") ?_) | (with_reducible refine SlLo.mk hS (by walk_at "m size") ?_) | (with_reducible refine SlRev.mk hS (by walk_at "m size") ?_) | with_reducible refine DictK.mk hS ?_); clear hS; intros))
local macro_rules | `(tactic| walk_at "m step") => `(tactic| first
  | ((with_reducible show wpAny _ _ (eval _ _) _ _ _); walk_at "m exp")
  | ((with_reducible show wpAny _ _ (execs _ _) _ _ _); walk_at "m stm")
  | ((with_reducible show wpAny _ _ (isTrue _ _ _) _ _ _); walk_at "m test")
  | ((with_reducible show wpAny _ _ (call _ _ _) _ _ _); walk_at "m blt")
  | ((with_reducible show wpAny _ _ (binaryOp _ _ _) _ _ _); walk_at "m bin")
  | ((with_reducible show wpAny _ _ (compareOp _ _ _) _ _ _); walk_at "m cmp")
  | ((with_reducible show wpAny _ _ _ _ _ _); walk_at "m tree")
  | walk_at "m end")
-- every test both ways
local macro_rules | `(tactic| walk_at "m split") => `(tactic| first | (refine split_dec ?_ ?_ <;> intro _) | (refine split_bool ?_ ?_ <;> intro _))
local macro_rules | `(tactic| walk_at "m all") => `(tactic| repeat' (first | walk_at "m step" | walk_at "m split"))
local macro_rules | `(tactic| walk_at "m") => `(tactic| repeat' (walk_at "m step"))
-- tests that are settled
local macro_rules | `(tactic| walk_at "m dec") => `(tactic| first | (with_reducible refine' ite_t (decide_eq_true ?hp) ?_; (case hp => omega)) | (with_reducible refine' ite_f (decide_eq_false ?hp) ?_; (case hp => omega)) | (with_reducible refine' ite_f (ndec ?hp) ?_; (case hp => omega)) | (with_reducible refine' ite_t (ndecT ?hp) ?_; (case hp => omega)) | fail)
local macro_rules | `(tactic| walk_at "m lit") => `(tactic| first | (with_reducible refine' ite_t ?hp ?_; (case hp => decide +kernel)) | (with_reducible refine' ite_f ?hp ?_; (case hp => decide +kernel)) | fail)
local macro_rules | `(tactic| walk_at "m wd") => `(tactic| repeat' (first | walk_at "m step" | walk_at "m dec"))
local macro_rules | `(tactic| walk_at "m wl") => `(tactic| repeat' (first | walk_at "m step" | walk_at "m dec" | walk_at "m lit"))
abbrev KK (w : World) : Addr → Obj → Prop := fun a o => (hd.heap_39 w.params).lookup a = some o
abbrev prg : Program := PySem.Challenge.rw_uf050039_07.row.prog
theorem fill_frag : (fun P : Params => hd.heap_39 P) = (fun P => hd.heap_39 P) ∧ PySem.Challenge.rw_uf050039_07 = PySem.Challenge.rw_uf050039_07 := by
  k_fill
  exact ⟨rfl, rfl⟩
structure Nm (mg mb : Str → Option Value) : Prop where
  g_NearError : mg (Str.ofString "NearError") = some (.ref 24)
  g_BadWord : mg (Str.ofString "BadWord") = some (.ref 37)
  g_Full : mg (Str.ofString "Full") = some (.ref 49)
  g_LETTERS : mg (Str.ofString "LETTERS") = some (.str (Str.ofString "abcdefghijklmnopqrstuvwxyz") 241)
  g_MOST_LETTERS : mg (Str.ofString "MOST_LETTERS") = some (.int 24 243)
  g_is_letter : mg (Str.ofString "is_letter") = some (.ref 58)
  g_is_word : mg (Str.ofString "is_word") = some (.ref 63)
  g_need_word : mg (Str.ofString "need_word") = some (.ref 70)
  g_MOST_WORDS : mg (Str.ofString "MOST_WORDS") = some (.int 400 267)
  g_Node : mg (Str.ofString "Node") = some (.ref 87)
  g_gathered : mg (Str.ofString "gathered") = some (.ref 98)
  g_counted : mg (Str.ofString "counted") = some (.ref 105)
  g_Tree : mg (Str.ofString "Tree") = some (.ref 178)
  g_law_at : mg (Str.ofString "_law_at") = some (.ref 189)
  g_law_whole : mg (Str.ofString "_law_whole") = some (.ref 196)
  g_law_letter : mg (Str.ofString "_law_letter") = some (.ref 203)
  g_law_word : mg (Str.ofString "_law_word") = some (.ref 210)
  g_law_bent : mg (Str.ofString "_law_bent") = some (.ref 217)
  g_law_deed : mg (Str.ofString "_law_deed") = some (.ref 224)
  g_law_beginnings : mg (Str.ofString "_law_beginnings") = some (.ref 231)
  g_law_stands : mg (Str.ofString "_law_stands") = some (.ref 236)
  g_law : mg (Str.ofString "law") = some (.ref 243)
  n_isinstance : mg (Str.ofString "isinstance") = none
  b_isinstance : mb (Str.ofString "isinstance") = some (.builtin "isinstance")
  n_len : mg (Str.ofString "len") = none
  b_len : mb (Str.ofString "len") = some (.builtin "len")
  n_range : mg (Str.ofString "range") = none
  b_range : mb (Str.ofString "range") = some (.type "range")
  n_list : mg (Str.ofString "list") = none
  b_list : mb (Str.ofString "list") = some (.type "list")
  n_int : mg (Str.ofString "int") = none
  b_int : mb (Str.ofString "int") = some (.type "int")
  n_str : mg (Str.ofString "str") = none
  b_str : mb (Str.ofString "str") = some (.type "str")
  n_bool : mg (Str.ofString "bool") = none
  b_bool : mb (Str.ofString "bool") = some (.type "bool")
  n_sorted : mg (Str.ofString "sorted") = none
  b_sorted : mb (Str.ofString "sorted") = some (.builtin "sorted")
  n_zip : mg (Str.ofString "zip") = none
  b_zip : mb (Str.ofString "zip") = some (.type "zip")
  n_ValueError : mg (Str.ofString "ValueError") = none
  b_ValueError : mb (Str.ofString "ValueError") = some (.type "ValueError")
theorem nm_of {w : World} {p : Program} {loose : List Str} {mean : ExcName → Option Value} {mg mb : Str → Option Value} {h : Heap} (X : (hd.heap_39 w.params).In h) (T : Top p loose mean mg mb h) : Nm mg mb :=
  ⟨mg_of X T.g (by k_is),
   mg_of X T.g (by k_is),
   mg_of X T.g (by k_is),
   mg_of X T.g (by k_is),
   mg_of X T.g (by k_is),
   mg_of X T.g (by k_is),
   mg_of X T.g (by k_is),
   mg_of X T.g (by k_is),
   mg_of X T.g (by k_is),
   mg_of X T.g (by k_is),
   mg_of X T.g (by k_is),
   mg_of X T.g (by k_is),
   mg_of X T.g (by k_is),
   mg_of X T.g (by k_is),
   mg_of X T.g (by k_is),
   mg_of X T.g (by k_is),
   mg_of X T.g (by k_is),
   mg_of X T.g (by k_is),
   mg_of X T.g (by k_is),
   mg_of X T.g (by k_is),
   mg_of X T.g (by k_is),
   mg_of X T.g (by k_is),
   mg_none_of X T.g (by k_is),
   (T.builtins _ (by decide +kernel)).trans (by boot_fast),
   mg_none_of X T.g (by k_is),
   (T.builtins _ (by decide +kernel)).trans (by boot_fast),
   mg_none_of X T.g (by k_is),
   (T.builtins _ (by decide +kernel)).trans (by boot_fast),
   mg_none_of X T.g (by k_is),
   (T.builtins _ (by decide +kernel)).trans (by boot_fast),
   mg_none_of X T.g (by k_is),
   (T.builtins _ (by decide +kernel)).trans (by boot_fast),
   mg_none_of X T.g (by k_is),
   (T.builtins _ (by decide +kernel)).trans (by boot_fast),
   mg_none_of X T.g (by k_is),
   (T.builtins _ (by decide +kernel)).trans (by boot_fast),
   mg_none_of X T.g (by k_is),
   (T.builtins _ (by decide +kernel)).trans (by boot_fast),
   mg_none_of X T.g (by k_is),
   (T.builtins _ (by decide +kernel)).trans (by boot_fast),
   mg_none_of X T.g (by k_is),
   (T.builtins _ (by decide +kernel)).trans (by boot_fast)⟩
def isLc (c : Nat) : Bool := decide (97 ≤ c ∧ c ≤ 122)
theorem letters_in (c : Nat) : (!(Builtin.Str.occurrences (Str.ofString "abcdefghijklmnopqrstuvwxyz") ⟨#[c]⟩ 0 (Str.ofString "abcdefghijklmnopqrstuvwxyz").length 1).isEmpty) = isLc c := by
  rw [StrLaws.found_one]
  have e : (Str.ofString "abcdefghijklmnopqrstuvwxyz").cps.toList = (List.range 26).map (97 + ·) := by decide +kernel
  rw [e]
  unfold isLc
  congr 1
  refine propext ⟨fun h => ?_, fun h => ?_⟩
  · obtain ⟨i, hi, rfl⟩ := List.mem_map.mp h
    have := List.mem_range.mp hi; omega
  · exact List.mem_map.mpr ⟨c - 97, List.mem_range.mpr (by omega), by omega⟩
/-- a word -/
def isW (x : Str) : Bool := decide (x.length ≤ 24) && (cl x).all isLc
theorem isW_iff (x : Str) : isW x = true ↔ x.length ≤ 24 ∧ ∀ c ∈ cl x, 97 ≤ c ∧ c ≤ 122 := by
  unfold isW
  rw [Bool.and_eq_true, decide_eq_true_eq, List.all_eq_true]
  simp only [isLc, decide_eq_true_eq]
section
variable {w : World} {A : Around} {E : Value → Shared → Prop} {s : Shared} {mg mb : Str → Option Value} {Q : Value → Shared → Prop}
theorem c_is_letter {c : Nat} {t : Tok} (N : Nm mg mb) (G : Gd (KK w) mg mb s.heap) (r : Rm A 1) (h : ∀ s', Kp s s' → Q (.bool (isLc c)) s') : wpAny (model prg w) A (call (.ref 58) [.str ⟨#[c]⟩ t]) Q E s := by
  refine' enterK [Str.ofString "thing"] G ?hf ?hcd r ?hb ?hloc ?hcell ?h1 ?h2 ?h3 ?_
  walk_at "m enter"
  intro E' L s' m hm hL S GH r1
  have e1 : m (Str.ofString "thing") = some (.str ⟨#[c]⟩ t) := by subst hm; rfl
  clear hm hL
  cases N
  have hz : (⟨#[c]⟩ : Str).length ≤ sizeLine := by show 1 ≤ sizeLine; decide
  walk_at "m"
  rw [letters_in]
  exact h _ (St.back ‹_›)
end
section
variable {w : World} {A : Around} {E : Value → Shared → Prop} {s : Shared} {mg mb : Str → Option Value} {Q : Value → Shared → Prop}
theorem c_is_word {x : Str} {t : Tok} (N : Nm mg mb) (G : Gd (KK w) mg mb s.heap) (r : Rm A 2) (hz : x.length ≤ sizeLine) (h : ∀ s', Kp s s' → Q (.bool (isW x)) s') : wpAny (model prg w) A (call (.ref 63) [.str x t]) Q E s := by
  refine' enterK [Str.ofString "thing"] G ?hf ?hcd r ?hb ?hloc ?hcell ?h1 ?h2 ?h3 ?_
  walk_at "m enter"
  intro E' L s' m hm hL S GH r1
  have e1 : m (Str.ofString "thing") = some (.str x t) := by subst hm; rfl
  clear hm hL
  have N' := N
  cases N
  walk_at "m"
  refine split_dec (fun hc => ?_) (fun hc => ?_)
  · walk_at "m"
    rw [show isW x = false by simp [isW]; intro h'; omega] at h
    exact h _ (St.back ‹_›)
  · walk_at "m"
    with_reducible rename GdH _ _ _ _ => hG
    refine e_comp_str (s₀ := s) (H := fun b o => s.heap.get? b = some o) (L := L) (k := true) (fun c => !isLc c) (by with_unfolding_all rfl) (by decide) rfl (by decide) (by rfl) ?_
    walk_at "m"
    refine ⟨x, t, m, [], rfl, hz, r1.hh, ‹_›, ?_, ?_, ?_⟩
    · intro E'' C c u m₃ s₃ hk hcx S₃ e3
      have G₃ : GdH (KK w) mg mb (fun b o => s₃.heap.get? b = some o) := (hG _ hk).toH
      clear hG
      walk_at "m"
      refine c_is_letter N' (St.gd ‹_› ‹_›) r1 fun s₄ k₄ => ?_
      walk_at "m"
      exact ⟨rfl, k₄⟩
    · intro E'' C c u m₃ s₃ hk hcx S₃ e3
      walk_at "m"
      exact Kp.refl _
    · intro D ys n s₄ hD hy S₄
      walk_at "m"
      rename_i a s₅ ha S₅
      refine r_eq_nil (isL (S₅.get (a := D) (o := lst ys n) (by simp))) (isL (S₅.get (a := a) (o := lst [] 0) (by simp))) rfl r1.line ?_
      rw [show isW x = (ys.length == 0) by
        rw [hy, Bool.eq_iff_iff]
        rw [isW_iff, beq_iff_eq, List.length_eq_zero_iff, List.filter_eq_nil_iff]
        simp only [isLc, Bool.not_eq_true', decide_eq_false_iff_not, Decidable.not_not]
        exact ⟨fun q => q.2, fun q => ⟨by omega, q⟩⟩] at h
      walk_at "m"
      exact h _ (St.back S₅)
end
section
variable {w : World} {A : Around} {E : Value → Shared → Prop} {s : Shared} {mg mb : Str → Option Value} {Q : Value → Shared → Prop}
theorem c_need_word {x : Str} {t : Tok} (N : Nm mg mb) (G : Gd (KK w) mg mb s.heap) (r : Rm A 3) (hw : isW x = true) (h : ∀ s', Kp s s' → Q (.str x t) s') : wpAny (model prg w) A (call (.ref 70) [.str x t]) Q E s := by
  refine' enterK [Str.ofString "thing"] G ?hf ?hcd r ?hb ?hloc ?hcell ?h1 ?h2 ?h3 ?_
  walk_at "m enter"
  intro E' L s' m hm hL S GH r1
  have e1 : m (Str.ofString "thing") = some (.str x t) := by subst hm; rfl
  clear hm hL
  have N' := N
  cases N
  have hz : x.length ≤ sizeLine := by have := ((isW_iff x).mp hw).1; rw [sizeLine_eq]; omega
  walk_at "m"
  refine c_is_word N' (St.gd ‹_› ‹_›) r1 hz fun s₄ k₄ => ?_
  rw [hw]
  have S₄ := St.kp ‹_› k₄
  walk_at "m"
  exact h _ (St.back ‹_›)
end
theorem Rm.make {A : Around} {n : Nat} (r : Rm A (n + 1)) (C : Addr) (vals : List Value) : Rm (A.under (.builtin "type.__call__" ⟨.ref C :: vals, []⟩)) n := ⟨r.hh, by have := r.dep; show A.depth + 1 + n < 990; omega, by have := r.un; show A.units + 1 + 10 * n < 9800; omega⟩
theorem plainN (w : World) : Plain (hd.heap_39 w.params) 87 := ⟨by first | k_is | kernel_rfl!, by first | k_is | kernel_rfl!, by first | k_is | kernel_rfl!, by first | k_is | kernel_rfl!⟩
theorem plainT (w : World) : Plain (hd.heap_39 w.params) 178 := ⟨by first | k_is | kernel_rfl!, by first | k_is | kernel_rfl!, by first | k_is | kernel_rfl!, by first | k_is | kernel_rfl!⟩
-- attributes read, stored; items stored
local macro_rules | `(tactic| walk_at "m exp") => `(tactic| ((with_reducible show wpAny _ _ (eval (Expr.Attribute _ _ _) _) _ _ _); refine Attribute_any_ ?_))
local macro_rules | `(tactic| walk_at "m exp") => `(tactic| ((with_reducible rename St _ _ _ _ _ _ _ => hS); (with_reducible rename GdH _ _ _ _ => hG); (with_reducible refine e_dict0S hS hG ?_); clear hS; intros))
local macro_rules | `(tactic| walk_at "m stm") => `(tactic| first | with_reducible refine x_setattr ?_ | with_reducible refine x_setitem ?_)
section
variable {w : World} {A : Around} {E : Value → Shared → Prop} {s : Shared} {mg mb : Str → Option Value} {Q : Value → Shared → Prop}
theorem c_node_init {a d : Addr} (N : Nm mg mb) (G : GdH (KK w) mg mb (Hm s [(d, emptyDict)])) (ha : s.heap.get? a = some (instObj 87 d)) (hd : s.heap.get? d = some emptyDict) (hne : a ≠ d) (r : Rm A 1)
    (h : ∀ (r' : NR) (s' : Shared), NOk prg w r' → r'.a = a → r'.d = d → r'.kids = [] → r'.kept = false → Gv s [(d, emptyDict)] [(r'.i, r'.oi), (d, r'.od)] s' → Q .none s') :
    codeAny (model prg w) A (.call (.ref 84) ⟨[.ref a], []⟩) (fun r s' => match r with | .ok (.ret v) => Q v s' | .ok _ => False | .error e => E e s') s := by
  have hσ : (∀ p ∈ [(d, emptyDict)], s.heap.get? p.1 = some p.2) ∧ ([(d, emptyDict)].map (·.1)).Nodup := ⟨fun p hp => by rcases List.mem_singleton.mp hp with rfl; exact hd, by simp⟩
  refine' enterM [Str.ofString "self"] [(d, emptyDict)] G hσ ?hf ?hcd r ?hb ?hloc ?hcell ?h1 ?h2 ?h3 ?_
  walk_at "m enter"
  intro E' L s' m hm S GH r1
  have e1 : m (Str.ofString "self") = some (.ref a) := by subst hm; rfl
  clear hm
  have N' := N
  cases N
  have hH : Hm s [(d, emptyDict)] a (instObj 87 d) := ⟨ha, by simpa using hne⟩
  walk_at "m"
  have SS := ‹St true s _ L m [(d, emptyDict)] _›
  refine set_attr (σ₁ := []) (plainN w) SS (fun s' k => (G s'.heap k).X) (SS.keep _ _ hH) AD.empty (by decide) (by first | k_is | kernel_rfl!) fun od1 s1 ad1 S1 => ?_
  clear SS
  walk_at "m"
  have SS := ‹St true s _ L m (_ :: _) _›
  refine set_attr (σ₁ := [_]) (plainN w) SS (fun s' k => (G s'.heap k).X) (SS.keep _ _ hH) ad1 (by decide) (by first | k_is | kernel_rfl!) fun od2 s2 ad2 S2 => ?_
  clear SS
  walk_at "m"
  exact h ⟨a, d, _, od2, dct0, false, []⟩ s2 ⟨ad2.le (by decide +kernel), DS.empty, ‹_ ≠ sysModules›⟩ rfl rfl rfl rfl S2.gv
/-- Node() -/
theorem e_node {k : Bool} {s₀ : Shared} {H : Addr → Obj → Prop} {L : Addr} {m : Str → Option Value} {σ : List (Addr × Obj)} {env : Env} {p pos : Pos} (N : Nm mg mb) (S : St k s₀ H L m σ s) (G : GdH (KK w) mg mb H) (r : Rm A 2)
    (hc : (env.scope.kind == .function && env.scope.names.lookup (Str.ofString "Node") == some .globalImplicit && !((Str.ofString "Node") == ("__debug__" : Str))) = true)
    (h : ∀ (r' : NR) (s' : Shared), NOk prg w r' → r'.kids = [] → r'.kept = false → St k s₀ H L m (r'.objs 87 ++ σ) s' → Q (.ref r'.a) s')
    (hg : env.globals = mainGlobals := by with_unfolding_all rfl) : wpAny (model prg w) A (eval (.Call (.Name (Str.ofString "Node") p) [] [] pos) env) Q E s := by
  refine' e_new (K := hd.heap_39 w.params) S G N.g_Node ?a ?b ?c ?d hc ?_ hg
  (case a => first | k_is | kernel_rfl!)
  (case b => first | k_is | kernel_rfl!)
  (case c => first | k_is | kernel_rfl!)
  (case d => first | k_is | kernel_rfl!)
  intro a d s1 ha hd hlt hsz S1
  have S1' : St k s₀ H L m ([(d, emptyDict)] ++ ((a, instObj 87 d) :: σ)) s1 := S1.perm (List.Perm.swap ..)
  refine codeAny_mono (c_node_init (E := E) (Q := fun v s' => v = .none ∧ Q (.ref a) s') N (S1'.hm G) (S1.get List.mem_cons_self) (S1.get (List.mem_cons_of_mem _ List.mem_cons_self)) (Nat.ne_of_gt hlt) (r.make _ _) fun r' s' ok e1 e2 e3 e4 gv => ⟨rfl, ?_⟩) fun rr s' z => ?_
  · have S2 := S1'.swap gv
    subst e1 e2
    exact h r' s' ok e3 e4 (S2.perm (by
      show ((r'.i, r'.oi) :: (r'.d, r'.od) :: (r'.a, _) :: σ).Perm ((r'.a, _) :: (r'.d, r'.od) :: (r'.i, r'.oi) :: σ)
      exact (List.Perm.swap ..).trans (((List.Perm.swap ..).cons _).trans ((List.Perm.swap ..).trans ((List.Perm.refl _)))) |>.trans (by first | exact List.Perm.refl _ | (apply List.Perm.cons; exact List.Perm.swap ..))))
  · rcases rr with e | (v | _ | _ | _) <;> exact z
end
/-- a tree as it lies in the heap -/
structure TR where
  a : Addr
  d : Addr
  od : Obj
  top : Addr
def treeM (top : Addr) (n : Int) (t : Tok) : Str → Option Value := upd (upd (fun _ => none) (Str.ofString "top") (.ref top)) (Str.ofString "kept") (.int n t)
theorem treeM_top (top : Addr) (n : Int) (t : Tok) : treeM top n t (Str.ofString "top") = some (.ref top) := by
  unfold treeM; rw [upd_other (by decide +kernel) (upd_same _ _ _)]
theorem treeM_kept (top : Addr) (n : Int) (t : Tok) : treeM top n t (Str.ofString "kept") = some (.int n t) := upd_same _ _ _
theorem treeM_set (top : Addr) (n n' : Int) (t t' : Tok) : upd (treeM top n t) (Str.ofString "kept") (.int n' t') = treeM top n' t' := by
  funext y
  unfold treeM upd
  by_cases h1 : y = Str.ofString "kept"
  · simp [h1]
  · simp [h1]
abbrev treeL (t : TR) (T : Trie) : List (Addr × Obj) := (t.a, instObj 178 t.d) :: (t.d, t.od) :: objsT 87 T
structure TOk (w : World) (K W : List Nat → Prop) (n : Int) (t : TR) (T : Trie) : Prop where
  inv : Inv prg w K W T
  ad : ∃ tk, AD t.od (treeM t.top n tk) 2
  top : ∃ r, ([], r) ∈ T ∧ r.a = t.top
  lets : ∀ q, K q → q.length ≤ 24 ∧ ∀ c ∈ q, 97 ≤ c ∧ c ≤ 122
theorem Inv.pre {w : World} {K W : List Nat → Prop} {T : Trie} (I : Inv prg w K W T) : ∀ (q p : List Nat), K (p ++ q) → K p
  | [], p, h => by simpa using h
  | c :: q, p, h => I.cl p c (Inv.pre I q (p ++ [c]) (by simpa using h))
theorem node_objs {C : Addr} {T : Trie} {p : List Nat} {r : NR} (h : (p, r) ∈ T) : (r.a, instObj C r.d) ∈ objsT C T ∧ (r.d, r.od) ∈ objsT C T ∧ (r.i, r.oi) ∈ objsT C T := by
  unfold objsT
  refine ⟨List.mem_flatMap.mpr ⟨_, h, ?_⟩, List.mem_flatMap.mpr ⟨_, h, ?_⟩, List.mem_flatMap.mpr ⟨_, h, ?_⟩⟩ <;> simp [NR.objs]
section
variable {w : World} {A : Around} {E : Value → Shared → Prop} {s : Shared} {mg mb : Str → Option Value} {Q : Value → Shared → Prop} {K W : List Nat → Prop} {n : Int} {t : TR} {T : Trie}
theorem c_found_node {x : Str} {u : Tok} (N : Nm mg mb) (G : Gd (KK w) mg mb s.heap) (r : Rm A 1) (ok : TOk w K W n t T) (hT : ∀ q ∈ treeL t T, s.heap.get? q.1 = some q.2) (hz : x.length ≤ 1000)
    (h1 : ∀ r s', (cl x, r) ∈ T → Kp s s' → Q (.ref r.a) s') (h2 : ¬ K (cl x) → ∀ s', Kp s s' → Q .none s') : wpAny (model prg w) A (call (.ref 126) [.ref t.a, .str x u]) Q E s := by
  refine' enterK [Str.ofString "self", Str.ofString "word"] G ?hf ?hcd r ?hb ?hloc ?hcell ?h1 ?h2 ?h3 ?_
  walk_at "m enter"
  intro E' L s' m hm hL S GH r1
  have e1 : m (Str.ofString "self") = some (.ref t.a) := by subst hm; rfl
  have e2 : m (Str.ofString "word") = some (.str x u) := by subst hm; rfl
  clear hm hL
  have N' := N
  cases N
  obtain ⟨I, ⟨tk, ad⟩, ⟨r0, hr0, er0⟩, _⟩ := ok
  walk_at "m"
  refine r_attr ‹_› ‹_› (plainT w) (St.keep ‹_› _ _ (hT _ List.mem_cons_self)) (St.keep ‹_› _ _ (hT _ (List.mem_cons_of_mem _ List.mem_cons_self))) ad (treeM_top _ _ _) (by first | k_is | kernel_rfl!) rfl ?_
  intros
  walk_at "m"
  refine x_for ?_
  walk_at "m"
  refine for_str (J := fun i m' σ' => σ' = [] ∧ ∃ rr, m' (Str.ofString "node") = some (.ref rr.a) ∧ ((cl x).take i, rr) ∈ T) ‹_› r1.hh ⟨rfl, r0, by rw [er0]; walk_at "m loc", by simpa using hr0⟩ ?_ ?_ ?_
  · kernel_rfl!
  · intro E2 i m2 σ2 s2 c tc Hb hi hc hJ hb S2
    obtain ⟨rfl, rr, f1, hrr⟩ := hJ
    have hG' := GdH.mono ‹_› hb
    obtain ⟨o1, o2, o3⟩ := node_objs (C := 87) hrr
    have g1 := hb _ _ (hT _ (List.mem_cons_of_mem _ (List.mem_cons_of_mem _ o1)))
    have g2 := hb _ _ (hT _ (List.mem_cons_of_mem _ (List.mem_cons_of_mem _ o2)))
    have g3 := hb _ _ (hT _ (List.mem_cons_of_mem _ (List.mem_cons_of_mem _ o3)))
    have ok := I.ok _ _ hrr
    have et : (cl x).take (i + 1) = (cl x).take i ++ [c] := by
      have hl : i < (cl x).length := by rw [cl_length]; exact hi
      rw [List.take_add_one]
      congr 1
      rw [show (cl x)[i]? = some c from hc]; rfl
    walk_at "m"
    have S5 := ‹St true s Hb L _ _ _›
    have G5 := ‹GdH _ mg mb Hb›
    refine r_attr S5 G5 (plainN w) (S5.keep _ _ g1) (S5.keep _ _ g2) ok.ad (nodeM_inner _ _) (by first | k_is | kernel_rfl!) rfl fun s6 S6 => ?_
    clear S5
    walk_at "m"
    have S7 := ‹St true s Hb L _ _ _›
    refine r_notin_dict S7 ok.lo (S7.keep _ _ g3) ok.di fun s8 S8 => ?_
    clear S7
    by_cases hK : K ((cl x).take (i + 1))
    · obtain ⟨rn, hrn⟩ := I.node hK
      rw [et] at hrn
      have hv := I.kidSome hrr hrn
      rw [show (⟨#[c]⟩ : Str) = one c from rfl, hv]
      walk_at "m"
      have S9 := ‹St true s Hb L _ _ _›
      refine r_attr S9 G5 (plainN w) (S9.keep _ _ g1) (S9.keep _ _ g2) ok.ad (nodeM_inner _ _) (by first | k_is | kernel_rfl!) rfl fun s10 S10 => ?_
      clear S9
      walk_at "m"
      have S11 := ‹St true s Hb L _ _ _›
      refine r_item_dict S11 (S11.keep _ _ g3) ok.di hv fun s12 S12 => ?_
      clear S11
      walk_at "m"
      exact turnK_next ‹_› ⟨rfl, rn, by walk_at "m loc", by rw [et]; exact hrn⟩
    · have hv := I.kidNone (c := c) hrr (by rw [← et]; exact hK)
      rw [show (⟨#[c]⟩ : Str) = one c from rfl, hv]
      walk_at "m"
      exact turnK_ret (thenK_ret (retK_ret (h2 (fun q => hK (I.pre ((cl x).drop (i + 1)) _ (by rw [List.take_append_drop]; exact q))) _ (St.back (S8.anti hb)))))
  · intro m2 σ2 s2 hJ S2
    obtain ⟨rfl, rr, f1, hrr⟩ := hJ
    walk_at "m"
    refine h1 rr _ ?_ (St.back ‹St _ _ _ _ m2 _ _›)
    rw [← cl_length, List.take_length] at hrr
    exact hrr
theorem c_has {x : Str} {u : Tok} (N : Nm mg mb) (G : Gd (KK w) mg mb s.heap) (r : Rm A 4) (ok : TOk w K W n t T) (hT : ∀ q ∈ treeL t T, s.heap.get? q.1 = some q.2) (hx : isW x = true)
    (h : ∀ b s', (b = true ↔ W (cl x)) → Kp s s' → Q (.bool b) s') : wpAny (model prg w) A (call (.ref 133) [.ref t.a, .str x u]) Q E s := by
  refine' enterK [Str.ofString "self", Str.ofString "word"] G ?hf ?hcd r ?hb ?hloc ?hcell ?h1 ?h2 ?h3 ?_
  walk_at "m enter"
  intro E' L s' m hm hL S GH r1
  have e1 : m (Str.ofString "self") = some (.ref t.a) := by subst hm; rfl
  have e2 : m (Str.ofString "word") = some (.str x u) := by subst hm; rfl
  clear hm hL
  have N' := N
  cases N
  have hlx := ((isW_iff x).mp hx).1
  have I := ok.inv
  obtain ⟨tk, ad⟩ := ok.ad
  refine x_assign ?_
  refine e_meth (K := hd.heap_39 w.params) _ ?_
  walk_at "m"
  have S5 := ‹St true s _ L m [] _›
  refine' MethK.mk S5 ‹_› (plainT w) (S5.keep _ _ (hT _ List.mem_cons_self)) (S5.keep _ _ (hT _ (List.mem_cons_of_mem _ List.mem_cons_self))) ad ?hno ?hk ?hf ?ht ?_
  (case hno => unfold treeM; rw [upd_other (by decide +kernel) (upd_other (by decide +kernel) rfl)])
  (case hk => first | k_is | kernel_rfl!)
  (case hf => first | k_is | kernel_rfl!)
  (case ht => first | k_is | kernel_rfl!)
  refine' e_first (K := hd.heap_39 w.params) ?hk (S5.gd ‹_›).X ?_
  (case hk => first | k_is | kernel_rfl!)
  clear S5
  walk_at "m"
  refine c_need_word N' (St.gd ‹_› ‹_›) (r1.less (by omega)) hx fun s1 k1 => ?_
  have S6 := St.kp ‹_› k1
  walk_at "m"
  refine ⟨(St.gd ‹_› ‹_›).X, ?_⟩
  refine c_found_node N' (St.gd ‹_› ‹_›) (r1.less (by omega)) ok (fun q hq => S6.keep _ _ (hT q hq)) (by omega) (fun rr s7 hrr k7 => ?_) fun hK s7 k7 => ?_
  · have S7 := S6.kp k7
    clear S6
    walk_at "m"
    obtain ⟨o1, o2, o3⟩ := node_objs (C := 87) hrr
    have S8 := ‹St true s _ L _ [] _›
    refine r_attr S8 ‹_› (plainN w) (S8.keep _ _ (hT _ (List.mem_cons_of_mem _ (List.mem_cons_of_mem _ o1)))) (S8.keep _ _ (hT _ (List.mem_cons_of_mem _ (List.mem_cons_of_mem _ o2)))) (I.ok _ _ hrr).ad (nodeM_kept _ _) (by first | k_is | kernel_rfl!) rfl fun s9 S9 => ?_
    clear S8
    walk_at "m"
    exact h _ _ (I.kept _ _ hrr) (St.back ‹_›)
  · have S7 := S6.kp k7
    clear S6
    walk_at "m"
    exact h false _ ⟨fun e => (by cases e), fun e => absurd (I.wk _ e) hK⟩ (St.back ‹_›)
end
theorem Inv.congr {w : World} {K K' W W' : List Nat → Prop} {T : Trie} (I : Inv prg w K W T) (hK : ∀ q, K q ↔ K' q) (hW : ∀ q, W q ↔ W' q) : Inv prg w K' W' T :=
  ⟨I.nd, fun q => (I.keys q).trans (hK q), fun q r h => (I.kept q r h).trans (hW q), I.kin, I.kout, I.ok, fun q c h => (hK q).mp (I.cl q c ((hK _).mpr h)), (hK _).mp I.root, fun q h => (hK q).mp (I.wk q ((hW q).mpr h))⟩
theorem split_i {t : TR} {T₁ T₂ : Trie} {p : List Nat} {r : NR} : treeL t (T₁ ++ (p, r) :: T₂) = ((t.a, instObj 178 t.d) :: (t.d, t.od) :: (objsT 87 T₁ ++ [(r.a, instObj 87 r.d), (r.d, r.od)])) ++ (r.i, r.oi) :: objsT 87 T₂ := by
  simp [treeL, objsT_split]
theorem split_d {t : TR} {T₁ T₂ : Trie} {p : List Nat} {r : NR} : treeL t (T₁ ++ (p, r) :: T₂) = ((t.a, instObj 178 t.d) :: (t.d, t.od) :: (objsT 87 T₁ ++ [(r.a, instObj 87 r.d)])) ++ (r.d, r.od) :: ((r.i, r.oi) :: objsT 87 T₂) := by
  simp [treeL, objsT_split]
theorem add_perm {t : TR} {T : Trie} {p : List Nat} {r : NR} : (r.objs 87 ++ treeL t T).Perm (treeL t ((p, r) :: T)) := by
  have e : treeL t ((p, r) :: T) = (t.a, instObj 178 t.d) :: (t.d, t.od) :: (r.objs 87 ++ objsT 87 T) := rfl
  rw [e]
  exact List.perm_middle.trans (List.perm_middle.cons _)
theorem node_in {t : TR} {T : Trie} {p : List Nat} {r : NR} (h : (p, r) ∈ T) : (r.a, instObj 87 r.d) ∈ treeL t T ∧ (r.d, r.od) ∈ treeL t T ∧ (r.i, r.oi) ∈ treeL t T :=
  let ⟨a, b, c⟩ := node_objs (C := 87) h
  ⟨List.mem_cons_of_mem _ (List.mem_cons_of_mem _ a), List.mem_cons_of_mem _ (List.mem_cons_of_mem _ b), List.mem_cons_of_mem _ (List.mem_cons_of_mem _ c)⟩
theorem mem_eq {p q : List Nat} {r : NR} {T : Trie} (e : p = q) (h : (q, r) ∈ T) : (p, r) ∈ T := by subst e; exact h
theorem stored_new {kids : List (Nat × Addr)} {c : Nat} {b : Addr} (h : valueAt (kvsOf kids) (one c) = none) : stored (kvsOf kids) (one c) (.ref b) = kvsOf (kids ++ [(c, b)]) := by
  unfold stored
  rw [if_neg]
  · simp [kvsOf]
  · intro q
    rw [List.any_eq_true] at q
    obtain ⟨kv, hkv, e⟩ := q
    unfold valueAt at h
    rw [Option.map_eq_none_iff, List.find?_eq_none] at h
    exact h kv hkv e
theorem prefix_concat {q p : List Nat} {c : Nat} : q <+: p ++ [c] ↔ q = p ++ [c] ∨ q <+: p := by
  constructor
  · rintro ⟨v, e⟩
    rcases List.eq_nil_or_concat v with rfl | ⟨v', d, rfl⟩
    · exact .inl (by simpa using e)
    · rw [List.concat_eq_append, ← List.append_assoc] at e
      exact .inr ⟨v', (List.append_inj_left' e rfl)⟩
  · rintro (rfl | h)
    · exact List.prefix_refl _
    · exact h.trans (List.prefix_append _ _)
section
variable {w : World} {A : Around} {E : Value → Shared → Prop} {s : Shared} {mg mb : Str → Option Value} {Q : Value → Shared → Prop} {K W : List Nat → Prop} {n : Int} {t : TR} {T : Trie}
theorem c_put {x : Str} {u : Tok} (N : Nm mg mb) (G : GdH (KK w) mg mb (Hm s (treeL t T))) (hσ : (∀ p ∈ treeL t T, s.heap.get? p.1 = some p.2) ∧ ((treeL t T).map (·.1)).Nodup) (r : Rm A 6) (ok : TOk w K W n t T) (hx : isW x = true) (hn : n < 400)
    (h : ∀ b t' T' s', (b = true ↔ ¬ W (cl x)) → t'.a = t.a → TOk w (fun q => K q ∨ q <+: cl x) (fun q => W q ∨ q = cl x) (if b then n + 1 else n) t' T' → Gv s (treeL t T) (treeL t' T') s' → Q (.bool b) s') :
    wpAny (model prg w) A (call (.ref 140) [.ref t.a, .str x u]) Q E s := by
  refine wpAny_call ?_
  refine' enterM [Str.ofString "self", Str.ofString "word"] (treeL t T) G hσ ?hf ?hcd r ?hb ?hloc ?hcell ?h1 ?h2 ?h3 ?_
  walk_at "m enter"
  intro E' L s' m hm S GH r1
  have e1 : m (Str.ofString "self") = some (.ref t.a) := by subst hm; rfl
  have e2 : m (Str.ofString "word") = some (.str x u) := by subst hm; rfl
  clear hm
  have N' := N
  cases N
  have hlx := ((isW_iff x).mp hx).1
  have I := ok.inv
  obtain ⟨tk, ad⟩ := ok.ad
  obtain ⟨r0, hr0, er0⟩ := ok.top
  have hlets : ∀ q, K q ∨ q <+: cl x → q.length ≤ 24 ∧ ∀ c ∈ q, 97 ≤ c ∧ c ≤ 122 := fun q hq => hq.elim (ok.lets q) fun hp => ⟨by have := hp.length_le; rw [cl_length] at this; omega, fun c hc => ((isW_iff x).mp hx).2 c (hp.subset hc)⟩
  refine x_if1 ?_
  refine PyProof.Rows.isTrue_plain ?_
  refine e_meth (K := hd.heap_39 w.params) _ ?_
  walk_at "m"
  have S5 := ‹St true s _ L m _ _›
  refine' MethK.mk S5 ‹_› (plainT w) (S5.get List.mem_cons_self) (S5.get (List.mem_cons_of_mem _ List.mem_cons_self)) ad ?hno ?hk ?hf ?ht ?_
  (case hno => unfold treeM; rw [upd_other (by decide +kernel) (upd_other (by decide +kernel) rfl)])
  (case hk => first | k_is | kernel_rfl!)
  (case hf => first | k_is | kernel_rfl!)
  (case ht => first | k_is | kernel_rfl!)
  refine' e_first (K := hd.heap_39 w.params) ?hk (S5.gd ‹_›).X ?_
  (case hk => first | k_is | kernel_rfl!)
  clear S5
  walk_at "m"
  refine ⟨(St.gd ‹_› ‹_›).X, ?_⟩
  have S6 := ‹St true s _ L m _ _›
  refine c_has N' (St.gd S6 ‹_›) (r1.less (by omega)) ok (fun q hq => S6.get hq) hx fun b s1 hb k1 => ?_
  have S7 := S6.kp k1
  clear S6
  cases b with
  | true =>
    walk_at "m"
    have hW := hb.mp rfl
    refine h false t T _ ⟨fun e => (by cases e), fun e => absurd hW e⟩ rfl ⟨I.congr (fun q => ⟨.inl, fun q' => q'.elim id fun ⟨v, e⟩ => I.pre v q (e ▸ I.wk _ hW)⟩) (fun q => ⟨.inl, fun q' => q'.elim id fun e => e ▸ hW⟩), ⟨tk, by simpa using ad⟩, ⟨r0, hr0, er0⟩, hlets⟩ (St.gv ‹_›)
  | false =>
    have hW : ¬ W (cl x) := fun q => by cases hb.mpr q
    walk_at "m"
    have S8 := ‹St true s _ L m _ _›
    refine r_attr S8 ‹_› (plainT w) (S8.get List.mem_cons_self) (S8.get (List.mem_cons_of_mem _ List.mem_cons_self)) ad (treeM_kept _ _ _) (by first | k_is | kernel_rfl!) rfl fun s2 S9 => ?_
    clear S8
    walk_at "m wd"
    have S8 := ‹St true s _ L m _ _›
    refine r_attr S8 ‹_› (plainT w) (S8.get List.mem_cons_self) (S8.get (List.mem_cons_of_mem _ List.mem_cons_self)) ad (treeM_top _ _ _) (by first | k_is | kernel_rfl!) rfl fun s3 S10 => ?_
    clear S8
    walk_at "m"
    refine x_for ?_
    walk_at "m"
    refine for_str (J := fun i m' σ' => m' (Str.ofString "self") = some (.ref t.a) ∧ ∃ Ti ri r0', σ' = treeL t Ti ∧ Inv prg w (fun q => K q ∨ q <+: (cl x).take i) W Ti ∧ ((cl x).take i, ri) ∈ Ti ∧ m' (Str.ofString "node") = some (.ref ri.a) ∧ ([], r0') ∈ Ti ∧ r0'.a = t.top) ‹_› r1.hh ?_ ?_ ?_ ?_
    · refine ⟨by walk_at "m loc", T, r0, r0, rfl, I.congr (fun q => ⟨.inl, fun q' => q'.elim id fun e => ?_⟩) (fun q => Iff.rfl), by simpa using hr0, by rw [er0]; walk_at "m loc", hr0, er0⟩
      rw [List.take_zero, List.prefix_nil] at e
      exact e ▸ I.root
    · kernel_rfl!
    · intro E2 i m2 σ2 s4 c tc Hb hi hc hJ hbb S2
      obtain ⟨f0, Ti, ri, r0', rfl, Ii, hri, f1, hr0', er0'⟩ := hJ
      have hG' := GdH.mono ‹_› hbb
      obtain ⟨o1, o2, o3⟩ := node_in (t := t) hri
      have ok := Ii.ok _ _ hri
      have et : (cl x).take (i + 1) = (cl x).take i ++ [c] := by
        rw [List.take_add_one]
        congr 1
        rw [show (cl x)[i]? = some c from hc]; rfl
      walk_at "m"
      have S5 := ‹St true s Hb L _ _ _›
      have G5 := ‹GdH _ mg mb Hb›
      refine r_attr S5 G5 (plainN w) (S5.get o1) (S5.get o2) ok.ad (nodeM_inner _ _) (by first | k_is | kernel_rfl!) rfl fun s6 S6 => ?_
      clear S5
      walk_at "m"
      have S7 := ‹St true s Hb L _ _ _›
      refine r_notin_dict S7 ok.lo (S7.get o3) ok.di fun s8 S8 => ?_
      clear S7
      by_cases hK : K ((cl x).take (i + 1)) ∨ (cl x).take (i + 1) <+: (cl x).take i
      · obtain ⟨rn, hrn⟩ := Ii.node hK
        rw [et] at hrn
        have hv := Ii.kidSome hri hrn
        rw [show (⟨#[c]⟩ : Str) = one c from rfl, hv]
        walk_at "m"
        have S9 := ‹St true s Hb L _ _ _›
        refine r_attr S9 G5 (plainN w) (S9.get o1) (S9.get o2) ok.ad (nodeM_inner _ _) (by first | k_is | kernel_rfl!) rfl fun s10 S10 => ?_
        clear S9
        walk_at "m"
        have S11 := ‹St true s Hb L _ _ _›
        refine r_item_dict S11 (S11.get o3) ok.di hv fun s12 S12 => ?_
        clear S11
        walk_at "m"
        refine turnK_next ‹_› ⟨by walk_at "m loc", Ti, rn, r0', rfl, Ii.congr (fun q => ?_) (fun q => Iff.rfl), by rw [et]; exact hrn, by walk_at "m loc", hr0', er0'⟩
        rw [et, prefix_concat]
        constructor
        · rintro (q1 | q1)
          · exact .inl q1
          · exact .inr (.inr q1)
        · rintro (q1 | rfl | q1)
          · exact .inl q1
          · rw [et] at hK; exact hK
          · exact .inr q1
      · rw [et] at hK
        have hv := Ii.kidNone hri hK
        rw [show (⟨#[c]⟩ : Str) = one c from rfl, hv]
        walk_at "m"
        have S9 := ‹St true s Hb L _ _ _›
        refine e_node N' S9 G5 (r1.less (by omega)) (by kernel_rfl!) fun rn s10 okn hk0 hkk S10 => ?_
        clear S9
        walk_at "m"
        have S11 := ‹St true s Hb L _ (_ ++ _) _›
        refine r_attr S11 G5 (plainN w) (S11.get (List.mem_append_right _ o1)) (S11.get (List.mem_append_right _ o2)) ok.ad (nodeM_inner _ _) (by first | k_is | kernel_rfl!) rfl fun s11 S12 => ?_
        clear S11
        walk_at "m"
        have hkl : (kvsOf ri.kids).length ≤ sizeLine := by
          have := nodup_len 97 26 (ri.kids.map (·.1)) (kids_nodup ok) fun e he => by
            have := (hlets _ (((Ii.kidIff hri).mp he).elim .inl fun q => .inr (q.trans (List.take_prefix _ _)))).2 e (by simp)
            omega
          rw [List.length_map] at this
          rw [sizeLine_eq, kvsOf, List.length_map]; omega
        obtain ⟨T₁, T₂, rfl⟩ := mem_split hri
        have S13 := ‹St true s Hb L _ (NR.objs _ rn ++ treeL t _) _›
        rw [split_i, ← List.append_assoc] at S13
        refine r_setitem (key := one c) S13 ok.di hkl fun oi' s14 hd' S14 => ?_
        rw [stored_new hv] at hd'
        rw [List.append_assoc, ← split_i (r := { ri with oi := oi', kids := ri.kids ++ [(c, rn.a)] }) (p := (cl x).take i)] at S14
        have S16 := S14.perm (add_perm (p := (cl x).take i ++ [c]))
        have I' := Ii.addKid hK hd' okn hk0 hkk
        clear S14 S13
        have hmp : ((cl x).take i, { ri with oi := oi', kids := ri.kids ++ [(c, rn.a)] }) ∈ ((cl x).take i ++ [c], rn) :: (T₁ ++ ((cl x).take i, { ri with oi := oi', kids := ri.kids ++ [(c, rn.a)] }) :: T₂) := List.mem_cons_of_mem _ (by simp)
        have hmn : ((cl x).take i ++ [c], rn) ∈ ((cl x).take i ++ [c], rn) :: (T₁ ++ ((cl x).take i, { ri with oi := oi', kids := ri.kids ++ [(c, rn.a)] }) :: T₂) := List.mem_cons_self
        obtain ⟨o1', o2', o3'⟩ := node_in (t := t) hmp
        have ok' := I'.ok _ _ hmp
        have hv' := I'.kidSome hmp hmn
        obtain ⟨r0'', hr0'', er0''⟩ : ∃ r0'', ([], r0'') ∈ ((cl x).take i ++ [c], rn) :: (T₁ ++ ((cl x).take i, { ri with oi := oi', kids := ri.kids ++ [(c, rn.a)] }) :: T₂) ∧ r0''.a = t.top := by
          by_cases e : [] = (cl x).take i
          · refine ⟨_, mem_eq e hmp, ?_⟩
            have : r0' = ri := nd_inj Ii.nd hr0' (mem_eq e hri)
            rw [← er0', this]
          · exact ⟨r0', List.mem_cons_of_mem _ ((repl_mem Ii.nd).mpr (.inr ⟨e, hr0'⟩)), er0'⟩
        walk_at "m"
        have S17 := ‹St true s Hb L _ _ _›
        refine r_attr S17 G5 (plainN w) (S17.get o1') (S17.get o2') ok'.ad (nodeM_inner _ _) (by first | k_is | kernel_rfl!) rfl fun s18 S18 => ?_
        clear S17
        walk_at "m"
        have S19 := ‹St true s Hb L _ _ _›
        refine r_item_dict S19 (S19.get o3') ok'.di hv' fun s20 S20 => ?_
        clear S19
        walk_at "m"
        refine turnK_next ‹_› ⟨by walk_at "m loc", _, rn, r0'', rfl, I'.congr (fun q => ?_) (fun q => Iff.rfl), by rw [et]; exact hmn, by walk_at "m loc", hr0'', er0''⟩
        rw [et, prefix_concat]
        constructor
        · rintro ((q1 | q1) | q1)
          · exact .inl q1
          · exact .inr (.inr q1)
          · exact .inr (.inl q1)
        · rintro (q1 | q1 | q1)
          · exact .inl (.inl q1)
          · exact .inr q1
          · exact .inl (.inr q1)
    · intro m2 σ2 s4 hJ S2
      obtain ⟨f0, Ti, ri, r0', rfl, Ii, hri, f1, hr0', er0'⟩ := hJ
      rw [← cl_length, List.take_length] at hri Ii
      walk_at "m"
      obtain ⟨o1, o2, o3⟩ := node_in (t := t) hri
      have ok' := Ii.ok _ _ hri
      obtain ⟨T₁, T₂, rfl⟩ := mem_split hri
      have S5 := ‹St true s _ L _ (treeL t _) _›
      have g1 := S5.get o1
      rw [split_d] at S5
      refine set_attr (plainN w) S5 (fun s' k => (G s'.heap k).X) g1 ok'.ad (by decide) (by first | k_is | kernel_rfl!) fun od1 s6 ad1 S6 => ?_
      clear S5
      rw [nodeM_set, nodeM_kept] at ad1
      rw [← split_d (r := { ri with kept := true, od := od1 }) (p := cl x)] at S6
      have I2 := Ii.setKept ad1
      have hr2 : ∃ r2, ([], r2) ∈ T₁ ++ (cl x, { ri with kept := true, od := od1 }) :: T₂ ∧ r2.a = t.top := by
        by_cases e : [] = cl x
        · refine ⟨_, mem_eq e (by simp : (cl x, { ri with kept := true, od := od1 }) ∈ T₁ ++ (cl x, { ri with kept := true, od := od1 }) :: T₂), ?_⟩
          have : r0' = ri := nd_inj Ii.nd hr0' (mem_eq e hri)
          rw [← er0', this]
        · exact ⟨r0', (repl_mem Ii.nd).mpr (.inr ⟨e, hr0'⟩), er0'⟩
      rename St _ _ _ _ _ _ s4 => old
      clear old
      walk_at "m"
      have S7 := ‹St true s _ L _ (treeL t _) _›
      refine r_attr S7 ‹_› (plainT w) (S7.get List.mem_cons_self) (S7.get (List.mem_cons_of_mem _ List.mem_cons_self)) ad (treeM_kept _ _ _) (by first | k_is | kernel_rfl!) rfl fun s8 S8 => ?_
      clear S7
      walk_at "m"
      have S9 := ‹St true s _ L _ (treeL t _) _›
      refine set_attr (σ₁ := [_]) (plainT w) S9 (fun s' k => (G s'.heap k).X) (S9.get List.mem_cons_self) ad (by decide) (by first | k_is | kernel_rfl!) fun od2 s10 ad2 S10 => ?_
      clear S9
      rw [treeM_set, treeM_kept] at ad2
      walk_at "m"
      refine h true { t with od := od2 } _ _ ⟨fun _ => hW, fun _ => rfl⟩ rfl ⟨I2.congr (fun q => Iff.rfl) (fun q => ?_), ⟨_, by simpa using ad2⟩, hr2, hlets⟩ S10.gv
      constructor
      · rintro (⟨q1, _⟩ | ⟨_, q1⟩)
        · exact .inr q1
        · exact .inl q1
      · rintro (q1 | q1)
        · by_cases e : q = cl x
          · exact .inl ⟨e, rfl⟩
          · exact .inr ⟨e, q1⟩
        · exact .inl ⟨q1, rfl⟩
end
section
variable {w : World} {A : Around} {E : Value → Shared → Prop} {s : Shared} {mg mb : Str → Option Value} {Q : Value → Shared → Prop}
theorem Inv.new {w : World} {r : NR} (ok : NOk prg w r) (hk : r.kids = []) (hkk : r.kept = false) : Inv prg w (fun p => p = []) (fun _ => False) [([], r)] := by
  refine ⟨by simp, fun p => by simp, fun p x h => ?_, fun p x c b h hm => ?_, fun p x c x' h h' => ?_, fun p x h => ?_, fun p c h => by simp at h, rfl, fun p h => h.elim⟩
  · obtain ⟨rfl, rfl⟩ : p = [] ∧ x = r := by simpa using h
    simp [hkk]
  · obtain ⟨rfl, rfl⟩ : p = [] ∧ x = r := by simpa using h
    rw [hk] at hm; cases hm
  · have : p ++ [c] = [] := by have := List.mem_singleton.mp h'; injection this
    simp at this
  · obtain ⟨rfl, rfl⟩ : p = [] ∧ x = r := by simpa using h
    exact ok
theorem c_tree_init {a d : Addr} (N : Nm mg mb) (G : GdH (KK w) mg mb (Hm s [(d, emptyDict)])) (ha : s.heap.get? a = some (instObj 178 d)) (hd : s.heap.get? d = some emptyDict) (hne : a ≠ d) (r : Rm A 3)
    (h : ∀ (t : TR) (T : Trie) (s' : Shared), t.a = a → t.d = d → TOk w (fun p => p = []) (fun _ => False) 0 t T → Gv s [(d, emptyDict)] ((d, t.od) :: objsT 87 T) s' → Q .none s') :
    codeAny (model prg w) A (.call (.ref 119) ⟨[.ref a], []⟩) (fun r s' => match r with | .ok (.ret v) => Q v s' | .ok _ => False | .error e => E e s') s := by
  have hσ : (∀ p ∈ [(d, emptyDict)], s.heap.get? p.1 = some p.2) ∧ ([(d, emptyDict)].map (·.1)).Nodup := ⟨fun p hp => by rcases List.mem_singleton.mp hp with rfl; exact hd, by simp⟩
  refine' enterM [Str.ofString "self"] [(d, emptyDict)] G hσ ?hf ?hcd r ?hb ?hloc ?hcell ?h1 ?h2 ?h3 ?_
  walk_at "m enter"
  intro E' L s' m hm S GH r1
  have e1 : m (Str.ofString "self") = some (.ref a) := by subst hm; rfl
  clear hm
  have N' := N
  cases N
  have hH : Hm s [(d, emptyDict)] a (instObj 178 d) := ⟨ha, by simpa using hne⟩
  walk_at "m"
  have SS := ‹St true s _ L m [(d, emptyDict)] _›
  refine e_node N' SS G (r1.less (by omega)) (by kernel_rfl!) fun r' s1 ok hk hkk S1 => ?_
  clear SS
  walk_at "m"
  have SS := ‹St true s _ L m (_ ++ _) _›
  refine set_attr (σ₁ := r'.objs 87) (plainT w) SS (fun s' k => (G s'.heap k).X) (SS.keep _ _ hH) AD.empty (by decide) (by first | k_is | kernel_rfl!) fun od1 s2 ad1 S2 => ?_
  clear SS
  walk_at "m"
  have SS := ‹St true s _ L m (_ ++ _) _›
  refine set_attr (σ₁ := r'.objs 87) (plainT w) SS (fun s' k => (G s'.heap k).X) (SS.keep _ _ hH) ad1 (by decide) (by first | k_is | kernel_rfl!) fun od2 s3 ad2 S3 => ?_
  clear SS
  walk_at "m"
  refine h ⟨a, d, od2, r'.a⟩ [([], r')] _ rfl rfl ⟨Inv.new ok hk hkk, ⟨_, ad2.le (by repeat' split
                                                                                     all_goals omega)⟩, ⟨r', List.mem_singleton.mpr rfl, rfl⟩, fun q hq => by subst hq; exact ⟨by simp, fun c hc => by cases hc⟩⟩ (S3.gv.perm ?_)
  show (r'.objs 87 ++ [(d, od2)]).Perm ((d, od2) :: objsT 87 [([], r')])
  rw [show objsT 87 [([], r')] = r'.objs 87 from by simp [objsT]]
  exact List.perm_append_singleton _ _
/-- Tree() -/
theorem e_tree {k : Bool} {s₀ : Shared} {H : Addr → Obj → Prop} {L : Addr} {m : Str → Option Value} {σ : List (Addr × Obj)} {env : Env} {p pos : Pos} (N : Nm mg mb) (S : St k s₀ H L m σ s) (G : GdH (KK w) mg mb H) (r : Rm A 4)
    (hc : (env.scope.kind == .function && env.scope.names.lookup (Str.ofString "Tree") == some .globalImplicit && !((Str.ofString "Tree") == ("__debug__" : Str))) = true)
    (h : ∀ (t : TR) (T : Trie) (s' : Shared), TOk w (fun p => p = []) (fun _ => False) 0 t T → St k s₀ H L m (treeL t T ++ σ) s' → Q (.ref t.a) s')
    (hg : env.globals = mainGlobals := by with_unfolding_all rfl) : wpAny (model prg w) A (eval (.Call (.Name (Str.ofString "Tree") p) [] [] pos) env) Q E s := by
  refine' e_new (K := hd.heap_39 w.params) S G N.g_Tree ?a ?b ?c ?d hc ?_ hg
  (case a => first | k_is | kernel_rfl!)
  (case b => first | k_is | kernel_rfl!)
  (case c => first | k_is | kernel_rfl!)
  (case d => first | k_is | kernel_rfl!)
  intro a d s1 ha hd hlt hsz S1
  have S1' : St k s₀ H L m ([(d, emptyDict)] ++ ((a, instObj 178 d) :: σ)) s1 := S1.perm (List.Perm.swap ..)
  refine codeAny_mono (c_tree_init (E := E) (Q := fun v s' => v = .none ∧ Q (.ref a) s') N (S1'.hm G) (S1.get List.mem_cons_self) (S1.get (List.mem_cons_of_mem _ List.mem_cons_self)) (Nat.ne_of_gt hlt) (r.make _ _) fun t T s' e1 e2 ok gv => ⟨rfl, ?_⟩) fun rr s' z => ?_
  · have S2 := S1'.swap gv
    subst e1 e2
    refine h t T s' ok (S2.perm ?_)
    show ((t.d, t.od) :: objsT 87 T ++ (t.a, _) :: σ).Perm ((t.a, _) :: (t.d, t.od) :: (objsT 87 T ++ σ))
    exact List.perm_middle
  · rcases rr with e | (v | _ | _ | _) <;> exact z
end
local macro_rules | `(tactic| walk_at "m stm") => `(tactic| with_reducible refine x_expr_any ?_)
theorem i_eq {a b : Int} (e : a = b) : (a == b) = true := by rw [beq_iff_eq]; exact e
theorem i_ne {a b : Int} (e : a ≠ b) : (a == b) = false := by rw [beq_eq_false_iff_ne]; exact e
/-- what stands while a word's leaves are cut, k letters left -/
def KA (W : List Nat → Prop) (x : List Nat) (k : Nat) (q : List Nat) : Prop := Begs W q ∨ (q <+: x ∧ q.length ≤ k)
theorem Begs.mono {W W' : List Nat → Prop} {q : List Nat} (h : ∀ v, W v → W' v) (b : Begs W q) : Begs W' q := b.elim .inl fun ⟨v, hv, hp⟩ => .inr ⟨v, h v hv, hp⟩
theorem Begs.pre {W : List Nat → Prop} {p q : List Nat} (h : p <+: q) (b : Begs W q) : Begs W p := by
  rcases b with rfl | ⟨v, hv, hp⟩
  · exact .inl (List.prefix_nil.mp h)
  · exact .inr ⟨v, hv, h.trans hp⟩
theorem KA.start {W : List Nat → Prop} {x : List Nat} (hW : W x) (q : List Nat) : Begs W q ↔ KA (fun q => W q ∧ q ≠ x) x x.length q := by
  constructor
  · rintro (e | ⟨v, hv, hp⟩)
    · exact .inl (.inl e)
    · by_cases e : v = x
      · subst e; exact .inr ⟨hp, hp.length_le⟩
      · exact .inl (.inr ⟨v, ⟨hv, e⟩, hp⟩)
  · rintro (b | ⟨hp, _⟩)
    · exact b.mono fun _ h => h.1
    · exact .inr ⟨x, hW, hp⟩
theorem KA.cut {W : List Nat → Prop} {x : List Nat} {k : Nat} (hk : k + 1 ≤ x.length) (hn : ¬ W (x.take (k + 1))) (hl : ∀ d, ¬ KA W x (k + 1) (x.take (k + 1) ++ [d])) (q : List Nat) : (KA W x (k + 1) q ∧ q ≠ x.take (k + 1)) ↔ KA W x k q := by
  have hB : ¬ Begs W (x.take (k + 1)) := by
    rintro (e | ⟨v, hv, hp⟩)
    · have := congrArg List.length e; rw [List.length_take, List.length_nil] at this; omega
    · by_cases e : x.take (k + 1) = v
      · exact hn (e ▸ hv)
      · obtain ⟨c, hc⟩ := prefix_snoc hp e
        exact hl c (.inl (.inr ⟨v, hv, hc⟩))
  constructor
  · rintro ⟨b | ⟨hp, hlen⟩, hne⟩
    · exact .inl b
    · refine .inr ⟨hp, ?_⟩
      have e := List.prefix_iff_eq_take.mp hp
      by_cases e2 : q.length = k + 1
      · rw [e2] at e; exact absurd e hne
      · omega
  · rintro (b | ⟨hp, hlen⟩)
    · exact ⟨.inl b, fun e => hB (e ▸ b)⟩
    · exact ⟨.inr ⟨hp, by omega⟩, fun e => by have := congrArg List.length e; rw [List.length_take] at this; omega⟩
theorem KA.stop {W : List Nat → Prop} {x : List Nat} {k : Nat} (h : Begs W (x.take k)) (q : List Nat) : KA W x k q ↔ Begs W q := by
  constructor
  · rintro (b | ⟨hp, hlen⟩)
    · exact b
    · refine h.pre ?_
      rw [List.prefix_iff_eq_take.mp hp]
      exact List.take_prefix_take_left hlen
  · exact .inl
theorem without_kvs (kids : List (Nat × Addr)) (c : Nat) : without (kvsOf kids) (one c) = kvsOf (kids.filter fun x => decide (x.1 ≠ c)) := by
  unfold without kvsOf
  rw [List.filter_map]
  congr 1
  apply List.filter_congr
  intro x _
  show decide (one x.1 ≠ one c) = decide (x.1 ≠ c)
  congr 1
  exact propext ⟨fun h e => h (by rw [e]), fun h e => h (one_inj e)⟩
theorem cut_mem {T₁ T₂ U₁ U₂ : Trie} {p pc q : List Nat} {r r' rc x : NR} (nd : ((T₁ ++ (p, r) :: T₂).map (·.1)).Nodup) (hT : T₁ ++ (p, r') :: T₂ = U₁ ++ (pc, rc) :: U₂) (hq : q ≠ pc) (h : (q, x) ∈ T₁ ++ (p, r) :: T₂) (ha : r'.a = r.a) : ∃ y, (q, y) ∈ U₁ ++ U₂ ∧ y.a = x.a := by
  have key : ∀ y, (q, y) ∈ T₁ ++ (p, r') :: T₂ → (q, y) ∈ U₁ ++ U₂ := fun y hy => by
    rw [hT] at hy
    rcases List.mem_append.mp hy with hy | hy
    · exact List.mem_append_left _ hy
    · rcases List.mem_cons.mp hy with e | hy
      · injection e with e1 _; exact absurd e1 hq
      · exact List.mem_append_right _ hy
  by_cases e : q = p
  · subst e
    obtain rfl := nd_inj nd h (by simp : (q, r) ∈ T₁ ++ (q, r) :: T₂)
    exact ⟨r', key r' (by simp), ha⟩
  · exact ⟨x, key x ((repl_mem nd).mpr (.inr ⟨e, h⟩)), rfl⟩
theorem cut_sub {t : TR} {U₁ U₂ : Trie} {e : List Nat × NR} : (treeL t (U₁ ++ U₂)).Sublist (treeL t (U₁ ++ e :: U₂)) := by
  have h : (objsT 87 (U₁ ++ U₂)).Sublist (objsT 87 (U₁ ++ e :: U₂)) := by
    unfold objsT
    rw [List.flatMap_append, List.flatMap_append, List.flatMap_cons]
    exact List.Sublist.append_left (List.sublist_append_right ..) _
  exact (h.cons_cons _).cons_cons _
theorem St.sig {k : Bool} {s₀ s : Shared} {H : Addr → Obj → Prop} {L : Addr} {m : Str → Option Value} {σ σ' : List (Addr × Obj)} (S : St k s₀ H L m σ s) (e : σ = σ') : St k s₀ H L m σ' s := e ▸ S
/-- the nodes along a word -/
def Along (T : Trie) (x : List Nat) (i : Nat) (ws : List Value) : Prop := ws.length = i + 1 ∧ ∀ j, j ≤ i → ∃ r, (x.take j, r) ∈ T ∧ ws[j]? = some (.ref r.a)
section
variable {w : World} {A : Around} {E : Value → Shared → Prop} {s : Shared} {mg mb : Str → Option Value} {Q : Value → Shared → Prop} {K W : List Nat → Prop} {n : Int} {t : TR} {T : Trie}
theorem c_take {x : Str} {u : Tok} (N : Nm mg mb) (G : GdH (KK w) mg mb (Hm s (treeL t T))) (hσ : (∀ p ∈ treeL t T, s.heap.get? p.1 = some p.2) ∧ ((treeL t T).map (·.1)).Nodup) (r : Rm A 6) (ok : TOk w (Begs W) W n t T) (hx : isW x = true)
    (h : ∀ b t' T' s', (b = true ↔ W (cl x)) → t'.a = t.a → TOk w (Begs fun q => W q ∧ q ≠ cl x) (fun q => W q ∧ q ≠ cl x) (if b then n - 1 else n) t' T' → Gv s (treeL t T) (treeL t' T') s' → Q (.bool b) s') :
    wpAny (model prg w) A (call (.ref 147) [.ref t.a, .str x u]) Q E s := by
  refine wpAny_call ?_
  refine' enterM [Str.ofString "self", Str.ofString "word"] (treeL t T) G hσ ?hf ?hcd r ?hb ?hloc ?hcell ?h1 ?h2 ?h3 ?_
  walk_at "m enter"
  intro E' L s' m hm S GH r1
  have e1 : m (Str.ofString "self") = some (.ref t.a) := by subst hm; rfl
  have e2 : m (Str.ofString "word") = some (.str x u) := by subst hm; rfl
  clear hm
  have N' := N
  cases N
  have hlx := ((isW_iff x).mp hx).1
  have I := ok.inv
  obtain ⟨tk, ad⟩ := ok.ad
  obtain ⟨r0, hr0, er0⟩ := ok.top
  refine x_if1 ?_
  refine isTrue_not ?_
  refine PyProof.Rows.isTrue_plain ?_
  refine e_meth (K := hd.heap_39 w.params) _ ?_
  walk_at "m"
  have S5 := ‹St true s _ L m _ _›
  refine' MethK.mk S5 ‹_› (plainT w) (S5.get List.mem_cons_self) (S5.get (List.mem_cons_of_mem _ List.mem_cons_self)) ad ?hno ?hk ?hf ?ht ?_
  (case hno => unfold treeM; rw [upd_other (by decide +kernel) (upd_other (by decide +kernel) rfl)])
  (case hk => first | k_is | kernel_rfl!)
  (case hf => first | k_is | kernel_rfl!)
  (case ht => first | k_is | kernel_rfl!)
  refine' e_first (K := hd.heap_39 w.params) ?hk (S5.gd ‹_›).X ?_
  (case hk => first | k_is | kernel_rfl!)
  clear S5
  walk_at "m"
  refine ⟨(St.gd ‹_› ‹_›).X, ?_⟩
  have S6 := ‹St true s _ L m _ _›
  refine c_has N' (St.gd S6 ‹_›) (r1.less (by omega)) ok (fun q hq => S6.get hq) hx fun b s1 hb k1 => ?_
  have S7 := S6.kp k1
  clear S6
  cases b with
  | false =>
    have hW : ¬ W (cl x) := fun q => by cases hb.mpr q
    have hWW : ∀ q, W q ↔ W q ∧ q ≠ cl x := fun q => ⟨fun h => ⟨h, fun e => hW (e ▸ h)⟩, fun h => h.1⟩
    have hKK : ∀ q, Begs W q ↔ Begs (fun q => W q ∧ q ≠ cl x) q := fun q => by
      constructor
      · rintro (e | ⟨v, hv, hp⟩)
        · exact .inl e
        · exact .inr ⟨v, (hWW v).mp hv, hp⟩
      · rintro (e | ⟨v, hv, hp⟩)
        · exact .inl e
        · exact .inr ⟨v, hv.1, hp⟩
    walk_at "m"
    exact h false t T _ ⟨fun e => (by cases e), fun e => absurd e hW⟩ rfl ⟨I.congr hKK hWW, ⟨tk, by simpa using ad⟩, ⟨r0, hr0, er0⟩, fun q hq => ok.lets q ((hKK q).mpr hq)⟩ (St.gv ‹_›)
  | true =>
    have hW := hb.mp rfl
    have hB : ∀ j, Begs W ((cl x).take j) := fun j => .inr ⟨cl x, hW, List.take_prefix _ _⟩
    walk_at "m"
    have S8 := ‹St true s _ L m _ _›
    refine r_attr S8 ‹_› (plainT w) (S8.get List.mem_cons_self) (S8.get (List.mem_cons_of_mem _ List.mem_cons_self)) ad (treeM_top _ _ _) (by first | k_is | kernel_rfl!) rfl fun s2 S9 => ?_
    clear S8
    walk_at "m"
    refine x_for ?_
    walk_at "m"
    refine for_str (J := fun i m' σ' => m' (Str.ofString "self") = some (.ref t.a) ∧ m' (Str.ofString "word") = some (.str x u) ∧ ∃ D ws c, m' (Str.ofString "way") = some (.ref D) ∧ σ' = (D, lst ws c) :: treeL t T ∧ Along T (cl x) i ws) ‹_› r1.hh ?_ ?_ ?_ ?_
    · refine ⟨by walk_at "m loc", by walk_at "m loc", _, _, _, by walk_at "m loc", rfl, rfl, fun j hj => ⟨r0, ?_, ?_⟩⟩
      · obtain rfl : j = 0 := by omega
        simpa using hr0
      · obtain rfl : j = 0 := by omega
        rw [er0]; rfl
    · kernel_rfl!
    · intro E2 i m2 σ2 s4 c tc Hb hi hc hJ hbb S2
      obtain ⟨f0, f0', D, ws, cc, f1, rfl, hlen, hws⟩ := hJ
      have hG' := GdH.mono ‹_› hbb
      have hzw : ws.length ≤ sizeLine := by rw [sizeLine_eq]; omega
      obtain ⟨ri, hri, wi⟩ := hws i (Nat.le_refl _)
      obtain ⟨rn, hrn⟩ := I.node (hB (i + 1))
      have et : (cl x).take (i + 1) = (cl x).take i ++ [c] := by
        rw [List.take_add_one]
        congr 1
        rw [show (cl x)[i]? = some c from hc]; rfl
      obtain ⟨o1, o2, o3⟩ := node_in (t := t) hri
      have ok' := I.ok _ _ hri
      have hv := I.kidSome (c := c) hri (by rw [← et]; exact hrn)
      walk_at "m"
      refine r_item_last (isL (St.get ‹_› List.mem_cons_self)) (by rw [List.getLast?_eq_getElem?, hlen]; exact wi) ?_
      have S5 := ‹St true s Hb L _ _ _›
      have G5 := ‹GdH _ mg mb Hb›
      refine r_attr S5 G5 (plainN w) (S5.get (List.mem_cons_of_mem _ o1)) (S5.get (List.mem_cons_of_mem _ o2)) ok'.ad (nodeM_inner _ _) (by first | k_is | kernel_rfl!) rfl fun s6 S6 => ?_
      clear S5
      walk_at "m"
      have S7 := ‹St true s Hb L _ _ _›
      refine r_item_dict S7 (S7.get (List.mem_cons_of_mem _ o3)) ok'.di hv fun s8 S8 => ?_
      clear S7
      walk_at "m"
      refine turnK_next ‹_› ⟨by walk_at "m loc", by walk_at "m loc", D, _, _, by walk_at "m loc", rfl, by simp [hlen], fun j hj => ?_⟩
      rcases Nat.lt_or_eq_of_le hj with hlt | rfl
      · obtain ⟨rj, h1, h2⟩ := hws j (by omega)
        exact ⟨rj, h1, by rw [List.getElem?_append_left (by omega)]; exact h2⟩
      · exact ⟨rn, hrn, by rw [List.getElem?_append_right (by omega), hlen]; simp⟩
    · intro m2 σ2 s4 hJ S2
      obtain ⟨f0, f0', D, ws, cc, f1, rfl, hlen, hws⟩ := hJ
      obtain ⟨rx, hrx, wx⟩ := hws x.length (Nat.le_refl _)
      rw [← cl_length, List.take_length] at hrx
      obtain ⟨o1, o2, o3⟩ := node_in (t := t) hrx
      have okx := I.ok _ _ hrx
      walk_at "m"
      refine r_item_last (isL (St.get ‹_› List.mem_cons_self)) (by rw [List.getLast?_eq_getElem?, hlen]; exact wx) ?_
      obtain ⟨T₁, T₂, eT⟩ := mem_split hrx
      have S4 := ‹St true s _ L _ (_ :: treeL t _) _›
      have g1 := S4.get (List.mem_cons_of_mem _ o1)
      have S5 := S4.sig (show _ = ((D, lst ws cc) :: _) ++ _ by rw [List.cons_append, ← split_d (p := cl x) (r := rx) (T₁ := T₁) (T₂ := T₂), ← eT])
      clear S4
      refine set_attr (plainN w) S5 (fun s' k => (G s'.heap k).X) g1 okx.ad (by decide) (by first | k_is | kernel_rfl!) fun od1 s6 ad1 S6 => ?_
      clear S5
      rw [nodeM_set, nodeM_kept] at ad1
      rw [List.cons_append, ← split_d (r := { rx with kept := false, od := od1 }) (p := cl x)] at S6
      have I2 := (eT ▸ I).setKept ad1
      walk_at "m"
      have S7 := ‹St true s _ L _ (_ :: treeL t _) _›
      refine r_attr S7 ‹_› (plainT w) (S7.get (List.mem_cons_of_mem _ List.mem_cons_self)) (S7.get (List.mem_cons_of_mem _ (List.mem_cons_of_mem _ List.mem_cons_self))) ad (treeM_kept _ _ _) (by first | k_is | kernel_rfl!) rfl fun s8 S8 => ?_
      clear S7
      walk_at "m"
      have S9 := ‹St true s _ L _ (_ :: treeL t _) _›
      refine set_attr (σ₁ := [_, _]) (plainT w) S9 (fun s' k => (G s'.heap k).X) (S9.get (List.mem_cons_of_mem _ List.mem_cons_self)) ad (by decide) (by first | k_is | kernel_rfl!) fun od2 s10 ad2 S10 => ?_
      clear S9
      rw [treeM_set, treeM_kept] at ad2
      have hzw : ws.length ≤ sizeLine := by rw [sizeLine_eq]; omega
      have hzx : x.length ≤ sizeLine := by rw [sizeLine_eq]; omega
      have hw0 : ws[0]? = some (.ref t.top) := by
        obtain ⟨r1', h1', w1'⟩ := hws 0 (Nat.zero_le _)
        rw [List.take_zero] at h1'
        rw [w1', nd_inj I.nd h1' hr0, er0]
      have hal : ∀ j, j ≤ x.length → ∃ r, ((cl x).take j, r) ∈ T₁ ++ (cl x, { rx with kept := false, od := od1 }) :: T₂ ∧ ws[j]? = some (.ref r.a) := fun j hj => by
        obtain ⟨rj, h1', w1'⟩ := hws j hj
        by_cases e : (cl x).take j = cl x
        · refine ⟨_, mem_eq e (by simp : (cl x, { rx with kept := false, od := od1 }) ∈ T₁ ++ (cl x, { rx with kept := false, od := od1 }) :: T₂), ?_⟩
          rw [w1', nd_inj I.nd (mem_eq e.symm h1') hrx]
        · exact ⟨rj, (repl_mem (eT ▸ I.nd)).mpr (.inr ⟨e, eT ▸ h1'⟩), w1'⟩
      have I3 : Inv prg w (KA (fun q => W q ∧ q ≠ cl x) (cl x) x.length) (fun q => W q ∧ q ≠ cl x) (T₁ ++ (cl x, { rx with kept := false, od := od1 }) :: T₂) := I2.congr (fun q => by rw [← cl_length]; exact KA.start hW q) (fun q => by
        constructor
        · rintro (⟨_, h'⟩ | ⟨h1', h2'⟩)
          · cases h'
          · exact ⟨h2', h1'⟩
        · rintro ⟨h1', h2'⟩
          exact .inr ⟨h2', h1'⟩)
      clear I2 hws
      obtain ⟨T2, hT2⟩ : ∃ T2, T2 = T₁ ++ (cl x, { rx with kept := false, od := od1 }) :: T₂ := ⟨_, rfl⟩
      rw [← hT2] at hal I3 S10
      clear hT2
      have fin : ∀ Ti s' m', Inv prg w (Begs fun q => W q ∧ q ≠ cl x) (fun q => W q ∧ q ≠ cl x) Ti → (∃ r, ([], r) ∈ Ti ∧ ws[0]? = some (.ref r.a)) → St true s (Hm s (treeL t T)) L m' ((D, lst ws cc) :: treeL { t with od := od2 } Ti) s' → Q (.bool true) s' := fun Ti s' m' Ii hr S' => by
        obtain ⟨r1', h1', w1'⟩ := hr
        rw [hw0] at w1'
        refine h true { t with od := od2 } Ti s' ⟨fun _ => hW, fun _ => rfl⟩ rfl ⟨Ii, ⟨_, by simpa using ad2⟩, ⟨r1', h1', by injection w1' with e; injection e with e; exact e.symm⟩, fun q hq => ok.lets q (hq.mono fun _ h => h.1)⟩ (S'.gv.drop (List.sublist_cons_self ..))
      walk_at "m"
      refine x_while (J := fun k m' σ' => k ≤ x.length ∧ m' (Str.ofString "word") = some (.str x u) ∧ (∃ tk, m' (Str.ofString "at") = some (.int k tk)) ∧ m' (Str.ofString "way") = some (.ref D) ∧ ∃ Ti, σ' = (D, lst ws cc) :: treeL { t with od := od2 } Ti ∧ Inv prg w (KA (fun q => W q ∧ q ≠ cl x) (cl x) k) (fun q => W q ∧ q ≠ cl x) Ti ∧ ∀ j, j ≤ k → ∃ r, ((cl x).take j, r) ∈ Ti ∧ ws[j]? = some (.ref r.a)) x.length ‹_› ?_ ?_
      · exact ⟨Nat.le_refl _, by walk_at "m loc", ⟨_, by walk_at "m loc"⟩, by walk_at "m loc", T2, rfl, I3, hal⟩
      · intro E3 k m3 σ3 s3 hJ S3
        obtain ⟨hk, f1', ⟨tk3, f2'⟩, f3', Ti, rfl, Ii, hali⟩ := hJ
        rcases Nat.eq_zero_or_pos k with rfl | hpos
        · walk_at "m wd"
          exact fin Ti _ _ (Ii.congr (KA.stop (.inl (by simp))) fun _ => Iff.rfl) (by obtain ⟨r1', h1', w1'⟩ := hali 0 (Nat.le_refl _); exact ⟨r1', by simpa using h1', w1'⟩) ‹_›
        · obtain ⟨k, rfl⟩ : ∃ k', k = k' + 1 := ⟨k - 1, by omega⟩
          obtain ⟨rk, hrk, wk⟩ := hali (k + 1) (Nat.le_refl _)
          obtain ⟨rp, hrp, wp⟩ := hali k (by omega)
          obtain ⟨o1', o2', o3'⟩ := node_in (t := { t with od := od2 }) hrk
          have okk := Ii.ok _ _ hrk
          have root : ∃ r, ([], r) ∈ Ti ∧ ws[0]? = some (.ref r.a) := by obtain ⟨r1', h1', w1'⟩ := hali 0 (Nat.zero_le _); exact ⟨r1', by simpa using h1', w1'⟩
          walk_at "m wd"
          refine r_item_list (isL (St.get ‹_› List.mem_cons_self)) (by omega) hzw (by simpa using wk) ?_
          have S5 := ‹St true s _ L _ (_ :: treeL _ Ti) _›
          refine r_attr S5 ‹_› (plainN w) (S5.get (List.mem_cons_of_mem _ o1')) (S5.get (List.mem_cons_of_mem _ o2')) okk.ad (nodeM_kept _ _) (by first | k_is | kernel_rfl!) rfl fun s6 S6 => ?_
          clear S5
          cases hkept : rk.kept with
          | true =>
            walk_at "m"
            exact fin Ti _ _ (Ii.congr (KA.stop (.inr ⟨_, (Ii.kept _ _ hrk).mp hkept, List.prefix_refl _⟩)) fun _ => Iff.rfl) root ‹_›
          | false =>
            walk_at "m"
            refine r_item_list (isL (St.get ‹_› List.mem_cons_self)) (by omega) hzw (by simpa using wk) ?_
            have S7 := ‹St true s _ L _ (_ :: treeL _ Ti) _›
            refine r_attr S7 ‹_› (plainN w) (S7.get (List.mem_cons_of_mem _ o1')) (S7.get (List.mem_cons_of_mem _ o2')) okk.ad (nodeM_inner _ _) (by first | k_is | kernel_rfl!) rfl fun s8 S8 => ?_
            clear S7
            have lenK : ∀ p r, (p, r) ∈ Ti → (kvsOf r.kids).length ≤ sizeLine := fun p r hp => by
              have := nodup_len 97 26 (r.kids.map (·.1)) (kids_nodup (Ii.ok _ _ hp)) fun e he => by
                have h1' := (Ii.kidIff hp).mp he
                have h2' : Begs W (p ++ [e]) := by
                  rcases h1' with h1' | ⟨h1', _⟩
                  · exact h1'.mono fun _ h => h.1
                  · exact .inr ⟨_, hW, h1'⟩
                have := (ok.lets _ h2').2 e (by simp)
                omega
              rw [List.length_map] at this
              rw [sizeLine_eq, kvsOf, List.length_map]; omega
            walk_at "m"
            have S9' := ‹St true s _ L _ (_ :: treeL _ Ti) _›
            refine r_len_dict S9' okk.lo (S9'.get (List.mem_cons_of_mem _ o3')) okk.di (lenK _ _ hrk) fun tl s10 S11 => ?_
            clear S9'
            rcases hkids : rk.kids with _ | ⟨⟨kd, kb⟩, ks⟩
            · have hv0 : ((kvsOf ([] : List (Nat × Addr))).length : Int) = 0 := rfl
              obtain ⟨c, hc⟩ : ∃ c, (cl x)[k]? = some c := ⟨(cl x)[k]'(by rw [cl_length]; omega), by simp⟩
              have et : (cl x).take (k + 1) = (cl x).take k ++ [c] := by
                rw [List.take_add_one, hc]; rfl
              have hleaf : ∀ d, ¬ KA (fun q => W q ∧ q ≠ cl x) (cl x) (k + 1) ((cl x).take (k + 1) ++ [d]) := fun d hd => by
                have := (Ii.kidIff (c := d) hrk).mpr hd
                rw [hkids] at this; cases this
              have hnW : ¬ (W ((cl x).take (k + 1)) ∧ (cl x).take (k + 1) ≠ cl x) := fun q => by
                have := (Ii.kept _ _ hrk).mpr q
                rw [hkept] at this; cases this
              obtain ⟨p1', p2', p3'⟩ := node_in (t := { t with od := od2 }) hrp
              have okp := Ii.ok _ _ hrp
              have hv := Ii.kidSome (c := c) hrp (by rw [← et]; exact hrk)
              walk_at "m"
              refine e_pop (by kernel_rfl!) ?_
              walk_at "m"
              refine r_item_list (isL (St.get ‹_› List.mem_cons_self)) (by omega) hzw (by rw [show ((((k + 1 : Nat) : Int)) - 1).toNat = k by omega]; exact wp) ?_
              have S13 := ‹St true s _ L _ (_ :: treeL _ Ti) _›
              refine r_attr S13 ‹_› (plainN w) (S13.get (List.mem_cons_of_mem _ p1')) (S13.get (List.mem_cons_of_mem _ p2')) okp.ad (nodeM_inner _ _) (by first | k_is | kernel_rfl!) rfl fun s14 S14 => ?_
              clear S13
              refine PopK.mk (S14.get (List.mem_cons_of_mem _ p3')) okp.di ?_
              walk_at "m"
              refine r_item_str ‹_› (by omega) hzx (by rw [show ((((k + 1 : Nat) : Int)) - 1).toNat = k by omega]; exact hc) ?_
              intro tc s15 S15
              obtain ⟨V₁, V₂, eV⟩ := mem_split hrp
              have S16 := S15.sig (show _ = ((D, lst ws cc) :: _) ++ _ by rw [List.cons_append, ← split_i (p := (cl x).take k) (r := rp) (T₁ := V₁) (T₂ := V₂), ← eV])
              refine r_pop (key := one c) S16 okp.di (lenK _ _ hrp) hv fun oi' s17 hd' S17 => ?_
              rw [without_kvs] at hd'
              rw [List.cons_append, ← split_i (r := { rp with oi := oi', kids := rp.kids.filter fun x => decide (x.1 ≠ c) }) (p := (cl x).take k)] at S17
              have hne : (cl x).take (k + 1) ≠ (cl x).take k := fun e => by have := congrArg List.length e; rw [List.length_take, List.length_take, cl_length] at this; omega
              have hrk' : ((cl x).take k ++ [c], rk) ∈ V₁ ++ ((cl x).take k, { rp with oi := oi', kids := rp.kids.filter fun x => decide (x.1 ≠ c) }) :: V₂ := by
                rw [← et]; exact (repl_mem (eV ▸ Ii.nd)).mpr (.inr ⟨hne, eV ▸ hrk⟩)
              obtain ⟨U₁, U₂, eU⟩ := mem_split hrk'
              have I4 := (eV ▸ Ii).cutKid eU hd' (by rw [← et]; exact hleaf) (by rw [← et]; exact hnW)
              have S18 := (S17.sig (by rw [eU])).drop ((cut_sub (t := { t with od := od2 }) (U₁ := U₁) (U₂ := U₂) (e := ((cl x).take k ++ [c], rk))).cons_cons _)
              clear S17 S16 S15
              walk_at "m"
              refine turnW_next (Nat.lt_succ_self _) ‹_› ⟨by omega, by walk_at "m loc", ⟨_, by rw [show ((k : Nat) : Int) = ((k + 1 : Nat) : Int) - 1 by omega]; walk_at "m loc"⟩, by walk_at "m loc", U₁ ++ U₂, rfl, I4.congr (fun q => by rw [← et]; exact KA.cut (by rw [cl_length]; exact hk) hnW hleaf q) (fun _ => Iff.rfl), fun j hj => ?_⟩
              obtain ⟨rj, hrj, wj⟩ := hali j (by omega)
              obtain ⟨y, hy, ey⟩ := cut_mem (r := rp) (eV ▸ Ii.nd) eU (q := (cl x).take j) (fun e => by have := congrArg List.length e; rw [List.length_append, List.length_take, List.length_take, cl_length, List.length_singleton] at this; omega) (eV ▸ hrj) rfl
              exact ⟨y, hy, by rw [ey]; exact wj⟩
            · walk_at "m"
              walk_at "m"
              have hd : KA (fun q => W q ∧ q ≠ cl x) (cl x) (k + 1) ((cl x).take (k + 1) ++ [kd]) := (Ii.kidIff hrk).mp (by rw [hkids]; simp)
              have hB' : Begs (fun q => W q ∧ q ≠ cl x) ((cl x).take (k + 1)) := by
                rcases hd with hd | ⟨_, hd⟩
                · exact hd.closed
                · rw [List.length_append, List.length_take, cl_length, List.length_singleton] at hd; omega
              exact fin Ti _ _ (Ii.congr (KA.stop hB') fun _ => Iff.rfl) root ‹_›
end
/-- an if whose two ways meet again -/
theorem x_if1_join {prog : Program} {w : World} {A : Around} {E : Value → Shared → Prop} {s : Shared} {env : Env} {test : Expr} {body rest : List Stmt} {pos : Pos} {Q : Flow → Shared → Prop} (J : Shared → Prop)
    (h : wpAny (model prog w) A (isTrue test env (eval test env)) (fun b s₂ => if b = true then wpAny (model prog w) A (execs body env) (fun f s₃ => f = .next ∧ J s₃) E s₂ else J s₂) E s)
    (h2 : ∀ s', J s' → wpAny (model prog w) A (execs rest env) Q E s') : wpAny (model prog w) A (execs (.If test body [] pos :: rest) env) Q E s :=
  x_if1 (wpAny_mono h (fun b s₂ h' => by
    cases b with
    | true => exact wpAny_mono h' (fun f s₃ h₃ => by obtain ⟨rfl, hj⟩ := h₃; exact thenK_next (h2 s₃ hj)) fun _ _ x => x
    | false => exact h2 s₂ h') fun _ _ x => x)
theorem strs_of_keys {kvs : List (Str × Value)} {vs : List Value} (hl : vs.length = kvs.length) (hP : ∀ (i : Nat) (v : Value), vs[i]? = some v → ∃ k x t, kvs[i]? = some (k, x) ∧ v = .str k t) : StrsAre vs (kvs.map (·.1)) := by
  induction kvs generalizing vs with
  | nil =>
    obtain rfl : vs = [] := List.length_eq_zero_iff.mp (by simpa using hl)
    exact .nil
  | cons kv r ih =>
    cases vs with
    | nil => simp at hl
    | cons v vs =>
      obtain ⟨k, x, t, h1, rfl⟩ := hP 0 v rfl
      obtain rfl : kv = (k, x) := by simpa using h1
      exact .cons k t (ih (by simpa using hl) fun i v hv => by simpa using hP (i + 1) v (by simpa using hv))
theorem perm_ones {ss : List Str} {l : List Nat} (h : ss.Perm (l.map one)) : ∃ cs : List Nat, ss = cs.map one ∧ cs.Perm l := by
  refine ⟨ss.map fun y => y.cps.toList.headD 0, ?_, ?_⟩
  · rw [List.map_map]
    have : ∀ y ∈ ss, (one ∘ fun y : Str => y.cps.toList.headD 0) y = y := fun y hy => by
      obtain ⟨c, _, rfl⟩ := List.mem_map.mp (h.mem_iff.mp hy)
      rfl
    rw [List.map_congr_left this]; simp
  · have e := h.map fun y : Str => y.cps.toList.headD 0
    rw [List.map_map] at e
    have : l.map ((fun y : Str => y.cps.toList.headD 0) ∘ one) = l := by
      have : ∀ c ∈ l, ((fun y : Str => y.cps.toList.headD 0) ∘ one) c = c := fun c _ => rfl
      rw [List.map_congr_left this]; simp
    rw [this] at e; exact e
theorem sum_take_le (l : List Nat) (i : Nat) : (l.take i).sum ≤ l.sum := by
  have := List.take_append_drop i l
  have h : l.sum = (l.take i).sum + (l.drop i).sum := by rw [← List.sum_append, this]
  omega
section
variable {w : World} {A : Around} {E : Value → Shared → Prop} {s : Shared} {mg mb : Str → Option Value} {Q : Value → Shared → Prop} {K W : List Nat → Prop} {n : Int} {t : TR} {T : Trie}
theorem kids_len {p : List Nat} {r : NR} (ok : TOk w K W n t T) (hp : (p, r) ∈ T) : r.kids.length ≤ 26 := by
  have := nodup_len 97 26 (r.kids.map (·.1)) (kids_nodup (ok.inv.ok _ _ hp)) fun e he => by
    have := (ok.lets _ ((ok.inv.kidIff hp).mp he)).2 e (by simp)
    omega
  rwa [List.length_map] at this
theorem kvs_fst (kids : List (Nat × Addr)) : (kvsOf kids).map (·.1) = (kids.map (·.1)).map one := by simp [kvsOf, Function.comp_def]
end
theorem rising_strs : ∀ (p : Str) (l : List Str), risingS p l = true → (∀ y ∈ l, ¬ Lt (cl y) (cl p)) ∧ (l.map cl).Pairwise (fun a b => ¬ Lt b a)
  | _, [], _ => ⟨(fun _ h => (List.not_mem_nil h).elim), List.Pairwise.nil⟩
  | p, x :: r, h => by
    unfold risingS at h
    rw [Bool.and_eq_true, ltCps_eq] at h
    have h1 : ¬ Lt (cl x) (cl p) := by
      have := h.1
      rw [Bool.not_eq_true', decide_eq_false_iff_not] at this
      exact this
    obtain ⟨i1, i2⟩ := rising_strs x r h.2
    refine ⟨fun y hy => ?_, ?_⟩
    · rcases List.mem_cons.mp hy with rfl | hy
      · exact h1
      · exact Nlt.trans h1 (i1 y hy)
    · rw [List.map_cons, List.pairwise_cons]
      refine ⟨fun b hb => ?_, i2⟩
      obtain ⟨y, hy, rfl⟩ := List.mem_map.mp hb
      exact i1 y hy
theorem sorted_strs_pw {l : List Str} (h : sortedS l = true) : (l.map cl).Pairwise (fun a b => ¬ Lt b a) := by
  cases l with
  | nil => exact List.Pairwise.nil
  | cons x r =>
    obtain ⟨i1, i2⟩ := rising_strs x r h
    rw [List.map_cons, List.pairwise_cons]
    refine ⟨fun b hb => ?_, i2⟩
    obtain ⟨y, hy, rfl⟩ := List.mem_map.mp hb
    exact i1 y hy
theorem ones_rising {cs : List Nat} (nd : cs.Nodup) (h : sortedS (cs.map one) = true) : cs.Pairwise (· < ·) := by
  have h1 := sorted_strs_pw h
  rw [List.map_map, List.pairwise_map] at h1
  refine (nd.and h1).imp fun {a b} hab => ?_
  have h2 : ¬ Lt [b] [a] := hab.2
  have h3 : ¬ b < a := fun q => h2 (List.cons_lt_cons_iff.mpr (.inl q))
  have h4 := hab.1
  omega
theorem cl_lt {p q : List Nat} {c : Nat} (h : p ++ [c] <+: q) : ∃ r, q = p ++ c :: r := by
  obtain ⟨r, rfl⟩ := h
  exact ⟨r, by simp⟩
section
variable {w : World} {A : Around} {E : Value → Shared → Prop} {s : Shared} {mg mb : Str → Option Value} {Q : Value → Shared → Prop} {W : List Nat → Prop} {n : Int} {t : TR} {T : Trie}
abbrev all1 : List Nat → Bool := fun _ => true
def GathP (w : World) (mg mb : Str → Option Value) (W : List Nat → Prop) (t : TR) (T : Trie) (d : Nat) : Prop :=
  ∀ (A : Around) (E : Value → Shared → Prop) (s : Shared) (Q : Value → Shared → Prop) (p : List Nat) (rp : NR) (x : Str) (tx : Tok) (fa : Addr) (fs : List Value) (nf : Nat),
    24 ≤ p.length + d → GdH (KK w) mg mb (Hm s [(fa, lst fs nf)]) → Rm A (d + 1) → (∀ q ∈ treeL t T, Hm s [(fa, lst fs nf)] q.1 q.2) → (p, rp) ∈ T → cl x = p → s.heap.get? fa = some (lst fs nf) →
    fs.length + cnt all1 (T.map (·.1)) p ≤ sizeLine →
    (∀ us ss nf' s', StrsAre us ss → (ss.map cl).Pairwise Lt → (∀ q, q ∈ ss.map cl ↔ (W q ∧ p <+: q)) → us.length ≤ cnt all1 (T.map (·.1)) p → Gv s [(fa, lst fs nf)] [(fa, lst (fs ++ us) nf')] s' → Q (.ref fa) s') →
    wpAny (model prg w) A (call (.ref 98) [.ref rp.a, .str x tx, .ref fa]) Q E s
theorem gath_step (N : Nm mg mb) (ok : TOk w (Begs W) W n t T) {d : Nat} (IH : ∀ d', d' < d → GathP w mg mb W t T d') : GathP w mg mb W t T d := by
  intro A E s Q p rp x tx fa fs nf hd G r hT hp hx hfa hcnt h
  have hσ : (∀ q ∈ [(fa, lst fs nf)], s.heap.get? q.1 = some q.2) ∧ ([(fa, lst fs nf)].map (·.1)).Nodup := ⟨fun q hq => by rcases List.mem_singleton.mp hq with rfl; exact hfa, by simp⟩
  refine wpAny_call ?_
  refine' enterM [Str.ofString "node", Str.ofString "text", Str.ofString "found"] [(fa, lst fs nf)] G hσ ?hf ?hcd r ?hb ?hloc ?hcell ?h1 ?h2 ?h3 ?_
  walk_at "m enter"
  intro E' L s' m hm S GH r1
  have e1 : m (Str.ofString "node") = some (.ref rp.a) := by subst hm; rfl
  have e2 : m (Str.ofString "text") = some (.str x tx) := by subst hm; rfl
  have e6 : m (Str.ofString "found") = some (.ref fa) := by subst hm; rfl
  clear hm
  have N' := N
  cases N
  have I := ok.inv
  obtain ⟨o1, o2, o3⟩ := node_in (t := t) hp
  have g1 := hT _ o1
  have g2 := hT _ o2
  have g3 := hT _ o3
  have okn := I.ok _ _ hp
  have hz : fs.length ≤ sizeLine := by omega
  have hxl : x.length ≤ 24 := by have := (ok.lets p (I.here hp)).1; rw [← hx, cl_length] at this; exact this
  refine x_if1_join (J := fun s' => ∃ us ss nf1, StrsAre us ss ∧ (ss.map cl).Pairwise Lt ∧ (∀ q, q ∈ ss.map cl ↔ (W q ∧ q = p)) ∧ us.length ≤ 1 ∧ St true s (Hm s [(fa, lst fs nf)]) L m [(fa, lst (fs ++ us) nf1)] s') ?_ ?_
  · walk_at "m"
    have S5 := ‹St true s _ L m _ _›
    refine r_attr S5 ‹_› (plainN w) (S5.keep _ _ g1) (S5.keep _ _ g2) okn.ad (nodeM_kept _ _) (by first | k_is | kernel_rfl!) rfl fun s6 S6 => ?_
    clear S5
    have hkW := I.kept _ _ hp
    cases hkept : rp.kept with
    | false =>
      walk_at "m"
      refine ⟨[], [], nf, .nil, List.Pairwise.nil, fun q => ⟨fun hq => (List.not_mem_nil hq).elim, fun hq => ?_⟩, Nat.zero_le _, by rw [List.append_nil]; assumption⟩
      rw [hq.2] at hq
      rw [hkW.mpr hq.1] at hkept; cases hkept
    | true =>
      walk_at "m"
      refine ⟨rfl, [.str x tx], [x], _, .cons x tx .nil, by simp, fun q => ?_, Nat.le_refl _, ‹_›⟩
      rw [List.map_singleton, List.mem_singleton, hx]
      exact ⟨fun e => ⟨e ▸ hkW.mp hkept, e⟩, fun e => e.2⟩
  · rintro s2 ⟨us0, ss0, nf1, hu0, hpw0, hmem0, hl0, S2⟩
    have hlk := kids_len ok hp
    have hkl : (kvsOf rp.kids).length ≤ sizeLine := by rw [sizeLine_eq, kvsOf, List.length_map]; omega
    clear S
    refine x_for ?_
    walk_at "m"
    have S5 := ‹St true s _ L _ [_] _›
    refine r_attr S5 ‹_› (plainN w) (S5.keep _ _ g1) (S5.keep _ _ g2) okn.ad (nodeM_inner _ _) (by first | k_is | kernel_rfl!) rfl fun s6 S6 => ?_
    clear S5
    walk_at "m"
    have S7 := ‹St true s _ L _ [_] _›
    refine r_list_dict S7 r1.hh okn.lo (S7.keep _ _ g3) okn.di hkl fun la lvs lc s8 hlen hkeys hna S8 => ?_
    clear S7
    walk_at "m"
    have hss := strs_of_keys hlen hkeys
    refine r_sorted S8 (isL (S8.get List.mem_cons_self)) hss (by rw [hlen, kvsOf, List.length_map]; omega) fun D vs' ss' c' s9 hss' hperm hsorted hnD S9 => ?_
    clear S8
    rw [kvs_fst] at hperm
    obtain ⟨cs, rfl, hcs⟩ := perm_ones hperm
    have S10 := (St.freeze (σ₁ := []) S9).drop (σ' := [(fa, lst (fs ++ us0) nf1)]) (List.sublist_cons_self ..)
    clear S9
    have hG10 : GdH (KK w) mg mb (fun b y => Hm s [(fa, lst fs nf)] b y ∨ (b = D ∧ y = lst vs' c')) := GdH.mono ‹_› fun b o e => .inl e
    have hnd : cs.Nodup := hcs.nodup_iff.mpr (kids_nodup okn)
    have hrise := ones_rising hnd hsorted
    have hcsl : vs'.length = cs.length := by rw [hss'.length, List.length_map]
    have hkid : ∀ q, W q → p <+: q → p ≠ q → ∃ c ∈ cs, p ++ [c] <+: q := fun q hq hpq hne => by
      obtain ⟨e, he⟩ := prefix_snoc hpq hne
      exact ⟨e, hcs.mem_iff.mpr ((I.kidIff hp).mpr (.inr ⟨q, hq, he⟩)), he⟩
    have hstep : cnt all1 (T.map (·.1)) p = 1 + (cs.map fun c => cnt all1 (T.map (·.1)) (p ++ [c])).sum := cnt_step (ok := all1) (cs := cs) I.nd (List.mem_map.mpr ⟨_, hp, rfl⟩) rfl hnd fun q hq hpq hne => by
      obtain ⟨e, he⟩ := prefix_snoc hpq hne
      obtain ⟨v, hv⟩ := he
      exact ⟨e, hcs.mem_iff.mpr ((I.kidIff hp).mpr (I.pre v _ (by rw [hv]; exact (I.keys q).mp hq))), v, hv⟩
    refine for_list (J := fun i m' σ' => m' (Str.ofString "node") = some (.ref rp.a) ∧ m' (Str.ofString "text") = some (.str x tx) ∧ m' (Str.ofString "found") = some (.ref fa) ∧
      ∃ us ss nf2, σ' = [(fa, lst (fs ++ us) nf2)] ∧ StrsAre us ss ∧ (ss.map cl).Pairwise Lt ∧ (∀ q, q ∈ ss.map cl ↔ (W q ∧ (q = p ∨ ∃ c ∈ cs.take i, p ++ [c] <+: q))) ∧ us.length ≤ 1 + ((cs.take i).map fun c => cnt all1 (T.map (·.1)) (p ++ [c])).sum) S10 (.inr ⟨rfl, rfl⟩) r1.hh ?_ ?_ ?_ ?_
    · refine ⟨by walk_at "m loc", by walk_at "m loc", by walk_at "m loc", us0, ss0, _, rfl, hu0, hpw0, fun q => ?_, by simpa using hl0⟩
      rw [hmem0 q]; simp
    · kernel_rfl!
    · intro E2 i m2 σ2 s3 xv Hb hi hv hJ hbb S3
      obtain ⟨f1, f2, f6, us, ss, nf2, rfl, hus, hpw, hmem, hl2⟩ := hJ
      have hG' := GdH.mono hG10 hbb
      clear hG10
      obtain ⟨y, ty, rfl, hy⟩ := hss'.item i xv hv
      rw [List.getElem?_map] at hy
      obtain ⟨c, hc, rfl⟩ := Option.map_eq_some_iff.mp hy
      have hcK : Begs W (p ++ [c]) := (I.kidIff hp).mp (hcs.mem_iff.mp (List.mem_of_getElem? hc))
      obtain ⟨rc, hrc⟩ := I.node hcK
      have hlen24 := (ok.lets _ hcK).1
      rw [List.length_append, List.length_singleton] at hlen24
      have hvk := I.kidSome hp hrc
      have htk : cs.take (i + 1) = cs.take i ++ [c] := by rw [List.take_add_one, hc]; rfl
      have hbefore : ∀ c' ∈ cs.take i, c' < c := fun c' hc' => by
        have hp2 : (cs.take (i + 1)).Pairwise (· < ·) := hrise.sublist (List.take_sublist _ _)
        rw [htk, List.pairwise_append] at hp2
        exact hp2.2.2 c' hc' c (by simp)
      have hsum : ((cs.take (i + 1)).map fun c => cnt all1 (T.map (·.1)) (p ++ [c])).sum = ((cs.take i).map fun c => cnt all1 (T.map (·.1)) (p ++ [c])).sum + cnt all1 (T.map (·.1)) (p ++ [c]) := by
        rw [htk, List.map_append, List.sum_append]; simp
      have hle2 : ((cs.take (i + 1)).map fun c => cnt all1 (T.map (·.1)) (p ++ [c])).sum ≤ (cs.map fun c => cnt all1 (T.map (·.1)) (p ++ [c])).sum := by
        rw [List.map_take]; exact sum_take_le _ _
      have hg1 := hbb _ _ (.inl g1)
      have hg2 := hbb _ _ (.inl g2)
      have hg3 := hbb _ _ (.inl g3)
      rw [show (one c) = ⟨#[c]⟩ from rfl] at S3
      walk_at "m"
      have S5 := ‹St true s Hb L _ [_] _›
      refine r_attr S5 ‹_› (plainN w) (S5.keep _ _ hg1) (S5.keep _ _ hg2) okn.ad (nodeM_inner _ _) (by first | k_is | kernel_rfl!) rfl fun s6 S6 => ?_
      clear S5
      walk_at "m"
      have S7 := ‹St true s Hb L _ [_] _›
      refine r_item_dict S7 (S7.keep _ _ hg3) okn.di hvk fun s8 S8 => ?_
      clear S7
      walk_at "m"
      have S9 := ‹St true s Hb L _ [_] _›
      have S9' : St true s Hb L _ ([(fa, lst (fs ++ us) nf2)] ++ []) _ := S9
      refine IH (d - 1) (by omega) _ _ _ _ (p ++ [c]) rc _ _ fa (fs ++ us) nf2 (by rw [List.length_append, List.length_singleton]; omega) (S9'.hm ‹GdH _ mg mb Hb›) (r1.less (by omega)) (fun q hq => ⟨S9.keep _ _ (hbb _ _ (.inl (hT q hq))), (hT q hq).2⟩) hrc (by rw [cl_append, hx]) (S9.get List.mem_cons_self) (by rw [List.length_append]; omega) fun us3 ss3 nf3 s10 hus3 hpw3 hmem3 hl3 gv => ?_
      have S11 := S9'.swap gv
      rw [List.append_nil, List.append_assoc] at S11
      clear S9 S9'
      walk_at "m"
      refine turnK_next ‹_› ⟨by walk_at "m loc", by walk_at "m loc", by walk_at "m loc", us ++ us3, ss ++ ss3, nf3, rfl, hus.append' hus3, ?_, fun q => ?_, by rw [List.length_append]; omega⟩
      · rw [List.map_append, List.pairwise_append]
        refine ⟨hpw, hpw3, fun a ha b hb => ?_⟩
        obtain ⟨r', rfl⟩ := cl_lt ((hmem3 b).mp hb).2
        rcases ((hmem a).mp ha).2 with rfl | ⟨c', hc', hpre⟩
        · exact Lt.longer _ _ _
        · obtain ⟨r'', rfl⟩ := cl_lt hpre
          exact Lt.fork p (hbefore c' hc') _ _
      · rw [List.map_append, List.mem_append, hmem q, hmem3 q, htk]
        simp only [List.mem_append, List.mem_singleton]
        constructor
        · rintro (⟨h1, h2 | ⟨c', h2, h3⟩⟩ | ⟨h1, h2⟩)
          · exact ⟨h1, .inl h2⟩
          · exact ⟨h1, .inr ⟨c', .inl h2, h3⟩⟩
          · exact ⟨h1, .inr ⟨c, .inr rfl, h2⟩⟩
        · rintro ⟨h1, h2 | ⟨c', h2 | rfl, h3⟩⟩
          · exact .inl ⟨h1, .inl h2⟩
          · exact .inl ⟨h1, .inr ⟨c', h2, h3⟩⟩
          · exact .inr ⟨h1, h3⟩
    · intro m2 σ2 s3 hJ S3
      obtain ⟨f1, f2, f6, us, ss, nf2, rfl, hus, hpw, hmem, hl2⟩ := hJ
      rw [hcsl, List.take_length] at hl2 hmem
      rw [← hstep] at hl2
      walk_at "m"
      refine h us ss nf2 _ hus hpw (fun q => ?_) hl2 (St.gv (St.anti ‹St _ _ _ _ m2 _ _› fun b o e => Or.inl e))
      rw [hmem q]
      constructor
      · rintro ⟨h1, rfl | ⟨c, _, h3⟩⟩
        · exact ⟨h1, List.prefix_refl _⟩
        · exact ⟨h1, (List.prefix_append p [c]).trans h3⟩
      · rintro ⟨h1, h2⟩
        by_cases e : p = q
        · exact ⟨h1, .inl e.symm⟩
        · exact ⟨h1, .inr (hkid q h1 h2 e)⟩
theorem c_gathered (N : Nm mg mb) (ok : TOk w (Begs W) W n t T) (d : Nat) : GathP w mg mb W t T d := Nat.strongRecOn d fun _ IH => gath_step N ok IH
def CountP (w : World) (mg mb : Str → Option Value) (t : TR) (T : Trie) (d : Nat) : Prop :=
  ∀ (A : Around) (E : Value → Shared → Prop) (s : Shared) (Q : Value → Shared → Prop) (p : List Nat) (rp : NR), 24 ≤ p.length + d → Gd (KK w) mg mb s.heap → Rm A (d + 1) → (∀ q ∈ treeL t T, s.heap.get? q.1 = some q.2) → (p, rp) ∈ T →
    (∀ s' tk, Kp s s' → Q (.int ((cnt all1 (T.map (·.1)) p : Nat) : Int) tk) s') → wpAny (model prg w) A (call (.ref 105) [.ref rp.a]) Q E s
theorem count_step (N : Nm mg mb) (ok : TOk w (Begs W) W n t T) {d : Nat} (IH : ∀ d', d' < d → CountP w mg mb t T d') : CountP w mg mb t T d := by
  intro A E s Q p rp hd G r hT hp h
  refine' enterK [Str.ofString "node"] G ?hf ?hcd r ?hb ?hloc ?hcell ?h1 ?h2 ?h3 ?_
  walk_at "m enter"
  intro E' L s' m hm hL S GH r1
  have e1 : m (Str.ofString "node") = some (.ref rp.a) := by subst hm; rfl
  clear hm hL
  have N' := N
  cases N
  have I := ok.inv
  obtain ⟨o1, o2, o3⟩ := node_in (t := t) hp
  have g1 := hT _ o1
  have g2 := hT _ o2
  have g3 := hT _ o3
  have okn := I.ok _ _ hp
  have hlk := kids_len ok hp
  have hkl : (kvsOf rp.kids).length ≤ sizeLine := by rw [sizeLine_eq, kvsOf, List.length_map]; omega
  walk_at "m"
  refine x_for ?_
  walk_at "m"
  have S5 := ‹St true s _ L _ [] _›
  refine r_attr S5 ‹_› (plainN w) (S5.keep _ _ g1) (S5.keep _ _ g2) okn.ad (nodeM_inner _ _) (by first | k_is | kernel_rfl!) rfl fun s6 S6 => ?_
  clear S5
  walk_at "m"
  have S7 := ‹St true s _ L _ [] _›
  refine r_list_dict S7 r1.hh okn.lo (S7.keep _ _ g3) okn.di hkl fun la lvs lc s8 hlen hkeys hna S8 => ?_
  clear S7
  have hss := strs_of_keys hlen hkeys
  rw [kvs_fst] at hss
  have S10 := St.freeze (σ₁ := []) S8
  clear S8
  have hG10 : GdH (KK w) mg mb (fun b y => s.heap.get? b = some y ∨ (b = la ∧ y = lst lvs lc)) := GdH.mono ‹_› fun b o e => .inl e
  have hnd := kids_nodup okn
  have hcsl : lvs.length = (rp.kids.map (·.1)).length := by rw [hss.length, List.length_map]
  have hstep : cnt all1 (T.map (·.1)) p = 1 + ((rp.kids.map (·.1)).map fun c => cnt all1 (T.map (·.1)) (p ++ [c])).sum := cnt_step (ok := all1) (cs := rp.kids.map (·.1)) I.nd (List.mem_map.mpr ⟨_, hp, rfl⟩) rfl hnd fun q hq hpq hne => by
    obtain ⟨e, he⟩ := prefix_snoc hpq hne
    obtain ⟨v, hv⟩ := he
    exact ⟨e, (I.kidIff hp).mpr (I.pre v _ (by rw [hv]; exact (I.keys q).mp hq)), v, hv⟩
  generalize hcs : rp.kids.map (·.1) = cs at hss hstep hcsl hnd
  rw [List.nil_append] at S10
  refine for_list (J := fun i m' σ' => σ' = [] ∧ m' (Str.ofString "node") = some (.ref rp.a) ∧ ∃ tk, m' (Str.ofString "found") = some (.int ((1 + ((cs.take i).map fun c => cnt all1 (T.map (·.1)) (p ++ [c])).sum : Nat) : Int) tk)) S10 (.inr ⟨rfl, rfl⟩) r1.hh ?_ ?_ ?_ ?_
  · exact ⟨rfl, by walk_at "m loc", _, upd_same _ _ _⟩
  · kernel_rfl!
  · intro E2 i m2 σ2 s3 xv Hb hi hv hJ hbb S3
    obtain ⟨rfl, f1, tk, f7⟩ := hJ
    have hG' := GdH.mono hG10 hbb
    clear hG10
    obtain ⟨y, ty, rfl, hy⟩ := hss.item i xv hv
    rw [List.getElem?_map] at hy
    obtain ⟨c, hc, rfl⟩ := Option.map_eq_some_iff.mp hy
    have hcK : Begs W (p ++ [c]) := (I.kidIff hp).mp (by rw [hcs]; exact List.mem_of_getElem? hc)
    obtain ⟨rc, hrc⟩ := I.node hcK
    have hlen24 := (ok.lets _ hcK).1
    rw [List.length_append, List.length_singleton] at hlen24
    have hvk := I.kidSome hp hrc
    have htk : cs.take (i + 1) = cs.take i ++ [c] := by rw [List.take_add_one, hc]; rfl
    have hsum : ((cs.take (i + 1)).map fun c => cnt all1 (T.map (·.1)) (p ++ [c])).sum = ((cs.take i).map fun c => cnt all1 (T.map (·.1)) (p ++ [c])).sum + cnt all1 (T.map (·.1)) (p ++ [c]) := by
      rw [htk, List.map_append, List.sum_append]; simp
    have hg1 := hbb _ _ (.inl g1)
    have hg2 := hbb _ _ (.inl g2)
    have hg3 := hbb _ _ (.inl g3)
    rw [show (one c) = ⟨#[c]⟩ from rfl] at S3
    walk_at "m"
    have S5 := ‹St true s Hb L _ [] _›
    refine r_attr S5 ‹_› (plainN w) (S5.keep _ _ hg1) (S5.keep _ _ hg2) okn.ad (nodeM_inner _ _) (by first | k_is | kernel_rfl!) rfl fun s6 S6 => ?_
    clear S5
    walk_at "m"
    have S7 := ‹St true s Hb L _ [] _›
    refine r_item_dict S7 (S7.keep _ _ hg3) okn.di hvk fun s8 S8 => ?_
    clear S7
    walk_at "m"
    have S9 := ‹St true s Hb L _ [] _›
    refine IH (d - 1) (by omega) _ _ _ _ (p ++ [c]) rc (by rw [List.length_append, List.length_singleton]; omega) (S9.gd ‹GdH _ mg mb Hb›) (r1.less (by omega)) (fun q hq => S9.keep _ _ (hbb _ _ (.inl (hT q hq)))) hrc fun s10 tk3 k10 => ?_
    have S11 := S9.kp k10
    clear S9
    walk_at "m"
    have hval : (((1 + ((cs.take (i + 1)).map fun c => cnt all1 (T.map (·.1)) (p ++ [c])).sum : Nat) : Int)) = ((1 + ((cs.take i).map fun c => cnt all1 (T.map (·.1)) (p ++ [c])).sum : Nat) : Int) + ((cnt all1 (T.map (·.1)) (p ++ [c]) : Nat) : Int) := by omega
    exact turnK_next ‹_› ⟨rfl, by walk_at "m loc", _, by rw [hval]; walk_at "m loc"⟩
  · intro m2 σ2 s3 hJ S3
    obtain ⟨rfl, f1, tk, f7⟩ := hJ
    rw [hcsl, List.take_length, ← hstep] at f7
    walk_at "m"
    exact h _ _ (St.back (St.anti ‹St _ _ _ _ m2 _ _› fun b o e => Or.inl e))
theorem c_counted (N : Nm mg mb) (ok : TOk w (Begs W) W n t T) (d : Nat) : CountP w mg mb t T d := Nat.strongRecOn d fun _ IH => count_step N ok IH
end
theorem cnt_all (ks : List (List Nat)) : cnt all1 ks [] = ks.length := by
  unfold cnt
  exact List.countP_eq_length.mpr fun a _ => by simp [all1]
theorem cnt_le {ks : List (List Nat)} {p : List Nat} : cnt all1 ks p ≤ ks.length := List.countP_le_length
section
variable {w : World} {A : Around} {E : Value → Shared → Prop} {s : Shared} {mg mb : Str → Option Value} {Q : Value → Shared → Prop} {W : List Nat → Prop} {n : Int} {t : TR} {T : Trie}
theorem c_words (N : Nm mg mb) (G : Gd (KK w) mg mb s.heap) (r : Rm A 27) (ok : TOk w (Begs W) W n t T) (hT : ∀ q ∈ treeL t T, s.heap.get? q.1 = some q.2) (hz : T.length ≤ sizeLine)
    (h : ∀ D us ss nf s', StrsAre us ss → (ss.map cl).Pairwise Lt → (∀ q, q ∈ ss.map cl ↔ W q) → s.heap.get? D = none → Kp s s' → s'.heap.get? D = some (lst us nf) → Q (.ref D) s') :
    wpAny (model prg w) A (call (.ref 154) [.ref t.a]) Q E s := by
  refine' enterK [Str.ofString "self"] G ?hf ?hcd r ?hb ?hloc ?hcell ?h1 ?h2 ?h3 ?_
  walk_at "m enter"
  intro E' L s' m hm hL S GH r1
  have e1 : m (Str.ofString "self") = some (.ref t.a) := by subst hm; rfl
  clear hm hL
  have N' := N
  cases N
  obtain ⟨tk, ad⟩ := ok.ad
  obtain ⟨r0, hr0, er0⟩ := ok.top
  walk_at "m"
  have S3 := ‹St true s _ L m [] _›
  refine r_attr S3 ‹_› (plainT w) (S3.keep _ _ (hT _ List.mem_cons_self)) (S3.keep _ _ (hT _ (List.mem_cons_of_mem _ List.mem_cons_self))) ad (treeM_top _ _ _) (by first | k_is | kernel_rfl!) rfl fun s4 S4 => ?_
  clear S3
  walk_at "m"
  have S6 := ‹St true s _ L m [_] _›
  rename_i fa _ _ _
  have S6' : St true s _ L m ([(fa, lst [] 0)] ++ []) _ := S6
  rw [← er0]
  refine c_gathered N' ok 24 _ _ _ _ [] r0 _ _ fa [] 0 (by simp) (S6'.hm ‹_›) (r1.less (by omega)) (fun q hq => ⟨S6.keep _ _ (hT q hq), fun hm => ?_⟩) hr0 rfl (S6.get List.mem_cons_self) (by rw [cnt_all, List.length_map]; simpa using hz) fun us ss nf' s7 hus hpw hmem hl gv => ?_
  · obtain ⟨p', hp', e⟩ := List.mem_map.mp hm
    exact (S6.own p' (by rcases List.mem_singleton.mp hp' with rfl; exact List.mem_cons_self)).2.2 _ (by rw [e]; exact hT q hq)
  · have S7 : St true s _ L m [(fa, lst us nf')] s7 := S6'.swap gv
    walk_at "m"
    have S8 := ‹St true s _ L m [(fa, lst us nf')] _›
    exact h fa us ss nf' _ hus hpw (fun q => (hmem q).trans ⟨fun h => h.1, fun h => ⟨h, List.nil_prefix⟩⟩) (S8.fresh List.mem_cons_self) S8.back (S8.get List.mem_cons_self)
theorem c_begun {x : Str} {u : Tok} (N : Nm mg mb) (G : Gd (KK w) mg mb s.heap) (r : Rm A 27) (ok : TOk w (Begs W) W n t T) (hT : ∀ q ∈ treeL t T, s.heap.get? q.1 = some q.2) (hz : T.length ≤ sizeLine) (hx : isW x = true)
    (h : ∀ D us ss nf s', StrsAre us ss → (ss.map cl).Pairwise Lt → (∀ q, q ∈ ss.map cl ↔ (W q ∧ cl x <+: q)) → s.heap.get? D = none → Kp s s' → s'.heap.get? D = some (lst us nf) → Q (.ref D) s') :
    wpAny (model prg w) A (call (.ref 161) [.ref t.a, .str x u]) Q E s := by
  refine' enterK [Str.ofString "self", Str.ofString "begin"] G ?hf ?hcd r ?hb ?hloc ?hcell ?h1 ?h2 ?h3 ?_
  walk_at "m enter"
  intro E' L s' m hm hL S GH r1
  have e1 : m (Str.ofString "self") = some (.ref t.a) := by subst hm; rfl
  have e2 : m (Str.ofString "begin") = some (.str x u) := by subst hm; rfl
  clear hm hL
  have N' := N
  cases N
  have hlx := ((isW_iff x).mp hx).1
  have I := ok.inv
  obtain ⟨tk, ad⟩ := ok.ad
  refine x_assign ?_
  refine e_meth (K := hd.heap_39 w.params) _ ?_
  walk_at "m"
  have S5 := ‹St true s _ L m [] _›
  refine' MethK.mk S5 ‹_› (plainT w) (S5.keep _ _ (hT _ List.mem_cons_self)) (S5.keep _ _ (hT _ (List.mem_cons_of_mem _ List.mem_cons_self))) ad ?hno ?hk ?hf ?ht ?_
  (case hno => unfold treeM; rw [upd_other (by decide +kernel) (upd_other (by decide +kernel) rfl)])
  (case hk => first | k_is | kernel_rfl!)
  (case hf => first | k_is | kernel_rfl!)
  (case ht => first | k_is | kernel_rfl!)
  refine' e_first (K := hd.heap_39 w.params) ?hk (S5.gd ‹_›).X ?_
  (case hk => first | k_is | kernel_rfl!)
  clear S5
  walk_at "m"
  refine c_need_word N' (St.gd ‹_› ‹_›) (r1.less (by omega)) hx fun s1 k1 => ?_
  have S6 := St.kp ‹_› k1
  walk_at "m"
  refine ⟨(St.gd ‹_› ‹_›).X, ?_⟩
  refine c_found_node N' (St.gd ‹_› ‹_›) (r1.less (by omega)) ok (fun q hq => S6.keep _ _ (hT q hq)) (by omega) (fun rr s7 hrr k7 => ?_) fun hK s7 k7 => ?_
  · have S7 := S6.kp k7
    clear S6
    walk_at "m"
    have S8 := ‹St true s _ L _ [_] _›
    rename_i fa _ _ _
    have S8' : St true s _ L _ ([(fa, lst [] 0)] ++ []) _ := S8
    refine c_gathered N' ok 24 _ _ _ _ (cl x) rr _ _ fa [] 0 (Nat.le_add_left _ _) (S8'.hm ‹_›) (r1.less (by omega)) (fun q hq => ⟨S8.keep _ _ (hT q hq), fun hm => ?_⟩) hrr rfl (S8.get List.mem_cons_self) (by have := cnt_le (ks := T.map (·.1)) (p := cl x); rw [List.length_map] at this; simp only [List.length_nil]; omega) fun us ss nf' s9 hus hpw hmem hl gv => ?_
    · obtain ⟨p', hp', e⟩ := List.mem_map.mp hm
      exact (S8.own p' (by rcases List.mem_singleton.mp hp' with rfl; exact List.mem_cons_self)).2.2 _ (by rw [e]; exact hT q hq)
    · have S9 : St true s _ L _ [(fa, lst us nf')] s9 := S8'.swap gv
      walk_at "m"
      have S10 := ‹St true s _ L _ [(fa, lst us nf')] _›
      exact h fa us ss nf' _ hus hpw hmem (S10.fresh List.mem_cons_self) S10.back (S10.get List.mem_cons_self)
  · have S7 := S6.kp k7
    clear S6
    walk_at "m"
    have S8 := ‹St true s _ L _ [_] _›
    exact h _ [] [] 0 _ .nil List.Pairwise.nil (fun q => ⟨fun hq => (List.not_mem_nil hq).elim, fun hq => absurd (.inr ⟨q, hq.1, hq.2⟩) hK⟩) (S8.fresh List.mem_cons_self) S8.back (S8.get List.mem_cons_self)
theorem c_many (N : Nm mg mb) (G : Gd (KK w) mg mb s.heap) (r : Rm A 2) (ok : TOk w (Begs W) W n t T) (hT : ∀ q ∈ treeL t T, s.heap.get? q.1 = some q.2) (h : ∀ tk s', Kp s s' → Q (.int n tk) s') :
    wpAny (model prg w) A (call (.ref 168) [.ref t.a]) Q E s := by
  refine' enterK [Str.ofString "self"] G ?hf ?hcd r ?hb ?hloc ?hcell ?h1 ?h2 ?h3 ?_
  walk_at "m enter"
  intro E' L s' m hm hL S GH r1
  have e1 : m (Str.ofString "self") = some (.ref t.a) := by subst hm; rfl
  clear hm hL
  obtain ⟨tk, ad⟩ := ok.ad
  walk_at "m"
  have S3 := ‹St true s _ L m [] _›
  refine r_attr S3 ‹_› (plainT w) (S3.keep _ _ (hT _ List.mem_cons_self)) (S3.keep _ _ (hT _ (List.mem_cons_of_mem _ List.mem_cons_self))) ad (treeM_kept _ _ _) (by first | k_is | kernel_rfl!) rfl fun s4 S4 => ?_
  clear S3
  walk_at "m"
  exact h _ _ (St.back ‹_›)
theorem c_nodes (N : Nm mg mb) (G : Gd (KK w) mg mb s.heap) (r : Rm A 27) (ok : TOk w (Begs W) W n t T) (hT : ∀ q ∈ treeL t T, s.heap.get? q.1 = some q.2) (h : ∀ tk s', Kp s s' → Q (.int (T.length : Int) tk) s') :
    wpAny (model prg w) A (call (.ref 175) [.ref t.a]) Q E s := by
  refine' enterK [Str.ofString "self"] G ?hf ?hcd r ?hb ?hloc ?hcell ?h1 ?h2 ?h3 ?_
  walk_at "m enter"
  intro E' L s' m hm hL S GH r1
  have e1 : m (Str.ofString "self") = some (.ref t.a) := by subst hm; rfl
  clear hm hL
  have N' := N
  cases N
  obtain ⟨tk, ad⟩ := ok.ad
  obtain ⟨r0, hr0, er0⟩ := ok.top
  walk_at "m"
  have S3 := ‹St true s _ L m [] _›
  refine r_attr S3 ‹_› (plainT w) (S3.keep _ _ (hT _ List.mem_cons_self)) (S3.keep _ _ (hT _ (List.mem_cons_of_mem _ List.mem_cons_self))) ad (treeM_top _ _ _) (by first | k_is | kernel_rfl!) rfl fun s4 S4 => ?_
  clear S3
  walk_at "m"
  have S5 := ‹St true s _ L m [] _›
  rw [← er0]
  refine c_counted N' ok 24 _ _ _ _ [] r0 (by simp) (S5.gd ‹_›) (r1.less (by omega)) (fun q hq => S5.keep _ _ (hT q hq)) hr0 fun s6 tk6 k6 => ?_
  have S6 := S5.kp k6
  rw [cnt_all, List.length_map]
  walk_at "m"
  exact h _ _ (St.back S6)
end
/-- the script's items are ints -/
def Ints (vs : List Value) : Prop := ∀ (i : Nat) (v : Value), vs[i]? = some v → ∃ n t, v = Value.int n t
theorem Ints.of {vs : List Value} {ns : List Int} (h : IntsAre vs ns) : Ints vs := by
  induction h with
  | nil => intro i v e; simp at e
  | cons n t _ ih =>
    intro i v e
    cases i with
    | zero => exact ⟨n, t, by simpa using e.symm⟩
    | succ i => exact ih i v (by simpa using e)
theorem IntsAre.len {vs : List Value} {ns : List Int} (h : IntsAre vs ns) : vs.length = ns.length := by
  induction h with
  | nil => rfl
  | cons _ _ _ ih => simp [ih]
theorem fmod_lo (a : Int) {b : Int} (h : 0 < b) : 0 ≤ a.fmod b := Int.fmod_nonneg_of_pos a h
theorem fmod_hi (a : Int) {b : Int} (h : 0 < b) : a.fmod b < b := Int.fmod_lt_of_pos a h
section
variable {w : World} {A : Around} {E : Value → Shared → Prop} {s : Shared} {mg mb : Str → Option Value} {Q : Value → Shared → Prop}
theorem c_law_at {a : Addr} {vs : List Value} {i : Int} {t : Tok} (N : Nm mg mb) (G : Gd (KK w) mg mb s.heap) (r : Rm A 1) (hl : s.heap.IsList a vs.toArray) (hi : Ints vs) (hz : vs.length ≤ 63) (h0 : 0 ≤ i)
    (h : ∀ v t' s', Kp s s' → Q (.int v t') s') : wpAny (model prg w) A (call (.ref 189) [.ref a, .int i t]) Q E s := by
  refine' enterK [Str.ofString "_law_script", Str.ofString "_law_k"] G ?hf ?hcd r ?hb ?hloc ?hcell ?h1 ?h2 ?h3 ?_
  walk_at "m enter"
  intro E' L s' m hm hL S GH r1
  have e1 : m (Str.ofString "_law_script") = some (.ref a) := by subst hm; rfl
  have e2 : m (Str.ofString "_law_k") = some (.int i t) := by subst hm; rfl
  clear hm hL
  cases N
  have hz1 : vs.length ≤ sizeLine := by rw [sizeLine_eq]; omega
  walk_at "m"
  refine r_len_list ‹_› (hl.at fun o e => St.keep ‹_› _ _ e) hz1 ?_
  intros
  walk_at "m"
  refine split_dec (fun hc => ?_) (fun hc => ?_)
  · walk_at "m"
    have hlt : i.toNat < vs.length := by omega
    obtain ⟨n, tn, hn⟩ := hi i.toNat vs[i.toNat] (by simp [hlt])
    refine r_item_list (hl.at fun o e => St.keep ‹_› _ _ e) h0 hz1 (v := .int n tn) (by rw [← hn]; simp [hlt]) ?_
    walk_at "m"
    exact h _ _ _ (St.back ‹_›)
  · walk_at "m"
    exact h _ _ _ (St.back ‹_›)
end
-- a call of _law_at
local macro_rules | `(tactic| walk_at "m at") => `(tactic| ((with_reducible rename St _ _ _ _ _ _ _ => hS); (with_reducible rename GdH _ _ _ _ => hG); refine c_law_at (by assumption) (St.gd hS hG) (Rm.less (by assumption) (by omega)) (Heap.IsList.at (by assumption) fun o e => St.keep hS _ _ e) (by assumption) (by assumption) (by omega) ?_; (intro _ _ _ hk; have hS' := St.kp hS hk; clear hS hk)))
local macro_rules | `(tactic| walk_at "m w") => `(tactic| repeat' (first | walk_at "m step" | walk_at "m at"))
section
variable {w : World} {A : Around} {E : Value → Shared → Prop} {s : Shared} {mg mb : Str → Option Value} {Q : Value → Shared → Prop}
theorem c_law_whole {i : Int} {t : Tok} (N : Nm mg mb) (G : Gd (KK w) mg mb s.heap) (r : Rm A 1) (h : ∀ s', Kp s s' → Q (.bool true) s') : wpAny (model prg w) A (call (.ref 196) [.int i t]) Q E s := by
  refine' enterK [Str.ofString "_law_thing"] G ?hf ?hcd r ?hb ?hloc ?hcell ?h1 ?h2 ?h3 ?_
  walk_at "m enter"
  intro E' L s' m hm hL S GH r1
  have e1 : m (Str.ofString "_law_thing") = some (.int i t) := by subst hm; rfl
  clear hm hL
  cases N
  walk_at "m"
  exact h _ (St.back ‹_›)
end
theorem az_at {i : Int} (h0 : 0 ≤ i) (h1 : i < 26) : ∃ c, (Str.ofString "abcdefghijklmnopqrstuvwxyz").cps.toList[i.toNat]? = some c ∧ 97 ≤ c ∧ c ≤ 122 := by
  have e : (Str.ofString "abcdefghijklmnopqrstuvwxyz").cps.toList = (List.range 26).map (97 + ·) := by decide +kernel
  refine ⟨97 + i.toNat, ?_, by omega, by omega⟩
  rw [e, List.getElem?_map, List.getElem?_range (by omega)]; rfl
/-- an int from 1 to 26 -/
def Sm (v : Value) : Prop := ∃ n t, v = Value.int n t ∧ 1 ≤ n ∧ n ≤ 26
theorem pick3 {v0 v1 v2 : Value} {i : Int} (h0 : 0 ≤ i) (h1 : i < 3) (ha : Sm v0) (hb : Sm v1) (hc : Sm v2) : ∃ v, [v0, v1, v2][i.toNat]? = some v ∧ Sm v := by
  have : i = 0 ∨ i = 1 ∨ i = 2 := by omega
  rcases this with rfl | rfl | rfl
  · exact ⟨_, rfl, ha⟩
  · exact ⟨_, rfl, hb⟩
  · exact ⟨_, rfl, hc⟩
theorem pick4 {v0 v1 v2 v3 : Value} {i : Int} (h0 : 0 ≤ i) (h1 : i < 4) (ha : Sm v0) (hb : Sm v1) (hc : Sm v2) (hd : Sm v3) : ∃ v, [v0, v1, v2, v3][i.toNat]? = some v ∧ Sm v := by
  have : i = 0 ∨ i = 1 ∨ i = 2 ∨ i = 3 := by omega
  rcases this with rfl | rfl | rfl | rfl
  · exact ⟨_, rfl, ha⟩
  · exact ⟨_, rfl, hb⟩
  · exact ⟨_, rfl, hc⟩
  · exact ⟨_, rfl, hd⟩
theorem sm {n : Int} {t : Tok} (h : 1 ≤ n ∧ n ≤ 26) : Sm (.int n t) := ⟨n, t, rfl, h⟩
theorem r_item_ex {prog : Program} {w : World} {A : Around} {E : Value → Shared → Prop} {s : Shared} {Q : Value → Shared → Prop} {value slice : Expr} {a : Addr} {vs : List Value} {i : Int} {u : Tok} (P : Value → Prop) (hl : s.heap.IsList a vs.toArray) (h0 : 0 ≤ i) (hz : vs.length ≤ sizeLine)
    (hv : ∃ v, vs[i.toNat]? = some v ∧ P v) (h : ∀ v, P v → Q v s)
    (hs : subscripted slice false (.ref a) (.int i u) = operate [.ref a, .int i u] (getItem (.ref a) (.int i u)) := by with_unfolding_all rfl) : wpAny (model prog w) A (subscriptTail value slice (.ref a) (.int i u)) Q E s := by
  obtain ⟨v, hv, hp⟩ := hv
  exact r_item_list hl h0 hz hv (h v hp) hs
section
variable {w : World} {A : Around} {E : Value → Shared → Prop} {s : Shared} {mg mb : Str → Option Value} {Q : Value → Shared → Prop}
theorem c_law_letter {mode num : Int} {t u : Tok} (N : Nm mg mb) (G : Gd (KK w) mg mb s.heap) (r : Rm A 1) (h : ∀ c t' s', 97 ≤ c → c ≤ 122 → Kp s s' → Q (.str ⟨#[c]⟩ t') s') :
    wpAny (model prg w) A (call (.ref 203) [.int mode t, .int num u]) Q E s := by
  refine' enterK [Str.ofString "_law_mode", Str.ofString "_law_number"] G ?hf ?hcd r ?hb ?hloc ?hcell ?h1 ?h2 ?h3 ?_
  walk_at "m enter"
  intro E' L s' m hm hL S GH r1
  have e1 : m (Str.ofString "_law_mode") = some (.int mode t) := by subst hm; rfl
  have e2 : m (Str.ofString "_law_number") = some (.int num u) := by subst hm; rfl
  clear hm hL
  cases N
  walk_at "m"
  refine r_item_ex Sm (isL (St.get ‹_› List.mem_cons_self)) (fmod_lo mode (by omega)) (by show 3 ≤ sizeLine; decide) (pick3 (fmod_lo _ (by omega)) (fmod_hi _ (by omega)) (sm (by omega)) (sm (by omega)) (sm (by omega))) ?_
  rintro _ ⟨n1, t1, rfl, hlo1, hhi1⟩
  walk_at "m"
  refine r_item_ex Sm (isL (St.get ‹_› List.mem_cons_self)) (fmod_lo _ (by omega)) (by show 4 ≤ sizeLine; decide) (pick4 (fmod_lo _ (by omega)) (fmod_hi _ (by omega)) (sm (by omega)) (sm (by omega)) (sm (by omega)) (sm (by omega))) ?_
  rintro _ ⟨n2, t2, rfl, hlo2, hhi2⟩
  walk_at "m"
  obtain ⟨c, hc, hc1, hc2⟩ := az_at (fmod_lo (mode.fdiv 3 + num.fmod n1 * n2) (b := 26) (by omega)) (fmod_hi _ (by omega))
  refine r_item_str ‹_› (fmod_lo _ (by omega)) (by rw [PySem.ofString_length, sizeLine_eq]; decide +kernel) hc ?_
  intros
  walk_at "m"
  exact h c _ _ hc1 hc2 (St.back ‹_›)
theorem c_law_word {mode cell most : Int} {t u v : Tok} (N : Nm mg mb) (G : Gd (KK w) mg mb s.heap) (r : Rm A 2) (h0 : 0 ≤ most) (h1 : most ≤ 1000)
    (h : ∀ x t' s', Lets x → x.length ≤ most.toNat → Kp s s' → Q (.str x t') s') : wpAny (model prg w) A (call (.ref 210) [.int mode t, .int cell u, .int most v]) Q E s := by
  refine' enterK [Str.ofString "_law_mode", Str.ofString "_law_cell", Str.ofString "_law_most"] G ?hf ?hcd r ?hb ?hloc ?hcell ?h1 ?h2 ?h3 ?_
  walk_at "m enter"
  intro E' L s' m hm hL S GH r1
  have e1 : m (Str.ofString "_law_mode") = some (.int mode t) := by subst hm; rfl
  have e2 : m (Str.ofString "_law_cell") = some (.int cell u) := by subst hm; rfl
  have e3 : m (Str.ofString "_law_most") = some (.int most v) := by subst hm; rfl
  clear hm hL
  have N' := N
  cases N
  walk_at "m"
  refine x_for ?_
  walk_at "m"
  have b0 := fmod_lo cell (b := most + 1) (by omega)
  have b1 := fmod_hi cell (b := most + 1) (by omega)
  refine for_range (J := fun i m' σ' => m' (Str.ofString "_law_mode") = some (.int mode t) ∧ ∃ ce tc x tx, m' (Str.ofString "_law_cell") = some (.int ce tc) ∧ m' (Str.ofString "_law_found") = some (.str x tx) ∧ Lets x ∧ x.length = i ∧ σ' = []) ‹_› r1.hh (by omega) (by omega) ?_ ?_ ?_ ?_
  · exact ⟨by walk_at "m loc", _, _, _, _, by walk_at "m loc", by walk_at "m loc", (fun c hc => by cases hc), rfl, rfl⟩
  · kernel_rfl!
  · intro E2 i m2 σ2 s2 t2 Hb hi hJ hb S2
    obtain ⟨f1, ce, tc, x, tx, f2, f3, hx, hlen, rfl⟩ := hJ
    have hG' := GdH.mono ‹_› hb
    walk_at "m"
    refine c_law_letter N' (St.gd ‹_› ‹_›) r1 fun c tc s3 hc1 hc2 k3 => ?_
    have S3 := St.kp ‹_› k3
    have hz : x.length + (⟨#[c]⟩ : Str).length ≤ sizeLine := by rw [len_one, sizeLine_eq]; omega
    walk_at "m"
    exact turnK_next ‹_› ⟨by walk_at "m loc", _, _, _, _, by walk_at "m loc", by walk_at "m loc", hx.append (.one ⟨hc1, hc2⟩), by rw [len_app, len_one]; omega, rfl⟩
  · intro m2 σ2 s2 hJ S2
    obtain ⟨f1, ce, tc, x, tx, f2, f3, hx, hlen, rfl⟩ := hJ
    walk_at "m"
    exact h x _ _ hx (by omega) (St.back ‹St _ _ _ _ m2 _ _›)
end
section
variable {w : World} {A : Around} {E : Value → Shared → Prop} {s : Shared} {mg mb : Str → Option Value} {Q : Value → Shared → Prop}
theorem c_law_bent {mode cell : Int} {x : Str} {t u v : Tok} (N : Nm mg mb) (G : Gd (KK w) mg mb s.heap) (r : Rm A 2) (hx : Lets x) (hl : x.length ≤ 24)
    (h : ∀ y t' s', Lets y → y.length ≤ 24 → Kp s s' → Q (.str y t') s') : wpAny (model prg w) A (call (.ref 217) [.int mode t, .str x u, .int cell v]) Q E s := by
  refine' enterK [Str.ofString "_law_mode", Str.ofString "_law_word_here", Str.ofString "_law_cell"] G ?hf ?hcd r ?hb ?hloc ?hcell ?h1 ?h2 ?h3 ?_
  walk_at "m enter"
  intro E' L s' m hm hL S GH r1
  have e1 : m (Str.ofString "_law_mode") = some (.int mode t) := by subst hm; rfl
  have e2 : m (Str.ofString "_law_word_here") = some (.str x u) := by subst hm; rfl
  have e3 : m (Str.ofString "_law_cell") = some (.int cell v) := by subst hm; rfl
  clear hm hL
  have N' := N
  cases N
  refine x_for ?_
  walk_at "m"
  have b0 := fmod_lo cell (b := 4) (by omega)
  have b1 := fmod_hi cell (b := 4) (by omega)
  refine for_range (J := fun i m' σ' => m' (Str.ofString "_law_mode") = some (.int mode t) ∧ ∃ ce tc x tx, m' (Str.ofString "_law_cell") = some (.int ce tc) ∧ m' (Str.ofString "_law_word_here") = some (.str x tx) ∧ Lets x ∧ x.length ≤ 24 ∧ σ' = []) ‹_› r1.hh (by omega) (by omega) ?_ ?_ ?_ ?_
  · exact ⟨by walk_at "m loc", _, _, _, _, by walk_at "m loc", by walk_at "m loc", hx, hl, rfl⟩
  · kernel_rfl!
  · intro E2 i m2 σ2 s2 t2 Hb hi hJ hb S2
    obtain ⟨f1, ce, tc, y, ty, f2, f3, hy, hly, rfl⟩ := hJ
    have hG' := GdH.mono ‹_› hb
    have hz : y.length ≤ sizeLine := by rw [sizeLine_eq]; omega
    walk_at "m"
    refine c_law_letter N' (St.gd ‹_› ‹_›) (r1.less (by omega)) fun c tc s3 hc1 hc2 k3 => ?_
    have S3 := St.kp ‹_› k3
    have q0 := fmod_lo ((ce.fdiv 4 + 11 * (i : Int)).fdiv 3) (b := y.length + 1) (by omega)
    have q1 := fmod_hi ((ce.fdiv 4 + 11 * (i : Int)).fdiv 3) (b := y.length + 1) (by omega)
    generalize hat : ((ce.fdiv 4 + 11 * (i : Int)).fdiv 3).fmod (y.length + 1) = at' at S3 q0 q1
    have l1 := len_up y at' q0
    have l2 := len_lo y at' q0
    have l3 := len_lo y (at' + 1) (by omega)
    walk_at "m all"
    all_goals refine turnK_next ‹_› ⟨by walk_at "m loc", _, _, _, _, by walk_at "m loc", by walk_at "m loc", ?_, ?_, rfl⟩
    all_goals first | with_reducible assumption | ((with_reducible show Lets _); repeat' (first | with_reducible assumption | with_reducible exact Lets.one ⟨hc1, hc2⟩ | with_reducible refine Lets.append ?_ ?_ | with_reducible refine Lets.up hy _ ?_ | with_reducible refine Lets.lo hy _ ?_ | omega)) | (simp only [len_app, len_one]; omega)
  · intro m2 σ2 s2 hJ S2
    obtain ⟨f1, ce, tc, x, tx, f2, f3, hx, hlen, rfl⟩ := hJ
    walk_at "m"
    exact h x _ _ hx (by omega) (St.back ‹St _ _ _ _ m2 _ _›)
end
section
variable {k : Bool} {s₀ s s' : Shared} {H : Addr → Obj → Prop} {L : Addr} {m : Str → Option Value} {σ τ : List (Addr × Obj)}
/-- new objects are owned -/
theorem St.addAll (S : St k s₀ H L m σ s) (kp : Kp s s') (hn : ∀ p ∈ τ, s.heap.get? p.1 = none ∧ s'.heap.get? p.1 = some p.2) (nd : (τ.map (·.1)).Nodup) : St k s₀ H L m (τ ++ σ) s' := by
  have S' := S.kp kp
  refine ⟨S'.same, S'.ns, S'.keep, S'.keepL, fun p hp => ?_, ?_⟩
  · rcases List.mem_append.mp hp with hp | hp
    · have nn := S.notNew (hn p hp).1
      exact ⟨(hn p hp).2, nn.1, nn.2.2⟩
    · exact S'.own p hp
  · rw [List.map_append, List.nodup_append]
    refine ⟨nd, S.nd, fun a ha b hb e => ?_⟩
    subst e
    obtain ⟨p, hp, rfl⟩ := List.mem_map.mp ha
    exact (S.notNew (hn p hp).1).2.1 hb
/-- what is owned at a call's end is new to the caller -/
theorem St.given (S : St k s (fun b o => s.heap.get? b = some o) L m σ s') : (∀ p ∈ σ, s.heap.get? p.1 = none ∧ s'.heap.get? p.1 = some p.2) ∧ (σ.map (·.1)).Nodup :=
  ⟨fun p hp => ⟨S.fresh (a := p.1) (o := p.2) hp, (S.own p hp).1⟩, S.nd⟩
end
theorem nodup_sub_len {α : Type} [BEq α] [LawfulBEq α] : ∀ {l l' : List α}, l.Nodup → (∀ a ∈ l, a ∈ l') → l.length ≤ l'.length
  | [], _, _, _ => Nat.zero_le _
  | a :: l, l', nd, h => by
    rw [List.nodup_cons] at nd
    have ha : a ∈ l' := h a List.mem_cons_self
    have ih := nodup_sub_len (l := l) (l' := l'.erase a) nd.2 fun b hb => by
      have hne : b ≠ a := fun e => nd.1 (e ▸ hb)
      exact (List.mem_erase_of_ne hne).mpr (h b (List.mem_cons_of_mem _ hb))
    rw [List.length_erase_of_mem ha] at ih
    have : 0 < l'.length := List.length_pos_of_mem ha
    simp only [List.length_cons]; omega
def pres (x : List Nat) : List (List Nat) := (List.range (x.length + 1)).map fun j => x.take j
theorem keys_len {ks l : List (List Nat)} (nd : ks.Nodup) (h : ∀ q ∈ ks, Begs (· ∈ l) q) (hl : ∀ v ∈ l, v.length ≤ 24) : ks.length ≤ 1 + 25 * l.length := by
  have h1 := nodup_sub_len (l' := [] :: l.flatMap pres) nd fun q hq => by
    rcases h q hq with rfl | ⟨v, hv, hp⟩
    · exact List.mem_cons_self
    · refine List.mem_cons_of_mem _ (List.mem_flatMap.mpr ⟨v, hv, List.mem_map.mpr ⟨q.length, List.mem_range.mpr (by have := hp.length_le; omega), ?_⟩⟩)
      exact (List.prefix_iff_eq_take.mp hp).symm
  have h2 : ∀ l : List (List Nat), (∀ v ∈ l, v.length ≤ 24) → (l.flatMap pres).length ≤ 25 * l.length := by
    intro l
    induction l with
    | nil => intro _; simp
    | cons v l ih =>
      intro hl
      have := ih fun v hv => hl v (List.mem_cons_of_mem _ hv)
      have h3 := hl v List.mem_cons_self
      have h4 : (pres v).length = v.length + 1 := by simp [pres]
      rw [List.flatMap_cons, List.length_append, List.length_cons]
      omega
  have := h2 l hl
  rw [List.length_cons] at h1
  omega
/-- a list of words -/
def Wds (vs : List Value) : Prop := ∀ v ∈ vs, ∃ x t, v = .str x t ∧ isW x = true
def wl (vs : List Value) : List (List Nat) := vs.map fun v => cl (keyOf v)
theorem Wds.append {vs ws : List Value} (h : Wds vs) (h' : Wds ws) : Wds (vs ++ ws) := fun v hv => (List.mem_append.mp hv).elim (h v) (h' v)
theorem Wds.one {x : Str} {t : Tok} (h : isW x = true) : Wds [.str x t] := fun v hv => ⟨x, t, List.mem_singleton.mp hv, h⟩
theorem Wds.len {vs : List Value} (h : Wds vs) : ∀ q ∈ wl vs, q.length ≤ 24 := fun q hq => by
  obtain ⟨v, hv, rfl⟩ := List.mem_map.mp hq
  obtain ⟨x, t, rfl, hx⟩ := h v hv
  show (cl x).length ≤ 24
  rw [cl_length]; exact ((isW_iff x).mp hx).1
theorem Wds.get {vs : List Value} (h : Wds vs) {i : Int} (h0 : 0 ≤ i) (h1 : i < vs.length) : ∃ v, vs[i.toNat]? = some v ∧ ∃ x t, v = .str x t ∧ isW x = true := ⟨_, List.getElem?_eq_getElem (by omega), h _ (List.getElem_mem _)⟩
theorem lets_of {x : Str} (h : isW x = true) : Lets x := fun c hc => ((isW_iff x).mp h).2 c hc
theorem len_of {x : Str} (h : isW x = true) : x.length ≤ 24 := ((isW_iff x).mp h).1
theorem isW_of {x : Str} (h : Lets x) (h' : x.length ≤ 24) : isW x = true := (isW_iff x).mpr ⟨h', h⟩
theorem value_get {kvs : List (Str × Value)} (hn : (kvs.map (·.1)).Nodup) {key : Str} {v : Value} (h : (key, v) ∈ kvs) : valueAt kvs key = some v := by
  induction kvs with
  | nil => cases h
  | cons x r ih =>
    rw [List.map_cons, List.nodup_cons] at hn
    unfold valueAt
    rw [List.find?_cons]
    rcases List.mem_cons.mp h with rfl | h
    · simp
    · have hne : ¬ x.1 = key := fun e => hn.1 (by rw [e]; exact List.mem_map.mpr ⟨_, h, rfl⟩)
      simp only [hne, decide_false]
      exact ih hn.2 h
theorem value_no {kvs : List (Str × Value)} {key : Str} (h : key ∉ kvs.map (·.1)) : valueAt kvs key = none := by
  unfold valueAt
  rw [Option.map_eq_none_iff, List.find?_eq_none]
  intro x hx
  simp only [decide_eq_true_eq]
  exact fun e => h (by rw [← e]; exact List.mem_map.mpr ⟨x, hx, rfl⟩)
theorem stored_no {kvs : List (Str × Value)} {key : Str} {v : Value} (h : key ∉ kvs.map (·.1)) : stored kvs key v = kvs ++ [(key, v)] := by
  unfold stored
  rw [if_neg]
  intro q
  rw [List.any_eq_true] at q
  obtain ⟨kv, hkv, e⟩ := q
  exact h (by rw [← of_decide_eq_true e]; exact List.mem_map.mpr ⟨kv, hkv, rfl⟩)
/-- the keys of a dict, as lists of letters -/
def ksOf (kvs : List (Str × Value)) : List (List Nat) := kvs.map fun kv => cl kv.1
theorem ksOf_nodup {kvs : List (Str × Value)} (h : (kvs.map (·.1)).Nodup) : (ksOf kvs).Nodup := by
  have e : ksOf kvs = (kvs.map (·.1)).map cl := by simp [ksOf, Function.comp_def]
  rw [e]
  exact List.Pairwise.map cl (fun a b h e => h (ext_cl e)) h
theorem key_mem {kvs : List (Str × Value)} {key : Str} : key ∈ kvs.map (·.1) ↔ cl key ∈ ksOf kvs := by
  constructor
  · intro h
    obtain ⟨kv, hkv, rfl⟩ := List.mem_map.mp h
    exact List.mem_map.mpr ⟨kv, hkv, rfl⟩
  · intro h
    obtain ⟨kv, hkv, e⟩ := List.mem_map.mp h
    exact List.mem_map.mpr ⟨kv, hkv, ext_cl e⟩
theorem begs_add {W : List Nat → Prop} {x q : List Nat} : (Begs W q ∨ q <+: x) ↔ Begs (fun v => W v ∨ v = x) q := by
  constructor
  · rintro (h | h)
    · exact h.mono fun _ => .inl
    · exact .inr ⟨x, .inr rfl, h⟩
  · rintro (rfl | ⟨v, hv | rfl, hp⟩)
    · exact .inl (.inl rfl)
    · exact .inl (.inr ⟨v, hv, hp⟩)
    · exact .inr hp
theorem begs_congr {W W' : List Nat → Prop} (h : ∀ q, W q ↔ W' q) (q : List Nat) : Begs W q ↔ Begs W' q := ⟨fun b => b.mono fun v => (h v).mp, fun b => b.mono fun v => (h v).mpr⟩
section
variable {k : Bool} {prog : Program} {w : World} {A : Around} {E : Value → Shared → Prop} {s₀ s s' : Shared} {H : Addr → Obj → Prop} {L : Addr} {m : Str → Option Value} {σ : List (Addr × Obj)} {env : Env} {Q : Value → Shared → Prop}
theorem e_dict1S {KK : Addr → Obj → Prop} {mg mb : Str → Option Value} {ke ve : Expr} {pos : Pos} (S : St k s₀ H L m σ s) (G : GdH KK mg mb H)
    (h : ∀ D s₁, D ≠ sysModules → St k s₀ H L m ((D, dct0) :: σ) s₁ → wpAny (model prog w) A (eval ke env) (fun kv s₂ => wpAny (model prog w) A (eval ve env) (fun vv s₃ => DictK prog w k s₀ H L Q D kv vv s₃) E s₂) E s₁) :
    wpAny (model prog w) A (eval (.Dict [some ke] [ve] pos) env) Q E s := by
  have hD : s.heap.objs.size ≠ sysModules := by
    obtain ⟨mc, p, _⟩ := (S.gd G).lim
    have := p.lt
    intro e
    rw [e] at this
    exact absurd this (by decide)
  refine wpAny_Dict_walk (knd := PySem.strKind prog w) rfl rfl (by simp) (by simp) ?_
  refine pairTrees_cons_walk (wpAny_mono (h s.heap.objs.size _ hD (S.add (Kp.push s _) (get_size_none _) (Heap.get?_push_size _ rfl))) (fun kv s₂ h₂ => wpAny_mono h₂ (fun vv s₃ h₃ => pairTrees_nil_walk ?_) fun _ _ e => e) fun _ _ e => e)
  obtain ⟨key, t, σ', m', rfl, S', hq⟩ := h₃
  have g := S'.get (a := s.heap.objs.size) (o := dct0) List.mem_cons_self
  refine ⟨[(key, vv)], ⟨by simp [PySem.strKind, Value.isStrOf], rfl, trivial⟩, (Heap.DictOf.new (knd := PySem.strKind prog w) s.heap).at fun o e => ?_, fun h' hd hs => ?_⟩
  · rw [Heap.get?_push_size _ rfl] at e; cases e; exact g
  · obtain ⟨o, ho, hi⟩ := Heap.dictOf_iff.mp hd
    have hm : merged [] [(key, vv)] = [(key, vv)] := by simp [merged, stored]
    rw [hm] at hi
    obtain ⟨es, ep, he, r⟩ := id hi
    exact hq o _ he.1 hi (S'.turn (σ₁ := []) (fun b x hb e => hs.extBut b x hb e) ho)
end
-- up to the next if
local macro_rules | `(tactic| walk_at "m u") => `(tactic| repeat' ((fail_if_success (with_reducible show wpAny _ _ (execs (Stmt.If _ _ _ _ :: _) _) _ _ _)); first | walk_at "m step" | walk_at "m at"))
local macro_rules | `(tactic| walk_at "m exp") => `(tactic| ((with_reducible show wpAny _ _ (eval (Expr.Subscript _ (Expr.Slice (some _) (some _) none _) _) _) _ _ _); (with_reducible rename St _ _ _ _ _ _ _ => hS); with_reducible refine e_slice_two hS ?_))
def IsWd (v : Value) : Prop := ∃ x t, v = .str x t ∧ isW x = true
theorem TOk.congr {w : World} {K K' W W' : List Nat → Prop} {n : Int} {t : TR} {T : Trie} (ok : TOk w K W n t T) (hK : ∀ q, K q ↔ K' q) (hW : ∀ q, W q ↔ W' q) : TOk w K' W' n t T := ⟨ok.inv.congr hK hW, ok.ad, ok.top, fun q hq => ok.lets q ((hK q).mpr hq)⟩
theorem wl_snoc (vs : List Value) (x : Str) (t : Tok) (q : List Nat) : q ∈ wl (vs ++ [.str x t]) ↔ (q ∈ wl vs ∨ q = cl x) := by simp [wl, keyOf]
theorem wl_snoc_eq (vs : List Value) (x : Str) (t : Tok) : wl (vs ++ [.str x t]) = wl vs ++ [cl x] := by simp [wl, keyOf]
theorem Wds.strs {vs : List Value} (h : Wds vs) : ∀ v ∈ vs, ∃ x t, v = .str x t := fun v hv => let ⟨x, t, e, _⟩ := h v hv; ⟨x, t, e⟩
theorem any_key {vs : List Value} {x : Str} : (vs.map keyOf).any (· == x) = decide (cl x ∈ wl vs) := by
  rw [Bool.eq_iff_iff, List.any_eq_true, decide_eq_true_eq]
  constructor
  · rintro ⟨y, hy, e⟩
    obtain ⟨v, hv, rfl⟩ := List.mem_map.mp hy
    exact List.mem_map.mpr ⟨v, hv, by rw [beq_iff_eq.mp e]⟩
  · intro h
    obtain ⟨v, hv, e⟩ := List.mem_map.mp h
    exact ⟨keyOf v, List.mem_map.mpr ⟨v, hv, rfl⟩, beq_iff_eq.mpr (ext_cl e)⟩
theorem split_idx {α : Type} {vs : List α} {j : Nat} {v : α} (hj : vs[j]? = some v) : vs = vs.take j ++ v :: vs.drop (j + 1) ∧ vs.eraseIdx j = vs.take j ++ vs.drop (j + 1) := by
  obtain ⟨hlt, e⟩ := List.getElem?_eq_some_iff.mp hj
  refine ⟨?_, List.eraseIdx_eq_take_drop_succ _ _⟩
  have := List.drop_eq_getElem_cons hlt
  rw [e] at this
  rw [← this, List.take_append_drop]
/-- a word is taken out of a list without doubles -/
theorem erase_wl {vs : List Value} {j : Nat} {x : Str} {u : Tok} (hnd : (wl vs).Nodup) (hj : vs[j]? = some (.str x u)) : (∀ q, q ∈ wl (vs.eraseIdx j) ↔ (q ∈ wl vs ∧ q ≠ cl x)) ∧ (wl (vs.eraseIdx j)).Nodup ∧ ∀ i, i < j → ∀ y t, vs[i]? = some (.str y t) → y ≠ x := by
  obtain ⟨e1, e2⟩ := split_idx hj
  have ew : wl vs = wl (vs.take j) ++ cl x :: wl (vs.drop (j + 1)) := by
    conv => lhs; rw [e1]
    simp only [wl, List.map_append, List.map_cons]; rfl
  have ew2 : wl (vs.eraseIdx j) = wl (vs.take j) ++ wl (vs.drop (j + 1)) := by rw [e2]; simp [wl]
  rw [ew, List.nodup_append, List.nodup_cons] at hnd
  have n1 : cl x ∉ wl (vs.take j) := fun h => hnd.2.2 _ h _ List.mem_cons_self rfl
  refine ⟨fun q => ?_, ?_, fun i hi y t hv e => ?_⟩
  · rw [ew2, ew]
    simp only [List.mem_append, List.mem_cons]
    constructor
    · rintro (h | h)
      · exact ⟨.inl h, fun e => n1 (e ▸ h)⟩
      · exact ⟨.inr (.inr h), fun e => hnd.2.1.1 (e ▸ h)⟩
    · rintro ⟨h | h | h, hne⟩
      · exact .inl h
      · exact absurd h hne
      · exact .inr h
  · rw [ew2, List.nodup_append]
    exact ⟨hnd.1, hnd.2.1.2, fun a ha b hb => hnd.2.2 a ha b (List.mem_cons_of_mem _ hb)⟩
  · subst e
    refine n1 (List.mem_map.mpr ⟨.str y t, List.mem_of_getElem? (i := i) ?_, rfl⟩)
    rw [List.getElem?_take, if_pos hi]; exact hv
theorem ksOf_stored {kvs : List (Str × Value)} {key : Str} {v : Value} (q : List Nat) : q ∈ ksOf (stored kvs key v) ↔ (q ∈ ksOf kvs ∨ q = cl key) := by
  by_cases h : key ∈ kvs.map (·.1)
  · have e : (stored kvs key v).map (·.1) = kvs.map (·.1) := by
      unfold stored
      rw [if_pos]
      · rw [List.map_map]
        apply List.map_congr_left
        intro a _
        show (if _ then _ else _ : Str × Value).1 = a.1
        split
        · rename_i e; first | exact (of_decide_eq_true e).symm | exact of_decide_eq_true e | rfl
        · rfl
      · obtain ⟨kv, hkv, e⟩ := List.mem_map.mp h
        exact List.any_eq_true.mpr ⟨kv, hkv, decide_eq_true e⟩
    have e' : ksOf (stored kvs key v) = ksOf kvs := by
      have := congrArg (List.map cl) e
      simpa [ksOf, Function.comp_def] using this
    rw [e']
    constructor
    · exact .inl
    · rintro (h' | rfl)
      · exact h'
      · exact key_mem.mp h
  · rw [stored_no h]; simp [ksOf]
section
variable {w : World} {A : Around} {E : Value → Shared → Prop} {s : Shared} {mg mb : Str → Option Value} {Q : Value → Shared → Prop} {t : TR} {T : Trie} {ka : Addr} {ks : List Value} {nk : Nat}
theorem c_deed {x : Str} {u ts : Tok} {sort : Int} (N : Nm mg mb) (G : GdH (KK w) mg mb (Hm s ((ka, lst ks nk) :: treeL t T))) (hσ : (∀ p ∈ (ka, lst ks nk) :: treeL t T, s.heap.get? p.1 = some p.2) ∧ (((ka, lst ks nk) :: treeL t T).map (·.1)).Nodup) (r : Rm A 8)
    (hks : Wds ks) (hnd : (wl ks).Nodup) (ok : TOk w (Begs (· ∈ wl ks)) (· ∈ wl ks) (ks.length : Int) t T) (hx : isW x = true) (hlen : ks.length < 100)
    (h : ∀ ks' nk' t' T' s', Wds ks' → (wl ks').Nodup → ks'.length ≤ ks.length + 1 → t'.a = t.a → TOk w (Begs (· ∈ wl ks')) (· ∈ wl ks') (ks'.length : Int) t' T' → Gv s ((ka, lst ks nk) :: treeL t T) ((ka, lst ks' nk') :: treeL t' T') s' → Q (.bool true) s') :
    wpAny (model prg w) A (call (.ref 224) [.ref t.a, .ref ka, .int sort ts, .str x u]) Q E s := by
  refine wpAny_call ?_
  refine' enterM [Str.ofString "_law_tree", Str.ofString "_law_kept", Str.ofString "_law_sort", Str.ofString "_law_word_here"] ((ka, lst ks nk) :: treeL t T) G hσ ?hf ?hcd r ?hb ?hloc ?hcell ?h1 ?h2 ?h3 ?_
  walk_at "m enter"
  intro E' L s' m hm S GH r1
  have e1 : m (Str.ofString "_law_tree") = some (.ref t.a) := by subst hm; rfl
  have e2 : m (Str.ofString "_law_kept") = some (.ref ka) := by subst hm; rfl
  have e3 : m (Str.ofString "_law_sort") = some (.int sort ts) := by subst hm; rfl
  have e4 : m (Str.ofString "_law_word_here") = some (.str x u) := by subst hm; rfl
  clear hm
  have N' := N
  cases N
  have hz : ks.length ≤ sizeLine := by rw [sizeLine_eq]; omega
  have hst := strs_keyOf hks.strs
  obtain ⟨tk, ad⟩ := ok.ad
  have minus : ∀ {b : Bool} {t' : TR} {T' : Trie} (ks' : List Value), (∀ q, q ∈ wl ks' ↔ (q ∈ wl ks ∧ q ≠ cl x)) → TOk w (Begs fun q => q ∈ wl ks ∧ q ≠ cl x) (fun q => q ∈ wl ks ∧ q ≠ cl x) (if b then (ks.length : Int) - 1 else ks.length) t' T' → (if b then (ks.length : Int) - 1 else ks.length) = (ks'.length : Int) → TOk w (Begs (· ∈ wl ks')) (· ∈ wl ks') (ks'.length : Int) t' T' := fun ks' hq ok' e => by
    rw [e] at ok'
    exact ok'.congr (begs_congr fun q => (hq q).symm) fun q => (hq q).symm
  walk_at "m"
  refine split_dec (fun hc => ?_) (fun hc => ?_)
  · -- a word is taken
    walk_at "m"
    refine in_list_strs (isL (St.get ‹_› List.mem_cons_self)) hst ?_
    rw [any_key]
    by_cases hin : cl x ∈ wl ks
    · rw [decide_eq_true hin]
      obtain ⟨v, hv, ev⟩ := List.mem_map.mp hin
      obtain ⟨j, hj⟩ := List.mem_iff_getElem?.mp hv
      obtain ⟨y, ty, rfl, hy⟩ := hks v hv
      obtain rfl : y = x := ext_cl ev
      obtain ⟨hq, hnd', hno⟩ := erase_wl hnd hj
      walk_at "m"
      refine e_remove (by kernel_rfl!) ?_
      walk_at "m"
      refine ⟨ka, ks, nk, rfl, St.get ‹_› List.mem_cons_self, ?_⟩
      walk_at "m"
      have S5 := ‹St true s _ L _ (_ :: _) _›
      refine r_remove (σ₁ := []) S5 hks.strs hz hj hno fun nk' s6 S6 => ?_
      clear S5
      rw [List.nil_append] at S6
      refine x_nil ?_
      refine thenK_next ?_
      refine x_assign ?_
      refine e_meth (K := hd.heap_39 w.params) _ ?_
      walk_at "m"
      have S7 := ‹St true s _ L _ (_ :: _) _›
      refine' MethK.mk S7 ‹_› (plainT w) (S7.get (List.mem_cons_of_mem _ List.mem_cons_self)) (S7.get (List.mem_cons_of_mem _ (List.mem_cons_of_mem _ List.mem_cons_self))) ad ?hno ?hk ?hf ?ht ?_
      (case hno => unfold treeM; rw [upd_other (by decide +kernel) (upd_other (by decide +kernel) rfl)])
      (case hk => first | k_is | kernel_rfl!)
      (case hf => first | k_is | kernel_rfl!)
      (case ht => first | k_is | kernel_rfl!)
      refine' e_first (K := hd.heap_39 w.params) ?hk (S7.gd ‹_›).X ?_
      (case hk => first | k_is | kernel_rfl!)
      clear S7
      walk_at "m"
      refine ⟨(St.gd ‹_› ‹_›).X, ?_⟩
      have S8 := ‹St true s _ L _ (_ :: _) _›
      have S8' := S8.perm (List.perm_append_comm (l₁ := [_]) (l₂ := treeL t T))
      refine c_take N' (S8'.hm ‹_›) S8'.have_ (r1.less (by omega)) ok hx fun b t2 T2 s9 hb eta2 ok2 gv => ?_
      have S9 : St true s _ L _ ((ka, lst (ks.eraseIdx j) nk') :: treeL t2 T2) s9 := (S8'.swap gv).perm List.perm_append_comm
      clear S8 S8'
      obtain rfl := hb.mpr hin
      have hl' : (ks.eraseIdx j).length = ks.length - 1 := by rw [List.length_eraseIdx, if_pos (List.getElem?_eq_some_iff.mp hj).1]
      have hpos : 0 < ks.length := List.length_pos_of_mem hv
      walk_at "m"
      exact h _ nk' t2 T2 _ (fun v hv => hks v (List.mem_of_mem_eraseIdx hv)) hnd' (by omega) eta2 (minus _ hq ok2 (by rw [hl']; simp; omega)) (St.gv ‹_›)
    · rw [decide_eq_false hin]
      have hq : ∀ q, q ∈ wl ks ↔ (q ∈ wl ks ∧ q ≠ cl x) := fun q => ⟨fun h => ⟨h, fun e => hin (e ▸ h)⟩, fun h => h.1⟩
      walk_at "m"
      refine e_meth (K := hd.heap_39 w.params) _ ?_
      walk_at "m"
      have S7 := ‹St true s _ L _ (_ :: _) _›
      refine' MethK.mk S7 ‹_› (plainT w) (S7.get (List.mem_cons_of_mem _ List.mem_cons_self)) (S7.get (List.mem_cons_of_mem _ (List.mem_cons_of_mem _ List.mem_cons_self))) ad ?hno ?hk ?hf ?ht ?_
      (case hno => unfold treeM; rw [upd_other (by decide +kernel) (upd_other (by decide +kernel) rfl)])
      (case hk => first | k_is | kernel_rfl!)
      (case hf => first | k_is | kernel_rfl!)
      (case ht => first | k_is | kernel_rfl!)
      refine' e_first (K := hd.heap_39 w.params) ?hk (S7.gd ‹_›).X ?_
      (case hk => first | k_is | kernel_rfl!)
      clear S7
      walk_at "m"
      refine ⟨(St.gd ‹_› ‹_›).X, ?_⟩
      have S8 := ‹St true s _ L _ (_ :: _) _›
      have S8' := S8.perm (List.perm_append_comm (l₁ := [_]) (l₂ := treeL t T))
      refine c_take N' (S8'.hm ‹_›) S8'.have_ (r1.less (by omega)) ok hx fun b t2 T2 s9 hb eta2 ok2 gv => ?_
      have S9 : St true s _ L _ ((ka, lst ks nk) :: treeL t2 T2) s9 := (S8'.swap gv).perm List.perm_append_comm
      clear S8 S8'
      obtain rfl : b = false := by
        cases b with
        | false => rfl
        | true => exact absurd (hb.mp rfl) hin
      walk_at "m"
      exact h ks nk t2 T2 _ hks hnd (Nat.le_succ _) eta2 (minus ks hq ok2 rfl) (St.gv ‹_›)
  · walk_at "m"
    refine split_dec (fun hc2 => ?_) (fun hc2 => ?_)
    · -- a word is asked
      walk_at "m"
      refine in_list_strs (isL (St.get ‹_› List.mem_cons_self)) hst ?_
      rw [any_key]
      walk_at "m"
      refine e_meth (K := hd.heap_39 w.params) _ ?_
      walk_at "m"
      have S7 := ‹St true s _ L _ (_ :: _) _›
      refine' MethK.mk S7 ‹_› (plainT w) (S7.get (List.mem_cons_of_mem _ List.mem_cons_self)) (S7.get (List.mem_cons_of_mem _ (List.mem_cons_of_mem _ List.mem_cons_self))) ad ?hno ?hk ?hf ?ht ?_
      (case hno => unfold treeM; rw [upd_other (by decide +kernel) (upd_other (by decide +kernel) rfl)])
      (case hk => first | k_is | kernel_rfl!)
      (case hf => first | k_is | kernel_rfl!)
      (case ht => first | k_is | kernel_rfl!)
      refine' e_first (K := hd.heap_39 w.params) ?hk (S7.gd ‹_›).X ?_
      (case hk => first | k_is | kernel_rfl!)
      clear S7
      walk_at "m"
      refine ⟨(St.gd ‹_› ‹_›).X, ?_⟩
      have S8 := ‹St true s _ L _ (_ :: _) _›
      refine c_has N' (S8.gd ‹_›) (r1.less (by omega)) ok (fun q hq => S8.get (List.mem_cons_of_mem _ hq)) hx fun b s9 hb k9 => ?_
      have S9 := S8.kp k9
      clear S8
      obtain rfl : b = decide (cl x ∈ wl ks) := by rw [Bool.eq_iff_iff, decide_eq_true_eq]; exact hb
      walk_at "m"
      rw [beq_self_eq_true]
      exact h ks nk t T _ hks hnd (Nat.le_succ _) rfl ok (St.gv ‹_›)
    · -- a word is put
      walk_at "m"
      refine notin_list_strs (isL (St.get ‹_› List.mem_cons_self)) hst ?_
      rw [any_key]
      have hwn := wl_snoc ks x u
      by_cases hin : cl x ∈ wl ks
      · rw [decide_eq_true hin, Bool.not_true]
        walk_at "m"
        refine e_meth (K := hd.heap_39 w.params) _ ?_
        walk_at "m"
        have S7 := ‹St true s _ L _ (_ :: _) _›
        refine' MethK.mk S7 ‹_› (plainT w) (S7.get (List.mem_cons_of_mem _ List.mem_cons_self)) (S7.get (List.mem_cons_of_mem _ (List.mem_cons_of_mem _ List.mem_cons_self))) ad ?hno ?hk ?hf ?ht ?_
        (case hno => unfold treeM; rw [upd_other (by decide +kernel) (upd_other (by decide +kernel) rfl)])
        (case hk => first | k_is | kernel_rfl!)
        (case hf => first | k_is | kernel_rfl!)
        (case ht => first | k_is | kernel_rfl!)
        refine' e_first (K := hd.heap_39 w.params) ?hk (S7.gd ‹_›).X ?_
        (case hk => first | k_is | kernel_rfl!)
        clear S7
        walk_at "m"
        refine ⟨(St.gd ‹_› ‹_›).X, ?_⟩
        have S8 := ‹St true s _ L _ (_ :: _) _›
        have S8' := S8.perm (List.perm_append_comm (l₁ := [_]) (l₂ := treeL t T))
        refine c_put N' (S8'.hm ‹_›) S8'.have_ (r1.less (by omega)) ok hx (by omega) fun b t2 T2 s9 hb eta2 ok2 gv => ?_
        have S9 : St true s _ L _ ((ka, lst ks nk) :: treeL t2 T2) s9 := (S8'.swap gv).perm List.perm_append_comm
        clear S8 S8'
        obtain rfl : b = false := by
          cases b with
          | false => rfl
          | true => exact absurd hin (hb.mp rfl)
        walk_at "m"
        refine h ks nk t2 T2 _ hks hnd (Nat.le_succ _) eta2 (TOk.congr ok2 (fun q => ?_) fun q => ?_) (St.gv ‹_›)
        · rw [begs_add]
          exact begs_congr (fun v => ⟨fun h => h.elim id fun e => e ▸ hin, .inl⟩) q
        · exact ⟨fun h => h.elim id fun e => e ▸ hin, .inl⟩
      · rw [decide_eq_false hin, Bool.not_false]
        walk_at "m"
        refine e_meth (K := hd.heap_39 w.params) _ ?_
        walk_at "m"
        have S7 := ‹St true s _ L _ (_ :: _) _›
        refine' MethK.mk S7 ‹_› (plainT w) (S7.get (List.mem_cons_of_mem _ List.mem_cons_self)) (S7.get (List.mem_cons_of_mem _ (List.mem_cons_of_mem _ List.mem_cons_self))) ad ?hno ?hk ?hf ?ht ?_
        (case hno => unfold treeM; rw [upd_other (by decide +kernel) (upd_other (by decide +kernel) rfl)])
        (case hk => first | k_is | kernel_rfl!)
        (case hf => first | k_is | kernel_rfl!)
        (case ht => first | k_is | kernel_rfl!)
        refine' e_first (K := hd.heap_39 w.params) ?hk (S7.gd ‹_›).X ?_
        (case hk => first | k_is | kernel_rfl!)
        clear S7
        walk_at "m"
        refine ⟨(St.gd ‹_› ‹_›).X, ?_⟩
        have S8 := ‹St true s _ L _ (_ :: _) _›
        have S8' := S8.perm (List.perm_append_comm (l₁ := [_]) (l₂ := treeL t T))
        refine c_put N' (S8'.hm ‹_›) S8'.have_ (r1.less (by omega)) ok hx (by omega) fun b t2 T2 s9 hb eta2 ok2 gv => ?_
        have S9 : St true s _ L _ ((ka, lst (ks ++ [.str x u]) (nk + 1)) :: treeL t2 T2) s9 := (S8'.swap gv).perm List.perm_append_comm
        clear S8 S8'
        obtain rfl := hb.mpr hin
        walk_at "m"
        refine h (ks ++ [.str x u]) (nk + 1) t2 T2 _ (hks.append (Wds.one hx)) ?_ (by simp) eta2 (TOk.congr (by simpa using ok2) (fun q => ?_) fun q => (hwn q).symm) (St.gv ‹_›)
        · rw [wl_snoc_eq, List.nodup_append]
          exact ⟨hnd, by simp, fun a ha b hb e => hin (by rw [← List.mem_singleton.mp hb, ← e]; exact ha)⟩
        · rw [begs_add]
          exact begs_congr (fun v => (hwn v).symm) q
theorem c_law_beginnings (N : Nm mg mb) (G : Gd (KK w) mg mb s.heap) (r : Rm A 2) (hw : s.heap.get? ka = some (lst ks nk)) (hvs : Wds ks) (hlen : ks.length ≤ 100)
    (h : ∀ (ksl : List (List Nat)) tk s', ksl.Nodup → (∀ q, q ∈ ksl ↔ Begs (· ∈ wl ks) q) → Kp s s' → Q (.int (ksl.length : Int) tk) s') : wpAny (model prg w) A (call (.ref 231) [.ref ka]) Q E s := by
  refine' enterK [Str.ofString "_law_kept"] G ?hf ?hcd r ?hb ?hloc ?hcell ?h1 ?h2 ?h3 ?_
  walk_at "m enter"
  intro E' L s' m hm hL S GH r1
  have e1 : m (Str.ofString "_law_kept") = some (.ref ka) := by subst hm; rfl
  clear hm hL
  have N' := N
  cases N
  refine x_assign ?_
  refine e_dict1S S GH fun D s1 hD S1 => ?_
  clear S
  walk_at "m"
  have hdo := ‹Obj.IsDictOf (PySem.strKind prg w) _ [(Str.ofString "", Value.bool true)]›
  refine x_for ?_
  walk_at "m"
  have hlenK : ∀ kvs : List (Str × Value), (kvs.map (·.1)).Nodup → (∀ q ∈ ksOf kvs, Begs (· ∈ wl ks) q) → kvs.length ≤ sizeLine := fun kvs nd hq => by
    have := keys_len (ksOf_nodup nd) hq hvs.len
    simp only [ksOf, wl, List.length_map] at this
    rw [sizeLine_eq]; omega
  refine for_list (J := fun i m' σ' => m' (Str.ofString "_law_found") = some (.ref D) ∧ ∃ o kvs, DS prg w o kvs ∧ σ' = [(D, o)] ∧ (∀ q, q ∈ ksOf kvs ↔ Begs (· ∈ wl (ks.take i)) q)) ‹_› hw r1.hh ?_ ?_ ?_ ?_
  · refine ⟨by walk_at "m loc", _, _, hdo, rfl, fun q => ?_⟩
    show q ∈ [([] : List Nat)] ↔ _
    rw [List.mem_singleton]
    constructor
    · exact .inl
    · rintro (e | ⟨v, hv, _⟩)
      · exact e
      · simp [wl] at hv
  · kernel_rfl!
  · clear hdo
    intro E2 i m2 σ2 s5 xv Hb hi hv hJ hbb S5
    obtain ⟨f2, o, kvs, hdo, rfl, hks⟩ := hJ
    have hG' := GdH.mono ‹GdH _ mg mb _› hbb
    obtain ⟨y, ty, rfl, hy⟩ := hvs xv (List.mem_of_getElem? hv)
    have hly := len_of hy
    have hzy : y.length ≤ sizeLine := by rw [sizeLine_eq]; omega
    have hwi : ∀ q, q ∈ wl (ks.take (i + 1)) ↔ (q ∈ wl (ks.take i) ∨ q = cl y) := fun q => by
      rw [List.take_add_one, hv]
      simp [wl, keyOf]
    have hsub : ∀ q, Begs (· ∈ wl (ks.take (i + 1))) q → Begs (· ∈ wl ks) q := fun q b => b.mono fun v hv => by
      obtain ⟨u, hu, rfl⟩ := List.mem_map.mp hv
      exact List.mem_map.mpr ⟨u, List.mem_of_mem_take hu, rfl⟩
    refine x_for ?_
    walk_at "m"
    refine for_range (J := fun j m' σ' => m' (Str.ofString "_law_found") = some (.ref D) ∧ m' (Str.ofString "_law_word_here") = some (.str y ty) ∧ ∃ o kvs, DS prg w o kvs ∧ σ' = [(D, o)] ∧ (∀ q, q ∈ ksOf kvs ↔ (Begs (· ∈ wl (ks.take i)) q ∨ q <+: (cl y).take j))) ‹_› r1.hh (by omega) (by omega) ?_ ?_ ?_ ?_
    · refine ⟨by walk_at "m loc", by walk_at "m loc", o, kvs, hdo, rfl, fun q => ?_⟩
      rw [hks q, List.take_zero, List.prefix_nil]
      exact ⟨.inl, fun h => h.elim id .inl⟩
    · kernel_rfl!
    · clear hdo hks
      intro E3 j m3 σ3 s6 tj Hc hj hJ hcc S6
      obtain ⟨f4, f5, o, kvs, hdo, rfl, hks⟩ := hJ
      have hG'' := GdH.mono ‹GdH _ mg mb Hb› hcc
      have hj' : j < y.length := by omega
      obtain ⟨_, _, _, _, _, _, hnd⟩ := id hdo
      obtain ⟨c, hc⟩ : ∃ c, (cl y)[j]? = some c := ⟨(cl y)[j]'(by rw [cl_length]; exact hj'), by simp⟩
      have et : (cl y).take (j + 1) = (cl y).take j ++ [c] := by rw [List.take_add_one, hc]; rfl
      have hk1 : cl (sl y none (some ((j : Int) + 1))) = (cl y).take (j + 1) := sl_take y _ (by omega)
      have hinb : ∀ q ∈ ksOf kvs, Begs (· ∈ wl ks) q := fun q hq => hsub q (by
        rcases (hks q).mp hq with b | b
        · exact b.mono fun v hv => (hwi v).mpr (.inl hv)
        · exact .inr ⟨cl y, (hwi _).mpr (.inr rfl), b.trans (List.take_prefix _ _)⟩)
      have hlk := hlenK kvs hnd hinb
      walk_at "m"
      have S7 := ‹St true s Hc L _ [_] _›
      refine r_setitem (σ₁ := []) S7 hdo hlk fun o' s14 hdo' S14 => ?_
      clear S7
      rw [List.nil_append] at S14
      walk_at "m"
      refine turnK_next ‹_› ⟨by walk_at "m loc", by walk_at "m loc", o', _, hdo', rfl, fun q => ?_⟩
      rw [ksOf_stored, hks q, hk1, et, prefix_concat]
      constructor
      · rintro ((b | b) | b)
        · exact .inl b
        · exact .inr (.inr b)
        · exact .inr (.inl b)
      · rintro (b | b | b)
        · exact .inl (.inl b)
        · exact .inr b
        · exact .inl (.inr b)
    · intro m3 σ3 s6 hJ S6
      obtain ⟨f4, f5, o, kvs, hdo, rfl, hks⟩ := hJ
      walk_at "m"
      refine turnK_next ‹St _ _ _ _ m3 _ _› ⟨f4, o, kvs, hdo, rfl, fun q => ?_⟩
      rw [hks q]
      rw [show ((y.length : Int)).toNat = (cl y).length by rw [cl_length]; omega, List.take_length, begs_add]
      exact (begs_congr hwi q).symm
  · intro m2 σ2 s5 hJ S5
    obtain ⟨f2, o, kvs, hdo, rfl, hks⟩ := hJ
    rw [List.take_length] at hks
    obtain ⟨_, _, _, _, _, _, hnd⟩ := id hdo
    walk_at "m"
    have S6 := ‹St true s _ L m2 [_] _›
    refine r_len_dict S6 hD (S6.get List.mem_cons_self) hdo (hlenK kvs hnd fun q hq => (hks q).mp hq) fun tk s7 S7 => ?_
    clear S6
    walk_at "m"
    have e : (kvs.length : Int) = ((ksOf kvs).length : Int) := by simp [ksOf]
    rw [e]
    exact h (ksOf kvs) _ _ (ksOf_nodup hnd) hks (St.back ‹St true s _ L m2 _ _›)
end
theorem same_strs {ss ss' : List Str} (h : (ss.map cl).Pairwise Lt) (h' : (ss'.map cl).Pairwise Lt) (hm : ∀ q, q ∈ ss.map cl ↔ q ∈ ss'.map cl) : ss' = ss := by
  have e := rising_eq h h' hm
  clear h h' hm
  induction ss generalizing ss' with
  | nil => cases ss' with
    | nil => rfl
    | cons y ss' => simp at e
  | cons x ss ih => cases ss' with
    | nil => simp at e
    | cons y ss' =>
      rw [List.map_cons, List.map_cons, List.cons.injEq] at e
      rw [ih e.2, ext_cl e.1]
theorem strs_filter {vs : List Value} {ss : List Str} (p : Str → Bool) (h : StrsAre vs ss) : StrsAre (vs.filter fun v => p (keyOf v)) (ss.filter p) := by
  induction h with
  | nil => exact .nil
  | cons y t _ ih =>
    rw [List.filter_cons, List.filter_cons]
    show StrsAre (if p y = true then _ else _) (if p y = true then _ else _)
    split
    · exact .cons y t ih
    · exact ih
section
variable {prog : Program} {w : World} {A : Around} {E : Value → Shared → Prop} {s₀ s : Shared} {H : Addr → Obj → Prop} {L : Addr} {k : Bool} {m : Str → Option Value} {σ : List (Addr × Obj)} {env : Env} {KK : Addr → Obj → Prop} {mg mb : Str → Option Value} {Q : Value → Shared → Prop}
theorem e_t2 {x : Str} {T : String} {p pos : Pos} {e1 e2 : Expr} (S : St k s₀ H L m σ s) (G : GdH KK mg mb H) (hn : mg x = none) (hv : mb x = some (.type T))
    (hc : (env.scope.kind == .function && env.scope.names.lookup x == some .globalImplicit && !(x == ("__debug__" : Str))) = true)
    (h : wpAny (model prog w) A (eval e1 env) (fun v s₁ => wpAny (model prog w) A (eval e2 env) (fun v' s₂ => wpAny (model prog w) A (call (.type T) [v, v']) Q E s₂) E s₁) E s)
    (hs : backTo pos (starEach [e1, e2] env) = [(false, eval e1 env), (false, eval e2 env)] := by with_unfolding_all rfl) (hg : env.globals = mainGlobals := by with_unfolding_all rfl) (hb : env.builtins = builtinsNs := by with_unfolding_all rfl) :
    wpAny (model prog w) A (eval (.Call (.Name x p) [e1, e2] [] pos) env) Q E s := by
  refine wpAny_Call_NameR (r_blt S G hn hv ?_ hc hg hb)
  rw [hs]
  first | exact PySem.callWith_type rfl (Calls.evalArgs_plain (Calls.spliced_cons (wpAny_mono h (fun v s₁ h₁ => Calls.spliced_cons (wpAny_mono h₁ (fun v' s₂ h₂ => Calls.spliced_nil h₂) fun _ _ e => e)) fun _ _ e => e))) | exact PyProof.Rows.callWith_type rfl (Calls.evalArgs_plain (Calls.spliced_cons (wpAny_mono h (fun v s₁ h₁ => Calls.spliced_cons (wpAny_mono h₁ (fun v' s₂ h₂ => Calls.spliced_nil h₂) fun _ _ e => e)) fun _ _ e => e)))
end
section
variable {w : World} {A : Around} {E : Value → Shared → Prop} {s : Shared} {mg mb : Str → Option Value} {Q : Value → Shared → Prop} {t : TR} {T : Trie} {ka : Addr} {ks : List Value} {nk : Nat} {n : Int}
theorem c_stands {x : Str} {u : Tok} (N : Nm mg mb) (G : Gd (KK w) mg mb s.heap) (r : Rm A 30) (hks : Wds ks) (hnd : (wl ks).Nodup) (hlen : ks.length < 64) (ok : TOk w (Begs (· ∈ wl ks)) (· ∈ wl ks) n t T) (hT : ∀ q ∈ treeL t T, s.heap.get? q.1 = some q.2) (hk : s.heap.get? ka = some (lst ks nk)) (hx : isW x = true)
    (h : ∀ s', Kp s s' → Q (.bool true) s') : wpAny (model prg w) A (call (.ref 236) [.ref t.a, .ref ka, .str x u]) Q E s := by
  refine' enterC [Str.ofString "_law_tree", Str.ofString "_law_kept", Str.ofString "_law_begin"] G ?hf ?hcd r ?hb ?hloc ?hnd ?h1 ?h2 ?h3 ?_
  (case hf => k_is); (case hcd => k_is); (case hb => rfl)
  (case hloc => intro L; kernel_rfl!)
  (case hnd => decide +kernel)
  (case h1 => rfl); (case h2 => rfl); (case h3 => rfl)
  intro E' L s' m cm σ hm hcm hσ S GH r1
  have e1 : m (Str.ofString "_law_tree") = some (.ref t.a) := by subst hm; rfl
  have e2 : m (Str.ofString "_law_kept") = some (.ref ka) := by subst hm; rfl
  have d0 : cm (Str.ofString "_law_begin") = some (.str x u) := by subst hcm; rfl
  obtain ⟨o1, σ1, rfl, g1, rfl⟩ := hσ
  clear hm hcm
  have N' := N
  cases N
  rw [d0] at g1
  obtain ⟨tk, ad⟩ := ok.ad
  have hTt := hT
  have hTl : T.length ≤ sizeLine := by
    have := keys_len ok.inv.nd (fun q hq => (ok.inv.keys q).mp hq) hks.len
    simp only [wl, List.length_map] at this
    rw [sizeLine_eq]; omega
  walk_at "m"
  have S1 := ‹St true s _ L _ [_] _›
  refine r_sorted S1 (isL (S1.keep _ _ hk)) (strs_keyOf hks.strs) hlen fun Dd dv dss dc s2 hds hperm hsorted hnDd S2 => ?_
  clear S1
  have hpw : (dss.map cl).Perm (wl ks) := by
    have := hperm.map cl
    simpa [wl, Function.comp_def] using this
  have hdpw := rising_of (hpw.nodup_iff.mpr hnd) (sorted_strs_pw hsorted)
  have hdm : ∀ q, q ∈ dss.map cl ↔ q ∈ wl ks := fun q => hpw.mem_iff
  have hdl : dv.length = ks.length := by rw [hds.length, hperm.length_eq, List.length_map]
  have hzd : dv.length ≤ sizeLine := by rw [sizeLine_eq]; omega
  walk_at "m"
  refine' x_assign_comp (s₀ := s) (H := fun b o => s.heap.get? b = some o) (L := L) (cl := ?cl) (fun i ys τ => τ = [] ∧ ys = (dv.take i).filter fun v => (cl x).isPrefixOf (cl (keyOf v))) ?hsw ?hclos ?hcell ?hkind ?hnames ?hx ?hcc ?h0 ?hsz ?_
  (case hsw => with_unfolding_all rfl)
  (case hclos => with_unfolding_all rfl)
  (case hcell => kernel_rfl!)
  (case hkind => rfl)
  (case hnames => kernel_rfl!)
  (case hx => kernel_rfl!)
  (case hcc => kernel_rfl!)
  (case h0 => exact ⟨rfl, rfl⟩)
  (case hsz =>
    rintro i' ys τ ⟨_, rfl⟩
    have h1 := List.length_filter_le (fun v => (cl x).isPrefixOf (cl (keyOf v))) (dv.take i')
    have h2 := List.length_take_le' i' dv
    omega)
  walk_at "m"
  have SS := ‹St true s _ L _ [_, _] _›
  have hgc := SS.get (List.mem_cons_of_mem _ List.mem_cons_self)
  refine ⟨Dd, dv, _, _, rfl, r1.hh, isL (SS.get List.mem_cons_self), SS, ?_, ?_⟩
  · rintro E3 C D i2 m3 ys c τ s18 v Hc hi2 ⟨rfl, rfl⟩ hv2 hb2 S18
    have hgc2 := hb2 _ _ hgc
    obtain ⟨q, tq, rfl, hq⟩ := hds.item i2 v hv2
    have htk : dv.take (i2 + 1) = dv.take i2 ++ [.str q tq] := by rw [List.take_add_one, hv2]; rfl
    clear SS hgc
    refine wpAny_tests_one ?_
    refine PyProof.Rows.isTrue_plain ?_
    refine e_starts (by kernel_rfl!) ?_
    walk_at "m"
    refine ⟨q, tq, rfl, ?_⟩
    walk_at "m"
    refine ⟨x, u, rfl, ?_⟩
    walk_at "m"
    cases hp : (cl x).isPrefixOf (cl q) with
    | true =>
      walk_at "m"
      exact ⟨_, [], ‹_›, rfl, by rw [htk, List.filter_append, List.filter_cons_of_pos (by exact hp)]; rfl⟩
    | false =>
      walk_at "m"
      exact ⟨_, [], ‹_›, rfl, by rw [htk, List.filter_append, List.filter_cons_of_neg (by show ¬ ((cl x).isPrefixOf (cl q) = true); rw [hp]; decide)]; exact (List.append_nil _).symm⟩
  · rintro Db bl bc τ s3 σ' ⟨rfl, hbl⟩ rfl S3 s4 S4
    rw [List.take_length] at hbl
    have hbs := strs_filter (fun y => (cl x).isPrefixOf (cl y)) hds
    rw [← hbl] at hbs
    obtain ⟨bss, hbss⟩ : ∃ bss, bss = dss.filter fun y => (cl x).isPrefixOf (cl y) := ⟨_, rfl⟩
    rw [← hbss] at hbs
    have hbpw : (bss.map cl).Pairwise Lt := hdpw.sublist (by rw [hbss]; exact (List.filter_sublist ..).map cl)
    have hbm : ∀ q, q ∈ bss.map cl ↔ (q ∈ wl ks ∧ cl x <+: q) := fun q => by
      rw [← hdm q, hbss, List.mem_map, List.mem_map]
      constructor
      · rintro ⟨y, hy, rfl⟩
        have hy' := List.mem_filter.mp hy
        exact ⟨⟨y, hy'.1, rfl⟩, List.isPrefixOf_iff_prefix.mp hy'.2⟩
      · rintro ⟨⟨y, hy, rfl⟩, hp⟩
        exact ⟨y, List.mem_filter.mpr ⟨hy, List.isPrefixOf_iff_prefix.mpr hp⟩, rfl⟩
    have hbl' : bl.length ≤ dv.length := by rw [hbl]; exact List.length_filter_le _ _
    clear S3 SS hgc hbl
    rw [List.cons_append, List.nil_append] at S4
    walk_at "m"
    refine e_meth (K := hd.heap_39 w.params) _ ?_
    walk_at "m"
    have S7 := ‹St true s _ L _ (_ :: _) _›
    refine' MethK.mk S7 ‹_› (plainT w) (S7.keep _ _ (hTt _ List.mem_cons_self)) (S7.keep _ _ (hTt _ (List.mem_cons_of_mem _ List.mem_cons_self))) ad ?hno ?hk ?hf ?ht ?_
    (case hno => unfold treeM; rw [upd_other (by decide +kernel) (upd_other (by decide +kernel) rfl)])
    (case hk => first | k_is | kernel_rfl!)
    (case hf => first | k_is | kernel_rfl!)
    (case ht => first | k_is | kernel_rfl!)
    refine' e_first0 (K := hd.heap_39 w.params) ?hk (S7.gd ‹_›).X ?_
    (case hk => first | k_is | kernel_rfl!)
    show wpAny _ _ (call _ [.ref t.a]) _ _ _
    refine c_words N' (S7.gd ‹_›) (r1.less (by omega)) ok (fun q hq => S7.keep _ _ (hTt q hq)) hTl fun D0 u0 ss0 n0 s0' hu0 hpw0 hm0 hn0 k0 hg0 => ?_
    obtain rfl := same_strs hpw0 hdpw fun q => (hm0 q).trans (hdm q).symm
    have S0 := S7.add k0 hn0 hg0
    clear S7
    walk_at "m"
    refine e_meth (K := hd.heap_39 w.params) _ ?_
    walk_at "m"
    have S7 := ‹St true s _ L _ (_ :: _) _›
    refine' MethK.mk S7 ‹_› (plainT w) (S7.keep _ _ (hTt _ List.mem_cons_self)) (S7.keep _ _ (hTt _ (List.mem_cons_of_mem _ List.mem_cons_self))) ad ?hno ?hk ?hf ?ht ?_
    (case hno => unfold treeM; rw [upd_other (by decide +kernel) (upd_other (by decide +kernel) rfl)])
    (case hk => first | k_is | kernel_rfl!)
    (case hf => first | k_is | kernel_rfl!)
    (case ht => first | k_is | kernel_rfl!)
    refine' e_first (K := hd.heap_39 w.params) ?hk (S7.gd ‹_›).X ?_
    (case hk => first | k_is | kernel_rfl!)
    clear S7
    walk_at "m"
    refine ⟨(St.gd ‹_› ‹_›).X, ?_⟩
    have S8 := ‹St true s _ L _ (_ :: _) _›
    refine c_begun N' (S8.gd ‹_›) (r1.less (by omega)) ok (fun q hq => S8.keep _ _ (hTt q hq)) hTl hx fun D1 u1 ss1 n1 s1' hu1 hpw1 hm1 hn1 k1 hg1 => ?_
    obtain rfl := same_strs hpw1 hbpw fun q => (hm1 q).trans (hbm q).symm
    have S1 := S8.add k1 hn1 hg1
    clear S8
    walk_at "m"
    refine e_meth (K := hd.heap_39 w.params) _ ?_
    walk_at "m"
    have S7 := ‹St true s _ L _ (_ :: _) _›
    refine' MethK.mk S7 ‹_› (plainT w) (S7.keep _ _ (hTt _ List.mem_cons_self)) (S7.keep _ _ (hTt _ (List.mem_cons_of_mem _ List.mem_cons_self))) ad ?hno ?hk ?hf ?ht ?_
    (case hno => unfold treeM; rw [upd_other (by decide +kernel) (upd_other (by decide +kernel) rfl)])
    (case hk => first | k_is | kernel_rfl!)
    (case hf => first | k_is | kernel_rfl!)
    (case ht => first | k_is | kernel_rfl!)
    refine' e_first (K := hd.heap_39 w.params) ?hk (S7.gd ‹_›).X ?_
    (case hk => first | k_is | kernel_rfl!)
    clear S7
    walk_at "m"
    refine ⟨(St.gd ‹_› ‹_›).X, ?_⟩
    have S8 := ‹St true s _ L _ (_ :: _) _›
    refine c_begun N' (S8.gd ‹_›) (r1.less (by omega)) ok (fun q hq => S8.keep _ _ (hTt q hq)) hTl hx fun D2 u2 ss2 n2 s2' hu2 hpw2 hm2 hn2 k2 hg2 => ?_
    obtain rfl := same_strs hpw2 hbpw fun q => (hm2 q).trans (hbm q).symm
    have S2 := S8.add k2 hn2 hg2
    clear S8
    walk_at "m"
    refine e_meth (K := hd.heap_39 w.params) _ ?_
    walk_at "m"
    have S7 := ‹St true s _ L _ (_ :: _) _›
    refine' MethK.mk S7 ‹_› (plainT w) (S7.keep _ _ (hTt _ List.mem_cons_self)) (S7.keep _ _ (hTt _ (List.mem_cons_of_mem _ List.mem_cons_self))) ad ?hno ?hk ?hf ?ht ?_
    (case hno => unfold treeM; rw [upd_other (by decide +kernel) (upd_other (by decide +kernel) rfl)])
    (case hk => first | k_is | kernel_rfl!)
    (case hf => first | k_is | kernel_rfl!)
    (case ht => first | k_is | kernel_rfl!)
    refine' e_first0 (K := hd.heap_39 w.params) ?hk (S7.gd ‹_›).X ?_
    (case hk => first | k_is | kernel_rfl!)
    show wpAny _ _ (call _ [.ref t.a]) _ _ _
    refine c_words N' (S7.gd ‹_›) (r1.less (by omega)) ok (fun q hq => S7.keep _ _ (hTt q hq)) hTl fun D3 u3 ss3 n3 s3' hu3 hpw3 hm3 hn3 k3 hg3 => ?_
    obtain rfl := same_strs hpw3 hdpw fun q => (hm3 q).trans (hdm q).symm
    have S3 := S7.add k3 hn3 hg3
    clear S7
    walk_at "m"
    rename_i F _ _ _ S9
    have hl0 : u0.length ≤ sizeLine := by rw [hu0.length, ← hds.length]; exact hzd
    have hl1 : u1.length ≤ sizeLine := by rw [hu1.length, ← hbs.length]; omega
    refine x_for ?_
    refine e_t2 S9 ‹_› (by assumption) (by assumption) (by kernel_rfl!) ?_
    walk_at "m"
    rename_i Wl _ _ S10
    have S11 := St.freeze (σ₁ := []) S10
    rw [List.nil_append] at S11
    have S12 := St.freeze (σ₁ := []) S11
    rw [List.nil_append] at S12
    clear S10 S11
    obtain ⟨H12, hH12⟩ : ∃ H12 : Addr → Obj → Prop, H12 = fun b y => (s.heap.get? b = some y ∨ (b = Wl ∧ y = lst [.ref Dd, .ref Db, .ref Db, .ref Dd] 0)) ∨ (b = F ∧ y = lst [.ref D0, .ref D1, .ref D2, .ref D3] 0) := ⟨_, rfl⟩
    rw [← hH12] at S12
    have hup : ∀ b o, s.heap.get? b = some o → H12 b o := fun b o e => by rw [hH12]; exact .inl (.inl e)
    have hHF : H12 F (lst [.ref D0, .ref D1, .ref D2, .ref D3] 0) := by rw [hH12]; exact .inr ⟨rfl, rfl⟩
    have hHW : H12 Wl (lst [.ref Dd, .ref Db, .ref Db, .ref Dd] 0) := by rw [hH12]; exact .inl (.inr ⟨rfl, rfl⟩)
    have hG12 : GdH (KK w) mg mb H12 := GdH.mono ‹GdH _ mg mb _› hup
    have hTt : ∀ q ∈ treeL t T, H12 q.1 q.2 := fun q hq => hup _ _ (hT q hq)
    have hkk : H12 ka (lst ks nk) := hup _ _ hk
    clear hH12
    obtain ⟨ρ, hρ⟩ : ∃ ρ, ρ = [(D3, lst u3 n3), (D2, lst u2 n2), (D1, lst u1 n1), (D0, lst u0 n0), (Db, lst bl bc), (Dd, lst dv dc), (L + 1, o1)] := ⟨_, rfl⟩
    have S12' : St true s H12 L _ ρ _ := S12.sig hρ.symm
    clear S12
    have pairs : ∀ (i : Nat) (v v' : Value), [Value.ref D0, .ref D1, .ref D2, .ref D3][i]? = some v → [Value.ref Dd, .ref Db, .ref Db, .ref Dd][i]? = some v' → ∃ a va na b vb nb ss, v = .ref a ∧ v' = .ref b ∧ (a, lst va na) ∈ ρ ∧ (b, lst vb nb) ∈ ρ ∧ StrsAre va ss ∧ StrsAre vb ss := fun i v v' h1 h2 => by
      rcases i with _ | _ | _ | _ | i
      · cases h1; cases h2; exact ⟨D0, u0, n0, Dd, dv, dc, _, rfl, rfl, by rw [hρ]; simp, by rw [hρ]; simp, hu0, hds⟩
      · cases h1; cases h2; exact ⟨D1, u1, n1, Db, bl, bc, _, rfl, rfl, by rw [hρ]; simp, by rw [hρ]; simp, hu1, hbs⟩
      · cases h1; cases h2; exact ⟨D2, u2, n2, Db, bl, bc, _, rfl, rfl, by rw [hρ]; simp, by rw [hρ]; simp, hu2, hbs⟩
      · cases h1; cases h2; exact ⟨D3, u3, n3, Dd, dv, dc, _, rfl, rfl, by rw [hρ]; simp, by rw [hρ]; simp, hu3, hds⟩
      · cases h1
    refine for_zip (J := fun i m' σ' => σ' = ρ ∧ m' (Str.ofString "_law_tree") = some (.ref t.a) ∧ m' (Str.ofString "_law_kept") = some (.ref ka) ∧ m' (Str.ofString "_law_due") = some (.ref Dd) ∧ m' (Str.ofString "_law_below") = some (.ref Db) ∧ m' (Str.ofString "_law_found") = some (.ref F)) S12' hHF hHW rfl r1.hh ?_ ?_ ?_ ?_
    · exact ⟨rfl, by walk_at "m loc", by walk_at "m loc", by walk_at "m loc", by walk_at "m loc", by walk_at "m loc"⟩
    · kernel_rfl!
    · intro E2 i m2 σ2 s13 v v' Hb hi hv hv' hJ hbb S13
      obtain ⟨rfl, f1, f2, f3, f4, f5⟩ := hJ
      obtain ⟨a, va, na, b, vb, nb, ss, rfl, rfl, ha, hb, sa, sb⟩ := pairs i v v' hv hv'
      have hG13 := GdH.mono hG12 hbb
      clear S12'
      walk_at "m"
      have S14 := ‹St true s Hb L _ _ _›
      refine r_ne_strs (isL (St.get S14 ha)) (isL (St.get S14 hb)) sa sb r1.line ?_
      walk_at "m"
      exact turnK_next ‹_› ⟨rfl, by walk_at "m loc", by walk_at "m loc", by walk_at "m loc", by walk_at "m loc", by walk_at "m loc"⟩
    · intro m2 σ2 s13 hJ S13
      obtain ⟨rfl, f1, f2, f3, f4, f5⟩ := hJ
      clear S12'
      have S14 := S13.sig hρ
      clear S13
      walk_at "m"
      refine e_appendE (by kernel_rfl!) ?_
      walk_at "m"
      refine r_item_list (isL (St.keep ‹_› _ _ hHF)) (by omega) (by show 4 ≤ sizeLine; decide) (by rfl) ?_
      refine ⟨D0, u0, n0, rfl, St.get ‹_› (List.mem_cons_of_mem _ (List.mem_cons_of_mem _ (List.mem_cons_of_mem _ List.mem_cons_self))), ?_⟩
      walk_at "m"
      have S15 := ‹St true s H12 L _ (_ :: _) _›
      refine r_append (σ₁ := [_, _, _]) S15 hl0 fun s16 S16 => ?_
      clear S15
      simp only [List.cons_append, List.nil_append] at S16
      walk_at "m"
      refine e_appendE (by kernel_rfl!) ?_
      walk_at "m"
      refine r_item_list (isL (St.keep ‹_› _ _ hHF)) (by omega) (by show 4 ≤ sizeLine; decide) (by rfl) ?_
      refine ⟨D1, u1, n1, rfl, St.get ‹_› (List.mem_cons_of_mem _ (List.mem_cons_of_mem _ List.mem_cons_self)), ?_⟩
      walk_at "m"
      have S15 := ‹St true s H12 L _ (_ :: _) _›
      refine r_append (σ₁ := [_, _]) S15 hl1 fun s17 S17 => ?_
      clear S15
      simp only [List.cons_append, List.nil_append] at S17
      walk_at "m"
      refine r_item_list (isL (St.keep ‹_› _ _ hHF)) (by omega) (by show 4 ≤ sizeLine; decide) (by rfl) ?_
      walk_at "m"
      refine r_ne_strs (isL (St.get ‹_› (List.mem_cons_of_mem _ List.mem_cons_self))) (isL (St.get ‹_› (List.mem_cons_of_mem _ (List.mem_cons_of_mem _ (List.mem_cons_of_mem _ (List.mem_cons_of_mem _ List.mem_cons_self)))))) hu2 hbs r1.line ?_
      walk_at "m"
      refine r_item_list (isL (St.keep ‹_› _ _ hHF)) (by omega) (by show 4 ≤ sizeLine; decide) (by rfl) ?_
      walk_at "m"
      refine r_ne_strs (isL (St.get ‹_› List.mem_cons_self)) (isL (St.get ‹_› (List.mem_cons_of_mem _ (List.mem_cons_of_mem _ (List.mem_cons_of_mem _ (List.mem_cons_of_mem _ (List.mem_cons_of_mem _ List.mem_cons_self))))))) hu3 hds r1.line ?_
      walk_at "m"
      refine e_meth (K := hd.heap_39 w.params) _ ?_
      walk_at "m"
      have S7 := ‹St true s _ L _ (_ :: _) _›
      refine' MethK.mk S7 ‹_› (plainT w) (S7.keep _ _ (hTt _ List.mem_cons_self)) (S7.keep _ _ (hTt _ (List.mem_cons_of_mem _ List.mem_cons_self))) ad ?hno ?hk ?hf ?ht ?_
      (case hno => unfold treeM; rw [upd_other (by decide +kernel) (upd_other (by decide +kernel) rfl)])
      (case hk => first | k_is | kernel_rfl!)
      (case hf => first | k_is | kernel_rfl!)
      (case ht => first | k_is | kernel_rfl!)
      refine' e_first0 (K := hd.heap_39 w.params) ?hk (S7.gd ‹_›).X ?_
      (case hk => first | k_is | kernel_rfl!)
      show wpAny _ _ (call _ [.ref t.a]) _ _ _
      refine c_words N' (S7.gd ‹_›) (r1.less (by omega)) ok (fun q hq => S7.keep _ _ (hTt q hq)) hTl fun D4 u4 ss4 n4 s4' hu4 hpw4 hm4 hn4 k4 hg4 => ?_
      obtain rfl := same_strs hpw4 hdpw fun q => (hm4 q).trans (hdm q).symm
      have S4 := S7.add k4 hn4 hg4
      clear S7
      walk_at "m"
      refine r_ne_strs (isL (St.get ‹_› List.mem_cons_self)) (isL (St.get ‹_› (List.mem_cons_of_mem _ (List.mem_cons_of_mem _ (List.mem_cons_of_mem _ (List.mem_cons_of_mem _ (List.mem_cons_of_mem _ (List.mem_cons_of_mem _ List.mem_cons_self)))))))) hu4 hds r1.line ?_
      walk_at "m"
      refine e_meth (K := hd.heap_39 w.params) _ ?_
      walk_at "m"
      have S7 := ‹St true s _ L _ (_ :: _) _›
      refine' MethK.mk S7 ‹_› (plainT w) (S7.keep _ _ (hTt _ List.mem_cons_self)) (S7.keep _ _ (hTt _ (List.mem_cons_of_mem _ List.mem_cons_self))) ad ?hno ?hk ?hf ?ht ?_
      (case hno => unfold treeM; rw [upd_other (by decide +kernel) (upd_other (by decide +kernel) rfl)])
      (case hk => first | k_is | kernel_rfl!)
      (case hf => first | k_is | kernel_rfl!)
      (case ht => first | k_is | kernel_rfl!)
      refine' e_first (K := hd.heap_39 w.params) ?hk (S7.gd ‹_›).X ?_
      (case hk => first | k_is | kernel_rfl!)
      clear S7
      walk_at "m"
      refine ⟨(St.gd ‹_› ‹_›).X, ?_⟩
      have S8 := ‹St true s _ L _ (_ :: _) _›
      refine c_begun N' (S8.gd ‹_›) (r1.less (by omega)) ok (fun q hq => S8.keep _ _ (hTt q hq)) hTl hx fun D5 u5 ss5 n5 s5' hu5 hpw5 hm5 hn5 k5 hg5 => ?_
      obtain rfl := same_strs hpw5 hbpw fun q => (hm5 q).trans (hbm q).symm
      have S5 := S8.add k5 hn5 hg5
      clear S8
      walk_at "m"
      refine r_ne_strs (isL (St.get ‹_› List.mem_cons_self)) (isL (St.get ‹_› (List.mem_cons_of_mem _ (List.mem_cons_of_mem _ (List.mem_cons_of_mem _ (List.mem_cons_of_mem _ (List.mem_cons_of_mem _ (List.mem_cons_of_mem _ List.mem_cons_self)))))))) hu5 hbs r1.line ?_
      walk_at "m"
      refine r_item_list (isL (St.keep ‹_› _ _ hHF)) (by omega) (by show 4 ≤ sizeLine; decide) (by rfl) ?_
      walk_at "m"
      have S20 := ‹St true s H12 L m2 (_ :: _) _›
      refine r_catl S20 (isL (S20.get (List.mem_cons_of_mem _ (List.mem_cons_of_mem _ (List.mem_cons_of_mem _ (List.mem_cons_of_mem _ (List.mem_cons_of_mem _ (List.mem_cons_of_mem _ (List.mem_cons_of_mem _ (List.mem_cons_of_mem _ List.mem_cons_self)))))))))) (isL (S20.get List.mem_cons_self)) (by simp only [List.length_cons, List.length_nil]; rw [sizeLine_eq]; omega) fun C1 s21 hnC1 S21 => ?_
      clear S20
      walk_at "m"
      refine r_ne_strs (isL (St.get ‹_› (List.mem_cons_of_mem _ (List.mem_cons_of_mem _ (List.mem_cons_of_mem _ (List.mem_cons_of_mem _ (List.mem_cons_of_mem _ (List.mem_cons_of_mem _ (List.mem_cons_of_mem _ List.mem_cons_self))))))))) (isL (St.get ‹_› List.mem_cons_self)) (hu0.append' (.cons _ _ .nil)) (hds.append' (.cons _ _ .nil)) r1.line ?_
      walk_at "m"
      refine r_item_list (isL (St.keep ‹_› _ _ hHF)) (by omega) (by show 4 ≤ sizeLine; decide) (by rfl) ?_
      walk_at "m"
      have S22 := ‹St true s H12 L m2 (_ :: _) _›
      refine r_catl S22 (isL (S22.get (List.mem_cons_of_mem _ (List.mem_cons_of_mem _ (List.mem_cons_of_mem _ (List.mem_cons_of_mem _ (List.mem_cons_of_mem _ (List.mem_cons_of_mem _ (List.mem_cons_of_mem _ (List.mem_cons_of_mem _ (List.mem_cons_of_mem _ List.mem_cons_self))))))))))) (isL (S22.get List.mem_cons_self)) (by simp only [List.length_cons, List.length_nil]; rw [sizeLine_eq]; omega) fun C2 s23 hnC2 S23 => ?_
      clear S22
      walk_at "m"
      refine r_ne_strs (isL (St.get ‹_› (List.mem_cons_of_mem _ (List.mem_cons_of_mem _ (List.mem_cons_of_mem _ (List.mem_cons_of_mem _ (List.mem_cons_of_mem _ (List.mem_cons_of_mem _ (List.mem_cons_of_mem _ (List.mem_cons_of_mem _ List.mem_cons_self)))))))))) (isL (St.get ‹_› List.mem_cons_self)) (hu1.append' (.cons _ _ .nil)) (hbs.append' (.cons _ _ .nil)) r1.line ?_
      walk_at "m"
      refine e_meth (K := hd.heap_39 w.params) _ ?_
      walk_at "m"
      have S7 := ‹St true s _ L _ (_ :: _) _›
      refine' MethK.mk S7 ‹_› (plainT w) (S7.keep _ _ (hTt _ List.mem_cons_self)) (S7.keep _ _ (hTt _ (List.mem_cons_of_mem _ List.mem_cons_self))) ad ?hno ?hk ?hf ?ht ?_
      (case hno => unfold treeM; rw [upd_other (by decide +kernel) (upd_other (by decide +kernel) rfl)])
      (case hk => first | k_is | kernel_rfl!)
      (case hf => first | k_is | kernel_rfl!)
      (case ht => first | k_is | kernel_rfl!)
      refine' e_first0 (K := hd.heap_39 w.params) ?hk (S7.gd ‹_›).X ?_
      (case hk => first | k_is | kernel_rfl!)
      show wpAny _ _ (call _ [.ref t.a]) _ _ _
      refine c_nodes N' (S7.gd ‹_›) (r1.less (by omega)) ok (fun q hq => S7.keep _ _ (hTt q hq)) fun tk6 s24 k24 => ?_
      have S24 := S7.kp k24
      clear S7
      walk_at "m"
      refine c_law_whole N' (St.gd ‹_› ‹_›) (r1.less (by omega)) fun s25 k25 => ?_
      have S25 := St.kp ‹_› k25
      walk_at "m"
      refine e_meth (K := hd.heap_39 w.params) _ ?_
      walk_at "m"
      have S7 := ‹St true s _ L _ (_ :: _) _›
      refine' MethK.mk S7 ‹_› (plainT w) (S7.keep _ _ (hTt _ List.mem_cons_self)) (S7.keep _ _ (hTt _ (List.mem_cons_of_mem _ List.mem_cons_self))) ad ?hno ?hk ?hf ?ht ?_
      (case hno => unfold treeM; rw [upd_other (by decide +kernel) (upd_other (by decide +kernel) rfl)])
      (case hk => first | k_is | kernel_rfl!)
      (case hf => first | k_is | kernel_rfl!)
      (case ht => first | k_is | kernel_rfl!)
      refine' e_first0 (K := hd.heap_39 w.params) ?hk (S7.gd ‹_›).X ?_
      (case hk => first | k_is | kernel_rfl!)
      show wpAny _ _ (call _ [.ref t.a]) _ _ _
      refine c_nodes N' (S7.gd ‹_›) (r1.less (by omega)) ok (fun q hq => S7.keep _ _ (hTt q hq)) fun tk7 s26 k26 => ?_
      have S26 := S7.kp k26
      clear S7
      walk_at "m"
      refine c_law_beginnings N' (St.gd ‹_› ‹_›) (r1.less (by omega)) (St.keep ‹_› _ _ hkk) hks (by omega) fun ksl tk8 s27 hnd8 hm8 k27 => ?_
      have S27 := St.kp ‹_› k27
      have hTk : T.length = ksl.length := by
        have := ((List.perm_ext_iff_of_nodup ok.inv.nd hnd8).mpr fun q => (ok.inv.keys q).trans (hm8 q).symm).length_eq
        rwa [List.length_map] at this
      rw [hTk]
      walk_at "m"
      rw [i_eq rfl]
      exact h _ (St.back (St.anti ‹St true s H12 L m2 _ _› hup))
end
local macro_rules | `(tactic| walk_at "m at") => `(tactic| ((with_reducible rename St _ _ _ _ _ _ _ => hS); (with_reducible rename GdH _ _ _ _ => hG); refine c_law_at (by assumption) (St.gd hS hG) (Rm.less (by assumption) (by omega)) ⟨_, St.keep hS _ _ (by assumption), by assumption, by assumption⟩ (by assumption) (by assumption) (by omega) ?_; (intro _ _ _ hk; have hS' := St.kp hS hk; clear hS hk)))
/-- an if with an else whose two ways meet again -/
theorem x_if_join {prog : Program} {w : World} {A : Around} {E : Value → Shared → Prop} {s : Shared} {env : Env} {test : Expr} {body orelse rest : List Stmt} {pos : Pos} {Q : Flow → Shared → Prop} (J : Shared → Prop)
    (h : wpAny (model prog w) A (isTrue test env (eval test env)) (fun b s₂ => if b = true then wpAny (model prog w) A (execs body env) (fun f s₃ => f = .next ∧ J s₃) E s₂ else wpAny (model prog w) A (execs orelse env) (fun f s₃ => f = .next ∧ J s₃) E s₂) E s)
    (h2 : ∀ s', J s' → wpAny (model prog w) A (execs rest env) Q E s') : wpAny (model prog w) A (execs (.If test body orelse pos :: rest) env) Q E s :=
  x_if (wpAny_mono h (fun b s₂ h' => by
    cases b with
    | true => exact wpAny_mono h' (fun f s₃ h₃ => by obtain ⟨rfl, hj⟩ := h₃; exact thenK_next (h2 s₃ hj)) fun _ _ x => x
    | false => exact wpAny_mono h' (fun f s₃ h₃ => by obtain ⟨rfl, hj⟩ := h₃; exact thenK_next (h2 s₃ hj)) fun _ _ x => x) fun _ _ x => x)
theorem i_nb {a b : Int} (e : a = b) : (a != b) = false := by rw [bne_eq_false_iff_eq]; exact e
abbrev sideL (ka : Addr) (ks : List Value) (nk : Nat) (t : TR) (T : Trie) : List (Addr × Obj) := (ka, lst ks nk) :: treeL t T
structure SideOk (w : World) (ks : List Value) (t : TR) (T : Trie) : Prop where
  wds : Wds ks
  nd : (wl ks).Nodup
  ok : TOk w (Begs (· ∈ wl ks)) (· ∈ wl ks) (ks.length : Int) t T
/-- the two sides as they lie in the heap -/
def Canon (w : World) (k0 k1 a0 a1 : Addr) (bnd : Nat) (σ : List (Addr × Obj)) : Prop :=
  ∃ ks0 n0 t0 T0 ks1 n1 t1 T1, σ.Perm (sideL k0 ks0 n0 t0 T0 ++ sideL k1 ks1 n1 t1 T1) ∧ t0.a = a0 ∧ t1.a = a1 ∧ SideOk w ks0 t0 T0 ∧ SideOk w ks1 t1 T1 ∧ ks0.length ≤ bnd ∧ ks1.length ≤ bnd
theorem Canon.pick {w : World} {k0 k1 a0 a1 : Addr} {bnd : Nat} {σ : List (Addr × Obj)} (C : Canon w k0 k1 a0 a1 bnd σ) (j : Nat) (hj : j < 2) :
    ∃ kc ksc nc tc Tc ρ, [Value.ref a0, .ref a1][j]? = some (.ref tc.a) ∧ [Value.ref k0, .ref k1][j]? = some (.ref kc) ∧ SideOk w ksc tc Tc ∧ ksc.length ≤ bnd ∧ σ.Perm (sideL kc ksc nc tc Tc ++ ρ) ∧
      ∀ ks' nk' t' T', SideOk w ks' t' T' → t'.a = tc.a → ks'.length ≤ ksc.length + 1 → Canon w k0 k1 a0 a1 (bnd + 1) (sideL kc ks' nk' t' T' ++ ρ) := by
  obtain ⟨ks0, n0, t0, T0, ks1, n1, t1, T1, hp, rfl, rfl, s0, s1, b0, b1⟩ := C
  rcases j with _ | _ | j
  · refine ⟨k0, ks0, n0, t0, T0, _, rfl, rfl, s0, b0, hp, fun ks' nk' t' T' ok e hl => ?_⟩
    exact ⟨ks', nk', t', T', ks1, n1, t1, T1, List.Perm.refl _, e, rfl, ok, s1, by omega, by omega⟩
  · refine ⟨k1, ks1, n1, t1, T1, _, rfl, rfl, s1, b1, hp.trans List.perm_append_comm, fun ks' nk' t' T' ok e hl => ?_⟩
    exact ⟨ks0, n0, t0, T0, ks', nk', t', T', List.perm_append_comm, rfl, e, s0, ok, by omega, by omega⟩
  · omega
theorem isW_up {x : Str} {j : Int} (h : isW x = true) (h0 : 0 ≤ j) : isW (sl x none (some j)) = true := isW_of ((lets_of h).up j h0) (by rw [len_up x j h0]; have := len_of h; omega)
section
variable {w : World} {A : Around} {E : Value → Shared → Prop} {s : Shared} {mg mb : Str → Option Value} {Q : Value → Shared → Prop}
theorem c_law {vs : List Value} {a : Addr} (N : Nm mg mb) (G : Gd (KK w) mg mb s.heap) (r : Rm A 36) (hl : s.heap.IsList a vs.toArray) (hi : Ints vs) (hn : vs.length ≤ 63)
    (h : ∀ s', Kp s s' → Q (.bool true) s') : wpAny (model prg w) A (call (.ref 243) [.ref a]) Q E s := by
  refine' enterK [Str.ofString "_law_script"] G ?hf ?hcd r ?hb ?hloc ?hcell ?h1 ?h2 ?h3 ?_
  walk_at "m enter"
  intro E' L s' m hm hL S GH r1
  have e1 : m (Str.ofString "_law_script") = some (.ref a) := by subst hm; rfl
  clear hm hL
  have N' := N
  cases N
  have hzv : vs.length ≤ sizeLine := by rw [sizeLine_eq]; omega
  obtain ⟨ol, hol, hoc, hod⟩ := id hl
  walk_at "m u"
  refine x_if1_join (J := fun s' => ∃ m' mode most tm tm', St true s (fun b o => s.heap.get? b = some o) L m' [] s' ∧ m' (Str.ofString "_law_script") = some (.ref a) ∧ m' (Str.ofString "_law_mode") = some (.int mode tm') ∧ m' (Str.ofString "_law_most") = some (.int most tm) ∧ 0 ≤ most ∧ most ≤ 24) ?_ ?_
  · walk_at "m w"
    refine split_dec (fun hc => ?_) (fun hc => ?_)
    · walk_at "m w"
      exact ⟨rfl, _, _, 24, _, _, ‹_›, by walk_at "m loc", by walk_at "m loc", by walk_at "m loc", by decide, by decide⟩
    · walk_at "m w"
      exact ⟨_, _, 6, _, _, ‹_›, by walk_at "m loc", by walk_at "m loc", by walk_at "m loc", by decide, by decide⟩
  · rintro s1 ⟨m1, mode, most, tm, tm', S1, f1, f2, f3, hm0, hm1⟩
    walk_at "m w"
    have S2 := ‹St true s _ L m1 _ _›
    refine e_tree N' S2 ‹_› (r1.less (by omega)) (by kernel_rfl!) fun t0 T0 s2 ok0 S3 => ?_
    clear S2
    walk_at "m w"
    have S4 := ‹St true s _ L m1 (_ ++ _) _›
    refine e_tree N' S4 ‹_› (r1.less (by omega)) (by kernel_rfl!) fun t1 T1 s3 ok1 S5 => ?_
    clear S4
    walk_at "m w"
    refine c_law_word N' (St.gd ‹_› ‹_›) (r1.less (by omega)) (by omega) (by omega) fun x tx s7 hx hlx k7 => ?_
    have S7 := St.kp ‹_› k7
    have hwx := isW_of hx (by omega)
    walk_at "m w"
    rename_i TL _ _ _ k0 _ _ k1 _ _ KL _ _ _ _ _ _ _ _ _ sn _ _ _ S8
    have S9 := St.freeze (σ₁ := [_]) S8
    rw [List.singleton_append] at S9
    have S10 := St.freeze (σ₁ := [_, _, _]) S9
    clear S8 S9
    simp only [List.cons_append, List.nil_append, List.append_nil] at S10
    obtain ⟨H1, hH1⟩ : ∃ H1 : Addr → Obj → Prop, H1 = fun b y => (s.heap.get? b = some y ∨ (b = KL ∧ y = lst [.ref k0, .ref k1] 0)) ∨ (b = TL ∧ y = lst [.ref t0.a, .ref t1.a] 0) := ⟨_, rfl⟩
    rw [← hH1] at S10
    have hup : ∀ b o, s.heap.get? b = some o → H1 b o := fun b o e => by rw [hH1]; exact .inl (.inl e)
    have hTL : H1 TL (lst [.ref t0.a, .ref t1.a] 0) := by rw [hH1]; exact .inr ⟨rfl, rfl⟩
    have hKL : H1 KL (lst [.ref k0, .ref k1] 0) := by rw [hH1]; exact .inl (.inr ⟨rfl, rfl⟩)
    have hG1 : GdH (KK w) mg mb H1 := GdH.mono ‹GdH _ mg mb _› hup
    have hol1 : H1 a ol := hup _ _ hol
    clear hH1
    have C0 : Canon w k0 k1 t0.a t1.a 0 ((k1, lst [] 0) :: (k0, lst [] 0) :: (treeL t1 T1 ++ treeL t0 T0)) := by
      refine ⟨[], 0, t0, T0, [], 0, t1, T1, ?_, rfl, rfl, ⟨(fun v hv => (List.not_mem_nil hv).elim), by simp [wl], ok0.congr (fun q => ?_) fun q => by simp [wl]⟩, ⟨(fun v hv => (List.not_mem_nil hv).elim), by simp [wl], ok1.congr (fun q => ?_) fun q => by simp [wl]⟩, Nat.le_refl _, Nat.le_refl _⟩
      · refine (List.Perm.swap ..).trans (List.Perm.cons _ ?_)
        exact (List.perm_append_comm.cons _).trans List.perm_middle.symm
      all_goals
        constructor
        · exact .inl
        · rintro (e | ⟨v, hv, _⟩)
          · exact e
          · simp [wl] at hv
    obtain ⟨τ0, hτ0⟩ : ∃ τ0, τ0 = (k1, lst [] 0) :: (k0, lst [] 0) :: (treeL t1 T1 ++ treeL t0 T0) := ⟨_, rfl⟩
    have S11 : St true s H1 L _ ((sn, lst [.str x tx] 0) :: τ0) _ := S10.sig (by subst hτ0; first | rfl | simp)
    rw [← hτ0] at C0
    clear S10 hτ0 ok0 ok1
    refine x_for ?_
    walk_at "m w"
    have S12 := ‹St true s H1 L _ (_ :: _) _›
    refine ⟨a, vs, 3, _, 63, _, _, _, rfl, rfl, rfl, ⟨ol, S12.keep _ _ hol1, hoc, hod⟩, hzv, S12, fun D ws s13 hlw hsub hnD S13 => ?_⟩
    clear S12
    have hiw : Ints ws := fun i v hv => by
      obtain ⟨j, hj⟩ := List.mem_iff_getElem?.mp (hsub v (List.mem_of_getElem? hv))
      exact hi j v hj
    have S14 := St.freeze (σ₁ := []) S13
    rw [List.nil_append] at S14
    clear S13
    obtain ⟨H2, hH2⟩ : ∃ H2 : Addr → Obj → Prop, H2 = fun b y => H1 b y ∨ (b = D ∧ y = lst ws 0) := ⟨_, rfl⟩
    rw [← hH2] at S14
    have hup2 : ∀ b o, H1 b o → H2 b o := fun b o e => by rw [hH2]; exact .inl e
    have hHD : H2 D (lst ws 0) := by rw [hH2]; exact .inr ⟨rfl, rfl⟩
    clear hH2
    refine for_list (J := fun i m' σ' => m' (Str.ofString "_law_script") = some (.ref a) ∧ m' (Str.ofString "_law_mode") = some (.int mode tm') ∧ m' (Str.ofString "_law_most") = some (.int most tm) ∧ m' (Str.ofString "_law_trees") = some (.ref TL) ∧ m' (Str.ofString "_law_kept") = some (.ref KL) ∧ m' (Str.ofString "_law_seen") = some (.ref sn) ∧
      ∃ sv ns τ, σ' = (sn, lst sv ns) :: τ ∧ Wds sv ∧ sv.length = i + 1 ∧ Canon w k0 k1 t0.a t1.a i τ) S14 hHD r1.hh ?_ ?_ ?_ ?_
    · exact ⟨by walk_at "m loc", by walk_at "m loc", by walk_at "m loc", by walk_at "m loc", by walk_at "m loc", by walk_at "m loc", _, _, _, rfl, Wds.one hwx, rfl, C0⟩
    · kernel_rfl!
    · clear S14 C0
      intro E2 i m2 σ2 s15 xv Hb hib hv hJ hbb S15
      obtain ⟨f1, f2, f3, f4, f5, f6, sv, ns, τ, rfl, hsv, hls, C⟩ := hJ
      obtain ⟨ce, tce, rfl⟩ := hiw i xv hv
      have hGb : GdH (KK w) mg mb Hb := GdH.mono hG1 fun b o e => hbb _ _ (hup2 _ _ e)
      have hTLb := hbb _ _ (hup2 _ _ hTL)
      have hKLb := hbb _ _ (hup2 _ _ hKL)
      have hzs : sv.length ≤ sizeLine := by rw [sizeLine_eq]; omega
      clear hG1
      walk_at "m w"
      refine r_len_list ‹_› (isL (St.get ‹_› List.mem_cons_self)) hzs ?_
      intros
      walk_at "m w"
      refine r_item_ex IsWd (isL (St.get ‹_› List.mem_cons_self)) (fmod_lo _ (by omega)) hzs (hsv.get (fmod_lo _ (by omega)) (fmod_hi _ (by omega))) ?_
      rintro _ ⟨y, ty, rfl, hy⟩
      walk_at "m u"
      have q0 := fmod_lo ce (b := 2) (by omega)
      have q1 := fmod_hi ce (b := 2) (by omega)
      rename_i tw _ _ _ _ _ _ _ _ _ _ _ _ _
      refine x_if_join (J := fun s' => ∃ m' tw z tz, St true s Hb L m' ((sn, lst sv ns) :: τ) s' ∧ m' (Str.ofString "_law_script") = some (.ref a) ∧ m' (Str.ofString "_law_mode") = some (.int mode tm') ∧ m' (Str.ofString "_law_most") = some (.int most tm) ∧ m' (Str.ofString "_law_trees") = some (.ref TL) ∧ m' (Str.ofString "_law_kept") = some (.ref KL) ∧ m' (Str.ofString "_law_seen") = some (.ref sn) ∧ m' (Str.ofString "_law_cell") = some (.int ce tce) ∧ m' (Str.ofString "_law_which") = some (.int (ce.fmod 2) tw) ∧ m' (Str.ofString "_law_word_here") = some (.str z tz) ∧ isW z = true) ?_ ?_
      · walk_at "m w"
        refine split_dec (fun hc => ?_) (fun hc => ?_)
        · walk_at "m w"
          refine c_law_word N' (St.gd ‹_› ‹GdH _ mg mb Hb›) (r1.less (by omega)) (by omega) (by omega) fun z tz s16 hz hlz k16 => ?_
          have S16 := St.kp ‹_› k16
          walk_at "m w"
          exact ⟨rfl, _, _, z, tz, ‹_›, by walk_at "m loc", by walk_at "m loc", by walk_at "m loc", by walk_at "m loc", by walk_at "m loc", by walk_at "m loc", by walk_at "m loc", by walk_at "m loc", by walk_at "m loc", isW_of hz (by omega)⟩
        · walk_at "m w"
          refine split_dec (fun hc2 => ?_) (fun hc2 => ?_)
          · walk_at "m w"
            refine c_law_bent N' (St.gd ‹_› ‹GdH _ mg mb Hb›) (r1.less (by omega)) (lets_of hy) (len_of hy) fun z tz s16 hz hlz k16 => ?_
            have S16 := St.kp ‹_› k16
            walk_at "m w"
            exact ⟨rfl, _, _, z, tz, ‹_›, by walk_at "m loc", by walk_at "m loc", by walk_at "m loc", by walk_at "m loc", by walk_at "m loc", by walk_at "m loc", by walk_at "m loc", by walk_at "m loc", by walk_at "m loc", isW_of hz hlz⟩
          · walk_at "m w"
            exact ⟨rfl, _, _, y, ty, ‹_›, by walk_at "m loc", by walk_at "m loc", by walk_at "m loc", by walk_at "m loc", by walk_at "m loc", by walk_at "m loc", by walk_at "m loc", by walk_at "m loc", by walk_at "m loc", hy⟩
      clear f1 f2 f3 f4 f5 f6
      rintro s16 ⟨m3, tw, z, tz, S16, f1, f2, f3, f4, f5, f6, f7, f8, f9, hz⟩
      have hzz : z.length ≤ sizeLine := by have := len_of hz; rw [sizeLine_eq]; omega
      walk_at "m u"
      refine x_if1_join (J := fun s' => ∃ τ', St true s Hb L m3 ((sn, lst (sv ++ [.str z tz]) (ns + 1)) :: τ') s' ∧ Canon w k0 k1 t0.a t1.a (i + 1) τ') ?_ ?_
      · obtain ⟨kc, ksc, nc, tc, Tc, ρ, hvT, hvK, sok, hbk, hperm, hback⟩ := C.pick (ce.fmod 2).toNat (by omega)
        walk_at "m w"
        refine r_item_list (isL (St.keep ‹_› _ _ hTLb)) q0 (by show 2 ≤ sizeLine; decide) hvT ?_
        walk_at "m w"
        refine r_item_list (isL (St.keep ‹_› _ _ hKLb)) q0 (by show 2 ≤ sizeLine; decide) hvK ?_
        walk_at "m w"
        have S17 := ‹St true s Hb L m3 (_ :: τ) _›
        have S18 := S17.perm ((hperm.cons _).trans List.perm_middle.symm)
        refine c_deed N' (S18.hm ‹GdH _ mg mb Hb›) S18.have_ (r1.less (by omega)) sok.wds sok.nd sok.ok hz (by omega) fun ks' nk' t' T' s19 h1 h2 h3 h4 h5 gv => ?_
        have S19 := (S18.swap gv).perm List.perm_middle
        clear S17 S18
        walk_at "m w"
        exact ⟨_, ‹_›, hback ks' nk' t' T' ⟨h1, h2, h5⟩ h4 h3⟩
      · clear C
        rintro s17 ⟨τ', S17, C⟩
        walk_at "m u"
        refine x_if1_join (J := fun s' => ∃ m', St true s Hb L m' ((sn, lst (sv ++ [.str z tz]) (ns + 1)) :: τ') s' ∧ m' (Str.ofString "_law_script") = some (.ref a) ∧ m' (Str.ofString "_law_mode") = some (.int mode tm') ∧ m' (Str.ofString "_law_most") = some (.int most tm) ∧ m' (Str.ofString "_law_trees") = some (.ref TL) ∧ m' (Str.ofString "_law_kept") = some (.ref KL) ∧ m' (Str.ofString "_law_seen") = some (.ref sn) ∧ m' (Str.ofString "_law_word_here") = some (.str z tz)) ?_ ?_
        · walk_at "m w"
          refine split_dec (fun hc => ?_) (fun hc => ?_)
          · obtain ⟨kc, ksc, nc, tc, Tc, ρ, hvT, hvK, sok, hbk, hperm, hback⟩ := C.pick (ce.fmod 2).toNat (by omega)
            walk_at "m w"
            refine r_item_list (isL (St.keep ‹_› _ _ hTLb)) q0 (by show 2 ≤ sizeLine; decide) hvT ?_
            walk_at "m w"
            refine r_item_list (isL (St.keep ‹_› _ _ hKLb)) q0 (by show 2 ≤ sizeLine; decide) hvK ?_
            walk_at "m w"
            have S18 := ‹St true s Hb L _ (_ :: τ') _›
            have hin : ∀ q ∈ sideL kc ksc nc tc Tc, q ∈ (sn, lst (sv ++ [.str z tz]) (ns + 1)) :: τ' := fun q hq => List.mem_cons_of_mem _ (hperm.mem_iff.mpr (List.mem_append_left _ hq))
            refine c_stands N' (S18.gd ‹GdH _ mg mb Hb›) (r1.less (by omega)) sok.wds sok.nd (by omega) sok.ok (fun q hq => S18.get (hin _ (List.mem_cons_of_mem _ hq))) (S18.get (hin _ List.mem_cons_self)) (isW_up hz (fmod_lo _ (by omega))) fun s19 k19 => ?_
            have S19 := S18.kp k19
            clear S18
            walk_at "m w"
            exact ⟨_, ‹_›, by walk_at "m loc", by walk_at "m loc", by walk_at "m loc", by walk_at "m loc", by walk_at "m loc", by walk_at "m loc", by walk_at "m loc"⟩
          · walk_at "m w"
            exact ⟨_, ‹_›, by walk_at "m loc", by walk_at "m loc", by walk_at "m loc", by walk_at "m loc", by walk_at "m loc", by walk_at "m loc", by walk_at "m loc"⟩
        clear f1 f2 f3 f4 f5 f6 f7 f8 f9
        rintro s18 ⟨m4, S18, f1, f2, f3, f4, f5, f6, f9⟩
        refine x_for ?_
        walk_at "m w"
        refine for_range (J := fun j m' σ' => σ' = (sn, lst (sv ++ [.str z tz]) (ns + 1)) :: τ' ∧ m' (Str.ofString "_law_script") = some (.ref a) ∧ m' (Str.ofString "_law_mode") = some (.int mode tm') ∧ m' (Str.ofString "_law_most") = some (.int most tm) ∧ m' (Str.ofString "_law_trees") = some (.ref TL) ∧ m' (Str.ofString "_law_kept") = some (.ref KL) ∧ m' (Str.ofString "_law_seen") = some (.ref sn) ∧ m' (Str.ofString "_law_word_here") = some (.str z tz)) ‹_› r1.hh (by omega) (by omega) ?_ ?_ ?_ ?_
        · exact ⟨rfl, by walk_at "m loc", by walk_at "m loc", by walk_at "m loc", by walk_at "m loc", by walk_at "m loc", by walk_at "m loc", by walk_at "m loc"⟩
        · kernel_rfl!
        · clear f1 f2 f3 f4 f5 f6 f9
          intro E3 j m5 σ3 s20 tj Hc hj hJ hcc S20
          obtain ⟨rfl, f1, f2, f3, f4, f5, f6, f9⟩ := hJ
          have hj2 : j < 2 := by omega
          obtain ⟨kc, ksc, nc, tc, Tc, ρ, hvT, hvK, sok, hbk, hperm, hback⟩ := C.pick j hj2
          have hin : ∀ q ∈ sideL kc ksc nc tc Tc, q ∈ (sn, lst (sv ++ [.str z tz]) (ns + 1)) :: τ' := fun q hq => List.mem_cons_of_mem _ (hperm.mem_iff.mpr (List.mem_append_left _ hq))
          have hGc : GdH (KK w) mg mb Hc := GdH.mono ‹GdH _ mg mb Hb› hcc
          have hTLc := hcc _ _ hTLb
          have hKLc := hcc _ _ hKLb
          obtain ⟨tk, ad⟩ := sok.ok.ad
          have hzk : ksc.length ≤ sizeLine := by rw [sizeLine_eq]; omega
          walk_at "m w"
          refine e_meth (K := hd.heap_39 w.params) _ ?_
          walk_at "m w"
          refine r_item_list (isL (St.keep ‹_› _ _ hTLc)) (by omega) (by show 2 ≤ sizeLine; decide) (by simpa using hvT) ?_
          have S7 := ‹St true s Hc L _ (_ :: _) _›
          refine' MethK.mk S7 ‹GdH _ mg mb Hc› (plainT w) (S7.get (hin _ (List.mem_cons_of_mem _ List.mem_cons_self))) (S7.get (hin _ (List.mem_cons_of_mem _ (List.mem_cons_of_mem _ List.mem_cons_self)))) ad ?hno ?hk ?hf ?ht ?_
          (case hno => unfold treeM; rw [upd_other (by decide +kernel) (upd_other (by decide +kernel) rfl)])
          (case hk => first | k_is | kernel_rfl!)
          (case hf => first | k_is | kernel_rfl!)
          (case ht => first | k_is | kernel_rfl!)
          refine' e_first0 (K := hd.heap_39 w.params) ?hk (S7.gd ‹GdH _ mg mb Hc›).X ?_
          (case hk => first | k_is | kernel_rfl!)
          show wpAny _ _ (call _ [.ref tc.a]) _ _ _
          refine c_many N' (S7.gd ‹GdH _ mg mb Hc›) (r1.less (by omega)) sok.ok (fun q hq => S7.get (hin _ (List.mem_cons_of_mem _ hq))) fun tk2 s21 k21 => ?_
          have S21 := S7.kp k21
          clear S7
          walk_at "m w"
          refine e_meth (K := hd.heap_39 w.params) _ ?_
          walk_at "m w"
          refine r_item_list (isL (St.keep ‹_› _ _ hTLc)) (by omega) (by show 2 ≤ sizeLine; decide) (by simpa using hvT) ?_
          have S7 := ‹St true s Hc L _ (_ :: _) _›
          refine' MethK.mk S7 ‹GdH _ mg mb Hc› (plainT w) (S7.get (hin _ (List.mem_cons_of_mem _ List.mem_cons_self))) (S7.get (hin _ (List.mem_cons_of_mem _ (List.mem_cons_of_mem _ List.mem_cons_self)))) ad ?hno ?hk ?hf ?ht ?_
          (case hno => unfold treeM; rw [upd_other (by decide +kernel) (upd_other (by decide +kernel) rfl)])
          (case hk => first | k_is | kernel_rfl!)
          (case hf => first | k_is | kernel_rfl!)
          (case ht => first | k_is | kernel_rfl!)
          refine' e_first (K := hd.heap_39 w.params) ?hk (S7.gd ‹GdH _ mg mb Hc›).X ?_
          (case hk => first | k_is | kernel_rfl!)
          clear S7
          walk_at "m w"
          refine ⟨(St.gd ‹_› ‹GdH _ mg mb Hc›).X, ?_⟩
          have S22 := ‹St true s Hc L _ (_ :: _) _›
          refine c_has N' (S22.gd ‹GdH _ mg mb Hc›) (r1.less (by omega)) sok.ok (fun q hq => S22.get (hin _ (List.mem_cons_of_mem _ hq))) hz fun b s23 hb k23 => ?_
          have S23 := S22.kp k23
          clear S22
          obtain rfl : b = decide (cl z ∈ wl ksc) := by rw [Bool.eq_iff_iff, decide_eq_true_eq]; exact hb
          walk_at "m w"
          refine c_law_whole N' (St.gd ‹_› ‹GdH _ mg mb Hc›) (r1.less (by omega)) fun s24 k24 => ?_
          have S24 := St.kp ‹_› k24
          walk_at "m w"
          refine r_item_list (isL (St.keep ‹_› _ _ hKLc)) (by omega) (by show 2 ≤ sizeLine; decide) (by simpa using hvK) ?_
          refine r_len_list ‹_› (isL (St.get ‹_› (hin _ List.mem_cons_self))) hzk ?_
          intros
          walk_at "m w"
          refine ite_f (i_nb rfl) ?_
          walk_at "m w"
          refine r_item_list (isL (St.keep ‹_› _ _ hKLc)) (by omega) (by show 2 ≤ sizeLine; decide) (by simpa using hvK) ?_
          refine in_list_strs (isL (St.get ‹_› (hin _ List.mem_cons_self))) (strs_keyOf sok.wds.strs) ?_
          rw [any_key]
          walk_at "m w"
          refine ite_f (bne_self_eq_false _) ?_
          walk_at "m w"
          exact turnK_next ‹_› ⟨rfl, by walk_at "m loc", by walk_at "m loc", by walk_at "m loc", by walk_at "m loc", by walk_at "m loc", by walk_at "m loc", by walk_at "m loc"⟩
        · intro m5 σ3 s20 hJ S20
          obtain ⟨rfl, f1, f2, f3, f4, f5, f6, f9⟩ := hJ
          walk_at "m w"
          refine turnK_next ‹St _ _ _ _ m5 _ _› ⟨by walk_at "m loc", by walk_at "m loc", by walk_at "m loc", by walk_at "m loc", by walk_at "m loc", by walk_at "m loc", _, _, τ', rfl, hsv.append (Wds.one hz), by rw [List.length_append, List.length_singleton]; omega, C⟩
    · clear S14 C0
      intro m2 σ2 s15 hJ S15
      obtain ⟨f1, f2, f3, f4, f5, f6, sv, ns, τ, rfl, hsv, hls, C⟩ := hJ
      have hG2 : GdH (KK w) mg mb H2 := GdH.mono hG1 hup2
      have hol2 := hup2 _ _ hol1
      have hTL2 := hup2 _ _ hTL
      have hKL2 := hup2 _ _ hKL
      have hzs : sv.length ≤ sizeLine := by rw [sizeLine_eq]; omega
      walk_at "m w"
      refine r_len_list ‹_› (isL (St.get ‹_› List.mem_cons_self)) hzs ?_
      intros
      walk_at "m w"
      refine r_item_ex IsWd (isL (St.get ‹_› List.mem_cons_self)) (fmod_lo _ (by omega)) hzs (hsv.get (fmod_lo _ (by omega)) (fmod_hi _ (by omega))) ?_
      rintro _ ⟨y, ty, rfl, hy⟩
      have hzy : y.length ≤ sizeLine := by have := len_of hy; rw [sizeLine_eq]; omega
      walk_at "m w"
      obtain ⟨kc0, ksc0, nc0, tc0, Tc0, ρ0, hvT0, hvK0, sok0, hbk0, hperm0, _⟩ := C.pick 0 (by omega)
      have hin0 : ∀ q ∈ sideL kc0 ksc0 nc0 tc0 Tc0, q ∈ (sn, lst sv ns) :: τ := fun q hq => List.mem_cons_of_mem _ (hperm0.mem_iff.mpr (List.mem_append_left _ hq))
      refine r_item_list (isL (St.keep ‹_› _ _ hTL2)) (by omega) (by show 2 ≤ sizeLine; decide) hvT0 ?_
      walk_at "m w"
      refine r_item_list (isL (St.keep ‹_› _ _ hKL2)) (by omega) (by show 2 ≤ sizeLine; decide) hvK0 ?_
      walk_at "m w"
      have S20 := ‹St true s H2 L _ (_ :: τ) _›
      refine c_stands N' (S20.gd ‹GdH _ mg mb H2›) (r1.less (by omega)) sok0.wds sok0.nd (by omega) sok0.ok (fun q hq => S20.get (hin0 _ (List.mem_cons_of_mem _ hq))) (S20.get (hin0 _ List.mem_cons_self)) (isW_up hy (fmod_lo _ (by omega))) fun s30 k30 => ?_
      have S30 := S20.kp k30
      clear S20
      walk_at "m w"
      obtain ⟨kc1, ksc1, nc1, tc1, Tc1, ρ1, hvT1, hvK1, sok1, hbk1, hperm1, _⟩ := C.pick 1 (by omega)
      have hin1 : ∀ q ∈ sideL kc1 ksc1 nc1 tc1 Tc1, q ∈ (sn, lst sv ns) :: τ := fun q hq => List.mem_cons_of_mem _ (hperm1.mem_iff.mpr (List.mem_append_left _ hq))
      refine r_item_list (isL (St.keep ‹_› _ _ hTL2)) (by omega) (by show 2 ≤ sizeLine; decide) hvT1 ?_
      walk_at "m w"
      refine r_item_list (isL (St.keep ‹_› _ _ hKL2)) (by omega) (by show 2 ≤ sizeLine; decide) hvK1 ?_
      walk_at "m w"
      have S21 := ‹St true s H2 L _ (_ :: τ) _›
      refine c_stands N' (S21.gd ‹GdH _ mg mb H2›) (r1.less (by omega)) sok1.wds sok1.nd (by omega) sok1.ok (fun q hq => S21.get (hin1 _ (List.mem_cons_of_mem _ hq))) (S21.get (hin1 _ List.mem_cons_self)) (isW_up hy (fmod_lo _ (by omega))) fun s31 k31 => ?_
      have S31 := S21.kp k31
      clear S21
      walk_at "m w"
      exact h _ (St.back (St.anti ‹St true s H2 L _ (_ :: τ) _› fun b o e => hup2 _ _ (hup _ _ e)))
end
theorem good_end {c : ClaimW} {cl : Str → Option Addr} {mean : ExcName → Option Value} {args : List WData} {s₁ s' : Shared} (k : Kp s₁ s') (hg : s₁.gens = #[]) (hn : ∀ cls, c.raises args cls = false) (hp : c.post args (.bool true) args = true) :
    GoodWG c cl mean args s₁ (.ok (.ret (.bool true))) s' :=
  GoodW.toG ⟨.inl ⟨.bool true, .bool true, [], rfl, hn, .bool true, hp, unshared_nil⟩, k.keep, k.same.2.2, k.same.1.trans hg⟩
theorem rm_caller : Rm callerA 40 := ⟨rfl, by decide, by decide⟩
end Mine
set_option maxHeartbeats 8000000 in
theorem PySem.Challenge.cw_uf050039_07_holds : PySem.Challenge.rw_uf050039_07.Holds :=
  Mine.hd (by
  k_fill
  intro w s₀ s₁ mg mb G Y fa o pm cd doc dV kV ho hd hcd hD hmg hg args vals as hpre hlay hrd hwl hlo
  have KX := kIn_of Y
  refine Ground.open G ?_
  intro T B D TE TW
  have hfa : fa = 243 := by
    have e := mg_of (n := Str.ofString "law") (v := .ref 243) KX T.g (by k_is)
    have := hmg.symm.trans e
    cases this; rfl
  subst hfa
  wrow_args hpre hlay hrd hwl hlo
  rename IntsAre _ _ => hia
  rename Heap.IsList _ _ _ => hil
  refine Mine.c_law (Mine.nm_of KX T) ⟨fun a o e => KX a o e, T.g, T.b, T.nolimit⟩ (Mine.rm_caller.less (by decide)) hil (Mine.Ints.of hia) (by rw [Mine.IntsAre.len hia]; omega) fun s' k => Mine.good_end k hg (fun _ => rfl) ?_
  exact postW_of rfl (w_eq_bool (w_res rfl) w_lit) rfl)
end
