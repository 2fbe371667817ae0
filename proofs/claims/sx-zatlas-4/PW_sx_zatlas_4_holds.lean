import PyProof.Rows.All
import PyProof.NeData
import PyProof.P3Eq
import PyProof.P3In
import PyProof.IsRules
import PyProof.TypeOfCall
import PyProof.Rows.TupAssign
import PyProof.Rows.TupIter
import KE.KDictOf
import KE.KSortTup
import Wide.All
import Open.Line
import Wide.FinOn
import PySem.Challenge.RW_sx_zatlas_4
open PySem PySem.Calls PySem.Spec PyProof.Rows
set_option Elab.async false
set_option maxRecDepth 100000
set_option linter.unusedVariables false
set_option linter.unusedSimpArgs false
set_option compiler.extract_closed false
namespace Mine
local macro_rules | `(tactic| walk_at "om0") => `(tactic| first | with_reducible assumption | decide +kernel | with_reducible exact Nat.lt_of_le_of_lt (Nat.le_add_right _ _) (by with_reducible assumption) | (with_reducible refine Nat.lt_of_le_of_lt (Nat.add_le_add_left ?_ _) (by with_reducible assumption); decide +kernel) | (with_reducible refine Nat.lt_of_lt_of_le ?_ (by with_reducible assumption); decide +kernel) | (with_reducible refine Nat.lt_of_lt_of_le (by with_reducible assumption) ?_; decide +kernel) | (with_reducible refine Nat.lt_of_le_of_lt (by with_reducible assumption) ?_; decide +kernel) | (with_reducible refine Int.lt_of_lt_of_le (by with_reducible assumption) ?_; decide +kernel) | (with_reducible refine Int.lt_of_le_of_lt ?_ (by with_reducible assumption); decide +kernel) | (with_reducible refine Int.le_of_lt (Int.lt_of_le_of_lt ?_ (by with_reducible assumption)); decide +kernel) | with_reducible exact Int.natCast_nonneg _ | (with_reducible refine Int.lt_of_lt_of_le ?_ (Int.natCast_nonneg _); decide +kernel) | (with_reducible refine Int.lt_of_lt_of_le (Int.ofNat_lt.mpr (by with_reducible assumption)) ?_; decide +kernel) | with_reducible exact Int.ofNat_lt.mpr (by with_reducible assumption) | omega)
local macro_rules | `(tactic| walk_at "om") => `(tactic| walk_at "om0")
-- 01_loops.lean
theorem ar1 (j : Nat) : (1 + (j : Int) - 1).toNat = j := by omega
theorem ar2 (j : Nat) : (1 + (j : Int)).toNat = j + 1 := by omega
theorem ar3 (j : Nat) : (0 : Int) ≤ 1 + (j : Int) := by omega
theorem ar4 (j : Nat) : (0 : Int) ≤ 1 + (j : Int) - 1 := by omega
theorem ar5 (n : Nat) : ((n : Int) - 1).toNat = n - 1 := by omega
theorem ar6 (n : Nat) : ((n : Int) - 0).toNat = n := by omega
theorem ar7 {x : Int} {n : Nat} (h0 : 0 ≤ x) (h1 : x < n) : x.toNat < n := by omega
theorem ar8 {i n : Nat} (h : i < n - 1) : i < n := by omega
theorem ar9 {i n : Nat} (h : i < n - 1) : i + 1 < n := by omega
abbrev Le (h h' : Heap) : Prop := ∀ b o, h.get? b = some o → h'.get? b = some o
theorem Le.rfl {h : Heap} : Le h h := fun _ _ e => e
theorem Le.trans {h h' h'' : Heap} (a : Le h h') (b : Le h' h'') : Le h h'' := fun x o e => b x o (a x o e)
theorem Le.push {h : Heap} (o : Obj) : Le h (h.push o) := fun _ _ e => Heap.get?_push_of_some o e
/-- all but what lies at X is kept -/
def KB (X : List Addr) (h h' : Heap) : Prop := ∀ b o, b ∉ X → h.get? b = some o → h'.get? b = some o
theorem KB.rfl {X : List Addr} {h : Heap} : KB X h h := fun _ _ _ e => e
theorem KB.trans {X : List Addr} {h h' h'' : Heap} (a : KB X h h') (b : KB X h' h'') : KB X h h'' := fun x o n e => b x o n (a x o n e)
theorem KB.of_le {X : List Addr} {h h' : Heap} (a : Le h h') : KB X h h' := fun x o _ e => a x o e
theorem KB.mono {X Y : List Addr} {h h' : Heap} (a : KB X h h') (hs : ∀ b ∈ X, b ∈ Y) : KB Y h h' := fun x o n e => a x o (fun q => n (hs x q)) e
theorem KB.same {a : Addr} {X : List Addr} {h h' : Heap} (hs : Heap.SameBut a h h') (ha : a ∈ X) : KB X h h' := fun b o n e => (hs.2 b (fun q => n (q ▸ ha))).trans e
/-- a frozen part stays -/
theorem KB.le {X : List Addr} {g h h' : Heap} (k : KB X h h') (l : Le g h) (off : ∀ a ∈ X, g.get? a = none) : Le g h' := fun b o e => k b o (fun q => by rw [off b q] at e; cases e) (l b o e)

def hide (h : Heap) : List Addr → Heap
  | [] => h
  | a :: X => (hide h X).update a (fun o => { o with data := .freed })
theorem hide_get (h : Heap) (X : List Addr) (b : Addr) : (hide h X).get? b = if b ∈ X then none else h.get? b := by
  induction X with
  | nil => simp [hide]
  | cons a X ih =>
    show ((hide h X).update a _).get? b = _
    by_cases hb : b = a
    · subst hb
      simp only [List.mem_cons, true_or, if_true]
      generalize hide h X = g
      obtain ⟨objs, l⟩ := g
      simp only [Heap.get?, Heap.update, Array.getElem?_modify, if_true]
      cases objs[b]? with
      | none => rfl
      | some o => rfl
    · rw [Heap.get?_update_ne _ _ _ _ hb, ih]
      simp [hb]
theorem hide_le (h : Heap) (X : List Addr) : Le (hide h X) h := fun b o e => by
  rw [hide_get] at e; split at e
  · cases e
  · exact e
theorem le_hide {g h : Heap} {X : List Addr} (l : Le g h) (off : ∀ a ∈ X, g.get? a = none) : Le g (hide h X) := fun b o e => by
  rw [hide_get, if_neg (fun q => by rw [off b q] at e; cases e)]; exact l b o e
theorem hide_off (h : Heap) (X : List Addr) : ∀ a ∈ X, (hide h X).get? a = none := fun a ha => by rw [hide_get, if_pos ha]

/-- the post goes behind a name -/
theorem opaqueQ {α : Type} {M : Model} {A : Around} {t : Sem α} {Q : α → Shared → Prop} {E : Value → Shared → Prop} {s : Shared} (h : ∀ K : α → Shared → Prop, (∀ v s', Q v s' → K v s') → wpAny M A t K E s) : wpAny M A t Q E s := h Q fun _ _ q => q
abbrev upd (m : Str → Option Value) (x : Str) (v : Value) : Str → Option Value := fun y => if y = x then some v else m y

section
variable {prog : Program} {w : World} {A : Around} {E : Value → Shared → Prop} {s : Shared} {env : Env}

/-- what a turn of a loop leaves -/
def TurnEnd (L : Addr) (X : List Addr) (J : (Str → Option Value) → Heap → Prop) (s : Shared) (h : Heap) (Q : Flow → Shared → Prop) (f : Flow) (s' : Shared) : Prop :=
  match f with
  | .ret v => Q (.ret v) s'
  | .brk => Q .next s'
  | _ => ∃ m' h' tk', s' = { s with heap := h', toks := tk' } ∧ h'.Ns L m' ∧ KB (L :: X) h h' ∧ J m' h'

theorem for_walk {Q : Flow → Shared → Prop} {x : Str} {px : Pos} {body : List Stmt} {I : Addr} {fp wr : List Addr} {n : Nat} {P : Nat → Value → Prop} {St : Nat → Heap → Prop} {m₀ : Str → Option Value}
    (W : Walks prog w A I fp wr n P St) (X : List Addr) (J : Nat → (Str → Option Value) → Heap → Prop)
    (hx : env.kindOf x = some .local) (hp : (env.scope.kind == .class || (env.scope.kind == .module && env.locals != env.globals)) = false)
    (hfp : ∀ b ∈ fp, b ∉ env.locals :: X) (hst : St 0 s.heap) (hn : s.heap.Ns env.locals m₀) (h0 : J 0 m₀ s.heap)
    (stab : ∀ i m h h', J i m h → KB (env.locals :: wr) h h' → J i m h') (hob : ∀ i h, St i h → ∃ o, h.get? I = some o)
    (turn : ∀ i v m h tk, i < n → P i v → J i m h → KB (env.locals :: (wr ++ X)) s.heap h → h.Ns env.locals (upd m x v) → (∃ o, h.get? I = some o) →
      wpAny (model prog w) A (execs body env) (TurnEnd env.locals X (J (i + 1)) s h Q) E { s with heap := h, toks := tk })
    (done : ∀ m h tk, J n m h → KB (env.locals :: (wr ++ X)) s.heap h → h.Ns env.locals m → Q .next { s with heap := h, toks := tk })
    (hE : PassesOwn (model prog w) A env E) :
    codeAny (model prog w) A (.forLoop (.Name x px) (.ref I) body [] env) (fun r s' => match r with | .ok f => Q f s' | .error e => cameBackBy (model prog w) A env E e s') s := by
  have hLw : env.locals ∉ wr := fun q => hfp _ (W.sub _ q) (List.mem_cons_self ..)
  refine codeAny_forLoop (fun k s' => ∃ h' tk m' i, s' = { s with heap := h', toks := tk } ∧ St i h' ∧ h'.Ns env.locals m' ∧ J i m' h' ∧ i ≤ n ∧ k = n + 1 - i ∧ KB (env.locals :: (wr ++ X)) s.heap h') ?_ (n + 1)
    ⟨s.heap, s.toks, m₀, 0, rfl, hst, hn, h0, Nat.zero_le _, rfl, KB.rfl⟩
  rintro k s' ⟨h', tk, m', i, rfl, hst', hn', hJ, hi, rfl, hk⟩
  by_cases hlt : i < n
  · refine W.item i _ _ _ hlt hst' fun v h₁ tk₁ hP hst₁ hk₁ => ?_
    have hn₁ : h₁.Ns env.locals m' := hn'.at' fun o e => hk₁ _ o hLw e
    refine wpAny_assign_Name (wpAny_storeName_local hx hn₁ (fun h₂ hn₂ hs₂ => ?_) hp)
    have k1 : KB (env.locals :: wr) h' h₂ := KB.trans (h' := h₁) (fun b o n e => hk₁ b o (fun q => n (List.mem_cons_of_mem _ q)) e) (KB.same hs₂ (List.mem_cons_self ..))
    have k2 : KB (env.locals :: (wr ++ X)) s.heap h₂ := hk.trans (k1.mono fun b hb => by simp only [List.mem_cons, List.mem_append] at hb ⊢; rcases hb with hb | hb <;> simp [hb])
    have hst₂ : St (i + 1) h₂ := W.frame _ _ _ hst₁ fun b hb o e => (hs₂.2 b (fun q => hfp b hb (q ▸ List.mem_cons_self ..))).trans e
    refine wpAny_mono (wpAny_passesOwn hE (turn i v m' h₂ _ hlt hP (stab _ _ _ _ hJ k1) k2 hn₂ (hob _ _ hst₂))) (fun f s₃ h₃ => ?_) fun _ _ e => e
    have fin : (∃ m' h' tk', s₃ = { s with heap := h', toks := tk' } ∧ h'.Ns env.locals m' ∧ KB (env.locals :: X) h₂ h' ∧ J (i + 1) m' h') →
        ∃ m, m < n + 1 - i ∧ ∃ h' tk m' i, s₃ = { s with heap := h', toks := tk } ∧ St i h' ∧ h'.Ns env.locals m' ∧ J i m' h' ∧ i ≤ n ∧ m = n + 1 - i ∧ KB (env.locals :: (wr ++ X)) s.heap h' := by
      rintro ⟨m₃, h₃', tk₃, rfl, hn₃, k₃, hJ₃⟩
      refine ⟨n + 1 - (i + 1), by walk_at "om", h₃', tk₃, m₃, i + 1, rfl, W.frame _ _ _ hst₂ fun b hb o e => k₃ b o (hfp b hb) e, hn₃, hJ₃, hlt, rfl, k2.trans (k₃.mono fun b hb => ?_)⟩
      simp only [List.mem_cons, List.mem_append] at hb ⊢
      rcases hb with hb | hb <;> simp [hb]
    cases f with
    | ret v => exact h₃
    | brk => exact h₃
    | next => exact fin h₃
    | cont => exact fin h₃
  · obtain rfl : i = n := by walk_at "om"
    refine W.done _ _ _ hst' fun h₁ tk₁ hk₁ => wpAny_execs_nil ?_
    have k1 : KB (env.locals :: wr) h' h₁ := fun b o n e => hk₁ b o (fun q => n (List.mem_cons_of_mem _ q)) e
    exact done m' h₁ tk₁ (stab _ _ _ _ hJ k1) (hk.trans (k1.mono fun b hb => by simp only [List.mem_cons, List.mem_append] at hb ⊢; rcases hb with hb | hb <;> simp [hb])) (hn'.at' fun o e => hk₁ _ o hLw e)

abbrev ForPost (prog : Program) (w : World) (A : Around) (env : Env) (x : Str) (px : Pos) (body : List Stmt) (Q : Flow → Shared → Prop) (E : Value → Shared → Prop) (it : Value) (s₂ : Shared) : Prop :=
  codeAny (model prog w) A (.forLoop (.Name x px) it body [] env) (fun r s' => match r with | .ok f => Q f s' | .error e => cameBackBy (model prog w) A env E e s') s₂

theorem lt_of_ns {h : Heap} {a : Addr} {m : Str → Option Value} (hn : h.Ns a m) : a < h.objs.size := hn.lt

/-- for over a list that the body leaves alone -/
theorem iter_list {Q : Flow → Shared → Prop} {x : Str} {px : Pos} {body : List Stmt} {ax : Addr} {items : Array Value} {m₀ : Str → Option Value} (X : List Addr) (J : Addr → Nat → (Str → Option Value) → Heap → Prop)
    (hh : A.handled = none) (hl : s.heap.IsList ax items) (hax : ax ∉ env.locals :: X) (hX : ∀ b ∈ X, b < s.heap.objs.size)
    (hx : env.kindOf x = some .local) (hp : (env.scope.kind == .class || (env.scope.kind == .module && env.locals != env.globals)) = false)
    (hn : s.heap.Ns env.locals m₀) (h0 : J s.heap.objs.size 0 m₀ s.heap)
    (stab : ∀ i m h h', J s.heap.objs.size i m h → KB [env.locals, s.heap.objs.size] h h' → J s.heap.objs.size i m h')
    (turn : ∀ i v m h tk, items[i]? = some v → J s.heap.objs.size i m h → KB (env.locals :: s.heap.objs.size :: X) s.heap h → h.Ns env.locals (upd m x v) → (∃ o, h.get? s.heap.objs.size = some o) →
      wpAny (model prog w) A (execs body env) (TurnEnd env.locals X (J s.heap.objs.size (i + 1)) s h Q) E { s with heap := h, toks := tk })
    (done : ∀ m h tk, J s.heap.objs.size items.size m h → KB (env.locals :: X) s.heap h → h.Ns env.locals m → Q .next { s with heap := h, toks := tk })
    (hE : PassesOwn (model prog w) A env E := by passes_own) :
    wpAny (model prog w) A (pyIter (.ref ax)) (ForPost prog w A env x px body Q E) E s := by
  obtain ⟨ol, hol, _⟩ := id hl
  have hne : ax ≠ s.heap.objs.size := Nat.ne_of_lt (Heap.lt_size hol)
  refine wpAny_pyIter_list hl ?_
  have W := Walks.list (prog := prog) (w := w) hh s.heap.objs.size ax hne items
  have le : Le s.heap (s.heap.push { cls := .type "list_iterator", data := .fields #[.ref ax, .int 0 0] }) := Le.push _
  have hnI : s.heap.objs.size ∉ env.locals :: X := by
    intro q
    rcases List.mem_cons.mp q with q | q
    · exact Nat.lt_irrefl _ (q ▸ hn.lt)
    · exact Nat.lt_irrefl _ (hX _ q)
  refine for_walk (m₀ := m₀) W X (J s.heap.objs.size) hx hp ?_ ⟨⟨_, Heap.get?_push_size _ rfl, rfl, rfl⟩, hl.push _⟩ (hn.push _) (stab _ _ _ _ h0 (KB.of_le le)) (fun i m h h' hj hk => stab i m h h' hj hk) (fun i h st => by obtain ⟨⟨o, ho, _⟩, _⟩ := st; exact ⟨o, ho⟩) ?_ ?_ hE
  · intro b hb
    rcases List.mem_cons.mp hb with rfl | hb
    · exact hnI
    · rw [List.mem_singleton.mp hb]; exact hax
  · intro i v m h tk _ hP hJ hk hns hI
    exact turn i v m h tk hP hJ (KB.trans (KB.of_le le) hk) hns hI
  · intro m h tk hJ hk hns
    refine done m h tk hJ (fun b o hb e => ?_) hns
    have hb' : b ≠ s.heap.objs.size := Nat.ne_of_lt (Heap.lt_size e)
    refine hk b o (fun q => ?_) (le b o e)
    rcases List.mem_cons.mp q with q | q
    · exact hb (q ▸ List.mem_cons_self ..)
    · rcases List.mem_cons.mp q with q | q
      · exact hb' q
      · exact hb (List.mem_cons_of_mem _ q)

/-- for over a range -/
theorem iter_range {Q : Flow → Shared → Prop} {x : Str} {px : Pos} {body : List Stmt} {r : Addr} {a b : Int} {t u v : Tok} {n : Nat} {m₀ : Str → Option Value} (X : List Addr) (J : Addr → Nat → (Str → Option Value) → Heap → Prop)
    (hh : A.handled = none) (hr : IsRange s.heap r a b 1 t u v) (hsmall : Builtin.Range.small a b 1 = true) (hsz : Builtin.Range.rangeSize a b 1 = (n : Int)) (hX : ∀ b ∈ X, b < s.heap.objs.size)
    (hx : env.kindOf x = some .local) (hp : (env.scope.kind == .class || (env.scope.kind == .module && env.locals != env.globals)) = false)
    (hn : s.heap.Ns env.locals m₀) (h0 : J s.heap.objs.size 0 m₀ s.heap)
    (stab : ∀ i m h h', J s.heap.objs.size i m h → KB [env.locals, s.heap.objs.size] h h' → J s.heap.objs.size i m h')
    (turn : ∀ i t m h tk, i < n → J s.heap.objs.size i m h → KB (env.locals :: s.heap.objs.size :: X) s.heap h → h.Ns env.locals (upd m x (.int (a + (i : Int)) t)) → (∃ o, h.get? s.heap.objs.size = some o) →
      wpAny (model prog w) A (execs body env) (TurnEnd env.locals X (J s.heap.objs.size (i + 1)) s h Q) E { s with heap := h, toks := tk })
    (done : ∀ m h tk, J s.heap.objs.size n m h → KB (env.locals :: X) s.heap h → h.Ns env.locals m → Q .next { s with heap := h, toks := tk })
    (hE : PassesOwn (model prog w) A env E := by passes_own) :
    wpAny (model prog w) A (pyIter (.ref r)) (ForPost prog w A env x px body Q E) E s := by
  refine wpAny_pyIter_range hr hsmall ?_
  have W := Walks.range (prog := prog) (w := w) hh s.heap.objs.size a 1 n
  have le : Le s.heap (s.heap.push { cls := .type "range_iterator", data := .fields #[rawInt a, rawInt (Builtin.Range.rangeSize a b 1), rawInt 1] }) := Le.push _
  have hnI : s.heap.objs.size ∉ env.locals :: X := by
    intro q
    rcases List.mem_cons.mp q with q | q
    · exact Nat.lt_irrefl _ (q ▸ hn.lt)
    · exact Nat.lt_irrefl _ (hX _ q)
  refine for_walk (m₀ := m₀) W X (J s.heap.objs.size) hx hp ?_ ?_ (hn.push _) (stab _ _ _ _ h0 (KB.of_le le)) (fun i m h h' hj hk => stab i m h h' hj hk) (fun i h st => ⟨_, st⟩) ?_ ?_ hE
  · intro b hb
    rw [List.mem_singleton.mp hb]; exact hnI
  · show IsRangeIter _ _ _ _ _
    rw [hsz]
    simpa using Heap.get?_push_size _ rfl
  · rintro i v m h tk hi ⟨t', rfl⟩ hJ hk hns hI
    rw [Int.mul_one] at hns
    exact turn i t' m h tk hi hJ (KB.trans (KB.of_le le) hk) hns hI
  · intro m h tk hJ hk hns
    refine done m h tk hJ (fun b o hb e => ?_) hns
    have hb' : b ≠ s.heap.objs.size := Nat.ne_of_lt (Heap.lt_size e)
    refine hk b o (fun q => ?_) (le b o e)
    rcases List.mem_cons.mp q with q | q
    · exact hb (q ▸ List.mem_cons_self ..)
    · rcases List.mem_cons.mp q with q | q
      · exact hb' q
      · exact hb (List.mem_cons_of_mem _ q)

/-- for over a tuple -/
theorem iter_tuple {Q : Flow → Shared → Prop} {x : Str} {px : Pos} {body : List Stmt} {ax : Addr} {items : Array Value} {m₀ : Str → Option Value} (X : List Addr) (J : Addr → Nat → (Str → Option Value) → Heap → Prop)
    (hh : A.handled = none) (hl : s.heap.IsTuple ax items) (hax : ax ∉ env.locals :: X) (hX : ∀ b ∈ X, b < s.heap.objs.size)
    (hx : env.kindOf x = some .local) (hp : (env.scope.kind == .class || (env.scope.kind == .module && env.locals != env.globals)) = false)
    (hn : s.heap.Ns env.locals m₀) (h0 : J s.heap.objs.size 0 m₀ s.heap)
    (stab : ∀ i m h h', J s.heap.objs.size i m h → KB [env.locals, s.heap.objs.size] h h' → J s.heap.objs.size i m h')
    (turn : ∀ i v m h tk, items[i]? = some v → J s.heap.objs.size i m h → KB (env.locals :: s.heap.objs.size :: X) s.heap h → h.Ns env.locals (upd m x v) → (∃ o, h.get? s.heap.objs.size = some o) →
      wpAny (model prog w) A (execs body env) (TurnEnd env.locals X (J s.heap.objs.size (i + 1)) s h Q) E { s with heap := h, toks := tk })
    (done : ∀ m h tk, J s.heap.objs.size items.size m h → KB (env.locals :: X) s.heap h → h.Ns env.locals m → Q .next { s with heap := h, toks := tk })
    (hE : PassesOwn (model prog w) A env E := by passes_own) :
    wpAny (model prog w) A (pyIter (.ref ax)) (ForPost prog w A env x px body Q E) E s := by
  obtain ⟨ol, hol, hr⟩ := id hl
  have hne : ax ≠ s.heap.objs.size := Nat.ne_of_lt (Heap.lt_size hol)
  refine wpAny_pyIter_tuple hl ?_
  have W := Walks.tuple (prog := prog) (w := w) hh s.heap.objs.size ax hne items
  have le : Le s.heap (s.heap.push { cls := .type "tuple_iterator", data := .fields #[.ref ax, .int 0 0] }) := Le.push _
  have hnI : s.heap.objs.size ∉ env.locals :: X := by
    intro q
    rcases List.mem_cons.mp q with q | q
    · exact Nat.lt_irrefl _ (q ▸ hn.lt)
    · exact Nat.lt_irrefl _ (hX _ q)
  refine for_walk (m₀ := m₀) W X (J s.heap.objs.size) hx hp ?_ ⟨⟨_, Heap.get?_push_size _ rfl, rfl, rfl⟩, ⟨ol, Heap.get?_push_of_some _ hol, hr⟩⟩ (hn.push _) (stab _ _ _ _ h0 (KB.of_le le)) (fun i m h h' hj hk => stab i m h h' hj hk) (fun i h st => by obtain ⟨⟨o, ho, _⟩, _⟩ := st; exact ⟨o, ho⟩) ?_ ?_ hE
  · intro b hb
    rcases List.mem_cons.mp hb with rfl | hb
    · exact hnI
    · rw [List.mem_singleton.mp hb]; exact hax
  · intro i v m h tk _ hP hJ hk hns hI
    exact turn i v m h tk hP hJ (KB.trans (KB.of_le le) hk) hns hI
  · intro m h tk hJ hk hns
    refine done m h tk hJ (fun b o hb e => ?_) hns
    have hb' : b ≠ s.heap.objs.size := Nat.ne_of_lt (Heap.lt_size e)
    refine hk b o (fun q => ?_) (le b o e)
    rcases List.mem_cons.mp q with q | q
    · exact hb (q ▸ List.mem_cons_self ..)
    · rcases List.mem_cons.mp q with q | q
      · exact hb' q
      · exact hb (List.mem_cons_of_mem _ q)
end

local macro_rules | `(tactic| walk_at "om") => `(tactic| first | with_reducible exact ar1 _ | with_reducible exact ar2 _ | with_reducible exact ar3 _ | with_reducible exact ar4 _ | with_reducible exact ar5 _ | with_reducible exact ar6 _ | with_reducible exact ar7 (by with_reducible assumption) (by with_reducible assumption) | with_reducible exact ar8 (by with_reducible assumption) | with_reducible exact ar9 (by with_reducible assumption) | walk_at "om0")

-- 02_defs.lean
abbrev P0 : Program := PySem.Challenge.pw_sx_zatlas_4
/-- the n-th statement of the text, a def -/
def defAt (i : Nat) : DefRec := match P0.main.body[i]? with
  | some (.FunctionDef name args body _ _ _ scope _ _ pos) => ⟨name, args, body, scope, pos⟩
  | _ => ⟨Str.empty, ⟨[], [], none, [], [], none, []⟩, [], ⟨.function, [], false, false, []⟩, ⟨0, 0, 0, 0⟩⟩
abbrev dGraphOk := defAt 1
abbrev dPathTo := defAt 2
abbrev dPathWeight := defAt 3
abbrev dCapacity := defAt 4
abbrev dAugment := defAt 5
abbrev dEdges := defAt 10
abbrev dLawful := defAt 11
abbrev dRoom := defAt 12
abbrev dWay := defAt 13
abbrev dWeight := defAt 14
abbrev dWalk := defAt 15
abbrev dTree := defAt 16
abbrev dLaw := defAt 17
/-- the def d lies at f -/
def FnIs (h : Heap) (f : Addr) (d : DefRec) : Prop := ∃ o pm code doc, h.get? f = some o ∧ o.data = .func (docDef d.name d.params d.body d.scope pm code doc) ∧ h.CodeRec code d.name
theorem FnIs.le {h h' : Heap} {f : Addr} {d : DefRec} (x : FnIs h f d) (l : Le h h') : FnIs h' f d :=
  let ⟨o, pm, code, doc, h1, h2, h3⟩ := x; ⟨o, pm, code, doc, l _ _ h1, h2, h3.keeps l⟩

-- 03_base.lean
def All2 {α β : Type} (R : α → β → Prop) : List α → List β → Prop
  | [], [] => True
  | a :: as, b :: bs => R a b ∧ All2 R as bs
  | _, _ => False
theorem All2.length {α β : Type} {R : α → β → Prop} : ∀ {as : List α} {bs : List β}, All2 R as bs → as.length = bs.length
  | [], [], _ => rfl
  | _ :: _, _ :: _, h => by simp [All2.length h.2]
theorem All2.get {α β : Type} {R : α → β → Prop} : ∀ {as : List α} {bs : List β}, All2 R as bs → ∀ {i : Nat} {a : α}, as[i]? = some a → ∃ b, bs[i]? = some b ∧ R a b
  | _ :: _, _ :: _, h, 0, _, e => by simp at e; subst e; exact ⟨_, rfl, h.1⟩
  | _ :: _, _ :: _, h, i + 1, _, e => by simp at e; simpa using All2.get h.2 e
theorem All2.mono {α β : Type} {R R' : α → β → Prop} (f : ∀ a b, R a b → R' a b) : ∀ {as : List α} {bs : List β}, All2 R as bs → All2 R' as bs
  | [], [], _ => trivial
  | _ :: _, _ :: _, h => ⟨f _ _ h.1, All2.mono f h.2⟩
theorem All2.snoc {α β : Type} {R : α → β → Prop} : ∀ {as : List α} {bs : List β} {a : α} {b : β}, All2 R as bs → R a b → All2 R (as ++ [a]) (bs ++ [b])
  | [], [], _, _, _, r => ⟨r, trivial⟩
  | _ :: _, _ :: _, _, _, h, r => ⟨h.1, All2.snoc h.2 r⟩

abbrev Edge := Int × Int × Int
def EdgeIs (h : Heap) (v : Value) (e : Edge) : Prop := ∃ a t1 t2 t3, v = .ref a ∧ IsTup h a #[.int e.1 t1, .int e.2.1 t2, .int e.2.2 t3]
def ListIs {α : Type} (R : Heap → Value → α → Prop) (h : Heap) (v : Value) (xs : List α) : Prop := ∃ l vs, v = .ref l ∧ h.IsList l vs.toArray ∧ All2 (R h) vs xs
theorem EdgeIs.le {h h' : Heap} {v : Value} {e : Edge} (x : EdgeIs h v e) (l : Le h h') : EdgeIs h' v e :=
  let ⟨a, t1, t2, t3, h1, h2⟩ := x; ⟨a, t1, t2, t3, h1, h2.keeps l⟩
theorem isList_le {h h' : Heap} {a : Addr} {items : Array Value} (x : h.IsList a items) (l : Le h h') : h'.IsList a items := x.at fun o e => l _ o e
theorem ListIs.le {α : Type} {R : Heap → Value → α → Prop} (hR : ∀ {h h' v x}, R h v x → Le h h' → R h' v x) {h h' : Heap} {v : Value} {xs : List α} (x : ListIs R h v xs) (l : Le h h') : ListIs R h' v xs :=
  let ⟨a, vs, h1, h2, h3⟩ := x; ⟨a, vs, h1, isList_le h2 l, h3.mono fun _ _ r => hR r l⟩

section
variable {M : Model} {A : Around} {E : Value → Shared → Prop} {s : Shared} {env : Env} {m : Str → Option Value}
theorem ev_loc {x : Str} {pos : Pos} {v : Value} {Q : Value → Shared → Prop} (hn : s.heap.Ns env.locals m) (hv : m x = some v) (h : Q v s)
    (hk : env.scope.kind = .function := by rfl) (hl : env.kindOf x = some .local := by rfl) (hd : (x == ("__debug__" : Str)) = false := by rfl) :
    wpAny M A (eval (.Name x pos) env) Q E s := wpAny_Name (wpAny_loadName_local hk hl hn hv h) hd
end



section
variable {prog : Program} {w : World} {A : Around} {E : Value → Shared → Prop} {s : Shared}
theorem item_tup {value slice : Expr} {a : Addr} {items : Array Value} {k : Int} {u : Tok} {x : Value} {Q : Value → Shared → Prop} (ht : IsTup s.heap a items)
    (h0 : 0 ≤ k) (hhi : k < 2 ^ 63) (hx : items.toList[k.toNat]? = some x) (h : Q x s)
    (hs : subscripted slice false (.ref a) (.int k u) = operate [.ref a, .int k u] (getItem (.ref a) (.int k u)) := by with_unfolding_all rfl) :
    wpAny (model prog w) A (subscriptTail value slice (.ref a) (.int k u)) Q E s := by
  rw [Array.getElem?_toList] at hx
  obtain ⟨hlt, _⟩ := Array.getElem?_eq_some_iff.mp hx
  exact tail_any ht.typeIs slot_tuple_getitem.lookup (getItem_tuple ht (by walk_at "om") hhi (seqIndex_of h0 (by walk_at "om")) hx h) hs
theorem item_list {value slice : Expr} {a : Addr} {items : Array Value} {k : Int} {u : Tok} {x : Value} {Q : Value → Shared → Prop} (hl : s.heap.IsList a items)
    (h0 : 0 ≤ k) (hhi : k < 2 ^ 63) (hx : items.toList[k.toNat]? = some x) (h : Q x s)
    (hs : subscripted slice false (.ref a) (.int k u) = operate [.ref a, .int k u] (getItem (.ref a) (.int k u)) := by with_unfolding_all rfl) :
    wpAny (model prog w) A (subscriptTail value slice (.ref a) (.int k u)) Q E s :=
  tail_any hl.typeIs slot_list_getitem.lookup (wpAny_getItem_list hl h0 hhi (by rw [Array.getElem?_toList] at hx; exact hx) h) hs
end

theorem if_tt {b : Bool} {P R : Prop} (hb : b = true) (h : P) : if b = true then P else R := by rw [if_pos hb]; exact h
theorem if_ff {b : Bool} {P R : Prop} (hb : b = false) (h : R) : if b = true then P else R := by rw [hb, if_neg Bool.false_ne_true]; exact h
theorem if_by {b : Bool} {P R : Prop} (h1 : b = true → P) (h2 : b = false → R) : if b = true then P else R := by
  cases b with
  | true => exact h1 rfl
  | false => exact h2 rfl

-- 04_ops.lean
-- needs: 01 02 03
section
variable {prog : Program} {w : World} {M : Model} {A : Around} {E : Value → Shared → Prop} {s : Shared} {env : Env} {m : Str → Option Value}
/-- behind a statement only P is kept -/
theorem seq_cut {st : Stmt} {rest : List Stmt} {Q : Flow → Shared → Prop} (P : Shared → Prop) (h1 : wpAny M A (exec st env) (fun f s' => f = .next ∧ P s') E s)
    (h2 : ∀ s', P s' → wpAny M A (execs rest env) Q E s') : wpAny M A (execs (st :: rest) env) Q E s :=
  wpAny_execs_cons (wpAny_mono h1 (fun f s' h => by obtain ⟨rfl, hp⟩ := h; exact h2 s' hp) fun _ _ e => e)
theorem fresh_none (h : Heap) : h.get? h.objs.size = none := Heap.get?_none_of_le (Nat.le_refl _)
theorem none_of_le {g h : Heap} (l : Le g h) : g.get? h.objs.size = none := by
  cases q : g.get? h.objs.size with
  | none => rfl
  | some o => exact absurd (Heap.lt_size (l _ _ q)) (Nat.lt_irrefl _)
theorem none_back {g h : Heap} {a : Addr} (l : Le g h) (e : h.get? a = none) : g.get? a = none := by
  cases q : g.get? a with
  | none => rfl
  | some o => rw [l _ _ q] at e; cases e
theorem ev_tup {elts : List Expr} {k : Nat} {pos : Pos} {Q : Value → Shared → Prop}
    (h : wpAny M A (spliced (backTo pos (starEach elts env))) (fun vs s₁ => vs.length < 1000 ∧ ∀ a h', Le s₁.heap h' → s₁.heap.get? a = none → IsTup h' a vs.toArray → Q (.ref a) { s₁ with heap := h' }) E s) :
    wpAny M A (eval (.Tuple elts k pos) env) Q E s :=
  wpAny_Tuple (wpAny_mono h (fun vs s₁ h₁ => ⟨by have := h₁.1; simp only [sizeLine]; omega, h₁.2 _ _ (Le.push _) (fresh_none _) (IsTup.new ..)⟩) fun _ _ e => e)
theorem ev_lst {elts : List Expr} {pos : Pos} {Q : Value → Shared → Prop}
    (h : wpAny M A (spliced (backTo pos (starEach elts env))) (fun vs s₁ => vs.length < 1000 ∧ ∀ a h', Le s₁.heap h' → s₁.heap.get? a = none → PlainL h' a vs.toArray → Q (.ref a) { s₁ with heap := h' }) E s) :
    wpAny M A (eval (.List elts pos) env) Q E s :=
  wpAny_List (wpAny_mono h (fun vs s₁ h₁ => ⟨by have := h₁.1; simp only [sizeLine]; omega, h₁.2 _ _ (Le.push _) (fresh_none _) ⟨_, _, Heap.get?_push_size _ rfl, rfl, rfl, rfl⟩⟩) fun _ _ e => e)
/-- xs.append(e) as a statement -/
theorem st_append {x : Str} {px apos pos spos : Pos} {elt : Expr} {D : Addr} {its₀ : Array Value} {Q : Flow → Shared → Prop} (hn : s.heap.Ns env.locals m) (hv : m x = some (.ref D)) (hD : PlainL s.heap D its₀)
    (h : wpAny (model prog w) A (eval elt env) (fun y s₂ => ∃ its, PlainL s₂.heap D its ∧ its.size < 1000 ∧ ∀ h', PlainL h' D (its.push y) → Heap.SameBut D s₂.heap h' → Q .next { s₂ with heap := h' }) E s)
    (hk : env.scope.kind = .function := by rfl) (hl : env.kindOf x = some .local := by rfl) (hd : (x == ("__debug__" : Str)) = false := by rfl)
    (hbase : attributeBase (.Name x px) "append" env (eval (.Name x px) env) = eval (.Name x px) env := by rfl)
    (hfew : ((backTo pos (starEach [elt] env)).all (fun x => !x.1) && (backToKw pos (keywordEach [] env)).all (fun x => x.1.isSome)
      && decide (([elt] : List Expr).length + ([] : List Keyword).length + (if ([] : List Keyword).isEmpty then 0 else 1) < 30)) = true := by rfl)
    (hline : (apos.endLine == pos.line) = true := by rfl)
    (htrees : backTo pos (starEach [elt] env) = [(false, eval elt env)] := by rfl) (hi : interactive env = false := by rfl) (hs : swapsWith (.Call (.Attribute (.Name x px) "append" apos) [elt] [] pos) none spos.line env = pure false := by rfl) :
    wpAny (model prog w) A (exec (.Expr (.Call (.Attribute (.Name x px) "append" apos) [elt] [] pos) spos) env) Q E s :=
  wpAny_Expr (wpAny_Call_append hbase hfew hline htrees (ev_loc hn hv ⟨D, its₀, rfl, hD, wpAny_mono h (fun y s₂ ⟨its, h1, h2, h3⟩ => list_append_plainL h1 (fun h' a b => h3 h' a b) (by simp only [sizeLine]; omega)) fun _ _ e => e⟩ hk hl hd)) hi hs
end
section
variable {prog : Program} {w : World} {A : Around} {E : Value → Shared → Prop} {s : Shared}
theorem intsAre_get {vs : List Value} {ns : List Int} (h : IntsAre vs ns) {i : Nat} (hi : i < ns.length) : ∃ t, vs[i]? = some (.int (ns.getD i 0) t) := by
  induction h generalizing i with
  | nil => simp at hi
  | cons n t _ ih =>
    cases i with
    | zero => exact ⟨t, by simp⟩
    | succ i =>
      obtain ⟨u, e⟩ := ih (i := i) (by simpa using hi)
      exact ⟨u, by simpa using e⟩
theorem item_inttup {value slice : Expr} {a : Addr} {vs : List Value} {ns : List Int} {k : Int} {u : Tok} {Q : Value → Shared → Prop} (ht : IsTup s.heap a vs.toArray) (hi : IntsAre vs ns) (h0 : 0 ≤ k) (hk : k < ns.length) (hb : ns.length < 1000)
    (h : ∀ t, Q (.int (ns.getD k.toNat 0) t) s)
    (hs : subscripted slice false (.ref a) (.int k u) = operate [.ref a, .int k u] (getItem (.ref a) (.int k u)) := by with_unfolding_all rfl) :
    wpAny (model prog w) A (subscriptTail value slice (.ref a) (.int k u)) Q E s := by
  obtain ⟨t, e⟩ := intsAre_get hi (i := k.toNat) (by walk_at "om")
  exact item_tup ht h0 (by walk_at "om") (by simpa using e) (h t) hs
end

-- 05_ctx.lean
-- needs: 01 02 03
/-- a tuple of ints -/
def IntTup (h : Heap) (a : Addr) (ns : List Int) : Prop := ∃ vs, IsTup h a (List.toArray vs) ∧ IntsAre vs ns
theorem IntTup.le {h h' : Heap} {a : Addr} {ns : List Int} (x : IntTup h a ns) (l : Le h h') : IntTup h' a ns := let ⟨vs, h1, h2⟩ := x; ⟨vs, h1.keeps l, h2⟩
def theDefs : List Nat := [1, 2, 3, 4, 5, 10, 11, 12, 13, 14, 15, 16, 17]
def theBuiltins : List Str := ["range", "len", "min", "list", "sum", "all", "dict", "sorted", "IndexError", "type", "int", "bool"]
/-- what the top left, as far as the functions ask it -/
structure Cx (mg mb : Str → Option Value) (h : Heap) : Prop where
  g : h.Ns mainGlobals mg
  b : h.Ns builtinsNs mb
  lim : h.NoLimit
  bl : ∀ x : Str, x ≠ "__name__" → mb x = bootBuiltins x
  fn : ∀ i ∈ theDefs, ∃ f, mg (defAt i).name = some (.ref f) ∧ FnIs h f (defAt i)
  no : ∀ x ∈ theBuiltins, mg x = none
  steps : ∃ a, mg "_law_steps" = some (.ref a) ∧ IntTup h a [1, 1, 1, 2, 3, 0]
  weights : ∃ a, mg "_law_weights" = some (.ref a) ∧ IntTup h a [1, 2, 1, 0, -1, 3]
  sizes : ∃ a, mg "_law_sizes" = some (.ref a) ∧ IntTup h a [5, 4, 5, 2, 0, 5]
theorem Cx.le {mg mb : Str → Option Value} {h h' : Heap} (C : Cx mg mb h) (l : Le h h') : Cx mg mb h' where
  g := C.g.keeps l
  b := C.b.keeps l
  lim := C.lim.keeps l
  bl := C.bl
  fn := fun i hi => let ⟨f, h1, h2⟩ := C.fn i hi; ⟨f, h1, h2.le l⟩
  no := C.no
  steps := let ⟨a, h1, h2⟩ := C.steps; ⟨a, h1, h2.le l⟩
  weights := let ⟨a, h1, h2⟩ := C.weights; ⟨a, h1, h2.le l⟩
  sizes := let ⟨a, h1, h2⟩ := C.sizes; ⟨a, h1, h2.le l⟩
theorem blt_range : bootBuiltins "range" = some (.type "range") := by kernel_rfl
theorem blt_list : bootBuiltins "list" = some (.type "list") := by kernel_rfl
theorem blt_dict : bootBuiltins "dict" = some (.type "dict") := by kernel_rfl
theorem blt_int : bootBuiltins "int" = some (.type "int") := by kernel_rfl
theorem blt_bool : bootBuiltins "bool" = some (.type "bool") := by kernel_rfl
theorem blt_type : bootBuiltins "type" = some (.type "type") := by kernel_rfl
theorem blt_len : bootBuiltins "len" = some (.builtin "len") := by kernel_rfl
theorem blt_min : bootBuiltins "min" = some (.builtin "min") := by kernel_rfl
theorem blt_sum : bootBuiltins "sum" = some (.builtin "sum") := by kernel_rfl
theorem blt_all : bootBuiltins "all" = some (.builtin "all") := by kernel_rfl
theorem blt_sorted : bootBuiltins "sorted" = some (.builtin "sorted") := by kernel_rfl
theorem blt_ixe : bootBuiltins "IndexError" = some (.type "IndexError") := by kernel_rfl

def bltV (x : Str) : Option Value := [(Str.ofString "range", Value.type "range"), (Str.ofString "len", .builtin "len"), (Str.ofString "list", .type "list"), (Str.ofString "min", .builtin "min"), (Str.ofString "sum", .builtin "sum"), (Str.ofString "all", .builtin "all"), (Str.ofString "dict", .type "dict"), (Str.ofString "sorted", .builtin "sorted"), (Str.ofString "type", .type "type"), (Str.ofString "int", .type "int"), (Str.ofString "bool", .type "bool"), (Str.ofString "IndexError", .type "IndexError")].lookup x
theorem bltV_is {x : Str} {v : Value} (h : bltV x = some v) : bootBuiltins x = some v ∧ x ∈ theBuiltins ∧ x ≠ "__name__" := by
  have key : ∀ (l : List (Str × Value)), (∀ p ∈ l, bootBuiltins p.1 = some p.2 ∧ p.1 ∈ theBuiltins ∧ p.1 ≠ "__name__") → l.lookup x = some v → bootBuiltins x = some v ∧ x ∈ theBuiltins ∧ x ≠ "__name__" := by
    intro l
    induction l with
    | nil => intro _ q; cases q
    | cons p l ih =>
      intro hl q
      rw [List.lookup_cons] at q
      split at q
      · rename_i e
        cases q
        rw [beq_iff_eq.mp e]
        exact hl p (List.mem_cons_self ..)
      · exact ih (fun p hp => hl p (List.mem_cons_of_mem _ hp)) q
  refine key _ (fun p hp => ?_) h
  simp only [List.mem_cons, List.not_mem_nil, or_false] at hp
  rcases hp with rfl | rfl | rfl | rfl | rfl | rfl | rfl | rfl | rfl | rfl | rfl | rfl
  · exact ⟨blt_range, by decide, by decide⟩
  · exact ⟨blt_len, by decide, by decide⟩
  · exact ⟨blt_list, by decide, by decide⟩
  · exact ⟨blt_min, by decide, by decide⟩
  · exact ⟨blt_sum, by decide, by decide⟩
  · exact ⟨blt_all, by decide, by decide⟩
  · exact ⟨blt_dict, by decide, by decide⟩
  · exact ⟨blt_sorted, by decide, by decide⟩
  · exact ⟨blt_type, by decide, by decide⟩
  · exact ⟨blt_int, by decide, by decide⟩
  · exact ⟨blt_bool, by decide, by decide⟩
  · exact ⟨blt_ixe, by decide, by decide⟩
section
variable {M : Model} {A : Around} {E : Value → Shared → Prop} {s : Shared} {env : Env} {m mg mb : Str → Option Value} {g : Heap}
theorem ev_glob {x : Str} {pos : Pos} {v : Value} {Q : Value → Shared → Prop} (C : Cx mg mb g) (hle : Le g s.heap) (hv : mg x = some v) (h : Q v s)
    (hk : env.scope.kind = .function := by rfl) (hl : env.kindOf x = some .globalImplicit := by rfl) (hg : env.globals = mainGlobals := by rfl) (hd : (x == ("__debug__" : Str)) = false := by rfl) :
    wpAny M A (eval (.Name x pos) env) Q E s := Name_function_global hk hl (loadGlobal_global (by rw [hg]; exact C.g.keeps hle) hv h) hd
theorem ev_blt {x : Str} {pos : Pos} {v : Value} {Q : Value → Shared → Prop} (C : Cx mg mb g) (hle : Le g s.heap) (hv : bootBuiltins x = some v) (hx : x ∈ theBuiltins) (hn : x ≠ "__name__") (h : Q v s)
    (hk : env.scope.kind = .function := by rfl) (hl : env.kindOf x = some .globalImplicit := by rfl) (hg : env.globals = mainGlobals := by rfl) (hb : env.builtins = builtinsNs := by rfl) (hd : (x == ("__debug__" : Str)) = false := by rfl) :
    wpAny M A (eval (.Name x pos) env) Q E s :=
  Name_function_global hk hl (loadGlobal_builtin (by rw [hg]; exact C.g.keeps hle) (C.no x hx) (by rw [hb]; exact C.b.keeps hle) ((C.bl x hn).trans hv) h) hd
theorem ev_bltV {x : Str} {pos : Pos} {v : Value} {Q : Value → Shared → Prop} (C : Cx mg mb g) (hle : Le g s.heap) (hv : bltV x = some v) (h : Q v s)
    (hk : env.scope.kind = .function := by rfl) (hl : env.kindOf x = some .globalImplicit := by rfl) (hg : env.globals = mainGlobals := by rfl) (hb : env.builtins = builtinsNs := by rfl) (hd : (x == ("__debug__" : Str)) = false := by rfl) :
    wpAny M A (eval (.Name x pos) env) Q E s := ev_blt C hle (bltV_is hv).1 (bltV_is hv).2.1 (bltV_is hv).2.2 h hk hl hg hb hd
theorem ev_fn {x : Str} {pos : Pos} {Q : Value → Shared → Prop} (C : Cx mg mb g) (hle : Le g s.heap) (i : Nat) (hi : i ∈ theDefs) (hx : (defAt i).name = x) (h : ∀ f, FnIs g f (defAt i) → Q (.ref f) s)
    (hk : env.scope.kind = .function := by rfl) (hl : env.kindOf x = some .globalImplicit := by rfl) (hg : env.globals = mainGlobals := by rfl) (hd : (x == ("__debug__" : Str)) = false := by rfl) :
    wpAny M A (eval (.Name x pos) env) Q E s := by
  obtain ⟨f, h1, h2⟩ := C.fn i hi
  subst hx
  exact ev_glob C hle h1 (h f h2) hk hl hg hd
/-- a store of a local name: the frozen part stays -/
theorem st_fz {x : Str} {v : Value} {Q : Unit → Shared → Prop} (hn : s.heap.Ns env.locals m) (hle : Le g s.heap) (off : g.get? env.locals = none)
    (h : ∀ h' tk, h'.Ns env.locals (upd m x v) → Le g h' → Heap.SameBut env.locals s.heap h' → Q () { s with heap := h', toks := tk })
    (hl : env.kindOf x = some .local := by rfl) (hp : (env.scope.kind == .class || (env.scope.kind == .module && env.locals != env.globals)) = false := by rfl) :
    wpAny M A (storeName env x v) Q E s :=
  wpAny_storeName_local hl hn (fun h' hn' hs => h h' _ hn' (fun b o e => (hs.2 b (fun q => by rw [q, off] at e; cases e)).trans (hle b o e)) hs) hp
theorem Call_Name3 {x : Str} {p pos : Pos} {e₁ e₂ e₃ : Expr} {Q : Value → Shared → Prop}
    (h : wpAny M A (eval (.Name x p) env) (fun f s₁ => wpAny M A (callWith pos f [] [(false, eval e₁ env), (false, eval e₂ env), (false, eval e₃ env)] []) Q E s₁) E s)
    (hs : starEach [e₁, e₂, e₃] env = [(false, eval e₁ env), (false, eval e₂ env), (false, eval e₃ env)] := by rfl) :
    wpAny M A (eval (.Call (.Name x p) [e₁, e₂, e₃] [] pos) env) Q E s := Call_Name (by rw [hs]; rfl) h
theorem Call_Name4 {x : Str} {p pos : Pos} {e₁ e₂ e₃ e₄ : Expr} {Q : Value → Shared → Prop}
    (h : wpAny M A (eval (.Name x p) env) (fun f s₁ => wpAny M A (callWith pos f [] [(false, eval e₁ env), (false, eval e₂ env), (false, eval e₃ env), (false, eval e₄ env)] []) Q E s₁) E s)
    (hs : starEach [e₁, e₂, e₃, e₄] env = [(false, eval e₁ env), (false, eval e₂ env), (false, eval e₃ env), (false, eval e₄ env)] := by rfl) :
    wpAny M A (eval (.Call (.Name x p) [e₁, e₂, e₃, e₄] [] pos) env) Q E s := Call_Name (by rw [hs]; rfl) h
theorem Call_Name5 {x : Str} {p pos : Pos} {e₁ e₂ e₃ e₄ e₅ : Expr} {Q : Value → Shared → Prop}
    (h : wpAny M A (eval (.Name x p) env) (fun f s₁ => wpAny M A (callWith pos f [] [(false, eval e₁ env), (false, eval e₂ env), (false, eval e₃ env), (false, eval e₄ env), (false, eval e₅ env)] []) Q E s₁) E s)
    (hs : starEach [e₁, e₂, e₃, e₄, e₅] env = [(false, eval e₁ env), (false, eval e₂ env), (false, eval e₃ env), (false, eval e₄ env), (false, eval e₅ env)] := by rfl) :
    wpAny M A (eval (.Call (.Name x p) [e₁, e₂, e₃, e₄, e₅] [] pos) env) Q E s := Call_Name (by rw [hs]; rfl) h
/-- the arguments of a call, none starred -/
theorem cw_type {pos : Pos} {T : String} {x : Sem Value} {rest : List (Bool × Sem Value)} {Q : Value → Shared → Prop} (hp : rest.any (·.1) = false)
    (h : wpAny M A (spliced ((false, x) :: rest)) (fun vs s₁ => wpAny M A (call (.type T) vs) Q E s₁) E s) : wpAny M A (callWith pos (.type T) [] ((false, x) :: rest) []) Q E s :=
  PyProof.Rows.callWith_type (by rw [List.any_cons, hp]; rfl) (evalArgs_plain h)
theorem cw_blt {pos : Pos} {T : String} {x : Sem Value} {rest : List (Bool × Sem Value)} {Q : Value → Shared → Prop} (hp : rest.any (·.1) = false)
    (h : wpAny M A (spliced ((false, x) :: rest)) (fun vs s₁ => wpAny M A (call (.builtin T) vs) Q E s₁) E s) : wpAny M A (callWith pos (.builtin T) [] ((false, x) :: rest) []) Q E s :=
  callWith_builtin (by rw [List.any_cons, hp]; rfl) (evalArgs_plain h)
theorem callWith_fn {pos : Pos} {f : Addr} {d : DefRec} {x : Sem Value} {rest : List (Bool × Sem Value)} {Q : Value → Shared → Prop} (hf : FnIs g f d)
    (h : wpAny M A (spliced ((false, x) :: rest)) (fun vs s₁ => Le g s₁.heap ∧ wpAny M A (call (.ref f) vs) Q E s₁) E s) :
    wpAny M A (callWith pos (.ref f) [] ((false, x) :: rest) []) Q E s := by
  obtain ⟨o, pm, code, doc, ho, hd, hc⟩ := hf
  exact callWith_function (o := o) (evalArgs_plain (wpAny_mono h (fun vs s₁ h₁ => ⟨⟨h₁.1 _ _ ho, hd⟩, h₁.2⟩) fun _ _ e => e))
end
theorem freeze {h₀ h : Heap} {L : Addr} (hle : Le h₀ h) (off : h₀.get? L = none) : ∃ g, Le h₀ g ∧ Le g h ∧ g.get? L = none ∧ ∀ a o, a ≠ L → h.get? a = some o → g.get? a = some o :=
  ⟨hide h [L], le_hide hle (by simpa using off), hide_le _ _, hide_off _ _ L (by simp), fun a o n e => by rw [hide_get, if_neg (by simpa using n)]; exact e⟩
theorem list_ne {h : Heap} {a L : Addr} {its : Array Value} {m : Str → Option Value} (hl : h.IsList a its) (hn : h.Ns L m) : a ≠ L := by
  rintro rfl
  obtain ⟨o, ho, _, k, hd⟩ := hl
  obtain ⟨o', es, ep, ho', hd', _⟩ := hn
  rw [ho] at ho'; cases ho'
  rw [hd] at hd'; cases hd'
theorem tup_ne {h : Heap} {a L : Addr} {its : Array Value} {m : Str → Option Value} (hl : IsTup h a its) (hn : h.Ns L m) : a ≠ L := by
  rintro rfl
  obtain ⟨o, ho, _, k, hd⟩ := hl
  obtain ⟨o', es, ep, ho', hd', _⟩ := hn
  rw [ho] at ho'; cases ho'
  rw [hd] at hd'; cases hd'
def IntIs (h : Heap) (v : Value) (i : Int) : Prop := ∃ t, v = .int i t
theorem IntIs.le {h h' : Heap} {v : Value} {i : Int} (x : IntIs h v i) (_ : Le h h') : IntIs h' v i := x
theorem intsAre_all2 {h : Heap} {vs : List Value} {ns : List Int} : IntsAre vs ns ↔ All2 (IntIs h) vs ns := by
  constructor
  · intro x
    induction x with
    | nil => trivial
    | cons n t _ ih => exact ⟨⟨t, rfl⟩, ih⟩
  · induction vs generalizing ns with
    | nil => cases ns <;> intro x <;> first | exact .nil | exact x.elim
    | cons v vs ih =>
      cases ns with
      | nil => intro x; exact x.elim
      | cons n ns =>
        rintro ⟨⟨t, rfl⟩, r⟩
        exact .cons n t (ih r)
abbrev Ints (h : Heap) (v : Value) (ns : List Int) : Prop := ListIs IntIs h v ns
def IsRg (h : Heap) (r : Addr) (a b : Int) : Prop := ∃ t u v, IsRange h r a b 1 t u v
theorem IsRg.le {h h' : Heap} {r : Addr} {a b : Int} (x : IsRg h r a b) (l : Le h h') : IsRg h' r a b := let ⟨t, u, v, e⟩ := x; ⟨t, u, v, l _ _ e⟩
def upTo (a b : Int) : List Int := (List.range (b - a).toNat).map fun i : Nat => a + (i : Int)
theorem upTo_length (a b : Int) : (upTo a b).length = (b - a).toNat := by simp [upTo]
theorem mem_upTo {a b k : Int} : k ∈ upTo a b ↔ a ≤ k ∧ k < b := by
  simp only [upTo, List.mem_map, List.mem_range]
  constructor
  · rintro ⟨i, hi, rfl⟩; omega
  · rintro ⟨h1, h2⟩; exact ⟨(k - a).toNat, by walk_at "om", by walk_at "om"⟩
theorem rangeSize_nat (a b : Int) : Builtin.Range.rangeSize a b 1 = (((b - a).toNat : Nat) : Int) := by rw [rangeSize_one]; split <;> omega
theorem intsAre_items {n : Nat} {acc : Array Value} {a : Int} (h : ItemsOf (fun i v => ∃ t, v = .int (a + i * 1) t) acc n) : IntsAre acc.toList ((List.range n).map fun i : Nat => a + (i : Int)) := by
  obtain ⟨hs, hp⟩ := h
  suffices H : ∀ (l : List Value) (k : Nat), (∀ j v, l[j]? = some v → ∃ t, v = Value.int (a + ((k + j : Nat) : Int)) t) → IntsAre l ((List.range' k l.length).map fun i : Nat => a + (i : Int)) by
    have := H acc.toList 0 (fun j v hj => by
      obtain ⟨t, e⟩ := hp j v (by simpa using hj)
      exact ⟨t, by rw [e]; simp⟩)
    rw [List.range_eq_range']
    simpa [hs] using this
  intro l
  induction l with
  | nil => intro k _; exact .nil
  | cons v r ih =>
    intro k hk
    obtain ⟨t, rfl⟩ := hk 0 v rfl
    simp only [List.length_cons, List.range'_succ, List.map_cons, Nat.add_zero]
    exact .cons _ _ (ih (k + 1) fun j u hj => by
      obtain ⟨t, e⟩ := hk (j + 1) u (by simpa using hj)
      exact ⟨t, by rw [e]; congr 2; omega⟩)
section
variable {prog : Program} {w : World} {A : Around} {E : Value → Shared → Prop} {s : Shared}
theorem range1 {n : Int} {t : Tok} {Q : Value → Shared → Prop} (h : ∀ r h' tk, Le s.heap h' → s.heap.get? r = none → IsRg h' r 0 n → Q (.ref r) { s with heap := h', toks := tk }) : wpAny (model prog w) A (call (.type "range") [.int n t]) Q E s :=
  call_range_1 (h _ _ _ (Le.push _) (Heap.get?_none_of_le (Nat.le_refl _)) ⟨_, _, _, IsRange.new ..⟩)
theorem range2 {a b : Int} {t u : Tok} {Q : Value → Shared → Prop} (h : ∀ r h' tk, Le s.heap h' → s.heap.get? r = none → IsRg h' r a b → Q (.ref r) { s with heap := h', toks := tk }) : wpAny (model prog w) A (call (.type "range") [.int a t, .int b u]) Q E s :=
  call_range_2 (h _ _ _ (Le.push _) (Heap.get?_none_of_le (Nat.le_refl _)) ⟨_, _, _, IsRange.new ..⟩)
theorem list_range {r : Addr} {a b : Int} {Q : Value → Shared → Prop} (hh : A.handled = none) (hr : IsRg s.heap r a b) (ha : -1000 < a) (ha' : a < 1000) (hb : -1000 < b) (hb' : b < 1000)
    (h : ∀ l h' tk, Le s.heap h' → s.heap.get? l = none → Ints h' (.ref l) (upTo a b) → Q (.ref l) { s with heap := h', toks := tk }) : wpAny (model prog w) A (call (.type "list") [.ref r]) Q E s := by
  obtain ⟨t, u, v, hr⟩ := hr
  refine call_list_range hh hr (small_one (by walk_at "om") (by walk_at "om") (by walk_at "om") (by walk_at "om")) (rangeSize_nat a b) (by walk_at "om") fun h' tk acc c' hk hS hit => ?_
  exact h _ h' tk hk (Heap.get?_none_of_le (Nat.le_refl _)) ⟨_, acc.toList, rfl, ⟨_, hS, rfl, c', by simp⟩, intsAre_all2.mp (intsAre_items hit)⟩
theorem len_of {l : Addr} {vs : List Value} {Q : Value → Shared → Prop} (hl : s.heap.IsList l vs.toArray) (hfit : vs.length < 1000)
    (h : ∀ t tk, Q (.int vs.length t) { s with toks := tk }) : wpAny (model prog w) A (call (.builtin "len") [.ref l]) Q E s :=
  call_len_list hl (by simp; omega) (by simpa using h _ _)
end
theorem le_same {g h h' : Heap} {a : Addr} (l : Le g h) (hs : Heap.SameBut a h h') (off : g.get? a = none) : Le g h' := fun b o e => (hs.2 b (fun q => by rw [q, off] at e; cases e)).trans (l b o e)
section
variable {prog : Program} {w : World} {A : Around} {E : Value → Shared → Prop} {s : Shared}
theorem min_of {l : Addr} {vs : List Value} {ns : List Int} {Q : Value → Shared → Prop} (hh : A.handled = none) (hl : s.heap.IsList l vs.toArray) (hi : IntsAre vs ns) (hne : 0 < ns.length)
    (h : ∀ M t h' tk, Le s.heap h' → M ∈ ns → (∀ a, a ∈ ns → M ≤ a) → Q (.int M t) { s with heap := h', toks := tk }) : wpAny (model prog w) A (call (.builtin "min") [.ref l]) Q E s := by
  obtain ⟨xs, e⟩ := hi.allInts.items
  have hns : ns = xs.toList.map (·.1) := by rw [← hi.numsOf, ← nums_intItems, ← e]
  have hsz : 0 < xs.size := by
    have h3 := hne; rw [hns, List.length_map, Array.length_toList] at h3; exact h3
  rw [e] at hl
  refine min_intList hh hl hsz fun v h' tk hv hk => ?_
  obtain ⟨t, rfl⟩ := intItems_at hv
  obtain ⟨h1, h2⟩ := argBest_lt (numAt xs) (xs.size - 1)
  refine h _ t h' tk hk ?_ fun a ha => ?_
  · rw [hns, numAt_eq]; exact getD_mem (by rw [List.length_map, Array.length_toList]; omega)
  · rw [hns] at ha
    obtain ⟨j, hj, rfl⟩ := mem_getD ha
    rw [List.length_map, Array.length_toList] at hj
    rw [← numAt_eq]; exact h2 j (by walk_at "om")
theorem sum_of {l : Addr} {vs : List Value} {ns : List Int} {Q : Value → Shared → Prop} (hh : A.handled = none) (hl : s.heap.IsList l vs.toArray) (hi : IntsAre vs ns)
    (h : ∀ t h' tk, Le s.heap h' → Q (.int ns.sum t) { s with heap := h', toks := tk }) : wpAny (model prog w) A (call (.builtin "sum") [.ref l]) Q E s := by
  obtain ⟨xs, e⟩ := hi.allInts.items
  have hns : ns = xs.toList.map (·.1) := by rw [← hi.numsOf, ← nums_intItems, ← e]
  rw [e] at hl
  refine sum_intListG hh hl fun h' tk t' hk => ?_
  have := h t' h' tk hk
  rw [preSum_eq, List.take_of_length_le (by simp), ← hns]; exact this
end

/- one step of an evaluation -/
local macro_rules | `(tactic| walk_at "zif") => `(tactic| ((with_reducible show (if _ = true then _ else _)); first | refine if_tt rfl ?_ | refine if_ff rfl ?_ | (refine if_by ?_ ?_ <;> intro _)))
local macro_rules | `(tactic| walk_at "zlook") => `(tactic| first | rfl | assumption)
local macro_rules | `(tactic| walk_at "zvar") => `(tactic| fail "zvar")
local macro_rules | `(tactic| walk_at "zblt") => `(tactic| first
  | refine ev_glob $(Lean.mkIdent `C) $(Lean.mkIdent `hle) (by with_reducible assumption) ?_
  | refine ev_bltV $(Lean.mkIdent `C) $(Lean.mkIdent `hle) (by rfl) ?_)
local macro_rules | `(tactic| walk_at "zev1") => `(tactic| first
  | ((with_reducible show wpAny _ _ (eval (Expr.Name _ _) _) _ _ _); first | refine ev_loc $(Lean.mkIdent `hns) (by walk_at "zlook") ?_ | walk_at "zvar" | walk_at "zblt")
  | ((with_reducible show wpAny _ _ (eval (Expr.Call (Expr.Name _ _) _ _ _) _) _ _ _); (first | refine Call_Name1 ?_ | refine Call_Name2 ?_ | refine Call_Name3 ?_ | refine Call_Name4 ?_ | refine Call_Name5 ?_))
  | ((with_reducible show wpAny _ _ (subscriptTail _ _ (Value.ref _) (Value.int _ _)) _ _ _); first | refine item_tup (by assumption) (by decide) (by decide) (by rfl) ?_ | refine item_tup (IsTup.keeps (by assumption) $(Lean.mkIdent `hle)) (by decide) (by decide) (by rfl) ?_)
  | ((with_reducible show wpAny _ _ (binaryOp Operator.Mod (Value.int _ _) (Value.int _ _)) _ _ _); refine PyProof.Rows.mod_int (by first | decide | omega) ?_)
  | ((with_reducible show wpAny _ _ (spliced (backTo _ (starEach _ _))) _ _ _); first | refine wpAny_items_cons ?_ | refine wpAny_items_nil ?_)
  | ((with_reducible show wpAny _ _ (testChain _ _ _ _) _ _ _); first | refine test_last ?_ | refine test_link ?_)
  | with_reducible first
  | refine wpAny_Constant_int ?_
  | refine wpAny_Constant_bool ?_
  | refine wpAny_Constant_none ?_
  | refine cw_type rfl ?_
  | refine cw_blt rfl ?_
  | refine spliced_cons ?_
  | refine spliced_nil ?_
  | refine ev_tup ?_
  | refine ev_lst ?_
  | (refine wpAny_items_nil ?_)
  | refine wpAny_BinOp ?_
  | refine wpAny_isTrue_Compare1 ?_
  | refine wpAny_Compare1 ?_
  | refine isTrue_not ?_
  | refine isTrue_and_nil ?_
  | refine isTrue_and ?_
  | refine isTrue_or_nil ?_
  | refine isTrue_or ?_
  | refine isTrue_chain ?_
  | refine wpAny_execs_cons ?_
  | refine Subscript_ ?_
  | refine P.lt_int ?_
  | refine P.le_int ?_
  | refine P.gt_int ?_
  | refine P.ge_int ?_
  | refine P.eq_int ?_
  | refine P.ne_int ?_
  | refine P.add_int ?_
  | refine P.sub_int ?_
  | refine P.neg_int ?_
  | refine UnaryOp_ ?_
  | refine wpAny_truthy_bool ?_
  | refine wpAny_execs_nil ?_
  | refine wpAny_If ?_
  | refine wpAny_Return_some ?_)
local macro_rules | `(tactic| walk_at "zev") => `(tactic| repeat (walk_at "zev1"))
local macro_rules | `(tactic| walk_at "zst") => `(tactic| (refine st_fz $(Lean.mkIdent `hns) $(Lean.mkIdent `hle) $(Lean.mkIdent `offG) ?_; intro $(Lean.mkIdent `h5) $(Lean.mkIdent `tk5) $(Lean.mkIdent `hns) $(Lean.mkIdent `hle) $(Lean.mkIdent `hsb); (try (have $(Lean.mkIdent `hkb) := KB.trans $(Lean.mkIdent `hkb) (KB.same $(Lean.mkIdent `hsb) (List.mem_cons_self ..)))); (try (have $(Lean.mkIdent `hD) := PlainL.extBut $(Lean.mkIdent `hD) (Heap.SameBut.extBut $(Lean.mkIdent `hsb)) $(Lean.mkIdent `hDL))); (try dsimp only)))
local macro_rules | `(tactic| walk_at "zrun") => `(tactic| repeat' (first | walk_at "zev1" | walk_at "zif" | ((with_reducible show wpAny _ _ (exec (Stmt.Assign [Expr.Name _ _] _ _) _) _ _ _); refine wpAny_Assign_Name ?_) | ((with_reducible show wpAny _ _ (storeName _ _ _) _ _ _); walk_at "zst")))

-- 06_graphok.lean
def graphOkF (n : Int) (es : List Edge) : Bool := !decide (n < 0) && es.all fun e => (decide (0 ≤ e.1) && decide (e.1 < n)) && (decide (0 ≤ e.2.1) && decide (e.2.1 < n))
theorem graphOk_no {n : Int} {es : List Edge} {i : Nat} {e : Edge} (he : es[i]? = some e) (h : ¬ (0 ≤ e.1 ∧ e.1 < n ∧ 0 ≤ e.2.1 ∧ e.2.1 < n)) : graphOkF n es = false := by
  unfold graphOkF
  rw [Bool.and_eq_false_iff]
  right
  rw [List.all_eq_false]
  exact ⟨e, List.mem_of_getElem? he, by simpa [and_assoc] using h⟩

theorem graphOk_snoc {n : Int} {es : List Edge} {e : Edge} (h : graphOkF n es = true) (he : 0 ≤ e.1 ∧ e.1 < n ∧ 0 ≤ e.2.1 ∧ e.2.1 < n) : graphOkF n (es ++ [e]) = true := by
  unfold graphOkF at *
  rw [Bool.and_eq_true] at *
  refine ⟨h.1, ?_⟩
  rw [List.all_append, h.2]
  simp [he.1, he.2.1, he.2.2.1, he.2.2.2]

section
variable {prog : Program} {w : World} {A : Around} {E : Value → Shared → Prop} {s : Shared}
set_option maxRecDepth 100000
theorem graph_ok_spec {Q : Value → Shared → Prop} {f : Addr} {n : Int} {t : Tok} {v : Value} {es : List Edge} (hroom : A.depth < recursionLimit) (hh : A.handled = none) (hlim : s.heap.NoLimit)
    (hf : FnIs s.heap f dGraphOk) (he : ListIs EdgeIs s.heap v es) (hQ : ∀ h' tk, Le s.heap h' → Q (.bool (graphOkF n es)) { s with heap := h', toks := tk }) :
    wpAny (model prog w) A (call (.ref f) [.int n t, v]) Q E s := by
  obtain ⟨o, pm, code, doc, ho, hd, hc⟩ := hf
  obtain ⟨l, vs, rfl, hl, ha⟩ := he
  refine wpAny_call (call_plain_ret (binds := [(Str.ofString "n", .int n t), (Str.ofString "edges", .ref l)]) hroom ho hd hlim hc (by rfl) (locs (by rfl)) (fun h₁ F => ?_) (by rfl) (by rfl) (by rfl) (by decide))
  have hns := F.ns
  have off : ∀ a ∈ [s.heap.objs.size, h₁.objs.size], s.heap.get? a = none := by
    intro a ha
    simp only [List.mem_cons, List.mem_nil_iff, or_false] at ha
    rcases ha with rfl | rfl
    · exact Heap.get?_none_of_le (Nat.le_refl _)
    · exact F.fresh
  refine wpAny_execs_cons ?_
  walk_at "zev"
  by_cases hn0 : n < 0
  · refine if_tt (by simpa using hn0) ?_
    walk_at "zev"
    have : graphOkF n es = false := by simp [graphOkF, hn0]
    exact this ▸ hQ _ _ F.keep
  · refine if_ff (by simpa using hn0) ?_
    walk_at "zev"
    refine wpAny_For ?_
    walk_at "zev"
    refine iter_list [] (fun I i m h => Le s.heap h ∧ m (Str.ofString "n") = some (.int n t) ∧ graphOkF n (es.take i) = true) hh (isList_le hl F.keep) ?_ (by simp) (by rfl) (by rfl) hns ⟨F.keep, by rfl, by simp [graphOkF, hn0]⟩ ?_ ?_ ?_
    · obtain ⟨ol, hol, _⟩ := hl
      exact fun q => Nat.ne_of_lt (Heap.lt_size hol) (List.mem_singleton.mp q)
    · rintro i m h h' ⟨a, b, c⟩ k
      exact ⟨k.le a off, b, c⟩
    · rintro i v m h tk hv ⟨hle, hmn, hall⟩ hk hns hI
      obtain ⟨e, he, a, t1, t2, t3, rfl, htup⟩ := ha.get (by simpa using hv)
      have htup := htup.keeps hle
      have htake : es.take (i + 1) = es.take i ++ [e] := by rw [List.take_add_one, he]; rfl
      refine wpAny_execs_cons ?_
      repeat' (first | walk_at "zev1" | walk_at "zif")
      · refine ⟨_, h, _, rfl, hns, KB.rfl, hle, hmn, ?_⟩
        simp only [decide_eq_true_eq] at *
        exact htake ▸ graphOk_snoc hall (by walk_at "om")
      all_goals (have hno : graphOkF n es = false := graphOk_no he (by simp only [decide_eq_true_eq, decide_eq_false_iff_not] at *; omega); exact hno ▸ hQ _ _ hle)
    · rintro m h tk ⟨hle, hmn, hall⟩ hk hns
      walk_at "zev"
      have e : es.take vs.toArray.size = es := by rw [List.size_toArray, ha.length, List.take_length]
      rw [e] at hall
      exact hall ▸ hQ _ _ hle
end

-- 07_lawful.lean
-- needs: 01 02 03 05 06
theorem any_upTo {m k : Int} : (upTo 0 m).any (· == k) = (decide (0 ≤ k) && decide (k < m)) := by
  rw [Bool.eq_iff_iff]
  simp only [List.any_eq_true, beq_iff_eq, Bool.and_eq_true, decide_eq_true_eq, mem_upTo]
  constructor
  · rintro ⟨i, hi, rfl⟩; exact hi
  · intro h; exact ⟨k, h, rfl⟩
section
variable {prog : Program} {w : World} {A : Around} {E : Value → Shared → Prop} {s : Shared} {mg mb : Str → Option Value}
theorem lawful_spec {Q : Value → Shared → Prop} {f : Addr} {n : Int} {t : Tok} {v : Value} {es : List Edge} (hroom : A.depth < recursionLimit) (hh : A.handled = none) (C : Cx mg mb s.heap)
    (hf : FnIs s.heap f dLawful) (he : ListIs EdgeIs s.heap v es) (hlo : -100 < n) (hhi : n < 100) (hQ : ∀ h' tk, Le s.heap h' → Q (.bool (graphOkF n es)) { s with heap := h', toks := tk }) :
    wpAny (model prog w) A (call (.ref f) [.int n t, v]) Q E s := by
  obtain ⟨o, pm, code, doc, ho, hd, hc⟩ := hf
  obtain ⟨l, vs, rfl, hl, ha⟩ := he
  refine wpAny_call (call_plain_ret (binds := [(Str.ofString "m", .int n t), (Str.ofString "edges", .ref l)]) hroom ho hd C.lim hc (by rfl) (locs (by rfl)) (fun h₁ F => ?_) (by rfl) (by rfl) (by rfl) (by decide))
  have hns := F.ns
  have hle : Le s.heap h₁ := F.keep
  have offL : s.heap.get? s.heap.objs.size = none := Heap.get?_none_of_le (Nat.le_refl _)
  refine wpAny_execs_cons (wpAny_Assign_Name ?_)
  walk_at "zev"
  refine range1 fun r h₂ tk₂ hk₂ _ hr => ?_
  walk_at "zev"
  refine list_range hh hr (by walk_at "om") (by walk_at "om") (by walk_at "om") (by walk_at "om") fun lp h₃ tk₃ hk₃ _ hlp => ?_
  have hk := hk₂.trans hk₃
  refine st_fz (hns.keeps hk) (hle.trans hk) offL fun h₄ tk₄ hns hle₄ hsb => ?_
  dsimp only
  obtain ⟨_, ps, e, hpl, hps⟩ := hlp
  cases e
  have hpn := list_ne hpl (F.ns.keeps hk)
  have hpl₄ : h₄.IsList lp ps.toArray := hpl.extBut hsb.extBut hpn
  obtain ⟨g, hg0, hle, offG, up⟩ := freeze hle₄ offL
  have hplg : g.IsList lp ps.toArray := hpl₄.at fun o e => up _ _ hpn e
  have C := C.le hg0
  have hpi : IntsAre ps (upTo 0 n) := intsAre_all2.mpr hps
  have offG' : g.get? h₄.objs.size = none := by
    cases q : g.get? h₄.objs.size with
    | none => rfl
    | some o => exact absurd (Heap.lt_size (hle _ _ q)) (Nat.lt_irrefl _)
  walk_at "zev"
  by_cases hn0 : n < 0
  · refine if_tt (by simpa using hn0) ?_
    walk_at "zev"
    have : graphOkF n es = false := by simp [graphOkF, hn0]
    exact this ▸ hQ _ _ hle₄
  · refine if_ff (by simpa using hn0) ?_
    walk_at "zev"
    refine wpAny_For ?_
    walk_at "zev"
    refine iter_list [] (fun I i m h => Le g h ∧ m (Str.ofString "points") = some (.ref lp) ∧ graphOkF n (es.take i) = true) hh (isList_le hl hle₄) ?_ (by simp) (by rfl) (by rfl) hns ⟨hle, by rfl, by simp [graphOkF, hn0]⟩ ?_ ?_ ?_
    · exact fun q => list_ne (isList_le hl hle₄) hns (List.mem_singleton.mp q)
    · rintro i m h h' ⟨a, b, c⟩ k
      refine ⟨k.le a ?_, b, c⟩
      intro x hx
      rcases List.mem_cons.mp hx with rfl | hx
      · exact offG
      · rw [List.mem_singleton.mp hx]; exact offG'
    · rintro i v m h tk hv ⟨hle, hmp, hall⟩ hk hns hI
      obtain ⟨e, he, a, t1, t2, t3, rfl, htup⟩ := ha.get (by simpa using hv)
      have htup := htup.keeps (hg0.trans hle)
      have htake : es.take (i + 1) = es.take i ++ [e] := by rw [List.take_add_one, he]; rfl
      have hlh := isList_le hplg hle
      refine wpAny_execs_cons ?_
      walk_at "zev"
      refine notin_list_ints hlh hpi ?_
      rw [any_upTo]
      walk_at "zev"
      walk_at "zif"
      · walk_at "zif"
        walk_at "zev"
        rename_i c
        have hno : graphOkF n es = false := graphOk_no he (by simp only [Bool.not_eq_true', Bool.and_eq_false_iff, decide_eq_false_iff_not] at c; omega)
        exact hno ▸ hQ _ _ (hg0.trans hle)
      · walk_at "zev"
        refine notin_list_ints hlh hpi ?_
        rw [any_upTo]
        walk_at "zev"
        rename_i c
        simp only [Bool.not_eq_false', Bool.and_eq_true, decide_eq_true_eq] at c
        walk_at "zif"
        · rename_i c'
          walk_at "zif"
          walk_at "zev"
          have hno : graphOkF n es = false := graphOk_no he (by simp only [Bool.not_eq_true', Bool.and_eq_false_iff, decide_eq_false_iff_not] at c'; omega)
          exact hno ▸ hQ _ _ (hg0.trans hle)
        · rename_i c'
          simp only [Bool.not_eq_false', Bool.and_eq_true, decide_eq_true_eq] at c'
          walk_at "zev"
          walk_at "zif"
          walk_at "zev"
          exact ⟨_, h, _, rfl, hns, KB.rfl, hle, hmp, htake ▸ graphOk_snoc hall (by walk_at "om")⟩
    · rintro m h tk ⟨hle, hmp, hall⟩ hk hns
      walk_at "zev"
      have e : es.take vs.toArray.size = es := by rw [List.size_toArray, ha.length, List.take_length]
      rw [e] at hall
      exact hall ▸ hQ _ _ (hg0.trans hle)
end

-- 08_edges.lean
-- needs: 01 02 03 04 05 06
def stepsL : List Int := [1, 1, 1, 2, 3, 0]
def weightsL : List Int := [1, 2, 1, 0, -1, 3]
def sizesL : List Int := [5, 4, 5, 2, 0, 5]
def edgeF (n fault place : Int) (i : Nat) (d : Edge) : Edge :=
  let a := d.1.fmod n
  let b := (a + stepsL.getD (d.2.1.fmod 6).toNat 0).fmod n
  let w := if (i : Int) < 4 then weightsL.getD (d.2.2.fmod 6).toNat 0 else d.2.2
  if (i : Int) = place then (if fault = 0 then n else if fault = 2 then -1 else a, if fault = 1 then n else if fault = 3 then -1 else b, w) else (a, b, w)
def edgesF (n : Int) (ds : List Edge) (size fault place : Int) (k : Nat) : List Edge := (List.range k).filterMap fun i : Nat => if (i : Int) < size then (ds[i]?).map (edgeF n fault place i) else none
theorem edgesF_succ {n : Int} {ds : List Edge} {size fault place : Int} {k : Nat} : edgesF n ds size fault place (k + 1) = edgesF n ds size fault place k ++ (if (k : Int) < size then (ds[k]?).map (edgeF n fault place k) else none).toList := by
  unfold edgesF
  rw [List.range_succ, List.filterMap_append]
  congr 1
theorem edgesF_len {n : Int} {ds : List Edge} {size fault place : Int} {k : Nat} : (edgesF n ds size fault place k).length ≤ k := by
  unfold edgesF
  exact Nat.le_trans (List.length_filterMap_le _ _) (by simp)
theorem fmod_lo (a : Int) {b : Int} (hb : 0 < b) : 0 ≤ a.fmod b := Int.fmod_nonneg_of_pos a hb
theorem fmod_hi (a : Int) {b : Int} (hb : 0 < b) : a.fmod b < b := Int.fmod_lt_of_pos a hb
theorem edgeF_0 {n fault place : Int} {i : Nat} {d : Edge} (hp : (i : Int) = place) (c : fault = 0) : edgeF n fault place i d = (n, (d.1.fmod n + stepsL.getD (d.2.1.fmod 6).toNat 0).fmod n, if (i : Int) < 4 then weightsL.getD (d.2.2.fmod 6).toNat 0 else d.2.2) := by
  subst c
  simp [edgeF, hp]
theorem edgeF_1 {n fault place : Int} {i : Nat} {d : Edge} (hp : (i : Int) = place) (c : fault = 1) : edgeF n fault place i d = (d.1.fmod n, n, if (i : Int) < 4 then weightsL.getD (d.2.2.fmod 6).toNat 0 else d.2.2) := by
  subst c
  simp [edgeF, hp]
theorem edgeF_2 {n fault place : Int} {i : Nat} {d : Edge} (hp : (i : Int) = place) (c : fault = 2) : edgeF n fault place i d = (-1, (d.1.fmod n + stepsL.getD (d.2.1.fmod 6).toNat 0).fmod n, if (i : Int) < 4 then weightsL.getD (d.2.2.fmod 6).toNat 0 else d.2.2) := by
  subst c
  simp [edgeF, hp]
theorem edgeF_3 {n fault place : Int} {i : Nat} {d : Edge} (hp : (i : Int) = place) (c : fault = 3) : edgeF n fault place i d = (d.1.fmod n, -1, if (i : Int) < 4 then weightsL.getD (d.2.2.fmod 6).toNat 0 else d.2.2) := by
  subst c
  simp [edgeF, hp]
/-- the locals of a turn -/
def EM (m : Str → Option Value) (n size fault place : Int) (t1 t2 t3 t4 : Tok) (l D : Addr) (i a b x : Int) : Prop :=
  m (Str.ofString "n") = some (.int n t1) ∧ m (Str.ofString "drawn") = some (.ref l) ∧ m (Str.ofString "size") = some (.int size t2) ∧ m (Str.ofString "fault") = some (.int fault t3) ∧ m (Str.ofString "place") = some (.int place t4) ∧ m (Str.ofString "edges") = some (.ref D) ∧
  (∃ t, m (Str.ofString "i") = some (.int i t)) ∧ (∃ t, m (Str.ofString "a") = some (.int a t)) ∧ (∃ t, m (Str.ofString "b") = some (.int b t)) ∧ ∃ t, m (Str.ofString "w") = some (.int x t)
section
variable {prog : Program} {w : World} {A : Around} {E : Value → Shared → Prop} {s : Shared} {mg mb : Str → Option Value}
set_option maxHeartbeats 2000000 in
theorem edges_spec {Q : Value → Shared → Prop} {f : Addr} {n size fault place : Int} {t1 t2 t3 t4 : Tok} {v : Value} {ds : List Edge} (hroom : A.depth < recursionLimit) (hh : A.handled = none) (C : Cx mg mb s.heap)
    (hf : FnIs s.heap f dEdges) (he : ListIs EdgeIs s.heap v ds) (hd5 : ds.length = 5) (hn : 0 < n)
    (hQ : ∀ v' h' tk, Le s.heap h' → ListIs EdgeIs h' v' (edgesF n ds size fault place 5) → Q v' { s with heap := h', toks := tk }) :
    wpAny (model prog w) A (call (.ref f) [.int n t1, v, .int size t2, .int fault t3, .int place t4]) Q E s := by
  obtain ⟨o, pm, code, doc, ho, hd, hc⟩ := hf
  obtain ⟨l, vs, rfl, hl, ha⟩ := he
  refine wpAny_call (call_plain_ret (binds := [(Str.ofString "n", .int n t1), (Str.ofString "drawn", .ref l), (Str.ofString "size", .int size t2), (Str.ofString "fault", .int fault t3), (Str.ofString "place", .int place t4)]) hroom ho hd C.lim hc (by rfl) (locs (by rfl)) (fun h₁ F => ?_) (by rfl) (by rfl) (by rfl) (by decide))
  have hns := F.ns
  have hle : Le s.heap h₁ := F.keep
  have offL : s.heap.get? s.heap.objs.size = none := fresh_none _
  refine wpAny_execs_cons (wpAny_Assign_Name ?_)
  walk_at "zev"
  refine ⟨by decide, fun D h₂ hk₂ hfr hD => ?_⟩
  have hDL : D ≠ s.heap.objs.size := list_ne hD.isList (hns.keeps hk₂)
  have offD : s.heap.get? D = none := none_back hle hfr
  refine st_fz (hns.keeps hk₂) (hle.trans hk₂) offL fun h₃ tk₃ hns hle hsb => ?_
  have hD : PlainL h₃ D #[] := hD.extBut hsb.extBut hDL
  dsimp only
  walk_at "zev"
  refine wpAny_For ?_
  walk_at "zev"
  refine range1 fun r h₄ tk₄ hk₄ _ hr => ?_
  obtain ⟨ta, tb, tc, hr⟩ := hr
  have hns := hns.keeps hk₄
  have hle := hle.trans hk₄
  have hDI : D ≠ h₄.objs.size := Nat.ne_of_lt (hD.keeps hk₄).lt
  have hLI : s.heap.objs.size ≠ h₄.objs.size := Nat.ne_of_lt hns.lt
  refine iter_range (n := 5) [D] (fun I i m h => ∃ g its, Le s.heap g ∧ Le g h ∧ (∀ a ∈ [s.heap.objs.size, I, D], g.get? a = none) ∧ PlainL h D its ∧ All2 (EdgeIs g) its.toList (edgesF n ds size fault place i) ∧
      m (Str.ofString "n") = some (.int n t1) ∧ m (Str.ofString "drawn") = some (.ref l) ∧ m (Str.ofString "size") = some (.int size t2) ∧ m (Str.ofString "fault") = some (.int fault t3) ∧ m (Str.ofString "place") = some (.int place t4) ∧ m (Str.ofString "edges") = some (.ref D))
    hh hr (by decide) (by decide) ?_ (by rfl) (by rfl) hns ⟨s.heap, #[], Le.rfl, hle, ?_, hD.keeps hk₄, trivial, by rfl, by rfl, by rfl, by rfl, by rfl, by rfl⟩ ?_ ?_ ?_
  · intro b hb
    rw [List.mem_singleton.mp hb]
    exact (hD.keeps hk₄).lt
  · intro a ha
    simp only [List.mem_cons, List.not_mem_nil, or_false] at ha
    rcases ha with rfl | rfl | rfl
    · exact offL
    · exact none_of_le hle
    · exact offD
  · rintro i m h h' ⟨g, its, hg, hle, off, hD, hall, r⟩ k
    refine ⟨g, its, hg, k.le hle fun a ha => ?_, off, ?_, hall, r⟩
    · simp only [List.mem_cons, List.not_mem_nil, or_false] at ha
      rcases ha with rfl | rfl
      · exact off _ (by simp [envOf])
      · exact off _ (by simp)
    · obtain ⟨o', n', ho', r'⟩ := hD
      refine ⟨o', n', k _ _ ?_ ho', r'⟩
      simp only [List.mem_cons, List.not_mem_nil, or_false]
      rintro (q | q)
      · exact hDL q
      · exact hDI q
  · rintro i t m h tk hi ⟨g, its, hg, hle, off, hD, hall, m1, m2, m3, m4, m5, m6⟩ hk hns hI
    refine opaqueQ fun KK hKK => ?_
    have C := C.le hg
    have offG : g.get? s.heap.objs.size = none := off _ (by simp)
    obtain ⟨as, hms, vss, hts, his⟩ := C.steps
    obtain ⟨aw, hmw, vsw, htw, hiw⟩ := C.weights
    have hlen : vs.length = 5 := by rw [ha.length, hd5]
    obtain ⟨d, hdi, a, u1, u2, u3, hva, htup⟩ := ha.get (i := i) (a := vs[i]'(by walk_at "om")) (by simp)
    have htup := htup.keeps hg
    have hlg := isList_le hl hg
    have hvi : vs.toArray.toList[(i : Int).toNat]? = some (.ref a) := by
      rw [← hva]; simp
    rw [Int.zero_add] at hns
    have hkb : KB [s.heap.objs.size, D] h h := KB.rfl
    refine wpAny_execs_cons ?_
    walk_at "zev"
    walk_at "zif"
    · rename_i hsz
      simp only [decide_eq_true_eq] at hsz
      refine wpAny_execs_cons (wpAny_Assign_Name ?_)
      walk_at "zev"
      refine item_list (isList_le hlg hle) (by walk_at "om") (by walk_at "om") hvi ?_
      walk_at "zev"
      walk_at "zst"
      refine wpAny_execs_cons (wpAny_Assign_Name ?_)
      walk_at "zev"
      refine item_list (isList_le hlg hle) (by walk_at "om") (by walk_at "om") hvi ?_
      walk_at "zev"
      refine item_inttup (hts.keeps hle) his (fmod_lo _ (by decide)) (fmod_hi _ (by decide)) (by decide) fun ts => ?_
      walk_at "zev"
      walk_at "zst"
      refine wpAny_execs_cons (wpAny_Assign_Name ?_)
      walk_at "zev"
      refine item_list (isList_le hlg hle) (by walk_at "om") (by walk_at "om") hvi ?_
      walk_at "zev"
      walk_at "zst"
      refine seq_cut (fun s' => ∃ h5 tk5 m5, s' = { s with heap := h5, toks := tk5 } ∧ h5.Ns s.heap.objs.size m5 ∧ Le g h5 ∧ PlainL h5 D its ∧ KB [s.heap.objs.size, D] h h5 ∧
        EM m5 n size fault place t1 t2 t3 t4 l D (i : Int) (d.1.fmod n) ((d.1.fmod n + stepsL.getD (d.2.1.fmod 6).toNat 0).fmod n) (if (i : Int) < 4 then weightsL.getD (d.2.2.fmod 6).toNat 0 else d.2.2)) ?_ ?_
      · refine opaqueQ fun K2 hK2 => ?_
        walk_at "zev"
        walk_at "zif"
        · rename_i h4
          simp only [decide_eq_true_eq] at h4
          refine wpAny_execs_cons (wpAny_Assign_Name ?_)
          walk_at "zev"
          refine item_inttup (htw.keeps hle) hiw (fmod_lo _ (by decide)) (fmod_hi _ (by decide)) (by decide) fun ts => ?_
          walk_at "zst"
          walk_at "zev"
          refine hK2 _ _ ⟨rfl, h5, _, _, rfl, hns, hle, hD, hkb, m1, m2, m3, m4, m5, m6, ⟨_, by rfl⟩, ⟨_, by rfl⟩, ⟨_, by rfl⟩, ?_⟩
          rw [if_pos h4]
          exact ⟨_, by rfl⟩
        · rename_i h4
          simp only [decide_eq_false_iff_not] at h4
          walk_at "zev"
          refine hK2 _ _ ⟨rfl, h5, _, _, rfl, hns, hle, hD, hkb, m1, m2, m3, m4, m5, m6, ⟨_, by rfl⟩, ⟨_, by rfl⟩, ⟨_, by rfl⟩, ?_⟩
          rw [if_neg h4]
          exact ⟨_, by rfl⟩
      · rintro s' ⟨h5, tk5, m5, rfl, hns, hle, hD, hkb, m1, m2, m3, m4, m5, m6, ⟨ti, m7⟩, ⟨tta, m8⟩, ⟨ttb, m9⟩, ⟨ttw, m10⟩⟩
        refine seq_cut (fun s' => ∃ h5 tk5 m5, s' = { s with heap := h5, toks := tk5 } ∧ h5.Ns s.heap.objs.size m5 ∧ Le g h5 ∧ PlainL h5 D its ∧ KB [s.heap.objs.size, D] h h5 ∧
          EM m5 n size fault place t1 t2 t3 t4 l D (i : Int) (edgeF n fault place i d).1 (edgeF n fault place i d).2.1 (edgeF n fault place i d).2.2) ?_ ?_
        · refine opaqueQ fun K2 hK2 => ?_
          walk_at "zev"
          walk_at "zif"
          · rename_i hp
            have hp : (i : Int) = place := by simpa using hp
            have hfs : fault = 0 ∨ fault = 1 ∨ fault = 2 ∨ fault = 3 ∨ (fault ≠ 0 ∧ fault ≠ 1 ∧ fault ≠ 2 ∧ fault ≠ 3) := by walk_at "om"
            rcases hfs with c | c | c | c | ⟨c0, c1, c2, c3⟩
            · have m4' := m4
              rw [c] at m4'
              rw [edgeF_0 hp c] at hK2
              walk_at "zrun"
              exact hK2 _ _ ⟨rfl, h5, _, _, rfl, hns, hle, hD, hkb, m1, m2, m3, m4, m5, m6, ⟨_, m7⟩, ⟨_, by rfl⟩, ⟨_, m9⟩, ⟨_, m10⟩⟩
            · have m4' := m4
              rw [c] at m4'
              rw [edgeF_1 hp c] at hK2
              walk_at "zrun"
              exact hK2 _ _ ⟨rfl, h5, _, _, rfl, hns, hle, hD, hkb, m1, m2, m3, m4, m5, m6, ⟨_, m7⟩, ⟨_, m8⟩, ⟨_, by rfl⟩, ⟨_, m10⟩⟩
            · have m4' := m4
              rw [c] at m4'
              rw [edgeF_2 hp c] at hK2
              walk_at "zrun"
              exact hK2 _ _ ⟨rfl, h5, _, _, rfl, hns, hle, hD, hkb, m1, m2, m3, m4, m5, m6, ⟨_, m7⟩, ⟨_, by rfl⟩, ⟨_, m9⟩, ⟨_, m10⟩⟩
            · have m4' := m4
              rw [c] at m4'
              rw [edgeF_3 hp c] at hK2
              walk_at "zrun"
              exact hK2 _ _ ⟨rfl, h5, _, _, rfl, hns, hle, hD, hkb, m1, m2, m3, m4, m5, m6, ⟨_, m7⟩, ⟨_, m8⟩, ⟨_, by rfl⟩, ⟨_, m10⟩⟩
            · walk_at "zev"
              refine if_ff (by simpa using c0) ?_
              walk_at "zev"
              refine if_ff (by simpa using c1) ?_
              walk_at "zev"
              refine if_ff (by simpa using c2) ?_
              walk_at "zev"
              refine if_ff (by simpa using c3) ?_
              walk_at "zev"
              refine hK2 _ _ ⟨rfl, h5, _, _, rfl, hns, hle, hD, hkb, m1, m2, m3, m4, m5, m6, ⟨_, m7⟩, ?_⟩
              simp only [edgeF, if_pos hp, if_neg c0, if_neg c1, if_neg c2, if_neg c3]
              exact ⟨⟨_, m8⟩, ⟨_, m9⟩, ⟨_, m10⟩⟩
          · rename_i hp
            have hp : (i : Int) ≠ place := by simpa using hp
            walk_at "zev"
            refine hK2 _ _ ⟨rfl, h5, _, _, rfl, hns, hle, hD, hkb, m1, m2, m3, m4, m5, m6, ⟨_, m7⟩, ?_⟩
            simp only [edgeF, if_neg hp]
            exact ⟨⟨_, m8⟩, ⟨_, m9⟩, ⟨_, m10⟩⟩
        · rintro s' ⟨h5, tk5, m5', rfl, hns, hle, hD, hkb, m1, m2, m3, m4, m5, m6, ⟨ti, m7⟩, ⟨tta, m8⟩, ⟨ttb, m9⟩, ⟨ttw, m10⟩⟩
          refine wpAny_execs_cons (st_append hns m6 hD ?_)
          walk_at "zev"
          refine ⟨by simp, fun b h6 hk6 hfr6 htup6 => ⟨its, hD.keeps hk6, ?_, fun h7 hD7 hsb7 => ?_⟩⟩
          · have e1 := hall.length
            have e2 := edgesF_len (n := n) (ds := ds) (size := size) (fault := fault) (place := place) (k := i)
            simp only [Array.length_toList] at e1
            omega
          · dsimp only at hfr6 hk6 hsb7
            dsimp only
            walk_at "zev"
            have hbD : b ≠ D := by
              rintro rfl
              obtain ⟨o', n', ho', _⟩ := hD
              rw [ho'] at hfr6; cases hfr6
            have hbL : b ≠ s.heap.objs.size := by
              rintro rfl
              obtain ⟨o', es', ep', ho', _⟩ := hns
              rw [ho'] at hfr6; cases hfr6
            have hbI : b ≠ h₄.objs.size := by
              rintro rfl
              obtain ⟨o', ho'⟩ := hI
              have := hkb _ _ (by simp only [List.mem_cons, List.not_mem_nil, or_false]; rintro (q | q); exact hLI q.symm; exact hDI q.symm) ho'
              rw [this] at hfr6; cases hfr6
            have k67 : KB [s.heap.objs.size, D] h5 h7 := (KB.of_le hk6).trans (KB.same hsb7 (by simp))
            have hle7 : Le g h7 := k67.le hle fun x hx => off x (by simp only [List.mem_cons, List.not_mem_nil, or_false] at hx ⊢; rcases hx with hx | hx <;> simp [hx])
            refine hKK _ _ ⟨m5', h7, _, rfl, ?_, hkb.trans k67, hide h7 [s.heap.objs.size, h₄.objs.size, D], its.push (.ref b), hg.trans (le_hide hle7 off), hide_le _ _, hide_off _ _, hD7, ?_, m1, m2, m3, m4, m5, m6⟩
            · exact (hns.keeps hk6).sameBut hsb7 (Ne.symm hDL)
            · rw [edgesF_succ, if_pos (by walk_at "om"), hdi, Array.toList_push]
              refine All2.snoc (hall.mono fun _ _ r => r.le (le_hide hle7 off)) ?_
              refine ⟨b, tta, ttb, ttw, rfl, ?_⟩
              obtain ⟨o', ho', r'⟩ := htup6
              refine ⟨o', ?_, r'⟩
              rw [hide_get, if_neg (by simp only [List.mem_cons, List.not_mem_nil, or_false]; rintro (q | q | q); exact hbL q; exact hbI q; exact hbD q)]
              exact (hsb7.2 b hbD).trans ho'
    · rename_i hsz
      simp only [decide_eq_false_iff_not] at hsz
      walk_at "zev"
      refine hKK _ _ ⟨_, h, _, rfl, hns, KB.rfl, g, its, hg, hle, off, hD, ?_, m1, m2, m3, m4, m5, m6⟩
      rw [edgesF_succ, if_neg (by walk_at "om")]
      simpa using hall
  · rintro m h tk ⟨g, its, hg, hle, off, hD, hall, m1, m2, m3, m4, m5, m6⟩ hk hns
    walk_at "zev"
    exact hQ _ _ _ (hg.trans hle) ⟨D, its.toList, rfl, by simpa using hD.isList, hall.mono fun _ _ r => r.le hle⟩
end

-- 09_walk.lean
-- needs: 01 02 03 04 05 06 08
def stepW (n : Int) (p : List Int × Int) (x : Int) : List Int × Int := (p.1 ++ [p.2], (p.2 + stepsL.getD (x.fmod 6).toNat 0).fmod n)
def walkF (n start : Int) (turns : List Int) (len : Int) : List Int := let p := turns.foldl (stepW n) ([], start.fmod (n + 1)); (p.1 ++ [p.2]).take len.toNat
theorem stepW_len (n : Int) (ts : List Int) (p : List Int × Int) : (ts.foldl (stepW n) p).1.length = p.1.length + ts.length := by
  induction ts generalizing p with
  | nil => simp
  | cons t ts ih => rw [List.foldl_cons, ih]; simp [stepW]; omega
theorem intsAre_snoc {vs : List Value} {ns : List Int} {i : Int} {t : Tok} (h : IntsAre vs ns) : IntsAre (vs ++ [.int i t]) (ns ++ [i]) := by
  induction h with
  | nil => exact .cons _ _ .nil
  | cons n t _ ih => exact .cons n t ih
section
variable {prog : Program} {w : World} {A : Around} {E : Value → Shared → Prop} {s : Shared} {mg mb : Str → Option Value}
theorem walk_spec {Q : Value → Shared → Prop} {f : Addr} {n start len : Int} {t1 t2 t4 : Tok} {a : Addr} {ts : List Int} (hroom : A.depth < recursionLimit) (hh : A.handled = none) (C : Cx mg mb s.heap)
    (hf : FnIs s.heap f dWalk) (ht : IntTup s.heap a ts) (hts : ts.length < 100) (hn : 0 < n) (hlen : 0 ≤ len)
    (hQ : ∀ v' h' tk, Le s.heap h' → Ints h' v' (walkF n start ts len) → Q v' { s with heap := h', toks := tk }) :
    wpAny (model prog w) A (call (.ref f) [.int n t1, .int start t2, .ref a, .int len t4]) Q E s := by
  obtain ⟨o, pm, code, doc, ho, hd, hc⟩ := hf
  obtain ⟨vs, htu, hiv⟩ := ht
  refine wpAny_call (call_plain_ret (binds := [(Str.ofString "n", .int n t1), (Str.ofString "start", .int start t2), (Str.ofString "turns", .ref a), (Str.ofString "length", .int len t4)]) hroom ho hd C.lim hc (by rfl) (locs (by rfl)) (fun h₁ F => ?_) (by rfl) (by rfl) (by rfl) (by decide))
  have hns := F.ns
  have hle : Le s.heap h₁ := F.keep
  have offG : s.heap.get? s.heap.objs.size = none := fresh_none _
  obtain ⟨as, hms, vss, hst, his⟩ := C.steps
  refine wpAny_execs_cons (wpAny_Assign_Name ?_)
  walk_at "zev"
  walk_at "zst"
  refine wpAny_execs_cons (wpAny_Assign_Name ?_)
  walk_at "zev"
  refine ⟨by simp, fun D h₂ hk₂ hfr hD => ?_⟩
  dsimp only at hk₂ hfr
  have hDL : D ≠ s.heap.objs.size := list_ne hD.isList (hns.keeps hk₂)
  have offD : s.heap.get? D = none := none_back hle hfr
  have hns := hns.keeps hk₂
  have hle := hle.trans hk₂
  walk_at "zst"
  walk_at "zev"
  refine wpAny_For ?_
  walk_at "zev"
  have hDI : D ≠ h5.objs.size := Nat.ne_of_lt hD.lt
  refine iter_tuple [D] (fun I i m h => ∃ its, Le s.heap h ∧ PlainL h D its ∧ IntsAre its.toList ((ts.take i).foldl (stepW n) ([], start.fmod (n + 1))).1 ∧ (∃ t, m (Str.ofString "at") = some (.int ((ts.take i).foldl (stepW n) ([], start.fmod (n + 1))).2 t)) ∧
      m (Str.ofString "n") = some (.int n t1) ∧ m (Str.ofString "length") = some (.int len t4) ∧ m (Str.ofString "walk") = some (.ref D))
    hh (htu.keeps hle) ?_ ?_ (by rfl) (by rfl) hns ⟨#[], hle, hD, .nil, ⟨_, by rfl⟩, by rfl, by rfl, by rfl⟩ ?_ ?_ ?_
  · simp only [List.mem_cons, List.not_mem_nil, or_false]
    rintro (q | q)
    · exact tup_ne (htu.keeps hle) hns q
    · subst q
      obtain ⟨o', ho', hc', _⟩ := htu
      rw [ho'] at offD; cases offD
  · intro b hb
    rw [List.mem_singleton.mp hb]; exact hD.lt
  · rintro i m h h' ⟨its, hle, hD, r⟩ k
    refine ⟨its, k.le hle ?_, ?_, r⟩
    · intro x hx
      rcases List.mem_cons.mp hx with rfl | hx
      · exact offG
      · rw [List.mem_singleton.mp hx]; exact none_of_le ‹Le s.heap h5›
    · obtain ⟨o', n', ho', r'⟩ := hD
      refine ⟨o', n', k _ _ ?_ ho', r'⟩
      simp only [List.mem_cons, List.not_mem_nil, or_false]
      rintro (q | q)
      · exact hDL q
      · exact hDI q
  · rintro i v m h tk hv ⟨its, hle, hD, hint, ⟨t, m1⟩, m2, m3, m4⟩ hk hns hI
    refine opaqueQ fun KK hKK => ?_
    have hvs : vs[i]? = some v := by simpa using hv
    have hi : i < ts.length := by rw [← hiv.length]; exact (List.getElem?_eq_some_iff.mp hvs).1
    obtain ⟨tx, hx⟩ := intsAre_get hiv hi
    rw [hvs] at hx
    cases hx
    have htake : ts.take (i + 1) = ts.take i ++ [ts.getD i 0] := by rw [List.take_add_one, List.getD_eq_getElem?_getD, List.getElem?_eq_getElem hi]; rfl
    have hkb : KB [s.heap.objs.size, D] h h := KB.rfl
    have hsz : its.size < 1000 := by
      have := hint.length
      rw [stepW_len] at this
      simp at this
      omega
    refine wpAny_execs_cons (st_append hns m4 hD ?_)
    walk_at "zev"
    refine ⟨its, hD, hsz, fun h6 hD6 hsb6 => ?_⟩
    dsimp only
    have hle : Le s.heap h6 := (KB.same (X := [D]) hsb6 (by simp)).le hle (by simpa using offD)
    have hns := hns.sameBut hsb6 (Ne.symm hDL)
    have hkb : KB [s.heap.objs.size, D] h h6 := KB.same hsb6 (by simp)
    have hD := hD6
    refine wpAny_execs_cons (wpAny_Assign_Name ?_)
    walk_at "zev"
    refine item_inttup (hst.keeps hle) his (fmod_lo _ (by decide)) (fmod_hi _ (by decide)) (by decide) fun ts' => ?_
    walk_at "zev"
    walk_at "zst"
    walk_at "zev"
    refine hKK _ _ ⟨_, _, _, rfl, hns, hkb, its.push _, hle, hD, ?_, ⟨_, by rw [htake, List.foldl_append]; rfl⟩, m2, m3, m4⟩
    rw [htake, List.foldl_append, Array.toList_push]
    exact intsAre_snoc hint
  · rintro m h tk ⟨its, hle, hD, hint, ⟨t, m1⟩, m2, m3, m4⟩ hk hns
    have hall : ts.take vs.toArray.size = ts := by rw [List.size_toArray, hiv.length, List.take_length]
    rw [hall] at hint m1
    have hsz : its.size < 1000 := by
      have := hint.length
      rw [stepW_len] at this
      simp at this
      omega
    refine wpAny_execs_cons (st_append hns m4 hD ?_)
    walk_at "zev"
    refine ⟨its, hD, hsz, fun h6 hD6 hsb6 => ?_⟩
    dsimp only
    have hle : Le s.heap h6 := (KB.same (X := [D]) hsb6 (by simp)).le hle (by simpa using offD)
    have hns := hns.sameBut hsb6 (Ne.symm hDL)
    refine wpAny_execs_cons (wpAny_Return_some (wpAny_Subscript_list_slice ?_ ?ht))
    case ht => intro _ _; rfl
    walk_at "zev"
    rw [evalPart_none]
    refine wpAny_pure ?_
    rw [evalPart_some]
    walk_at "zev"
    refine ⟨D, _, none, some len, rfl, hD6.isList, ?_, .none, .int _ _, ?_⟩
    · rw [Array.size_push, sizeLine]; omega
    · refine hQ _ _ _ (hle.trans ((Le.push _).trans (Le.push _))) ⟨_, _, rfl, ⟨_, by rw [← Heap.size_push]; exact Heap.get?_push_size _ rfl, rfl, _, rfl⟩, ?_⟩
      rw [← intsAre_all2]
      have e := slice_ints_uptoW (intsAre_snoc (i := (List.foldl (stepW n) ([], start.fmod (n + 1)) ts).2) (t := t) hint) hlen
      have e2 : ((its.toList ++ [Value.int (List.foldl (stepW n) ([], start.fmod (n + 1)) ts).2 t]).toArray : Array Value) = its.push (Value.int (List.foldl (stepW n) ([], start.fmod (n + 1)) ts).2 t) := by
        apply Array.ext'
        simp
      rw [e2] at e
      exact e
end

-- 10_vars.lean
-- needs: 01 02 03 04 05
/-- the names of a frame with cells: locals and cells in one map -/
structure Vars (env : Env) (h : Heap) (m : Str → Option Value) : Prop where
  loc : ∃ ml, h.Ns env.locals ml ∧ ∀ x, env.kindOf x = some .local → ml x = m x
  cel : ∀ x c, env.cells.lookup x = some c → h.IsCell c (m x)
  apart : env.cells.Pairwise fun x y => x.2 ≠ y.2
  off : ∀ x c, (x, c) ∈ env.cells → c ≠ env.locals
theorem Vars.le {env : Env} {h h' : Heap} {m : Str → Option Value} (V : Vars env h m) (l : Le h h') : Vars env h' m :=
  ⟨let ⟨ml, h1, h2⟩ := V.loc; ⟨ml, h1.keeps l, h2⟩, fun x c e => (V.cel x c e).keeps l, V.apart, V.off⟩
/-- what a frame's own places are -/
def owns (env : Env) : List Addr := env.locals :: env.cells.map (·.2)
theorem Vars.kb {env : Env} {h h' : Heap} {m : Str → Option Value} {X : List Addr} (V : Vars env h m) (k : KB X h h') (hx : ∀ a ∈ owns env, a ∉ X) : Vars env h' m := by
  refine ⟨?_, fun x c e => ?_, V.apart, V.off⟩
  · obtain ⟨ml, ⟨o, es, ep, ho, r⟩, h2⟩ := V.loc
    exact ⟨ml, ⟨o, es, ep, k _ _ (hx _ (by simp [owns])) ho, r⟩, h2⟩
  · obtain ⟨o, ho, hd⟩ := V.cel x c e
    exact ⟨o, k _ _ (hx _ (by simp only [owns, List.mem_cons, List.mem_map]; exact .inr ⟨(x, c), mem_of_lookup e, rfl⟩)) ho, hd⟩
theorem Vars.ltL {env : Env} {h : Heap} {m : Str → Option Value} (V : Vars env h m) : env.locals < h.objs.size := let ⟨_, h1, _⟩ := V.loc; h1.lt
theorem vars_of_ns {env : Env} {h : Heap} {m : Str → Option Value} (hn : h.Ns env.locals m) (hc : env.cells = []) : Vars env h m :=
  ⟨⟨m, hn, fun _ _ => rfl⟩, (fun x c e => by rw [hc] at e; cases e), (by rw [hc]; exact .nil), (fun x c e => by rw [hc] at e; cases e)⟩
section
variable {M : Model} {A : Around} {E : Value → Shared → Prop} {s : Shared} {env : Env} {m : Str → Option Value}
theorem ev_vl {x : Str} {pos : Pos} {v : Value} {Q : Value → Shared → Prop} (V : Vars env s.heap m) (hv : m x = some v) (h : Q v s)
    (hk : env.scope.kind = .function := by rfl) (hl : env.kindOf x = some .local := by rfl) (hd : (x == ("__debug__" : Str)) = false := by rfl) :
    wpAny M A (eval (.Name x pos) env) Q E s := by
  obtain ⟨ml, h1, h2⟩ := V.loc
  exact ev_loc h1 ((h2 x hl).trans hv) h hk hl hd
theorem ev_vc {x : Str} {pos : Pos} {v : Value} {Q : Value → Shared → Prop} (V : Vars env s.heap m) (hv : m x = some v) (h : Q v s)
    (hk : env.scope.kind = .function := by rfl) (hl : env.kindOf x = some .cell := by rfl) (hs : (env.cells.lookup x).isSome = true := by rfl) (hd : (x == ("__debug__" : Str)) = false := by rfl) :
    wpAny M A (eval (.Name x pos) env) Q E s := by
  obtain ⟨c, hc⟩ := Option.isSome_iff_exists.mp hs
  exact wpAny_Name (wpAny_loadName_cell hk hl hc (hv ▸ V.cel x c hc) h) hd
theorem ev_vf {x : Str} {pos : Pos} {v : Value} {Q : Value → Shared → Prop} (V : Vars env s.heap m) (hv : m x = some v) (h : Q v s)
    (hk : env.scope.kind = .function := by rfl) (hl : env.kindOf x = some .free := by rfl) (hs : (env.cells.lookup x).isSome = true := by rfl) (hd : (x == ("__debug__" : Str)) = false := by rfl) (hcd : (x == ("__classdict__" : Str)) = false := by rfl) :
    wpAny M A (eval (.Name x pos) env) Q E s := by
  obtain ⟨c, hc⟩ := Option.isSome_iff_exists.mp hs
  exact wpAny_Name (wpAny_loadName_free hk hl hc (hv ▸ V.cel x c hc) h hcd) hd
theorem st_vl {x : Str} {v : Value} {Q : Unit → Shared → Prop} (V : Vars env s.heap m)
    (h : ∀ h' tk, Vars env h' (upd m x v) → Heap.SameBut env.locals s.heap h' → Q () { s with heap := h', toks := tk })
    (hl : env.kindOf x = some .local := by rfl) (hno : env.cells.lookup x = none := by rfl) (hp : (env.scope.kind == .class || (env.scope.kind == .module && env.locals != env.globals)) = false := by rfl) :
    wpAny M A (storeName env x v) Q E s := by
  obtain ⟨ml, h1, h2⟩ := V.loc
  refine wpAny_storeName_local hl h1 (fun h' hn' hs => h h' _ ⟨⟨_, hn', fun y hy => ?_⟩, fun y c e => ?_, V.apart, V.off⟩ hs) hp
  · show (if y = x then some v else ml y) = if y = x then some v else m y
    rw [h2 y hy]
  · have hyx : y ≠ x := by rintro rfl; rw [hno] at e; cases e
    show h'.IsCell c (if y = x then some v else m y)
    rw [if_neg hyx]
    exact (V.cel y c e).sameBut hs (V.off y c (mem_of_lookup e))
theorem st_vc {x : Str} {v : Value} {c : Addr} {Q : Unit → Shared → Prop} (V : Vars env s.heap m)
    (h : ∀ h' tk, Vars env h' (upd m x v) → Heap.SameBut c s.heap h' → Q () { s with heap := h', toks := tk })
    (hc : env.cells.lookup x = some c) (hl : env.kindOf x = some .cell := by rfl) (hk : env.scope.kind = .function := by rfl) :
    wpAny M A (storeName env x v) Q E s := by
  obtain ⟨ml, h1, h2⟩ := V.loc
  refine wpAny_storeName_cell hk hl hc (V.cel x c hc) fun h' hv hs => h h' _ ⟨⟨ml, h1.sameBut hs (Ne.symm (V.off x c (mem_of_lookup hc))), fun y hy => ?_⟩, fun y d e => ?_, V.apart, V.off⟩ hs
  · have hyx : y ≠ x := by rintro rfl; rw [hl] at hy; cases hy
    show ml y = if y = x then some v else m y
    rw [if_neg hyx, h2 y hy]
  · show h'.IsCell d (if y = x then some v else m y)
    by_cases hyx : y = x
    · subst hyx
      rw [hc] at e; cases e
      rw [if_pos rfl]; exact hv
    · rw [if_neg hyx]
      exact (V.cel y d e).sameBut hs fun q => hyx (name_of_addr V.apart (mem_of_lookup e) (q ▸ mem_of_lookup hc))
end
section
variable {prog : Program} {w : World} {A : Around} {E : Value → Shared → Prop} {s : Shared} {env : Env}
def TurnV (env : Env) (X : List Addr) (J : (Str → Option Value) → Heap → Prop) (s : Shared) (h : Heap) (Q : Flow → Shared → Prop) (f : Flow) (s' : Shared) : Prop :=
  match f with
  | .ret v => Q (.ret v) s'
  | .brk => Q .next s'
  | _ => ∃ m' h' tk', s' = { s with heap := h', toks := tk' } ∧ Vars env h' m' ∧ KB X h h' ∧ J m' h'
/-- how a name of the frame is stored: only at the place tgt -/
def Sto (env : Env) (x : Str) (tgt : Addr) : Prop :=
  ∀ (M : Model) (A : Around) (E : Value → Shared → Prop) (s : Shared) (m : Str → Option Value) (v : Value) (Q : Unit → Shared → Prop), Vars env s.heap m →
    (∀ h' tk, Vars env h' (upd m x v) → Heap.SameBut tgt s.heap h' → Q () { s with heap := h', toks := tk }) → wpAny M A (storeName env x v) Q E s
theorem sto_l {x : Str} (hl : env.kindOf x = some .local := by rfl) (hno : env.cells.lookup x = none := by rfl) (hp : (env.scope.kind == .class || (env.scope.kind == .module && env.locals != env.globals)) = false := by rfl) : Sto env x env.locals :=
  fun _ _ _ _ _ _ _ V h => st_vl V h hl hno hp
theorem sto_c {x : Str} {c : Addr} (hc : env.cells.lookup x = some c) (hl : env.kindOf x = some .cell := by rfl) (hk : env.scope.kind = .function := by rfl) : Sto env x c :=
  fun _ _ _ _ _ _ _ V h => st_vc V h hc hl hk

theorem for_var {Q : Flow → Shared → Prop} {x : Str} {px : Pos} {body : List Stmt} {I tgt : Addr} {fp wr : List Addr} {n : Nat} {P : Nat → Value → Prop} {St : Nat → Heap → Prop} {m₀ : Str → Option Value}
    (W : Walks prog w A I fp wr n P St) (X : List Addr) (J : Nat → (Str → Option Value) → Heap → Prop) (hsto : Sto env x tgt)
    (hfp : ∀ b ∈ fp, b ∉ X ∧ b ≠ tgt) (hwo : ∀ b ∈ wr, b ∉ owns env) (hst : St 0 s.heap) (V₀ : Vars env s.heap m₀) (h0 : J 0 m₀ s.heap)
    (stab : ∀ i m h h', J i m h → KB (tgt :: wr) h h' → J i m h') (hob : ∀ i h, St i h → ∃ o, h.get? I = some o)
    (turn : ∀ i v m h tk, i < n → P i v → J i m h → KB (tgt :: (wr ++ X)) s.heap h → Vars env h (upd m x v) → (∃ o, h.get? I = some o) →
      wpAny (model prog w) A (execs body env) (TurnV env X (J (i + 1)) s h Q) E { s with heap := h, toks := tk })
    (done : ∀ m h tk, J n m h → KB (tgt :: (wr ++ X)) s.heap h → Vars env h m → Q .next { s with heap := h, toks := tk })
    (hE : PassesOwn (model prog w) A env E) :
    codeAny (model prog w) A (.forLoop (.Name x px) (.ref I) body [] env) (fun r s' => match r with | .ok f => Q f s' | .error e => cameBackBy (model prog w) A env E e s') s := by
  refine codeAny_forLoop (fun k s' => ∃ h' tk m' i, s' = { s with heap := h', toks := tk } ∧ St i h' ∧ Vars env h' m' ∧ J i m' h' ∧ i ≤ n ∧ k = n + 1 - i ∧ KB (tgt :: (wr ++ X)) s.heap h') ?_ (n + 1)
    ⟨s.heap, s.toks, m₀, 0, rfl, hst, V₀, h0, Nat.zero_le _, rfl, KB.rfl⟩
  rintro k s' ⟨h', tk, m', i, rfl, hst', V', hJ, hi, rfl, hk⟩
  by_cases hlt : i < n
  · refine W.item i _ _ _ hlt hst' fun v h₁ tk₁ hP hst₁ hk₁ => ?_
    have kw : KB wr h' h₁ := fun b o n e => hk₁ b o n e
    have V₁ : Vars env h₁ m' := V'.kb kw fun a ha q => hwo a q ha
    refine wpAny_assign_Name (hsto _ _ _ _ _ _ _ V₁ fun h₂ tk₂ V₂ hs₂ => ?_)
    have k1 : KB (tgt :: wr) h' h₂ := (kw.mono fun b hb => List.mem_cons_of_mem _ hb).trans (KB.same hs₂ (List.mem_cons_self ..))
    have k2 : KB (tgt :: (wr ++ X)) s.heap h₂ := hk.trans (k1.mono fun b hb => by simp only [List.mem_cons, List.mem_append] at hb ⊢; rcases hb with hb | hb <;> simp [hb])
    have hst₂ : St (i + 1) h₂ := W.frame _ _ _ hst₁ fun b hb o e => (hs₂.2 b (hfp b hb).2).trans e
    refine wpAny_mono (wpAny_passesOwn hE (turn i v m' h₂ _ hlt hP (stab _ _ _ _ hJ k1) k2 V₂ (hob _ _ hst₂))) (fun f s₃ h₃ => ?_) fun _ _ e => e
    have fin : (∃ m' h' tk', s₃ = { s with heap := h', toks := tk' } ∧ Vars env h' m' ∧ KB X h₂ h' ∧ J (i + 1) m' h') →
        ∃ m, m < n + 1 - i ∧ ∃ h' tk m' i, s₃ = { s with heap := h', toks := tk } ∧ St i h' ∧ Vars env h' m' ∧ J i m' h' ∧ i ≤ n ∧ m = n + 1 - i ∧ KB (tgt :: (wr ++ X)) s.heap h' := by
      rintro ⟨m₃, h₃', tk₃, rfl, hn₃, k₃, hJ₃⟩
      refine ⟨n + 1 - (i + 1), by walk_at "om", h₃', tk₃, m₃, i + 1, rfl, W.frame _ _ _ hst₂ fun b hb o e => k₃ b o (hfp b hb).1 e, hn₃, hJ₃, hlt, rfl, k2.trans (k₃.mono fun b hb => ?_)⟩
      simp only [List.mem_cons, List.mem_append]
      simp [hb]
    cases f with
    | ret v => exact h₃
    | brk => exact h₃
    | next => exact fin h₃
    | cont => exact fin h₃
  · obtain rfl : i = n := by walk_at "om"
    refine W.done _ _ _ hst' fun h₁ tk₁ hk₁ => wpAny_execs_nil ?_
    have kw : KB wr h' h₁ := fun b o n e => hk₁ b o n e
    have k1 : KB (tgt :: wr) h' h₁ := kw.mono fun b hb => List.mem_cons_of_mem _ hb
    exact done m' h₁ tk₁ (stab _ _ _ _ hJ k1) (hk.trans (k1.mono fun b hb => by simp only [List.mem_cons, List.mem_append] at hb ⊢; rcases hb with hb | hb <;> simp [hb])) (V'.kb kw fun a ha q => hwo a q ha)

/-- for over a list -/
theorem iter_listV {Q : Flow → Shared → Prop} {x : Str} {px : Pos} {body : List Stmt} {ax tgt : Addr} {items : Array Value} {m₀ : Str → Option Value} (X : List Addr) (J : Addr → Nat → (Str → Option Value) → Heap → Prop)
    (hh : A.handled = none) (hl : s.heap.IsList ax items) (hax : ax ∉ X ∧ ax ≠ tgt) (hX : ∀ b ∈ X, b < s.heap.objs.size) (hsto : Sto env x tgt) (htg : tgt < s.heap.objs.size) (how : ∀ b ∈ owns env, b < s.heap.objs.size)
    (V₀ : Vars env s.heap m₀) (h0 : J s.heap.objs.size 0 m₀ s.heap)
    (stab : ∀ i m h h', J s.heap.objs.size i m h → KB [tgt, s.heap.objs.size] h h' → J s.heap.objs.size i m h')
    (turn : ∀ i v m h tk, items[i]? = some v → J s.heap.objs.size i m h → KB (tgt :: s.heap.objs.size :: X) s.heap h → Vars env h (upd m x v) → (∃ o, h.get? s.heap.objs.size = some o) →
      wpAny (model prog w) A (execs body env) (TurnV env X (J s.heap.objs.size (i + 1)) s h Q) E { s with heap := h, toks := tk })
    (done : ∀ m h tk, J s.heap.objs.size items.size m h → KB (tgt :: X) s.heap h → Vars env h m → Q .next { s with heap := h, toks := tk })
    (hE : PassesOwn (model prog w) A env E := by passes_own) :
    wpAny (model prog w) A (pyIter (.ref ax)) (ForPost prog w A env x px body Q E) E s := by
  obtain ⟨ol, hol, _⟩ := id hl
  have hne : ax ≠ s.heap.objs.size := Nat.ne_of_lt (Heap.lt_size hol)
  refine wpAny_pyIter_list hl ?_
  have W := Walks.list (prog := prog) (w := w) hh s.heap.objs.size ax hne items
  have le : Le s.heap (s.heap.push { cls := .type "list_iterator", data := .fields #[.ref ax, .int 0 0] }) := Le.push _
  refine for_var (m₀ := m₀) W X (J s.heap.objs.size) hsto ?_ ?_ ⟨⟨_, Heap.get?_push_size _ rfl, rfl, rfl⟩, hl.push _⟩ (V₀.le le) (stab _ _ _ _ h0 (KB.of_le le)) (fun i m h h' hj hk => stab i m h h' hj hk) (fun i h st => by obtain ⟨⟨o, ho, _⟩, _⟩ := st; exact ⟨o, ho⟩) ?_ ?_ hE
  · intro b hb
    rcases List.mem_cons.mp hb with rfl | hb
    · exact ⟨fun q => Nat.lt_irrefl _ (hX _ q), fun q => Nat.lt_irrefl _ (Nat.lt_of_lt_of_eq htg q)⟩
    · rw [List.mem_singleton.mp hb]; exact hax
  · intro b hb q
    rw [List.mem_singleton.mp hb] at q
    exact Nat.lt_irrefl _ (how _ q)
  · intro i v m h tk _ hP hJ hk hns hI
    exact turn i v m h tk hP hJ (KB.trans (KB.of_le le) hk) hns hI
  · intro m h tk hJ hk hns
    refine done m h tk hJ (fun b o hb e => ?_) hns
    have hb' : b ≠ s.heap.objs.size := Nat.ne_of_lt (Heap.lt_size e)
    refine hk b o (fun q => ?_) (le b o e)
    rcases List.mem_cons.mp q with q | q
    · exact hb (q ▸ List.mem_cons_self ..)
    · rcases List.mem_cons.mp q with q | q
      · exact hb' q
      · exact hb (List.mem_cons_of_mem _ q)
/-- for over a range -/
theorem iter_rangeV {Q : Flow → Shared → Prop} {x : Str} {px : Pos} {body : List Stmt} {r tgt : Addr} {a b : Int} {n : Nat} {m₀ : Str → Option Value} (X : List Addr) (J : Addr → Nat → (Str → Option Value) → Heap → Prop)
    (hh : A.handled = none) (hr : IsRg s.heap r a b) (ha : -1000 < a) (ha' : a < 1000) (hb : -1000 < b) (hb' : b < 1000) (hsz : (b - a).toNat = n) (hX : ∀ b ∈ X, b < s.heap.objs.size) (hsto : Sto env x tgt) (htg : tgt < s.heap.objs.size) (how : ∀ b ∈ owns env, b < s.heap.objs.size)
    (V₀ : Vars env s.heap m₀) (h0 : J s.heap.objs.size 0 m₀ s.heap)
    (stab : ∀ i m h h', J s.heap.objs.size i m h → KB [tgt, s.heap.objs.size] h h' → J s.heap.objs.size i m h')
    (turn : ∀ i t m h tk, i < n → J s.heap.objs.size i m h → KB (tgt :: s.heap.objs.size :: X) s.heap h → Vars env h (upd m x (.int (a + (i : Int)) t)) → (∃ o, h.get? s.heap.objs.size = some o) →
      wpAny (model prog w) A (execs body env) (TurnV env X (J s.heap.objs.size (i + 1)) s h Q) E { s with heap := h, toks := tk })
    (done : ∀ m h tk, J s.heap.objs.size n m h → KB (tgt :: X) s.heap h → Vars env h m → Q .next { s with heap := h, toks := tk })
    (hE : PassesOwn (model prog w) A env E := by passes_own) :
    wpAny (model prog w) A (pyIter (.ref r)) (ForPost prog w A env x px body Q E) E s := by
  obtain ⟨t, u, v, hr⟩ := hr
  refine wpAny_pyIter_range hr (small_one (by walk_at "om") (by walk_at "om") (by walk_at "om") (by walk_at "om")) ?_
  have W := Walks.range (prog := prog) (w := w) hh s.heap.objs.size a 1 n
  have le : Le s.heap (s.heap.push { cls := .type "range_iterator", data := .fields #[rawInt a, rawInt (Builtin.Range.rangeSize a b 1), rawInt 1] }) := Le.push _
  refine for_var (m₀ := m₀) W X (J s.heap.objs.size) hsto ?_ ?_ ?_ (V₀.le le) (stab _ _ _ _ h0 (KB.of_le le)) (fun i m h h' hj hk => stab i m h h' hj hk) (fun i h st => ⟨_, st⟩) ?_ ?_ hE
  · intro b hb
    rw [List.mem_singleton.mp hb]
    exact ⟨fun q => Nat.lt_irrefl _ (hX _ q), fun q => Nat.lt_irrefl _ (Nat.lt_of_lt_of_eq htg q)⟩
  · intro b hb q
    rw [List.mem_singleton.mp hb] at q
    exact Nat.lt_irrefl _ (how _ q)
  · show IsRangeIter _ _ _ _ _
    rw [rangeSize_nat, hsz]
    simpa using Heap.get?_push_size _ rfl
  · rintro i v m h tk hi ⟨t', rfl⟩ hJ hk hns hI
    rw [Int.mul_one] at hns
    exact turn i t' m h tk hi hJ (KB.trans (KB.of_le le) hk) hns hI
  · intro m h tk hJ hk hns
    refine done m h tk hJ (fun b o hb e => ?_) hns
    have hb' : b ≠ s.heap.objs.size := Nat.ne_of_lt (Heap.lt_size e)
    refine hk b o (fun q => ?_) (le b o e)
    rcases List.mem_cons.mp q with q | q
    · exact hb (q ▸ List.mem_cons_self ..)
    · rcases List.mem_cons.mp q with q | q
      · exact hb' q
      · exact hb (List.mem_cons_of_mem _ q)
end

-- 11_comp.lean
-- needs: 01 02 03 04 05 10
theorem neN {a b : Nat} (h : a ≠ b) : @Ne Addr a b := h
/-- the frame of a comprehension -/
def cenvOf (scope : Scope) (cl : List (Str × Addr)) (C : Addr) (env : Env) : Env :=
  { scope := relabel scope env, locals := C, globals := env.globals, cells := cellsFrom (C + 1) scope.names cl, qual := env.qual, func := none, code := env.code, frame := env.frame, builtins := env.builtins }
theorem cellsFrom_no : ∀ {names : List (Str × NameKind)} (_ : ∀ y ∈ names, y.2 ≠ .cell) (n : Nat) (acc : List (Str × Addr)), cellsFrom n names acc = acc
  | [], _, _, _ => rfl
  | (x, k) :: r, h, n, acc => by
    have hk : (k == NameKind.cell) = false := by simpa using h (x, k) (List.mem_cons_self ..)
    unfold cellsFrom
    rw [hk, if_neg Bool.false_ne_true]
    exact cellsFrom_no (fun y hy => h y (List.mem_cons_of_mem _ hy)) n acc
theorem pushCells_no : ∀ {names : List (Str × NameKind)} (_ : ∀ y ∈ names, y.2 ≠ .cell) (h : Heap), pushCells h names = h
  | [], _, _ => rfl
  | (x, k) :: r, h, hp => by
    have hk : (k == NameKind.cell) = false := by simpa using h (x, k) (List.mem_cons_self ..)
    unfold pushCells
    rw [hk, if_neg Bool.false_ne_true]
    exact pushCells_no (fun y hy => h y (List.mem_cons_of_mem _ hy)) hp
/-- what the names of a comprehension hold at its start -/
def cm0 (scope : Scope) (env : Env) (mc : Str → Option Value) : Str → Option Value := fun x => if (relabel scope env).names.lookup x = some .local ∨ scope.names.lookup x = some .cell then none else mc x
section
variable {M : Model} {A : Around} {E : Value → Shared → Prop} {s : Shared} {env : Env}
theorem new_cenv {scope : Scope} {globals : Addr} {cl : List (Str × Addr)} {qual : Str} {Q : Env → Shared → Prop}
    (hQ : Q { scope, locals := s.heap.objs.size, globals, cells := cellsFrom (s.heap.objs.size + 1) scope.names cl, qual, func := none, code := env.code, frame := env.frame, builtins := env.builtins }
      { s with heap := pushCells (s.heap.push { cls := .type "dict", data := .dict #[] }) scope.names }) :
    wpAny M A (newFunctionEnv scope globals cl [] qual none .none (some env)) Q E s := by
  simp only [newFunctionEnv, Option.isSome_some, if_true]
  refine wpAny_bind (wpAny_alloc ?_)
  refine wpAny_bind (wpAny_layCells _ (fun name kind cells => by cases hkc : kind == NameKind.cell <;> simp [hkc]) _ _ _ _ ?_)
  rw [show ({ s with heap := s.heap.push { cls := .type "dict", data := .dict #[] } } : Shared).heap.objs.size = s.heap.objs.size + 1 from Heap.size_push ..]
  exact wpAny_bind (wpAny_pure (wpAny_pure hQ))
end
/-- the names of a comprehension without cells of its own -/
theorem vars_c0 {h : Heap} {scope : Scope} {cl : List (Str × Addr)} {env : Env} {mc : Str → Option Value} (hnc : ∀ y ∈ scope.names, y.2 ≠ .cell) (hno : ∀ y, scope.names.lookup y ≠ some .cell) (hcl : ∀ x c, cl.lookup x = some c → h.IsCell c (mc x))
    (hlo : ∀ x c, cl.lookup x = some c → (relabel scope env).names.lookup x ≠ some .local) (ap : cl.Pairwise fun x y => x.2 ≠ y.2) (hlt : ∀ x c, (x, c) ∈ cl → c < h.objs.size) :
    Vars (cenvOf scope cl h.objs.size env) (pushCells (h.push { cls := .type "dict", data := .dict #[] }) scope.names) (cm0 scope env mc) := by
  rw [pushCells_no hnc]
  refine ⟨⟨fun _ => none, Heap.Ns.new h (.type "dict"), fun x hx => ?_⟩, ?_, ?_, ?_⟩
  · show none = cm0 scope env mc x
    unfold cm0
    rw [if_pos (.inl hx)]
  · show ∀ x c, (cellsFrom (h.objs.size + 1) scope.names cl).lookup x = some c → _
    rw [cellsFrom_no hnc]
    intro x c e
    have : cm0 scope env mc x = mc x := by
      unfold cm0
      rw [if_neg]
      rintro (q | q)
      · exact hlo x c e q
      · exact hno x q
    rw [this]
    exact (hcl x c e).keeps (Le.push _)
  · show (cellsFrom (h.objs.size + 1) scope.names cl).Pairwise _
    rw [cellsFrom_no hnc]; exact ap
  · show ∀ x c, (x, c) ∈ cellsFrom (h.objs.size + 1) scope.names cl → _
    rw [cellsFrom_no hnc]
    exact fun x c e => Nat.ne_of_lt (hlt x c e)
/-- the names of a comprehension with one cell of its own -/
theorem vars_c1 {h : Heap} {scope : Scope} {cl : List (Str × Addr)} {env : Env} {mc : Str → Option Value} {z : Str} (h1 : ∀ n acc, cellsFrom n scope.names acc = (z, n) :: acc) (h2 : ∀ h : Heap, pushCells h scope.names = h.push { cls := .type "cell", data := .cell none })
    (hz : scope.names.lookup z = some .cell) (hno : ∀ y, scope.names.lookup y = some .cell → y = z) (hcl : ∀ x c, cl.lookup x = some c → h.IsCell c (mc x))
    (hlo : ∀ x c, cl.lookup x = some c → (relabel scope env).names.lookup x ≠ some .local) (ap : cl.Pairwise fun x y => x.2 ≠ y.2) (hlt : ∀ x c, (x, c) ∈ cl → c < h.objs.size) :
    Vars (cenvOf scope cl h.objs.size env) (pushCells (h.push { cls := .type "dict", data := .dict #[] }) scope.names) (cm0 scope env mc) := by
  rw [h2]
  refine ⟨⟨fun _ => none, (Heap.Ns.new h (.type "dict")).keeps (Le.push _), fun x hx => ?_⟩, ?_, ?_, ?_⟩
  · show none = cm0 scope env mc x
    unfold cm0
    rw [if_pos (.inl hx)]
  · show ∀ x c, (cellsFrom (h.objs.size + 1) scope.names cl).lookup x = some c → _
    rw [h1]
    intro x c e
    by_cases hxz : x = z
    · subst hxz
      have : cm0 scope env mc x = none := by
        unfold cm0
        rw [if_pos (.inr hz)]
      rw [this]
      rw [List.lookup_cons, beq_self_eq_true] at e
      cases e
      have e2 := Heap.get?_push_size (h.push { cls := .type "dict", data := .dict #[] }) (o := { cls := .type "cell", data := .cell none }) rfl
      rw [Heap.size_push] at e2
      exact ⟨_, e2, rfl⟩
    · have hb : (x == z) = false := by simpa using hxz
      rw [List.lookup_cons, hb] at e
      have : cm0 scope env mc x = mc x := by
        unfold cm0
        rw [if_neg]
        rintro (q | q)
        · exact hlo x c e q
        · exact hxz (hno x q)
      rw [this]
      exact ((hcl x c e).keeps (Le.push _)).keeps (Le.push _)
  · show (cellsFrom (h.objs.size + 1) scope.names cl).Pairwise _
    rw [h1]
    refine List.pairwise_cons.mpr ⟨fun y hy => ?_, ap⟩
    have : @LT.lt Nat _ y.2 h.objs.size := hlt y.1 y.2 hy
    exact neN (by walk_at "om")
  · show ∀ x c, (x, c) ∈ cellsFrom (h.objs.size + 1) scope.names cl → _
    rw [h1]
    intro x c e
    rcases List.mem_cons.mp e with e | e
    · cases e
      show h.objs.size + 1 ≠ h.objs.size
      omega
    · exact Nat.ne_of_lt (hlt x c e)

section
variable {prog : Program} {w : World} {A : Around} {E : Value → Shared → Prop} {s : Shared} {env : Env}
abbrev Tests (ifs : List Expr) (cenv : Env) : Sem Bool := forIn ifs true fun c r => if r = true then do let ok ← isTrue c cenv (eval c cenv); pure (ForInStep.yield ok) else pure (ForInStep.yield r)
/-- the block of a comprehension of one clause -/
theorem comp_in {elt iter : Expr} {x : Str} {px : Pos} {ifs : List Expr} {scope : Scope} {cl : List (Str × Addr)} {pos : Pos} {I : Addr} {tgt : Nat} {fp wr : List Addr} {n : Nat} {P : Nat → Value → Prop} {St : Nat → Heap → Prop} {m₀ : Str → Option Value} {RR : Value → Addr → Result → Shared → Prop}
    (W : Walks prog w A I fp wr n P St) (hst : St 0 s.heap) (hfp : ∀ b ∈ fp, b < s.heap.objs.size) (hn : n < 1000)
    (hV : ∀ h : Heap, Le s.heap h → h.objs.size = s.heap.objs.size + 1 → Vars (cenvOf scope cl (s.heap.objs.size + 1) env) (pushCells (h.push { cls := .type "dict", data := .dict #[] }) scope.names) m₀)
    (hwo : ∀ b ∈ wr, b ∉ owns (cenvOf scope cl (s.heap.objs.size + 1) env)) (hDo : s.heap.objs.size ∉ owns (cenvOf scope cl (s.heap.objs.size + 1) env))
    (hsto : Sto (cenvOf scope cl (s.heap.objs.size + 1) env) x tgt) (htg : tgt = s.heap.objs.size + 1 ∨ (tgt = s.heap.objs.size + 2 ∧ (cenvOf scope cl (s.heap.objs.size + 1) env).cells.lookup x = some tgt)) (hob : ∀ i h, St i h → ∀ b ∈ wr, ∃ o, h.get? b = some o)
    (J : Nat → List Value → Heap → Prop) (h0 : ∀ h, Le s.heap h → J 0 [] h)
    (stab : ∀ i ys h h', J i ys h → KB (s.heap.objs.size :: (s.heap.objs.size + 1) :: tgt :: wr) h h' → J i ys h')
    (turn : ∀ i v ys h tk, i < n → P i v → J i ys h → KB wr s.heap h → Vars (cenvOf scope cl (s.heap.objs.size + 1) env) h (upd m₀ x v) → (∀ a ∈ s.heap.objs.size :: (s.heap.objs.size + 1) :: tgt :: wr, ∃ o, h.get? a = some o) →
      wpAny (model prog w) A (Tests ifs (cenvOf scope cl (s.heap.objs.size + 1) env)) (fun ok s₃ => ∃ h₃ tk₃, s₃ = { s with heap := h₃, toks := tk₃ } ∧ Le h h₃ ∧
        if ok = true then wpAny (model prog w) A (eval elt (cenvOf scope cl (s.heap.objs.size + 1) env)) (fun y s₄ => ∃ h₄ tk₄, s₄ = { s with heap := h₄, toks := tk₄ } ∧ Le h₃ h₄ ∧ J (i + 1) (ys ++ [y]) h₄) (fun _ _ => False) s₃
        else J (i + 1) ys h₃) (fun _ _ => False) { s with heap := h, toks := tk })
    (done : ∀ ys h tk m', J n ys h → PlainL h s.heap.objs.size ys.toArray → KB wr s.heap h → h.Ns (s.heap.objs.size + 1) m' → RR (.ref s.heap.objs.size) (s.heap.objs.size + 1) (.ok .next) { s with heap := h, toks := tk }) :
    wpAny (model prog w) A (newList []) (fun acc s₃ => wpAny (model prog w) A (newFunctionEnv scope env.globals cl [] env.qual none .none (some env)) (fun cenv s₄ =>
      codeAny (model prog w) A (.compStart (.ListComp elt [⟨.Name x px, iter, ifs, 0⟩] scope pos) 0 (.ref I) acc { cenv with scope := relabel scope env }) (RR acc cenv.locals) s₄) E s₃) E s := by
  refine wpAny_newObj_type (new_cenv ?_)
  have hsz : (s.heap.push { cls := .type "list", dict := none, data := .seq ([] : List Value).toArray }).objs.size = s.heap.objs.size + 1 := Heap.size_push ..
  have V := hV (s.heap.push { cls := .type "list", dict := none, data := .seq ([] : List Value).toArray }) (Le.push _) hsz
  have leC : Le s.heap (pushCells ((s.heap.push { cls := .type "list", dict := none, data := .seq ([] : List Value).toArray }).push { cls := .type "dict", data := .dict #[] }) scope.names) := ((Le.push _).trans (Le.push _)).trans (fun b o e => pushCells_keeps _ _ b o e)
  have hD0 : PlainL (pushCells ((s.heap.push { cls := .type "list", dict := none, data := .seq ([] : List Value).toArray }).push { cls := .type "dict", data := .dict #[] }) scope.names) s.heap.objs.size #[] :=
    ⟨_, _, pushCells_keeps _ _ _ _ (Heap.get?_push_of_some _ (Heap.get?_push_size _ rfl)), rfl, rfl, rfl⟩
  dsimp only
  rw [hsz]
  generalize hH : pushCells ((s.heap.push { cls := .type "list", dict := none, data := .seq ([] : List Value).toArray }).push { cls := .type "dict", data := .dict #[] }) scope.names = H at V leC hD0 ⊢
  have hst' : St 0 H := W.frame _ _ _ hst fun b _ o e => leC b o e
  have hDt : @Ne Addr s.heap.objs.size tgt := neN (by rcases htg with e | ⟨e, _⟩ <;> omega)
  have hDw : s.heap.objs.size ∉ wr := fun q => Nat.lt_irrefl _ (hfp _ (W.sub _ q))
  have hft : ∀ b ∈ fp, b ≠ tgt ∧ b ≠ s.heap.objs.size := fun b hb => by
    have : @LT.lt Nat _ b s.heap.objs.size := hfp b hb
    exact ⟨neN (by rcases htg with e | ⟨e, _⟩ <;> omega), Nat.ne_of_lt this⟩
  have hnew : ∀ b o, s.heap.get? b = some o → b ≠ tgt ∧ b ≠ s.heap.objs.size := fun b o e => by
    have : @LT.lt Nat _ b s.heap.objs.size := Heap.lt_size e
    exact ⟨neN (by rcases htg with e | ⟨e, _⟩ <;> omega), Nat.ne_of_lt this⟩
  show codeAny (model prog w) A (.compStart (.ListComp elt [⟨.Name x px, iter, ifs, 0⟩] scope pos) 0 (.ref I) (.ref s.heap.objs.size) (cenvOf scope cl (s.heap.objs.size + 1) env)) (RR (.ref s.heap.objs.size) (s.heap.objs.size + 1)) { s with heap := H }
  have loop : codeAny (model prog w) A (.compLoop (.ListComp elt [⟨.Name x px, iter, ifs, 0⟩] scope pos) 0 (.ref I) (.ref s.heap.objs.size) (cenvOf scope cl (s.heap.objs.size + 1) env)) (RR (.ref s.heap.objs.size) (s.heap.objs.size + 1)) { s with heap := H } := by
    refine codeAny_compLoop_tests (fun k s' => ∃ h' tk m' i ys, s' = { s with heap := h', toks := tk } ∧ St i h' ∧ Vars (cenvOf scope cl (s.heap.objs.size + 1) env) h' m' ∧ (∀ y, y ≠ x → m' y = m₀ y) ∧ J i ys h' ∧ PlainL h' s.heap.objs.size ys.toArray ∧ ys.length ≤ i ∧ i ≤ n ∧ k = n + 1 - i ∧ KB wr s.heap h') ?_ (n + 1)
      ⟨H, s.toks, m₀, 0, [], rfl, hst', V, fun _ _ => rfl, h0 H leC, hD0, Nat.le_refl _, Nat.zero_le _, rfl, KB.of_le leC⟩
    rintro k s' ⟨h', tk, m', i, ys, rfl, hst₁, V', hm', hJ, hD, hys, hi, rfl, hk⟩
    by_cases hlt : i < n
    · refine W.item i _ _ _ hlt hst₁ fun v h₁ tk₁ hP hst₂ hk₁ => ?_
      have kw : KB wr h' h₁ := fun b o n e => hk₁ b o n e
      have V₁ := V'.kb kw fun a ha q => hwo a q ha
      refine wpAny_assign_Name (hsto _ _ _ _ _ _ _ V₁ fun h₂ tk₂ V₂ hs₂ => ?_)
      have eu : upd m' x v = upd m₀ x v := by
        funext y
        by_cases hy : y = x
        · simp [upd, hy]
        · simp only [upd, if_neg hy]; exact hm' y hy
      rw [eu] at V₂
      have k1 : KB (s.heap.objs.size :: (s.heap.objs.size + 1) :: tgt :: wr) h' h₂ := (kw.mono fun b hb => by simp [hb]).trans (KB.same hs₂ (by simp))
      have hk2 : KB wr s.heap h₂ := fun b o hb e => (hs₂.2 b (hnew b o e).1).trans (kw b o hb (hk b o hb e))
      have hst₃ : St (i + 1) h₂ := W.frame _ _ _ hst₂ fun b hb o e => (hs₂.2 b (hft b hb).1).trans e
      have hD₂ : PlainL h₂ s.heap.objs.size ys.toArray := by
        obtain ⟨o, nn, ho, r⟩ := hD
        exact ⟨o, nn, (hs₂.2 _ hDt).trans (kw _ _ hDw ho), r⟩
      have hex : ∀ a ∈ s.heap.objs.size :: (s.heap.objs.size + 1) :: tgt :: wr, ∃ o, h₂.get? a = some o := by
        obtain ⟨ml, ⟨oC, _, _, hoC, _⟩, _⟩ := V₂.loc
        intro a ha
        rcases List.mem_cons.mp ha with rfl | ha
        · obtain ⟨o, nn, ho, _⟩ := hD₂
          exact ⟨o, ho⟩
        · rcases List.mem_cons.mp ha with rfl | ha
          · exact ⟨oC, hoC⟩
          · rcases List.mem_cons.mp ha with rfl | ha
            · rcases htg with e | ⟨_, e⟩
              · rw [e]; exact ⟨oC, hoC⟩
              · obtain ⟨o, ho, _⟩ := V₂.cel x _ e
                exact ⟨o, ho⟩
            · exact hob _ _ hst₃ a ha
      refine wpAny_noRaise (wpAny_mono (turn i v ys h₂ tk₂ hlt hP (stab _ _ _ _ hJ k1) hk2 V₂ hex) (fun ok s₃ q => ?_) fun _ _ e => e)
      obtain ⟨h₃, tk₃, rfl, le₃, q⟩ := q
      cases ok with
      | false =>
        simp only [Bool.false_eq_true, if_false] at q ⊢
        exact ⟨n + 1 - (i + 1), by walk_at "om", h₃, tk₃, _, i + 1, ys, rfl, W.frame _ _ _ hst₃ fun b _ o e => le₃ b o e, V₂.le le₃, fun y hy => by simp [upd, hy], q, hD₂.keeps le₃, by walk_at "om", hlt, rfl, hk2.trans (KB.of_le le₃)⟩
      | true =>
        simp only [if_true] at q ⊢
        refine wpAny_noRaise (wpAny_mono q (fun y s₄ q => ?_) fun _ _ e => e)
        obtain ⟨h₄, tk₄, rfl, le₄, q⟩ := q
        have le₃₄ := le₃.trans le₄
        refine list_append_plainL (hD₂.keeps le₃₄) (fun h₅ hD₅ hs₅ => ?_) (by rw [List.size_toArray, sizeLine]; omega)
        have hD₅' : PlainL h₅ s.heap.objs.size (ys ++ [y]).toArray := by
          have : (ys ++ [y]).toArray = ys.toArray.push y := by simp
          rw [this]; exact hD₅
        refine ⟨n + 1 - (i + 1), by walk_at "om", h₅, tk₄, _, i + 1, ys ++ [y], rfl, W.frame _ _ _ hst₃ fun b hb o e => (hs₅.2 b (hft b hb).2).trans (le₃₄ b o e), (V₂.le le₃₄).kb (KB.same hs₅ (List.mem_singleton_self _)) (fun a ha q => hDo (List.mem_singleton.mp q ▸ ha)), fun y hy => by simp [upd, hy],
          stab _ _ _ _ q (KB.same hs₅ (List.mem_cons_self ..)), hD₅', by rw [List.length_append, List.length_singleton]; omega, hlt, rfl, fun b o hb e => (hs₅.2 b (hnew b o e).2).trans (le₃₄ b o (hk2 b o hb e))⟩
    · obtain rfl : i = n := by walk_at "om"
      refine W.done _ _ _ hst₁ fun h₁ tk₁ hk₁ => ?_
      have kw : KB wr h' h₁ := fun b o n e => hk₁ b o n e
      obtain ⟨ml, hml, _⟩ := (V'.kb kw fun a ha q => hwo a q ha).loc
      refine done ys h₁ tk₁ ml (stab _ _ _ _ hJ (kw.mono fun b hb => by simp [hb])) ?_ (hk.trans kw) hml
      obtain ⟨o, nn, ho, r⟩ := hD
      exact ⟨o, nn, kw _ _ hDw ho, r⟩
  exact codeAny_compStart_list loop (W.self 0 _ _ _ hst' loop)

/-- the same, what is made said of a frozen heap -/
theorem comp_stdD {elt iter : Expr} {x : Str} {px : Pos} {ifs : List Expr} {scope : Scope} {cl : List (Str × Addr)} {pos : Pos} {I : Addr} {tgt : Nat} {fp wr : List Addr} {n : Nat} {P : Nat → Value → Prop} {St : Nat → Heap → Prop} {m₀ : Str → Option Value} {RR : Value → Addr → Result → Shared → Prop}
    {β : Type} (R : Heap → Value → β → Prop) (hR : ∀ {h h' v b}, R h v b → Le h h' → R h' v b) (F : Nat → Option β) (D : Value → Value → Prop) (g₀ : Heap) (O : List Addr)
    (W : Walks prog w A I fp wr n P St) (hst : St 0 s.heap) (hfp : ∀ b ∈ fp, b < s.heap.objs.size) (hn : n < 1000)
    (hV : ∀ h : Heap, Le s.heap h → h.objs.size = s.heap.objs.size + 1 → Vars (cenvOf scope cl (s.heap.objs.size + 1) env) (pushCells (h.push { cls := .type "dict", data := .dict #[] }) scope.names) m₀)
    (hwo : ∀ b ∈ wr, b ∉ owns (cenvOf scope cl (s.heap.objs.size + 1) env)) (hDo : s.heap.objs.size ∉ owns (cenvOf scope cl (s.heap.objs.size + 1) env))
    (hsto : Sto (cenvOf scope cl (s.heap.objs.size + 1) env) x tgt)
    (htg : tgt = s.heap.objs.size + 1 ∨ (tgt = s.heap.objs.size + 2 ∧ (cenvOf scope cl (s.heap.objs.size + 1) env).cells.lookup x = some tgt)) (hob : ∀ i h, St i h → ∀ b ∈ wr, ∃ o, h.get? b = some o)
    (hg₀ : Le g₀ s.heap) (hgw : ∀ a ∈ wr, g₀.get? a = none) (hO : ∀ a ∈ O, (∃ o, s.heap.get? a = some o) ∧ g₀.get? a = none ∧ a ∉ wr)
    (turn : ∀ i v g ys h tk, i < n → P i v → Le g₀ g → Le g h → All2 (R g) ys ((List.range i).filterMap F) → (∀ a ∈ (s.heap.objs.size :: (s.heap.objs.size + 1) :: tgt :: wr) ++ O, ∃ o, h.get? a = some o) → Vars (cenvOf scope cl (s.heap.objs.size + 1) env) h (upd m₀ x v) →
      wpAny (model prog w) A (Tests ifs (cenvOf scope cl (s.heap.objs.size + 1) env)) (fun ok s₃ => ∃ h₃ tk₃, s₃ = { s with heap := h₃, toks := tk₃ } ∧ Le h h₃ ∧ ok = (F i).isSome ∧
        (ok = true → wpAny (model prog w) A (eval elt (cenvOf scope cl (s.heap.objs.size + 1) env)) (fun y s₄ => ∃ h₄ tk₄ b, s₄ = { s with heap := h₄, toks := tk₄ } ∧ Le h₃ h₄ ∧ F i = some b ∧ (∀ y' ∈ ys, D y' y) ∧ R (hide h₄ ((s.heap.objs.size :: (s.heap.objs.size + 1) :: tgt :: wr) ++ O)) y b) (fun _ _ => False) s₃)) (fun _ _ => False) { s with heap := h, toks := tk })
    (done : ∀ ys g h tk m', Le g₀ g → Le g h → (∀ a ∈ (s.heap.objs.size :: (s.heap.objs.size + 1) :: tgt :: wr) ++ O, g.get? a = none) → All2 (R g) ys ((List.range n).filterMap F) → ys.Pairwise D → PlainL h s.heap.objs.size ys.toArray → KB wr s.heap h → h.Ns (s.heap.objs.size + 1) m' →
      RR (.ref s.heap.objs.size) (s.heap.objs.size + 1) (.ok .next) { s with heap := h, toks := tk }) :
    wpAny (model prog w) A (newList []) (fun acc s₃ => wpAny (model prog w) A (newFunctionEnv scope env.globals cl [] env.qual none .none (some env)) (fun cenv s₄ =>
      codeAny (model prog w) A (.compStart (.ListComp elt [⟨.Name x px, iter, ifs, 0⟩] scope pos) 0 (.ref I) acc { cenv with scope := relabel scope env }) (RR acc cenv.locals) s₄) E s₃) E s := by
  have hlt : ∀ a, s.heap.objs.size ≤ a → g₀.get? a = none := fun a ha => none_back hg₀ (Heap.get?_none_of_le ha)
  have off₀ : ∀ a ∈ (s.heap.objs.size :: (s.heap.objs.size + 1) :: tgt :: wr) ++ O, g₀.get? a = none := by
    intro a ha
    rcases List.mem_append.mp ha with ha | ha
    · rcases List.mem_cons.mp ha with rfl | ha
      · exact hlt _ (Nat.le_refl _)
      · rcases List.mem_cons.mp ha with rfl | ha
        · exact hlt _ (Nat.le_succ _)
        · rcases List.mem_cons.mp ha with rfl | ha
          · exact hlt _ (by rcases htg with e | ⟨e, _⟩ <;> omega)
          · exact hgw a ha
    · exact (hO a ha).2.1
  refine comp_in (m₀ := m₀) W hst hfp hn hV hwo hDo hsto htg hob (fun i ys h => ∃ g, Le g₀ g ∧ Le g h ∧ (∀ a ∈ (s.heap.objs.size :: (s.heap.objs.size + 1) :: tgt :: wr) ++ O, g.get? a = none) ∧ All2 (R g) ys ((List.range i).filterMap F) ∧ ys.Pairwise D) ?_ ?_ ?_ ?_
  · intro h hl
    exact ⟨g₀, Le.rfl, hg₀.trans hl, off₀, trivial, .nil⟩
  · rintro i ys h h' ⟨g, h1, h2, h3, h4⟩ k
    exact ⟨g, h1, k.le h2 fun a ha => h3 a (List.mem_append_left _ ha), h3, h4⟩
  · rintro i v ys h tk hi hP ⟨g, h1, h2, h3, h4⟩ hk V hex
    have hex' : ∀ a ∈ (s.heap.objs.size :: (s.heap.objs.size + 1) :: tgt :: wr) ++ O, ∃ o, h.get? a = some o := by
      intro a ha
      rcases List.mem_append.mp ha with ha | ha
      · exact hex a ha
      · obtain ⟨⟨o, ho⟩, _, hw⟩ := hO a ha
        exact ⟨o, hk a o hw ho⟩
    refine wpAny_mono (turn i v g ys h tk hi hP h1 h2 h4.1 hex' V) (fun ok s₃ q => ?_) fun _ _ e => e
    obtain ⟨h₃, tk₃, rfl, le₃, hok, q⟩ := q
    refine ⟨h₃, tk₃, rfl, le₃, ?_⟩
    have hr : (List.range (i + 1)).filterMap F = (List.range i).filterMap F ++ (F i).toList := by
      rw [List.range_succ, List.filterMap_append]
      congr 1
    cases ok with
    | false =>
      simp only [Bool.false_eq_true, if_false]
      have : F i = none := by simpa using hok.symm
      exact ⟨g, h1, h2.trans le₃, h3, by rw [hr, this]; simpa using h4.1, h4.2⟩
    | true =>
      simp only [if_true]
      refine wpAny_mono (q rfl) (fun y s₄ q => ?_) fun _ _ e => e
      obtain ⟨h₄, tk₄, b, rfl, le₄, hb, hdj, hy⟩ := q
      have hl4 : Le g h₄ := h2.trans (le₃.trans le₄)
      refine ⟨h₄, tk₄, rfl, le₄, hide h₄ ((s.heap.objs.size :: (s.heap.objs.size + 1) :: tgt :: wr) ++ O), h1.trans (le_hide hl4 h3), hide_le _ _, hide_off _ _, ?_, List.pairwise_append.mpr ⟨h4.2, List.pairwise_singleton .., fun y' hy' z hz => by rw [List.mem_singleton.mp hz]; exact hdj y' hy'⟩⟩
      rw [hr, hb]
      exact All2.snoc (h4.1.mono fun _ _ r => hR r (le_hide hl4 h3)) hy
  · rintro ys h tk m' ⟨g, h1, h2, h3, h4⟩ hD hk hn'
    exact done ys g h tk m' h1 h2 h3 h4.1 h4.2 hD hk hn'
end

-- 12_comp2.lean
-- needs: 01 02 03 04 05 10 11
theorem cellsFrom_mem : ∀ {names : List (Str × NameKind)} {n : Nat} {acc : List (Str × Addr)} {p : Str × Addr}, p ∈ cellsFrom n names acc → p ∈ acc ∨ @LE.le Nat _ n p.2
  | [], _, _, _, h => .inl h
  | (x, k) :: r, n, acc, p, h => by
    unfold cellsFrom at h
    split at h
    · rcases cellsFrom_mem h with q | q
      · rcases List.mem_cons.mp q with rfl | q
        · exact .inr (Nat.le_refl _)
        · exact .inl q
      · exact .inr (Nat.le_of_succ_le q)
    · exact cellsFrom_mem h
theorem lookup_all {α : Type} {l : List (Str × α)} {P : Str × α → Bool} (h : l.all P = true) {x : Str} {c : α} (e : l.lookup x = some c) : P (x, c) = true := List.all_eq_true.mp h _ (mem_of_lookup e)
theorem nodup_apart {h : Heap} {env : Env} {m : Str → Option Value} (V : Vars env h m) : ∀ {cl : List (Str × Addr)}, (∀ p ∈ cl, env.cells.lookup p.1 = some p.2) → (cl.map (·.1)).Nodup → cl.Pairwise fun x y => x.2 ≠ y.2
  | [], _, _ => .nil
  | p :: cl, hs, hn => by
    rw [List.map_cons, List.nodup_cons] at hn
    refine List.pairwise_cons.mpr ⟨fun q hq e => hn.1 ?_, nodup_apart V (fun q hq => hs q (List.mem_cons_of_mem _ hq)) hn.2⟩
    have e1 := mem_of_lookup (hs p (List.mem_cons_self ..))
    have e2 := mem_of_lookup (hs q (List.mem_cons_of_mem _ hq))
    have : p.1 = q.1 := name_of_addr V.apart e1 (e ▸ e2)
    rw [this]
    exact List.mem_map.mpr ⟨q, hq, rfl⟩
theorem cap_lt {h : Heap} {env : Env} {m : Str → Option Value} {cl : List (Str × Addr)} (V : Vars env h m) (hs : ∀ p ∈ cl, env.cells.lookup p.1 = some p.2) : ∀ p ∈ cl, p.2 < h.objs.size := fun p hp => (V.cel _ _ (hs p hp)).lt
/-- names of a comprehension, no cell of its own -/
theorem cvars0 {h h' : Heap} {scope : Scope} {cl : List (Str × Addr)} {env : Env} {m : Str → Option Value} (V : Vars env h m) (hs : ∀ p ∈ cl, env.cells.lookup p.1 = some p.2)
    (hnc : (scope.names.all fun y => y.2 != .cell) = true) (hlo : (cl.all fun p => (relabel scope env).names.lookup p.1 != some .local) = true) (hnd : decide (cl.map (·.1)).Nodup = true) (l : Le h h') :
    Vars (cenvOf scope cl h'.objs.size env) (pushCells (h'.push { cls := .type "dict", data := .dict #[] }) scope.names) (cm0 scope env m) := by
  have hlt := cap_lt V hs
  refine vars_c0 (fun y hy => by simpa using List.all_eq_true.mp hnc y hy) (fun y e => by simpa using lookup_all hnc e) (fun x c e => (V.cel x c (hs _ (mem_of_lookup e))).keeps l) (fun x c e => by simpa using lookup_all hlo e)
    (nodup_apart V hs (of_decide_eq_true hnd)) (fun x c e => ?_)
  obtain ⟨o, ho, _⟩ := V.cel x c (hs _ e)
  exact Heap.lt_size (l _ _ ho)
/-- names of a comprehension, one cell of its own -/
theorem cvars1 {h h' : Heap} {scope : Scope} {cl : List (Str × Addr)} {env : Env} {m : Str → Option Value} {z : Str} (V : Vars env h m) (hs : ∀ p ∈ cl, env.cells.lookup p.1 = some p.2)
    (h1 : ∀ n acc, cellsFrom n scope.names acc = (z, n) :: acc) (h2 : ∀ h : Heap, pushCells h scope.names = h.push { cls := .type "cell", data := .cell none }) (hz : scope.names.lookup z = some .cell)
    (hno : (scope.names.all fun y => y.2 != .cell || y.1 == z) = true) (hlo : (cl.all fun p => (relabel scope env).names.lookup p.1 != some .local) = true) (hnd : decide (cl.map (·.1)).Nodup = true) (l : Le h h') :
    Vars (cenvOf scope cl h'.objs.size env) (pushCells (h'.push { cls := .type "dict", data := .dict #[] }) scope.names) (cm0 scope env m) := by
  refine vars_c1 h1 h2 hz (fun y e => by simpa using lookup_all hno e) (fun x c e => (V.cel x c (hs _ (mem_of_lookup e))).keeps l) (fun x c e => by simpa using lookup_all hlo e)
    (nodup_apart V hs (of_decide_eq_true hnd)) (fun x c e => ?_)
  obtain ⟨o, ho, _⟩ := V.cel x c (hs _ e)
  exact Heap.lt_size (l _ _ ho)
section
variable {prog : Program} {w : World} {A : Around} {E : Value → Shared → Prop} {s : Shared} {env : Env}
abbrev CompBlock (prog : Program) (w : World) (A : Around) (env : Env) (elt iter : Expr) (x : Str) (px : Pos) (ifs : List Expr) (scope : Scope) (cl : List (Str × Addr)) (pos : Pos) (RR : Value → Addr → Result → Shared → Prop) (E : Value → Shared → Prop) (it : Value) (s₂ : Shared) : Prop :=
  wpAny (model prog w) A (newList []) (fun acc s₃ => wpAny (model prog w) A (newFunctionEnv scope env.globals cl [] env.qual none .none (some env)) (fun cenv s₄ =>
      codeAny (model prog w) A (.compStart (.ListComp elt [⟨.Name x px, iter, ifs, 0⟩] scope pos) 0 it acc { cenv with scope := relabel scope env }) (RR acc cenv.locals) s₄) E s₃) E s₂
/-- the places that a comprehension begun at N changes -/
def cX (N k : Nat) (O : List Addr) : List Addr := [N + 1, N + 2, N + 2 + k, N] ++ O
theorem comp_walksD {elt iter : Expr} {x : Str} {px : Pos} {ifs : List Expr} {scope : Scope} {cl : List (Str × Addr)} {pos : Pos} {fp : List Addr} {n k : Nat} {P : Nat → Value → Prop} {St : Nat → Heap → Prop} {m : Str → Option Value} {RR : Value → Addr → Result → Shared → Prop} {io : Obj}
    {β : Type} (R : Heap → Value → β → Prop) (hR : ∀ {h h' v b}, R h v b → Le h h' → R h' v b) (F : Nat → Option β) (D : Value → Value → Prop) (g₀ : Heap) (O : List Addr)
    (hio : io.isFreed = false) (W : Walks prog w A s.heap.objs.size fp [s.heap.objs.size] n P St) (hst : St 0 (s.heap.push io)) (hfp : ∀ b ∈ fp, b ≤ s.heap.objs.size) (hn : n < 1000) (hob : ∀ i h, St i h → ∃ o, h.get? s.heap.objs.size = some o)
    (V : Vars env s.heap m) (hcap : ∀ p ∈ cl, env.cells.lookup p.1 = some p.2)
    (hCV : ∀ h, Le s.heap h → Vars (cenvOf scope cl h.objs.size env) (pushCells (h.push { cls := .type "dict", data := .dict #[] }) scope.names) (cm0 scope env m))
    (hSt : ∀ C : Nat, Sto (cenvOf scope cl C env) x (C + k)) (hk : k = 0 ∨ (k = 1 ∧ ∀ C : Nat, (cenvOf scope cl C env).cells.lookup x = some (C + 1)))
    (hg₀ : Le g₀ s.heap) (hO : ∀ a ∈ O, (∃ o, s.heap.get? a = some o) ∧ g₀.get? a = none)
    (turn : ∀ i v g ys h tk, i < n → P i v → Le g₀ g → Le g h → All2 (R g) ys ((List.range i).filterMap F) → (∀ a ∈ cX s.heap.objs.size k O, ∃ o, h.get? a = some o) → Vars (cenvOf scope cl (s.heap.objs.size + 2) env) h (upd (cm0 scope env m) x v) →
      wpAny (model prog w) A (Tests ifs (cenvOf scope cl (s.heap.objs.size + 2) env)) (fun ok s₃ => ∃ h₃ tk₃, s₃ = { s with heap := h₃, toks := tk₃ } ∧ Le h h₃ ∧ ok = (F i).isSome ∧
        (ok = true → wpAny (model prog w) A (eval elt (cenvOf scope cl (s.heap.objs.size + 2) env)) (fun y s₄ => ∃ h₄ tk₄ b, s₄ = { s with heap := h₄, toks := tk₄ } ∧ Le h₃ h₄ ∧ F i = some b ∧ (∀ y' ∈ ys, D y' y) ∧ R (hide h₄ (cX s.heap.objs.size k O)) y b) (fun _ _ => False) s₃)) (fun _ _ => False) { s with heap := h, toks := tk })
    (done : ∀ ys g h tk m', Le g₀ g → Le g h → (∀ a ∈ cX s.heap.objs.size k O, g.get? a = none) → All2 (R g) ys ((List.range n).filterMap F) → ys.Pairwise D → PlainL h (s.heap.objs.size + 1) ys.toArray → Le s.heap h → h.Ns (s.heap.objs.size + 2) m' →
      RR (.ref (s.heap.objs.size + 1)) (s.heap.objs.size + 2) (.ok .next) { s with heap := h, toks := tk }) :
    CompBlock prog w A env elt iter x px ifs scope cl pos RR E (.ref s.heap.objs.size) { s with heap := s.heap.push io } := by
  have hsz : (s.heap.push io).objs.size = s.heap.objs.size + 1 := Heap.size_push ..
  have hlt : ∀ p ∈ cl, @LT.lt Nat _ p.2 s.heap.objs.size := cap_lt V hcap
  have hown : ∀ a ∈ owns (cenvOf scope cl (s.heap.objs.size + 2) env), @LT.lt Nat _ a s.heap.objs.size ∨ @LE.le Nat _ (s.heap.objs.size + 2) a := by
    intro a ha
    rcases List.mem_cons.mp ha with rfl | ha
    · exact .inr (Nat.le_refl _)
    · obtain ⟨p, hp, rfl⟩ := List.mem_map.mp ha
      rcases cellsFrom_mem hp with q | q
      · exact .inl (hlt p q)
      · exact .inr (Nat.le_of_succ_le q)
  have key := comp_stdD (env := env) (elt := elt) (iter := iter) (x := x) (px := px) (ifs := ifs) (scope := scope) (cl := cl) (pos := pos) (tgt := s.heap.objs.size + 2 + k) (m₀ := cm0 scope env m) (RR := RR) (E := E) (s := { s with heap := s.heap.push io }) R hR F D g₀ O W hst
  dsimp only at key
  rw [hsz] at key
  have leI : Le s.heap (s.heap.push io) := Le.push _
  refine key (fun b hb => Nat.lt_succ_of_le (hfp b hb)) hn ?_ ?_ ?_ (hSt _) ?_ ?_ (hg₀.trans leI) ?_ ?_ ?_ ?_
  · intro h hl he
    have := hCV h (leI.trans hl)
    rw [he] at this
    exact this
  · intro b hb q
    rw [List.mem_singleton.mp hb] at q
    rcases hown _ q with e | e <;> omega
  · intro q
    rcases hown _ q with e | e <;> omega
  · rcases hk with rfl | ⟨rfl, hc⟩
    · exact .inl rfl
    · exact .inr ⟨rfl, hc _⟩
  · intro i h st b hb
    rw [List.mem_singleton.mp hb]
    exact hob i h st
  · intro a ha
    rw [List.mem_singleton.mp ha]
    exact none_of_le hg₀
  · intro a ha
    obtain ⟨⟨o, ho⟩, h2⟩ := hO a ha
    exact ⟨⟨o, leI _ _ ho⟩, h2, fun q => Nat.lt_irrefl _ (List.mem_singleton.mp q ▸ Heap.lt_size ho)⟩
  · intro i v g ys h tk hi hP h1 h2 hys hex V'
    exact turn i v g ys h tk hi hP h1 h2 hys hex V'
  · intro ys g h tk m' h1 h2 h3 h4 h4' hD hk' hn'
    refine done ys g h tk m' h1 h2 h3 h4 h4' hD (fun b o e => hk' b o (fun q => Nat.lt_irrefl _ (List.mem_singleton.mp q ▸ Heap.lt_size e)) (leI b o e)) hn'
theorem comp_walks {elt iter : Expr} {x : Str} {px : Pos} {ifs : List Expr} {scope : Scope} {cl : List (Str × Addr)} {pos : Pos} {fp : List Addr} {n k : Nat} {P : Nat → Value → Prop} {St : Nat → Heap → Prop} {m : Str → Option Value} {RR : Value → Addr → Result → Shared → Prop} {io : Obj}
    {β : Type} (R : Heap → Value → β → Prop) (hR : ∀ {h h' v b}, R h v b → Le h h' → R h' v b) (F : Nat → Option β) (g₀ : Heap) (O : List Addr)
    (hio : io.isFreed = false) (W : Walks prog w A s.heap.objs.size fp [s.heap.objs.size] n P St) (hst : St 0 (s.heap.push io)) (hfp : ∀ b ∈ fp, b ≤ s.heap.objs.size) (hn : n < 1000) (hob : ∀ i h, St i h → ∃ o, h.get? s.heap.objs.size = some o)
    (V : Vars env s.heap m) (hcap : ∀ p ∈ cl, env.cells.lookup p.1 = some p.2)
    (hCV : ∀ h, Le s.heap h → Vars (cenvOf scope cl h.objs.size env) (pushCells (h.push { cls := .type "dict", data := .dict #[] }) scope.names) (cm0 scope env m))
    (hSt : ∀ C : Nat, Sto (cenvOf scope cl C env) x (C + k)) (hk : k = 0 ∨ (k = 1 ∧ ∀ C : Nat, (cenvOf scope cl C env).cells.lookup x = some (C + 1)))
    (hg₀ : Le g₀ s.heap) (hO : ∀ a ∈ O, (∃ o, s.heap.get? a = some o) ∧ g₀.get? a = none)
    (turn : ∀ i v g h tk, i < n → P i v → Le g₀ g → Le g h → (∀ a ∈ cX s.heap.objs.size k O, ∃ o, h.get? a = some o) → Vars (cenvOf scope cl (s.heap.objs.size + 2) env) h (upd (cm0 scope env m) x v) →
      wpAny (model prog w) A (Tests ifs (cenvOf scope cl (s.heap.objs.size + 2) env)) (fun ok s₃ => ∃ h₃ tk₃, s₃ = { s with heap := h₃, toks := tk₃ } ∧ Le h h₃ ∧ ok = (F i).isSome ∧
        (ok = true → wpAny (model prog w) A (eval elt (cenvOf scope cl (s.heap.objs.size + 2) env)) (fun y s₄ => ∃ h₄ tk₄ b, s₄ = { s with heap := h₄, toks := tk₄ } ∧ Le h₃ h₄ ∧ F i = some b ∧ R (hide h₄ (cX s.heap.objs.size k O)) y b) (fun _ _ => False) s₃)) (fun _ _ => False) { s with heap := h, toks := tk })
    (done : ∀ ys g h tk m', Le g₀ g → Le g h → (∀ a ∈ cX s.heap.objs.size k O, g.get? a = none) → All2 (R g) ys ((List.range n).filterMap F) → PlainL h (s.heap.objs.size + 1) ys.toArray → Le s.heap h → h.Ns (s.heap.objs.size + 2) m' →
      RR (.ref (s.heap.objs.size + 1)) (s.heap.objs.size + 2) (.ok .next) { s with heap := h, toks := tk }) :
    CompBlock prog w A env elt iter x px ifs scope cl pos RR E (.ref s.heap.objs.size) { s with heap := s.heap.push io } := by
  refine comp_walksD R hR F (fun _ _ => True) g₀ O hio W hst hfp hn hob V hcap hCV hSt hk hg₀ hO ?_ fun ys g h tk m' h1 h2 h3 h4 _ => done ys g h tk m' h1 h2 h3 h4
  intro i v g ys h tk hi hP h1 h2 _ hex V'
  refine wpAny_mono (turn i v g h tk hi hP h1 h2 hex V') (fun ok s₃ q => ?_) fun _ _ e => e
  obtain ⟨h₃, tk₃, e, le₃, hok, q⟩ := q
  refine ⟨h₃, tk₃, e, le₃, hok, fun hh => wpAny_mono (q hh) (fun y s₄ q => ?_) fun _ _ e => e⟩
  obtain ⟨h₄, tk₄, b, e4, le₄, hb, hy⟩ := q
  exact ⟨h₄, tk₄, b, e4, le₄, hb, fun _ _ => trivial, hy⟩
theorem comp_rgD {elt iter : Expr} {x : Str} {px : Pos} {ifs : List Expr} {scope : Scope} {cl : List (Str × Addr)} {pos : Pos} {n k : Nat} {m : Str → Option Value} {RR : Value → Addr → Result → Shared → Prop} {r : Addr} {a b : Int}
    {β : Type} (R : Heap → Value → β → Prop) (hR : ∀ {h h' v b}, R h v b → Le h h' → R h' v b) (F : Nat → Option β) (D : Value → Value → Prop) (g₀ : Heap) (O : List Addr)
    (hh : A.handled = none) (hr : IsRg s.heap r a b) (ha : -1000 < a) (ha' : a < 1000) (hb : -1000 < b) (hb' : b < 1000) (hsz : (b - a).toNat = n) (hn : n < 1000)
    (V : Vars env s.heap m) (hcap : ∀ p ∈ cl, env.cells.lookup p.1 = some p.2)
    (hCV : ∀ h, Le s.heap h → Vars (cenvOf scope cl h.objs.size env) (pushCells (h.push { cls := .type "dict", data := .dict #[] }) scope.names) (cm0 scope env m))
    (hSt : ∀ C : Nat, Sto (cenvOf scope cl C env) x (C + k)) (hk : k = 0 ∨ (k = 1 ∧ ∀ C : Nat, (cenvOf scope cl C env).cells.lookup x = some (C + 1)))
    (hg₀ : Le g₀ s.heap) (hO : ∀ a ∈ O, (∃ o, s.heap.get? a = some o) ∧ g₀.get? a = none)
    (turn : ∀ i t g ys h tk, i < n → Le g₀ g → Le g h → All2 (R g) ys ((List.range i).filterMap F) → (∀ a ∈ cX s.heap.objs.size k O, ∃ o, h.get? a = some o) → Vars (cenvOf scope cl (s.heap.objs.size + 2) env) h (upd (cm0 scope env m) x (.int (a + (i : Int)) t)) →
      wpAny (model prog w) A (Tests ifs (cenvOf scope cl (s.heap.objs.size + 2) env)) (fun ok s₃ => ∃ h₃ tk₃, s₃ = { s with heap := h₃, toks := tk₃ } ∧ Le h h₃ ∧ ok = (F i).isSome ∧
        (ok = true → wpAny (model prog w) A (eval elt (cenvOf scope cl (s.heap.objs.size + 2) env)) (fun y s₄ => ∃ h₄ tk₄ b, s₄ = { s with heap := h₄, toks := tk₄ } ∧ Le h₃ h₄ ∧ F i = some b ∧ (∀ y' ∈ ys, D y' y) ∧ R (hide h₄ (cX s.heap.objs.size k O)) y b) (fun _ _ => False) s₃)) (fun _ _ => False) { s with heap := h, toks := tk })
    (done : ∀ ys g h tk m', Le g₀ g → Le g h → (∀ a ∈ cX s.heap.objs.size k O, g.get? a = none) → All2 (R g) ys ((List.range n).filterMap F) → ys.Pairwise D → PlainL h (s.heap.objs.size + 1) ys.toArray → Le s.heap h → h.Ns (s.heap.objs.size + 2) m' →
      RR (.ref (s.heap.objs.size + 1)) (s.heap.objs.size + 2) (.ok .next) { s with heap := h, toks := tk }) :
    wpAny (model prog w) A (pyIter (.ref r)) (CompBlock prog w A env elt iter x px ifs scope cl pos RR E) E s := by
  obtain ⟨t, u, v, hr⟩ := hr
  refine wpAny_pyIter_range hr (small_one (by walk_at "om") (by walk_at "om") (by walk_at "om") (by walk_at "om")) ?_
  have W := Walks.range (prog := prog) (w := w) hh s.heap.objs.size a 1 n
  refine comp_walksD R hR F D g₀ O rfl W ?_ (by simp) hn (fun i h st => ⟨_, st⟩) V hcap hCV hSt hk hg₀ hO ?_ done
  · show IsRangeIter _ _ _ _ _
    rw [rangeSize_nat, hsz]
    simpa using Heap.get?_push_size _ rfl
  · rintro i v g ys h tk hi ⟨t', rfl⟩ h1 h2 hys hex V'
    rw [Int.mul_one] at V'
    exact turn i t' g ys h tk hi h1 h2 hys hex V'
theorem comp_rg {elt iter : Expr} {x : Str} {px : Pos} {ifs : List Expr} {scope : Scope} {cl : List (Str × Addr)} {pos : Pos} {n k : Nat} {m : Str → Option Value} {RR : Value → Addr → Result → Shared → Prop} {r : Addr} {a b : Int}
    {β : Type} (R : Heap → Value → β → Prop) (hR : ∀ {h h' v b}, R h v b → Le h h' → R h' v b) (F : Nat → Option β) (g₀ : Heap) (O : List Addr)
    (hh : A.handled = none) (hr : IsRg s.heap r a b) (ha : -1000 < a) (ha' : a < 1000) (hb : -1000 < b) (hb' : b < 1000) (hsz : (b - a).toNat = n) (hn : n < 1000)
    (V : Vars env s.heap m) (hcap : ∀ p ∈ cl, env.cells.lookup p.1 = some p.2)
    (hCV : ∀ h, Le s.heap h → Vars (cenvOf scope cl h.objs.size env) (pushCells (h.push { cls := .type "dict", data := .dict #[] }) scope.names) (cm0 scope env m))
    (hSt : ∀ C : Nat, Sto (cenvOf scope cl C env) x (C + k)) (hk : k = 0 ∨ (k = 1 ∧ ∀ C : Nat, (cenvOf scope cl C env).cells.lookup x = some (C + 1)))
    (hg₀ : Le g₀ s.heap) (hO : ∀ a ∈ O, (∃ o, s.heap.get? a = some o) ∧ g₀.get? a = none)
    (turn : ∀ i t g h tk, i < n → Le g₀ g → Le g h → (∀ a ∈ cX s.heap.objs.size k O, ∃ o, h.get? a = some o) → Vars (cenvOf scope cl (s.heap.objs.size + 2) env) h (upd (cm0 scope env m) x (.int (a + (i : Int)) t)) →
      wpAny (model prog w) A (Tests ifs (cenvOf scope cl (s.heap.objs.size + 2) env)) (fun ok s₃ => ∃ h₃ tk₃, s₃ = { s with heap := h₃, toks := tk₃ } ∧ Le h h₃ ∧ ok = (F i).isSome ∧
        (ok = true → wpAny (model prog w) A (eval elt (cenvOf scope cl (s.heap.objs.size + 2) env)) (fun y s₄ => ∃ h₄ tk₄ b, s₄ = { s with heap := h₄, toks := tk₄ } ∧ Le h₃ h₄ ∧ F i = some b ∧ R (hide h₄ (cX s.heap.objs.size k O)) y b) (fun _ _ => False) s₃)) (fun _ _ => False) { s with heap := h, toks := tk })
    (done : ∀ ys g h tk m', Le g₀ g → Le g h → (∀ a ∈ cX s.heap.objs.size k O, g.get? a = none) → All2 (R g) ys ((List.range n).filterMap F) → PlainL h (s.heap.objs.size + 1) ys.toArray → Le s.heap h → h.Ns (s.heap.objs.size + 2) m' →
      RR (.ref (s.heap.objs.size + 1)) (s.heap.objs.size + 2) (.ok .next) { s with heap := h, toks := tk }) :
    wpAny (model prog w) A (pyIter (.ref r)) (CompBlock prog w A env elt iter x px ifs scope cl pos RR E) E s := by
  obtain ⟨t, u, v, hr⟩ := hr
  refine wpAny_pyIter_range hr (small_one (by walk_at "om") (by walk_at "om") (by walk_at "om") (by walk_at "om")) ?_
  have W := Walks.range (prog := prog) (w := w) hh s.heap.objs.size a 1 n
  refine comp_walks R hR F g₀ O rfl W ?_ (by simp) hn (fun i h st => ⟨_, st⟩) V hcap hCV hSt hk hg₀ hO ?_ done
  · show IsRangeIter _ _ _ _ _
    rw [rangeSize_nat, hsz]
    simpa using Heap.get?_push_size _ rfl
  · rintro i v g h tk hi ⟨t', rfl⟩ h1 h2 hex V'
    rw [Int.mul_one] at V'
    exact turn i t' g h tk hi h1 h2 hex V'
theorem comp_ls {elt iter : Expr} {x : Str} {px : Pos} {ifs : List Expr} {scope : Scope} {cl : List (Str × Addr)} {pos : Pos} {k : Nat} {m : Str → Option Value} {RR : Value → Addr → Result → Shared → Prop} {ax : Addr} {vs : List Value}
    {β : Type} (R : Heap → Value → β → Prop) (hR : ∀ {h h' v b}, R h v b → Le h h' → R h' v b) (F : Nat → Option β) (g₀ : Heap) (O : List Addr)
    (hh : A.handled = none) (hl : s.heap.IsList ax vs.toArray) (hn : vs.length < 1000)
    (V : Vars env s.heap m) (hcap : ∀ p ∈ cl, env.cells.lookup p.1 = some p.2)
    (hCV : ∀ h, Le s.heap h → Vars (cenvOf scope cl h.objs.size env) (pushCells (h.push { cls := .type "dict", data := .dict #[] }) scope.names) (cm0 scope env m))
    (hSt : ∀ C : Nat, Sto (cenvOf scope cl C env) x (C + k)) (hk : k = 0 ∨ (k = 1 ∧ ∀ C : Nat, (cenvOf scope cl C env).cells.lookup x = some (C + 1)))
    (hg₀ : Le g₀ s.heap) (hO : ∀ a ∈ O, (∃ o, s.heap.get? a = some o) ∧ g₀.get? a = none)
    (turn : ∀ i v g h tk, vs[i]? = some v → Le g₀ g → Le g h → (∀ a ∈ cX s.heap.objs.size k O, ∃ o, h.get? a = some o) → Vars (cenvOf scope cl (s.heap.objs.size + 2) env) h (upd (cm0 scope env m) x v) →
      wpAny (model prog w) A (Tests ifs (cenvOf scope cl (s.heap.objs.size + 2) env)) (fun ok s₃ => ∃ h₃ tk₃, s₃ = { s with heap := h₃, toks := tk₃ } ∧ Le h h₃ ∧ ok = (F i).isSome ∧
        (ok = true → wpAny (model prog w) A (eval elt (cenvOf scope cl (s.heap.objs.size + 2) env)) (fun y s₄ => ∃ h₄ tk₄ b, s₄ = { s with heap := h₄, toks := tk₄ } ∧ Le h₃ h₄ ∧ F i = some b ∧ R (hide h₄ (cX s.heap.objs.size k O)) y b) (fun _ _ => False) s₃)) (fun _ _ => False) { s with heap := h, toks := tk })
    (done : ∀ ys g h tk m', Le g₀ g → Le g h → (∀ a ∈ cX s.heap.objs.size k O, g.get? a = none) → All2 (R g) ys ((List.range vs.length).filterMap F) → PlainL h (s.heap.objs.size + 1) ys.toArray → Le s.heap h → h.Ns (s.heap.objs.size + 2) m' →
      RR (.ref (s.heap.objs.size + 1)) (s.heap.objs.size + 2) (.ok .next) { s with heap := h, toks := tk }) :
    wpAny (model prog w) A (pyIter (.ref ax)) (CompBlock prog w A env elt iter x px ifs scope cl pos RR E) E s := by
  obtain ⟨ol, hol, _⟩ := id hl
  have hlt : ax < s.heap.objs.size := Heap.lt_size hol
  refine wpAny_pyIter_list hl ?_
  have W := Walks.list (prog := prog) (w := w) hh s.heap.objs.size ax (Nat.ne_of_lt hlt) vs.toArray
  rw [List.size_toArray] at W
  refine comp_walks R hR F g₀ O rfl W ⟨⟨_, Heap.get?_push_size _ rfl, rfl, rfl⟩, hl.push _⟩ ?_ hn (fun i h st => by obtain ⟨⟨o, ho, _⟩, _⟩ := st; exact ⟨o, ho⟩) V hcap hCV hSt hk hg₀ hO ?_ done
  · intro b hb
    rcases List.mem_cons.mp hb with rfl | hb
    · exact Nat.le_refl _
    · rw [List.mem_singleton.mp hb]; exact Nat.le_of_lt hlt
  · intro i v g h tk hi hP h1 h2 hex V'
    exact turn i v g h tk (by simpa using hP) h1 h2 hex V'
def EvRR (Q : Value → Shared → Prop) (acc : Value) (C : Addr) (r : Result) (s' : Shared) : Prop := match r with | .ok _ => ∃ m, s'.heap.Ns C m ∧ ∀ h', Heap.SameBut C s'.heap h' → Q acc { s' with heap := h' } | .error _ => False
def AsRR (prog : Program) (w : World) (A : Around) (env : Env) (y : Str) (Q : Flow → Shared → Prop) (E : Value → Shared → Prop) (acc : Value) (C : Addr) (r : Result) (s' : Shared) : Prop :=
  match r with | .ok _ => wpAny (model prog w) A (storeName env y acc) (fun _ s'' => ∃ m, s''.heap.Ns C m ∧ ∀ h', Heap.SameBut C s''.heap h' → Q .next { s'' with heap := h' }) E s' | .error _ => False
/-- a comprehension as an expression -/
theorem ev_comp {elt iter : Expr} {x : Str} {px : Pos} {ifs : List Expr} {scope : Scope} {cl : List (Str × Addr)} {pos : Pos} {Q : Value → Shared → Prop}
    (hclos : closureFor scope env = pure cl) (hkind : scope.kind = .function) (hnames : (scope.names.all fun y => y.2 != .local || scope.names.lookup y.1 == some .local) = true)
    (h : wpAny (model prog w) A (eval iter env) (fun xv s₁ => wpAny (model prog w) A (pyIter xv) (CompBlock prog w A env elt iter x px ifs scope cl pos (EvRR Q) E) E s₁) E s)
    (hs : ∀ x, foldedSetIterable iter env x = pure x := by intro _; rfl) :
    wpAny (model prog w) A (eval (.ListComp elt [⟨.Name x px, iter, ifs, 0⟩] scope pos) env) Q E s := by
  rw [eval_ListComp]
  refine wpAny_comprehension_free (use := none) rfl hs hclos hkind (fun y hy hl => by have := List.all_eq_true.mp hnames y hy; rw [hl] at this; simpa using this) (wpAny_mono h (fun xv s₁ h₁ => wpAny_mono h₁ (fun it s₂ h₂ => ?_) fun _ _ e => e) fun _ _ e => e)
  refine wpAny_mono h₂ (fun acc s₃ h₃ => wpAny_mono h₃ (fun cenv s₄ h₄ => codeAny_mono h₄ fun r s' hr => ?_) fun _ _ e => e) fun _ _ e => e
  cases r with
  | ok f => exact hr
  | error e => exact hr.elim
/-- y = [..] -/
theorem as_comp {elt iter : Expr} {x y : Str} {px py : Pos} {ifs : List Expr} {scope : Scope} {cl : List (Str × Addr)} {pos spos : Pos} {Q : Flow → Shared → Prop}
    (hsw : swapsWith (.ListComp elt [⟨.Name x px, iter, ifs, 0⟩] scope pos) (some (.Name y py)) spos.line env = pure true)
    (hclos : closureFor scope env = pure cl) (hkind : scope.kind = .function) (hnames : (scope.names.all fun y => y.2 != .local || scope.names.lookup y.1 == some .local) = true)
    (h : wpAny (model prog w) A (eval iter env) (fun xv s₁ => wpAny (model prog w) A (pyIter xv) (CompBlock prog w A env elt iter x px ifs scope cl pos (AsRR prog w A env y Q E) E) E s₁) E s)
    (hs : ∀ x, foldedSetIterable iter env x = pure x := by intro _; rfl) :
    wpAny (model prog w) A (exec (.Assign [.Name y py] (.ListComp elt [⟨.Name x px, iter, ifs, 0⟩] scope pos) spos) env) Q E s := by
  rw [exec_Assign_Name_used _ _ _ _ hsw]
  refine wpAny_bind (wpAny_standAt (wpAny_bind ?_))
  show wpAny _ A (do let _ ← comprehension (.ListComp elt [⟨.Name x px, iter, ifs, 0⟩] scope pos) scope env _ (newList []) false (eval iter env) (some (assign (.Name y py) env))) _ _ s
  refine wpAny_bind (wpAny_mono (wpAny_comprehension_free (Q := fun _ s' => Q .next s') rfl hs hclos hkind (fun y hy hl => by have := List.all_eq_true.mp hnames y hy; rw [hl] at this; simpa using this) (wpAny_mono h (fun xv s₁ h₁ => wpAny_mono h₁ (fun it s₂ h₂ => ?_) fun _ _ e => e) fun _ _ e => e))
    (fun _ s' hq => wpAny_pure (wpAny_pure hq)) fun _ _ e => e)
  refine wpAny_mono h₂ (fun acc s₃ h₃ => wpAny_mono h₃ (fun cenv s₄ h₄ => codeAny_mono h₄ fun r s' hr => ?_) fun _ _ e => e) fun _ _ e => e
  cases r with
  | ok f => exact wpAny_assign_Name hr
  | error e => exact hr.elim
end

local macro_rules | `(tactic| walk_at "zvar") => `(tactic| first | refine ev_vl $(Lean.mkIdent `hV) (by walk_at "zlook") ?_ | refine ev_vc $(Lean.mkIdent `hV) (by walk_at "zlook") ?_ | refine ev_vf $(Lean.mkIdent `hV) (by walk_at "zlook") ?_)
local macro_rules | `(tactic| walk_at "zsv") => `(tactic| (refine st_vl $(Lean.mkIdent `hV) ?_; intro $(Lean.mkIdent `h5) $(Lean.mkIdent `tk5) $(Lean.mkIdent `hV) $(Lean.mkIdent `hsb); have $(Lean.mkIdent `hle) := le_same $(Lean.mkIdent `hle) $(Lean.mkIdent `hsb) $(Lean.mkIdent `offG); (try (have $(Lean.mkIdent `hkb) := KB.trans $(Lean.mkIdent `hkb) (KB.same $(Lean.mkIdent `hsb) (List.mem_cons_self ..)))); (try dsimp only)))

-- 13_weight.lean
-- needs: 01 02 03 04 05 06 10 11 12
def fW (a b : Int) (e : Edge) : Option Int := if e.1 = a ∧ e.2.1 = b then some e.2.2 else none
def wOf (es : List Edge) (a b : Int) : List Int := es.filterMap (fW a b)
def minL : List Int → Int
  | [] => 0
  | x :: xs => xs.foldl min x
theorem foldl_min_le (xs : List Int) : ∀ x : Int, xs.foldl min x ≤ x ∧ ∀ a ∈ xs, xs.foldl min x ≤ a := by
  induction xs with
  | nil => intro x; simp
  | cons y ys ih =>
    intro x
    obtain ⟨h1, h2⟩ := ih (min x y)
    refine ⟨Int.le_trans h1 (Int.min_le_left ..), fun a ha => ?_⟩
    rcases List.mem_cons.mp ha with rfl | ha
    · exact Int.le_trans h1 (Int.min_le_right ..)
    · exact h2 a ha
theorem foldl_min_mem (xs : List Int) : ∀ x : Int, xs.foldl min x = x ∨ xs.foldl min x ∈ xs := by
  induction xs with
  | nil => intro x; simp
  | cons y ys ih =>
    intro x
    rcases ih (min x y) with h | h
    · rw [List.foldl_cons, h]
      by_cases q : x ≤ y
      · left; omega
      · right; rw [show min x y = y by walk_at "om"]; exact List.mem_cons_self ..
    · right; exact List.mem_cons_of_mem _ h
theorem minL_is {ns : List Int} {M : Int} (hm : M ∈ ns) (hl : ∀ a ∈ ns, M ≤ a) : minL ns = M := by
  cases ns with
  | nil => simp at hm
  | cons x xs =>
    obtain ⟨h1, h2⟩ := foldl_min_le xs x
    have h3 : xs.foldl min x ∈ x :: xs := by
      rcases foldl_min_mem xs x with h | h
      · rw [h]; exact List.mem_cons_self ..
      · exact List.mem_cons_of_mem _ h
    have h4 : xs.foldl min x ≤ M := by
      rcases List.mem_cons.mp hm with rfl | hm
      · exact h1
      · exact h2 M hm
    exact Int.le_antisymm h4 (hl _ h3)
/-- what path_weight gives -/
def pwF (es : List Edge) : List Int → Int → Option Int
  | a :: b :: r, tot => if wOf es a b = [] then none else pwF es (b :: r) (tot + minL (wOf es a b))
  | _, tot => some tot
def optV : Option Int → Tok → Value
  | none, _ => .none
  | some i, t => .int i t
theorem filterMap_range {α β : Type} (es : List α) (d : α) (f : α → Option β) : (List.range es.length).filterMap (fun j => f (es.getD j d)) = es.filterMap f := by
  induction es with
  | nil => rfl
  | cons e es ih =>
    rw [List.length_cons, List.range_succ_eq_map, List.filterMap_cons, List.filterMap_map, List.filterMap_cons]
    have : (fun j => f ((e :: es).getD j d)) ∘ Nat.succ = fun j => f (es.getD j d) := by funext j; simp
    rw [this, ih]
    simp
theorem vars_of_fr {h₀ h : Heap} {name : Str} {scope : Scope} {L a : Addr} {cd : Value} {ml cm : Str → Option Value} (F : Fr h₀ L h ml) (X : Cl L (cellsFrom (L + 1) scope.names []) h cm)
    (hk : ∀ x c, (cellsFrom (L + 1) scope.names []).lookup x = some c → scope.names.lookup x ≠ some .local) : Vars (envOfC name scope L a cd) h (fun x => if scope.names.lookup x = some .local then ml x else cm x) :=
  ⟨⟨ml, F.ns, fun x hx => by
      have hx' : scope.names.lookup x = some .local := hx
      rw [if_pos hx']⟩, fun x c e => by rw [if_neg (hk x c e)]; exact X.cell x c e, X.apart, fun x c e => Nat.ne_of_gt (X.above x c e)⟩
section
variable {prog : Program} {w : World} {A : Around} {E : Value → Shared → Prop} {s : Shared} {mg mb : Str → Option Value}
theorem tests_one {c : Expr} {env : Env} {Q : Bool → Shared → Prop} (h : wpAny (model prog w) A (isTrue c env (eval c env)) Q E s) : wpAny (model prog w) A (Tests [c] env) Q E s := by
  unfold Tests
  rw [List.forIn_cons]
  simp only [if_true, bind_assoc, pure_bind, List.forIn_nil]
  refine wpAny_bind (wpAny_mono h (fun b s' hq => wpAny_pure hq) fun _ _ e => e)
theorem tests_nil {env : Env} {Q : Bool → Shared → Prop} (h : Q true s) : wpAny (model prog w) A (Tests [] env) Q E s := wpAny_pure h
theorem PlainL_same {h h' : Heap} {a b : Addr} {its : Array Value} (x : PlainL h a its) (hs : Heap.SameBut b h h') (hab : a ≠ b) : PlainL h' a its := let ⟨o, n, e, r⟩ := x; ⟨o, n, (hs.2 a hab).trans e, r⟩
/-- the end of y = [..], y a local name -/
theorem comp_store {env : Env} {m m' : Str → Option Value} {y : Str} {ys : List Value} {g h : Heap} {tk k : Nat} {O : List Addr} {Q : Flow → Shared → Prop} (V : Vars env s.heap m) (hol : ∀ b ∈ owns env, b < s.heap.objs.size)
    (hO : env.locals ∈ O) (hoff : ∀ a ∈ cX s.heap.objs.size k O, g.get? a = none) (hg : Le g h) (hD : PlainL h (s.heap.objs.size + 1) ys.toArray) (hle : Le s.heap h) (hn : h.Ns (s.heap.objs.size + 2) m')
    (fin : ∀ h' tk', Vars env h' (upd m y (.ref (s.heap.objs.size + 1))) → PlainL h' (s.heap.objs.size + 1) ys.toArray → KB [env.locals] s.heap h' → Le g h' → Q .next { s with heap := h', toks := tk' })
    (hl : env.kindOf y = some .local := by rfl) (hno : env.cells.lookup y = none := by rfl) (hp : (env.scope.kind == .class || (env.scope.kind == .module && env.locals != env.globals)) = false := by rfl) :
    AsRR prog w A env y Q E (.ref (s.heap.objs.size + 1)) (s.heap.objs.size + 2) (.ok .next) { s with heap := h, toks := tk } := by
  show wpAny (model prog w) A (storeName env y (.ref (s.heap.objs.size + 1))) (fun _ s'' => ∃ m, s''.heap.Ns (s.heap.objs.size + 2) m ∧ ∀ h', Heap.SameBut (s.heap.objs.size + 2) s''.heap h' → Q .next { s'' with heap := h' }) E { s with heap := h, toks := tk }
  have hL : @LT.lt Nat _ env.locals s.heap.objs.size := V.ltL
  refine st_vl (V.le hle) (fun h5 tk5 V5 hsb => ?_) hl hno hp
  refine ⟨_, hn.sameBut hsb (neN (by walk_at "om")), fun h6 hs6 => fin h6 tk5 (V5.kb (KB.same hs6 (List.mem_singleton_self _)) ?_) ?_ ?_ ?_⟩
  · intro a ha q
    have : @LT.lt Nat _ a s.heap.objs.size := hol a ha
    have e : a = s.heap.objs.size + 2 := List.mem_singleton.mp q
    exact neN (by walk_at "om") e
  · exact PlainL_same (PlainL_same hD hsb (neN (by walk_at "om"))) hs6 (neN (by walk_at "om"))
  · intro b o hb e
    have : @LT.lt Nat _ b s.heap.objs.size := Heap.lt_size e
    exact (hs6.2 b (neN (by walk_at "om"))).trans ((hsb.2 b (fun q => hb (by rw [q]; exact List.mem_singleton_self _))).trans (hle b o e))
  · refine le_same (le_same hg hsb (hoff _ (List.mem_append_right _ hO))) hs6 (hoff _ (by simp [cX]))
/-- the end of [..] as an expression -/
theorem comp_value {m' : Str → Option Value} {ys : List Value} {g h : Heap} {tk k : Nat} {O : List Addr} {Q : Value → Shared → Prop}
    (hoff : ∀ a ∈ cX s.heap.objs.size k O, g.get? a = none) (hg : Le g h) (hD : PlainL h (s.heap.objs.size + 1) ys.toArray) (hle : Le s.heap h) (hn : h.Ns (s.heap.objs.size + 2) m')
    (fin : ∀ h', PlainL h' (s.heap.objs.size + 1) ys.toArray → Le s.heap h' → Le g h' → s.heap.get? (s.heap.objs.size + 1) = none → Q (.ref (s.heap.objs.size + 1)) { s with heap := h', toks := tk }) :
    EvRR Q (.ref (s.heap.objs.size + 1)) (s.heap.objs.size + 2) (.ok .next) { s with heap := h, toks := tk } := by
  refine ⟨_, hn, fun h6 hs6 => fin h6 ?_ ?_ ?_ ?_⟩
  · exact PlainL_same hD hs6 (neN (by walk_at "om"))
  · exact le_same hle hs6 (Heap.get?_none_of_le (Nat.le_add_right ..))
  · exact le_same hg hs6 (hoff _ (by simp [cX]))
  · exact Heap.get?_none_of_le (Nat.le_add_right ..)
theorem path_weight_spec {Q : Value → Shared → Prop} {f : Addr} {n : Int} {t1 : Tok} {v vp : Value} {es : List Edge} {ps : List Int} (hroom : A.depth < recursionLimit) (hh : A.handled = none) (C : Cx mg mb s.heap)
    (hf : FnIs s.heap f dPathWeight) (he : ListIs EdgeIs s.heap v es) (hp : Ints s.heap vp ps) (hel : es.length < 100) (hpl : ps.length < 100)
    (hQ : ∀ t h' tk, Le s.heap h' → Q (optV (pwF es ps 0) t) { s with heap := h', toks := tk }) :
    wpAny (model prog w) A (call (.ref f) [.int n t1, v, vp]) Q E s := by
  obtain ⟨o, pm, code, doc, ho, hd, hc⟩ := hf
  obtain ⟨l, vs, rfl, hl, ha⟩ := he
  obtain ⟨lp, us, rfl, hlp, hap⟩ := hp
  refine wpAny_call (call_cells_ret (binds := [(Str.ofString "n", .int n t1), (Str.ofString "edges", .ref l), (Str.ofString "path", .ref lp)]) hroom ho hd C.lim hc (by rfl) ?_ (fun h₁ tk F X => ?_) (by rfl) (by rfl) (by rfl))
  · intro x hx
    simp only [List.mem_cons, List.not_mem_nil, or_false] at hx
    rcases hx with rfl | rfl | rfl
    · exact .inl (by rfl)
    · exact .inl (by rfl)
    · exact .inr ⟨by rfl, by rfl⟩
  have hV := vars_of_fr (name := dPathWeight.name) (a := f) (cd := code) F X (by
    intro x c e
    have := lookup_all (P := fun p => dPathWeight.scope.names.lookup p.1 != some .local) (by rfl) e
    simpa using this)
  have hle : Le s.heap h₁ := F.keep
  have offG : s.heap.get? s.heap.objs.size = none := fresh_none _
  refine wpAny_execs_cons (wpAny_Assign_Name ?_)
  walk_at "zev"
  walk_at "zsv"
  walk_at "zev"
  refine wpAny_For ?_
  walk_at "zev"
  refine len_of (isList_le hlp hle) (by rw [hap.length]; omega) fun tl tkl => ?_
  walk_at "zev"
  refine range2 fun r h₂ tk₂ hk₂ hrf hr => ?_
  dsimp only at hk₂ hrf hr ⊢
  have hV := hV.le hk₂
  have hle := hle.trans hk₂
  have hsz : s.heap.objs.size < h₂.objs.size := hV.ltL
  have offC : ∀ k : Nat, s.heap.get? (s.heap.objs.size + k) = none := fun k => Heap.get?_none_of_le (Nat.le_add_right ..)
  have hci : (envOfC dPathWeight.name dPathWeight.scope s.heap.objs.size f code).cells.lookup (Str.ofString "i") = some (s.heap.objs.size + 2) := by rfl
  have hcp : (envOfC dPathWeight.name dPathWeight.scope s.heap.objs.size f code).cells.lookup (Str.ofString "path") = some (s.heap.objs.size + 1) := by rfl
  have hol : ∀ b ∈ owns (envOfC dPathWeight.name dPathWeight.scope s.heap.objs.size f code), ∀ {h : Heap} {m}, Vars (envOfC dPathWeight.name dPathWeight.scope s.heap.objs.size f code) h m → b < h.objs.size := by
    intro b hb h m V
    rcases List.mem_cons.mp hb with rfl | hb
    · exact V.ltL
    · rcases List.mem_cons.mp hb with rfl | hb
      · exact (V.cel _ _ hci).lt
      · rcases List.mem_cons.mp hb with rfl | hb
        · exact (V.cel _ _ hcp).lt
        · simp at hb
  have hps : us.length = ps.length := hap.length
  refine iter_rangeV (n := ps.length - 1) [s.heap.objs.size] (fun I i m h => ∃ tot, Le s.heap h ∧ (∃ t, m (Str.ofString "total") = some (.int tot t)) ∧ m (Str.ofString "edges") = some (.ref l) ∧ m (Str.ofString "path") = some (.ref lp) ∧ pwF es ps 0 = pwF es (ps.drop i) tot)
    hh hr (by walk_at "om") (by walk_at "om") (by walk_at "om") (by walk_at "om") (by walk_at "om") ?_ (sto_c hci) ((hV.cel _ _ hci).lt) (fun b hb => hol b hb hV) hV ⟨0, hle, ⟨_, by rfl⟩, by rfl, by rfl, by rfl⟩ ?_ ?_ ?_
  · intro b hb
    rw [List.mem_singleton.mp hb]; exact hsz
  · rintro i m h h' ⟨tot, hle, r⟩ k
    refine ⟨tot, k.le hle ?_, r⟩
    intro x hx
    rcases List.mem_cons.mp hx with rfl | hx
    · exact offC 2
    · rw [List.mem_singleton.mp hx]; exact none_of_le ‹Le s.heap h₂›
  · rintro i ti m h tk hi ⟨tot, hle, ⟨tt, m1⟩, m2, m3, hpw⟩ hk hV hI
    refine opaqueQ fun KK hKK => ?_
    have hilt : i + 1 < ps.length := by walk_at "om"
    have hle0 := hle
    have hV0 := hV
    obtain ⟨t1', e1⟩ := intsAre_get (intsAre_all2.mpr hap) (i := i) (by walk_at "om")
    obtain ⟨t2', e2⟩ := intsAre_get (intsAre_all2.mpr hap) (i := i + 1) hilt
    refine wpAny_execs_cons (as_comp (by rfl) (by rfl) (by rfl) (by rfl) ?_)
    walk_at "zev"
    refine comp_ls (k := 0) IntIs IntIs.le (fun j => fW (ps.getD i 0) (ps.getD (i + 1) 0) (es.getD j (0, 0, 0))) s.heap [s.heap.objs.size] hh (isList_le hl hle) (by rw [ha.length]; omega) hV ?_ (fun h l => cvars0 hV ?_ (by rfl) (by rfl) (by rfl) l) (fun _ => sto_l) (.inl rfl) hle (by intro a ha; rw [List.mem_singleton.mp ha]; exact ⟨let ⟨_, ⟨o, _, _, ho, _⟩, _⟩ := hV.loc; ⟨o, ho⟩, offG⟩) ?_ ?_
    · intro p hp
      simp only [List.mem_cons, List.not_mem_nil, or_false] at hp
      rcases hp with rfl | rfl <;> rfl
    · intro p hp
      simp only [List.mem_cons, List.not_mem_nil, or_false] at hp
      rcases hp with rfl | rfl <;> rfl
    · intro j v g h₃ tk₃ hv hg₁ hg₂ hex hV
      have hle : Le s.heap h₃ := hg₁.trans hg₂
      obtain ⟨e, he, ae, u1, u2, u3, rfl, htu⟩ := ha.get hv
      have htu := htu.keeps hle
      refine tests_one ?_
      walk_at "zev"
      refine item_list (isList_le hlp hle) (by walk_at "om") (by walk_at "om") (by rw [show (1 + (i : Int) - 1).toNat = i by walk_at "om"]; exact e1) ?_
      walk_at "zev"
      have hget : es.getD j (0, 0, 0) = e := by rw [List.getD_eq_getElem?_getD, he]; rfl
      refine if_by (fun hb => ?_) fun hb => ?_
      · walk_at "zev"
        refine item_list (isList_le hlp hle) (by walk_at "om") (by walk_at "om") (by rw [show (1 + (i : Int)).toNat = i + 1 by walk_at "om"]; exact e2) ?_
        walk_at "zev"
        have hb1 : e.1 = ps.getD i 0 := by simpa using hb
        refine if_by (fun hb' => ?_) fun hb' => ?_
        · walk_at "zev"
          have hb2 : e.2.1 = ps.getD (i + 1) 0 := by simpa using hb'
          refine ⟨_, _, rfl, Le.rfl, by rw [hget, fW, if_pos ⟨hb1, hb2⟩]; rfl, fun _ => ?_⟩
          walk_at "zev"
          exact ⟨_, _, _, rfl, Le.rfl, by rw [hget, fW]; exact if_pos ⟨hb1, hb2⟩, _, rfl⟩
        · have hb2 : ¬ e.2.1 = ps.getD (i + 1) 0 := by simpa using hb'
          exact ⟨_, _, rfl, Le.rfl, by rw [hget, fW, if_neg (fun q => hb2 q.2)]; rfl, fun q => by cases q⟩
      · have hb1 : ¬ e.1 = ps.getD i 0 := by simpa using hb
        exact ⟨_, _, rfl, Le.rfl, by rw [hget, fW, if_neg (fun q => hb1 q.1)]; rfl, fun q => by cases q⟩
    · intro ys g h₃ tk₃ m' hg₁ hg₂ hoff hys hD hle₃ hnC
      have hle : Le s.heap h₃ := hle.trans hle₃
      have hV := hV.le hle₃
      have hw : (List.range vs.length).filterMap (fun j => fW (ps.getD i 0) (ps.getD (i + 1) 0) (es.getD j (0, 0, 0))) = wOf es (ps.getD i 0) (ps.getD (i + 1) 0) := by
        rw [ha.length]; exact filterMap_range es _ _
      rw [hw] at hys
      have hdrop : ps.drop i = ps.getD i 0 :: ps.getD (i + 1) 0 :: ps.drop (i + 2) := by
        rw [List.drop_eq_getElem_cons (by walk_at "om"), List.drop_eq_getElem_cons (by walk_at "om")]
        simp only [List.getD_eq_getElem?_getD, List.getElem?_eq_getElem (show i < ps.length by walk_at "om"), List.getElem?_eq_getElem hilt]
        rfl
      have hdrop1 : ps.drop (i + 1) = ps.getD (i + 1) 0 :: ps.drop (i + 2) := by
        rw [List.drop_eq_getElem_cons (by walk_at "om")]
        simp only [List.getD_eq_getElem?_getD, List.getElem?_eq_getElem hilt]
        rfl
      refine comp_store (y := Str.ofString "weights") hV0 (fun b hb => hol b hb hV0) (List.mem_singleton_self _) hoff hg₂ hD hle₃ hnC fun h₆ tk₆ hV hD hkb hgle => ?_
      have hle : Le s.heap h₆ := hg₁.trans hgle
      have hyl : ys.length = (wOf es (ps.getD i 0) (ps.getD (i + 1) 0)).length := hys.length
      have hyn : ys.length < 1000 := by
        have := List.length_filterMap_le (fW (ps.getD i 0) (ps.getD (i + 1) 0)) es
        rw [wOf] at hyl
        omega
      walk_at "zev"
      refine len_of hD.isList hyn fun tl' tkl' => ?_
      walk_at "zev"
      refine if_by (fun hb => ?_) fun hb => ?_
      · have h0 : wOf es (ps.getD i 0) (ps.getD (i + 1) 0) = [] := List.eq_nil_of_length_eq_zero (by have := beq_iff_eq.mp hb; omega)
        walk_at "zev"
        have e : pwF es ps 0 = none := by rw [hpw, hdrop, pwF, if_pos h0]
        have hq := fun tk => hQ tl' h₆ tk hle
        rw [e] at hq
        exact hKK _ _ (hq _)
      · have h0 : 0 < (wOf es (ps.getD i 0) (ps.getD (i + 1) 0)).length := by have := beq_eq_false_iff_ne.mp hb; omega
        walk_at "zev"
        refine wpAny_Assign_Name ?_
        walk_at "zev"
        refine min_of hh hD.isList (intsAre_all2.mpr hys) h0 fun M tM h₇ tk₇ hk₇ hM1 hM2 => ?_
        have hM := minL_is hM1 hM2
        have hV := hV.le hk₇
        have hle := hle.trans hk₇
        have hkb := hkb.trans (KB.of_le hk₇)
        walk_at "zev"
        walk_at "zsv"
        walk_at "zev"
        refine hKK _ _ ⟨_, _, _, rfl, hV, hkb, _, hle, ⟨_, by rfl⟩, m2, m3, ?_⟩
        rw [hpw, hdrop, hdrop1, pwF, if_neg (fun q => by rw [q] at h0; simp at h0), hM]
  · rintro m h tk ⟨tot, hle, ⟨tt, m1⟩, m2, m3, hpw⟩ hk hV
    walk_at "zev"
    have e : pwF es ps 0 = some tot := by
      rw [hpw]
      have : (ps.drop (ps.length - 1)).length ≤ 1 := by rw [List.length_drop]; omega
      match hd : ps.drop (ps.length - 1), this with
      | [], _ => rfl
      | [_], _ => rfl
      | _ :: _ :: _, q => simp at q
    have := hQ tt h tk hle
    rw [e] at this
    exact this
end

-- 14_exc.lean
-- needs: 01 02 03 04 05
abbrev Fly (base : Heap) (outer : List Env) (e : Addr) (h : Heap) : Prop := Heap.Flying base outer e (.type "IndexError") h
theorem Fly.w {base h : Heap} {l : List Env} {e : Addr} (x : Fly base l e h) : ∃ a0, Heap.FlyingW base l e (.type "IndexError") a0 h := by
  obtain ⟨st, hen, hff, oe, vs, T, oT, ts, he, hcl, hd, h1, hnT, hTe, hT, hdT, h3⟩ := x
  have hsz : 0 < vs.size := Nat.lt_of_le_of_lt (Nat.zero_le _) (Array.getElem?_eq_some_iff.mp h1).1
  exact ⟨vs[0], st, hen, hff, oe, vs, T, oT, ts, he, ⟨hcl, Array.getElem?_eq_getElem hsz⟩, hd, h1, hnT, hTe, hT, hdT, h3⟩
theorem upTo_le {h h' : Heap} (l : Le h h') : h.UpToSlots h' := Heap.UpToSlots.of_keeps l
section
variable {prog : Program} {w : World} {M : Model} {A : Around} {E : Value → Shared → Prop} {s : Shared} {base : Heap} {outer : List Env} {env : Env} {L e : Addr}
/-- a new IndexError leaves its frame -/
theorem leave_ix {h : Heap} {Q : Unit → Shared → Prop} (hfr : A.frames = some (env :: outer)) (hf : env.frame = some L) (hkb : Le base h) (hl : h.FunFrames base (env :: outer)) (hx : Heap.NewExc h s.heap e "IndexError")
    (hQ : ∀ h', Fly base outer e h' → h.UpToSlots h' → Q () { s with heap := h' }) : wpAny M A (leaving env (.ref e)) Q E s := by
  obtain ⟨ob, tp, he, hcls, hd⟩ := hx.there
  have hen : base.get? e = none := none_back hkb hx.new
  refine wpAny_leaving_first hfr (hl.of_keeps fun b o hb _ => ⟨o, hx.keeps b o hb, rfl⟩) hf he (fun b o hb => hx.keeps b o (hkb b o hb)) hen hd rfl fun h' hL => ?_
  obtain ⟨k1, ⟨_, _, k2⟩, k3, k4⟩ := hL
  exact hQ h' ⟨k1, hen, k2, by rw [← hcls]; exact k3⟩ ((upTo_le hx.keeps).trans k4)
/-- it passes one more frame -/
theorem leave_more {Q : Unit → Shared → Prop} (hfr : A.frames = some (env :: outer)) (hf : env.frame = some L) (hfl : Fly base (env :: outer) e s.heap)
    (hQ : ∀ h', Fly base outer e h' → s.heap.UpToSlots h' → Q () { s with heap := h' }) : wpAny M A (leaving env (.ref e)) Q E s := by
  obtain ⟨f1, f2, f3, f4⟩ := hfl
  refine wpAny_leaving_next hfr f3 hf f4 f1 f2 fun h' hL => ?_
  obtain ⟨k1, ⟨_, _, k2⟩, k3, k4⟩ := hL
  exact hQ h' ⟨k1, f2, k2, k3⟩ k4
/-- xs[k], k not in the list -/
theorem item_out {value slice : Expr} {a : Addr} {items : Array Value} {k : Int} {u : Tok} {Q : Value → Shared → Prop} (hh : A.handled = none) (hl : s.heap.IsList a items)
    (h0 : (items.size : Int) ≤ k) (hhi : k < 2 ^ 63) (h : ∀ h' tk e, Heap.NewExc s.heap h' e "IndexError" → E (.ref e) { s with heap := h', toks := tk })
    (hs : subscripted slice false (.ref a) (.int k u) = operate [.ref a, .int k u] (getItem (.ref a) (.int k u)) := by with_unfolding_all rfl) :
    wpAny (model prog w) A (subscriptTail value slice (.ref a) (.int k u)) Q E s :=
  tail_any hl.typeIs slot_list_getitem.lookup (wpAny_getItem_list_out hh hl (.inr h0) (by walk_at "om") hhi h) hs
/-- except IndexError takes it -/
theorem caught {mg mb : Str → Option Value} {np pos : Pos} {b₀ : Stmt} {suite : List Stmt} {rest : List ExceptHandler} {Q : Flow → Shared → Prop} (hfr : A.frames = some (env :: outer)) (hf : env.frame = some L) (hfl : Fly base (env :: outer) e s.heap) (C : Cx mg mb base)
    (k : ∀ h', Le base h' → s.heap.UpToSlots h' → wpAny (model prog w) (A.mark (some (.ref e))) (execs (b₀ :: suite) env) Q (fun _ _ => False) { s with heap := h' })
    (hk : env.scope.kind = .function := by rfl) (hx : env.kindOf "IndexError" = some .globalImplicit := by rfl) (hg : env.globals = mainGlobals := by rfl) (hb : env.builtins = builtinsNs := by rfl) :
    wpAny (model prog w) A (noteFrame (.ref e) env) (fun _ s₂ => wpAny (model prog w) A (setFlight (.ref e) none) (fun _ s₃ =>
      wpAny (model prog w) A (handleBy (.ref e) env (.ExceptHandler (some (.Name "IndexError" np)) none (b₀ :: suite) pos :: rest)) Q E s₃) E s₂) E s := by
  obtain ⟨a0, hw⟩ := hfl.w
  refine wpAny_looks_onW hfr hf hw fun h₄ hheld₄ hsm₄ => ?_
  refine wpAny_landsW hheld₄ fun h₅ hheld hsm₅ => ?_
  obtain ⟨ob, hob, hobc⟩ := hheld.there
  refine wpAny_handleBy_builtin (X := "IndexError") (T := "IndexError") (b := true) (by rfl) (by rfl) (by rfl) (ev_blt C hheld.1 blt_ixe (by decide) (by decide) ⟨rfl, ⟨ob, hob, hobc⟩, ?_⟩ hk hx hg hb)
  rw [if_pos rfl]
  refine lands_againW hheld fun h₆ hfl₆ hsm₆ => wpAny_noRaise (k h₆ hfl₆.1 ((hsm₄.trans hsm₅).trans hsm₆))
end
theorem raise_at {M : Model} {A : Around} {E : Value → Shared → Prop} {s s' : Shared} {base h : Heap} {outer : List Env} {env : Env} {e : Addr} {m : Str → Option Value} {Q : Unit → Shared → Prop} (K : Below A base outer s.heap) (hle : Le s.heap h) (hn : h.Ns env.locals m)
    (off : s.heap.get? env.locals = none) (hx : Heap.NewExc h s'.heap e "IndexError") (hQ : ∀ h'', Fly base outer e h'' → s.heap.UpToSlots h'' → Q () { s' with heap := h'' })
    (hf : env.frame = some env.locals := by rfl) (hk : env.scope.kind ≠ .module := by intro q; cases q) : wpAny M (A.deeper env) (leaving env (.ref e)) Q E s' :=
  leave_ix (Around.frames_deeper K.stack) hf (Le.trans K.stays hle) (.cons hk hf hn (none_back K.stays off) (K.frames.of_keeps fun b o ho _ => ⟨o, hle b o ho, rfl⟩)) hx fun h'' h1 h2 => hQ h'' h1 ((upTo_le hle).trans h2)

-- 15_capacity.lean
-- needs: 01 02 03 04 05 06 10 11 12 13 14
abbrev Mat (h : Heap) (v : Value) (t : List (List Int)) : Prop := ListIs Ints h v t
theorem Ints.le {h h' : Heap} {v : Value} {ns : List Int} (x : Ints h v ns) (l : Le h h') : Ints h' v ns := ListIs.le (R := IntIs) (fun r l => IntIs.le r l) x l
theorem Mat.le {h h' : Heap} {v : Value} {t : List (List Int)} (x : Mat h v t) (l : Le h h') : Mat h' v t := ListIs.le (R := Ints) (fun r l => Ints.le r l) x l
def addAt (t : List (List Int)) (i j : Nat) (w : Int) : List (List Int) := t.modify i fun r => r.modify j (· + w)
def addE (t : List (List Int)) (e : Edge) : List (List Int) := addAt t e.1.toNat e.2.1.toNat e.2.2
def tab0 (n : Int) : List (List Int) := List.replicate n.toNat (List.replicate n.toNat 0)
def capF (n : Int) (es : List Edge) : List (List Int) := es.foldl addE (tab0 n)
/-- a table whose rows may be written -/
def MatM (h : Heap) (T : Addr) (rs : List Addr) (t : List (List Int)) : Prop :=
  h.IsList T (rs.map Value.ref).toArray ∧ rs.Nodup ∧ T ∉ rs ∧ All2 (fun r row => ∃ vs, h.IsList r (List.toArray vs) ∧ IntsAre vs row) rs t
theorem MatM.kb {h h' : Heap} {T : Addr} {rs : List Addr} {t : List (List Int)} {X : List Addr} (x : MatM h T rs t) (k : KB X h h') (hT : T ∉ X) (hr : ∀ r ∈ rs, r ∉ X) : MatM h' T rs t := by
  obtain ⟨h1, h2, h3, h4⟩ := x
  refine ⟨h1.at fun o e => k _ o hT e, h2, h3, ?_⟩
  clear h1 h2 h3
  induction rs generalizing t with
  | nil => cases t <;> exact h4
  | cons r rs ih =>
    cases t with
    | nil => exact h4
    | cons row t =>
      obtain ⟨⟨vs, hv1, hv2⟩, h4⟩ := h4
      exact ⟨⟨vs, hv1.at fun o e => k _ o (hr r (List.mem_cons_self ..)) e, hv2⟩, ih (fun r hr' => hr r (List.mem_cons_of_mem _ hr')) h4⟩
theorem all2_at {α β : Type} {R R' : α → β → Prop} {as : List α} {bs : List β} (h : All2 R as bs) (i : Nat) (f : β → β) (hi : ∀ a b, as[i]? = some a → bs[i]? = some b → R a b → R' a (f b)) (ho : ∀ (j : Nat) a b, j ≠ i → as[j]? = some a → bs[j]? = some b → R a b → R' a b) : All2 R' as (bs.modify i f) := by
  induction as generalizing bs i with
  | nil => cases bs with
    | nil => cases i <;> trivial
    | cons => exact h.elim
  | cons a as ih =>
    cases bs with
    | nil => exact h.elim
    | cons b bs =>
      cases i with
      | zero =>
        rw [List.modify_zero_cons]
        refine ⟨hi a b rfl rfl h.1, ?_⟩
        have key : ∀ (as : List α) (bs : List β), All2 R as bs → (∀ (j : Nat) a b, as[j]? = some a → bs[j]? = some b → R a b → R' a b) → All2 R' as bs := by
          intro as
          induction as with
          | nil => intro bs h _; cases bs <;> exact h
          | cons a as ih =>
            intro bs h hq
            cases bs with
            | nil => exact h.elim
            | cons b bs => exact ⟨hq 0 a b rfl rfl h.1, ih bs h.2 fun j a b e1 e2 r => hq (j + 1) a b (by simpa using e1) (by simpa using e2) r⟩
        exact key as bs h.2 fun j a b e1 e2 r => ho (j + 1) a b (by walk_at "om") (by simpa using e1) (by simpa using e2) r
      | succ i =>
        rw [List.modify_succ_cons]
        exact ⟨ho 0 a b (by walk_at "om") rfl rfl h.1, ih h.2 i (fun a b e1 e2 r => hi a b (by simpa using e1) (by simpa using e2) r) fun j a b hj e1 e2 r => ho (j + 1) a b (by walk_at "om") (by simpa using e1) (by simpa using e2) r⟩
theorem intsAre_set {vs : List Value} {row : List Int} (h : IntsAre vs row) (j : Nat) (f : Int → Int) (t : Tok) : IntsAre (vs.set j (.int (f (row.getD j 0)) t)) (row.modify j f) := by
  induction h generalizing j with
  | nil => cases j <;> exact .nil
  | cons n u _ ih =>
    cases j with
    | zero => exact .cons _ _ (by assumption)
    | succ j =>
      rw [List.set_cons_succ, List.modify_succ_cons]
      exact .cons _ _ (by rw [List.getD_cons_succ]; exact ih j)
theorem nodup_inj {l : List Addr} (h : l.Nodup) {i j : Nat} (hi : i < l.length) (hj : j < l.length) (e : l[i] = l[j]) : i = j := by
  rcases Nat.lt_trichotomy i j with q | q | q
  · exact absurd e (List.pairwise_iff_getElem.mp h i j hi hj q)
  · exact q
  · exact absurd e.symm (List.pairwise_iff_getElem.mp h j i hj hi q)
theorem MatM.row {h : Heap} {T : Addr} {rs : List Addr} {t : List (List Int)} (x : MatM h T rs t) {i : Nat} (hi : i < t.length) : ∃ r vs, rs[i]? = some r ∧ r ∈ rs ∧ h.IsList r (List.toArray vs) ∧ IntsAre vs (t.getD i []) := by
  obtain ⟨h1, h2, h3, h4⟩ := x
  have hr : i < rs.length := by rw [h4.length]; exact hi
  obtain ⟨row, e, vs, h5, h6⟩ := h4.get (List.getElem?_eq_getElem hr)
  refine ⟨rs[i], vs, List.getElem?_eq_getElem hr, List.getElem_mem _, h5, ?_⟩
  rw [List.getD_eq_getElem?_getD, e]; exact h6
theorem MatM.set {h h' : Heap} {T : Addr} {rs : List Addr} {t : List (List Int)} (x : MatM h T rs t) {i j : Nat} {w : Int} {r : Addr} {vs : List Value} {u : Tok} (hi : rs[i]? = some r) (hv : IntsAre vs (t.getD i [])) (hs : Heap.SameBut r h h')
    (hr : h'.IsList r (vs.toArray.setIfInBounds j (.int ((t.getD i []).getD j 0 + w) u))) : MatM h' T rs (addAt t i j w) := by
  obtain ⟨h1, h2, h3, h4⟩ := x
  have hmem : r ∈ rs := List.mem_of_getElem? hi
  refine ⟨h1.at fun o e => (hs.2 T (fun q => h3 (q ▸ hmem))).trans e, h2, h3, all2_at h4 i _ (fun a b e1 e2 _ => ?_) fun j' a b hj e1 e2 ⟨vs', k1, k2⟩ => ?_⟩
  · rw [hi] at e1; cases e1
    have eb : t.getD i [] = b := by rw [List.getD_eq_getElem?_getD, e2]; rfl
    rw [eb] at hv hr
    refine ⟨vs.set j (.int (b.getD j 0 + w) u), ?_, intsAre_set hv j (· + w) u⟩
    have : (vs.set j (.int (b.getD j 0 + w) u)).toArray = vs.toArray.setIfInBounds j (.int (b.getD j 0 + w) u) := by simp
    rw [this]; exact hr
  · refine ⟨vs', k1.at fun o e => (hs.2 a (fun q => ?_)).trans e, k2⟩
    subst q
    obtain ⟨l1, e1'⟩ := List.getElem?_eq_some_iff.mp e1
    obtain ⟨l2, e2'⟩ := List.getElem?_eq_some_iff.mp hi
    exact hj (nodup_inj h2 l1 l2 (e1'.trans e2'.symm))
theorem addAt_length (t : List (List Int)) (i j : Nat) (w : Int) : (addAt t i j w).length = t.length := by simp [addAt]
def Sq (n : Nat) (t : List (List Int)) : Prop := t.length = n ∧ ∀ r ∈ t, r.length = n
theorem sq_tab0 (n : Int) : Sq n.toNat (tab0 n) := by
  refine ⟨by simp [tab0], fun r hr => ?_⟩
  rw [List.eq_of_mem_replicate hr]; simp
theorem Sq.get {n : Nat} {t : List (List Int)} (h : Sq n t) {i : Nat} (hi : i < n) : (t.getD i []).length = n := by
  have hi' : i < t.length := by rw [h.1]; exact hi
  rw [List.getD_eq_getElem?_getD, List.getElem?_eq_getElem hi']
  exact h.2 _ (List.getElem_mem _)
theorem sq_addAt {n : Nat} {t : List (List Int)} (h : Sq n t) (i j : Nat) (w : Int) : Sq n (addAt t i j w) := by
  refine ⟨by rw [addAt_length]; exact h.1, fun r hr => ?_⟩
  obtain ⟨k, hk, e⟩ := List.mem_iff_getElem.mp hr
  unfold addAt at e hk
  rw [List.getElem_modify] at e
  rw [List.length_modify] at hk
  split at e
  · rw [← e, List.length_modify]; exact h.2 _ (List.getElem_mem _)
  · rw [← e]; exact h.2 _ (List.getElem_mem _)
theorem sq_fold {n : Nat} (es : List Edge) : ∀ {t : List (List Int)}, Sq n t → Sq n (es.foldl addE t) := by
  induction es with
  | nil => intro t h; exact h
  | cons e es ih => intro t h; exact ih (sq_addAt h _ _ _)
theorem matM_mat {h : Heap} {T : Addr} {rs : List Addr} {t : List (List Int)} (x : MatM h T rs t) : Mat h (.ref T) t := by
  obtain ⟨h1, h2, h3, h4⟩ := x
  refine ⟨T, _, rfl, h1, ?_⟩
  clear h1 h2 h3
  induction rs generalizing t with
  | nil => cases t <;> exact h4
  | cons r rs ih =>
    cases t with
    | nil => exact h4.elim
    | cons row t =>
      obtain ⟨⟨vs, hv1, hv2⟩, h4⟩ := h4
      exact ⟨⟨r, vs, rfl, hv1, intsAre_all2.mp hv2⟩, ih h4⟩
/-- a table as made, its rows apart -/
theorem matM_of {g h : Heap} {T : Addr} {ys : List Value} {t : List (List Int)} (hy : All2 (Ints g) ys t) (hp : ys.Pairwise (· ≠ ·)) (hg : Le g h) (hT : g.get? T = none) (hD : h.IsList T ys.toArray) : ∃ rs, ys = rs.map Value.ref ∧ MatM h T rs t ∧ ∀ r ∈ rs, ∃ o, g.get? r = some o := by
  have key : ∀ (ys : List Value) (t : List (List Int)), All2 (Ints g) ys t → ∃ rs : List Addr, ys = rs.map Value.ref ∧ All2 (fun r row => ∃ vs, g.IsList r (List.toArray vs) ∧ IntsAre vs row) rs t := by
    intro ys
    induction ys with
    | nil => intro t h; exact ⟨[], rfl, by cases t <;> exact h⟩
    | cons y ys ih =>
      intro t h
      cases t with
      | nil => exact h.elim
      | cons row t =>
        obtain ⟨⟨r, vs, rfl, h1, h2⟩, h3⟩ := h
        obtain ⟨rs, e, h4⟩ := ih t h3
        exact ⟨r :: rs, by rw [e]; rfl, ⟨vs, h1, intsAre_all2.mpr h2⟩, h4⟩
  obtain ⟨rs, e, h4⟩ := key ys t hy
  have hin : ∀ r ∈ rs, ∃ o, g.get? r = some o := by
    intro r hr
    obtain ⟨i, hi, ei⟩ := List.mem_iff_getElem.mp hr
    obtain ⟨_, _, vs, ⟨o, ho, _⟩, _⟩ := h4.get (i := i) (a := r) (by rw [List.getElem?_eq_getElem hi, ei])
    exact ⟨o, ho⟩
  refine ⟨rs, e, ⟨by rw [← e]; exact hD, ?_, fun q => ?_, h4.mono fun r row ⟨vs, h1, h2⟩ => ⟨vs, isList_le h1 hg, h2⟩⟩, hin⟩
  · rw [e, List.pairwise_map] at hp
    exact hp.imp fun q e' => q (by rw [e'])
  · obtain ⟨o, ho⟩ := hin T q
    rw [hT] at ho; cases ho

-- 16_capspec.lean
-- needs: 01 02 03 04 05 06 10 11 12 13 14 15
theorem filterMap_const {β : Type} (n : Nat) (b : β) : (List.range n).filterMap (fun _ => some b) = List.replicate n b := by
  rw [List.filterMap_eq_map', List.map_const', List.length_range]
theorem isList_hide {h : Heap} {a : Addr} {its : Array Value} {X : List Addr} (x : h.IsList a its) (n : a ∉ X) : (hide h X).IsList a its := x.at fun o e => by rw [hide_get, if_neg n]; exact e
theorem list_ne_cell {h : Heap} {a c : Addr} {its : Array Value} {v : Option Value} (hl : h.IsList a its) (hn : h.IsCell c v) : a ≠ c := by
  rintro rfl
  obtain ⟨o, ho, _, k, hd⟩ := hl
  obtain ⟨o', ho', hd'⟩ := hn
  rw [ho] at ho'; cases ho'
  rw [hd] at hd'; cases hd'
def NotIn (g : Heap) (v : Value) : Prop := ∀ a, v = .ref a → g.get? a = none
section
variable {prog : Program} {w : World} {A : Around} {E : Value → Shared → Prop} {s : Shared} {mg mb : Str → Option Value}
set_option maxHeartbeats 2000000 in
theorem capacity_spec {Q : Value → Shared → Prop} {f : Addr} {n : Int} {t1 : Tok} {v : Value} {es : List Edge} {base : Heap} {outer : List Env} (hroom : A.depth < recursionLimit) (hh : A.handled = none) (C : Cx mg mb s.heap) (K : Below A base outer s.heap)
    (hf : FnIs s.heap f dCapacity) (he : ListIs EdgeIs s.heap v es) (hel : es.length < 100) (hn0 : 0 < n) (hn : n < 100) (hpos : ∀ e ∈ es, 0 ≤ e.1 ∧ e.1 < 100 ∧ 0 ≤ e.2.1 ∧ e.2.1 < 100)
    (hQ : (∀ e ∈ es, e.1 < n ∧ e.2.1 < n) → ∀ v' h' tk, Le s.heap h' → Mat h' v' (capF n es) → Q v' { s with heap := h', toks := tk })
    (hE : (¬ ∀ e ∈ es, e.1 < n ∧ e.2.1 < n) → ∀ e h' tk, Fly base outer e h' → s.heap.UpToSlots h' → E (.ref e) { s with heap := h', toks := tk }) :
    wpAny (model prog w) A (call (.ref f) [.int n t1, v]) Q E s := by
  obtain ⟨o, pm, code, doc, ho, hd, hc⟩ := hf
  obtain ⟨l, vs, rfl, hl, ha⟩ := he
  refine wpAny_call (call_cells (binds := [(Str.ofString "n", .int n t1), (Str.ofString "edges", .ref l)]) hroom ho hd C.lim hc (by rfl) ?_ (fun h₁ tk F X => ?_) (by rfl) (by rfl) (by rfl))
  · intro x hx
    simp only [List.mem_cons, List.not_mem_nil, or_false] at hx
    rcases hx with rfl | rfl
    · exact .inr ⟨by rfl, by rfl⟩
    · exact .inl (by rfl)
  have hV := vars_of_fr (name := dCapacity.name) (a := f) (cd := code) F X (by
    intro x c e
    have := lookup_all (P := fun p => dCapacity.scope.names.lookup p.1 != some .local) (by rfl) e
    simpa using this)
  have hle : Le s.heap h₁ := F.keep
  have offG : s.heap.get? s.heap.objs.size = none := fresh_none _
  have hcn : (envOfC dCapacity.name dCapacity.scope s.heap.objs.size f code).cells.lookup (Str.ofString "n") = some (s.heap.objs.size + 1) := by rfl
  have hol : ∀ b ∈ owns (envOfC dCapacity.name dCapacity.scope s.heap.objs.size f code), ∀ {h : Heap} {m}, Vars (envOfC dCapacity.name dCapacity.scope s.heap.objs.size f code) h m → b < h.objs.size := by
    intro b hb h m V
    rcases List.mem_cons.mp hb with rfl | hb
    · exact V.ltL
    · rcases List.mem_cons.mp hb with rfl | hb
      · exact (V.cel _ _ hcn).lt
      · simp at hb
  refine wpAny_execs_cons (as_comp (by rfl) (by rfl) (by rfl) (by rfl) ?_)
  walk_at "zev"
  refine range1 fun r h₂ tk₂ hk₂ hrf hr => ?_
  dsimp only at hk₂ hrf hr
  have hV := hV.le hk₂
  have hle := hle.trans hk₂
  have hV0 := hV
  have hle0 := hle
  refine comp_rgD (k := 0) (n := n.toNat) (fun h v row => Ints h v row ∧ NotIn s.heap v) (fun r l => ⟨Ints.le r.1 l, r.2⟩) (fun _ => some (List.replicate n.toNat 0)) (· ≠ ·) s.heap [s.heap.objs.size] hh hr (by walk_at "om") (by walk_at "om") (by walk_at "om") (by walk_at "om") (by walk_at "om") (by walk_at "om") hV ?_ (fun h l => cvars0 hV ?_ (by rfl) (by rfl) (by rfl) l) (fun _ => sto_l) (.inl rfl) hle
    (by intro a ha; rw [List.mem_singleton.mp ha]; exact ⟨let ⟨_, ⟨o, _, _, ho, _⟩, _⟩ := hV.loc; ⟨o, ho⟩, offG⟩) ?_ ?_
  · intro p hp
    simp only [List.mem_cons, List.not_mem_nil, or_false] at hp
    rcases hp with rfl; rfl
  · intro p hp
    simp only [List.mem_cons, List.not_mem_nil, or_false] at hp
    rcases hp with rfl; rfl
  · intro i t g ys h₃ tk₃ hi hg₁ hg₂ hys hex hV
    have hle : Le s.heap h₃ := hg₁.trans hg₂
    refine tests_nil ⟨_, _, rfl, Le.rfl, rfl, fun _ => ?_⟩
    refine ev_comp (by rfl) (by rfl) (by rfl) ?_
    walk_at "zev"
    refine range1 fun r' h₄ tk₄ hk₄ hrf' hr' => ?_
    dsimp only at hk₄ hrf' hr'
    have hV := hV.le hk₄
    have hle := hle.trans hk₄
    refine comp_rg (k := 0) (n := n.toNat) IntIs (fun r l => IntIs.le r l) (fun _ => some 0) s.heap [] hh hr' (by walk_at "om") (by walk_at "om") (by walk_at "om") (by walk_at "om") (by walk_at "om") (by walk_at "om") hV (by simp) (fun h l => cvars0 hV (by simp) (by rfl) (by rfl) (by rfl) l) (fun _ => sto_l) (.inl rfl) hle (by simp) ?_ ?_
    · intro j t' g' h₅ tk₅ hj hg₁' hg₂' hex' hV
      refine tests_nil ⟨_, _, rfl, Le.rfl, rfl, fun _ => ?_⟩
      walk_at "zev"
      exact ⟨_, _, _, rfl, Le.rfl, rfl, _, rfl⟩
    · intro ys' g' h₅ tk₅ m' hg₁' hg₂' hoff' hys' hD' hle' hnC'
      refine comp_value hoff' hg₂' hD' hle' hnC' fun h₆ hD hle₆ hgle hnew => ?_
      dsimp only at hD hle₆ hgle hnew ⊢
      refine ⟨h₆, _, _, rfl, hk₄.trans hle₆, rfl, ?_, ?_⟩
      · intro y' hy' q
        subst q
        obtain ⟨i', hi', e'⟩ := List.mem_iff_getElem.mp hy'
        obtain ⟨_, _, ⟨a', vs', e1, ⟨o', ho', _⟩, _⟩, _⟩ := hys.get (i := i') (a := .ref (h₄.objs.size + 1)) (by rw [List.getElem?_eq_getElem hi', e'])
        cases e1
        have := hk₄ _ _ (hg₂ _ _ ho')
        rw [hnew] at this; cases this
      · rw [filterMap_const] at hys'
        refine ⟨⟨_, _, rfl, isList_hide hD.isList fun q => ?_, hys'.mono fun _ _ r => r⟩, fun a e => by cases e; exact none_back hle hnew⟩
        obtain ⟨o', ho'⟩ := hex _ q
        have := hk₄ _ _ ho'
        rw [hnew] at this; cases this
  · intro ys g h₃ tk₃ m' hg₁ hg₂ hoff hys hpw hD hle₃ hnC
    refine comp_store (y := Str.ofString "table") hV0 (fun b hb => hol b hb hV0) (List.mem_singleton_self _) hoff hg₂ hD hle₃ hnC fun h₆ tk₆ hV hD hkb hgle => ?_
    rw [filterMap_const] at hys
    have hysI : All2 (Ints g) ys (tab0 n) := hys.mono fun _ _ r => r.1
    obtain ⟨rs, ers, hM, hin⟩ := matM_of hysI hpw hgle (hoff _ (by simp [cX])) hD.isList
    have hle : Le s.heap h₆ := hg₁.trans hgle
    have hrL : ∀ r ∈ rs, r ≠ s.heap.objs.size := fun r hr q => by
      obtain ⟨o', ho'⟩ := hin r hr
      rw [q, hoff _ (by simp [cX])] at ho'; cases ho'
    have hrs : ∀ r ∈ rs, s.heap.get? r = none := fun r hr => by
      obtain ⟨i', hi', e'⟩ := List.mem_iff_getElem.mp hr
      obtain ⟨_, _, _, hno⟩ := hys.get (i := i') (a := .ref r) (by rw [ers, List.getElem?_map, List.getElem?_eq_getElem hi', e']; rfl)
      exact hno r rfl
    have hrc : ∀ r ∈ rs, r < h₆.objs.size := fun r hr => by
      obtain ⟨o', ho'⟩ := hin r hr
      exact Heap.lt_size (hgle _ _ ho')
    walk_at "zev"
    refine wpAny_For ?_
    walk_at "zev"
    have hTL : @Ne Addr (h₂.objs.size + 1) s.heap.objs.size := neN (by have : @LT.lt Nat _ s.heap.objs.size h₂.objs.size := hV0.ltL; omega)
    refine iter_listV rs (fun I i m h => Le s.heap h ∧ MatM h (h₂.objs.size + 1) rs ((es.take i).foldl addE (tab0 n)) ∧ m (Str.ofString "table") = some (.ref (h₂.objs.size + 1)) ∧ ∀ e ∈ es.take i, e.1 < n ∧ e.2.1 < n)
      hh (isList_le hl hle) ?_ hrc sto_l hV.ltL (fun b hb => hol b hb hV) hV ⟨hle, hM, by rfl, by simp⟩ ?_ ?_ ?_
    · refine ⟨fun q => ?_, fun q => ?_⟩
      · obtain ⟨o', ho', _⟩ := hl
        rw [hrs _ q] at ho'; cases ho'
      · obtain ⟨o', ho', _⟩ := hl
        rw [q] at ho'
        have : s.heap.get? s.heap.objs.size = some o' := ho'
        rw [offG] at this; cases this
    · rintro i m h h' ⟨hle, hM, r⟩ k
      refine ⟨k.le hle ?_, hM.kb k ?_ ?_, r⟩
      · intro x hx
        rcases List.mem_cons.mp hx with rfl | hx
        · exact offG
        · rw [List.mem_singleton.mp hx]; exact none_of_le ‹Le s.heap h₆›
      · simp only [List.mem_cons, List.not_mem_nil, or_false]
        rintro (q | q)
        · exact hTL q
        · exact Nat.ne_of_lt hD.lt q
      · intro r hr
        simp only [List.mem_cons, List.not_mem_nil, or_false]
        rintro (q | q)
        · exact hrL r hr q
        · exact Nat.ne_of_lt (hrc r hr) q
    · rintro i v m h tk hv ⟨hle, hM, m1, hall⟩ hk hV hI
      refine opaqueQ fun KK hKK => ?_
      obtain ⟨e, he, ae, u1, u2, u3, ev, htu⟩ := ha.get (i := i) (a := v) (by simpa using hv)
      have hi : i < es.length := (List.getElem?_eq_some_iff.mp he).1
      have hem : e ∈ es := List.mem_of_getElem? he
      obtain ⟨hp1, hp2, hp3, hp4⟩ := hpos e hem
      have htu := htu.keeps hle
      rw [ev] at hV
      have hsq : Sq n.toNat ((es.take i).foldl addE (tab0 n)) := sq_fold _ (sq_tab0 n)
      have htake : es.take (i + 1) = es.take i ++ [e] := by rw [List.take_add_one, he]; rfl
      have hrl : rs.length = n.toNat := by rw [hM.2.2.2.length, hsq.1]
      refine wpAny_execs_cons (wpAny_Assign_Subscript ?_)
      walk_at "zev"
      by_cases h1 : e.1 < n
      · obtain ⟨r, us, hr, hrm, hrow, hri⟩ := hM.row (i := e.1.toNat) (by rw [hsq.1]; omega)
        refine item_list hM.1 hp1 (by walk_at "om") (by rw [List.getElem?_map, hr]; rfl) ?_
        walk_at "zev"
        have hul : us.length = n.toNat := by rw [hri.length, hsq.get (by walk_at "om")]
        by_cases h2 : e.2.1 < n
        · obtain ⟨u, hu⟩ := intsAre_get hri (i := e.2.1.toNat) (by rw [← hri.length]; omega)
          refine item_list hrow hp3 (by walk_at "om") hu ?_
          walk_at "zev"
          refine item_list hM.1 hp1 (by walk_at "om") (by rw [List.getElem?_map, hr]; rfl) ?_
          walk_at "zev"
          refine wpAny_setItem_list hrow hp3 (by walk_at "om") (by rw [List.size_toArray]; omega) fun h₇ hl₇ hs₇ => ?_
          have hM' := hM.set (w := e.2.2) hr hri hs₇ hl₇
          walk_at "zev"
          refine hKK _ _ ⟨_, h₇, _, rfl, hV.kb (KB.same hs₇ (List.mem_singleton_self _)) ?_, KB.same hs₇ hrm, le_same hle hs₇ (hrs r hrm), ?_, m1, ?_⟩
          · intro a ha' q
            rw [List.mem_singleton.mp q] at ha'
            rcases List.mem_cons.mp ha' with q | ha'
            · exact hrL r hrm q
            · rcases List.mem_cons.mp ha' with q | ha'
              · exact list_ne_cell hrow (hV.cel _ _ hcn) q
              · simp at ha'
          · rw [htake, List.foldl_append]; exact hM'
          · rw [htake]
            intro e' he'
            rcases List.mem_append.mp he' with q | q
            · exact hall e' q
            · rw [List.mem_singleton.mp q]; exact ⟨h1, h2⟩
        · refine item_out hh hrow (by rw [List.size_toArray]; omega) (by walk_at "om") fun h₇ tk₇ x hx => ?_
          obtain ⟨ml, hml, _⟩ := hV.loc
          exact raise_at K hle hml offG hx fun h'' q1 q2 => hE (fun q => h2 (q e hem).2) x h'' _ q1 q2
      · refine item_out hh hM.1 (by rw [List.size_toArray, List.length_map]; omega) (by walk_at "om") fun h₇ tk₇ x hx => ?_
        obtain ⟨ml, hml, _⟩ := hV.loc
        exact raise_at K hle hml offG hx fun h'' q1 q2 => hE (fun q => h1 (q e hem).1) x h'' _ q1 q2
    · rintro m h tk ⟨hle, hM, m1, hall⟩ hk hV
      walk_at "zev"
      have hlen : vs.toArray.size = es.length := by rw [List.size_toArray, ha.length]
      rw [hlen, List.take_length] at hM hall
      exact hQ hall _ h _ hle (matM_mat hM)
end

-- 17_pathto.lean
-- needs: 01 02 03 04 05 06 08 09 10 11 12 13 14 15 16
def OptIs (h : Heap) (v : Value) : Option Int → Prop
  | none => v = .none
  | some i => ∃ t, v = .int i t
theorem OptIs.le {h h' : Heap} {v : Value} {o : Option Int} (x : OptIs h v o) (_ : Le h h') : OptIs h' v o := by cases o <;> exact x
/-- the walk back, after i turns -/
def ptI (ops : List (Option Int)) (src tgt : Int) : Nat → Int × List Int
  | 0 => (tgt, [tgt])
  | i + 1 => let p := ptI ops src tgt i; if p.1 = src then p else let a := (ops.getD p.1.toNat none).getD 0; (a, p.2 ++ [a])
def ptF (ops : List (Option Int)) (src tgt : Int) : List Int := if src = tgt then [src] else if ops.getD tgt.toNat none = none then [] else (ptI ops src tgt ops.length).2.reverse
theorem ptI_len (ops : List (Option Int)) (src tgt : Int) (i : Nat) : (ptI ops src tgt i).2.length ≤ i + 1 := by
  induction i with
  | zero => simp [ptI]
  | succ i ih =>
    simp only [ptI]
    split
    · omega
    · simp; omega
theorem intsAre_app {vs us : List Value} {ns ms : List Int} (h : IntsAre vs ns) (h' : IntsAre us ms) : IntsAre (vs ++ us) (ns ++ ms) := by
  induction h with
  | nil => exact h'
  | cons n t _ ih => exact .cons n t ih
theorem intsAre_rev {vs : List Value} {ns : List Int} (h : IntsAre vs ns) : IntsAre vs.reverse ns.reverse := by
  induction h with
  | nil => exact .nil
  | cons n t _ ih => rw [List.reverse_cons, List.reverse_cons]; exact intsAre_app ih (.cons n t .nil)
section
variable {prog : Program} {w : World} {A : Around} {E : Value → Shared → Prop} {s : Shared} {mg mb : Str → Option Value} {env : Env}
theorem list_reverse_plainL {l : Addr} {its : Array Value} {pos : Pos} {Q : Value → Shared → Prop} (hl : PlainL s.heap l its) (hQ : ∀ h', PlainL h' l its.reverse → Heap.SameBut l s.heap h' → Q .none { s with heap := h' }) (hsz : its.size < 1000) :
    wpAny (model prog w) A (callWith pos (.builtin "list.reverse") [.ref l] [] []) Q E s := by
  obtain ⟨o, n, ho, hc, hdn, hd⟩ := id hl
  obtain ⟨n', hd'⟩ := Obj.data_mapSeq hd (·.reverse)
  refine Calls.callWith_builtin rfl (evalArgs_nil3 ?_)
  refine wpAny_call_entry F.slot_list_reverse hl.isList.typeIs F.entry_list_reverse ?_ (F.args_list_reverse_1 _)
  show wpAny _ _ (updateSeq l (·.reverse) >>= fun _ => ret .none) _ _ s
  refine wpAny_bind ?_
  refine wpAny_updateSeq ho hd (wpAny_pure ⟨.none, rfl, hQ _ ?_ (Heap.SameBut.update ..)⟩) (by simp only [sizeLine]; omega) (by rw [Array.size_reverse]; simp only [sizeLine]; omega)
  refine ⟨_, n', Heap.get?_update_self _ ho (Obj.isFreed_of_seq hd'), (Obj.cls_mapSeq ..).trans hc, ?_, hd'⟩
  obtain ⟨c, d, dt, sl⟩ := o
  subst hd
  exact hdn
theorem st_reverse {m : Str → Option Value} {x : Str} {px apos pos spos : Pos} {D : Addr} {its : Array Value} {Q : Flow → Shared → Prop} (hn : s.heap.Ns env.locals m) (hv : m x = some (.ref D)) (hD : PlainL s.heap D its) (hsz : its.size < 1000)
    (h : ∀ h', PlainL h' D its.reverse → Heap.SameBut D s.heap h' → Q .next { s with heap := h' })
    (hk : env.scope.kind = .function := by rfl) (hl : env.kindOf x = some .local := by rfl) (hd : (x == ("__debug__" : Str)) = false := by rfl)
    (hbase : attributeBase (.Name x px) "reverse" env (eval (.Name x px) env) = eval (.Name x px) env := by rfl)
    (hline : (apos.endLine == pos.line) = true := by rfl) (hi : interactive env = false := by rfl) (hs : swapsWith (.Call (.Attribute (.Name x px) "reverse" apos) [] [] pos) none spos.line env = pure false := by rfl) :
    wpAny (model prog w) A (exec (.Expr (.Call (.Attribute (.Name x px) "reverse" apos) [] [] pos) spos) env) Q E s :=
  wpAny_Expr (Call_method0 hbase hline (ev_loc hn hv ⟨"list", "list.reverse", F.plainAttrs_list, F.slot_list_reverse, F.type_list_reverse, hD.isList.typeIs, fun a e => by cases e; obtain ⟨o, n, ho, _, hdn, _⟩ := hD; exact ⟨o, ho, hdn⟩,
    list_reverse_plainL hD h hsz⟩ hk hl hd)) hi hs
theorem is_none_opt {v : Value} {o : Option Int} {h : Heap} {Q : Value → Shared → Prop} (ho : OptIs h v o) (hq : Q (.bool o.isNone) s) : wpAny (model prog w) A (compareOp .Is v .none) Q E s := by
  cases o with
  | none => cases ho; exact wpAny_is_self rfl hq
  | some i => obtain ⟨t, rfl⟩ := ho; exact wpAny_is_other rfl (by intro q; cases q) hq
set_option maxHeartbeats 1000000 in
theorem path_to_spec {Q : Value → Shared → Prop} {f : Addr} {v : Value} {src tgt : Int} {t1 t2 : Tok} {ops : List (Option Int)} {base : Heap} {outer : List Env} (hroom : A.depth < recursionLimit) (hh : A.handled = none) (C : Cx mg mb s.heap) (K : Below A base outer s.heap)
    (hf : FnIs s.heap f dPathTo) (hp : ListIs OptIs s.heap v ops) (hol : ops.length < 100) (ht0 : 0 ≤ tgt) (ht1 : tgt < 100)
    (hval : src ≠ tgt → ops.getD tgt.toNat none ≠ none → ∀ i < ops.length, (ptI ops src tgt i).1 ≠ src → 0 ≤ (ptI ops src tgt i).1 ∧ (ptI ops src tgt i).1 < ops.length ∧ ops.getD (ptI ops src tgt i).1.toNat none ≠ none)
    (hQ : (src = tgt ∨ tgt < ops.length) → ∀ v' h' tk, Le s.heap h' → Ints h' v' (ptF ops src tgt) → Q v' { s with heap := h', toks := tk })
    (hE : (src ≠ tgt ∧ ¬ tgt < ops.length) → ∀ e h' tk, Fly base outer e h' → s.heap.UpToSlots h' → E (.ref e) { s with heap := h', toks := tk }) :
    wpAny (model prog w) A (call (.ref f) [v, .int src t1, .int tgt t2]) Q E s := by
  obtain ⟨o, pm, code, doc, ho, hd, hc⟩ := hf
  obtain ⟨l, vs, rfl, hl, ha⟩ := hp
  refine wpAny_call (call_plain (binds := [(Str.ofString "previous", .ref l), (Str.ofString "source", .int src t1), (Str.ofString "target", .int tgt t2)]) hroom ho hd C.lim hc (by rfl) (locs (by rfl)) (fun h₁ F => ?_) (by rfl) (by rfl) (by rfl) (by decide))
  have hns := F.ns
  have hle : Le s.heap h₁ := F.keep
  have offG : s.heap.get? s.heap.objs.size = none := fresh_none _
  have hvl : vs.length = ops.length := ha.length
  refine wpAny_execs_cons (wpAny_If ?_)
  walk_at "zev"
  refine if_by (fun hb => ?_) fun hb => ?_
  · have hst : src = tgt := by simpa using hb
    walk_at "zev"
    refine ⟨by simp, fun D h₂ hk₂ hfr hD => ?_⟩
    dsimp only at hk₂ hfr hD ⊢
    refine hQ (.inl hst) _ h₂ _ (hle.trans hk₂) ⟨D, _, rfl, hD.isList, ?_⟩
    rw [ptF, if_pos hst]
    exact ⟨⟨_, rfl⟩, trivial⟩
  · have hst : src ≠ tgt := by simpa using hb
    walk_at "zev"
    by_cases htl : tgt < ops.length
    · have hv : tgt.toNat < vs.length := by walk_at "om"
      obtain ⟨ob, hob, hoi⟩ := ha.get (List.getElem?_eq_getElem hv)
      refine item_list (isList_le hl hle) ht0 (by walk_at "om") (List.getElem?_eq_getElem hv) ?_
      walk_at "zev"
      have hgd : ops.getD tgt.toNat none = ob := by rw [List.getD_eq_getElem?_getD, hob]; rfl
      refine is_none_opt hoi ?_
      walk_at "zev"
      refine if_by (fun hb => ?_) fun hb => ?_
      · walk_at "zev"
        refine ⟨by simp, fun D h₂ hk₂ hfr hD => ?_⟩
        dsimp only at hk₂ hfr hD ⊢
        refine hQ (.inr htl) _ h₂ _ (hle.trans hk₂) ⟨D, _, rfl, hD.isList, ?_⟩
        rw [ptF, if_neg hst, hgd, if_pos (by simpa using hb)]
        trivial
      · have hsome : ops.getD tgt.toNat none ≠ none := by rw [hgd]; intro q; rw [q] at hb; cases hb
        have hval := hval hst hsome
        walk_at "zev"
        refine wpAny_Assign_Name ?_
        walk_at "zev"
        refine ⟨by simp, fun D h₂ hk₂ hfr hD => ?_⟩
        dsimp only at hk₂ hfr
        have hDL : D ≠ s.heap.objs.size := list_ne hD.isList (hns.keeps hk₂)
        have offD : s.heap.get? D = none := none_back hle hfr
        have hns := hns.keeps hk₂
        have hle := hle.trans hk₂
        walk_at "zst"
        refine wpAny_execs_cons (wpAny_Assign_Name ?_)
        walk_at "zev"
        walk_at "zst"
        walk_at "zev"
        refine wpAny_For ?_
        walk_at "zev"
        refine len_of (isList_le hl hle) (by walk_at "om") fun tl tkl => ?_
        walk_at "zev"
        refine range1 fun r h₃ tk₃ hk₃ hrf hr => ?_
        dsimp only at hk₃ hrf hr ⊢
        have hns := hns.keeps hk₃
        have hle := hle.trans hk₃
        have hD := hD.keeps hk₃
        have hDI : D ≠ h₃.objs.size := Nat.ne_of_lt hD.lt
        obtain ⟨tr1, tr2, tr3, hr⟩ := hr
        refine iter_range (n := ops.length) [D] (fun I i m h => ∃ its, Le s.heap h ∧ PlainL h D its ∧ IntsAre its.toList (ptI ops src tgt i).2 ∧ (∃ t, m (Str.ofString "at") = some (.int (ptI ops src tgt i).1 t)) ∧
            m (Str.ofString "source") = some (.int src t1) ∧ m (Str.ofString "previous") = some (.ref l) ∧ m (Str.ofString "path") = some (.ref D))
          hh hr (small_one (by walk_at "om") (by walk_at "om") (by walk_at "om") (by walk_at "om")) (by rw [rangeSize_nat]; omega) ?_ (by rfl) (by rfl) hns ⟨_, hle, hD, .cons _ _ .nil, ⟨_, by rfl⟩, by rfl, by rfl, by rfl⟩ ?_ ?_ ?_
        · intro b hb
          rw [List.mem_singleton.mp hb]; exact hD.lt
        · rintro i m h h' ⟨its, hle, hD, r⟩ k
          refine ⟨its, k.le hle ?_, ?_, r⟩
          · intro x hx
            rcases List.mem_cons.mp hx with rfl | hx
            · exact offG
            · rw [List.mem_singleton.mp hx]; exact none_of_le ‹Le s.heap h₃›
          · obtain ⟨o', n', ho', r'⟩ := hD
            refine ⟨o', n', k _ _ ?_ ho', r'⟩
            simp only [List.mem_cons, List.not_mem_nil, or_false]
            rintro (q | q)
            · exact hDL q
            · exact hDI q
        · rintro i ti m h tk hi ⟨its, hle, hD, hint, ⟨t, m1⟩, m2, m3, m4⟩ hk hns hI
          refine opaqueQ fun KK hKK => ?_
          have hkb : KB [s.heap.objs.size, D] h h := KB.rfl
          have hsz : its.size < 1000 := by
            have := hint.length
            have := ptI_len ops src tgt i
            simp at *
            omega
          walk_at "zev"
          refine if_by (fun hb => ?_) fun hb => ?_
          · have hne : (ptI ops src tgt i).1 ≠ src := by simpa using hb
            obtain ⟨q1, q2, q3⟩ := hval i hi hne
            walk_at "zev"
            refine wpAny_Assign_Name ?_
            walk_at "zev"
            have hv : (ptI ops src tgt i).1.toNat < vs.length := by walk_at "om"
            obtain ⟨ob', hob', hoi'⟩ := ha.get (List.getElem?_eq_getElem hv)
            have hgd' : ops.getD (ptI ops src tgt i).1.toNat none = ob' := by rw [List.getD_eq_getElem?_getD, hob']; rfl
            rw [hgd'] at q3
            cases hob2 : ob' with
            | none => exact absurd hob2 q3
            | some a =>
              rw [hob2] at hoi' hgd'
              obtain ⟨ta, hta⟩ := hoi'
              refine item_list (isList_le hl hle) q1 (by walk_at "om") ((List.getElem?_eq_getElem hv).trans (by rw [hta])) ?_
              have hstep : ptI ops src tgt (i + 1) = (a, (ptI ops src tgt i).2 ++ [a]) := by
                rw [ptI, if_neg hne, hgd']; rfl
              walk_at "zst"
              refine wpAny_execs_cons (st_append hns m4 hD ?_)
              walk_at "zev"
              refine ⟨its, hD, hsz, fun h6 hD6 hsb6 => ?_⟩
              dsimp only
              have hle : Le s.heap h6 := le_same hle hsb6 offD
              have hns := hns.sameBut hsb6 (Ne.symm hDL)
              have hkb : KB [s.heap.objs.size, D] h h6 := KB.trans hkb (KB.same hsb6 (by simp))
              walk_at "zev"
              refine hKK _ _ ⟨_, _, _, rfl, hns, hkb, _, hle, hD6, ?_, ⟨_, by rw [hstep]; rfl⟩, m2, m3, m4⟩
              rw [hstep, Array.toList_push]
              exact intsAre_snoc hint
          · have hne : (ptI ops src tgt i).1 = src := by simpa using hb
            walk_at "zev"
            have hstep : ptI ops src tgt (i + 1) = ptI ops src tgt i := by rw [ptI, if_pos hne]
            exact hKK _ _ ⟨_, _, _, rfl, hns, hkb, its, hle, hD, by rw [hstep]; exact hint, ⟨_, by rw [hstep]; exact m1⟩, m2, m3, m4⟩
        · rintro m h tk ⟨its, hle, hD, hint, ⟨t, m1⟩, m2, m3, m4⟩ hk hns
          have hsz : its.size < 1000 := by
            have := hint.length
            have := ptI_len ops src tgt ops.length
            simp at *
            omega
          refine wpAny_execs_cons (st_reverse hns m4 hD hsz fun h₆ hD₆ hs₆ => ?_)
          dsimp only
          have hns := hns.sameBut hs₆ (Ne.symm hDL)
          have hle : Le s.heap h₆ := le_same hle hs₆ offD
          walk_at "zev"
          refine hQ (.inr htl) _ h₆ _ hle ⟨D, its.toList.reverse, rfl, ?_, ?_⟩
          · have : its.toList.reverse.toArray = its.reverse := by apply Array.ext'; simp
            rw [this]; exact hD₆.isList
          · rw [ptF, if_neg hst, if_neg hsome]
            exact intsAre_all2.mp (intsAre_rev hint)
    · refine item_out hh (isList_le hl hle) (by rw [List.size_toArray]; omega) (by walk_at "om") fun h₇ tk₇ x hx => ?_
      exact raise_at K hle hns offG hx fun h'' q1 q2 => hE ⟨hst, htl⟩ x h'' _ q1 q2
end

-- 18_bfs.lean
-- needs: 01 02 03 04 05 06 08 09 10 11 12 13 14 15 16 17
def augV (row : List Int) (src u : Int) (st : List (Option Int) × List Int) (v : Nat) : List (Option Int) × List Int :=
  if 0 < row.getD v 0 ∧ (v : Int) ≠ src ∧ st.1.getD v none = none then (st.1.set v (some u), st.2 ++ [(v : Int)]) else st
def augR (res : List (List Int)) (n : Nat) (src : Int) (st : List (Option Int) × List Int) (u : Int) : List (Option Int) × List Int := (List.range n).foldl (augV (res.getD u.toNat []) src u) st
def bfs (res : List (List Int)) (n : Nat) (src : Int) : Nat → List (Option Int) × List Int
  | 0 => (List.replicate n none, [src])
  | k + 1 => let p := bfs res n src k; if k < p.2.length then augR res n src p (p.2.getD k 0) else p
def cnt : List (Option Int) → Nat
  | [] => 0
  | none :: r => cnt r
  | some _ :: r => cnt r + 1
theorem cnt_le : ∀ l : List (Option Int), cnt l ≤ l.length
  | [] => Nat.le_refl _
  | none :: r => by have := cnt_le r; simp [cnt]; omega
  | some _ :: r => by have := cnt_le r; simp [cnt]; omega
theorem cnt_set : ∀ (l : List (Option Int)) (v : Nat) (u : Int), v < l.length → l.getD v none = none → cnt (l.set v (some u)) = cnt l + 1
  | [], v, u, h, _ => by simp at h
  | none :: r, 0, u, _, _ => rfl
  | some _ :: r, 0, u, _, h => by simp at h
  | none :: r, v + 1, u, h, e => by simpa [cnt] using cnt_set r v u (by simpa using h) (by simpa using e)
  | some _ :: r, v + 1, u, h, e => by simpa [cnt] using cnt_set r v u (by simpa using h) (by simpa using e)
theorem cnt_none (n : Nat) : cnt (List.replicate n none) = 0 := by
  induction n with
  | zero => rfl
  | succ n ih => simpa [List.replicate_succ, cnt] using ih
def Good (n : Nat) (src : Int) (p : List (Option Int)) (u : Int) : Prop := 0 ≤ u ∧ u < n ∧ (u = src ∨ p.getD u.toNat none ≠ none)
structure Inv (n : Nat) (src : Int) (p : List (Option Int) × List Int) : Prop where
  len : p.1.length = n
  que : p.2.length = 1 + cnt p.1
  inq : ∀ u ∈ p.2, Good n src p.1 u
  prv : ∀ v u, p.1.getD v none = some u → Good n src p.1 u
theorem getD_set (l : List (Option Int)) (v k : Nat) (u : Int) (hv : v < l.length) : (l.set v (some u)).getD k none = if k = v then some u else l.getD k none := by
  rw [List.getD_eq_getElem?_getD, List.getD_eq_getElem?_getD, List.getElem?_set]
  by_cases h : v = k
  · subst h; simp [hv]
  · rw [if_neg h, if_neg (Ne.symm h)]
theorem Good.set {n : Nat} {src u x : Int} {p : List (Option Int)} {v : Nat} (h : Good n src p u) (hv : v < p.length) : Good n src (p.set v (some x)) u := by
  obtain ⟨h1, h2, h3⟩ := h
  refine ⟨h1, h2, h3.imp id fun q => ?_⟩
  rw [getD_set _ _ _ _ hv]
  split
  · simp
  · exact q
theorem inv_augV {n : Nat} {src u : Int} {p : List (Option Int) × List Int} {row : List Int} {v : Nat} (h : Inv n src p) (hu : Good n src p.1 u) (hv : v < n) : Inv n src (augV row src u p v) ∧ Good n src (augV row src u p v).1 u := by
  unfold augV
  split
  · rename_i hc
    have hv' : v < p.1.length := by rw [h.len]; exact hv
    have hnew : Good n src (p.1.set v (some u)) (v : Int) := ⟨by walk_at "om", by walk_at "om", .inr (by rw [Int.toNat_natCast, getD_set _ _ _ _ hv', if_pos rfl]; simp)⟩
    refine ⟨⟨?_, ?_, ?_, ?_⟩, hu.set hv'⟩
    · simpa using h.len
    · rw [List.length_append, h.que, cnt_set _ _ _ hv' hc.2.2]; simp; omega
    · intro x hx
      rcases List.mem_append.mp hx with hx | hx
      · exact (h.inq x hx).set hv'
      · rw [List.mem_singleton.mp hx]; exact hnew
    · intro k x hk
      simp only at hk
      rw [getD_set _ _ _ _ hv'] at hk
      split at hk
      · cases hk; exact hu.set hv'
      · exact (h.prv k x hk).set hv'
  · exact ⟨h, hu⟩
theorem augV_fold {n : Nat} {src u : Int} {row : List Int} : ∀ (vs : List Nat) {p : List (Option Int) × List Int}, (∀ v ∈ vs, v < n) → Inv n src p → Good n src p.1 u → Inv n src (vs.foldl (augV row src u) p) ∧ Good n src (vs.foldl (augV row src u) p).1 u
  | [], p, _, h, hu => ⟨h, hu⟩
  | v :: vs, p, hv, h, hu => by
    obtain ⟨h1, h2⟩ := inv_augV (row := row) h hu (hv v (List.mem_cons_self ..))
    exact augV_fold vs (fun v' h' => hv v' (List.mem_cons_of_mem _ h')) h1 h2
theorem getD_mem {l : List Int} {k : Nat} (h : k < l.length) : l.getD k 0 ∈ l := by
  rw [List.getD_eq_getElem?_getD, List.getElem?_eq_getElem h]; exact List.getElem_mem _
theorem inv_bfs (res : List (List Int)) (n : Nat) (src : Int) (h0 : 0 ≤ src) (h1 : src < n) : ∀ k, Inv n src (bfs res n src k)
  | 0 => by
    refine ⟨by simp [bfs], by simp [bfs, cnt_none], ?_, ?_⟩
    · intro u hu
      simp only [bfs, List.mem_singleton] at hu
      subst hu; exact ⟨h0, h1, .inl rfl⟩
    · intro v u hv
      simp only [bfs, List.getD_eq_getElem?_getD, List.getElem?_replicate] at hv
      split at hv <;> cases hv
  | k + 1 => by
    have ih := inv_bfs res n src h0 h1 k
    simp only [bfs]
    split
    · rename_i hk
      exact (augV_fold _ (fun v hv => List.mem_range.mp hv) ih (ih.inq _ (getD_mem hk))).1
    · exact ih
theorem bfs_stop (res : List (List Int)) (n : Nat) (src : Int) (k : Nat) (h : (bfs res n src k).2.length ≤ k) : ∀ j, bfs res n src (k + j) = bfs res n src k
  | 0 => rfl
  | j + 1 => by
    have ih := bfs_stop res n src k h j
    show bfs res n src (k + j + 1) = _
    simp only [bfs]
    rw [ih, if_neg (by walk_at "om")]
theorem bfs_len (res : List (List Int)) (n : Nat) (src : Int) (h0 : 0 ≤ src) (h1 : src < n) (k : Nat) : (bfs res n src k).2.length ≤ n + 1 := by
  have h := inv_bfs res n src h0 h1 k
  have := h.que
  have := cnt_le (bfs res n src k).1
  have := h.len
  omega
/-- the way back always finds a way on -/
theorem chain_ok {n : Nat} {src tgt : Int} {p : List (Option Int) × List Int} (h : Inv n src p) (ht0 : 0 ≤ tgt) (ht1 : tgt < n) (hs : p.1.getD tgt.toNat none ≠ none) : ∀ i, (ptI p.1 src tgt i).1 ≠ src → Good n src p.1 (ptI p.1 src tgt i).1
  | 0, _ => ⟨ht0, ht1, .inr hs⟩
  | i + 1, hne => by
    simp only [ptI] at hne ⊢
    split
    · rename_i hq
      rw [if_pos hq] at hne
      exact absurd hq hne
    · rename_i hq
      have ih := chain_ok h ht0 ht1 hs i hq
      have hn : p.1.getD (ptI p.1 src tgt i).1.toNat none ≠ none := by
        rcases ih.2.2 with q | q
        · exact absurd q hq
        · exact q
      cases hx : p.1.getD (ptI p.1 src tgt i).1.toNat none with
      | none => exact absurd hx hn
      | some a => exact h.prv _ _ hx
def wayF (res : List (List Int)) (n : Nat) (src tgt : Int) : List Int := ptF (bfs res n src (n + 1)).1 src tgt
section
variable {prog : Program} {w : World} {A : Around} {E : Value → Shared → Prop} {s : Shared} {env : Env}
theorem while_walk {Q : Flow → Shared → Prop} {test : Expr} {body : List Stmt} {pos : Pos} (I : Nat → Heap → Prop) (n : Nat) (h0 : I n s.heap)
    (turn : ∀ n h tk, I n h → wpAny (model prog w) A (isTrue test env (eval test env)) (fun b s₂ =>
      if b = true then wpAny (model prog w) A (execs body env) (fun f s₃ => match f with
        | .next | .cont => ∃ m h' tk', m < n ∧ s₃ = { s with heap := h', toks := tk' } ∧ I m h'
        | .brk => Q .next s₃
        | .ret v => Q (.ret v) s₃) E s₂
      else Q .next s₂) E { s with heap := h, toks := tk })
    (hE : PassesOwn (model prog w) A env E := by passes_own) : wpAny (model prog w) A (exec (.While test body [] pos) env) Q E s := by
  refine wpAny_While (codeAny_whileLoop (fun k s' => ∃ h tk, s' = { s with heap := h, toks := tk } ∧ I k h) ?_ n ⟨s.heap, s.toks, rfl, h0⟩)
  rintro k s' ⟨h, tk, rfl, hI⟩
  refine wpAny_mono (wpAny_passesOwn hE (turn k h tk hI)) (fun b s₂ hb => ?_) fun _ _ e => e
  cases b with
  | false =>
    simp only [Bool.false_eq_true, if_false] at hb ⊢
    exact wpAny_execs_nil hb
  | true =>
    simp only [if_true] at hb ⊢
    refine wpAny_mono (wpAny_passesOwn hE hb) (fun f s₃ h₃ => ?_) fun _ _ e => e
    cases f with
    | next => obtain ⟨m, h', tk', hm, rfl, hi⟩ := h₃; exact ⟨m, hm, h', tk', rfl, hi⟩
    | cont => obtain ⟨m, h', tk', hm, rfl, hi⟩ := h₃; exact ⟨m, hm, h', tk', rfl, hi⟩
    | brk => exact h₃
    | ret v => exact h₃
end

-- 19_augment.lean
-- needs: 01 02 03 04 05 06 08 09 10 11 12 13 14 15 16 17 18
theorem OptIs.any {h h' : Heap} {v : Value} {o : Option Int} (x : OptIs h v o) : OptIs h' v o := by cases o <;> exact x
theorem isList_same {h h' : Heap} {a b : Addr} {its : Array Value} (x : h.IsList a its) (hs : Heap.SameBut b h h') (n : a ≠ b) : h'.IsList a its := x.at fun o e => (hs.2 a n).trans e
theorem below_deeper {A : Around} {base h₀ h : Heap} {outer : List Env} {m : Str → Option Value} {env : Env} (K : Below A base outer h₀) (hle : Le h₀ h) (hn : h.Ns env.locals m) (off : h₀.get? env.locals = none)
    (hf : env.frame = some env.locals := by rfl) (hk : env.scope.kind ≠ .module := by intro q; cases q) : Below (A.deeper env) base (env :: outer) h :=
  ⟨Around.frames_deeper K.stack, Le.trans K.stays hle, .cons hk hf hn (none_back K.stays off) (K.frames.of_keeps fun b o ho _ => ⟨o, hle b o ho, rfl⟩)⟩
def St (h : Heap) (P D : Addr) (p : List (Option Int) × List Int) : Prop := (∃ pv, h.IsList P (List.toArray pv) ∧ All2 (OptIs h) pv p.1) ∧ ∃ its, PlainL h D its ∧ IntsAre its.toList p.2
theorem St.kb {h h' : Heap} {P D : Addr} {p : List (Option Int) × List Int} {X : List Addr} (x : St h P D p) (k : KB X h h') (hP : P ∉ X) (hD : D ∉ X) : St h' P D p := by
  obtain ⟨⟨pv, h1, h2⟩, its, ⟨o, nn, h3, r⟩, h4⟩ := x
  exact ⟨⟨pv, h1.at fun o e => k _ o hP e, h2.mono fun _ _ q => q.any⟩, its, ⟨o, nn, k _ o hD h3, r⟩, h4⟩
theorem St.ne {h : Heap} {P D L : Addr} {p : List (Option Int) × List Int} {m : Str → Option Value} (x : St h P D p) (hn : h.Ns L m) : P ≠ L ∧ D ≠ L := by
  obtain ⟨⟨pv, h1, _⟩, its, h3, _⟩ := x
  exact ⟨list_ne h1 hn, list_ne h3.isList hn⟩
theorem all2_set {α β : Type} {R : α → β → Prop} : ∀ {as : List α} {bs : List β} (k : Nat) {a : α} {b : β}, All2 R as bs → R a b → All2 R (as.set k a) (bs.set k b)
  | [], [], _, _, _, h, _ => h
  | _ :: _, _ :: _, 0, _, _, h, r => ⟨r, h.2⟩
  | _ :: _, _ :: _, k + 1, _, _, h, r => ⟨h.1, all2_set k h.2 r⟩
  | _ :: _, [], _, _, _, h, _ => h.elim
  | [], _ :: _, _, _, _, h, _ => h.elim
theorem all2_repl {α β : Type} {R : α → β → Prop} {as : List α} {b : β} {n : Nat} (hl : as.length = n) (h : ∀ a ∈ as, R a b) : All2 R as (List.replicate n b) := by
  induction as generalizing n with
  | nil => subst hl; trivial
  | cons a as ih =>
    subst hl
    exact ⟨h a (List.mem_cons_self ..), ih rfl fun a' ha => h a' (List.mem_cons_of_mem _ ha)⟩
theorem augV_grow (row : List Int) (src u : Int) (p : List (Option Int) × List Int) (v : Nat) : p.2.length ≤ (augV row src u p v).2.length := by
  unfold augV; split <;> simp
theorem augV_grows (row : List Int) (src u : Int) : ∀ (vs : List Nat) (p : List (Option Int) × List Int), p.2.length ≤ (vs.foldl (augV row src u) p).2.length
  | [], _ => Nat.le_refl _
  | v :: vs, p => Nat.le_trans (augV_grow row src u p v) (augV_grows row src u vs _)
theorem bfs_grow (res : List (List Int)) (n : Nat) (src : Int) (k : Nat) : (bfs res n src k).2.length ≤ (bfs res n src (k + 1)).2.length := by
  simp only [bfs]
  split
  · exact augV_grows _ _ _ _ _
  · exact Nat.le_refl _
section
variable {prog : Program} {w : World} {A : Around} {E : Value → Shared → Prop} {s : Shared} {mg mb : Str → Option Value}
set_option maxHeartbeats 4000000 in
theorem augment_spec {Q : Value → Shared → Prop} {f : Addr} {n : Nat} {src tgt : Int} {t1 t2 t3 : Tok} {v : Value} {res : List (List Int)} {base : Heap} {outer : List Env} (hroom : A.depth + 1 < recursionLimit) (hh : A.handled = none) (C : Cx mg mb s.heap) (K : Below A base outer s.heap)
    (hf : FnIs s.heap f dAugment) (hm : Mat s.heap v res) (hsq : Sq n res) (hn0 : 0 < n) (hn : n < 50) (hs0 : 0 ≤ src) (hs1 : src ≤ n) (ht0 : 0 ≤ tgt) (ht1 : tgt ≤ n)
    (hQ : src < n → tgt < n → ∀ v' h' tk, Le s.heap h' → Ints h' v' (wayF res n src tgt) → Q v' { s with heap := h', toks := tk })
    (hE : (src = n ∨ tgt = n) → ∀ e h' tk, Fly base outer e h' → s.heap.UpToSlots h' → E (.ref e) { s with heap := h', toks := tk }) :
    wpAny (model prog w) A (call (.ref f) [.int n t1, v, .int src t2, .int tgt t3]) Q E s := by
  obtain ⟨o, pm, code, doc, ho, hd, hc⟩ := hf
  obtain ⟨lr, vr, rfl, hlr, har⟩ := hm
  refine wpAny_call (call_plain (binds := [(Str.ofString "n", .int n t1), (Str.ofString "residual", .ref lr), (Str.ofString "source", .int src t2), (Str.ofString "sink", .int tgt t3)]) (by walk_at "om") ho hd C.lim hc (by rfl) (locs (by rfl)) (fun h₁ F => ?_) (by rfl) (by rfl) (by rfl) (by decide))
  have hns := F.ns
  have hle : Le s.heap h₁ := F.keep
  have offG : s.heap.get? s.heap.objs.size = none := fresh_none _
  have hV := vars_of_ns (env := envOf dAugment.name dAugment.scope s.heap.objs.size f code) hns rfl
  refine wpAny_execs_cons (as_comp (by rfl) (by rfl) (by rfl) (by rfl) ?_)
  walk_at "zev"
  refine range1 fun r h₂ tk₂ hk₂ hrf hr => ?_
  dsimp only at hk₂ hrf hr
  have hV := hV.le hk₂
  have hle := hle.trans hk₂
  have hV0 := hV
  refine comp_rg (k := 0) (n := n) OptIs (fun r _ => r.any) (fun _ => some none) s.heap [s.heap.objs.size] hh hr (by walk_at "om") (by walk_at "om") (by walk_at "om") (by walk_at "om") (by walk_at "om") (by walk_at "om") hV (by simp) (fun h l => cvars0 hV (by simp) (by rfl) (by rfl) (by rfl) l) (fun _ => sto_l) (.inl rfl) hle
    (by intro a ha; rw [List.mem_singleton.mp ha]; exact ⟨let ⟨_, ⟨o, _, _, ho, _⟩, _⟩ := hV.loc; ⟨o, ho⟩, offG⟩) ?_ ?_
  · intro i t g h₃ tk₃ hi hg₁ hg₂ hex hV
    refine tests_nil ⟨_, _, rfl, Le.rfl, rfl, fun _ => ?_⟩
    walk_at "zev"
    exact ⟨_, _, _, rfl, Le.rfl, rfl, rfl⟩
  · intro ys g h₃ tk₃ m' hg₁ hg₂ hoff hys hD hle₃ hnC
    have hol : ∀ b ∈ owns (envOf dAugment.name dAugment.scope s.heap.objs.size f code), b < h₂.objs.size := by
      intro b hb
      rcases List.mem_cons.mp hb with rfl | hb
      · exact hV0.ltL
      · simp [envOf] at hb
    refine comp_store (y := Str.ofString "previous") hV0 hol (List.mem_singleton_self _) hoff hg₂ hD hle₃ hnC fun h₆ tk₆ hV hP hkb hgle => ?_
    rw [filterMap_const] at hys
    have hle : Le s.heap h₆ := hg₁.trans hgle
    have V6 := hV
    have hPL : @Ne Addr (h₂.objs.size + 1) s.heap.objs.size := neN (by have : @LT.lt Nat _ s.heap.objs.size h₂.objs.size := hV0.ltL; omega)
    have offP : s.heap.get? (h₂.objs.size + 1) = none := none_back ‹Le s.heap h₂› (Heap.get?_none_of_le (Nat.le_succ _))
    have hPex := hP.lt
    obtain ⟨P, hPd⟩ : ∃ P : Addr, P = h₂.objs.size + 1 := ⟨_, rfl⟩
    rw [← hPd] at hP hV hPL offP hPex
    have hP : h₆.IsList P ys.toArray := hP.isList
    refine wpAny_execs_cons (wpAny_Assign_Name ?_)
    walk_at "zev"
    refine ⟨by simp, fun D h₇ hk₇ hfr hD => ?_⟩
    dsimp only at hk₇ hfr
    have hPD : P ≠ D := fun q => by
      obtain ⟨o', ho', _⟩ := hP
      rw [← q, ho'] at hfr; cases hfr
    have offD : s.heap.get? D = none := none_back hle hfr
    have hV := hV.le hk₇
    have hle := hle.trans hk₇
    have hP := isList_le hP hk₇
    walk_at "zsv"
    have hDL : D ≠ s.heap.objs.size := fun q => by rw [q] at hfr; obtain ⟨_, ⟨o', _, _, ho', _⟩, _⟩ := V6.loc; exact absurd (ho'.symm.trans hfr) (by intro q; cases q)
    have hD := PlainL_same hD hsb hDL
    have hP := isList_same hP hsb hPL
    refine wpAny_execs_cons (wpAny_Assign_Name ?_)
    walk_at "zev"
    walk_at "zsv"
    have hD := PlainL_same hD hsb hDL
    have hP := isList_same hP hsb hPL
    have hSt0 : St h5 P D (bfs res n src 0) := ⟨⟨ys, hP, hys.mono fun _ _ q => q.any⟩, _, hD, .cons _ _ .nil⟩
    have hcell : (envOf dAugment.name dAugment.scope s.heap.objs.size f code).cells = [] := rfl
    have howns : ∀ b ∈ owns (envOf dAugment.name dAugment.scope s.heap.objs.size f code), b = s.heap.objs.size := by
      intro b hb
      rcases List.mem_cons.mp hb with rfl | hb
      · rfl
      · simp [envOf] at hb
    refine wpAny_execs_cons (while_walk (fun j h => ∃ k m, j = n + 2 - k ∧ k ≤ n + 1 ∧ (src < n ∨ k = 0) ∧ k ≤ (bfs res n src k).2.length ∧ Le s.heap h ∧ Vars (envOf dAugment.name dAugment.scope s.heap.objs.size f code) h m ∧ St h P D (bfs res n src k) ∧
        m (Str.ofString "n") = some (.int n t1) ∧ m (Str.ofString "residual") = some (.ref lr) ∧ m (Str.ofString "source") = some (.int src t2) ∧ m (Str.ofString "sink") = some (.int tgt t3) ∧ m (Str.ofString "previous") = some (.ref P) ∧ m (Str.ofString "queue") = some (.ref D) ∧ ∃ t, m (Str.ofString "place") = some (.int k t))
      (n + 2) ⟨0, _, rfl, by walk_at "om", .inr rfl, by simp, hle, hV, hSt0, by rfl, by rfl, by rfl, by rfl, by rfl, by rfl, _, by rfl⟩ ?_)
    rintro j h tk ⟨k, m, hj, hkn, hsk, hkl, hle, hV, hSt, m1, m2, m3, m4, m5, m6, tp, m7⟩
    obtain ⟨⟨pv, hpl, hpo⟩, its, hDl, hDi⟩ := id hSt
    walk_at "zev"
    have hq100 : its.toList.length < 1000 := by
      rw [hDi.length]
      rcases hsk with q | q
      · have := bfs_len res n src hs0 q k; omega
      · rw [q]; simp [bfs]
    refine len_of (vs := its.toList) (by rw [Array.toArray_toList]; exact hDl.isList) hq100 fun tl tkl => ?_
    walk_at "zev"
    refine if_by (fun hb => ?_) fun hb => ?_
    · have hk1 : k < (bfs res n src k).2.length := by
        have := hDi.length
        have : (k : Int) < its.toList.length := by simpa using hb
        omega
      refine opaqueQ fun KW hKW => ?_
      refine wpAny_execs_cons (wpAny_Assign_Name ?_)
      walk_at "zev"
      obtain ⟨tu, hu⟩ := intsAre_get hDi hk1
      obtain ⟨u, hud⟩ : ∃ u : Int, u = (bfs res n src k).2.getD k 0 := ⟨_, rfl⟩
      rw [← hud] at hu
      refine item_list hDl.isList (by walk_at "om") (by walk_at "om") (by rw [Int.toNat_natCast]; exact hu) ?_
      walk_at "zsv"
      refine wpAny_execs_cons (wpAny_Assign_Name ?_)
      walk_at "zev"
      walk_at "zsv"
      have hSt : St h5 P D (bfs res n src k) := (hSt.kb (KB.same ‹Heap.SameBut _ h _› (List.mem_singleton_self _)) (fun q => hPL (List.mem_singleton.mp q)) (fun q => hDL (List.mem_singleton.mp q))).kb (KB.same hsb (List.mem_singleton_self _)) (fun q => hPL (List.mem_singleton.mp q)) (fun q => hDL (List.mem_singleton.mp q))
      walk_at "zev"
      refine wpAny_For ?_
      walk_at "zev"
      refine range1 fun r' h₈ tk₈ hk₈ hrf' hr' => ?_
      dsimp only at hk₈ hrf' hr' ⊢
      have hV := hV.le hk₈
      have hle := hle.trans hk₈
      have hSt : St h₈ P D (bfs res n src k) := hSt.kb (KB.of_le (X := []) hk₈) (by simp) (by simp)
      have hPlt : P < h₈.objs.size := by obtain ⟨⟨_, ⟨o', ho', _⟩, _⟩, _⟩ := hSt; exact Heap.lt_size ho'
      have hDlt : D < h₈.objs.size := by obtain ⟨_, _, hx, _⟩ := hSt; exact hx.lt
      refine iter_rangeV (n := n) [P, D] (fun I i m h => (src < n ∨ i = 0) ∧ Le s.heap h ∧ St h P D ((List.range i).foldl (augV (res.getD u.toNat []) src u) (bfs res n src k)) ∧
          m (Str.ofString "n") = some (.int n t1) ∧ m (Str.ofString "residual") = some (.ref lr) ∧ m (Str.ofString "source") = some (.int src t2) ∧ m (Str.ofString "sink") = some (.int tgt t3) ∧ m (Str.ofString "previous") = some (.ref P) ∧ m (Str.ofString "queue") = some (.ref D) ∧ m (Str.ofString "u") = some (.int u tu) ∧ ∃ t, m (Str.ofString "place") = some (.int (k + 1) t))
        hh hr' (by walk_at "om") (by walk_at "om") (by walk_at "om") (by walk_at "om") (by walk_at "om") ?_ sto_l hV.ltL (fun b hb => by rw [howns b hb]; exact hV.ltL) hV ⟨.inr rfl, hle, hSt, m1, m2, m3, m4, m5, m6, by rfl, _, by rfl⟩ ?_ ?_ ?_
      · intro b hb
        rcases List.mem_cons.mp hb with rfl | hb
        · exact hPlt
        · rw [List.mem_singleton.mp hb]; exact hDlt
      · rintro i m h h' ⟨q1, hle, hSt, r⟩ kk
        refine ⟨q1, kk.le hle ?_, hSt.kb kk ?_ ?_, r⟩
        · intro x hx
          rcases List.mem_cons.mp hx with rfl | hx
          · exact offG
          · rw [List.mem_singleton.mp hx]; exact none_of_le ‹Le s.heap h₈›
        · simp only [List.mem_cons, List.not_mem_nil, or_false]
          rintro (q | q)
          · exact hPL q
          · exact Nat.ne_of_lt hPlt q
        · simp only [List.mem_cons, List.not_mem_nil, or_false]
          rintro (q | q)
          · exact hDL q
          · exact Nat.ne_of_lt hDlt q
      · rintro i ti m h tk hi ⟨hsi, hle, hSt, m1, m2, m3, m4, m5, m6, m8, tp, m7⟩ hk hV hI
        refine opaqueQ fun KK hKK => ?_
        rw [Int.zero_add] at hV
        walk_at "zev"
        by_cases hsn : src < n
        · have hInv := inv_bfs res n src hs0 hsn k
          have hGood : Good n src (bfs res n src k).1 u := hInv.inq u (by rw [hud]; exact getD_mem hk1)
          obtain ⟨hInvI, hGoodI⟩ := augV_fold (row := res.getD u.toNat []) (List.range i) (fun v hv => by have := List.mem_range.mp hv; omega) hInv hGood
          obtain ⟨p, hpd⟩ : ∃ p, p = (List.range i).foldl (augV (res.getD u.toNat []) src u) (bfs res n src k) := ⟨_, rfl⟩
          rw [← hpd] at hInvI hGoodI hSt
          obtain ⟨⟨pv, hpl, hpo⟩, its, hDl, hDi⟩ := id hSt
          have hul : u.toNat < vr.length := by rw [har.length, hsq.1]; have := hGood.2.1; have := hGood.1; omega
          obtain ⟨row, hrow, lw, vw, erow, hlw, haw⟩ := har.get (List.getElem?_eq_getElem hul)
          have hrowd : res.getD u.toNat [] = row := by rw [List.getD_eq_getElem?_getD, hrow]; rfl
          have hrl : row.length = n := by rw [← hrowd]; exact hsq.get (by have := hGood.2.1; have := hGood.1; omega)
          have hpvl : pv.length = n := by rw [hpo.length, hInvI.len]
          have hfold : (List.range (i + 1)).foldl (augV (res.getD u.toNat []) src u) (bfs res n src k) = augV row src u p i := by
            rw [List.range_succ, List.foldl_append, ← hpd, hrowd]; rfl
          refine item_list (isList_le hlr hle) hGood.1 (by have := hGood.2.1; omega) ((List.getElem?_eq_getElem hul).trans (by rw [erow])) ?_
          walk_at "zev"
          obtain ⟨tw, hw⟩ := intsAre_get (intsAre_all2.mpr haw) (i := i) (by rw [hrl]; exact hi)
          refine item_list (isList_le hlw hle) (by walk_at "om") (by walk_at "om") (by rw [Int.toNat_natCast]; exact hw) ?_
          walk_at "zev"
          have stay : (¬ (0 < row.getD i 0 ∧ (i : Int) ≠ src ∧ p.1.getD i none = none)) → augV row src u p i = p := fun q => if_neg q
          refine if_by (fun hb1 => ?_) fun hb1 => ?_
          · walk_at "zev"
            refine if_by (fun hb2 => ?_) fun hb2 => ?_
            · have hiv : i < pv.length := by walk_at "om"
              obtain ⟨ob, hob, hoi⟩ := hpo.get (List.getElem?_eq_getElem hiv)
              have hobd : p.1.getD i none = ob := by rw [List.getD_eq_getElem?_getD, hob]; rfl
              walk_at "zev"
              refine item_list hpl (by walk_at "om") (by walk_at "om") (by rw [Int.toNat_natCast]; exact List.getElem?_eq_getElem hiv) ?_
              walk_at "zev"
              refine is_none_opt hoi ?_
              walk_at "zev"
              refine if_by (fun hb3 => ?_) fun hb3 => ?_
              · walk_at "zev"
                refine if_tt rfl ?_
                have hcond : 0 < row.getD i 0 ∧ (i : Int) ≠ src ∧ p.1.getD i none = none := ⟨by simpa using hb1, by simpa using hb2, by rw [hobd]; simpa using hb3⟩
                refine wpAny_execs_cons (wpAny_Assign_Subscript ?_)
                walk_at "zev"
                refine wpAny_setItem_list hpl (by walk_at "om") (by walk_at "om") (by rw [List.size_toArray]; omega) fun h₉ hl₉ hs₉ => ?_
                have hV := hV.kb (KB.same hs₉ (List.mem_singleton_self _)) (fun a ha q => by rw [howns a ha] at q; exact hPL (List.mem_singleton.mp q).symm)
                have hle := le_same hle hs₉ offP
                have hDl := PlainL_same hDl hs₉ (Ne.symm hPD)
                obtain ⟨ml, hml, hmx⟩ := hV.loc
                refine wpAny_execs_cons (st_append hml ((hmx _ rfl).trans m6) hDl ?_)
                walk_at "zev"
                have hil : its.size < 1000 := by
                  have := hDi.length
                  have := hInvI.que
                  have := cnt_le p.1
                  have := hInvI.len
                  simp at *
                  omega
                refine ⟨its, hDl, hil, fun h6 hD6 hsb6 => ?_⟩
                dsimp only
                have hV := hV.kb (KB.same hsb6 (List.mem_singleton_self _)) (fun a ha q => by rw [howns a ha] at q; exact hDL (List.mem_singleton.mp q).symm)
                have hle := le_same hle hsb6 offD
                walk_at "zev"
                refine hKK _ _ ⟨_, h6, _, rfl, hV, (KB.same hs₉ (by simp)).trans (KB.same hsb6 (by simp)), .inl hsn, hle, ?_, m1, m2, m3, m4, m5, m6, m8, tp, m7⟩
                rw [hfold, augV, if_pos hcond]
                refine ⟨⟨pv.set i (.int u tu), ?_, all2_set i (hpo.mono fun _ _ q => q.any) ⟨_, rfl⟩⟩, its.push _, hD6, ?_⟩
                · rw [Int.toNat_natCast] at hl₉
                  have e : (pv.set i (.int u tu)).toArray = pv.toArray.setIfInBounds i (.int u tu) := by simp
                  rw [e]
                  exact isList_same hl₉ hsb6 hPD
                · rw [Array.toList_push]
                  exact intsAre_snoc hDi
              · have hst := stay fun q => by rw [hobd] at q; rw [q.2.2] at hb3; cases hb3
                walk_at "zev"
                refine if_ff rfl ?_
                walk_at "zev"
                exact hKK _ _ ⟨_, h, _, rfl, hV, KB.rfl, .inl hsn, hle, by rw [hfold, hst]; exact hSt, m1, m2, m3, m4, m5, m6, m8, tp, m7⟩
            · have hst := stay fun q => q.2.1 (by simpa using hb2)
              refine if_ff rfl ?_
              walk_at "zev"
              exact hKK _ _ ⟨_, h, _, rfl, hV, KB.rfl, .inl hsn, hle, by rw [hfold, hst]; exact hSt, m1, m2, m3, m4, m5, m6, m8, tp, m7⟩
          · have hst := stay fun q => by have := decide_eq_false_iff_not.mp hb1; exact this q.1
            refine if_ff rfl ?_
            walk_at "zev"
            exact hKK _ _ ⟨_, h, _, rfl, hV, KB.rfl, .inl hsn, hle, by rw [hfold, hst]; exact hSt, m1, m2, m3, m4, m5, m6, m8, tp, m7⟩
        · obtain rfl : i = 0 := by rcases hsi with q | q; exact absurd q hsn; exact q
          have hk0 : k = 0 := by rcases hsk with q | q; exact absurd q hsn; exact q
          have hun : u = n := by rw [hud, hk0]; simp [bfs]; omega
          refine item_out hh (isList_le hlr hle) (by rw [List.size_toArray, har.length, hsq.1, hun]; omega) (by walk_at "om") fun h₇ tk₇ x hx => ?_
          obtain ⟨ml, hml, _⟩ := hV.loc
          exact raise_at K hle hml offG hx fun h'' q1 q2 => hE (.inl (by walk_at "om")) x h'' _ q1 q2
      · rintro m h tk ⟨hsi, hle, hSt, m1, m2, m3, m4, m5, m6, m8, tp, m7⟩ hk hV
        walk_at "zev"
        have hsn : src < n := by rcases hsi with q | q; exact q; omega
        have hstep : bfs res n src (k + 1) = (List.range n).foldl (augV (res.getD u.toNat []) src u) (bfs res n src k) := by
          rw [bfs, if_pos hk1, ← hud]; rfl
        have hInv := inv_bfs res n src hs0 hsn (k + 1)
        have hkn' : k ≤ n := by
          have := bfs_len res n src hs0 hsn k
          omega
        have hmono : k + 1 ≤ (bfs res n src (k + 1)).2.length := by
          have h1 := bfs_grow res n src k
          omega
        exact hKW _ _ ⟨n + 2 - (k + 1), h, _, by walk_at "om", rfl, k + 1, _, rfl, by walk_at "om", .inl hsn, hmono, hle, hV, by rw [hstep]; exact hSt, m1, m2, m3, m4, m5, m6, tp, m7⟩
    · have hk2 : k = (bfs res n src k).2.length := by
        have := hDi.length
        have : ¬ (k : Int) < its.toList.length := by simpa using hb
        omega
      have hsn : src < n := by
        rcases hsk with q | q
        · exact q
        · rw [q] at hk2; simp [bfs] at hk2
      have hInv := inv_bfs res n src hs0 hsn k
      have hfin : bfs res n src (n + 1) = bfs res n src k := by
        have := bfs_stop res n src k (by walk_at "om") (n + 1 - k)
        rw [show k + (n + 1 - k) = n + 1 by walk_at "om"] at this
        exact this
      walk_at "zev"
      refine ev_fn C hle 2 (by decide) (by rfl) fun fp hfp => ?_
      refine callWith_fn hfp ?_
      walk_at "zev"
      refine ⟨hle, ?_⟩
      obtain ⟨ml, hml, hmx⟩ := hV.loc
      refine path_to_spec (ops := (bfs res n src k).1) (by show A.depth + 1 < recursionLimit; exact hroom) hh (C.le hle) (below_deeper K hle hml offG) (hfp.le hle) ⟨P, pv, rfl, hpl, hpo⟩ (by rw [hInv.len]; omega) ht0 (by walk_at "om") ?_ ?_ ?_
      · intro _ hsome i hi hne
        have htn : tgt < n := by
          by_cases q : tgt < n
          · exact q
          · exact absurd (by rw [List.getD_eq_getElem?_getD, List.getElem?_eq_none (by rw [hInv.len]; omega)]; rfl) hsome
        obtain ⟨g1, g2, g3⟩ := chain_ok hInv ht0 htn hsome i hne
        exact ⟨g1, by rw [hInv.len]; exact g2, g3.resolve_left hne⟩
      · intro hcase v' h' tk' hle' hints
        have htn : tgt < n := by
          rcases hcase with q | q
          · omega
          · rw [hInv.len] at q; exact q
        refine hQ hsn htn v' h' _ (hle.trans hle') ?_
        rw [wayF, hfin]; exact hints
      · intro hcase e h' tk' hfl hup
        have htn : tgt = n := by have := hcase.2; rw [hInv.len] at this; omega
        refine leave_more (below_deeper K hle hml offG).stack rfl hfl fun h'' q1 q2 => ?_
        exact hE (.inr htn) e h'' _ q1 (((upTo_le hle).trans hup).trans q2)
end

-- 20_room.lean
-- needs: 01 02 03 04 05 06 08 09 10 11 12 13 14 15 16
def roomF (n : Nat) (es : List Edge) : List (List Int) := (List.range n).map fun u : Nat => (List.range n).map fun v : Nat => (wOf es u v).sum
section
variable {prog : Program} {w : World} {A : Around} {E : Value → Shared → Prop} {s : Shared} {mg mb : Str → Option Value}
set_option maxHeartbeats 2000000 in
theorem room_spec {Q : Value → Shared → Prop} {f : Addr} {n : Nat} {t1 : Tok} {v : Value} {es : List Edge} (hroom : A.depth < recursionLimit) (hh : A.handled = none) (C : Cx mg mb s.heap)
    (hf : FnIs s.heap f dRoom) (he : ListIs EdgeIs s.heap v es) (hel : es.length < 100) (hn : n < 100)
    (hQ : ∀ v' h' tk, Le s.heap h' → Mat h' v' (roomF n es) → Q v' { s with heap := h', toks := tk }) :
    wpAny (model prog w) A (call (.ref f) [.int n t1, v]) Q E s := by
  obtain ⟨o, pm, code, doc, ho, hd, hc⟩ := hf
  obtain ⟨l, vs, rfl, hl, ha⟩ := he
  refine wpAny_call (call_cells_ret (binds := [(Str.ofString "n", .int n t1), (Str.ofString "edges", .ref l)]) hroom ho hd C.lim hc (by rfl) ?_ (fun h₁ tk F X => ?_) (by rfl) (by rfl) (by rfl))
  · intro x hx
    simp only [List.mem_cons, List.not_mem_nil, or_false] at hx
    rcases hx with rfl | rfl
    · exact .inr ⟨by rfl, by rfl⟩
    · exact .inr ⟨by rfl, by rfl⟩
  have hV := vars_of_fr (name := dRoom.name) (a := f) (cd := code) F X (by
    intro x c e
    have := lookup_all (P := fun p => dRoom.scope.names.lookup p.1 != some .local) (by rfl) e
    simpa using this)
  have hle : Le s.heap h₁ := F.keep
  have offG : s.heap.get? s.heap.objs.size = none := fresh_none _
  refine wpAny_execs_cons (wpAny_Return_some (ev_comp (by rfl) (by rfl) (by rfl) ?_))
  walk_at "zev"
  refine range1 fun r h₂ tk₂ hk₂ hrf hr => ?_
  dsimp only at hk₂ hrf hr
  have hV := hV.le hk₂
  have hle := hle.trans hk₂
  refine comp_rg (k := 1) (n := n) Ints (fun r l => Ints.le r l) (fun u => some ((List.range n).map fun v : Nat => (wOf es u v).sum)) s.heap [] hh hr (by walk_at "om") (by walk_at "om") (by walk_at "om") (by walk_at "om") (by walk_at "om") (by walk_at "om") hV ?_ (fun h l => cvars1 (z := Str.ofString "u") hV ?_ (by intros; rfl) (by intros; rfl) (by rfl) (by rfl) (by rfl) (by rfl) l) (fun _ => sto_c (by rfl)) (.inr ⟨rfl, fun _ => by rfl⟩) hle (by simp) ?_ ?_
  · intro p hp
    simp only [List.mem_cons, List.not_mem_nil, or_false] at hp
    rcases hp with rfl | rfl <;> rfl
  · intro p hp
    simp only [List.mem_cons, List.not_mem_nil, or_false] at hp
    rcases hp with rfl | rfl <;> rfl
  · intro i t g h₃ tk₃ hi hg₁ hg₂ hex hV
    rw [Int.zero_add] at hV
    have hle : Le s.heap h₃ := hg₁.trans hg₂
    refine tests_nil ⟨_, _, rfl, Le.rfl, rfl, fun _ => ?_⟩
    refine ev_comp (by rfl) (by rfl) (by rfl) ?_
    walk_at "zev"
    refine range1 fun r' h₄ tk₄ hk₄ hrf' hr' => ?_
    dsimp only at hk₄ hrf' hr'
    have hV := hV.le hk₄
    have hle := hle.trans hk₄
    refine comp_rg (k := 1) (n := n) IntIs (fun r l => IntIs.le r l) (fun v => some (wOf es i v).sum) s.heap [] hh hr' (by walk_at "om") (by walk_at "om") (by walk_at "om") (by walk_at "om") (by walk_at "om") (by walk_at "om") hV ?_ (fun h l => cvars1 (z := Str.ofString "v") hV ?_ (by intros; rfl) (by intros; rfl) (by rfl) (by rfl) (by rfl) (by rfl) l) (fun _ => sto_c (by rfl)) (.inr ⟨rfl, fun _ => by rfl⟩) hle (by simp) ?_ ?_
    · intro p hp
      simp only [List.mem_cons, List.not_mem_nil, or_false] at hp
      rcases hp with rfl | rfl <;> rfl
    · intro p hp
      simp only [List.mem_cons, List.not_mem_nil, or_false] at hp
      rcases hp with rfl | rfl <;> rfl
    · intro j t' g' h₅ tk₅ hj hg₁' hg₂' hex' hV
      rw [Int.zero_add] at hV
      have hle : Le s.heap h₅ := hg₁'.trans hg₂'
      refine tests_nil ⟨_, _, rfl, Le.rfl, rfl, fun _ => ?_⟩
      walk_at "zev"
      refine ev_comp (by rfl) (by rfl) (by rfl) ?_
      walk_at "zev"
      refine comp_ls (k := 0) IntIs IntIs.le (fun k => fW i j (es.getD k (0, 0, 0))) s.heap [] hh (isList_le hl hle) (by rw [ha.length]; omega) hV ?_ (fun h l => cvars0 hV ?_ (by rfl) (by rfl) (by rfl) l) (fun _ => sto_l) (.inl rfl) hle (by simp) ?_ ?_
      · intro p hp
        simp only [List.mem_cons, List.not_mem_nil, or_false] at hp
        rcases hp with rfl | rfl <;> rfl
      · intro p hp
        simp only [List.mem_cons, List.not_mem_nil, or_false] at hp
        rcases hp with rfl | rfl <;> rfl
      · intro k v g h₃ tk₃ hv hg₁ hg₂ hex hV
        have hle : Le s.heap h₃ := hg₁.trans hg₂
        obtain ⟨e, he, ae, u1, u2, u3, rfl, htu⟩ := ha.get hv
        have htu := htu.keeps hle
        refine tests_one ?_
        walk_at "zev"
        have hget : es.getD k (0, 0, 0) = e := by rw [List.getD_eq_getElem?_getD, he]; rfl
        refine if_by (fun hb => ?_) fun hb => ?_
        · walk_at "zev"
          have hb1 : e.1 = i := by simpa using hb
          refine if_by (fun hb' => ?_) fun hb' => ?_
          · walk_at "zev"
            have hb2 : e.2.1 = j := by simpa using hb'
            refine ⟨_, _, rfl, Le.rfl, by rw [hget, fW, if_pos ⟨hb1, hb2⟩]; rfl, fun _ => ?_⟩
            walk_at "zev"
            exact ⟨_, _, _, rfl, Le.rfl, by rw [hget, fW]; exact if_pos ⟨hb1, hb2⟩, _, rfl⟩
          · have hb2 : ¬ e.2.1 = j := by simpa using hb'
            exact ⟨_, _, rfl, Le.rfl, by rw [hget, fW, if_neg (fun q => hb2 q.2)]; rfl, fun q => by cases q⟩
        · have hb1 : ¬ e.1 = i := by simpa using hb
          exact ⟨_, _, rfl, Le.rfl, by rw [hget, fW, if_neg (fun q => hb1 q.1)]; rfl, fun q => by cases q⟩
      · intro ys g'' h₆ tk₆ m' hg₁ hg₂ hoff hys hD hle₆ hnC
        refine comp_value hoff hg₂ hD hle₆ hnC fun h₇ hD hle₇ hgle hnew => ?_
        dsimp only at hD hle₇ hgle hnew ⊢
        walk_at "zev"
        rw [ha.length, filterMap_range] at hys
        refine sum_of hh hD.isList (intsAre_all2.mpr hys) fun t₈ h₈ tk₈ hk₈ => ?_
        exact ⟨_, _, _, rfl, hle₇.trans hk₈, rfl, _, rfl⟩
    · intro ys' g' h₅ tk₅ m' hg₁' hg₂' hoff' hys' hD' hle' hnC'
      refine comp_value hoff' hg₂' hD' hle' hnC' fun h₆ hD hle₆ hgle hnew => ?_
      dsimp only at hD hle₆ hgle hnew ⊢
      refine ⟨h₆, _, _, rfl, hk₄.trans hle₆, rfl, ?_⟩
      rw [List.filterMap_eq_map'] at hys'
      refine ⟨_, _, rfl, isList_hide hD.isList fun q => ?_, hys'.mono fun _ _ r => r⟩
      obtain ⟨o', ho'⟩ := hex _ q
      have := hk₄ _ _ ho'
      rw [hnew] at this; cases this
  · intro ys g h₃ tk₃ m' hg₁ hg₂ hoff hys hD hle₃ hnC
    refine comp_value hoff hg₂ hD hle₃ hnC fun h₆ hD hle₆ hgle hnew => ?_
    dsimp only at hD hle₆ hgle hnew ⊢
    rw [List.filterMap_eq_map'] at hys
    exact hQ _ h₆ _ (hg₁.trans hgle) ⟨_, _, rfl, hD.isList, hys.mono fun _ _ r => Ints.le r hgle⟩
end

-- 21_comp2c.lean
-- needs: 01 02 03 04 05 06 08 09 10 11 12 13 14 15 16
theorem compTurn_2a (elt t0 i0 t1 i1 : Expr) (scope : Scope) (pos : Pos) (it acc : Value) (env : Env) :
    compTurn (.ListComp elt [⟨t0, i0, [], 0⟩, ⟨t1, i1, [], 0⟩] scope pos) 0 it acc env = (standAt i0.pos >>= fun _ => pyNext it >>= fun r => match r with
      | none => pure (.done .next)
      | some v => letOwnedTupleGo t0 it v >>= fun _ => assign t0 env v >>= fun _ =>
        eval i1 env >>= fun x => standAt i1.pos >>= fun _ => foldedSetIterable i1 env x >>= fun x => holding [x] (pyIter x) >>= fun it1 => runOwn (.compStart (.ListComp elt [⟨t0, i0, [], 0⟩, ⟨t1, i1, [], 0⟩] scope pos) 1 it1 acc env) env >>= fun _ =>
          again (.compLoop (.ListComp elt [⟨t0, i0, [], 0⟩, ⟨t1, i1, [], 0⟩] scope pos) 0 it acc env)) := by rfl
theorem compTurn_2b (elt t0 i0 t1 i1 : Expr) (scope : Scope) (pos : Pos) (it acc : Value) (env : Env) :
    compTurn (.ListComp elt [⟨t0, i0, [], 0⟩, ⟨t1, i1, [], 0⟩] scope pos) 1 it acc env = (standAt i1.pos >>= fun _ => pyNext it >>= fun r => match r with
      | none => pure (.done .next)
      | some v => letOwnedTupleGo t1 it v >>= fun _ => assign t1 env v >>= fun _ =>
        (eval elt env >>= fun x => call (.builtin "list.append") [acc, x] >>= fun _ => pure ()) >>= fun _ =>
          again (.compLoop (.ListComp elt [⟨t0, i0, [], 0⟩, ⟨t1, i1, [], 0⟩] scope pos) 1 it acc env)) := by rfl
section
variable {prog : Program} {w : World} {A : Around} {E : Value → Shared → Prop} {R : Result → Shared → Prop} {s : Shared}
theorem codeAny_compStart_2b {elt t0 i0 t1 i1 : Expr} {scope : Scope} {pos : Pos} {it acc : Value} {env : Env}
    (h0 : codeAny (model prog w) A (.compLoop (.ListComp elt [⟨t0, i0, [], 0⟩, ⟨t1, i1, [], 0⟩] scope pos) 1 it acc env) R s)
    (h : wpAny (model prog w) A (pyIter it) (fun it' s' => codeAny (model prog w) A (.compLoop (.ListComp elt [⟨t0, i0, [], 0⟩, ⟨t1, i1, [], 0⟩] scope pos) 1 it' acc env) R s')
      (notedBy (model prog w) A env fun x s' => R (.error x) s') s) :
    codeAny (model prog w) A (.compStart (.ListComp elt [⟨t0, i0, [], 0⟩, ⟨t1, i1, [], 0⟩] scope pos) 1 it acc env) R s := by
  refine codeAny_of_tree ?_
  show wpAny _ _ ((compStart (.ListComp elt [⟨t0, i0, [], 0⟩, ⟨t1, i1, [], 0⟩] scope pos) 1 it acc env).onRaise (fun x => do noteFrame x env; standAt theWindowsPlace)) _ _ s
  refine wpAny_notedAt ?_
  unfold compStart
  show wpAny _ _ (ask >>= _) _ _ s
  refine wpAny_bind (wpAny_askSetting (wpAny_ite ?_))
  split
  · first
      | exact wpAny_bind (wpAny_pure (wpAny_pure (And.intro rfl h0)))
      | exact wpAny_pure (And.intro rfl h0)
  · first
      | exact wpAny_bind (wpAny_rule (wpAny_bind (wpAny_standAt (wpAny_bind (wpAny_mono h (fun it' s' h' => wpAny_pure (And.intro rfl h')) fun _ _ x => x)))))
      | (refine wpAny_bind (wpAny_rule ?_); show wpAny _ _ (standAt i1.pos >>= _) _ _ s; exact wpAny_bind (wpAny_standAt (wpAny_bind (wpAny_mono h (fun it' s' h' => wpAny_pure (And.intro rfl h')) fun _ _ x => x))))
theorem codeAny_compLoop_2b {elt t0 i0 t1 i1 : Expr} {scope : Scope} {pos : Pos} {it acc : Value} {env : Env} (I : Nat → Shared → Prop)
    (turn : ∀ n s, I n s → wpAny (model prog w) A (pyNext it) (fun r s₁ => match r with
      | none => R (.ok .next) s₁
      | some v => wpAny (model prog w) A (assign t1 env v) (fun _ s₂ => wpAny (model prog w) A (eval elt env) (fun x s₃ =>
          wpAny (model prog w) A (call (.builtin "list.append") [acc, x]) (fun _ s₄ => ∃ m, m < n ∧ I m s₄) (fun _ _ => False) s₃)
          (fun _ _ => False) s₂) (fun _ _ => False) s₁) (fun _ _ => False) s)
    (n : Nat) (h : I n s) (ht : ∀ v, letOwnedTupleGo t1 it v = pure () := by intro _; rfl) :
    codeAny (model prog w) A (.compLoop (.ListComp elt [⟨t0, i0, [], 0⟩, ⟨t1, i1, [], 0⟩] scope pos) 1 it acc env) R s := by
  refine codeAny_loop rfl I (fun n s hI => ?_) n h
  show wpAny _ _ ((compTurn (.ListComp elt [⟨t0, i0, [], 0⟩, ⟨t1, i1, [], 0⟩] scope pos) 1 it acc env).onRaise (fun x => do noteFrame x env; theTreesLotGoes x)) _ _ s
  refine wpAny_noted ?_
  rw [compTurn_2b]
  refine wpAny_bind (wpAny_standAt (wpAny_bind (wpAny_mono (turn n s hI) (fun r s₁ h₁ => ?_) fun _ _ h' => h'.elim)))
  cases r with
  | none => exact wpAny_pure h₁
  | some v =>
    refine wpAny_bind (wpAny_of_eq (ht v) ?_)
    exact wpAny_bind (wpAny_mono h₁ (fun _ s₂ h₂ => wpAny_bind (wpAny_bind (wpAny_mono h₂ (fun x s₃ h₃ => wpAny_bind (wpAny_mono h₃
      (fun _ s₄ h₄ => wpAny_pure (wpAny_pure ⟨rfl, h₄⟩)) fun _ _ h' => h'.elim)) fun _ _ h' => h'.elim))) fun _ _ h' => h'.elim)
theorem codeAny_compLoop_2a {elt t0 i0 t1 i1 : Expr} {scope : Scope} {pos : Pos} {it acc : Value} {env : Env} (I : Nat → Shared → Prop)
    (turn : ∀ n s, I n s → wpAny (model prog w) A (pyNext it) (fun r s₁ => match r with
      | none => R (.ok .next) s₁
      | some v => wpAny (model prog w) A (assign t0 env v) (fun _ s₂ => wpAny (model prog w) A (eval i1 env) (fun x s₃ => wpAny (model prog w) A (pyIter x) (fun it1 s₄ =>
          codeAny (model prog w) A (.compStart (.ListComp elt [⟨t0, i0, [], 0⟩, ⟨t1, i1, [], 0⟩] scope pos) 1 it1 acc env) (fun r s₅ => match r with | .ok _ => ∃ m, m < n ∧ I m s₅ | .error _ => False) s₄) (fun _ _ => False) s₃)
          (fun _ _ => False) s₂) (fun _ _ => False) s₁) (fun _ _ => False) s)
    (n : Nat) (h : I n s) (hs : ∀ x, foldedSetIterable i1 env x = pure x) (ht : ∀ v, letOwnedTupleGo t0 it v = pure () := by intro _; rfl) :
    codeAny (model prog w) A (.compLoop (.ListComp elt [⟨t0, i0, [], 0⟩, ⟨t1, i1, [], 0⟩] scope pos) 0 it acc env) R s := by
  refine codeAny_loop rfl I (fun n s hI => ?_) n h
  show wpAny _ _ ((compTurn (.ListComp elt [⟨t0, i0, [], 0⟩, ⟨t1, i1, [], 0⟩] scope pos) 0 it acc env).onRaise (fun x => do noteFrame x env; theTreesLotGoes x)) _ _ s
  refine wpAny_noted ?_
  rw [compTurn_2a]
  refine wpAny_bind (wpAny_standAt (wpAny_bind (wpAny_mono (turn n s hI) (fun r s₁ h₁ => ?_) fun _ _ h' => h'.elim)))
  cases r with
  | none => exact wpAny_pure h₁
  | some v =>
    refine wpAny_bind (wpAny_of_eq (ht v) ?_)
    refine wpAny_bind (wpAny_mono h₁ (fun _ s₂ h₂ => wpAny_bind (wpAny_mono h₂ (fun x s₃ h₃ => ?_) fun _ _ h' => h'.elim)) fun _ _ h' => h'.elim)
    refine wpAny_bind (wpAny_standAt (wpAny_bind (wpAny_of_eq (hs x) (wpAny_bind (wpAny_holding (wpAny_mono h₃ (fun it1 s₄ h₄ => ?_) fun _ _ h' => h'.elim))))))
    refine wpAny_bind (wpAny_runOwn (codeAny_mono h₄ fun r s₅ h₅ => ?_))
    cases r with
    | ok f => exact wpAny_pure ⟨rfl, h₅⟩
    | error e => exact h₅.elim
end

-- 22_dict.lean
-- needs: 01 02 03 04 05 10 11 14
-- more: KE.KDictOf
theorem entry_update_loop : entryFor table "dict.update.loop" = some Builtin.«dict.update.loop» := entryFor_of_fast (by kernel_rfl)
theorem plain_update_loop : plainId "dict.update.loop" = true := by decide +kernel
theorem list_keys_none : typeLookup (.type "list") "keys" = pure none := by rw [typeLookup_type, builtinLookup_eq_fast]; kernel_rfl
section
variable {prog : Program} {w : World} {A : Around} {E : Value → Shared → Prop} {s : Shared}
theorem keys_miss {a : Addr} {its : Array Value} {Q : Option Value → Shared → Prop} (hl : PlainL s.heap a its) (hA : A.handled = none) (h : ∀ h' tk, Le s.heap h' → Q none { s with heap := h', toks := tk }) :
    wpAny (model prog w) A (getAttr? (.ref a) "keys") Q E s := by
  obtain ⟨o, k, hx, hc, hd, hdat⟩ := hl
  obtain ⟨c, dct, dat, sl⟩ := o
  simp only at hc hdat hd
  subst hc hdat hd
  obtain ⟨hp, g, d, tk, os⟩ := s
  have hT : ∀ tk', (⟨hp, g, d, tk', os⟩ : Shared).TypeIs (.ref a) "list" := fun _ => ⟨_, hx, rfl⟩
  have f1 := sub_AttributeError
  have f3 := F.slot_list_getattribute.lookup
  have f4 := F.slot_list_getattribute.bind (.ref a)
  have f5 := am_list_getattr_none
  unfold getAttr? getAttrBy? getAttrBy
  repeat (any_goals (first | assumption | exact hT _ | ((with_reducible show wpAny _ _ (call (Value.builtin "list.__getattribute__") _ _) _ _ _); refine call_meets F.slot_list_getattribute (hT _) am_entry_list_getattribute (F.args_list_getattribute_2 _ _) (meets_getattribute_miss_list a its k sl "keys" _ list_keys_none (by decide) (by size_fits)) ⟨hx, hA, fun h' tk' e hx' => ?_⟩) | wp_step))
  obtain ⟨t', u', he⟩ := hx'.there
  show wpAny _ _ (getattributeRaised _ _ _ _ _ _ _) _ _ _
  unfold getattributeRaised
  repeat (any_goals (first | assumption | wp_step))
  exact h _ _ hx'.keeps
theorem pair_items {a : Addr} {its : Array Value} {Q : List Value → Shared → Prop} (ht : IsTup s.heap a its) (h : Q its.toList s) : wpAny (model prog w) A (Builtin.Dict.pairItems (.ref a)) Q E s := by
  obtain ⟨o, ho, hc, n, hd⟩ := id ht
  unfold Builtin.Dict.pairItems
  refine wpAny_bind (wpAny_typeOf (T := "tuple") ⟨o, ho, hc⟩ ?_)
  rw [if_pos (by decide)]
  refine wpAny_bind ?_
  unfold seqItems?
  refine wpAny_bind (wpAny_load ho ?_)
  rw [hd]
  exact wpAny_pure (wpAny_pure h)
theorem update_loop {I d : Addr} {fp wr : List Addr} {n : Nat} {P : Nat → Value → Prop} {St : Nat → Heap → Prop} {R : Result → Shared → Prop} (W : Walks prog w A.in1 I fp wr n P St) (J : Nat → Heap → Prop)
    (hd : d ∉ fp) (stab : ∀ i h h', J i h → KB wr h h' → J i h')
    (turn : ∀ i v h tk, i < n → P i v → J i h → ∃ a k u, v = .ref a ∧ IsTup h a #[k, u] ∧ wpAny (model prog w) A.in1 (dictSet d k u) (fun _ s' => ∃ h' tk', s' = { s with heap := h', toks := tk' } ∧ KB [d] h h' ∧ J (i + 1) h') (fun _ _ => False) { s with heap := h, toks := tk })
    (done : ∀ h tk, J n h → R (.ok (.ret .none)) { s with heap := h, toks := tk }) :
    ∀ (k i : Nat) (h : Heap) (tk : Nat) (c : Int), n - i = k → i ≤ n → St i h → J i h → codeAny (model prog w) A (.builtin "dict.update.loop" ⟨[.ref d, .ref I, rawInt c, .none], []⟩) R { s with heap := h, toks := tk } := by
  intro k
  induction k with
  | zero =>
    intro i h tk c hk hi hst hJ
    obtain rfl : i = n := by walk_at "om"
    refine codeAny_builtin entry_update_loop ?_
    rw [Around.under_plainId plain_update_loop _]
    show wpAny _ A.in1 (pyNext (.ref I) >>= _) _ _ _
    refine wpAny_bind (W.done _ _ _ hst fun h' tk' hk' => ?_)
    show wpAny _ A.in1 (pure () >>= fun _ => ret Value.none) _ _ _
    exact wpAny_bind (wpAny_pure (wpAny_pure (done h' tk' (stab _ _ _ hJ fun b o hb e => hk' b o hb e))))
  | succ k ih =>
    intro i h tk c hk hi hst hJ
    have hlt : i < n := by walk_at "om"
    refine codeAny_builtin entry_update_loop ?_
    rw [Around.under_plainId plain_update_loop _]
    show wpAny _ A.in1 (pyNext (.ref I) >>= _) _ _ _
    refine wpAny_bind (W.item i _ _ _ hlt hst fun v h' tk' hP hst' hk' => ?_)
    obtain ⟨a, key, u, rfl, htu, hset⟩ := turn i v h' tk' hlt hP (stab _ _ _ hJ fun b o hb e => hk' b o hb e)
    refine wpAny_bind (wpAny_holding (wpAny_bind (wpAny_tryCatch (pair_items htu ?_))))
    refine wpAny_holding (wpAny_mono hset (fun _ s' hs' => ?_) fun _ _ x => x.elim)
    obtain ⟨h'', tk'', rfl, hkb, hJ'⟩ := hs'
    exact wpAny_pure ⟨plainId_quiet plain_update_loop _, ih (i + 1) h'' tk'' (c + 1) (by walk_at "om") hlt (W.frame _ _ _ hst' fun b hb o e => hkb b o (fun q => hd (List.mem_singleton.mp q ▸ hb)) e) hJ'⟩
/-- dict(list of pairs) -/
theorem dict_pairs {l : Addr} {vs : List Value} {Q : Value → Shared → Prop} (hh : A.handled = none) (hl : PlainL s.heap l vs.toArray) (J : Nat → Heap → Prop)
    (h0 : ∀ h', Le s.heap h' → h'.get? s.heap.objs.size = some { cls := .type "dict", data := .dict #[] } → J 0 h')
    (stab : ∀ i h h', J i h → (∀ b o, b ≤ s.heap.objs.size → h.get? b = some o → h'.get? b = some o) → J i h')
    (turn : ∀ (A' : Around) i v h tk, A'.handled = none → A'.units ≤ A.units + 3 → vs[i]? = some v → J i h → Le s.heap h → ∃ a k u, v = .ref a ∧ IsTup h a #[k, u] ∧
      wpAny (model prog w) A' (dictSet s.heap.objs.size k u) (fun _ s' => ∃ h' tk', s' = { s with heap := h', toks := tk' } ∧ KB [s.heap.objs.size] h h' ∧ J (i + 1) h') (fun _ _ => False) { s with heap := h, toks := tk })
    (done : ∀ h tk, J vs.length h → Le s.heap h → Q (.ref s.heap.objs.size) { s with heap := h, toks := tk }) :
    wpAny (model prog w) A (call (.type "dict") [.ref l]) Q E s := by
  refine callType_codes (Q₁ := fun obj s₁ => obj = .ref s.heap.objs.size ∧ s₁ = { s with heap := s.heap.push { cls := .type "dict", data := .dict #[] } }) F.kt_called_dict (F.kt_typeCall_dict_1 _) F.entry_dict_init (kt_code_dict_new _ ⟨rfl, rfl⟩) ?_
  rintro obj s₁ ⟨rfl, rfl⟩
  have hnew : (s.heap.push { cls := .type "dict", data := .dict #[] }).DictOf (intKind prog w) s.heap.objs.size [] := Heap.DictOf.new s.heap
  have hl' : PlainL (s.heap.push { cls := .type "dict", data := .dict #[] }) l vs.toArray := hl.keeps (Le.push _)
  refine ⟨hnew.typeIs, F.args_dict_init_2 _ _, ?_⟩
  unfold Builtin.«dict.__init__»
  refine wpAny_bind ?_
  unfold Builtin.Dict.selfAndRest
  refine wpAny_bind (wpAny_notOrdered_dict hnew.typeIs ?_)
  show wpAny _ _ (pure (s.heap.objs.size, [Value.ref l])) _ _ _
  refine wpAny_pure ?_
  show wpAny _ _ (Builtin.Dict.updateFrom "dict.__init__" s.heap.objs.size (.ref l) [] .none) _ _ _
  unfold Builtin.Dict.updateFrom
  refine wpAny_bind (wpAny_typeOf hl'.isList.typeIs ?_)
  rw [if_pos (by decide)]
  refine wpAny_bind (keys_miss hl' hh fun h₂ tk₂ hk₂ => ?_)
  rw [if_pos (show ((none : Option Value).isNone = true) from rfl)]
  have hl₂ := (hl'.keeps hk₂)
  refine wpAny_bind (wpAny_rule (wpAny_bind (wpAny_pyIter_list hl₂.isList ?_)))
  refine wpAny_pure ⟨plainId_quiet plain_update_loop _, ?_⟩
  have hsz : (s.heap.push { cls := .type "dict", data := .dict #[] }).objs.size = s.heap.objs.size + 1 := Heap.size_push ..
  have hd₂ := hk₂ _ _ (Heap.get?_push_size s.heap (o := { cls := .type "dict", data := .dict #[] }) rfl)
  have hdlt : @LT.lt Nat _ s.heap.objs.size h₂.objs.size := Heap.lt_size hd₂
  have hllt : @LT.lt Nat _ l s.heap.objs.size := hl.lt
  have leI : Le h₂ (h₂.push { cls := .type "list_iterator", data := .fields #[.ref l, .int 0 0] }) := Le.push _
  have le₂ : Le s.heap h₂ := Le.trans (Le.push _) hk₂
  have W := Walks.list (prog := prog) (w := w) (A := A.in1.in1) hh h₂.objs.size l (neN (by walk_at "om")) vs.toArray
  rw [List.size_toArray] at W
  refine update_loop (s := s) (A := A.in1) W (fun i h => J i h ∧ Le s.heap h) ?_ ?_ ?_ ?_ vs.length 0 _ _ 0 rfl (Nat.zero_le _) ⟨⟨_, Heap.get?_push_size _ rfl, rfl, rfl⟩, (hl₂.keeps leI).isList⟩ ⟨h0 _ (le₂.trans leI) (leI _ _ hd₂), le₂.trans leI⟩
  · simp only [List.mem_cons, List.not_mem_nil, or_false]
    rintro (q | q)
    · exact neN (Nat.ne_of_lt hdlt) q
    · exact neN (Nat.ne_of_gt hllt) q
  · rintro i h h' ⟨h1, h2⟩ k
    have hI : ∀ b : Nat, b ≤ s.heap.objs.size → b ∉ [h₂.objs.size] := fun b hb q => by
      have e : b = h₂.objs.size := List.mem_singleton.mp q
      omega
    exact ⟨stab i h h' h1 fun b o hb e => k b o (hI b hb) e, fun b o e => k b o (hI b (Nat.le_of_lt (Heap.lt_size e))) (h2 b o e)⟩
  · rintro i v h tk hi hP ⟨h1, h2⟩
    obtain ⟨a, k, u, e1, e2, e3⟩ := turn A.in1.in1 i v h tk hh (Nat.le_succ _) (by simpa using hP) h1 h2
    refine ⟨a, k, u, e1, e2, wpAny_mono e3 (fun _ s' hs' => ?_) fun _ _ x => x⟩
    obtain ⟨h', tk', e4, hkb, hJ⟩ := hs'
    exact ⟨h', tk', e4, hkb, hJ, fun b o e => hkb b o (fun q => Nat.lt_irrefl _ (List.mem_singleton.mp q ▸ Heap.lt_size e)) (h2 b o e)⟩
  · rintro h tk ⟨h1, h2⟩
    exact ⟨rfl, done h tk h1 h2⟩
end

-- 23_sort.lean
-- needs: 01 02 03 04 05 10 11 14
-- more: KE.KSortTup
section
variable {prog : Program} {w : World} {A : Around} {E : Value → Shared → Prop} {s : Shared}
def lt2 (x y : Int × Int) : Bool := decide (x.1 < y.1) || (x.1 == y.1 && decide (x.2 < y.2))
theorem tuple_lt_tree {a b : Addr} {x y : Int × Int} {t1 t2 u1 u2 : Tok} {PP : Fin → Shared → Prop} (hx : IsTup s.heap a #[.int x.1 t1, .int x.2 t2]) (hy : IsTup s.heap b #[.int y.1 u1, .int y.2 u2]) (h : PP (.done (.ret (.bool (lt2 x y)))) s) :
    wpAny (model prog w) A (Builtin.«tuple.__lt__» ⟨[.ref a, .ref b], []⟩) PP E s := by
  have hTb : s.TypeIs (.ref b) "tuple" := hy.typeIs
  obtain ⟨oa, hoa, _, na, hda⟩ := hx
  obtain ⟨ob, hob, _, nb, hdb⟩ := hy
  show wpAny _ _ (isInstance (.ref b) (.type "tuple") >>= _) _ _ s
  refine wpAny_bind (wpAny_isInstance hTb isSubtype_tuple_tuple ?_)
  simp only [Bool.not_true, Bool.false_eq_true, if_false]
  refine wpAny_bind (wpAny_tupleItemsOf hoa hda ?_)
  refine wpAny_bind (wpAny_tupleItemsOf hob hdb ?_)
  refine wpAny_bind ?_
  simp only [List.zip_cons_cons, List.zip_nil_right, List.forIn_cons, List.forIn_nil]
  refine wpAny_bind (wpAny_bind (wpAny_eqBool_int ?_))
  have last : ∀ (z1 z2 : Int) (v1 v2 : Tok) (Q' : Value → Shared → Prop), Q' (.bool (decide (z1 < z2))) s → wpAny (model prog w) A (richCompare .Lt (.int z1 v1) (.int z2 v2)) Q' E s := fun z1 z2 v1 v2 Q' hq => P.lt_int hq
  by_cases h1 : x.1 = y.1
  · rw [if_neg (by simp [h1])]
    refine wpAny_pure (wpAny_bind (wpAny_bind (wpAny_eqBool_int ?_)))
    by_cases h2 : x.2 = y.2
    · rw [if_neg (by simp [h2])]
      refine wpAny_pure (wpAny_pure (wpAny_pure ?_))
      have e : lt2 x y = false := by simp [lt2, h1, h2]
      rw [e] at h
      exact h
    · rw [if_pos (by simp [h2])]
      refine wpAny_bind (wpAny_rule (wpAny_bind (last _ _ _ _ _ ?_)))
      refine wpAny_bind (wpAny_pure (wpAny_pure (wpAny_pure (wpAny_pure ?_))))
      have e : lt2 x y = decide (x.2 < y.2) := by simp [lt2, h1]
      rw [e] at h
      exact h
  · rw [if_pos (by simp [h1])]
    refine wpAny_bind (wpAny_rule (wpAny_bind (last _ _ _ _ _ ?_)))
    refine wpAny_bind (wpAny_pure (wpAny_pure (wpAny_pure (wpAny_pure ?_))))
    have e : lt2 x y = decide (x.1 < y.1) := by simp [lt2, h1]
    rw [e] at h
    exact h
theorem lt_pair {a b : Addr} {x y : Int × Int} {t1 t2 u1 u2 : Tok} {Q : Value → Shared → Prop} (hu : A.units < cLine) (hx : IsTup s.heap a #[.int x.1 t1, .int x.2 t2]) (hy : IsTup s.heap b #[.int y.1 u1, .int y.2 u2]) (h : Q (.bool (lt2 x y)) s) :
    wpAny (model prog w) A (compareOp .Lt (.ref a) (.ref b)) Q E s :=
  wpAny_richCompare_same_room (op := .Lt) hx.typeIs hy.typeIs F.slot_tuple_lt (wpAny_call_entry F.slot_tuple_lt hx.typeIs F.entry_tuple_lt (tuple_lt_tree hx hy ⟨_, rfl, (fun e => nomatch e), h⟩) (F.args_tuple_lt_2 _ _)) hu
end
/-- a pair ((a, b), x) -/
abbrev PK := (Int × Int) × Int
def PairIs (h : Heap) (v : Value) (p : PK) : Prop := ∃ t k tx ta tb, v = .ref t ∧ IsTup h t #[.ref k, .int p.2 tx] ∧ IsTup h k #[.int p.1.1 ta, .int p.1.2 tb]
theorem PairIs.le {h h' : Heap} {v : Value} {p : PK} (x : PairIs h v p) (l : Le h h') : PairIs h' v p :=
  let ⟨t, k, tx, ta, tb, e, h1, h2⟩ := x; ⟨t, k, tx, ta, tb, e, h1.keeps l, h2.keeps l⟩
def ltP (p q : PK) : Bool := if p.1 = q.1 then decide (p.2 < q.2) else lt2 p.1 q.1
/-- a sort asked by an order runs so -/
def evalO {α : Type} (n : Nat) (lt : Nat → Nat → Bool) : PySem.W.KasT α → Option α
  | .ret a => some a
  | .ask i j k => if Nat.blt i n && Nat.blt j n then evalO n lt (k (lt i j)) else none
theorem evalO_wp {α : Type} {n : Nat} {lt : Nat → Nat → Bool} {cmp : Nat → Nat → (Bool → Shared → Prop) → Shared → Prop} {s : Shared} (hc : ∀ i j C, i < n → j < n → C (lt i j) s → cmp i j C s) {Q : α → Shared → Prop} {a : α} :
    ∀ (t : PySem.W.KasT α), evalO n lt t = some a → Q a s → t.kasWp cmp Q s
  | .ret a', e, h => by cases e; exact h
  | .ask i j k, e, h => by
    unfold evalO at e
    split at e
    · rename_i hb
      rw [Bool.and_eq_true] at hb
      exact hc i j _ (Nat.le_of_ble_eq_true hb.1) (Nat.le_of_ble_eq_true hb.2) (evalO_wp hc (k (lt i j)) e h)
    · cases e
theorem evalO_congr {α : Type} {n : Nat} {lt lt' : Nat → Nat → Bool} (h : ∀ i j, i < n → j < n → lt i j = lt' i j) : ∀ t : PySem.W.KasT α, evalO n lt t = evalO n lt' t
  | .ret _ => rfl
  | .ask i j k => by
    unfold evalO
    split
    · rename_i hb
      rw [Bool.and_eq_true] at hb
      rw [h i j (Nat.le_of_ble_eq_true hb.1) (Nat.le_of_ble_eq_true hb.2)]
      exact evalO_congr h _
    · rfl
def srt (rk : List Nat) : List Nat → Bool
  | [] => true
  | a :: r => r.all (fun b => Nat.ble (rk.getD a 0) (rk.getD b 0)) && srt rk r
def okR (n : Nat) (rk : List Nat) : Bool := match evalO n (fun i j => Nat.blt (rk.getD i 0) (rk.getD j 0)) (PySem.W.kas_sort n) with
  | some p => p.toList.isPerm (List.range n) && srt rk p.toList
  | none => false
def lists (m : Nat) : Nat → List (List Nat)
  | 0 => [[]]
  | k + 1 => (lists m k).flatMap fun l => (List.range m).map fun x => x :: l
theorem ok2 : (lists 2 2).all (okR 2) = true := by decide +kernel
theorem ok3 : (lists 3 3).all (okR 3) = true := by decide +kernel
theorem ok4 : (lists 4 4).all (okR 4) = true := by decide +kernel
theorem all_lists {m k : Nat} {f : List Nat → Bool} (h : ∀ x, x < m → (lists m k).all (fun l => f (x :: l)) = true) : (lists m (k + 1)).all f = true := by
  rw [List.all_eq_true]
  intro r hr
  unfold lists at hr
  obtain ⟨l, hl, hr⟩ := List.mem_flatMap.mp hr
  obtain ⟨x, hx, rfl⟩ := List.mem_map.mp hr
  exact List.all_eq_true.mp (h x (List.mem_range.mp hx)) l hl
theorem ok5 : (lists 5 5).all (okR 5) = true := all_lists fun x hx => by
  rcases (show x = 0 ∨ x = 1 ∨ x = 2 ∨ x = 3 ∨ x = 4 by omega) with rfl | rfl | rfl | rfl | rfl
  · decide +kernel
  · decide +kernel
  · decide +kernel
  · decide +kernel
  · decide +kernel
theorem mem_lists {m : Nat} : ∀ {k : Nat} {l : List Nat}, l.length = k → (∀ x ∈ l, x < m) → l ∈ lists m k
  | 0, [], _, _ => List.mem_singleton_self _
  | k + 1, x :: l, h, hx => by
    unfold lists
    refine List.mem_flatMap.mpr ⟨l, mem_lists (by simpa using h) fun y hy => hx y (List.mem_cons_of_mem _ hy), List.mem_map.mpr ⟨x, List.mem_range.mpr (hx x (List.mem_cons_self ..)), rfl⟩⟩
theorem ok_all {n : Nat} (h2 : 2 ≤ n) (h5 : n ≤ 5) {rk : List Nat} (hl : rk.length = n) (hb : ∀ x ∈ rk, x < n) : okR n rk = true := by
  have hm := mem_lists hl hb
  rcases (show n = 2 ∨ n = 3 ∨ n = 4 ∨ n = 5 by walk_at "om") with rfl | rfl | rfl | rfl
  · exact List.all_eq_true.mp ok2 _ hm
  · exact List.all_eq_true.mp ok3 _ hm
  · exact List.all_eq_true.mp ok4 _ hm
  · exact List.all_eq_true.mp ok5 _ hm
section
variable {prog : Program} {w : World} {A : Around} {E : Value → Shared → Prop} {s : Shared}
theorem intPair_key {h : Heap} {a : Addr} {x y : Int} {t u : Tok} (hx : IsTup h a #[.int x t, .int y u]) : IsTupleKey (intKind prog w) h [x, y] a := by
  obtain ⟨o, ho, hc, n, hd⟩ := hx
  exact ⟨o, _, n, ho, hc, hd, .cons (by simp [intKind, Value.isInt]) (.cons (by simp [intKind, Value.isInt]) .nil)⟩
theorem ask_pair {vs : List Value} {ps : List PK} {i j : Nat} {C : Bool → Shared → Prop} (hu : A.units < cLine) (hv : All2 (PairIs s.heap) vs ps) (hi : i < ps.length) (hj : j < ps.length)
    (h : C (ltP (ps.getD i ((0, 0), 0)) (ps.getD j ((0, 0), 0))) s) : PySem.W.kas_ask prog w A (tuples' false) vs i j C s := by
  have hi' : i < vs.length := by rw [hv.length]; exact hi
  have hj' : j < vs.length := by rw [hv.length]; exact hj
  obtain ⟨p, ep, t, k, tx, ta, tb, e1, h1, h2⟩ := hv.get (List.getElem?_eq_getElem hi')
  obtain ⟨q, eq, t', k', tx', ta', tb', e1', h1', h2'⟩ := hv.get (List.getElem?_eq_getElem hj')
  have gp : ps.getD i ((0, 0), 0) = p := by rw [List.getD_eq_getElem?_getD, ep]; rfl
  have gq : ps.getD j ((0, 0), 0) = q := by rw [List.getD_eq_getElem?_getD, eq]; rfl
  have vi : vs.getD i Value.none = .ref t := by rw [List.getD_eq_getElem?_getD, List.getElem?_eq_getElem hi']; exact e1
  have vj : vs.getD j Value.none = .ref t' := by rw [List.getD_eq_getElem?_getD, List.getElem?_eq_getElem hj']; exact e1'
  rw [gp, gq] at h
  show wpAny (model prog w) A (keyLt' (tuples' false) (vs.getD i Value.none) (vs.getD j Value.none)) C (fun _ _ => False) s
  rw [vi, vj]
  obtain ⟨o1, ho1, _, n1, hd1⟩ := id h1
  obtain ⟨o2, ho2, _, n2, hd2⟩ := id h1'
  refine PySem.W.kat_lt ho1 hd1 ho2 hd2 ?_
  refine PySem.W.kat_cons (wpAny_eqBool_tuple (knd := intKind prog w) hu (intPair_key h2) (intPair_key h2') ?_)
  by_cases hk : p.1 = q.1
  · have e : decide ([p.1.1, p.1.2] = [q.1.1, q.1.2]) = true := by rw [hk]; simp
    rw [e]
    refine PySem.W.kat_yes (PySem.W.kat_cons (wpAny_eqBool_int ?_))
    have el : ltP p q = decide (p.2 < q.2) := by rw [ltP, if_pos hk]
    rw [el] at h
    by_cases hx : p.2 = q.2
    · have e2 : (p.2 == q.2) = true := by simp [hx]
      rw [e2]
      refine PySem.W.kat_yes (PySem.W.kat_nil ?_)
      have e3 : decide (p.2 < q.2) = false := by simp [hx]
      rw [e3] at h
      exact h
    · have e2 : (p.2 == q.2) = false := by simp [hx]
      rw [e2]
      refine PySem.W.kat_no (PySem.W.kat_one _ _ (P.lt_int h))
  · have e : decide ([p.1.1, p.1.2] = [q.1.1, q.1.2]) = false := by
      rw [decide_eq_false_iff_not]
      intro q'
      simp only [List.cons.injEq, and_true] at q'
      exact hk (Prod.ext q'.1 q'.2)
    rw [e]
    refine PySem.W.kat_no (PySem.W.kat_one _ _ (lt_pair hu h2 h2' ?_))
    have el : ltP p q = lt2 p.1 q.1 := by rw [ltP, if_neg hk]
    rw [el] at h
    exact h
end
theorem ltP_iff (p q : PK) : ltP p q = true ↔ p.1.1 < q.1.1 ∨ (p.1.1 = q.1.1 ∧ (p.1.2 < q.1.2 ∨ (p.1.2 = q.1.2 ∧ p.2 < q.2))) := by
  obtain ⟨⟨a, b⟩, c⟩ := p
  obtain ⟨⟨a', b'⟩, c'⟩ := q
  unfold ltP lt2
  simp only [Prod.mk.injEq]
  by_cases h1 : a = a' <;> by_cases h2 : b = b' <;> simp [h1, h2]
  all_goals omega
theorem countP_lt {α : Type} {p q : α → Bool} : ∀ {l : List α} {x : α}, (∀ y ∈ l, p y = true → q y = true) → x ∈ l → q x = true → p x = false → l.countP p < l.countP q
  | y :: l, x, h, hx, hq, hp => by
    have hm : l.countP p ≤ l.countP q := List.countP_mono_left fun z hz => h z (List.mem_cons_of_mem _ hz)
    rw [List.countP_cons, List.countP_cons]
    rcases List.mem_cons.mp hx with e | hx
    · subst e
      rw [hp, hq]
      simp
      omega
    · have ih := countP_lt (fun z hz => h z (List.mem_cons_of_mem _ hz)) hx hq hp
      have := h y (List.mem_cons_self ..)
      cases hpy : p y <;> cases hqy : q y <;> simp_all <;> omega
def rankOf (ps : List PK) (i : Nat) : Nat := (List.range ps.length).countP fun k => ltP (ps.getD k ((0, 0), 0)) (ps.getD i ((0, 0), 0))
theorem rank_lt {ps : List PK} {i j : Nat} (hi : i < ps.length) : ltP (ps.getD i ((0, 0), 0)) (ps.getD j ((0, 0), 0)) = Nat.blt (rankOf ps i) (rankOf ps j) := by
  unfold rankOf
  cases h : ltP (ps.getD i ((0, 0), 0)) (ps.getD j ((0, 0), 0)) with
  | true =>
    symm
    refine Nat.ble_eq_true_of_le (countP_lt (x := i) (fun y _ hy => ?_) (List.mem_range.mpr hi) h ?_)
    · rw [ltP_iff] at *; omega
    · rw [Bool.eq_false_iff, Ne, ltP_iff]; omega
  | false =>
    symm
    rw [Bool.eq_false_iff, Ne]
    intro q
    have q' := Nat.le_of_ble_eq_true q
    have : (List.range ps.length).countP (fun k => ltP (ps.getD k ((0, 0), 0)) (ps.getD j ((0, 0), 0))) ≤ (List.range ps.length).countP (fun k => ltP (ps.getD k ((0, 0), 0)) (ps.getD i ((0, 0), 0))) := by
      refine List.countP_mono_left fun y _ hy => ?_
      rw [Bool.eq_false_iff, Ne, ltP_iff] at h
      rw [ltP_iff] at *
      omega
    omega
theorem rank_bound {ps : List PK} {i : Nat} (hi : i < ps.length) : rankOf ps i < ps.length := by
  have : rankOf ps i < (List.range ps.length).countP (fun _ => true) := countP_lt (x := i) (fun _ _ _ => rfl) (List.mem_range.mpr hi) rfl (by rw [Bool.eq_false_iff, Ne, ltP_iff]; omega)
  simpa using this
theorem srt_pw {rk : List Nat} : ∀ {p : List Nat}, srt rk p = true → p.Pairwise fun a b => rk.getD a 0 ≤ rk.getD b 0
  | [], _ => .nil
  | a :: r, h => by
    unfold srt at h
    rw [Bool.and_eq_true] at h
    exact List.pairwise_cons.mpr ⟨fun b hb => Nat.le_of_ble_eq_true (List.all_eq_true.mp h.1 b hb), srt_pw h.2⟩
/-- what a sort of pairs gives -/
theorem sort_gives {ps : List PK} (h2 : 2 ≤ ps.length) (h5 : ps.length ≤ 5) : ∃ p : Array Nat, evalO ps.length (fun i j => ltP (ps.getD i ((0, 0), 0)) (ps.getD j ((0, 0), 0))) (PySem.W.kas_sort ps.length) = some p ∧
    p.toList.Perm (List.range ps.length) ∧ (p.toList.map fun i => ps.getD i ((0, 0), 0)).Perm ps ∧ (p.toList.map fun i => ps.getD i ((0, 0), 0)).Pairwise fun a b => ltP b a = false := by
  have hok := ok_all h2 h5 (rk := (List.range ps.length).map (rankOf ps)) (by simp) (by
    intro x hx
    obtain ⟨i, hi, rfl⟩ := List.mem_map.mp hx
    exact rank_bound (List.mem_range.mp hi))
  have hget : ∀ i, i < ps.length → ((List.range ps.length).map (rankOf ps)).getD i 0 = rankOf ps i := by
    intro i hi
    simp [List.getD_eq_getElem?_getD, hi]
  have hcongr : evalO ps.length (fun i j => ltP (ps.getD i ((0, 0), 0)) (ps.getD j ((0, 0), 0))) (PySem.W.kas_sort ps.length) = evalO ps.length (fun i j => Nat.blt (((List.range ps.length).map (rankOf ps)).getD i 0) (((List.range ps.length).map (rankOf ps)).getD j 0)) (PySem.W.kas_sort ps.length) :=
    evalO_congr (fun i j hi hj => by rw [rank_lt hi, hget i hi, hget j hj]) _
  unfold okR at hok
  rw [hcongr]
  split at hok
  · rename_i p hp
    rw [Bool.and_eq_true] at hok
    have hperm : p.toList.Perm (List.range ps.length) := List.isPerm_iff.mp hok.1
    refine ⟨p, hp, hperm, ?_, ?_⟩
    · have := hperm.map fun i => ps.getD i ((0, 0), 0)
      rw [range_getD] at this
      exact this
    · rw [List.pairwise_map]
      have hmem : ∀ x ∈ p.toList, x < ps.length := fun x hx => List.mem_range.mp (hperm.mem_iff.mp hx)
      refine List.Pairwise.imp_of_mem (fun {a b} ha hb q => ?_) (srt_pw hok.2)
      rw [hget a (hmem a ha), hget b (hmem b hb)] at q
      rw [rank_lt (hmem b hb), Bool.eq_false_iff, Ne]
      intro q'
      have := Nat.le_of_ble_eq_true q'
      omega
  · cases hok

-- 24_sorted.lean
-- needs: 01 02 03 04 05 10 11 14 22 23
-- more: KE.KSortTup
/-- all that lies in a heap, but for L -/
def allNews (h : Heap) (L : Addr) : List (Addr × Obj) := (List.range h.objs.size).filterMap fun b => if b = L then none else (h.get? b).map fun o => (b, o)
theorem mem_allNews {h : Heap} {L b : Addr} {o : Obj} : (b, o) ∈ allNews h L ↔ h.get? b = some o ∧ b ≠ L := by
  unfold allNews
  rw [List.mem_filterMap]
  constructor
  · rintro ⟨c, _, hc⟩
    split at hc
    · cases hc
    · rename_i hn
      rw [Option.map_eq_some_iff] at hc
      obtain ⟨o', ho', e⟩ := hc
      cases e
      exact ⟨ho', hn⟩
  · rintro ⟨h1, h2⟩
    exact ⟨b, List.mem_range.mpr (Heap.lt_size h1), by rw [if_neg h2, h1]; rfl⟩
def noHeap : Heap := { objs := #[] }
theorem noHeap_get (b : Addr) : noHeap.get? b = none := Heap.get?_none_of_le (Nat.zero_le _)
section
variable {prog : Program} {w : World} {A : Around} {E : Value → Shared → Prop} {s : Shared}
theorem fr_all {h : Heap} {L : Addr} {m : Str → Option Value} (hn : h.Ns L m) : Fr noHeap L h m := ⟨hn, (fun b o e => by rw [noHeap_get] at e; cases e), Nat.zero_le _⟩
theorem news_all {h : Heap} {L : Addr} : News noHeap L h (allNews h L) := fun p hp => ⟨(mem_allNews.mp hp).1, (mem_allNews.mp hp).2, noHeap_get _⟩
theorem kb_all {h h' : Heap} {L : Addr} {r : List (Addr × Obj)} (N : News noHeap L h' (r ++ allNews h L)) : KB [L] h h' := fun b o hb e => (N (b, o) (List.mem_append_right _ (mem_allNews.mpr ⟨e, fun q => hb (q ▸ List.mem_singleton_self _)⟩))).1
theorem sorted_pairs {l L : Addr} {m : Str → Option Value} {vs : List Value} {ps : List PK} {Q : Value → Shared → Prop} (hu : A.units + 5 < cLine) (hn : s.heap.Ns L m) (hl : s.heap.IsList l vs.toArray) (hv : All2 (PairIs s.heap) vs ps) (h5 : ps.length ≤ 5) (h1 : ps.length ≠ 1)
    (h : ∀ D vs' ps' h' tk, KB [L] s.heap h' → h'.Ns L m → s.heap.get? D = none → PlainL h' D vs'.toArray → All2 (PairIs h') vs' ps' → ps'.Perm ps → ps'.Pairwise (fun p q => ltP q p = false) → Q (.ref D) { s with heap := h', toks := tk }) :
    wpAny (model prog w) A (call (.builtin "sorted") [.ref l]) Q E s := by
  have hvl : vs.length = ps.length := hv.length
  have pk : ∀ {h' : Heap} {v : Value} {p : PK}, PairIs s.heap v p → KB [L] s.heap h' → PairIs h' v p := fun {h' v p} hp k => by
    obtain ⟨t, k', tx, ta, tb, e, q1, q2⟩ := hp
    refine ⟨t, k', tx, ta, tb, e, ?_, ?_⟩
    · obtain ⟨o, ho, r⟩ := id q1
      exact ⟨o, k t o (fun q => tup_ne q1 hn (List.mem_singleton.mp q)) ho, r⟩
    · obtain ⟨o, ho, r⟩ := id q2
      exact ⟨o, k k' o (fun q => tup_ne q2 hn (List.mem_singleton.mp q)) ho, r⟩
  by_cases h0 : ps.length = 0
  · have ep : ps = [] := List.eq_nil_of_length_eq_zero h0
    have ev : vs = [] := List.eq_nil_of_length_eq_zero (by walk_at "om")
    subst ep ev
    refine sorted_N (fr_all hn) news_all hl .nil (by simp) fun h' vs' ns' e F' N' hi hp _ => ?_
    have hns : ns' = [] := List.perm_nil.mp hp
    subst hns
    cases hi
    have kb : KB [L] s.heap h' := kb_all (r := [_]) N'
    exact h _ [] [] h' s.toks kb F'.ns (Heap.get?_none_of_le (Nat.le_succ _)) ⟨_, _, (N' _ (List.mem_cons_self ..)).1, rfl, rfl, rfl⟩ trivial (.refl _) .nil
  · refine PySem.W.kat_sorted (fr_all hn) news_all hl (by walk_at "om") (by walk_at "om") fun D e1 h' F' N' hlt => ?_
    have kb : KB [L] s.heap h' := kb_all (r := [_]) N'
    have hv' : All2 (PairIs h') vs ps := hv.mono fun _ _ r => pk r kb
    have hDn : s.heap.get? D = none := by
      cases q : s.heap.get? D with
      | none => rfl
      | some o =>
        by_cases hDL : D = L
        · exact absurd hDL (N' _ (List.mem_cons_self ..)).2.1
        · exact absurd (hlt _ (mem_allNews.mpr ⟨q, hDL⟩)) (Nat.lt_irrefl _)
    have tups : ∀ {vs : List Value} {ps : List PK}, All2 (PairIs h') vs ps → ∃ fs, PySem.W.KatTups h' vs fs ∧ fs.length = ps.length ∧ ∀ v ∈ fs, ∃ k o, v = .ref k ∧ h'.get? k = some o ∧ o.cls = .type "tuple" := by
      intro vs
      induction vs with
      | nil =>
        intro ps hp
        cases ps with
        | nil => exact ⟨[], trivial, rfl, by simp⟩
        | cons => exact hp.elim
      | cons v vs ih =>
        intro ps hp
        cases ps with
        | nil => exact hp.elim
        | cons p ps =>
          obtain ⟨⟨t, k, tx, ta, tb, rfl, ⟨o, ho, hc, n, hd⟩, ⟨o', ho', hc', _⟩⟩, hp⟩ := hp
          obtain ⟨fs, f1, f2, f3⟩ := ih hp
          refine ⟨.ref k :: fs, .cons ho hc hd rfl f1, by simp [f2], ?_⟩
          intro v hv
          rcases List.mem_cons.mp hv with rfl | hv
          · exact ⟨k, o', rfl, ho', hc'⟩
          · exact f3 v hv
    obtain ⟨fs, f1, f2, f3⟩ := tups hv'
    refine PySem.W.kat_kind (T := .type "tuple") (s := { s with heap := h' }) f1 (by walk_at "om") ?_ rfl ?_
    · intro v hvm
      obtain ⟨k, o, rfl, ho, hc⟩ := f3 v hvm
      have := (show PySem.W.Looks (model prog w) h' (typeOf (.ref k)) o.cls from (PySem.W.Looks.ld ho).andThen .now)
      rw [hc] at this
      exact this
    · obtain ⟨p, hp, hperm, hps, hpw⟩ := sort_gives (ps := ps) (by walk_at "om") h5
      rw [hvl]
      refine evalO_wp (n := ps.length) (lt := fun i j => ltP (ps.getD i ((0, 0), 0)) (ps.getD j ((0, 0), 0))) (fun i j C hi hj hC => ?_) _ hp ?_
      · exact ask_pair (A := A.in1.in1) (by show A.units + 1 + 1 < cLine; omega) hv' hi hj hC
      · refine ⟨_, _, F', N', .head (fun q hq => Nat.ne_of_lt (hlt q hq)), fun h'' c F'' N'' => ?_⟩
        have kb2 : KB [L] s.heap h'' := kb_all (r := [_]) N''
        refine h D (p.toList.map fun i => vs.getD i Value.none) (p.toList.map fun i => ps.getD i ((0, 0), 0)) h'' s.toks kb2 F''.ns hDn ⟨_, _, (N'' _ (List.mem_cons_self ..)).1, rfl, rfl, rfl⟩ ?_ hps hpw
        have hmem : ∀ x ∈ p.toList, x < ps.length := fun x hx => List.mem_range.mp (hperm.mem_iff.mp hx)
        have key : ∀ (l : List Nat), (∀ x ∈ l, x < ps.length) → All2 (PairIs h'') (l.map fun i => vs.getD i Value.none) (l.map fun i => ps.getD i ((0, 0), 0)) := by
          intro l
          induction l with
          | nil => intro _; trivial
          | cons x l ih =>
            intro hx
            refine ⟨?_, ih fun y hy => hx y (List.mem_cons_of_mem _ hy)⟩
            have hxl : x < vs.length := by rw [hvl]; exact hx x (List.mem_cons_self ..)
            obtain ⟨q, eq, hpi⟩ := hv.get (List.getElem?_eq_getElem hxl)
            have e1 : vs.getD x Value.none = vs[x] := by rw [List.getD_eq_getElem?_getD, List.getElem?_eq_getElem hxl]; rfl
            have e2 : ps.getD x ((0, 0), 0) = q := by rw [List.getD_eq_getElem?_getD, eq]; rfl
            show PairIs h'' (vs.getD x Value.none) (ps.getD x ((0, 0), 0))
            rw [e1, e2]
            exact pk hpi kb2
        exact key _ hmem
end

-- 25_weight2.lean
-- needs: 01 02 03 04 05 06 08 09 10 11 12 13 14 15 16 17 22 23 24
-- more: KE.KSortTup
section
variable {K : Type} [DecidableEq K]
theorem atKey_cons (x : K × Addr × Value) (xs : List (K × Addr × Value)) (k : K) : atKey (x :: xs) k = if x.1 = k then some x.2 else atKey xs k := by
  unfold atKey
  rw [List.find?_cons]
  by_cases h : x.1 = k <;> simp [h]
theorem atKey_put (xs : List (K × Addr × Value)) (k k' : K) (v : Value) : atKey (xs.map (putAt k v)) k' = if k' = k then (atKey xs k).map (fun p => (p.1, v)) else atKey xs k' := by
  induction xs with
  | nil => simp [atKey]
  | cons x xs ih =>
    rw [List.map_cons, atKey_cons, ih, atKey_cons, atKey_cons]
    unfold putAt
    by_cases h1 : x.1 = k <;> by_cases h2 : k' = k
    · subst h2; simp [h1]
    · have : ¬ k = k' := fun q => h2 q.symm
      simp [h1, h2, this]
    · subst h2; simp [h1]
    · simp [h1, h2]
theorem atKey_snoc (xs : List (K × Addr × Value)) (k k' : K) (a : Addr) (v : Value) : atKey (xs ++ [(k, a, v)]) k' = match atKey xs k' with | some p => some p | none => if k = k' then some (a, v) else none := by
  induction xs with
  | nil => by_cases h : k = k' <;> simp [atKey, h]
  | cons x xs ih =>
    rw [List.cons_append, atKey_cons, ih, atKey_cons]
    by_cases h : x.1 = k' <;> simp [h]
theorem atKey_stored (xs : List (K × Addr × Value)) (k k' : K) (a : Addr) (v : Value) : (k' = k → ∃ ad, atKey (storedH xs k a v) k' = some (ad, v)) ∧ (k' ≠ k → atKey (storedH xs k a v) k' = atKey xs k') := by
  cases h : atKey xs k with
  | none =>
    rw [storedH_new h]
    refine ⟨fun e => ⟨a, ?_⟩, fun e => ?_⟩
    · subst e; rw [atKey_snoc, h]; simp
    · rw [atKey_snoc]
      cases h2 : atKey xs k' with
      | none => simp [Ne.symm e]
      | some p => rfl
  | some p =>
    rw [storedH_old h]
    refine ⟨fun e => ⟨p.1, ?_⟩, fun e => ?_⟩
    · subst e; rw [atKey_put, if_pos rfl, h]; rfl
    · rw [atKey_put, if_neg e]
theorem storedH_len (xs : List (K × Addr × Value)) (k : K) (a : Addr) (v : Value) : (storedH xs k a v).length ≤ xs.length + 1 := by
  unfold storedH; split <;> simp
end
def pkOf (e : Edge) : PK := ((e.1, e.2.1), -e.2.2)
def lookL (ps : List PK) (k : Int × Int) : Option Int := ps.foldl (fun acc p => if p.1 = k then some p.2 else acc) none
def wtF (ps : List PK) : List Int → Int → Option Int
  | a :: b :: r, tot => match lookL ps (a, b) with | none => none | some x => wtF ps (b :: r) (tot - x)
  | _, tot => some tot
/-- the table says what the last pair of a key says -/
def Rep (xs : List (List Int × Addr × Value)) (ps : List PK) : Prop := xs.length ≤ ps.length ∧ ∀ a b, match lookL ps (a, b) with | none => atKey xs [a, b] = none | some x => ∃ ad t, atKey xs [a, b] = some (ad, .int x t)
theorem rep_snoc {xs : List (List Int × Addr × Value)} {ps : List PK} {p : PK} {a : Addr} {t : Tok} (h : Rep xs ps) : Rep (storedH xs [p.1.1, p.1.2] a (.int p.2 t)) (ps ++ [p]) := by
  obtain ⟨h1, h2⟩ := h
  refine ⟨?_, fun x y => ?_⟩
  · have := storedH_len xs [p.1.1, p.1.2] a (.int p.2 t)
    simp; omega
  · have e : lookL (ps ++ [p]) (x, y) = if p.1 = (x, y) then some p.2 else lookL ps (x, y) := by simp [lookL, List.foldl_append]
    obtain ⟨s1, s2⟩ := atKey_stored xs [p.1.1, p.1.2] [x, y] a (.int p.2 t)
    rw [e]
    by_cases hk : p.1 = (x, y)
    · rw [if_pos hk]
      obtain ⟨ad, had⟩ := s1 (by rw [hk])
      exact ⟨ad, t, had⟩
    · rw [if_neg hk, s2 (by intro q; simp only [List.cons.injEq, and_true] at q; exact hk (Prod.ext q.1.symm q.2.symm))]
      exact h2 x y
theorem isTup_hide {h : Heap} {a : Addr} {its : Array Value} {X : List Addr} (x : IsTup h a its) (n : a ∉ X) : IsTup (hide h X) a its := by
  obtain ⟨o, ho, r⟩ := x
  exact ⟨o, by rw [hide_get, if_neg n]; exact ho, r⟩
theorem dictH_at {prog : Program} {w : World} {h h' : Heap} {d : Addr} {xs : List (List Int × Addr × Value)} (x : h.DictOfH (tupleKind (intKind prog w)) d xs) (h1 : ∀ o, h.get? d = some o → h'.get? d = some o) (h2 : ∀ x ∈ xs, ∀ o, h.get? x.2.1 = some o → h'.get? x.2.1 = some o) :
    h'.DictOfH (tupleKind (intKind prog w)) d xs := by
  obtain ⟨o, es, ep, ho, a, b, c, his, n⟩ := x
  exact ⟨o, es, ep, h1 o ho, a, b, c, fun x hx => let ⟨o', its, k, ho', r⟩ := his x hx; ⟨o', its, k, h2 x hx o' ho', r⟩, n⟩
theorem storedH_mem {K : Type} [DecidableEq K] {xs : List (K × Addr × Value)} {k : K} {a : Addr} {v : Value} {x : K × Addr × Value} (h : x ∈ storedH xs k a v) : (∃ y ∈ xs, x.2.1 = y.2.1) ∨ x.2.1 = a := by
  unfold storedH at h
  split at h
  · obtain ⟨y, hy, rfl⟩ := List.mem_map.mp h
    refine .inl ⟨y, hy, ?_⟩
    unfold putAt; split <;> rfl
  · rcases List.mem_append.mp h with h | h
    · exact .inl ⟨x, h, rfl⟩
    · rw [List.mem_singleton.mp h]; exact .inr rfl
theorem notIn_heap {prog : Program} {w : World} {K : Type} [DecidableEq K] {knd : HeapKind prog w K} {A : Around} {E : Value → Shared → Prop} {s : Shared} {d a : Addr} {k : K} {xs : List (K × Addr × Value)} {Q : Value → Shared → Prop} (hu : knd.room A.in1) (hkey : knd.is s.heap k a) (hd : (d == sysModules) = false) (hm : s.heap.DictOfH knd d xs)
    (h : Q (.bool (!(atKey xs k).isSome)) { s with toks := s.toks + knd.draws k }) : wpAny (model prog w) A (compareOp .NotIn (.ref a) (.ref d)) Q E s := by
  show wpAny _ _ (do return .bool (!(← contains (.ref d) (.ref a)))) Q E s
  refine wpAny_bind ?_
  unfold contains
  try with_reducible refine wpAny_holding ?_
  refine wpAny_bind (wpAny_specialOf hm.typeIs slot_dict_contains.lookup ?_)
  show wpAny _ _ (if (some (Value.builtin "dict.__contains__") == some Value.none) = true then _ else _) _ E s
  rw [if_neg (by rw [beq_builtin_none]; exact Bool.false_ne_true)]
  refine wpAny_bind (wpAny_callSpecialUnlessNone?_slot (name := Str.ofString "__contains__") hm.typeIs slot_dict_contains
    (wpAny_call_entry slot_dict_contains hm.typeIs entry_dict_contains ?_ (args_dict_contains _ _)))
  show wpAny _ _ (dictGet d (.ref a) >>= _) _ _ s
  refine wpAny_bind (wpAny_dictGet_heap hu hkey hm ?_)
  cases hf : atKey xs k with
  | some p =>
    rw [hf] at h
    show wpAny _ _ (ret (.bool true)) _ _ _
    exact wpAny_pure ⟨_, rfl, wpAny_truthy_bool (wpAny_pure h)⟩
  | none =>
    rw [hf] at h
    show wpAny _ _ (Builtin.Dict.pendingKey? d (.ref a) >>= _) _ _ _
    exact wpAny_bind (wpAny_pendingKey_other hd (wpAny_pure ⟨_, rfl, wpAny_truthy_bool (wpAny_pure h)⟩))
theorem sys_low {h : Heap} {d : Nat} (hl : h.NoLimit) (hd : h.objs.size ≤ d) : ((d : Addr) == sysModules) = false := by
  obtain ⟨m, hn, _⟩ := hl
  have : @LT.lt Nat _ cStatics h.objs.size := hn.lt
  have e1 : @Eq Nat cStatics 2 := rfl
  have e2 : @Eq Nat sysModules 1 := rfl
  rw [beq_eq_false_iff_ne]
  exact neN (by walk_at "om")
section
variable {prog : Program} {w : World} {A : Around} {E : Value → Shared → Prop} {s : Shared} {mg mb : Str → Option Value}
set_option maxHeartbeats 2000000 in
theorem weight_spec {Q : Value → Shared → Prop} {f : Addr} {v vp : Value} {es : List Edge} {ws : List Int} (hroom : A.depth < recursionLimit) (hh : A.handled = none) (hu : A.units + 20 < cLine) (C : Cx mg mb s.heap)
    (hf : FnIs s.heap f dWeight) (he : ListIs EdgeIs s.heap v es) (hp : Ints s.heap vp ws) (hel : es.length ≤ 5) (hel1 : es.length ≠ 1) (hpl : ws.length < 100)
    (hQ : ∀ ps t h' tk, ps.Perm (es.map pkOf) → ps.Pairwise (fun p q => ltP q p = false) → Le s.heap h' → Q (optV (wtF ps ws 0) t) { s with heap := h', toks := tk }) :
    wpAny (model prog w) A (call (.ref f) [v, vp]) Q E s := by
  obtain ⟨o, pm, code, doc, ho, hd, hc⟩ := hf
  obtain ⟨l, vs, rfl, hl, ha⟩ := he
  obtain ⟨lp, us, rfl, hlp, hap⟩ := hp
  refine wpAny_call (call_plain_ret (binds := [(Str.ofString "edges", .ref l), (Str.ofString "walk", .ref lp)]) hroom ho hd C.lim hc (by rfl) (locs (by rfl)) (fun h₁ F => ?_) (by rfl) (by rfl) (by rfl) (by decide))
  have hns := F.ns
  have hle : Le s.heap h₁ := F.keep
  have offG : s.heap.get? s.heap.objs.size = none := fresh_none _
  have hV := vars_of_ns (env := envOf dWeight.name dWeight.scope s.heap.objs.size f code) hns rfl
  refine wpAny_execs_cons (wpAny_Assign_Name ?_)
  walk_at "zev"
  refine ev_comp (by rfl) (by rfl) (by rfl) ?_
  walk_at "zev"
  refine comp_ls (k := 0) PairIs (fun r l => PairIs.le r l) (fun j => some (pkOf (es.getD j (0, 0, 0)))) s.heap [] hh (isList_le hl hle) (by rw [ha.length]; omega) hV (by simp) (fun h l => cvars0 hV (by simp) (by rfl) (by rfl) (by rfl) l) (fun _ => sto_l) (.inl rfl) hle (by simp) ?_ ?_
  · intro j v g h₃ tk₃ hv hg₁ hg₂ hex hV
    have hle : Le s.heap h₃ := hg₁.trans hg₂
    obtain ⟨e, he, ae, u1, u2, u3, rfl, htu⟩ := ha.get hv
    have htu := htu.keeps hle
    have hget : es.getD j (0, 0, 0) = e := by rw [List.getD_eq_getElem?_getD, he]; rfl
    refine tests_nil ⟨_, _, rfl, Le.rfl, rfl, fun _ => ?_⟩
    walk_at "zev"
    refine ⟨by simp, fun k h₄ hk₄ hkf hkt => ?_⟩
    dsimp only at hk₄ hkf hkt ⊢
    have hV := hV.le hk₄
    have htu := htu.keeps hk₄
    walk_at "zev"
    refine ⟨by simp, fun t h₅ hk₅ htf htt => ?_⟩
    dsimp only at hk₅ htf htt ⊢
    rw [hget]
    refine ⟨h₅, _, _, rfl, hk₄.trans hk₅, rfl, t, k, _, _, _, rfl, isTup_hide htt fun q => ?_, isTup_hide (hkt.keeps hk₅) fun q => ?_⟩
    · obtain ⟨o', ho'⟩ := hex _ q
      rw [hk₄ _ _ ho'] at htf; cases htf
    · obtain ⟨o', ho'⟩ := hex _ q
      rw [ho'] at hkf; cases hkf
  · intro ys g h₃ tk₃ m' hg₁ hg₂ hoff hys hD hle₃ hnC
    refine comp_value hoff hg₂ hD hle₃ hnC fun h₆ hD hle₆ hgle hnew => ?_
    dsimp only at hD hle₆ hgle hnew ⊢
    have hns := hns.keeps hle₆
    have hle : Le s.heap h₆ := hle.trans hle₆
    walk_at "zev"
    have hmap : (List.range vs.length).filterMap (fun j => some (pkOf (es.getD j (0, 0, 0)))) = es.map pkOf := by
      rw [ha.length]
      have := filterMap_range es (0, 0, 0) (fun e => some (pkOf e))
      rw [this, List.filterMap_eq_map']
    rw [hmap] at hys
    refine sorted_pairs (L := s.heap.objs.size) (by show A.units + 3 + 5 < cLine; omega) hns hD.isList (hys.mono fun _ _ r => PairIs.le r hgle) (by simpa using hel) (by simpa using hel1) fun D₂ vs' ps' h₇ tk₇ hkb₇ hns hDn hD₂ hv' hperm hpw => ?_
    dsimp only at hkb₇ hDn ⊢
    have hle : Le s.heap h₇ := hkb₇.le hle (by simpa using offG)
    walk_at "zev"
    have hlen : ps'.length ≤ 5 := by rw [hperm.length_eq]; simpa using hel
    have hvl : vs'.length = ps'.length := hv'.length
    refine dict_pairs hh hD₂ (fun i h => ∃ xs, h.DictOfH (tupleKind (intKind prog w)) h₇.objs.size xs ∧ Rep xs (ps'.take i) ∧ ∀ x ∈ xs, @LT.lt Nat _ x.2.1 h₇.objs.size) ?_ ?_ ?_ ?_
    · intro h' _ hg
      exact ⟨[], ⟨_, #[], 0, hg, ⟨rfl, rfl, rfl⟩, rfl, rfl, fun _ hx => by simp at hx, List.nodup_nil⟩, ⟨Nat.zero_le _, fun a b => rfl⟩, by simp⟩
    · rintro i h h' ⟨xs, hdx, hr, hlt⟩ k
      refine ⟨xs, dictH_at hdx (fun o e => k _ o (Nat.le_refl _) e) fun x hx o e => k _ o (Nat.le_of_lt (hlt x hx)) e, hr, hlt⟩
    · rintro A' i v h tk hA hAu hv ⟨xs, hdx, hr, hlt⟩ hleh
      obtain ⟨p, hp, t, k, tx, ta, tb, rfl, htt, hkt⟩ := hv'.get hv
      have hi : i < ps'.length := (List.getElem?_eq_some_iff.mp hp).1
      refine ⟨t, _, _, rfl, htt.keeps hleh, ?_⟩
      refine wpAny_dictSet_heap (knd := tupleKind (intKind prog w)) (k := [p.1.1, p.1.2]) (by show A'.units < cLine; have : A'.units ≤ A.units + 3 + 3 := hAu; omega) (intPair_key (hkt.keeps hleh)) hdx (fun h' hd' hs' => ?_) (by have := hr.1; simp only [List.length_take] at this; simp only [sizeLine]; omega)
      refine ⟨h', _, rfl, KB.same hs' (List.mem_singleton_self _), _, hd', ?_, ?_⟩
      · have : ps'.take (i + 1) = ps'.take i ++ [p] := by rw [List.take_add_one, hp]; rfl
        rw [this]; exact rep_snoc hr
      · intro x hx
        rcases storedH_mem hx with ⟨y, hy, e⟩ | e
        · rw [e]; exact hlt y hy
        · rw [e]; exact hkt.lt
    · rintro h₈ tk₈ ⟨xs, hdx, hr, hlt⟩ hle₈
      rw [hvl, List.take_length] at hr
      dsimp only at hle₈ ⊢
      have hns := hns.keeps hle₈
      have hle := hle.trans hle₈
      have hdL : @Ne Addr h₇.objs.size s.heap.objs.size := neN (by have : @LT.lt Nat _ s.heap.objs.size h₇.objs.size := ‹h₇.Ns s.heap.objs.size _›.lt; omega)
      have hds : s.heap.get? h₇.objs.size = none := none_of_le ‹Le s.heap h₇›
      have hsys : ((h₇.objs.size : Addr) == sysModules) = false := sys_low (C.lim.keeps ‹Le s.heap h₇›) (Nat.le_refl _)
      walk_at "zst"
      have hdx : h5.DictOfH (tupleKind (intKind prog w)) h₇.objs.size xs := dictH_at hdx (fun o e => (hsb.2 _ hdL).trans e) fun x hx o e => (hsb.2 _ (fun q => by
        obtain ⟨od, _, _, _, _, _, _, his, _⟩ := hdx
        obtain ⟨o', its', n', ho', hc', hd', _⟩ := his x hx
        rw [q] at ho'
        obtain ⟨oL, esL, epL, hoL, hdL', _⟩ := ‹h₈.Ns s.heap.objs.size _›
        have : s.heap.objs.size = s.heap.objs.size := rfl
        rw [show h₈.get? s.heap.objs.size = some o' from ho'] at hoL
        cases hoL
        rw [hd'] at hdL'; cases hdL')).trans e
      obtain ⟨g', hsg, hgh, hgL, hgk⟩ := freeze hle offG
      have notL : ∀ x ∈ xs, x.2.1 ≠ s.heap.objs.size := fun x hx q => by
        obtain ⟨od, _, _, _, _, _, _, his, _⟩ := hdx
        obtain ⟨o', its', n', ho', hc', hd', _⟩ := his x hx
        rw [q] at ho'
        obtain ⟨oL, esL, epL, hoL, hdL', _⟩ := hns
        have hoL : h5.get? s.heap.objs.size = some oL := hoL
        rw [show h5.get? s.heap.objs.size = some o' from ho'] at hoL
        cases hoL
        rw [hd'] at hdL'; cases hdL'
      have hdg : g'.DictOfH (tupleKind (intKind prog w)) h₇.objs.size xs := dictH_at hdx (fun o e => hgk _ o hdL e) fun x hx o e => hgk _ o (notL x hx) e
      have C := C.le hsg
      have hlpg := isList_le hlp hsg
      have offG := hgL
      have hle := hgh
      refine wpAny_execs_cons (wpAny_Assign_Name ?_)
      walk_at "zev"
      walk_at "zst"
      walk_at "zev"
      refine wpAny_For ?_
      walk_at "zev"
      refine len_of (isList_le hlpg hle) (by rw [hap.length]; omega) fun tl tkl => ?_
      walk_at "zev"
      refine range2 fun r h₉ tk₉ hk₉ hrf hrr => ?_
      dsimp only at hk₉ hrf hrr ⊢
      have hns := hns.keeps hk₉
      have hle := hle.trans hk₉
      have hps : us.length = ws.length := hap.length
      obtain ⟨tr1, tr2, tr3, hrr⟩ := hrr
      refine iter_range (n := ws.length - 1) [] (fun I i m h => ∃ tot, Le g' h ∧ (∃ t, m (Str.ofString "total") = some (.int tot t)) ∧ m (Str.ofString "walk") = some (.ref lp) ∧ m (Str.ofString "least") = some (.ref h₇.objs.size) ∧ wtF ps' ws 0 = wtF ps' (ws.drop i) tot)
        hh hrr (small_one (by walk_at "om") (by walk_at "om") (by walk_at "om") (by walk_at "om")) (by rw [rangeSize_nat]; omega) (by simp) (by rfl) (by rfl) hns ⟨0, hle, ⟨_, by rfl⟩, by rfl, by rfl, by rfl⟩ ?_ ?_ ?_
      · rintro i m h h' ⟨tot, hle, r⟩ k
        refine ⟨tot, k.le hle ?_, r⟩
        intro x hx
        rcases List.mem_cons.mp hx with rfl | hx
        · exact offG
        · rw [List.mem_singleton.mp hx]; exact none_of_le ‹Le g' h₉›
      · rintro i ti m h tk hi ⟨tot, hle, ⟨tt, m1⟩, m2, m3, hpw'⟩ hk hns hI
        refine opaqueQ fun KK hKK => ?_
        have hkb : KB [s.heap.objs.size] h h := KB.rfl
        obtain ⟨t1', e1⟩ := intsAre_get (intsAre_all2.mpr hap) (i := i) (by walk_at "om")
        obtain ⟨t2', e2⟩ := intsAre_get (intsAre_all2.mpr hap) (i := i + 1) (by walk_at "om")
        have hdrop : ws.drop i = ws.getD i 0 :: ws.getD (i + 1) 0 :: ws.drop (i + 2) := by
          rw [List.drop_eq_getElem_cons (by walk_at "om"), List.drop_eq_getElem_cons (by walk_at "om")]
          simp only [List.getD_eq_getElem?_getD, List.getElem?_eq_getElem (show i < ws.length by walk_at "om"), List.getElem?_eq_getElem (show i + 1 < ws.length by walk_at "om")]
          rfl
        have hdrop1 : ws.drop (i + 1) = ws.getD (i + 1) 0 :: ws.drop (i + 2) := by
          rw [List.drop_eq_getElem_cons (by walk_at "om")]
          simp only [List.getD_eq_getElem?_getD, List.getElem?_eq_getElem (show i + 1 < ws.length by walk_at "om")]
          rfl
        refine wpAny_execs_cons (wpAny_Assign_Name ?_)
        walk_at "zev"
        refine item_list (isList_le hlpg hle) (by walk_at "om") (by walk_at "om") (by rw [show (1 + (i : Int) - 1).toNat = i by walk_at "om"]; exact e1) ?_
        walk_at "zev"
        refine item_list (isList_le hlpg hle) (by walk_at "om") (by walk_at "om") (by rw [show (1 + (i : Int)).toNat = i + 1 by walk_at "om"]; exact e2) ?_
        walk_at "zev"
        refine ⟨by simp, fun k h₄ hk₄ hkf hkt => ?_⟩
        dsimp only at hk₄ hkf hkt ⊢
        have hkL : k ≠ s.heap.objs.size := fun q => by
          obtain ⟨oL, _, _, hoL, _⟩ := hns
          rw [q, show h.get? s.heap.objs.size = some oL from hoL] at hkf; cases hkf
        have hns := hns.keeps hk₄
        have hle := hle.trans hk₄
        have hkb := hkb.trans (KB.of_le hk₄)
        walk_at "zst"
        obtain ⟨ot, hot, rt⟩ := id hkt
        have hkt : IsTup h5 k _ := ⟨ot, (hsb.2 k hkL).trans hot, rt⟩
        have hdx : h5.DictOfH (tupleKind (intKind prog w)) h₇.objs.size xs := dictH_at hdg (fun o e => hle _ o e) fun x hx o e => hle _ o e
        walk_at "zev"
        refine notIn_heap (knd := tupleKind (intKind prog w)) (by show A.units + 3 + 1 < cLine; omega) (intPair_key (prog := prog) (w := w) hkt) hsys hdx ?_
        walk_at "zev"
        have hrep := hr.2 (ws.getD i 0) (ws.getD (i + 1) 0)
        cases hlk : lookL ps' (ws.getD i 0, ws.getD (i + 1) 0) with
        | none =>
          rw [hlk] at hrep
          refine if_tt (by rw [hrep]; rfl) ?_
          walk_at "zev"
          have e : wtF ps' ws 0 = none := by rw [hpw', hdrop, wtF, hlk]
          have hq := fun tk => hQ ps' 0 h5 tk hperm hpw (hsg.trans hle)
          rw [e] at hq
          exact hKK _ _ (hq _)
        | some x =>
          rw [hlk] at hrep
          obtain ⟨ad, tx, hat⟩ := hrep
          refine if_ff (by rw [hat]; rfl) ?_
          walk_at "zev"
          refine wpAny_Assign_Name ?_
          walk_at "zev"
          refine tail_any hdx.typeIs slot_dict_getitem.lookup (wpAny_getItem_heap (knd := tupleKind (intKind prog w)) (by show A.units + 3 + 1 < cLine; omega) (intPair_key hkt) hdx hat ?_) (by with_unfolding_all rfl)
          walk_at "zev"
          walk_at "zst"
          walk_at "zev"
          refine hKK _ _ ⟨_, _, _, rfl, hns, hkb, _, hle, ⟨_, by rfl⟩, m2, m3, ?_⟩
          rw [hpw', hdrop, hdrop1, wtF, hlk]
      · rintro m h tk ⟨tot, hle, ⟨tt, m1⟩, m2, m3, hpw'⟩ hk hns
        walk_at "zev"
        have e : wtF ps' ws 0 = some tot := by
          rw [hpw']
          have : (ws.drop (ws.length - 1)).length ≤ 1 := by rw [List.length_drop]; omega
          match hd : ws.drop (ws.length - 1), this with
          | [], _ => rfl
          | [_], _ => rfl
          | _ :: _ :: _, q => simp at q
        have hq := hQ ps' tt h tk hperm hpw (hsg.trans hle)
        rw [e] at hq
        exact hq
end

-- 26_tree.lean
-- needs: 01 02 03 04 05 06 08 09 10 11 12 13 14 15 16 17 18 19 22
-- more: KE.KDictOf
def chosenF (picks : List Int) (k : Nat) : Int := (picks.getD (k - 1) 0).fmod ((k : Int) + 1)
def treeWay (picks : List Int) (ways : List (List Int)) (k : Nat) : List Int := if chosenF picks k < k then ways.getD (chosenF picks k).toNat [] else []
def treeAdd (v : Int) (st : List (List Int) × List (Int × Int)) (way : List Int) : List (List Int) × List (Int × Int) := if way = [] then (st.1 ++ [[]], st.2) else (st.1 ++ [way ++ [v]], st.2 ++ [(v, way.getD (way.length - 1) 0)])
def treeStep (n root : Int) (picks : List Int) (st : List (List Int) × List (Int × Int)) (k : Nat) : List (List Int) × List (Int × Int) := treeAdd ((root + k).fmod n) st (treeWay picks st.1 k)
def treeF (n root : Int) (picks : List Int) : Nat → List (List Int) × List (Int × Int)
  | 0 => ([[root]], [])
  | i + 1 => treeStep n root picks (treeF n root picks i) (i + 1)
def look1 (ps : List (Int × Int)) (k : Int) : Option Int := ps.foldl (fun acc p => if p.1 = k then some p.2 else acc) none
def prevF (ps : List (Int × Int)) (n : Nat) : List (Option Int) := (List.range n).map fun v : Nat => look1 ps v
theorem treeAdd_len (v : Int) (st : List (List Int) × List (Int × Int)) (way : List Int) : (treeAdd v st way).1.length = st.1.length + 1 ∧ (treeAdd v st way).2.length ≤ st.2.length + 1 := by
  unfold treeAdd
  split <;> simp
theorem treeF_len (n root : Int) (picks : List Int) : ∀ i, (treeF n root picks i).1.length = i + 1 ∧ (treeF n root picks i).2.length ≤ i
  | 0 => ⟨rfl, Nat.le_refl _⟩
  | i + 1 => by
    obtain ⟨h1, h2⟩ := treeF_len n root picks i
    obtain ⟨h3, h4⟩ := treeAdd_len ((root + (i + 1 : Nat)).fmod n) (treeF n root picks i) (treeWay picks (treeF n root picks i).1 (i + 1))
    exact ⟨by rw [treeF, treeStep, h3, h1], by rw [treeF, treeStep]; omega⟩
theorem treeF_short (n root : Int) (picks : List Int) : ∀ i, ∀ w ∈ (treeF n root picks i).1, w.length ≤ i + 1
  | 0, w, hw => by simp [treeF] at hw; subst hw; simp
  | i + 1, w, hw => by
    have ih := treeF_short n root picks i
    have hg : (treeWay picks (treeF n root picks i).1 (i + 1)).length ≤ i + 1 := by
      unfold treeWay
      split
      · rw [List.getD_eq_getElem?_getD]
        cases h : (treeF n root picks i).1[(chosenF picks (i + 1)).toNat]? with
        | none => simp
        | some x => exact ih x (List.mem_of_getElem? h)
      · simp
    rw [treeF, treeStep, treeAdd] at hw
    split at hw
    · rcases List.mem_append.mp hw with q | q
      · exact Nat.le_succ_of_le (ih w q)
      · rw [List.mem_singleton.mp q]; simp
    · rcases List.mem_append.mp hw with q | q
      · exact Nat.le_succ_of_le (ih w q)
      · rw [List.mem_singleton.mp q, List.length_append, List.length_singleton]; omega
def PI (h : Heap) (v : Value) (p : Int × Int) : Prop := ∃ a t u, v = .ref a ∧ IsTup h a #[.int p.1 t, .int p.2 u]
theorem PI.le {h h' : Heap} {v : Value} {p : Int × Int} (x : PI h v p) (l : Le h h') : PI h' v p := let ⟨a, t, u, e, k⟩ := x; ⟨a, t, u, e, k.keeps l⟩
section
variable {prog : Program} {w : World} {A : Around} {E : Value → Shared → Prop} {s : Shared} {mg mb : Str → Option Value} {env : Env}
theorem list_copy {a : Addr} {vs : List Value} {Q : Value → Shared → Prop} (hl : s.heap.IsList a vs.toArray) (hsz : vs.length < 1000) (h : ∀ D h', Le s.heap h' → s.heap.get? D = none → PlainL h' D vs.toArray → Q (.ref D) { s with heap := h' }) :
    wpAny (model prog w) A (call (.type "list") [.ref a]) Q E s := by
  obtain ⟨o, ho, hc, n, hd⟩ := hl
  exact call_list_seq a (.inl rfl) ho hc hd (fun h' c' k e => h _ h' k (fresh_none _) ⟨_, _, e, rfl, rfl, rfl⟩) (by simp only [sizeLine, List.size_toArray]; omega)
/-- xs.append(e), xs any name -/
theorem sv_append {m : Str → Option Value} {x : Str} {px apos pos spos : Pos} {elt : Expr} {D : Addr} {its₀ : Array Value} {Q : Flow → Shared → Prop} (hV : Vars env s.heap m) (hv : m x = some (.ref D)) (hD : PlainL s.heap D its₀)
    (h : wpAny (model prog w) A (eval elt env) (fun y s₂ => ∃ its, PlainL s₂.heap D its ∧ its.size < 1000 ∧ ∀ h', PlainL h' D (its.push y) → Heap.SameBut D s₂.heap h' → Q .next { s₂ with heap := h' }) E s)
    (hk : env.scope.kind = .function := by rfl) (hl : env.kindOf x = some .local := by rfl) (hd : (x == ("__debug__" : Str)) = false := by rfl)
    (hbase : attributeBase (.Name x px) "append" env (eval (.Name x px) env) = eval (.Name x px) env := by rfl)
    (hfew : ((backTo pos (starEach [elt] env)).all (fun x => !x.1) && (backToKw pos (keywordEach [] env)).all (fun x => x.1.isSome)
      && decide (([elt] : List Expr).length + ([] : List Keyword).length + (if ([] : List Keyword).isEmpty then 0 else 1) < 30)) = true := by rfl)
    (hline : (apos.endLine == pos.line) = true := by rfl)
    (htrees : backTo pos (starEach [elt] env) = [(false, eval elt env)] := by rfl) (hi : interactive env = false := by rfl) (hs : swapsWith (.Call (.Attribute (.Name x px) "append" apos) [elt] [] pos) none spos.line env = pure false := by rfl) :
    wpAny (model prog w) A (exec (.Expr (.Call (.Attribute (.Name x px) "append" apos) [elt] [] pos) spos) env) Q E s := by
  obtain ⟨ml, h1, h2⟩ := hV.loc
  exact st_append h1 ((h2 x hl).trans hv) hD h hk hl hd hbase hfew hline htrees hi hs
end

-- 27_treespec.lean
-- needs: 01 02 03 04 05 06 08 09 10 11 12 13 14 15 16 17 18 19 22 25 26
-- more: KE.KDictOf
theorem plainL_kb {h h' : Heap} {a : Addr} {its : Array Value} {X : List Addr} (x : PlainL h a its) (k : KB X h h') (n : a ∉ X) : PlainL h' a its := let ⟨o, m, e, r⟩ := x; ⟨o, m, k a o n e, r⟩
theorem fresh_kb {X : List Addr} {h h' : Heap} {a : Addr} (k : KB X h h') (n : a ∉ X) (e : h'.get? a = none) : h.get? a = none := by
  cases q : h.get? a with
  | none => rfl
  | some o => rw [k a o n q] at e; cases e
theorem valueAt_stored {K : Type} [DecidableEq K] (kvs : List (K × Value)) (k k' : K) (v : Value) : valueAt (stored kvs k v) k' = if k' = k then some v else valueAt kvs k' := by
  unfold stored
  split
  · rename_i h
    rw [List.any_eq_true] at h
    obtain ⟨x, hx, he⟩ := h
    have he : x.1 = k := of_decide_eq_true he
    induction kvs with
    | nil => simp at hx
    | cons y ys ih =>
      unfold valueAt at ih ⊢
      rw [List.map_cons, List.find?_cons, List.find?_cons]
      by_cases hy : y.1 = k
      · by_cases hk : k' = k
        · subst hk; simp [hy]
        · have : ¬ k = k' := fun q => hk q.symm
          rw [if_pos hy]
          simp only [hy, this, decide_false, hk, if_false]
          clear ih
          congr 1
          clear hx
          induction ys with
          | nil => rfl
          | cons z zs ih =>
            rw [List.map_cons, List.find?_cons, List.find?_cons]
            by_cases hz : z.1 = k
            · simp [hz, this, ih]
            · rw [if_neg hz]
              by_cases hz' : z.1 = k' <;> simp [hz', ih]
      · have hx' : x ∈ ys := by
          rcases List.mem_cons.mp hx with q | q
          · subst q; exact absurd he hy
          · exact q
        rw [if_neg hy]
        by_cases hk : k' = k
        · subst hk
          simp only [hy, decide_false, if_true]
          have := ih hx'
          simpa using this
        · by_cases hy' : y.1 = k'
          · simp [hy', hk]
          · simp only [hy', decide_false]
            exact ih hx'
  · rename_i h
    rw [List.any_eq_true] at h
    unfold valueAt
    rw [List.find?_append]
    by_cases hk : k' = k
    · subst hk
      have : kvs.find? (fun kv => decide (kv.1 = k')) = none := List.find?_eq_none.mpr fun x hx q => h ⟨x, hx, q⟩
      simp [this]
    · have : ¬ k = k' := fun q => hk q.symm
      simp [hk, this]
def RepI (kvs : List (Int × Value)) (ps : List (Int × Int)) : Prop := kvs.length ≤ ps.length ∧ ∀ k, match look1 ps k with | none => valueAt kvs k = none | some x => ∃ t, valueAt kvs k = some (.int x t)
theorem repI_snoc {kvs : List (Int × Value)} {ps : List (Int × Int)} {p : Int × Int} {t : Tok} (h : RepI kvs ps) : RepI (stored kvs p.1 (.int p.2 t)) (ps ++ [p]) := by
  obtain ⟨h1, h2⟩ := h
  refine ⟨?_, fun k => ?_⟩
  · have := stored_length_le kvs p.1 (.int p.2 t)
    simp; omega
  · have e : look1 (ps ++ [p]) k = if p.1 = k then some p.2 else look1 ps k := by simp [look1, List.foldl_append]
    rw [e, valueAt_stored]
    by_cases hk : p.1 = k
    · rw [if_pos hk, if_pos hk.symm]; exact ⟨t, rfl⟩
    · rw [if_neg hk, if_neg (fun q => hk q.symm)]; exact h2 k
section
variable {prog : Program} {w : World} {A : Around} {E : Value → Shared → Prop} {s : Shared} {mg mb : Str → Option Value}
set_option maxHeartbeats 4000000 in
theorem tree_spec {Q : Value → Shared → Prop} {f : Addr} {n : Nat} {root : Int} {t1 t2 : Tok} {ap : Addr} {picks : List Int} (hroom : A.depth < recursionLimit) (hh : A.handled = none) (C : Cx mg mb s.heap)
    (hf : FnIs s.heap f dTree) (hp : IntTup s.heap ap picks) (hpl : picks.length = 3) (hn0 : 0 < n) (hn : n ≤ 4)
    (hQ : ∀ r a b h' tk, Le s.heap h' → IsTup h' r #[.ref a, .ref b] → ListIs OptIs h' (.ref a) (prevF (treeF n root picks (n - 1)).2 n) → ListIs Ints h' (.ref b) (treeF n root picks (n - 1)).1 → Q (.ref r) { s with heap := h', toks := tk }) :
    wpAny (model prog w) A (call (.ref f) [.int n t1, .int root t2, .ref ap]) Q E s := by
  obtain ⟨o, pm, code, doc, ho, hd, hc⟩ := hf
  obtain ⟨pvs, hpt, hpi⟩ := hp
  refine wpAny_call (call_cells_ret (binds := [(Str.ofString "n", .int n t1), (Str.ofString "root", .int root t2), (Str.ofString "picks", .ref ap)]) hroom ho hd C.lim hc (by rfl) ?_ (fun h₁ tk F X => ?_) (by rfl) (by rfl) (by rfl))
  · intro x hx
    simp only [List.mem_cons, List.not_mem_nil, or_false] at hx
    rcases hx with rfl | rfl | rfl
    · exact .inl (by rfl)
    · exact .inl (by rfl)
    · exact .inl (by rfl)
  have hV := vars_of_fr (name := dTree.name) (a := f) (cd := code) F X (by
    intro x c e
    have := lookup_all (P := fun p => dTree.scope.names.lookup p.1 != some .local) (by rfl) e
    simpa using this)
  have hle : Le s.heap h₁ := F.keep
  have offG : s.heap.get? s.heap.objs.size = none := fresh_none _
  have offC : s.heap.get? (s.heap.objs.size + 1) = none := Heap.get?_none_of_le (Nat.le_succ _)
  have hcp : (envOfC dTree.name dTree.scope s.heap.objs.size f code).cells.lookup (Str.ofString "parents") = some (s.heap.objs.size + 1) := by rfl
  have howns : ∀ b ∈ owns (envOfC dTree.name dTree.scope s.heap.objs.size f code), b = s.heap.objs.size ∨ b = s.heap.objs.size + 1 := by
    intro b hb
    rcases List.mem_cons.mp hb with rfl | hb
    · exact .inl rfl
    · rcases List.mem_cons.mp hb with rfl | hb
      · exact .inr rfl
      · simp at hb
  have hol : ∀ b ∈ owns (envOfC dTree.name dTree.scope s.heap.objs.size f code), ∀ {h : Heap} {m}, Vars (envOfC dTree.name dTree.scope s.heap.objs.size f code) h m → b < h.objs.size := by
    intro b hb h m V
    rcases howns b hb with rfl | rfl
    · exact V.ltL
    · exact (V.cel _ _ hcp).lt
  refine wpAny_execs_cons (wpAny_Assign_Name ?_)
  walk_at "zev"
  refine ⟨by simp, fun a0 h₂ hk₂ hf₂ hD₂ => ?_⟩
  dsimp only at hk₂ hf₂
  have hV := hV.le hk₂
  have hle := hle.trans hk₂
  walk_at "zev"
  refine ⟨by simp, fun W h₃ hk₃ hf₃ hW => ?_⟩
  dsimp only at hk₃ hf₃
  have hV := hV.le hk₃
  have hle := hle.trans hk₃
  have hVW := hV
  walk_at "zsv"
  have notown : ∀ {h : Heap} {m : Str → Option Value} {a : Addr}, Vars (envOfC dTree.name dTree.scope s.heap.objs.size f code) h m → h.get? a = none → a ≠ s.heap.objs.size ∧ a ≠ s.heap.objs.size + 1 := by
    intro h m a V e
    refine ⟨fun q => ?_, fun q => ?_⟩
    · obtain ⟨_, ⟨o', _, _, ho', _⟩, _⟩ := V.loc
      exact absurd (ho'.symm.trans (q ▸ e)) (by intro q; cases q)
    · obtain ⟨o', ho', _⟩ := V.cel _ _ hcp
      exact absurd (ho'.symm.trans (q ▸ e)) (by intro q; cases q)
  obtain ⟨hWL, hWC⟩ := notown ‹Vars _ h₂ _› hf₃
  obtain ⟨hAL, hAC⟩ := notown ‹Vars _ h₁ _› hf₂
  have hW := PlainL_same hW hsb hWL
  have hD₂ := PlainL_same (hD₂.keeps hk₃) hsb hAL
  have hAW : a0 ≠ W := fun q => by
    obtain ⟨o', _, ho', _⟩ := ‹PlainL h₂ a0 _›
    rw [q, hf₃] at ho'; cases ho'
  have hsW : s.heap.get? W = none := none_back ‹Le s.heap h₂› hf₃
  refine wpAny_execs_cons (wpAny_Assign_Name ?_)
  walk_at "zev"
  refine ⟨by simp, fun P h₄ hk₄ hf₄ hP => ?_⟩
  dsimp only at hk₄ hf₄
  obtain ⟨hPL, hPC⟩ := notown hV hf₄
  have hsP : s.heap.get? P = none := none_back hle hf₄
  have hWP : W ≠ P := fun q => by
    obtain ⟨o', _, ho', _⟩ := hW
    rw [q, hf₄] at ho'; cases ho'
  have hAP : a0 ≠ P := fun q => by
    obtain ⟨o', _, ho', _⟩ := hD₂
    rw [q, hf₄] at ho'; cases ho'
  have hW := hW.keeps hk₄
  have hD₂ := hD₂.keeps hk₄
  have hV := hV.le hk₄
  have hle := hle.trans hk₄
  walk_at "zsv"
  have hW := PlainL_same hW hsb hWL
  have hD₂ := PlainL_same hD₂ hsb hAL
  have hP := PlainL_same hP hsb hPL
  walk_at "zev"
  refine wpAny_For ?_
  walk_at "zev"
  refine range2 fun r h₆ tk₆ hk₆ hrf hrr => ?_
  dsimp only at hk₆ hrf hrr ⊢
  have hW := hW.keeps hk₆
  have hD₂ := hD₂.keeps hk₆
  have hP := hP.keeps hk₆
  have hV := hV.le hk₆
  have hle := hle.trans hk₆
  have hV6 := hV
  have mem5 : ∀ {I x : Addr}, x ∈ [s.heap.objs.size, s.heap.objs.size + 1, W, P, I] → x = s.heap.objs.size ∨ x = s.heap.objs.size + 1 ∨ x = W ∨ x = P ∨ x = I := by
    intro I x hx; simpa using hx
  refine iter_rangeV (n := n - 1) [s.heap.objs.size, W, P] (fun I i m h => ∃ g wv pv, Le s.heap g ∧ Le g h ∧ (∀ a ∈ [s.heap.objs.size, s.heap.objs.size + 1, W, P, I], g.get? a = none) ∧ PlainL h W (List.toArray wv) ∧ All2 (Ints g) wv (treeF n root picks i).1 ∧ PlainL h P (List.toArray pv) ∧ All2 (PI g) pv (treeF n root picks i).2 ∧
      m (Str.ofString "n") = some (.int n t1) ∧ m (Str.ofString "root") = some (.int root t2) ∧ m (Str.ofString "picks") = some (.ref ap) ∧ m (Str.ofString "ways") = some (.ref W) ∧ m (Str.ofString "pairs") = some (.ref P))
    hh hrr (by walk_at "om") (by walk_at "om") (by walk_at "om") (by walk_at "om") (by walk_at "om") ?_ sto_l hV.ltL (fun b hb => hol b hb hV) hV ?_ ?_ ?_ ?_
  · intro b hb
    rcases List.mem_cons.mp hb with rfl | hb
    · exact hV.ltL
    · rcases List.mem_cons.mp hb with rfl | hb
      · exact hW.lt
      · rw [List.mem_singleton.mp hb]; exact hP.lt
  · refine ⟨hide h₆ [s.heap.objs.size, s.heap.objs.size + 1, W, P], [.ref a0], [], le_hide hle ?_, hide_le _ _, ?_, hW, ⟨⟨a0, _, rfl, isList_hide hD₂.isList ?_, ⟨_, rfl⟩, trivial⟩, trivial⟩, hP, trivial, by rfl, by rfl, by rfl, by rfl, by rfl⟩
    · intro x hx
      simp only [List.mem_cons, List.not_mem_nil, or_false] at hx
      rcases hx with rfl | rfl | rfl | rfl
      · exact offG
      · exact offC
      · exact hsW
      · exact hsP
    · intro x hx
      rcases mem5 hx with rfl | rfl | rfl | rfl | rfl
      · exact hide_off _ _ _ (by simp)
      · exact hide_off _ _ _ (by simp)
      · exact hide_off _ _ _ (by simp)
      · exact hide_off _ _ _ (by simp)
      · exact none_of_le (hide_le _ _)
    · intro q
      simp only [List.mem_cons, List.not_mem_nil, or_false] at q
      rcases q with q | q | q | q
      · exact hAL q
      · exact hAC q
      · exact hAW q
      · exact hAP q
  · rintro i m h h' ⟨g, wv, pv, q1, q2, q3, q4, q5, q6, q7, r⟩ k
    have nW : W ∉ [s.heap.objs.size, h₆.objs.size] := by
      simp only [List.mem_cons, List.not_mem_nil, or_false]
      rintro (q | q)
      · exact hWL q
      · exact Nat.ne_of_lt hW.lt q
    have nP : P ∉ [s.heap.objs.size, h₆.objs.size] := by
      simp only [List.mem_cons, List.not_mem_nil, or_false]
      rintro (q | q)
      · exact hPL q
      · exact Nat.ne_of_lt hP.lt q
    refine ⟨g, wv, pv, q1, k.le q2 ?_, q3, plainL_kb q4 k nW, q5, plainL_kb q6 k nP, q7, r⟩
    intro x hx
    rcases List.mem_cons.mp hx with rfl | hx
    · exact q3 s.heap.objs.size (by simp)
    · rw [List.mem_singleton.mp hx]; exact q3 _ (by simp)
  · rintro i ti m h tk hi ⟨g, wv, pv, hsg, hle, hoff, hW, hwa, hP, hpa, m1, m2, m3, m4, m5⟩ hk hV hI
    refine opaqueQ fun KK hKK => ?_
    have hcast : (1 + (i : Int)) = ((i + 1 : Nat) : Int) := by walk_at "om"
    rw [hcast] at hV
    have offG : g.get? s.heap.objs.size = none := hoff _ (by simp)
    have C := C.le hsg
    have hkb : KB [s.heap.objs.size] h h := KB.rfl
    obtain ⟨hlen1, hlen2⟩ := treeF_len n root picks i
    refine wpAny_execs_cons (wpAny_Assign_Name ?_)
    walk_at "zev"
    walk_at "zsv"
    refine wpAny_execs_cons (wpAny_Assign_Name ?_)
    walk_at "zev"
    refine item_inttup (hpt.keeps (hsg.trans hle)) hpi (by walk_at "om") (by walk_at "om") (by walk_at "om") fun tp => ?_
    walk_at "zev"
    have hch : (picks.getD (((i + 1 : Nat) : Int) - 1).toNat 0).fmod (((i + 1 : Nat) : Int) + 1) = chosenF picks (i + 1) := by
      rw [chosenF, show (((i + 1 : Nat) : Int) - 1).toNat = i + 1 - 1 by walk_at "om"]
    rw [hch]
    have hc0 : 0 ≤ chosenF picks (i + 1) := fmod_lo _ (by walk_at "om")
    walk_at "zsv"
    refine wpAny_execs_cons (wpAny_Assign_Name ?_)
    walk_at "zev"
    refine ⟨by simp, fun a₁ h₇ hk₇ hf₇ hE₁ => ?_⟩
    dsimp only at hk₇ hf₇
    have hf₇' : h.get? a₁ = none := fresh_kb hkb (fun q => (notown hV hf₇).1 (List.mem_singleton.mp q)) hf₇
    have hV := hV.le hk₇
    have hle := hle.trans hk₇
    have hkb := hkb.trans (KB.of_le hk₇)
    have ha₁L : a₁ ≠ s.heap.objs.size := (notown ‹Vars _ h _› hf₇').1
    walk_at "zsv"
    have hE₁ := PlainL_same hE₁ hsb ha₁L
    have nWL : W ∉ [s.heap.objs.size] := fun q => hWL (List.mem_singleton.mp q)
    have nPL : P ∉ [s.heap.objs.size] := fun q => hPL (List.mem_singleton.mp q)
    refine seq_cut (fun s' => ∃ h' tk' m' D its, s' = { s with heap := h', toks := tk' } ∧ Vars (envOfC dTree.name dTree.scope s.heap.objs.size f code) h' m' ∧ KB [s.heap.objs.size] h h' ∧ Le g h' ∧ h.get? D = none ∧ PlainL h' D its ∧ IntsAre its.toList (treeWay picks (treeF n root picks i).1 (i + 1)) ∧
      m' (Str.ofString "way") = some (.ref D) ∧ (∃ t, m' (Str.ofString "v") = some (.int ((root + ((i + 1 : Nat) : Int)).fmod n) t)) ∧ m' (Str.ofString "n") = some (.int n t1) ∧ m' (Str.ofString "root") = some (.int root t2) ∧ m' (Str.ofString "picks") = some (.ref ap) ∧ m' (Str.ofString "ways") = some (.ref W) ∧ m' (Str.ofString "pairs") = some (.ref P)) ?_ ?_
    · refine opaqueQ fun K2 hK2 => ?_
      refine wpAny_If ?_
      walk_at "zev"
      refine if_by (fun hb => ?_) fun hb => ?_
      · have hck : chosenF picks (i + 1) < ((i + 1 : Nat) : Int) := by simpa using hb
        refine wpAny_execs_cons (wpAny_Assign_Name ?_)
        walk_at "zev"
        have hcl : (chosenF picks (i + 1)).toNat < wv.length := by rw [hwa.length, hlen1]; omega
        obtain ⟨wy, hwy, lw, vw, ew, hlw, haw⟩ := hwa.get (List.getElem?_eq_getElem hcl)
        refine item_list (plainL_kb hW hkb nWL).isList hc0 (by walk_at "om") ((List.getElem?_eq_getElem hcl).trans (by rw [ew])) ?_
        walk_at "zev"
        have hwl : vw.length < 1000 := by
          rw [haw.length]
          have := treeF_short n root picks i wy (List.mem_of_getElem? hwy)
          omega
        refine list_copy (isList_le hlw hle) hwl fun D h₈ hk₈ hf₈ hD => ?_
        dsimp only at hk₈ hf₈ ⊢
        have hf₈' : h.get? D = none := fresh_kb hkb (fun q => (notown hV hf₈).1 (List.mem_singleton.mp q)) hf₈
        have hV := hV.le hk₈
        have hle := hle.trans hk₈
        have hkb := hkb.trans (KB.of_le hk₈)
        walk_at "zsv"
        have hD := PlainL_same hD hsb (notown ‹Vars _ h _› hf₈').1
        walk_at "zev"
        refine hK2 _ _ ⟨rfl, h5, _, _, D, _, rfl, hV, hkb, hle, hf₈', hD, ?_, by rfl, ⟨_, by rfl⟩, m1, m2, m3, m4, m5⟩
        rw [treeWay, if_pos hck, List.getD_eq_getElem?_getD, hwy]
        exact intsAre_all2.mpr haw
      · have hck : ¬ chosenF picks (i + 1) < ((i + 1 : Nat) : Int) := by simpa using hb
        walk_at "zev"
        refine hK2 _ _ ⟨rfl, h5, _, _, a₁, _, rfl, hV, hkb, hle, hf₇', hE₁, ?_, by rfl, ⟨_, by rfl⟩, m1, m2, m3, m4, m5⟩
        rw [treeWay, if_neg hck]
        exact .nil
    · rintro s' ⟨h', tk', m', D, its, rfl, hV, hkb, hle, hDn, hD, hint, m6, ⟨tv, m7⟩, m1, m2, m3, m4, m5⟩
      obtain ⟨hDL, hDC⟩ := notown ‹Vars _ h _› hDn
      have hDW : D ≠ W := fun q => by
        obtain ⟨o', _, ho', _⟩ := hW
        rw [q, ho'] at hDn; cases hDn
      have hDP : D ≠ P := fun q => by
        obtain ⟨o', _, ho', _⟩ := hP
        rw [q, ho'] at hDn; cases hDn
      have hDg : g.get? D = none := none_back ‹Le g h› hDn
      have hW' := plainL_kb hW hkb nWL
      have hP' := plainL_kb hP hkb nPL
      have hwylen : (treeWay picks (treeF n root picks i).1 (i + 1)).length ≤ i + 1 := by
        unfold treeWay
        split
        · rw [List.getD_eq_getElem?_getD]
          cases hq : (treeF n root picks i).1[(chosenF picks (i + 1)).toNat]? with
          | none => simp
          | some x => exact treeF_short n root picks i x (List.mem_of_getElem? hq)
        · simp
      refine wpAny_execs_cons (wpAny_If ?_)
      walk_at "zev"
      refine len_of (vs := its.toList) (by rw [Array.toArray_toList]; exact hD.isList) (by rw [hint.length]; omega) fun tl tkl => ?_
      walk_at "zev"
      obtain ⟨wy, hwy⟩ : ∃ wy, wy = treeWay picks (treeF n root picks i).1 (i + 1) := ⟨_, rfl⟩
      rw [← hwy] at hint hwylen
      have hil : its.toList.length = wy.length := hint.length
      have hstep : treeF n root picks (i + 1) = treeAdd ((root + ((i + 1 : Nat) : Int)).fmod n) (treeF n root picks i) wy := by rw [treeF, treeStep, hwy]
      have hwvl : wv.length = i + 1 := by rw [hwa.length, hlen1]
      have hpvl : pv.length ≤ i := by rw [hpa.length]; exact hlen2
      have kLWP : ∀ {h1 h2 : Heap}, KB [s.heap.objs.size] h1 h2 → KB [s.heap.objs.size, s.heap.objs.size, W, P] h1 h2 := fun k => k.mono fun b hb => by rw [List.mem_singleton.mp hb]; simp
      have kLWP' : ∀ {h1 h2 : Heap}, KB [s.heap.objs.size] h1 h2 → KB [s.heap.objs.size, W, P] h1 h2 := fun k => k.mono fun b hb => by rw [List.mem_singleton.mp hb]; simp
      obtain ⟨oI, hoI⟩ := hI
      have inH : ∀ {x : Addr}, x ∈ [s.heap.objs.size, s.heap.objs.size + 1, W, P, h₆.objs.size] → ∃ o, h.get? x = some o := by
        intro x hx
        rcases mem5 hx with rfl | rfl | rfl | rfl | rfl
        · obtain ⟨_, ⟨o', _, _, ho', _⟩, _⟩ := ‹Vars _ h _›.loc; exact ⟨o', ho'⟩
        · obtain ⟨o', ho', _⟩ := ‹Vars _ h _›.cel _ _ hcp; exact ⟨o', ho'⟩
        · obtain ⟨o', _, ho', _⟩ := hW; exact ⟨o', ho'⟩
        · obtain ⟨o', _, ho', _⟩ := hP; exact ⟨o', ho'⟩
        · exact ⟨oI, hoI⟩
      have hDX : D ∉ [s.heap.objs.size, s.heap.objs.size + 1, W, P, h₆.objs.size] := fun q => by
        obtain ⟨o', ho'⟩ := inH q
        rw [hDn] at ho'; cases ho'
      have hsgX : ∀ a ∈ [s.heap.objs.size, s.heap.objs.size + 1, W, P, h₆.objs.size], s.heap.get? a = none := fun a ha => none_back hsg (hoff a ha)
      refine if_by (fun hb => ?_) fun hb => ?_
      · have hpos : 0 < wy.length := by
          have : (0 : Int) < its.toList.length := by simpa using hb
          omega
        refine wpAny_execs_cons (sv_append hV m5 hP' ?_)
        walk_at "zev"
        refine len_of (vs := its.toList) (by rw [Array.toArray_toList]; exact hD.isList) (by walk_at "om") fun tl2 tkl2 => ?_
        walk_at "zev"
        obtain ⟨tw, hw⟩ := intsAre_get hint (i := wy.length - 1) (by walk_at "om")
        refine item_list hD.isList (by walk_at "om") (by walk_at "om") (by rw [hil, show ((wy.length : Int) - 1).toNat = wy.length - 1 by walk_at "om"]; exact hw) ?_
        walk_at "zev"
        refine ⟨by simp, fun a₂ h₈ hk₈ hf₈ ht₈ => ?_⟩
        dsimp only at hk₈ hf₈
        have ha₂h : h.get? a₂ = none := fresh_kb hkb (fun q => (notown hV hf₈).1 (List.mem_singleton.mp q)) hf₈
        have ha₂X : a₂ ∉ [s.heap.objs.size, s.heap.objs.size + 1, W, P, h₆.objs.size] := fun q => by
          obtain ⟨o', ho'⟩ := inH q
          rw [ha₂h] at ho'; cases ho'
        have ha₂D : a₂ ≠ D := fun q => by
          obtain ⟨o', _, ho', _⟩ := hD
          rw [q, ho'] at hf₈; cases hf₈
        have hV := hV.le hk₈
        have hle := hle.trans hk₈
        have hkb := hkb.trans (KB.of_le hk₈)
        have hP' := hP'.keeps hk₈
        have hW' := hW'.keeps hk₈
        have hD := hD.keeps hk₈
        refine ⟨_, hP', by rw [List.size_toArray]; omega, fun h₉ hP₉ hs₉ => ?_⟩
        dsimp only
        have hV := hV.kb (KB.same hs₉ (List.mem_singleton_self _)) (fun a ha q => by rcases howns a ha with e | e <;> rw [e] at q <;> first | exact hPL (List.mem_singleton.mp q).symm | exact hPC (List.mem_singleton.mp q).symm)
        have hle := le_same hle hs₉ (hoff P (by simp))
        have hD := PlainL_same hD hs₉ hDP
        have hW' := PlainL_same hW' hs₉ hWP
        obtain ⟨ot, hot, rt⟩ := id ht₈
        have ht₉ : IsTup h₉ a₂ _ := ⟨ot, (hs₉.2 a₂ (fun q => ha₂X (by rw [q]; simp))).trans hot, rt⟩
        refine wpAny_execs_cons (sv_append hV m6 hD ?_)
        walk_at "zev"
        refine ⟨its, hD, by rw [← Array.length_toList]; omega, fun h₁₀ hD₁₀ hs₁₀ => ?_⟩
        dsimp only
        have hV := hV.kb (KB.same hs₁₀ (List.mem_singleton_self _)) (fun a ha q => by rcases howns a ha with e | e <;> rw [e] at q <;> first | exact hDL (List.mem_singleton.mp q).symm | exact hDC (List.mem_singleton.mp q).symm)
        have hle := le_same hle hs₁₀ hDg
        have hW' := PlainL_same hW' hs₁₀ (Ne.symm hDW)
        have hP₁₀ := PlainL_same hP₉ hs₁₀ (Ne.symm hDP)
        have ht₁₀ : IsTup h₁₀ a₂ _ := ⟨ot, (hs₁₀.2 a₂ ha₂D).trans ((hs₉.2 a₂ (fun q => ha₂X (by rw [q]; simp))).trans hot), rt⟩
        walk_at "zev"
        refine sv_append hV m4 hW' ?_
        walk_at "zev"
        refine ⟨_, hW', by rw [List.size_toArray]; omega, fun h₁₁ hW₁₁ hs₁₁ => ?_⟩
        dsimp only
        have hV := hV.kb (KB.same hs₁₁ (List.mem_singleton_self _)) (fun a ha q => by rcases howns a ha with e | e <;> rw [e] at q <;> first | exact hWL (List.mem_singleton.mp q).symm | exact hWC (List.mem_singleton.mp q).symm)
        have hle := le_same hle hs₁₁ (hoff W (by simp))
        have hD₁₁ := PlainL_same hD₁₀ hs₁₁ hDW
        have hP₁₁ := PlainL_same hP₁₀ hs₁₁ (Ne.symm hWP)
        have ht₁₁ : IsTup h₁₁ a₂ _ := ⟨ot, (hs₁₁.2 a₂ (fun q => ha₂X (by rw [q]; simp))).trans ((hs₁₀.2 a₂ ha₂D).trans ((hs₉.2 a₂ (fun q => ha₂X (by rw [q]; simp))).trans hot)), rt⟩
        walk_at "zev"
        have hkbF : KB [s.heap.objs.size, W, P] h h₁₁ := by
          intro b o' hb e
          have nb : b ≠ s.heap.objs.size ∧ b ≠ W ∧ b ≠ P := by simpa using hb
          have nD : b ≠ D := fun q => by rw [q, hDn] at e; cases e
          exact (hs₁₁.2 b nb.2.1).trans ((hs₁₀.2 b nD).trans ((hs₉.2 b nb.2.2).trans (hkb b o' (fun q => nb.1 (List.mem_singleton.mp q)) e)))
        refine hKK _ _ ⟨_, h₁₁, _, rfl, hV, hkbF, hide h₁₁ [s.heap.objs.size, s.heap.objs.size + 1, W, P, h₆.objs.size], wv ++ [.ref D], pv ++ [.ref a₂], le_hide (hsg.trans hle) hsgX, hide_le _ _, hide_off _ _, ?_, ?_, ?_, ?_, m1, m2, m3, m4, m5⟩
        · have : (wv ++ [Value.ref D]).toArray = wv.toArray.push (Value.ref D) := by simp
          rw [this]; exact hW₁₁
        · rw [hstep, treeAdd, if_neg (fun q => by rw [q] at hpos; simp at hpos)]
          refine All2.snoc (hwa.mono fun _ _ r => Ints.le r (le_hide hle hoff)) ⟨D, _, rfl, isList_hide (by
            have := hD₁₁.isList
            rw [← Array.toArray_toList (xs := its.push _)] at this
            exact this) hDX, ?_⟩
          rw [Array.toList_push]
          exact intsAre_all2.mp (intsAre_snoc hint)
        · have : (pv ++ [Value.ref a₂]).toArray = pv.toArray.push (Value.ref a₂) := by simp
          rw [this]; exact hP₁₁
        · rw [hstep, treeAdd, if_neg (fun q => by rw [q] at hpos; simp at hpos)]
          exact All2.snoc (hpa.mono fun _ _ r => PI.le r (le_hide hle hoff)) ⟨a₂, _, _, rfl, isTup_hide ht₁₁ ha₂X⟩
      · have hemp : wy = [] := by
          have : ¬ (0 : Int) < its.toList.length := by simpa using hb
          exact List.eq_nil_of_length_eq_zero (by walk_at "om")
        walk_at "zev"
        refine sv_append hV m4 hW' ?_
        walk_at "zev"
        refine ⟨_, hW', by rw [List.size_toArray]; omega, fun h₁₁ hW₁₁ hs₁₁ => ?_⟩
        dsimp only
        have hV := hV.kb (KB.same hs₁₁ (List.mem_singleton_self _)) (fun a ha q => by rcases howns a ha with e | e <;> rw [e] at q <;> first | exact hWL (List.mem_singleton.mp q).symm | exact hWC (List.mem_singleton.mp q).symm)
        have hle := le_same hle hs₁₁ (hoff W (by simp))
        have hD₁₁ := PlainL_same hD hs₁₁ hDW
        have hP₁₁ := PlainL_same hP' hs₁₁ (Ne.symm hWP)
        walk_at "zev"
        have hkbF : KB [s.heap.objs.size, W, P] h h₁₁ := (kLWP' hkb).trans (KB.same hs₁₁ (by simp))
        refine hKK _ _ ⟨_, h₁₁, _, rfl, hV, hkbF, hide h₁₁ [s.heap.objs.size, s.heap.objs.size + 1, W, P, h₆.objs.size], wv ++ [.ref D], pv, le_hide (hsg.trans hle) hsgX, hide_le _ _, hide_off _ _, ?_, ?_, hP₁₁, ?_, m1, m2, m3, m4, m5⟩
        · have : (wv ++ [Value.ref D]).toArray = wv.toArray.push (Value.ref D) := by simp
          rw [this]; exact hW₁₁
        · rw [hstep, treeAdd, if_pos hemp]
          refine All2.snoc (hwa.mono fun _ _ r => Ints.le r (le_hide hle hoff)) ⟨D, its.toList, rfl, isList_hide (by rw [Array.toArray_toList]; exact hD₁₁.isList) hDX, ?_⟩
          rw [hemp] at hint
          exact intsAre_all2.mp hint
        · rw [hstep, treeAdd, if_pos hemp]
          exact hpa.mono fun _ _ r => PI.le r (le_hide hle hoff)
  · rintro m h tk ⟨g, wv, pv, hsg, hle, hoff, hW, hwa, hP, hpa, m1, m2, m3, m4, m5⟩ hk hV
    have offG : g.get? s.heap.objs.size = none := hoff _ (by simp)
    have offC : g.get? (s.heap.objs.size + 1) = none := hoff _ (by simp)
    have C := C.le hsg
    have hVh := hV
    obtain ⟨hlen1, hlen2⟩ := treeF_len n root picks (n - 1)
    have hpvl : pv.length ≤ n - 1 := by rw [hpa.length]; exact hlen2
    refine wpAny_execs_cons (wpAny_Assign_Name ?_)
    walk_at "zev"
    have hdn : ∀ x : Addr, x ≠ h.objs.size → x < h.objs.size + 1 → x < h.objs.size := fun x h1 h2 => by
      have h1' : @Ne Nat x h.objs.size := h1
      have h2' : @LT.lt Nat _ x (h.objs.size + 1) := h2
      exact (show @LT.lt Nat _ x h.objs.size by walk_at "om")
    refine dict_pairs hh hP (fun i h' => ∃ kvs, h'.DictOf (intKind prog w) h.objs.size kvs ∧ RepI kvs (((treeF n root picks (n - 1)).2).take i)) ?_ ?_ ?_ ?_
    · intro h' _ hg
      exact ⟨[], ⟨_, #[], 0, hg, ⟨rfl, rfl, rfl⟩, rfl, fun _ he => by simp at he, Pairs.nil, List.nodup_nil⟩, Nat.zero_le _, fun k => rfl⟩
    · rintro i h1 h2 ⟨kvs, ⟨od, esd, ep, hod, r⟩, hr⟩ k
      exact ⟨kvs, ⟨od, esd, ep, k _ _ (Nat.le_refl _) hod, r⟩, hr⟩
    · rintro A' i v h1 tk1 hA hAu hv ⟨kvs, hdx, hr⟩ hleh
      obtain ⟨p, hp, a, t, u, rfl, htt⟩ := hpa.get hv
      refine ⟨a, _, _, rfl, htt.keeps (hle.trans hleh), ?_⟩
      refine wpAny_dictSet_pairs (knd := intKind prog w) (k := p.1) (by simp [intKind, Value.isInt]) hdx (fun h' hd' hs' => ?_) (by have := hr.1; simp only [List.length_take] at this; simp only [sizeLine]; omega)
      refine ⟨h', _, rfl, KB.same hs' (List.mem_singleton_self _), _, hd', ?_⟩
      have : ((treeF n root picks (n - 1)).2).take (i + 1) = ((treeF n root picks (n - 1)).2).take i ++ [p] := by rw [List.take_add_one, hp]; rfl
      rw [this]; exact repI_snoc hr
    · rintro h₈ tk₈ ⟨kvs, hdx, hr⟩ hle₈
      dsimp only at hle₈ ⊢
      rw [hpa.length, List.take_length] at hr
      have hV := hV.le hle₈
      have hle := hle.trans hle₈
      have hW := hW.keeps hle₈
      have hsys : ((h.objs.size : Addr) == sysModules) = false := sys_low (C.lim.keeps ‹Le g h›) (Nat.le_refl _)
      refine st_vc hV ?_ hcp
      intro h₉ tk₉ hV hs₉
      dsimp only
      have hle := le_same hle hs₉ offC
      have hW := PlainL_same hW hs₉ hWC
      have hdC : @Ne Addr h.objs.size (s.heap.objs.size + 1) := neN (by have : @LT.lt Nat _ (s.heap.objs.size + 1) h.objs.size := (hVh.cel _ _ hcp).lt; omega)
      have hdx : h₉.DictOf (intKind prog w) h.objs.size kvs := hdx.sameBut hs₉ hdC
      have hcpar : ∀ x : Str, x = Str.ofString "ways" ∨ x = Str.ofString "n" → (x = Str.ofString "parents") = False := by
        rintro x (rfl | rfl) <;> decide
      walk_at "zev"
      refine ev_comp (by rfl) (by rfl) (by rfl) ?_
      walk_at "zev"
      refine range1 fun r' h₁₀ tk₁₀ hk₁₀ hrf' hrr' => ?_
      dsimp only at hk₁₀ hrf' hrr'
      have hV := hV.le hk₁₀
      have hle := hle.trans hk₁₀
      have hW := hW.keeps hk₁₀
      have hdx : h₁₀.DictOf (intKind prog w) h.objs.size kvs := let ⟨od, esd, ep, hod, r⟩ := hdx; ⟨od, esd, ep, hk₁₀ _ _ hod, r⟩
      obtain ⟨g2, q1, q2, q3, q4⟩ := freeze hle offG
      have hdL : @Ne Addr h.objs.size s.heap.objs.size := neN (by have : @LT.lt Nat _ s.heap.objs.size h.objs.size := hVh.ltL; omega)
      have hdg : g2.DictOf (intKind prog w) h.objs.size kvs := let ⟨od, esd, ep, hod, r⟩ := hdx; ⟨od, esd, ep, q4 _ _ hdL hod, r⟩
      refine comp_rg (k := 0) (n := n) OptIs (fun r _ => r.any) (fun v => some (look1 (treeF n root picks (n - 1)).2 v)) g2 [s.heap.objs.size] hh hrr' (by walk_at "om") (by walk_at "om") (by walk_at "om") (by walk_at "om") (by walk_at "om") (by walk_at "om") hV ?_ (fun h l => cvars0 hV ?_ (by rfl) (by rfl) (by rfl) l) (fun _ => sto_l) (.inl rfl) q2
        (by intro a ha; rw [List.mem_singleton.mp ha]; exact ⟨let ⟨_, ⟨o, _, _, ho, _⟩, _⟩ := hV.loc; ⟨o, ho⟩, q3⟩) ?_ ?_
      · intro p hp
        simp only [List.mem_cons, List.not_mem_nil, or_false] at hp
        rcases hp with rfl; rfl
      · intro p hp
        simp only [List.mem_cons, List.not_mem_nil, or_false] at hp
        rcases hp with rfl; rfl
      · intro j tj g3 h₃ tk₃ hj hg₁ hg₂ hex hV
        rw [Int.zero_add] at hV
        refine tests_nil ⟨_, _, rfl, Le.rfl, rfl, fun _ => ?_⟩
        have hdx : h₃.DictOf (intKind prog w) h.objs.size kvs := let ⟨od, esd, ep, hod, r⟩ := hdg; ⟨od, esd, ep, hg₂ _ _ (hg₁ _ _ hod), r⟩
        refine Call_method1 (by rfl) (by rfl) (by rfl) ?_
        walk_at "zev"
        refine ⟨"dict", "dict.get", PySem.F.plainAttrs_dict, PySem.F.slot_dict_get, PySem.F.type_dict_get, hdx.typeIs, hdx.mapOf.noDict, wpAny_dict_get1 (knd := intKind prog w) hsys ?_⟩
        walk_at "zev"
        refine ⟨(j : Int), _, by simp [intKind, Value.isInt], hdx.mapOf, h₃, _, _, rfl, Le.rfl, rfl, ?_⟩
        have hrk := hr.2 (j : Int)
        cases hlk : look1 (treeF n root picks (n - 1)).2 (j : Int) with
        | none => rw [hlk] at hrk; rw [hrk]; rfl
        | some x => rw [hlk] at hrk; obtain ⟨tx, hx⟩ := hrk; rw [hx]; exact ⟨tx, rfl⟩
      · intro ys g3 h₃ tk₃ m' hg₁ hg₂ hoff₃ hys hD hle₃ hnC
        refine comp_value hoff₃ hg₂ hD hle₃ hnC fun h₁₁ hD hle₁₁ hgle hnew => ?_
        dsimp only at hD hle₁₁ hgle hnew ⊢
        have hV := hV.le hle₁₁
        have hle := hle.trans hle₁₁
        have hW := hW.keeps hle₁₁
        walk_at "zev"
        refine ⟨by simp, fun rt h₁₂ hk₁₂ hf₁₂ ht₁₂ => ?_⟩
        dsimp only at hk₁₂ hf₁₂ ht₁₂ ⊢
        rw [List.filterMap_eq_map'] at hys
        refine hQ rt _ _ h₁₂ _ (hsg.trans (hle.trans hk₁₂)) ht₁₂ ⟨_, ys, rfl, (hD.keeps hk₁₂).isList, hys.mono fun _ _ r => r.any⟩ ⟨_, wv, rfl, (hW.keeps hk₁₂).isList, hwa.mono fun _ _ r => Ints.le r (hle.trans hk₁₂)⟩
end

-- 28_comp2r.lean
-- needs: 01 02 03 04 05 06 08 09 10 11 12 13 14 15 16 21
theorem plainL_kb1 {h h' : Heap} {a : Addr} {its : Array Value} {X : List Addr} (x : PlainL h a its) (k : KB X h h') (n : a ∉ X) : PlainL h' a its := let ⟨o, m, e, r⟩ := x; ⟨o, m, k a o n e, r⟩
section
variable {prog : Program} {w : World} {A : Around} {E : Value → Shared → Prop} {s : Shared} {env : Env}
theorem ev_comp2 {elt i0 i1 : Expr} {x y : Str} {px py : Pos} {scope : Scope} {cl : List (Str × Addr)} {pos : Pos} {Q : Value → Shared → Prop}
    (hclos : closureFor scope env = pure cl) (hkind : scope.kind = .function) (hnames : (scope.names.all fun y => y.2 != .local || scope.names.lookup y.1 == some .local) = true)
    (h : wpAny (model prog w) A (eval i0 env) (fun xv s₁ => wpAny (model prog w) A (pyIter xv) (fun it s₂ => wpAny (model prog w) A (newList []) (fun acc s₃ => wpAny (model prog w) A (newFunctionEnv scope env.globals cl [] env.qual none .none (some env)) (fun cenv s₄ =>
      codeAny (model prog w) A (.compStart (.ListComp elt [⟨.Name x px, i0, [], 0⟩, ⟨.Name y py, i1, [], 0⟩] scope pos) 0 it acc { cenv with scope := relabel scope env }) (EvRR Q acc cenv.locals) s₄) E s₃) E s₂) E s₁) E s)
    (hs : ∀ x, foldedSetIterable i0 env x = pure x := by intro _; rfl) :
    wpAny (model prog w) A (eval (.ListComp elt [⟨.Name x px, i0, [], 0⟩, ⟨.Name y py, i1, [], 0⟩] scope pos) env) Q E s := by
  rw [eval_ListComp]
  refine wpAny_comprehension_free (use := none) rfl hs hclos hkind (fun y hy hl => by have := List.all_eq_true.mp hnames y hy; rw [hl] at this; simpa using this) (wpAny_mono h (fun xv s₁ h₁ => wpAny_mono h₁ (fun it s₂ h₂ => ?_) fun _ _ e => e) fun _ _ e => e)
  refine wpAny_mono h₂ (fun acc s₃ h₃ => wpAny_mono h₃ (fun cenv s₄ h₄ => codeAny_mono h₄ fun r s' hr => ?_) fun _ _ e => e) fun _ _ e => e
  cases r with
  | ok f => exact hr
  | error e => exact hr.elim
def outs {β : Type} (F : Nat → Nat → β) (n1 i : Nat) : List β := (List.range i).flatMap fun i => (List.range n1).map (F i)
theorem outs_succ {β : Type} (F : Nat → Nat → β) (n1 i : Nat) : outs F n1 (i + 1) = outs F n1 i ++ (List.range n1).map (F i) := by
  simp [outs, List.range_succ, List.flatMap_append]
/-- [.. for x in range(n0) for y in range(n1)] -/
theorem comp2_rg {elt i0 i1 : Expr} {x y : Str} {px py : Pos} {scope : Scope} {cl : List (Str × Addr)} {pos : Pos} {n0 n1 : Nat} {m : Str → Option Value} {RR : Value → Addr → Result → Shared → Prop} {r : Addr}
    {β : Type} (R : Heap → Value → β → Prop) (hR : ∀ {h h' v b}, R h v b → Le h h' → R h' v b) (F : Nat → Nat → β) (g₀ : Heap)
    (hh : A.handled = none) (hr : IsRg s.heap r 0 n0) (hn0 : n0 < 30) (hn1 : n1 < 30)
    (V : Vars env s.heap m) (hcap : ∀ p ∈ cl, env.cells.lookup p.1 = some p.2)
    (hCV : ∀ h, Le s.heap h → Vars (cenvOf scope cl h.objs.size env) (pushCells (h.push { cls := .type "dict", data := .dict #[] }) scope.names) (cm0 scope env m))
    (hown : ∀ C : Nat, ∀ a ∈ owns (cenvOf scope cl C env), a = C ∨ a ∈ cl.map (·.2))
    (hSx : ∀ C : Nat, Sto (cenvOf scope cl C env) x C) (hSy : ∀ C : Nat, Sto (cenvOf scope cl C env) y C) (hxy : x ≠ y)
    (hg₀ : Le g₀ s.heap) (hs1 : ∀ C : Nat, ∀ v, foldedSetIterable i1 (cenvOf scope cl C env) v = pure v)
    (inner : ∀ m' h tk, Le g₀ h → Vars (cenvOf scope cl (s.heap.objs.size + 2) env) h m' → (∀ z, z ≠ x → z ≠ y → m' z = cm0 scope env m z) →
      wpAny (model prog w) A (eval i1 (cenvOf scope cl (s.heap.objs.size + 2) env)) (fun xv s₃ => ∃ h₃ tk₃ r1, s₃ = { s with heap := h₃, toks := tk₃ } ∧ xv = .ref r1 ∧ Le h h₃ ∧ IsRg h₃ r1 0 n1) (fun _ _ => False) { s with heap := h, toks := tk })
    (turn : ∀ i j t t' m' g h tk X, i < n0 → j < n1 → Le g₀ g → Le g h → (∀ a ∈ X, ∃ o, h.get? a = some o) → Vars (cenvOf scope cl (s.heap.objs.size + 2) env) h m' → (∀ z, z ≠ x → z ≠ y → m' z = cm0 scope env m z) → m' x = some (.int (i : Int) t) → m' y = some (.int (j : Int) t') →
      wpAny (model prog w) A (eval elt (cenvOf scope cl (s.heap.objs.size + 2) env)) (fun v s₄ => ∃ h₄ tk₄, s₄ = { s with heap := h₄, toks := tk₄ } ∧ Le h h₄ ∧ R (hide h₄ X) v (F i j)) (fun _ _ => False) { s with heap := h, toks := tk })
    (done : ∀ ys g h tk m', Le g₀ g → Le g h → (∀ a ∈ cX s.heap.objs.size 0 [], g.get? a = none) → All2 (R g) ys (outs F n1 n0) → PlainL h (s.heap.objs.size + 1) ys.toArray → Le s.heap h → h.Ns (s.heap.objs.size + 2) m' →
      RR (.ref (s.heap.objs.size + 1)) (s.heap.objs.size + 2) (.ok .next) { s with heap := h, toks := tk }) :
    wpAny (model prog w) A (pyIter (.ref r)) (fun it s₂ => wpAny (model prog w) A (newList []) (fun acc s₃ => wpAny (model prog w) A (newFunctionEnv scope env.globals cl [] env.qual none .none (some env)) (fun cenv s₄ =>
      codeAny (model prog w) A (.compStart (.ListComp elt [⟨.Name x px, i0, [], 0⟩, ⟨.Name y py, i1, [], 0⟩] scope pos) 0 it acc { cenv with scope := relabel scope env }) (RR acc cenv.locals) s₄) E s₃) E s₂) E s := by
  obtain ⟨tr, ur, vr, hr⟩ := hr
  refine wpAny_pyIter_range hr (small_one (by walk_at "om") (by walk_at "om") (by walk_at "om") (by walk_at "om")) ?_
  refine wpAny_newObj_type (new_cenv ?_)
  have hlt : ∀ p ∈ cl, @LT.lt Nat _ p.2 s.heap.objs.size := cap_lt V hcap
  generalize hio : ({ cls := .type "range_iterator", data := .fields #[rawInt 0, rawInt (Builtin.Range.rangeSize 0 (n0 : Int) 1), rawInt 1] } : Obj) = io
  have hiof : io.isFreed = false := by rw [← hio]; rfl
  generalize hH1 : (s.heap.push io).push { cls := .type "list", dict := none, data := .seq ([] : List Value).toArray } = H1
  have hsz : H1.objs.size = s.heap.objs.size + 2 := by rw [← hH1, Heap.size_push, Heap.size_push]
  have le1 : Le s.heap H1 := by rw [← hH1]; exact (Le.push _).trans (Le.push _)
  have hI1 : H1.get? s.heap.objs.size = some io := by rw [← hH1]; exact Heap.get?_push_of_some _ (Heap.get?_push_size _ hiof)
  have hD1 : H1.get? (s.heap.objs.size + 1) = some { cls := .type "list", dict := none, data := .seq ([] : List Value).toArray } := by
    rw [← hH1]
    have := Heap.get?_push_size (s.heap.push io) (o := { cls := .type "list", dict := none, data := .seq ([] : List Value).toArray }) rfl
    rw [Heap.size_push] at this
    exact this
  have V1 := hCV H1 le1
  rw [hsz] at V1
  have hsz' : (s.heap.push io).objs.size = s.heap.objs.size + 1 := Heap.size_push ..
  dsimp only
  rw [hsz, hsz']
  generalize hH : pushCells (H1.push { cls := .type "dict", data := .dict #[] }) scope.names = H at V1 ⊢
  have le2 : Le H1 H := by rw [← hH]; exact (Le.push _).trans fun b o e => pushCells_keeps _ _ b o e
  have W0 := Walks.range (prog := prog) (w := w) hh s.heap.objs.size 0 1 n0
  have hst0 : IsRangeIter H s.heap.objs.size (0 + ((0 : Nat) : Int) * 1) ((n0 : Int) - ((0 : Nat) : Int)) 1 := by
    have := le2 _ _ hI1
    rw [← hio, rangeSize_nat] at this
    show H.get? _ = _
    simpa using this
  have hPD : PlainL H (s.heap.objs.size + 1) ([] : List Value).toArray := ⟨_, _, le2 _ _ hD1, rfl, rfl, rfl⟩
  have hx3 : ∀ {a : Addr}, a ∈ [s.heap.objs.size + 1, s.heap.objs.size + 2, s.heap.objs.size] → a = s.heap.objs.size + 1 ∨ a = s.heap.objs.size + 2 ∨ a = s.heap.objs.size := fun {a} h => by simpa using h
  have off₀ : ∀ a ∈ [s.heap.objs.size + 1, s.heap.objs.size + 2, s.heap.objs.size], g₀.get? a = none := fun a ha => none_back hg₀ (Heap.get?_none_of_le (by rcases hx3 ha with rfl | rfl | rfl <;> simp))
  have nI0 : @Ne Addr s.heap.objs.size (s.heap.objs.size + 1) := neN (by walk_at "om")
  have nI2 : @Ne Addr s.heap.objs.size (s.heap.objs.size + 2) := neN (by walk_at "om")
  have nDC : @Ne Addr (s.heap.objs.size + 1) (s.heap.objs.size + 2) := neN (by walk_at "om")
  have ownsNe : ∀ {b : Addr}, b = s.heap.objs.size ∨ b = s.heap.objs.size + 1 ∨ @LT.lt Nat _ (s.heap.objs.size + 2) b → ∀ a ∈ owns (cenvOf scope cl (s.heap.objs.size + 2) env), a ∉ [b] := fun {b} hb a ha q => by
    have e : a = b := List.mem_singleton.mp q
    rcases hown _ a ha with e1 | e1
    · have e2 : @Eq Nat a (s.heap.objs.size + 2) := e1
      rcases hb with hb | hb | hb
      · have e3 : @Eq Nat b s.heap.objs.size := hb
        have e4 : @Eq Nat a b := e
        omega
      · have e3 : @Eq Nat b (s.heap.objs.size + 1) := hb
        have e4 : @Eq Nat a b := e
        omega
      · have e4 : @Eq Nat a b := e
        omega
    · obtain ⟨p, hp, e2⟩ := List.mem_map.mp e1
      have e3 : @LT.lt Nat _ a s.heap.objs.size := by rw [← e2]; exact hlt p hp
      have e4 : @Eq Nat a b := e
      rcases hb with hb | hb | hb
      · have e5 : @Eq Nat b s.heap.objs.size := hb
        omega
      · have e5 : @Eq Nat b (s.heap.objs.size + 1) := hb
        omega
      · omega
  have olen : ∀ i, (outs F n1 i).length = i * n1 := fun i => by
    induction i with
    | zero => simp [outs]
    | succ i ih => rw [outs_succ, List.length_append, ih, List.length_map, List.length_range, Nat.succ_mul]
  show codeAny (model prog w) A (.compStart (.ListComp elt [⟨.Name x px, i0, [], 0⟩, ⟨.Name y py, i1, [], 0⟩] scope pos) 0 (.ref s.heap.objs.size) (.ref (s.heap.objs.size + 1)) (cenvOf scope cl (s.heap.objs.size + 2) env)) (RR (.ref (s.heap.objs.size + 1)) (s.heap.objs.size + 2)) { s with heap := H }
  have loop : codeAny (model prog w) A (.compLoop (.ListComp elt [⟨.Name x px, i0, [], 0⟩, ⟨.Name y py, i1, [], 0⟩] scope pos) 0 (.ref s.heap.objs.size) (.ref (s.heap.objs.size + 1)) (cenvOf scope cl (s.heap.objs.size + 2) env)) (RR (.ref (s.heap.objs.size + 1)) (s.heap.objs.size + 2)) { s with heap := H } := by
    refine codeAny_compLoop_2a (fun k s' => ∃ h' tk m' i ys g, s' = { s with heap := h', toks := tk } ∧ IsRangeIter h' s.heap.objs.size (0 + ((i : Nat) : Int) * 1) ((n0 : Int) - ((i : Nat) : Int)) 1 ∧ Vars (cenvOf scope cl (s.heap.objs.size + 2) env) h' m' ∧ (∀ z, z ≠ x → z ≠ y → m' z = cm0 scope env m z) ∧
      PlainL h' (s.heap.objs.size + 1) (List.toArray ys) ∧ Le g₀ g ∧ Le g h' ∧ (∀ a ∈ [s.heap.objs.size + 1, s.heap.objs.size + 2, s.heap.objs.size], g.get? a = none) ∧ All2 (R g) ys (outs F n1 i) ∧ i ≤ n0 ∧ k = n0 + 1 - i ∧ Le s.heap h') ?_ (n0 + 1)
      ⟨H, s.toks, _, 0, [], g₀, rfl, hst0, V1, fun _ _ _ => rfl, hPD, Le.rfl, hg₀.trans (le1.trans le2), off₀, trivial, Nat.zero_le _, rfl, le1.trans le2⟩ (hs1 _)
    rintro k s' ⟨h', tk, m', i, ys, g, rfl, hst, V', hm', hD, hg1, hg2, hoff, hys, hi, rfl, hle'⟩
    by_cases hlt' : i < n0
    · refine W0.item i _ _ _ hlt' hst fun v h₁ tk₁ hP hst₁ hk₁ => ?_
      obtain ⟨ti, rfl⟩ := hP
      rw [Int.mul_one, Int.zero_add]
      have kI : KB [s.heap.objs.size] h' h₁ := fun b o n e => hk₁ b o n e
      have V₁ := V'.kb kI (ownsNe (.inl rfl))
      refine wpAny_assign_Name (hSx _ _ _ _ _ _ _ _ V₁ fun h₂ tk₂ V₂ hs₂ => ?_)
      have hD₂ := PlainL_same (plainL_kb1 hD kI (fun q => nI0 (List.mem_singleton.mp q).symm)) hs₂ nDC
      have hg2' : Le g h₂ := le_same (kI.le hg2 (by intro a ha; rw [List.mem_singleton.mp ha]; exact hoff _ (by simp))) hs₂ (hoff _ (by simp))
      have hle₂ : Le s.heap h₂ := le_same (kI.le hle' (by intro a ha; rw [List.mem_singleton.mp ha]; exact fresh_none _)) hs₂ (Heap.get?_none_of_le (Nat.le_add_right ..))
      have hst₂ := W0.frame _ _ h₂ hst₁ fun b hb o e => (hs₂.2 b (by rw [List.mem_singleton.mp hb]; exact nI2)).trans e
      have hm₂ : ∀ z, z ≠ x → z ≠ y → (upd m' x (.int (i : Int) ti)) z = cm0 scope env m z := fun z h1 h2 => by simp only [upd, if_neg h1]; exact hm' z h1 h2
      refine wpAny_noRaise (wpAny_mono (inner _ h₂ tk₂ (hg1.trans hg2') V₂ hm₂) (fun xv s₃ q => ?_) fun _ _ e => e)
      obtain ⟨h₃, tk₃, r1, rfl, rfl, le₃, hr1⟩ := q
      obtain ⟨ta, tb, tc, hr1⟩ := hr1
      refine wpAny_pyIter_range hr1 (small_one (by walk_at "om") (by walk_at "om") (by walk_at "om") (by walk_at "om")) ?_
      obtain ⟨I1, hI1d⟩ : ∃ I1 : Addr, I1 = h₃.objs.size := ⟨_, rfl⟩
      have leI : Le h₃ (h₃.push { cls := .type "range_iterator", data := .fields #[rawInt 0, rawInt (Builtin.Range.rangeSize 0 (n1 : Int) 1), rawInt 1] }) := Le.push _
      have hnI : h₃.get? I1 = none := by rw [hI1d]; exact fresh_none _
      have hDl : @LT.lt Nat _ (s.heap.objs.size + 1) h₃.objs.size := (hD₂.keeps le₃).lt
      have hCl : @LT.lt Nat _ (s.heap.objs.size + 2) h₃.objs.size := (V₂.le le₃).ltL
      have hI1e : @Eq Nat I1 h₃.objs.size := hI1d
      have W1 := Walks.range (prog := prog) (w := w) hh I1 0 1 n1
      have hst1 : IsRangeIter (h₃.push { cls := .type "range_iterator", data := .fields #[rawInt 0, rawInt (Builtin.Range.rangeSize 0 (n1 : Int) 1), rawInt 1] }) I1 (0 + ((0 : Nat) : Int) * 1) ((n1 : Int) - ((0 : Nat) : Int)) 1 := by
        rw [rangeSize_nat, hI1d]
        show Heap.get? _ _ = _
        simpa using Heap.get?_push_size h₃ (o := { cls := .type "range_iterator", data := .fields #[rawInt 0, rawInt (((((n1 : Int) - 0).toNat : Nat)) : Int), rawInt 1] }) rfl
      rw [← hI1d]
      have m2x : (upd m' x (.int (i : Int) ti)) x = some (.int (i : Int) ti) := by simp [upd]
      have loop1 : ∀ R' : Result → Shared → Prop, (∀ h' tk m' ys g, IsRangeIter h' s.heap.objs.size (0 + ((i + 1 : Nat) : Int) * 1) ((n0 : Int) - ((i + 1 : Nat) : Int)) 1 → Vars (cenvOf scope cl (s.heap.objs.size + 2) env) h' m' → (∀ z, z ≠ x → z ≠ y → m' z = cm0 scope env m z) →
            PlainL h' (s.heap.objs.size + 1) (List.toArray ys) → Le g₀ g → Le g h' → (∀ a ∈ [s.heap.objs.size + 1, s.heap.objs.size + 2, s.heap.objs.size], g.get? a = none) → All2 (R g) ys (outs F n1 (i + 1)) → Le s.heap h' → R' (.ok .next) { s with heap := h', toks := tk }) →
          codeAny (model prog w) A (.compLoop (.ListComp elt [⟨.Name x px, i0, [], 0⟩, ⟨.Name y py, i1, [], 0⟩] scope pos) 1 (.ref I1) (.ref (s.heap.objs.size + 1)) (cenvOf scope cl (s.heap.objs.size + 2) env)) R'
          { s with heap := h₃.push { cls := .type "range_iterator", data := .fields #[rawInt 0, rawInt (Builtin.Range.rangeSize 0 (n1 : Int) 1), rawInt 1] }, toks := tk₃ } := by
        intro R' fin
        refine codeAny_compLoop_2b (fun k s' => ∃ h' tk m' j ys g, s' = { s with heap := h', toks := tk } ∧ IsRangeIter h' s.heap.objs.size (0 + ((i + 1 : Nat) : Int) * 1) ((n0 : Int) - ((i + 1 : Nat) : Int)) 1 ∧ IsRangeIter h' I1 (0 + ((j : Nat) : Int) * 1) ((n1 : Int) - ((j : Nat) : Int)) 1 ∧
          Vars (cenvOf scope cl (s.heap.objs.size + 2) env) h' m' ∧ (∀ z, z ≠ x → z ≠ y → m' z = cm0 scope env m z) ∧ m' x = some (.int (i : Int) ti) ∧ PlainL h' (s.heap.objs.size + 1) (List.toArray ys) ∧ Le g₀ g ∧ Le g h' ∧
          (∀ a ∈ [I1, s.heap.objs.size + 1, s.heap.objs.size + 2, s.heap.objs.size], g.get? a = none) ∧ All2 (R g) ys (outs F n1 i ++ (List.range j).map (F i)) ∧ j ≤ n1 ∧ k = n1 + 1 - j ∧ Le s.heap h') ?_ (n1 + 1)
          ⟨_, tk₃, _, 0, ys, g, rfl, W0.frame _ _ _ hst₂ fun b _ o e => leI _ _ (le₃ _ _ e), hst1, (V₂.le le₃).le leI, hm₂, m2x, (hD₂.keeps le₃).keeps leI, hg1, (hg2'.trans le₃).trans leI, ?_, by simpa using hys, Nat.zero_le _, rfl, (hle₂.trans le₃).trans leI⟩
        · rintro k s' ⟨h', tk, m', j, ys, g, rfl, hst, hstj, V', hm', hmx, hD, hg1, hg2, hoff, hys, hj, rfl, hle'⟩
          have hex : ∀ a ∈ [I1, s.heap.objs.size + 1, s.heap.objs.size + 2, s.heap.objs.size], ∃ o, h'.get? a = some o := by
            intro a ha
            simp only [List.mem_cons, List.not_mem_nil, or_false] at ha
            rcases ha with rfl | rfl | rfl | rfl
            · exact ⟨_, hstj⟩
            · obtain ⟨o', _, ho', _⟩ := hD; exact ⟨o', ho'⟩
            · obtain ⟨_, ⟨o', _, _, ho', _⟩, _⟩ := V'.loc; exact ⟨o', ho'⟩
            · exact ⟨_, hst⟩
          have nJN : @Ne Addr s.heap.objs.size I1 := neN (by walk_at "om")
          have nJD : @Ne Addr (s.heap.objs.size + 1) I1 := neN (by walk_at "om")
          have nJC : @Ne Addr I1 (s.heap.objs.size + 2) := neN (by walk_at "om")
          by_cases hlt'' : j < n1
          · refine W1.item j _ _ _ hlt'' hstj fun v h₄ tk₄ hP hstj₄ hk₄ => ?_
            obtain ⟨tj, rfl⟩ := hP
            rw [Int.mul_one, Int.zero_add]
            have kI : KB [I1] h' h₄ := fun b o n e => hk₄ b o n e
            have V₄ := V'.kb kI (ownsNe (.inr (.inr (by walk_at "om"))))
            refine wpAny_assign_Name (hSy _ _ _ _ _ _ _ _ V₄ fun h₅ tk₅ V₅ hs₅ => ?_)
            have hD₅ := PlainL_same (plainL_kb1 hD kI (fun q => nJD (List.mem_singleton.mp q))) hs₅ nDC
            have hg₅ : Le g h₅ := le_same (kI.le hg2 (by intro a ha; rw [List.mem_singleton.mp ha]; exact hoff _ (by simp))) hs₅ (hoff _ (by simp))
            have hle₅ : Le s.heap h₅ := le_same (kI.le hle' (by intro a ha; rw [List.mem_singleton.mp ha]; exact Heap.get?_none_of_le (show @LE.le Nat _ s.heap.objs.size I1 by walk_at "om"))) hs₅ (Heap.get?_none_of_le (Nat.le_add_right ..))
            have hst₅ : IsRangeIter h₅ s.heap.objs.size (0 + ((i + 1 : Nat) : Int) * 1) ((n0 : Int) - ((i + 1 : Nat) : Int)) 1 := (hs₅.2 _ nI2).trans (kI _ _ (fun q => nJN (List.mem_singleton.mp q)) hst)
            have hstj₅ : IsRangeIter h₅ I1 (0 + ((j + 1 : Nat) : Int) * 1) ((n1 : Int) - ((j + 1 : Nat) : Int)) 1 := (hs₅.2 _ nJC).trans hstj₄
            have hm₅ : ∀ z, z ≠ x → z ≠ y → (upd m' y (.int (j : Int) tj)) z = cm0 scope env m z := fun z h1 h2 => by simp only [upd, if_neg h2]; exact hm' z h1 h2
            have hex₅ : ∀ a ∈ [I1, s.heap.objs.size + 1, s.heap.objs.size + 2, s.heap.objs.size], ∃ o, h₅.get? a = some o := by
              intro a ha
              simp only [List.mem_cons, List.not_mem_nil, or_false] at ha
              rcases ha with rfl | rfl | rfl | rfl
              · exact ⟨_, hstj₅⟩
              · obtain ⟨o', _, ho', _⟩ := hD₅; exact ⟨o', ho'⟩
              · obtain ⟨_, ⟨o', _, _, ho', _⟩, _⟩ := V₅.loc; exact ⟨o', ho'⟩
              · exact ⟨_, hst₅⟩
            refine wpAny_mono (turn i j ti tj _ g h₅ tk₅ [I1, s.heap.objs.size + 1, s.heap.objs.size + 2, s.heap.objs.size] hlt' hlt'' hg1 hg₅ hex₅ V₅ hm₅ (by simp only [upd, if_neg hxy]; exact hmx) (by simp [upd])) (fun v s₆ q => ?_) fun _ _ e => e
            obtain ⟨h₆, tk₆, rfl, le₆, hRv⟩ := q
            have hyl : ys.length < 1000 := by
              rw [hys.length, List.length_append, olen, List.length_map, List.length_range]
              have : i * n1 ≤ 29 * 29 := Nat.mul_le_mul (by walk_at "om") (by walk_at "om")
              omega
            refine list_append_plainL (hD₅.keeps le₆) (fun h₇ hD₇ hs₇ => ?_) (by rw [List.size_toArray, sizeLine]; omega)
            have hst₇ : IsRangeIter h₇ s.heap.objs.size (0 + ((i + 1 : Nat) : Int) * 1) ((n0 : Int) - ((i + 1 : Nat) : Int)) 1 := (hs₇.2 _ nI0).trans (le₆ _ _ hst₅)
            have hstj₇ : IsRangeIter h₇ I1 (0 + ((j + 1 : Nat) : Int) * 1) ((n1 : Int) - ((j + 1 : Nat) : Int)) 1 := (hs₇.2 _ (Ne.symm nJD)).trans (le₆ _ _ hstj₅)
            have hle₆ : Le g (hide h₆ [I1, s.heap.objs.size + 1, s.heap.objs.size + 2, s.heap.objs.size]) := le_hide (hg₅.trans le₆) hoff
            refine ⟨n1 + 1 - (j + 1), by walk_at "om", h₇, tk₆, _, j + 1, ys ++ [v], hide h₆ [I1, s.heap.objs.size + 1, s.heap.objs.size + 2, s.heap.objs.size], rfl, hst₇, hstj₇, (V₅.le le₆).kb (KB.same hs₇ (List.mem_singleton_self _)) (ownsNe (.inr (.inl rfl))), hm₅, by simp only [upd, if_neg hxy]; exact hmx, ?_,
              hg1.trans hle₆, le_same (hide_le _ _) hs₇ (hide_off _ _ _ (by simp)), hide_off _ _, ?_, hlt'', rfl, le_same (hle₅.trans le₆) hs₇ (Heap.get?_none_of_le (Nat.le_succ _))⟩
            · have : (ys ++ [v]).toArray = ys.toArray.push v := by simp
              rw [this]; exact hD₇
            · rw [List.range_succ, List.map_append, ← List.append_assoc]
              exact All2.snoc (hys.mono fun _ _ q => hR q hle₆) hRv
          · obtain rfl : j = n1 := by walk_at "om"
            refine W1.done _ _ _ hstj fun h₄ tk₄ hk₄ => ?_
            have kI : KB [I1] h' h₄ := fun b o n e => hk₄ b o n e
            exact fin h₄ tk₄ m' ys g (kI _ _ (fun q => nJN (List.mem_singleton.mp q)) hst) (V'.kb kI (ownsNe (.inr (.inr (by walk_at "om"))))) hm' (plainL_kb1 hD kI (fun q => nJD (List.mem_singleton.mp q))) hg1
              (kI.le hg2 (by intro a ha; rw [List.mem_singleton.mp ha]; exact hoff _ (by simp))) (fun a ha => hoff a (List.mem_cons_of_mem _ ha)) (by rw [outs_succ]; exact hys) (kI.le hle' (by intro a ha; rw [List.mem_singleton.mp ha]; exact Heap.get?_none_of_le (show @LE.le Nat _ s.heap.objs.size I1 by walk_at "om")))
        · intro a ha
          rcases List.mem_cons.mp ha with rfl | ha
          · exact none_back (hg2'.trans le₃) hnI
          · exact hoff a ha
      refine codeAny_compStart_2b (loop1 _ ?_) (W1.self 0 _ _ _ hst1 (loop1 _ ?_)) <;> exact fun h' tk m' ys g a1 a2 a3 a4 a5 a6 a7 a8 a9 => ⟨n0 + 1 - (i + 1), by walk_at "om", h', tk, m', i + 1, ys, g, rfl, a1, a2, a3, a4, a5, a6, a7, a8, hlt', rfl, a9⟩
    · obtain rfl : i = n0 := by walk_at "om"
      refine W0.done _ _ _ hst fun h₁ tk₁ hk₁ => ?_
      have kI : KB [s.heap.objs.size] h' h₁ := fun b o n e => hk₁ b o n e
      have V₁ := V'.kb kI (ownsNe (.inl rfl))
      obtain ⟨ml, hml, _⟩ := V₁.loc
      refine done ys g h₁ tk₁ ml hg1 (kI.le hg2 (by intro a ha; rw [List.mem_singleton.mp ha]; exact hoff _ (by simp))) ?_ hys (plainL_kb1 hD kI (fun q => nI0 (List.mem_singleton.mp q).symm)) (kI.le hle' (by intro a ha; rw [List.mem_singleton.mp ha]; exact fresh_none _)) hml
      intro a ha
      refine hoff a ?_
      simp only [cX, List.mem_cons, List.mem_append, List.not_mem_nil, or_false] at ha ⊢
      rcases ha with h | h | h | h <;> simp [h]
  exact codeAny_compStart_list loop (W0.self 0 _ _ _ hst0 loop)
end

-- 29_gen.lean
-- needs: 01 02 03 04 05 06 08 09 10 11 12 13 14 15 16
/-- the code at c has its table at P -/
def Tab (h : Heap) (c P : Addr) (ps : Array Value) : Prop := h.IsCode c P ps ∧ h.TableAt c P ps
def Grown (ps ps' : Array Value) : Prop := ∃ more, ps' = ps ++ more
theorem Grown.rfl {ps : Array Value} : Grown ps ps := ⟨#[], by simp⟩
theorem Grown.trans {a b c : Array Value} (x : Grown a b) (y : Grown b c) : Grown a c := by
  obtain ⟨m, rfl⟩ := x
  obtain ⟨n, rfl⟩ := y
  exact ⟨m ++ n, by rw [Array.append_assoc]⟩
theorem Tab.kb {h h' : Heap} {c P : Addr} {ps : Array Value} {X : List Addr} (x : Tab h c P ps) (k : KB X h h') (hc : c ∉ X) (hP : P ∉ X) : Tab h' c P ps := by
  obtain ⟨⟨o, vs, file, tf, flags, tg, inF, text, tt, op, a, r1, r2, r3, r4, r5, r6, b, r⟩, ⟨o', vs', e, r'⟩, t⟩ := x
  exact ⟨⟨o, vs, file, tf, flags, tg, inF, text, tt, op, k _ _ hc a, r1, r2, r3, r4, r5, r6, k _ _ hP b, r⟩, ⟨o', vs', k _ _ hc e, r'⟩, k _ _ hP t⟩
theorem Tab.le {h h' : Heap} {c P : Addr} {ps : Array Value} (x : Tab h c P ps) (l : Le h h') : Tab h' c P ps := x.kb (KB.of_le (X := []) l) (by simp) (by simp)
theorem Tab.ltP {h : Heap} {c P : Addr} {ps : Array Value} (x : Tab h c P ps) : P < h.objs.size := Heap.lt_size x.2.2
theorem Tab.ltC {h : Heap} {c P : Addr} {ps : Array Value} (x : Tab h c P ps) : c < h.objs.size := let ⟨_, _, e, _⟩ := x.2.1; Heap.lt_size e
def BM (mg : Str → Option Value) (h : Heap) : Prop := ∃ bm ob, BMod h mainGlobals mg bm ob
theorem BM.le {mg : Str → Option Value} {h h' : Heap} (x : BM mg h) (l : Le h h') : BM mg h' := let ⟨bm, ob, B⟩ := x; ⟨bm, ob, B.ns.keeps l, B.name, B.ne, l _ _ B.obj, B.cls, B.dict, B.data⟩
section
variable {prog : Program} {w : World} {A : Around} {E : Value → Shared → Prop} {s : Shared} {env : Env} {mg mb : Str → Option Value}
theorem gcode {c P : Addr} {ps : Array Value} {pos : Pos} {q : Str} {scope : Scope} {Q : Value → Shared → Prop} (hc : env.code = .ref c) (ht : Tab s.heap c P ps)
    (h : ∀ code h' tk ps', KB [P] s.heap h' → Tab h' c P ps' → Grown ps ps' → Q code { s with heap := h', toks := tk }) : wpAny (model prog w) A (genexprCode env pos q scope) Q E s := by
  cases hf : codeAmong pos ps.toList with
  | some c' => exact wpAny_genexprCode_hit hc ht.1 hf (h c' s.heap s.toks ps KB.rfl ht Grown.rfl)
  | none => exact wpAny_genexprCodeX hc ht.1 ht.2 hf fun c' h' tk hx _ _ h1 _ h2 _ => h _ h' tk _ (fun b o n e => hx b o (fun q => n (by rw [q]; exact List.mem_singleton_self _)) e) ⟨h1, h2⟩ ⟨_, rfl⟩
/-- a generator that is ready -/
def GenR (prog : Program) (w : World) (A : Around) (a : Addr) (n : Nat) (tr : Nat → Bool) (wr : List Addr) (s : Shared) : Prop :=
  ∃ fp k St, WalksS prog w A.in4 a fp wr (GenOnlyQ k) n (fun j y => y = .bool (tr j)) St ∧ St 0 s
theorem all_gen {a : Addr} {n : Nat} {tr : Nat → Bool} {wr : List Addr} {Q : Value → Shared → Prop} (hg : GenR prog w A a n tr wr s) (hb : AllBare s.gens)
    (h : ∀ h' gs tk, KB wr s.heap h' → AllBare gs → Q (.bool ((List.range n).all tr)) { s with heap := h', gens := gs, toks := tk }) : wpAny (model prog w) A (call (.builtin "all") [.ref a]) Q E s := by
  obtain ⟨fp, k, St, W, hst⟩ := hg
  refine call_all_walkS ?_
  refine (WalksS.in4_1 W).self 0 _ _ _ hst ⟨a, fp, wr, _, n, _, St, tr, rfl, WalksS.in4_1 W, hst, ?_, ?_⟩
  · rintro i v s' Q' E' rfl hq
    exact wpAny_truthy_bool hq
  · intro s' hm
    obtain ⟨h', gs, d, tk, os⟩ := s'
    have e1 : d = s.drawn := hm.drawn
    have e2 : os = s.os := hm.os
    subst e1 e2
    exact h h' gs tk (fun b o n e => hm.heap b o n e) (GenOnlyQ.bare hm.gens hb)
theorem passing_all (n : Nat) : passing (fun _ => true) n 0 = List.range n := by
  unfold passing
  rw [List.drop_zero]
  exact List.filter_eq_self.mpr fun _ _ => rfl
theorem vars_gen {h : Heap} {scope : Scope} {cl : List (Str × Addr)} {C bi : Addr} {code : Value} {m m₂ : Str → Option Value} (hn : h.Ns C m₂) (hc : ∀ p ∈ cl, h.IsCell p.2 (m p.1)) (hlo : (cl.all fun p => scope.names.lookup p.1 != some .local) = true) (hap : cl.Pairwise fun x y => x.2 ≠ y.2) (hlt : ∀ p ∈ cl, p.2 ≠ C) :
    Vars (genEnv scope cl C code bi env) h (fun z => if scope.names.lookup z = some .local then m₂ z else m z) := by
  refine ⟨⟨m₂, hn, fun z hz => ?_⟩, fun z c e => ?_, hap, fun z c e => hlt (z, c) e⟩
  · have hz' : scope.names.lookup z = some .local := hz
    rw [if_pos hz']
  · have e' : cl.lookup z = some c := e
    have := lookup_all hlo e'
    rw [if_neg (by simpa using this)]
    exact hc (z, c) (mem_of_lookup e')
/-- (elt for x in iter), no cell of its own -/
theorem ev_gen {elt iter : Expr} {x : Str} {px : Pos} {scope : Scope} {cl : List (Str × Addr)} {pos : Pos} {Q : Value → Shared → Prop} {c : Addr} {m : Str → Option Value} {g : Heap} {tr : Nat → Bool}
    (hh : A.handled = none) (hroom : A.depth < recursionLimit) (C : Cx mg mb g) (B : BM mg g) (hc : env.code = .ref c)
    (hclos : closureFor scope env = pure cl) (hcell : (scope.names.all fun y => y.2 != .cell) = true) (h0 : scope.names.lookup (".0" : Str) = some NameKind.local) (hx : scope.names.lookup x = some .local) (hkind : scope.kind = .function) (hco : scope.isCoroutine = false)
    (hcap : ∀ p ∈ cl, env.cells.lookup p.1 = some p.2) (hlo : (cl.all fun p => scope.names.lookup p.1 != some .local) = true) (hnd : decide (cl.map (·.1)).Nodup = true)
    (h : wpAny (model prog w) A (eval iter env) (fun xv s₁ => wpAny (model prog w) A (pyIter xv) (fun it s₂ => ∃ I n P ps Pn, it = .ref I ∧ ∃ fp St, (∀ A' : Around, A'.handled = none → Walks prog w A' I fp [I] n P St) ∧ St 0 s₂.heap ∧ (∀ b ∈ fp, ∃ o, s₂.heap.get? b = some o) ∧ Pn ∉ fp ∧
      Le g s₂.heap ∧ g.get? Pn = none ∧ g.get? I = none ∧ c ≠ Pn ∧ Tab s₂.heap c Pn ps ∧ Vars env s₂.heap m ∧ (∀ p ∈ cl, p.2 ≠ Pn ∧ p.2 ≠ I) ∧
      (∀ (A' : Around) E' i v (s₃ : Shared) m' Cl code, A'.handled = none → P i v → i < n → Le g s₃.heap → Vars (genEnv scope cl Cl code builtinsNs env) s₃.heap m' → m' x = some v → (∀ z, scope.names.lookup z ≠ some .local → m' z = m z) →
        wpAny (model prog w) A' (eval elt (genEnv scope cl Cl code builtinsNs env)) (fun y s₄ => y = .bool (tr i) ∧ Keeps s₃ s₄) E' s₃) ∧
      (∀ a Cg h' gs tk ps', KB [Pn] s₂.heap h' → Tab h' c Pn ps' → Grown ps ps' → gs.bare = true → s₂.heap.get? Cg = none → GenR prog w A a n tr [Cg, I] { s₂ with heap := h', gens := s₂.gens.push gs, toks := tk } → Q (.ref a) { s₂ with heap := h', gens := s₂.gens.push gs, toks := tk })) E s₁) E s)
    (hs : ∀ x, genFold iter env x = pure x := by intro _; rfl) (hgl : env.globals = mainGlobals := by rfl) :
    wpAny (model prog w) A (eval (.GeneratorExp elt [⟨.Name x px, iter, [], 0⟩] scope pos) env) Q E s := by
  refine wpAny_GeneratorExp_walksQ hh hco hclos (fun y hy => by simpa using List.all_eq_true.mp hcell y hy) h0 hx hkind hroom (wpAny_mono h (fun xv s₁ h₁ => wpAny_mono h₁ (fun it s₂ h₂ => ?_) fun _ _ e => e) fun _ _ e => e) hs
  obtain ⟨I, n, P, ps, Pn, rfl, fp, St, W, hst, hfp, hPf, hle, hgP, hgI, hcP, ht, hV, hcl, helt, hQ⟩ := h₂
  refine ⟨C.lim.keeps hle, gcode hc ht fun code h₃ tk₃ ps' kb₃ ht₃ gr => ?_⟩
  obtain ⟨bm, ob, BM⟩ := B
  have hle₃ : Le g h₃ := kb₃.le hle (by simpa using hgP)
  rw [hgl]
  refine wpAny_builtinsFor (BM.ns.keeps hle₃) BM.name BM.ne (hle₃ _ _ BM.obj) BM.cls BM.dict BM.data ?_
  have hIex : ∀ b ∈ fp, ∃ o, h₃.get? b = some o := fun b hb => let ⟨o, ho⟩ := hfp b hb; ⟨o, kb₃ b o (fun q => hPf (List.mem_singleton.mp q ▸ hb)) ho⟩
  have hcs : cStatics ≠ I := fun q => by
    obtain ⟨_, ⟨o, _, _, ho, _⟩, _⟩ := C.lim
    rw [q, hgI] at ho; cases ho
  have W' : ∀ A' : Around, A'.handled = none → Walks prog w A' I fp [I] n (fun i v => P i v ∧ i < n) St := fun A' hA => { W A' hA with item := fun i s Q E hi st hq => (W A' hA).item i s Q E hi st fun v h tk hP => hq v h tk ⟨hP, hi⟩ }
  refine ⟨I, fp, [I], n, fun i v => P i v ∧ i < n, St, fun _ => true, fun i y => y = .bool (tr i), rfl, W', (W A hh).frame _ _ _ hst fun b hb o e => kb₃ b o (fun q => hPf (List.mem_singleton.mp q ▸ hb)) e, fun b hb => let ⟨o, ho⟩ := hIex b hb; Heap.lt_size ho, C.lim.keeps hle₃, fun q => hcs (List.mem_singleton.mp q), ?_, ?_⟩
  · intro href hhref
    refine ⟨fun A' E' i v s₃ m₂ hA hP hn hm hk => wpAny_tests_nil ⟨rfl, s₃.heap, s₃.toks, rfl, fun _ _ e => e⟩, fun A' E' i v s₃ m₂ hA hP _ hn hm hk => ?_⟩
    have keep : ∀ b o, b ≠ I → h₃.get? b = some o → s₃.heap.get? b = some o := fun b o hb e => hk b (List.mem_range.mpr (Heap.lt_size e)) (fun q => hb (List.mem_singleton.mp q)) o (hhref _ _ e)
    have hleS : Le g s₃.heap := fun b o e => keep b o (fun q => by rw [q, hgI] at e; cases e) (hle₃ _ _ e)
    refine helt A' E' i v s₃ _ _ code hA hP.1 hP.2 hleS (vars_gen hn (m := m) (fun p hp => ?_) hlo (nodup_apart hV hcap (of_decide_eq_true hnd)) (fun p hp => ?_)) (by rw [if_pos hx]; exact hm) (fun z hz => by rw [if_neg hz])
    · obtain ⟨o, ho, hd⟩ := hV.cel p.1 p.2 (hcap p hp)
      exact ⟨o, keep _ _ (hcl p hp).2 (kb₃ _ _ (fun q => (hcl p hp).1 (List.mem_singleton.mp q)) ho), hd⟩
    · obtain ⟨o, ho, _⟩ := hV.cel p.1 p.2 (hcap p hp)
      have h2 : h₃.get? p.2 = some o := kb₃ _ _ (fun q => (hcl p hp).1 (List.mem_singleton.mp q)) ho
      exact Nat.ne_of_lt (Heap.lt_size h2)
  · intro a h₅ tk gs hgs _ _ hk₅ Wg hat
    have hp : (passing (fun _ => true) n 0).length = n := by rw [passing_all, List.length_range]
    rw [hp] at Wg
    have Wg' := (show WalksS prog w A.in4 a _ _ _ n (fun j y => y = .bool (tr j)) _ from { Wg with item := fun i s Q E hi st hq => Wg.item i s Q E hi st fun v s' hP => hq v s' (by
        obtain ⟨i', e, hv⟩ := hP
        rw [passing_all, List.getElem?_range hi] at e
        cases e; exact hv) })
    refine hQ a h₃.objs.size h₅ gs tk ps' (kb₃.trans (KB.of_le hk₅)) (ht₃.le hk₅) gr hgs ?_ ⟨_, _, _, Wg', hat⟩
    cases q : s₂.heap.get? h₃.objs.size with
    | none => rfl
    | some o =>
      have hne : h₃.objs.size ≠ Pn := fun q' => Nat.lt_irrefl _ (by have := ht₃.ltP; rw [← q'] at this; exact this)
      exact absurd (Heap.lt_size (kb₃ _ _ (fun q' => hne (List.mem_singleton.mp q')) q)) (Nat.lt_irrefl _)
end

-- 30_loopg.lean
-- needs: 01 02 03 04 05 06 08 09 10 11 12 13 14 15 16 29
section
variable {prog : Program} {w : World} {A : Around} {E : Value → Shared → Prop} {s : Shared} {env : Env}
def TurnG (env : Env) (X : List Addr) (J : (Str → Option Value) → Heap → Prop) (s : Shared) (h : Heap) (Q : Flow → Shared → Prop) (f : Flow) (s' : Shared) : Prop :=
  match f with
  | .ret v => Q (.ret v) s'
  | .brk => Q .next s'
  | _ => ∃ m' h' gs' tk', s' = { s with heap := h', gens := gs', toks := tk' } ∧ Vars env h' m' ∧ KB X h h' ∧ AllBare gs' ∧ J m' h'
theorem for_varG {Q : Flow → Shared → Prop} {x : Str} {px : Pos} {body : List Stmt} {I tgt : Addr} {fp wr : List Addr} {n : Nat} {P : Nat → Value → Prop} {St : Nat → Heap → Prop} {m₀ : Str → Option Value}
    (W : Walks prog w A I fp wr n P St) (X : List Addr) (J : Nat → (Str → Option Value) → Heap → Prop) (hsto : Sto env x tgt)
    (hfp : ∀ b ∈ fp, b ∉ X ∧ b ≠ tgt) (hwo : ∀ b ∈ wr, b ∉ owns env) (hbare : AllBare s.gens) (hst : St 0 s.heap) (V₀ : Vars env s.heap m₀) (h0 : J 0 m₀ s.heap)
    (stab : ∀ i m h h', J i m h → KB (tgt :: wr) h h' → J i m h') (hob : ∀ i h, St i h → ∃ o, h.get? I = some o)
    (turn : ∀ i v m h gs tk, AllBare gs → i < n → P i v → J i m h → KB (tgt :: (wr ++ X)) s.heap h → Vars env h (upd m x v) → (∃ o, h.get? I = some o) →
      wpAny (model prog w) A (execs body env) (TurnG env X (J (i + 1)) s h Q) E { s with heap := h, gens := gs, toks := tk })
    (done : ∀ m h gs tk, AllBare gs → J n m h → KB (tgt :: (wr ++ X)) s.heap h → Vars env h m → Q .next { s with heap := h, gens := gs, toks := tk })
    (hE : PassesOwn (model prog w) A env E) :
    codeAny (model prog w) A (.forLoop (.Name x px) (.ref I) body [] env) (fun r s' => match r with | .ok f => Q f s' | .error e => cameBackBy (model prog w) A env E e s') s := by
  refine codeAny_forLoop (fun k s' => ∃ h' gs tk m' i, s' = { s with heap := h', gens := gs, toks := tk } ∧ AllBare gs ∧ St i h' ∧ Vars env h' m' ∧ J i m' h' ∧ i ≤ n ∧ k = n + 1 - i ∧ KB (tgt :: (wr ++ X)) s.heap h') ?_ (n + 1)
    ⟨s.heap, s.gens, s.toks, m₀, 0, rfl, hbare, hst, V₀, h0, Nat.zero_le _, rfl, KB.rfl⟩
  rintro k s' ⟨h', gs, tk, m', i, rfl, hbg, hst', V', hJ, hi, rfl, hk⟩
  by_cases hlt : i < n
  · refine W.item i _ _ _ hlt hst' fun v h₁ tk₁ hP hst₁ hk₁ => ?_
    have kw : KB wr h' h₁ := fun b o n e => hk₁ b o n e
    have V₁ : Vars env h₁ m' := V'.kb kw fun a ha q => hwo a q ha
    refine wpAny_assign_Name (hsto _ _ _ _ _ _ _ V₁ fun h₂ tk₂ V₂ hs₂ => ?_)
    have k1 : KB (tgt :: wr) h' h₂ := (kw.mono fun b hb => List.mem_cons_of_mem _ hb).trans (KB.same hs₂ (List.mem_cons_self ..))
    have k2 : KB (tgt :: (wr ++ X)) s.heap h₂ := hk.trans (k1.mono fun b hb => by simp only [List.mem_cons, List.mem_append] at hb ⊢; rcases hb with hb | hb <;> simp [hb])
    have hst₂ : St (i + 1) h₂ := W.frame _ _ _ hst₁ fun b hb o e => (hs₂.2 b (hfp b hb).2).trans e
    refine wpAny_mono (wpAny_passesOwn hE (turn i v m' h₂ gs _ hbg hlt hP (stab _ _ _ _ hJ k1) k2 V₂ (hob _ _ hst₂))) (fun f s₃ h₃ => ?_) fun _ _ e => e
    have fin : (∃ m' h' gs' tk', s₃ = { s with heap := h', gens := gs', toks := tk' } ∧ Vars env h' m' ∧ KB X h₂ h' ∧ AllBare gs' ∧ J (i + 1) m' h') →
        ∃ m, m < n + 1 - i ∧ ∃ h' gs tk m' i, s₃ = { s with heap := h', gens := gs, toks := tk } ∧ AllBare gs ∧ St i h' ∧ Vars env h' m' ∧ J i m' h' ∧ i ≤ n ∧ m = n + 1 - i ∧ KB (tgt :: (wr ++ X)) s.heap h' := by
      rintro ⟨m₃, h₃', gs₃, tk₃, rfl, hn₃, k₃, hb₃, hJ₃⟩
      refine ⟨n + 1 - (i + 1), by walk_at "om", h₃', gs₃, tk₃, m₃, i + 1, rfl, hb₃, W.frame _ _ _ hst₂ fun b hb o e => k₃ b o (hfp b hb).1 e, hn₃, hJ₃, hlt, rfl, k2.trans (k₃.mono fun b hb => ?_)⟩
      simp only [List.mem_cons, List.mem_append]
      simp [hb]
    cases f with
    | ret v => exact h₃
    | brk => exact h₃
    | next => exact fin h₃
    | cont => exact fin h₃
  · obtain rfl : i = n := by walk_at "om"
    refine W.done _ _ _ hst' fun h₁ tk₁ hk₁ => wpAny_execs_nil ?_
    have kw : KB wr h' h₁ := fun b o n e => hk₁ b o n e
    have k1 : KB (tgt :: wr) h' h₁ := kw.mono fun b hb => List.mem_cons_of_mem _ hb
    exact done m' h₁ gs tk₁ hbg (stab _ _ _ _ hJ k1) (hk.trans (k1.mono fun b hb => by simp only [List.mem_cons, List.mem_append] at hb ⊢; rcases hb with hb | hb <;> simp [hb])) (V'.kb kw fun a ha q => hwo a q ha)

/-- for over a list -/
theorem iter_listG {Q : Flow → Shared → Prop} {x : Str} {px : Pos} {body : List Stmt} {ax tgt : Addr} {items : Array Value} {m₀ : Str → Option Value} (X : List Addr) (J : Addr → Nat → (Str → Option Value) → Heap → Prop)
    (hh : A.handled = none) (hl : s.heap.IsList ax items) (hax : ax ∉ X ∧ ax ≠ tgt) (hX : ∀ b ∈ X, b < s.heap.objs.size) (hsto : Sto env x tgt) (htg : tgt < s.heap.objs.size) (how : ∀ b ∈ owns env, b < s.heap.objs.size)
    (hbare : AllBare s.gens) (V₀ : Vars env s.heap m₀) (h0 : J s.heap.objs.size 0 m₀ s.heap)
    (stab : ∀ i m h h', J s.heap.objs.size i m h → KB [tgt, s.heap.objs.size] h h' → J s.heap.objs.size i m h')
    (turn : ∀ i v m h gs tk, AllBare gs → items[i]? = some v → J s.heap.objs.size i m h → KB (tgt :: s.heap.objs.size :: X) s.heap h → Vars env h (upd m x v) → (∃ o, h.get? s.heap.objs.size = some o) →
      wpAny (model prog w) A (execs body env) (TurnG env X (J s.heap.objs.size (i + 1)) s h Q) E { s with heap := h, gens := gs, toks := tk })
    (done : ∀ m h gs tk, AllBare gs → J s.heap.objs.size items.size m h → KB (tgt :: X) s.heap h → Vars env h m → Q .next { s with heap := h, gens := gs, toks := tk })
    (hE : PassesOwn (model prog w) A env E := by passes_own) :
    wpAny (model prog w) A (pyIter (.ref ax)) (ForPost prog w A env x px body Q E) E s := by
  obtain ⟨ol, hol, _⟩ := id hl
  have hne : ax ≠ s.heap.objs.size := Nat.ne_of_lt (Heap.lt_size hol)
  refine wpAny_pyIter_list hl ?_
  have W := Walks.list (prog := prog) (w := w) hh s.heap.objs.size ax hne items
  have le : Le s.heap (s.heap.push { cls := .type "list_iterator", data := .fields #[.ref ax, .int 0 0] }) := Le.push _
  refine for_varG (m₀ := m₀) W X (J s.heap.objs.size) hsto ?_ ?_ hbare ⟨⟨_, Heap.get?_push_size _ rfl, rfl, rfl⟩, hl.push _⟩ (V₀.le le) (stab _ _ _ _ h0 (KB.of_le le)) (fun i m h h' hj hk => stab i m h h' hj hk) (fun i h st => by obtain ⟨⟨o, ho, _⟩, _⟩ := st; exact ⟨o, ho⟩) ?_ ?_ hE
  · intro b hb
    rcases List.mem_cons.mp hb with rfl | hb
    · exact ⟨fun q => Nat.lt_irrefl _ (hX _ q), fun q => Nat.lt_irrefl _ (Nat.lt_of_lt_of_eq htg q)⟩
    · rw [List.mem_singleton.mp hb]; exact hax
  · intro b hb q
    rw [List.mem_singleton.mp hb] at q
    exact Nat.lt_irrefl _ (how _ q)
  · intro i v m h gs tk hbg _ hP hJ hk hns hI
    exact turn i v m h gs tk hbg hP hJ (KB.trans (KB.of_le le) hk) hns hI
  · intro m h gs tk hbg hJ hk hns
    refine done m h gs tk hbg hJ (fun b o hb e => ?_) hns
    have hb' : b ≠ s.heap.objs.size := Nat.ne_of_lt (Heap.lt_size e)
    refine hk b o (fun q => ?_) (le b o e)
    rcases List.mem_cons.mp q with q | q
    · exact hb (q ▸ List.mem_cons_self ..)
    · rcases List.mem_cons.mp q with q | q
      · exact hb' q
      · exact hb (List.mem_cons_of_mem _ q)
theorem add_lists2 {l b : Addr} {vs ws : List Value} {Q : Value → Shared → Prop} (hl : s.heap.IsList l vs.toArray) (hb : s.heap.IsList b ws.toArray) (hsz : vs.length + ws.length < 1000)
    (h : ∀ D h', Le s.heap h' → s.heap.get? D = none → PlainL h' D (vs ++ ws).toArray → Q (.ref D) { s with heap := h' }) : wpAny (model prog w) A (binaryOp .Add (.ref l) (.ref b)) Q E s := by
  obtain ⟨⟨cls, dd, data, sl⟩, ho, hc, n, hd⟩ := id hl
  obtain ⟨⟨cls2, dd2, data2, sl2⟩, ho2, hc2, n2, hd2⟩ := id hb
  simp only at hc hd hc2 hd2
  subst hc hd hc2 hd2
  have e : vs.toArray ++ ws.toArray = (vs ++ ws).toArray := by simp
  refine concat_meets ⟨_, ho, rfl⟩ ⟨_, ho2, rfl⟩ noFill_list_add seq_list_add PySem.F.slot_list_add PySem.F.entry_list_add (PySem.F.args_list_add_2 _ _) (list_addW l b vs.toArray ws.toArray n n2 dd dd2 sl sl2 (by simp only [sizeLine, List.size_toArray]; omega)) ⟨ho, ho2, ?_⟩
  rw [e]
  exact h _ _ (Le.push _) (fresh_none _) ⟨_, _, Heap.get?_push_size _ rfl, rfl, rfl, rfl⟩
end

-- 31_way.lean
-- needs: 01 02 03 04 05 06 08 09 10 11 12 13 14 15 16 21 28 29 30
def FnC (h : Heap) (f : Addr) (d : DefRec) (c : Addr) : Prop := ∃ o pm doc, h.get? f = some o ∧ o.data = .func (docDef d.name d.params d.body d.scope pm (.ref c) doc) ∧ h.CodeRec (.ref c) d.name
def waysF (n : Nat) (src tgt : Int) : List (List Int) := [[src, tgt]] ++ (List.range n).map (fun a : Nat => [src, (a : Int), tgt]) ++ outs (fun a b : Nat => [src, (a : Int), (b : Int), tgt]) n n
def openB (res : List (List Int)) (way : List Int) : Bool := (List.range (way.length - 1)).all fun i => decide (0 < (res.getD (way.getD i 0).toNat []).getD (way.getD (i + 1) 0).toNat 0)
def dueF (res : List (List Int)) (n : Nat) (src tgt : Int) : List Int := if src = tgt then [src] else ((waysF n src tgt).find? (openB res)).getD []
theorem outs_len {β : Type} (F : Nat → Nat → β) (n1 i : Nat) : (outs F n1 i).length = i * n1 := by
  induction i with
  | zero => simp [outs]
  | succ i ih => rw [outs_succ, List.length_append, ih, List.length_map, List.length_range, Nat.succ_mul]
theorem All2.app {α β : Type} {R : α → β → Prop} : ∀ {as : List α} {bs : List β} {as' : List α} {bs' : List β}, All2 R as bs → All2 R as' bs' → All2 R (as ++ as') (bs ++ bs')
  | [], [], _, _, _, r => r
  | _ :: _, _ :: _, _, _, h, r => ⟨h.1, All2.app h.2 r⟩
theorem getD_mem' {l : List Int} {k : Nat} (h : k < l.length) : l.getD k 0 ∈ l := by
  rw [List.getD_eq_getElem?_getD, List.getElem?_eq_getElem h]; exact List.getElem_mem _
theorem waysF_ok {n : Nat} {src tgt : Int} (hs0 : 0 ≤ src) (hs1 : src < n) (ht0 : 0 ≤ tgt) (ht1 : tgt < n) : ∀ w ∈ waysF n src tgt, 2 ≤ w.length ∧ w.length ≤ 4 ∧ ∀ x ∈ w, 0 ≤ x ∧ x < n := by
  intro w hw
  unfold waysF at hw
  rcases List.mem_append.mp hw with hw | hw
  · rcases List.mem_append.mp hw with hw | hw
    · rw [List.mem_singleton.mp hw]
      refine ⟨by simp, by simp, ?_⟩
      intro x hx
      simp only [List.mem_cons, List.not_mem_nil, or_false] at hx
      rcases hx with rfl | rfl <;> omega
    · obtain ⟨a, ha, rfl⟩ := List.mem_map.mp hw
      have := List.mem_range.mp ha
      refine ⟨by simp, by simp, ?_⟩
      intro x hx
      simp only [List.mem_cons, List.not_mem_nil, or_false] at hx
      rcases hx with rfl | rfl | rfl <;> omega
  · unfold outs at hw
    obtain ⟨a, ha, hw⟩ := List.mem_flatMap.mp hw
    obtain ⟨b, hb, rfl⟩ := List.mem_map.mp hw
    have := List.mem_range.mp ha
    have := List.mem_range.mp hb
    refine ⟨by simp, by simp, ?_⟩
    intro x hx
    simp only [List.mem_cons, List.not_mem_nil, or_false] at hx
    rcases hx with rfl | rfl | rfl | rfl <;> omega
theorem find_first {α : Type} {p : List α → Bool} {l : List (List α)} {i : Nat} {w : List α} (h : l[i]? = some w) (hp : p w = true) (hno : ∀ j < i, p (l.getD j []) = false) : l.find? p = some w := by
  induction l generalizing i with
  | nil => simp at h
  | cons x l ih =>
    rw [List.find?_cons]
    cases i with
    | zero => simp at h; subst h; rw [hp]
    | succ i =>
      have h0 := hno 0 (by walk_at "om")
      rw [List.getD_cons_zero] at h0
      rw [h0]
      exact ih (by simpa using h) fun j hj => by have := hno (j + 1) (by walk_at "om"); rwa [List.getD_cons_succ] at this
def NoL (h : Heap) (X : List Addr) : Prop := ∀ a ∈ X, ∀ its, ¬ h.IsList a its
theorem ints_hide {h : Heap} {X : List Addr} {v : Value} {ns : List Int} (x : Ints h v ns) (n : NoL h X) : Ints (hide h X) v ns := by
  obtain ⟨l, vs, e, h1, h2⟩ := x
  exact ⟨l, vs, e, isList_hide h1 fun q => n l q _ h1, h2⟩
theorem noL_ns {h : Heap} {L : Addr} {m : Str → Option Value} (hn : h.Ns L m) : ∀ its, ¬ h.IsList L its := fun _ hl => list_ne hl hn rfl
theorem noL_cell {h : Heap} {c : Addr} {v : Option Value} (hc : h.IsCell c v) : ∀ its, ¬ h.IsList c its := fun _ hl => list_ne_cell hl hc rfl
theorem noL_tab {h : Heap} {c P : Addr} {ps : Array Value} (ht : Tab h c P ps) : ∀ its, ¬ h.IsList P its := fun _ ⟨o, ho, hc, _, hd⟩ => by
  have := ht.2.2
  rw [ho] at this; cases this; cases hd
section
variable {prog : Program} {w : World} {A : Around} {E : Value → Shared → Prop} {s : Shared} {mg mb : Str → Option Value}
set_option maxHeartbeats 4000000 in
theorem way_spec {Q : Value → Shared → Prop} {f c Pn : Addr} {n : Nat} {src tgt : Int} {t1 t3 t4 : Tok} {v : Value} {res : List (List Int)} {ps : Array Value} (hroom : A.depth + 1 < recursionLimit) (hh : A.handled = none) (hbare : AllBare s.gens)
    (C : Cx mg mb (hide s.heap [Pn])) (B : BM mg (hide s.heap [Pn])) (hcP : c ≠ Pn) (ht : Tab s.heap c Pn ps) (hf : FnC s.heap f dWay c) (hm : Mat (hide s.heap [Pn]) v res) (hsq : Sq n res) (hn : n < 20) (hs0 : 0 ≤ src) (hs1 : src < n) (ht0 : 0 ≤ tgt) (ht1 : tgt < n)
    (hQ : ∀ v' h' gs tk ps', KB [Pn] s.heap h' → Tab h' c Pn ps' → Grown ps ps' → AllBare gs → Ints (hide h' [Pn]) v' (dueF res n src tgt) → Q v' { s with heap := h', gens := gs, toks := tk }) :
    wpAny (model prog w) A (call (.ref f) [.int n t1, v, .int src t3, .int tgt t4]) Q E s := by
  obtain ⟨o, pm, doc, ho, hd, hc⟩ := hf
  obtain ⟨lr, vr, rfl, hlr, har⟩ := hm
  have hG : Le (hide s.heap [Pn]) s.heap := hide_le _ _
  have hGP : (hide s.heap [Pn]).get? Pn = none := hide_off _ _ _ (by simp)
  refine wpAny_call (call_cells_ret (binds := [(Str.ofString "n", .int n t1), (Str.ofString "room", .ref lr), (Str.ofString "s", .int src t3), (Str.ofString "t", .int tgt t4)]) (by walk_at "om") ho hd (C.lim.keeps hG) hc (by rfl) ?_ (fun h₁ tk F X => ?_) (by rfl) (by rfl) (by rfl))
  · intro x hx
    simp only [List.mem_cons, List.not_mem_nil, or_false] at hx
    rcases hx with rfl | rfl | rfl | rfl <;> exact .inr ⟨by rfl, by rfl⟩
  have hV := vars_of_fr (name := dWay.name) (a := f) (cd := .ref c) F X (by
    intro x c e
    have := lookup_all (P := fun p => dWay.scope.names.lookup p.1 != some .local) (by rfl) e
    simpa using this)
  have hle : Le (hide s.heap [Pn]) h₁ := hG.trans F.keep
  have hLs : s.heap.get? s.heap.objs.size = none := fresh_none _
  have offG : (hide s.heap [Pn]).get? s.heap.objs.size = none := none_back hG (fresh_none _)
  have offk : ∀ k : Nat, (hide s.heap [Pn]).get? (s.heap.objs.size + k) = none := fun k => none_back hG (Heap.get?_none_of_le (Nat.le_add_right ..))
  have kbs : ∀ {h : Heap}, Le (hide s.heap [Pn]) h → KB [Pn] s.heap h := fun l b o hb e => l b o (by rw [hide_get, if_neg hb]; exact e)
  have ht₁ : Tab h₁ c Pn ps := ht.le F.keep
  have cw : ∀ x : Str, x = Str.ofString "way" → (envOfC dWay.name dWay.scope s.heap.objs.size f (.ref c)).cells.lookup x = some (s.heap.objs.size + 5) := by rintro x rfl; rfl
  have cells : ∀ {h : Heap} {m}, Vars (envOfC dWay.name dWay.scope s.heap.objs.size f (.ref c)) h m → ∀ k : Nat, 1 ≤ k → k ≤ 5 → ∃ v, h.IsCell (s.heap.objs.size + k) v := by
    intro h m V k h1 h5
    rcases (show k = 1 ∨ k = 2 ∨ k = 3 ∨ k = 4 ∨ k = 5 by walk_at "om") with rfl | rfl | rfl | rfl | rfl
    · exact ⟨_, V.cel (Str.ofString "n") _ rfl⟩
    · exact ⟨_, V.cel (Str.ofString "room") _ rfl⟩
    · exact ⟨_, V.cel (Str.ofString "s") _ rfl⟩
    · exact ⟨_, V.cel (Str.ofString "t") _ rfl⟩
    · exact ⟨_, V.cel (Str.ofString "way") _ rfl⟩
  have howns : ∀ b ∈ owns (envOfC dWay.name dWay.scope s.heap.objs.size f (.ref c)), ∃ k : Nat, k ≤ 5 ∧ b = s.heap.objs.size + k := by
    intro b hb
    rcases List.mem_cons.mp hb with rfl | hb
    · exact ⟨0, by walk_at "om", rfl⟩
    · obtain ⟨p, hp, rfl⟩ := List.mem_map.mp hb
      have : p ∈ [(Str.ofString "way", s.heap.objs.size + 5), (Str.ofString "t", s.heap.objs.size + 4), (Str.ofString "s", s.heap.objs.size + 3), (Str.ofString "room", s.heap.objs.size + 2), (Str.ofString "n", s.heap.objs.size + 1)] := hp
      simp only [List.mem_cons, List.not_mem_nil, or_false] at this
      rcases this with rfl | rfl | rfl | rfl | rfl
      · exact ⟨5, by walk_at "om", rfl⟩
      · exact ⟨4, by walk_at "om", rfl⟩
      · exact ⟨3, by walk_at "om", rfl⟩
      · exact ⟨2, by walk_at "om", rfl⟩
      · exact ⟨1, by walk_at "om", rfl⟩
  have hol : ∀ b ∈ owns (envOfC dWay.name dWay.scope s.heap.objs.size f (.ref c)), ∀ {h : Heap} {m}, Vars (envOfC dWay.name dWay.scope s.heap.objs.size f (.ref c)) h m → b < h.objs.size := by
    intro b hb h m V
    obtain ⟨k, hk, rfl⟩ := howns b hb
    by_cases h0 : k = 0
    · subst h0; exact V.ltL
    · obtain ⟨_, hcell⟩ := cells V k (by walk_at "om") hk
      exact hcell.lt
  refine wpAny_execs_cons (wpAny_If ?_)
  walk_at "zev"
  refine if_by (fun hb => ?_) fun hb => ?_
  · have hst : src = tgt := by simpa using hb
    walk_at "zev"
    refine ⟨by simp, fun D h₂ hk₂ hfr hD => ?_⟩
    dsimp only at hk₂ hfr hD ⊢
    refine hQ _ h₂ s.gens _ ps (kbs (hle.trans hk₂)) (ht₁.le hk₂) Grown.rfl hbare ⟨D, _, rfl, isList_hide hD.isList (fun q => noL_tab (ht₁.le hk₂) _ (List.mem_singleton.mp q ▸ hD.isList)), ?_⟩
    rw [dueF, if_pos hst]
    exact ⟨⟨_, rfl⟩, trivial⟩
  · have hst : src ≠ tgt := by simpa using hb
    walk_at "zev"
    refine wpAny_Assign_Name ?_
    walk_at "zev"
    refine ⟨by simp, fun D0 h₂ hk₂ hf₂ hD0 => ?_⟩
    dsimp only at hk₂ hf₂
    have hV := hV.le hk₂
    have hle := hle.trans hk₂
    have ht₂ := ht₁.le hk₂
    walk_at "zev"
    refine ⟨by simp, fun D1 h₃ hk₃ hf₃ hD1 => ?_⟩
    dsimp only at hk₃ hf₃
    have hV := hV.le hk₃
    have hle := hle.trans hk₃
    have ht₃ := ht₂.le hk₃
    have hD0 := hD0.keeps hk₃
    walk_at "zev"
    refine ev_comp (by rfl) (by rfl) (by rfl) ?_
    walk_at "zev"
    refine range1 fun r h₄ tk₄ hk₄ hrf hr => ?_
    dsimp only at hk₄ hrf hr
    have hV := hV.le hk₄
    have hle := hle.trans hk₄
    have ht₄ := ht₃.le hk₄
    have hD0 := hD0.keeps hk₄
    have hD1 := hD1.keeps hk₄
    refine comp_rg (k := 0) (n := n) Ints (fun r l => Ints.le r l) (fun a => some [src, (a : Int), tgt]) (hide s.heap [Pn]) [] hh hr (by walk_at "om") (by walk_at "om") (by walk_at "om") (by walk_at "om") (by walk_at "om") (by walk_at "om") hV ?_ (fun h l => cvars0 hV ?_ (by rfl) (by rfl) (by rfl) l) (fun _ => sto_l) (.inl rfl) hle (by simp) ?_ ?_
    · intro p hp
      simp only [List.mem_cons, List.not_mem_nil, or_false] at hp
      rcases hp with rfl | rfl <;> rfl
    · intro p hp
      simp only [List.mem_cons, List.not_mem_nil, or_false] at hp
      rcases hp with rfl | rfl <;> rfl
    · intro i t g h₅ tk₅ hi hg₁ hg₂ hex hV
      rw [Int.zero_add] at hV
      have hle : Le (hide s.heap [Pn]) h₅ := hg₁.trans hg₂
      refine tests_nil ⟨_, _, rfl, Le.rfl, rfl, fun _ => ?_⟩
      walk_at "zev"
      refine ⟨by simp, fun D h₆ hk₆ hf₆ hD => ?_⟩
      dsimp only at hk₆ hf₆ hD ⊢
      refine ⟨h₆, _, _, rfl, hk₆, rfl, ⟨D, _, rfl, isList_hide hD.isList fun q => ?_, ⟨_, rfl⟩, ⟨_, rfl⟩, ⟨_, rfl⟩, trivial⟩⟩
      obtain ⟨o', ho'⟩ := hex _ q
      rw [ho'] at hf₆; cases hf₆
    · intro ys g h₅ tk₅ m' hg₁ hg₂ hoff hys hD hle₅ hnC
      refine comp_value hoff hg₂ hD hle₅ hnC fun h₆ hD2 hle₆ hgle hnew => ?_
      dsimp only at hD2 hle₆ hgle hnew ⊢
      rw [List.filterMap_eq_map'] at hys
      have hys : All2 (Ints h₆) ys ((List.range n).map fun a : Nat => [src, (a : Int), tgt]) := hys.mono fun _ _ r => Ints.le r hgle
      have hyl : ys.length = n := by rw [hys.length]; simp
      have hV := hV.le hle₆
      have hle := hle.trans hle₆
      have ht₆ := ht₄.le hle₆
      have hD0 := hD0.keeps hle₆
      have hD1 := hD1.keeps hle₆
      refine add_lists2 (vs := [.ref D0]) hD1.isList hD2.isList (by simp; omega) fun D3 h₇ hk₇ hf₇ hD3 => ?_
      dsimp only at hk₇ hf₇ hD3 ⊢
      have hV := hV.le hk₇
      have hle := hle.trans hk₇
      have ht₇ := ht₆.le hk₇
      have hD0 := hD0.keeps hk₇
      have hys := hys.mono fun _ _ r => Ints.le r hk₇
      walk_at "zev"
      refine ev_comp2 (by rfl) (by rfl) (by rfl) ?_
      walk_at "zev"
      refine range1 fun r2 h₈ tk₈ hk₈ hrf2 hr2 => ?_
      dsimp only at hk₈ hrf2 hr2
      have hV := hV.le hk₈
      have hle := hle.trans hk₈
      have ht₈ := ht₇.le hk₈
      have hD0 := hD0.keeps hk₈
      have hD3 := hD3.keeps hk₈
      have hys := hys.mono fun _ _ r => Ints.le r hk₈
      refine comp2_rg (n0 := n) (n1 := n) Ints (fun r l => Ints.le r l) (fun a b : Nat => [src, (a : Int), (b : Int), tgt]) (hide s.heap [Pn]) hh hr2 (by walk_at "om") (by walk_at "om") hV ?_ (fun h l => cvars0 hV ?_ (by rfl) (by rfl) (by rfl) l) ?_ (fun _ => sto_l) (fun _ => sto_l) (by decide) hle (by intros; rfl) ?_ ?_ ?_
      · intro p hp
        simp only [List.mem_cons, List.not_mem_nil, or_false] at hp
        rcases hp with rfl | rfl | rfl <;> rfl
      · intro p hp
        simp only [List.mem_cons, List.not_mem_nil, or_false] at hp
        rcases hp with rfl | rfl | rfl <;> rfl
      · intro C' a ha
        rcases List.mem_cons.mp ha with rfl | ha
        · exact .inl rfl
        · exact .inr ha
      · intro m' h₉ tk₉ hle hV hm'
        have mn : m' (Str.ofString "n") = some (.int n t1) := (hm' _ (by decide) (by decide)).trans rfl
        walk_at "zev"
        refine range1 fun r3 h₁₀ tk₁₀ hk₁₀ _ hr3 => ?_
        exact ⟨h₁₀, _, r3, rfl, rfl, hk₁₀, hr3⟩
      · intro i j ti tj m' g' h₉ tk₉ X hi hj hg₁' hg₂' hex hV hm' mx my
        have hle : Le (hide s.heap [Pn]) h₉ := hg₁'.trans hg₂'
        have ms : m' (Str.ofString "s") = some (.int src t3) := (hm' _ (by decide) (by decide)).trans rfl
        have mt : m' (Str.ofString "t") = some (.int tgt t4) := (hm' _ (by decide) (by decide)).trans rfl
        walk_at "zev"
        refine ⟨by simp, fun D h₁₀ hk₁₀ hf₁₀ hD => ?_⟩
        dsimp only at hk₁₀ hf₁₀ hD ⊢
        refine ⟨h₁₀, _, rfl, hk₁₀, ⟨D, _, rfl, isList_hide hD.isList fun q => ?_, ⟨_, rfl⟩, ⟨_, rfl⟩, ⟨_, rfl⟩, ⟨_, rfl⟩, trivial⟩⟩
        obtain ⟨o', ho'⟩ := hex _ q
        rw [ho'] at hf₁₀; cases hf₁₀
      · intro ys2 g2 h₉ tk₉ m' hg₁' hg₂' hoff' hys2 hD4 hle₉ hnC'
        refine comp_value hoff' hg₂' hD4 hle₉ hnC' fun h₁₀ hD4 hle₁₀ hgle₂ hnew₂ => ?_
        dsimp only at hD4 hle₁₀ hgle₂ hnew₂ ⊢
        have hys2 : All2 (Ints h₁₀) ys2 (outs (fun a b : Nat => [src, (a : Int), (b : Int), tgt]) n n) := hys2.mono fun _ _ r => Ints.le r hgle₂
        have hV := hV.le hle₁₀
        have hle := hle.trans hle₁₀
        have ht₁₀ := ht₈.le hle₁₀
        have hD0 := hD0.keeps hle₁₀
        have hD3 := hD3.keeps hle₁₀
        have hys := hys.mono fun _ _ r => Ints.le r hle₁₀
        have hyl2 : ys2.length ≤ 400 := by
          rw [hys2.length, outs_len]
          exact Nat.mul_le_mul (show n ≤ 20 by walk_at "om") (show n ≤ 20 by walk_at "om")
        refine add_lists2 hD3.isList hD4.isList (by simp; omega) fun W h₁₁ hk₁₁ hf₁₁ hW => ?_
        dsimp only at hk₁₁ hf₁₁ hW ⊢
        have hV := hV.le hk₁₁
        have hle := hle.trans hk₁₁
        have ht₁₁ := ht₁₀.le hk₁₁
        have hall : All2 (Ints h₁₁) (([Value.ref D0] ++ ys) ++ ys2) (waysF n src tgt) := by
          refine All2.app (All2.app ⟨?_, trivial⟩ (hys.mono fun _ _ r => Ints.le r hk₁₁)) (hys2.mono fun _ _ r => Ints.le r hk₁₁)
          exact ⟨D0, _, rfl, ((hD0.keeps hk₁₁)).isList, ⟨_, rfl⟩, ⟨_, rfl⟩, trivial⟩
        have hcs : ∀ k : Nat, @Ne Addr c (s.heap.objs.size + k) := fun k => neN (by have : @LT.lt Nat _ c s.heap.objs.size := ht.ltC; omega)
        have hPs : ∀ k : Nat, @Ne Addr Pn (s.heap.objs.size + k) := fun k => neN (by have : @LT.lt Nat _ Pn s.heap.objs.size := ht.ltP; omega)
        obtain ⟨Xw, hXw⟩ : ∃ Xw : List Addr, Xw = [s.heap.objs.size, s.heap.objs.size + 1, s.heap.objs.size + 2, s.heap.objs.size + 3, s.heap.objs.size + 4, s.heap.objs.size + 5, Pn] := ⟨_, rfl⟩
        have memX : ∀ {a : Addr}, a ∈ Xw → (∃ k : Nat, k ≤ 5 ∧ a = s.heap.objs.size + k) ∨ a = Pn := by
          intro a ha
          rw [hXw] at ha
          simp only [List.mem_cons, List.not_mem_nil, or_false] at ha
          rcases ha with rfl | rfl | rfl | rfl | rfl | rfl | rfl
          · exact .inl ⟨0, by walk_at "om", rfl⟩
          · exact .inl ⟨1, by walk_at "om", rfl⟩
          · exact .inl ⟨2, by walk_at "om", rfl⟩
          · exact .inl ⟨3, by walk_at "om", rfl⟩
          · exact .inl ⟨4, by walk_at "om", rfl⟩
          · exact .inl ⟨5, by walk_at "om", rfl⟩
          · exact .inr rfl
        have hNoL : NoL h₁₁ Xw := by
          intro a ha
          rcases memX ha with ⟨k, hk, rfl⟩ | rfl
          · by_cases h0 : k = 0
            · subst h0
              obtain ⟨_, hns, _⟩ := hV.loc
              exact noL_ns hns
            · obtain ⟨_, hcell⟩ := cells hV k (by walk_at "om") hk
              exact noL_cell hcell
          · exact noL_tab ht₁₁
        have hWX : W ∉ Xw := fun q => hNoL W q _ hW.isList
        have hG1 : Le (hide s.heap [Pn]) (hide h₁₁ Xw) := le_hide hle fun a ha => by
          rcases memX ha with ⟨k, _, rfl⟩ | rfl
          · exact offk k
          · exact hGP
        have hWg : (hide h₁₁ Xw).IsList W ((([Value.ref D0] ++ ys) ++ ys2)).toArray := isList_hide hW.isList hWX
        have hallg : All2 (Ints (hide h₁₁ Xw)) (([Value.ref D0] ++ ys) ++ ys2) (waysF n src tgt) := hall.mono fun _ _ r => ints_hide r hNoL
        have g1off : ∀ a ∈ Xw, (hide h₁₁ Xw).get? a = none := hide_off _ _
        have hle1 : Le (hide h₁₁ Xw) h₁₁ := hide_le _ _
        obtain ⟨g1, hg1d⟩ : ∃ g1, g1 = hide h₁₁ Xw := ⟨_, rfl⟩
        rw [← hg1d] at hG1 hWg hallg g1off hle1
        have hle := hle1
        have offG : g1.get? s.heap.objs.size = none := g1off _ (by rw [hXw]; simp)
        have C := C.le hG1
        have B := B.le hG1
        walk_at "zsv"
        have ht₁₂ : Tab h5 c Pn ps := ht₁₁.kb (KB.same hsb (List.mem_singleton_self _)) (fun q => hcs 0 (List.mem_singleton.mp q)) (fun q => hPs 0 (List.mem_singleton.mp q))
        walk_at "zev"
        refine wpAny_For ?_
        walk_at "zev"
        have hV5 := hV
        have hI5 : g1.get? h5.objs.size = none := none_of_le hle
        have g5 : g1.get? (s.heap.objs.size + 5) = none := g1off _ (by rw [hXw]; simp)
        have gP : g1.get? Pn = none := g1off _ (by rw [hXw]; simp)
        refine iter_listG (tgt := s.heap.objs.size + 5) [Pn] (fun I i m h => ∃ ps', Le g1 h ∧ Tab h c Pn ps' ∧ Grown ps ps' ∧ (∀ j < i, openB res ((waysF n src tgt).getD j []) = false) ∧ m (Str.ofString "room") = some (.ref lr))
          hh (isList_le hWg hle) ?_ ?_ (sto_c rfl) (hV.cel (Str.ofString "way") _ rfl).lt (fun b hb => hol b hb hV) hbare hV ⟨ps, hle, ht₁₂, Grown.rfl, by simp, by rfl⟩ ?_ ?_ ?_
        · have hWX' : W ∉ Xw := hWX
          rw [hXw] at hWX'
          simp only [List.mem_cons, List.not_mem_nil, or_false, not_or] at hWX'
          exact ⟨fun q => hWX'.2.2.2.2.2.2 (List.mem_singleton.mp q), hWX'.2.2.2.2.2.1⟩
        · intro b hb
          rw [List.mem_singleton.mp hb]; exact ht₁₂.ltP
        · rintro i m h h' ⟨ps', q1, q2, q3, q4, q5⟩ k
          refine ⟨ps', k.le q1 ?_, q2.kb k ?_ ?_, q3, q4, q5⟩
          · intro x hx
            rcases List.mem_cons.mp hx with rfl | hx
            · exact g5
            · rw [List.mem_singleton.mp hx]; exact hI5
          · simp only [List.mem_cons, List.not_mem_nil, or_false]
            rintro (q | q)
            · exact hcs 5 q
            · exact Nat.ne_of_lt ht₁₂.ltC q
          · simp only [List.mem_cons, List.not_mem_nil, or_false]
            rintro (q | q)
            · exact hPs 5 q
            · exact Nat.ne_of_lt ht₁₂.ltP q
        · rintro i v m h gs tk hbg hv ⟨ps', hle, ht', hgr, hno, m1⟩ hk hV hI
          refine opaqueQ fun KK hKK => ?_
          obtain ⟨wy, hwy, hwi⟩ := hallg.get (i := i) (a := v) (by simpa using hv)
          obtain ⟨lw, vw, rfl, hlw, haw⟩ := id hwi
          have hgd : (waysF n src tgt).getD i [] = wy := by rw [List.getD_eq_getElem?_getD, hwy]; rfl
          obtain ⟨hwl2, hwl4, hwr⟩ := waysF_ok hs0 hs1 ht0 ht1 wy (List.mem_of_getElem? hwy)
          have hvl : vw.length = wy.length := haw.length
          have hVt := hV
          refine wpAny_execs_cons (wpAny_If (isTrue_plain ?_))
          walk_at "zev"
          refine ev_gen (m := upd m (Str.ofString "way") (.ref lw)) (tr := fun i => decide (0 < (res.getD (wy.getD i 0).toNat []).getD (wy.getD (i + 1) 0).toNat 0)) hh (by show A.depth + 1 < recursionLimit; exact hroom) C B rfl (by rfl) (by rfl) (by rfl) (by rfl) (by rfl) (by rfl) ?_ (by rfl) (by rfl) ?_
          · intro p hp
            simp only [List.mem_cons, List.not_mem_nil, or_false] at hp
            rcases hp with rfl | rfl <;> rfl
          · walk_at "zev"
            refine len_of (isList_le hlw hle) (by walk_at "om") fun tl tkl => ?_
            walk_at "zev"
            refine range2 fun r3 h₁₃ tk₁₃ hk₁₃ hrf₁₃ hr₁₃ => ?_
            dsimp only at hk₁₃ hrf₁₃ hr₁₃ ⊢
            obtain ⟨ra, rb, rc, hr₁₃⟩ := hr₁₃
            refine wpAny_pyIter_range hr₁₃ (small_one (by walk_at "om") (by walk_at "om") (by walk_at "om") (by walk_at "om")) ?_
            have leI : Le h₁₃ (h₁₃.push { cls := .type "range_iterator", data := .fields #[rawInt 1, rawInt (Builtin.Range.rangeSize 1 (vw.length : Int) 1), rawInt 1] }) := Le.push _
            have hle₁₄ := (hle.trans hk₁₃).trans leI
            have ht₁₄ := (ht'.le hk₁₃).le leI
            have hV₁₄ := (hV.le hk₁₃).le leI
            have hI13 : g1.get? h₁₃.objs.size = none := none_of_le (hle.trans hk₁₃)
            have hIPn : h₁₃.objs.size ≠ Pn := fun q => Nat.lt_irrefl _ (by have := (ht'.le hk₁₃).ltP; rw [← q] at this; exact this)
            have hcells13 : ∀ k : Nat, 1 ≤ k → k ≤ 5 → @LT.lt Nat _ (s.heap.objs.size + k) h₁₃.objs.size := fun k h1 h5 => by
              obtain ⟨_, hcell⟩ := cells (hV.le hk₁₃) k h1 h5
              exact hcell.lt
            refine ⟨h₁₃.objs.size, wy.length - 1, _, ps', Pn, rfl, _, _, fun A' hA => Walks.range (prog := prog) (w := w) hA h₁₃.objs.size 1 1 (wy.length - 1), ?_, ?_, fun q => hIPn (List.mem_singleton.mp q).symm, hle₁₄, gP, hI13, hcP, ht₁₄, hV₁₄, ?_, ?_, ?_⟩
            · show IsRangeIter _ _ _ _ _
              rw [rangeSize_nat, show ((vw.length : Int) - 1).toNat = wy.length - 1 by walk_at "om"]
              simpa using Heap.get?_push_size h₁₃ (o := { cls := .type "range_iterator", data := .fields #[rawInt 1, rawInt (((wy.length - 1 : Nat)) : Int), rawInt 1] }) rfl
            · intro b hb
              rw [List.mem_singleton.mp hb]
              exact ⟨_, Heap.get?_push_size _ rfl⟩
            · intro p hp
              simp only [List.mem_cons, List.not_mem_nil, or_false] at hp
              rcases hp with rfl | rfl
              · exact ⟨(hPs 5).symm, neN (Nat.ne_of_lt (hcells13 5 (by walk_at "om") (by walk_at "om")))⟩
              · exact ⟨(hPs 2).symm, neN (Nat.ne_of_lt (hcells13 2 (by walk_at "om") (by walk_at "om")))⟩
            · rintro A' E' j v s₃ m' Cl code hA ⟨tj, rfl⟩ hj hle hV mi hm'
              have mr : m' (Str.ofString "room") = some (.ref lr) := (hm' _ (by decide)).trans m1
              have mw : m' (Str.ofString "way") = some (.ref lw) := (hm' _ (by decide)).trans (by rfl)
              rw [Int.mul_one] at mi
              obtain ⟨ta, ea⟩ := intsAre_get (intsAre_all2.mpr haw) (i := j) (by walk_at "om")
              obtain ⟨tb, eb⟩ := intsAre_get (intsAre_all2.mpr haw) (i := j + 1) (by walk_at "om")
              obtain ⟨ra0, ra1⟩ := hwr _ (getD_mem' (l := wy) (k := j) (by walk_at "om"))
              obtain ⟨rb0, rb1⟩ := hwr _ (getD_mem' (l := wy) (k := j + 1) (by walk_at "om"))
              have hul : (wy.getD j 0).toNat < vr.length := by rw [har.length, hsq.1]; omega
              obtain ⟨row, hrow, lrow, vrow, erow, hlrow, harow⟩ := har.get (List.getElem?_eq_getElem hul)
              have hrowd : res.getD (wy.getD j 0).toNat [] = row := by rw [List.getD_eq_getElem?_getD, hrow]; rfl
              have hrl : row.length = n := by rw [← hrowd]; exact hsq.get (by walk_at "om")
              obtain ⟨tc, ec⟩ := intsAre_get (intsAre_all2.mpr harow) (i := (wy.getD (j + 1) 0).toNat) (by walk_at "om")
              walk_at "zev"
              refine item_list (isList_le hlw hle) (by walk_at "om") (by walk_at "om") (by rw [show (1 + (j : Int) - 1).toNat = j by walk_at "om"]; exact ea) ?_
              walk_at "zev"
              refine item_list (isList_le hlr (hG1.trans hle)) ra0 (by walk_at "om") ((List.getElem?_eq_getElem hul).trans (by rw [erow])) ?_
              walk_at "zev"
              refine item_list (isList_le hlw hle) (by walk_at "om") (by walk_at "om") (by rw [show (1 + (j : Int)).toNat = j + 1 by walk_at "om"]; exact eb) ?_
              walk_at "zev"
              refine item_list (isList_le hlrow (hG1.trans hle)) rb0 (by walk_at "om") ec ?_
              walk_at "zev"
              refine ⟨?_, _, _, rfl, fun _ _ e => e⟩
              rw [hrowd]
            · intro a Cg h₁₅ gs' tk₁₅ ps'' kb₁₅ ht₁₅ gr₁₅ hbgs hCg hgen
              walk_at "zev"
              have hbare' : AllBare (gs.push gs') := hbg.push hbgs
              refine all_gen hgen hbare' fun h₁₆ gs₁₆ tk₁₆ kb₁₆ hb₁₆ => ?_
              dsimp only
              have hCgI : ∀ b o, h₁₃.get? b = some o → b ∉ [Cg, h₁₃.objs.size] := fun b o e q => by
                simp only [List.mem_cons, List.not_mem_nil, or_false] at q
                rcases q with q | q
                · rw [← q, leI _ _ e] at hCg; cases hCg
                · exact Nat.lt_irrefl _ (q ▸ Heap.lt_size e)
              have kbT : KB [Pn] h₁₃ h₁₆ := fun b o hb e => kb₁₆ b o (hCgI b o e) (kb₁₅ b o hb (leI _ _ e))
              have hPg : Pn ∉ [Cg, h₁₃.objs.size] := by obtain ⟨o', ho'⟩ : ∃ o, h₁₃.get? Pn = some o := ⟨_, (ht'.le hk₁₃).2.2⟩; exact hCgI _ _ ho'
              have hcg : c ∉ [Cg, h₁₃.objs.size] := by obtain ⟨o', _, e, _⟩ := (ht'.le hk₁₃).2.1; exact hCgI _ _ e
              have ht₁₆ := ht₁₅.kb kb₁₆ hcg hPg
              have kbh : KB [Pn] h h₁₆ := (KB.of_le hk₁₃).trans kbT
              have hle : Le g1 h₁₆ := kbh.le hle (by simpa using gP)
              have hV := hV.kb kbh (fun a ha q => by
                obtain ⟨k, _, e⟩ := howns a ha
                rw [e] at q
                exact hPs k (List.mem_singleton.mp q).symm)
              refine wpAny_truthy_bool ?_
              have hop : (List.range (wy.length - 1)).all (fun i => decide (0 < (res.getD (wy.getD i 0).toNat []).getD (wy.getD (i + 1) 0).toNat 0)) = openB res wy := rfl
              rw [hop]
              refine if_by (fun hb => ?_) fun hb => ?_
              · walk_at "zev"
                have hfind : (waysF n src tgt).find? (openB res) = some wy := find_first hwy hb fun j hj => hno j hj
                refine hKK _ _ (hQ _ h₁₆ gs₁₆ _ ps'' (kbs (hG1.trans hle)) ht₁₆ (hgr.trans gr₁₅) hb₁₆ ?_)
                rw [dueF, if_neg hst, hfind]
                exact Ints.le hwi (le_hide hle (by simpa using gP))
              · walk_at "zev"
                refine hKK _ _ ⟨_, h₁₆, gs₁₆, _, rfl, hV, kbh, hb₁₆, ps'', hle, ht₁₆, hgr.trans gr₁₅, ?_, m1⟩
                intro j hj
                by_cases hji : j < i
                · exact hno j hji
                · obtain rfl : j = i := by walk_at "om"
                  rw [hgd]; exact hb
        · rintro m h gs tk hbg ⟨ps', hle, ht', hgr, hno, m1⟩ hk hV
          walk_at "zev"
          refine ⟨by simp, fun D h₁₃ hk₁₃ hf₁₃ hD => ?_⟩
          dsimp only at hk₁₃ hf₁₃ hD ⊢
          have hnone : (waysF n src tgt).find? (openB res) = none := by
            rw [List.find?_eq_none]
            intro w hw q
            obtain ⟨j, hj, e⟩ := List.mem_iff_getElem.mp hw
            have := hno j (by rw [List.size_toArray, hallg.length]; exact hj)
            rw [List.getD_eq_getElem?_getD, List.getElem?_eq_getElem hj, e] at this
            rw [show (some w).getD [] = w from rfl, q] at this
            cases this
          refine hQ _ h₁₃ gs _ ps' (kbs (hG1.trans (hle.trans hk₁₃))) (ht'.le hk₁₃) hgr hbg ⟨D, _, rfl, isList_hide hD.isList (fun q => noL_tab (ht'.le hk₁₃) _ (List.mem_singleton.mp q ▸ hD.isList)), ?_⟩
          rw [dueF, if_neg hst, hnone]
          trivial
end

-- 32_gen2.lean
-- needs: 01 02 03 04 05 06 08 09 10 11 12 13 14 15 16 21 28 29 30
abbrev G2 (elt i0 i1 : Expr) (x y : Str) (px py : Pos) (scope : Scope) (pos : Pos) : Expr := .GeneratorExp elt [⟨.Name x px, i0, [], 0⟩, ⟨.Name y py, i1, [], 0⟩] scope pos
theorem compTurn_g2a (elt i0 i1 : Expr) (x y : Str) (px py : Pos) (scope : Scope) (pos : Pos) (it acc : Value) (env : Env) :
    compTurn (G2 elt i0 i1 x y px py scope pos) 0 it acc env = (standAt i0.pos >>= fun _ => pyNext it >>= fun r => match r with
      | none => pure (.done .next)
      | some v => letOwnedTupleGo (.Name x px) it v >>= fun _ => assign (.Name x px) env v >>= fun _ =>
        eval i1 env >>= fun x' => standAt i1.pos >>= fun _ => foldedSetIterable i1 env x' >>= fun x' => holding [x'] (pyIter x') >>= fun it1 => runOwn (.compStart (G2 elt i0 i1 x y px py scope pos) 1 it1 acc env) env >>= fun _ =>
          again (.compLoop (G2 elt i0 i1 x y px py scope pos) 0 it acc env)) := by rfl
theorem compTurn_g2b (elt i0 i1 : Expr) (x y : Str) (px py : Pos) (scope : Scope) (pos : Pos) (it acc : Value) (env : Env) :
    compTurn (G2 elt i0 i1 x y px py scope pos) 1 it acc env = (standAt i1.pos >>= fun _ => pyNext it >>= fun r => match r with
      | none => pure (.done .next)
      | some v => letOwnedTupleGo (.Name y py) it v >>= fun _ => assign (.Name y py) env v >>= fun _ =>
        (eval elt env >>= fun v => standAt elt.pos >>= fun _ => yieldOut env v >>= fun _ => pure ()) >>= fun _ =>
          again (.compLoop (G2 elt i0 i1 x y px py scope pos) 1 it acc env)) := by rfl
theorem eval_G2 (elt i0 i1 : Expr) (x y : Str) (px py : Pos) (scope : Scope) (pos : Pos) (env : Env) (hco : scope.isCoroutine = false) :
    eval (G2 elt i0 i1 x y px py scope pos) env = (do
      let x' ← eval i0 env
      standAt i0.pos
      let x' ← genFold i0 env x'
      let it ← holding [x'] (pyIter x')
      enterFrame
      let cl ← closureFor scope env
      let code ← genexprCode env pos (env.qual ++ "<genexpr>") scope
      let bi ← builtinsFor env.globals env.builtins
      let cenv ← newFunctionEnv scope env.globals cl [(".0", it)] (env.qual ++ "<genexpr>.") none code none bi
      newGenerator (.compStart (G2 elt i0 i1 x y px py scope pos) 0 it .none cenv) "<genexpr>" (env.qual ++ "<genexpr>")) := by
  rw [arm_eval_GeneratorExp]
  simp only [hco, Bool.false_eq_true, if_false]
  cases i0 <;> rfl
section
variable {prog : Program} {w : World} {M : Model} {A : Around} {R : GenEnd} {Y : Protocol} {n : Nat} {s₀ : Shared} {c : Code} {fs : List Frame} {s : Shared} {env : Env}
theorem seg_runOwn {c' : Code} {K : Flow → Sem Fin} {H : Value → Sem Fin} {gd : Bool → Bool} {lv : List Value → List Value}
    (h : ∀ p, Seg M A R Y n s₀ c' (M.den c') (.ret (fun r => ((match r with | .ok f => (.pure f : Sem Flow) | .error e => .raise e).onRaise fun (x : Value) => do
        if (← field x 1) == Value.none then unsupported "frame.own-activation:exception-without-traceback"
        setFlight x env.frame).wrap K H gd lv) none (gd false) (lv []) c p [] :: fs) s) :
    Seg M A R Y n s₀ c ((runOwn c' env).wrap K H gd lv) fs s := seg_call h
def Since2 (C I0 : Addr) (href : Heap) (s₀ s : Shared) : Prop := ∃ h' tk, s = { s₀ with heap := h', toks := tk } ∧ KB [C, I0] href h'
def R2 (C I0 : Addr) (href : Heap) : GenEnd := fun n s₀ r s₁ => r = .ok .next ∧ n = 0 ∧ Since2 C I0 href s₀ s₁
def Y2 (C I0 : Addr) (href : Heap) : Protocol := fun _ s₀ v s kap => v = .bool true ∧ Since2 C I0 href s₀ s ∧ ∀ s'' : Shared, s''.heap = s.heap → kap (.send .none) s''
theorem Since2.step {C I0 : Addr} {href : Heap} {s₀ s : Shared} (x : Since2 C I0 href s₀ s) {h' : Heap} {tk : Nat} (hk : ∀ b o, b ≠ C → b ≠ I0 → href.get? b = some o → s.heap.get? b = some o → h'.get? b = some o) : Since2 C I0 href s₀ { s with heap := h', toks := tk } := by
  obtain ⟨h₁, tk₁, rfl, hk₁⟩ := x
  refine ⟨h', tk, rfl, fun b o hb e => ?_⟩
  have hb' : b ≠ C ∧ b ≠ I0 := by simpa using hb
  exact hk b o hb'.1 hb'.2 e (hk₁ b o hb e)
def rem (t : List (List Int)) (i : Nat) : Nat := ((t.drop i).map List.length).sum
theorem rem_succ {t : List (List Int)} {i : Nat} {row : List Int} (h : t[i]? = some row) : rem t i = row.length + rem t (i + 1) := by
  obtain ⟨hl, e⟩ := List.getElem?_eq_some_iff.mp h
  unfold rem
  rw [List.drop_eq_getElem_cons hl, List.map_cons, List.sum_cons, e]
theorem rem_end (t : List (List Int)) : rem t t.length = 0 := by simp [rem]
theorem seg_in {elt i0 i1 : Expr} {x y : Str} {px py : Pos} {scope : Scope} {pos : Pos} {cenv : Env} {g href : Heap} {I0 I1 lt lr : Addr} {vr : List Value} {row : List Int} {r0 i : Nat} {k : Result → Sem Fin} {l : List Value} {c₀ : Code} {p : Pos}
    (hh : A.handled = none) (hy : cenv.kindOf y = some .local) (hp : (cenv.scope.kind == .class || (cenv.scope.kind == .module && cenv.locals != cenv.globals)) = false) (hco : cenv.scope.isCoroutine = false)
    (hg : Le g href) (hgC : g.get? cenv.locals = none) (hgI : g.get? I0 = none) (hIC : I0 ≠ cenv.locals) (hlr : g.IsList lr vr.toArray) (hir : IntsAre vr row) (h1r : href.get? I1 = none) (h1C : I1 ≠ cenv.locals) (h1I : I1 ≠ I0)
    (helt : ∀ (A' : Around) E' j t (s₃ : Shared) m', A'.handled = none → Le g s₃.heap → s₃.heap.Ns cenv.locals m' → m' y = some (.int j t) → wpAny (model prog w) A' (eval elt cenv) (fun b s₄ => b = .bool true ∧ Keeps s₃ s₄) E' s₃)
    (hk : ∀ s₀ s m, s.heap.Ns cenv.locals m → s.heap.IsListIter I0 lt (i + 1) → Since2 cenv.locals I0 href s₀ s → Seg (model prog w) A (R2 cenv.locals I0 href) (Y2 cenv.locals I0 href) r0 s₀ c₀ (k (.ok .next)) [] s) :
    ∀ (d j : Nat) (s₀ s : Shared) (m : Str → Option Value), row.length - j = d → j ≤ row.length → s.heap.Ns cenv.locals m → s.heap.IsListIter I0 lt (i + 1) → s.heap.IsListIter I1 lr j → Since2 cenv.locals I0 href s₀ s →
      Seg (model prog w) A (R2 cenv.locals I0 href) (Y2 cenv.locals I0 href) (d + r0) s₀ (.compLoop (G2 elt i0 i1 x y px py scope pos) 1 (.ref I1) .none cenv) ((model prog w).den (.compLoop (G2 elt i0 i1 x y px py scope pos) 1 (.ref I1) .none cenv)) [.ret k none false l c₀ p []] s := by
  have hh' : (A.over (.compLoop (G2 elt i0 i1 x y px py scope pos) 1 (.ref I1) .none cenv) [.ret k none false l c₀ p []]).handled = none := hh
  have hrI : lr ≠ I1 := fun q => by
    obtain ⟨o, ho, _⟩ := hlr
    rw [q] at ho
    rw [hg _ _ ho] at h1r; cases h1r
  have hlS : ∀ {s₀ s : Shared}, Since2 cenv.locals I0 href s₀ s → Le g s.heap := fun {s₀ s} x b o e => by
    obtain ⟨h', tk, rfl, kb⟩ := x
    refine kb b o ?_ (hg b o e)
    simp only [List.mem_cons, List.not_mem_nil, or_false]
    rintro (q | q)
    · rw [q, hgC] at e; cases e
    · rw [q, hgI] at e; cases e
  have W := Walks.list (prog := prog) (w := w) (A := A.over (.compLoop (G2 elt i0 i1 x y px py scope pos) 1 (.ref I1) .none cenv) [.ret k none false l c₀ p []]) hh' I1 lr hrI vr.toArray
  have hsz : vr.toArray.size = row.length := by rw [List.size_toArray, hir.length]
  intro d
  induction d with
  | zero =>
    intro j s₀ s m hd hj hn hit hit1 hsince
    obtain rfl : j = row.length := by walk_at "om"
    show Seg _ A _ _ _ s₀ _ ((compTurn (G2 elt i0 i1 x y px py scope pos) 1 (.ref I1) .none cenv).onRaise (fun x => do noteFrame x cenv; theTreesLotGoes x)) _ s
    rw [compTurn_g2b, Sem.onRaise_eq_wrap]
    refine seg_bind_wrap (wpAny_standAt ?_)
    refine seg_bind_wrap (W.done s _ _ (by rw [hsz]; exact ⟨hit1, isList_le hlr (hlS hsince)⟩) fun h' tk hk' => ?_)
    have kb1 : ∀ b o, b ≠ I1 → s.heap.get? b = some o → h'.get? b = some o := fun b o hb e => hk' b o (fun q => hb (List.mem_singleton.mp q)) e
    rw [Nat.zero_add]
    refine seg_leaf (.ok .next) (hk s₀ _ m (hn.at' fun o e => kb1 _ o (Ne.symm h1C) e) (hit.at fun o e => kb1 _ o (Ne.symm h1I) e) (hsince.step fun b o _ _ e1 e2 => kb1 b o (fun q => by rw [q, h1r] at e1; cases e1) e2))
  | succ d ih =>
    intro j s₀ s m hd hj hn hit hit1 hsince
    have hlt : j < row.length := by walk_at "om"
    show Seg _ A _ _ _ s₀ _ ((compTurn (G2 elt i0 i1 x y px py scope pos) 1 (.ref I1) .none cenv).onRaise (fun x => do noteFrame x cenv; theTreesLotGoes x)) _ s
    rw [compTurn_g2b, Sem.onRaise_eq_wrap]
    refine seg_bind_wrap (wpAny_standAt ?_)
    refine seg_bind_wrap (W.item j s _ _ (by rw [hsz]; exact hlt) ⟨hit1, isList_le hlr (hlS hsince)⟩ fun v h₁ tk₁ hPv hst₁ hk₁ => ?_)
    have kb1 : ∀ b o, b ≠ I1 → s.heap.get? b = some o → h₁.get? b = some o := fun b o hb e => hk₁ b o (fun q => hb (List.mem_singleton.mp q)) e
    obtain ⟨tv, hv⟩ := intsAre_get hir hlt
    have hPv' : vr[j]? = some v := by simpa using hPv
    rw [hv] at hPv'
    cases hPv'
    refine seg_bind_wrap (wpAny_of_eq (rfl : letOwnedTupleGo (.Name y py) (.ref I1) _ = pure ()) ?_)
    refine seg_bind_wrap (wpAny_assign_Name (wpAny_storeName_local hy (hn.at' fun o e => kb1 _ o (Ne.symm h1C) e) (fun h₂ hn₂ hs₂ => ?_) hp))
    have hsince₂ : Since2 cenv.locals I0 href s₀ { s with heap := h₂, toks := tk₁ + 1 } := hsince.step fun b o hbC _ e1 e2 => (hs₂.2 b hbC).trans (kb1 b o (fun q => by rw [q, h1r] at e1; cases e1) e2)
    have hit₂ : h₂.IsListIter I0 lt (i + 1) := hit.at fun o e => (hs₂.2 _ hIC).trans (kb1 _ o (Ne.symm h1I) e)
    have hit1₂ : h₂.IsListIter I1 lr (j + 1) := hst₁.1.at fun o e => (hs₂.2 _ h1C).trans e
    have hyo : ∀ v, yieldOut cenv v = yieldValue v := fun v => by simp only [yieldOut, hco, Bool.false_eq_true, if_false]
    simp only [hyo]
    rw [Sem.bind_eq_wrap', Sem.bind_eq_wrap', Sem.wrap_wrap, Sem.wrap_wrap]
    refine seg_wrap (wpAny_mono (helt _ _ (row.getD j 0) tv _ _ hh' (hlS hsince₂) hn₂ (by simp)) (fun b s₄ h₄ => ?_) fun _ _ e => e)
    obtain ⟨rfl, h₄, tk₄, rfl, hk₄⟩ := h₄
    rw [Nat.succ_add]
    refine seg_at (seg_yield rfl rfl rfl ⟨rfl, hsince₂.step fun b o _ _ _ e2 => hk₄ b o e2, fun s'' hs'' => ?_⟩)
    refine seg_again rfl (ih (j + 1) s'' s'' _ (by walk_at "om") hlt (by rw [hs'']; exact hn₂.keeps hk₄) (by rw [hs'']; exact hit₂.at fun o e => hk₄ _ o e) (by rw [hs'']; exact hit1₂.at fun o e => hk₄ _ o e) ⟨s''.heap, s''.toks, rfl, ?_⟩)
    rw [hs'']
    obtain ⟨h', tk', e, kb⟩ := hsince₂.step (h' := h₄) (tk := tk₄) fun b o _ _ _ e2 => hk₄ b o e2
    have : h₄ = h' := by have := congrArg Shared.heap e; exact this
    rw [this]; exact kb
theorem seg_start1 {elt i0 i1 : Expr} {x y : Str} {px py : Pos} {scope : Scope} {pos : Pos} {cenv : Env} {I1 lr : Addr} {j : Nat} (hit : s.heap.IsListIter I1 lr j)
    (loop : Seg (model prog w) A R Y n s₀ (.compLoop (G2 elt i0 i1 x y px py scope pos) 1 (.ref I1) .none cenv) ((model prog w).den (.compLoop (G2 elt i0 i1 x y px py scope pos) 1 (.ref I1) .none cenv)) fs s) :
    Seg (model prog w) A R Y n s₀ (.compStart (G2 elt i0 i1 x y px py scope pos) 1 (.ref I1) .none cenv) ((model prog w).den (.compStart (G2 elt i0 i1 x y px py scope pos) 1 (.ref I1) .none cenv)) fs s := by
  show Seg _ A _ _ _ s₀ _ ((compStart (G2 elt i0 i1 x y px py scope pos) 1 (.ref I1) .none cenv).onRaise (fun x => do noteFrame x cenv; standAt theWindowsPlace)) _ _
  unfold compStart
  rw [Sem.onRaise_eq_wrap]
  show Seg _ A _ _ _ s₀ _ ((ask >>= _).wrap _ _ _ _) _ _
  refine seg_bind_wrap (wpAny_askSetting ?_)
  split
  · exact seg_again rfl loop
  · refine seg_bind_wrap (wpAny_rule ?_)
    show Seg _ A _ _ _ s₀ _ ((standAt i1.pos >>= _).wrap _ _ _ _) _ _
    exact seg_bind_wrap (wpAny_standAt (seg_bind_wrap (wpAny_pyIter_listiter hit (seg_again rfl loop))))
theorem seg_start0 {elt i0 i1 : Expr} {x y : Str} {px py : Pos} {scope : Scope} {pos : Pos} {cenv : Env} {I1 lr : Addr} {j : Nat} (hit : s.heap.IsListIter I1 lr j)
    (loop : Seg (model prog w) A R Y n s₀ (.compLoop (G2 elt i0 i1 x y px py scope pos) 0 (.ref I1) .none cenv) ((model prog w).den (.compLoop (G2 elt i0 i1 x y px py scope pos) 0 (.ref I1) .none cenv)) fs s) :
    Seg (model prog w) A R Y n s₀ (.compStart (G2 elt i0 i1 x y px py scope pos) 0 (.ref I1) .none cenv) ((model prog w).den (.compStart (G2 elt i0 i1 x y px py scope pos) 0 (.ref I1) .none cenv)) fs s := by
  show Seg _ A _ _ _ s₀ _ ((compStart (G2 elt i0 i1 x y px py scope pos) 0 (.ref I1) .none cenv).onRaise (leaving cenv)) _ _
  unfold compStart
  rw [Sem.onRaise_eq_wrap]
  show Seg _ A _ _ _ s₀ _ ((ask >>= _).wrap _ _ _ _) _ _
  refine seg_bind_wrap (wpAny_askSetting ?_)
  split
  · exact seg_again rfl loop
  · refine seg_bind_wrap (wpAny_rule ?_)
    show Seg _ A _ _ _ s₀ _ ((standAt i0.pos >>= _).wrap _ _ _ _) _ _
    exact seg_bind_wrap (wpAny_standAt (seg_bind_wrap (wpAny_pyIter_listiter hit (seg_again rfl loop))))
theorem seg_out {elt i0 : Expr} {x y : Str} {px py px1 : Pos} {scope : Scope} {pos : Pos} {cenv : Env} {g href : Heap} {I0 lt : Addr} {vs : List Value} {t : List (List Int)}
    (hh : A.handled = none) (hx : cenv.kindOf x = some .local) (hy : cenv.kindOf y = some .local) (hkf : cenv.scope.kind = .function) (hco : cenv.scope.isCoroutine = false) (hdx : (x == ("__debug__" : Str)) = false)
    (hg : Le g href) (hgC : g.get? cenv.locals = none) (hgI : g.get? I0 = none) (hIC : I0 ≠ cenv.locals) (hCr : ∃ o, href.get? cenv.locals = some o) (hIr : ∃ o, href.get? I0 = some o) (hlt : g.IsList lt vs.toArray) (ha : All2 (Ints g) vs t)
    (helt : ∀ (A' : Around) E' j t (s₃ : Shared) m', A'.handled = none → Le g s₃.heap → s₃.heap.Ns cenv.locals m' → m' y = some (.int j t) → wpAny (model prog w) A' (eval elt cenv) (fun b s₄ => b = .bool true ∧ Keeps s₃ s₄) E' s₃) :
    ∀ (d i : Nat) (s₀ s : Shared) (m : Str → Option Value), t.length - i = d → i ≤ t.length → s.heap.Ns cenv.locals m → s.heap.IsListIter I0 lt i → Since2 cenv.locals I0 href s₀ s →
      Seg (model prog w) A (R2 cenv.locals I0 href) (Y2 cenv.locals I0 href) (rem t i) s₀ (.compLoop (G2 elt i0 (.Name x px1) x y px py scope pos) 0 (.ref I0) .none cenv) ((model prog w).den (.compLoop (G2 elt i0 (.Name x px1) x y px py scope pos) 0 (.ref I0) .none cenv)) [] s := by
  have hp : (cenv.scope.kind == .class || (cenv.scope.kind == .module && cenv.locals != cenv.globals)) = false := by rw [hkf]; rfl
  have hh' : (A.over (.compLoop (G2 elt i0 (.Name x px1) x y px py scope pos) 0 (.ref I0) .none cenv) []).handled = none := hh
  have hlI : lt ≠ I0 := fun q => by
    obtain ⟨o, ho, _⟩ := hlt
    rw [q, hgI] at ho; cases ho
  have hlS : ∀ {s₀ s : Shared}, Since2 cenv.locals I0 href s₀ s → Le g s.heap := fun {s₀ s} x b o e => by
    obtain ⟨h', tk, rfl, kb⟩ := x
    refine kb b o ?_ (hg b o e)
    simp only [List.mem_cons, List.not_mem_nil, or_false]
    rintro (q | q)
    · rw [q, hgC] at e; cases e
    · rw [q, hgI] at e; cases e
  have W := Walks.list (prog := prog) (w := w) (A := A.over (.compLoop (G2 elt i0 (.Name x px1) x y px py scope pos) 0 (.ref I0) .none cenv) []) hh' I0 lt hlI vs.toArray
  have hsz : vs.toArray.size = t.length := by rw [List.size_toArray, ha.length]
  intro d
  induction d with
  | zero =>
    intro i s₀ s m hd hi hn hit hsince
    obtain rfl : i = t.length := by walk_at "om"
    show Seg _ A _ _ _ s₀ _ ((compTurn (G2 elt i0 (.Name x px1) x y px py scope pos) 0 (.ref I0) .none cenv).onRaise (leaving cenv)) [] s
    rw [compTurn_g2a, Sem.onRaise_eq_wrap]
    refine seg_bind_wrap (wpAny_standAt ?_)
    refine seg_bind_wrap (W.done s _ _ (by rw [hsz]; exact ⟨hit, isList_le hlt (hlS hsince)⟩) fun h' tk hk' => ?_)
    rw [rem_end]
    exact seg_end (.ok .next) ⟨rfl, rfl, hsince.step fun b o _ hb e1 e2 => hk' b o (fun q => hb (List.mem_singleton.mp q)) e2⟩
  | succ d ih =>
    intro i s₀ s m hd hi hn hit hsince
    have hlt' : i < t.length := by walk_at "om"
    show Seg _ A _ _ _ s₀ _ ((compTurn (G2 elt i0 (.Name x px1) x y px py scope pos) 0 (.ref I0) .none cenv).onRaise (leaving cenv)) [] s
    rw [compTurn_g2a, Sem.onRaise_eq_wrap]
    refine seg_bind_wrap (wpAny_standAt ?_)
    refine seg_bind_wrap (W.item i s _ _ (by rw [hsz]; exact hlt') ⟨hit, isList_le hlt (hlS hsince)⟩ fun v h₁ tk₁ hPv hst₁ hk₁ => ?_)
    have kb1 : ∀ b o, b ≠ I0 → s.heap.get? b = some o → h₁.get? b = some o := fun b o hb e => hk₁ b o (fun q => hb (List.mem_singleton.mp q)) e
    obtain ⟨row, hrow, lr, vr, rfl, hlr, har⟩ := ha.get (i := i) (a := v) (by simpa using hPv)
    refine seg_bind_wrap (wpAny_of_eq (rfl : letOwnedTupleGo (.Name x px) (.ref I0) _ = pure ()) ?_)
    refine seg_bind_wrap (wpAny_assign_Name (wpAny_storeName_local hx (hn.at' fun o e => kb1 _ o (Ne.symm hIC) e) (fun h₂ hn₂ hs₂ => ?_) hp))
    have hsince₂ : Since2 cenv.locals I0 href s₀ { s with heap := h₂, toks := tk₁ + 1 } := hsince.step fun b o hbC hbI e1 e2 => (hs₂.2 b hbC).trans (kb1 b o hbI e2)
    have hit₂ : h₂.IsListIter I0 lt (i + 1) := hst₁.1.at fun o e => (hs₂.2 _ hIC).trans e
    refine seg_bind_wrap (ev_loc (v := .ref lr) hn₂ (by simp) ?_ hkf hx hdx)
    refine seg_bind_wrap (wpAny_standAt ?_)
    refine seg_bind_wrap (wpAny_of_eq (rfl : foldedSetIterable (.Name x px1) cenv (.ref lr) = pure (.ref lr)) ?_)
    have hlr₂ : h₂.IsList lr vr.toArray := isList_le hlr (hlS hsince₂)
    refine seg_bind_wrap (wpAny_holding (wpAny_pyIter_list hlr₂ ?_))
    have leI : Le h₂ (h₂.push { cls := .type "list_iterator", data := .fields #[.ref lr, .int 0 0] }) := Le.push _
    have hsince₃ : Since2 cenv.locals I0 href s₀ { s with heap := h₂.push { cls := .type "list_iterator", data := .fields #[.ref lr, .int 0 0] }, toks := tk₁ + 1 } := hsince₂.step fun b o _ _ _ e2 => leI _ _ e2
    have h1r : href.get? h₂.objs.size = none := by
      cases q : href.get? h₂.objs.size with
      | none => rfl
      | some o =>
        obtain ⟨h', tk', e, kb⟩ := hsince₂
        have eh : h₂ = h' := by have := congrArg Shared.heap e; exact this
        by_cases q1 : h₂.objs.size = cenv.locals
        · exact absurd hn₂.lt (by rw [← q1]; exact Nat.lt_irrefl _)
        · by_cases q2 : h₂.objs.size = I0
          · obtain ⟨o', ho', _⟩ := hit₂
            exact absurd (Heap.lt_size ho') (by rw [← q2]; exact Nat.lt_irrefl _)
          · have := kb _ _ (by simp [q1, q2]) q
            rw [← eh] at this
            exact absurd (Heap.lt_size this) (Nat.lt_irrefl _)
    have h1C : h₂.objs.size ≠ cenv.locals := fun q => absurd hn₂.lt (by rw [← q]; exact Nat.lt_irrefl _)
    have h1I : h₂.objs.size ≠ I0 := fun q => by
      obtain ⟨o', ho', _⟩ := hit₂
      exact absurd (Heap.lt_size ho') (by rw [← q]; exact Nat.lt_irrefl _)
    rw [Sem.bind_eq_wrap', Sem.wrap_wrap]
    refine seg_runOwn fun p => ?_
    rw [rem_succ hrow]
    have hit₃ := hit₂.at fun o e => leI _ o e
    have hit1₃ : (h₂.push { cls := .type "list_iterator", data := .fields #[.ref lr, .int 0 0] }).IsListIter h₂.objs.size lr 0 := ⟨_, Heap.get?_push_size _ rfl, rfl, rfl⟩
    refine seg_start1 hit1₃ ?_
    refine seg_in hh hy hp hco hg hgC hgI hIC hlr (intsAre_all2.mpr har) h1r h1C h1I helt ?_ row.length 0 s₀ _ _ (Nat.sub_zero _) (Nat.zero_le _) (hn₂.keeps leI) hit₃ hit1₃ hsince₃
    intro s₀ s m hn hit hs
    exact seg_again rfl (ih (i + 1) s₀ s m (by walk_at "om") hlt' hn hit hs)
end

-- 33_all2.lean
-- needs: 01 02 03 04 05 06 08 09 10 11 12 13 14 15 16 21 28 29 30 32
def GenAt2 (prog : Program) (w : World) (A : Around) (a : Addr) (k : Nat) (C I0 : Addr) (href : Heap) (N j : Nat) (s : Shared) : Prop :=
  s.heap.IsGen a k ∧ s.heap.NoLimit ∧ KB [C, I0] href s.heap ∧ ∃ gs, s.gens[k]? = some gs ∧ ∀ s'' : Shared, s''.heap = s.heap → gs.Goes (model prog w) A.in1 (R2 C I0 href) (Y2 C I0 href) (N - j) (.send .none) s''
theorem bare_set {gens : Array GenState} {k : Nat} {x : GenState} (h : AllBare gens) (hx : x.bare = true) : AllBare (gens.setIfInBounds k x) := fun y hy => by
  rcases Array.mem_or_eq_of_mem_setIfInBounds hy with q | q
  · exact h y q
  · rw [q]; exact hx
section
variable {prog : Program} {w : World} {A : Around} {E : Value → Shared → Prop} {s : Shared} {a C I0 : Addr} {k N : Nat} {href : Heap}
theorem item2 {j : Nat} {Q : Option Value → Shared → Prop} (hh : A.handled = none) (hroom : A.depth < recursionLimit) (haC : a ≠ C) (haI : a ≠ I0) (hra : ∃ o, href.get? a = some o) (hrl : href.NoLimit) (hcC : cStatics ≠ C) (hcI : cStatics ≠ I0) (hj : j < N) (hst : GenAt2 prog w A a k C I0 href N j s) (hb : AllBare s.gens)
    (hQ : ∀ h' gs tk, GenAt2 prog w A a k C I0 href N (j + 1) { s with heap := h', gens := gs, toks := tk } → AllBare gs → Q (some (.bool true)) { s with heap := h', gens := gs, toks := tk }) :
    wpAny (model prog w) A (pyNext (.ref a)) Q E s := by
  obtain ⟨hg, hl, hkb, gs, hgs, hgo⟩ := hst
  obtain ⟨d, hd⟩ : ∃ d, N - j = d + 1 := ⟨N - j - 1, by walk_at "om"⟩
  rw [hd] at hgo
  refine wpAny_pyNext_genexpQ (P := fun n s₀ s₁ => n = 0 ∧ Since2 C I0 href s₀ s₁) hh hl hroom hg hgs (hgo _ rfl) (fun v s₁ gs' hb' hv => ?_) (fun s₁ hp h' hk => ?_)
  · obtain ⟨rfl, ⟨h₁, tk₁, rfl, kb⟩, hkap⟩ := hv
    obtain ⟨o, ho⟩ := hra
    have hIs : h₁.IsGen a k := by
      obtain ⟨o', nm, qn, ho', r⟩ := hg
      have e1 := hkb a o (by simp [haC, haI]) ho
      have e2 := kb a o (by simp [haC, haI]) ho
      rw [ho'] at e1; cases e1
      exact ⟨_, nm, qn, e2, r⟩
    have hlim : h₁.NoLimit := by
      obtain ⟨mc, hns, hnn⟩ := hrl
      exact ⟨mc, hns.at' fun o e => kb _ o (by simp [hcC, hcI]) e, hnn⟩
    refine hQ h₁ _ tk₁ ⟨hIs, hlim, kb, gs', setGen_self (gs := .running) (setGen_self hgs), fun s'' hs'' => ?_⟩ (bare_set (bare_set hb rfl) hb')
    rw [show N - (j + 1) = d by walk_at "om"]
    exact hkap s'' hs''
  · exact absurd hp.1 (Nat.succ_ne_zero d)
theorem done2 {Q : Option Value → Shared → Prop} (hh : A.handled = none) (hroom : A.depth < recursionLimit) (hst : GenAt2 prog w A a k C I0 href N N s) (hb : AllBare s.gens)
    (hQ : ∀ h' gs tk, KB [C, I0] href h' → AllBare gs → Q none { s with heap := h', gens := gs, toks := tk }) : wpAny (model prog w) A (pyNext (.ref a)) Q E s := by
  obtain ⟨hg, hl, hkb, gs, hgs, hgo⟩ := hst
  rw [Nat.sub_self] at hgo
  refine wpAny_pyNext_genexpQ (P := fun n s₀ s₁ => n = 0 ∧ Since2 C I0 href s₀ s₁) hh hl hroom hg hgs (hgo _ rfl) (fun v s₁ gs' hb' hv => ?_) (fun s₁ hp h' hk => ?_)
  · obtain ⟨_, _, hkap⟩ := hv
    exact False.elim (hkap s₁ rfl)
  · obtain ⟨_, h₁, tk₁, rfl, kb⟩ := hp
    exact hQ h' _ tk₁ (kb.trans (KB.of_le hk)) (bare_set (bare_set hb rfl) rfl)
theorem all_loop2 {R : Result → Shared → Prop} (hh : A.handled = none) (hroom : A.depth < recursionLimit) (haC : a ≠ C) (haI : a ≠ I0) (hra : ∃ o, href.get? a = some o) (hrl : href.NoLimit) (hcC : cStatics ≠ C) (hcI : cStatics ≠ I0)
    (hR : ∀ h' gs tk, KB [C, I0] href h' → AllBare gs → R (.ok (.ret (.bool true))) { s with heap := h', gens := gs, toks := tk }) :
    ∀ (d j : Nat) (h : Heap) (gs : Array GenState) (tk : Nat), N - j = d → j ≤ N → GenAt2 prog w A.in1 a k C I0 href N j { s with heap := h, gens := gs, toks := tk } → AllBare gs → codeAny (model prog w) A (.builtin "all.loop" ⟨[.ref a], []⟩) R { s with heap := h, gens := gs, toks := tk } := by
  intro d
  induction d with
  | zero =>
    intro j h gs tk hd hj hst hb
    obtain rfl : j = N := by walk_at "om"
    refine codeAny_builtin F.entry_all_loop ?_
    rw [Around.under_plainId F.plain_all_loop _]
    show wpAny _ A.in1 (pyNext (.ref a) >>= _) _ _ _
    refine wpAny_bind (done2 (A := A.in1) hh hroom hst hb fun h' gs' tk' kb hb' => ?_)
    exact wpAny_bind (wpAny_rule (wpAny_pure (hR h' gs' tk' kb hb')))
  | succ d ih =>
    intro j h gs tk hd hj hst hb
    refine codeAny_builtin F.entry_all_loop ?_
    rw [Around.under_plainId F.plain_all_loop _]
    show wpAny _ A.in1 (pyNext (.ref a) >>= _) _ _ _
    refine wpAny_bind (item2 (A := A.in1) hh hroom haC haI hra hrl hcC hcI (by walk_at "om") hst hb fun h' gs' tk' hst' hb' => ?_)
    refine wpAny_bind (wpAny_holding (wpAny_truthy_bool ?_))
    refine wpAny_bind (wpAny_letGo ?_)
    simp only [if_true]
    exact wpAny_pure ⟨plainId_quiet F.plain_all_loop _, ih (j + 1) h' gs' tk' (by walk_at "om") (by walk_at "om") hst' hb'⟩
theorem all_gen2 {Q : Value → Shared → Prop} (hh : A.handled = none) (hroom : A.depth < recursionLimit) (haC : a ≠ C) (haI : a ≠ I0) (hra : ∃ o, href.get? a = some o) (hrl : href.NoLimit) (hcC : cStatics ≠ C) (hcI : cStatics ≠ I0)
    (hst : GenAt2 prog w A.in1 a k C I0 href N 0 s) (hb : AllBare s.gens)
    (hQ : ∀ h' gs tk, KB [C, I0] href h' → AllBare gs → Q (.bool true) { s with heap := h', gens := gs, toks := tk }) : wpAny (model prog w) A (call (.builtin "all") [.ref a]) Q E s := by
  refine call_function_tree F.kind_all F.plain_all F.entry_all (F.args_all1 _) ?_
  unfold Builtin.«all»
  refine wpAny_bind (m := oneArg "all" _) (wpAny_pure ?_)
  refine wpAny_bind (wpAny_pyIter_gen hst.1 ?_)
  exact wpAny_pure ⟨plainId_quiet F.plain_all_loop _, all_loop2 (s := s) hh hroom haC haI hra hrl hcC hcI (fun h' gs tk kb hb' => hQ h' gs tk kb hb') N 0 s.heap s.gens s.toks rfl (Nat.zero_le _) hst hb⟩
theorem ev_gen2 {elt i0 : Expr} {x y : Str} {px py px1 : Pos} {scope : Scope} {pos : Pos} {Q : Value → Shared → Prop} {c : Addr} {g : Heap} {env : Env} {mg mb : Str → Option Value}
    (hh : A.handled = none) (hroom : A.depth < recursionLimit) (Cx0 : Cx mg mb g) (B : BM mg g) (hc : env.code = .ref c)
    (hclos : closureFor scope env = pure []) (hcell : (scope.names.all fun y => y.2 != .cell) = true) (h0 : scope.names.lookup (".0" : Str) = some NameKind.local) (hx : scope.names.lookup x = some .local) (hy : scope.names.lookup y = some .local) (hkind : scope.kind = .function) (hco : scope.isCoroutine = false) (hdx : (x == ("__debug__" : Str)) = false)
    (h : wpAny (model prog w) A (eval i0 env) (fun xv s₁ => ∃ lt vs t ps Pn, xv = .ref lt ∧ Le g s₁.heap ∧ g.IsList lt (List.toArray vs) ∧ All2 (Ints g) vs t ∧ g.get? Pn = none ∧ c ≠ Pn ∧ Tab s₁.heap c Pn ps ∧
      (∀ (Cl : Addr) (code : Value) (A' : Around) E' j t (s₃ : Shared) m', A'.handled = none → Le g s₃.heap → s₃.heap.Ns Cl m' → m' y = some (.int j t) → wpAny (model prog w) A' (eval elt (genEnv scope [] Cl code builtinsNs env)) (fun b s₄ => b = .bool true ∧ Keeps s₃ s₄) E' s₃) ∧
      (∀ a C I0 h' gs tk ps' k N, KB [Pn] s₁.heap h' → Tab h' c Pn ps' → Grown ps ps' → gs.bare = true → s₁.heap.get? C = none → s₁.heap.get? I0 = none → a ≠ C → a ≠ I0 → (∃ o, h'.get? a = some o) → h'.NoLimit → cStatics ≠ C → cStatics ≠ I0 →
        GenAt2 prog w A.in1 a k C I0 h' N 0 { s₁ with heap := h', gens := s₁.gens.push gs, toks := tk } → Q (.ref a) { s₁ with heap := h', gens := s₁.gens.push gs, toks := tk })) E s)
    (hs : ∀ x, genFold i0 env x = pure x := by intro _; rfl) (hgl : env.globals = mainGlobals := by rfl) :
    wpAny (model prog w) A (eval (G2 elt i0 (.Name x px1) x y px py scope pos) env) Q E s := by
  rw [eval_G2 _ _ _ _ _ _ _ _ _ _ hco, hclos]
  refine wpAny_bind (wpAny_mono h (fun xv s₁ h₁ => ?_) fun _ _ e => e)
  obtain ⟨lt, vs, t, ps, Pn, rfl, hle, hlt, ha, hgP, hcP, ht, helt, hQ⟩ := h₁
  refine wpAny_bind (wpAny_standAt ?_)
  refine wpAny_bind (wpAny_of_eq (hs _) ?_)
  refine wpAny_bind (wpAny_holding (wpAny_pyIter_list (isList_le hlt hle) ?_))
  have leI : Le s₁.heap (s₁.heap.push { cls := .type "list_iterator", data := .fields #[.ref lt, .int 0 0] }) := Le.push _
  have hle₂ := hle.trans leI
  refine wpAny_bind (wpAny_enterFrame (Cx0.lim.keeps hle₂) hroom ?_)
  refine wpAny_bind (wpAny_pure ?_)
  refine wpAny_bind (gcode hc (ht.le leI) fun code h₃ tk₃ ps' kb₃ ht₃ gr => ?_)
  obtain ⟨bm, ob, BMo⟩ := B
  have hle₃ : Le g h₃ := kb₃.le hle₂ (by simpa using hgP)
  rw [hgl]
  refine wpAny_bind (wpAny_builtinsFor (BMo.ns.keeps hle₃) BMo.name BMo.ne (hle₃ _ _ BMo.obj) BMo.cls BMo.dict BMo.data ?_)
  have hbinds : ∀ y ∈ ([((".0" : Str), Value.ref s₁.heap.objs.size)] : List (Str × Value)), scope.names.lookup y.1 = some NameKind.local := by
    intro y hy
    rcases List.mem_cons.mp hy with rfl | hy
    · exact h0
    · cases hy
  refine wpAny_bind (wpAny_newFunctionEnv (fun y hy => by simpa using List.all_eq_true.mp hcell y hy) hbinds (fun h' hn' hs' => ?_) hkind)
  simp only [newGenerator, newFields]
  refine wpAny_bind (wpAny_newGen (wpAny_bind (wpAny_mkText (wpAny_bind (wpAny_mkText (wpAny_newObj_type ?_ (by size_fits)))))))
  dsimp only
  have le4 : Le h₃ h' := fun b o e => hs'.extBut b o (Nat.ne_of_lt (Heap.lt_size e)) (Heap.get?_push_of_some _ e)
  have hcenv : newEnv scope h₃.objs.size mainGlobals [] (env.qual ++ Str.ofString "<genexpr>.") none code none builtinsNs = genEnv scope [] h₃.objs.size code builtinsNs env := by
    unfold newEnv genEnv; rw [hgl]
  rw [hcenv]
  suffices key : ∀ (go : Obj) (tk : Nat), go.cls = .type "generator" → (∃ nm qn, go.data = .fields #[.int s₁.gens.size 0, nm, qn] ∧ go.slots = #[]) → Q (.ref h'.objs.size) { s₁ with heap := h'.push go, gens := s₁.gens.push (.fresh (.compStart (G2 elt i0 (.Name x px1) x y px py scope pos) 0 (.ref s₁.heap.objs.size) .none (genEnv scope [] h₃.objs.size code builtinsNs env))), toks := tk } from key _ _ rfl ⟨_, _, rfl, rfl⟩
  rintro go tkg hgc ⟨nm, qn, hgd, hgs⟩
  have hgf : go.isFreed = false := by
    obtain ⟨c', d', dt, sl⟩ := go
    have : dt = _ := hgd
    subst this; rfl
  have le5 : Le h' (h'.push go) := Le.push _
  have kbI : KB [Pn] s₁.heap h₃ := (KB.of_le leI).trans kb₃
  have hCn : s₁.heap.get? h₃.objs.size = none := by
    cases q : s₁.heap.get? h₃.objs.size with
    | none => rfl
    | some o =>
      have hne : h₃.objs.size ≠ Pn := fun q' => Nat.lt_irrefl _ (by have := ht₃.ltP; rw [← q'] at this; exact this)
      exact absurd (Heap.lt_size (kbI _ _ (fun q' => hne (List.mem_singleton.mp q')) q)) (Nat.lt_irrefl _)
  have hIP : s₁.heap.objs.size ≠ Pn := fun q => Nat.lt_irrefl _ (by have := ht.ltP; rw [← q] at this; exact this)
  have hit3 : h₃.IsListIter s₁.heap.objs.size lt 0 := (show (s₁.heap.push { cls := .type "list_iterator", data := .fields #[.ref lt, .int 0 0] }).IsListIter s₁.heap.objs.size lt 0 from ⟨_, Heap.get?_push_size _ rfl, rfl, rfl⟩).at fun o e => kb₃ _ o (fun q => hIP (List.mem_singleton.mp q)) e
  have hIlt : s₁.heap.objs.size < h₃.objs.size := by obtain ⟨o, ho, _⟩ := hit3; exact Heap.lt_size ho
  have hClt : h₃.objs.size < h'.objs.size := hn'.lt
  have hgC : g.get? h₃.objs.size = none := none_back hle hCn
  have hgI : g.get? s₁.heap.objs.size = none := none_of_le hle
  have hcs : ∀ {b : Addr}, g.get? b = none → cStatics ≠ b := fun {b} hb q => by
    obtain ⟨_, ⟨o, _, _, ho, _⟩, _⟩ := Cx0.lim
    rw [q, hb] at ho; cases ho
  have hle5 : Le g (h'.push go) := (hle₃.trans le4).trans le5
  refine hQ h'.objs.size h₃.objs.size s₁.heap.objs.size (h'.push go) (.fresh (.compStart (G2 elt i0 (.Name x px1) x y px py scope pos) 0 (.ref s₁.heap.objs.size) .none (genEnv scope [] h₃.objs.size code builtinsNs env))) _ ps' s₁.gens.size (rem t 0)
    (kbI.trans ((KB.of_le le4).trans (KB.of_le le5))) ((ht₃.le le4).le le5) gr rfl hCn (fresh_none _) (Nat.ne_of_gt hClt) (Nat.ne_of_gt (Nat.lt_trans hIlt hClt)) ⟨_, Heap.get?_push_size _ hgf⟩ (Cx0.lim.keeps hle5) (hcs hgC) (hcs hgI) ?_
  refine ⟨⟨go, nm, qn, Heap.get?_push_size _ hgf, hgc, hgd, hgs⟩, Cx0.lim.keeps hle5, KB.rfl, _, Array.getElem?_push_size .., fun s'' hs'' => ⟨rfl, ?_⟩⟩
  have hit5 : (h'.push go).IsListIter s₁.heap.objs.size lt 0 := (hit3.at fun o e => le4 _ o e).at fun o e => le5 _ o e
  refine seg_start0 (by rw [hs'']; exact hit5) ?_
  refine seg_out (cenv := genEnv scope [] h₃.objs.size code builtinsNs env) (A := A.in1.in1) hh hx hy hkind hco hdx hle5 hgC hgI (Nat.ne_of_lt hIlt) ⟨_, (let ⟨o, _, _, ho, _⟩ := hn'; (⟨o, le5 _ _ ho⟩ : ∃ o, (h'.push go).get? h₃.objs.size = some o)).choose_spec⟩ ⟨_, (let ⟨o, ho, _⟩ := hit5; (⟨o, ho⟩ : ∃ o, (h'.push go).get? s₁.heap.objs.size = some o)).choose_spec⟩ hlt ha (helt _ _) t.length 0 s'' s'' _ rfl (Nat.zero_le _) (by rw [hs'']; exact hn'.push _) (by rw [hs'']; exact hit5) ⟨s''.heap, s''.toks, rfl, by rw [hs'']; exact KB.rfl⟩
end

-- 40_plain.lean
-- needs: 01 02 03 04 05 06 08 09 10 11 12 13 14 15 16 17 18 20 21 22 23 24 25 28 29 30 31
-- more: KE.KSortTup
def ent (t : List (List Int)) (u v : Nat) : Int := (t.getD u []).getD v 0
theorem sq_ext {n : Nat} {s t : List (List Int)} (hs : Sq n s) (ht : Sq n t) (h : ∀ u v, u < n → v < n → ent s u v = ent t u v) : s = t := by
  apply List.ext_getElem
  · rw [hs.1, ht.1]
  · intro u h1 h2
    have hu : u < n := by rw [← hs.1]; exact h1
    have es : s.getD u [] = s[u] := by simp [List.getD_eq_getElem?_getD, h1]
    have et : t.getD u [] = t[u] := by simp [List.getD_eq_getElem?_getD, h2]
    apply List.ext_getElem
    · rw [hs.2 _ (List.getElem_mem _), ht.2 _ (List.getElem_mem _)]
    · intro v h3 h4
      have hv : v < n := by rw [← hs.2 _ (List.getElem_mem h1)]; exact h3
      have := h u v hu hv
      unfold ent at this
      rw [es, et] at this
      simpa [List.getD_eq_getElem?_getD, h3, h4] using this
theorem ent_add {n : Nat} {t : List (List Int)} (h : Sq n t) {i j u v : Nat} {w : Int} (hi : i < n) (hj : j < n) (hu : u < n) (hv : v < n) : ent (addAt t i j w) u v = ent t u v + if i = u ∧ j = v then w else 0 := by
  unfold ent addAt
  have hu' : u < t.length := by rw [h.1]; exact hu
  have hv' : v < t[u].length := by rw [h.2 _ (List.getElem_mem _)]; exact hv
  have e0 : t.getD u [] = t[u] := by simp [List.getD_eq_getElem?_getD, hu']
  have e1 : (t.modify i fun r => r.modify j (· + w)).getD u [] = if i = u then t[u].modify j (· + w) else t[u] := by
    rw [List.getD_eq_getElem?_getD, List.getElem?_modify, List.getElem?_eq_getElem hu']
    by_cases hiu : i = u <;> simp [hiu]
  rw [e0, e1]
  by_cases hiu : i = u
  · rw [if_pos hiu]
    rw [List.getD_eq_getElem?_getD, List.getElem?_modify, List.getElem?_eq_getElem hv', List.getD_eq_getElem?_getD, List.getElem?_eq_getElem hv']
    by_cases hjv : j = v <;> simp [hiu, hjv]
  · rw [if_neg hiu]
    simp [hiu]
theorem ent_fold {n : Nat} {u v : Nat} (hu : u < n) (hv : v < n) : ∀ (es : List Edge) {t : List (List Int)}, Sq n t → (∀ e ∈ es, 0 ≤ e.1 ∧ e.1 < n ∧ 0 ≤ e.2.1 ∧ e.2.1 < n) → ent (es.foldl addE t) u v = ent t u v + (wOf es u v).sum
  | [], t, _, _ => by simp [wOf]
  | e :: es, t, h, hr => by
    obtain ⟨h1, h2, h3, h4⟩ := hr e (List.mem_cons_self ..)
    rw [List.foldl_cons, ent_fold hu hv es (t := addE t e) (sq_addAt h _ _ _) fun e' he' => hr e' (List.mem_cons_of_mem _ he')]
    unfold addE
    rw [ent_add h (by walk_at "om") (by walk_at "om") hu hv]
    unfold wOf
    rw [List.filterMap_cons]
    unfold fW
    by_cases hc : e.1 = (u : Int) ∧ e.2.1 = (v : Int)
    · rw [if_pos hc, if_pos (by walk_at "om")]
      simp only [List.sum_cons]
      omega
    · rw [if_neg hc, if_neg (by walk_at "om")]
      simp
theorem sq_room (n : Nat) (es : List Edge) : Sq n (roomF n es) := by
  unfold roomF
  refine ⟨by simp, fun r hr => ?_⟩
  obtain ⟨u, _, rfl⟩ := List.mem_map.mp hr
  simp
theorem ent_room {n : Nat} {es : List Edge} {u v : Nat} (hu : u < n) (hv : v < n) : ent (roomF n es) u v = (wOf es u v).sum := by
  unfold ent roomF
  simp [List.getD_eq_getElem?_getD, hu, hv]
/-- what capacity_table gives is what the law's own table is -/
theorem cap_room {n : Nat} {es : List Edge} (hr : ∀ e ∈ es, 0 ≤ e.1 ∧ e.1 < n ∧ 0 ≤ e.2.1 ∧ e.2.1 < n) : capF n es = roomF n es := by
  have hs : Sq n (capF n es) := by have := sq_fold es (sq_tab0 (n : Int)); simpa [capF] using this
  refine sq_ext hs (sq_room n es) fun u v hu hv => ?_
  rw [ent_room hu hv]
  unfold capF
  have h0 := sq_tab0 (n : Int)
  rw [Int.toNat_natCast] at h0
  rw [ent_fold hu hv es h0 hr]
  have : ent (tab0 n) u v = 0 := by
    unfold ent tab0
    simp [List.getD_eq_getElem?_getD, hu, hv]
  omega
/-- the last of a sorted list of pairs with a key is the one with the greatest value -/
theorem look_some {ps : List PK} {k : Int × Int} : (lookL ps k = none ↔ ∀ p ∈ ps, p.1 ≠ k) ∧ (ps.Pairwise (fun p q => ltP q p = false) → ∀ x, lookL ps k = some x → (k, x) ∈ ps ∧ ∀ p ∈ ps, p.1 = k → p.2 ≤ x) := by
  suffices H : ∀ (qs ps : List PK), ps = qs.reverse → (lookL ps k = none ↔ ∀ p ∈ ps, p.1 ≠ k) ∧ (ps.Pairwise (fun p q => ltP q p = false) → ∀ x, lookL ps k = some x → (k, x) ∈ ps ∧ ∀ p ∈ ps, p.1 = k → p.2 ≤ x) from H ps.reverse ps (by simp)
  intro qs
  induction qs with
  | nil => rintro ps rfl; simp [lookL]
  | cons q qs ih =>
    rintro ps rfl
    rw [List.reverse_cons]
    have e : lookL (qs.reverse ++ [q]) k = if q.1 = k then some q.2 else lookL qs.reverse k := by simp [lookL, List.foldl_append]
    obtain ⟨i1, i2⟩ := ih qs.reverse rfl
    rw [e]
    refine ⟨?_, fun hp x hx => ?_⟩
    · by_cases hq : q.1 = k
      · rw [if_pos hq]
        constructor
        · intro h; cases h
        · intro h; exact absurd hq (h q (by simp))
      · rw [if_neg hq, i1]
        constructor
        · intro h p hp
          rcases List.mem_append.mp hp with hp | hp
          · exact h p hp
          · rw [List.mem_singleton.mp hp]; exact hq
        · intro h p hp; exact h p (List.mem_append_left _ hp)
    · rw [List.pairwise_append] at hp
      obtain ⟨hp1, _, hp3⟩ := hp
      by_cases hq : q.1 = k
      · rw [if_pos hq] at hx
        cases hx
        refine ⟨List.mem_append_right _ (by rw [← hq]; simp), fun p hpm hpk => ?_⟩
        rcases List.mem_append.mp hpm with hpm | hpm
        · have hl := hp3 p hpm q (by simp)
          rw [Bool.eq_false_iff, Ne, ltP_iff] at hl
          have e1 : p.1 = q.1 := by rw [hpk, hq]
          rw [e1] at hl
          omega
        · rw [List.mem_singleton.mp hpm]; omega
      · rw [if_neg hq] at hx
        obtain ⟨j1, j2⟩ := i2 hp1 x hx
        refine ⟨List.mem_append_left _ j1, fun p hpm hpk => ?_⟩
        rcases List.mem_append.mp hpm with hpm | hpm
        · exact j2 p hpm hpk
        · rw [List.mem_singleton.mp hpm] at hpk; exact absurd hpk hq
theorem mem_wOf {es : List Edge} {a b x : Int} : x ∈ wOf es a b ↔ (a, b, x) ∈ es := by
  unfold wOf
  rw [List.mem_filterMap]
  constructor
  · rintro ⟨e, he, h⟩
    unfold fW at h
    split at h
    · rename_i hc
      cases h
      obtain ⟨e1, e2, e3⟩ := e
      simp only at hc
      rw [← hc.1, ← hc.2]; exact he
    · cases h
  · intro h
    exact ⟨_, h, by simp [fW]⟩
/-- the two weights of a walk agree -/
theorem weights_agree {es : List Edge} {ps : List PK} (hp : ps.Perm (es.map pkOf)) (hs : ps.Pairwise (fun p q => ltP q p = false)) : ∀ (ws : List Int) (tot : Int), wtF ps ws tot = pwF es ws tot
  | [], tot => rfl
  | [_], tot => rfl
  | a :: b :: r, tot => by
    obtain ⟨l1, l2⟩ := look_some (ps := ps) (k := (a, b))
    have hmem : ∀ x, ((a, b), -x) ∈ ps ↔ x ∈ wOf es a b := fun x => by
      rw [hp.mem_iff, mem_wOf, List.mem_map]
      constructor
      · rintro ⟨e, he, h⟩
        obtain ⟨e1, e2, e3⟩ := e
        simp only [pkOf, Prod.mk.injEq] at h
        obtain ⟨⟨rfl, rfl⟩, h⟩ := h
        have : e3 = x := by walk_at "om"
        rw [← this]; exact he
      · intro h
        exact ⟨_, h, rfl⟩
    rw [wtF, pwF]
    cases hl : lookL ps (a, b) with
    | none =>
      have hno := l1.mp hl
      have : wOf es a b = [] := by
        apply List.eq_nil_iff_forall_not_mem.mpr
        intro x hx
        exact hno _ ((hmem x).mpr hx) rfl
      rw [if_pos this]
    | some x =>
      obtain ⟨h1, h2⟩ := l2 hs x hl
      have hx : -x ∈ wOf es a b := (hmem (-x)).mp (by rw [Int.neg_neg]; exact h1)
      have hne : ¬ wOf es a b = [] := fun q => by rw [q] at hx; simp at hx
      rw [if_neg hne]
      have hmin : minL (wOf es a b) = -x := minL_is hx fun y hy => by
        have := h2 _ ((hmem y).mpr hy) rfl
        simp only at this
        omega
      rw [hmin]
      show wtF ps (b :: r) (tot - x) = _
      rw [weights_agree hp hs (b :: r) (tot - x), Int.sub_eq_add_neg]

-- 41_bfsdue.lean
-- needs: 01 02 03 04 05 06 08 09 10 11 12 13 14 15 16 17 18 20 21 28 29 30 31
/-- the pairs that matter to a search from src -/
def relP (n src : Nat) : List (Nat × Nat) := (List.range n).flatMap fun u => ((List.range n).filter fun v => Nat.beq u v == false && Nat.beq v src == false).map fun v => (u, v)
def bitOf (ps : List (Nat × Nat)) (bs : List Bool) (u v : Nat) : Int := match ps, bs with
  | (a, b) :: ps, x :: bs => if Nat.beq a u && Nat.beq b v then (if x then 1 else 0) else bitOf ps bs u v
  | _, _ => 0
def resOf (n src : Nat) (bs : List Bool) : List (List Int) := (List.range n).map fun u => (List.range n).map fun v => bitOf (relP n src) bs u v
def boolLists : Nat → List (List Bool)
  | 0 => [[]]
  | k + 1 => (boolLists k).flatMap fun l => [true :: l, false :: l]
def okS (n src : Nat) : Bool := (boolLists (relP n src).length).all fun bs => (List.range n).all fun t => decide (wayF (resOf n src bs) n src t = dueF (resOf n src bs) n src t)
theorem okS1 : okS 1 0 = true := by decide +kernel
theorem okS2 : (List.range 2).all (okS 2) = true := by decide +kernel
theorem okS3 : (List.range 3).all (okS 3) = true := by decide +kernel
theorem all_bool {f : List Bool → Bool} {k : Nat} (h1 : (boolLists k).all (fun l => f (true :: l)) = true) (h2 : (boolLists k).all (fun l => f (false :: l)) = true) : (boolLists (k + 1)).all f = true := by
  rw [List.all_eq_true]
  intro bs hb
  unfold boolLists at hb
  obtain ⟨l, hl, hb⟩ := List.mem_flatMap.mp hb
  rcases List.mem_cons.mp hb with rfl | hb
  · exact List.all_eq_true.mp h1 l hl
  · rw [List.mem_singleton.mp hb]
    exact List.all_eq_true.mp h2 l hl
theorem okS40 : okS 4 0 = true := all_bool (k := 8) (all_bool (by decide +kernel) (by decide +kernel)) (all_bool (by decide +kernel) (by decide +kernel))
theorem okS41 : okS 4 1 = true := all_bool (k := 8) (all_bool (by decide +kernel) (by decide +kernel)) (all_bool (by decide +kernel) (by decide +kernel))
theorem okS42 : okS 4 2 = true := all_bool (k := 8) (all_bool (by decide +kernel) (by decide +kernel)) (all_bool (by decide +kernel) (by decide +kernel))
theorem okS43 : okS 4 3 = true := all_bool (k := 8) (all_bool (by decide +kernel) (by decide +kernel)) (all_bool (by decide +kernel) (by decide +kernel))
theorem okS_all {n src : Nat} (hn : n ≤ 4) (hs : src < n) : okS n src = true := by
  rcases (show n = 1 ∨ n = 2 ∨ n = 3 ∨ n = 4 by walk_at "om") with rfl | rfl | rfl | rfl
  · obtain rfl : src = 0 := by walk_at "om"
    exact okS1
  · exact List.all_eq_true.mp okS2 src (List.mem_range.mpr hs)
  · exact List.all_eq_true.mp okS3 src (List.mem_range.mpr hs)
  · rcases (show src = 0 ∨ src = 1 ∨ src = 2 ∨ src = 3 by walk_at "om") with rfl | rfl | rfl | rfl
    · exact okS40
    · exact okS41
    · exact okS42
    · exact okS43

-- 42_bfsdue2.lean
-- needs: 01 02 03 04 05 06 08 09 10 11 12 13 14 15 16 17 18 20 21 28 29 30 31 40 41
-- more: KE.KSortTup
/-- two tables alike where it matters -/
def Alike (n : Nat) (src : Int) (r r' : List (List Int)) : Prop := ∀ u v : Nat, u < n → v < n → u ≠ v → (v : Int) ≠ src → (0 < ent r u v ↔ 0 < ent r' u v)
theorem augV_alike {n : Nat} {src u : Int} {p : List (Option Int) × List Int} {row row' : List Int} {v : Nat} (hu : Good n src p.1 u) (hv : v < n) (h : (v : Int) ≠ src → (v : Int) ≠ u → (0 < row.getD v 0 ↔ 0 < row'.getD v 0)) : augV row src u p v = augV row' src u p v := by
  unfold augV
  by_cases h1 : (v : Int) = src
  · rw [if_neg (fun q => q.2.1 h1), if_neg (fun q => q.2.1 h1)]
  · by_cases h2 : (v : Int) = u
    · have hne : p.1.getD v none ≠ none := by
        rcases hu.2.2 with q | q
        · exact absurd (h2.trans q) h1
        · rw [← h2, Int.toNat_natCast] at q; exact q
      rw [if_neg (fun q => hne q.2.2), if_neg (fun q => hne q.2.2)]
    · have := h h1 h2
      by_cases h3 : 0 < row.getD v 0 ∧ (v : Int) ≠ src ∧ p.1.getD v none = none
      · rw [if_pos h3, if_pos ⟨this.mp h3.1, h3.2⟩]
      · rw [if_neg h3, if_neg (fun q => h3 ⟨this.mpr q.1, q.2⟩)]
theorem fold_alike {n : Nat} {src u : Int} {row row' : List Int} (h : ∀ v : Nat, v < n → (v : Int) ≠ src → (v : Int) ≠ u → (0 < row.getD v 0 ↔ 0 < row'.getD v 0)) : ∀ (vs : List Nat) {p : List (Option Int) × List Int}, (∀ v ∈ vs, v < n) → Inv n src p → Good n src p.1 u → vs.foldl (augV row src u) p = vs.foldl (augV row' src u) p
  | [], _, _, _, _ => rfl
  | v :: vs, p, hv, hi, hg => by
    have hvn := hv v (List.mem_cons_self ..)
    rw [List.foldl_cons, List.foldl_cons, augV_alike hg hvn (h v hvn)]
    obtain ⟨h1, h2⟩ := inv_augV (row := row') hi hg hvn
    exact fold_alike h vs (fun v' h' => hv v' (List.mem_cons_of_mem _ h')) h1 h2
theorem bfs_alike {n : Nat} {src : Int} {r r' : List (List Int)} (h0 : 0 ≤ src) (h1 : src < n) (h : Alike n src r r') : ∀ k, bfs r n src k = bfs r' n src k
  | 0 => rfl
  | k + 1 => by
    have ih := bfs_alike h0 h1 h k
    simp only [bfs]
    rw [ih]
    split
    · rename_i hk
      have hI := inv_bfs r' n src h0 h1 k
      have hG := hI.inq _ (getD_mem hk)
      unfold augR
      refine fold_alike (fun v hv hvs hvu => ?_) _ (fun v hv => List.mem_range.mp hv) hI hG
      have := h ((bfs r' n src k).2.getD k 0).toNat v (by have := hG.1; have := hG.2.1; omega) hv (by intro q; apply hvu; have := hG.1; omega) hvs
      exact this
    · rfl
def op2 (r : List (List Int)) (a b : Int) : Bool := decide (0 < ent r a.toNat b.toNat)
theorem open2 (r : List (List Int)) (a b : Int) : openB r [a, b] = op2 r a b := by simp [openB, op2, ent]
theorem open3 (r : List (List Int)) (a b c : Int) : openB r [a, b, c] = (op2 r a b && op2 r b c) := by simp [openB, op2, ent, List.range_succ]
theorem open4 (r : List (List Int)) (a b c d : Int) : openB r [a, b, c, d] = (op2 r a b && op2 r b c && op2 r c d) := by simp [openB, op2, ent, List.range_succ, Bool.and_assoc]
theorem op2_alike {n : Nat} {src : Int} {r r' : List (List Int)} (h : Alike n src r r') {a b : Int} (ha0 : 0 ≤ a) (ha1 : a < n) (hb0 : 0 ≤ b) (hb1 : b < n) (hab : a ≠ b) (hbs : b ≠ src) : op2 r a b = op2 r' a b := by
  unfold op2
  rw [decide_eq_decide]
  exact h a.toNat b.toNat (by walk_at "om") (by walk_at "om") (by walk_at "om") (by walk_at "om")
theorem find_congr {α : Type} {p q : α → Bool} : ∀ {l : List α}, (∀ x ∈ l, p x = q x) → l.find? p = l.find? q
  | [], _ => rfl
  | x :: l, h => by
    rw [List.find?_cons, List.find?_cons, h x (List.mem_cons_self ..), find_congr fun y hy => h y (List.mem_cons_of_mem _ hy)]
theorem due_alike {n : Nat} {src tgt : Int} {r r' : List (List Int)} (h0 : 0 ≤ src) (h1 : src < n) (t0 : 0 ≤ tgt) (t1 : tgt < n) (h : Alike n src r r') : dueF r n src tgt = dueF r' n src tgt := by
  unfold dueF
  by_cases hst : src = tgt
  · rw [if_pos hst, if_pos hst]
  rw [if_neg hst, if_neg hst]
  congr 1
  unfold waysF
  rw [List.find?_append, List.find?_append, List.find?_append, List.find?_append]
  have eA : op2 r src tgt = op2 r' src tgt := op2_alike h h0 h1 t0 t1 hst (Ne.symm hst)
  rw [List.find?_singleton, List.find?_singleton, open2, open2, ← eA]
  cases hA : op2 r src tgt with
  | true => rfl
  | false =>
    have hA' : op2 r' src tgt = false := by rw [← eA]; exact hA
    simp only [Bool.false_eq_true, if_false, Option.none_or]
    have key3 : ∀ a : Nat, a < n → (op2 r src a && op2 r a tgt) = (op2 r' src a && op2 r' a tgt) := by
      intro a ha
      by_cases q1 : (a : Int) = src
      · rw [q1, hA, hA', Bool.and_false, Bool.and_false]
      · by_cases q2 : (a : Int) = tgt
        · rw [q2, hA, hA', Bool.false_and, Bool.false_and]
        · rw [op2_alike h h0 h1 (by walk_at "om") (by walk_at "om") (Ne.symm q1) q1, op2_alike h (by walk_at "om") (by walk_at "om") t0 t1 q2 (Ne.symm hst)]
    have eB : ((List.range n).map fun a : Nat => [src, (a : Int), tgt]).find? (openB r) = ((List.range n).map fun a : Nat => [src, (a : Int), tgt]).find? (openB r') := find_congr fun w hw => by
      obtain ⟨a, ha, rfl⟩ := List.mem_map.mp hw
      rw [open3, open3, key3 a (List.mem_range.mp ha)]
    rw [eB]
    cases hB : ((List.range n).map fun a : Nat => [src, (a : Int), tgt]).find? (openB r') with
    | some w => rfl
    | none =>
      simp only [Option.none_or]
      have no3' : ∀ a : Nat, a < n → (op2 r' src a && op2 r' a tgt) = false := by
        intro a ha
        have := List.find?_eq_none.mp hB [src, (a : Int), tgt] (List.mem_map.mpr ⟨a, List.mem_range.mpr ha, rfl⟩)
        rw [open3] at this
        simpa using this
      have no3 : ∀ a : Nat, a < n → (op2 r src a && op2 r a tgt) = false := fun a ha => (key3 a ha).trans (no3' a ha)
      refine find_congr fun w hw => ?_
      unfold outs at hw
      obtain ⟨a, ha, hw⟩ := List.mem_flatMap.mp hw
      obtain ⟨b, hb, rfl⟩ := List.mem_map.mp hw
      have ha := List.mem_range.mp ha
      have hb := List.mem_range.mp hb
      rw [open4, open4]
      have comm : ∀ (R : List (List Int)), (∀ c : Nat, c < n → (op2 R src c && op2 R c tgt) = false) → op2 R src tgt = false → ((a : Int) = src ∨ (a : Int) = tgt ∨ (b : Int) = src ∨ (b : Int) = tgt ∨ (a : Int) = b) → (op2 R src a && op2 R a b && op2 R b tgt) = false := by
        intro R hno hd hc
        rcases hc with q | q | q | q | q
        · rw [q]
          have := hno b hb
          cases h1 : op2 R src b <;> cases h2 : op2 R b tgt <;> cases h3 : op2 R src src <;> simp_all
        · rw [q, hd]; rfl
        · rw [q, hd, Bool.and_false]
        · rw [q]
          have := hno a ha
          cases h1 : op2 R src a <;> cases h2 : op2 R a tgt <;> cases h3 : op2 R tgt tgt <;> simp_all
        · rw [← q]
          have := hno a ha
          cases h1 : op2 R src a <;> cases h2 : op2 R a tgt <;> cases h3 : op2 R a a <;> simp_all
      by_cases hc : (a : Int) = src ∨ (a : Int) = tgt ∨ (b : Int) = src ∨ (b : Int) = tgt ∨ (a : Int) = b
      · rw [comm r no3 hA hc, comm r' no3' hA' hc]
      · simp only [not_or] at hc
        rw [op2_alike h h0 h1 (by walk_at "om") (by walk_at "om") (Ne.symm hc.1) hc.1, op2_alike h (by walk_at "om") (by walk_at "om") (by walk_at "om") (by walk_at "om") hc.2.2.2.2 hc.2.2.1, op2_alike h (by walk_at "om") (by walk_at "om") t0 t1 hc.2.2.2.1 (Ne.symm hst)]
theorem bitOf_map (f : Nat × Nat → Bool) : ∀ {ps : List (Nat × Nat)} {u v : Nat}, (u, v) ∈ ps → bitOf ps (ps.map f) u v = if f (u, v) then 1 else 0
  | (a, b) :: ps, u, v, h => by
    rw [List.map_cons, bitOf]
    by_cases hc : a = u ∧ b = v
    · obtain ⟨rfl, rfl⟩ := hc
      rw [if_pos (by simp)]
    · rw [if_neg (by simpa using fun q => fun q' => hc ⟨q, q'⟩)]
      rcases List.mem_cons.mp h with q | q
      · simp only [Prod.mk.injEq] at q
        exact absurd ⟨q.1.symm, q.2.symm⟩ hc
      · exact bitOf_map f q
theorem nbf {u v : Nat} (h : u ≠ v) : Nat.beq u v = false := by
  cases e : Nat.beq u v with
  | false => rfl
  | true => exact absurd (Nat.eq_of_beq_eq_true e) h
theorem mem_relP {n src u v : Nat} (hu : u < n) (hv : v < n) (huv : u ≠ v) (hvs : v ≠ src) : (u, v) ∈ relP n src := by
  unfold relP
  refine List.mem_flatMap.mpr ⟨u, List.mem_range.mpr hu, List.mem_map.mpr ⟨v, List.mem_filter.mpr ⟨List.mem_range.mpr hv, ?_⟩, rfl⟩⟩
  have e1 : Nat.beq u v = false := nbf huv
  have e2 : Nat.beq v src = false := nbf hvs
  rw [e1, e2]; rfl
theorem mem_boolLists : ∀ {k : Nat} {l : List Bool}, l.length = k → l ∈ boolLists k
  | 0, [], _ => List.mem_singleton_self _
  | k + 1, x :: l, h => by
    unfold boolLists
    refine List.mem_flatMap.mpr ⟨l, mem_boolLists (by simpa using h), ?_⟩
    cases x <;> simp
theorem alike_bits {n src : Nat} (r : List (List Int)) : Alike n (src : Int) r (resOf n src ((relP n src).map fun p => decide (0 < ent r p.1 p.2))) := by
  intro u v hu hv huv hvs
  have e : ent (resOf n src ((relP n src).map fun p => decide (0 < ent r p.1 p.2))) u v = bitOf (relP n src) ((relP n src).map fun p => decide (0 < ent r p.1 p.2)) u v := by
    unfold ent resOf
    simp [List.getD_eq_getElem?_getD, hu, hv]
  rw [e, bitOf_map _ (mem_relP hu hv huv (by walk_at "om"))]
  by_cases hq : 0 < ent r u v
  · simp [hq]
  · simp [hq]
/-- the search's way is the first open way -/
theorem way_due {n : Nat} {src tgt : Int} (r : List (List Int)) (hn : n ≤ 4) (h0 : 0 ≤ src) (h1 : src < n) (t0 : 0 ≤ tgt) (t1 : tgt < n) : wayF r n src tgt = dueF r n src tgt := by
  obtain ⟨a, rfl⟩ := Int.eq_ofNat_of_zero_le h0
  obtain ⟨b, rfl⟩ := Int.eq_ofNat_of_zero_le t0
  have ha : a < n := by walk_at "om"
  have hb : b < n := by walk_at "om"
  have hal := alike_bits (n := n) (src := a) r
  have e1 : wayF r n a b = wayF (resOf n a ((relP n a).map fun p => decide (0 < ent r p.1 p.2))) n a b := by
    unfold wayF
    rw [bfs_alike h0 h1 hal]
  rw [e1, due_alike h0 h1 t0 t1 hal]
  have hok := okS_all hn ha
  unfold okS at hok
  have h2 := List.all_eq_true.mp hok ((relP n a).map fun p => decide (0 < ent r p.1 p.2)) (mem_boolLists (by simp))
  exact of_decide_eq_true (List.all_eq_true.mp h2 b (List.mem_range.mpr hb))

-- 43_treelaw.lean
-- needs: 01 02 03 04 05 06 08 09 10 11 12 13 14 15 16 17 18 19 22 26
-- more: KE.KDictOf
theorem treeF_congr {n root : Int} {p q : List Int} {m : Nat} (h : ∀ k, 1 ≤ k → k ≤ m → chosenF p k = chosenF q k) : ∀ i, i ≤ m → treeF n root p i = treeF n root q i
  | 0, _ => rfl
  | i + 1, hi => by
    rw [treeF, treeF, treeF_congr h i (by walk_at "om"), treeStep, treeStep, treeWay, treeWay, h (i + 1) (by walk_at "om") hi]
def okT (n root sink : Nat) (p : List Int) : Bool :=
  let T := treeF n root p (n - 1)
  let ops := prevF T.2 n
  decide (ptF ops root sink = T.1.getD (((sink : Int) - root).fmod n).toNat []) &&
  (decide ((root : Int) = sink) || decide (ops.getD sink none = none) || (List.range n).all fun i => decide ((ptI ops root sink i).1 = root) || (decide (0 ≤ (ptI ops root sink i).1) && decide ((ptI ops root sink i).1 < n) && (ops.getD (ptI ops root sink i).1.toNat none).isSome))
def allT (n : Nat) : Bool := (List.range n).all fun root => (List.range n).all fun sink => (List.range 2).all fun a => (List.range 3).all fun b => (List.range 4).all fun c => okT n root sink [(a : Int), (b : Int), (c : Int)]
theorem allT1 : allT 1 = true := by decide +kernel
theorem allT2 : allT 2 = true := by decide +kernel
theorem allT3 : allT 3 = true := by decide +kernel
theorem allT4 : allT 4 = true := by decide +kernel
theorem fmod_small {a b : Int} (h0 : 0 ≤ a) (h1 : a < b) : a.fmod b = a := by
  rw [Int.fmod_eq_emod_of_nonneg _ (by walk_at "om"), Int.emod_eq_of_lt h0 h1]
theorem tree_ok {n root sink : Nat} {p : List Int} (hn0 : 0 < n) (hn : n ≤ 4) (hr : root < n) (hs : sink < n) : okT n root sink p = true := by
  have hall : allT n = true := by
    rcases (show n = 1 ∨ n = 2 ∨ n = 3 ∨ n = 4 by walk_at "om") with rfl | rfl | rfl | rfl
    · exact allT1
    · exact allT2
    · exact allT3
    · exact allT4
  obtain ⟨a, ha, ha'⟩ : ∃ a : Nat, a < 2 ∧ chosenF p 1 = a := ⟨(chosenF p 1).toNat, by have := fmod_lo (p.getD (1 - 1) 0) (b := ((1 : Nat) : Int) + 1) (by decide); have := fmod_hi (p.getD (1 - 1) 0) (b := ((1 : Nat) : Int) + 1) (by decide); unfold chosenF; omega, by have := fmod_lo (p.getD (1 - 1) 0) (b := ((1 : Nat) : Int) + 1) (by decide); unfold chosenF; omega⟩
  obtain ⟨b, hb, hb'⟩ : ∃ b : Nat, b < 3 ∧ chosenF p 2 = b := ⟨(chosenF p 2).toNat, by have := fmod_lo (p.getD (2 - 1) 0) (b := ((2 : Nat) : Int) + 1) (by decide); have := fmod_hi (p.getD (2 - 1) 0) (b := ((2 : Nat) : Int) + 1) (by decide); unfold chosenF; omega, by have := fmod_lo (p.getD (2 - 1) 0) (b := ((2 : Nat) : Int) + 1) (by decide); unfold chosenF; omega⟩
  obtain ⟨c, hc, hc'⟩ : ∃ c : Nat, c < 4 ∧ chosenF p 3 = c := ⟨(chosenF p 3).toNat, by have := fmod_lo (p.getD (3 - 1) 0) (b := ((3 : Nat) : Int) + 1) (by decide); have := fmod_hi (p.getD (3 - 1) 0) (b := ((3 : Nat) : Int) + 1) (by decide); unfold chosenF; omega, by have := fmod_lo (p.getD (3 - 1) 0) (b := ((3 : Nat) : Int) + 1) (by decide); unfold chosenF; omega⟩
  have hcg : treeF n root p (n - 1) = treeF n root [(a : Int), (b : Int), (c : Int)] (n - 1) := treeF_congr (m := n - 1) (fun k h1 h2 => by
    rcases (show k = 1 ∨ k = 2 ∨ k = 3 by walk_at "om") with rfl | rfl | rfl
    · rw [ha']
      show (a : Int) = (a : Int).fmod (((1 : Nat) : Int) + 1)
      rw [fmod_small (by walk_at "om") (by walk_at "om")]
    · rw [hb']
      show (b : Int) = (b : Int).fmod (((2 : Nat) : Int) + 1)
      rw [fmod_small (by walk_at "om") (by walk_at "om")]
    · rw [hc']
      show (c : Int) = (c : Int).fmod (((3 : Nat) : Int) + 1)
      rw [fmod_small (by walk_at "om") (by walk_at "om")]) _ (Nat.le_refl _)
  have h1 := List.all_eq_true.mp hall root (List.mem_range.mpr hr)
  have h2 := List.all_eq_true.mp h1 sink (List.mem_range.mpr hs)
  have h3 := List.all_eq_true.mp h2 a (List.mem_range.mpr ha)
  have h4 := List.all_eq_true.mp h3 b (List.mem_range.mpr hb)
  have h5 := List.all_eq_true.mp h4 c (List.mem_range.mpr hc)
  unfold okT at h5 ⊢
  rw [hcg]
  exact h5
theorem tree_law {n : Nat} {root sink : Int} {p : List Int} (hn0 : 0 < n) (hn : n ≤ 4) (hr0 : 0 ≤ root) (hr : root < n) (hs0 : 0 ≤ sink) (hs : sink < n) :
    ptF (prevF (treeF n root p (n - 1)).2 n) root sink = (treeF n root p (n - 1)).1.getD ((sink - root).fmod n).toNat [] ∧
    (root ≠ sink → (prevF (treeF n root p (n - 1)).2 n).getD sink.toNat none ≠ none → ∀ i < (prevF (treeF n root p (n - 1)).2 n).length, (ptI (prevF (treeF n root p (n - 1)).2 n) root sink i).1 ≠ root → 0 ≤ (ptI (prevF (treeF n root p (n - 1)).2 n) root sink i).1 ∧ (ptI (prevF (treeF n root p (n - 1)).2 n) root sink i).1 < (prevF (treeF n root p (n - 1)).2 n).length ∧ (prevF (treeF n root p (n - 1)).2 n).getD (ptI (prevF (treeF n root p (n - 1)).2 n) root sink i).1.toNat none ≠ none) := by
  obtain ⟨a, rfl⟩ := Int.eq_ofNat_of_zero_le hr0
  obtain ⟨b, rfl⟩ := Int.eq_ofNat_of_zero_le hs0
  have h := tree_ok (p := p) hn0 hn (show a < n by walk_at "om") (show b < n by walk_at "om")
  have hlen : (prevF (treeF n a p (n - 1)).2 n).length = n := by simp [prevF]
  unfold okT at h
  rw [Bool.and_eq_true] at h
  refine ⟨of_decide_eq_true h.1, fun hne hsome i hi hir => ?_⟩
  rw [hlen] at hi ⊢
  have h2 := h.2
  rw [Bool.or_eq_true, Bool.or_eq_true] at h2
  rcases h2 with (h2 | h2) | h2
  · exact absurd (of_decide_eq_true h2) hne
  · exact absurd (of_decide_eq_true h2) hsome
  · have h3 := List.all_eq_true.mp h2 i (List.mem_range.mpr hi)
    rw [Bool.or_eq_true] at h3
    rcases h3 with h3 | h3
    · exact absurd (of_decide_eq_true h3) hir
    · rw [Bool.and_eq_true, Bool.and_eq_true] at h3
      exact ⟨of_decide_eq_true h3.1.1, of_decide_eq_true h3.1.2, by intro q; rw [q] at h3; exact absurd h3.2 (by simp)⟩

-- 44_load.lean
-- needs: 01 02 03 04 05 06 08 09 10 11 12 13 14 15 16 17 18 20 21 28 29 30 31 40 41 42
-- more: KE.KSortTup
theorem pw_some {es : List Edge} : ∀ (ws : List Int) (tot : Int), (∀ i, i + 1 < ws.length → wOf es (ws.getD i 0) (ws.getD (i + 1) 0) ≠ []) → ∃ x, pwF es ws tot = some x
  | [], tot, _ => ⟨tot, rfl⟩
  | [_], tot, _ => ⟨tot, rfl⟩
  | a :: b :: r, tot, h => by
    have h0 : wOf es a b ≠ [] := h 0 (by simp)
    rw [pwF, if_neg h0]
    exact pw_some (b :: r) _ fun i hi => by have := h (i + 1) (by simpa using hi); simpa using this
/-- an open way has a weight -/
theorem due_load {n : Nat} {es : List Edge} {src tgt : Int} (hs0 : 0 ≤ src) (hs1 : src < n) (ht0 : 0 ≤ tgt) (ht1 : tgt < n) : ∃ x, pwF es (dueF (roomF n es) n src tgt) 0 = some x := by
  unfold dueF
  by_cases hst : src = tgt
  · rw [if_pos hst]; exact ⟨0, rfl⟩
  · rw [if_neg hst]
    cases hf : (waysF n src tgt).find? (openB (roomF n es)) with
    | none => exact ⟨0, rfl⟩
    | some wy =>
      have hop : openB (roomF n es) wy = true := List.find?_some hf
      obtain ⟨h2, h4, hr⟩ := waysF_ok hs0 hs1 ht0 ht1 wy (List.mem_of_find?_eq_some hf)
      refine pw_some wy 0 fun i hi q => ?_
      unfold openB at hop
      have := List.all_eq_true.mp hop i (List.mem_range.mpr (by walk_at "om"))
      have hpos : 0 < ent (roomF n es) (wy.getD i 0).toNat (wy.getD (i + 1) 0).toNat := of_decide_eq_true this
      obtain ⟨a0, a1⟩ := hr _ (getD_mem' (l := wy) (k := i) (by walk_at "om"))
      obtain ⟨b0, b1⟩ := hr _ (getD_mem' (l := wy) (k := i + 1) hi)
      rw [ent_room (by walk_at "om") (by walk_at "om")] at hpos
      rw [show (((wy.getD i 0).toNat : Nat) : Int) = wy.getD i 0 by walk_at "om", show (((wy.getD (i + 1) 0).toNat : Nat) : Int) = wy.getD (i + 1) 0 by walk_at "om", q] at hpos
      simp at hpos

-- 45_sees.lean
-- needs: 01 02 03 04 05 15 17
-- more: PyProof.NeData PyProof.P3Eq PyProof.P3In PyProof.IsRules PyProof.TypeOfCall
def Sees (h : Heap) (v : Value) (d : PyData) : Prop := ∃ as, Reads h v d as
def SeesAll (h : Heap) (vs : List Value) (ds : List PyData) : Prop := ∃ as, ReadsAll h vs ds as
theorem sees_list {h : Heap} {l : Addr} {vs : List Value} {ds : List PyData} (hl : h.IsList l vs.toArray) (r : SeesAll h vs ds) : Sees h (.ref l) (.list ds) := by
  obtain ⟨o, ho, hc, n, hd⟩ := hl
  obtain ⟨as, r⟩ := r
  exact ⟨_, .list ho hc hd r⟩
theorem sees_tup {h : Heap} {l : Addr} {vs : List Value} {ds : List PyData} (hl : IsTup h l vs.toArray) (r : SeesAll h vs ds) : Sees h (.ref l) (.tuple ds) := by
  obtain ⟨o, ho, hc, n, hd⟩ := hl
  obtain ⟨as, r⟩ := r
  exact ⟨_, .tuple ho hc hd r⟩
theorem seesAll_of {α : Type} {h : Heap} {R : Value → α → Prop} {f : α → PyData} (hR : ∀ v x, R v x → Sees h v (f x)) : ∀ {vs : List Value} {xs : List α}, All2 R vs xs → SeesAll h vs (xs.map f)
  | [], [], _ => ⟨[], .nil⟩
  | _ :: _, _ :: _, r => by
    obtain ⟨a, r1⟩ := hR _ _ r.1
    obtain ⟨b, r2⟩ := seesAll_of hR r.2
    exact ⟨_, .cons r1 r2⟩
theorem sees_listIs {α : Type} {R : Heap → Value → α → Prop} {f : α → PyData} {h : Heap} (hR : ∀ v x, R h v x → Sees h v (f x)) {v : Value} {xs : List α} (x : ListIs R h v xs) : Sees h v (.list (xs.map f)) := by
  obtain ⟨l, vs, rfl, hl, ha⟩ := x
  exact sees_list hl (seesAll_of hR ha)
def dInts (ns : List Int) : PyData := .list (ns.map .int)
def dMat (t : List (List Int)) : PyData := .list (t.map dInts)
def dOpt : Option Int → PyData
  | none => .none
  | some i => .int i
def dOpts (os : List (Option Int)) : PyData := .list (os.map dOpt)
def dEdge (e : Edge) : PyData := .tuple [.int e.1, .int e.2.1, .int e.2.2]
def dEdgeL (es : List Edge) : PyData := .list (es.map dEdge)
theorem sees_int {h : Heap} {v : Value} {i : Int} (x : IntIs h v i) : Sees h v (.int i) := by
  obtain ⟨t, rfl⟩ := x; exact ⟨_, .int i t⟩
theorem sees_opt {h : Heap} {v : Value} {o : Option Int} (x : OptIs h v o) : Sees h v (dOpt o) := by
  cases o with
  | none =>
    have e : v = .none := x
    subst e; exact ⟨_, .none⟩
  | some i =>
    obtain ⟨t, rfl⟩ : ∃ t, v = .int i t := x
    exact ⟨_, .int i t⟩
theorem sees_ints {h : Heap} {v : Value} {ns : List Int} (x : Ints h v ns) : Sees h v (dInts ns) := sees_listIs (fun _ _ r => sees_int r) x
theorem sees_mat {h : Heap} {v : Value} {t : List (List Int)} (x : Mat h v t) : Sees h v (dMat t) := sees_listIs (fun _ _ r => sees_ints r) x
theorem sees_opts {h : Heap} {v : Value} {os : List (Option Int)} (x : ListIs OptIs h v os) : Sees h v (dOpts os) := sees_listIs (fun _ _ r => sees_opt r) x
theorem sees_edge {h : Heap} {v : Value} {e : Edge} (x : EdgeIs h v e) : Sees h v (dEdge e) := by
  obtain ⟨a, t1, t2, t3, rfl, ht⟩ := x
  exact sees_tup (vs := [.int e.1 t1, .int e.2.1 t2, .int e.2.2 t3]) ht ⟨_, .cons (.int _ _) (.cons (.int _ _) (.cons (.int _ _) .nil))⟩
theorem sees_edges {h : Heap} {v : Value} {es : List Edge} (x : ListIs EdgeIs h v es) : Sees h v (dEdgeL es) := sees_listIs (fun _ _ r => sees_edge r) x
theorem layAll {α : Type} {f : α → PyData} (hf : ∀ x, (f x).canLay0 = true) : ∀ xs : List α, PyData.canLayAll0 (xs.map f) = true
  | [] => rfl
  | x :: xs => by
    show ((f x).canLay0 && PyData.canLayAll0 (xs.map f)) = true
    rw [hf x, layAll hf xs]; rfl
theorem lay_ints (ns : List Int) : (dInts ns).canLay0 = true := layAll (fun _ => rfl) ns
theorem lay_mat (t : List (List Int)) : (dMat t).canLay0 = true := layAll lay_ints t
theorem lay_opts (os : List (Option Int)) : (dOpts os).canLay0 = true := layAll (fun o => by cases o <;> rfl) os
theorem lay_edges (es : List Edge) : (dEdgeL es).canLay0 = true := layAll (fun _ => rfl) es
theorem deepAll {α : Type} {f : α → PyData} {k : Nat} (hf : ∀ x, (f x).depth ≤ k) : ∀ xs : List α, PyData.depthAll (xs.map f) ≤ k
  | [] => Nat.zero_le _
  | x :: xs => Nat.max_le.mpr ⟨hf x, deepAll hf xs⟩
theorem deep_ints (ns : List Int) : (dInts ns).depth ≤ 1 := Nat.succ_le_succ (deepAll (k := 0) (fun _ => Nat.le_refl _) ns)
theorem deep_mat (t : List (List Int)) : (dMat t).depth ≤ 2 := Nat.succ_le_succ (deepAll (k := 1) deep_ints t)
theorem deep_opts (os : List (Option Int)) : (dOpts os).depth ≤ 1 := Nat.succ_le_succ (deepAll (k := 0) (fun o => by cases o <;> exact Nat.le_refl _) os)
theorem deep_edges (es : List Edge) : (dEdgeL es).depth ≤ 2 := Nat.succ_le_succ (deepAll (k := 1) (fun e => by show _ ≤ _; exact Nat.le_refl _) es)
section
variable {prog : Program} {w : World} {A : Around} {E : Value → Shared → Prop} {s : Shared} {Q : Value → Shared → Prop} {a b : Value}
theorem ne_seen {da db : PyData} (ra : Sees s.heap a da) (rb : Sees s.heap b db) (ha : da.canLay0 = true) (hb : db.canLay0 = true) (hd : da.depth ≤ 2) (hu : A.units + 2 < cLine) (h : Q (.bool (!PyData.eqv da db)) s) : wpAny (model prog w) A (compareOp .NotEq a b) Q E s :=
  let ⟨_, ra⟩ := ra; let ⟨_, rb⟩ := rb
  SeqAt.compareNe_reads ra rb ha hb (by have := Nat.min_le_left da.depth db.depth; omega) h
theorem ne_same {d : PyData} (ra : Sees s.heap a d) (rb : Sees s.heap b d) (ha : d.canLay0 = true) (hd : d.depth ≤ 2) (hu : A.units + 2 < cLine) (h : Q (.bool false) s) : wpAny (model prog w) A (compareOp .NotEq a b) Q E s :=
  ne_seen ra rb ha ha hd hu (by rw [SeqAt.eqv_refl d ha]; exact h)
theorem ne_bool {x y : Bool} (h : Q (.bool (x != y)) s) (hu : A.units + 2 < cLine) : wpAny (model prog w) A (compareOp .NotEq (.bool x) (.bool y)) Q E s :=
  ne_seen (da := .bool x) (db := .bool y) ⟨_, .bool x⟩ ⟨_, .bool y⟩ rfl rfl (Nat.zero_le _) hu (by
    have e : (!PyData.eqv (.bool x) (.bool y)) = (x != y) := by cases x <;> cases y <;> simp [PyData.eqv]
    rw [e]; exact h)
theorem eq_bool {x y : Bool} (h : Q (.bool (x == y)) s) (hu : A.units + 2 < cLine) : wpAny (model prog w) A (compareOp .Eq (.bool x) (.bool y)) Q E s := by
  refine SeqAt.compareEq_reads (da := .bool x) (db := .bool y) (.bool x) (.bool y) rfl rfl (by have := Nat.min_le_left (PyData.depth (.bool x)) (PyData.depth (.bool y)); have : PyData.depth (.bool x) = 0 := rfl; omega) ?_
  have e : PyData.eqv (.bool x) (.bool y) = (x == y) := by cases x <;> cases y <;> simp [PyData.eqv]
  rw [e]; exact h
theorem type_int {i : Int} {t : Tok} (h : Q (.type "int") s) : wpAny (model prog w) A (call (.type "type") [.int i t]) Q E s := call_type_of (Tx := "int") rfl rfl h
theorem type_bool {x : Bool} (h : Q (.type "bool") s) : wpAny (model prog w) A (call (.type "type") [.bool x]) Q E s := call_type_of (Tx := "bool") rfl rfl h
theorem is_type {T : String} (h : Q (.bool true) s) : wpAny (model prog w) A (compareOp .Is (.type T) (.type T)) Q E s := by
  refine wpAny_is_plain rfl ?_
  rw [beq_self_eq_true]; exact h
/-- x in (a, b), all ints -/
theorem in_pair {t : Addr} {x p q : Int} {t1 t2 t3 : Tok} (ht : IsTup s.heap t #[.int p t1, .int q t2]) (hu : A.units + 3 < cLine) (h : Q (.bool (decide (x = p) || decide (x = q))) s) : wpAny (model prog w) A (compareOp .In (.int x t3) (.ref t)) Q E s := by
  obtain ⟨as, r⟩ := sees_tup (vs := [.int p t1, .int q t2]) (ds := [.int p, .int q]) ht ⟨_, .cons (.int _ _) (.cons (.int _ _) .nil)⟩
  refine SeqAt.in_tuple_reads r (.int x t3) rfl rfl ?_ ?_
  · have h1 := Nat.min_le_right (PyData.depthAll [PyData.int p, PyData.int q]) (PyData.int x).depth
    have h2 : (PyData.int x).depth = 0 := rfl
    omega
  · have e : ([PyData.int p, PyData.int q].any fun y => y.eqv (PyData.int x)) = (decide (x = p) || decide (x = q)) := by
      have e1 : ∀ u : Int, PyData.eqv (PyData.int u) (PyData.int x) = decide (x = u) := fun u => by
        simp only [PyData.eqv]
        by_cases c : x = u
        · subst c; simp
        · have c' : ¬ u = x := fun q => c q.symm
          simp [c, c']
      simp [List.any_cons, e1]
    rw [e]; exact h
end

-- 50_ls.lean
-- needs: 01 02 03 04 05 06 08 10 11 12 13 14 15 16 17 29 30 31 45
/-- no list and no tuple lies at X -/
def NoLT (h : Heap) (X : List Addr) : Prop := ∀ a ∈ X, (∀ its, ¬ h.IsList a its) ∧ ∀ its, ¬ IsTup h a its
theorem isTup_hideL {h : Heap} {a : Addr} {its : Array Value} {X : List Addr} (x : IsTup h a its) (n : a ∉ X) : IsTup (hide h X) a its := by
  obtain ⟨o, ho, r⟩ := x
  exact ⟨o, by rw [hide_get, if_neg n]; exact ho, r⟩
def HidesOk {α : Type} (R : Heap → Value → α → Prop) : Prop := ∀ h X v x, NoLT h X → R h v x → R (hide h X) v x
theorem hides_int : HidesOk IntIs := fun _ _ _ _ _ r => r
theorem hides_opt : HidesOk OptIs := fun _ _ _ x _ r => by cases x <;> exact r
theorem hides_edge : HidesOk EdgeIs := fun h X v e n ⟨a, t1, t2, t3, e1, ht⟩ => ⟨a, t1, t2, t3, e1, isTup_hideL ht fun q => (n a q).2 _ ht⟩
theorem hides_list {α : Type} {R : Heap → Value → α → Prop} (hR : HidesOk R) : HidesOk (ListIs R) := fun h X v xs n ⟨l, vs, e, hl, ha⟩ => ⟨l, vs, e, isList_hide hl fun q => (n l q).1 _ hl, ha.mono fun _ _ r => hR _ _ _ _ n r⟩
theorem hides_ints : HidesOk Ints := hides_list hides_int
theorem hides_mat : HidesOk Mat := hides_list hides_ints
theorem noT_ns {h : Heap} {L : Addr} {m : Str → Option Value} (hn : h.Ns L m) : ∀ its, ¬ IsTup h L its := fun _ hl => tup_ne hl hn rfl
theorem noT_tab {h : Heap} {c P : Addr} {ps : Array Value} (ht : Tab h c P ps) : ∀ its, ¬ IsTup h P its := fun _ ⟨o, ho, hc, _, hd⟩ => by
  have := ht.2.2
  rw [ho] at this; cases this; cases hd
/-- where the walk of law stands -/
structure LS (mg mb : Str → Option Value) (L cl Pl cw Pw : Addr) (pl pw : Array Value) (s₀ : Shared) (g : Heap) (m : Str → Option Value) (s : Shared) : Prop where
  hns : s.heap.Ns L m
  hle : Le g s.heap
  offG : g.get? L = none
  offl : g.get? Pl = none
  offw : g.get? Pw = none
  C : Cx mg mb g
  B : BM mg g
  tl : ∃ ps, Tab s.heap cl Pl ps ∧ Grown pl ps
  tw : ∃ ps, Tab s.heap cw Pw ps ∧ Grown pw ps
  ap : Pl ≠ Pw ∧ cl ≠ Pl ∧ cl ≠ Pw ∧ cw ≠ Pl ∧ cw ≠ Pw
  newL : s₀.heap.get? L = none
  bare : AllBare s.gens
  kb : KB [Pl, Pw] s₀.heap s.heap
  os : s.os = s₀.os
section
variable {prog : Program} {w : World} {M : Model} {A : Around} {E : Value → Shared → Prop} {mg mb : Str → Option Value} {L cl Pl cw Pw : Addr} {pl pw : Array Value} {s₀ s : Shared} {g : Heap} {m : Str → Option Value}
theorem tab_ne_ns {h : Heap} {c P L : Addr} {ps : Array Value} {m : Str → Option Value} (ht : Tab h c P ps) (hn : h.Ns L m) : P ≠ L ∧ c ≠ L := by
  obtain ⟨o', es, ep, ho', hd', _⟩ := hn
  constructor
  · rintro rfl
    have := ht.2.2
    rw [ho'] at this; cases this; cases hd'
  · rintro rfl
    obtain ⟨o, vs, e, _, r, _⟩ := ht.2.1
    rw [ho'] at e; cases e
    rw [hd'] at r; cases r
theorem LS.noLT (x : LS mg mb L cl Pl cw Pw pl pw s₀ g m s) : NoLT s.heap [L, Pl, Pw] := by
  intro a ha
  obtain ⟨_, t1, _⟩ := x.tl
  obtain ⟨_, t2, _⟩ := x.tw
  simp only [List.mem_cons, List.not_mem_nil, or_false] at ha
  rcases ha with rfl | rfl | rfl
  · exact ⟨noL_ns x.hns, noT_ns x.hns⟩
  · exact ⟨noL_tab t1, noT_tab t1⟩
  · exact ⟨noL_tab t2, noT_tab t2⟩
theorem LS.fz (x : LS mg mb L cl Pl cw Pw pl pw s₀ g m s) : ∃ g', LS mg mb L cl Pl cw Pw pl pw s₀ g' m s ∧ Le g g' ∧ (∀ {α : Type} {R : Heap → Value → α → Prop} {v : Value} {y : α}, HidesOk R → R s.heap v y → R g' v y) ∧ (∀ {a its}, IsTup s.heap a its → IsTup g' a its) ∧ ∀ a o, a ≠ L → a ≠ Pl → a ≠ Pw → s.heap.get? a = some o → g'.get? a = some o := by
  have hg : Le g (hide s.heap [L, Pl, Pw]) := le_hide x.hle fun a ha => by
    simp only [List.mem_cons, List.not_mem_nil, or_false] at ha
    rcases ha with rfl | rfl | rfl
    · exact x.offG
    · exact x.offl
    · exact x.offw
  refine ⟨hide s.heap [L, Pl, Pw], { x with hle := hide_le _ _, offG := hide_off _ _ _ (by simp), offl := hide_off _ _ _ (by simp), offw := hide_off _ _ _ (by simp), C := x.C.le hg, B := x.B.le hg }, hg, fun hR r => hR _ _ _ _ x.noLT r, fun ht => isTup_hideL ht fun q => (x.noLT _ q).2 _ ht, fun a o h1 h2 h3 e => ?_⟩
  rw [hide_get, if_neg (by simp [h1, h2, h3])]; exact e
theorem LS.kbs {h' : Heap} {gs : Array GenState} {m' : Str → Option Value} (x : LS mg mb L cl Pl cw Pw pl pw s₀ g m s) (k : KB [L, Pl, Pw] s.heap h') (hn : h'.Ns L m') (tl : ∀ ps, Tab s.heap cl Pl ps → ∃ ps', Tab h' cl Pl ps' ∧ Grown ps ps') (tw : ∀ ps, Tab s.heap cw Pw ps → ∃ ps', Tab h' cw Pw ps' ∧ Grown ps ps') (hb : AllBare gs) :
    LS mg mb L cl Pl cw Pw pl pw s₀ g m' { s with heap := h', gens := gs } := by
  obtain ⟨ps, t1, g1⟩ := x.tl
  obtain ⟨qs, t2, g2⟩ := x.tw
  obtain ⟨ps', t1', g1'⟩ := tl ps t1
  obtain ⟨qs', t2', g2'⟩ := tw qs t2
  refine { x with hns := hn, hle := k.le x.hle ?_, tl := ⟨_, t1', g1.trans g1'⟩, tw := ⟨_, t2', g2.trans g2'⟩, bare := hb, kb := fun b o hb e => k b o (fun q => ?_) (x.kb b o hb e) }
  · intro a ha
    simp only [List.mem_cons, List.not_mem_nil, or_false] at ha
    rcases ha with rfl | rfl | rfl
    · exact x.offG
    · exact x.offl
    · exact x.offw
  · rcases List.mem_cons.mp q with rfl | q
    · rw [x.newL] at e; cases e
    · exact hb q
theorem LS.le {h' : Heap} (x : LS mg mb L cl Pl cw Pw pl pw s₀ g m s) (l : Le s.heap h') : LS mg mb L cl Pl cw Pw pl pw s₀ g m { s with heap := h' } :=
  x.kbs (KB.of_le l) (x.hns.keeps l) (fun ps t => ⟨ps, t.le l, Grown.rfl⟩) (fun ps t => ⟨ps, t.le l, Grown.rfl⟩) x.bare
theorem LS.same {h' : Heap} {m' : Str → Option Value} (x : LS mg mb L cl Pl cw Pw pl pw s₀ g m s) (l : Heap.SameBut L s.heap h') (hn : h'.Ns L m') : LS mg mb L cl Pl cw Pw pl pw s₀ g m' { s with heap := h' } :=
  have k : KB [L] s.heap h' := KB.same l (List.mem_singleton_self _)
  x.kbs (k.mono (by simp)) hn (fun ps t => ⟨ps, t.kb k (by simpa using (tab_ne_ns t x.hns).2) (by simpa using (tab_ne_ns t x.hns).1), Grown.rfl⟩) (fun ps t => ⟨ps, t.kb k (by simpa using (tab_ne_ns t x.hns).2) (by simpa using (tab_ne_ns t x.hns).1), Grown.rfl⟩) x.bare
theorem LS.slots {h' : Heap} (x : LS mg mb L cl Pl cw Pw pl pw s₀ g m s) (l : Le (hide s.heap [L]) h') (u : s.heap.UpToSlots h') : LS mg mb L cl Pl cw Pw pl pw s₀ g m { s with heap := h' } :=
  have k : KB [L] s.heap h' := fun b o hb e => l b o (by rw [hide_get, if_neg hb]; exact e)
  x.kbs (k.mono (by simp)) (u.ns x.hns) (fun ps t => ⟨ps, t.kb k (by simpa using (tab_ne_ns t x.hns).2) (by simpa using (tab_ne_ns t x.hns).1), Grown.rfl⟩) (fun ps t => ⟨ps, t.kb k (by simpa using (tab_ne_ns t x.hns).2) (by simpa using (tab_ne_ns t x.hns).1), Grown.rfl⟩) x.bare
theorem LS.at {s' : Shared} (X : LS mg mb L cl Pl cw Pw pl pw s₀ g m s) (e1 : s'.heap = s.heap := by rfl) (e2 : s'.gens = s.gens := by rfl) (e3 : s'.os = s.os := by rfl) : LS mg mb L cl Pl cw Pw pl pw s₀ g m s' := by
  obtain ⟨h, gs, d, tk, os⟩ := s
  obtain ⟨h', gs', d', tk', os'⟩ := s'
  dsimp only at e1 e2 e3
  subst e1 e2 e3
  exact { X with }
theorem LS.store {env : Env} {x : Str} {v : Value} {s' : Shared} {Q : Unit → Shared → Prop} (X : LS mg mb L cl Pl cw Pw pl pw s₀ g m s') (hL : env.locals = L) (e1 : s.heap = s'.heap) (e2 : s.gens = s'.gens) (e3 : s.os = s'.os)
    (h : ∀ s', LS mg mb L cl Pl cw Pw pl pw s₀ g (upd m x v) s' → Q () s')
    (hl : env.kindOf x = some .local := by rfl) (hp : (env.scope.kind == .class || (env.scope.kind == .module && env.locals != env.globals)) = false := by rfl) :
    wpAny M A (storeName env x v) Q E s := by
  subst hL
  have X : LS mg mb env.locals cl Pl cw Pw pl pw s₀ g m s := X.at e1 e2 e3
  exact st_fz X.hns X.hle X.offG (fun h' _ hn _ hs => h _ (X.same hs hn).at) hl hp
end

local macro_rules | `(tactic| walk_at "lx") => `(tactic| (have $(Lean.mkIdent `hns) := LS.hns $(Lean.mkIdent `X); have $(Lean.mkIdent `hle) := LS.hle $(Lean.mkIdent `X); have $(Lean.mkIdent `C) := LS.C $(Lean.mkIdent `X); have $(Lean.mkIdent `offG) := LS.offG $(Lean.mkIdent `X); (try dsimp only at $(Lean.mkIdent `hns):ident $(Lean.mkIdent `hle):ident)))
local macro_rules | `(tactic| walk_at "lst") => `(tactic| (refine LS.store $(Lean.mkIdent `X) rfl rfl rfl rfl ?_; intro $(Lean.mkIdent `h5) $(Lean.mkIdent `X); (try dsimp only); walk_at "lx"))

-- 51_allty.lean
-- needs: 01 02 03 04 05 06 08 10 11 12 13 14 15 16 17 29 30 31 45 50
abbrev lawEnv (L f cl : Addr) : Env := envOf dLaw.name dLaw.scope L f (.ref cl)
section
variable {prog : Program} {w : World} {A : Around} {E : Value → Shared → Prop} {mg mb : Str → Option Value} {L cl Pl cw Pw f : Addr} {pl pw : Array Value} {s₀ s : Shared} {g : Heap} {m : Str → Option Value}
theorem LS.below (X : LS mg mb L cl Pl cw Pw pl pw s₀ g m s) (hfr : A.frames = some [lawEnv L f cl]) : Below A (hide s.heap [L]) [lawEnv L f cl] s.heap :=
  ⟨hfr, hide_le _ _, .cons (by intro q; cases q) rfl X.hns (hide_off _ _ _ (by simp)) trivial⟩
theorem all_ty {x y : Str} {p p1 p2 p3 p4 p5 p6 px py pos : Pos} {scope : Scope} {vl : Value} {ns : List Int} {Q : Value → Shared → Prop} (X : LS mg mb L cl Pl cw Pw pl pw s₀ g m s) (hh : A.handled = none) (hroom : A.depth < recursionLimit) (hl : Ints g vl ns) (hm : m y = some vl)
    (hQ : ∀ h' gs tk, LS mg mb L cl Pl cw Pw pl pw s₀ g m { s with heap := h', gens := gs } → Q (.bool true) { s with heap := h', gens := gs, toks := tk })
    (hy : (lawEnv L f cl).kindOf y = some .local := by rfl) (hyd : (y == ("__debug__" : Str)) = false := by rfl) (hxd : (x == ("__debug__" : Str)) = false := by rfl)
    (hclos : closureFor scope (lawEnv L f cl) = pure [] := by rfl) (hcell : (scope.names.all fun y => y.2 != .cell) = true := by rfl) (h0 : scope.names.lookup (".0" : Str) = some NameKind.local := by rfl) (hx : scope.names.lookup x = some .local := by rfl) (hkind : scope.kind = .function := by rfl) (hco : scope.isCoroutine = false := by rfl)
    (ht : scope.names.lookup (Str.ofString "type") = some NameKind.globalImplicit := by rfl) (hi : scope.names.lookup (Str.ofString "int") = some NameKind.globalImplicit := by rfl) (hs : ∀ x, genFold (.Name y py) (lawEnv L f cl) x = pure x := by intro _; rfl) :
    wpAny (model prog w) A (eval (.Call (.Name "all" p) [.GeneratorExp (.Compare (.Call (.Name "type" p1) [.Name x p2] [] p3) [.Is] [.Name "int" p4] p5) [⟨.Name x px, .Name y py, [], 0⟩] scope pos] [] p6) (lawEnv L f cl)) Q E s := by
  obtain ⟨ll, vs, rfl, hl, ha⟩ := hl
  obtain ⟨ps, htl, hgr⟩ := X.tl
  walk_at "lx"
  refine Call_Name1 ?_
  refine ev_blt C hle blt_all (by decide) (by decide) ?_
  refine cw_blt rfl ?_
  refine spliced_cons ?_
  refine ev_gen (m := m) (c := cl) (tr := fun _ => true) hh hroom C X.B rfl hclos hcell h0 hx hkind hco (by simp) (by rfl) (by rfl) ?_ hs
  refine ev_loc hns hm ?_ rfl hy hyd
  refine wpAny_pyIter_list (isList_le hl hle) ?_
  have leI : Le s.heap (s.heap.push { cls := .type "list_iterator", data := .fields #[.ref ll, .int 0 0] }) := Le.push _
  have hlI : ll ≠ s.heap.objs.size := by
    obtain ⟨o, ho, _⟩ := isList_le hl hle
    exact Nat.ne_of_lt (Heap.lt_size ho)
  have X1 := X.le leI
  refine ⟨s.heap.objs.size, vs.toArray.size, _, ps, Pl, rfl, _, _, fun A' hA => Walks.list (prog := prog) (w := w) hA s.heap.objs.size ll hlI vs.toArray, ⟨⟨_, Heap.get?_push_size _ rfl, rfl, rfl⟩, (isList_le hl hle).push _⟩, ?_, ?_, X1.hle, X1.offl, none_of_le hle, X.ap.2.1, htl.le leI, vars_of_ns (env := lawEnv L f cl) X1.hns rfl, by simp, ?_, ?_⟩
  · intro b hb
    rcases List.mem_cons.mp hb with rfl | hb
    · exact ⟨_, Heap.get?_push_size _ rfl⟩
    · rw [List.mem_singleton.mp hb]
      obtain ⟨o, ho, _⟩ := isList_le hl hle
      exact ⟨o, leI _ _ ho⟩
  · intro q
    rcases List.mem_cons.mp q with q | q
    · exact Nat.ne_of_lt htl.ltP q
    · rw [List.mem_singleton.mp q] at htl
      exact noL_tab htl _ (isList_le hl hle)
  · intro A' E' i v s₃ m' Cl code hA hP _ hle hV mx _
    obtain ⟨k, hk, tk, rfl⟩ := ha.get (i := i) (a := v) (by simpa using hP)
    refine wpAny_Compare1 ?_
    refine Call_Name1 ?_
    refine ev_blt C hle blt_type (by decide) (by decide) ?_ hkind ht rfl rfl
    refine cw_type rfl ?_
    refine spliced_cons ?_
    refine ev_vl hV mx ?_ hkind hx hxd
    refine spliced_nil ?_
    refine type_int ?_
    refine ev_blt C hle blt_int (by decide) (by decide) ?_ hkind hi rfl rfl
    refine is_type ?_
    exact ⟨rfl, _, _, rfl, fun _ _ e => e⟩
  · intro a Cg h' gs tk ps' kb₁ ht₁ gr₁ hbgs hCg hgen
    refine spliced_nil ?_
    refine all_gen hgen (X.bare.push hbgs) fun h₂ gs₂ tk₂ kb₂ hb₂ => ?_
    have e1 : ((List.range vs.toArray.size).all fun _ => true) = true := by simp
    rw [e1]
    have hCgI : ∀ b o, s.heap.get? b = some o → b ∉ [Cg, s.heap.objs.size] := fun b o e q => by
      simp only [List.mem_cons, List.not_mem_nil, or_false] at q
      rcases q with q | q
      · rw [← q, leI _ _ e] at hCg; cases hCg
      · exact Nat.lt_irrefl _ (q ▸ Heap.lt_size e)
    have kbT : KB [Pl] s.heap h₂ := fun b o hb e => kb₂ b o (hCgI b o e) (kb₁ b o hb (leI _ _ e))
    have hPg : Pl ∉ [Cg, s.heap.objs.size] := hCgI _ _ htl.2.2
    have hcg : cl ∉ [Cg, s.heap.objs.size] := by obtain ⟨o', _, e, _⟩ := htl.2.1; exact hCgI _ _ e
    have ht₂ := ht₁.kb kb₂ hcg hPg
    refine hQ h₂ gs₂ tk₂ (X.kbs (kbT.mono (by simp)) (X.hns.at' fun o e => kbT _ o (fun q => (tab_ne_ns htl X.hns).1 (List.mem_singleton.mp q).symm) e) (fun qs hq => ?_) (fun qs hq => ⟨qs, hq.kb kbT (by simpa using X.ap.2.2.2.1) (by simpa using X.ap.1.symm), Grown.rfl⟩) hb₂)
    have e2 : qs = ps := by
      have h1 := hq.2.2
      rw [htl.2.2] at h1
      cases h1; rfl
    subst e2
    exact ⟨ps', ht₂, gr₁⟩
end

-- 52_law6.lean
-- needs: 01 02 03 04 05 06 08 10 11 12 13 14 15 16 17 26 27 29 30 31 43 45 50 51
-- more: PyProof.Rows.TupAssign PyProof.Rows.TupIter
section
variable {prog : Program} {w : World} {A : Around} {E : Value → Shared → Prop} {mg mb : Str → Option Value} {L cl Pl cw Pw f : Addr} {pl pw : Array Value} {s₀ s : Shared} {g : Heap} {m : Str → Option Value}
set_option maxHeartbeats 2000000 in
theorem law6 {Q : Flow → Shared → Prop} {N : Nat} {sink : Int} {lsc : Addr} {vs : List Value} {ns : List Int} {tn ts : Tok} (hN0 : 0 < N) (hN4 : N ≤ 4) (hs0 : 0 ≤ sink) (hs1 : sink ≤ N)
    (hh : A.handled = none) (hroom : A.depth + 2 < recursionLimit) (hu : A.units + 30 < cLine) (hfr : A.frames = some [lawEnv L f cl])
    (X : LS mg mb L cl Pl cw Pw pl pw s₀ g m s) (hsc : g.IsList lsc vs.toArray) (hnv : IntsAre vs ns) (hlen : 24 ≤ ns.length)
    (m1 : m (Str.ofString "script") = some (.ref lsc)) (m2 : m (Str.ofString "n") = some (.int N tn)) (m3 : m (Str.ofString "sink") = some (.int sink ts))
    (hQ : ∀ s' g' m', LS mg mb L cl Pl cw Pw pl pw s₀ g' m' s' → Q (.ret (.bool true)) s') :
    wpAny (model prog w) A (execs (dLaw.body.drop 28) (lawEnv L f cl)) Q E s := by
  obtain ⟨t20, e20⟩ := intsAre_get hnv (i := 20) (by walk_at "om")
  obtain ⟨t3, e3⟩ := intsAre_get hnv (i := 3) (by walk_at "om")
  obtain ⟨t6, e6⟩ := intsAre_get hnv (i := 6) (by walk_at "om")
  obtain ⟨t9, e9⟩ := intsAre_get hnv (i := 9) (by walk_at "om")
  walk_at "lx"
  refine wpAny_execs_cons (wpAny_Assign_Name ?_)
  walk_at "zev"
  refine item_list (isList_le hsc hle) (by decide) (by decide) e20 ?_
  walk_at "zev"
  walk_at "lst"
  refine wpAny_execs_cons (wpAny_Assign_Name ?_)
  walk_at "zev"
  refine item_list (isList_le hsc hle) (by decide) (by decide) e3 ?_
  walk_at "zev"
  refine item_list (isList_le hsc hle) (by decide) (by decide) e6 ?_
  walk_at "zev"
  refine item_list (isList_le hsc hle) (by decide) (by decide) e9 ?_
  walk_at "zev"
  refine ⟨by simp, fun ap h₂ hk₂ hf₂ htp => ?_⟩
  have X := X.le hk₂
  obtain ⟨g, X, hg, hR, hT, hO⟩ := X.fz
  have htp := hT htp
  have hsc := isList_le hsc hg
  walk_at "lst"
  refine wpAny_execs_cons (Assign_Tuple ?_)
  walk_at "zev"
  refine ev_fn C hle 16 (by decide) (by rfl) fun ft hft => ?_
  refine callWith_fn hft ?_
  walk_at "zev"
  refine ⟨hle, ?_⟩
  refine tree_spec (picks := [ns.getD 3 0, ns.getD 6 0, ns.getD 9 0]) (by walk_at "om") hh (C.le hle) (hft.le hle) ⟨_, htp.keeps hle, .cons _ _ (.cons _ _ (.cons _ _ .nil))⟩ rfl hN0 hN4 fun r a b h₃ tk₃ hk₃ hr ha hb => ?_
  have X := X.le hk₃
  obtain ⟨g, X, hg, hR, hT, hO⟩ := X.fz
  have hr := hT hr
  have ha := hR (hides_list hides_opt) ha
  have hb := hR hides_mat hb
  have hsc := isList_le hsc hg
  have htp := htp.keeps hg
  walk_at "lx"
  refine assign_Tuple_tuple hh (hr.keeps hle) (by rfl) (by rfl) fun h₄ hx₄ => ?_
  have X := X.le (h' := h₄) fun b o e => hx₄ b o (Nat.ne_of_lt (Heap.lt_size e)) e
  refine assignInOrder_cons (wpAny_assign_Name ?_)
  walk_at "lst"
  refine assignInOrder_cons (wpAny_assign_Name ?_)
  walk_at "lst"
  refine assignInOrder_nil ?_
  refine wpAny_execs_cons (Assign_Tuple ?_)
  walk_at "zev"
  refine ev_fn C hle 16 (by decide) (by rfl) fun ft hft => ?_
  refine callWith_fn hft ?_
  walk_at "zev"
  refine ⟨hle, ?_⟩
  refine tree_spec (picks := [ns.getD 3 0, ns.getD 6 0, ns.getD 9 0]) (by walk_at "om") hh (C.le hle) (hft.le hle) ⟨_, htp.keeps hle, .cons _ _ (.cons _ _ (.cons _ _ .nil))⟩ rfl hN0 hN4 fun r' a' b' h₃ tk₃ hk₃ hr' ha' hb' => ?_
  have X := X.le hk₃
  obtain ⟨g, X, hg, hR, hT, hO⟩ := X.fz
  have hr' := hT hr'
  have ha' := hR (hides_list hides_opt) ha'
  have hb' := hR hides_mat hb'
  have ha := ListIs.le (R := OptIs) (fun r l => OptIs.le r l) ha hg
  have hb := Mat.le hb hg
  have hsc := isList_le hsc hg
  walk_at "lx"
  refine assign_Tuple_tuple hh (hr'.keeps hle) (by rfl) (by rfl) fun h₄ hx₄ => ?_
  have X := X.le (h' := h₄) fun b o e => hx₄ b o (Nat.ne_of_lt (Heap.lt_size e)) e
  refine assignInOrder_cons (wpAny_assign_Name ?_)
  walk_at "lst"
  refine assignInOrder_cons (wpAny_assign_Name ?_)
  walk_at "lst"
  refine assignInOrder_nil ?_
  refine wpAny_execs_cons (wpAny_Assign_Name ?_)
  walk_at "zev"
  walk_at "lst"
  refine wpAny_execs_cons (wpAny_Assign_Name ?_)
  walk_at "zev"
  walk_at "lst"
  have hr0 : 0 ≤ (ns.getD 20 0).fmod N := fmod_lo _ (by walk_at "om")
  have hr1 : (ns.getD 20 0).fmod N < N := fmod_hi _ (by walk_at "om")
  have hpl : (prevF (treeF N ((ns.getD 20 0).fmod N) [ns.getD 3 0, ns.getD 6 0, ns.getD 9 0] (N - 1)).2 N).length = N := by simp [prevF]
  refine wpAny_execs_cons (wpAny_Try_except ?_)
  refine wpAny_execs_cons (wpAny_Assign_Name ?_)
  walk_at "zev"
  refine ev_fn C hle 2 (by decide) (by rfl) fun ft hft => ?_
  refine callWith_fn hft ?_
  walk_at "zev"
  refine ⟨hle, ?_⟩
  refine path_to_spec (by walk_at "om") hh (C.le hle) (X.below hfr) (hft.le hle) (ListIs.le (R := OptIs) (fun r l => OptIs.le r l) ha hle) (by rw [hpl]; omega) hs0 (by walk_at "om") ?_ ?_ ?_
  · intro hne hsome
    rcases Int.lt_or_le sink N with hlt | hge
    · exact (tree_law hN0 hN4 hr0 hr1 hs0 hlt).2 hne hsome
    · exact absurd (by rw [List.getD_eq_getElem?_getD, List.getElem?_eq_none (by rw [hpl]; omega)]; rfl) hsome
  · intro hor v' h₆ tk₆ hk₆ hv'
    have hlt : sink < N := by rw [hpl] at hor; omega
    rw [(tree_law hN0 hN4 hr0 hr1 hs0 hlt).1] at hv'
    have X := X.le hk₆
    obtain ⟨g, X, hg, hR, hT, hO⟩ := X.fz
    have hv' := hR hides_ints hv'
    have ha := ListIs.le (R := OptIs) (fun r l => OptIs.le r l) ha hg
    have ha' := ListIs.le (R := OptIs) (fun r l => OptIs.le r l) ha' hg
    have hb' := Mat.le hb' hg
    walk_at "lst"
    walk_at "zev"
    refine wpAny_Assign_Name ?_
    walk_at "zev"
    walk_at "lst"
    walk_at "zev"
    refine ne_bool ?_ (by walk_at "om")
    walk_at "zev"
    refine if_ff (by rw [beq_eq_false_iff_ne.mpr (show sink ≠ (N : Int) by walk_at "om")]; rfl) ?_
    walk_at "zev"
    refine ne_same (sees_opts (ListIs.le (R := OptIs) (fun r l => OptIs.le r l) ha hle)) (sees_opts (ListIs.le (R := OptIs) (fun r l => OptIs.le r l) ha' hle)) (lay_opts _) (Nat.le_trans (deep_opts _) (by decide)) (by walk_at "om") ?_
    walk_at "zev"
    refine if_ff rfl ?_
    walk_at "zev"
    refine isTrue_plain ?_
    walk_at "zev"
    refine if_tt rfl ?_
    obtain ⟨lb, vb, eb, hlb, hab⟩ := hb'
    cases eb
    have hix0 : 0 ≤ (sink - (ns.getD 20 0).fmod N).fmod N := fmod_lo _ (by walk_at "om")
    have hix1 : (sink - (ns.getD 20 0).fmod N).fmod N < N := fmod_hi _ (by walk_at "om")
    have hwl := (treeF_len N ((ns.getD 20 0).fmod N) [ns.getD 3 0, ns.getD 6 0, ns.getD 9 0] (N - 1)).1
    have hbl : vb.length = N := by rw [hab.length, hwl]; omega
    have hixl : ((sink - (ns.getD 20 0).fmod N).fmod N).toNat < vb.length := by walk_at "om"
    obtain ⟨row, hrow, hri⟩ := hab.get (List.getElem?_eq_getElem hixl)
    have hrd : (treeF N ((ns.getD 20 0).fmod N) [ns.getD 3 0, ns.getD 6 0, ns.getD 9 0] (N - 1)).1.getD ((sink - (ns.getD 20 0).fmod N).fmod N).toNat [] = row := by rw [List.getD_eq_getElem?_getD, hrow]; rfl
    rw [hrd] at hv'
    refine wpAny_execs_cons (wpAny_If ?_)
    walk_at "zev"
    refine item_list (isList_le hlb hle) hix0 (by walk_at "om") (List.getElem?_eq_getElem hixl) ?_
    refine ne_same (sees_ints (Ints.le hv' hle)) (sees_ints (Ints.le hri hle)) (lay_ints _) (Nat.le_trans (deep_ints _) (by decide)) (by walk_at "om") ?_
    walk_at "zev"
    refine if_ff rfl ?_
    walk_at "zev"
    refine isTrue_plain ?_
    refine all_ty (LS.at X) hh (by walk_at "om") hv' (by rfl) fun h₇ gs₇ tk₇ X => ?_
    walk_at "zev"
    refine if_ff rfl ?_
    walk_at "zev"
    exact hQ _ _ _ (X.at)
  · intro hand e h₆ tk₆ hfl hup
    have hge : sink = N := by rw [hpl] at hand; omega
    refine caught hfr rfl hfl (C.le (le_hide hle (by simpa using offG))) fun h₇ hk₇ hu₇ => ?_
    have X := X.slots hk₇ (hup.trans hu₇)
    refine wpAny_execs_cons (wpAny_Assign_Name ?_)
    walk_at "lx"
    walk_at "zev"
    walk_at "lst"
    walk_at "zev"
    refine wpAny_Assign_Name ?_
    walk_at "zev"
    walk_at "lst"
    walk_at "zev"
    refine ne_bool ?_ (by walk_at "om")
    walk_at "zev"
    refine if_ff (by rw [hge, beq_self_eq_true]; rfl) ?_
    walk_at "zev"
    refine ne_same (sees_opts (ListIs.le (R := OptIs) (fun r l => OptIs.le r l) ha hle)) (sees_opts (ListIs.le (R := OptIs) (fun r l => OptIs.le r l) ha' hle)) (lay_opts _) (Nat.le_trans (deep_opts _) (by decide)) (by walk_at "om") ?_
    walk_at "zev"
    refine if_ff rfl ?_
    walk_at "zev"
    refine isTrue_plain ?_
    walk_at "zev"
    refine if_ff rfl ?_
    walk_at "zev"
    exact hQ _ _ _ (X.at)
end

-- 53_law5.lean
-- needs: 01 02 03 04 05 06 08 09 10 11 12 13 14 15 16 17 22 23 24 25 26 27 29 30 31 40 43 45 50 51 52
theorem sees_optV {h : Heap} {o : Option Int} {t : Tok} : Sees h (optV o t) (dOpt o) := by
  cases o with
  | none => exact ⟨_, .none⟩
  | some i => exact ⟨_, .int i t⟩
section
variable {prog : Program} {w : World} {A : Around} {E : Value → Shared → Prop} {s : Shared} {Q : Value → Shared → Prop}
theorem isNot_optV {o : Option Int} {t : Tok} (h : Q (.bool o.isSome) s) : wpAny (model prog w) A (compareOp .IsNot (optV o t) .none) Q E s := by
  cases o with
  | none => exact wpAny_isNot_plain rfl h
  | some i => exact wpAny_isNot_plain rfl h
theorem type_optV {o : Option Int} {t : Tok} (ho : o.isSome = true) (h : Q (.type "int") s) : wpAny (model prog w) A (call (.type "type") [optV o t]) Q E s := by
  cases o with
  | none => cases ho
  | some i => exact type_int h
theorem ne_optV {o : Option Int} {t u : Tok} (hu : A.units + 2 < cLine) (h : Q (.bool false) s) : wpAny (model prog w) A (compareOp .NotEq (optV o t) (optV o u)) Q E s :=
  ne_same sees_optV sees_optV (by cases o <;> rfl) (by cases o <;> exact Nat.zero_le _) hu h
end
section
variable {prog : Program} {w : World} {A : Around} {E : Value → Shared → Prop} {mg mb : Str → Option Value} {L cl Pl cw Pw f : Addr} {pl pw : Array Value} {s₀ s : Shared} {g : Heap} {m : Str → Option Value}
set_option maxHeartbeats 2000000 in
theorem law5 {Q : Flow → Shared → Prop} {N : Nat} {sink : Int} {lsc : Addr} {vs : List Value} {ns : List Int} {tn ts : Tok} {es : List Edge} {ve vt : Value} (hN0 : 0 < N) (hN4 : N ≤ 4) (hs0 : 0 ≤ sink) (hs1 : sink ≤ N) (hel : es.length ≤ 5) (hel1 : es.length ≠ 1)
    (hh : A.handled = none) (hroom : A.depth + 2 < recursionLimit) (hu : A.units + 30 < cLine) (hfr : A.frames = some [lawEnv L f cl])
    (X : LS mg mb L cl Pl cw Pw pl pw s₀ g m s) (hsc : g.IsList lsc vs.toArray) (hnv : IntsAre vs ns) (hlen : 24 ≤ ns.length) (he : ListIs EdgeIs g ve es) (het : ListIs EdgeIs g vt es)
    (m1 : m (Str.ofString "script") = some (.ref lsc)) (m2 : m (Str.ofString "n") = some (.int N tn)) (m3 : m (Str.ofString "sink") = some (.int sink ts)) (m4 : m (Str.ofString "edges") = some ve) (m5 : m (Str.ofString "twin") = some vt)
    (hQ : ∀ s' g' m', LS mg mb L cl Pl cw Pw pl pw s₀ g' m' s' → Q (.ret (.bool true)) s') :
    wpAny (model prog w) A (execs (dLaw.body.drop 20) (lawEnv L f cl)) Q E s := by
  obtain ⟨t18, e18⟩ := intsAre_get hnv (i := 18) (by walk_at "om")
  obtain ⟨t20, e20⟩ := intsAre_get hnv (i := 20) (by walk_at "om")
  obtain ⟨t21, e21⟩ := intsAre_get hnv (i := 21) (by walk_at "om")
  obtain ⟨t22, e22⟩ := intsAre_get hnv (i := 22) (by walk_at "om")
  obtain ⟨t23, e23⟩ := intsAre_get hnv (i := 23) (by walk_at "om")
  walk_at "lx"
  refine wpAny_execs_cons (wpAny_Assign_Name ?_)
  walk_at "zev"
  refine item_list (isList_le hsc hle) (by decide) (by decide) e18 ?_
  walk_at "zev"
  refine item_list (isList_le hsc hle) (by decide) (by decide) e20 ?_
  walk_at "zev"
  refine item_list (isList_le hsc hle) (by decide) (by decide) e21 ?_
  walk_at "zev"
  refine ⟨by simp, fun ap h₂ hk₂ hf₂ htp => ?_⟩
  have X := X.le hk₂
  obtain ⟨g, X, hg, hR, hT, hO⟩ := X.fz
  have htp := hT htp
  have hsc := isList_le hsc hg
  have he := ListIs.le (R := EdgeIs) (fun r l => EdgeIs.le r l) he hg
  have het := ListIs.le (R := EdgeIs) (fun r l => EdgeIs.le r l) het hg
  walk_at "lst"
  refine wpAny_execs_cons (wpAny_Assign_Name ?_)
  walk_at "zev"
  refine ev_fn C hle 15 (by decide) (by rfl) fun ft hft => ?_
  refine callWith_fn hft ?_
  walk_at "zev"
  refine item_list (isList_le hsc hle) (by decide) (by decide) e22 ?_
  walk_at "zev"
  refine item_list (isList_le hsc hle) (by decide) (by decide) e23 ?_
  walk_at "zev"
  refine ⟨hle, ?_⟩
  refine walk_spec (ts := [ns.getD 18 0, ns.getD 20 0, ns.getD 21 0]) (by walk_at "om") hh (C.le hle) (hft.le hle) ⟨_, htp.keeps hle, .cons _ _ (.cons _ _ (.cons _ _ .nil))⟩ (by simp) (by walk_at "om") (fmod_lo _ (by decide)) fun v₁ h₃ tk₃ hk₃ hv₁ => ?_
  have X := X.le hk₃
  obtain ⟨g, X, hg, hR, hT, hO⟩ := X.fz
  have hv₁ := hR hides_ints hv₁
  have htp := htp.keeps hg
  have hsc := isList_le hsc hg
  have he := ListIs.le (R := EdgeIs) (fun r l => EdgeIs.le r l) he hg
  have het := ListIs.le (R := EdgeIs) (fun r l => EdgeIs.le r l) het hg
  walk_at "lst"
  refine wpAny_execs_cons (wpAny_Assign_Name ?_)
  walk_at "zev"
  refine ev_fn C hle 15 (by decide) (by rfl) fun ft hft => ?_
  refine callWith_fn hft ?_
  walk_at "zev"
  refine item_list (isList_le hsc hle) (by decide) (by decide) e22 ?_
  walk_at "zev"
  refine item_list (isList_le hsc hle) (by decide) (by decide) e23 ?_
  walk_at "zev"
  refine ⟨hle, ?_⟩
  refine walk_spec (ts := [ns.getD 18 0, ns.getD 20 0, ns.getD 21 0]) (by walk_at "om") hh (C.le hle) (hft.le hle) ⟨_, htp.keeps hle, .cons _ _ (.cons _ _ (.cons _ _ .nil))⟩ (by simp) (by walk_at "om") (fmod_lo _ (by decide)) fun v₂ h₃ tk₃ hk₃ hv₂ => ?_
  have X := X.le hk₃
  obtain ⟨g, X, hg, hR, hT, hO⟩ := X.fz
  have hv₂ := hR hides_ints hv₂
  have hv₁ := Ints.le hv₁ hg
  have hsc := isList_le hsc hg
  have he := ListIs.le (R := EdgeIs) (fun r l => EdgeIs.le r l) he hg
  have het := ListIs.le (R := EdgeIs) (fun r l => EdgeIs.le r l) het hg
  obtain ⟨wk, hwk⟩ : ∃ wk, wk = walkF N (ns.getD 22 0) [ns.getD 18 0, ns.getD 20 0, ns.getD 21 0] ((ns.getD 23 0).fmod 5) := ⟨_, rfl⟩
  have hwl : wk.length < 100 := by
    rw [hwk]
    unfold walkF
    rw [List.length_take, List.length_append, stepW_len]
    simp only [List.length_nil, List.length_cons]
    omega
  rw [← hwk] at hv₁ hv₂
  walk_at "lst"
  refine wpAny_execs_cons (wpAny_Assign_Name ?_)
  walk_at "zev"
  refine ev_fn C hle 3 (by decide) (by rfl) fun ft hft => ?_
  refine callWith_fn hft ?_
  walk_at "zev"
  refine ⟨hle, ?_⟩
  refine path_weight_spec (by walk_at "om") hh (C.le hle) (hft.le hle) (ListIs.le (R := EdgeIs) (fun r l => EdgeIs.le r l) he hle) (Ints.le hv₁ hle) (by walk_at "om") hwl fun t₁ h₃ tk₃ hk₃ => ?_
  have X := X.le hk₃
  walk_at "lst"
  refine wpAny_execs_cons (wpAny_Assign_Name ?_)
  walk_at "zev"
  refine ev_fn C hle 14 (by decide) (by rfl) fun ft hft => ?_
  refine callWith_fn hft ?_
  walk_at "zev"
  refine ⟨hle, ?_⟩
  refine weight_spec (by walk_at "om") hh (by walk_at "om") (C.le hle) (hft.le hle) (ListIs.le (R := EdgeIs) (fun r l => EdgeIs.le r l) het hle) (Ints.le hv₂ hle) hel hel1 hwl fun ps t₂ h₃ tk₃ hpp hps hk₃ => ?_
  rw [weights_agree hpp hps]
  have X := X.le hk₃
  walk_at "lst"
  walk_at "zev"
  refine ne_optV (by walk_at "om") ?_
  walk_at "zev"
  refine if_ff rfl ?_
  walk_at "zev"
  refine isNot_optV ?_
  walk_at "zev"
  refine if_by (fun hso => ?_) (fun hso => ?_)
  · walk_at "zev"
    refine type_optV hso ?_
    walk_at "zev"
    refine is_type ?_
    walk_at "zev"
    refine if_ff rfl ?_
    walk_at "zev"
    refine if_ff rfl ?_
    walk_at "zev"
    refine ne_same (sees_ints (Ints.le hv₁ hle)) (sees_ints (Ints.le hv₂ hle)) (lay_ints _) (Nat.le_trans (deep_ints _) (by decide)) (by walk_at "om") ?_
    walk_at "zev"
    refine if_ff rfl ?_
    walk_at "zev"
    refine ne_same (sees_edges (ListIs.le (R := EdgeIs) (fun r l => EdgeIs.le r l) he hle)) (sees_edges (ListIs.le (R := EdgeIs) (fun r l => EdgeIs.le r l) het hle)) (lay_edges _) (deep_edges _) (by walk_at "om") ?_
    walk_at "zev"
    refine if_ff rfl ?_
    walk_at "zev"
    refine if_ff rfl ?_
    refine wpAny_execs_nil ?_
    exact law6 hN0 hN4 hs0 hs1 hh hroom hu hfr (LS.at X) hsc hnv hlen m1 m2 m3 hQ
  · refine if_ff rfl ?_
    walk_at "zev"
    refine ne_same (sees_ints (Ints.le hv₁ hle)) (sees_ints (Ints.le hv₂ hle)) (lay_ints _) (Nat.le_trans (deep_ints _) (by decide)) (by walk_at "om") ?_
    walk_at "zev"
    refine if_ff rfl ?_
    walk_at "zev"
    refine ne_same (sees_edges (ListIs.le (R := EdgeIs) (fun r l => EdgeIs.le r l) he hle)) (sees_edges (ListIs.le (R := EdgeIs) (fun r l => EdgeIs.le r l) het hle)) (lay_edges _) (deep_edges _) (by walk_at "om") ?_
    walk_at "zev"
    refine if_ff rfl ?_
    walk_at "zev"
    refine if_ff rfl ?_
    refine wpAny_execs_nil ?_
    exact law6 hN0 hN4 hs0 hs1 hh hroom hu hfr (LS.at X) hsc hnv hlen m1 m2 m3 hQ
end

-- 54_law4.lean
-- needs: 01 02 03 04 05 06 08 09 10 11 12 13 14 15 16 17 18 19 20 22 23 24 25 26 27 29 30 31 40 41 42 43 44 45 50 51 52 53
theorem FnC.le {h h' : Heap} {f c : Addr} {d : DefRec} (x : FnC h f d c) (l : Le h h') : FnC h' f d c :=
  let ⟨o, pm, doc, h1, h2, h3⟩ := x; ⟨o, pm, doc, l _ _ h1, h2, h3.keeps l⟩
theorem FnC.fn {h : Heap} {f c : Addr} {d : DefRec} (x : FnC h f d c) : FnIs h f d :=
  let ⟨o, pm, doc, h1, h2, h3⟩ := x; ⟨o, pm, _, doc, h1, h2, h3⟩
theorem due_len {r : List (List Int)} {n : Nat} {src tgt : Int} (hs0 : 0 ≤ src) (hs1 : src < n) (ht0 : 0 ≤ tgt) (ht1 : tgt < n) : (dueF r n src tgt).length < 100 := by
  unfold dueF
  by_cases hst : src = tgt
  · rw [if_pos hst]; simp
  · rw [if_neg hst]
    cases hf : (waysF n src tgt).find? (openB r) with
    | none => simp
    | some wy =>
      obtain ⟨h2, h4, hr⟩ := waysF_ok hs0 hs1 ht0 ht1 wy (List.mem_of_find?_eq_some hf)
      show wy.length < 100
      omega
section
variable {prog : Program} {w : World} {A : Around} {E : Value → Shared → Prop} {mg mb : Str → Option Value} {L cl Pl cw Pw f fw : Addr} {pl pw : Array Value} {s₀ s : Shared} {g : Heap} {m : Str → Option Value}
theorem LS.growW {h' : Heap} {gs : Array GenState} {ps ps' : Array Value} (X : LS mg mb L cl Pl cw Pw pl pw s₀ g m s) (ht : Tab s.heap cw Pw ps) (kb : KB [Pw] s.heap h') (ht' : Tab h' cw Pw ps') (gr : Grown ps ps') (hb : AllBare gs) : LS mg mb L cl Pl cw Pw pl pw s₀ g m { s with heap := h', gens := gs } := by
  refine X.kbs (kb.mono (by simp)) (X.hns.at' fun o e => kb _ o (fun q => (tab_ne_ns ht X.hns).1 (List.mem_singleton.mp q).symm) e) (fun qs hq => ⟨qs, hq.kb kb (by simpa using X.ap.2.2.1) (by simpa using X.ap.1), Grown.rfl⟩) (fun qs hq => ?_) hb
  have e2 : qs = ps := by
    have h1 := hq.2.2
    rw [ht.2.2] at h1
    cases h1; rfl
  subst e2
  exact ⟨ps', ht', gr⟩
theorem LS.growL {h' : Heap} {gs : Array GenState} {ps ps' : Array Value} (X : LS mg mb L cl Pl cw Pw pl pw s₀ g m s) (ht : Tab s.heap cl Pl ps) (kb : KB [Pl] s.heap h') (ht' : Tab h' cl Pl ps') (gr : Grown ps ps') (hb : AllBare gs) : LS mg mb L cl Pl cw Pw pl pw s₀ g m { s with heap := h', gens := gs } := by
  refine X.kbs (kb.mono (by simp)) (X.hns.at' fun o e => kb _ o (fun q => (tab_ne_ns ht X.hns).1 (List.mem_singleton.mp q).symm) e) (fun qs hq => ?_) (fun qs hq => ⟨qs, hq.kb kb (by simpa using X.ap.2.2.2.1) (by simpa using X.ap.1.symm), Grown.rfl⟩) hb
  have e2 : qs = ps := by
    have h1 := hq.2.2
    rw [ht.2.2] at h1
    cases h1; rfl
  subst e2
  exact ⟨ps', ht', gr⟩
set_option maxHeartbeats 4000000 in
theorem law4 {Q : Flow → Shared → Prop} {N : Nat} {lsc : Addr} {vs : List Value} {ns : List Int} {tn : Tok} {es : List Edge} {ve vt vr vk : Value} (hN0 : 0 < N) (hN4 : N ≤ 4) (hel : es.length ≤ 5) (hel1 : es.length ≠ 1)
    (hh : A.handled = none) (hroom : A.depth + 2 < recursionLimit) (hu : A.units + 30 < cLine) (hfr : A.frames = some [lawEnv L f cl]) (hfw : mg (Str.ofString "_law_way") = some (.ref fw))
    (X : LS mg mb L cl Pl cw Pw pl pw s₀ g m s) (hcw : FnC g fw dWay cw) (hsc : g.IsList lsc vs.toArray) (hnv : IntsAre vs ns) (hlen : 24 ≤ ns.length) (he : ListIs EdgeIs g ve es) (het : ListIs EdgeIs g vt es) (hrm : Mat g vr (roomF N es)) (hkp : Mat g vk (roomF N es))
    (m1 : m (Str.ofString "script") = some (.ref lsc)) (m2 : m (Str.ofString "n") = some (.int N tn)) (m4 : m (Str.ofString "edges") = some ve) (m5 : m (Str.ofString "twin") = some vt) (m6 : m (Str.ofString "room") = some vr) (m7 : m (Str.ofString "kept") = some vk)
    (hQ : ∀ s' g' m', LS mg mb L cl Pl cw Pw pl pw s₀ g' m' s' → Q (.ret (.bool true)) s') :
    wpAny (model prog w) A (execs (dLaw.body.drop 11) (lawEnv L f cl)) Q E s := by
  obtain ⟨t20, e20⟩ := intsAre_get hnv (i := 20) (by walk_at "om")
  obtain ⟨t21, e21⟩ := intsAre_get hnv (i := 21) (by walk_at "om")
  walk_at "lx"
  refine wpAny_execs_cons (wpAny_Assign_Name ?_)
  walk_at "zev"
  refine item_list (isList_le hsc hle) (by decide) (by decide) e20 ?_
  walk_at "zev"
  walk_at "lst"
  refine wpAny_execs_cons (wpAny_Assign_Name ?_)
  walk_at "zev"
  refine item_list (isList_le hsc hle) (by decide) (by decide) e21 ?_
  walk_at "zev"
  walk_at "lst"
  refine wpAny_execs_cons (wpAny_Assign_Name ?_)
  walk_at "zev"
  walk_at "lst"
  refine wpAny_execs_cons (wpAny_Assign_Name ?_)
  walk_at "zev"
  walk_at "lst"
  have hs0 : 0 ≤ (ns.getD 20 0).fmod (N + 1) := fmod_lo _ (by walk_at "om")
  have hs1 : (ns.getD 20 0).fmod (N + 1) < N + 1 := fmod_hi _ (by walk_at "om")
  have ht0 : 0 ≤ (ns.getD 21 0).fmod (N + 1) := fmod_lo _ (by walk_at "om")
  have ht1 : (ns.getD 21 0).fmod (N + 1) < N + 1 := fmod_hi _ (by walk_at "om")
  obtain ⟨src, hsrc⟩ : ∃ src, src = (ns.getD 20 0).fmod (N + 1) := ⟨_, rfl⟩
  obtain ⟨tgt, htgt⟩ : ∃ tgt, tgt = (ns.getD 21 0).fmod (N + 1) := ⟨_, rfl⟩
  rw [← hsrc] at hs0 hs1 X
  rw [← htgt] at ht0 ht1 X
  walk_at "lx"
  refine wpAny_execs_cons (wpAny_Try_except ?_)
  refine wpAny_execs_cons (wpAny_Assign_Name ?_)
  walk_at "zev"
  refine ev_fn C hle 5 (by decide) (by rfl) fun ft hft => ?_
  refine callWith_fn hft ?_
  walk_at "zev"
  refine ⟨hle, ?_⟩
  refine augment_spec (res := roomF N es) (by walk_at "om") hh (C.le hle) (X.below hfr) (hft.le hle) (Mat.le hrm hle) (sq_room _ _) hN0 (by walk_at "om") hs0 (by walk_at "om") ht0 (by walk_at "om") ?_ ?_
  · intro hslt htlt v' h₆ tk₆ hk₆ hv'
    rw [way_due _ hN4 hs0 hslt ht0 htlt] at hv'
    have X := X.le hk₆
    obtain ⟨g, X, hg, hR, hT, hO⟩ := X.fz
    have hv' := hR hides_ints hv'
    have hsc := isList_le hsc hg
    have hcw := hcw.le hg
    have he := ListIs.le (R := EdgeIs) (fun r l => EdgeIs.le r l) he hg
    have het := ListIs.le (R := EdgeIs) (fun r l => EdgeIs.le r l) het hg
    have hrm := Mat.le hrm hg
    have hkp := Mat.le hkp hg
    walk_at "lst"
    walk_at "zev"
    refine wpAny_Assign_Name ?_
    walk_at "zev"
    refine ⟨by simp, fun ap h₇ hk₇ hf₇ htp => ?_⟩
    refine in_pair htp (by walk_at "om") ?_
    have X := X.le hk₇
    walk_at "lst"
    walk_at "zev"
    refine ne_bool ?_ (by walk_at "om")
    walk_at "zev"
    refine if_ff (by rw [decide_eq_false (show ¬ (N : Int) = src by walk_at "om"), decide_eq_false (show ¬ (N : Int) = tgt by walk_at "om")]; rfl) ?_
    walk_at "zev"
    refine ne_same (sees_mat (Mat.le hrm hle)) (sees_mat (Mat.le hkp hle)) (lay_mat _) (deep_mat _) (by walk_at "om") ?_
    walk_at "zev"
    refine if_ff rfl ?_
    walk_at "zev"
    refine isTrue_plain ?_
    walk_at "zev"
    refine if_tt rfl ?_
    refine wpAny_execs_cons (wpAny_Assign_Name ?_)
    walk_at "zev"
    refine callWith_fn hcw.fn ?_
    walk_at "zev"
    refine ⟨hle, ?_⟩
    obtain ⟨qw, htw, hgw⟩ := X.tw
    have hleW := le_hide (X := [Pw]) hle (by simpa using X.offw)
    refine way_spec (res := roomF N es) (by walk_at "om") hh X.bare (C.le hleW) (X.B.le hleW) X.ap.2.2.2.2 htw (hcw.le hle) (Mat.le hkp hleW) (sq_room _ _) (by walk_at "om") hs0 hslt ht0 htlt fun v₈ h₈ gs₈ tk₈ pw₈ kb₈ ht₈ gr₈ hb₈ hd => ?_
    have X := X.growW htw kb₈ ht₈ gr₈ hb₈
    have hd : Ints h₈ v₈ _ := Ints.le hd (hide_le _ _)
    obtain ⟨g, X, hg, hR, hT, hO⟩ := X.fz
    have hd := hR hides_ints hd
    have hv' := Ints.le hv' hg
    have hsc := isList_le hsc hg
    have he := ListIs.le (R := EdgeIs) (fun r l => EdgeIs.le r l) he hg
    have het := ListIs.le (R := EdgeIs) (fun r l => EdgeIs.le r l) het hg
    obtain ⟨xl, hxl⟩ := due_load (es := es) hs0 hslt ht0 htlt
    obtain ⟨due, hdue⟩ : ∃ due, due = dueF (roomF N es) N src tgt := ⟨_, rfl⟩
    have hdl : due.length < 100 := by rw [hdue]; exact due_len hs0 hslt ht0 htlt
    rw [← hdue] at hv' hd hxl
    walk_at "lst"
    walk_at "zev"
    refine ne_same (sees_ints (Ints.le hv' hle)) (sees_ints (Ints.le hd hle)) (lay_ints _) (Nat.le_trans (deep_ints _) (by decide)) (by walk_at "om") ?_
    walk_at "zev"
    refine if_ff rfl ?_
    walk_at "zev"
    refine isTrue_plain ?_
    refine all_ty (LS.at X) hh (by walk_at "om") hv' (by rfl) fun h₉ gs₉ tk₉ X => ?_
    walk_at "lx"
    walk_at "zev"
    refine if_ff rfl ?_
    walk_at "zev"
    refine wpAny_Assign_Name ?_
    walk_at "zev"
    refine ev_fn C hle 3 (by decide) (by rfl) fun ft hft => ?_
    refine callWith_fn hft ?_
    walk_at "zev"
    refine ⟨hle, ?_⟩
    refine path_weight_spec (by walk_at "om") hh (C.le hle) (hft.le hle) (ListIs.le (R := EdgeIs) (fun r l => EdgeIs.le r l) he hle) (Ints.le hv' hle) (by walk_at "om") hdl fun t₁ h₃ tk₃ hk₃ => ?_
    have X := X.le hk₃
    walk_at "lst"
    walk_at "zev"
    refine ev_fn C hle 14 (by decide) (by rfl) fun ft hft => ?_
    refine callWith_fn hft ?_
    walk_at "zev"
    refine ⟨hle, ?_⟩
    refine weight_spec (by walk_at "om") hh (by walk_at "om") (C.le hle) (hft.le hle) (ListIs.le (R := EdgeIs) (fun r l => EdgeIs.le r l) het hle) (Ints.le hd hle) hel hel1 hdl fun ps t₂ h₃ tk₃ hpp hps hk₃ => ?_
    rw [weights_agree hpp hps]
    have X := X.le hk₃
    walk_at "lx"
    walk_at "zev"
    refine ne_optV (by walk_at "om") ?_
    walk_at "zev"
    refine if_ff rfl ?_
    walk_at "zev"
    refine type_optV (by rw [hxl]; rfl) ?_
    walk_at "zev"
    refine is_type ?_
    walk_at "zev"
    refine if_ff rfl ?_
    walk_at "zev"
    refine ne_same (sees_ints (Ints.le hv' hle)) (sees_ints (Ints.le hd hle)) (lay_ints _) (Nat.le_trans (deep_ints _) (by decide)) (by walk_at "om") ?_
    walk_at "zev"
    refine if_ff rfl ?_
    repeat (refine wpAny_execs_nil ?_)
    exact law5 hN0 hN4 ht0 (by walk_at "om") hel hel1 hh hroom hu hfr (LS.at X) hsc hnv hlen he het m1 m2 (by rfl) m4 m5 hQ
  · intro hor e h₆ tk₆ hfl hup
    refine caught hfr rfl hfl (C.le (le_hide hle (by simpa using offG))) fun h₇ hk₇ hu₇ => ?_
    have X := X.slots hk₇ (hup.trans hu₇)
    refine wpAny_execs_cons (wpAny_Assign_Name ?_)
    walk_at "lx"
    walk_at "zev"
    walk_at "lst"
    walk_at "zev"
    refine wpAny_Assign_Name ?_
    walk_at "zev"
    refine ⟨by simp, fun ap h₇ hk₇ hf₇ htp => ?_⟩
    refine in_pair htp (by walk_at "om") ?_
    have X := X.le hk₇
    walk_at "lst"
    walk_at "zev"
    refine ne_bool ?_ (by walk_at "om")
    walk_at "zev"
    have hdec : (decide ((N : Int) = src) || decide ((N : Int) = tgt)) = true := by
      rcases hor with q | q
      · rw [decide_eq_true q.symm]; rfl
      · rw [decide_eq_true (show (N : Int) = tgt from q.symm), Bool.or_true]
    refine if_ff (by rw [hdec]; rfl) ?_
    walk_at "zev"
    refine ne_same (sees_mat (Mat.le hrm hle)) (sees_mat (Mat.le hkp hle)) (lay_mat _) (deep_mat _) (by walk_at "om") ?_
    walk_at "zev"
    refine if_ff rfl ?_
    walk_at "zev"
    refine isTrue_plain ?_
    walk_at "zev"
    refine if_ff rfl ?_
    repeat (refine wpAny_execs_nil ?_)
    exact law5 hN0 hN4 ht0 (by walk_at "om") hel hel1 hh hroom hu hfr (LS.at X) hsc hnv hlen he het m1 m2 (by rfl) m4 m5 hQ
end

-- 55_law3.lean
-- needs: 01 02 03 04 05 06 07 08 09 10 11 12 13 14 15 16 17 18 19 20 21 22 23 24 25 26 27 28 29 30 31 32 33 40 41 42 43 44 45 50 51 52 53 54
section
variable {prog : Program} {w : World} {A : Around} {E : Value → Shared → Prop} {mg mb : Str → Option Value} {L cl Pl cw Pw f fw : Addr} {pl pw : Array Value} {s₀ s : Shared} {g : Heap} {m : Str → Option Value}
theorem all_ty2 {x y z : Str} {p p1 p2 p3 p4 p5 p6 px py px1 pz pos : Pos} {scope : Scope} {vl : Value} {t : List (List Int)} {Q : Value → Shared → Prop} (X : LS mg mb L cl Pl cw Pw pl pw s₀ g m s) (hh : A.handled = none) (hroom : A.depth < recursionLimit) (hl : Mat g vl t) (hm : m z = some vl)
    (hQ : ∀ h' gs tk, LS mg mb L cl Pl cw Pw pl pw s₀ g m { s with heap := h', gens := gs } → Q (.bool true) { s with heap := h', gens := gs, toks := tk })
    (hz : (lawEnv L f cl).kindOf z = some .local := by rfl) (hzd : (z == ("__debug__" : Str)) = false := by rfl) (hxd : (x == ("__debug__" : Str)) = false := by rfl) (hyd : (y == ("__debug__" : Str)) = false := by rfl)
    (hclos : closureFor scope (lawEnv L f cl) = pure [] := by rfl) (hcell : (scope.names.all fun y => y.2 != .cell) = true := by rfl) (h0 : scope.names.lookup (".0" : Str) = some NameKind.local := by rfl) (hx : scope.names.lookup x = some .local := by rfl) (hy : scope.names.lookup y = some .local := by rfl) (hkind : scope.kind = .function := by rfl) (hco : scope.isCoroutine = false := by rfl)
    (ht : scope.names.lookup (Str.ofString "type") = some NameKind.globalImplicit := by rfl) (hi : scope.names.lookup (Str.ofString "int") = some NameKind.globalImplicit := by rfl) (hs : ∀ x, genFold (.Name z pz) (lawEnv L f cl) x = pure x := by intro _; rfl) :
    wpAny (model prog w) A (eval (.Call (.Name "all" p) [.GeneratorExp (.Compare (.Call (.Name "type" p1) [.Name y p2] [] p3) [.Is] [.Name "int" p4] p5) [⟨.Name x px, .Name z pz, [], 0⟩, ⟨.Name y py, .Name x px1, [], 0⟩] scope pos] [] p6) (lawEnv L f cl)) Q E s := by
  obtain ⟨ll, vs, rfl, hl, ha⟩ := hl
  obtain ⟨ps, htl, hgr⟩ := X.tl
  walk_at "lx"
  refine Call_Name1 ?_
  refine ev_blt C hle blt_all (by decide) (by decide) ?_
  refine cw_blt rfl ?_
  refine spliced_cons ?_
  refine ev_gen2 (c := cl) hh hroom C X.B rfl hclos hcell h0 hx hy hkind hco hxd ?_ hs
  refine ev_loc hns hm ?_ rfl hz hzd
  refine ⟨ll, vs, t, ps, Pl, rfl, hle, hl, ha, X.offl, X.ap.2.1, htl, ?_, ?_⟩
  · intro Cl code A' E' j t s₃ m' hA hle hn my
    refine wpAny_Compare1 ?_
    refine Call_Name1 ?_
    refine ev_blt C hle blt_type (by decide) (by decide) ?_ hkind ht rfl rfl
    refine cw_type rfl ?_
    refine spliced_cons ?_
    refine ev_loc (env := genEnv scope [] Cl code builtinsNs (lawEnv L f cl)) hn my ?_ hkind hy hyd
    refine spliced_nil ?_
    refine type_int ?_
    refine ev_blt C hle blt_int (by decide) (by decide) ?_ hkind hi rfl rfl
    refine is_type ?_
    exact ⟨rfl, _, _, rfl, fun _ _ e => e⟩
  · intro a Cg I0 h' gs tk ps' k N kb₁ ht₁ gr₁ hbgs hC hI haC haI hra hrl hcC hcI hst
    refine spliced_nil ?_
    refine all_gen2 hh (by walk_at "om") haC haI hra hrl hcC hcI hst (X.bare.push hbgs) fun h₂ gs₂ tk₂ kb₂ hb₂ => ?_
    have hCI : ∀ b o, s.heap.get? b = some o → b ∉ [Cg, I0] := fun b o e q => by
      simp only [List.mem_cons, List.not_mem_nil, or_false] at q
      rcases q with q | q
      · rw [← q, e] at hC; cases hC
      · rw [← q, e] at hI; cases hI
    have kbT : KB [Pl] s.heap h₂ := fun b o hb e => kb₂ b o (hCI b o e) (kb₁ b o hb e)
    have hPg : Pl ∉ [Cg, I0] := hCI _ _ htl.2.2
    have hcg : cl ∉ [Cg, I0] := by obtain ⟨o', _, e, _⟩ := htl.2.1; exact hCI _ _ e
    exact hQ h₂ gs₂ tk₂ (X.growL htl kbT (ht₁.kb kb₂ hcg hPg) gr₁ hb₂)
theorem graphOk_iff {n : Nat} {es : List Edge} : graphOkF n es = true ↔ ∀ e ∈ es, 0 ≤ e.1 ∧ e.1 < n ∧ 0 ≤ e.2.1 ∧ e.2.1 < n := by
  unfold graphOkF
  rw [Bool.and_eq_true, List.all_eq_true]
  constructor
  · intro h e he
    have := h.2 e he
    simpa [and_assoc] using this
  · intro h
    refine ⟨by simp, fun e he => ?_⟩
    have := h e he
    simpa [and_assoc] using this
set_option maxHeartbeats 4000000 in
theorem law3 {Q : Flow → Shared → Prop} {N : Nat} {fa : Int} {lsc : Addr} {vs : List Value} {ns : List Int} {tn tf : Tok} {es : List Edge} {ve vt : Value} (hN0 : 0 < N) (hN4 : N ≤ 4) (hel : es.length ≤ 5) (hel1 : es.length ≠ 1) (hpos : fa ≠ 2 → fa ≠ 3 → ∀ e ∈ es, 0 ≤ e.1 ∧ e.1 < 100 ∧ 0 ≤ e.2.1 ∧ e.2.1 < 100)
    (hh : A.handled = none) (hroom : A.depth + 2 < recursionLimit) (hu : A.units + 30 < cLine) (hfr : A.frames = some [lawEnv L f cl]) (hfw : mg (Str.ofString "_law_way") = some (.ref fw))
    (X : LS mg mb L cl Pl cw Pw pl pw s₀ g m s) (hcw : FnC g fw dWay cw) (hsc : g.IsList lsc vs.toArray) (hnv : IntsAre vs ns) (hlen : 24 ≤ ns.length) (he : ListIs EdgeIs g ve es) (het : ListIs EdgeIs g vt es)
    (m1 : m (Str.ofString "script") = some (.ref lsc)) (m2 : m (Str.ofString "n") = some (.int N tn)) (m3 : m (Str.ofString "fault") = some (.int fa tf)) (m4 : m (Str.ofString "edges") = some ve) (m5 : m (Str.ofString "twin") = some vt)
    (hQ : ∀ s' g' m', LS mg mb L cl Pl cw Pw pl pw s₀ g' m' s' → Q (.ret (.bool true)) s') :
    wpAny (model prog w) A (execs (dLaw.body.drop 8) (lawEnv L f cl)) Q E s := by
  walk_at "lx"
  refine wpAny_execs_cons (wpAny_Assign_Name ?_)
  walk_at "zev"
  refine ev_fn C hle 12 (by decide) (by rfl) fun ft hft => ?_
  refine callWith_fn hft ?_
  walk_at "zev"
  refine ⟨hle, ?_⟩
  refine room_spec (by walk_at "om") hh (C.le hle) (hft.le hle) (ListIs.le (R := EdgeIs) (fun r l => EdgeIs.le r l) het hle) (by walk_at "om") (by walk_at "om") fun vr h₃ tk₃ hk₃ hvr => ?_
  have X := X.le hk₃
  obtain ⟨g, X, hg, hR, hT, hO⟩ := X.fz
  have hvr := hR hides_mat hvr
  have hsc := isList_le hsc hg
  have hcw := hcw.le hg
  have he := ListIs.le (R := EdgeIs) (fun r l => EdgeIs.le r l) he hg
  have het := ListIs.le (R := EdgeIs) (fun r l => EdgeIs.le r l) het hg
  walk_at "lst"
  refine wpAny_execs_cons (wpAny_Assign_Name ?_)
  walk_at "zev"
  refine ev_fn C hle 12 (by decide) (by rfl) fun ft hft => ?_
  refine callWith_fn hft ?_
  walk_at "zev"
  refine ⟨hle, ?_⟩
  refine room_spec (by walk_at "om") hh (C.le hle) (hft.le hle) (ListIs.le (R := EdgeIs) (fun r l => EdgeIs.le r l) het hle) (by walk_at "om") (by walk_at "om") fun vk h₃ tk₃ hk₃ hvk => ?_
  have X := X.le hk₃
  obtain ⟨g, X, hg, hR, hT, hO⟩ := X.fz
  have hvk := hR hides_mat hvk
  have hvr := Mat.le hvr hg
  have hsc := isList_le hsc hg
  have hcw := hcw.le hg
  have he := ListIs.le (R := EdgeIs) (fun r l => EdgeIs.le r l) he hg
  have het := ListIs.le (R := EdgeIs) (fun r l => EdgeIs.le r l) het hg
  walk_at "lst"
  walk_at "zev"
  refine if_by (fun q2 => ?_) (fun q2 => ?_)
  · walk_at "zev"
    refine if_by (fun q3 => ?_) (fun q3 => ?_)
    · have hpos := hpos (by simpa using q2) (by simpa using q3)
      walk_at "zev"
      refine if_tt rfl ?_
      walk_at "zev"
      refine wpAny_Assign_Name ?_
      walk_at "zev"
      walk_at "lst"
      refine wpAny_execs_cons (wpAny_Assign_Name ?_)
      walk_at "zev"
      walk_at "lst"
      refine wpAny_execs_cons (wpAny_Try_except ?_)
      refine wpAny_execs_cons (wpAny_Assign_Name ?_)
      walk_at "zev"
      refine ev_fn C hle 4 (by decide) (by rfl) fun ft hft => ?_
      refine callWith_fn hft ?_
      walk_at "zev"
      refine ⟨hle, ?_⟩
      refine capacity_spec (by walk_at "om") hh (C.le hle) (X.below hfr) (hft.le hle) (ListIs.le (R := EdgeIs) (fun r l => EdgeIs.le r l) he hle) (by walk_at "om") (by walk_at "om") (by walk_at "om") hpos ?_ ?_
      · intro hall v' h₆ tk₆ hk₆ hv'
        have hin : ∀ e ∈ es, 0 ≤ e.1 ∧ e.1 < N ∧ 0 ≤ e.2.1 ∧ e.2.1 < N := fun e q => ⟨(hpos e q).1, (hall e q).1, (hpos e q).2.2.1, (hall e q).2⟩
        rw [cap_room hin] at hv'
        have hgk := graphOk_iff.mpr hin
        have X := X.le hk₆
        obtain ⟨g, X, hg, hR, hT, hO⟩ := X.fz
        have hv' := hR hides_mat hv'
        have hsc := isList_le hsc hg
        have hcw := hcw.le hg
        have he := ListIs.le (R := EdgeIs) (fun r l => EdgeIs.le r l) he hg
        have het := ListIs.le (R := EdgeIs) (fun r l => EdgeIs.le r l) het hg
        have hvr := Mat.le hvr hg
        have hvk := Mat.le hvk hg
        walk_at "lst"
        walk_at "zev"
        refine ev_fn C hle 11 (by decide) (by rfl) fun ft hft => ?_
        refine callWith_fn hft ?_
        walk_at "zev"
        refine ⟨hle, ?_⟩
        refine lawful_spec (by walk_at "om") hh (C.le hle) (hft.le hle) (ListIs.le (R := EdgeIs) (fun r l => EdgeIs.le r l) het hle) (by walk_at "om") (by walk_at "om") fun h₃ tk₃ hk₃ => ?_
        have X := X.le hk₃
        walk_at "lx"
        refine eq_bool ?_ (by walk_at "om")
        walk_at "zev"
        refine if_ff (by rw [hgk]; rfl) ?_
        walk_at "zev"
        refine isTrue_plain ?_
        walk_at "zev"
        refine if_tt rfl ?_
        walk_at "zev"
        refine ne_same (sees_mat (Mat.le hv' hle)) (sees_mat (Mat.le hvk hle)) (lay_mat _) (deep_mat _) (by walk_at "om") ?_
        walk_at "zev"
        refine if_ff rfl ?_
        walk_at "zev"
        refine isTrue_plain ?_
        refine all_ty2 (LS.at X) hh (by walk_at "om") hv' (by rfl) fun h₉ gs₉ tk₉ X => ?_
        walk_at "lx"
        walk_at "zev"
        refine if_ff rfl ?_
        repeat (refine wpAny_execs_nil ?_)
        exact law4 hN0 hN4 hel hel1 hh hroom hu hfr hfw (LS.at X) hcw hsc hnv hlen he het hvr hvk m1 m2 m4 m5 (by rfl) (by rfl) hQ
      · intro hnot e h₆ tk₆ hfl hup
        have hgk : graphOkF N es = false := by
          cases q : graphOkF N es with
          | false => rfl
          | true => exact absurd (fun e he => ⟨(graphOk_iff.mp q e he).2.1, (graphOk_iff.mp q e he).2.2.2⟩) hnot
        refine caught hfr rfl hfl (C.le (le_hide hle (by simpa using offG))) fun h₇ hk₇ hu₇ => ?_
        have X := X.slots hk₇ (hup.trans hu₇)
        refine wpAny_execs_cons (wpAny_Assign_Name ?_)
        walk_at "lx"
        walk_at "zev"
        walk_at "lst"
        walk_at "zev"
        refine ev_fn C hle 11 (by decide) (by rfl) fun ft hft => ?_
        refine callWith_fn hft ?_
        walk_at "zev"
        refine ⟨hle, ?_⟩
        refine lawful_spec (by walk_at "om") hh (C.le hle) (hft.le hle) (ListIs.le (R := EdgeIs) (fun r l => EdgeIs.le r l) het hle) (by walk_at "om") (by walk_at "om") fun h₃ tk₃ hk₃ => ?_
        have X := X.le hk₃
        walk_at "lx"
        refine eq_bool ?_ (by walk_at "om")
        walk_at "zev"
        refine if_ff (by rw [hgk]; rfl) ?_
        walk_at "zev"
        refine isTrue_plain ?_
        walk_at "zev"
        refine if_ff rfl ?_
        repeat (refine wpAny_execs_nil ?_)
        exact law4 hN0 hN4 hel hel1 hh hroom hu hfr hfw (LS.at X) hcw hsc hnv hlen he het hvr hvk m1 m2 m4 m5 (by rfl) (by rfl) hQ
    · walk_at "zev"
      refine if_ff rfl ?_
      repeat (refine wpAny_execs_nil ?_)
      exact law4 hN0 hN4 hel hel1 hh hroom hu hfr hfw (LS.at X) hcw hsc hnv hlen he het hvr hvk m1 m2 m4 m5 (by rfl) (by rfl) hQ
  · walk_at "zev"
    refine if_ff rfl ?_
    repeat (refine wpAny_execs_nil ?_)
    exact law4 hN0 hN4 hel hel1 hh hroom hu hfr hfw (LS.at X) hcw hsc hnv hlen he het hvr hvk m1 m2 m4 m5 (by rfl) (by rfl) hQ
end

-- 56_law2.lean
-- needs: 01 02 03 04 05 06 07 08 09 10 11 12 13 14 15 16 17 18 19 20 21 22 23 24 25 26 27 28 29 30 31 32 33 40 41 42 43 44 45 50 51 52 53 54 55
section
variable {prog : Program} {w : World} {A : Around} {E : Value → Shared → Prop} {mg mb : Str → Option Value} {L cl Pl cw Pw f fw : Addr} {pl pw : Array Value} {s₀ s : Shared} {g : Heap} {m : Str → Option Value}
theorem LS.loc {h' : Heap} {m' : Str → Option Value} (X : LS mg mb L cl Pl cw Pw pl pw s₀ g m s) (k : KB [L] s.heap h') (hn : h'.Ns L m') : LS mg mb L cl Pl cw Pw pl pw s₀ g m' { s with heap := h' } :=
  X.kbs (k.mono (by simp)) hn (fun ps t => ⟨ps, t.kb k (by simpa using (tab_ne_ns t X.hns).2) (by simpa using (tab_ne_ns t X.hns).1), Grown.rfl⟩) (fun ps t => ⟨ps, t.kb k (by simpa using (tab_ne_ns t X.hns).2) (by simpa using (tab_ne_ns t X.hns).1), Grown.rfl⟩) X.bare
set_option maxHeartbeats 4000000 in
theorem law2 {Q : Flow → Shared → Prop} {N : Nat} {fa : Int} {lsc : Addr} {vs : List Value} {ns : List Int} {tn tf : Tok} {es : List Edge} {ve vt : Value} (hN0 : 0 < N) (hN4 : N ≤ 4) (hel : es.length ≤ 5) (hel1 : es.length ≠ 1) (hpos : fa ≠ 2 → fa ≠ 3 → ∀ e ∈ es, 0 ≤ e.1 ∧ e.1 < 100 ∧ 0 ≤ e.2.1 ∧ e.2.1 < 100)
    (hh : A.handled = none) (hroom : A.depth + 2 < recursionLimit) (hu : A.units + 30 < cLine) (hfr : A.frames = some [lawEnv L f cl]) (hfw : mg (Str.ofString "_law_way") = some (.ref fw))
    (X : LS mg mb L cl Pl cw Pw pl pw s₀ g m s) (hcw : FnC g fw dWay cw) (hsc : g.IsList lsc vs.toArray) (hnv : IntsAre vs ns) (hlen : 24 ≤ ns.length) (he : ListIs EdgeIs g ve es) (het : ListIs EdgeIs g vt es)
    (m1 : m (Str.ofString "script") = some (.ref lsc)) (m2 : m (Str.ofString "n") = some (.int N tn)) (m3 : m (Str.ofString "fault") = some (.int fa tf)) (m4 : m (Str.ofString "edges") = some ve) (m5 : m (Str.ofString "twin") = some vt)
    (hQ : ∀ s' g' m', LS mg mb L cl Pl cw Pw pl pw s₀ g' m' s' → Q (.ret (.bool true)) s') (hE : PassesOwn (model prog w) A (lawEnv L f cl) E) :
    wpAny (model prog w) A (execs (dLaw.body.drop 7) (lawEnv L f cl)) Q E s := by
  obtain ⟨t19, e19⟩ := intsAre_get hnv (i := 19) (by walk_at "om")
  walk_at "lx"
  refine wpAny_execs_cons (wpAny_For ?_)
  walk_at "zev"
  refine item_list (isList_le hsc hle) (by decide) (by decide) e19 ?_
  walk_at "zev"
  refine ⟨by simp, fun ap h₂ hk₂ hf₂ htp => ?_⟩
  have X := X.le hk₂
  obtain ⟨g, X, hg, hR, hT, hO⟩ := X.fz
  have htp := hT htp
  have hsc := isList_le hsc hg
  have hcw := hcw.le hg
  have he := ListIs.le (R := EdgeIs) (fun r l => EdgeIs.le r l) he hg
  have het := ListIs.le (R := EdgeIs) (fun r l => EdgeIs.le r l) het hg
  walk_at "lx"
  have offI : g.get? h₂.objs.size = none := none_of_le hle
  have hb0 : 0 ≤ (ns.getD 19 0).fmod 7 := fmod_lo _ (by decide)
  have hb1 : (ns.getD 19 0).fmod 7 < 7 := fmod_hi _ (by decide)
  refine iter_tuple [] (fun I i m h => Le g h ∧ m (Str.ofString "script") = some (.ref lsc) ∧ m (Str.ofString "n") = some (.int N tn) ∧ m (Str.ofString "fault") = some (.int fa tf) ∧ m (Str.ofString "edges") = some ve ∧ m (Str.ofString "twin") = some vt)
    hh (htp.keeps hle) ?_ (by simp) (by rfl) (by rfl) hns ⟨hle, m1, m2, m3, m4, m5⟩ ?_ ?_ ?_ hE
  · exact fun q => tup_ne (htp.keeps hle) hns (List.mem_singleton.mp q)
  · rintro i m h h' ⟨a, r⟩ k
    refine ⟨k.le a ?_, r⟩
    intro x hx
    rcases List.mem_cons.mp hx with rfl | hx
    · exact offG
    · rw [List.mem_singleton.mp hx]; exact offI
  · rintro i v m h tk hv ⟨hle, m1, m2, m3, m4, m5⟩ hk hns hI
    obtain ⟨k, tv, rfl, hk0, hk1⟩ : ∃ k t, v = .int k t ∧ -100 < k ∧ k < 100 := by
      match i, hv with
      | 0, hv => cases hv; exact ⟨_, _, rfl, by walk_at "om", by walk_at "om"⟩
      | 1, hv => cases hv; exact ⟨_, _, rfl, by walk_at "om", by walk_at "om"⟩
      | i + 2, hv => simp at hv
    have hkb : KB [L] h h := KB.rfl
    refine wpAny_execs_cons (wpAny_Assign_Name ?_)
    walk_at "zev"
    refine ev_fn C hle 1 (by decide) (by rfl) fun ft hft => ?_
    refine callWith_fn hft ?_
    walk_at "zev"
    refine ⟨hle, ?_⟩
    refine graph_ok_spec (by walk_at "om") hh (C.lim.keeps hle) (hft.le hle) (ListIs.le (R := EdgeIs) (fun r l => EdgeIs.le r l) he hle) fun h₃ tk₃ hk₃ => ?_
    have hns := hns.keeps hk₃
    have hle := hle.trans hk₃
    have hkb := hkb.trans (KB.of_le hk₃)
    walk_at "zst"
    walk_at "zev"
    refine ev_fn C hle 11 (by decide) (by rfl) fun ft hft => ?_
    refine callWith_fn hft ?_
    walk_at "zev"
    refine ⟨hle, ?_⟩
    refine lawful_spec (by walk_at "om") hh (C.le hle) (hft.le hle) (ListIs.le (R := EdgeIs) (fun r l => EdgeIs.le r l) het hle) hk0 hk1 fun h₃ tk₃ hk₃ => ?_
    have hns := hns.keeps hk₃
    have hle := hle.trans hk₃
    have hkb := hkb.trans (KB.of_le hk₃)
    refine ne_bool ?_ (by walk_at "om")
    walk_at "zev"
    refine if_ff (by simp) ?_
    walk_at "zev"
    refine type_bool ?_
    walk_at "zev"
    refine is_type ?_
    walk_at "zev"
    refine if_ff rfl ?_
    walk_at "zev"
    exact ⟨_, _, _, rfl, hns, hkb, hle, m1, m2, m3, m4, m5⟩
  · rintro m h tk ⟨hle, m1, m2, m3, m4, m5⟩ hk hns
    have X := X.loc hk hns
    exact law3 hN0 hN4 hel hel1 hpos hh hroom hu hfr hfw (LS.at X) hcw hsc hnv hlen he het m1 m2 m3 m4 m5 hQ
end

-- 57_law1.lean
-- needs: 01 02 03 04 05 06 07 08 09 10 11 12 13 14 15 16 17 18 19 20 21 22 23 24 25 26 27 28 29 30 31 32 33 40 41 42 43 44 45 50 51 52 53 54 55 56
theorem edges_len {n fault place size : Int} {ds : List Edge} (hd : ds.length = 5) (hs : size ∈ [5, 4, 5, 2, 0, (5 : Int)]) : (edgesF n ds size fault place 5).length ≠ 1 := by
  match ds, hd with
  | [d0, d1, d2, d3, d4], _ =>
    simp only [List.mem_cons, List.not_mem_nil, or_false] at hs
    rcases hs with rfl | rfl | rfl | rfl | rfl | rfl <;> simp [edgesF, List.range_succ]
theorem edges_pos {n fault place size : Int} {ds : List Edge} {k : Nat} (hn : 0 < n) (hn1 : n < 99) (h2 : fault ≠ 2) (h3 : fault ≠ 3) : ∀ e ∈ edgesF n ds size fault place k, 0 ≤ e.1 ∧ e.1 < 100 ∧ 0 ≤ e.2.1 ∧ e.2.1 < 100 := by
  intro e he
  unfold edgesF at he
  obtain ⟨i, _, hi⟩ := List.mem_filterMap.mp he
  split at hi
  · obtain ⟨d, _, rfl⟩ := Option.map_eq_some_iff.mp hi
    have a0 := fmod_lo d.1 hn
    have a1 := fmod_hi d.1 hn
    have b0 := fmod_lo (d.1.fmod n + stepsL.getD (d.2.1.fmod 6).toNat 0) hn
    have b1 := fmod_hi (d.1.fmod n + stepsL.getD (d.2.1.fmod 6).toNat 0) hn
    unfold edgeF
    dsimp only
    rw [if_neg h2, if_neg h3]
    split <;> dsimp only <;> (try split) <;> (try split) <;> omega
  · cases hi
theorem drawn_is {h : Heap} {D p0 p1 p2 p3 p4 : Addr} {a0 b0 c0 a1 b1 c1 a2 b2 c2 a3 b3 c3 a4 b4 c4 : Int} {r0 s0 t0 r1 s1 t1 r2 s2 t2 r3 s3 t3 r4 s4 t4 : Tok} (hD : h.IsList D #[.ref p0, .ref p1, .ref p2, .ref p3, .ref p4])
    (h0 : IsTup h p0 #[.int a0 r0, .int b0 s0, .int c0 t0]) (h1 : IsTup h p1 #[.int a1 r1, .int b1 s1, .int c1 t1]) (h2 : IsTup h p2 #[.int a2 r2, .int b2 s2, .int c2 t2]) (h3 : IsTup h p3 #[.int a3 r3, .int b3 s3, .int c3 t3]) (h4 : IsTup h p4 #[.int a4 r4, .int b4 s4, .int c4 t4]) :
    ∃ ds : List Edge, ds.length = 5 ∧ ListIs EdgeIs h (.ref D) ds :=
  ⟨[(a0, b0, c0), (a1, b1, c1), (a2, b2, c2), (a3, b3, c3), (a4, b4, c4)], rfl, D, [.ref p0, .ref p1, .ref p2, .ref p3, .ref p4], rfl, hD, ⟨_, _, _, _, rfl, h0⟩, ⟨_, _, _, _, rfl, h1⟩, ⟨_, _, _, _, rfl, h2⟩, ⟨_, _, _, _, rfl, h3⟩, ⟨_, _, _, _, rfl, h4⟩, trivial⟩
section
variable {prog : Program} {w : World} {A : Around} {E : Value → Shared → Prop} {mg mb : Str → Option Value} {L cl Pl cw Pw f fw : Addr} {pl pw : Array Value} {s₀ s : Shared} {g : Heap} {m : Str → Option Value}
set_option maxHeartbeats 8000000 in
theorem law1 {Q : Flow → Shared → Prop} {lsc : Addr} {vs : List Value} {ns : List Int}
    (hh : A.handled = none) (hroom : A.depth + 2 < recursionLimit) (hu : A.units + 30 < cLine) (hfr : A.frames = some [lawEnv L f cl]) (hfw : mg (Str.ofString "_law_way") = some (.ref fw))
    (X : LS mg mb L cl Pl cw Pw pl pw s₀ g m s) (hcw : FnC g fw dWay cw) (hsc : g.IsList lsc vs.toArray) (hnv : IntsAre vs ns) (hfit : (vs.length : Int) < 2 ^ 63)
    (m1 : m (Str.ofString "script") = some (.ref lsc))
    (hQ : ∀ s' g' m', LS mg mb L cl Pl cw Pw pl pw s₀ g' m' s' → Q (.ret (.bool true)) s') (hE : PassesOwn (model prog w) A (lawEnv L f cl) E) :
    wpAny (model prog w) A (execs dLaw.body (lawEnv L f cl)) Q E s := by
  walk_at "lx"
  refine wpAny_execs_cons ?_
  walk_at "zev"
  refine call_len_list (isList_le hsc hle) (by simpa using hfit) ?_
  walk_at "zev"
  refine if_by (fun q => ?_) (fun q => ?_)
  · walk_at "zev"
    exact hQ _ _ _ (X.at)
  have hlen : 24 ≤ ns.length := by
    have := hnv.length
    simp at q
    omega
  obtain ⟨t0, e0⟩ := intsAre_get hnv (i := 0) (by walk_at "om")
  obtain ⟨t1, e1⟩ := intsAre_get hnv (i := 1) (by walk_at "om")
  obtain ⟨t2, e2⟩ := intsAre_get hnv (i := 2) (by walk_at "om")
  obtain ⟨t3, e3⟩ := intsAre_get hnv (i := 3) (by walk_at "om")
  obtain ⟨t4, e4⟩ := intsAre_get hnv (i := 4) (by walk_at "om")
  obtain ⟨t5, e5⟩ := intsAre_get hnv (i := 5) (by walk_at "om")
  obtain ⟨t6, e6⟩ := intsAre_get hnv (i := 6) (by walk_at "om")
  obtain ⟨t7, e7⟩ := intsAre_get hnv (i := 7) (by walk_at "om")
  obtain ⟨t8, e8⟩ := intsAre_get hnv (i := 8) (by walk_at "om")
  obtain ⟨t9, e9⟩ := intsAre_get hnv (i := 9) (by walk_at "om")
  obtain ⟨t10, e10⟩ := intsAre_get hnv (i := 10) (by walk_at "om")
  obtain ⟨t11, e11⟩ := intsAre_get hnv (i := 11) (by walk_at "om")
  obtain ⟨t12, e12⟩ := intsAre_get hnv (i := 12) (by walk_at "om")
  obtain ⟨t13, e13⟩ := intsAre_get hnv (i := 13) (by walk_at "om")
  obtain ⟨t14, e14⟩ := intsAre_get hnv (i := 14) (by walk_at "om")
  obtain ⟨t15, e15⟩ := intsAre_get hnv (i := 15) (by walk_at "om")
  obtain ⟨t16, e16⟩ := intsAre_get hnv (i := 16) (by walk_at "om")
  obtain ⟨t17, e17⟩ := intsAre_get hnv (i := 17) (by walk_at "om")
  obtain ⟨t18, e18⟩ := intsAre_get hnv (i := 18) (by walk_at "om")
  walk_at "zev"
  refine wpAny_Assign_Name ?_
  walk_at "zev"
  refine item_list (isList_le hsc hle) (by decide) (by decide) e0 ?_
  walk_at "zev"
  have hb0 : 0 ≤ (ns.getD 0 0).fmod 4 := fmod_lo _ (by decide)
  have hb1 : (ns.getD 0 0).fmod 4 < 4 := fmod_hi _ (by decide)
  obtain ⟨N, hN⟩ : ∃ N : Nat, (N : Int) = 1 + (ns.getD 0 0).fmod 4 := ⟨(1 + (ns.getD 0 0).fmod 4).toNat, by walk_at "om"⟩
  rw [← hN]
  have hN0 : 0 < N := by walk_at "om"
  have hN4 : N ≤ 4 := by walk_at "om"
  clear hb0 hb1 hN
  walk_at "lst"
  refine wpAny_execs_cons (wpAny_Assign_Name ?_)
  walk_at "zev"
  refine item_list (isList_le hsc hle) (by decide) (by decide) e1 ?_
  walk_at "zev"
  refine item_list (isList_le hsc hle) (by decide) (by decide) e2 ?_
  walk_at "zev"
  refine item_list (isList_le hsc hle) (by decide) (by decide) e3 ?_
  walk_at "zev"
  refine ⟨by simp, fun ap0 h₂ hk₂ hf₂ htp0 => ?_⟩
  dsimp only at hk₂ hf₂ ⊢
  have X := X.le hk₂
  dsimp only at X
  clear hf₂
  walk_at "lx"
  walk_at "zev"
  refine item_list (isList_le hsc hle) (by decide) (by decide) e4 ?_
  walk_at "zev"
  refine item_list (isList_le hsc hle) (by decide) (by decide) e5 ?_
  walk_at "zev"
  refine item_list (isList_le hsc hle) (by decide) (by decide) e6 ?_
  walk_at "zev"
  refine ⟨by simp, fun ap1 h₂ hk₂ hf₂ htp1 => ?_⟩
  dsimp only at hk₂ hf₂ ⊢
  have X := X.le hk₂
  dsimp only at X
  clear hf₂
  have htp0 := htp0.keeps hk₂
  walk_at "lx"
  walk_at "zev"
  refine item_list (isList_le hsc hle) (by decide) (by decide) e7 ?_
  walk_at "zev"
  refine item_list (isList_le hsc hle) (by decide) (by decide) e8 ?_
  walk_at "zev"
  refine item_list (isList_le hsc hle) (by decide) (by decide) e9 ?_
  walk_at "zev"
  refine ⟨by simp, fun ap2 h₂ hk₂ hf₂ htp2 => ?_⟩
  dsimp only at hk₂ hf₂ ⊢
  have X := X.le hk₂
  dsimp only at X
  clear hf₂
  have htp0 := htp0.keeps hk₂
  have htp1 := htp1.keeps hk₂
  walk_at "lx"
  walk_at "zev"
  refine item_list (isList_le hsc hle) (by decide) (by decide) e10 ?_
  walk_at "zev"
  refine item_list (isList_le hsc hle) (by decide) (by decide) e11 ?_
  walk_at "zev"
  refine item_list (isList_le hsc hle) (by decide) (by decide) e12 ?_
  walk_at "zev"
  refine ⟨by simp, fun ap3 h₂ hk₂ hf₂ htp3 => ?_⟩
  dsimp only at hk₂ hf₂ ⊢
  have X := X.le hk₂
  dsimp only at X
  clear hf₂
  have htp0 := htp0.keeps hk₂
  have htp1 := htp1.keeps hk₂
  have htp2 := htp2.keeps hk₂
  walk_at "lx"
  walk_at "zev"
  refine item_list (isList_le hsc hle) (by decide) (by decide) e13 ?_
  walk_at "zev"
  refine item_list (isList_le hsc hle) (by decide) (by decide) e14 ?_
  walk_at "zev"
  refine item_list (isList_le hsc hle) (by decide) (by decide) e15 ?_
  walk_at "zev"
  refine ⟨by simp, fun ap4 h₂ hk₂ hf₂ htp4 => ?_⟩
  dsimp only at hk₂ hf₂ ⊢
  have X := X.le hk₂
  dsimp only at X
  clear hf₂
  have htp0 := htp0.keeps hk₂
  have htp1 := htp1.keeps hk₂
  have htp2 := htp2.keeps hk₂
  have htp3 := htp3.keeps hk₂
  walk_at "lx"
  walk_at "zev"
  refine ⟨by simp, fun D h₂ hk₂ hf₂ hD => ?_⟩
  dsimp only at hk₂ hf₂ ⊢
  have X := X.le hk₂
  dsimp only at X
  have htp0 := htp0.keeps hk₂
  have htp1 := htp1.keeps hk₂
  have htp2 := htp2.keeps hk₂
  have htp3 := htp3.keeps hk₂
  have htp4 := htp4.keeps hk₂
  obtain ⟨ds, hdl, hDs⟩ := drawn_is hD.isList htp0 htp1 htp2 htp3 htp4
  obtain ⟨g, X, hg, hR, hT, hO⟩ := X.fz
  have hDs := hR (hides_list hides_edge) hDs
  have hsc := isList_le hsc hg
  have hcw := hcw.le hg
  clear htp0 htp1 htp2 htp3 htp4 hD
  walk_at "lst"
  obtain ⟨az, hmz, vz, htz, hiz⟩ := C.sizes
  refine wpAny_execs_cons (wpAny_Assign_Name ?_)
  walk_at "zev"
  refine item_list (isList_le hsc hle) (by decide) (by decide) e16 ?_
  walk_at "zev"
  have hz0 : 0 ≤ (ns.getD 16 0).fmod 6 := fmod_lo _ (by decide)
  have hz1 : (ns.getD 16 0).fmod 6 < 6 := fmod_hi _ (by decide)
  refine item_inttup (htz.keeps hle) hiz hz0 (by simpa using hz1) (by decide) fun tz => ?_
  obtain ⟨size, hsize⟩ : ∃ size, size = ([5, 4, 5, 2, 0, 5] : List Int).getD ((ns.getD 16 0).fmod 6).toNat 0 := ⟨_, rfl⟩
  have hsz : size ∈ [5, 4, 5, 2, 0, (5 : Int)] := by
    rw [hsize]; exact getD_mem' (show ((ns.getD 16 0).fmod 6).toNat < 6 by walk_at "om")
  rw [← hsize]
  clear hsize hz0 hz1
  walk_at "lst"
  refine wpAny_execs_cons (wpAny_Assign_Name ?_)
  walk_at "zev"
  refine item_list (isList_le hsc hle) (by decide) (by decide) e17 ?_
  walk_at "zev"
  obtain ⟨fa, hfa⟩ : ∃ fa, fa = (ns.getD 17 0).fmod 8 := ⟨_, rfl⟩
  rw [← hfa]
  walk_at "lst"
  refine wpAny_execs_cons (wpAny_Assign_Name ?_)
  walk_at "zev"
  refine ev_fn C hle 10 (by decide) (by rfl) fun ft hft => ?_
  refine callWith_fn hft ?_
  walk_at "zev"
  refine item_list (isList_le hsc hle) (by decide) (by decide) e18 ?_
  walk_at "zev"
  refine ⟨hle, ?_⟩
  refine edges_spec (by walk_at "om") hh (C.le hle) (hft.le hle) (ListIs.le (R := EdgeIs) (fun r l => EdgeIs.le r l) hDs hle) hdl (by walk_at "om") fun ve h₃ tk₃ hk₃ hve => ?_
  have X := X.le hk₃
  obtain ⟨g, X, hg, hR, hT, hO⟩ := X.fz
  have hve := hR (hides_list hides_edge) hve
  have hsc := isList_le hsc hg
  have hcw := hcw.le hg
  have hDs := ListIs.le (R := EdgeIs) (fun r l => EdgeIs.le r l) hDs hg
  walk_at "lst"
  refine wpAny_execs_cons (wpAny_Assign_Name ?_)
  walk_at "zev"
  refine ev_fn C hle 10 (by decide) (by rfl) fun ft hft => ?_
  refine callWith_fn hft ?_
  walk_at "zev"
  refine item_list (isList_le hsc hle) (by decide) (by decide) e18 ?_
  walk_at "zev"
  refine ⟨hle, ?_⟩
  refine edges_spec (by walk_at "om") hh (C.le hle) (hft.le hle) (ListIs.le (R := EdgeIs) (fun r l => EdgeIs.le r l) hDs hle) hdl (by walk_at "om") fun vt h₃ tk₃ hk₃ hvt => ?_
  have X := X.le hk₃
  obtain ⟨g, X, hg, hR, hT, hO⟩ := X.fz
  have hvt := hR (hides_list hides_edge) hvt
  have hsc := isList_le hsc hg
  have hcw := hcw.le hg
  have hDs := ListIs.le (R := EdgeIs) (fun r l => EdgeIs.le r l) hDs hg
  have hve := ListIs.le (R := EdgeIs) (fun r l => EdgeIs.le r l) hve hg
  walk_at "lst"
  exact law2 hN0 hN4 edgesF_len (edges_len hdl hsz) (fun q2 q3 => edges_pos (by walk_at "om") (by walk_at "om") q2 q3) hh hroom hu hfr hfw (LS.at X) hcw hsc hnv hlen hve hvt (by exact m1) (by rfl) (by rfl) (by rfl) (by rfl) hQ hE
end

-- 58_top.lean
-- needs: 01 02 03 04 05 06 07 08 09 10 11 12 13 14 15 16 17 18 19 20 21 22 23 24 25 26 27 28 29 30 31 32 33 40 41 42 43 44 45 50 51 52 53 54 55 56 57
theorem rec_mem : ∀ i ∈ theDefs, defAt i ∈ recsOf P0 := by
  intro i hi
  simp only [theDefs, List.mem_cons, List.not_mem_nil, or_false] at hi
  rcases hi with rfl | rfl | rfl | rfl | rfl | rfl | rfl | rfl | rfl | rfl | rfl | rfl | rfl
  · exact List.mem_of_getElem? (i := 0) (by kernel_rfl)
  · exact List.mem_of_getElem? (i := 1) (by kernel_rfl)
  · exact List.mem_of_getElem? (i := 2) (by kernel_rfl)
  · exact List.mem_of_getElem? (i := 3) (by kernel_rfl)
  · exact List.mem_of_getElem? (i := 4) (by kernel_rfl)
  · exact List.mem_of_getElem? (i := 5) (by kernel_rfl)
  · exact List.mem_of_getElem? (i := 6) (by kernel_rfl)
  · exact List.mem_of_getElem? (i := 7) (by kernel_rfl)
  · exact List.mem_of_getElem? (i := 8) (by kernel_rfl)
  · exact List.mem_of_getElem? (i := 9) (by kernel_rfl)
  · exact List.mem_of_getElem? (i := 10) (by kernel_rfl)
  · exact List.mem_of_getElem? (i := 11) (by kernel_rfl)
  · exact List.mem_of_getElem? (i := 12) (by kernel_rfl)
/-- a program that has the defs and the tables of the text -/
structure Like (p : Program) (loose : List Str) : Prop where
  recs : recsOf p = recsOf P0
  steps : tupIntsOf p (Str.ofString "_law_steps") = some [1, 1, 1, 2, 3, 0]
  weights : tupIntsOf p (Str.ofString "_law_weights") = some [1, 2, 1, 0, -1, 3]
  sizes : tupIntsOf p (Str.ofString "_law_sizes") = some [5, 4, 5, 2, 0, 5]
  free : (theBuiltins.all fun x => !startupNames.contains x && !loose.contains x && !((recsOf p).map (·.name)).contains x && !((litsOf p).map (·.1)).contains x && !((clssOf p loose).map (·.name)).contains x) = true
section
variable {p : Program} {loose : List Str} {mean : ExcName → Option Value} {mg mb : Str → Option Value} {h : Heap} {w : World} {X : List Addr}
theorem ns_hide {a : Addr} {m : Str → Option Value} (up : ∀ b o, h.get? b = some o → o.data ≠ .fields #[] → (hide h X).get? b = some o) (x : h.Ns a m) : (hide h X).Ns a m := by
  obtain ⟨o, es, ep, ho, hd, r⟩ := x
  exact ⟨o, es, ep, up _ _ ho (by rw [hd]; nofun), hd, r⟩
theorem up_of (hX : ∀ a ∈ X, h.get? a = some { cls := .none, data := .fields #[] }) : ∀ b o, h.get? b = some o → o.data ≠ .fields #[] → (hide h X).get? b = some o := by
  intro b o e n
  rw [hide_get, if_neg (fun q => by rw [hX b q] at e; cases e; exact n rfl)]; exact e
theorem code_hide {cd : Value} {q : Str} (up : ∀ b o, h.get? b = some o → o.data ≠ .fields #[] → (hide h X).get? b = some o) (x : h.CodeRec cd q) : (hide h X).CodeRec cd q := by
  obtain ⟨c, o, vs, t, e1, ho, hd, hv⟩ := x
  exact ⟨c, o, vs, t, e1, up _ _ ho (by rw [hd]; intro q; cases q; simp at hv), hd, hv⟩
theorem cx_of (T : Top p loose mean mg mb h) (B : Tables p w mg h) (ok : Like p loose) (hX : ∀ a ∈ X, h.get? a = some { cls := .none, data := .fields #[] }) : Cx mg mb (hide h X) ∧ BM mg (hide h X) := by
  have up := up_of hX
  have tup : ∀ {x : Str} {ns : List Int}, tupIntsOf p x = some ns → ∃ a, mg x = some (.ref a) ∧ IntTup (hide h X) a ns := by
    intro x ns hx
    obtain ⟨a, vs, h1, ⟨o, ho, hc, n, hd⟩, h3⟩ := B.tupI _ _ hx
    exact ⟨a, h1, vs, ⟨o, up _ _ ho (by rw [hd]; nofun), hc, n, hd⟩, h3⟩
  constructor
  · refine ⟨ns_hide up T.g, ns_hide up T.b, ?_, T.builtins, ?_, ?_, tup ok.steps, tup ok.weights, tup ok.sizes⟩
    · obtain ⟨mc, h1, h2⟩ := T.nolimit
      exact ⟨mc, ns_hide up h1, h2⟩
    · intro i hi
      obtain ⟨a, o, pm, code, doc, h1, ho, hd, hc⟩ := T.fn _ (ok.recs ▸ rec_mem i hi)
      exact ⟨a, h1, o, pm, code, doc, up _ _ ho (by rw [hd]; nofun), hd, code_hide up hc⟩
    · intro x hx
      have := List.all_eq_true.mp ok.free x hx
      simp only [Bool.and_eq_true, Bool.not_eq_true', List.contains_eq_mem, decide_eq_false_iff_not] at this
      exact T.free x this.1.1.1.1 this.1.1.1.2 this.1.1.2 this.1.2 this.2
  · obtain ⟨bm, ob, a, b, c, d, e, f⟩ := T.bmain
    exact ⟨bm, ob, ns_hide up T.g, a, b, up _ _ c (by rw [f]; nofun), d, e, f⟩
/-- a def of the text, its code and its table -/
theorem fn_tab (T : Top p loose mean mg mb h) (ok : Like p loose) {i : Nat} (hi : i ∈ theDefs) : ∃ f c P, mg (defAt i).name = some (.ref f) ∧ FnC h f (defAt i) c ∧ Tab h c P #[] := by
  obtain ⟨a, o, pm, code, doc, h1, ho, hd, hc⟩ := T.fn _ (ok.recs ▸ rec_mem i hi)
  obtain ⟨a', o', fd, c, P, h1', ho', hd', hfc, hco, hta⟩ := T.tab _ (ok.recs ▸ rec_mem i hi)
  rw [h1] at h1'; cases h1'
  rw [ho] at ho'; cases ho'
  rw [hd] at hd'; cases hd'
  have e : code = .ref c := hfc
  subst e
  exact ⟨a, c, P, h1, ⟨o, pm, doc, ho, hd, hc⟩, hco, hta⟩
theorem fnC_hide {f c : Addr} {d : DefRec} (up : ∀ b o, h.get? b = some o → o.data ≠ .fields #[] → (hide h X).get? b = some o) (x : FnC h f d c) : FnC (hide h X) f d c := by
  obtain ⟨o, pm, doc, ho, hd, hc⟩ := x
  exact ⟨o, pm, doc, up _ _ ho (by rw [hd]; nofun), hd, code_hide up hc⟩
theorem tab_code_ne {c P c' P' : Addr} {ps ps' : Array Value} (x : Tab h c P ps) (y : Tab h c' P' ps') : c ≠ P' := by
  rintro rfl
  obtain ⟨o, vs, e, hc, _⟩ := x.2.1
  rw [y.2.2] at e; cases e; cases hc
end

-- 59_call.lean
-- needs: 01 02 03 04 05 06 07 08 09 10 11 12 13 14 15 16 17 18 19 20 21 22 23 24 25 26 27 28 29 30 31 32 33 40 41 42 43 44 45 50 51 52 53 54 55 56 57 58
section
variable {prog p : Program} {loose : List Str} {mean : ExcName → Option Value} {mg mb : Str → Option Value} {w : World} {s : Shared} {A : Around} {E : Value → Shared → Prop}
theorem law_call {Q : Value → Shared → Prop} {fl fw cl Pl cw Pw lsc : Addr} {vs : List Value} {ns : List Int} (T : Top p loose mean mg mb s.heap) (B : Tables p w mg s.heap) (ok : Like p loose)
    (hfl : FnC s.heap fl dLaw cl) (htl : Tab s.heap cl Pl #[]) (hmw : mg (Str.ofString "_law_way") = some (.ref fw)) (hfw : FnC s.heap fw dWay cw) (htw : Tab s.heap cw Pw #[]) (hne : Pl ≠ Pw)
    (hsc : s.heap.IsList lsc vs.toArray) (hnv : IntsAre vs ns) (hfit : (vs.length : Int) < 2 ^ 63) (hg : AllBare s.gens) (hh : A.handled = none) (hfr : A.frames = some []) (hroom : A.depth + 3 < recursionLimit) (hu : A.units + 40 < cLine)
    (hQ : ∀ s', OldK s.heap s'.heap → s'.os = s.os → AllBare s'.gens → Q (.bool true) s') :
    wpAny (model prog w) A (call (.ref fl) [.ref lsc]) Q E s := by
  have hX : ∀ a ∈ [Pl, Pw], s.heap.get? a = some { cls := .none, data := .fields #[] } := by
    intro a ha
    simp only [List.mem_cons, List.not_mem_nil, or_false] at ha
    rcases ha with rfl | rfl
    · exact htl.2.2
    · exact htw.2.2
  obtain ⟨C, BMm⟩ := cx_of T B ok hX
  have up := up_of hX
  have hg0 : Le (hide s.heap [Pl, Pw]) s.heap := hide_le _ _
  have hscg : (hide s.heap [Pl, Pw]).IsList lsc vs.toArray := by
    obtain ⟨o, ho, hc, n, hd⟩ := hsc
    exact ⟨o, up _ _ ho (by rw [hd]; nofun), hc, n, hd⟩
  have hcw := fnC_hide up hfw
  obtain ⟨o, pm, doc, ho, hd, hc⟩ := hfl
  refine wpAny_call (call_plain_ret (binds := [(Str.ofString "script", .ref lsc)]) (by walk_at "om") ho hd (C.lim.keeps hg0) hc (by rfl) (locs (by rfl)) (fun h₁ F => ?_) (by rfl) (by rfl) (by rfl) (by decide))
  have offL : s.heap.get? s.heap.objs.size = none := Heap.get?_none_of_le (Nat.le_refl _)
  have X : LS mg mb s.heap.objs.size cl Pl cw Pw #[] #[] s (hide s.heap [Pl, Pw]) _ { s with heap := h₁, toks := s.toks + 1 } :=
    { hns := F.ns, hle := hg0.trans F.keep, offG := none_back hg0 offL, offl := hide_off _ _ _ (by simp), offw := hide_off _ _ _ (by simp), C := C, B := BMm, tl := ⟨_, htl.le F.keep, Grown.rfl⟩, tw := ⟨_, htw.le F.keep, Grown.rfl⟩, ap := ⟨hne, tab_code_ne htl htl, tab_code_ne htl htw, tab_code_ne htw htl, tab_code_ne htw htw⟩, newL := offL, bare := hg, kb := KB.of_le F.keep, os := rfl }
  refine law1 (lsc := lsc) hh (by show A.depth + 1 + 2 < _; omega) (by show A.units + 3 + 30 < _; omega) (by show A.frames.map _ = _; rw [hfr]; rfl) hmw X hcw hscg hnv hfit (by rfl) (fun s' g' m' X' => ?_) (by passes_own)
  refine hQ s' ⟨fun b ob e => ?_, fun b ob e => ?_⟩ X'.os X'.bare
  · by_cases h1 : b = Pl
    · subst h1
      obtain ⟨ps, t, more, e2⟩ := X'.tl
      rw [htl.2.2] at e; cases e
      exact .inr (.inl ⟨htl.2.isCodeTable, rfl, #[], more, rfl, by rw [← e2]; exact t.2.2⟩)
    · by_cases h2 : b = Pw
      · subst h2
        obtain ⟨ps, t, more, e2⟩ := X'.tw
        rw [htw.2.2] at e; cases e
        exact .inr (.inl ⟨htw.2.isCodeTable, rfl, #[], more, rfl, by rw [← e2]; exact t.2.2⟩)
      · exact .inl (X'.kb b ob (by simp [h1, h2]) e)
  · by_cases h1 : b = Pl
    · subst h1
      obtain ⟨ps, t, _⟩ := X'.tl
      exact ⟨_, t.2.2⟩
    · by_cases h2 : b = Pw
      · subst h2
        obtain ⟨ps, t, _⟩ := X'.tw
        exact ⟨_, t.2.2⟩
      · exact ⟨_, X'.kb b ob (by simp [h1, h2]) e⟩
end

-- 60_apart.lean
-- needs: 01 02 03 04 05 06 07 08 09 10 11 12 13 14 15 16 17 18 19 20 21 22 23 24 25 26 27 28 29 30 31 32 33 40 41 42 43 44 45 50 51 52 53 54 55 56 57 58
/-- the table of a def, read off the written heap -/
def codeIn (K : Addr → Option Obj) (x : Str) : Option Addr := match K mainGlobals with
  | some ⟨_, _, .dict es _, _⟩ => (match nsFind es x with
    | some (.ref f) => (match K f with
      | some ⟨_, _, .func fd, _⟩ => (match fd.code with
        | .ref c => some c
        | _ => none)
      | _ => none)
    | _ => none)
  | _ => none
def tabIn (K : Addr → Option Obj) (x : Str) : Option Addr := match codeIn K x with
  | some c => (match K c with
    | some ⟨_, _, .fields vs, _⟩ => (match (vs[11]? : Option Value) with
      | some (Value.ref P) => some P
      | _ => none)
    | _ => none)
  | none => none
def apartIn (K : Addr → Option Obj) (x y : Str) : Bool := match tabIn K x, tabIn K y with
  | some p, some q => p != q
  | _, _ => false
section
variable {K : Addr → Option Obj} {h : Heap} {mg : Str → Option Value} {x : Str} {f c P : Addr} {d : DefRec} {ps : Array Value}
theorem codeIn_eq (hK : ∀ a o, K a = some o → h.get? a = some o) (hg : h.Ns mainGlobals mg) (hm : mg x = some (.ref f)) (hf : FnC h f d c) {c' : Addr} (e : codeIn K x = some c') : c = c' := by
  unfold codeIn at e
  split at e
  · rename_i es ep sl hl
    obtain ⟨o, es', ep', ho, hd, _, hn⟩ := hg
    rw [hK _ _ hl] at ho; cases ho; cases hd
    rw [hn x, hm] at e
    (try dsimp only at e)
    split at e
    · rename_i fd sl' hl'
      obtain ⟨o, pm, doc, ho, hd, hc⟩ := hf
      rw [hK _ _ hl'] at ho; cases ho
      have hd : PySem.Data.func fd = _ := hd
      cases hd
      (try dsimp only at e)
      cases e; rfl
    · cases e
  · cases e
theorem tabIn_eq (hK : ∀ a o, K a = some o → h.get? a = some o) (hg : h.Ns mainGlobals mg) (hm : mg x = some (.ref f)) (hf : FnC h f d c) (ht : Tab h c P ps) {P' : Addr} (e : tabIn K x = some P') : P = P' := by
  unfold tabIn at e
  split at e
  · rename_i c' hc'
    have := codeIn_eq hK hg hm hf hc'
    subst this
    split at e
    · rename_i vs sl hl
      obtain ⟨o, vs', ho, _, hd, hv⟩ := ht.2.1
      rw [hK _ _ hl] at ho; cases ho; cases hd
      rw [hv] at e
      cases e; rfl
    · cases e
  · cases e
theorem apart_of {y : Str} {f' c' P' : Addr} {d' : DefRec} {ps' : Array Value} (hK : ∀ a o, K a = some o → h.get? a = some o) (hg : h.Ns mainGlobals mg) (hm : mg x = some (.ref f)) (hf : FnC h f d c) (ht : Tab h c P ps)
    (hm' : mg y = some (.ref f')) (hf' : FnC h f' d' c') (ht' : Tab h c' P' ps') (e : apartIn K x y = true) : P ≠ P' := by
  unfold apartIn at e
  split at e
  · rename_i p q h1 h2
    rw [tabIn_eq hK hg hm hf ht h1, tabIn_eq hK hg hm' hf' ht' h2]
    simpa using e
  · cases e
end

-- 61_head.lean
-- needs: 01 02 03 04 05 06 07 08 09 10 11 12 13 14 15 16 17 18 19 20 21 22 23 24 25 26 27 28 29 30 31 32 33 40 41 42 43 44 45 50 51 52 53 54 55 56 57 58 59 60
theorem law_head {prog p : Program} {loose : List Str} {mean : ExcName → Option Value} {mg mb : Str → Option Value} {w : World} {s : Shared} {E : Value → Shared → Prop} {Q : Value → Shared → Prop} {K : Addr → Option Obj} {fa lsc : Addr} {vs : List Value} {ns : List Int}
    (T : Top p loose mean mg mb s.heap) (B : Tables p w mg s.heap) (ok : Like p loose) (hK : ∀ a o, K a = some o → s.heap.get? a = some o) (hap : apartIn K (Str.ofString "law") (Str.ofString "_law_way") = true)
    (hmg : mg (Str.ofString "law") = some (.ref fa)) (hg : s.gens = #[]) (hL : s.heap.IsList lsc vs.toArray) (hI : IntsAre vs ns) (hlen : ¬ (63 : Int) < ns.length)
    (hQ : ∀ s', OldK s.heap s'.heap → s'.os = s.os → AllBare s'.gens → Q (.bool true) s') : wpAny (model prog w) callerA (call (.ref fa) [.ref lsc]) Q E s := by
  obtain ⟨fl, cl, Pl, m1, f1, t1⟩ := fn_tab T ok (i := 17) (by decide)
  obtain ⟨fw, cw, Pw, m2, f2, t2⟩ := fn_tab T ok (i := 13) (by decide)
  have e : fl = fa := by
    have h1 : mg (Str.ofString "law") = some (.ref fl) := m1
    rw [hmg] at h1; cases h1; rfl
  subst e
  have hne := apart_of hK T.g m1 f1 t1 m2 f2 t2 hap
  exact law_call T B ok f1 t1 m2 f2 t2 hne hL hI (by have := hI.length; omega) (by rw [hg]; intro y hy; simp at hy) rfl rfl (by decide) (by decide) hQ

end Mine
open PySem PySem.W PyProof.Rows
namespace Mine
/-- what the end of the top shows: the code tables of law and of its helper lie apart -/
def apHook : Hook := ⟨Bool, fun s => apartIn s.heap.get? (Str.ofString "law") (Str.ofString "_law_way"), fun _ => true, fun _ h => ∃ h₀ : Heap, (∀ b o, h₀.get? b = some o → h.get? b = some o) ∧ apartIn h₀.get? (Str.ofString "law") (Str.ofString "_law_way") = true,
  fun _ s e => ⟨s.heap, fun _ _ q => q, e⟩, fun _ _ _ ⟨h₀, k, e⟩ l => ⟨h₀, fun b o q => l b o (k b o q), e⟩⟩
/-- the text without its two rows that set a name -/
def q0 : Program := view P0 [1, 2, 3, 4, 5, 7, 8, 9, 10, 11, 12, 13, 14, 15, 16, 17]
theorem like0 : Like q0 (looseW q0 []) := ⟨by kernel_rfl, by kernel_rfl, by kernel_rfl, by kernel_rfl, by kernel_rfl⟩
theorem said0 : OpenLaw.wellSaid PySem.Challenge.rw_sx_zatlas_4 = true := by
  unfold OpenLaw.wellSaid OpenRow.wellSaid OpenRow.partSaid looksOpen
  repeat' (with_reducible refine Bool.and_eq_true_iff.mpr ⟨?_, ?_⟩)
  all_goals decide +kernel
theorem left0 : LeftO PySem.Challenge.rw_sx_zatlas_4.row.prog q0 [] (fun s => xlAt q0 [] s && recOk (RowW.records (OpenRow.toRowW PySem.Challenge.rw_sx_zatlas_4.row)) s) (Hook.obs apHook) (Hook.val apHook) 1090 := by intro w; kernel_rfl
end Mine
set_option maxRecDepth 100000 in
set_option maxHeartbeats 8000000 in
theorem PySem.Challenge.cw_sx_zatlas_4_holds : PySem.Challenge.rw_sx_zatlas_4.Holds := by
  w_on
  refine holds_law Mine.said0 fun said => ?_
  refine holds_open (q := Mine.q0) (d := Mine.dLaw) (kwd := []) (loose := []) (Xt := fun s => xlAt Mine.q0 [] s && recOk (RowW.records (OpenRow.toRowW PySem.Challenge.rw_sx_zatlas_4.row)) s) (XP := XL Mine.q0 []) (Yf := Hook.obs Mine.apHook) (Ya := Hook.val Mine.apHook) (YP := Hook.says Mine.apHook) (N := 1090) ?hl (Hook.of Mine.apHook) (Hook.keeps Mine.apHook) (fun s e => xl_of s (Bool.and_eq_true_iff.mp e).1) XL.keeps (by kernel_rfl) (by kernel_rfl) (by kernel_rfl) (fun s e => recFacts_of (Bool.and_eq_true_iff.mp e).2) (by rfl) (by first | assumption | decide +kernel) (by decide +kernel) ⟨rfl, rfl, rfl, rfl, rfl, by decide +kernel⟩ ?hw ?hc
  case hl => exact Mine.left0
  case hw => w_witness2
  intro w s₀ s₁ mg mb G Y fa o pm cd doc dV kV ho hd hcd hD hmg hg args vals as hpre hlay hrd hwl hlo
  have T := G.T
  have B := G.B
  clear ho hd hcd hD
  obtain ⟨h₀, hK, hap⟩ := Y
  wrow_args hpre hlay hrd hwl hlo
  refine Mine.law_head T B Mine.like0 hK hap hmg hg (by assumption) (by assumption) (by assumption) fun s' hold hos hb => ?_
  refine ⟨.inl ⟨.bool true, .bool true, [], rfl, raisesW_false ?_, ReadsW.bool _, ?_, fun _ => ⟨List.nodup_nil, nofun⟩⟩, hold, hos, hb⟩
  · wrow_none_raised
  · wrow_post
