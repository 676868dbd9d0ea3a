import PyProof.Rows.All
import Wide.All
import OpenK.AllK
import Wide.FinOn
import PySem.Challenge.RW_oj0013_01
open PySem PySem.W PyProof.Rows
set_option Elab.async false
namespace Mine
set_option maxRecDepth 100000 in
set_option maxHeartbeats 8000000 in
open_top hd for PySem.Challenge.rw_oj0013_01

/-- a place where the walk is to stand still -/
def Halt (p : Prop) : Prop := p
theorem halt {p : Prop} (h : Halt p) : p := h
theorem go_on {p : Prop} (h : p) : Halt p := h

/-- the contract of `_law_draw`: some number below `many`; the deck's counter goes up by one; all else stands -/
def DrawTells (prog : Program) (w : World) (K : Frag) (p : Program) (loose : List Str) (mean : ExcName → Option Value) (mg mb : Str → Option Value) : Prop :=
  ∀ (dp un : Nat) (gd : Option (List Code)) (cn : Str) (cs : Scope) (L a : Addr) (ccd : Value) (cl : List (Str × Addr)) (outer : List Env) (A₀ : Around) (base h₀ : Heap) (m : Str → Option Value) (rest : List (Addr × Obj)) (s : Shared)
    (dk D : Addr) (ys : List Value) (ns : List Int) (k : Int) (t : Tok) (n : Nat) (many : Int) (tm : Tok) (Q E : Value → Shared → Prop),
    Below A₀ base outer h₀ → Fr h₀ L s.heap m → K.In h₀ → News h₀ L s.heap ((dk, listOf #[.ref D, .int k t] n) :: (D, PyProof.Rows.LCg.lst ys) :: rest) → Top p loose mean mg mb h₀ → cs.kind = .function →
    IntsAre ys ns → ns.length ≤ 63 → 0 ≤ k → k < 1000 → 0 < many → many < 100 → OwnOff ((D, PyProof.Rows.LCg.lst ys) :: rest) [dk] → dp + 5 < recursionLimit → un + 100 < cLine →
    (∀ (r : Int) (tr t' : Tok) (h' : Heap) (tk' : Nat), 0 ≤ r → r < many → Fr h₀ L h' m → News h₀ L h' ((dk, listOf #[.ref D, .int (k + 1) t'] n) :: (D, PyProof.Rows.LCg.lst ys) :: rest) → Q (.int r tr) { s with heap := h', toks := tk' }) →
    wpAny (model prog w) (ktrTop dp un gd cn cs L a ccd cl outer) (PySem.call (.ref 77) [.ref dk, .int many tm]) Q E s

section
variable {prog : Program} {w : World} {A : Around} {E : Value → Shared → Prop} {s : Shared} {env : Env} {h₀ : Heap} {x : Str} {body : List Stmt} {Q : Flow → Shared → Prop}

/-- a loop over a range, by what holds ahead of each turn -/
theorem rest_inv {I : Addr} {a c : Int} {n : Nat} (J : Nat → (Str → Option Value) → List (Addr × Obj) → Prop)
    (turn : ∀ i m news t h tk oI, i < n → J i m news → oI.cls = .type "range_iterator" → Fr h₀ env.locals h (fun y => if y = x then some (.int (a + (i : Int) * c) t) else m y) → News h₀ env.locals h ((I, oI) :: news) →
      wpAny (model prog w) A (execs body env) (UnrPost h₀ env.locals { s with heap := h, toks := tk } I oI (J (i + 1)) Q) E { s with heap := h, toks := tk })
    (done : ∀ m news h tk, J n m news → Fr h₀ env.locals h m → News h₀ env.locals h news → Q .next { s with heap := h, toks := tk }) :
    ∀ k i m news, i + k = n → J i m news → KrsRest prog w A E h₀ env x body Q s I a c n k i m news := by
  intro k
  induction k with
  | zero =>
    intro i m news hi hJ h tk F N
    have e : i = n := by omega
    subst e
    exact done m news h tk hJ F N
  | succ k ih =>
    intro i m news hi hJ
    refine KrsRest.succ rfl ?_
    intro t h tk F N
    refine wpAny_mono (turn i m news t h tk _ (by omega) hJ rfl F N) (fun f s₂ p => ?_) fun _ _ e => e
    have up : UnrEnd h₀ env.locals { s with heap := h, toks := tk } I (krsIt (a + ((i + 1 : Nat) : Int) * c) ((n : Int) - ((i + 1 : Nat) : Int)) c) (J (i + 1)) s₂ →
        UnrEnd h₀ env.locals { s with heap := h, toks := tk } I (krsIt (a + ((i + 1 : Nat) : Int) * c) ((n : Int) - ((i + 1 : Nat) : Int)) c) (KrsRest prog w A E h₀ env x body Q s I a c n k (i + 1)) s₂ := by
      rintro ⟨h', tk', m', news', e, F', N', ho, hJ'⟩
      exact ⟨h', tk', m', news', e, F', N', ho, ih (i + 1) m' news' (by omega) hJ'⟩
    cases f with
    | ret v => exact p
    | brk => exact p
    | next => exact up p
    | cont => exact up p
end

/-- what the law's story holds: an event, or the mark of a command that is over -/
inductive StoryAre : List Value → List (Option Int) → Prop
  | nil : StoryAre [] []
  | mark {vs st} : StoryAre vs st → StoryAre (.none :: vs) (none :: st)
  | ev {vs st} (i : Int) (t : Tok) : StoryAre vs st → StoryAre (.int i t :: vs) (some i :: st)
theorem StoryAre.length {vs : List Value} {st : List (Option Int)} (h : StoryAre vs st) : vs.length = st.length := by
  induction h with
  | nil => rfl
  | mark _ ih => rw [List.length_cons, List.length_cons, ih]
  | ev _ _ _ ih => rw [List.length_cons, List.length_cons, ih]
theorem StoryAre.append {vs ws : List Value} {st su : List (Option Int)} (h : StoryAre vs st) (k : StoryAre ws su) : StoryAre (vs ++ ws) (st ++ su) := by
  induction h with
  | nil => exact k
  | mark _ ih => exact .mark ih
  | ev i t _ ih => exact .ev i t ih
theorem StoryAre.get {vs : List Value} {st : List (Option Int)} (h : StoryAre vs st) : ∀ {k : Nat}, k < st.length → (vs[k]? = some .none ∧ st[k]? = some none) ∨ ∃ i t, vs[k]? = some (.int i t) ∧ st[k]? = some (some i) := by
  induction h with
  | nil => intro k hk; exact absurd hk (Nat.not_lt_zero _)
  | mark _ ih =>
    intro k hk
    cases k with
    | zero => exact .inl ⟨rfl, rfl⟩
    | succ k => simpa using ih (Nat.lt_of_succ_lt_succ hk)
  | ev i t _ ih =>
    intro k hk
    cases k with
    | zero => exact .inr ⟨i, t, rfl, rfl⟩
    | succ k => simpa using ih (Nat.lt_of_succ_lt_succ hk)
theorem StoryAre.take {vs : List Value} {st : List (Option Int)} (h : StoryAre vs st) (k : Nat) : StoryAre (vs.take k) (st.take k) := by
  induction h generalizing k with
  | nil => simpa using StoryAre.nil
  | mark _ ih =>
    cases k with
    | zero => exact .nil
    | succ k => exact .mark (ih k)
  | ev i t _ ih =>
    cases k with
    | zero => exact .nil
    | succ k => exact .ev i t (ih k)

/-- one behind the last mark -/
def lastOf (st : List (Option Int)) : Nat := st.foldl (fun (p : Nat × Nat) o => (p.1 + 1, if o = none then p.1 + 1 else p.2)) (0, 0) |>.2
/-- the events that are sure -/
def sureOf (st : List (Option Int)) : List Int := (st.take (lastOf st)).filterMap id

theorem lastPair (st : List (Option Int)) : st.foldl (fun (p : Nat × Nat) o => (p.1 + 1, if o = none then p.1 + 1 else p.2)) (0, 0) = (st.length, lastOf st) := by
  have h1 : ∀ (st : List (Option Int)) (p : Nat × Nat), (st.foldl (fun (p : Nat × Nat) o => (p.1 + 1, if o = none then p.1 + 1 else p.2)) p).1 = p.1 + st.length := by
    intro st
    induction st with
    | nil => intro p; rfl
    | cons o r ih => intro p; rw [List.foldl_cons, ih, List.length_cons]; dsimp only; omega
  refine Prod.ext ?_ rfl
  rw [h1]; simp
theorem lastOf_nil : lastOf [] = 0 := rfl
theorem lastOf_none (st : List (Option Int)) : lastOf (st ++ [none]) = st.length + 1 := by
  unfold lastOf
  rw [List.foldl_append, lastPair]; rfl
theorem lastOf_some (st : List (Option Int)) (i : Int) : lastOf (st ++ [some i]) = lastOf st := by
  unfold lastOf
  rw [List.foldl_append, lastPair]; rfl
theorem snocInd {α : Type} {P : List α → Prop} (h0 : P []) (h1 : ∀ l a, P l → P (l ++ [a])) (l : List α) : P l := by
  have : ∀ l : List α, P l.reverse := by
    intro l
    induction l with
    | nil => exact h0
    | cons a r ih => rw [List.reverse_cons]; exact h1 _ _ ih
  simpa using this l.reverse
theorem lastOf_le (st : List (Option Int)) : lastOf st ≤ st.length := by
  refine snocInd (P := fun st => lastOf st ≤ st.length) (Nat.le_refl _) (fun st o ih => ?_) st
  cases o with
  | none => rw [lastOf_none, List.length_append]; exact Nat.le_refl _
  | some i => rw [lastOf_some, List.length_append]; exact Nat.le_trans ih (Nat.le_add_right _ _)
theorem sureOf_none (st : List (Option Int)) : sureOf (st ++ [none]) = st.filterMap id := by
  unfold sureOf
  rw [lastOf_none, List.take_of_length_le (by rw [List.length_append]; exact Nat.le_refl _), List.filterMap_append]
  simp
theorem sureOf_some (st : List (Option Int)) (i : Int) : sureOf (st ++ [some i]) = sureOf st := by
  unfold sureOf
  rw [lastOf_some, List.take_append_of_le_length (lastOf_le st)]
theorem sure_cut {ai ev : List Int} {st : List (Option Int)} {sv : Int} (he : ev = ai ++ st.filterMap id) (hs : sv = ((ai ++ sureOf st).length : Int)) : ev.take sv.toNat = ai ++ sureOf st := by
  have h1 : sureOf st <+: st.filterMap id := by
    unfold sureOf
    exact (List.take_prefix _ _).filterMap id
  obtain ⟨r, h2⟩ := h1
  subst he hs
  rw [Int.toNat_natCast, ← h2, ← List.append_assoc, List.take_append_of_le_length (Nat.le_refl _), List.take_length]
theorem sureOf_prefix (st : List (Option Int)) : sureOf st <+: st.filterMap id := by
  unfold sureOf
  exact (List.take_prefix _ _).filterMap id

section
variable {prog : Program} {w : World} {A : Around} {E : Value → Shared → Prop} {s : Shared} {h₀ h : Heap} {L : Addr} {m₁ : Str → Option Value} {news : List (Addr × Obj)}
theorem fr_turn {x : Str} {v : Value} (ps : List (Str × Value)) (h1 : ∀ p ∈ ps, m₁ p.1 = some p.2) (F : Fr h₀ L h (fun y => if y = x then some v else m₁ y)) : Fr h₀ L h (fun y => if y = x then some v else kstB m₁ ps y) := by
  have e : (fun y => if y = x then some v else kstB m₁ ps y) = fun y => if y = x then some v else m₁ y := by
    funext y
    rw [kstB_eq (m₁ := m₁) (rest := m₁) h1 fun _ => rfl]
  rw [e]; exact F
theorem fr_done (ps : List (Str × Value)) (h1 : ∀ p ∈ ps, m₁ p.1 = some p.2) (F : Fr h₀ L h m₁) : Fr h₀ L h (kstB m₁ ps) := by
  have e : kstB m₁ ps = m₁ := by
    funext y
    exact kstB_eq h1 fun _ => rfl
  rw [e]; exact F
theorem len_made2 {l : Addr} {vs : List Value} {n : Nat} {Q : Value → Shared → Prop} (N : News h₀ L s.heap news) (hm : (l, listOf vs.toArray n) ∈ news) (hz : vs.length ≤ 100)
    (hq : Q (.int (vs.length : Int) (s.toks + 1)) { s with toks := s.toks + 1 + 1 }) : wpAny (model prog w) A (PySem.call (.builtin "len") [.ref l]) Q E s := by
  refine len_list (News.isList N hm) (by rw [List.size_toArray]; omega) ?_
  rw [List.size_toArray]; exact hq
theorem tuple_ints {l : Addr} {vs : List Value} {ns : List Int} {n : Nat} {m : Str → Option Value} {Q : Value → Shared → Prop} (F : Fr h₀ L s.heap m) (N : News h₀ L s.heap news) (hm : (l, listOf vs.toArray n) ∈ news) (hi : IntsAre vs ns) (hz : ns.length ≤ 100)
    (h : ∀ D h', Fr h₀ L h' m → News h₀ L h' ((D, ({ cls := .type "tuple", data := .seq vs.toArray } : Obj)) :: news) → (∀ p ∈ news, p.1 < D) → Q (.ref D) { s with heap := h' }) : wpAny (model prog w) A (PySem.call (.type "tuple") [.ref l]) Q E s :=
  kde_tupleOf F N (News.isList N hm) (by rw [List.size_toArray, hi.length]; omega) List.toList_toArray h
theorem shaped_tuple (ns : List Int) : SeqAt.shaped (.tuple (ns.map PyData.int)) = true := by
  have h1 := PySem.W.depthAll_ints ns
  have h2 : PyData.depth (.tuple (ns.map PyData.int)) ≤ 64 := by simp only [PyData.depth]; omega
  show (PyData.canLay0 (.tuple (ns.map PyData.int)) && decide (PyData.depth (.tuple (ns.map PyData.int)) ≤ 64)) = true
  rw [Bool.and_eq_true]
  exact ⟨by simp only [PyData.canLay0]; exact canLayAll0_ints ns, decide_eq_true h2⟩
theorem reads_tuple_ints {h : Heap} {a : Addr} {vs : List Value} {ns : List Int} {n : Nat} (N : News h₀ L h news) (hm : (a, ({ cls := .type "tuple", data := .seq vs.toArray n } : Obj)) ∈ news) (hi : IntsAre vs ns) : Reads h (.ref a) (.tuple (ns.map PyData.int)) [] :=
  reads_tuple_at (News.get N hm) rfl rfl (by simpa using readsAll_of_ints hi)
theorem ne_tuples {a b : Addr} {vs us : List Value} {ns ms : List Int} {n n' : Nat} {Q : Value → Shared → Prop} (N : News h₀ L s.heap news) (h1 : (a, ({ cls := .type "tuple", data := .seq vs.toArray n } : Obj)) ∈ news) (h2 : (b, ({ cls := .type "tuple", data := .seq us.toArray n' } : Obj)) ∈ news)
    (hi : IntsAre vs ns) (hj : IntsAre us ms) (he : ns = ms) (hu : A.units + 64 < cLine) (h : Q (.bool false) s) : wpAny (model prog w) A (compareOp .NotEq (.ref a) (.ref b)) Q E s :=
  ne_dataH_same (reads_tuple_ints N h1 hi) (reads_tuple_ints N h2 hj) (shaped_tuple ns) (shaped_tuple ms) hu (by simp only [SeqAt.noMix]; exact noMix_ints ns ms) (by simp only [PySem.Spec.same]; rw [same_ints]; simpa [he] using h)
theorem eq_tuples {a b : Addr} {vs us : List Value} {ns ms : List Int} {n n' : Nat} {Q : Value → Shared → Prop} (N : News h₀ L s.heap news) (h1 : (a, ({ cls := .type "tuple", data := .seq vs.toArray n } : Obj)) ∈ news) (h2 : (b, ({ cls := .type "tuple", data := .seq us.toArray n' } : Obj)) ∈ news)
    (hi : IntsAre vs ns) (hj : IntsAre us ms) (he : ns = ms) (hu : A.units + 64 < cLine) (h : Q (.bool true) s) : wpAny (model prog w) A (compareOp .Eq (.ref a) (.ref b)) Q E s :=
  eq_dataH_same (reads_tuple_ints N h1 hi) (reads_tuple_ints N h2 hj) (shaped_tuple ns) (shaped_tuple ms) hu (by simp only [SeqAt.noMix]; exact noMix_ints ns ms) (by simp only [PySem.Spec.same]; rw [same_ints]; simpa [he] using h)
theorem story_item {value slice : PySem.Expr} {l : Addr} {vs : List Value} {st : List (Option Int)} {n : Nat} {k : Int} {u : Tok} {Q : Value → Shared → Prop} (N : News h₀ L s.heap news) (hm : (l, listOf vs.toArray n) ∈ news) (hst : StoryAre vs st)
    (h0 : 0 ≤ k) (hk : k < (st.length : Int)) (hz : st.length ≤ 100) (hn : st[k.toNat]? = some none → Q .none s) (he : ∀ i t, st[k.toNat]? = some (some i) → Q (.int i t) s)
    (hs : subscripted slice false (.ref l) (.int k u) = operate [.ref l, .int k u] (getItem (.ref l) (.int k u))) (hg : ∀ r, letTemporaryGo value (.ref l) r = pure ()) :
    wpAny (model prog w) A (subscriptTail value slice (.ref l) (.int k u)) Q E s := by
  have hb : k.toNat < st.length := by omega
  rcases hst.get hb with ⟨h1, h2⟩ | ⟨i, t, h1, h2⟩
  · exact item_list (News.isList N hm) h0 (by omega) (by simpa using h1) (hn h2) hs hg
  · exact item_list (News.isList N hm) h0 (by omega) (by simpa using h1) (he i t h2) hs hg
end

section
variable {prog : Program} {w : World} {A : Around} {s : Shared} {h₀ : Heap} {L : Addr} {m : Str → Option Value} {env : Env} {news : List (Addr × Obj)}
open PyProof.Rows.LCg PyProof.Rows.LCt
/-- a comprehension with a test, by what holds of the items kept so far -/
theorem restT_inv {ct elt : PySem.Expr} {x : Str} {scope : Scope} {cl : List (Str × Addr)} {S : List (Addr × Obj) → Prop} {P : Nat → Value → Prop} {Fin : List Value → List (Addr × Obj) → Prop} {n : Nat} (J : Nat → List Value → Prop)
    (turn : ∀ i ys v I oI C oC D m₂ h tk (E' : Value → Shared → Prop), i < n → P i v → J i ys → NsObj oC m₂ → m₂ x = some v → Fr h₀ L h m → News h₀ L h ((I, oI) :: (C, oC) :: (D, lst ys) :: news) → Off3 I C D news → ((@Ne Nat I C) ∧ (@Ne Nat I D) ∧ (@Ne Nat C D)) →
      wpAny (model prog w) A (isTrue ct (compEnvC scope cl C env) (eval ct (compEnvC scope cl C env))) (fun ok s' => if ok = true then
        wpAny (model prog w) A (eval elt (compEnvC scope cl C env)) (CompEnd h₀ L m { s with heap := h, toks := tk } I oI C oC D (lst ys) S (fun y news' => news' = news ∧ J (i + 1) (ys ++ [y]))) E' s'
        else CompEnd h₀ L m { s with heap := h, toks := tk } I oI C oC D (lst ys) S (fun _ news' => news' = news ∧ J (i + 1) ys) Value.none s') E' { s with heap := h, toks := tk })
    (fin : ∀ ys, J n ys → Fin ys news) : ∀ k i ys, i + k = n → J i ys → CompRestT prog w A h₀ L m env ct elt x scope cl s S P Fin k i ys news := by
  intro k
  induction k with
  | zero =>
    intro i ys hi hJ
    have e : i = n := by omega
    subst e
    exact CompRestT.zero (fin ys hJ)
  | succ k ih =>
    intro i ys hi hJ
    refine CompRestT.succ ?_
    intro v I oI C oC D m₂ h tk E' hP hC hx F N off ne
    have up : ∀ (ys' : List Value) (y : Value) (s' : Shared), CompEnd h₀ L m { s with heap := h, toks := tk } I oI C oC D (lst ys) S (fun _ news' => news' = news ∧ J (i + 1) ys') y s' →
        CompEnd h₀ L m { s with heap := h, toks := tk } I oI C oC D (lst ys) S (fun _ news' => CompRestT prog w A h₀ L m env ct elt x scope cl s S P Fin k (i + 1) ys' news') y s' := by
      rintro ys' y s' ⟨h', tk', nw, e, F', N', off', hS, rfl, hJ'⟩
      exact ⟨h', tk', nw, e, F', N', off', hS, ih (i + 1) ys' (by omega) hJ'⟩
    refine wpAny_mono (turn i ys v I oI C oC D m₂ h tk E' (by omega) hP hJ hC hx F N off ne) (fun ok s' p => ?_) fun _ _ e => e
    cases ok with
    | true =>
      simp only [if_true] at p ⊢
      refine wpAny_mono p (fun y s₂ q => ?_) fun _ _ e => e
      obtain ⟨h', tk', nw, e, F', N', off', hS, hn, hJ'⟩ := q
      subst hn
      exact ⟨h', tk', nw, e, F', N', off', hS, ih (i + 1) _ (by omega) hJ'⟩
    | false =>
      simp only [Bool.false_eq_true, if_false] at p ⊢
      exact up _ _ _ p
end

section
variable {prog : Program} {w : World} {A : Around} {s : Shared} {h₀ : Heap} {L : Addr} {m : Str → Option Value} {env : Env}
open PyProof.Rows.LCg
/-- a comprehension whose element turns the ledger, by what holds of the items and the ledger -/
theorem restU_inv {elt : PySem.Expr} {x : Str} {scope : Scope} {cl : List (Str × Addr)} {S : List (Addr × Obj) → Prop} {P : Nat → Value → Prop} {Fin : List Value → List (Addr × Obj) → Prop} {n : Nat} (J : Nat → List Value → List (Addr × Obj) → Prop)
    (turn : ∀ i ys news v I oI C oC D m₂ h tk (E' : Value → Shared → Prop), i < n → P i v → J i ys news → NsObj oC m₂ → m₂ x = some v → Fr h₀ L h m → News h₀ L h ((I, oI) :: (C, oC) :: (D, lst ys) :: news) → Off3 I C D news → ((@Ne Nat I C) ∧ (@Ne Nat I D) ∧ (@Ne Nat C D)) →
      wpAny (model prog w) A (eval elt (compEnvC scope cl C env)) (CompEnd h₀ L m { s with heap := h, toks := tk } I oI C oC D (lst ys) S (fun y news' => J (i + 1) (ys ++ [y]) news')) E' { s with heap := h, toks := tk })
    (fin : ∀ ys news, J n ys news → Fin ys news) : ∀ k i ys news, i + k = n → J i ys news → CompRest prog w A h₀ L m env elt x scope cl s S P Fin k i ys news := by
  intro k
  induction k with
  | zero =>
    intro i ys news hi hJ
    have e : i = n := by omega
    subst e
    exact CompRest.zero (fin ys news hJ)
  | succ k ih =>
    intro i ys news hi hJ
    refine CompRest.succ ?_
    intro v I oI C oC D m₂ h tk E' hP hC hx F N off ne
    refine wpAny_mono (turn i ys news v I oI C oC D m₂ h tk E' (by omega) hP hJ hC hx F N off ne) (fun y s₂ q => ?_) fun _ _ e => e
    obtain ⟨h', tk', nw, e, F', N', off', hS, hJ'⟩ := q
    exact ⟨h', tk', nw, e, F', N', off', hS, ih (i + 1) _ _ (by omega) hJ'⟩
end

theorem toNat_lt {r : Int} {i : Nat} (_h0 : 0 ≤ r) (h1 : r < 3) (h : i < (r - 0).toNat) : i < 2 := by omega
theorem toNat_le {r : Int} (_h0 : 0 ≤ r) (h1 : r < 3) : (r - 0).toNat ≤ 2 := by omega
/-- what the drawing comprehension has made -/
def DrawJ (dk D : Addr) (n : Nat) (k : Int) (rest : List (Addr × Obj)) (i : Nat) (ys : List Value) (news : List (Addr × Obj)) : Prop :=
  ∃ (t : Tok) (ai : List Int), news = (dk, listOf #[.ref D, .int (k + i) t] n) :: rest ∧ IntsAre ys ai ∧ ai.length = i
theorem DrawJ.start {dk D : Addr} {n : Nat} {k : Int} {rest : List (Addr × Obj)} {t : Tok} : DrawJ dk D n k rest 0 [] ((dk, listOf #[.ref D, .int k t] n) :: rest) := ⟨t, [], by simp, .nil, rfl⟩
theorem DrawJ.next {dk D : Addr} {n : Nat} {k x : Int} {rest : List (Addr × Obj)} {i : Nat} {ys : List Value} {ai : List Int} {a : Int} {t u : Tok} (hi : IntsAre ys ai) (hl : ai.length = i) (hx : x = k + ((i + 1 : Nat) : Int)) :
    DrawJ dk D n k rest (i + 1) (ys ++ [.int a u]) ((dk, listOf #[.ref D, .int x t] n) :: rest) := by
  subst hx
  exact ⟨t, ai ++ [a], rfl, IntsAre.append hi (.cons a u .nil), by rw [List.length_append, hl]; rfl⟩

/-- what the comprehension of `_law_sure` has kept -/
def KeptJ (story : List (Option Int)) (i : Nat) (ys : List Value) : Prop := IntsAre ys ((story.take i).filterMap id)
theorem KeptJ.start {story : List (Option Int)} : KeptJ story 0 [] := by
  show IntsAre [] _
  simpa using IntsAre.nil
theorem KeptJ.mark {story : List (Option Int)} {i : Nat} {ys : List Value} (h : KeptJ story i ys) (hv : story[i]? = some none) : KeptJ story (i + 1) ys := by
  show IntsAre ys _
  rw [List.take_add_one, hv]
  show IntsAre ys ((story.take i ++ [none]).filterMap id)
  rw [List.filterMap_append]
  unfold KeptJ at h
  simpa using h
theorem KeptJ.ev {story : List (Option Int)} {i : Nat} {ys : List Value} {k : Int} {t : Tok} (h : KeptJ story i ys) (hv : story[i]? = some (some k)) : KeptJ story (i + 1) (ys ++ [.int k t]) := by
  show IntsAre (ys ++ [.int k t]) _
  rw [List.take_add_one, hv]
  show IntsAre (ys ++ [.int k t]) ((story.take i ++ [some k]).filterMap id)
  rw [List.filterMap_append]
  exact IntsAre.append h (.cons k t .nil)

/-- what stands between the turns of `_law_sure`'s loop -/
def SureJ (led : List (Addr × Obj)) (st ah : Addr) (story : List (Option Int)) (i : Nat) (m : Str → Option Value) (nw : List (Addr × Obj)) : Prop :=
  nw = led ∧ m "story" = some (.ref st) ∧ m "ahead" = some (.ref ah) ∧ ∃ tl, m "last" = some (.int (lastOf (story.take i) : Int) tl)
theorem SureJ.mk {led : List (Addr × Obj)} {st ah : Addr} {story : List (Option Int)} {i : Nat} {m : Str → Option Value} {nw : List (Addr × Obj)} {x : Int} {tl : Tok} (h1 : nw = led) (h2 : m "story" = some (.ref st)) (h3 : m "ahead" = some (.ref ah))
    (h4 : m "last" = some (.int x tl)) (hx : x = (lastOf (story.take i) : Int)) : SureJ led st ah story i m nw := ⟨h1, h2, h3, tl, by rw [h4, hx]⟩
theorem last_mark {story : List (Option Int)} {i : Nat} (h : story[i]? = some none) : (lastOf (story.take (i + 1)) : Int) = i + 1 := by
  have hi : i < story.length := by
    rcases Nat.lt_or_ge i story.length with q | q
    · exact q
    · rw [List.getElem?_eq_none q] at h; cases h
  rw [List.take_add_one, h]
  show (lastOf (story.take i ++ [none]) : Int) = _
  rw [lastOf_none, List.length_take]; omega
theorem last_ev {story : List (Option Int)} {i : Nat} {v : Int} (h : story[i]? = some (some v)) : (lastOf (story.take (i + 1)) : Int) = lastOf (story.take i) := by
  rw [List.take_add_one, h]
  show (lastOf (story.take i ++ [some v]) : Int) = _
  rw [lastOf_some]

/-- the contract of `_law_sure` -/
def SureTells (prog : Program) (w : World) (K : Frag) (p : Program) (loose : List Str) (mean : ExcName → Option Value) (mg mb : Str → Option Value) : Prop :=
  ∀ (dp un : Nat) (gd : Option (List Code)) (cn : Str) (cs : Scope) (L a : Addr) (ccd : Value) (cl : List (Str × Addr)) (outer : List Env) (A₀ : Around) (base h₀ : Heap) (m : Str → Option Value) (news : List (Addr × Obj)) (s : Shared)
    (st ah : Addr) (ss as : List Value) (story : List (Option Int)) (ai : List Int) (n₁ n₂ : Nat) (Q E : Value → Shared → Prop),
    Below A₀ base outer h₀ → Fr h₀ L s.heap m → K.In h₀ → News h₀ L s.heap ((st, listOf ss.toArray n₁) :: (ah, listOf as.toArray n₂) :: news) → Top p loose mean mg mb h₀ → cs.kind = .function →
    StoryAre ss story → IntsAre as ai → story.length ≤ 100 → ai.length ≤ 100 → ss.length ≤ 100 → as.length ≤ 100 → dp + 5 < recursionLimit → un + 100 < cLine →
    (∀ (T : Addr) (vs : List Value) (n : Nat) (h' : Heap) (tk' : Nat), IntsAre vs (ai ++ sureOf story) → (@LT.lt Nat _ st T) ∧ (@LT.lt Nat _ ah T) → (∀ p ∈ news, p.1 < T) → Fr h₀ L h' m →
      News h₀ L h' ((T, { cls := .type "tuple", data := .seq vs.toArray n }) :: (st, listOf ss.toArray n₁) :: (ah, listOf as.toArray n₂) :: news) → Q (.ref T) { s with heap := h', toks := tk' }) →
    wpAny (model prog w) (ktrTop dp un gd cn cs L a ccd cl outer) (PySem.call (.ref 82) [.ref st, .ref ah]) Q E s

/-- a ledger without one address -/
inductive Rest (b : Addr) : List (Addr × Obj) → List (Addr × Obj) → Prop
  | nil : Rest b [] []
  | drop {o t r} : Rest b t r → Rest b ((b, o) :: t) r
  | keep {p : Addr × Obj} {t r} : p.1 ≠ b → Rest b t r → Rest b (p :: t) (p :: r)
theorem Rest.sub {b : Addr} {l r : List (Addr × Obj)} (h : Rest b l r) : ∀ p ∈ r, p ∈ l ∧ p.1 ≠ b := by
  induction h with
  | nil => intro p hp; nomatch hp
  | drop _ ih => exact fun p hp => ⟨.tail _ (ih p hp).1, (ih p hp).2⟩
  | keep hn _ ih =>
    intro p hp
    rcases List.mem_cons.mp hp with rfl | hp
    · exact ⟨.head _, hn⟩
    · exact ⟨.tail _ (ih p hp).1, (ih p hp).2⟩

section
variable {prog : Program} {w : World} {K : Frag} {p : Program} {loose : List Str} {mean : ExcName → Option Value} {mg mb : Str → Option Value} {h₀ : Heap} {L : Addr} {m : Str → Option Value} {news rest : List (Addr × Obj)} {s : Shared}
theorem intsAre_ints {vs : List Value} {ns : List Int} (h : IntsAre vs ns) : ∀ v ∈ vs, ∃ i t, v = .int i t := by
  intro v hv
  obtain ⟨i, hi, e⟩ := List.mem_iff_getElem.mp hv
  have h1 : vs[i]? = some v := by rw [List.getElem?_eq_getElem hi, e]
  have h2 : i < ns.length := h.length ▸ hi
  obtain ⟨t, h3⟩ := h.get i ns[i] (by simp [h2])
  rw [h1] at h3
  exact ⟨_, t, Option.some.inj h3⟩
theorem draw_use {dp un : Nat} {gd : Option (List Code)} {cn : Str} {cs : Scope} {a : Addr} {ccd : Value} {cl : List (Str × Addr)} {outer : List Env} {A₀ : Around} {base : Heap}
    {dk D : Addr} {ys : List Value} {ns : List Int} {k : Int} {t : Tok} {n : Nat} {many : Int} {tm : Tok} {Q E : Value → Shared → Prop} (C : DrawTells prog w K p loose mean mg mb)
    (B : Below A₀ base outer h₀) (F : Fr h₀ L s.heap m) (X : K.In h₀) (N : News h₀ L s.heap news) (T : Top p loose mean mg mb h₀) (hk : cs.kind = .function)
    (hdk : (dk, listOf #[.ref D, .int k t] n) ∈ news) (hD : (D, PyProof.Rows.LCg.lst ys) ∈ news) (hi : IntsAre ys ns) (hlen : ns.length ≤ 63) (hk0 : 0 ≤ k) (hk1 : k < 1000) (hm0 : 0 < many) (hm1 : many < 100)
    (hR : Rest dk news rest) (hd : dp + 5 < recursionLimit) (hu : un + 100 < cLine)
    (ret : ∀ (r : Int) (tr t' : Tok) (h' : Heap) (tk' : Nat), 0 ≤ r → r < many → Fr h₀ L h' m → News h₀ L h' ((dk, listOf #[.ref D, .int (k + 1) t'] n) :: rest) → Q (.int r tr) { s with heap := h', toks := tk' }) :
    wpAny (model prog w) (ktrTop dp un gd cn cs L a ccd cl outer) (PySem.call (.ref 77) [.ref dk, .int many tm]) Q E s := by
  have hne : D ≠ dk := by
    intro e
    have h1 := (N _ hdk).1
    have h2 := (N _ hD).1
    rw [e] at h2
    have h3 := congrArg Obj.data (Option.some.inj (h2.symm.trans h1))
    have h4 : ys.toArray = #[.ref D, .int k t] := by
      dsimp only at h3
      injection h3 with h4 h5
    have h5 : ys = [.ref D, .int k t] := by simpa using congrArg Array.toList h4
    obtain ⟨i, t', e'⟩ := intsAre_ints hi (.ref D) (by rw [h5]; exact .head _)
    cases e'
  refine C dp un gd cn cs L a ccd cl outer A₀ base h₀ m rest s dk D ys ns k t n many tm Q E B F X (fun q hq => ?_) T hk hi hlen hk0 hk1 hm0 hm1 (fun q hq b hb => ?_) hd hu (fun r tr t' h' tk' h0 h1 F' N' => ret r tr t' h' tk' h0 h1 F' fun q hq => N' q ?_)
  · rcases List.mem_cons.mp hq with rfl | hq
    · exact N _ hdk
    · rcases List.mem_cons.mp hq with rfl | hq
      · exact N _ hD
      · exact N _ (hR.sub q hq).1
  · rw [List.mem_singleton.mp hb]
    rcases List.mem_cons.mp hq with rfl | hq
    · exact hne
    · exact (hR.sub q hq).2
  · rcases List.mem_cons.mp hq with rfl | hq
    · exact .head _
    · exact .tail _ (.tail _ hq)
end

section
variable {prog : Program} {w : World} {K : Frag} {p : Program} {loose : List Str} {mean : ExcName → Option Value} {mg mb : Str → Option Value} {h₀ : Heap} {L : Addr} {m : Str → Option Value} {news : List (Addr × Obj)} {s : Shared}
theorem sure_use {dp un : Nat} {gd : Option (List Code)} {cn : Str} {cs : Scope} {a : Addr} {ccd : Value} {cl : List (Str × Addr)} {outer : List Env} {A₀ : Around} {base : Heap}
    {st ah : Addr} {ss as : List Value} {story : List (Option Int)} {ai : List Int} {n₁ n₂ : Nat} {Q E : Value → Shared → Prop} (C : SureTells prog w K p loose mean mg mb)
    (B : Below A₀ base outer h₀) (F : Fr h₀ L s.heap m) (X : K.In h₀) (N : News h₀ L s.heap news) (T : Top p loose mean mg mb h₀) (hk : cs.kind = .function)
    (h1 : (st, listOf ss.toArray n₁) ∈ news) (h2 : (ah, listOf as.toArray n₂) ∈ news) (hst : StoryAre ss story) (hai : IntsAre as ai) (hl1 : story.length ≤ 100) (hl2 : ai.length ≤ 100)
    (hd : dp + 5 < recursionLimit) (hu : un + 100 < cLine)
    (ret : ∀ (T : Addr) (vs : List Value) (n : Nat) (h' : Heap) (tk' : Nat), IntsAre vs (ai ++ sureOf story) → (∀ p ∈ news, p.1 < T) → Fr h₀ L h' m → News h₀ L h' ((T, { cls := .type "tuple", data := .seq vs.toArray n }) :: news) → Q (.ref T) { s with heap := h', toks := tk' }) :
    wpAny (model prog w) (ktrTop dp un gd cn cs L a ccd cl outer) (PySem.call (.ref 82) [.ref st, .ref ah]) Q E s := by
  refine C dp un gd cn cs L a ccd cl outer A₀ base h₀ m news s st ah ss as story ai n₁ n₂ Q E B F X (fun q hq => ?_) T hk hst hai hl1 hl2 (by rw [hst.length]; exact hl1) (by rw [hai.length]; exact hl2) hd hu
    (fun T vs n h' tk' hv _ hl F' N' => ret T vs n h' tk' hv hl F' fun q hq => N' q ?_)
  · rcases List.mem_cons.mp hq with rfl | hq
    · exact N _ h1
    · rcases List.mem_cons.mp hq with rfl | hq
      · exact N _ h2
      · exact N _ hq
  · rcases List.mem_cons.mp hq with rfl | hq
    · exact .head _
    · exact .tail _ (.tail _ (.tail _ hq))
end

/-- where the law's objects lie: each made behind the one ahead of it -/
def ChainN (l : List Nat) : Prop := (l.zip l.tail).foldr (fun p q => p.1 < p.2 ∧ q) True
theorem chainN_cons (a b : Nat) (r : List Nat) : ChainN (a :: b :: r) = (a < b ∧ ChainN (b :: r)) := rfl
theorem chainN_one (a : Nat) : ChainN [a] = True := rfl
/-- the cell and the deck's own list lie in no known order; both lie ahead of the deck -/
def ChainC (c D dk : Nat) (l : List Nat) : Prop := D ≠ c ∧ c < dk ∧ D < dk ∧ ChainN (dk :: l)
def AllNe (a : Nat) (l : List Nat) : Prop := l.foldr (fun b q => a ≠ b ∧ q) True
theorem allNe_cons (a b : Nat) (r : List Nat) : AllNe a (b :: r) = (a ≠ b ∧ AllNe a r) := rfl
theorem allNe_nil (a : Nat) : AllNe a [] = True := rfl

/-- the recorder's own dict -/
def recDict (P : Params) (t1 t2 t3 : Tok) (b : Bool) (e : Value) (sv : Value) : Obj :=
  dictOf [{ hash := PyData.keyHash P (Str.ofString "is_defining"), key := .str (Str.ofString "is_defining") t1, val := .bool b },
    { hash := PyData.keyHash P (Str.ofString "events"), key := .str (Str.ofString "events") t2, val := e },
    { hash := PyData.keyHash P (Str.ofString "sure"), key := .str (Str.ofString "sure") t3, val := sv }] 3

/-- what stands ahead of each of the law's turns: no definition is under way, or one is -/
inductive LoopJ (P : Params) (c I : Addr) : Nat → (Str → Option Value) → List (Addr × Obj) → Prop
  | off {i : Nat} {m : Str → Option Value} {dk D x d : Addr} {e : Addr} {ys : List Value} {ns : List Int} {k sv : Int} {t t1 t2 t3 t4 : Tok} {n : Nat} {oc : Obj} :
      m "own_recorder" = some (.ref x) → m "story" = some .none → oc.data = .cell (some (.ref dk)) → IntsAre ys ns → ns.length ≤ 63 → 0 ≤ k → k ≤ 1 + 4 * i → ChainC c D dk [d, x, I] →
      LoopJ P c I i m [(dk, listOf #[.ref D, .int k t] n), (D, PyProof.Rows.LCg.lst ys), (c, oc), (x, instObj 66 d), (d, recDict P t1 t2 t3 false (.ref e) (.int sv t4))]
  | on {i : Nat} {m : Str → Option Value} {dk D x d e st ah : Addr} {ys es ss as : List Value} {ns ev ai : List Int} {story : List (Option Int)} {k sv : Int} {t t1 t2 t3 t4 : Tok} {n n1 n2 n3 : Nat} {oc : Obj} :
      m "own_recorder" = some (.ref x) → m "story" = some (.ref st) → m "ahead" = some (.ref ah) → oc.data = .cell (some (.ref dk)) → IntsAre ys ns → ns.length ≤ 63 → 0 ≤ k → k ≤ 1 + 4 * i → ChainC c D dk [d, x, I, st, e] → ChainN [ah, st] → AllNe ah [c, D, dk, d, x, I] →
      IntsAre es ev → StoryAre ss story → IntsAre as ai → ev = ai ++ story.filterMap id → sv = ((ai ++ sureOf story).length : Int) → story.length ≤ i → ai.length ≤ 2 →
      LoopJ P c I i m [(dk, listOf #[.ref D, .int k t] n), (D, PyProof.Rows.LCg.lst ys), (c, oc), (x, instObj 66 d), (d, recDict P t1 t2 t3 true (.ref e) (.int sv t4)), (e, listOf es.toArray n1), (st, listOf ss.toArray n2), (ah, listOf as.toArray n3)]

section
variable {P : Params} {c I : Addr} {i : Nat} {h₀ h' : Heap} {L : Addr} {m' : Str → Option Value} {all : List (Addr × Obj)} {oI : Obj} {s : Shared} {tk : Nat}
theorem off_end {dk D x d : Addr} {e : Addr} {ys : List Value} {ns : List Int} {k sv : Int} {t t1 t2 t3 t4 : Tok} {n : Nat} {oc : Obj}
    (F : Fr h₀ L h' m') (N : News h₀ L h' all) (h1 : m' "own_recorder" = some (.ref x)) (h2 : m' "story" = some .none) (hI : (I, oI) ∈ all)
    (q4 : (x, instObj 66 d) ∈ all) (q5 : (d, recDict P t1 t2 t3 false (.ref e) (.int sv t4)) ∈ all) (q1 : (dk, listOf #[.ref D, .int k t] n) ∈ all) (q2 : (D, PyProof.Rows.LCg.lst ys) ∈ all) (q3 : (c, oc) ∈ all)
    (hoc : oc.data = .cell (some (.ref dk))) (hys : IntsAre ys ns) (hlen : ns.length ≤ 63) (hk0 : 0 ≤ k) (hk1 : k ≤ 1 + 4 * ((i : Nat) : Int)) (hc : ChainC c D dk [d, x, I]) :
    UnrEnd h₀ L s I oI (LoopJ P c I i) { s with heap := h', toks := tk } := by
  refine UnrEnd.intro F N _ (fun p hp => ?_) (fun p hp => ?_) (LoopJ.off (t1 := t1) (t2 := t2) (t3 := t3) (t4 := t4) (t := t) (n := n) (e := e) (sv := sv) (d := d) (D := D) (k := k) h1 h2 hoc hys hlen hk0 hk1 hc)
  · simp only [List.mem_cons, List.not_mem_nil, or_false] at hp
    rcases hp with rfl | rfl | rfl | rfl | rfl | rfl <;> assumption
  · simp only [ChainC, chainN_cons, chainN_one, and_true] at hc
    simp only [List.mem_cons, List.not_mem_nil, or_false] at hp
    rcases hp with rfl | rfl | rfl | rfl | rfl <;> (refine neN ?_; dsimp only; omega)
theorem on_end {dk D x d e st ah : Addr} {ys : List Value} {ea sa aa : Array Value} {ns ev ai : List Int} {story : List (Option Int)} {k sv : Int} {t t1 t2 t3 t4 : Tok} {n n1 n2 n3 : Nat} {oc : Obj}
    (F : Fr h₀ L h' m') (N : News h₀ L h' all) (h1 : m' "own_recorder" = some (.ref x)) (h2 : m' "story" = some (.ref st)) (h3 : m' "ahead" = some (.ref ah)) (hI : (I, oI) ∈ all)
    (q4 : (x, instObj 66 d) ∈ all) (q5 : (d, recDict P t1 t2 t3 true (.ref e) (.int sv t4)) ∈ all) (q1 : (dk, listOf #[.ref D, .int k t] n) ∈ all) (q2 : (D, PyProof.Rows.LCg.lst ys) ∈ all) (q3 : (c, oc) ∈ all)
    (q6 : (e, listOf ea n1) ∈ all) (q7 : (st, listOf sa n2) ∈ all) (q8 : (ah, listOf aa n3) ∈ all)
    (hoc : oc.data = .cell (some (.ref dk))) (hys : IntsAre ys ns) (hlen : ns.length ≤ 63) (hk0 : 0 ≤ k) (hk1 : k ≤ 1 + 4 * ((i : Nat) : Int))
    (hc : ChainC c D dk [d, x, I, st, e]) (hc2 : ChainN [ah, st]) (hne : AllNe ah [c, D, dk, d, x, I])
    (hes : IntsAre ea.toList ev) (hss : StoryAre sa.toList story) (has : IntsAre aa.toList ai) (hev : ev = ai ++ story.filterMap id) (hsv : sv = ((ai ++ sureOf story).length : Int)) (hln : story.length ≤ i) (hai : ai.length ≤ 2) :
    UnrEnd h₀ L s I oI (LoopJ P c I i) { s with heap := h', toks := tk } := by
  rw [show listOf ea n1 = listOf ea.toList.toArray n1 by rw [Array.toArray_toList]] at q6
  rw [show listOf sa n2 = listOf sa.toList.toArray n2 by rw [Array.toArray_toList]] at q7
  rw [show listOf aa n3 = listOf aa.toList.toArray n3 by rw [Array.toArray_toList]] at q8
  refine UnrEnd.intro F N _ (fun p hp => ?_) (fun p hp => ?_) (LoopJ.on (t1 := t1) (t2 := t2) (t3 := t3) (t4 := t4) (t := t) (n := n) (n1 := n1) (n2 := n2) (n3 := n3) (e := e) (sv := sv) (d := d) (D := D) (k := k) h1 h2 h3 hoc hys hlen hk0 hk1 hc hc2 hne hes hss has hev hsv hln hai)
  · simp only [List.mem_cons, List.not_mem_nil, or_false] at hp
    rcases hp with rfl | rfl | rfl | rfl | rfl | rfl | rfl | rfl | rfl <;> assumption
  · simp only [ChainC, chainN_cons, chainN_one, and_true] at hc hc2
    simp only [allNe_cons, allNe_nil, and_true] at hne
    obtain ⟨_, _, _, _, _, hn6⟩ := hne
    simp only [List.mem_cons, List.not_mem_nil, or_false] at hp
    rcases hp with rfl | rfl | rfl | rfl | rfl | rfl | rfl | rfl <;> first | exact hn6 | (refine neN ?_; dsimp only; omega)
end

def lawDef : Stmt := match PySem.Challenge.rw_oj0013_01.row.prog.main.body with
  | [_, _, _, _, _, d] => d
  | _ => .Pass default
def lawStmts : List Stmt := match lawDef with
  | .FunctionDef _ _ b _ _ _ _ _ _ _ => b
  | _ => []
def lawScope : Scope := match lawDef with
  | .FunctionDef _ _ _ _ _ _ sc _ _ _ => sc
  | _ => { kind := .function, names := [], isGenerator := false, isCoroutine := false, more := [] }
def turnBody : List Stmt := match lawStmts with
  | [_, _, .For _ _ b _ _, _, _] => b
  | _ => []
def lawEnd : List Stmt := match lawStmts with
  | [_, _, _, a, b] => [a, b]
  | _ => []

set_option maxRecDepth 100000 in
set_option maxHeartbeats 8000000 in
theorem draw_tells (w : World) (mean : ExcName → Option Value) (mg mb : Str → Option Value) : DrawTells PySem.Challenge.rw_oj0013_01.row.prog w (hd.heap_39 w.params) hd.view_39 (looseW hd.view_39 []) mean mg mb := by
  w_top off
  k_fill
  intro dp un gd cn cs L a ccd cl outer A₀ base h₀ m rest s dk D ys ns k t n many tm Q E B F X N T hk hi hlen hk0 hk1 hm0 hm1 hoff hd hu hret
  refine wpAny_call ?_
  k_dflt ktr_enter
  k_steps
  all_goals exact hret _ _ _ _ _ (Int.fmod_nonneg_of_pos _ hm0) (Int.fmod_lt_of_pos _ hm0) (by assumption) (by assumption)

local macro_rules | `(tactic| walk_at "pyIter ref") => `(tactic| k_extra "pyIter ref")
local macro_rules | `(tactic| walk_at "CompSrcT") => `(tactic| k_extra "CompSrcT")
local macro_rules | `(tactic| walk_at "CompEnd") => `(tactic| k_extra "CompEnd")
local macro_rules | `(tactic| walk_at "binaryOp Add ref ref") => `(tactic| k_extra "binaryOp Add ref ref")
local macro_rules | `(tactic| walk_at "call type:tuple") => `(tactic| k_extra "call type:tuple")
local macro_rules | `(tactic| walk_at "eval ListComp") => `(tactic| k_extra "eval ListComp")

set_option maxRecDepth 100000 in
set_option maxHeartbeats 8000000 in
theorem sure_tells (w : World) (mean : ExcName → Option Value) (mg mb : Str → Option Value) : SureTells PySem.Challenge.rw_oj0013_01.row.prog w (hd.heap_39 w.params) hd.view_39 (looseW hd.view_39 []) mean mg mb := by
  w_top off
  k_fill
  k_with_none
  (k_with "pyIter ref" => (refine halt ?_))
  (k_with "CompSrcT" => (refine halt ?_))
  (k_with "CompEnd" => (refine halt ?_))
  (k_with "eval ListComp" => (k_dflt (refine LCt.ListComp_T (F₀ := by k_asm) (by with_unfolding_all rfl) (by decide) (by rfl) (by decide) (by rfl) ?_)))
  (k_with "call builtin:len" => (refine' len_made2 (by k_asm) (by k_mem) hl3 ?_))
  (k_with "subscriptTail Name Name ref int" => (refine' story_item (by k_asm) (by k_mem) hst (by omega) (by omega) hl1 (fun hv' => ?_) (fun i' t' hv' => ?_) (by with_unfolding_all rfl) (by intro _; with_unfolding_all rfl)))
  (k_with "binaryOp Add ref ref" => (k_dflt (refine' kmk_add_ints (by k_asm) (by k_asm) (News.isList (by k_asm) (by k_mem)) (News.isList (by k_asm) (by k_mem)) hai hy (fun D1 us h1 F1 N1 l1 hi1 => ?_) (by rw [sizeLine_eq]; omega))))
  (k_with "call type:tuple" => (refine halt ?_))
  intro dp un gd cn cs L a ccd cl outer A₀ base h₀ m news s st ah ss as story ai n₁ n₂ Q E B F X N T hk hst hai hl1 hl2 hl3 hl4 hdd hu hret
  have hlen : ss.length = story.length := hst.length
  refine wpAny_call ?_
  k_dflt ktr_enter
  k_steps
  refine go_on ?_
  (rename Fr _ _ _ _ => lF'); (rename News _ _ _ _ => lN')
  refine krs_iter (by rfl) (by assumption) (small_one (by omega) (by omega) (by omega) (by omega)) (rangeSize_nat _ _) lF' lN' (fun I' l1' => ?_)
  refine rest_inv (SureJ ((st, listOf ss.toArray n₁) :: (ah, listOf as.toArray n₂) :: news) st ah story) ?turn ?done _ 0 _ _ (by omega) ⟨rfl, rfl, rfl, _, rfl⟩
  case turn =>
    rintro i m₁ nw t h tk oI hi ⟨hnw, hm1, hm2, tl, hm3⟩ hoI F' N'
    subst hnw
    replace F' := fr_turn [("story", .ref st), ("ahead", .ref ah), ("last", .int (lastOf (story.take i) : Int) tl)] (by simp [hm1, hm2, hm3]) F'
    clear hm1 hm2 hm3 lF' lN'
    have hin : (0 + (i : Int) * 1).toNat = i := by omega
    k_steps
    all_goals rw [hin] at hv'
    all_goals refine UnrEnd.intro (by assumption) (by assumption) _ (fun _ h => h) ?_ ?_
    all_goals first
      | exact fun p hp e => Nat.lt_irrefl _ (e ▸ l1' p hp)
      | exact SureJ.mk rfl rfl rfl rfl (by rw [last_mark hv']; omega)
      | exact SureJ.mk rfl rfl rfl rfl (by rw [last_ev hv'])
  case done =>
    rintro m₁ nw h tk ⟨hnw, hm1, hm2, tl, hm3⟩ F' N'
    subst hnw
    rw [show (((ss.length : Int) - 0).toNat) = story.length by omega, List.take_length] at hm3
    replace F' := fr_done [("story", .ref st), ("ahead", .ref ah), ("last", .int (lastOf story : Int) tl)] (by simp [hm1, hm2, hm3]) F'
    clear hm1 hm2 hm3 lF' lN'
    have hle := lastOf_le story
    k_steps
    refine go_on ?_
    (rename Fr _ _ _ _ => lF'); (rename News _ _ _ _ => lN')
    rw [slicePick_upto ss.toArray (lastOf story) (by rw [List.size_toArray]; omega)] at lN'
    refine LCt.CompSrcT.ledger (by rfl) lF' lN' (by k_mem) (by rw [sizeLine_eq, List.size_toArray, List.length_take]; omega) ?_
    intro g'
    have hst2 := hst.take (lastOf story)
    have hcut : (ss.toArray.toList.take (lastOf story)).toArray.size = (story.take (lastOf story)).length := by
      rw [List.size_toArray]; exact hst2.length
    refine restT_inv (KeptJ (story.take (lastOf story))) ?turn ?fin _ 0 [] (Nat.zero_add _) KeptJ.start
    case turn =>
      intro i ys v I oI C oC D m₂ h tk E' hi hP hJ hC hx F N off ne
      rw [hcut] at hi
      rcases hst2.get hi with ⟨h1, h2⟩ | ⟨i', t', h1, h2⟩
      · have hv : v = .none := by
          have h3 : (ss.take (lastOf story))[i]? = some v := by simpa using hP
          rw [h1] at h3; exact (Option.some.inj h3).symm
        subst hv
        k_steps
        exact go_on (LCg.CompEnd.intro F N _ (fun _ h => h) off (Or.inr ⟨_, by k_mem, rfl, _, rfl⟩) ⟨rfl, KeptJ.mark hJ h2⟩)
      · have hv : v = .int i' t' := by
          have h3 : (ss.take (lastOf story))[i]? = some v := by simpa using hP
          rw [h1] at h3; exact (Option.some.inj h3).symm
        subst hv
        k_steps
        exact go_on (LCg.CompEnd.intro F N _ (fun _ h => h) off (Or.inr ⟨_, by k_mem, rfl, _, rfl⟩) ⟨rfl, KeptJ.ev hJ h2⟩)
    case fin =>
      intro ys hys
      rw [hcut] at hys
      have hy : IntsAre ys (sureOf story) := by unfold KeptJ at hys; rw [List.take_length] at hys; exact hys
      have hsl : (sureOf story).length ≤ 100 := by
        have h1 := (sureOf_prefix story).length_le
        have h2 := List.length_filterMap_le id story
        omega
      clear hys
      k_steps
      refine go_on ?_
      refine kde_tupleOf (by k_asm) (by k_asm) (News.isList (by k_asm) (by k_mem)) (by rw [List.size_toArray, hi1.length, List.length_append]; omega) (List.toList_toArray) (fun D2 h2 F2 N2 l2 => ?_)
      k_steps
      (rename News _ _ _ _ => N9)
      exact hret _ _ _ _ _ hi1 ⟨l2 (st, _) (by k_mem), l2 (ah, _) (by k_mem)⟩ (fun p hp => l2 p (.tail _ (.tail _ (.tail _ (.tail _ (.tail _ hp)))))) (by assumption) (fun p hp => by
        refine N9 p ?_
        rcases List.mem_cons.mp hp with rfl | hp
        · exact .head _
        · exact .tail _ (.tail _ (.tail _ (.tail _ hp))))

local macro_rules | `(tactic| walk_at "pyIter ref") => `(tactic| k_extra "pyIter ref")
local macro_rules | `(tactic| walk_at "call ref") => `(tactic| k_extra "call ref")
local macro_rules | `(tactic| walk_at "call builtin:len") => `(tactic| k_extra "call builtin:len")
local macro_rules | `(tactic| walk_at "call type:tuple") => `(tactic| k_extra "call type:tuple")
local macro_rules | `(tactic| walk_at "compareOp NotEq ref ref") => `(tactic| k_extra "compareOp NotEq ref ref")
local macro_rules | `(tactic| walk_at "eval ListComp") => `(tactic| k_extra "eval ListComp")
local macro_rules | `(tactic| walk_at "CompEnd") => `(tactic| k_extra "CompEnd")
local macro_rules | `(tactic| walk_at "CompSrc") => `(tactic| k_extra "CompSrc")

set_option maxRecDepth 100000 in
set_option maxHeartbeats 4000000 in
theorem turn_tells : ∀ (w : World) (mean : ExcName → Option Value) (mg mb : Str → Option Value) (L fa : Addr) (cd : Value) (h₀ : Heap) (s : Shared) (I : Addr) (oI : Obj) (i : Nat) (hi : i < 17) (v : Value) (m₁ : Str → Option Value) (news : List (Addr × Obj)) (Q : Flow → Shared → Prop) (E : Value → Shared → Prop)
    (B : Below callerA h₀ [] h₀) (X : (hd.heap_39 w.params).In h₀) (T : Top hd.view_39 (looseW hd.view_39 []) mean mg mb h₀) (hJ : LoopJ w.params (L + 1) I i m₁ news)
    (F : Fr h₀ L s.heap (fun y => if y = Str.ofString "nth" then some v else m₁ y)) (N : News h₀ L s.heap ((I, oI) :: news)),
    wpAny (model PySem.Challenge.rw_oj0013_01.row.prog w) (callerA.deeper (envOfC (Str.ofString "law") lawScope L fa cd)) (execs turnBody (envOfC (Str.ofString "law") lawScope L fa cd)) (UnrPost h₀ L s I oI (LoopJ w.params (L + 1) I (i + 1)) Q) E s := by
  w_top off
  k_fill
  intro w mean mg mb L fa cd h₀ s I oI i hi v m₁ news Q E B X T hJ F N
  k_with_none
  (k_with "eval ListComp" => (k_dflt (refine LCg.ListComp_U (F₀ := by k_asm) (by with_unfolding_all rfl) (by decide) (by rfl) (by decide) (by rfl) ?_)))
  (k_with "CompSrc" => (refine halt ?_))
  (k_with "CompEnd" => (refine halt ?_))
  (k_with "call ref" => (k_dflt (refine' draw_use (draw_tells _ _ _ _) (by k_asm) (by k_asm) (by k_asm) (by k_asm) (by k_asm) (by rfl) (by k_mem) (by k_mem) hys hlen (by omega) (by omega) (by decide) (by decide) ?hR ?hd ?hu ?_; (case hR => (repeat' (first | exact Rest.nil | apply Rest.drop | (apply Rest.keep; first | assumption | exact Ne.symm (by assumption) | k_ne)))); (case hd => ktr_room); (case hu => ktr_units); (intro r' tr' t' h' tk' hr0' hr1' F' N'; (try k_sweep)))))
  (k_with "call ref" => (k_dflt (refine' sure_use (sure_tells _ _ _ _) (by k_asm) (by k_asm) (by k_asm) (by k_asm) (by k_asm) (by rfl) (by k_mem) (by k_mem) hss has (by omega) (by omega) ?hd ?hu ?_; (case hd => ktr_room); (case hu => ktr_units); (intro T' vs' n' h' tk' hv' l1' F' N'; (try k_lt l1'); (try k_sweep)))))
  (k_with "call builtin:len" => (refine' len_made2 (by k_asm) (by k_mem) hle ?_))
  (k_with "call type:tuple" => (k_dflt (refine' tuple_ints (by k_asm) (by k_asm) (by k_mem) (by assumption) (by omega) ?_; (intro D' h' F' N' l1'; (try k_lt l1'); (try k_sweep)))))
  (k_with "compareOp NotEq ref ref" => (k_dflt (refine' ne_tuples (by k_asm) (by k_mem) (by k_mem) (by assumption) (by assumption) hcut (by units_room) ?_)))
  generalize hp : PySem.Challenge.rw_oj0013_01.row.prog = prog
  dsimp only [turnBody, lawStmts, lawScope, lawDef, PySem.Challenge.rw_oj0013_01, OpenLaw.row, PySem.Challenge.pw_oj0013_01]
  subst hp
  cases hJ with
  | off hm1 hm2 hoc hys hlen hk0 hk1 hap =>
    rename_i dk D x d e ys ns k sv t t1 t2 t3 t4 n oc
    have hap0 := hap
    simp only [ChainC, chainN_cons, chainN_one, and_true] at hap
    obtain ⟨hc0, hc1, hc2, hc3, hc4, hc5⟩ := hap
    unfold recDict at N
    replace F := fr_turn [("own_recorder", .ref x), ("story", .none)] (by simp [hm1, hm2]) F
    clear hm1 hm2
    k_steps
    · refine go_on ?_
      (rename Fr _ _ _ _ => lF'); (rename News _ _ _ _ => lN'); (rename IsRange _ _ _ _ _ _ _ _ => lR')
      refine LCg.CompSrc.range (by rfl) lF' lN' lR' (small_one (by omega) (by omega) (by omega) (by omega)) (rangeSize_nat _ _) (by rw [sizeLine_eq]; omega) ?_
      intro g'
      refine restU_inv (DrawJ dk D n (k + 1 + 1) _) ?turn ?fin _ 0 [] _ (Nat.zero_add _) DrawJ.start
      case turn =>
        rintro i9 ys9 news9 v9 I9 oI9 C9 oC9 D9 m9 h9 tk9 E9 hi9 hP9 ⟨t9, ai9, hn9, hint9, hlen9⟩ hC9 hx9 F9 N9 off9 ne9
        subst hn9
        replace hi9 := toNat_lt hr0' hr1' hi9
        obtain ⟨⟨hd1, hd2, hd3⟩, _⟩ := id off9
        clear lF' lN' lR'
        k_steps
        exact go_on (LCg.CompEnd.intro F' N' _ (by
          intro p hp
          simp only [List.mem_cons, List.not_mem_nil, or_false] at hp ⊢
          rcases hp with rfl | rfl | rfl | rfl | rfl | rfl | rfl | rfl | rfl <;> simp) (by exact off9) trivial (DrawJ.next (t := t') (x := k + 1 + 1 + (i9 : Int) + 1) hint9 hlen9 (by omega)))
      case fin =>
        rintro ys9 news9 ⟨t9, ai9, hn9, hint9, hlen9⟩
        have hle9 := toNat_le hr0' hr1'
        generalize (r' - 0).toNat = j9 at hn9 hlen9 hle9
        subst hn9
        clear lF' lN' lR'
        k_steps
        exact on_end (story := []) (ai := ai9) (by assumption) (by assumption) (by rfl) (by rfl) (by rfl) (by k_mem) (by k_mem) (by k_mem) (by k_mem) (by k_mem) (by k_mem) (by k_mem) (by k_mem) (by k_mem) hoc hys hlen (by omega) (by omega)
          (by simp only [ChainC, chainN_cons, chainN_one, and_true]; exact ⟨hc0, hc1, hc2, hc3, hc4, hc5, by omega, by omega⟩) (by simp only [chainN_cons, chainN_one, and_true]; omega) (by simp only [allNe_cons, allNe_nil, and_true]; exact ⟨by omega, by omega, by omega, by omega, by omega, by omega⟩)
          hint9 .nil hint9 (by simp) (by simp [sureOf]) (Nat.zero_le _) (by omega)
    all_goals exact off_end (by assumption) (by assumption) (by rfl) (by rfl) (by k_mem) (by k_mem) (by k_mem) (by k_mem) (by k_mem) (by k_mem) hoc hys hlen (by omega) (by omega) hap0
  | on hm1 hm2 hm3 hoc hys hlen hk0 hk1 hch hch2 hne hes hss has hev hsv hln hai =>
    rename_i dk D x d e st ah ys es ss as ns ev ai story k sv t t1 t2 t3 t4 n n1 n2 n3 oc
    have hch0 := hch
    have hch20 := hch2
    have hne0 := hne
    simp only [ChainC, chainN_cons, chainN_one, and_true] at hch hch2
    obtain ⟨hc0, hc1, hc2, hc3, hc4, hc5, hc6, hc7⟩ := hch
    simp only [allNe_cons, allNe_nil, and_true] at hne
    obtain ⟨hn1, hn2, hn3, hn4, hn5, hn6⟩ := hne
    have hle : es.length ≤ 100 := by
      have h1 := List.length_filterMap_le id story
      rw [hes.length, hev, List.length_append]; omega
    have hle2 : ev.length ≤ 100 := by rw [← hes.length]; exact hle
    have hcut := sure_cut hev hsv
    have hls : ss.length ≤ 100 := by rw [hss.length]; omega
    unfold recDict at N
    replace F := fr_turn [("own_recorder", .ref x), ("story", .ref st), ("ahead", .ref ah)] (by simp [hm1, hm2, hm3]) F
    clear hm1 hm2 hm3
    k_steps
    · refine go_on ?_
      (rename Fr _ _ _ _ => lF'); (rename News _ _ _ _ => lN'); (rename IsRange _ _ _ _ _ _ _ _ => lR')
      refine LCg.CompSrc.range (by rfl) lF' lN' lR' (small_one (by omega) (by omega) (by omega) (by omega)) (rangeSize_nat _ _) (by rw [sizeLine_eq]; omega) ?_
      intro g'
      refine restU_inv (DrawJ dk D n (k + 1 + 1) _) ?turn ?fin _ 0 [] _ (Nat.zero_add _) DrawJ.start
      case turn =>
        rintro i9 ys9 news9 v9 I9 oI9 C9 oC9 D9 m9 h9 tk9 E9 hi9 hP9 ⟨t9, ai9, hn9, hint9, hlen9⟩ hC9 hx9 F9 N9 off9 ne9
        subst hn9
        replace hi9 := toNat_lt hr0' hr1' hi9
        obtain ⟨⟨hd1, hd2, hd3⟩, _⟩ := id off9
        clear lF' lN' lR'
        k_steps
        exact go_on (LCg.CompEnd.intro F' N' _ (by
          intro p hp
          simp only [List.mem_cons, List.not_mem_nil, or_false] at hp ⊢
          rcases hp with rfl | rfl | rfl | rfl | rfl | rfl | rfl | rfl | rfl | rfl | rfl | rfl <;> simp) (by exact off9) trivial (DrawJ.next (t := t') (x := k + 1 + 1 + (i9 : Int) + 1) hint9 hlen9 (by omega)))
      case fin =>
        rintro ys9 news9 ⟨t9, ai9, hn9, hint9, hlen9⟩
        have hle9 := toNat_le hr0' hr1'
        generalize (r' - 0).toNat = j9 at hn9 hlen9 hle9
        subst hn9
        clear lF' lN' lR'
        k_steps
        exact on_end (story := []) (ai := ai9) (by assumption) (by assumption) (by rfl) (by rfl) (by rfl) (by k_mem) (by k_mem) (by k_mem) (by k_mem) (by k_mem) (by k_mem) (by k_mem) (by k_mem) (by k_mem) hoc hys hlen (by omega) (by omega)
          (by simp only [ChainC, chainN_cons, chainN_one, and_true]; exact ⟨hc0, hc1, hc2, hc3, hc4, hc5, by omega, by omega⟩) (by simp only [chainN_cons, chainN_one, and_true]; omega) (by simp only [allNe_cons, allNe_nil, and_true]; exact ⟨by omega, by omega, by omega, by omega, by omega, by omega⟩)
          hint9 .nil hint9 (by simp) (by simp [sureOf]) (Nat.zero_le _) (by omega)
    · exact on_end (story := story ++ [some r']) (ai := ai) (ev := ev ++ [r']) (by assumption) (by assumption) (by rfl) (by rfl) (by rfl) (by k_mem) (by k_mem) (by k_mem) (by k_mem) (by k_mem) (by k_mem) (by k_mem) (by k_mem) (by k_mem) hoc hys hlen (by omega) (by omega)
        hch0 hch20 hne0 (by simpa using IntsAre.append hes (.cons r' tr' .nil)) (by simpa using StoryAre.append hss (.ev r' tr' .nil)) has (by rw [hev, List.filterMap_append, List.append_assoc]; rfl) (by rw [sureOf_some]; exact hsv) (by rw [List.length_append]; exact Nat.succ_le_succ hln) hai
    · exact on_end (story := story ++ [none]) (ai := ai) (ev := ev) (by assumption) (by assumption) (by rfl) (by rfl) (by rfl) (by k_mem) (by k_mem) (by k_mem) (by k_mem) (by k_mem) (by k_mem) (by k_mem) (by k_mem) (by k_mem) hoc hys hlen (by omega) (by omega)
        hch0 hch20 hne0 hes (by simpa using StoryAre.append hss (.mark .nil)) has (by rw [hev, List.filterMap_append]; simp) (by rw [sureOf_none, hev]) (by rw [List.length_append]; exact Nat.succ_le_succ hln) hai
    all_goals exact off_end (by assumption) (by assumption) (by rfl) (by rfl) (by k_mem) (by k_mem) (by k_mem) (by k_mem) (by k_mem) (by k_mem) hoc hys hlen (by omega) (by omega) (by simp only [ChainC, chainN_cons, chainN_one, and_true]; exact ⟨hc0, hc1, hc2, hc3, hc4, hc5⟩)

theorem len63 {ns : List Int} {f : Int → Int} : ((ns.take 63).map f).length ≤ 63 := by
  rw [List.length_map, List.length_take]; omega

set_option maxRecDepth 100000 in
/-- the main loop, from its start to its end -/
theorem loop_use {w : World} {mean : ExcName → Option Value} {mg mb : Str → Option Value} {L fa : Addr} {cd : Value} {h₀ : Heap} {s : Shared} {m : Str → Option Value} {all : List (Addr × Obj)} {Q : Flow → Shared → Prop} {E : Value → Shared → Prop}
    {r : Addr} {b : Int} {tu uu vu : Tok}
    {dk D x d e : Addr} {ys : List Value} {ns : List Int} {k sv : Int} {t t1 t2 t3 t4 : Tok} {n : Nat} {oc : Obj}
    (B : Below callerA h₀ [] h₀) (X : (hd.heap_39 w.params).In h₀) (T : Top hd.view_39 (looseW hd.view_39 []) mean mg mb h₀)
    (hr : IsRange s.heap r 0 b 1 tu uu vu) (hb0 : 0 ≤ b) (hb : b ≤ 16) (F : Fr h₀ L s.heap m) (N : News h₀ L s.heap all)
    (h1 : m "own_recorder" = some (.ref x)) (h2 : m "story" = some .none)
    (q1 : (dk, listOf #[.ref D, .int k t] n) ∈ all) (q2 : (D, PyProof.Rows.LCg.lst ys) ∈ all) (q3 : (L + 1, oc) ∈ all)
    (q4 : (x, instObj 66 d) ∈ all) (q5 : (d, recDict w.params t1 t2 t3 false (.ref e) (.int sv t4)) ∈ all)
    (hoc : oc.data = .cell (some (.ref dk))) (hys : IntsAre ys ns) (hlen : ns.length ≤ 63) (hk0 : 0 ≤ k) (hk1 : k ≤ 1)
    (hc0 : @Ne Nat D (L + 1)) (hc : @LT.lt Nat _ (L + 1) dk ∧ @LT.lt Nat _ D dk ∧ @LT.lt Nat _ dk d ∧ @LT.lt Nat _ d x)
    (done : ∀ (I : Addr) (m' : Str → Option Value) (nw : List (Addr × Obj)) (h : Heap) (tk : Nat), LoopJ w.params (L + 1) I b.toNat m' nw → Fr h₀ L h m' → News h₀ L h nw → Q .next { s with heap := h, toks := tk }) :
    wpAny (model PySem.Challenge.rw_oj0013_01.row.prog w) (callerA.deeper (envOfC (Str.ofString "law") lawScope L fa cd)) (pyIter (.ref r))
      (fun it s₂ => LoopAtV PySem.Challenge.rw_oj0013_01.row.prog w (callerA.deeper (envOfC (Str.ofString "law") lawScope L fa cd)) h₀ (envOfC (Str.ofString "law") lawScope L fa cd) (Str.ofString "nth") turnBody Q E it s₂) E s := by
  have N1 : News h₀ L s.heap [(dk, listOf #[.ref D, .int k t] n), (D, PyProof.Rows.LCg.lst ys), (L + 1, oc), (x, instObj 66 d), (d, recDict w.params t1 t2 t3 false (.ref e) (.int sv t4))] := by
    intro p hp
    refine N p ?_
    simp only [List.mem_cons, List.not_mem_nil, or_false] at hp
    rcases hp with rfl | rfl | rfl | rfl | rfl <;> assumption
  refine krs_iter (n := b.toNat) (by rfl) hr (small_one (by omega) (by omega) (by omega) (by omega)) (by rw [rangeSize_nat]; omega) F N1 (fun I' l1' => ?_)
  obtain ⟨hc1, hc2, hc3, hc4⟩ := hc
  have hx : x < I' := l1' (x, instObj 66 d) (by simp)
  refine rest_inv (LoopJ w.params (L + 1) I') ?turn ?fin _ 0 _ _ (by omega) (LoopJ.off (t1 := t1) (t2 := t2) (t3 := t3) (t4 := t4) (t := t) (n := n) (e := e) (sv := sv) (d := d) (D := D) (k := k) h1 h2 hoc hys hlen hk0 (by omega) ?_)
  case turn =>
    intro i m₁ nw t h tk oI hi hJ hoI F' N'
    exact turn_tells w mean mg mb L fa cd h₀ { s with heap := h, toks := tk } I' oI i (by omega) _ m₁ nw Q E B X T hJ F' N'
  case fin =>
    intro m₁ nw h tk hJ F' N'
    exact done I' m₁ nw h tk hJ F' N'
  · simp only [ChainC, chainN_cons, chainN_one, and_true]
    exact ⟨hc0, hc1, hc2, hc3, hc4, hx⟩

local macro_rules | `(tactic| walk_at "pyIter ref") => `(tactic| k_extra "pyIter ref")
local macro_rules | `(tactic| walk_at "call ref") => `(tactic| k_extra "call ref")
local macro_rules | `(tactic| walk_at "call type:tuple") => `(tactic| k_extra "call type:tuple")
local macro_rules | `(tactic| walk_at "compareOp Eq ref ref") => `(tactic| k_extra "compareOp Eq ref ref")

set_option maxRecDepth 100000 in
set_option maxHeartbeats 8000000 in
theorem law_holds : PySem.Challenge.rw_oj0013_01.Holds := by
  k_with_none
  (k_with "pyIter ref" => (refine halt ?_))
  (k_with "call ref" => (k_dflt (refine' draw_use (draw_tells _ _ _ _) (by k_asm) (by k_asm) (by k_asm) (by k_asm) (by k_asm) (by rfl) (by k_mem) (by k_mem) (by assumption) len63 (by omega) (by omega) (by decide) (by decide) ?hR ?hd ?hu ?_; (case hR => (repeat' (first | exact Rest.nil | apply Rest.drop | (apply Rest.keep; first | assumption | exact Ne.symm (by assumption) | k_ne)))); (case hd => ktr_room); (case hu => ktr_units); (intro r' tr' t' h' tk' hr0' hr1' F' N'; (try k_sweep)))))
  (k_with "call ref" => (k_dflt (refine' sure_use (sure_tells _ _ _ _) (by k_asm) (by k_asm) (by k_asm) (by k_asm) (by k_asm) (by rfl) (by k_mem) (by k_mem) hss has (by omega) (by omega) ?hd ?hu ?_; (case hd => ktr_room); (case hu => ktr_units); (intro T' vs' n' h' tk' hv' l1' F' N'; (try k_lt l1'); (try k_sweep)))))
  (k_with "call type:tuple" => (k_dflt (refine' tuple_ints (by k_asm) (by k_asm) (by k_mem) (by assumption) (by omega) ?_; (intro D' h' F' N' l1'; (try k_lt l1'); (try k_sweep)))))
  (k_with "compareOp Eq ref ref" => (k_dflt (refine' eq_tuples (by k_asm) (by k_mem) (by k_mem) (by assumption) (by assumption) hcut (by units_room) ?_)))
  refine hd ?_
  k_go0
  all_goals try k_fold
  k_steps
  refine go_on ?_
  (rename Fr _ _ _ _ => lF'); (rename News _ _ _ _ => lN'); (rename IsRange _ _ _ _ _ _ _ _ => lR'); (rename IntsAre _ (List.map _ _) => hys')
  (rename Below _ _ _ _ => lB')
  refine loop_use (by k_asm) (by k_asm) (by k_asm) lR' (by omega) (by omega) lF' lN' (by rfl) (by rfl) (by k_mem) (by k_mem) (by k_mem) (by k_mem) (by k_mem) (by assumption) hys' len63 (by omega) (by omega) ?hc0 ?hc ?done
  case hc0 => exact Ne.symm (And.right (by assumption))
  case hc =>
    refine ⟨?_, ?_, ?_, ?_⟩ <;> omega
  case done =>
    intro I' m' nw' h' tk' hJ' F' N'
    clear lF' lN' lR' lB'
    dsimp only
    cases hJ' with
    | off hm1 hm2 hoc hys hlen hk0 hk1 hap =>
      rename_i dk D x d e ys ns k sv t t1 t2 t3 t4 n oc
      unfold recDict at N'
      replace F' := fr_done [("own_recorder", .ref x), ("story", .none)] (by simp [hm1, hm2]) F'
      clear hm1 hm2
      k_steps
    | on hm1 hm2 hm3 hoc hys hlen hk0 hk1 hch hch2 hne hes hss has hev hsv hln hai =>
      rename_i dk D x d e st ah ys es ss as ns ev ai story k sv t t1 t2 t3 t4 n n1 n2 n3 oc
      simp only [ChainC, chainN_cons, chainN_one, and_true] at hch hch2
      obtain ⟨hc0, hc1, hc2, hc3, hc4, hc5, hc6, hc7⟩ := hch
      simp only [allNe_cons, allNe_nil, and_true] at hne
      obtain ⟨hn1, hn2, hn3, hn4, hn5, hn6⟩ := hne
      have hle : es.length ≤ 100 := by
        have h1 := List.length_filterMap_le id story
        rw [hes.length, hev, List.length_append]; omega
      have hle2 : ev.length ≤ 100 := by rw [← hes.length]; exact hle
      have hcut := sure_cut hev hsv
      have hls : ss.length ≤ 100 := by rw [hss.length]; omega
      unfold recDict at N'
      replace F' := fr_done [("own_recorder", .ref x), ("story", .ref st), ("ahead", .ref ah)] (by simp [hm1, hm2, hm3]) F'
      clear hm1 hm2 hm3
      k_steps

end Mine

theorem PySem.Challenge.cw_oj0013_01_holds : PySem.Challenge.rw_oj0013_01.Holds := by
  exact Mine.law_holds
