import Derived.Test.YtelhmdpejebkoaaGreatDoorM1
import Derived.MapKept
import Derived.Deep.AppendSrc
import Derived.Laws.MakeOwn
import Derived.Laws.IdiomStrings
import Derived.Laws.LoneSync
import Derived.KernelRfl
import Derived.OrdersIn
import Derived.RangeFuncIn
set_option linter.unusedVariables false
set_option linter.unusedSimpArgs false

/-
  Maps: what a key is, where it is found, what is put and what is cut. Conditions stand at each law.
-/
namespace Go.AM
variable {P : Program} {ρ : Emb}

/-! ## Lists in another order -/
theorem all2_perm {α β : Type} {R : α → β → Prop} {xs ys : List α} (hp : xs.Perm ys) : ∀ {l : List β}, All2 R xs l → ∃ m, l.Perm m ∧ All2 R ys m := by
  induction hp with
  | nil => intro l h; cases h; exact ⟨[], .refl _, .nil⟩
  | cons x _ ih =>
    intro l h
    cases h with
    | cons hx hr => obtain ⟨m, h1, h2⟩ := ih hr; exact ⟨_, h1.cons _, .cons hx h2⟩
  | swap x y l =>
    intro k h
    cases h with
    | cons hx hr => cases hr with
      | cons hy hr => exact ⟨_, .swap _ _ _, .cons hy (.cons hx hr)⟩
  | trans _ _ ih1 ih2 =>
    intro l h
    obtain ⟨m, h1, h2⟩ := ih1 h
    obtain ⟨n, h3, h4⟩ := ih2 h2
    exact ⟨n, h1.trans h3, h4⟩

theorem forall₂_set {α β : Type} {R : α → β → Prop} {l : List α} {m : List β} (h : All2 R l m) (i : Nat) {x : α} {y : β} (hx : R x y) : All2 R (l.set i x) (m.set i y) := by
  induction h generalizing i with
  | nil => exact .nil
  | cons ha ht ih => cases i with
    | zero => exact .cons hx ht
    | succ i => exact .cons ha (ih i)
theorem forall₂_eraseIdx {α β : Type} {R : α → β → Prop} {l : List α} {m : List β} (h : All2 R l m) (i : Nat) : All2 R (l.eraseIdx i) (m.eraseIdx i) := by
  induction h generalizing i with
  | nil => exact .nil
  | cons ha ht ih => cases i with
    | zero => exact ht
    | succ i => exact .cons ha (ih i)
theorem forall₂_mem {α β : Type} {R : α → β → Prop} {l : List α} {m : List β} (h : All2 R l m) {y : β} (hy : y ∈ m) : ∃ x ∈ l, R x y := by
  induction h with
  | nil => cases hy
  | cons ha ht ih => rcases List.mem_cons.1 hy with rfl | hy
                     · exact ⟨_, by simp, ha⟩
                     · obtain ⟨x, h1, h2⟩ := ih hy; exact ⟨x, by simp [h1], h2⟩

/-! ## Keys -/
theorem sameL_eq {x y : List Nat} (h : sameL x y = true) : x = y := by rw [sameL_iff] at h; exact beq_iff_eq.1 h

theorem cellEq_true {x y : Sc} (h : cellEq x y = some true) : x = y := by
  cases x <;> cases y <;> simp only [cellEq] at h <;> try cases h
  · rename_i p q; simp only [Option.some.injEq, boolEq_iff, beq_iff_eq] at h; rw [h]
  · rename_i k a j b
    cases hk : kindEq k j with
    | false => rw [hk] at h; cases h
    | true =>
      obtain rfl := kindEq_iff hk
      rw [hk, cond_true] at h
      simp only [Option.some.injEq, intEq_iff, beq_iff_eq] at h; rw [h]
  · simp only [Option.some.injEq] at h; rw [sameL_eq h]
theorem kindEq_refl (k : IntKind) : kindEq k k = true := by cases k <;> rfl
theorem sameL_refl (l : List Nat) : sameL l l = true := by rw [sameL_iff]; simp
theorem cellEq_false {x y : Sc} (h : cellEq x y = some false) : x ≠ y := by
  rintro rfl
  cases x <;> simp only [cellEq] at h <;> try cases h
  · simp [boolEq_iff] at h
  · rename_i k a; rw [kindEq_refl, cond_true] at h; simp [intEq_iff] at h
  · rw [sameL_refl] at h; cases h
theorem cellsEq_true {a b : List Sc} (h : cellsEq a b = some true) : a = b := by
  induction a generalizing b with
  | nil => cases b with
    | nil => rfl
    | cons _ _ => cases h
  | cons x a ih => cases b with
    | nil => cases h
    | cons y b =>
      simp only [cellsEq] at h
      split at h
      · rename_i p q h1 h2
        cases p with
        | false => cases h
        | true => cases h; rw [cellEq_true h1, ih h2]
      · cases h
theorem cellsEq_false {a b : List Sc} (h : cellsEq a b = some false) : a ≠ b := by
  rintro rfl
  induction a with
  | nil => cases h
  | cons x a ih =>
    simp only [cellsEq] at h
    split at h
    · rename_i p q h1 h2
      cases p with
      | false => exact cellEq_false h1 rfl
      | true => cases h; exact ih h2
    · cases h
theorem keyEq_true {x y : AV} (h : keyEq x y = some true) : x = y := by
  cases x <;> cases y <;> simp only [keyEq] at h <;> try cases h
  · rw [cellEq_true h]
  · rw [cellsEq_true h]
theorem keyEq_false {x y : AV} (h : keyEq x y = some false) : x ≠ y := by
  cases x <;> cases y <;> simp only [keyEq] at h <;> try cases h
  · intro e; cases e; exact cellEq_false h rfl
  · intro e; cases e; exact cellsEq_false h rfl
theorem isKey_iff {x y : AV} {t : Bool} (h : keyEq x y = some t) : isKey x y = true ↔ x = y := by
  unfold isKey; rw [h]
  cases t with
  | true => simp [keyEq_true h]
  | false => simp [keyEq_false h]

theorem cmpAll_all {k : AV} : ∀ {es : List (AV × AV)}, cmpAll k es = true → ∀ e ∈ es, ∃ t, keyEq k e.1 = some t
  | [], _, _, he => by cases he
  | x :: r, h, e, he => by
    unfold cmpAll at h
    split at h
    · rename_i t ht
      rcases List.mem_cons.1 he with rfl | he
      · exact ⟨_, ht⟩
      · exact cmpAll_all h e he
    · cases h

theorem find_some {k v : AV} : ∀ {es : List (AV × AV)}, cmpAll k es = true → find k es = some v → ∃ i : Nat, es[i]? = some (k, v)
  | [], _, h => by cases h
  | (q, u) :: r, h, hf => by
    obtain ⟨t, ht⟩ := cmpAll_all h (q, u) (by simp)
    have hr : cmpAll k r = true := by unfold cmpAll at h; simp only [ht] at h; exact h
    unfold find at hf
    by_cases hk : k = q
    · rw [(isKey_iff ht).2 hk, cond_true] at hf; cases hf; exact ⟨0, by simp [hk]⟩
    · have : isKey k q = false := by rw [← Bool.not_eq_true, isKey_iff ht]; exact hk
      rw [this, cond_false] at hf
      obtain ⟨i, hi⟩ := find_some hr hf
      exact ⟨i + 1, by simpa using hi⟩

theorem find_none {k : AV} : ∀ {es : List (AV × AV)}, cmpAll k es = true → find k es = none → ∀ e ∈ es, k ≠ e.1
  | [], _, _ => by simp
  | (q, u) :: r, h, hf => by
    obtain ⟨t, ht⟩ := cmpAll_all h (q, u) (by simp)
    have hr : cmpAll k r = true := by unfold cmpAll at h; simp only [ht] at h; exact h
    unfold find at hf
    by_cases hk : k = q
    · rw [(isKey_iff ht).2 hk, cond_true] at hf; cases hf
    · have : isKey k q = false := by rw [← Bool.not_eq_true, isKey_iff ht]; exact hk
      rw [this, cond_false] at hf
      have := find_none hr hf
      simp only [List.mem_cons, forall_eq_or_imp]; exact ⟨hk, this⟩

theorem put_none {k v : AV} : ∀ {es : List (AV × AV)}, cmpAll k es = true → (put k v es = none ↔ ∀ e ∈ es, k ≠ e.1)
  | [], _ => by simp [put]
  | (q, u) :: r, h => by
    obtain ⟨t, ht⟩ := cmpAll_all h (q, u) (by simp)
    have hr : cmpAll k r = true := by unfold cmpAll at h; simp only [ht] at h; exact h
    have ih := put_none (v := v) hr
    unfold put
    by_cases hk : k = q
    · rw [(isKey_iff ht).2 hk]; simp [hk]
    · have : isKey k q = false := by rw [← Bool.not_eq_true, isKey_iff ht]; exact hk
      rw [this]; simp only [cond_false, List.mem_cons, forall_eq_or_imp]
      cases hp : put k v r with
      | none => simp only [true_iff]; exact ⟨hk, ih.1 hp⟩
      | some r' =>
        constructor
        · intro h; cases h
        · rintro ⟨_, h2⟩; rw [ih.2 h2] at hp; cases hp

/-- An entry that is put where one is: it lies at a place, whose key was the same. -/
theorem put_some {k v : AV} : ∀ {es es' : List (AV × AV)}, cmpAll k es = true → put k v es = some es' → ∃ i u, es[i]? = some (k, u) ∧ es' = es.set i (k, v)
  | [], _, _, h => by cases h
  | (q, u) :: r, es', h, hp => by
    obtain ⟨t, ht⟩ := cmpAll_all h (q, u) (by simp)
    have hr : cmpAll k r = true := by unfold cmpAll at h; simp only [ht] at h; exact h
    unfold put at hp
    by_cases hk : k = q
    · rw [(isKey_iff ht).2 hk, cond_true] at hp; cases hp
      exact ⟨0, u, by simp [hk], by simp [List.set]⟩
    · have : isKey k q = false := by rw [← Bool.not_eq_true, isKey_iff ht]; exact hk
      rw [this, cond_false] at hp
      split at hp
      · rename_i r' hr'
        cases hp
        obtain ⟨i, u', h1, h2⟩ := put_some hr hr'
        exact ⟨i + 1, u', by simpa using h1, by rw [h2]; rfl⟩
      · cases hp

theorem cut_eq {k : AV} : ∀ {es : List (AV × AV)}, cmpAll k es = true → (cut k es = es ∧ ∀ e ∈ es, k ≠ e.1) ∨ ∃ i u, es[i]? = some (k, u) ∧ cut k es = es.eraseIdx i
  | [], _ => .inl ⟨rfl, by simp⟩
  | (q, u) :: r, h => by
    obtain ⟨t, ht⟩ := cmpAll_all h (q, u) (by simp)
    have hr : cmpAll k r = true := by unfold cmpAll at h; simp only [ht] at h; exact h
    unfold cut
    by_cases hk : k = q
    · rw [(isKey_iff ht).2 hk, cond_true]
      exact .inr ⟨0, u, by simp [hk], rfl⟩
    · have : isKey k q = false := by rw [← Bool.not_eq_true, isKey_iff ht]; exact hk
      rw [this, cond_false]
      rcases cut_eq hr with ⟨h1, h2⟩ | ⟨i, u', h1, h2⟩
      · exact .inl ⟨by rw [h1], by simp only [List.mem_cons, forall_eq_or_imp]; exact ⟨hk, h2⟩⟩
      · exact .inr ⟨i + 1, u', by simpa using h1, by rw [h2]; rfl⟩

/-! ## A key, as a type's value -/
theorem cellEq_ck {k : CK} {x y : Sc} {t : Bool} (h : cellEq x y = some t) (hx : ckOk k x = true) : ckOk k y = true := by
  cases x <;> cases y <;> simp only [cellEq] at h <;> first | cases h; done | (cases k <;> first | rfl | cases hx)
theorem comp_cks : ∀ {ks : List CK} {a b : List Sc}, Comp a b → cksOk ks a = true → cksOk ks b = true
  | [], [], [], _, _ => rfl
  | [], [], _ :: _, h, _ => h.elim
  | [], _ :: _, _, _, h => by cases h
  | _ :: _, [], _, _, h => by cases h
  | _ :: _, _ :: _, [], h, _ => h.elim
  | k :: ks, x :: a, y :: b, h, hx => by
    unfold cksOk at hx ⊢
    cases hk : ckOk k x with
    | false => rw [hk] at hx; cases hx
    | true =>
      rw [hk, cond_true] at hx
      obtain ⟨⟨p, hp⟩, h2⟩ := h
      rw [cellEq_ck hp hk, cond_true]
      exact comp_cks h2 hx

theorem comp_of_keyEq {x y : AV} {t : Bool} (h : keyEq x y = some t) : Comp x.cells y.cells ∧ t = allEq x.cells y.cells := by
  cases x <;> cases y <;> simp only [keyEq] at h <;> try cases h
  · exact ⟨⟨⟨t, h⟩, trivial⟩, by simp [AV.cells, allEq, h]⟩
  · exact ⟨Comp.of_eq h, cellsEq_all h⟩

structure IsKeyAt (P : Program) (kt : TypeId) (k : AV) : Prop where
  shape : ∃ ks, shp P 50 kt = some ks ∧ cksOk ks k.cells = true
  fits : Fits P kt k

theorem IsKeyAt.of {kt : TypeId} {f : Bool × List (Nat × CK)} {k : AV} (hf : keyForm P kt = some f) (hk : keyOk f.1 f.2 k = true) : IsKeyAt P kt k := by
  unfold keyForm at hf
  cases hs : shp P 50 kt with
  | none => rw [hs] at hf; cases hf
  | some ks =>
    rw [hs] at hf; cases hf
    unfold keyOk at hk
    simp only [unruns_toRunsK] at hk
    split at hk
    · rename_i l ha
      exact ⟨⟨ks, hs, hk⟩, by unfold Fits; rw [ha]; exact ⟨l, rfl⟩⟩
    · rename_i x ha
      exact ⟨⟨ks, hs, hk⟩, by unfold Fits; rw [ha]; exact ⟨x, rfl⟩⟩
    · cases hk

theorem IsKeyAt.next {kt : TypeId} {k q : AV} {t : Bool} (h : IsKeyAt P kt k) (hq : keyEq k q = some t) : IsKeyAt P kt q := by
  obtain ⟨⟨ks, h1, h2⟩, h3⟩ := h
  refine ⟨⟨ks, h1, comp_cks (comp_of_keyEq hq).1 h2⟩, ?_⟩
  unfold Fits at h3 ⊢
  cases ha : aggOf P kt with
  | true =>
    rw [ha] at h3
    obtain ⟨l, rfl⟩ : ∃ l, k = .g l := h3
    show ∃ l, q = .g l
    cases q <;> simp only [keyEq] at hq <;> first | exact ⟨_, rfl⟩ | cases hq
  | false =>
    rw [ha] at h3
    obtain ⟨l, rfl⟩ : ∃ l, k = .c l := h3
    show ∃ l, q = .c l
    cases q <;> simp only [keyEq] at hq <;> first | exact ⟨_, rfl⟩ | cases hq

theorem key_equal {kt : TypeId} {k q : AV} {k' q' : Value} {t : Bool} (h : IsKeyAt P kt k) (hq : keyEq k q = some t) (hk' : RelV0 ρ k k') (hq' : RelV0 ρ q q') (w : World) :
    (Op.equal kt k' q').run P w = .ok t w := by
  have h2 := h.next hq
  obtain ⟨⟨ks, h1, h3⟩, h4⟩ := h
  obtain ⟨⟨ks', h5, h6⟩, h7⟩ := h2
  rw [h1] at h5; cases h5
  obtain ⟨c1, c2⟩ := comp_of_keyEq hq
  rw [equal_eq, shp_eq (ρ := ρ) 50 kt ks h1 10000 (by omega) k q k' q' w hk' hq' h4 h7 h3 h6 c1, c2]

/-! ## A key's form is looked at -/
theorem run_forIn_unit {α : Type} {f : α → Sem PUnit} {w : World} : ∀ (l : List α), (∀ x ∈ l, (f x).run P w = .ok ⟨⟩ w) → (forIn l PUnit.unit (fun x _ => do f x; pure (ForInStep.yield PUnit.unit)) : Sem PUnit).run P w = .ok ⟨⟩ w
  | [], _ => rfl
  | x :: l, h => by
    simp only [List.forIn_cons, Sem.run_bind, h x (by simp), Result.andThen_ok, Sem.run_pure]
    exact run_forIn_unit l fun y hy => h y (by simp [hy])

def CheckOk (P : Program) (ρ : Emb) (em : Bool) (d : Nat) : Prop := ∀ (t : TypeId) (ks : List CK), shp P d t = some ks → ∀ (D : Nat), d ≤ D → ∀ (x : AV) (x' : Value) (w : World), RelV0 ρ x x' → Fits P t x → cksOk ks x.cells = true →
  (Instr.checkKey em D t x').run P w = .ok () w

theorem check_fields {em : Bool} {d : Nat} (ih : CheckOk P ρ em d) {D : Nat} (hD : d ≤ D) {a : List Sc} {xs : Array Value} (ha : RelL ρ a xs.toList) (w : World) : ∀ (fs : List Field) (off : Nat) (ks : List CK),
    off ≤ a.length → shpF (shp P d) fs off = some ks → cksOk ks (a.drop off) = true →
    (forIn fs PUnit.unit (fun (f : Field) (_ : PUnit) => (if f.name ≠ "_" then (do
      let p ← part f.type xs f.offset
      Instr.checkKey em D f.type p
      pure (ForInStep.yield PUnit.unit)) else pure (ForInStep.yield PUnit.unit) : Sem (ForInStep PUnit))) : Sem PUnit).run P w = .ok ⟨⟩ w := by
  intro fs
  induction fs with
  | nil => intro off ks _ _ _; rfl
  | cons f fs ihf =>
    intro off ks oa h h1
    simp only [shpF] at h
    split at h
    · rename_i hn
      simp only [ne_eq, Bool.and_eq_true, decide_eq_true_eq] at hn
      obtain ⟨hname, hoff⟩ := hn
      split at h
      · rename_i k1 hk1
        split at h
        · rename_i k2 hk2
          cases h
          obtain ⟨h11, h12⟩ := cksOk_append h1
          have l1 := cksOk_length h1
          simp only [List.length_append, List.length_drop] at l1
          obtain ⟨v, v', p1, r1, f1, c1⟩ := part_rel hk1 ha (off := off) (by omega) w
          have e := ih f.type k1 hk1 D hD v v' w r1 f1 (by rw [c1]; exact h11)
          rw [List.drop_drop] at h12
          have e2 := ihf (off + k1.length) k2 (by omega) hk2 h12
          simp only [List.forIn_cons, ne_eq, hname, not_false_eq_true, if_true, Sem.run_bind, hoff, p1, Result.andThen_ok, e, Sem.run_pure]
          simpa using e2
        · cases h
      · cases h
    · cases h

theorem check_items {em : Bool} {d : Nat} (ih : CheckOk P ρ em d) {D : Nat} (hD : d ≤ D) {e : TypeId} {k1 : List CK} (hk1 : shp P d e = some k1) (hs : szOf P e = some k1.length) {a : List Sc} {xs : Array Value} (ha : RelL ρ a xs.toList) (w : World) : ∀ (n i : Nat),
    i * k1.length + n * k1.length = a.length → cksOk (List.replicate n k1).flatten (a.drop (i * k1.length)) = true →
    (forIn (List.range' i n) PUnit.unit (fun i _ => do Instr.checkKey em D e (← part e xs (i * (← sizeOf e))); pure (ForInStep.yield PUnit.unit)) : Sem PUnit).run P w = .ok ⟨⟩ w := by
  intro n
  induction n with
  | zero => intro i _ _; rfl
  | succ n ihn =>
    intro i la h1
    rw [List.replicate_succ, List.flatten_cons] at h1
    obtain ⟨h11, h12⟩ := cksOk_append h1
    rw [Nat.succ_mul] at la
    obtain ⟨v, v', p1, r1, f1, c1⟩ := part_rel hk1 ha (off := i * k1.length) (by omega) w
    have e := ih e k1 hk1 D hD v v' w r1 f1 (by rw [c1]; exact h11)
    have hi : i * k1.length + k1.length = (i + 1) * k1.length := by rw [Nat.succ_mul]
    rw [List.drop_drop, hi] at h12
    have e2 := ihn (i + 1) (by omega) h12
    rw [List.range'_succ]
    simp only [List.forIn_cons, Sem.run_bind, run_sizeOf' hs, p1, Result.andThen_ok, e, Sem.run_pure]
    simpa using e2

theorem shp_check (em : Bool) (d : Nat) : CheckOk P ρ em d := by
  induction d with
  | zero => intro t ks h; cases h
  | succ d ih =>
    intro t ks h D hD x x' w hx fx cx
    obtain ⟨D, rfl⟩ : ∃ E, D = E + 1 := ⟨D - 1, by omega⟩
    simp only [shp] at h
    unfold Fits aggOf at fx
    have plain : ∀ u, P.underlying t = some u → (∀ m, u ≠ .interface m) → (∀ n e, u ≠ .array n e) → (∀ f, u ≠ .struct f) → (Instr.checkKey em (D + 1) t x').run P w = .ok () w := by
      intro u hu h1 h2 h3
      unfold Instr.checkKey
      simp only [Sem.run_bind, run_underlying hu, Result.andThen_ok]
      cases u <;> first | exact absurd rfl (h1 _) | exact absurd rfl (h2 _ _) | exact absurd rfl (h3 _) | rfl
    split at h
    · rename_i hu; exact plain _ hu (by simp) (by simp) (by simp)
    · rename_i hu; exact plain _ hu (by simp) (by simp) (by simp)
    · rename_i hu; exact plain _ hu (by simp) (by simp) (by simp)
    · rename_i fs hu
      rw [hu] at fx
      obtain ⟨a, rfl⟩ : ∃ s, x = .g s := fx
      obtain ⟨xs, rfl, ha⟩ := hx
      split at h
      · cases h
      · split at h
        · rename_i l hl
          split at h
          · cases h
            have cx : cksOk _ a = true := cx
            unfold Instr.checkKey
            simp only [Sem.run_bind, run_underlying hu, Result.andThen_ok, ← Array.forIn_toList]
            have := check_fields ih (D := D) (by omega) ha w fs.toList 0 _ (by omega) hl (by simpa using cx)
            rw [this]; rfl
          · cases h
        · cases h
    · rename_i n e hu
      rw [hu] at fx
      obtain ⟨a, rfl⟩ : ∃ s, x = .g s := fx
      obtain ⟨xs, rfl, ha⟩ := hx
      split at h
      · rename_i l hl
        split at h
        · rename_i hs
          cases h
          have la := cksOk_length cx
          simp only [AV.cells] at la
          have hl2 : (List.replicate n l).flatten.length = n * l.length := by simp
          have cx : cksOk _ a = true := cx
          unfold Instr.checkKey
          simp only [Sem.run_bind, run_underlying hu, Result.andThen_ok]
          simp only [Std.Legacy.Range.forIn_eq_forIn_range', Std.Legacy.Range.size, Nat.sub_zero, Nat.add_one_sub_one, Nat.div_one]
          have := check_items ih (D := D) (by omega) hl hs.1 ha w n 0 (by omega) (by simpa using cx)
          rw [this]; rfl
        · cases h
      · cases h
    · cases h

theorem key_check {kt : TypeId} {k : AV} {k' : Value} (h : IsKeyAt P kt k) (hk : RelV0 ρ k k') (em : Bool) (w : World) : (Instr.checkKey em 10000 kt k').run P w = .ok () w := by
  obtain ⟨⟨ks, h1, h2⟩, h3⟩ := h
  exact shp_check (ρ := ρ) em 50 kt ks h1 10000 (by omega) k k' w hk h3 h2

/-! ## A key is found -/
/-- The place of a key among the entries. -/
inductive Hit (k : AV) (fs : List (AV × AV)) : Option Nat → Prop
  | none : (∀ e ∈ fs, k ≠ e.1) → Hit k fs none
  | some (i : Nat) (u : AV) : fs[i]? = some (k, u) → Hit k fs (some i)

theorem key_int {k : AV} {j : IntKind} {n : Int} (h : RelV0 ρ k (.int j n)) : k = .c (.i j n) := by
  cases k with
  | c x => cases x <;> simp [RelV0, RelS] at h <;> simp [h]
  | g l => obtain ⟨cs, h, _⟩ := h; cases h
  | t l => exact h.elim
theorem key_bool {k : AV} {b : Bool} (h : RelV0 ρ k (.bool b)) : k = .c (.b b) := by
  cases k with
  | c x => cases x <;> simp [RelV0, RelS] at h <;> simp [h]
  | g l => obtain ⟨cs, h, _⟩ := h; cases h
  | t l => exact h.elim
theorem key_string {k : AV} {s : ByteArray} (h : RelV0 ρ k (.string s)) : k = .c (.s (s.data.toList.map UInt8.toNat)) := by
  cases k with
  | c x => cases x <;> simp [RelV0, RelS] at h <;> simp [h]
  | g l => obtain ⟨cs, h, _⟩ := h; cases h
  | t l => exact h.elim

theorem same_now {u : TypeDesc} {k q : AV} {k' q' : Value} {t b : Bool} (hk : RelV0 ρ k k') (hq : RelV0 ρ q q') (h : keyEq k q = some t) (hb : Instr.sameNow u k' q' = some b) : b = t := by
  unfold Instr.sameNow at hb
  split at hb
  · split at hb
    · rename_i e; subst e
      rw [key_int hk, key_int hq] at h
      simp only [keyEq, cellEq, kindEq_refl, cond_true, intEq_iff, Option.some.injEq] at h
      cases hb; exact h
    · cases hb
  · rw [key_string hk, key_string hq] at h
    simp only [keyEq, cellEq, Option.some.injEq] at h
    cases hb; rw [← h]; exact beqBytes rfl rfl
  · rw [key_bool hk, key_bool hq] at h
    simp only [keyEq, cellEq, Option.some.injEq, boolEq_iff] at h
    cases hb; exact h
  · cases hb

theorem findNow_hit {u : TypeDesc} {k : AV} {k' : Value} (hk : RelV0 ρ k k') : ∀ {fs : List (AV × AV)} {ms : List MapEntry} {i : Nat} {r : Option (Nat × Value)},
    All2 (RelE ρ) fs ms → cmpAll k fs = true → Instr.findNow u k' ms i = some r →
    (r = none ∧ ∀ e ∈ fs, k ≠ e.1) ∨ ∃ j m q, r = some (i + j, m.val) ∧ ms[j]? = some m ∧ fs[j]? = some (k, q) := by
  intro fs ms i r h hc hr
  induction h generalizing i with
  | nil => cases hr; exact .inl ⟨rfl, by simp⟩
  | @cons e m fs ms he _ ih =>
    obtain ⟨q, v⟩ := e
    obtain ⟨t, ht⟩ := cmpAll_all hc (q, v) (by simp)
    have hcr : cmpAll k fs = true := by unfold cmpAll at hc; simp only [ht] at hc; exact hc
    unfold Instr.findNow at hr
    cases hs : Instr.sameNow u k' m.key with
    | none => rw [hs] at hr; cases hr
    | some b =>
      obtain rfl := same_now hk he.1 ht hs
      rw [hs] at hr
      cases b with
      | true => cases hr; exact .inr ⟨0, m, v, rfl, by simp, by rw [keyEq_true ht]; simp⟩
      | false =>
        rcases ih hcr hr with ⟨h1, h2⟩ | ⟨j, m', q', h1, h2, h3⟩
        · exact .inl ⟨h1, by simp only [List.mem_cons, forall_eq_or_imp]; exact ⟨keyEq_false ht, h2⟩⟩
        · exact .inr ⟨j + 1, m', q', by rw [h1]; congr 2; omega, by simpa using h2, by simpa using h3⟩

theorem findAsking_hit {kt : TypeId} {k : AV} {k' : Value} (hK : IsKeyAt P kt k) (hk : RelV0 ρ k k') (w : World) : ∀ {fs : List (AV × AV)} {ms : List MapEntry} {i : Nat},
    All2 (RelE ρ) fs ms → cmpAll k fs = true → 
    ((Instr.findAsking kt k' ms i).run P w = .ok none w ∧ ∀ e ∈ fs, k ≠ e.1) ∨ ∃ j m q, (Instr.findAsking kt k' ms i).run P w = .ok (some (i + j, m.val)) w ∧ ms[j]? = some m ∧ fs[j]? = some (k, q) := by
  intro fs ms i h hc
  induction h generalizing i with
  | nil => exact .inl ⟨rfl, by simp⟩
  | @cons e m fs ms he _ ih =>
    obtain ⟨q, v⟩ := e
    obtain ⟨t, ht⟩ := cmpAll_all hc (q, v) (by simp)
    have hcr : cmpAll k fs = true := by unfold cmpAll at hc; simp only [ht] at hc; exact hc
    have he' := key_equal hK ht hk he.1 w
    unfold Instr.findAsking
    simp only [Sem.run_bind, he', Result.andThen_ok]
    cases t with
    | true => exact .inr ⟨0, m, v, rfl, by simp, by rw [keyEq_true ht]; simp⟩
    | false =>
      simp only [Bool.false_eq_true, if_false]
      rcases ih (i := i + 1) hcr with ⟨h1, h2⟩ | ⟨j, m', q', h1, h2, h3⟩
      · exact .inl ⟨h1, by simp only [List.mem_cons, forall_eq_or_imp]; exact ⟨keyEq_false ht, h2⟩⟩
      · exact .inr ⟨j + 1, m', q', by rw [h1]; congr 3; omega, by simpa using h2, by simpa using h3⟩

theorem findKey_hit {kt : TypeId} {k : AV} {k' : Value} (hK : IsKeyAt P kt k) (hk : RelV0 ρ k k') (w : World) {fs : List (AV × AV)} {ms : List MapEntry} (h : All2 (RelE ρ) fs ms) (hc : cmpAll k fs = true) :
    ((Instr.findKey kt k' ms).run P w = .ok none w ∧ ∀ e ∈ fs, k ≠ e.1) ∨ ∃ j m q, (Instr.findKey kt k' ms).run P w = .ok (some (j, m.val)) w ∧ ms[j]? = some m ∧ fs[j]? = some (k, q) := by
  obtain ⟨⟨ks, h1, _⟩, _⟩ := id hK
  obtain ⟨u, hu⟩ := shp_und h1
  unfold Instr.findKey
  simp only [Sem.run_bind, run_underlying hu, Result.andThen_ok]
  cases hn : Instr.findNow u k' ms 0 with
  | none =>
    rcases findAsking_hit hK hk w (i := 0) h hc with h2 | ⟨j, m, q, h2, h3⟩
    · exact .inl h2
    · exact .inr ⟨j, m, q, by simpa using h2, h3⟩
  | some r =>
    rcases findNow_hit hk h hc hn with ⟨rfl, h2⟩ | ⟨j, m, q, rfl, h3⟩
    · exact .inl ⟨rfl, h2⟩
    · exact .inr ⟨j, m, q, by simp, h3⟩

end Go.AM

/-
  Operations that make memory. Conditions stand at each law.
-/
namespace Go.AM
variable {P : Program} {ρ : Emb}

/-- What an operation does: its value, and the heaps behind it. -/
def Does (P : Program) (ρ : Emb) (h : Hp) (w : World) (s : Sem Value) (v : AV) (h' : Hp) : Prop :=
  ∃ v' w' ρ', s.run P w = .ok v' w' ∧ RelV ρ' v v' ∧ RelH P ρ' h' w' ∧ Step ρ h w ρ' h' w'
def Acts (P : Program) (ρ : Emb) (h : Hp) (w : World) (s : Sem Unit) (h' : Hp) : Prop :=
  ∃ w' ρ', s.run P w = .ok () w' ∧ RelH P ρ' h' w' ∧ Step ρ h w ρ' h' w'

def NextIs (ρ : Emb) (v : AV) : Next → Prop
  | .value v' => RelV ρ v v'
  | .skip => v = .t []
  | _ => False

def DoesN (P : Program) (ρ : Emb) (h : Hp) (w : World) (s : Sem Next) (v : AV) (h' : Hp) : Prop :=
  ∃ n w' ρ', s.run P w = .ok n w' ∧ NextIs ρ' v n ∧ RelH P ρ' h' w' ∧ Step ρ h w ρ' h' w'

theorem Does.next {h h' : Hp} {w : World} {s : Sem Value} {v : AV} (d : Does P ρ h w s v h') : DoesN P ρ h w (do pure (Next.value (← s))) v h' := by
  obtain ⟨v', w', ρ', h1, h2, h3, h4⟩ := d
  exact ⟨.value v', w', ρ', by simp [h1], h2, h3, h4⟩
theorem Acts.next {h h' : Hp} {w : World} {s : Sem Unit} (d : Acts P ρ h w s h') : DoesN P ρ h w (do s; pure Next.skip) (.t []) h' := by
  obtain ⟨w', ρ', h1, h3, h4⟩ := d
  exact ⟨.skip, w', ρ', by simp [h1], rfl, h3, h4⟩
theorem Acts.does {h h' : Hp} {w : World} {s : Sem Unit} (d : Acts P ρ h w s h') : Does P ρ h w (do s; pure (.tuple #[])) (.t []) h' := by
  obtain ⟨w', ρ', h1, h3, h4⟩ := d
  exact ⟨.tuple #[], w', ρ', by simp [h1], RelV.undef _, h3, h4⟩
theorem Gives.does {h : Hp} {w : World} {s : Sem Value} {v : AV} (H : RelH P ρ h w) (g : Gives P ρ w s v) : Does P ρ h w s v h := by
  obtain ⟨v', h1, h2⟩ := g
  exact ⟨v', w, ρ, h1, h2, H, Step.refl _ _ _⟩

/-! ## A new row -/
theorem frozen_row {w : World} {b j : Nat} {C : Array Value} {t : TypeId} {fr : Nat × Nat} (hb : w.heap[b]? = some (.cells C t fr)) (hf : fr.2 ≤ fr.1 ∨ C.size ≤ fr.1) (hj : j < C.size) : w.frozen? ⟨b, j, none⟩ = false := by
  unfold World.frozen?
  simp only [hb]
  obtain ⟨lo, hi⟩ := fr
  simp only at hf
  rw [Bool.and_eq_false_iff, decide_eq_false_iff_not, decide_eq_false_iff_not]
  omega

theorem relB_row {w : World} {b : Nat} {C : Array Value} {t : TypeId} {fr : Nat × Nat} (hb : w.heap[b]? = some (.cells C t fr)) (hf : fr.2 ≤ fr.1 ∨ C.size ≤ fr.1) {R : Rope Sc} (hR : R.ok) (wr : Bool)
    (hl : RelL ρ R.toList (C.toList.take R.toList.length)) : RelB P ρ w b 0 C.size (.cells wr R) := by
  have hlen := forall₂_length hl
  rw [List.length_take, Array.length_toList] at hlen
  refine ⟨hR, C.toList.take R.toList.length, fun j v hv => ?_, hl, fun _ => ⟨fun j hj => ?_, ?_⟩⟩
  · rw [Nat.zero_add, cell_of_row w b j C t fr hb]
    rw [List.getElem?_take] at hv
    split at hv
    · simpa using hv
    · cases hv
  · rw [Nat.zero_add, cell_of_row w b j C t fr hb, frozen_row hb hf hj]
    exact ⟨by simp [hj], rfl⟩
  · simp; omega

/-- What an operation makes: whoever names the block, the value and the block are as told. -/
def Makes (P : Program) (ρ : Emb) (w : World) (s : Sem Value) (B : Blk) (f : Id → AV) : Prop :=
  ∃ v' w' ob e, s.run P w = .ok v' w' ∧ World.more w ob w' ∧ B.wr = true ∧ ∀ r ρ', ρ.le ρ' → ρ' r = some (w.heap.size, 0) → ρ'.e r = e → RelV ρ' (f r) v' ∧ RelB P ρ' w' w.heap.size 0 e B

theorem Makes.does {h : Hp} {w : World} {s : Sem Value} {B : Blk} {f : Id → AV} (H : RelH P ρ h w) (m : Makes P ρ w s B f) : Does P ρ h w s (f h.next) (h.new B) := by
  obtain ⟨v', w', ob, e, h1, h2, h3, h4⟩ := m
  have h5 := h4 h.next (ρ.put h.next (w.heap.size, 0) e) (Emb.le_put H.none_next) (Emb.put_same _ _ _ _) (Emb.put_e _ _ _ _)
  obtain ⟨r1, r2⟩ := H.new h2 h5.2
  exact ⟨v', w', _, h1, h5.1, r1, r2⟩

theorem RelH.row {h : Hp} {w w' : World} (H : RelH P ρ h w) {C : Array Value} {t : TypeId} {fr : Nat × Nat} (hw : World.more w (.cells C t fr) w') (hf : fr.2 ≤ fr.1 ∨ C.size ≤ fr.1) {R : Rope Sc} (hR : R.ok)
    (hl : RelL ρ R.toList (C.toList.take R.toList.length)) :
    RelH P (ρ.put h.next (w.heap.size, 0) C.size) (h.new (.cells true R)) w' ∧ Step ρ h w (ρ.put h.next (w.heap.size, 0) C.size) (h.new (.cells true R)) w' :=
  H.new hw (relB_row (more_new hw) hf hR true (hl.mono (Emb.le_put H.none_next)))

theorem more_alloc (w : World) (o : Obj) : World.more w o (w.alloc o) := ⟨rfl, rfl, rfl, rfl⟩
theorem more_drew (w : World) (o : Obj) : World.more w o (w.drew.alloc o) := ⟨rfl, rfl, rfl, rfl⟩

theorem run_newVar (t : TypeId) (v : Value) (w : World) : (newVar t v).run P w = .ok ⟨w.heap.size, 0, none⟩ (w.alloc (.cells v.cells t)) := by
  simp [newVar, newRow]

/-- A pointer to a new row. -/
theorem new_ptr {w : World} {t : TypeId} {v : Value} {l : List Sc} (hl : RelL ρ l v.cells.toList) :
    Makes P ρ w (do pure (.pointer (some (← newVar t v)))) (.cells true (ropeOf l)) fun r => .c (.p r 0) := by
  have hlen := forall₂_length hl
  refine ⟨.pointer (some ⟨w.heap.size, 0, none⟩), _, _, v.cells.size, by simp only [Sem.run_bind, run_newVar, Result.andThen_ok, Sem.run_pure], more_alloc w (.cells v.cells t), rfl, fun r ρ' hle hr he => ⟨⟨_, rfl, _, _, hr, rfl⟩, ?_⟩⟩
  exact relB_row (more_new (more_alloc w (.cells v.cells t))) (.inl (Nat.le_refl _)) (ropeOf_ok l) true (by rw [ropeOf_toList, hlen, List.take_length]; exact hl.mono hle)

theorem aNew_sound {w : World} {t : TypeId} {z : List Sc} (hz : zeroC P t = some z) : ∃ B f, (∀ tm k, AOp.new' (toRuns z) tm k = k B f) ∧ Makes P ρ w (Instr.alloc t true (.tuple #[])) B f := by
  obtain ⟨zv, hz1, hz2, hz3⟩ := zero_run (ρ := ρ) hz w
  refine ⟨.cells true (ropeOf z), fun r => .c (.p r 0), fun tm k => ?_, ?_⟩
  · unfold AOp.new'; rw [runs_toRuns z hz3, forceL_eq]
  · obtain ⟨v', w', ob, e, h1, h2⟩ := new_ptr (P := P) (w := w) (t := t) hz2
    refine ⟨v', w', ob, e, ?_, h2⟩
    simp only [Instr.alloc, Sem.run_bind, hz1, Result.andThen_ok]
    simpa using h1

theorem aBox_sound {w : World} {t : TypeId} {x : AV} {x' : Value} (hx : RelV ρ x x') : (∀ k, aBox x k = .no) ∨ ∃ B f, (∀ k, aBox x k = k B f) ∧ Makes P ρ w (Instr.box t x') B f := by
  unfold aBox boxV
  cases x with
  | t l => exact .inl fun _ => rfl
  | c x => exact .inr ⟨.cells true (ropeOf [x]), fun r => .c (.p r 0), fun k => by simp only [forceL_eq], new_ptr (RelV0.cells (x := .c x) hx)⟩
  | g l => exact .inr ⟨.cells true (ropeOf l), fun r => .c (.p r 0), fun k => by simp only [forceL_eq], new_ptr (RelV0.cells (x := .g l) hx)⟩

/-- A slice over a new row. -/
theorem new_slice {w w' : World} {C : Array Value} {t : TypeId} {fr : Nat × Nat} (hw : World.more w (.cells C t fr) w') (hf : fr.2 ≤ fr.1 ∨ C.size ≤ fr.1) {R : Rope Sc} (hR : R.ok)
    (hl : RelL ρ R.toList (C.toList.take R.toList.length)) {n cap : Nat} {c : Cap} (hn : n ≤ cap) (hc : ∀ m, c = .k m → cap = m) (hu : ∀ z, c = .u z → cap * z ≤ C.size) {s : Sem Value}
    (hs : s.run P w = .ok (.slice (some ⟨w.heap.size, 0, none⟩) n cap) w') : Makes P ρ w s (.cells true R) fun r => .c (.sl r 0 n c) := by
  refine ⟨_, _, _, C.size, hs, hw, rfl, fun r ρ' hle hr he => ⟨⟨_, _, rfl, hn, hc, fun _ => ⟨⟨_, _, hr, rfl⟩, fun z b q hz hb => ?_⟩⟩, relB_row (more_new hw) hf hR true (hl.mono hle)⟩⟩
  rw [hr] at hb; cases hb
  rw [he]; have := hu z hz; omega

/-! ## Rows of one value -/
theorem repL_get {α : Type} (l : List α) : ∀ (k i : Nat), i < k * l.length → (repL l k)[i]? = l[i % l.length]?
  | 0, i, h => by omega
  | k + 1, i, h => by
    rw [Nat.succ_mul] at h
    show (l ++ repL l k)[i]? = _
    rw [List.getElem?_append]
    split
    · rename_i hi; rw [Nat.mod_eq_of_lt hi]
    · rename_i hi
      rw [repL_get l k (i - l.length) (by omega)]
      congr 1
      rw [← Nat.mod_eq_sub_mod (by omega)]

theorem made_toList (z : Array Value) (k n : Nat) (hn : n = z.size) : (madeCells z (k * n)).toList = repL z.toList k := by
  subst hn
  apply List.ext_getElem?
  intro i
  by_cases hi : i < k * z.size
  · rw [repL_get z.toList k i (by simpa using hi)]
    have hz : 0 < z.size := by rcases Nat.eq_zero_or_pos z.size with h | h; rw [h] at hi; omega; exact h
    have hm : i % z.size < z.size := Nat.mod_lt _ hz
    unfold madeCells
    simp [hi, hm]
  · have h1 : (madeCells z (k * z.size)).toList.length ≤ i := by simp [size_madeCells]; omega
    have h2 : (repL z.toList k).length ≤ i := by rw [repL_length]; simp; omega
    rw [List.getElem?_eq_none_iff.2 h1, List.getElem?_eq_none_iff.2 h2]

theorem repL_rel {l : List Sc} {vs : List Value} (h : RelL ρ l vs) : ∀ k, RelL ρ (repL l k) (repL vs k)
  | 0 => .nil
  | k + 1 => forall₂_append h (repL_rel h k)

theorem repA_eq (k : Nat) (l : List Sc) : repA k l = repL l k := by
  unfold repA
  induction k with
  | zero => rfl
  | succ k ih => rw [List.replicate_succ, List.flatten_cons, ih]; rfl

theorem szZ_some {t : TypeId} {n : Nat} (h : szZ P t = some n) : szOf P t = some n ∧ ∃ z, zeroC P t = some z ∧ z.length = n := by
  unfold szZ at h
  split at h
  · rename_i m z h1 h2
    split at h
    · rename_i hz; cases h; exact ⟨h1, z, h2, hz⟩
    · cases h
  · cases h

/-- What a type says of itself. -/
theorem info_of {t : TypeId} {n : Nat} (h : szZ P t = some n) : ∃ (i : TypeInfo) (zv : Value) (z : List Sc), P.info? t = some i ∧ i.size = n ∧ i.zero = some zv ∧ zeroC P t = some z ∧ z.length = n ∧ zv.cells.size = n ∧ ∀ ρ : Emb, RelL ρ z zv.cells.toList := by
  obtain ⟨h1, z, h2, h3⟩ := szZ_some h
  unfold szOf at h1
  cases hi : P.info? t with
  | none => rw [hi] at h1; cases h1
  | some i =>
    rw [hi] at h1; cases h1
    have hz := h2
    unfold zeroC zeroOf at hz
    rw [hi] at hz
    simp only [Option.bind_some] at hz
    cases hzz : i.zero with
    | none => rw [hzz] at hz; cases hz
    | some zv =>
      have hrel : ∀ ρ : Emb, RelL ρ z zv.cells.toList := fun ρ => by
        obtain ⟨zv', hz1, hz2, _⟩ := zero_run (P := P) (ρ := ρ) h2 default
        have : (zeroValue t).run P default = .ok zv default := by simp [zeroValue, typeInfo, hi, hzz]
        rw [this] at hz1; cases hz1; exact hz2
      refine ⟨i, zv, z, rfl, rfl, hzz, h2, h3, ?_, hrel⟩
      have := forall₂_length (hrel ⟨fun _ => none, fun _ => 0⟩)
      simp at this; omega

theorem aMks_sound {w : World} {t e : TypeId} {sz bytes : Nat} {z : List Sc} {l c : AV} {l' c' : Value} (ht : P.underlying t = some (.slice e)) (hsz : szZ P e = some sz) (hb : byOf P e = some bytes) (hz : zeroC P e = some z)
    (hl : RelV ρ l l') (hc : RelV ρ c c') : (∀ k, aMks sz bytes z l c k = .no) ∨ ∃ B f, (∀ k, aMks sz bytes z l c k = k B f) ∧ Makes P ρ w (Instr.makeSlice t l' c') B f := by
  obtain ⟨i, zv, z', hi, hsize, hiz, hz', hzl, hzs, hrel⟩ := info_of hsz
  rw [hz] at hz'; cases hz'
  have hbytes : i.bytes = bytes := by unfold byOf at hb; rw [hi] at hb; cases hb; rfl
  unfold aMks
  split
  · rename_i kl n kc m
    have hl : l' = .int kl (n : Nat) := hl
    have hc : c' = .int kc (m : Nat) := hc
    subst hl hc
    cases h1 : Nat.ble n m with
    | false => exact .inl fun _ => rfl
    | true =>
      cases h2 : Nat.ble (Nat.mul m bytes) 1099511627776 with
      | false => exact .inl fun _ => rfl
      | true =>
        cases h3 : Nat.ble m 1099511627776 with
        | false => exact .inl fun _ => rfl
        | true =>
          rw [Nat.ble_eq] at h1 h2 h3
          have h2 : m * bytes ≤ 1099511627776 := h2
          have hrun := run_make (P := P) w t e i zv ht hi hiz kl kc (n : Nat) (m : Nat) (by omega) (by omega) (by rw [hbytes, ← Int.natCast_mul, Nat.mul_comm]; omega) (by omega)
          simp only [Int.toNat_natCast, hsize] at hrun
          have hsp := ropeRep_spec z sz 40 m hzl
          refine .inr ⟨_, _, fun k => rfl, new_slice (C := madeCells zv.cells (m * sz)) (more_alloc w _) (.inl (Nat.le_refl _)) hsp.1 ?_ h1 (fun x hx => by cases hx; rfl) (fun x hx => by cases hx) hrun⟩
          rw [hsp.2, made_toList _ _ _ hzs.symm]
          have hrl := repL_rel (hrel ρ) m
          rw [forall₂_length hrl, List.take_length]; exact hrl
  · exact .inl fun _ => rfl

theorem aMkm_sound {w : World} {t : TypeId} : ∃ B f, (∀ tm k, AOp.mkm' tm k = k B f) ∧ Makes P ρ w (Instr.makeMap t none) B f := by
  have hw := more_alloc w (.map #[] 0)
  exact ⟨_, _, fun _ _ => rfl, .map (some w.heap.size), _, _, 0, by simp [Instr.makeMap], hw, rfl, fun r ρ' hle hr he => ⟨⟨_, hr, rfl⟩, rfl, #[], [], more_new hw, .refl _, .nil, .nil, by simp, by simp⟩⟩

theorem bytesRow_take (s : ByteArray) (cap : Nat) : (bytesRow s cap).toList.take s.size = s.data.toList.map fun b => Value.int .u8 b.toNat := by
  have hs : s.size = (s.data.toList.map fun b => Value.int .u8 b.toNat).length := by rw [size_len, List.length_map]
  unfold bytesRow
  rw [Array.toList_append, List.take_append_of_le_length (by rw [hs]; simp), hs, Array.toList_map, List.take_length]

theorem bytes_rel (l : List UInt8) : RelL ρ ((l.map UInt8.toNat).map fun b => Sc.i .u8 (.ofNat b)) (l.map fun b => Value.int .u8 b.toNat) := by
  induction l with
  | nil => exact .nil
  | cons b l ih => exact .cons rfl ih

theorem aS2b_sound {w : World} {s d e : TypeId} {x : AV} {x' : Value} (hs : P.underlying s = some .string) (hd : P.underlying d = some (.slice e)) (he : P.underlying e = some (.int .u8))
    (hx : RelV ρ x x') : (∀ k, aS2b x k = .no) ∨ ∃ B f, (∀ k, aS2b x k = k B f) ∧ Makes P ρ w (convert s d x') B f := by
  unfold aS2b
  split
  · rename_i l
    obtain ⟨str, rfl, rfl⟩ := hx
    have hrun := run_bytes_of_string (P := P) w s d e str hs hd he
    have hge := grownCap_ge w str.size 0 e
    have hsz : (bytesRow str (grownCap w str.size 0 e)).size = grownCap w str.size 0 e := by
      unfold bytesRow; rw [Array.size_append, Array.size_map, Array.size_replicate]; show str.size + _ = _; omega
    have hlen : ((str.data.toList.map UInt8.toNat).map fun b => Sc.i .u8 (.ofNat b)).length = str.size := by simp only [List.length_map]; exact (size_len str).symm
    have hlen' : (str.data.toList.map UInt8.toNat).length = str.size := by simp only [List.length_map]; exact (size_len str).symm
    refine .inr ⟨.cells true (ropeOf ((str.data.toList.map UInt8.toNat).map fun b => Sc.i .u8 (.ofNat b))), fun r => .c (.sl r 0 (str.data.toList.map UInt8.toNat).length (.u 1)), fun k => by simp only [forceL_eq, forceN_eq], ?_⟩
    rw [hlen']
    refine new_slice (C := bytesRow str (grownCap w str.size 0 e)) (more_drew w _) (.inr (Nat.le_refl _)) (ropeOf_ok _) ?_ hge (fun m hm => by cases hm) (fun z hz => ?_) hrun
    · rw [ropeOf_toList, hlen, bytesRow_take]; exact bytes_rel _
    · cases hz; rw [hsz, Nat.mul_one]; exact Nat.le_refl _
  · exact .inl fun _ => rfl

end Go.AM

/-
  Operations that store. Conditions stand at each law.
-/
namespace Go.AM
variable {P : Program} {ρ : Emb}

/-! ## Cells that are stored -/
theorem onlyAt_refl (w : World) (b : Nat) : World.onlyAt w w b := ⟨rfl, fun _ _ => rfl, rfl, rfl, rfl⟩
theorem onlyAt_trans {w w' w'' : World} {b : Nat} (h : World.onlyAt w w' b) (h' : World.onlyAt w' w'' b) : World.onlyAt w w'' b :=
  ⟨h'.1.trans h.1, fun k hk => (h'.2.1 k hk).trans (h.2.1 k hk), h'.2.2.1.trans h.2.2.1, h'.2.2.2.1.trans h.2.2.2.1, h'.2.2.2.2.trans h.2.2.2.2⟩
theorem onlyAt_setCell (w : World) (a : Addr) (v : Value) : World.onlyAt w (w.setCell a v) a.block := by
  refine ⟨by simp [World.setCell], fun k hk => ?_, rfl, rfl, rfl⟩
  simp only [World.setCell, Array.getElem?_modify]
  rw [if_neg (fun e => hk e.symm)]
theorem onlyAt_setCells (b : Nat) : ∀ (vs : List Value) (o : Nat) (w : World), World.onlyAt w (w.setCells b o vs) b
  | [], _, w => onlyAt_refl w b
  | v :: vs, o, w => onlyAt_trans (onlyAt_setCell w ⟨b, o, none⟩ v) (onlyAt_setCells b vs (o + 1) _)

theorem there_all {w : World} {b e : Nat} (h : w.there b 0 e) (j : Nat) (hj : j < e) : (w.cell? ⟨b, j, none⟩).isSome = true ∧ w.frozen? ⟨b, j, none⟩ = false := by
  have := h j hj; rwa [Nat.zero_add] at this

theorem run_store_list {w : World} {b o e : Nat} {vs : List Value} (ht : w.there b 0 e) (he : o + vs.length ≤ e) (h1 : ∀ v ∈ vs, v.oneCell' = true) : (storeCells ⟨b, o, none⟩ vs).run P w = .ok () (w.setCells b o vs) := by
  have := run_storeCells_cells (P := P) b o vs 0 w (fun j hj => (there_all ht (o + 0 + j) (by omega)).1) (fun j hj => (there_all ht (o + 0 + j) (by omega)).2) h1
  simpa using this

theorem range_over {w : World} {b o1 o e : Nat} {vs us : List Value} (hr : w.rangeAt b o1 vs) (ht : w.there b 0 e) (he : o1 + o + us.length ≤ e) (hv : o + us.length ≤ vs.length) :
    (w.setCells b (o1 + o) us).rangeAt b o1 (over vs o us) := fun j v hj => by
  rw [over_get] at hj
  split at hj
  · rename_i h
    have h0 : o1 + j = o1 + o + (j - o) := by omega
    have hlt : j - o < us.length := by omega
    rw [h0, World.cell?_setCells_in b us (o1 + o) w (fun i hi => (there_all ht _ (by omega)).1) (j - o) hlt]
    rw [List.getElem?_eq_getElem hlt] at hj; exact hj
  · rename_i h
    have hlt : j < vs.length := (List.getElem?_eq_some_iff.1 hj).1
    rw [World.cell?_setCells_out b us (o1 + o) w ⟨b, o1 + j, none⟩ (fun _ _ => by
      have : ¬ (o ≤ j ∧ j < o + us.length) := fun hh => h ⟨hh.1, hh.2, hlt⟩
      show o1 + j < o1 + o ∨ o1 + o + us.length ≤ o1 + j
      omega)]
    exact hr j v hj

theorem over_list_rel {z l : List Sc} {cs vs : List Value} {o : Nat} (hz : RelL ρ z cs) (hl : RelL ρ l vs) : RelL ρ (over z o l) (over cs o vs) := by
  have h1 := forall₂_length hz
  have h2 := forall₂_length hl
  refine forall₂_of_get (by rw [over_length, over_length, h1]) fun i x y hx hy => ?_
  rw [over_get] at hx hy
  rw [h1, h2] at hx
  split at hx
  · rename_i hc
    rw [if_pos hc] at hy
    obtain ⟨y', hy', hr⟩ := forall₂_get hl _ x hx
    rw [hy] at hy'; cases hy'; exact hr
  · rename_i hc
    rw [if_neg hc] at hy
    obtain ⟨y', hy', hr⟩ := forall₂_get hz _ x hx
    rw [hy] at hy'; cases hy'; exact hr

theorem store_sound {h h' : Hp} {w : World} {r : Id} {o n : Nat} {l : List Sc} {vs : List Value} {A : Addr} (H : RelH P ρ h w) (hs : store h r o n l = some h') (hn : l.length = n) (hl : RelL ρ l vs) (hA : n ≠ 0 → At ρ r o A) :
    ∃ w', (storeCells A vs).run P w = .ok () w' ∧ RelH P ρ h' w' ∧ Step ρ h w ρ h' w' := by
  unfold store at hs
  have hlen := forall₂_length hl
  by_cases h0 : n = 0
  · have hz : Nat.beq n 0 = true := by rw [Nat.beq_eq]; exact h0
    rw [hz, cond_true] at hs; cases hs
    have : vs = [] := List.length_eq_zero_iff.1 (by omega)
    subst this
    exact ⟨w, rfl, H, Step.refl _ _ _⟩
  · have hz : Nat.beq n 0 = false := by rw [← Bool.not_eq_true, Nat.beq_eq]; exact h0
    rw [hz, cond_false] at hs
    obtain ⟨b, o1, hρ, rfl⟩ := hA h0
    split at hs
    · rename_i c hg
      obtain ⟨b', o', us, h2, _, hok, h3, h4, h5⟩ := H.cells hg
      rw [hρ] at h2; cases h2
      obtain ⟨ht, he⟩ := h5 rfl
      split at hs
      · rename_i x hx
        rw [Rope.writeK_eq, Hp.setK_eq] at hs; cases hs
        rw [Rope.get_eq c hok] at hx
        have hlt := (List.getElem?_eq_some_iff.1 hx).1
        have hlt : o + n - 1 < c.toList.length := hlt
        have hc := forall₂_length h4
        have hw := Rope.write_spec c hok o n l hn
        refine ⟨w.setCells b (o1 + o) vs, run_store_list ht (by omega) hl.one, ?_⟩
        refine H.upd hg hρ rfl (onlyAt_setCells b vs _ w) ⟨hw.1, over us o vs, range_over h3 ht (by omega) (by omega), ?_, fun _ => ⟨World.there_setCells ht _ _ _, by rw [over_length]; exact he⟩⟩
        rw [hw.2]; exact over_list_rel h4 hl
      · cases hs
    · cases hs

theorem eSt_sound {h h' : Hp} {w : World} {t : TypeId} {n : Nat} {x v r : AV} {x' v' : Value} (H : RelH P ρ h w) (hn : szOf P t = some n) (hx : RelV ρ x x') (hv : RelV ρ v v') (hr : eSt n x v h = .ok r h') :
    r = .t [] ∧ Acts P ρ h w (Instr.storeAt t x' v') h' := by
  have hv0 : (∀ l, v ≠ .t l) → RelV0 ρ v v' := fun hne => by
    cases v with
    | t l => exact absurd rfl (hne l)
    | _ => exact hv
  unfold eSt at hr
  split at hr
  · cases hr
  · rename_i hne
    obtain ⟨A, rfl, hA⟩ := hx
    cases hb : Nat.beq v.cells.length n with
    | false => rw [hb] at hr; cases hr
    | true =>
      rw [hb, cond_true] at hr
      rw [Nat.beq_eq] at hb
      split at hr
      · rename_i h2 hs
        cases hr
        have hc := (hv0 (fun l e => hne l e)).cells
        obtain ⟨w', h3, h4, h5⟩ := store_sound H hs hb hc (fun _ => hA)
        refine ⟨rfl, w', ρ, ?_, h4, h5⟩
        have hlen := forall₂_length hc
        have hsz : v'.cells.size = n := by rw [← Array.length_toList]; omega
        simp [Instr.storeAt, Instr.sureAddr, storeVar, run_sizeOf' hn, hsz, h3]
      · cases hr
  · cases hr

/-! ## Reading ahead of a store -/
theorem lenNat_sound {x : AV} {x' : Value} {n : Nat} (hx : RelV ρ x x') (h : lenNat x = some n) (w : World) : (Builtin.lenOf x').run P w = .ok n w := by
  unfold lenNat at h
  split at h
  · have hx : x' = .slice none 0 0 := hx
    subst hx; cases h; rfl
  · obtain ⟨a, cap, rfl, _⟩ := hx
    cases h; rfl
  · obtain ⟨s, rfl, rfl⟩ := hx
    cases h
    simp only [List.length_map]; exact congrArg (fun n => Result.ok n w) (size_len s)
  · cases h

theorem loadCells_zero (a : Addr) (w : World) : (loadCells a 0).run P w = .ok #[] w := rfl

theorem firsts_sound {h : Hp} {w : World} {sz n : Nat} {x : AV} {x' : Value} {l : List Sc} (H : RelH P ρ h w) (hx : RelV ρ x x') (hf : firsts sz n x h = some l) (hn : ∀ m, lenNat x = some m → n ≤ m) :
    ∃ vs, (∀ w', (∀ a, w'.cell? a = w.cell? a) → (Builtin.firstCells sz n x').run P w' = .ok vs.toArray w') ∧ RelL ρ l vs ∧ l.length = n * sz := by
  unfold firsts at hf
  split at hf
  · have hx : x' = .slice none 0 0 := hx
    subst hx
    cases hb : Nat.beq n 0 with
    | false => rw [hb] at hf; cases hf
    | true =>
      rw [hb, cond_true] at hf; cases hf
      rw [Nat.beq_eq] at hb; subst hb
      exact ⟨[], fun w' _ => rfl, .nil, by simp⟩
  · rename_i r o len c
    obtain ⟨a, cap, rfl, h1, _, h3⟩ := hx
    cases hb : Nat.beq (Nat.mul n sz) 0 with
    | true =>
      rw [hb, cond_true] at hf; cases hf
      have hb : n * sz = 0 := Nat.beq_eq.mp hb
      refine ⟨[], fun w' _ => ?_, .nil, by simp [hb]⟩
      show (loadCells a (n * sz)).run P w' = _
      rw [hb]; rfl
    | false =>
      rw [hb, cond_false] at hf
      have hb : ¬ n * sz = 0 := fun e => by
        have : Nat.beq (n * sz) 0 = true := by rw [Nat.beq_eq]; exact e
        exact absurd (this.symm.trans hb) (by simp)
      have hn0 : n ≠ 0 := fun e => hb (by rw [e]; simp)
      have := hn len rfl
      obtain ⟨⟨b, o1, hρ, rfl⟩, _⟩ := h3 (by omega)
      obtain ⟨b', o', vs, h4, h5, h6, h7⟩ := readN_sound H hf
      rw [hρ] at h4; cases h4
      refine ⟨vs, fun w' hw' => ?_, h6, h7⟩
      have hlen := forall₂_length h6
      have h7 : l.length = n * sz := h7
      show (loadCells _ (n * sz)).run P w' = _
      rw [← h7, hlen]
      exact run_loadCells_list (P := P) w' _ vs fun j v hv => by rw [Addr.add_mid, hw']; exact h5 j v hv
  · rename_i bs
    obtain ⟨s, rfl, rfl⟩ := hx
    cases hb : Nat.beq sz 1 with
    | false => rw [hb] at hf; cases hf
    | true =>
      rw [hb, cond_true] at hf; cases hf
      rw [Nat.beq_eq] at hb; subst hb
      have hle := hn _ rfl
      rw [List.length_map] at hle
      refine ⟨(s.data.toList.take n).map fun b => Value.int .u8 b.toNat, fun w' _ => ?_, ?_, ?_⟩
      · show (Sem.pure _).run P w' = _
        simp only [Sem.run, Result.ok.injEq, and_true]
        apply Array.ext'
        simp
      · rw [takeK_eq, ← List.map_take]; exact bytes_rel _
      · have := size_len s; rw [takeK_eq]; simp; omega
  · cases hf

theorem eCpy_sound {h h' : Hp} {w : World} {dt st ty e : TypeId} {sz : Nat} {d s r : AV} {d' s' : Value} (H : RelH P ρ h w) (ht : P.underlying dt = some (.slice e)) (hsz : szOf P e = some sz) (hd : RelV ρ d d') (hs : RelV ρ s s')
    (hr : eCpy sz d s h = .ok r h') : Does P ρ h w (Builtin.copy_ #[dt, st] ty #[d', s']) r h' := by
  unfold eCpy at hr
  split at hr
  · rename_i m hm
    have hd : d' = .slice none 0 0 := hd
    subst hd
    cases hr
    have hl := lenNat_sound (P := P) hs hm w
    have h0 : (Builtin.firstCells sz 0 s').run P w = .ok #[] w := by
      unfold lenNat at hm
      split at hm
      · have hs : s' = .slice none 0 0 := hs
        subst hs; rfl
      · obtain ⟨a, cap, rfl, _⟩ := hs
        show (loadCells a (0 * sz)).run P w = _
        rw [Nat.zero_mul]; rfl
      · obtain ⟨s, rfl, _⟩ := hs
        show (Sem.pure _).run P w = _
        simp [Sem.run]
      · cases hm
    refine Gives.does H ⟨.int .i64 (0 : Nat), ?_, by simp only [natAV, forceN_eq]; rfl⟩
    simp [Builtin.copy_, run_underlying ht, hl, run_sizeOf' hsz, h0, goInt]
  · rename_i m r2 o n c hm
    obtain ⟨A, cap, rfl, hnc, _, hA⟩ := hd
    simp only [forceN_eq] at hr
    split at hr
    · rename_i l hf
      split at hr
      · rename_i h2 hst
        cases hr
        have hl := lenNat_sound (P := P) hs hm w
        obtain ⟨vs, h3, h4, h5⟩ := firsts_sound H hs hf (fun m' hm' => by rw [hm] at hm'; cases hm'; exact Nat.min_le_left _ _)
        obtain ⟨w', h6, h7, h8⟩ := store_sound H hst h5 h4 (A := A) (fun hne => by
          have : Nat.min m n ≠ 0 := fun e0 => hne (by show Nat.min m n * sz = 0; rw [e0, Nat.zero_mul])
          have : Nat.min m n ≤ n := Nat.min_le_right _ _
          exact (hA (by omega)).1)
        refine ⟨.int .i64 (Nat.min m n : Nat), w', ρ, ?_, by simp only [natAV, forceN_eq]; rfl, h7, h8⟩
        simp [Builtin.copy_, run_underlying ht, hl, run_sizeOf' hsz, h3 w (fun _ => rfl), h6, goInt]
      · cases hr
    · cases hr
  · cases hr

theorem eSclr_sound {h h' : Hp} {w : World} {t ty e : TypeId} {z : List Sc} {x r : AV} {x' : Value} (H : RelH P ρ h w) (ht : P.underlying t = some (.slice e)) (hz : zeroC P e = some z) (hx : RelV ρ x x') (hr : eSclr z x h = .ok r h') :
    Does P ρ h w (Builtin.clear_ #[t] ty #[x']) r h' := by
  obtain ⟨zv, hz1, hz2, hz3⟩ := zero_run (ρ := ρ) hz w
  have hzl := forall₂_length hz2
  unfold eSclr at hr
  split at hr
  · have hx : x' = .slice none 0 0 := hx
    subst hx; cases hr
    exact Gives.does H ⟨.tuple #[], by simp [Builtin.clear_, run_underlying ht], RelV.undef _⟩
  · rename_i q o n c
    obtain ⟨A, cap, rfl, hnc, _, hA⟩ := hx
    split at hr
    · rename_i h2 hst
      cases hr
      have hrl := repL_rel hz2 n
      have hmade : (Builtin.zeroCells zv.cells n).toList = repL zv.cells.toList n := by
        have := made_toList zv.cells n zv.cells.size rfl
        exact this
      obtain ⟨w', h6, h7, h8⟩ := store_sound H hst (by rw [repL_length]; rfl) hrl (A := A) (fun hne => by
        have : n ≠ 0 := fun e0 => hne (by rw [e0]; exact Nat.zero_mul _)
        exact (hA (by omega)).1)
      refine ⟨.tuple #[], w', ρ, ?_, RelV.undef _, h7, h8⟩
      cases n with
      | zero =>
        have : w' = w := by
          have h6 : (storeCells A ([] : List Value)).run P w = .ok () w' := h6
          cases h6; rfl
        subst this
        simp [Builtin.clear_, run_underlying ht]
      | succ n => simp [Builtin.clear_, run_underlying ht, hz1, hmade, h6]
    · cases hr
  · cases hr

/-! ## A slice's literal -/
theorem repL_mem {α : Type} {l : List α} {x : α} : ∀ {k : Nat}, x ∈ repL l k → x ∈ l
  | 0, h => by cases h
  | k + 1, h => by
    have h : x ∈ l ++ repL l k := h
    rcases List.mem_append.1 h with h | h
    · exact h
    · exact repL_mem h

theorem aBls_sound {w : World} {t e : TypeId} {len n : Nat} {z : List Sc} {ps : List (Nat × Nat × Opd)} {qs : Array (Nat × Value)} {tm : Tm} (ht : P.underlying t = some (.slice e)) (hn : szZ P e = some n)
    (hz : zeroC P e = some z) (hle : ¬ (len * n > 16777216)) (hps : All2 (fun (p : Nat × Nat × Opd) (q : Nat × Value) => (fun i => some (i * n, n)) q.1 = some (p.1, p.2.1) ∧ RelV ρ (p.2.2.get tm) q.2) ps qs.toList) :
    (∀ k, AOp.bls' (toRuns (repA len z)) len ps tm k = .no) ∨ ∃ B f, (∀ k, AOp.bls' (toRuns (repA len z)) len ps tm k = k B f) ∧ Makes P ρ w (Instr.buildSlice t len qs) B f := by
  obtain ⟨i, zv, z', hi, hsize, hiz, hz', hzl, hzs, hrel⟩ := info_of hn
  rw [hz] at hz'; cases hz'
  obtain ⟨zv', hz1, _, hz3⟩ := zero_run (ρ := ρ) hz w
  have hzv : (zeroValue e).run P w = .ok zv w := by simp [zeroValue, typeInfo, hi, hiz]
  unfold AOp.bls'
  rw [repA_eq, runs_toRuns _ (fun x hx => hz3 x (repL_mem hx))]
  split
  · rename_i l hl
    have hmade := made_toList zv.cells len n hzs.symm
    obtain ⟨cs', h1, h2⟩ := layParts_sound (place := fun i => some (i * n, n)) hps (by rw [hmade]; exact repL_rel (hrel ρ) len) hl
    have hrun : (Instr.buildSlice t len qs).run P w = .ok (.slice (some ⟨w.heap.size, 0, none⟩) len len) (w.alloc (.cells cs' e)) := by
      have h1' : Instr.fill (fun i => some (i * n, n)) ((Array.range (len * n)).map (zv.cells[· % zv.cells.size]!)) qs.toList = some cs' := h1
      by_cases h0 : len * n = 0
      · have h1'' : Instr.fill (fun i => some (i * n, n)) #[] qs.toList = some cs' := by rw [h0] at h1'; simpa [Array.range_zero'] using h1'
        simp [Instr.buildSlice, run_underlying ht, sizeOf, typeInfo, hi, hsize, h0, h1'', newRow, Array.range_zero']
      · simp [Instr.buildSlice, run_underlying ht, sizeOf, typeInfo, hi, hsize, hle, h0, zeroValue, hiz, h1', newRow]
    have hlen := forall₂_length h2
    refine .inr ⟨.cells true (ropeOf l), fun r => .c (.sl r 0 len (.k len)), fun k => by simp only [forceL_eq], new_slice (C := cs') (more_alloc w _) (.inl (Nat.le_refl _)) (ropeOf_ok l) (by rw [ropeOf_toList, hlen, List.take_length]; exact h2) (Nat.le_refl _) (fun m hm => by cases hm; rfl) (fun z hz => by cases hz) hrun⟩
  · exact .inl fun _ => rfl

end Go.AM

/-
  'append'. Conditions stand at each law.
-/
namespace Go.AM
variable {P : Program} {ρ : Emb}

theorem run_append_room_any {w w' : World} {t tx ty e : TypeId} {i : TypeInfo} {A : Addr} {k c n : Nat} {x : Value} {news : List Value} (ht : P.underlying t = some (.slice e)) (hi : P.info? e = some i) (hs : Src P i.size tx x n news w)
    (hroom : k + n ≤ c) (hst : (storeCells (A.add (k * i.size)) news).run P w = .ok () w') :
    (Builtin.append_ #[t, tx] ty #[.slice (some A) k c, x]).run P w = .ok (.slice (some A) (k + n) c) w' := by
  rcases hs.kind with ⟨e', hk⟩ | hk <;> simp [Builtin.append_, run_underlying ht, run_underlying hk, sizeOf, typeInfo, hi, hs.len, hroom, hs.cells, hst]

theorem Step.does {h h₁ h' : Hp} {w w₁ : World} {ρ₁ : Emb} {s : Sem Value} {v : AV} (a : Step ρ h w ρ₁ h₁ w₁) (hw : w₁ = w) (d : Does P ρ₁ h₁ w₁ s v h') : Does P ρ h w s v h' := by
  subst hw
  obtain ⟨v', w', ρ', h1, h2, h3, h4⟩ := d
  exact ⟨v', w', ρ', h1, h2, h3, a.trans h4⟩

/-- A row that is larger than the cells that are known of it. -/
theorem grown_row {olds news : List Value} {z : Array Value} {sz need gc k n : Nat} (hz : z.size = sz) (ho : olds.length = k * sz) (hn : news.length = n * sz) (hneed : need = k + n) (hg : need ≤ gc) :
    ((olds ++ news).toArray ++ Builtin.zeroCells z (gc - need)).size = gc * sz ∧ ((olds ++ news).toArray ++ Builtin.zeroCells z (gc - need)).toList.take (olds ++ news).length = olds ++ news := by
  constructor
  · simp only [Array.size_append, List.size_toArray, List.length_append, ho, hn, size_zeroCells, hz]
    rw [← Nat.add_mul, ← Nat.add_mul]
    congr 1; omega
  · rw [Array.toList_append, List.take_append_of_le_length (by simp)]
    exact List.take_length

theorem beq_nat_true {a b : Nat} (h : Nat.beq a b = true) : a = b := Nat.beq_eq.mp h
theorem beq_nat_false {a b : Nat} (h : Nat.beq a b = false) : a ≠ b := fun e => by
  have : Nat.beq a b = true := by rw [Nat.beq_eq]; exact e
  rw [this] at h; cases h
theorem ble_nat_true {a b : Nat} (h : Nat.ble a b = true) : a ≤ b := by rwa [Nat.ble_eq] at h
theorem ble_nat_false {a b : Nat} (h : Nat.ble a b = false) : b < a := by
  rcases Nat.lt_or_ge b a with h' | h'
  · exact h'
  · rw [ble_t h'] at h; cases h

/-- Grown: a new row. -/
theorem append_grow {h : Hp} {w : World} {t tx ty e : TypeId} {sz bytes k n c : Nat} {base : Option Addr} {x : Value} {old new : List Sc} {olds news : List Value} (H : RelH P ρ h w) (ht : P.underlying t = some (.slice e))
    (hsz : szZ P e = some sz) (hb : byOf P e = some bytes) (hs : Src P sz tx x n news w) (hold : (Builtin.firstCells sz k (.slice base k c)).run P w.drew = .ok olds.toArray w.drew) (hol : olds.length = k * sz)
    (ho : RelL ρ old olds) (hn : RelL ρ new news) (hg : c < k + n) (hle : (k + n) * Nat.succ bytes ≤ 1099511627776) :
    Does P ρ h w (Builtin.append_ #[t, tx] ty #[.slice base k c, x]) (.c (.sl h.next 0 (k + n) (.u sz))) (h.new (.cells true (ropeOf (old ++ new)))) := by
  obtain ⟨i, zv, z', hi, hsize, hiz, hz', hzl, hzs, hrel⟩ := info_of hsz
  have hbytes : i.bytes = bytes := by unfold byOf at hb; rw [hi] at hb; cases hb; rfl
  subst hsize
  have hle : (k + n) * (bytes + 1) ≤ 1099511627776 := hle
  have h1 : (k + n) * (bytes + 1) = (k + n) * bytes + (k + n) := Nat.mul_succ _ _
  have hfit := growslice_fits (bytes := i.bytes) hg (by rw [hbytes]; omega)
  have hrun := run_append_grow_src (P := P) w t tx ty e i zv ht hi hiz base k c olds hold x n news hs hg (by omega) hfit
  have hge := grownCap_ge w (k + n) c e
  obtain ⟨r1, r2⟩ := grown_row (gc := grownCap w (k + n) c e) hzs hol hs.newsLen rfl hge
  have hlen := forall₂_length (forall₂_append ho hn)
  refine (new_slice (more_drew w _) (.inl (Nat.le_refl _)) (ropeOf_ok _) ?_ hge (fun m hm => by cases hm) (fun z hz => by cases hz; rw [r1]; exact Nat.le_refl _) hrun).does H
  rw [ropeOf_toList, hlen, r2]
  exact forall₂_append ho hn

theorem eApp_sound {h h' : Hp} {w : World} {t tx ty e : TypeId} {sz bytes : Nat} {s x r : AV} {s' x' : Value} (H : RelH P ρ h w) (ht : P.underlying t = some (.slice e)) (htx : (∃ e', P.underlying tx = some (.slice e')) ∨ P.underlying tx = some .string)
    (hsz : szZ P e = some sz) (hb : byOf P e = some bytes) (hs : RelV ρ s s') (hx : RelV ρ x x') (hr : eApp sz bytes s x h = .ok r h') : Does P ρ h w (Builtin.append_ #[t, tx] ty #[s', x']) r h' := by
  obtain ⟨i, zv, z', hi, hsize, hiz, hz', hzl, hzs, hrel⟩ := info_of hsz
  unfold eApp at hr
  split at hr
  · cases hr
  · rename_i n hln
    have hsrc : ∀ {new : List Sc}, firsts sz n x h = some new → ∃ news, Src P sz tx x' n news w ∧ RelL ρ new news ∧ new.length = n * sz := fun hf => by
      obtain ⟨vs, h3, h4, h5⟩ := firsts_sound H hx hf (fun m hm => by rw [hln] at hm; cases hm; exact Nat.le_refl _)
      exact ⟨vs, ⟨htx, fun w' => lenNat_sound hx hln w', h3 w (fun _ => rfl), h3 w.drew (fun _ => rfl), by rw [← forall₂_length h4]; exact h5, h4.one⟩, h4, h5⟩
    split at hr
    · have hs : s' = .slice none 0 0 := hs
      subst hs
      split at hr
      · rename_i new hf
        obtain ⟨news, hS, hN, hNl⟩ := hsrc hf
        cases h0 : Nat.beq n 0 with
        | true =>
          rw [h0, cond_true] at hr; cases hr
          have h0 := beq_nat_true h0
          subst h0
          refine Gives.does H ⟨.slice none 0 0, ?_, rfl⟩
          have hcl : (Builtin.firstCells i.size 0 x').run P w = .ok news.toArray w := by rw [hsize]; exact hS.cells
          rcases hS.kind with ⟨e', hk⟩ | hk <;> simp [Builtin.append_, run_underlying ht, run_underlying hk, sizeOf, typeInfo, hi, hS.len, hcl]
        | false =>
          rw [h0, cond_false] at hr
          have h0 := beq_nat_false h0
          cases h1 : Nat.ble (Nat.mul n (Nat.succ bytes)) 1099511627776 with
          | false => rw [h1] at hr; cases hr
          | true =>
            rw [h1, cond_true] at hr
            have h1 := ble_nat_true h1
            unfold appNew at hr
            simp only [forceL_eq, Hp.newK_eq] at hr
            cases hr
            have := append_grow (k := 0) (c := 0) (base := none) (old := []) (olds := []) (ty := ty) H ht hsz hb hS rfl (by simp) .nil hN (by omega) (by rw [Nat.zero_add]; exact h1)
            simpa using this
      · cases hr
    · rename_i q o k cap
      obtain ⟨A, c, rfl, hkc, hc, hA⟩ := hs
      simp only [forceN_eq] at hr
      split at hr
      · cases hr
      · rename_i new hf
        obtain ⟨news, hS, hN, hNl⟩ := hsrc hf
        have hNe := hS.newsLen
        have hSi : Src P i.size tx x' n news w := by rw [hsize]; exact hS
        cases h1 : Nat.ble (Nat.mul (Nat.add k n) (Nat.succ bytes)) 1099511627776 with
        | false => rw [h1] at hr; cases hr
        | true =>
          rw [h1, cond_true] at hr
          have h1 := ble_nat_true h1
          have hold : ∀ {old : List Sc}, firsts sz k (.c (.sl q o k cap)) h = some old → ∃ olds, (Builtin.firstCells sz k (.slice (some A) k c)).run P w.drew = .ok olds.toArray w.drew ∧ RelL ρ old olds ∧ old.length = k * sz := fun hfo => by
            obtain ⟨vs, h3, h4, h5⟩ := firsts_sound (x := .c (.sl q o k cap)) (x' := .slice (some A) k c) H ⟨A, c, rfl, hkc, hc, hA⟩ hfo (fun m hm => by cases hm; exact Nat.le_refl _)
            exact ⟨vs, h3 w.drew (fun _ => rfl), h4, h5⟩
          split at hr
          · rename_i cc
            obtain rfl := hc cc rfl
            cases h2 : Nat.ble (Nat.add k n) c with
            | true =>
              rw [h2, cond_true] at hr
              have h2 : k + n ≤ c := ble_nat_true h2
              split at hr
              · rename_i hst
                cases hr
                obtain ⟨w', h6, h7, h8⟩ := store_sound H hst hNl hN (A := A.add (k * sz)) (fun hne => by
                  have : n ≠ 0 := fun e0 => hne (by rw [e0]; exact Nat.zero_mul _)
                  exact (hA (by omega)).1.addr _)
                exact ⟨_, w', ρ, run_append_room_any ht hi hSi h2 (by rw [hsize]; exact h6), ⟨A, c, rfl, h2, fun m hm => by cases hm; rfl, fun hne => ⟨(hA hne).1, fun z b q hz => by cases hz⟩⟩, h7, h8⟩
              · cases hr
            | false =>
              rw [h2, cond_false] at hr
              have h2 : c < k + n := ble_nat_false h2
              split at hr
              · rename_i old hfo
                obtain ⟨olds, h3, h4, h5⟩ := hold hfo
                unfold appNew at hr
                simp only [forceL_eq, Hp.newK_eq] at hr
                cases hr
                exact append_grow H ht hsz hb hS h3 (by rw [← forall₂_length h4]; exact h5) h4 hN h2 h1
              · cases hr
          · rename_i z
            cases h2 : Nat.beq z sz with
            | false => rw [h2] at hr; cases hr
            | true =>
              obtain rfl := beq_nat_true h2
              rw [h2, cond_true] at hr
              cases h3 : isW h q with
              | false => rw [h3] at hr; cases hr
              | true =>
                rw [h3, cond_true] at hr
                split at hr
                · rename_i old hfo
                  obtain ⟨olds, h4, h5, h6⟩ := hold hfo
                  have hol : olds.length = k * z := by rw [← forall₂_length h5]; exact h6
                  unfold appNew at hr
                  simp only [forceL_eq, Hp.newK_eq, Hp.setK_eq] at hr
                  cases hr
                  by_cases h7 : k + n ≤ c
                  · -- in its place
                    unfold isW at h3
                    split at h3
                    · rename_i rp hg
                      obtain ⟨b, o1, us, hρ, hb1, hok, hat, hrl, hwr⟩ := H.cells hg
                      obtain ⟨hth, hen⟩ := hwr rfl
                      by_cases hc0 : c = 0
                      · have hk0 : k = 0 := by omega
                        have hn0 : n = 0 := by omega
                        subst hk0 hn0
                        have hnews : news = [] := List.length_eq_zero_iff.1 (by rw [hNe]; simp)
                        have holds : olds = [] := List.length_eq_zero_iff.1 (by rw [hol]; simp)
                        subst hnews holds
                        have e1 : old = [] := List.length_eq_zero_iff.1 (by rw [h6]; simp)
                        have e2 : new = [] := List.length_eq_zero_iff.1 (by rw [hNl]; simp)
                        subst e1 e2
                        obtain ⟨r1, r2⟩ := H.reuse (B' := .cells true (ropeOf [])) (o' := o1) (e := ρ.e q) hg hρ rfl (onlyAt_refl w b) ⟨ropeOf_ok _, [], fun j v hv => (by simp at hv), by rw [ropeOf_toList]; exact .nil, fun _ => ⟨hth, by simp; omega⟩⟩
                        exact ⟨_, w, _, run_append_room_any ht hi hSi h7 rfl, ⟨A, c, rfl, h7, fun m hm => (by cases hm), fun hne => absurd hc0 hne⟩, r1, r2⟩
                      · obtain ⟨⟨b', o', hρ', rfl⟩, hroom⟩ := hA hc0
                        rw [hρ] at hρ'; cases hρ'
                        have hR := hroom z b o1 rfl hρ
                        have hm : (k + n) * z ≤ c * z := Nat.mul_le_mul_right _ h7
                        rw [Nat.add_mul] at hm
                        have hst : (storeCells ((⟨b, o1 + o, none⟩ : Addr).add (k * i.size)) news).run P w = .ok () (w.setCells b (o1 + o + k * z) news) := by
                          rw [Addr.add_mid, hsize]; exact run_store_list hth (by omega) hN.one
                        have hcell : ∀ (j : Nat) (v : Value), olds[j]? = some v → w.cell? ⟨b, o1 + o + j, none⟩ = some v := by
                          unfold firsts at hfo
                          simp only at hfo
                          cases h9 : Nat.beq (Nat.mul k z) 0 with
                          | true =>
                            have : k * z = 0 := beq_nat_true h9
                            have : olds = [] := List.length_eq_zero_iff.1 (by omega)
                            subst this
                            intro j v hv; simp at hv
                          | false =>
                            rw [h9, cond_false] at hfo
                            obtain ⟨b', o', vs, h10, h11, h12, h13⟩ := readN_sound H hfo
                            rw [hρ] at h10; cases h10
                            have hl : (loadCells ⟨b, o1 + o, none⟩ (k * z)).run P w.drew = .ok vs.toArray w.drew := by
                              have h13 : old.length = k * z := h13
                              rw [← h13, forall₂_length h12]
                              exact run_loadCells_list (P := P) w.drew _ vs fun j v hv => by rw [Addr.add_mid]; exact h11 j v hv
                            have h4' : (loadCells ⟨b, o1 + o, none⟩ (k * z)).run P w.drew = .ok olds.toArray w.drew := h4
                            rw [hl] at h4'
                            have : vs = olds := by simpa using h4'
                            subst this
                            exact h11
                        obtain ⟨r1, r2⟩ := H.reuse (B' := .cells true (ropeOf (old ++ new))) (o' := o1 + o) (e := ρ.e q) hg hρ rfl (onlyAt_setCells b news (o1 + o + k * z) w)
                          ⟨ropeOf_ok _, olds ++ news, fun j v hv => by
                            rw [List.getElem?_append] at hv
                            split at hv
                            · rename_i hj
                              rw [World.cell?_setCells_out b news (o1 + o + k * z) w ⟨b, o1 + o + j, none⟩ (fun _ _ => by left; show o1 + o + j < o1 + o + k * z; omega)]
                              exact hcell j v hv
                            · rename_i hj
                              have hlt : j - olds.length < news.length := (List.getElem?_eq_some_iff.1 hv).1
                              have e1 : o1 + o + j = o1 + o + k * z + (j - olds.length) := by omega
                              rw [e1, World.cell?_setCells_in b news (o1 + o + k * z) w (fun i hi => (there_all hth _ (by omega)).1) _ hlt]
                              rw [List.getElem?_eq_getElem hlt] at hv; exact hv,
                           by rw [ropeOf_toList]; exact RelL.mono (Emb.le_put H.none_next) (forall₂_append h5 hN),
                           fun _ => ⟨World.there_setCells hth _ _ _, by rw [List.length_append]; omega⟩⟩
                        refine ⟨_, _, _, run_append_room_any ht hi hSi h7 hst, ⟨_, c, rfl, h7, fun m hm => (by cases hm), fun _ => ⟨⟨b, o1 + o, Emb.put_same _ _ _ _, rfl⟩, fun z' b' q' hz hq => ?_⟩⟩, r1, r2⟩
                        cases hz
                        have hq : (ρ.put h.next (b, o1 + o) (ρ.e q)) h.next = some (b', q') := hq
                        rw [Emb.put_same] at hq; cases hq
                        show o1 + o + 0 + c * z ≤ (ρ.put h.next (b, o1 + o) (ρ.e q)).e h.next
                        rw [Emb.put_e]; omega
                    · cases h3
                  · -- a new row
                    obtain ⟨H1, S1⟩ := H.kill q
                    exact S1.does rfl (append_grow H1 ht hsz hb hS h4 hol h5 hN (by omega) h1)
                · cases hr
      
    · cases hr

end Go.AM

/-
  Maps that are read and written. Conditions stand at each law.
-/
namespace Go.AM
variable {P : Program} {ρ : Emb}

theorem cmpAll_iff {k : AV} : ∀ {es : List (AV × AV)}, cmpAll k es = true ↔ ∀ e ∈ es, ∃ t, keyEq k e.1 = some t
  | [] => by simp [cmpAll]
  | x :: r => by
    unfold cmpAll
    simp only [List.mem_cons, forall_eq_or_imp]
    split
    · rename_i t ht
      rw [cmpAll_iff]; exact ⟨fun h => ⟨⟨t, ht⟩, h⟩, fun h => h.2⟩
    · rename_i hn
      rw [hn]; simp
theorem cmpAll_perm {k : AV} {es fs : List (AV × AV)} (hp : fs.Perm es) (h : cmpAll k es = true) : cmpAll k fs = true :=
  cmpAll_iff.2 fun e he => cmpAll_iff.1 h e (hp.mem_iff.1 he)

theorem key_unique {es : List (AV × AV)} (h : es.Pairwise (fun x y => x.1 ≠ y.1)) {a b : AV × AV} (ha : a ∈ es) (hb : b ∈ es) (he : a.1 = b.1) : a = b := by
  induction h with
  | nil => cases ha
  | @cons x r hx _ ih =>
    rcases List.mem_cons.1 ha with ha1 | ha1
    · rcases List.mem_cons.1 hb with hb1 | hb1
      · rw [ha1, hb1]
      · rw [ha1] at he; exact absurd he (hx b hb1)
    · rcases List.mem_cons.1 hb with hb1 | hb1
      · rw [hb1] at he; exact absurd he.symm (hx a ha1)
      · exact ih ha1 hb1

theorem RelH.mp {h : Hp} {w : World} (H : RelH P ρ h w) {r : Id} {es : List (AV × AV)} {ck : Nat} (hr : h.get r = some (.mp es ck)) :
    ∃ b ms fs, ρ r = some (b, 0) ∧ w.heap[b]? = some (.map ms ck) ∧ fs.Perm es ∧ All2 (RelE ρ) fs ms.toList ∧ es.Pairwise (fun x y => x.1 ≠ y.1) ∧ (∀ m ∈ ms, m.born < ck) ∧ ms.toList.Pairwise (fun x y => x.born ≠ y.born) := by
  obtain ⟨b, o, h1, _, rfl, ms, fs, h2⟩ := H.blk r _ hr
  exact ⟨b, ms, fs, h1, h2⟩

theorem zeroOf_run {t : TypeId} {z : AV} (h : zeroOf P t = some z) (hz : ∀ l, z ≠ .t l) (w : World) : ∃ zv, (zeroValue t).run P w = .ok zv w ∧ RelV0 ρ z zv := by
  unfold zeroOf at h
  cases hi : P.info? t with
  | none => rw [hi] at h; cases h
  | some i =>
    rw [hi] at h
    simp only [Option.bind_some] at h
    cases hz' : i.zero with
    | none => rw [hz'] at h; cases h
    | some v =>
      rw [hz'] at h
      simp only [Option.bind_some] at h
      have := RelV.of_av (ρ := ρ) h
      refine ⟨v, by simp [zeroValue, typeInfo, hi, hz'], ?_⟩
      cases z with
      | t l => exact absurd rfl (hz l)
      | _ => exact this

theorem rLkp_sound {h : Hp} {w : World} {t kt e : TypeId} {f : Bool × List (Nat × CK)} {z m k v : AV} {m' k' : Value} {ok : Bool} (H : RelH P ρ h w) (ht : P.underlying t = some (.map kt e)) (hf : keyForm P kt = some f)
    (hz : zeroOf P e = some z) (hzt : ∀ l, z ≠ .t l) (hm : RelV ρ m m') (hk : RelV ρ k k') (hr : rLkp f.1 f.2 z ok m k h = some v) : Gives P ρ w (Instr.lookup t m' k' ok) v := by
  unfold rLkp at hr
  cases hko : keyOk f.1 f.2 k with
  | false => rw [hko] at hr; cases hr
  | true =>
    rw [hko, cond_true] at hr
    have hK := IsKeyAt.of hf hko
    have hk0 : RelV0 ρ k k' := by
      cases k with
      | t l => simp [keyOk] at hko
      | _ => exact hk
    obtain ⟨zv, hz1, hz2⟩ := zeroOf_run (ρ := ρ) hz hzt w
    have hck := fun em => key_check hK hk0 em w
    have hres : ∀ (q : AV) (q' : Value) (b : Bool), RelV0 ρ q q' → RelV ρ (bif ok then .t [q, .c (.b b)] else q) (if ok then .tuple #[q', .bool b] else q') := fun q q' b hq => by
      cases ok with
      | true => exact ⟨_, rfl, .cons hq (.cons rfl .nil)⟩
      | false => exact RelV.of0 hq
    split at hr
    · have hm : m' = .map none := hm
      subst hm; cases hr
      refine ⟨_, ?_, hres z zv false hz2⟩
      have hfk : (Instr.findKey kt k' []).run P w = .ok none w := by
        obtain ⟨⟨ks, h1, _⟩, _⟩ := id hK
        obtain ⟨u, hu⟩ := shp_und h1
        simp [Instr.findKey, run_underlying hu, Instr.findNow]
      simp [Instr.lookup, run_underlying ht, hck, hfk, hz1]
    · rename_i r
      obtain ⟨b, hb, rfl⟩ := hm
      split at hr
      · rename_i es ck hg
        cases hc : cmpAll k es with
        | false => rw [hc] at hr; cases hr
        | true =>
          rw [hc, cond_true] at hr; cases hr
          obtain ⟨b', ms, fs, h1, h2, h3, h4, h5, h6, h7⟩ := H.mp hg
          rw [hb] at h1; cases h1
          have hobj := MapKept.run_getObj_map (P := P) h2
          rcases findKey_hit hK hk0 w h4 (cmpAll_perm h3 hc) with ⟨h8, h9⟩ | ⟨j, me, q, h8, h9, h10⟩
          · have : find k es = none := by
              cases hfd : find k es with
              | none => rfl
              | some u =>
                obtain ⟨i, hi⟩ := find_some hc hfd
                exact absurd rfl (h9 (k, u) (h3.mem_iff.2 (List.mem_of_getElem? hi)))
            rw [this]
            refine ⟨_, ?_, hres z zv false hz2⟩
            simp [Instr.lookup, run_underlying ht, hobj, hck, h8, hz1]
          · have : find k es = some q := by
              cases hfd : find k es with
              | none => exact absurd rfl (find_none hc hfd (k, q) (h3.mem_iff.1 (List.mem_of_getElem? h10)))
              | some u =>
                obtain ⟨i, hi⟩ := find_some hc hfd
                have := key_unique h5 (List.mem_of_getElem? hi) (h3.mem_iff.1 (List.mem_of_getElem? h10)) rfl
                cases this; rfl
            rw [this]
            obtain ⟨me', h11, h12⟩ := forall₂_get h4 j _ h10
            rw [h9] at h11; cases h11
            refine ⟨_, ?_, hres q me.val true h12.2⟩
            simp [Instr.lookup, run_underlying ht, hobj, hck, h8]
      · cases hr
    · cases hr

/-! ## Writing -/
theorem perm_eraseIdx {α : Type} {l : List α} {i : Nat} {a : α} (h : l[i]? = some a) : l.Perm (a :: l.eraseIdx i) := by
  induction l generalizing i with
  | nil => simp at h
  | cons x l ih => cases i with
    | zero => simp at h; subst h; exact .refl _
    | succ i => exact ((ih (by simpa using h)).cons x).trans (.swap _ _ _)
theorem perm_set {α : Type} {l : List α} {i : Nat} {a b : α} (h : l[i]? = some a) : (l.set i b).Perm (b :: l.eraseIdx i) := by
  induction l generalizing i with
  | nil => simp at h
  | cons x l ih => cases i with
    | zero => exact .refl _
    | succ i => exact ((ih (by simpa using h)).cons x).trans (.swap _ _ _)

theorem sameBits_sc {ks : CK} {s : Sc} {a : Value} (n : Nat) (hk : ckOk ks s = true) (h : RelS ρ s a) : ∀ b, RelS ρ s b → a = b ∧ Instr.sameBits n a b = true := by
  intro b hb
  cases s <;> first | (cases ks <;> cases hk; done) | skip
  · rename_i x
    have h : a = .bool x := h
    have hb : b = .bool x := hb
    subst h hb; exact ⟨rfl, by cases n <;> simp [Instr.sameBits]⟩
  · rename_i k x
    have h : a = .int k x := h
    have hb : b = .int k x := hb
    subst h hb; exact ⟨rfl, by cases n <;> simp [Instr.sameBits]⟩
  · rename_i l
    obtain ⟨s, rfl, h1⟩ := h
    obtain ⟨s', rfl, h2⟩ := hb
    have : s = s' := by
      have h3 : s.data.toList = s'.data.toList := map_uint8_inj (h1.trans h2.symm)
      cases s; cases s'; simp at h3; cases h3; rfl
    subst this; exact ⟨rfl, by cases n <;> simp only [Instr.sameBits] <;> rw [beqBytes rfl rfl, sameL_refl]⟩

theorem sameBits_cells {ks : List CK} {l : List Sc} {as bs : List Value} (n : Nat) (hk : cksOk ks l = true) (ha : RelL ρ l as) (hb : RelL ρ l bs) : as = bs ∧ (as.zip bs).all (fun (x, y) => Instr.sameBits n x y) = true := by
  induction ha generalizing ks bs with
  | nil => cases hb; exact ⟨rfl, rfl⟩
  | @cons s a l as h _ ih =>
    cases hb with
    | @cons _ b _ bs h' hb =>
      cases ks with
      | nil => cases hk
      | cons k ks =>
        unfold cksOk at hk
        cases hk1 : ckOk k s with
        | false => rw [hk1] at hk; cases hk
        | true =>
          rw [hk1, cond_true] at hk
          obtain ⟨e1, e2⟩ := sameBits_sc n hk1 h b h'
          obtain ⟨e3, e4⟩ := ih hk hb
          subst e1 e3
          exact ⟨rfl, by rw [List.zip_cons_cons, List.all_cons, e4]; show (Instr.sameBits n a a && true) = true; rw [e2]; rfl⟩

theorem stays {kt : TypeId} {k : AV} {a b : Value} (hK : IsKeyAt P kt k) (ha : RelV0 ρ k a) (hb : RelV0 ρ k b) (w : World) : (Instr.keyThatStays a b).run P w = .ok b w := by
  obtain ⟨⟨ks, _, hk⟩, _⟩ := hK
  have : Instr.sameBits 10000 a b = true := by
    cases k with
    | t l => exact ha.elim
    | c s =>
      cases ks with
      | nil => simp [AV.cells, cksOk] at hk
      | cons x ks =>
        have hk1 : ckOk x s = true := by
          cases hk1 : ckOk x s with
          | true => rfl
          | false => simp [AV.cells, cksOk, hk1] at hk
        exact (sameBits_sc 10000 hk1 ha b hb).2
    | g l =>
      obtain ⟨as, rfl, ha⟩ := ha
      obtain ⟨bs, rfl, hb⟩ := hb
      obtain ⟨e1, e2⟩ := sameBits_cells 9999 hk ha hb
      have hsz : as.size = bs.size := by rw [← Array.length_toList, e1, Array.length_toList]
      show (as.size == bs.size && _) = true
      rw [hsz, e2]; simp
  unfold Instr.keyThatStays
  rw [this]; rfl

theorem onlyAt_set {w : World} {b : Nat} (o : Obj) : World.onlyAt w { w with heap := w.heap.setIfInBounds b o } b :=
  ⟨by simp, fun k hk => by simp only [Array.getElem?_setIfInBounds]; rw [if_neg (fun e => hk e.symm)], rfl, rfl, rfl⟩

/-- A map that is written: what it is behind. -/
theorem RelH.setMap {h : Hp} {w : World} (H : RelH P ρ h w) {r : Id} {es es' : List (AV × AV)} {ck ck' b : Nat} {ms ms' : Array MapEntry} {fs : List (AV × AV)} (hr : h.get r = some (.mp es ck)) (hρ : ρ r = some (b, 0)) (hb : w.heap[b]? = some (.map ms ck))
    (h1 : fs.Perm es') (h2 : All2 (RelE ρ) fs ms'.toList) (h3 : es'.Pairwise (fun x y => x.1 ≠ y.1)) (h4 : ∀ m ∈ ms', m.born < ck') (h5 : ms'.toList.Pairwise (fun x y => x.born ≠ y.born)) :
    ∃ w', (setObj b (.map ms' ck')).run P w = .ok () w' ∧ RelH P ρ (h.set r (some (.mp es' ck'))) w' ∧ Step ρ h w ρ (h.set r (some (.mp es' ck'))) w' := by
  have hlt : b < w.heap.size := (Array.getElem?_eq_some_iff.1 hb).1
  obtain ⟨r1, r2⟩ := H.upd (B' := .mp es' ck') hr hρ rfl (onlyAt_set (.map ms' ck')) ⟨rfl, ms', fs, by simp [hlt], h1, h2, h3, h4, h5⟩
  exact ⟨_, MapKept.run_setObj_map _ hb, r1, r2⟩

theorem modify_toList (ms : Array MapEntry) (j : Nat) (f : MapEntry → MapEntry) {m : MapEntry} (h : ms.toList[j]? = some m) : (ms.modify j f).toList = ms.toList.set j (f m) := by
  apply List.ext_getElem?
  intro i
  rw [Array.getElem?_toList, Array.getElem?_modify, List.getElem?_set]
  by_cases hi : j = i
  · subst hi
    have hlt := (List.getElem?_eq_some_iff.1 h).1
    rw [Array.getElem?_toList] at h
    simp [h]; simpa using hlt
  · simp [hi]

theorem map_set_same {α β : Type} {l : List α} {i : Nat} {a b : α} (f : α → β) (h : l[i]? = some a) (hf : f b = f a) : (l.set i b).map f = l.map f := by
  rw [List.map_set, hf]
  apply List.ext_getElem?
  intro j
  rw [List.getElem?_set]
  split
  · rename_i e; subst e
    split
    · rw [List.getElem?_map, h]; rfl
    · rename_i hn; rw [List.getElem?_eq_none_iff.2 (by omega)]
  · rfl

theorem eMup_sound {h h' : Hp} {w : World} {t kt e : TypeId} {f : Bool × List (Nat × CK)} {m k x v : AV} {m' k' x' : Value} (H : RelH P ρ h w) (ht : P.underlying t = some (.map kt e)) (hf : keyForm P kt = some f)
    (hm : RelV ρ m m') (hk : RelV ρ k k') (hx : RelV ρ x x') (hr : eMup f.1 f.2 m k x h = .ok v h') : v = .t [] ∧ Acts P ρ h w (Instr.mapUpdate t m' k' x') h' := by
  unfold eMup at hr
  cases hko : keyOk f.1 f.2 k with
  | false => rw [hko] at hr; cases hr
  | true =>
    rw [hko, cond_true] at hr
    cases hone : isOne x with
    | false => rw [hone] at hr; cases hr
    | true =>
    rw [hone, cond_true] at hr
    have hK := IsKeyAt.of hf hko
    have hk0 : RelV0 ρ k k' := by
      cases k with
      | t l => simp [keyOk] at hko
      | _ => exact hk
    have hx0 : RelV0 ρ x x' := by
      cases x with
      | t l => cases hone
      | _ => exact hx
    have hck := fun em => key_check hK hk0 em w
    split at hr
    · rename_i r
      obtain ⟨b, hb, rfl⟩ := hm
      split at hr
      · rename_i es ck hg
        cases hc : cmpAll k es with
        | false => rw [hc] at hr; cases hr
        | true =>
          rw [hc, cond_true] at hr
          obtain ⟨b', ms, fs, h1, h2, h3, h4, h5, h6, h7⟩ := H.mp hg
          rw [hb] at h1; cases h1
          have hobj := MapKept.run_getObj_map (P := P) h2
          split at hr
          · rename_i es' hp
            simp only [forceL_eq, Hp.setK_eq] at hr; cases hr
            obtain ⟨i, u, hi, rfl⟩ := put_some hc hp
            rcases findKey_hit hK hk0 w h4 (cmpAll_perm h3 hc) with ⟨h8, h9⟩ | ⟨j, me, q, h8, h9, h10⟩
            · exact absurd rfl (h9 (k, u) (h3.mem_iff.2 (List.mem_of_getElem? hi)))
            · have hqu : q = u := by
                have := key_unique h5 (List.mem_of_getElem? hi) (h3.mem_iff.1 (List.mem_of_getElem? h10)) rfl
                cases this; rfl
              subst hqu
              obtain ⟨me', h11, h12⟩ := forall₂_get h4 j _ h10
              rw [h9] at h11; cases h11
              have hperm : (fs.set j (k, x)).Perm (es.set i (k, x)) :=
                (perm_set h10).trans ((List.Perm.cons _ (((perm_eraseIdx h10).symm.trans (h3.trans (perm_eraseIdx hi))).cons_inv)).trans (perm_set hi).symm)
              have hml := modify_toList ms j (fun e => { e with key := k', val := x' }) h9
              obtain ⟨w', h13, h14, h15⟩ := H.setMap (ms' := ms.modify j fun e => { e with key := k', val := x' }) (fs := fs.set j (k, x)) (es' := es.set i (k, x)) (ck' := ck) hg hb h2 hperm
                (by rw [hml]; exact forall₂_set h4 j ⟨hk0, hx0⟩)
                (by rw [← List.pairwise_map (f := fun (x : AV × AV) => x.1) (R := (· ≠ ·)), map_set_same (b := (k, x)) _ hi rfl, List.pairwise_map]; exact h5)
                (fun m hm => by
                  have hm := Array.mem_toList_iff.2 hm
                  rw [hml] at hm
                  rcases List.mem_or_eq_of_mem_set hm with hm | rfl
                  · exact h6 m (by simpa using hm)
                  · exact h6 me (by simpa using List.mem_of_getElem? h9))
                (by rw [hml, ← List.pairwise_map (f := fun (x : MapEntry) => x.born) (R := (· ≠ ·)), map_set_same (b := { me with key := k', val := x' }) _ h9 rfl, List.pairwise_map]; exact h7)
              refine ⟨rfl, w', ρ, ?_, h14, h15⟩
              have hst := stays hK h12.1 hk0 w
              have h9' : ms[j]? = some me := by simpa using h9
              simp [Instr.mapUpdate, run_underlying ht, hobj, hck, h8, h9', hst, h13]
          · rename_i hp
            simp only [forceL_eq, forceN_eq, Hp.setK_eq] at hr; cases hr
            have hno := (put_none hc).1 hp
            rcases findKey_hit hK hk0 w h4 (cmpAll_perm h3 hc) with ⟨h8, h9⟩ | ⟨j, me, q, h8, h9, h10⟩
            · obtain ⟨w', h13, h14, h15⟩ := H.setMap (ms' := ms.push { key := k', val := x', born := ck }) (fs := fs ++ [(k, x)]) (es' := es ++ [(k, x)]) (ck' := ck + 1) hg hb h2 (h3.append_right _)
                (by rw [Array.toList_push]; exact forall₂_append h4 (.cons ⟨hk0, hx0⟩ .nil))
                (by rw [List.pairwise_append]; exact ⟨h5, List.pairwise_singleton _ _, fun a ha b hb => by simp at hb; subst hb; exact fun e => hno a ha e.symm⟩)
                (fun m hm => by
                  rcases Array.mem_push.1 hm with hm | rfl
                  · exact Nat.lt_succ_of_lt (h6 m hm)
                  · exact Nat.lt_succ_self _)
                (by rw [Array.toList_push, List.pairwise_append]; exact ⟨h7, List.pairwise_singleton _ _, fun a ha b hb => by simp at hb; subst hb; exact Nat.ne_of_lt (h6 a (by simpa using ha))⟩)
              refine ⟨rfl, w', ρ, ?_, h14, h15⟩
              simp [Instr.mapUpdate, run_underlying ht, hobj, hck, h8, h13]
            · exact absurd rfl (hno (k, q) (h3.mem_iff.1 (List.mem_of_getElem? h10)))
      · cases hr
    · cases hr

theorem eMnew_mup {h h' : Hp} {f : Bool × List (Nat × CK)} {m k x v : AV} (hr : eMnew f.1 f.2 m k x h = .ok v h') : eMup f.1 f.2 m k x h = .ok v h' := by
  unfold eMnew at hr
  split at hr
  · split at hr
    · split at hr
      · exact hr
      · cases hr
    · cases hr
  · cases hr

theorem erase_toList (ms : Array MapEntry) (j : Nat) : (ms.eraseIdxIfInBounds j).toList = ms.toList.eraseIdx j := by
  unfold Array.eraseIdxIfInBounds
  split
  · simp
  · rename_i h
    rw [List.eraseIdx_of_length_le]; simp; omega

theorem eDel_sound {h h' : Hp} {w : World} {t kt e ty : TypeId} {ts : Array TypeId} {f : Bool × List (Nat × CK)} {m k v : AV} {m' k' : Value} (H : RelH P ρ h w) (h0 : ts[0]? = some t) (ht : P.underlying t = some (.map kt e)) (hf : keyForm P kt = some f)
    (hm : RelV ρ m m') (hk : RelV ρ k k') (hr : eDel f.1 f.2 m k h = .ok v h') : Does P ρ h w (Builtin.delete_ ts ty #[m', k']) v h' := by
  unfold eDel at hr
  cases hko : keyOk f.1 f.2 k with
  | false => rw [hko] at hr; cases hr
  | true =>
    rw [hko, cond_true] at hr
    have hK := IsKeyAt.of hf hko
    have hk0 : RelV0 ρ k k' := by
      cases k with
      | t l => simp [keyOk] at hko
      | _ => exact hk
    have hck := fun em => key_check hK hk0 em w
    split at hr
    · have hm : m' = .map none := hm
      subst hm; cases hr
      exact Gives.does H ⟨.tuple #[], by simp [Builtin.delete_, h0, run_underlying ht, hck], RelV.undef _⟩
    · rename_i r
      obtain ⟨b, hb, rfl⟩ := hm
      split at hr
      · rename_i es ck hg
        cases hc : cmpAll k es with
        | false => rw [hc] at hr; cases hr
        | true =>
          rw [hc, cond_true] at hr
          simp only [forceL_eq, Hp.setK_eq] at hr; cases hr
          obtain ⟨b', ms, fs, h1, h2, h3, h4, h5, h6, h7⟩ := H.mp hg
          rw [hb] at h1; cases h1
          have hobj := MapKept.run_getObj_map (P := P) h2
          rcases findKey_hit hK hk0 w h4 (cmpAll_perm h3 hc) with ⟨h8, h9⟩ | ⟨j, me, q, h8, h9, h10⟩
          · rcases cut_eq hc with ⟨h11, _⟩ | ⟨i, u, hi, _⟩
            · rw [h11]
              obtain ⟨w', h13, h14, h15⟩ := H.setMap (ck' := ck) hg hb h2 h3 h4 h5 h6 h7
              exact ⟨.tuple #[], w', ρ, by simp [Builtin.delete_, h0, run_underlying ht, hobj, hck, h8, h13], RelV.undef _, h14, h15⟩
            · exact absurd rfl (h9 (k, u) (h3.mem_iff.2 (List.mem_of_getElem? hi)))
          · rcases cut_eq hc with ⟨_, h11⟩ | ⟨i, u, hi, h11⟩
            · exact absurd rfl (h11 (k, q) (h3.mem_iff.1 (List.mem_of_getElem? h10)))
            · rw [h11]
              have hqu : q = u := by
                have := key_unique h5 (List.mem_of_getElem? hi) (h3.mem_iff.1 (List.mem_of_getElem? h10)) rfl
                cases this; rfl
              subst hqu
              obtain ⟨w', h13, h14, h15⟩ := H.setMap (ms' := ms.eraseIdxIfInBounds j) (fs := fs.eraseIdx j) (es' := es.eraseIdx i) (ck' := ck) hg hb h2
                (((perm_eraseIdx h10).symm.trans (h3.trans (perm_eraseIdx hi))).cons_inv)
                (by rw [erase_toList]; exact forall₂_eraseIdx h4 j)
                (h5.sublist (List.eraseIdx_sublist _ _))
                (fun m hm => h6 m (by
                  have hm := Array.mem_toList_iff.2 hm
                  rw [erase_toList] at hm
                  simpa using (List.eraseIdx_sublist _ _).subset hm))
                (by rw [erase_toList]; exact h7.sublist (List.eraseIdx_sublist _ _))
              exact ⟨.tuple #[], w', ρ, by simp [Builtin.delete_, h0, run_underlying ht, hobj, hck, h8, h13], RelV.undef _, h14, h15⟩
      · cases hr
    · cases hr

theorem eClr_sound {h h' : Hp} {w : World} {t kt e ty : TypeId} {ts : Array TypeId} {m v : AV} {m' : Value} (H : RelH P ρ h w) (h0 : ts[0]? = some t) (ht : P.underlying t = some (.map kt e))
    (hm : RelV ρ m m') (hr : eClr m h = .ok v h') : Does P ρ h w (Builtin.clear_ ts ty #[m']) v h' := by
  unfold eClr at hr
  split at hr
  · have hm : m' = .map none := hm
    subst hm; cases hr
    exact Gives.does H ⟨.tuple #[], by simp [Builtin.clear_, h0, run_underlying ht], RelV.undef _⟩
  · rename_i r
    obtain ⟨b, hb, rfl⟩ := hm
    split at hr
    · rename_i es ck hg
      simp only [Hp.setK_eq] at hr; cases hr
      obtain ⟨b', ms, fs, h1, h2, h3, h4, h5, h6, h7⟩ := H.mp hg
      rw [hb] at h1; cases h1
      have hobj := MapKept.run_getObj_map (P := P) h2
      obtain ⟨w', h13, h14, h15⟩ := H.setMap (ms' := #[]) (fs := []) (es' := []) (ck' := ck) hg hb h2 (.refl _) .nil .nil (fun m hm => by simp at hm) (by simp)
      exact ⟨.tuple #[], w', ρ, by simp [Builtin.clear_, h0, run_underlying ht, hobj, h13], RelV.undef _, h14, h15⟩
    · cases hr
  · cases hr

end Go.AM

/-
  Functions without a body. Conditions stand at each law.
-/
namespace Go.AM
variable {P : Program} {ρ : Emb}

theorem ext_of {fn : Func} {n : String} {e : Array Value → Sem Value} (hn : fn.name = n) (ho : fn.origin = "") (h0 : (n == "runtime.NumGoroutine") = false) (h1 : ((Extern.allNextRows.lookup n).isNone && (Extern.allNextRows.lookup "").isNone) = true)
    (h2 : (Extern.allGenericRows.lookup n).isNone = true) (h3 : (Extern.allTypedRows.lookup n).isNone = true) (h4 : Extern.allRows.lookup n = some e) :
    (fn.name == "runtime.NumGoroutine") = false ∧ Extern.findNext fn = none ∧ Extern.find fn = some e := by
  rw [Bool.and_eq_true, Option.isNone_iff_eq_none, Option.isNone_iff_eq_none] at h1
  rw [Option.isNone_iff_eq_none] at h2 h3
  refine ⟨by rw [hn]; exact h0, ?_, ?_⟩
  · unfold Extern.findNext; rw [hn, ho]; simp only [h1.1, h1.2]; rfl
  · unfold Extern.find; rw [hn]; simp only [h2, h3, h4]; rfl

theorem ext_0 {fn : Func} (hn : fn.name = "sync/atomic.LoadUint32") (ho : fn.origin = "") : (fn.name == "runtime.NumGoroutine") = false ∧ Extern.findNext fn = none ∧ Extern.find fn = some (Extern.Atomic.loadT (.int .u32)) :=
  ext_of hn ho (by kernel_rfl) (by kernel_rfl) (by kernel_rfl) (by kernel_rfl) (by kernel_rfl)
theorem ext_1 {fn : Func} (hn : fn.name = "sync/atomic.StoreUint32") (ho : fn.origin = "") : (fn.name == "runtime.NumGoroutine") = false ∧ Extern.findNext fn = none ∧ Extern.find fn = some (Extern.Atomic.storeT) :=
  ext_of hn ho (by kernel_rfl) (by kernel_rfl) (by kernel_rfl) (by kernel_rfl) (by kernel_rfl)
theorem ext_2 {fn : Func} (hn : fn.name = "sync/atomic.AddUint32") (ho : fn.origin = "") : (fn.name == "runtime.NumGoroutine") = false ∧ Extern.findNext fn = none ∧ Extern.find fn = some (Extern.Atomic.update (Op.intArith .add) .u32 true) :=
  ext_of hn ho (by kernel_rfl) (by kernel_rfl) (by kernel_rfl) (by kernel_rfl) (by kernel_rfl)
theorem ext_3 {fn : Func} (hn : fn.name = "sync/atomic.LoadInt64") (ho : fn.origin = "") : (fn.name == "runtime.NumGoroutine") = false ∧ Extern.findNext fn = none ∧ Extern.find fn = some (Extern.Atomic.loadT (.int .i64)) :=
  ext_of hn ho (by kernel_rfl) (by kernel_rfl) (by kernel_rfl) (by kernel_rfl) (by kernel_rfl)
theorem ext_4 {fn : Func} (hn : fn.name = "sync/atomic.StoreInt64") (ho : fn.origin = "") : (fn.name == "runtime.NumGoroutine") = false ∧ Extern.findNext fn = none ∧ Extern.find fn = some (Extern.Atomic.storeT) :=
  ext_of hn ho (by kernel_rfl) (by kernel_rfl) (by kernel_rfl) (by kernel_rfl) (by kernel_rfl)
theorem ext_5 {fn : Func} (hn : fn.name = "sync/atomic.AddInt64") (ho : fn.origin = "") : (fn.name == "runtime.NumGoroutine") = false ∧ Extern.findNext fn = none ∧ Extern.find fn = some (Extern.Atomic.update (Op.intArith .add) .i64 true) :=
  ext_of hn ho (by kernel_rfl) (by kernel_rfl) (by kernel_rfl) (by kernel_rfl) (by kernel_rfl)
theorem ext_6 {fn : Func} (hn : fn.name = "sync/atomic.LoadUint64") (ho : fn.origin = "") : (fn.name == "runtime.NumGoroutine") = false ∧ Extern.findNext fn = none ∧ Extern.find fn = some (Extern.Atomic.loadT (.int .u64)) :=
  ext_of hn ho (by kernel_rfl) (by kernel_rfl) (by kernel_rfl) (by kernel_rfl) (by kernel_rfl)
theorem ext_7 {fn : Func} (hn : fn.name = "sync/atomic.StoreUint64") (ho : fn.origin = "") : (fn.name == "runtime.NumGoroutine") = false ∧ Extern.findNext fn = none ∧ Extern.find fn = some (Extern.Atomic.storeT) :=
  ext_of hn ho (by kernel_rfl) (by kernel_rfl) (by kernel_rfl) (by kernel_rfl) (by kernel_rfl)
theorem ext_8 {fn : Func} (hn : fn.name = "sync/atomic.AddUint64") (ho : fn.origin = "") : (fn.name == "runtime.NumGoroutine") = false ∧ Extern.findNext fn = none ∧ Extern.find fn = some (Extern.Atomic.update (Op.intArith .add) .u64 true) :=
  ext_of hn ho (by kernel_rfl) (by kernel_rfl) (by kernel_rfl) (by kernel_rfl) (by kernel_rfl)
theorem ext_9 {fn : Func} (hn : fn.name = "sync/atomic.LoadInt32") (ho : fn.origin = "") : (fn.name == "runtime.NumGoroutine") = false ∧ Extern.findNext fn = none ∧ Extern.find fn = some (Extern.Atomic.loadT (.int .i32)) :=
  ext_of hn ho (by kernel_rfl) (by kernel_rfl) (by kernel_rfl) (by kernel_rfl) (by kernel_rfl)
theorem ext_10 {fn : Func} (hn : fn.name = "sync/atomic.StoreInt32") (ho : fn.origin = "") : (fn.name == "runtime.NumGoroutine") = false ∧ Extern.findNext fn = none ∧ Extern.find fn = some (Extern.Atomic.storeT) :=
  ext_of hn ho (by kernel_rfl) (by kernel_rfl) (by kernel_rfl) (by kernel_rfl) (by kernel_rfl)
theorem ext_11 {fn : Func} (hn : fn.name = "sync/atomic.AddInt32") (ho : fn.origin = "") : (fn.name == "runtime.NumGoroutine") = false ∧ Extern.findNext fn = none ∧ Extern.find fn = some (Extern.Atomic.update (Op.intArith .add) .i32 true) :=
  ext_of hn ho (by kernel_rfl) (by kernel_rfl) (by kernel_rfl) (by kernel_rfl) (by kernel_rfl)
theorem ext_12 {fn : Func} (hn : fn.name = "sync/atomic.SwapInt64") (ho : fn.origin = "") : (fn.name == "runtime.NumGoroutine") = false ∧ Extern.findNext fn = none ∧ Extern.find fn = some (Extern.Atomic.swapT (.int .i64)) :=
  ext_of hn ho (by kernel_rfl) (by kernel_rfl) (by kernel_rfl) (by kernel_rfl) (by kernel_rfl)
theorem ext_13 {fn : Func} (hn : fn.name = "sync/atomic.CompareAndSwapInt32") (ho : fn.origin = "") : (fn.name == "runtime.NumGoroutine") = false ∧ Extern.findNext fn = none ∧ Extern.find fn = some (Extern.Atomic.casT (.int .i32)) :=
  ext_of hn ho (by kernel_rfl) (by kernel_rfl) (by kernel_rfl) (by kernel_rfl) (by kernel_rfl)
theorem ext_14 {fn : Func} (hn : fn.name = "sync/atomic.CompareAndSwapInt64") (ho : fn.origin = "") : (fn.name == "runtime.NumGoroutine") = false ∧ Extern.findNext fn = none ∧ Extern.find fn = some (Extern.Atomic.casT (.int .i64)) :=
  ext_of hn ho (by kernel_rfl) (by kernel_rfl) (by kernel_rfl) (by kernel_rfl) (by kernel_rfl)
theorem ext_15 {fn : Func} (hn : fn.name = "internal/bytealg.IndexByteString") (ho : fn.origin = "") : (fn.name == "runtime.NumGoroutine") = false ∧ Extern.findNext fn = none ∧ Extern.find fn = some (Extern.BytealgIndexByte.indexByte) :=
  ext_of hn ho (by kernel_rfl) (by kernel_rfl) (by kernel_rfl) (by kernel_rfl) (by kernel_rfl)
theorem ext_16 {fn : Func} (hn : fn.name = "internal/race.Disable") (ho : fn.origin = "") : (fn.name == "runtime.NumGoroutine") = false ∧ Extern.findNext fn = none ∧ Extern.find fn = some ((fun _ => do mark .disable; pure Extern.Race.none_)) :=
  ext_of hn ho (by kernel_rfl) (by kernel_rfl) (by kernel_rfl) (by kernel_rfl) (by kernel_rfl)
theorem ext_17 {fn : Func} (hn : fn.name = "internal/race.Enable") (ho : fn.origin = "") : (fn.name == "runtime.NumGoroutine") = false ∧ Extern.findNext fn = none ∧ Extern.find fn = some ((fun _ => do mark .enable; pure Extern.Race.none_)) :=
  ext_of hn ho (by kernel_rfl) (by kernel_rfl) (by kernel_rfl) (by kernel_rfl) (by kernel_rfl)
theorem ext_18 {fn : Func} (hn : fn.name = "internal/race.Acquire") (ho : fn.origin = "") : (fn.name == "runtime.NumGoroutine") = false ∧ Extern.findNext fn = none ∧ Extern.find fn = some (Extern.Race.marked .acquire) :=
  ext_of hn ho (by kernel_rfl) (by kernel_rfl) (by kernel_rfl) (by kernel_rfl) (by kernel_rfl)
theorem ext_19 {fn : Func} (hn : fn.name = "internal/race.ReleaseMerge") (ho : fn.origin = "") : (fn.name == "runtime.NumGoroutine") = false ∧ Extern.findNext fn = none ∧ Extern.find fn = some (Extern.Race.marked .releaseMerge) :=
  ext_of hn ho (by kernel_rfl) (by kernel_rfl) (by kernel_rfl) (by kernel_rfl) (by kernel_rfl)
theorem ext_20 {fn : Func} (hn : fn.name = "internal/race.Release") (ho : fn.origin = "") : (fn.name == "runtime.NumGoroutine") = false ∧ Extern.findNext fn = none ∧ Extern.find fn = some (Extern.Race.marked .release) :=
  ext_of hn ho (by kernel_rfl) (by kernel_rfl) (by kernel_rfl) (by kernel_rfl) (by kernel_rfl)

/-- One cell that is stored. -/
theorem store1_sound {h h' : Hp} {w : World} {x r : AV} {s : Sc} {x' v' : Value} (H : RelH P ρ h w) (hx : RelV ρ x x') (hv : RelS ρ s v') (hr : eSt 1 x (.c s) h = .ok r h') :
    ∃ A u, x' = .pointer (some A) ∧ w.cell? A = some u ∧ w.frozen? A = false ∧ RelH P ρ h' (w.setCell A v') ∧ Step ρ h w ρ h' (w.setCell A v') := by
  unfold eSt at hr
  split at hr
  · rename_i e; cases e
  · rename_i r2 o hne
    obtain ⟨A, rfl, hA⟩ := hx
    have h1 : Nat.beq (AV.c s).cells.length 1 = true := rfl
    rw [h1, cond_true] at hr
    split at hr
    · rename_i h2 hs
      cases hr
      unfold store at hs
      have hz : Nat.beq 1 0 = false := rfl
      rw [hz, cond_false] at hs
      obtain ⟨b, o1, hρ, rfl⟩ := hA
      split at hs
      · rename_i c hg
        obtain ⟨b', o', us, h2, _, hok, h3, h4, h5⟩ := H.cells hg
        rw [hρ] at h2; cases h2
        obtain ⟨ht, he⟩ := h5 rfl
        split at hs
        · rename_i y hy
          rw [Rope.writeK_eq, Hp.setK_eq] at hs; cases hs
          rw [Rope.get_eq c hok] at hy
          have hlt := (List.getElem?_eq_some_iff.1 hy).1
          have hlt : o < c.toList.length := hlt
          have hc := forall₂_length h4
          have hw := Rope.write_spec c hok o 1 [s] rfl
          have ha := there_all ht (o1 + o) (by omega)
          obtain ⟨u, hu⟩ := Option.isSome_iff_exists.1 ha.1
          obtain ⟨r1, r2⟩ := H.upd hg hρ rfl (onlyAt_setCells b [v'] (o1 + o) w) (B' := .cells true (c.write o 1 [s]))
            ⟨hw.1, over us o [v'], range_over h3 ht (by simp; omega) (by simp; omega), by rw [hw.2]; exact over_list_rel h4 (.cons hv .nil), fun _ => ⟨World.there_setCells ht _ _ _, by rw [over_length]; exact he⟩⟩
          exact ⟨_, u, rfl, hu, ha.2, r1, r2⟩
        · cases hs
      · cases hs
    · cases hr
  · cases hr

theorem rLd_at {x : AV} {x' : Value} {h : Hp} {w : World} {k : IntKind} {n : Int} (H : RelH P ρ h w) (hx : RelV ρ x x') (hr : rLd x h = some (.c (.i k n))) : ∃ a, x' = .pointer (some a) ∧ w.cell? a = some (.int k n) := by
  obtain ⟨a, v', rfl, h1, s, hs, h2⟩ := rLd_sound H hx hr
  cases hs
  have h2 : v' = .int k n := h2
  subst h2; exact ⟨a, rfl, h1⟩

theorem ixB_spec (c : Nat) : ∀ (l : List Nat) (i : Nat), ixB c l i = (l.findIdx? (· == c)).map (· + i)
  | [], _ => rfl
  | x :: r, i => by
    unfold ixB
    rw [List.findIdx?_cons]
    by_cases h : x = c
    · subst h
      have : Nat.beq x x = true := by simp
      rw [this]; simp
    · have : Nat.beq x c = false := by rw [← Bool.not_eq_true, Nat.beq_eq]; exact h
      rw [this, cond_false, ixB_spec c r (i + 1)]
      simp only [beq_iff_eq, h, if_false, Option.map_map]
      congr 1; funext j; simp; omega

theorem find_range (p : Nat → Bool) : ∀ (n : Nat), (List.range n).find? p = (List.range n).find? p := fun _ => rfl

theorem firstIdx_eq (s : ByteArray) (c : UInt8) : firstIdx s c = match (s.data.toList.map UInt8.toNat).findIdx? (· == c.toNat) with | some i => (i : Int) | none => -1 := by
  have key : (List.range s.size).find? (fun i => s[i]! == c) = (s.data.toList.map UInt8.toNat).findIdx? (· == c.toNat) := by
    have hsz := size_len s
    apply Option.ext
    intro i
    rw [List.findIdx?_eq_some_iff_getElem, List.find?_range_eq_some]
    have hget : ∀ j (hj : j < s.size), s[j]! = s.data.toList[j]'(by omega) := fun j hj => by
      rw [getElem!_pos s j hj]
      show s.data[j] = _
      simp
    constructor
    · rintro ⟨h1, h2, h3⟩
      have h2 : i < s.size := by simpa using h2
      refine ⟨by simp; omega, ?_, fun j hj => ?_⟩
      · rw [hget i h2] at h1
        simp only [List.getElem_map, beq_iff_eq] at h1 ⊢
        rw [h1]
      · have := h3 j hj
        rw [hget j (by omega)] at this
        simp only [List.getElem_map, beq_iff_eq, Bool.not_eq_true', beq_eq_false_iff_ne, ne_eq] at this ⊢
        exact fun e => this (UInt8.toNat_inj.1 e)
    · rintro ⟨h1, h2, h3⟩
      have h1 : i < s.size := by simp at h1; omega
      refine ⟨?_, by simpa using h1, fun j hj => ?_⟩
      · rw [hget i h1]
        simp only [List.getElem_map, beq_iff_eq] at h2 ⊢
        exact UInt8.toNat_inj.1 h2
      · have := h3 j hj
        rw [hget j (by omega)]
        simp only [List.getElem_map, beq_iff_eq, Bool.not_eq_true', beq_eq_false_iff_ne, ne_eq] at this ⊢
        exact fun e => this (by rw [e])
  unfold firstIdx
  rw [key]; rfl

section
variable {h h' : Hp} {w : World} {f : FuncId} {fn : Func} {l : List AV} {args : Array Value} {v : AV}

theorem args0 (hl : All2 (RelV ρ) [] args.toList) : args = #[] := by
  have := forall₂_length hl
  apply Array.ext'; cases ha : args.toList with
  | nil => rfl
  | cons _ _ => rw [ha] at this; cases this
theorem args1 {x : AV} (hl : All2 (RelV ρ) [x] args.toList) : ∃ x', args = #[x'] ∧ RelV ρ x x' := by
  cases ha : args.toList with
  | nil => rw [ha] at hl; cases hl
  | cons x' r =>
    rw [ha] at hl
    cases hl with
    | cons hx hr => cases hr; exact ⟨x', by apply Array.ext'; exact ha, hx⟩
theorem args2 {x y : AV} (hl : All2 (RelV ρ) [x, y] args.toList) : ∃ x' y', args = #[x', y'] ∧ RelV ρ x x' ∧ RelV ρ y y' := by
  cases ha : args.toList with
  | nil => rw [ha] at hl; cases hl
  | cons x' r =>
    rw [ha] at hl
    cases hl with
    | cons hx hr =>
      cases hr with
      | cons hy hr => cases hr; exact ⟨x', _, by apply Array.ext'; exact ha, hx, hy⟩
theorem args3 {x y z : AV} (hl : All2 (RelV ρ) [x, y, z] args.toList) : ∃ x' y' z', args = #[x', y', z'] ∧ RelV ρ x x' ∧ RelV ρ y y' ∧ RelV ρ z z' := by
  cases ha : args.toList with
  | nil => rw [ha] at hl; cases hl
  | cons x' r =>
    rw [ha] at hl
    cases hl with
    | cons hx hr =>
      cases hr with
      | cons hy hr => cases hr with
        | cons hz hr => cases hr; exact ⟨x', _, _, by apply Array.ext'; exact ha, hx, hy, hz⟩

theorem xt_nop (hf : P.funcs[f]? = some fn) (hb : fn.body.isNone = true) {m : Mark} (e : (fn.name == "runtime.NumGoroutine") = false ∧ Extern.findNext fn = none ∧ Extern.find fn = some (fun _ => do mark m; pure Extern.Race.none_))
    (H : RelH P ρ h w) (hr : Xt.run .nop l h = .ok v h') : DoesN P ρ h w (callFunc f args) v h' := by
  obtain ⟨e1, e2, e3⟩ := e
  cases hr
  refine ⟨.value (.tuple #[]), w, ρ, ?_, RelV.undef _, H, Step.refl _ _ _⟩
  rw [run_callFunc_extern hf e1 hb e2 e3]; rfl

theorem xt_nop1 (hf : P.funcs[f]? = some fn) (hb : fn.body.isNone = true) {m : Addr → Mark} (e : (fn.name == "runtime.NumGoroutine") = false ∧ Extern.findNext fn = none ∧ Extern.find fn = some (Extern.Race.marked m))
    (hl : All2 (RelV ρ) l args.toList) (H : RelH P ρ h w) (hr : Xt.run .nop1 l h = .ok v h') : DoesN P ρ h w (callFunc f args) v h' := by
  obtain ⟨e1, e2, e3⟩ := e
  unfold Xt.run at hr
  split at hr <;> first | (cases hr; done) | (rename_i e; cases e; done) | skip
  all_goals first | (rename_i hx _; cases hx; done) | skip
  rename_i r o _
  cases hr
  obtain ⟨x', rfl, a, rfl, _⟩ := args1 hl
  exact ⟨.value (.tuple #[]), w, ρ, run_call_marked hf e1 hb e2 m e3 a w, RelV.undef _, H, Step.refl _ _ _⟩

end
end Go.AM

/-
  Functions without a body: those that touch one cell; a text's byte. Conditions stand at each law.
-/
namespace Go.AM
variable {P : Program} {ρ : Emb} {h h' : Hp} {w : World} {f : FuncId} {fn : Func} {l : List AV} {args : Array Value} {v : AV}

theorem xt_aload (hf : P.funcs[f]? = some fn) (hb : fn.body.isNone = true) {k : IntKind} (e : (fn.name == "runtime.NumGoroutine") = false ∧ Extern.findNext fn = none ∧ Extern.find fn = some (Extern.Atomic.loadT (.int k)))
    (hl : All2 (RelV ρ) l args.toList) (H : RelH P ρ h w) (hr : Xt.run (.aload k) l h = .ok v h') : DoesN P ρ h w (callFunc f args) v h' := by
  obtain ⟨e1, e2, e3⟩ := e
  unfold Xt.run at hr
  split at hr <;> rename_i hx <;> first | (cases hr; done) | (cases hx; done) | skip
  cases hx
  rename_i p
  split at hr
  · rename_i j n hld
    cases hk : kindEq k j with
    | false => rw [hk] at hr; cases hr
    | true =>
      rw [hk, cond_true] at hr; cases hr
      obtain rfl := kindEq_iff hk
      obtain ⟨x', rfl, hp⟩ := args1 hl
      obtain ⟨a, rfl, hc⟩ := rLd_at H hp hld
      exact ⟨_, w, ρ, run_call_load hf e1 hb e2 k e3 hc, rfl, H, Step.refl _ _ _⟩
  · cases hr

theorem eSt_unit {n : Nat} {x u r : AV} (hr : eSt n x u h = .ok r h') : r = .t [] := by
  unfold eSt at hr
  split at hr
  · cases hr
  · cases hb : Nat.beq u.cells.length n with
    | false => rw [hb] at hr; cases hr
    | true =>
      rw [hb, cond_true] at hr
      split at hr
      · cases hr; rfl
      · cases hr
  · cases hr

theorem xt_astore (hf : P.funcs[f]? = some fn) (hb : fn.body.isNone = true) (e : (fn.name == "runtime.NumGoroutine") = false ∧ Extern.findNext fn = none ∧ Extern.find fn = some Extern.Atomic.storeT)
    (hl : All2 (RelV ρ) l args.toList) (H : RelH P ρ h w) (hr : Xt.run .astore l h = .ok v h') : DoesN P ρ h w (callFunc f args) v h' := by
  obtain ⟨e1, e2, e3⟩ := e
  unfold Xt.run at hr
  split at hr <;> rename_i hx <;> first | (cases hr; done) | (cases hx; done) | skip
  rename_i p k n
  obtain ⟨x', y', rfl, hp, hy⟩ := args2 hl
  have hy : y' = .int k n := hy
  subst hy
  have hv : v = .t [] := eSt_unit hr
  subst hv
  obtain ⟨A, u, rfl, hc, hz, r1, r2⟩ := store1_sound H hp (s := .i k n) (v' := .int k n) rfl hr
  exact ⟨_, _, ρ, run_call_store hf e1 hb e2 e3 hc hz, RelV.undef _, r1, r2⟩

theorem run_intAdd (k : IntKind) (x y : Int) (w : World) : (Op.intArith .add k x y).run P w = .ok (.int k (k.wrap (x + y))) w := by simp [Op.intArith]

theorem xt_aadd (hf : P.funcs[f]? = some fn) (hb : fn.body.isNone = true) {k : IntKind} (e : (fn.name == "runtime.NumGoroutine") = false ∧ Extern.findNext fn = none ∧ Extern.find fn = some (Extern.Atomic.update (Op.intArith .add) k true))
    (hl : All2 (RelV ρ) l args.toList) (H : RelH P ρ h w) (hr : Xt.run (.aadd k) l h = .ok v h') : DoesN P ρ h w (callFunc f args) v h' := by
  obtain ⟨e1, e2, e3⟩ := e
  unfold Xt.run at hr
  split at hr <;> rename_i hx <;> first | (cases hr; done) | (cases hx; done) | skip
  cases hx
  rename_i p j m
  split at hr
  · rename_i q n hld
    cases hk : kindEq k q with
    | false => rw [hk] at hr; cases hr
    | true =>
      cases hk2 : kindEq k j with
      | false => rw [hk, hk2] at hr; cases hr
      | true =>
        rw [hk, hk2, cond_true, cond_true] at hr
        obtain rfl := kindEq_iff hk
        obtain rfl := kindEq_iff hk2
        split at hr
        · rename_i h2 hst
          cases hr
          obtain ⟨x', y', rfl, hp, hy⟩ := args2 hl
          have hy : y' = .int k m := hy
          subst hy
          rw [mkInt_eq] at hst
          obtain ⟨A, u, rfl, hc, hz, r1, r2⟩ := store1_sound H hp (s := .i k (k.wrap (n + m))) (v' := .int k (k.wrap (n + m))) rfl hst
          obtain ⟨a, ha, hc2⟩ := rLd_at H hp hld
          cases ha
          exact ⟨_, _, ρ, run_call_add hf e1 hb e2 k e3 hc2 hz (run_intAdd k n m w), by rw [mkInt_eq]; rfl, r1, r2⟩
        · cases hr
  · cases hr

theorem xt_aswap (hf : P.funcs[f]? = some fn) (hb : fn.body.isNone = true) {k : IntKind} (e : (fn.name == "runtime.NumGoroutine") = false ∧ Extern.findNext fn = none ∧ Extern.find fn = some (Extern.Atomic.swapT (.int k)))
    (hl : All2 (RelV ρ) l args.toList) (H : RelH P ρ h w) (hr : Xt.run (.aswap k) l h = .ok v h') : DoesN P ρ h w (callFunc f args) v h' := by
  obtain ⟨e1, e2, e3⟩ := e
  unfold Xt.run at hr
  split at hr <;> rename_i hx <;> first | (cases hr; done) | (cases hx; done) | skip
  cases hx
  rename_i p j m
  split at hr
  · rename_i q n hld
    cases hk : kindEq k q with
    | false => rw [hk] at hr; cases hr
    | true =>
        rw [hk, cond_true] at hr
        obtain rfl := kindEq_iff hk
        split at hr
        · rename_i h2 hst
          cases hr
          obtain ⟨x', y', rfl, hp, hy⟩ := args2 hl
          have hy : y' = .int j m := hy
          subst hy
          obtain ⟨A, u, rfl, hc, hz, r1, r2⟩ := store1_sound H hp (s := .i j m) (v' := .int j m) rfl hst
          obtain ⟨a, ha, hc2⟩ := rLd_at H hp hld
          cases ha
          refine ⟨.value (.int k n), _, ρ, ?_, rfl, r1, r2⟩
          rw [run_callFunc_extern hf e1 hb e2 e3]
          change (Sem.run P (do
            let a ← asAddr (.pointer (some A))
            let old ← Extern.Atomic.read (.int k) a
            Go.store a (Value.int j m) .atomic
            pure old) w).andThen _ = _
          simp [Extern.Atomic.read, asAddr, hc2, hz, run_store P w A (.int j m) .atomic rfl, Result.andThen]
        · cases hr
  · cases hr

theorem xt_acas (hf : P.funcs[f]? = some fn) (hb : fn.body.isNone = true) {k : IntKind} (e : (fn.name == "runtime.NumGoroutine") = false ∧ Extern.findNext fn = none ∧ Extern.find fn = some (Extern.Atomic.casT (.int k)))
    (hl : All2 (RelV ρ) l args.toList) (H : RelH P ρ h w) (hr : Xt.run (.acas k) l h = .ok v h') : DoesN P ρ h w (callFunc f args) v h' := by
  obtain ⟨e1, e2, e3⟩ := e
  unfold Xt.run at hr
  split at hr <;> rename_i hx <;> first | (cases hr; done) | (cases hx; done) | skip
  cases hx
  rename_i p i a j b
  split at hr
  · rename_i q n hld
    cases hk : kindEq k q with
    | false => rw [hk] at hr; cases hr
    | true =>
      cases hk2 : kindEq k i with
      | false => rw [hk, hk2] at hr; cases hr
      | true =>
        cases hk3 : kindEq k j with
        | false => rw [hk, hk2, hk3] at hr; cases hr
        | true =>
          rw [hk, hk2, hk3, cond_true, cond_true, cond_true] at hr
          obtain rfl := kindEq_iff hk
          obtain rfl := kindEq_iff hk2
          obtain rfl := kindEq_iff hk3
          obtain ⟨x', y', z', rfl, hp, hy, hz'⟩ := args3 hl
          have hy : y' = .int k a := hy
          have hz' : z' = .int k b := hz'
          subst hy hz'
          obtain ⟨A, ha, hc2⟩ := rLd_at H hp hld
          subst ha
          cases hie : intEq n a with
          | true =>
            rw [hie, cond_true] at hr
            rw [intEq_iff, beq_iff_eq] at hie
            subst hie
            split at hr
            · rename_i h2 hst
              cases hr
              obtain ⟨A', u, ha, hc, hz, r1, r2⟩ := store1_sound H hp (s := .i k b) (v' := .int k b) rfl hst
              cases ha
              exact ⟨_, _, ρ, run_call_cas_hit hf e1 hb e2 k e3 hc2 hz, rfl, r1, r2⟩
            · cases hr
          | false =>
            rw [hie, cond_false] at hr
            have hne : ¬ n = a := fun e => by
              rw [e, intEq_iff] at hie; simp at hie
            split at hr
            · rename_i r o
              cases hw : isW h r with
              | false => rw [hw] at hr; cases hr
              | true =>
                rw [hw, cond_true] at hr; cases hr
                obtain ⟨A', hA', b1, o1, hρ, rfl⟩ := hp
                cases hA'
                unfold isW at hw
                split at hw
                · rename_i c hg
                  obtain ⟨b', o', us, h2, _, hok, h3, h4, h5⟩ := H.cells hg
                  rw [hρ] at h2; cases h2
                  obtain ⟨ht, he⟩ := h5 rfl
                  have hlen := forall₂_length h4
                  have hin : o < us.length := by
                    unfold rLd at hld
                    simp only [hg] at hld
                    rw [Rope.get_eq c hok] at hld
                    cases hx : c.toList[o]? with
                    | none => rw [hx] at hld; cases hld
                    | some y => have := (List.getElem?_eq_some_iff.1 hx).1; omega
                  exact ⟨_, w, ρ, run_call_cas_miss hf e1 hb e2 k e3 hc2 (there_all ht _ (by omega)).2 hne, rfl, H, Step.refl _ _ _⟩
                · cases hw
            · cases hr
  · cases hr


theorem xt_ixb (hf : P.funcs[f]? = some fn) (hb : fn.body.isNone = true) (e : (fn.name == "runtime.NumGoroutine") = false ∧ Extern.findNext fn = none ∧ Extern.find fn = some Extern.BytealgIndexByte.indexByte)
    (hl : All2 (RelV ρ) l args.toList) (H : RelH P ρ h w) (hr : Xt.run .ixb l h = .ok v h') : DoesN P ρ h w (callFunc f args) v h' := by
  obtain ⟨e1, e2, e3⟩ := e
  unfold Xt.run at hr
  split at hr <;> rename_i hx <;> first | (cases hr; done) | (cases hx; done) | skip
  rename_i s b
  obtain ⟨x', y', rfl, ⟨str, rfl, rfl⟩, hy⟩ := args2 hl
  have hy : y' = .int .u8 (b : Nat) := hy
  subst hy
  cases hb2 : Nat.ble b 255 with
  | false => rw [hb2] at hr; cases hr
  | true =>
    rw [hb2, cond_true] at hr
    rw [Nat.ble_eq] at hb2
    have hrun : (callFunc f #[.string str, .int .u8 (b : Nat)]).run P w = .ok (.value (.int .i64 (firstIdx str (b : Int).toNat.toUInt8))) w := by
      rw [run_callFunc_extern hf e1 hb e2 e3, run_indexByte_string]; rfl
    have hbb : (b : Int).toNat.toUInt8.toNat = b := by simp; omega
    rw [firstIdx_eq, hbb] at hrun
    rw [ixB_spec] at hr
    cases hfi : (str.data.toList.map UInt8.toNat).findIdx? (· == b) with
    | none =>
      rw [hfi] at hr hrun
      cases hr
      exact ⟨_, w, ρ, hrun, rfl, H, Step.refl _ _ _⟩
    | some i =>
      rw [hfi] at hr hrun
      cases hr
      exact ⟨_, w, ρ, hrun, by simp only [natAV, forceN_eq]; rfl, H, Step.refl _ _ _⟩

end Go.AM

/-
  Operations that read, make or act: at the model's operation. Conditions stand at each law.
-/
namespace Go.AM
variable {P : Program} {ρ : Emb}

theorem rop_sound {o : Oper} {ro : ROp} {tm : Tm} {a : Act} {h : Hp} {w : World} {v : AV} (hc : cOp P o = some (.r ro)) (ht : RelT ρ tm a.tmps) (H : RelH P ρ h w) (hr : ro.run tm h = some v) :
    ∃ v', (execOp a.eval o).run P w = .ok (.value v') w ∧ RelV ρ v v' := by
  unfold cOp at hc
  split at hc
  · simp [bind, Option.bind_eq_some_iff] at hc
  · simp [bind, Option.bind_eq_some_iff] at hc
  · simp [bind, Option.bind_eq_some_iff] at hc
  · simp [bind, Option.bind_eq_some_iff] at hc
  · simp [bind, Option.bind_eq_some_iff] at hc
  · -- build
    simp only [bind, Option.bind_eq_some_iff] at hc
    obtain ⟨z, hz, hc⟩ := hc
    split at hc
    · split at hc
      · cases hc
      · simp [bind, Option.bind_eq_some_iff] at hc
    · simp [bind, Option.bind_eq_some_iff] at hc
    · cases hc
  · -- buildSlice
    simp only [bind, Option.bind_eq_some_iff] at hc
    split at hc
    · simp [Option.bind_eq_some_iff] at hc
    · cases hc
  · -- load
    rename_i t x hop
    split at hc
    · rename_i ha
      simp only [bind, Option.bind_eq_some_iff, pure, Option.some.injEq, XOp.r.injEq] at hc
      obtain ⟨n, hn, d, hd, rfl⟩ := hc
      have hr : rLda n (d.get tm) h = some v := hr
      have := (rLda_sound H ha hn (opd_sound ht hd) hr).value
      unfold execOp; rw [hop]; exact this
    · rename_i ha
      split at hc
      · rename_i hu
        obtain ⟨u, hu⟩ := Option.isSome_iff_exists.1 hu
        simp only [bind, Option.bind_eq_some_iff, pure, Option.some.injEq, XOp.r.injEq] at hc
        obtain ⟨d, hd, rfl⟩ := hc
        have hr : rLd (d.get tm) h = some v := hr
        obtain ⟨A, v', e1, e2, s, rfl, e3⟩ := rLd_sound H (opd_sound ht hd) hr
        have := Gives.value (P := P) (ρ := ρ) (w := w) (s := Instr.loadAt t (a.eval x)) (v := .c s) ⟨v', by rw [e1]; exact ld_run hu (by simpa using ha) e2, e3⟩
        unfold execOp; rw [hop]; exact this
      · cases hc
  · simp [bind, Option.bind_eq_some_iff] at hc
  · simp [bind, Option.bind_eq_some_iff] at hc
  · -- binOp
    simp only [bind, Option.bind_eq_some_iff] at hc
    obtain ⟨dx, hx, dy, hy, hc⟩ := hc
    split at hc <;> try (first | (cases hc; done) | (split at hc <;> cases hc; done))
    all_goals
      split at hc
      · cases hc
      · split at hc <;> cases hc
  · simp [bind, Option.bind_eq_some_iff] at hc
  · -- convert
    rename_i s d x hop
    simp only [bind, Option.bind_eq_some_iff] at hc
    obtain ⟨dx, hx, hc⟩ := hc
    have hxx := opd_sound ht hx
    split at hc
    · cases hc
    · rename_i e hu1 hu2
      simp only [bind, Option.bind_eq_some_iff] at hc
      obtain ⟨n, hn, hc⟩ := hc
      split at hc
      · cases hc
      · rename_i hn0
        cases hc
        have hr : rUsp (dx.get tm) h = some v := hr
        have := (rUsp_sound H hu1 hu2 hn hn0 hxx hr).value
        unfold execOp; rw [hop]; exact this
    · cases hc
    · rename_i e hu1 hu2
      split at hc
      · rename_i he
        cases hc
        have hr : rB2s (dx.get tm) h = some v := hr
        have := (rB2s_sound H hu1 hu2 he hxx hr).value
        unfold execOp; rw [hop]; exact this
      · cases hc
    · split at hc <;> cases hc
    · cases hc
  · split at hc
    · simp [bind, Option.bind_eq_some_iff] at hc
    · cases hc
  · cases hc
  · -- makeSlice
    simp only [bind, Option.bind_eq_some_iff] at hc
    split at hc
    · simp [Option.bind_eq_some_iff] at hc
    · cases hc
  · -- slice
    simp only [bind, Option.bind_eq_some_iff] at hc
    obtain ⟨dx, hx, dlo, hlo, dhi, hhi, dmx, hmx, hc⟩ := hc
    split at hc
    · split at hc <;> cases hc
    · simp [Option.bind_eq_some_iff] at hc
    · simp [Option.bind_eq_some_iff] at hc
    · split at hc
      · simp [Option.bind_eq_some_iff] at hc
      · cases hc
    · cases hc
  · -- fieldAddr
    simp only [bind, Option.bind_eq_some_iff] at hc
    split at hc
    · simp only [Option.bind_eq_some_iff] at hc
      obtain ⟨fd, hf, n, hn, hc⟩ := hc
      split at hc
      · cases hc
      · simp [Option.bind_eq_some_iff] at hc
    · cases hc
  · -- field
    simp only [bind, Option.bind_eq_some_iff] at hc
    split at hc
    · simp [Option.bind_eq_some_iff] at hc
    · cases hc
  · split at hc
    · simp [bind, Option.bind_eq_some_iff] at hc
    · simp [bind, Option.bind_eq_some_iff] at hc
    · cases hc
  · split at hc
    · simp [bind, Option.bind_eq_some_iff] at hc
    · simp [bind, Option.bind_eq_some_iff] at hc
    · cases hc
  · -- lookup
    rename_i t x i ok hop
    split at hc
    · rename_i kt e hu
      simp only [bind, Option.bind_eq_some_iff] at hc
      obtain ⟨f, hf, hc⟩ := hc
      split at hc
      · cases hc
      · rename_i z hz hzt
        simp only [Option.bind_eq_some_iff, pure, Option.some.injEq, XOp.r.injEq] at hc
        obtain ⟨dx, hx, di, hi, rfl⟩ := hc
        have hr : rLkp f.1 f.2 z ok (dx.get tm) (di.get tm) h = some v := hr
        have := (rLkp_sound H hu hf hzt (fun l e => hz l e) (opd_sound ht hx) (opd_sound ht hi) hr).value
        unfold execOp; rw [hop]; exact this
      · cases hc
    · cases hc
  · split at hc
    · simp [bind, Option.bind_eq_some_iff] at hc
    · cases hc
  · split at hc
    · simp [bind, Option.bind_eq_some_iff] at hc
    · cases hc
  · simp [bind, Option.bind_eq_some_iff] at hc
  · -- call
    rename_i c hop
    unfold cCall at hc
    simp only [bind, Option.bind_eq_some_iff] at hc
    obtain ⟨xs, hxs, hc⟩ := hc
    split at hc
    · simp only [Option.bind_eq_some_iff] at hc
      obtain ⟨fn, _, hc⟩ := hc
      split at hc
      · split at hc <;> cases hc
      · split at hc
        · simp [Option.bind_eq_some_iff] at hc
        · cases hc
    · simp [Option.bind_eq_some_iff] at hc
    · cases hc
    · rename_i b hb
      have hall := opds_sound (ρ := ρ) ht (xs := c.args.toList) hxs
      split at hc
      · split at hc
        · split at hc <;> first | (cases hc; done) | (simp [Option.bind_eq_some_iff] at hc; done)
        · cases hc
      · split at hc
        · simp [Option.bind_eq_some_iff] at hc
        · cases hc
      · rename_i d
        split at hc <;> try (cases hc; done)
        · split at hc <;> cases hc
        · rename_i kt e hu
          cases hc
          obtain ⟨t, h0, hut⟩ := Option.bind_eq_some_iff.1 hu
          have hr : rMlen (d.get tm) h = some v := hr
          obtain ⟨x', hx', hxr⟩ := args1 (args := (c.args.map a.eval)) (by simpa [gets] using hall)
          have hg := (rMlen_sound H h0 hut hxr hr o.type).value
          unfold execOp; rw [hop]
          simp only [resolve, hb, Sem.run_bind, Sem.run_pure, Result.andThen_ok, invoke, builtin, hx']
          simpa using hg
      · split at hc <;> cases hc
      · cases hc
      · cases hc
      · split at hc
        · simp [Option.bind_eq_some_iff] at hc
        · cases hc
      · split at hc
        · cases hc
        · simp [Option.bind_eq_some_iff] at hc
        · cases hc
      · cases hc
  · split at hc
    · simp [bind, Option.bind_eq_some_iff] at hc
    · cases hc
  · cases hc

theorem aop_sound {o : Oper} {ao : AOp} {tm : Tm} {a : Act} (w : World) (hc : cOp P o = some (.a ao)) (ht : RelT ρ tm a.tmps) :
    (∀ k, ao.mkK tm k = .no) ∨ ∃ B f s, (∀ k, ao.mkK tm k = k B f) ∧ execOp a.eval o = (do pure (Next.value (← s))) ∧ Makes P ρ w s B f := by
  unfold cOp at hc
  split at hc
  · simp [bind, Option.bind_eq_some_iff] at hc
  · simp [bind, Option.bind_eq_some_iff] at hc
  · simp [bind, Option.bind_eq_some_iff] at hc
  · -- alloc
    rename_i t hop
    simp only [bind, Option.bind_eq_some_iff, pure, Option.some.injEq, XOp.a.injEq] at hc
    obtain ⟨z, hz, rfl⟩ := hc
    obtain ⟨B, f, h1, h2⟩ := aNew_sound (P := P) (ρ := ρ) (w := w) hz
    exact .inr ⟨B, f, _, fun k => h1 tm k, by unfold execOp; rw [hop], h2⟩
  · -- box
    rename_i t x hop
    simp only [bind, Option.bind_eq_some_iff, pure, Option.some.injEq, XOp.a.injEq] at hc
    obtain ⟨d, hd, rfl⟩ := hc
    rcases aBox_sound (P := P) (w := w) (t := t) (opd_sound ht hd) with h1 | ⟨B, f, h1, h2⟩
    · exact .inl h1
    · exact .inr ⟨B, f, _, h1, by unfold execOp; rw [hop], h2⟩
  · -- build
    simp only [bind, Option.bind_eq_some_iff] at hc
    obtain ⟨z, hz, hc⟩ := hc
    split at hc
    · split at hc
      · cases hc
      · simp [bind, Option.bind_eq_some_iff] at hc
    · simp [bind, Option.bind_eq_some_iff] at hc
    · cases hc
  · -- buildSlice
    rename_i t len ps hop
    simp only [bind, Option.bind_eq_some_iff] at hc
    split at hc
    · rename_i e hu
      simp only [Option.bind_eq_some_iff] at hc
      obtain ⟨n, hn, z, hz, l, hl, hc⟩ := hc
      split at hc
      · cases hc
      · rename_i hle
        cases hc
        have h2 := parts_all2 (ρ := ρ) ht (place := fun i => some (i * n, n)) (fun i x p hp => by
          simp only [bind, Option.bind_eq_some_iff, pure, Option.some.injEq] at hp
          obtain ⟨d, hd, rfl⟩ := hp
          exact ⟨rfl, hd⟩) hl
        rcases aBls_sound (P := P) (w := w) (len := len) (qs := ps.map fun (i, x) => (i, a.eval x)) hu hn hz hle (by rw [Array.toList_map]; exact h2) with h1 | ⟨B, f, h1, h2⟩
        · exact .inl h1
        · exact .inr ⟨B, f, _, h1, by unfold execOp; rw [hop], h2⟩
    · cases hc
  · -- load
    split at hc
    · simp [bind, Option.bind_eq_some_iff] at hc
    · split at hc
      · simp [bind, Option.bind_eq_some_iff] at hc
      · cases hc
  · simp [bind, Option.bind_eq_some_iff] at hc
  · simp [bind, Option.bind_eq_some_iff] at hc
  · -- binOp
    simp only [bind, Option.bind_eq_some_iff] at hc
    obtain ⟨dx, hx, dy, hy, hc⟩ := hc
    split at hc <;> try (first | (cases hc; done) | (split at hc <;> cases hc; done))
    all_goals
      split at hc
      · cases hc
      · split at hc <;> cases hc
  · simp [bind, Option.bind_eq_some_iff] at hc
  · -- convert
    rename_i s d x hop
    simp only [bind, Option.bind_eq_some_iff] at hc
    obtain ⟨dx, hx, hc⟩ := hc
    have hxx := opd_sound ht hx
    split at hc
    · cases hc
    · simp only [bind, Option.bind_eq_some_iff] at hc
      obtain ⟨n, hn, hc⟩ := hc
      split at hc <;> cases hc
    · cases hc
    · split at hc <;> cases hc
    · rename_i e hu1 hu2
      split at hc
      · rename_i he
        cases hc
        rcases aS2b_sound (P := P) (w := w) hu1 hu2 he hxx with h1 | ⟨B, f, h1, h2⟩
        · exact .inl h1
        · exact .inr ⟨B, f, _, h1, by unfold execOp; rw [hop], h2⟩
      · cases hc
    · cases hc
  · split at hc
    · simp [bind, Option.bind_eq_some_iff] at hc
    · cases hc
  · -- makeMap
    rename_i t hop
    cases hc
    obtain ⟨B, f, h1, h2⟩ := aMkm_sound (P := P) (ρ := ρ) (w := w) (t := t)
    exact .inr ⟨B, f, _, fun k => h1 tm k, by unfold execOp; rw [hop]; rfl, h2⟩
  · -- makeSlice
    rename_i t l c hop
    simp only [bind, Option.bind_eq_some_iff] at hc
    split at hc
    · rename_i e hu
      simp only [Option.bind_eq_some_iff, pure, Option.some.injEq, XOp.a.injEq] at hc
      obtain ⟨sz, hsz, by_, hby, z, hz, dl, hl, dc, hcc, rfl⟩ := hc
      rcases aMks_sound (P := P) (w := w) hu hsz hby hz (opd_sound ht hl) (opd_sound ht hcc) with h1 | ⟨B, f, h1, h2⟩
      · exact .inl h1
      · exact .inr ⟨B, f, _, h1, by unfold execOp; rw [hop], h2⟩
    · cases hc
  · -- slice
    simp only [bind, Option.bind_eq_some_iff] at hc
    obtain ⟨dx, hx, dlo, hlo, dhi, hhi, dmx, hmx, hc⟩ := hc
    split at hc
    · split at hc <;> cases hc
    · simp [Option.bind_eq_some_iff] at hc
    · simp [Option.bind_eq_some_iff] at hc
    · split at hc
      · simp [Option.bind_eq_some_iff] at hc
      · cases hc
    · cases hc
  · -- fieldAddr
    simp only [bind, Option.bind_eq_some_iff] at hc
    split at hc
    · simp only [Option.bind_eq_some_iff] at hc
      obtain ⟨fd, hf, n, hn, hc⟩ := hc
      split at hc
      · cases hc
      · simp [Option.bind_eq_some_iff] at hc
    · cases hc
  · -- field
    simp only [bind, Option.bind_eq_some_iff] at hc
    split at hc
    · simp [Option.bind_eq_some_iff] at hc
    · cases hc
  · split at hc
    · simp [bind, Option.bind_eq_some_iff] at hc
    · simp [bind, Option.bind_eq_some_iff] at hc
    · cases hc
  · split at hc
    · simp [bind, Option.bind_eq_some_iff] at hc
    · simp [bind, Option.bind_eq_some_iff] at hc
    · cases hc
  · -- lookup
    split at hc
    · simp only [bind, Option.bind_eq_some_iff] at hc
      obtain ⟨f, hf, hc⟩ := hc
      split at hc
      · cases hc
      · simp [Option.bind_eq_some_iff] at hc
      · cases hc
    · cases hc
  · split at hc
    · simp [bind, Option.bind_eq_some_iff] at hc
    · cases hc
  · split at hc
    · simp [bind, Option.bind_eq_some_iff] at hc
    · cases hc
  · simp [bind, Option.bind_eq_some_iff] at hc
  · -- call
    rename_i c hop
    unfold cCall at hc
    simp only [bind, Option.bind_eq_some_iff] at hc
    obtain ⟨xs, hxs, hc⟩ := hc
    split at hc
    · simp only [Option.bind_eq_some_iff] at hc
      obtain ⟨fn, _, hc⟩ := hc
      split at hc
      · split at hc <;> cases hc
      · split at hc
        · simp [Option.bind_eq_some_iff] at hc
        · cases hc
    · simp [Option.bind_eq_some_iff] at hc
    · cases hc
    · rename_i b hb
      split at hc
      · split at hc
        · split at hc <;> first | (cases hc; done) | (simp [Option.bind_eq_some_iff] at hc; done)
        · cases hc
      · split at hc
        · simp [Option.bind_eq_some_iff] at hc
        · cases hc
      · rename_i d
        split at hc <;> try (cases hc; done)
        · split at hc <;> cases hc
      · split at hc <;> cases hc
      · cases hc
      · cases hc
      · split at hc
        · simp [Option.bind_eq_some_iff] at hc
        · cases hc
      · split at hc
        · cases hc
        · simp [Option.bind_eq_some_iff] at hc
        · cases hc
      · cases hc
  · split at hc
    · simp [bind, Option.bind_eq_some_iff] at hc
    · cases hc
  · cases hc

end Go.AM

/-
  Operations that act: at the model's operation. Conditions stand at each law.
-/
namespace Go.AM
variable {P : Program} {ρ : Emb}

theorem st_run (n : Nat) (x v : Opd) (cl : Cl) (yl : Yl) (tm : Tm) (h : Hp) : (EOp.st n x v).run cl yl tm h = eSt n (x.get tm) (v.get tm) h := rfl

theorem eSt_nodfr {n : Nat} {x v : AV} {h h' : Hp} {d : Df} : eSt n x v h ≠ .dfr d h' := by
  intro e
  unfold eSt at e
  split at e
  · cases e
  · cases hb : Nat.beq v.cells.length n with
    | false => rw [hb] at e; cases e
    | true => rw [hb, cond_true] at e; split at e <;> cases e
  · cases e

/-- What a simple act does. -/
def Plain (P : Program) (ρ : Emb) (a : Act) (o : Oper) (eo : EOp) (tm : Tm) : Prop :=
  ∀ (cl : Cl) (yl : Yl) (h h' : Hp) (v : AV) (w : World), RelH P ρ h w → eo.run cl yl tm h = .ok v h' → DoesN P ρ h w (execOp a.eval o) v h'

/-- Those that are no plain act: a call of a function, of a function's value, or one that is put off. -/
inductive CallOf (P : Program) (o : Oper) : EOp → Prop
  | call {c : Call} {f : FuncId} {fn : Func} {xs : List Opd} : o.op = .call c → c.callee = .value (.func f) → P.funcs[f]? = some fn → fn.body.isSome = true → f < 4096 → opds c.args = some xs → CallOf P o (.call (.of f) xs)
  | cv {c : Call} {f : Operand} {d : Opd} {xs : List Opd} : o.op = .call c → c.callee = .value f → opdOf f = some d → opds c.args = some xs → CallOf P o (.cv d xs)
  | dfr {c : Call} {f : Operand} {d : Opd} {xs : List Opd} : o.op = .defer c → c.callee = .value f → opdOf f = some d → opds c.args = some xs → CallOf P o (.dfr d xs)

theorem xt_sound {f : FuncId} {fn : Func} {x : Xt} {l : List AV} {args : Array Value} {h h' : Hp} {w : World} {v : AV} (hf : P.funcs[f]? = some fn) (hb : fn.body.isNone = true) (ho : fn.origin = "") (hx : extOf fn.name = some x)
    (hl : All2 (RelV ρ) l args.toList) (H : RelH P ρ h w) (hr : x.run l h = .ok v h') : DoesN P ρ h w (callFunc f args) v h' := by
  unfold extOf at hx
  split at hx
  · rename_i hn; cases hx; exact xt_aload hf hb (ext_0 hn ho) hl H hr
  · rename_i hn; cases hx; exact xt_aload hf hb (ext_3 hn ho) hl H hr
  · rename_i hn; cases hx; exact xt_aload hf hb (ext_6 hn ho) hl H hr
  · rename_i hn; cases hx; exact xt_aload hf hb (ext_9 hn ho) hl H hr
  · rename_i hn; cases hx; exact xt_astore hf hb (ext_1 hn ho) hl H hr
  · rename_i hn; cases hx; exact xt_astore hf hb (ext_4 hn ho) hl H hr
  · rename_i hn; cases hx; exact xt_astore hf hb (ext_7 hn ho) hl H hr
  · rename_i hn; cases hx; exact xt_astore hf hb (ext_10 hn ho) hl H hr
  · rename_i hn; cases hx; exact xt_aadd hf hb (ext_5 hn ho) hl H hr
  · rename_i hn; cases hx; exact xt_aadd hf hb (ext_8 hn ho) hl H hr
  · rename_i hn; cases hx; exact xt_aadd hf hb (ext_11 hn ho) hl H hr
  · rename_i hn; cases hx; exact xt_aadd hf hb (ext_2 hn ho) hl H hr
  · rename_i hn; cases hx; exact xt_aswap hf hb (ext_12 hn ho) hl H hr
  · rename_i hn; cases hx; exact xt_acas hf hb (ext_13 hn ho) hl H hr
  · rename_i hn; cases hx; exact xt_acas hf hb (ext_14 hn ho) hl H hr
  · rename_i hn; cases hx; exact xt_ixb hf hb (ext_15 hn ho) hl H hr
  · rename_i hn; cases hx; exact xt_nop hf hb (ext_16 hn ho) H hr
  · rename_i hn; cases hx; exact xt_nop hf hb (ext_17 hn ho) H hr
  · rename_i hn; cases hx; exact xt_nop1 hf hb (ext_18 hn ho) hl H hr
  · rename_i hn; cases hx; exact xt_nop1 hf hb (ext_19 hn ho) hl H hr
  · rename_i hn; cases hx; exact xt_nop1 hf hb (ext_20 hn ho) hl H hr
  · cases hx


theorem eop_cases {o : Oper} {eo : EOp} {tm : Tm} {a : Act} (hc : cOp P o = some (.e eo)) (ht : RelT ρ tm a.tmps) : CallOf P o eo ∨ Plain P ρ a o eo tm := by
  unfold cOp at hc
  split at hc
  · simp [bind, Option.bind_eq_some_iff] at hc
  · simp [bind, Option.bind_eq_some_iff] at hc
  · simp [bind, Option.bind_eq_some_iff] at hc
  · simp [bind, Option.bind_eq_some_iff] at hc
  · simp [bind, Option.bind_eq_some_iff] at hc
  · -- build
    simp only [bind, Option.bind_eq_some_iff] at hc
    obtain ⟨z, hz, hc⟩ := hc
    split at hc
    · split at hc
      · cases hc
      · simp [bind, Option.bind_eq_some_iff] at hc
    · simp [bind, Option.bind_eq_some_iff] at hc
    · cases hc
  · -- buildSlice
    simp only [bind, Option.bind_eq_some_iff] at hc
    split at hc
    · simp only [Option.bind_eq_some_iff] at hc
      obtain ⟨n, hn, z, hz, l, hl, hc⟩ := hc
      split at hc <;> cases hc
    · cases hc
  · -- load
    split at hc
    · simp [bind, Option.bind_eq_some_iff] at hc
    · split at hc
      · simp [bind, Option.bind_eq_some_iff] at hc
      · cases hc
  · -- store
    rename_i t x y hop
    simp only [bind, Option.bind_eq_some_iff, pure, Option.some.injEq, XOp.e.injEq] at hc
    obtain ⟨n, hn, dx, hx, dy, hy, rfl⟩ := hc
    refine .inr fun cl yl h h' v w H hr => ?_
    obtain ⟨rfl, h1⟩ := eSt_sound H hn (opd_sound ht hx) (opd_sound ht hy) hr
    have := h1.next
    unfold execOp; rw [hop]; exact this
  · simp [bind, Option.bind_eq_some_iff] at hc
  · -- binOp
    simp only [bind, Option.bind_eq_some_iff] at hc
    obtain ⟨dx, hx, dy, hy, hc⟩ := hc
    split at hc <;> try (first | (cases hc; done) | (split at hc <;> cases hc; done))
    all_goals
      split at hc
      · cases hc
      · split at hc <;> cases hc
  · simp [bind, Option.bind_eq_some_iff] at hc
  · -- convert
    simp only [bind, Option.bind_eq_some_iff] at hc
    obtain ⟨dx, hx, hc⟩ := hc
    split at hc
    · cases hc
    · simp only [bind, Option.bind_eq_some_iff] at hc
      obtain ⟨n, hn, hc⟩ := hc
      split at hc <;> cases hc
    · cases hc
    · split at hc <;> cases hc
    · split at hc <;> cases hc
    · cases hc
  · split at hc
    · simp [bind, Option.bind_eq_some_iff] at hc
    · cases hc
  · cases hc
  · -- makeSlice
    simp only [bind, Option.bind_eq_some_iff] at hc
    split at hc
    · simp [Option.bind_eq_some_iff] at hc
    · cases hc
  · -- slice
    simp only [bind, Option.bind_eq_some_iff] at hc
    obtain ⟨dx, hx, dlo, hlo, dhi, hhi, dmx, hmx, hc⟩ := hc
    split at hc
    · split at hc <;> cases hc
    · simp [Option.bind_eq_some_iff] at hc
    · simp [Option.bind_eq_some_iff] at hc
    · split at hc
      · simp [Option.bind_eq_some_iff] at hc
      · cases hc
    · cases hc
  · -- fieldAddr
    simp only [bind, Option.bind_eq_some_iff] at hc
    split at hc
    · simp only [Option.bind_eq_some_iff] at hc
      obtain ⟨fd, hf, n, hn, hc⟩ := hc
      split at hc
      · cases hc
      · simp [Option.bind_eq_some_iff] at hc
    · cases hc
  · -- field
    simp only [bind, Option.bind_eq_some_iff] at hc
    split at hc
    · simp [Option.bind_eq_some_iff] at hc
    · cases hc
  · split at hc
    · simp [bind, Option.bind_eq_some_iff] at hc
    · simp [bind, Option.bind_eq_some_iff] at hc
    · cases hc
  · split at hc
    · simp [bind, Option.bind_eq_some_iff] at hc
    · simp [bind, Option.bind_eq_some_iff] at hc
    · cases hc
  · -- lookup
    split at hc
    · simp only [bind, Option.bind_eq_some_iff] at hc
      obtain ⟨f, hf, hc⟩ := hc
      split at hc
      · cases hc
      · simp [Option.bind_eq_some_iff] at hc
      · cases hc
    · cases hc
  · -- mapUpdate
    rename_i t m k x hop
    split at hc
    · rename_i kt e hu
      simp only [bind, Option.bind_eq_some_iff, pure, Option.some.injEq, XOp.e.injEq] at hc
      obtain ⟨f, hf, dm, hm, dk, hk, dx, hx, rfl⟩ := hc
      refine .inr fun cl yl h h' v w H hr => ?_
      obtain ⟨rfl, h1⟩ := eMup_sound H hu hf (opd_sound ht hm) (opd_sound ht hk) (opd_sound ht hx) hr
      have := h1.next
      unfold execOp; rw [hop]; exact this
    · cases hc
  · -- insert
    rename_i t m k x hop
    split at hc
    · rename_i kt e hu
      simp only [bind, Option.bind_eq_some_iff, pure, Option.some.injEq, XOp.e.injEq] at hc
      obtain ⟨f, hf, dm, hm, dk, hk, dx, hx, rfl⟩ := hc
      refine .inr fun cl yl h h' v w H hr => ?_
      obtain ⟨rfl, h1⟩ := eMup_sound H hu hf (opd_sound ht hm) (opd_sound ht hk) (opd_sound ht hx) hr
      have := h1.next
      unfold execOp; rw [hop]; exact this
    · cases hc
  · simp [bind, Option.bind_eq_some_iff] at hc
  · -- call
    rename_i c hop
    unfold cCall at hc
    simp only [bind, Option.bind_eq_some_iff] at hc
    obtain ⟨xs, hxs, hc⟩ := hc
    have hall := opds_sound (ρ := ρ) ht (xs := c.args.toList) hxs
    have hmap : (c.args.map a.eval).toList = c.args.toList.map a.eval := by simp
    split at hc
    · rename_i f hcal
      simp only [Option.bind_eq_some_iff] at hc
      obtain ⟨fn, hf, hc⟩ := hc
      split at hc
      · rename_i hb
        split at hc
        · rename_i hlt; cases hc; exact .inl (.call hop hcal hf hb hlt hxs)
        · cases hc
      · rename_i hb
        split at hc
        · rename_i ho
          simp only [Option.bind_eq_some_iff, pure, Option.some.injEq, XOp.e.injEq] at hc
          obtain ⟨x, hx, rfl⟩ := hc
          refine .inr fun cl yl h h' v w H hr => ?_
          have hr : x.run (gets tm xs) h = .ok v h' := hr
          have hbn : fn.body.isNone = true := by cases hbb : fn.body <;> simp_all
          have := xt_sound hf hbn ho hx (args := c.args.map a.eval) (by rw [hmap]; exact hall) H hr
          have he : execOp a.eval o = callFunc f (c.args.map a.eval) := by
            have ef : a.eval (.func f) = .func (.func f) #[] #[] := rfl
            unfold execOp
            simp [hop, resolve, hcal, Deferred.ofValue, invoke, ef]
          rw [he]; exact this
        · cases hc
    · rename_i f hcal
      simp only [Option.bind_eq_some_iff, pure, Option.some.injEq, XOp.e.injEq] at hc
      obtain ⟨d, hd, rfl⟩ := hc
      exact .inl (.cv hop hcal hd hxs)
    · cases hc
    · rename_i b hb
      have hbi : ∀ (s : Sem Value) (h h' : Hp) (v : AV) (w : World), (∀ cs, builtin b c.argTypes o.type cs (c.args.map a.eval) = (do pure (.value (← s)))) → Does P ρ h w s v h' → DoesN P ρ h w (execOp a.eval o) v h' := by
        intro s h h' v w hs hg
        have := hg.next
        unfold execOp; rw [hop]
        simp only [resolve, hb]
        obtain ⟨n, w', ρ', h1, h2⟩ := this
        refine ⟨n, w', ρ', ?_, h2⟩
        simp only [Sem.run_bind, Sem.run_pure, Result.andThen_ok, invoke]
        rw [hs]; exact h1
      split at hc
      · rename_i s x
        obtain ⟨s', x', hargs, hs, hx⟩ := args2 (args := c.args.map a.eval) (by rw [hmap]; exact hall)
        split at hc
        · rename_i e hu
          obtain ⟨t, h0, hut⟩ := Option.bind_eq_some_iff.1 hu
          have fin : ∀ tx, c.argTypes[1]? = some tx → ((∃ e', P.underlying tx = some (.slice e')) ∨ P.underlying tx = some .string) → ∀ sz by_, szZ P e = some sz → byOf P e = some by_ → Plain P ρ a o (.app sz by_ s x) tm := by
            intro tx h1 htx sz by_ hsz hby cl yl h h' v w H hr
            have hr : eApp sz by_ (s.get tm) (x.get tm) h = .ok v h' := hr
            have hd := eApp_sound (ty := o.type) H hut htx hsz hby hs hx hr
            refine hbi _ h h' v w (fun _ => rfl) ?_
            rw [hargs]
            have e2 : Builtin.append_ c.argTypes o.type #[s', x'] = Builtin.append_ #[t, tx] o.type #[s', x'] := by simp [Builtin.append_, h0, h1]
            rw [e2]; exact hd
          split at hc
          · rename_i e' hu1
            obtain ⟨tx, h1, hut1⟩ := Option.bind_eq_some_iff.1 hu1
            simp only [Option.bind_eq_some_iff, pure, Option.some.injEq, XOp.e.injEq] at hc
            obtain ⟨sz, hsz, by_, hby, rfl⟩ := hc
            exact .inr (fin tx h1 (.inl ⟨e', hut1⟩) sz by_ hsz hby)
          · rename_i hu1
            obtain ⟨tx, h1, hut1⟩ := Option.bind_eq_some_iff.1 hu1
            simp only [Option.bind_eq_some_iff, pure, Option.some.injEq, XOp.e.injEq] at hc
            obtain ⟨sz, hsz, by_, hby, rfl⟩ := hc
            exact .inr (fin tx h1 (.inr hut1) sz by_ hsz hby)
          · cases hc
        · cases hc
      · rename_i d s
        obtain ⟨d', s', hargs, hd, hs⟩ := args2 (args := c.args.map a.eval) (by rw [hmap]; exact hall)
        split at hc
        · rename_i e hu
          obtain ⟨t, h0, hut⟩ := Option.bind_eq_some_iff.1 hu
          simp only [Option.bind_eq_some_iff, pure, Option.some.injEq, XOp.e.injEq] at hc
          obtain ⟨sz, hsz, rfl⟩ := hc
          refine .inr fun cl yl h h' v w H hr => hbi _ h h' v w (fun _ => rfl) ?_
          have hr : eCpy sz (d.get tm) (s.get tm) h = .ok v h' := hr
          have := eCpy_sound (ty := o.type) (st := t) H hut hsz hd hs hr
          rw [hargs]
          have e2 : Builtin.copy_ c.argTypes o.type #[d', s'] = Builtin.copy_ #[t, t] o.type #[d', s'] := by simp [Builtin.copy_, h0]
          rw [e2]; exact this
        · cases hc
      · split at hc <;> try (cases hc; done)
        · split at hc <;> cases hc
      · split at hc <;> cases hc
      · cases hc
      · cases hc
      · rename_i m k
        obtain ⟨m', k', hargs, hm, hk⟩ := args2 (args := c.args.map a.eval) (by rw [hmap]; exact hall)
        split at hc
        · rename_i kt e hu
          obtain ⟨t, h0, hut⟩ := Option.bind_eq_some_iff.1 hu
          simp only [Option.bind_eq_some_iff, pure, Option.some.injEq, XOp.e.injEq] at hc
          obtain ⟨f, hf, rfl⟩ := hc
          refine .inr fun cl yl h h' v w H hr => hbi _ h h' v w (fun _ => rfl) ?_
          have hr : eDel f.1 f.2 (m.get tm) (k.get tm) h = .ok v h' := hr
          rw [hargs]; exact eDel_sound H h0 hut hf hm hk hr
        · cases hc
      · rename_i m
        obtain ⟨m', hargs, hm⟩ := args1 (args := c.args.map a.eval) (by rw [hmap]; exact hall)
        split at hc
        · rename_i kt e hu
          obtain ⟨t, h0, hut⟩ := Option.bind_eq_some_iff.1 hu
          cases hc
          refine .inr fun cl yl h h' v w H hr => hbi _ h h' v w (fun _ => rfl) ?_
          have hr : eClr (m.get tm) h = .ok v h' := hr
          rw [hargs]; exact eClr_sound H h0 hut hm hr
        · rename_i e hu
          obtain ⟨t, h0, hut⟩ := Option.bind_eq_some_iff.1 hu
          simp only [Option.bind_eq_some_iff, pure, Option.some.injEq, XOp.e.injEq] at hc
          obtain ⟨z, hz, rfl⟩ := hc
          refine .inr fun cl yl h h' v w H hr => hbi _ h h' v w (fun _ => rfl) ?_
          have hr : eSclr z (m.get tm) h = .ok v h' := hr
          have := eSclr_sound (ty := o.type) H hut hz hm hr
          rw [hargs]
          have e2 : Builtin.clear_ c.argTypes o.type #[m'] = Builtin.clear_ #[t] o.type #[m'] := by simp [Builtin.clear_, h0]
          rw [e2]; exact this
        · cases hc
      · cases hc
  · -- defer
    rename_i c hop
    split at hc
    · rename_i f hcal
      simp only [bind, Option.bind_eq_some_iff, pure, Option.some.injEq, XOp.e.injEq] at hc
      obtain ⟨d, hd, xs, hxs, rfl⟩ := hc
      exact .inl (.dfr hop hcal hd hxs)
    · cases hc
  · cases hc

end Go.AM

/-
  An operation, as a region runs it: calls, rounds, what is put off. Conditions stand at each law.
-/
namespace Go.AM
variable {P : Program} {ρ : Emb}

/-- No bounds; in a round's frame, or in a function's. -/
def FW (ro : Option Nat) : Fence := { Fence.wide with round := ro }

theorem callsIn_fw {ro : Option Nat} {n : Nat} {f : FuncId} {args : Array Value} {w : World} {R : Ending → World → Prop} : CallsIn (FW ro) n P f args w R ↔ Calls P f args w R := by
  rw [← callsIn_wide (n := n)]; exact Iff.rfl

def RetTo (P : Program) (ρ : Emb) (h : Hp) (w : World) (v : AV) (h' : Hp) (e : Ending) (w' : World) : Prop :=
  ∃ v' ρ', e = .returned v' ∧ RelV ρ' v v' ∧ RelH P ρ' h' w' ∧ Step ρ h w ρ' h' w'

/-- What is called answers as it is told. -/
structure CallOk (P : Program) (cl : Cl) : Prop where
  ret : ∀ {f xs h v h'}, cl f xs h = .ok v h' → ∃ fn, P.funcs[f.n]? = some fn ∧ fn.body.isSome = true ∧ (fn.name == "runtime.NumGoroutine") = false ∧
    ∀ (ρ : Emb) (w : World) (args : Array Value), RelH P ρ h w → All2 (RelV ρ) xs args.toList → Calls P f.n args w (RetTo P ρ h w v h')
  nodfr : ∀ {f xs h d h'}, cl f xs h ≠ .dfr d h'

structure YieldOk (P : Program) (yl : Yl) : Prop where
  ret : ∀ {l xs h v h'}, yl l xs h = .ok v h' → ∀ (ρ : Emb) (w : World) (args : Array Value) (b : Nat), RelH P ρ h w → All2 (RelV ρ) xs args.toList → ρ l = some (b, 0) →
    ∃ rec, w.heap[b]? = some (.loop rec) ∧ args.size = rec.params.size ∧
      RoundIn Fence.wide 0 P b rec.fn ((rec.params.zip args).foldl (fun tmps (t, a) => tmps.setIfInBounds t a) rec.tmps) rec.assign rec.body w (RetTo P ρ h w v h')
  nodfr : ∀ {l xs h d h'}, yl l xs h ≠ .dfr d h'

def RelDf (ρ : Emb) (d : Df) (d' : Deferred) : Prop :=
  match d with
  | .call f ys => ∃ caps : Array Value, d'.target = .fn (.func f.n) caps ∧ All2 (RelV ρ) ys (d'.args ++ caps).toList
  | .coll r => ∃ b, ρ r = some (b, 0) ∧ d'.target = .collected b

theorem RelDf.mono {ρ σ : Emb} (h : ρ.le σ) {d : Df} {d' : Deferred} (hd : RelDf ρ d d') : RelDf σ d d' := by
  cases d with
  | call f ys => obtain ⟨caps, h1, h2⟩ := hd; exact ⟨caps, h1, forall₂_imp (fun _ _ => RelV.mono h) h2⟩
  | coll r => obtain ⟨b, h1, h2⟩ := hd; exact ⟨b, (h _ _ h1).1, h2⟩

abbrev RelDs (ρ : Emb) : List Df → List Deferred → Prop := All2 (RelDf ρ)
theorem RelDs.mono {ρ σ : Emb} (h : ρ.le σ) {l : List Df} {m : List Deferred} (hl : RelDs ρ l m) : RelDs σ l m := forall₂_imp (fun _ _ => RelDf.mono h) hl

theorem forceL_app {α β : Type} (l : List α) (k : List α → β) : forceL l k = k l := forceL_eq l k

theorem ptrAVs_rel {l : List (Id × Nat)} {vs : List Value} (h : RelP ρ l vs) : All2 (RelV ρ) (ptrAVs l) vs := by
  induction h with
  | nil => exact .nil
  | cons ha _ ih => exact .cons ⟨_, rfl, ha⟩ ih

theorem opdOf_func {f : FuncId} {d : Opd} (h : opdOf (.func f) = some d) : f < 4096 ∧ d = .k (.c (.f (.of f) [] [])) := by
  unfold opdOf at h
  split at h <;> rename_i e <;> cases e
  split at h
  · rename_i hlt; cases h; exact ⟨hlt, rfl⟩
  · cases h

theorem defer_dfr {o : Oper} {x : XOp} {c : Call} (hc : cOp P o = some x) (ho : o.op = .defer c) : ∃ d xs, x = .e (.dfr d xs) := by
  unfold cOp at hc
  rw [ho] at hc
  simp only at hc
  split at hc
  · simp only [bind, Option.bind_eq_some_iff, pure, Option.some.injEq] at hc
    obtain ⟨d, _, xs, _, rfl⟩ := hc
    exact ⟨d, xs, rfl⟩
  · cases hc

theorem run_noDefer {o : Oper} {x : XOp} {cl : Cl} {yl : Yl} {tm : Tm} {h h' : Hp} {v : AV} (hc : cOp P o = some x) (hr : x.run cl yl tm h = .ok v h') (c : Call) : o.op ≠ .defer c := fun ho => by
  obtain ⟨d, xs, rfl⟩ := defer_dfr hc ho
  have hr : eDfr (d.get tm) (gets tm xs) h = .ok v h' := hr
  unfold eDfr at hr
  split at hr
  · rw [forceL_eq] at hr; cases hr
  · cases hr

theorem about_fw {ro : Option Nat} {o : Oper} {a : Act} {w : World} : ∀ f, o.about P w a.eval = some f → (FW ro).fn f := fun _ _ => trivial

section
variable {ro : Option Nat} {o : Oper} {a : Act} {w : World} {next : Act → World → Prop} {Q : Exit → Act → World → Prop}

theorem doesN_wp {h h' : Hp} {v : AV} (hnd : ∀ c, o.op ≠ .defer c) (d : DoesN P ρ h w (execOp a.eval o) v h')
    (hn : ∀ v' w' ρ', RelV ρ' v v' → RelH P ρ' h' w' → Step ρ h w ρ' h' w' → next (a.put o.dst v') w') : o.wpIn (FW ro) 0 P a w next Q := by
  obtain ⟨n, w', ρ', h1, h2, h3, h4⟩ := d
  refine ⟨about_fw, ?_⟩
  rw [Oper.semAt_eq _ _ _ hnd, h1]
  cases n with
  | value v' => exact hn v' w' ρ' h2 h3 h4
  | skip =>
    have h2 : v = .t [] := h2
    subst h2
    exact hn undef w' ρ' (RelV.undef _) h3 h4
  | _ => exact h2.elim

/-- A call that enters a function. -/
theorem enter_wp {h h' : Hp} {v : AV} {f : P4} {args : Array Value} (hnd : ∀ c, o.op ≠ .defer c) (hex : (execOp a.eval o).run P w = .ok (.enter f.n args) w) (hcalls : Calls P f.n args w (RetTo P ρ h w v h'))
    (hn : ∀ v' w' ρ', RelV ρ' v v' → RelH P ρ' h' w' → Step ρ h w ρ' h' w' → next (a.put o.dst v') w') : o.wpIn (FW ro) 0 P a w next Q := by
  refine ⟨about_fw, ?_⟩
  rw [Oper.semAt_eq _ _ _ hnd, hex, Oper.uponIn_enter]
  refine ⟨fun h => (by cases h), callsIn_fw.2 ?_⟩
  intro cs
  obtain ⟨e, w', fr, ⟨v', ρ', rfl, h1, h2, h3⟩, r⟩ := hcalls cs
  exact ⟨_, w', fr, hn v' w' ρ' h1 h2 h3, r⟩

theorem run_callFunc_body {f : FuncId} {fn : Func} {args : Array Value} (hf : P.funcs[f]? = some fn) (hb : fn.body.isSome = true) (hn : (fn.name == "runtime.NumGoroutine") = false) (w : World) :
    (callFunc f args).run P w = .ok (.enter f args) w := by
  have hb' : fn.body.isNone = false := by cases h : fn.body <;> simp_all
  unfold callFunc
  simp only [Sem.run_bind, run_program, Result.andThen_ok, hf, hn, hb', Bool.false_eq_true, if_false]
  rfl

theorem op_sound {cl : Cl} {yl : Yl} (hcl : CallOk P cl) (hyl : YieldOk P yl) {x : XOp} {tm : Tm} {h h' : Hp} {v : AV} (hc : cOp P o = some x) (ht : RelT ρ tm a.tmps) (H : RelH P ρ h w) (hr : x.run cl yl tm h = .ok v h')
    (hn : ∀ v' w' ρ', RelV ρ' v v' → RelH P ρ' h' w' → Step ρ h w ρ' h' w' → next (a.put o.dst v') w') : o.wpIn (FW ro) 0 P a w next Q := by
  have hnd := run_noDefer hc hr
  cases x with
  | bad => cases hr
  | p po =>
    have hr : toRV (po.run tm) h = .ok v h' := hr
    cases hp : po.run tm with
    | none => rw [hp] at hr; cases hr
    | some u =>
      rw [hp] at hr; cases hr
      obtain ⟨v', h1, h2⟩ := pop_sound w hc ht hp
      exact doesN_wp hnd ⟨_, w, ρ, h1, h2, H, Step.refl _ _ _⟩ hn
  | r ro' =>
    have hr : toRV (ro'.run tm h) h = .ok v h' := hr
    cases hp : ro'.run tm h with
    | none => rw [hp] at hr; cases hr
    | some u =>
      rw [hp] at hr; cases hr
      obtain ⟨v', h1, h2⟩ := rop_sound hc ht H hp
      exact doesN_wp hnd ⟨_, w, ρ, h1, h2, H, Step.refl _ _ _⟩ hn
  | a ao =>
    have hr : ao.run tm h = .ok v h' := hr
    unfold AOp.run at hr
    rcases aop_sound w hc ht with h1 | ⟨B, f, s, h1, h2, h3⟩
    · rw [h1] at hr; cases hr
    · rw [h1, Hp.newK_eq] at hr; cases hr
      have := (h3.does H).next
      rw [← h2] at this
      exact doesN_wp hnd this hn
  | e eo =>
    rcases eop_cases hc ht with hcall | hpl
    · cases hcall with
      | call hop hcal hf hb hlt hxs =>
        rename_i c f fn xs
        have hr : eCall cl (.of f) (gets tm xs) h = .ok v h' := hr
        unfold eCall at hr
        rw [forceL_eq] at hr
        obtain ⟨fn', h1, h2, h3, h4⟩ := hcl.ret hr
        rw [P4.n_of hlt] at h1
        rw [hf] at h1; cases h1
        have hall := opds_sound (ρ := ρ) ht (xs := c.args.toList) hxs
        have hmap : (c.args.map a.eval).toList = c.args.toList.map a.eval := by simp
        have hc4 := h4 ρ w (c.args.map a.eval) H (by rw [hmap]; exact hall)
        refine enter_wp hnd ?_ hc4 hn
        have ef : a.eval (.func f) = .func (.func f) #[] #[] := rfl
        have he : execOp a.eval o = callFunc f (c.args.map a.eval) := by
          unfold execOp
          simp [hop, resolve, hcal, Deferred.ofValue, invoke, ef]
        rw [he, P4.n_of hlt]
        exact run_callFunc_body hf h2 h3 w
      | cv hop hcal hd hxs =>
        rename_i c f d xs
        have hr : eCv cl yl (d.get tm) (gets tm xs) h = .ok v h' := hr
        have hfv := opd_sound (ρ := ρ) ht hd
        have hall := opds_sound (ρ := ρ) ht (xs := c.args.toList) hxs
        have hmap : (c.args.map a.eval).toList = c.args.toList.map a.eval := by simp
        unfold eCv at hr
        split at hr
        · rename_i p fs cs hdg
          rw [forceL_eq] at hr
          rw [hdg] at hfv
          obtain ⟨first, caps, e1, e2, e3⟩ := hfv
          obtain ⟨fn', h1, h2, h3, h4⟩ := hcl.ret hr
          have hc4 := h4 ρ w (first ++ c.args.map a.eval ++ caps) H (by
            simp only [Array.toList_append, hmap, List.append_assoc]
            exact forall₂_append (ptrAVs_rel e2) (forall₂_append hall (ptrAVs_rel e3)))
          refine enter_wp hnd ?_ hc4 hn
          have he : execOp a.eval o = callFunc p.n (first ++ c.args.map a.eval ++ caps) := by
            unfold execOp
            simp only [hop, resolve, hcal, e1, Deferred.ofValue]
            rfl
          rw [he]
          exact run_callFunc_body h1 h2 h3 w
        · rename_i r hdg
          rw [forceL_eq] at hr
          rw [hdg] at hfv
          obtain ⟨b, e1, e2⟩ := hfv
          obtain ⟨rec, h1, h2, h3⟩ := hyl.ret hr ρ w (c.args.map a.eval) b H (by rw [hmap]; exact hall) e1
          have he : execOp a.eval o = Instr.yield b (#[] ++ c.args.map a.eval) := by
            unfold execOp
            simp only [hop, resolve, hcal, e2, Deferred.ofValue]
            rfl
          refine ⟨about_fw, ?_⟩
          rw [Oper.semAt_eq _ _ _ hnd, he]
          have hrun : (Instr.yield b (#[] ++ c.args.map a.eval)).run P w = .ok (.round b rec.fn ((rec.params.zip (c.args.map a.eval)).foldl (fun tmps (t, a) => tmps.setIfInBounds t a) rec.tmps) rec.assign rec.body) w := by
            have hobj : (getObj b).run P w = .ok (.loop rec) w := by simp [getObj, Sem.run, h1]
            simp [Instr.yield, Instr.getLoop, hobj]
            simpa using h2
          rw [hrun, Oper.uponIn_round]
          refine ⟨fun h => (by cases h), ?_⟩
          exact RoundIn.mono (F := FW ro) h3 fun e w' ⟨v', ρ', he, r1, r2, r3⟩ => by subst he; exact hn v' w' ρ' r1 r2 r3
        · cases hr
      | dfr hop hcal hd hxs => exact absurd hop (hnd _)
    · exact doesN_wp hnd (hpl cl yl h h' v w H hr) hn

theorem nodfr_store {r : Id} {o n : Nat} {l : List Sc} {h h' : Hp} {d : Df} {v : AV} : (match store h r o n l with | some h => RV.ok v h | none => .no) ≠ .dfr d h' := by
  split <;> intro e <;> cases e

theorem nodfr_app {sz bytes : Nat} {s x : AV} {h h' : Hp} {d : Df} : eApp sz bytes s x h ≠ .dfr d h' := by
  intro e
  unfold eApp appNew at e
  simp only [forceN_eq, forceL_eq, Hp.newK_eq, Hp.setK_eq, Bool.cond_eq_ite] at e
  repeat' split at e
  all_goals cases e

theorem nodfr_cpy {sz : Nat} {s x : AV} {h h' : Hp} {d : Df} : eCpy sz s x h ≠ .dfr d h' := by
  intro e
  unfold eCpy at e
  simp only [forceN_eq] at e
  repeat' split at e
  all_goals cases e

theorem nodfr_mup {ka : Bool} {ks : List (Nat × CK)} {m k x : AV} {h h' : Hp} {d : Df} : eMup ka ks m k x h ≠ .dfr d h' := by
  intro e
  unfold eMup at e
  simp only [forceN_eq, forceL_eq, Hp.setK_eq, Bool.cond_eq_ite] at e
  repeat' split at e
  all_goals cases e

theorem nodfr_mnew {ka : Bool} {ks : List (Nat × CK)} {m k x : AV} {h h' : Hp} {d : Df} : eMnew ka ks m k x h ≠ .dfr d h' := by
  intro e
  unfold eMnew at e
  repeat' split at e
  all_goals first | (cases e; done) | exact nodfr_mup e

theorem nodfr_del {ka : Bool} {ks : List (Nat × CK)} {m k : AV} {h h' : Hp} {d : Df} : eDel ka ks m k h ≠ .dfr d h' := by
  intro e
  unfold eDel at e
  simp only [forceL_eq, Hp.setK_eq, Bool.cond_eq_ite] at e
  repeat' split at e
  all_goals cases e

theorem nodfr_clr {m : AV} {h h' : Hp} {d : Df} : eClr m h ≠ .dfr d h' := by
  intro e
  unfold eClr at e
  simp only [Hp.setK_eq] at e
  repeat' split at e
  all_goals cases e

theorem nodfr_sclr {z : List Sc} {m : AV} {h h' : Hp} {d : Df} : eSclr z m h ≠ .dfr d h' := by
  intro e
  unfold eSclr at e
  repeat' split at e
  all_goals cases e

theorem nodfr_xt {x : Xt} {l : List AV} {h h' : Hp} {d : Df} : x.run l h ≠ .dfr d h' := by
  intro e
  unfold Xt.run at e
  simp only [Bool.cond_eq_ite] at e
  repeat' split at e
  all_goals first | (cases e; done) | exact eSt_nodfr e

theorem cOp_dfr {d : Opd} {xs : List Opd} (hc : cOp P o = some (.e (.dfr d xs))) : CallOf P o (.dfr d xs) := by
  unfold cOp at hc
  split at hc
  all_goals first
    | (simp [bind, Option.bind_eq_some_iff] at hc; done)
    | (cases hc; done)
    | skip
  all_goals try (simp only [bind, Option.bind_eq_some_iff] at hc)
  · obtain ⟨z, hz, hc⟩ := hc
    repeat' split at hc
    all_goals first | (cases hc; done) | (simp [Option.bind_eq_some_iff] at hc; done)
  · repeat' split at hc
    all_goals first | (cases hc; done) | (simp [Option.bind_eq_some_iff] at hc; done)
  · repeat' split at hc
    all_goals first | (cases hc; done) | (simp [Option.bind_eq_some_iff] at hc; done)
  · obtain ⟨dx, hx, dy, hy, hc⟩ := hc
    split at hc <;> try (first | (cases hc; done) | (split at hc <;> cases hc; done))
    all_goals
      split at hc
      · cases hc
      · split at hc <;> cases hc
  · obtain ⟨dx, hx, hc⟩ := hc
    split at hc
    · cases hc
    · simp only [bind, Option.bind_eq_some_iff] at hc
      obtain ⟨n, hn, hc⟩ := hc
      split at hc <;> cases hc
    · cases hc
    · split at hc <;> cases hc
    · split at hc <;> cases hc
    · cases hc
  · repeat' split at hc
    all_goals first | (cases hc; done) | (simp [bind, Option.bind_eq_some_iff] at hc; done)
  · obtain ⟨_, _, _, _, _, _, _, _, hc⟩ := hc
    repeat' split at hc
    all_goals first | (cases hc; done) | (simp [bind, Option.bind_eq_some_iff] at hc; done)
  · repeat' split at hc
    all_goals first | (cases hc; done) | (simp [bind, Option.bind_eq_some_iff] at hc; done)
  · repeat' split at hc
    all_goals first | (cases hc; done) | (simp [bind, Option.bind_eq_some_iff] at hc; done)
  · repeat' split at hc
    all_goals first | (cases hc; done) | (simp [bind, Option.bind_eq_some_iff] at hc; done)
  · repeat' split at hc
    all_goals first | (cases hc; done) | (simp [bind, Option.bind_eq_some_iff] at hc; done)
  · split at hc
    · simp only [Option.bind_eq_some_iff] at hc
      obtain ⟨f, hf, hc⟩ := hc
      split at hc
      · cases hc
      · simp [Option.bind_eq_some_iff] at hc
      · cases hc
    · cases hc
  · repeat' split at hc
    all_goals first | (cases hc; done) | (simp [bind, Option.bind_eq_some_iff] at hc; done)
  · repeat' split at hc
    all_goals first | (cases hc; done) | (simp [bind, Option.bind_eq_some_iff] at hc; done)
  · unfold cCall at hc
    simp only [bind, Option.bind_eq_some_iff] at hc
    obtain ⟨ys, hys, hc⟩ := hc
    split at hc
    · simp only [Option.bind_eq_some_iff] at hc
      obtain ⟨fn, hf, hc⟩ := hc
      split at hc
      · split at hc <;> cases hc
      · split at hc
        · simp [Option.bind_eq_some_iff] at hc
        · cases hc
    · simp [Option.bind_eq_some_iff] at hc
    · cases hc
    · repeat' split at hc
      all_goals first | (cases hc; done) | (simp [bind, Option.bind_eq_some_iff] at hc; done)
  · rename_i c hop
    split at hc
    · rename_i f hcal
      simp only [Option.bind_eq_some_iff, pure, Option.some.injEq, XOp.e.injEq, EOp.dfr.injEq] at hc
      obtain ⟨d', hd, xs', hxs, rfl, rfl⟩ := hc
      exact .dfr hop hcal hd hxs
    · cases hc

theorem op_defer {cl : Cl} {yl : Yl} (hcl : CallOk P cl) (hyl : YieldOk P yl) {x : XOp} {tm : Tm} {h h' : Hp} {d : Df} (hc : cOp P o = some x) (ht : RelT ρ tm a.tmps) (hr : x.run cl yl tm h = .dfr d h') :
    h' = h ∧ ∃ d', RelDf ρ d d' ∧ (next ({ a with defers := d' :: a.defers }.put o.dst undef) w → o.wpIn (FW none) 0 P a w next Q) := by
  cases x with
  | bad => cases hr
  | p po =>
    have hr : toRV (po.run tm) h = .dfr d h' := hr
    cases hp : po.run tm <;> rw [hp] at hr <;> cases hr
  | r ro' =>
    have hr : toRV (ro'.run tm h) h = .dfr d h' := hr
    cases hp : ro'.run tm h <;> rw [hp] at hr <;> cases hr
  | a ao =>
    have hr : ao.run tm h = .dfr d h' := hr
    unfold AOp.run at hr
    rcases aop_sound w hc ht with h1 | ⟨B, f, s, h1, h2, h3⟩
    · rw [h1] at hr; cases hr
    · rw [h1, Hp.newK_eq] at hr; cases hr
  | e eo =>
    cases eo with
    | st n x v => exact absurd hr eSt_nodfr
    | call f xs =>
      have hr : eCall cl f (gets tm xs) h = .dfr d h' := hr
      unfold eCall at hr; rw [forceL_eq] at hr
      exact absurd hr hcl.nodfr
    | cv f xs =>
      have hr : eCv cl yl (f.get tm) (gets tm xs) h = .dfr d h' := hr
      unfold eCv at hr
      split at hr
      · rw [forceL_eq] at hr; exact absurd hr hcl.nodfr
      · rw [forceL_eq] at hr; exact absurd hr hyl.nodfr
      · cases hr
    | app sz b s x => exact absurd hr nodfr_app
    | cpy sz x s => exact absurd hr nodfr_cpy
    | mup ka ks m k x => exact absurd hr nodfr_mup
    | mnew ka ks m k x => exact absurd hr nodfr_mnew
    | del ka ks m k => exact absurd hr nodfr_del
    | mclr m => exact absurd hr nodfr_clr
    | sclr z x => exact absurd hr nodfr_sclr
    | xt x xs => exact absurd hr nodfr_xt
    | dfr f xs =>
      have hr : eDfr (f.get tm) (gets tm xs) h = .dfr d h' := hr
      cases cOp_dfr hc with
        | dfr hop hcal hd hxs =>
          rename_i c g
          have hfv := opd_sound (ρ := ρ) ht hd
          have hall := opds_sound (ρ := ρ) ht (xs := c.args.toList) hxs
          have hmap : (c.args.map a.eval).toList = c.args.toList.map a.eval := by simp
          unfold eDfr at hr
          split at hr
          · rename_i p fs cs hdg
            rw [forceL_eq] at hr; cases hr
            rw [hdg] at hfv
            obtain ⟨first, caps, e1, e2, e3⟩ := hfv
            refine ⟨rfl, { target := .fn (.func p.n) caps, args := first ++ c.args.map a.eval }, ⟨caps, rfl, ?_⟩, fun hn => ⟨about_fw, ?_⟩⟩
            · simp only [Array.toList_append, hmap, List.append_assoc]
              exact forall₂_append (ptrAVs_rel e2) (forall₂_append hall (ptrAVs_rel e3))
            · have he : (Oper.semAt (FW none).round a.eval o).run P w = .ok (.defer { target := .fn (.func p.n) caps, args := first ++ c.args.map a.eval }) w := by
                show (execOp a.eval o).run P w = _
                unfold execOp
                simp only [hop, resolve, hcal, e1, Deferred.ofValue]
                rfl
              rw [he, Oper.uponIn_defer]; exact hn
          · cases hr
end

end Go.AM

/-
  Regions whose order is the text's. Conditions stand at each law.
-/
namespace Go.AM
variable {P : Program}

/-- Where a frame and a world stand, told from where they stood. -/
def Stands (P : Program) (ρ0 : Emb) (h0 : Hp) (w0 : World) (nt : Nat) (tm : Tm) (ds : List Df) (h : Hp) (a : Act) (w : World) : Prop :=
  ∃ ρ, a.tmps.size = nt ∧ RelT ρ tm a.tmps ∧ RelDs ρ ds a.defers ∧ RelH P ρ h w ∧ Step ρ0 h0 w0 ρ h w

theorem T8.getK_id {α : Type} (t : T8 α) (p : P3) : (T8.getK t p fun v => v) = t.get p := T8.getK_eq t p _

theorem relV_bool {ρ : Emb} {x : AV} {b : Bool} (h : RelV ρ x (.bool b)) : x = .c (.b b) := by
  cases x with
  | t l => obtain ⟨vs, h, _⟩ := h; cases h
  | c x => exact key_bool (ρ := ρ) h
  | g l => exact key_bool (ρ := ρ) h

def isBV (v : Value) (want : Bool) : Bool := match v with | .bool b => b == want | _ => false
theorem isB_of {ρ : Emb} {x : AV} {v : Value} (h : RelV ρ x v) (want : Bool) : isB x want = isBV v want := by
  unfold isB
  split
  · have h : v = .bool _ := h
    subst h; exact boolEq_iff _ _
  · rename_i hne
    cases v with
    | bool b => exact absurd (relV_bool h) (hne b)
    | _ => rfl

theorem guard_iff {ρ : Emb} {tm : Tm} {a : Act} {ops : Array Oper} {o : Oper} {c : P3} {want : Bool} (hg : guardOf ops o = some (some (c, want))) (ht : RelT ρ tm a.tmps) :
    Region.wanted o (yielded ops a.tmps) = isB (tm.get c) want := by
  unfold guardOf at hg
  split at hg
  · cases hg
  · rename_i j w hog
    split at hg
    · rename_i t hd
      split at hg
      · rename_i hlt
        cases hg
        have hr := ht.at_ (.of t)
        rw [P3.n_of hlt] at hr
        rw [isB_of hr]
        have hy : yielded ops a.tmps j = match a.tmps.getD t undef with | .bool b => some b | _ => none := by
          unfold yielded
          rw [hd]
          simp only [Option.bind_some, Array.getD_eq_getD_getElem?]
          cases a.tmps[t]? with
          | none => rfl
          | some v => cases v <;> rfl
        unfold Region.wanted
        rw [hog]
        simp only
        rw [hy]
        cases a.tmps.getD t undef <;> first | rfl | (rename_i b; cases b <;> cases want <;> rfl)
      · cases hg
    · cases hg

theorem guard_none {ops : Array Oper} {o : Oper} {y : Nat → Option Bool} (hg : guardOf ops o = some none) : Region.wanted o y = true := by
  unfold guardOf at hg
  split at hg
  · rename_i hog; unfold Region.wanted; rw [hog]
  · split at hg
    · split at hg <;> cases hg
    · cases hg

theorem dst_some {nt : Nat} {o : Oper} {p : P3} (hd : dstOf nt o = some (some p)) (hnt : nt ≤ 512) : ∃ t, o.dst = some t ∧ t < nt ∧ p.n = t ∧ p = .of t := by
  unfold dstOf at hd
  split at hd
  · cases hd
  · rename_i t ht
    split at hd
    · rename_i hlt; cases hd; exact ⟨t, ht, hlt, P3.n_of (Nat.lt_of_lt_of_le hlt hnt), rfl⟩
    · cases hd
theorem dst_none {nt : Nat} {o : Oper} (hd : dstOf nt o = some none) : o.dst = none := by
  unfold dstOf at hd
  split at hd
  · rename_i h; exact h
  · split at hd <;> cases hd

section
variable {ro : Option Nat} {ρ0 : Emb} {h0 : Hp} {w0 : World} {nt : Nat} {cl : Cl} {yl : Yl} {Q : Exit → Act → World → Prop}

/-- An operation and its slot: behind it, all stands. -/
theorem put_stands {ρ : Emb} {tm : Tm} {ds : List Df} {h h' : Hp} {a : Act} {w w' : World} {o : Oper} {v : AV} {v' : Value} {ρ' : Emb} (hs : a.tmps.size = nt) (ht : RelT ρ tm a.tmps) (hd : RelDs ρ ds a.defers) (S : Step ρ0 h0 w0 ρ h w)
    (h1 : RelV ρ' v v') (h2 : RelH P ρ' h' w') (h3 : Step ρ h w ρ' h' w') :
    (∀ p t, o.dst = some t → t < nt → p.n = t → Stands P ρ0 h0 w0 nt (tm.set p v) ds h' (a.put o.dst v') w') ∧ (o.dst = none → Stands P ρ0 h0 w0 nt tm ds h' (a.put o.dst v') w') := by
  refine ⟨fun p t hdst hlt hp => ?_, fun hdst => ?_⟩
  · rw [hdst]
    refine ⟨ρ', by simp [Act.put, hs], ?_, hd.mono h3.le, h2, S.trans h3⟩
    show RelT ρ' (tm.set p v) (a.tmps.setIfInBounds t v')
    subst hp
    exact (ht.mono h3.le).set (by rw [hs]; exact hlt) h1
  · rw [hdst]
    exact ⟨ρ', hs, ht.mono h3.le, hd.mono h3.le, h2, S.trans h3⟩

theorem put_stands_dfr {ρ : Emb} {tm : Tm} {ds : List Df} {h : Hp} {a : Act} {w : World} {o : Oper} {d : Df} {d' : Deferred} (hs : a.tmps.size = nt) (ht : RelT ρ tm a.tmps) (hd : RelDs ρ ds a.defers) (H : RelH P ρ h w) (S : Step ρ0 h0 w0 ρ h w)
    (h1 : RelDf ρ d d') :
    (∀ p t, o.dst = some t → t < nt → p.n = t → Stands P ρ0 h0 w0 nt (tm.set p (.t [])) (d :: ds) h ({ a with defers := d' :: a.defers }.put o.dst undef) w) ∧
    (o.dst = none → Stands P ρ0 h0 w0 nt tm (d :: ds) h ({ a with defers := d' :: a.defers }.put o.dst undef) w) := by
  refine ⟨fun p t hdst hlt hp => ?_, fun hdst => ?_⟩
  · rw [hdst]
    refine ⟨ρ, by simp [Act.put, hs], ?_, .cons h1 hd, H, S⟩
    show RelT ρ (tm.set p (.t [])) (a.tmps.setIfInBounds t undef)
    subst hp
    exact ht.set (by rw [hs]; exact hlt) (RelV.undef _)
  · rw [hdst]
    exact ⟨ρ, hs, ht, .cons h1 hd, H, S⟩

/-- What an operation leads on to. -/
theorem doOp_sound (hcl : CallOk P cl) (hyl : YieldOk P yl) {x : XOp} {o : Oper} {p : P3} {t : Nat} {tm tmF : Tm} {ds dsF : List Df} {h hF : Hp} {k : KI} {a : Act} {w : World} {next : Act → World → Prop} (hx : cOp P o = some x ∨ x = .bad) (hdst : o.dst = some t) (hlt : t < nt) (hp : p.n = t)
    (S : Stands P ρ0 h0 w0 nt tm ds h a w) (hr : doOp cl yl p x tm ds h k = .ok tmF dsF hF) (hro : ro.isSome = true → ∀ tm d ds h, k tm (d :: ds) h ≠ .ok tmF dsF hF)
    (hn : ∀ tm' ds' h' a' w', k tm' ds' h' = .ok tmF dsF hF → Stands P ρ0 h0 w0 nt tm' ds' h' a' w' → next a' w') : o.wpIn (FW ro) 0 P a w next Q := by
  obtain ⟨ρ, s1, s2, s3, s4, s5⟩ := S
  rcases hx with hx | rfl
  · unfold doOp at hr
    cases hv : x.run cl yl tm h with
    | no => rw [hv] at hr; cases hr
    | ok v h' =>
      rw [hv] at hr
      simp only [T8.setK_eq] at hr
      exact op_sound hcl hyl hx s2 s4 hv fun v' w' ρ' r1 r2 r3 => hn _ _ _ _ _ hr ((put_stands s1 s2 s3 s5 r1 r2 r3).1 p t hdst hlt hp)
    | dfr d h' =>
      rw [hv] at hr
      simp only [T8.setK_eq] at hr
      cases ro with
      | some l => exact absurd hr (hro rfl _ _ _ _)
      | none =>
        obtain ⟨rfl, d', r1, r2⟩ := op_defer (a := a) (w := w) (next := next) (Q := Q) hcl hyl hx s2 hv
        exact r2 (hn _ _ _ _ _ hr ((put_stands_dfr s1 s2 s3 s4 s5 r1).1 p t hdst hlt hp))
  · cases hr

theorem doOp'_sound (hcl : CallOk P cl) (hyl : YieldOk P yl) {x : XOp} {o : Oper} {tm tmF : Tm} {ds dsF : List Df} {h hF : Hp} {k : KI} {a : Act} {w : World} {next : Act → World → Prop} (hx : cOp P o = some x ∨ x = .bad) (hdst : o.dst = none)
    (S : Stands P ρ0 h0 w0 nt tm ds h a w) (hr : doOp' cl yl x tm ds h k = .ok tmF dsF hF) (hro : ro.isSome = true → ∀ tm d ds h, k tm (d :: ds) h ≠ .ok tmF dsF hF)
    (hn : ∀ tm' ds' h' a' w', k tm' ds' h' = .ok tmF dsF hF → Stands P ρ0 h0 w0 nt tm' ds' h' a' w' → next a' w') : o.wpIn (FW ro) 0 P a w next Q := by
  obtain ⟨ρ, s1, s2, s3, s4, s5⟩ := S
  rcases hx with hx | rfl
  · unfold doOp' at hr
    cases hv : x.run cl yl tm h with
    | no => rw [hv] at hr; cases hr
    | ok v h' =>
      rw [hv] at hr
      exact op_sound hcl hyl hx s2 s4 hv fun v' w' ρ' r1 r2 r3 => hn _ _ _ _ _ hr ((put_stands s1 s2 s3 s5 r1 r2 r3).2 hdst)
    | dfr d h' =>
      rw [hv] at hr
      cases ro with
      | some l => exact absurd hr (hro rfl _ _ _ _)
      | none =>
        obtain ⟨rfl, d', r1, r2⟩ := op_defer (a := a) (w := w) (next := next) (Q := Q) hcl hyl hx s2 hv
        exact r2 (hn _ _ _ _ _ hr ((put_stands_dfr s1 s2 s3 s4 s5 r1).2 hdst))
  · cases hr

theorem opAt_or (o : Oper) : cOp P o = some (opAt P o) ∨ opAt P o = .bad := by
  unfold opAt
  cases cOp P o with
  | none => exact .inr rfl
  | some x => exact .inl rfl

/-- One item. -/
theorem it_sound (hcl : CallOk P cl) (hyl : YieldOk P yl) {ops : Array Oper} {o : Oper} {i : Nat} {x : XOp} {it : It} {tm tmF : Tm} {ds dsF : List Df} {h hF : Hp} {k : KI} {a : Act} {w : World} {K : Act → World → Prop} (hnt : nt ≤ 512) (hx : cOp P o = some x ∨ x = .bad) (hi : ops[i]? = some o)
    (hit : itOf nt ops o x = some it) (S : Stands P ρ0 h0 w0 nt tm ds h a w) (hr : it.run cl yl tm ds h k = .ok tmF dsF hF) (hro : ro.isSome = true → ∀ tm d ds h, k tm (d :: ds) h ≠ .ok tmF dsF hF)
    (hn : ∀ tm' ds' h' a' w', k tm' ds' h' = .ok tmF dsF hF → Stands P ρ0 h0 w0 nt tm' ds' h' a' w' → K a' w') : wpOpIn (FW ro) 0 P ops Q i K a w := by
  unfold wpOpIn
  simp only [hi]
  unfold itOf at hit
  simp only [bind, Option.bind_eq_some_iff] at hit
  obtain ⟨g, hg, d, hd, hit⟩ := hit
  have skipped : ∀ c want, guardOf ops o = some (some (c, want)) → isB (tm.get c) want = Region.wanted o (yielded ops a.tmps) := fun c want hg => by
    obtain ⟨ρ, s1, s2, _⟩ := S
    exact (guard_iff hg s2).symm
  split at hit
  · rename_i p
    cases hit
    obtain ⟨t, h1, h2, h3, _⟩ := dst_some hd hnt
    rw [guard_none hg, if_pos rfl]
    exact doOp_sound hcl hyl hx h1 h2 h3 S hr hro hn
  · cases hit
    rw [guard_none hg, if_pos rfl]
    exact doOp'_sound hcl hyl hx (dst_none hd) S hr hro hn
  · rename_i c want p
    cases hit
    obtain ⟨t, h1, h2, h3, _⟩ := dst_some hd hnt
    have hr : (bif isB (T8.getK tm c fun v => v) want then doOp cl yl p x tm ds h k else T8.setK tm p (.t []) fun tm => k tm ds h) = .ok tmF dsF hF := hr
    rw [T8.getK_id, skipped c want hg] at hr
    cases hw : Region.wanted o (yielded ops a.tmps) with
    | true =>
      rw [hw, cond_true] at hr
      rw [if_pos rfl]
      exact doOp_sound hcl hyl hx h1 h2 h3 S hr hro hn
    | false =>
      rw [hw, cond_false, T8.setK_eq] at hr
      simp only [Bool.false_eq_true, if_false]
      obtain ⟨ρ, s1, s2, s3, s4, s5⟩ := S
      exact ⟨about_fw, hn _ _ _ _ _ hr ((put_stands s1 s2 s3 s5 (RelV.undef ρ) s4 (Step.refl _ _ _)).1 p t h1 h2 h3)⟩
  · rename_i c want
    cases hit
    have hr : (bif isB (T8.getK tm c fun v => v) want then doOp' cl yl x tm ds h k else k tm ds h) = .ok tmF dsF hF := hr
    rw [T8.getK_id, skipped c want hg] at hr
    cases hw : Region.wanted o (yielded ops a.tmps) with
    | true =>
      rw [hw, cond_true] at hr
      rw [if_pos rfl]
      exact doOp'_sound hcl hyl hx (dst_none hd) S hr hro hn
    | false =>
      rw [hw, cond_false] at hr
      simp only [Bool.false_eq_true, if_false]
      obtain ⟨ρ, s1, s2, s3, s4, s5⟩ := S
      exact ⟨about_fw, hn _ _ _ _ _ hr ((put_stands s1 s2 s3 s5 (RelV.undef ρ) s4 (Step.refl _ _ _)).2 (dst_none hd))⟩

theorem evIs_nil (tm : Tm) (ds : List Df) (h : Hp) : evIs cl yl [] tm ds h = .ok tm ds h := rfl
theorem evIs_cons (x : It) (l : List It) (tm : Tm) (ds : List Df) (h : Hp) : evIs cl yl (x :: l) tm ds h = x.run cl yl tm ds h (evIs cl yl l) := rfl

end
end Go.AM

/-
  A region in the text's order, whole; what an item leads on to. Conditions stand at each law.
-/
namespace Go.AM
variable {P : Program}
section
variable {cl : Cl} {yl : Yl}

theorem doOp_grows {p : P3} {x : XOp} {tm tmF : Tm} {ds dsF : List Df} {h hF : Hp} {k : KI} (hr : doOp cl yl p x tm ds h k = .ok tmF dsF hF) : ∃ tm1 e h1, k tm1 (e ++ ds) h1 = .ok tmF dsF hF := by
  unfold doOp at hr
  cases hv : x.run cl yl tm h with
  | no => rw [hv] at hr; cases hr
  | ok v h' => rw [hv] at hr; simp only [T8.setK_eq] at hr; exact ⟨_, [], _, hr⟩
  | dfr d h' => rw [hv] at hr; simp only [T8.setK_eq] at hr; exact ⟨_, [d], _, hr⟩
theorem doOp'_grows {x : XOp} {tm tmF : Tm} {ds dsF : List Df} {h hF : Hp} {k : KI} (hr : doOp' cl yl x tm ds h k = .ok tmF dsF hF) : ∃ tm1 e h1, k tm1 (e ++ ds) h1 = .ok tmF dsF hF := by
  unfold doOp' at hr
  cases hv : x.run cl yl tm h with
  | no => rw [hv] at hr; cases hr
  | ok v h' => rw [hv] at hr; exact ⟨_, [], _, hr⟩
  | dfr d h' => rw [hv] at hr; exact ⟨_, [d], _, hr⟩
theorem doChk_leads {p : P3} {o : ROp} {tm tmF : Tm} {dsF : List Df} {h hF : Hp} {k : RI} (hr : doChk p o tm h k = .ok tmF dsF hF) : k = .ok tmF dsF hF ∧ ∃ v, o.run tm h = some v ∧ avIs v (tm.get p) = true := by
  unfold doChk at hr
  split at hr
  · rename_i v hv
    rw [T8.getK_id] at hr
    cases hb : avIs v (tm.get p) with
    | false => rw [hb] at hr; cases hr
    | true => rw [hb] at hr; exact ⟨hr, v, hv, hb⟩
  · cases hr
theorem doAl_leads {p : P3} {o : AOp} {tm tmF : Tm} {ds dsF : List Df} {h hF : Hp} {k : KI} (hr : doAl p o tm ds h k = .ok tmF dsF hF) :
    ∃ r z v h1, tm.get p = .c (.p r z) ∧ o.at_ r tm h = .ok v h1 ∧ k (tm.set p v) ds h1 = .ok tmF dsF hF := by
  unfold doAl at hr
  rw [T8.getK_id] at hr
  split at hr
  · rename_i r z he
    cases hv : o.at_ r tm h with
    | no => rw [hv] at hr; cases hr
    | ok v h' => rw [hv] at hr; simp only [T8.setK_eq] at hr; exact ⟨r, z, v, h', he, hv, hr⟩
    | dfr d h' => rw [hv] at hr; cases hr
  · cases hr

theorem it_grows {it : It} {tm tmF : Tm} {ds dsF : List Df} {h hF : Hp} {k : KI} (hr : it.run cl yl tm ds h k = .ok tmF dsF hF) : ∃ tm1 e h1, k tm1 (e ++ ds) h1 = .ok tmF dsF hF := by
  cases it with
  | o p x => exact doOp_grows hr
  | o' x => exact doOp'_grows hr
  | g c w p x =>
    have hr : (bif isB (T8.getK tm c fun v => v) w then doOp cl yl p x tm ds h k else T8.setK tm p (.t []) fun tm => k tm ds h) = .ok tmF dsF hF := hr
    cases hb : isB (T8.getK tm c fun v => v) w with
    | true => rw [hb] at hr; exact doOp_grows hr
    | false => rw [hb, cond_false, T8.setK_eq] at hr; exact ⟨_, [], _, hr⟩
  | g' c w x =>
    have hr : (bif isB (T8.getK tm c fun v => v) w then doOp' cl yl x tm ds h k else k tm ds h) = .ok tmF dsF hF := hr
    cases hb : isB (T8.getK tm c fun v => v) w with
    | true => rw [hb] at hr; exact doOp'_grows hr
    | false => rw [hb] at hr; exact ⟨_, [], _, hr⟩
  | chk p o => exact ⟨_, [], _, (doChk_leads hr).1⟩
  | gchk c w p o =>
    have hr : (bif isB (T8.getK tm c fun v => v) w then doChk p o tm h (k tm ds h) else k tm ds h) = .ok tmF dsF hF := hr
    cases hb : isB (T8.getK tm c fun v => v) w with
    | true => rw [hb] at hr; exact ⟨_, [], _, (doChk_leads hr).1⟩
    | false => rw [hb] at hr; exact ⟨_, [], _, hr⟩
  | rs p =>
    have hr : (h.next.succK fun j => T8.setK tm p (.c (.p h.next 0)) fun tm => k tm ds ⟨j, h.t⟩) = .ok tmF dsF hF := hr
    rw [Id.succK_eq, T8.setK_eq] at hr
    exact ⟨_, [], _, hr⟩
  | al p o =>
    obtain ⟨r, z, v, h1, _, _, hr⟩ := doAl_leads (k := k) hr
    exact ⟨_, [], _, hr⟩
  | gal c w p o =>
    have hr : (bif isB (T8.getK tm c fun v => v) w then doAl p o tm ds h k else T8.setK tm p (.t []) fun tm => k tm ds h) = .ok tmF dsF hF := hr
    cases hb : isB (T8.getK tm c fun v => v) w with
    | true =>
      rw [hb] at hr
      obtain ⟨r, z, v, h1, _, _, hr⟩ := doAl_leads hr
      exact ⟨_, [], _, hr⟩
    | false => rw [hb, cond_false, T8.setK_eq] at hr; exact ⟨_, [], _, hr⟩

theorem evIs_grows {l : List It} {tm tmF : Tm} {ds dsF : List Df} {h hF : Hp} (hr : evIs cl yl l tm ds h = .ok tmF dsF hF) : ∃ e, dsF = e ++ ds := by
  induction l generalizing tm ds h with
  | nil => cases hr; exact ⟨[], rfl⟩
  | cons x l ih =>
    obtain ⟨tm1, e, h1, hr⟩ := it_grows hr
    obtain ⟨e', he⟩ := ih hr
    exact ⟨e' ++ e, by rw [he, List.append_assoc]⟩

theorem evIs_nodfr {l : List It} {tmF : Tm} {dsF : List Df} {hF : Hp} (hd : dsF = []) (tm : Tm) (d : Df) (ds : List Df) (h : Hp) : evIs cl yl l tm (d :: ds) h ≠ .ok tmF dsF hF := fun hr => by
  obtain ⟨e, he⟩ := evIs_grows hr
  rw [hd] at he
  cases e <;> cases he

variable {ro : Option Nat} {ρ0 : Emb} {h0 : Hp} {w0 : World} {nt : Nat} {Q : Exit → Act → World → Prop}

theorem ops_sound (hcl : CallOk P cl) (hyl : YieldOk P yl) {ops : Array Oper} (hnt : nt ≤ 512) {tmF : Tm} {dsF : List Df} {hF : Hp} (hro : ro.isSome = true → dsF = []) (hQ : ∀ a w, Stands P ρ0 h0 w0 nt tmF dsF hF a w → Q .normal a w) :
    ∀ (os : List Oper) (i : Nat) (its : List It) (tm : Tm) (ds : List Df) (h : Hp) (a : Act) (w : World), ops.toList.drop i = os → os.mapM (fun o => itOf nt ops o (opAt P o)) = some its → evIs cl yl its tm ds h = .ok tmF dsF hF →
      Stands P ρ0 h0 w0 nt tm ds h a w → wpOpsIn (FW ro) 0 P ops Q (List.range' i os.length) a w := by
  intro os
  induction os with
  | nil =>
    intro i its tm ds h a w _ hm hr S
    simp only [List.mapM_nil, pure, Option.some.injEq] at hm
    subst hm
    cases hr
    exact hQ a w S
  | cons o os ih =>
    intro i its tm ds h a w hd hm hr S
    rw [List.mapM_cons] at hm
    simp only [bind, Option.bind_eq_some_iff, pure, Option.some.injEq] at hm
    obtain ⟨it, hit, its', hits, rfl⟩ := hm
    have hi : ops[i]? = some o := by
      have : (ops.toList.drop i)[0]? = some o := by rw [hd]; rfl
      rw [List.getElem?_drop] at this
      simpa using this
    have hd' : ops.toList.drop (i + 1) = os := by
      rw [← List.drop_drop, hd]; rfl
    rw [List.length_cons, List.range'_succ, wpOpsIn_cons]
    exact it_sound hcl hyl hnt (opAt_or o) hi hit S hr (fun hs => evIs_nodfr (hro hs)) fun tm' ds' h' a' w' hk S' => ih (i + 1) its' tm' ds' h' a' w' hd' hits hk S'

theorem reg_sound (hcl : CallOk P cl) (hyl : YieldOk P yl) {ops : Array Oper} {id : Nat} (hnt : nt ≤ 512) {its : List It} {tm tmF : Tm} {ds dsF : List Df} {h hF : Hp} {a : Act} {w : World} (hro : ro.isSome = true → dsF = []) (hm : ops.toList.mapM (fun o => itOf nt ops o (opAt P o)) = some its)
    (hr : evIs cl yl its tm ds h = .ok tmF dsF hF) (S : Stands P ρ0 h0 w0 nt tm ds h a w) (hQ : ∀ a w, Stands P ρ0 h0 w0 nt tmF dsF hF a w → Q .normal a w) : (Code.region id ops false).wpIn (FW ro) 0 P Q a w := by
  apply wpIn_region
  have := ops_sound (ops := ops) hcl hyl hnt hro hQ ops.toList 0 its tm ds h a w rfl hm hr S
  rw [List.range_eq_range']
  simpa using this
end
end Go.AM

/-
  An operation hangs on the slots alone that it looks at. Conditions stand at each law.
-/
namespace Go.AM

def Same (l : List P3) (tm tm' : Tm) : Prop := ∀ p ∈ l, tm.get p = tm'.get p

theorem Same.app {l m : List P3} {tm tm' : Tm} (h : Same (l ++ m) tm tm') : Same l tm tm' ∧ Same m tm tm' :=
  ⟨fun p hp => h p (List.mem_append_left _ hp), fun p hp => h p (List.mem_append_right _ hp)⟩

theorem Opd.get_same {x : Opd} {tm tm' : Tm} (h : Same x.sl tm tm') : x.get tm = x.get tm' := by
  cases x with
  | t p => exact h p (by simp [Opd.sl])
  | k v => rfl

theorem opt_same {x : Option Opd} {tm tm' : Tm} (h : Same (slO x) tm tm') : optGet tm x = optGet tm' x := by
  cases x with
  | none => rfl
  | some x => show some (x.get tm) = some (x.get tm'); rw [Opd.get_same h]

theorem gets_same : ∀ {xs : List Opd} {tm tm' : Tm}, Same (opsl xs) tm tm' → gets tm xs = gets tm' xs
  | [], _, _, _ => rfl
  | x :: xs, tm, tm', h => by
    have h : Same (x.sl ++ opsl xs) tm tm' := h
    show x.get tm :: gets tm xs = x.get tm' :: gets tm' xs
    rw [Opd.get_same h.app.1, gets_same h.app.2]

theorem ptrs_same : ∀ {xs : List Opd} {tm tm' : Tm}, Same (opsl xs) tm tm' → ptrs tm xs = ptrs tm' xs
  | [], _, _, _ => rfl
  | x :: xs, tm, tm', h => by
    have h : Same (x.sl ++ opsl xs) tm tm' := h
    show (match x.get tm, ptrs tm xs with | .c (.p r o), some l => some ((r, o) :: l) | _, _ => none) = (match x.get tm', ptrs tm' xs with | .c (.p r o), some l => some ((r, o) :: l) | _, _ => none)
    rw [Opd.get_same h.app.1, ptrs_same h.app.2]

theorem maxGo_same {max : Bool} {k : IntKind} : ∀ {xs : List Opd} {tm tm' : Tm} {a : Int}, Same (opsl xs) tm tm' → maxGo max k tm xs a = maxGo max k tm' xs a
  | [], _, _, _, _ => rfl
  | x :: xs, tm, tm', a, h => by
    have h : Same (x.sl ++ opsl xs) tm tm' := h
    show (match x.get tm with | .c (.i _ b) => maxGo max k tm xs _ | _ => none) = (match x.get tm' with | .c (.i _ b) => maxGo max k tm' xs _ | _ => none)
    rw [Opd.get_same h.app.1]
    split
    · exact maxGo_same h.app.2
    · rfl

theorem parts_same : ∀ {ps : List (Nat × Nat × Opd)} {z : List Sc} {tm tm' : Tm}, Same (ps.flatMap fun p => p.2.2.sl) tm tm' → layParts z ps tm = layParts z ps tm'
  | [], _, _, _, _ => rfl
  | (off, n, x) :: ps, z, tm, tm', h => by
    have h : Same (x.sl ++ ps.flatMap fun p => p.2.2.sl) tm tm' := h
    rw [layParts_cons, layParts_cons, Opd.get_same h.app.1]
    split
    · rfl
    · rw [parts_same h.app.2]

theorem POp.run_same {o : POp} {tm tm' : Tm} (h : Same o.sl tm tm') : o.run tm = o.run tm' := by
  cases o with
  | mv x => show some _ = some _; rw [Opd.get_same h]
  | pick c a b =>
    have h1 := h.app.1.app.1; have h2 := h.app.1.app.2; have h3 := h.app.2
    show POp.pick' c a b tm = POp.pick' c a b tm'
    unfold POp.pick'; rw [Opd.get_same h1, Opd.get_same h2, Opd.get_same h3]
  | bin op x y => show pBin op _ _ = pBin op _ _; rw [Opd.get_same h.app.1, Opd.get_same h.app.2]
  | eqx n q x y => show pEqx n q _ _ = pEqx n q _ _; rw [Opd.get_same h.app.1, Opd.get_same h.app.2]
  | eqa n ks x y => show pEqa n ks _ _ = pEqa n ks _ _; rw [Opd.get_same h.app.1, Opd.get_same h.app.2]
  | un op x => show pUn op _ = pUn op _; rw [Opd.get_same h]
  | cvt k x => show pCvt k _ = pCvt k _; rw [Opd.get_same h]
  | fa off x => show pFa off _ = pFa off _; rw [Opd.get_same h]
  | iar n sz x i => show pIar n sz _ _ = pIar n sz _ _; rw [Opd.get_same h.app.1, Opd.get_same h.app.2]
  | isl sz x i => show pIsl sz _ _ = pIsl sz _ _; rw [Opd.get_same h.app.1, Opd.get_same h.app.2]
  | ixa n sz agg x i => show pIxa n sz agg _ _ = pIxa n sz agg _ _; rw [Opd.get_same h.app.1, Opd.get_same h.app.2]
  | ixs x i => show pIxs _ _ = pIxs _ _; rw [Opd.get_same h.app.1, Opd.get_same h.app.2]
  | fld off n agg x => show pFld off n agg _ = pFld off n agg _; rw [Opd.get_same h]
  | sls x lo hi => show pSls _ _ _ = pSls _ _ _; rw [Opd.get_same h.app.1.app.1, opt_same h.app.1.app.2, opt_same h.app.2]
  | slc sz x lo hi mx => show pSlc sz _ _ _ _ = pSlc sz _ _ _ _; rw [Opd.get_same h.app.1.app.1.app.1, opt_same h.app.1.app.1.app.2, opt_same h.app.1.app.2, opt_same h.app.2]
  | sla n sz x lo hi mx => show pSla n sz _ _ _ _ = pSla n sz _ _ _ _; rw [Opd.get_same h.app.1.app.1.app.1, opt_same h.app.1.app.1.app.2, opt_same h.app.1.app.2, opt_same h.app.2]
  | ext i x => show pExt i _ = pExt i _; rw [Opd.get_same h]
  | nil x => show pNil _ = pNil _; rw [Opd.get_same h]
  | bld z ps => show (layParts _ ps tm).map _ = (layParts _ ps tm').map _; rw [parts_same h]
  | len s x => show pLen s _ = pLen s _; rw [Opd.get_same h]
  | cap x => show pCap _ = pCap _; rw [Opd.get_same h]
  | mm max xs =>
    show pMm max xs tm = pMm max xs tm'
    unfold pMm
    cases xs with
    | nil => rfl
    | cons x r =>
      have h : Same (x.sl ++ opsl r) tm tm' := h
      simp only
      rw [Opd.get_same h.app.1]
      split
      · exact maxGo_same h.app.2
      · rfl
  | mkf f fs cs =>
    show POp.mkf' f fs cs tm = POp.mkf' f fs cs tm'
    unfold POp.mkf'; rw [ptrs_same h.app.1, ptrs_same h.app.2]

theorem ROp.run_same {o : ROp} {tm tm' : Tm} (h : Same o.sl tm tm') (hp : Hp) : o.run tm hp = o.run tm' hp := by
  cases o with
  | ld x => show rLd _ hp = rLd _ hp; rw [Opd.get_same h]
  | lda n x => show rLda n _ hp = rLda n _ hp; rw [Opd.get_same h]
  | lkp ka ks z ok m k => show rLkp ka ks z ok _ _ hp = rLkp ka ks z ok _ _ hp; rw [Opd.get_same h.app.1, Opd.get_same h.app.2]
  | mlen x => show rMlen _ hp = rMlen _ hp; rw [Opd.get_same h]
  | b2s x => show rB2s _ hp = rB2s _ hp; rw [Opd.get_same h]
  | usp x => show rUsp _ hp = rUsp _ hp; rw [Opd.get_same h]

theorem AOp.mk_same {o : AOp} {tm tm' : Tm} (h : Same o.sl tm tm') (k : MK) : o.mkK tm k = o.mkK tm' k := by
  cases o with
  | new z => rfl
  | box x => show aBox _ k = aBox _ k; rw [Opd.get_same h]
  | bls z n ps => show AOp.bls' z n ps tm k = AOp.bls' z n ps tm' k; unfold AOp.bls'; rw [parts_same h]
  | mks sz by_ z l c => show aMks sz by_ z _ _ k = aMks sz by_ z _ _ k; rw [Opd.get_same h.app.1, Opd.get_same h.app.2]
  | mkm => rfl
  | s2b x => show aS2b _ k = aS2b _ k; rw [Opd.get_same h]

theorem AOp.mk_cases (o : AOp) (tm : Tm) : (∀ k, o.mkK tm k = .no) ∨ ∃ B f, ∀ k, o.mkK tm k = k B f := by
  cases o with
  | new z => exact .inr ⟨.cells true (ropeOf (runs z)), fun r => .c (.p r 0), fun k => by show AOp.new' z tm k = _; unfold AOp.new'; rw [forceL_eq]⟩
  | box x =>
    show (∀ k, aBox (x.get tm) k = .no) ∨ ∃ B f, ∀ k, aBox (x.get tm) k = k B f
    unfold aBox boxV
    cases x.get tm with
    | t l => exact .inl fun _ => rfl
    | c s => exact .inr ⟨.cells true (ropeOf [s]), fun r => .c (.p r 0), fun k => by simp only [forceL_eq]⟩
    | g l => exact .inr ⟨.cells true (ropeOf l), fun r => .c (.p r 0), fun k => by simp only [forceL_eq]⟩
  | bls z n ps =>
    show (∀ k, AOp.bls' z n ps tm k = .no) ∨ ∃ B f, ∀ k, AOp.bls' z n ps tm k = k B f
    unfold AOp.bls'
    split
    · rename_i l _; exact .inr ⟨.cells true (ropeOf l), fun r => .c (.sl r 0 n (.k n)), fun k => by simp only [forceL_eq]⟩
    · exact .inl fun _ => rfl
  | mks sz by_ z l c =>
    show (∀ k, aMks sz by_ z (l.get tm) (c.get tm) k = .no) ∨ ∃ B f, ∀ k, aMks sz by_ z (l.get tm) (c.get tm) k = k B f
    unfold aMks
    split
    · rename_i n _ m _ _
      cases Nat.ble n m with
      | false => exact .inl fun _ => rfl
      | true =>
        cases Nat.ble (Nat.mul m by_) 1099511627776 with
        | false => exact .inl fun _ => rfl
        | true =>
          cases Nat.ble m 1099511627776 with
          | false => exact .inl fun _ => rfl
          | true => exact .inr ⟨_, _, fun k => rfl⟩
    · exact .inl fun _ => rfl
  | mkm => exact .inr ⟨_, _, fun k => rfl⟩
  | s2b x =>
    show (∀ k, aS2b (x.get tm) k = .no) ∨ ∃ B f, ∀ k, aS2b (x.get tm) k = k B f
    unfold aS2b
    split
    · rename_i l _; exact .inr ⟨.cells true (ropeOf (l.map fun b => Sc.i .u8 (.ofNat b))), fun r => .c (.sl r 0 l.length (.u 1)), fun k => by simp only [forceL_eq, forceN_eq]⟩
    · exact .inl fun _ => rfl

theorem EOp.run_same {o : EOp} {tm tm' : Tm} (h : Same o.sl tm tm') (cl : Cl) (yl : Yl) (hp : Hp) : o.run cl yl tm hp = o.run cl yl tm' hp := by
  cases o with
  | st n x v => show eSt n _ _ hp = eSt n _ _ hp; rw [Opd.get_same h.app.1, Opd.get_same h.app.2]
  | call f xs => show eCall cl f _ hp = eCall cl f _ hp; rw [gets_same h]
  | cv f xs => show eCv cl yl _ _ hp = eCv cl yl _ _ hp; rw [Opd.get_same h.app.1, gets_same h.app.2]
  | app sz by_ s x => show eApp sz by_ _ _ hp = eApp sz by_ _ _ hp; rw [Opd.get_same h.app.1, Opd.get_same h.app.2]
  | cpy sz d s => show eCpy sz _ _ hp = eCpy sz _ _ hp; rw [Opd.get_same h.app.1, Opd.get_same h.app.2]
  | mup ka ks m k x => show eMup ka ks _ _ _ hp = eMup ka ks _ _ _ hp; rw [Opd.get_same h.app.1.app.1, Opd.get_same h.app.1.app.2, Opd.get_same h.app.2]
  | mnew ka ks m k x => show eMnew ka ks _ _ _ hp = eMnew ka ks _ _ _ hp; rw [Opd.get_same h.app.1.app.1, Opd.get_same h.app.1.app.2, Opd.get_same h.app.2]
  | del ka ks m k => show eDel ka ks _ _ hp = eDel ka ks _ _ hp; rw [Opd.get_same h.app.1, Opd.get_same h.app.2]
  | mclr m => show eClr _ hp = eClr _ hp; rw [Opd.get_same h]
  | sclr z x => show eSclr z _ hp = eSclr z _ hp; rw [Opd.get_same h]
  | xt x xs => show x.run _ hp = x.run _ hp; rw [gets_same h]
  | dfr f xs => show eDfr _ _ hp = eDfr _ _ hp; rw [Opd.get_same h.app.1, gets_same h.app.2]

theorem XOp.run_same {x : XOp} {tm tm' : Tm} (h : Same x.sl tm tm') (cl : Cl) (yl : Yl) (hp : Hp) : x.run cl yl tm hp = x.run cl yl tm' hp := by
  cases x with
  | bad => rfl
  | p o => show toRV (o.run tm) hp = toRV (o.run tm') hp; rw [POp.run_same h]
  | r o => show toRV (o.run tm hp) hp = toRV (o.run tm' hp) hp; rw [ROp.run_same h]
  | a o => show o.mkK tm _ = o.mkK tm' _; rw [AOp.mk_same h]
  | e o => exact EOp.run_same h cl yl hp

end Go.AM

/-
  A region that draws its order: what the run of its levels tells of each operation. Conditions stand at each law.
-/
namespace Go.AM

/-! ## Bits -/
theorem bit_lor (a b i : Nat) : bit (Nat.lor a b) i = (bit a i || bit b i) := Nat.testBit_or a b i
theorem bit_one (e i : Nat) : bit (Nat.shiftLeft 1 e) i = decide (e = i) := by
  show Nat.testBit (1 <<< e) i = _
  rw [Nat.one_shiftLeft, Nat.testBit_two_pow]
theorem bit_zero (i : Nat) : bit 0 i = false := Nat.zero_testBit i
theorem sub_bit {m n : Nat} (h : sub? m n = true) {i : Nat} (hi : bit m i = true) : bit n i = true := by
  unfold sub? at h
  have h := beq_nat_true h
  rw [← h, bit_lor, hi]; rfl
theorem bit_foldl (l : List Nat) : ∀ (m i : Nat), bit (l.foldl (fun m i => Nat.lor m (Nat.shiftLeft 1 i)) m) i = (bit m i || l.contains i) := by
  induction l with
  | nil => intro m i; simp
  | cons x l ih =>
    intro m i
    rw [List.foldl_cons, ih, bit_lor, bit_one, List.contains_cons, Bool.or_assoc]
    congr 1
    by_cases h : x = i
    · subst h; simp
    · have : (i == x) = false := by simp; exact fun e => h e.symm
      rw [this]; simp [h]
theorem bit_mask (l : List Nat) (i : Nat) : bit (mask l) i = l.contains i := by
  unfold mask; rw [bit_foldl, bit_zero, Bool.false_or]
theorem bit_and (a b i : Nat) : bit (Nat.land a b) i = (bit a i && bit b i) := Nat.testBit_and a b i
theorem disj_bit {a b : Nat} (h : Nat.beq (Nat.land a b) 0 = true) {i : Nat} (ha : bit a i = true) : bit b i = false := by
  have h := beq_nat_true h
  have : bit (Nat.land a b) i = false := by rw [h, bit_zero]
  rw [bit_and, ha, Bool.true_and] at this; exact this

/-! ## Who writes a slot -/
section
variable {ds : List DOp}

theorem wr_some {p : P3} {j : Nat} (h : wr ds p = some j) : ∃ d, ds[j]? = some d ∧ d.dst = some p := by
  unfold wr at h
  rw [List.findIdx?_eq_some_iff_getElem] at h
  obtain ⟨h1, h2, _⟩ := h
  exact ⟨ds[j], List.getElem?_eq_getElem h1, by simpa using h2⟩

theorem distinct_mem {l : List P3} (h : distinct l = true) : l.Nodup := by
  induction l with
  | nil => exact List.nodup_nil
  | cons p r ih =>
    unfold distinct at h
    rw [Bool.and_eq_true] at h
    rw [List.nodup_cons]
    exact ⟨by simpa using h.1, ih h.2⟩

theorem wr_of : ∀ {ds : List DOp} {p : P3} {j : Nat} {d : DOp}, distinct (ds.filterMap (·.dst)) = true → ds[j]? = some d → d.dst = some p → wr ds p = some j
  | [], _, _, _, _, h, _ => by simp at h
  | x :: ds, p, j, d, hd, hj, hp => by
    cases j with
    | zero =>
      simp at hj; subst hj
      unfold wr
      rw [List.findIdx?_cons]; simp [hp]
    | succ j =>
      have hj : ds[j]? = some d := by simpa using hj
      have hmem : p ∈ ds.filterMap (·.dst) := List.mem_filterMap.2 ⟨d, List.mem_of_getElem? hj, hp⟩
      have hx : x.dst ≠ some p := fun e => by
        rw [List.filterMap_cons_some e] at hd
        have := distinct_mem hd
        rw [List.nodup_cons] at this
        exact this.1 hmem
      have hd' : distinct (ds.filterMap (·.dst)) = true := by
        cases e : x.dst with
        | none => rwa [List.filterMap_cons_none e] at hd
        | some q =>
          rw [List.filterMap_cons_some e] at hd
          unfold distinct at hd
          rw [Bool.and_eq_true] at hd
          exact hd.2
      have ih := wr_of hd' hj hp
      unfold wr at ih ⊢
      rw [List.findIdx?_cons]
      have : (x.dst == some p) = false := by simp [hx]
      rw [this, ih]; rfl

theorem wr_inj (hd : distinct (ds.filterMap (·.dst)) = true) {i j : Nat} {d : DOp} {p : P3} (hi : ds[i]? = some d) (hp : d.dst = some p) (hj : wr ds p = some j) : i = j := by
  have := wr_of hd hi hp
  rw [hj] at this; cases this; rfl

end

/-! ## What an operation sees -/
section
variable (ds : List DOp) (tm0 tmF : Tm)
def cval (i : Nat) (p : P3) : AV := match wr ds p with
  | some j => if bit (ancAt ds i) j then tmF.get p else tm0.get p
  | none => tm0.get p
def Agr (i : Nat) (tm : Tm) : Prop := ∀ p ∈ slAt ds i, tm.get p = cval ds tm0 tmF i p
def W (i : Nat) : Bool := match ds[i]? with
  | some d => (match d.guard with | none => true | some (c, w) => isB (cval ds tm0 tmF i c) w)
  | none => false
end

section
variable {ds : List DOp} {tm0 tmF : Tm}

theorem Agr.same {i : Nat} {tm tm' : Tm} (h : Agr ds tm0 tmF i tm) (h' : Agr ds tm0 tmF i tm') {d : DOp} (hd : ds[i]? = some d) : Same d.x.sl tm tm' := fun p hp => by
  have hm : p ∈ slAt ds i := by unfold slAt; rw [hd]; exact List.mem_append_left _ hp
  rw [h p hm, h' p hm]
theorem Agr.guard {i : Nat} {tm : Tm} (h : Agr ds tm0 tmF i tm) {d : DOp} (hd : ds[i]? = some d) {c : P3} {w : Bool} (hg : d.guard = some (c, w)) : isB (tm.get c) w = W ds tm0 tmF i := by
  have hm : c ∈ slAt ds i := by unfold slAt; rw [hd]; show c ∈ d.sl; unfold DOp.sl; rw [hg]; simp
  unfold W; rw [hd, h c hm]; simp only [hg]
theorem W_none {i : Nat} {d : DOp} (hd : ds[i]? = some d) (hg : d.guard = none) : W ds tm0 tmF i = true := by unfold W; rw [hd]; simp only [hg]
end

section
variable (ds : List DOp) (tm0 tmF : Tm) (cl : Cl) (yl : Yl) (idOf : Nat → Id)

/-- What is so of an operation that was run where the machine stood so. -/
def StepFact (i : Nat) (dl : List Df) (h : Hp) (dl1 : List Df) (h1 : Hp) : Prop :=
  ∃ d, ds[i]? = some d ∧ (W ds tm0 tmF i = false → dl1 = dl ∧ h1 = h ∧ ∀ p, d.dst = some p → tmF.get p = .t []) ∧
    (W ds tm0 tmF i = true → match d.x with
      | .a o => ∃ p B f, d.dst = some p ∧ (∀ tm, Agr ds tm0 tmF i tm → ∀ k, o.mkK tm k = k B f) ∧ tmF.get p = f (idOf i) ∧ dl1 = dl ∧ h1 = h.set (idOf i) (some B)
      | x => (∃ v, (∀ tm, Agr ds tm0 tmF i tm → x.run cl yl tm h = .ok v h1) ∧ dl1 = dl ∧ ∀ p, d.dst = some p → tmF.get p = v) ∨
          ∃ e, (∀ tm, Agr ds tm0 tmF i tm → x.run cl yl tm h = .dfr e h1) ∧ dl1 = e :: dl ∧ ∀ p, d.dst = some p → tmF.get p = .t [])

def RunFacts : List Nat → List Df → Hp → List Df → Hp → Prop
  | [], dl, h, dl', h' => dl' = dl ∧ h' = h
  | i :: r, dl, h, dl', h' => ∃ dl1 h1, StepFact ds tm0 tmF cl yl idOf i dl h dl1 h1 ∧ RunFacts r dl1 h1 dl' h'

def ChkFact (i : Nat) (h : Hp) : Prop := ∃ d, ds[i]? = some d ∧ (W ds tm0 tmF i = true → ∃ o p, d.x = .r o ∧ d.dst = some p ∧ ∀ tm, Agr ds tm0 tmF i tm → o.run tm h = some (tmF.get p))

def LvFacts (dsF : List Df) (hF : Hp) : List Lv → List Df → Hp → Prop
  | [], _, _ => False
  | lv :: rest, dl, h => ∃ dl1 h1, RunFacts ds tm0 tmF cl yl idOf lv.pre dl h dl1 h1 ∧ ∃ dl2 h2, RunFacts ds tm0 tmF cl yl idOf lv.als dl1 h1 dl2 h2 ∧
      ∃ dl3 h3, RunFacts ds tm0 tmF cl yl idOf lv.ms dl2 h2 dl3 h3 ∧ match lv.act with
        | none => dl3 = dsF ∧ h3 = hF
        | some (e, cs) => ∃ dl4 h4, StepFact ds tm0 tmF cl yl idOf e dl3 h3 dl4 h4 ∧ (∀ i ∈ cs, ChkFact ds tm0 tmF i h4) ∧ LvFacts dsF hF rest dl4 h4

/-- The slots while the levels are run in their order. -/
structure CInv (D : Nat) (tm : Tm) : Prop where
  old : ∀ p, wr ds p = none → tm.get p = tm0.get p
  yet : ∀ p j, wr ds p = some j → bit D j = false → kindAt ds j ≠ .a → tm.get p = tm0.get p
  res : ∀ p j, wr ds p = some j → bit D j = false → kindAt ds j = .a → tm.get p = .c (.p (idOf j) 0)
  shut : ∀ i j, bit D i = true → bit (ancAt ds i) j = true → bit D j = true
end

def itDst : It → Option P3
  | .o d _ => some d | .o' _ => none | .g _ _ d _ => some d | .g' _ _ _ => none | .chk _ _ => none | .gchk _ _ _ _ => none | .rs d => some d | .al d _ => some d | .gal _ _ d _ => some d

section
variable {cl : Cl} {yl : Yl}
theorem keep_one {it : It} {tm tmF : Tm} {dl dsF : List Df} {h hF : Hp} {k : KI} (hr : it.run cl yl tm dl h k = .ok tmF dsF hF) {p : P3} (hp : itDst it ≠ some p) :
    ∃ tm1 dl1 h1, k tm1 dl1 h1 = .ok tmF dsF hF ∧ tm1.get p = tm.get p := by
  have hset : ∀ {q : P3} {v : AV}, some q ≠ some p → (tm.set q v).get p = tm.get p := fun hq => by rw [T8.get_set, if_neg (fun e => hq (by rw [e]))]
  have hdo : ∀ {q : P3} {x : XOp}, some q ≠ some p → doOp cl yl q x tm dl h k = .ok tmF dsF hF → ∃ tm1 dl1 h1, k tm1 dl1 h1 = .ok tmF dsF hF ∧ tm1.get p = tm.get p := fun hq hr => by
    unfold doOp at hr
    rename_i q x
    cases hv : x.run cl yl tm h with
    | no => rw [hv] at hr; cases hr
    | ok v h' => rw [hv] at hr; simp only [T8.setK_eq] at hr; exact ⟨_, _, _, hr, hset hq⟩
    | dfr d h' => rw [hv] at hr; simp only [T8.setK_eq] at hr; exact ⟨_, _, _, hr, hset hq⟩
  have hdo' : ∀ {x : XOp}, doOp' cl yl x tm dl h k = .ok tmF dsF hF → ∃ tm1 dl1 h1, k tm1 dl1 h1 = .ok tmF dsF hF ∧ tm1.get p = tm.get p := fun hr => by
    unfold doOp' at hr
    rename_i x
    cases hv : x.run cl yl tm h with
    | no => rw [hv] at hr; cases hr
    | ok v h' => rw [hv] at hr; exact ⟨_, _, _, hr, rfl⟩
    | dfr d h' => rw [hv] at hr; exact ⟨_, _, _, hr, rfl⟩
  cases it with
  | o q x => exact hdo hp hr
  | o' x => exact hdo' hr
  | g c w q x =>
    have hr : (bif isB (T8.getK tm c fun v => v) w then doOp cl yl q x tm dl h k else T8.setK tm q (.t []) fun tm => k tm dl h) = .ok tmF dsF hF := hr
    cases hb : isB (T8.getK tm c fun v => v) w with
    | true => rw [hb] at hr; exact hdo hp hr
    | false => rw [hb, cond_false, T8.setK_eq] at hr; exact ⟨_, _, _, hr, hset hp⟩
  | g' c w x =>
    have hr : (bif isB (T8.getK tm c fun v => v) w then doOp' cl yl x tm dl h k else k tm dl h) = .ok tmF dsF hF := hr
    cases hb : isB (T8.getK tm c fun v => v) w with
    | true => rw [hb] at hr; exact hdo' hr
    | false => rw [hb] at hr; exact ⟨_, _, _, hr, rfl⟩
  | chk q o => exact ⟨_, _, _, (doChk_leads hr).1, rfl⟩
  | gchk c w q o =>
    have hr : (bif isB (T8.getK tm c fun v => v) w then doChk q o tm h (k tm dl h) else k tm dl h) = .ok tmF dsF hF := hr
    cases hb : isB (T8.getK tm c fun v => v) w with
    | true => rw [hb] at hr; exact ⟨_, _, _, (doChk_leads hr).1, rfl⟩
    | false => rw [hb] at hr; exact ⟨_, _, _, hr, rfl⟩
  | rs q =>
    have hr : (h.next.succK fun j => T8.setK tm q (.c (.p h.next 0)) fun tm => k tm dl ⟨j, h.t⟩) = .ok tmF dsF hF := hr
    rw [Id.succK_eq, T8.setK_eq] at hr
    exact ⟨_, _, _, hr, hset hp⟩
  | al q o =>
    obtain ⟨r, z, v, h1, _, _, hr⟩ := doAl_leads (k := k) hr
    exact ⟨_, _, _, hr, hset hp⟩
  | gal c w q o =>
    have hr : (bif isB (T8.getK tm c fun v => v) w then doAl q o tm dl h k else T8.setK tm q (.t []) fun tm => k tm dl h) = .ok tmF dsF hF := hr
    cases hb : isB (T8.getK tm c fun v => v) w with
    | true =>
      rw [hb] at hr
      obtain ⟨r, z, v, h1, _, _, hr⟩ := doAl_leads hr
      exact ⟨_, _, _, hr, hset hp⟩
    | false => rw [hb, cond_false, T8.setK_eq] at hr; exact ⟨_, _, _, hr, hset hp⟩

theorem keep_all {l : List It} {tm tmF : Tm} {dl dsF : List Df} {h hF : Hp} (hr : evIs cl yl l tm dl h = .ok tmF dsF hF) {p : P3} (hp : ∀ it ∈ l, itDst it ≠ some p) : tmF.get p = tm.get p := by
  induction l generalizing tm dl h with
  | nil => cases hr; rfl
  | cons x l ih =>
    obtain ⟨tm1, dl1, h1, hr, he⟩ := keep_one (p := p) hr (hp x (by simp))
    rw [ih hr fun it hit => hp it (by simp [hit]), he]

end
end Go.AM

/-
  The run of a region's levels, in their order: what it tells of each operation. Conditions stand at each law.
-/
namespace Go.AM
variable {ds : List DOp} {tm0 tmF : Tm} {cl : Cl} {yl : Yl} {idOf : Nat → Id}

theorem runOk_cons {fit : Nat → Bool} {i : Nat} {r : List Nat} {D D' : Nat} (h : runOk ds fit (i :: r) D = some D') :
    i < ds.length ∧ fit i = true ∧ bit D i = false ∧ sub? (ancAt ds i) D = true ∧ runOk ds fit r (Nat.lor D (Nat.shiftLeft 1 i)) = some D' := by
  unfold runOk at h
  split at h
  · rename_i hc
    simp only [Bool.and_eq_true, Bool.not_eq_true'] at hc
    exact ⟨by have := hc.1.1.1; unfold Nat.blt at this; rw [Nat.ble_eq] at this; exact this, hc.1.1.2, hc.1.2, hc.2, h⟩
  · cases h

theorem bit_add {D i j : Nat} : bit (Nat.lor D (Nat.shiftLeft 1 i)) j = (bit D j || decide (i = j)) := by rw [bit_lor, bit_one]

theorem runOk_bits {fit : Nat → Bool} : ∀ {l : List Nat} {D D' : Nat}, runOk ds fit l D = some D' → (∀ j, bit D' j = (bit D j || l.contains j)) ∧ (∀ i ∈ l, bit D i = false ∧ i < ds.length ∧ fit i = true)
  | [], D, D', h => by cases h; simp
  | i :: r, D, D', h => by
    obtain ⟨h1, h2, h3, h4, h5⟩ := runOk_cons h
    obtain ⟨h6, h7⟩ := runOk_bits h5
    refine ⟨fun j => ?_, fun k hk => ?_⟩
    · rw [h6, bit_add, List.contains_cons, Bool.or_assoc]
      congr 1
      by_cases e : i = j
      · subst e; simp
      · have : (j == i) = false := by simp; exact fun x => e x.symm
        rw [this]; simp [e]
    · rcases List.mem_cons.1 hk with rfl | hk
      · exact ⟨h3, h1, h2⟩
      · have := h7 k hk
        rw [bit_add, Bool.or_eq_false_iff] at this
        exact ⟨this.1.1, this.2⟩

theorem slotsOk_at (h : slotsOk ds = true) {i : Nat} (hi : i < ds.length) {p : P3} (hp : p ∈ slAt ds i) {j : Nat} (hj : wr ds p = some j) :
    bit (ancAt ds i) j = true ∨ (bit (ancAt ds j) i = true ∧ kindAt ds j ≠ .a) := by
  unfold slotsOk at h
  rw [Bool.and_eq_true, List.all_eq_true] at h
  have := h.2 i (by simpa using hi)
  rw [List.all_eq_true] at this
  have := this p hp
  rw [hj] at this
  simp only [Bool.or_eq_true, Bool.and_eq_true] at this
  rcases this with h | ⟨h1, h2⟩
  · exact .inl h
  · exact .inr ⟨h1, by simpa using h2⟩
theorem slotsOk_distinct (h : slotsOk ds = true) : distinct (ds.filterMap (·.dst)) = true := by
  unfold slotsOk at h; rw [Bool.and_eq_true] at h; exact h.1

theorem dIt_dst (d : DOp) (h : d.dst = none ∨ True) : itDst (dIt d) = d.dst := by
  unfold dIt
  split <;> simp_all [itDst]
theorem dChk_dst (d : DOp) : itDst (dChk d) = none := by
  unfold dChk; split <;> rfl
theorem dAt_some {i : Nat} {d : DOp} (h : ds[i]? = some d) (f : DOp → It) : dAt ds f i = f d := by unfold dAt; rw [h]

/-- Items that write no slot of what is done. -/
def Clear (ds : List DOp) (D : Nat) (T : List It) : Prop := ∀ it ∈ T, ∀ p j, itDst it = some p → wr ds p = some j → bit D j = false

theorem Clear.keep {D : Nat} {T : List It} (hT : Clear ds D T) {tm : Tm} {dl dsF : List Df} {h hF : Hp} (hr : evIs cl yl T tm dl h = .ok tmF dsF hF) {p : P3} {j : Nat} (hj : wr ds p = some j) (hD : bit D j = true) : tmF.get p = tm.get p :=
  keep_all hr fun it hit e => by rw [hT it hit p j e hj] at hD; cases hD

/-- What is looked at, where it is run in the levels' order. -/
theorem agr_at (hsl : slotsOk ds = true) {D i : Nat} {tm : Tm} (C : CInv ds tm0 idOf D tm) (hi : i < ds.length) (hD : bit D i = false) (hsub : ∀ j, bit (ancAt ds i) j = true → bit D j = true) {T : List It} (hT : Clear ds D T)
    {dl dsF : List Df} {h hF : Hp} (hr : evIs cl yl T tm dl h = .ok tmF dsF hF) : Agr ds tm0 tmF i tm := fun p hp => by
  unfold cval
  split
  · rename_i j hj
    split
    · rename_i ha
      exact (hT.keep hr hj (hsub j ha)).symm
    · rename_i ha
      rcases slotsOk_at hsl hi hp hj with h | ⟨h1, h2⟩
      · exact absurd h ha
      · refine C.yet p j hj ?_ h2
        cases hb : bit D j with
        | false => rfl
        | true => rw [C.shut j i hb h1] at hD; cases hD
  · rename_i hj; exact C.old p hj

theorem CInv.add (hsl : slotsOk ds = true) {D i : Nat} {tm : Tm} (C : CInv ds tm0 idOf D tm) (hsub : ∀ j, bit (ancAt ds i) j = true → bit D j = true) {d : DOp} (hd : ds[i]? = some d) :
    (d.dst = none → CInv ds tm0 idOf (Nat.lor D (Nat.shiftLeft 1 i)) tm) ∧ ∀ p v, d.dst = some p → CInv ds tm0 idOf (Nat.lor D (Nat.shiftLeft 1 i)) (tm.set p v) := by
  have hshut : ∀ a j, bit (Nat.lor D (Nat.shiftLeft 1 i)) a = true → bit (ancAt ds a) j = true → bit (Nat.lor D (Nat.shiftLeft 1 i)) j = true := fun a j ha hj => by
    rw [bit_add, Bool.or_eq_true] at ha ⊢
    rcases ha with ha | ha
    · exact .inl (C.shut a j ha hj)
    · have : i = a := by simpa using ha
      subst this; exact .inl (hsub j hj)
  have hlow : ∀ j, bit (Nat.lor D (Nat.shiftLeft 1 i)) j = false → bit D j = false ∧ j ≠ i := fun j hj => by
    rw [bit_add, Bool.or_eq_false_iff] at hj
    exact ⟨hj.1, fun e => by rw [e] at hj; simp at hj⟩
  refine ⟨fun _ => ⟨C.old, fun p j h1 h2 h3 => C.yet p j h1 (hlow j h2).1 h3, fun p j h1 h2 h3 => C.res p j h1 (hlow j h2).1 h3, hshut⟩, fun q v hq => ?_⟩
  have hw := wr_of (slotsOk_distinct hsl) hd hq
  refine ⟨fun p hp => ?_, fun p j h1 h2 h3 => ?_, fun p j h1 h2 h3 => ?_, hshut⟩
  · rw [T8.get_set, if_neg (fun e => by rw [← e, hw] at hp; cases hp)]; exact C.old p hp
  · rw [T8.get_set, if_neg (fun e => by rw [← e, hw] at h1; cases h1; exact (hlow _ h2).2 rfl)]; exact C.yet p j h1 (hlow j h2).1 h3
  · rw [T8.get_set, if_neg (fun e => by rw [← e, hw] at h1; cases h1; exact (hlow _ h2).2 rfl)]; exact C.res p j h1 (hlow j h2).1 h3

theorem kind_a {i : Nat} {d : DOp} (hd : ds[i]? = some d) : kindAt ds i = clOf d.x := by unfold kindAt; rw [hd]; rfl

/-- One operation, run in the levels' order. -/
theorem step_facts (hsl : slotsOk ds = true) (hal : alsOk ds = true) {D i : Nat} {tm : Tm} (C : CInv ds tm0 idOf D tm) (hi : i < ds.length) (hD : bit D i = false) (hsub : ∀ j, bit (ancAt ds i) j = true → bit D j = true) {T : List It}
    (hT : Clear ds (Nat.lor D (Nat.shiftLeft 1 i)) T) {dl dsF : List Df} {h hF : Hp} (hr : evIs cl yl (dAt ds dIt i :: T) tm dl h = .ok tmF dsF hF) :
    ∃ tm' dl' h', evIs cl yl T tm' dl' h' = .ok tmF dsF hF ∧ CInv ds tm0 idOf (Nat.lor D (Nat.shiftLeft 1 i)) tm' ∧ StepFact ds tm0 tmF cl yl idOf i dl h dl' h' := by
  have hd : ds[i]? = some ds[i] := List.getElem?_eq_getElem hi
  generalize hdd : ds[i] = d at hd
  have hwi : ∀ p, d.dst = some p → wr ds p = some i := fun p hp => wr_of (slotsOk_distinct hsl) hd hp
  have hself : bit (Nat.lor D (Nat.shiftLeft 1 i)) i = true := by rw [bit_add]; simp
  have hT' : Clear ds D (dAt ds dIt i :: T) := fun it hit p j h1 h2 => by
    rcases List.mem_cons.1 hit with rfl | hit
    · rw [dAt_some hd, dIt_dst _ (.inr trivial)] at h1
      rw [hwi p h1] at h2; cases h2; exact hD
    · have := hT it hit p j h1 h2
      rw [bit_add, Bool.or_eq_false_iff] at this; exact this.1
  have hA := agr_at hsl C hi hD hsub hT' hr
  obtain ⟨Cn, Cs⟩ := C.add hsl hsub hd
  have hend : ∀ {tm1 dl1 h1 p}, evIs cl yl T tm1 dl1 h1 = .ok tmF dsF hF → d.dst = some p → tmF.get p = tm1.get p := fun hr hp => hT.keep hr (hwi _ hp) hself
  rw [evIs_cons, dAt_some hd] at hr
  -- an operation that is no maker, run
  have hgo : ∀ {p}, d.dst = some p → (∀ o, d.x ≠ .a o) → W ds tm0 tmF i = true → doOp cl yl p d.x tm dl h (evIs cl yl T) = .ok tmF dsF hF →
      ∃ tm' dl' h', evIs cl yl T tm' dl' h' = .ok tmF dsF hF ∧ CInv ds tm0 idOf (Nat.lor D (Nat.shiftLeft 1 i)) tm' ∧ StepFact ds tm0 tmF cl yl idOf i dl h dl' h' := fun {p} hp hna hW hr => by
    unfold doOp at hr
    have hx : ∀ tm', Agr ds tm0 tmF i tm' → d.x.run cl yl tm' h = d.x.run cl yl tm h := fun tm' hA' => XOp.run_same (hA'.same hA hd) cl yl h
    cases hv : d.x.run cl yl tm h with
    | no => rw [hv] at hr; cases hr
    | ok v h' =>
      rw [hv] at hr; simp only [T8.setK_eq] at hr
      refine ⟨_, _, _, hr, Cs p v hp, d, hd, fun hw => (by rw [hW] at hw; cases hw), fun _ => ?_⟩
      have hval : ∀ q, d.dst = some q → tmF.get q = v := fun q hq => by
        rw [hp] at hq; cases hq
        rw [hend hr hp, T8.get_set, if_pos rfl]
      split
      · rename_i o ho; exact absurd ho (hna o)
      · exact .inl ⟨v, fun tm' hA' => by rw [hx tm' hA', hv], rfl, hval⟩
    | dfr e h' =>
      rw [hv] at hr; simp only [T8.setK_eq] at hr
      refine ⟨_, _, _, hr, Cs p _ hp, d, hd, fun hw => (by rw [hW] at hw; cases hw), fun _ => ?_⟩
      have hval : ∀ q, d.dst = some q → tmF.get q = .t [] := fun q hq => by
        rw [hp] at hq; cases hq
        rw [hend hr hp, T8.get_set, if_pos rfl]
      split
      · rename_i o ho; exact absurd ho (hna o)
      · exact .inr ⟨e, fun tm' hA' => by rw [hx tm' hA', hv], rfl, hval⟩
  have hgo' : d.dst = none → (∀ o, d.x ≠ .a o) → W ds tm0 tmF i = true → doOp' cl yl d.x tm dl h (evIs cl yl T) = .ok tmF dsF hF →
      ∃ tm' dl' h', evIs cl yl T tm' dl' h' = .ok tmF dsF hF ∧ CInv ds tm0 idOf (Nat.lor D (Nat.shiftLeft 1 i)) tm' ∧ StepFact ds tm0 tmF cl yl idOf i dl h dl' h' := fun hp hna hW hr => by
    unfold doOp' at hr
    have hx : ∀ tm', Agr ds tm0 tmF i tm' → d.x.run cl yl tm' h = d.x.run cl yl tm h := fun tm' hA' => XOp.run_same (hA'.same hA hd) cl yl h
    cases hv : d.x.run cl yl tm h with
    | no => rw [hv] at hr; cases hr
    | ok v h' =>
      rw [hv] at hr
      refine ⟨_, _, _, hr, Cn hp, d, hd, fun hw => (by rw [hW] at hw; cases hw), fun _ => ?_⟩
      split
      · rename_i o ho; exact absurd ho (hna o)
      · exact .inl ⟨v, fun tm' hA' => by rw [hx tm' hA', hv], rfl, fun q hq => by rw [hp] at hq; cases hq⟩
    | dfr e h' =>
      rw [hv] at hr
      refine ⟨_, _, _, hr, Cn hp, d, hd, fun hw => (by rw [hW] at hw; cases hw), fun _ => ?_⟩
      split
      · rename_i o ho; exact absurd ho (hna o)
      · exact .inr ⟨e, fun tm' hA' => by rw [hx tm' hA', hv], rfl, fun q hq => by rw [hp] at hq; cases hq⟩
  have hmk : ∀ {p o}, d.dst = some p → d.x = .a o → W ds tm0 tmF i = true → doAl p o tm dl h (evIs cl yl T) = .ok tmF dsF hF →
      ∃ tm' dl' h', evIs cl yl T tm' dl' h' = .ok tmF dsF hF ∧ CInv ds tm0 idOf (Nat.lor D (Nat.shiftLeft 1 i)) tm' ∧ StepFact ds tm0 tmF cl yl idOf i dl h dl' h' := fun {p o} hp ho hW hr => by
    obtain ⟨r, z, v, h1, e1, e2, hr⟩ := doAl_leads hr
    have hk : kindAt ds i = .a := by rw [kind_a hd, ho]; rfl
    rw [C.res p i (hwi p hp) hD hk] at e1
    cases e1
    unfold AOp.at_ at e2
    rcases AOp.mk_cases o tm with hno | ⟨B, f, hB⟩
    · rw [hno] at e2; cases e2
    · rw [hB, Hp.setK_eq] at e2; cases e2
      refine ⟨_, _, _, hr, Cs p _ hp, d, hd, fun hw => (by rw [hW] at hw; cases hw), fun _ => ?_⟩
      rw [ho]
      refine ⟨p, B, f, hp, fun tm' hA' k => ?_, ?_, rfl, rfl⟩
      · have : Same o.sl tm' tm := by have := hA'.same hA hd; rw [ho] at this; exact this
        rw [AOp.mk_same this, hB]
      · rw [hend hr hp, T8.get_set, if_pos rfl]
  have hskip : ∀ {p}, d.dst = some p → W ds tm0 tmF i = false → evIs cl yl T (tm.set p (.t [])) dl h = .ok tmF dsF hF →
      ∃ tm' dl' h', evIs cl yl T tm' dl' h' = .ok tmF dsF hF ∧ CInv ds tm0 idOf (Nat.lor D (Nat.shiftLeft 1 i)) tm' ∧ StepFact ds tm0 tmF cl yl idOf i dl h dl' h' := fun {p} hp hW hr =>
    ⟨_, _, _, hr, Cs p _ hp, d, hd, fun _ => ⟨rfl, rfl, fun q hq => by
      rw [hp] at hq; cases hq
      rw [hend hr hp, T8.get_set, if_pos rfl]⟩, fun hw => by rw [hW] at hw; cases hw⟩
  unfold dIt at hr
  split at hr
  · rename_i o t ho hg hp
    exact hmk hp ho (W_none hd hg) hr
  · rename_i o c w t ho hg hp
    have hr : (bif isB (T8.getK tm c fun v => v) w then doAl t o tm dl h (evIs cl yl T) else T8.setK tm t (.t []) fun tm => evIs cl yl T tm dl h) = .ok tmF dsF hF := hr
    rw [T8.getK_id, hA.guard hd hg] at hr
    cases hW : W ds tm0 tmF i with
    | true => rw [hW] at hr; exact hmk hp ho hW hr
    | false => rw [hW, cond_false, T8.setK_eq] at hr; exact hskip hp hW hr
  · rename_i t hg hp hna1
    exact hgo hp (fun o ho => hna1 o ho) (W_none hd hg) hr
  · rename_i hg hp
    refine hgo' hp (fun o ho => ?_) (W_none hd hg) hr
    unfold alsOk at hal
    rw [List.all_eq_true] at hal
    have := hal d (List.mem_of_getElem? hd)
    rw [ho, hp] at this; cases this
  · rename_i c w t hg hp hna1
    have hr : (bif isB (T8.getK tm c fun v => v) w then doOp cl yl t d.x tm dl h (evIs cl yl T) else T8.setK tm t (.t []) fun tm => evIs cl yl T tm dl h) = .ok tmF dsF hF := hr
    rw [T8.getK_id, hA.guard hd hg] at hr
    cases hW : W ds tm0 tmF i with
    | true => rw [hW] at hr; exact hgo hp (fun o ho => hna1 o ho) hW hr
    | false => rw [hW, cond_false, T8.setK_eq] at hr; exact hskip hp hW hr
  · rename_i c w hg hp
    have hr : (bif isB (T8.getK tm c fun v => v) w then doOp' cl yl d.x tm dl h (evIs cl yl T) else evIs cl yl T tm dl h) = .ok tmF dsF hF := hr
    rw [T8.getK_id, hA.guard hd hg] at hr
    cases hW : W ds tm0 tmF i with
    | true =>
      rw [hW] at hr
      refine hgo' hp (fun o ho => ?_) hW hr
      unfold alsOk at hal
      rw [List.all_eq_true] at hal
      have := hal d (List.mem_of_getElem? hd)
      rw [ho, hp] at this; cases this
    | false =>
      rw [hW] at hr
      exact ⟨_, _, _, hr, Cn hp, d, hd, fun _ => ⟨rfl, rfl, fun q hq => by rw [hp] at hq; cases hq⟩, fun hw => by rw [hW] at hw; cases hw⟩

end Go.AM

/-
  The levels of a region that draws its order, run one after the other: all that is told. Conditions stand at each law.
-/
namespace Go.AM
variable {ds : List DOp} {tm0 tmF : Tm} {cl : Cl} {yl : Yl} {idOf : Nat → Id}

theorem Clear.mono {D D' : Nat} {T : List It} (h : Clear ds D' T) (hD : ∀ j, bit D j = true → bit D' j = true) : Clear ds D T := fun it hit p j h1 h2 => by
  have := h it hit p j h1 h2
  cases hb : bit D j with
  | false => rfl
  | true => rw [hD j hb] at this; cases this
theorem Clear.app {D : Nat} {S T : List It} (h : Clear ds D S) (h' : Clear ds D T) : Clear ds D (S ++ T) := fun it hit => by
  rcases List.mem_append.1 hit with hit | hit
  · exact h it hit
  · exact h' it hit
theorem clear_one (hsl : slotsOk ds = true) {D i : Nat} (hD : bit D i = false) (hi : i < ds.length) : Clear ds D [dAt ds dIt i] := fun it hit p j h1 h2 => by
  have hd : ds[i]? = some ds[i] := List.getElem?_eq_getElem hi
  simp at hit; subst hit
  rw [dAt_some hd, dIt_dst _ (.inr trivial)] at h1
  rw [wr_of (slotsOk_distinct hsl) hd h1] at h2; cases h2; exact hD
theorem clear_run (hsl : slotsOk ds = true) {fit : Nat → Bool} {l : List Nat} {D D' : Nat} (h : runOk ds fit l D = some D') : Clear ds D (l.map (dAt ds dIt)) := fun it hit p j h1 h2 => by
  obtain ⟨i, hi, rfl⟩ := List.mem_map.1 hit
  obtain ⟨h3, h4, _⟩ := (runOk_bits h).2 i hi
  exact clear_one hsl h3 h4 _ (by simp) p j h1 h2
theorem clear_chk {D : Nat} {l : List Nat} : Clear ds D (l.map (dAt ds dChk)) := fun it hit p j h1 h2 => by
  obtain ⟨i, hi, rfl⟩ := List.mem_map.1 hit
  unfold dAt at h1
  split at h1
  · rw [dChk_dst] at h1; cases h1
  · cases h1

theorem run_facts (hsl : slotsOk ds = true) (hal : alsOk ds = true) {fit : Nat → Bool} : ∀ {l : List Nat} {D D' : Nat} {tm : Tm} {T : List It} {dl dsF : List Df} {h hF : Hp}, runOk ds fit l D = some D' → CInv ds tm0 idOf D tm → Clear ds D' T →
    evIs cl yl (l.map (dAt ds dIt) ++ T) tm dl h = .ok tmF dsF hF → ∃ tm' dl' h', evIs cl yl T tm' dl' h' = .ok tmF dsF hF ∧ CInv ds tm0 idOf D' tm' ∧ RunFacts ds tm0 tmF cl yl idOf l dl h dl' h'
  | [], D, D', tm, T, dl, dsF, h, hF, hok, C, hT, hr => by
    cases hok; exact ⟨tm, dl, h, hr, C, rfl, rfl⟩
  | i :: r, D, D', tm, T, dl, dsF, h, hF, hok, C, hT, hr => by
    obtain ⟨h1, h2, h3, h4, h5⟩ := runOk_cons hok
    have hb := (runOk_bits h5).1
    have hT' : Clear ds (Nat.lor D (Nat.shiftLeft 1 i)) (r.map (dAt ds dIt) ++ T) :=
      (clear_run hsl h5).app (hT.mono fun j hj => by rw [hb, hj]; rfl)
    obtain ⟨tm1, dl1, hh1, e1, e2, e3⟩ := step_facts hsl hal C h1 h3 (fun j => sub_bit h4) hT' hr
    obtain ⟨tm2, dl2, hh2, e4, e5, e6⟩ := run_facts hsl hal h5 e2 hT e1
    exact ⟨tm2, dl2, hh2, e4, e5, dl1, hh1, e3, e6⟩

theorem cellIs_eq {x y : Sc} (h : cellIs x y = true) : x = y := by
  cases x <;> cases y <;> simp only [cellIs] at h <;> try (cases h; done)
  · rw [boolEq_iff] at h; rw [beq_iff_eq.1 h]
  · rename_i k a j b
    cases hk : kindEq k j with
    | false => rw [hk] at h; cases h
    | true =>
      obtain rfl := kindEq_iff hk
      rw [hk, cond_true, intEq_iff] at h
      rw [beq_iff_eq.1 h]
  · rw [sameL_eq h]
  · rfl
  · rename_i r o q u
    cases hs : r.same q with
    | false => rw [hs] at h; cases h
    | true =>
      rw [hs, cond_true] at h
      rw [(Id.same_iff r q).1 hs, beq_nat_true h]
  · rfl
  · rename_i r o n c q u m d
    cases hs : r.same q with
    | false => rw [hs] at h; cases h
    | true =>
      rw [hs, cond_true] at h
      cases h1 : Nat.beq o u with
      | false => rw [h1] at h; cases h
      | true =>
        rw [h1, cond_true] at h
        cases h2 : Nat.beq n m with
        | false => rw [h2] at h; cases h
        | true =>
          rw [h2, cond_true] at h
          rw [(Id.same_iff r q).1 hs, beq_nat_true h1, beq_nat_true h2]
          cases c <;> cases d <;> simp only at h <;> try (cases h; done)
          · rw [beq_nat_true h]
          · rw [beq_nat_true h]
  · rfl
  · rw [(Id.same_iff _ _).1 h]
  · rfl
theorem cellsAre_eq : ∀ {x y : List Sc}, cellsAre x y = true → x = y
  | [], [], _ => rfl
  | [], _ :: _, h => by cases h
  | _ :: _, [], h => by cases h
  | x :: a, y :: b, h => by
    unfold cellsAre at h
    cases h1 : cellIs x y with
    | false => rw [h1] at h; cases h
    | true => rw [h1, cond_true] at h; rw [cellIs_eq h1, cellsAre_eq h]
theorem avIs_eq {x y : AV} (h : avIs x y = true) : x = y := by
  unfold avIs at h
  split at h
  · rw [cellIs_eq h]
  · rw [cellsAre_eq h]
  · rfl
  · rename_i x p y q
    cases hb : boolEq p q with
    | false => rw [hb] at h; cases h
    | true =>
      rw [hb, cond_true] at h
      rw [boolEq_iff] at hb
      rw [beq_iff_eq.1 hb]
      split at h
      · rw [cellIs_eq h]
      · rw [cellsAre_eq h]
      · cases h
  · cases h

theorem chk_facts (hsl : slotsOk ds = true) {D : Nat} {tm : Tm} (C : CInv ds tm0 idOf D tm) {T : List It} (hT : Clear ds D T) {dl dsF : List Df} {h hF : Hp} : ∀ {cs : List Nat},
    (∀ i ∈ cs, i < ds.length ∧ kindAt ds i = .r ∧ bit D i = true ∧ ∀ p ∈ slAt ds i, ∀ j, wr ds p = some j → bit (ancAt ds i) j = true ∨ bit D j = false) →
    evIs cl yl (cs.map (dAt ds dChk) ++ T) tm dl h = .ok tmF dsF hF → evIs cl yl T tm dl h = .ok tmF dsF hF ∧ ∀ i ∈ cs, ChkFact ds tm0 tmF i h
  | [], _, hr => ⟨hr, fun i hi => by cases hi⟩
  | i :: cs, hc, hr => by
    obtain ⟨hi, hk, hD, hs⟩ := hc i (by simp)
    have hall : Clear ds D (dAt ds dChk i :: (cs.map (dAt ds dChk) ++ T)) := by
      have := (clear_chk (ds := ds) (D := D) (l := i :: cs)).app hT
      exact this
    have hkeep : ∀ {p j}, wr ds p = some j → bit D j = true → tmF.get p = tm.get p := fun h1 h2 => hall.keep hr h1 h2
    have hd : ds[i]? = some ds[i] := List.getElem?_eq_getElem hi
    generalize hdd : ds[i] = d at hd
    have hA : Agr ds tm0 tmF i tm := fun p hp => by
      unfold cval
      split
      · rename_i j hj
        split
        · rename_i ha; exact (hkeep hj (C.shut i j hD ha)).symm
        · rename_i ha
          rcases slotsOk_at hsl hi hp hj with h | ⟨h1, h2⟩
          · exact absurd h ha
          · rcases hs p hp j hj with h3 | h3
            · exact absurd h3 ha
            · exact C.yet p j hj h3 h2
      · rename_i hj; exact C.old p hj
    have hfin : ∀ {o p}, d.x = .r o → d.dst = some p → (W ds tm0 tmF i = true → ∃ v, o.run tm h = some v ∧ avIs v (tm.get p) = true) → ChkFact ds tm0 tmF i h := fun {o p} ho hp hv => by
      refine ⟨d, hd, fun hW => ?_⟩
      obtain ⟨v, h1, h2⟩ := hv hW
      refine ⟨o, p, ho, hp, fun tm' hA' => ?_⟩
      have hsame : Same o.sl tm' tm := by have := hA'.same hA hd; rw [ho] at this; exact this
      rw [ROp.run_same hsame, h1, avIs_eq h2, hkeep (wr_of (slotsOk_distinct hsl) hd hp) hD]
    have step : ∃ cf : ChkFact ds tm0 tmF i h, evIs cl yl (cs.map (dAt ds dChk) ++ T) tm dl h = .ok tmF dsF hF := by
      rw [List.map_cons, List.cons_append, evIs_cons, dAt_some hd] at hr
      unfold dChk at hr
      split at hr
      · rename_i o p ho hg hp
        obtain ⟨e1, v, e2, e3⟩ := doChk_leads (k := evIs cl yl (cs.map (dAt ds dChk) ++ T) tm dl h) hr
        exact ⟨hfin ho hp fun _ => ⟨v, e2, e3⟩, e1⟩
      · rename_i o c w p ho hg hp
        have hr : (bif isB (T8.getK tm c fun v => v) w then doChk p o tm h (evIs cl yl (cs.map (dAt ds dChk) ++ T) tm dl h) else evIs cl yl (cs.map (dAt ds dChk) ++ T) tm dl h) = .ok tmF dsF hF := hr
        rw [T8.getK_id, hA.guard hd hg] at hr
        cases hW : W ds tm0 tmF i with
        | true =>
          rw [hW] at hr
          obtain ⟨e1, v, e2, e3⟩ := doChk_leads hr
          exact ⟨hfin ho hp fun _ => ⟨v, e2, e3⟩, e1⟩
        | false => rw [hW] at hr; exact ⟨hfin ho hp fun hw => (by rw [hW] at hw; cases hw), hr⟩
      · cases hr
    obtain ⟨cf, hr'⟩ := step
    obtain ⟨e1, e2⟩ := chk_facts hsl C hT (fun k hk => hc k (by simp [hk])) hr'
    exact ⟨e1, fun k hk => by
      rcases List.mem_cons.1 hk with rfl | hk
      · exact cf
      · exact e2 k hk⟩

/-! ## All levels -/
/-- What 'lvsOk' says of a level. -/
structure LvOk (ds : List DOp) (LA : Nat) (lv : Lv) (D A L R D1 D2 : Nat) : Prop where
  pre : runOk ds (fun i => kindAt ds i == .p || (kindAt ds i == .r && sub? A (ancAt ds i) && Nat.beq (Nat.land (ancAt ds i) LA) 0)) lv.pre D = some D1
  als : runOk ds (fun i => kindAt ds i == .p || kindAt ds i == .a) lv.als D1 = some D2

def newL (ds : List DOp) (lv : Lv) (L : Nat) : Nat := Nat.lor L (mask (lv.als.filter fun i => kindAt ds i == .a))
def newR (ds : List DOp) (lv : Lv) (R : Nat) : Nat := Nat.lor R (mask (lv.pre.filter fun i => kindAt ds i == .r))

structure ActOk (ds : List DOp) (lv : Lv) (e : Nat) (cs : List Nat) (D2 A L R : Nat) : Prop where
  ms : lv.ms = []
  lt : e < ds.length
  kind : kindAt ds e = .e
  new : bit D2 e = false
  anc : ∀ j, bit (ancAt ds e) j = true → bit D2 j = true
  acts : ∀ j, bit A j = true → bit (ancAt ds e) j = true
  made : ∀ j, bit (newL ds lv L) j = true → bit (ancAt ds e) j = true
  chk : ∀ i ∈ cs, i < ds.length ∧ kindAt ds i = .r ∧ bit (newR ds lv R) i = true ∧ ∀ p ∈ slAt ds i, ∀ j, wr ds p = some j → bit (ancAt ds i) j = true ∨ bit (Nat.lor D2 (Nat.shiftLeft 1 e)) j = false
  read : ∀ j, bit (newR ds lv R) j = true → bit (ancAt ds e) j = true ∨ j ∈ cs

theorem lvsOk_cons {LA : Nat} {lv : Lv} {rest : List Lv} {D A L R : Nat} (h : lvsOk ds LA (lv :: rest) D A L R = true) : ∃ D1 D2, LvOk ds LA lv D A L R D1 D2 ∧
    ((lv.act = none ∧ ∃ D3, runOk ds (fun i => kindAt ds i == .p || (kindAt ds i == .m && mapOk ds i L)) lv.ms D2 = some D3 ∧ rest = [] ∧ ∀ i, i < ds.length → bit D3 i = true) ∨
     ∃ e cs, lv.act = some (e, cs) ∧ ActOk ds lv e cs D2 A L R ∧ lvsOk ds LA rest (Nat.lor D2 (Nat.shiftLeft 1 e)) (Nat.lor A (Nat.shiftLeft 1 e)) (newL ds lv L) (newR ds lv R) = true) := by
  unfold lvsOk at h
  split at h
  · cases h
  · rename_i D1 h1
    split at h
    · cases h
    · rename_i D2 h2
      refine ⟨D1, D2, ⟨h1, h2⟩, ?_⟩
      simp only at h
      split at h
      · rename_i ha
        split at h
        · cases h
        · rename_i D3 h3
          rw [Bool.and_eq_true, List.all_eq_true] at h
          exact .inl ⟨ha, D3, h3, by simpa using h.1, fun i hi => h.2 i (by simpa using hi)⟩
      · rename_i e cs ha
        simp only [Bool.and_eq_true, Bool.not_eq_true', List.all_eq_true] at h
        obtain ⟨⟨⟨⟨⟨⟨⟨⟨⟨h3, h4⟩, h5⟩, h6⟩, h7⟩, h8⟩, h9⟩, h10⟩, h11⟩, h12⟩ := h
        refine .inr ⟨e, cs, ha, ⟨by simpa using h3, by unfold Nat.blt at h4; rw [Nat.ble_eq] at h4; exact h4, by simpa using h5, h6, fun j => sub_bit h7, fun j => sub_bit h8, fun j => sub_bit h9, fun i hi => ?_, fun j hj => ?_⟩, h12⟩
        · obtain ⟨⟨⟨e1, e2⟩, e3⟩, e4⟩ := h10 i hi
          refine ⟨by unfold Nat.blt at e1; rw [Nat.ble_eq] at e1; exact e1, by simpa using e2, e3, fun p hp j hj => ?_⟩
          have := e4 p hp
          rw [hj] at this
          simp only [Bool.or_eq_true, Bool.not_eq_true'] at this
          exact this
        · have := sub_bit h11 hj
          rw [bit_lor, bit_mask, Bool.or_eq_true] at this
          rcases this with h | h
          · exact .inl h
          · exact .inr (by simpa using h)

theorem clear_lvs (hsl : slotsOk ds = true) {LA : Nat} : ∀ {lvs : List Lv} {D A L R : Nat}, lvsOk ds LA lvs D A L R = true → Clear ds D (lvs.flatMap (lvIts ds))
  | [], _, _, _, _, h => by cases h
  | lv :: rest, D, A, L, R, h => by
    obtain ⟨D1, D2, ⟨h1, h2⟩, h3⟩ := lvsOk_cons h
    have b1 : ∀ j, bit D j = true → bit D1 j = true := fun j hj => by rw [(runOk_bits h1).1, hj]; rfl
    have b2 : ∀ j, bit D1 j = true → bit D2 j = true := fun j hj => by rw [(runOk_bits h2).1, hj]; rfl
    show Clear ds D (lvIts ds lv ++ rest.flatMap (lvIts ds))
    unfold lvIts
    rcases h3 with ⟨ha, D3, h4, rfl, _⟩ | ⟨e, cs, ha, hok, h4⟩
    · rw [ha]
      exact ((clear_run hsl h1).app (((clear_run hsl h2).mono b1).app (((clear_run hsl h4).mono fun j hj => b2 j (b1 j hj)).app (fun it hit => by cases hit)))).app (fun it hit => by cases hit)
    · rw [ha, hok.ms]
      have hrest := (clear_lvs hsl h4).mono (D := D) fun j hj => by rw [bit_add, b2 j (b1 j hj)]; rfl
      have hact := (clear_one hsl hok.new hok.lt).mono (D := D) fun j hj => b2 j (b1 j hj)
      have hchk := clear_chk (ds := ds) (D := D) (l := cs)
      have hne : Clear ds D (([] : List Nat).map (dAt ds dIt)) := fun it hit => by cases hit
      exact ((clear_run hsl h1).app (((clear_run hsl h2).mono b1).app (hne.app (hact.app hchk)))).app hrest

theorem lv_facts (hsl : slotsOk ds = true) (hal : alsOk ds = true) {LA : Nat} {dsF : List Df} {hF : Hp} : ∀ {lvs : List Lv} {D A L R : Nat} {tm : Tm} {dl : List Df} {h : Hp}, lvsOk ds LA lvs D A L R = true → (∀ j, bit R j = true → bit D j = true) →
    CInv ds tm0 idOf D tm → evIs cl yl (lvs.flatMap (lvIts ds)) tm dl h = .ok tmF dsF hF → LvFacts ds tm0 tmF cl yl idOf dsF hF lvs dl h
  | [], _, _, _, _, _, _, _, h, _, _, _ => by cases h
  | lv :: rest, D, A, L, R, tm, dl, h, hok, hR, C, hr => by
    obtain ⟨D1, D2, ⟨h1, h2⟩, h3⟩ := lvsOk_cons hok
    have b1 : ∀ j, bit D j = true → bit D1 j = true := fun j hj => by rw [(runOk_bits h1).1, hj]; rfl
    have b2 : ∀ j, bit D1 j = true → bit D2 j = true := fun j hj => by rw [(runOk_bits h2).1, hj]; rfl
    have hr : evIs cl yl (lvIts ds lv ++ rest.flatMap (lvIts ds)) tm dl h = .ok tmF dsF hF := hr
    unfold lvIts at hr
    rcases h3 with ⟨ha, D3, h4, rfl, _⟩ | ⟨e, cs, ha, hact, h4⟩
    · rw [ha] at hr
      simp only [List.append_nil, List.flatMap_nil] at hr
      have c2 : Clear ds D2 (lv.ms.map (dAt ds dIt)) := clear_run hsl h4
      have c1 : Clear ds D1 (lv.als.map (dAt ds dIt) ++ lv.ms.map (dAt ds dIt)) := (clear_run hsl h2).app (c2.mono b2)
      obtain ⟨tm1, dl1, hh1, e1, e2, e3⟩ := run_facts hsl hal h1 C c1 hr
      obtain ⟨tm2, dl2, hh2, e4, e5, e6⟩ := run_facts hsl hal h2 e2 c2 e1
      have e4' : evIs cl yl (lv.ms.map (dAt ds dIt) ++ []) tm2 dl2 hh2 = .ok tmF dsF hF := by rw [List.append_nil]; exact e4
      obtain ⟨tm3, dl3, hh3, e7, e8, e9⟩ := run_facts hsl hal h4 e5 (fun it hit => by cases hit) e4'
      cases e7
      refine ⟨dl1, hh1, e3, dl2, hh2, e6, _, _, e9, ?_⟩
      rw [ha]; exact ⟨rfl, rfl⟩
    · rw [ha, hact.ms] at hr
      simp only [List.map_nil, List.nil_append, List.append_assoc, List.cons_append] at hr
      have crest := clear_lvs hsl h4
      have cchk : Clear ds (Nat.lor D2 (Nat.shiftLeft 1 e)) (cs.map (dAt ds dChk) ++ rest.flatMap (lvIts ds)) := clear_chk.app crest
      have cact : Clear ds D2 (dAt ds dIt e :: (cs.map (dAt ds dChk) ++ rest.flatMap (lvIts ds))) := by
        have := (clear_one hsl hact.new hact.lt).app (cchk.mono (D := D2) fun j hj => by rw [bit_add, hj]; rfl)
        exact this
      have cals := (clear_run hsl h2).app (cact.mono b2)
      obtain ⟨tm1, dl1, hh1, e1, e2, e3⟩ := run_facts hsl hal h1 C cals hr
      obtain ⟨tm2, dl2, hh2, e4, e5, e6⟩ := run_facts hsl hal h2 e2 cact e1
      obtain ⟨tm3, dl3, hh3, e7, e8, e9⟩ := step_facts hsl hal e5 hact.lt hact.new hact.anc cchk e4
      have hRD : ∀ j, bit (newR ds lv R) j = true → bit (Nat.lor D2 (Nat.shiftLeft 1 e)) j = true := fun j hj => by
        unfold newR at hj
        rw [bit_lor, bit_mask, Bool.or_eq_true] at hj
        rw [bit_add, Bool.or_eq_true]
        refine .inl (b2 j ?_)
        rcases hj with hj | hj
        · exact b1 j (hR j hj)
        · rw [(runOk_bits h1).1]
          have : j ∈ lv.pre := by
            have : j ∈ lv.pre.filter fun i => kindAt ds i == .r := by simpa using hj
            exact (List.mem_filter.1 this).1
          simp [this]
      obtain ⟨e10, e11⟩ := chk_facts hsl e8 crest (fun i hi => ⟨(hact.chk i hi).1, (hact.chk i hi).2.1, hRD i (hact.chk i hi).2.2.1, (hact.chk i hi).2.2.2⟩) e7
      refine ⟨dl1, hh1, e3, dl2, hh2, e6, dl2, hh2, ?_, ?_⟩
      · rw [hact.ms]; exact ⟨rfl, rfl⟩
      · rw [ha]; exact ⟨dl3, hh3, e9, e11, lv_facts hsl hal h4 hRD e8 e10⟩

end Go.AM

/-
  A region that draws its order: its operations, what lies ahead of each; the numbers that are kept. Conditions stand at each law.
-/
namespace Go.AM
variable {P : Program}

/-! ## What lies ahead of an operation -/
theorem anc_fold (ms : List Nat) : ∀ (l : List Edge) (m j : Nat), bit (l.foldl (fun m e => if Region.binds .any e then Nat.lor (Nat.lor m (Nat.shiftLeft 1 e.on)) (ms.getD e.on 0) else m) m) j = true →
    bit m j = true ∨ ∃ e ∈ l, Region.binds .any e = true ∧ (e.on = j ∨ bit (ms.getD e.on 0) j = true)
  | [], m, j, h => .inl h
  | e :: l, m, j, h => by
    rw [List.foldl_cons] at h
    rcases anc_fold ms l _ j h with h | ⟨e', h1, h2⟩
    · split at h
      · rename_i hb
        rw [bit_lor, bit_add, Bool.or_eq_true, Bool.or_eq_true] at h
        rcases h with (h | h) | h
        · exact .inl h
        · exact .inr ⟨e, by simp, hb, .inl (by simpa using h)⟩
        · exact .inr ⟨e, by simp, hb, .inr h⟩
      · exact .inl h
    · exact .inr ⟨e', by simp [h1], h2⟩

/-- An operation of the region, as the machine's. -/
structure DSpec (P : Program) (nt : Nat) (ops : Array Oper) (M : Nat → Nat) (j : Nat) (o : Oper) (d : DOp) : Prop where
  x : d.x = drawOp P o
  dst : dstOf nt o = some d.dst
  guard : guardOf ops o = some d.guard
  back : ∀ e ∈ o.after.toList, Region.binds .any e = true → e.on < j
  anc : ∀ i, bit d.anc i = true → ∃ e ∈ o.after.toList, Region.binds .any e = true ∧ (e.on = i ∨ bit (M e.on) i = true)

theorem dopsGo_spec {nt : Nat} {ops : Array Oper} : ∀ {l : List Oper} {i : Nat} {ms : List Nat} {r : List DOp}, dopsGo P nt ops l i ms = some r → ms.length = i →
    r.length = l.length ∧ ∀ (k : Nat) (o : Oper) (d : DOp), l[k]? = some o → r[k]? = some d → DSpec P nt ops (fun e => (ms ++ r.map DOp.anc).getD e 0) (i + k) o d
  | [], i, ms, r, h, _ => by
    cases h
    exact ⟨rfl, fun k o d h => by simp at h⟩
  | o :: l, i, ms, r, h, hms => by
    simp only [dopsGo] at h
    split at h
    · cases h
    · rename_i hb
      simp only [bind, Option.bind_eq_some_iff, pure, Option.some.injEq] at h
      obtain ⟨dst, hd, g, hg, rr, hr, rfl⟩ := h
      obtain ⟨h1, h2⟩ := dopsGo_spec hr (by simp [hms])
      refine ⟨by simp [h1], fun k o' d h3 h4 => ?_⟩
      cases k with
      | zero =>
        obtain rfl := Option.some.inj h3
        obtain rfl := Option.some.inj h4
        have hback : ∀ e ∈ o.after.toList, Region.binds .any e = true → e.on < i := fun e he hbe => by
          simp only [Bool.not_eq_true', Bool.not_eq_false, Array.all_eq_true_iff_forall_mem] at hb
          have := hb e (by simpa using he)
          rw [hbe] at this
          simp only [Bool.not_true, Bool.false_or] at this
          unfold Nat.blt at this; rw [Nat.ble_eq] at this; exact this
        refine ⟨rfl, hd, hg, by simpa using hback, fun j hj => ?_⟩
        rcases anc_fold ms o.after.toList 0 j hj with h | ⟨e, h5, h6, h7⟩
        · rw [bit_zero] at h; cases h
        · refine ⟨e, h5, h6, h7.imp id fun h => ?_⟩
          have := hback e h5 h6
          have hlt : e.on < ms.length := by omega
          simp only [List.getD_eq_getElem?_getD] at h ⊢
          rw [List.getElem?_append_left hlt]; exact h
      | succ k =>
        have h3 : l[k]? = some o' := by simpa using h3
        have h4 : rr[k]? = some d := by simpa using h4
        obtain ⟨a1, a2, a3, a4, a5⟩ := h2 k o' d h3 h4
        have e1 : i + (k + 1) = i + 1 + k := by omega
        rw [e1]
        refine ⟨a1, a2, a3, a4, fun j hj => ?_⟩
        obtain ⟨e, h5, h6, h7⟩ := a5 j hj
        exact ⟨e, h5, h6, h7.imp id fun h => by simpa using h⟩

theorem dops_spec {nt : Nat} {ops : Array Oper} {ds : List DOp} (h : dops P nt ops = some ds) : ds.length = ops.size ∧ ∀ (k : Nat) (o : Oper) (d : DOp), ops[k]? = some o → ds[k]? = some d → DSpec P nt ops (ancAt ds) k o d := by
  obtain ⟨h1, h2⟩ := dopsGo_spec h rfl
  refine ⟨by simpa using h1, fun k o d h3 h4 => ?_⟩
  have := h2 k o d (by simpa using h3) h4
  obtain ⟨a1, a2, a3, a4, a5⟩ := this
  refine ⟨a1, a2, a3, by simpa using a4, fun j hj => ?_⟩
  obtain ⟨e, h5, h6, h7⟩ := a5 j hj
  refine ⟨e, h5, h6, h7.imp id fun h => ?_⟩
  have : ancAt ds e.on = ([] ++ ds.map DOp.anc).getD e.on 0 := by
    unfold ancAt
    simp only [List.nil_append, List.getD_eq_getElem?_getD, List.getElem?_map]
  rw [this]; exact h

/-! ## Numbers that are kept -/
section
variable {cl : Cl} {yl : Yl}

noncomputable def Hp.skip (h : Hp) : Hp := ⟨h.next.succ, h.t⟩
/-- After so many numbers. -/
noncomputable def nextN (i : Id) : Nat → Id
  | 0 => i
  | n + 1 => nextN i.succ n
theorem nextN_val : ∀ (n : Nat) (i : Id), (nextN i n).val = i.val + n
  | 0, i => rfl
  | n + 1, i => by rw [nextN, nextN_val n, Id.val_succ]; omega

end
end Go.AM

/-
  Numbers that are kept for the blocks that a region makes. Conditions stand at each law.
-/
namespace Go.AM
variable {cl : Cl} {yl : Yl}

def isA (d : DOp) : Bool := match d.x, d.dst with | .a _, some _ => true | _, _ => false
def cntA (l : List DOp) : Nat := (l.filter isA).length

noncomputable def tmR : List DOp → Tm → Id → Tm
  | [], tm, _ => tm
  | d :: l, tm, i => match d.x, d.dst with
    | .a _, some t => tmR l (tm.set t (.c (.p i 0))) i.succ
    | _, _ => tmR l tm i

theorem nextN_succ : ∀ (n : Nat) (i : Id), nextN i.succ n = nextN i (n + 1)
  | _, _ => rfl

theorem resv_run : ∀ (l : List DOp) (T : List It) (tm : Tm) (dl : List Df) (h : Hp), evIs cl yl (resv l ++ T) tm dl h = evIs cl yl T (tmR l tm h.next) dl ⟨nextN h.next (cntA l), h.t⟩
  | [], T, tm, dl, h => rfl
  | d :: l, T, tm, dl, h => by
    have hcase : (∃ o t, d.x = .a o ∧ d.dst = some t) ∨ isA d = false := by
      unfold isA
      split
      · rename_i o t h1 h2; exact .inl ⟨o, t, h1, h2⟩
      · exact .inr rfl
    rcases hcase with ⟨o, t, h1, h2⟩ | hn
    · have e1 : resv (d :: l) = .rs t :: resv l := by
        unfold resv; rw [List.filterMap_cons, h1, h2]
      have e2 : tmR (d :: l) tm h.next = tmR l (tm.set t (.c (.p h.next 0))) h.next.succ := by
        simp only [tmR, h1, h2]
      have e3 : cntA (d :: l) = cntA l + 1 := by
        have : isA d = true := by unfold isA; rw [h1, h2]
        unfold cntA; rw [List.filter_cons, this]; rfl
      rw [e1, e2, e3, List.cons_append, evIs_cons]
      show (h.next.succK fun j => T8.setK tm t (.c (.p h.next 0)) fun tm => evIs cl yl (resv l ++ T) tm dl ⟨j, h.t⟩) = _
      rw [Id.succK_eq, T8.setK_eq, resv_run l T _ dl ⟨h.next.succ, h.t⟩]
      rfl
    · have e1 : resv (d :: l) = resv l := by
        unfold resv; rw [List.filterMap_cons]
        unfold isA at hn
        split at hn
        · cases hn
        · split <;> first | rfl | (exfalso; simp_all)
      have e2 : tmR (d :: l) tm h.next = tmR l tm h.next := by
        unfold isA at hn
        simp only [tmR]
        split at hn
        · cases hn
        · rfl
      have e3 : cntA (d :: l) = cntA l := by unfold cntA; rw [List.filter_cons, hn]; rfl
      rw [e1, e2, e3]; exact resv_run l T tm dl h

theorem tmR_get : ∀ (l : List DOp) (tm : Tm) (i : Id) (p : P3), distinct (l.filterMap (·.dst)) = true →
    (∀ (j : Nat) (d : DOp), l[j]? = some d → isA d = true → d.dst = some p → (tmR l tm i).get p = .c (.p (nextN i (cntA (l.take j))) 0)) ∧ ((∀ (j : Nat) (d : DOp), l[j]? = some d → isA d = true → d.dst ≠ some p) → (tmR l tm i).get p = tm.get p)
  | [], tm, i, p, _ => ⟨fun j d h => by simp at h, fun _ => rfl⟩
  | x :: l, tm, i, p, hd => by
    have hd' : distinct (l.filterMap (·.dst)) = true := by
      cases e : x.dst with
      | none => rwa [List.filterMap_cons_none e] at hd
      | some q =>
        rw [List.filterMap_cons_some e] at hd
        unfold distinct at hd
        rw [Bool.and_eq_true] at hd
        exact hd.2
    have hx : ∀ q, x.dst = some q → ∀ (j : Nat) (d : DOp), l[j]? = some d → d.dst ≠ some q := fun q hq j d hj e => by
      rw [List.filterMap_cons_some hq] at hd
      have := distinct_mem hd
      rw [List.nodup_cons] at this
      exact this.1 (List.mem_filterMap.2 ⟨d, List.mem_of_getElem? hj, e⟩)
    cases ha : isA x with
    | true =>
      obtain ⟨o, t, h1, h2⟩ : ∃ o t, x.x = .a o ∧ x.dst = some t := by
        unfold isA at ha
        split at ha
        · rename_i o t h1 h2; exact ⟨o, t, h1, h2⟩
        · cases ha
      have e2 : tmR (x :: l) tm i = tmR l (tm.set t (.c (.p i 0))) i.succ := by simp only [tmR, h1, h2]
      obtain ⟨r1, r2⟩ := tmR_get l (tm.set t (.c (.p i 0))) i.succ p hd'
      rw [e2]
      refine ⟨fun j d hj hda hp => ?_, fun hno => ?_⟩
      · cases j with
        | zero =>
          obtain rfl := Option.some.inj hj
          rw [h2] at hp; cases hp
          rw [r2 fun j d hj _ => hx _ h2 j d hj, T8.get_set, if_pos rfl]; rfl
        | succ j =>
          have hj : l[j]? = some d := by simpa using hj
          rw [r1 j d hj hda hp, nextN_succ]
          have : cntA ((x :: l).take (j + 1)) = cntA (l.take j) + 1 := by
            unfold cntA; rw [List.take_succ_cons, List.filter_cons, ha]; rfl
          rw [this]
      · rw [r2 fun j d hj hda => hno (j + 1) d (by simpa using hj) hda, T8.get_set, if_neg (fun e => by rw [e] at h2; exact hno 0 x rfl ha h2)]
    | false =>
      have e2 : tmR (x :: l) tm i = tmR l tm i := by
        unfold isA at ha
        simp only [tmR]
        split at ha
        · cases ha
        · rfl
      obtain ⟨r1, r2⟩ := tmR_get l tm i p hd'
      rw [e2]
      refine ⟨fun j d hj hda hp => ?_, fun hno => r2 fun j d hj hda => hno (j + 1) d (by simpa using hj) hda⟩
      cases j with
      | zero =>
        obtain rfl := Option.some.inj hj
        rw [ha] at hda; cases hda
      | succ j =>
        have hj : l[j]? = some d := by simpa using hj
        rw [r1 j d hj hda hp]
        have : cntA ((x :: l).take (j + 1)) = cntA (l.take j) := by
          unfold cntA; rw [List.take_succ_cons, List.filter_cons, ha]; rfl
        rw [this]

section
variable {ds : List DOp}

/-- The number that is kept for an operation's block. -/
noncomputable def idAt (ds : List DOp) (i : Id) (j : Nat) : Id := nextN i (cntA (ds.take j))

theorem isA_of (hal : alsOk ds = true) {j : Nat} {d : DOp} (hd : ds[j]? = some d) (hk : kindAt ds j = .a) : isA d = true ∧ ∃ o p, d.x = .a o ∧ d.dst = some p := by
  rw [kind_a hd] at hk
  unfold alsOk at hal
  rw [List.all_eq_true] at hal
  have := hal d (List.mem_of_getElem? hd)
  cases hx : d.x with
  | a o =>
    rw [hx] at this hk
    cases hp : d.dst with
    | none => rw [hp] at this; simp [clOf] at this
    | some p => exact ⟨by unfold isA; rw [hx, hp], o, p, rfl, rfl⟩
  | bad => rw [hx] at hk; cases hk
  | p o => rw [hx] at hk; cases hk
  | r o => rw [hx] at hk; cases hk
  | e o => rw [hx] at hk; cases o <;> cases hk

theorem cntA_lt {j k : Nat} {d : DOp} (hd : ds[j]? = some d) (ha : isA d = true) (hjk : j < k) : cntA (ds.take j) < cntA (ds.take k) := by
  unfold cntA
  have hlt := (List.getElem?_eq_some_iff.1 hd).1
  have e1 : ds.take k = ds.take j ++ (ds.drop j).take (k - j) := by
    rw [← List.take_add]; congr 1; omega
  have e2 : ds.drop j = d :: ds.drop (j + 1) := by
    rw [List.drop_eq_getElem_cons hlt]
    have := List.getElem?_eq_getElem hlt
    rw [hd] at this; cases this; rfl
  obtain ⟨m, hm⟩ : ∃ m, k - j = m + 1 := ⟨k - j - 1, by omega⟩
  rw [e1, e2, hm, List.take_succ_cons, List.filter_append, List.filter_cons, ha, List.length_append]
  simp

theorem idAt_val (i : Id) (j : Nat) : (idAt ds i j).val = i.val + cntA (ds.take j) := nextN_val _ _
theorem idAt_inj (hal : alsOk ds = true) {i : Id} {j k : Nat} {d d' : DOp} (hd : ds[j]? = some d) (hd' : ds[k]? = some d') (hj : kindAt ds j = .a) (hk : kindAt ds k = .a) (he : idAt ds i j = idAt ds i k) : j = k := by
  have hv : (idAt ds i j).val = (idAt ds i k).val := by rw [he]
  rw [idAt_val, idAt_val] at hv
  rcases Nat.lt_trichotomy j k with h | h | h
  · have := cntA_lt hd (isA_of hal hd hj).1 h; omega
  · exact h
  · have := cntA_lt hd' (isA_of hal hd' hk).1 h; omega
theorem idAt_range (hal : alsOk ds = true) {i : Id} {j : Nat} {d : DOp} (hd : ds[j]? = some d) (hj : kindAt ds j = .a) : i.val ≤ (idAt ds i j).val ∧ (idAt ds i j).val < (nextN i (cntA ds)).val := by
  rw [idAt_val, nextN_val]
  have := cntA_lt hd (isA_of hal hd hj).1 (k := ds.length) (List.getElem?_eq_some_iff.1 hd).1
  rw [List.take_length] at this
  omega

/-- Where the levels begin. -/
theorem cinv_start (hsl : slotsOk ds = true) (hal : alsOk ds = true) (tm0 : Tm) (i : Id) : CInv ds tm0 (idAt ds i) 0 (tmR ds tm0 i) := by
  have hdis := slotsOk_distinct hsl
  have hget := fun p => tmR_get ds tm0 i p hdis
  refine ⟨fun p hp => ?_, fun p j h1 _ h3 => ?_, fun p j h1 _ h3 => ?_, fun a j ha => by rw [bit_zero] at ha; cases ha⟩
  · refine (hget p).2 fun j d hj _ e => ?_
    rw [wr_of hdis hj e] at hp; cases hp
  · refine (hget p).2 fun k d hk hka e => ?_
    have := wr_of hdis hk e
    rw [h1] at this; cases this
    apply h3
    rw [kind_a hk]
    unfold isA at hka
    split at hka
    · rename_i o t h1 _; rw [h1]; rfl
    · cases hka
  · obtain ⟨d, hd, hp⟩ := wr_some h1
    exact (hget p).1 j d hd (isA_of hal hd h3).1 hp
end
end Go.AM

/-
  Blocks that the world has and the machine does not speak of yet. Conditions stand at each law.
-/
namespace Go.AM
variable {P : Program} {ρ : Emb}

theorem RelH.congr {h h' : Hp} {w : World} (H : RelH P ρ h w) (hn : h'.next.val = h.next.val) (hg : ∀ r, h'.get r = h.get r) : RelH P ρ h' w where
  blk := fun r B hr => H.blk r B (by rw [← hg]; exact hr)
  dom := fun r x hx => by rw [hn]; exact H.dom r x hx
  apart := fun r q B C b o o' hne hr hq => H.apart r q B C b o o' hne (by rw [← hg]; exact hr) (by rw [← hg]; exact hq)
theorem Dom.congr {h h' : Hp} {b : Nat} (hg : ∀ r, h'.get r = h.get r) (hd : Dom ρ h' b) : Dom ρ h b := by
  obtain ⟨r, B, o, h1, h2⟩ := hd
  exact ⟨r, B, o, by rw [← hg]; exact h1, h2⟩
theorem Img.dom {h : Hp} {b : Nat} (hi : Img ρ h b) : Dom ρ h b := by
  obtain ⟨r, B, o, h1, _, h2⟩ := hi; exact ⟨r, B, o, h1, h2⟩
theorem Step.congr {ρ0 : Emb} {h0 h h' : Hp} {w0 w : World} (S : Step ρ0 h0 w0 ρ h w) (hn : h'.next.val = h.next.val) (hg : ∀ r, h'.get r = h.get r) : Step ρ0 h0 w0 ρ h' w :=
  ⟨S.le, S.size, S.keep, fun b hb => S.img b (by obtain ⟨r, B, o, h1, h2⟩ := hb; exact ⟨r, B, o, by rw [← hg]; exact h1, h2⟩), fun b hb => S.dom b (Dom.congr hg hb), by rw [hn]; exact S.next, S.fresh, S.tape, S.os, S.out⟩

/-- A block that waits: the machine has a number for it, and speaks of it no further. -/
structure Waits (P : Program) (ρ : Emb) (h : Hp) (w0 w : World) (r : Id) (b : Nat) (B : Blk) : Prop where
  at_ : ρ r = some (b, 0)
  lo : w0.heap.size ≤ b
  hi : b < w.heap.size
  out : ¬ Dom ρ h b
  wr : B.wr = true
  rel : RelB P ρ w b 0 (ρ.e r) B

/-- It is spoken of from now on. -/
theorem Waits.take {ρ0 : Emb} {h0 h : Hp} {w0 w : World} {r : Id} {b : Nat} {B : Blk} (H : RelH P ρ h w) (S : Step ρ0 h0 w0 ρ h w) (W : Waits P ρ h w0 w r b B) (hr : h.get r = none) :
    RelH P ρ (h.set r (some B)) w ∧ Step ρ0 h0 w0 ρ (h.set r (some B)) w ∧ ∀ b', Dom ρ (h.set r (some B)) b' → b' = b ∨ Dom ρ h b' := by
  have hget : ∀ q C, (h.set r (some B)).get q = some C → (q = r ∧ C = B) ∨ (q ≠ r ∧ h.get q = some C) := fun q C hq => by
    rw [Hp.get_set] at hq
    by_cases e : r = q
    · rw [if_pos e] at hq; cases hq; exact .inl ⟨e.symm, rfl⟩
    · rw [if_neg e] at hq; exact .inr ⟨fun x => e x.symm, hq⟩
  refine ⟨⟨fun q C hq => ?_, H.dom, fun q q' C D b1 o o' hne hq hq' h1 h2 => ?_⟩, ⟨S.le, S.size, S.keep, fun k hk => ?_, fun k hk => ?_, S.next, S.fresh, S.tape, S.os, S.out⟩, fun k hk => ?_⟩
  · rcases hget q C hq with ⟨rfl, rfl⟩ | ⟨_, h3⟩
    · exact ⟨b, 0, W.at_, W.hi, W.rel⟩
    · exact H.blk q C h3
  · rcases hget q C hq with ⟨rfl, rfl⟩ | ⟨_, h3⟩
    · rcases hget q' D hq' with ⟨rfl, rfl⟩ | ⟨_, h4⟩
      · exact absurd rfl hne
      · rw [W.at_] at h1; cases h1
        exact absurd ⟨q', D, o', h4, h2⟩ W.out
    · rcases hget q' D hq' with ⟨rfl, rfl⟩ | ⟨_, h4⟩
      · rw [W.at_] at h2; cases h2
        exact absurd ⟨q, C, o, h3, h1⟩ W.out
      · exact H.apart q q' C D b1 o o' hne h3 h4 h1 h2
  · obtain ⟨q, C, o, hq, hC, h1⟩ := hk
    rcases hget q C hq with ⟨rfl, rfl⟩ | ⟨_, h3⟩
    · rw [W.at_] at h1; cases h1; exact .inr W.lo
    · exact S.img k ⟨q, C, o, h3, hC, h1⟩
  · obtain ⟨q, C, o, hq, h1⟩ := hk
    rcases hget q C hq with ⟨rfl, rfl⟩ | ⟨_, h3⟩
    · rw [W.at_] at h1; cases h1; exact .inr W.lo
    · exact S.dom k ⟨q, C, o, h3, h1⟩
  · obtain ⟨q, C, o, hq, h1⟩ := hk
    rcases hget q C hq with ⟨rfl, rfl⟩ | ⟨_, h3⟩
    · rw [W.at_] at h1; cases h1; exact .inl rfl
    · exact .inr ⟨q, C, o, h3, h1⟩

/-- Behind a step that does not know of it, it waits still. -/
theorem Waits.after {ρ' : Emb} {h h' : Hp} {w0 w w' : World} {r : Id} {b : Nat} {B : Blk} (W : Waits P ρ h w0 w r b B) (S : Step ρ h w ρ' h' w') : Waits P ρ' h' w0 w' r b B := by
  obtain ⟨h1, h2⟩ := S.le _ _ W.at_
  refine ⟨h1, W.lo, Nat.lt_of_lt_of_le W.hi S.size, fun hd => ?_, W.wr, ?_⟩
  · rcases S.dom b hd with h | h
    · exact W.out h
    · have := W.hi; omega
  · rw [h2]; exact RelB.mono S.le (S.keep b W.hi fun hi => W.out hi.dom) W.rel

/-- A new block that waits. -/
theorem Makes.wait {ρ0 : Emb} {h0 h : Hp} {w0 w : World} {s : Sem Value} {B : Blk} {f : Id → AV} {r : Id} (H : RelH P ρ h w) (S : Step ρ0 h0 w0 ρ h w) (m : Makes P ρ w s B f) (hr : ρ r = none) (hlt : r.val < h.next.val) (hlo : h0.next.val ≤ r.val) (hg : h.get r = none) :
    ∃ v' w' ρ', s.run P w = .ok v' w' ∧ RelV ρ' (f r) v' ∧ RelH P ρ' h w' ∧ Step ρ0 h0 w0 ρ' h w' ∧ ρ.le ρ' ∧ Waits P ρ' h w0 w' r w.heap.size B ∧ (∀ q, q ≠ r → ρ' q = ρ q) ∧
      ∀ r' b' B', r' ≠ r → Waits P ρ h w0 w r' b' B' → Waits P ρ' h w0 w' r' b' B' := by
  obtain ⟨v', w', ob, e, h1, h2, h3, h4⟩ := m
  have hle : ρ.le (ρ.put r (w.heap.size, 0) e) := Emb.le_put hr
  have h5 := h4 r (ρ.put r (w.heap.size, 0) e) hle (Emb.put_same _ _ _ _) (Emb.put_e _ _ _ _)
  have hsz : w'.heap.size = w.heap.size + 1 := by rw [h2.1]; simp
  have hoth : ∀ q x, (ρ.put r (w.heap.size, 0) e) q = some x → q ≠ r → ρ q = some x := fun q x hx hne => (Emb.put_get hx).elim (fun e => absurd e hne) id
  have hdom : ∀ k, Dom (ρ.put r (w.heap.size, 0) e) h k → Dom ρ h k := fun k hk => by
    obtain ⟨q, C, o, hq, hx⟩ := hk
    exact ⟨q, C, o, hq, hoth q _ hx fun e => by rw [e, hg] at hq; cases hq⟩
  have himg : ∀ k, Img (ρ.put r (w.heap.size, 0) e) h k → Img ρ h k := fun k hk => by
    obtain ⟨q, C, o, hq, hC, hx⟩ := hk
    exact ⟨q, C, o, hq, hC, hoth q _ hx fun e => by rw [e, hg] at hq; cases hq⟩
  have hHsize : ∀ k, Dom ρ h k → k < w.heap.size := fun k hk => by
    obtain ⟨q, C, o, hq, hx⟩ := hk
    obtain ⟨b', o', e1, e2, _⟩ := H.blk q C hq
    rw [hx] at e1; cases e1; exact e2
  have H' : RelH P (ρ.put r (w.heap.size, 0) e) h w' := by
    refine ⟨fun q C hq => ?_, fun q x hx => ?_, fun q q' C D b1 o o' hne hq hq' e1 e2 => ?_⟩
    · obtain ⟨b', o', e1, e2, e3⟩ := H.blk q C hq
      obtain ⟨e4, e5⟩ := hle _ _ e1
      exact ⟨b', o', e4, by omega, by rw [e5]; exact RelB.mono hle (more_old h2 b' e2) e3⟩
    · rcases Emb.put_get hx with rfl | hx
      · exact hlt
      · exact H.dom q x hx
    · exact H.apart q q' C D b1 o o' hne hq hq' (hoth q _ e1 fun e => by rw [e, hg] at hq; cases hq) (hoth q' _ e2 fun e => by rw [e, hg] at hq'; cases hq')
  have hS : Step ρ0 h0 w0 (ρ.put r (w.heap.size, 0) e) h w' := by
    refine ⟨Emb.le_trans S.le hle, by have := S.size; omega, fun k hk hn => (more_old h2 k (Nat.lt_of_lt_of_le hk S.size)).trans (S.keep k hk hn), fun k hk => S.img k (himg k hk), fun k hk => S.dom k (hdom k hk), S.next, fun q x hx => ?_, h2.2.1.trans S.tape, h2.2.2.1.trans S.os, h2.2.2.2.trans S.out⟩
    rcases Emb.put_get hx with rfl | hx
    · exact .inr hlo
    · exact S.fresh q x hx
  refine ⟨v', w', _, h1, h5.1, H', hS, hle, ⟨Emb.put_same _ _ _ _, S.size, by omega, fun hd => ?_, h3, by rw [Emb.put_e]; exact h5.2⟩, fun q hq => ?_, fun r' b' B' hne W => ?_⟩
  · have := hHsize _ (hdom _ hd); omega
  · simp only [Emb.put]; exact if_neg fun e => hq e.symm
  · obtain ⟨e1, e2⟩ := hle _ _ W.at_
    exact ⟨e1, W.lo, by have := W.hi; omega, fun hd => W.out (hdom _ hd), W.wr, by rw [e2]; exact RelB.mono hle (more_old h2 b' W.hi) W.rel⟩

end Go.AM

/-
  A region that draws its order: what stands while it is run in any order: its entries. Conditions stand at each law.
-/
namespace Go.AM

section
variable (ds : List DOp) (tm0 tmF : Tm)
def Opd.cv (i : Nat) (x : Opd) : AV := match x with
  | .t p => cval ds tm0 tmF i p
  | .k v => v
/-- The entry that an operation lays into a map. -/
def entOf (j : Nat) : Option (AV × AV) := match (ds[j]?).map DOp.x with
  | some (.e (.mnew _ _ _ k x)) => some (k.cv ds tm0 tmF j, x.cv ds tm0 tmF j)
  | _ => none
def isMkm (i : Nat) : Bool := match (ds[i]?).map DOp.x with
  | some (.a .mkm) => true
  | _ => false
end
end Go.AM

/-
  Entries that are laid into new maps, whatever their order. Conditions stand at each law.
-/
namespace Go.AM

/-! ## Keys, either way round -/
theorem cellEq_symm {x y : Sc} {t : Bool} (h : cellEq x y = some t) : cellEq y x = some t := by
  have hs : ∃ u, cellEq y x = some u := by
    cases x <;> cases y <;> simp only [cellEq] at h ⊢ <;> try (cases h; done)
    · exact ⟨_, rfl⟩
    · rename_i k a j b
      cases hk : kindEq k j with
      | false => rw [hk] at h; cases h
      | true =>
        obtain rfl := kindEq_iff hk
        rw [hk]; exact ⟨_, rfl⟩
    · exact ⟨_, rfl⟩
  obtain ⟨u, hu⟩ := hs
  cases t <;> cases u
  · exact hu
  · exact absurd (cellEq_true hu).symm (cellEq_false h)
  · exact absurd (cellEq_true h).symm (cellEq_false hu)
  · exact hu

theorem cellsEq_some : ∀ {a b : List Sc} {t : Bool}, cellsEq a b = some t → ∃ u, cellsEq b a = some u
  | [], [], _, _ => ⟨true, rfl⟩
  | [], _ :: _, _, h => by cases h
  | _ :: _, [], _, h => by cases h
  | x :: a, y :: b, t, h => by
    unfold cellsEq at h
    split at h
    · rename_i p q h1 h2
      obtain ⟨u, hu⟩ := cellsEq_some h2
      unfold cellsEq
      rw [cellEq_symm h1, hu]
      exact ⟨_, rfl⟩
    · cases h

theorem keyEq_symm {x y : AV} {t : Bool} (h : keyEq x y = some t) : keyEq y x = some t := by
  have hs : ∃ u, keyEq y x = some u := by
    unfold keyEq at h ⊢
    split at h
    · exact ⟨_, cellEq_symm h⟩
    · obtain ⟨u, hu⟩ := cellsEq_some h; exact ⟨u, hu⟩
    · cases h
  obtain ⟨u, hu⟩ := hs
  cases t <;> cases u
  · exact hu
  · exact absurd (keyEq_true hu).symm (keyEq_false h)
  · exact absurd (keyEq_true h).symm (keyEq_false hu)
  · exact hu

/-- A key that none of some entries has. -/
def Off (k : AV) (es : List (AV × AV)) : Prop := ∀ e ∈ es, keyEq k e.1 = some false

theorem Off.all {k : AV} {es : List (AV × AV)} (h : Off k es) : cmpAll k es = true := cmpAll_iff.2 fun e he => ⟨_, h e he⟩
theorem Off.put {k x : AV} {es : List (AV × AV)} (h : Off k es) : put k x es = none := (put_none h.all).2 fun e he => keyEq_false (h e he)
theorem Off.perm {k : AV} {es fs : List (AV × AV)} (hp : es.Perm fs) (h : Off k es) : Off k fs := fun e he => h e (hp.mem_iff.2 he)

theorem eMnew_ok {ka : Bool} {ks : List (Nat × CK)} {m k x v : AV} {h h' : Hp} (hr : eMnew ka ks m k x h = .ok v h') :
    ∃ r es c, m = .c (.m r) ∧ h.get r = some (.mp es c) ∧ keyOk ka ks k = true ∧ isOne x = true ∧ Off k es ∧ v = .t [] ∧ h' = h.set r (some (.mp (es ++ [(k, x)]) (c + 1))) := by
  unfold eMnew at hr
  split at hr
  · rename_i r
    split at hr
    · rename_i es c hg
      split at hr
      · rename_i hf
        unfold eMup at hr
        cases h1 : keyOk ka ks k with
        | false => rw [h1] at hr; cases hr
        | true =>
          cases h2 : isOne x with
          | false => rw [h1, h2] at hr; cases hr
          | true =>
            rw [h1, h2, cond_true, cond_true] at hr
            simp only [hg] at hr
            cases h3 : cmpAll k es with
            | false => rw [h3] at hr; cases hr
            | true =>
              rw [h3, cond_true] at hr
              have hne := find_none h3 hf
              have hp : put k x es = none := (put_none h3).2 hne
              rw [hp] at hr
              simp only [forceL_eq, forceN_eq, Hp.setK_eq] at hr
              cases hr
              refine ⟨r, es, c, rfl, hg, rfl, rfl, fun e he => ?_, rfl, rfl⟩
              obtain ⟨t, ht⟩ := cmpAll_iff.1 h3 e he
              cases t with
              | false => exact ht
              | true => exact absurd (keyEq_true ht) (hne e he)
      · cases hr
    · cases hr
  · cases hr

theorem eMup_new {ka : Bool} {ks : List (Nat × CK)} {k x : AV} {h : Hp} {r : Id} {es : List (AV × AV)} {c : Nat} (hg : h.get r = some (.mp es c)) (h1 : keyOk ka ks k = true) (h2 : isOne x = true) (h3 : Off k es) :
    eMup ka ks (.c (.m r)) k x h = .ok (.t []) (h.set r (some (.mp (es ++ [(k, x)]) (c + 1)))) := by
  unfold eMup
  rw [h1, h2, cond_true, cond_true]
  simp only [hg]
  rw [h3.all, cond_true, h3.put]
  simp only [forceL_eq, forceN_eq, Hp.setK_eq]

/-! ## A frame out of a function -/
noncomputable def N8.of {α : Type} (g : D → α) : N8 α := .mk (g .a) (g .b) (g .c) (g .d) (g .e) (g .f) (g .g) (g .h)
theorem N8.get_of {α : Type} (g : D → α) (i : D) : (N8.of g).get i = g i := by cases i <;> rfl
noncomputable def T8.of {α : Type} (g : P3 → α) : T8 α := N8.of fun x => N8.of fun y => N8.of fun z => g (.mk x y z)
theorem T8.get_of {α : Type} (g : P3 → α) (p : P3) : (T8.of g).get p = g p := by
  cases p with
  | mk x y z => rw [T8.get_eq]; unfold T8.of; rw [N8.get_of, N8.get_of, N8.get_of]

section
variable {ds : List DOp} {tm0 tmF : Tm} {cl : Cl} {yl : Yl} {idOf : Nat → Id}

noncomputable def tmC (ds : List DOp) (tm0 tmF : Tm) (i : Nat) : Tm := T8.of (cval ds tm0 tmF i)
theorem tmC_agr (i : Nat) : Agr ds tm0 tmF i (tmC ds tm0 tmF i) := fun p _ => T8.get_of _ p
theorem tmC_opd (i : Nat) (x : Opd) : x.get (tmC ds tm0 tmF i) = x.cv ds tm0 tmF i := by
  cases x with
  | t p => exact T8.get_of _ p
  | k v => rfl

/-! ## Runs that turn no memory -/
/-- An operation that reads or reckons leaves all as it is. -/
theorem StepFact.still {i : Nat} {dl dl1 : List Df} {h h1 : Hp} (s : StepFact ds tm0 tmF cl yl idOf i dl h dl1 h1) (hk : kindAt ds i = .p ∨ kindAt ds i = .r) : dl1 = dl ∧ h1 = h := by
  obtain ⟨d, hd, s0, s1⟩ := s
  cases hW : W ds tm0 tmF i with
  | false => exact ⟨(s0 hW).1, (s0 hW).2.1⟩
  | true =>
    have s1 := s1 hW
    rw [kind_a hd] at hk
    cases hx : d.x with
    | bad => rw [hx] at hk; rcases hk with hk | hk <;> cases hk
    | a o => rw [hx] at hk; rcases hk with hk | hk <;> cases hk
    | e o => rw [hx] at hk; rcases hk with hk | hk <;> cases o <;> cases hk
    | p o =>
      rw [hx] at s1
      rcases s1 with ⟨v, e1, e2, _⟩ | ⟨e, e1, _, _⟩
      · have e1 := e1 _ (tmC_agr i)
        have e1 : toRV (o.run (tmC ds tm0 tmF i)) h = .ok v h1 := e1
        cases hp : o.run (tmC ds tm0 tmF i) <;> rw [hp] at e1 <;> cases e1
        exact ⟨e2, rfl⟩
      · have e1 := e1 _ (tmC_agr i)
        have e1 : toRV (o.run (tmC ds tm0 tmF i)) h = .dfr e h1 := e1
        cases hp : o.run (tmC ds tm0 tmF i) <;> rw [hp] at e1 <;> cases e1
    | r o =>
      rw [hx] at s1
      rcases s1 with ⟨v, e1, e2, _⟩ | ⟨e, e1, _, _⟩
      · have e1 := e1 _ (tmC_agr i)
        have e1 : toRV (o.run (tmC ds tm0 tmF i) h) h = .ok v h1 := e1
        cases hp : o.run (tmC ds tm0 tmF i) h <;> rw [hp] at e1 <;> cases e1
        exact ⟨e2, rfl⟩
      · have e1 := e1 _ (tmC_agr i)
        have e1 : toRV (o.run (tmC ds tm0 tmF i) h) h = .dfr e h1 := e1
        cases hp : o.run (tmC ds tm0 tmF i) h <;> rw [hp] at e1 <;> cases e1

theorem RunFacts.still : ∀ {l : List Nat} {dl dl1 : List Df} {h h1 : Hp}, RunFacts ds tm0 tmF cl yl idOf l dl h dl1 h1 → (∀ i ∈ l, kindAt ds i = .p ∨ kindAt ds i = .r) →
    dl1 = dl ∧ h1 = h ∧ ∀ i ∈ l, StepFact ds tm0 tmF cl yl idOf i dl h dl h
  | [], _, _, _, _, hr, _ => ⟨hr.1, hr.2, fun i hi => by cases hi⟩
  | i :: r, dl, dl1, h, h1, hr, hk => by
    obtain ⟨dl2, h2, s, hr⟩ := hr
    obtain ⟨rfl, rfl⟩ := s.still (hk i (by simp))
    obtain ⟨rfl, rfl, h3⟩ := RunFacts.still hr fun j hj => hk j (by simp [hj])
    exact ⟨rfl, rfl, fun j hj => by
      rcases List.mem_cons.1 hj with rfl | hj
      · exact s
      · exact h3 j hj⟩

/-- What an operation puts off stays put off. -/
theorem StepFact.grows {i : Nat} {dl dl1 : List Df} {h h1 : Hp} (s : StepFact ds tm0 tmF cl yl idOf i dl h dl1 h1) : ∃ e, dl1 = e ++ dl := by
  obtain ⟨d, hd, s0, s1⟩ := s
  cases hW : W ds tm0 tmF i with
  | false => exact ⟨[], (s0 hW).1⟩
  | true =>
    have s1 := s1 hW
    cases hx : d.x with
    | a o => rw [hx] at s1; obtain ⟨p, B, f, _, _, _, e, _⟩ := s1; exact ⟨[], e⟩
    | bad => rw [hx] at s1; rcases s1 with ⟨v, _, e, _⟩ | ⟨d', _, e, _⟩ <;> first | exact ⟨[], e⟩ | exact ⟨[d'], e⟩
    | p o => rw [hx] at s1; rcases s1 with ⟨v, _, e, _⟩ | ⟨d', _, e, _⟩ <;> first | exact ⟨[], e⟩ | exact ⟨[d'], e⟩
    | r o => rw [hx] at s1; rcases s1 with ⟨v, _, e, _⟩ | ⟨d', _, e, _⟩ <;> first | exact ⟨[], e⟩ | exact ⟨[d'], e⟩
    | e o => rw [hx] at s1; rcases s1 with ⟨v, _, e, _⟩ | ⟨d', _, e, _⟩ <;> first | exact ⟨[], e⟩ | exact ⟨[d'], e⟩
theorem RunFacts.grows : ∀ {l : List Nat} {dl dl1 : List Df} {h h1 : Hp}, RunFacts ds tm0 tmF cl yl idOf l dl h dl1 h1 → ∃ e, dl1 = e ++ dl
  | [], _, _, _, _, hr => ⟨[], hr.1⟩
  | i :: r, dl, dl1, h, h1, hr => by
    obtain ⟨dl2, h2, s, hr⟩ := hr
    obtain ⟨e, rfl⟩ := s.grows
    obtain ⟨e', rfl⟩ := RunFacts.grows hr
    exact ⟨e' ++ e, by rw [List.append_assoc]⟩
theorem LvFacts.grows {dsF : List Df} {hF : Hp} : ∀ {lvs : List Lv} {dl : List Df} {h : Hp}, LvFacts ds tm0 tmF cl yl idOf dsF hF lvs dl h → ∃ e, dsF = e ++ dl
  | [], _, _, hr => hr.elim
  | lv :: rest, dl, h, hr => by
    obtain ⟨dl1, h1, r1, dl2, h2, r2, dl3, h3, r3, hr⟩ := hr
    obtain ⟨e1, rfl⟩ := r1.grows
    obtain ⟨e2, rfl⟩ := r2.grows
    obtain ⟨e3, rfl⟩ := r3.grows
    split at hr
    · obtain ⟨rfl, _⟩ := hr
      exact ⟨e3 ++ (e2 ++ e1), by simp⟩
    · obtain ⟨dl4, h4, s, _, hr⟩ := hr
      obtain ⟨e4, rfl⟩ := s.grows
      obtain ⟨e5, rfl⟩ := LvFacts.grows hr
      exact ⟨e5 ++ (e4 ++ (e3 ++ (e2 ++ e1))), by simp⟩

theorem RunFacts.mem : ∀ {l : List Nat} {dl dl1 : List Df} {h h1 : Hp}, RunFacts ds tm0 tmF cl yl idOf l dl h dl1 h1 → ∀ i ∈ l, ∃ a b c d, StepFact ds tm0 tmF cl yl idOf i a b c d
  | [], _, _, _, _, _, i, hi => by cases hi
  | j :: r, dl, dl1, h, h1, hr, i, hi => by
    obtain ⟨dl2, h2, s, hr⟩ := hr
    rcases List.mem_cons.1 hi with rfl | hi
    · exact ⟨_, _, _, _, s⟩
    · exact RunFacts.mem hr i hi

/-- All operations are told of. -/
theorem all_facts {LA : Nat} {dsF : List Df} {hF : Hp} : ∀ {lvs : List Lv} {D A L R : Nat} {dl : List Df} {h : Hp}, lvsOk ds LA lvs D A L R = true → LvFacts ds tm0 tmF cl yl idOf dsF hF lvs dl h →
    ∀ i, i < ds.length → bit D i = false → ∃ a b c d, StepFact ds tm0 tmF cl yl idOf i a b c d
  | [], _, _, _, _, _, _, hok, _, _, _, _ => by cases hok
  | lv :: rest, D, A, L, R, dl, h, hok, hr, i, hi, hD => by
    obtain ⟨dl1, h1, r1, dl2, h2, r2, dl3, h3, r3, hr⟩ := hr
    obtain ⟨D1, D2, ⟨k1, k2⟩, k3⟩ := lvsOk_cons hok
    by_cases hp : i ∈ lv.pre
    · exact r1.mem i hp
    by_cases ha : i ∈ lv.als
    · exact r2.mem i ha
    by_cases hm : i ∈ lv.ms
    · exact r3.mem i hm
    have hD1 : bit D1 i = false := by rw [(runOk_bits k1).1, hD]; simp [hp]
    have hD2 : bit D2 i = false := by rw [(runOk_bits k2).1, hD1]; simp [ha]
    rcases k3 with ⟨_, D3, k4, _, k5⟩ | ⟨e, cs, hact, _, k4⟩
    · have := k5 i hi
      rw [(runOk_bits k4).1, hD2, Bool.false_or] at this
      exact absurd (by simpa using this) hm
    · rw [hact] at hr
      obtain ⟨dl4, h4, s, _, hr⟩ := hr
      by_cases he : e = i
      · subst he; exact ⟨_, _, _, _, s⟩
      · exact all_facts k4 hr i hi (by rw [bit_add, hD2]; simp [he])

/-! ## Entries -/
/-- What is told of an operation that lays an entry. -/
structure MSpec (ds : List DOp) (tm0 tmF : Tm) (idOf : Nat → Id) (i : Nat) where
  j : Nat
  ka : Bool
  ks : List (Nat × CK)
  p : P3
  k : Opd
  x : Opd

theorem mapOk_spec {i L : Nat} (h : mapOk ds i L = true) : ∃ d j ka ks p k x, ds[i]? = some d ∧ mapOf ds i = some j ∧ d.x = .e (.mnew ka ks (.t p) k x) ∧ wr ds p = some j ∧ d.guard = none ∧ d.dst = none ∧ bit L j = false ∧ bit d.anc j = true ∧
    ∃ c, ds[j]? = some c ∧ c.guard = none ∧ c.x = .a .mkm := by
  unfold mapOk at h
  split at h
  · rename_i d j hd hj
    simp only [Bool.and_eq_true, Bool.not_eq_true'] at h
    obtain ⟨⟨⟨⟨h1, h2⟩, h3⟩, h4⟩, h5⟩ := h
    split at h5
    · rename_i c hc
      rw [Bool.and_eq_true] at h5
      have hm := hj
      unfold mapOf at hm
      split at hm
      · rename_i ka ks p k x hx
        rw [hd] at hx
        have hx : d.x = .e (.mnew ka ks (.t p) k x) := by simpa using hx
        refine ⟨d, j, ka, ks, p, k, x, hd, hj, hx, hm, by simpa using h1, by simpa using h2, h3, h4, c, hc, by simpa using h5.1, ?_⟩
        have := h5.2
        split at this
        · assumption
        · cases this
      · cases hm
    · cases h5
  · cases h

theorem entOf_eq {i : Nat} {d : DOp} {ka : Bool} {ks : List (Nat × CK)} {m k x : Opd} (hd : ds[i]? = some d) (hx : d.x = .e (.mnew ka ks m k x)) : entOf ds tm0 tmF i = some (k.cv ds tm0 tmF i, x.cv ds tm0 tmF i) := by
  unfold entOf; rw [hd]; simp only [Option.map_some]; rw [hx]

/-- The slot of a new map. -/
theorem mkm_slot {j : Nat} {c : DOp} {p : P3} (hsl : slotsOk ds = true) (hc : ds[j]? = some c) (hg : c.guard = none) (hx : c.x = .a .mkm) (hp : wr ds p = some j) {a b : List Df} {h h1 : Hp} (s : StepFact ds tm0 tmF cl yl idOf j a h b h1) :
    tmF.get p = .c (.m (idOf j)) ∧ b = a ∧ h1 = h.set (idOf j) (some (.mp [] 0)) := by
  obtain ⟨d, hd, _, s1⟩ := s
  rw [hc] at hd; cases hd
  have s1 := s1 (W_none hc hg)
  rw [hx] at s1
  obtain ⟨q, B, f, e1, e2, e3, e4, e5⟩ := s1
  have hq : q = p := by
    obtain ⟨c', h1, h2⟩ := wr_some hp
    rw [hc] at h1; cases h1
    rw [e1] at h2; cases h2; rfl
  subst hq
  have hk := e2 _ (tmC_agr j) 
  have hB : Blk.mp [] 0 = B := by
    have := hk fun B _ => .ok (.t []) ⟨.z, .n (some B) .e .e .e .e⟩
    have this : RV.ok (.t []) ⟨.z, .n (some (.mp [] 0)) .e .e .e .e⟩ = RV.ok (.t []) ⟨.z, .n (some B) .e .e .e .e⟩ := this
    injection this with _ this
    injection this with _ this
    injection this with this
    injection this
  have hf : AV.c (.m (idOf j)) = f (idOf j) := by
    have := hk fun _ f => .ok (f (idOf j)) h
    have this : RV.ok (.c (.m (idOf j))) h = RV.ok (f (idOf j)) h := this
    injection this
  exact ⟨by rw [e3, hf], e4, by rw [e5, hB]⟩

end
end Go.AM

