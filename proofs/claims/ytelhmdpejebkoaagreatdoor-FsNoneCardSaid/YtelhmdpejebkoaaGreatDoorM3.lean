import Derived.Test.YtelhmdpejebkoaaGreatDoorM2
import Derived.LoopNIn
import Derived.RangeFuncRecord
import Derived.Carry
import Derived.ProofKit
import Derived.OpenShut
import Derived.Maps.RangeRun
import Derived.Lib.SlKeysI
import Derived.Deep.Slices
import Derived.ChangeArms
set_option linter.unusedVariables false
set_option linter.unusedSimpArgs false

/-
  The entries of new maps, laid one after the other. Conditions stand at each law.
-/
namespace Go.AM
variable {ds : List DOp} {tm0 tmF : Tm} {cl : Cl} {yl : Yl} {idOf : Nat → Id}

theorem pairwise_or {α : Type} {R : α → α → Prop} {l : List α} (h : l.Pairwise R) {a b : α} (ha : a ∈ l) (hb : b ∈ l) (hne : a ≠ b) : R a b ∨ R b a := by
  induction h with
  | nil => cases ha
  | @cons x r hx _ ih =>
    rcases List.mem_cons.1 ha with ha | ha
    · rcases List.mem_cons.1 hb with hb | hb
      · exact absurd (ha.trans hb.symm) hne
      · exact .inl (ha ▸ hx b hb)
    · rcases List.mem_cons.1 hb with hb | hb
      · exact .inr (hb ▸ hx a ha)
      · exact ih ha hb

section
variable (ds tm0 tmF idOf)
def onMap (r : Id) (i : Nat) : Bool := match mapOf ds i with | some j => decide (idOf j = r) | none => false
noncomputable def entR (l : List Nat) (r : Id) : List (AV × AV) := (l.filter (onMap ds idOf r)).filterMap (entOf ds tm0 tmF)
noncomputable def grow (l : List Nat) (r : Id) : Option Blk → Option Blk
  | some (.mp es c) => some (.mp (es ++ entR ds tm0 tmF idOf l r) (c + (entR ds tm0 tmF idOf l r).length))
  | x => x
def Grown (l : List Nat) (h h' : Hp) : Prop := h'.next = h.next ∧ ∀ r, h'.get r = grow ds tm0 tmF idOf l r (h.get r)
structure Laid (h : Hp) (i j : Nat) (d : DOp) (ka : Bool) (ks : List (Nat × CK)) (p : P3) (k x : Opd) : Prop where
  hd : ds[i]? = some d
  hx : d.x = .e (.mnew ka ks (.t p) k x)
  map : mapOf ds i = some j
  at_ : tmF.get p = .c (.m (idOf j))
  slot : cval ds tm0 tmF i p = tmF.get p
  key : keyOk ka ks (k.cv ds tm0 tmF i) = true
  one : isOne (x.cv ds tm0 tmF i) = true
  off : ∀ es c, h.get (idOf j) = some (.mp es c) → Off (k.cv ds tm0 tmF i) es
  there : ∃ es c, h.get (idOf j) = some (.mp es c)
  anc : bit (ancAt ds i) j = true
  mkm : ∃ c, ds[j]? = some c ∧ c.guard = none ∧ c.x = .a .mkm
  guard : d.guard = none
  dst : d.dst = none
  wr : wr ds p = some j
def Away (a b : Nat) : Prop := ∀ j j', mapOf ds a = some j → mapOf ds b = some j' → idOf j = idOf j' → ∀ ea eb, entOf ds tm0 tmF a = some ea → entOf ds tm0 tmF b = some eb → keyEq eb.1 ea.1 = some false
end

theorem entR_nil (r : Id) : entR ds tm0 tmF idOf [] r = [] := rfl
theorem entR_off {i : Nat} {l : List Nat} {r : Id} (h : onMap ds idOf r i = false) : entR ds tm0 tmF idOf (i :: l) r = entR ds tm0 tmF idOf l r := by
  unfold entR; rw [List.filter_cons, h]; rfl
theorem entR_on {i : Nat} {l : List Nat} {r : Id} {e : AV × AV} (h : onMap ds idOf r i = true) (he : entOf ds tm0 tmF i = some e) : entR ds tm0 tmF idOf (i :: l) r = e :: entR ds tm0 tmF idOf l r := by
  unfold entR; rw [List.filter_cons, h]; simp [he]

theorem mapOf_p {i : Nat} (hk : kindAt ds i = .p) : mapOf ds i = none := by
  unfold mapOf
  split
  · rename_i ka ks p k x h
    unfold kindAt at hk
    rw [h] at hk; cases hk
  · rfl

theorem ms_run {L : Nat} (hsl : slotsOk ds = true) (hsf : ∀ j, j < ds.length → ∃ a b c d, StepFact ds tm0 tmF cl yl idOf j a b c d) : ∀ {l : List Nat} {dl dl' : List Df} {h h' : Hp}, RunFacts ds tm0 tmF cl yl idOf l dl h dl' h' →
    (∀ i ∈ l, kindAt ds i = .p ∨ (kindAt ds i = .m ∧ mapOk ds i L = true)) →
    dl' = dl ∧ Grown ds tm0 tmF idOf l h h' ∧ (∀ i ∈ l, kindAt ds i = .m → ∃ j d ka ks p k x, Laid ds tm0 tmF idOf h i j d ka ks p k x) ∧ l.Pairwise (Away ds tm0 tmF idOf)
  | [], dl, dl', h, h', hr, _ => by
    obtain ⟨rfl, rfl⟩ := hr
    refine ⟨rfl, ⟨rfl, fun r => ?_⟩, (fun i hi => by cases hi), List.Pairwise.nil⟩
    unfold grow
    split
    · rename_i es c hg; rw [entR_nil, hg]; simp
    · rfl
  | i :: r, dl, dl', h, h', hr, hk => by
    obtain ⟨dl1, h1, s, hr⟩ := hr
    obtain ⟨e1, ⟨e2, e3⟩, e4, e5⟩ := ms_run hsl hsf hr fun j hj => hk j (by simp [hj])
    rcases hk i (by simp) with hp | ⟨hm, hok⟩
    · obtain ⟨rfl, rfl⟩ := s.still (.inl hp)
      have hoff : ∀ q, onMap ds idOf q i = false := fun q => by unfold onMap; rw [mapOf_p hp]
      refine ⟨e1, ⟨e2, fun q => ?_⟩, fun j hj hm => ?_, List.pairwise_cons.2 ⟨fun b hb j j' ha => ?_, e5⟩⟩
      · rw [e3 q]; unfold grow; rw [entR_off (hoff q)]
      · rcases List.mem_cons.1 hj with rfl | hj
        · rw [hp] at hm; cases hm
        · exact e4 j hj hm
      · rw [mapOf_p hp] at ha; cases ha
    · obtain ⟨d, j, ka, ks, p, k, x, hd, hj, hx, hw, hg, hdst, _, hanc, c, hc, hcg, hcx⟩ := mapOk_spec hok
      have hjl : j < ds.length := (List.getElem?_eq_some_iff.1 hc).1
      obtain ⟨_, _, _, _, sj⟩ := hsf j hjl
      obtain ⟨hslot, _, _⟩ := mkm_slot hsl hc hcg hcx hw sj
      have hancA : bit (ancAt ds i) j = true := by unfold ancAt; rw [hd]; exact hanc
      have hcv : cval ds tm0 tmF i p = tmF.get p := by unfold cval; rw [hw]; simp only [hancA, if_true]
      obtain ⟨d', hd', _, s1⟩ := s
      rw [hd] at hd'; cases hd'
      have s1 := s1 (W_none hd hg)
      rw [hx] at s1
      have hrun : ∃ v, eMnew ka ks (.c (.m (idOf j))) (k.cv ds tm0 tmF i) (x.cv ds tm0 tmF i) h = .ok v h1 ∧ dl1 = dl := by
        have hm : ∀ z, (XOp.e (.mnew ka ks (.t p) k x)).run cl yl (tmC ds tm0 tmF i) h = z → eMnew ka ks (.c (.m (idOf j))) (k.cv ds tm0 tmF i) (x.cv ds tm0 tmF i) h = z := fun z hz => by
          have hz : eMnew ka ks ((Opd.t p).get (tmC ds tm0 tmF i)) (k.get (tmC ds tm0 tmF i)) (x.get (tmC ds tm0 tmF i)) h = z := hz
          rw [tmC_opd, tmC_opd, tmC_opd] at hz
          have : (Opd.t p).cv ds tm0 tmF i = .c (.m (idOf j)) := by show cval ds tm0 tmF i p = _; rw [hcv, hslot]
          rw [this] at hz; exact hz
        rcases s1 with ⟨v, f1, f2, _⟩ | ⟨e, f1, _, _⟩
        · exact ⟨v, hm _ (f1 _ (tmC_agr i)), f2⟩
        · exact absurd (hm _ (f1 _ (tmC_agr i))) nodfr_mnew
      obtain ⟨v, hrun, rfl⟩ := hrun
      obtain ⟨rr, es, cc, g1, g2, g3, g4, g5, g6, g7⟩ := eMnew_ok hrun
      cases g1
      have hent := entOf_eq (tm0 := tm0) (tmF := tmF) hd hx
      have hon : onMap ds idOf (idOf j) i = true := by unfold onMap; rw [hj]; simp
      have hget : ∀ q, h1.get q = if idOf j = q then some (.mp (es ++ [(k.cv ds tm0 tmF i, x.cv ds tm0 tmF i)]) (cc + 1)) else h.get q := fun q => by rw [g7, Hp.get_set]
      refine ⟨e1, ⟨by rw [e2, g7]; rfl, fun q => ?_⟩, fun b hb hbm => ?_, List.pairwise_cons.2 ⟨fun b hb j1 j2 ha hb2 hid ea eb hea heb => ?_, e5⟩⟩
      · rw [e3 q, hget q]
        by_cases hq : idOf j = q
        · subst hq
          rw [if_pos rfl, g2]
          unfold grow
          rw [entR_on hon hent]
          simp only [List.append_assoc, List.singleton_append, List.length_cons]
          congr 2; omega
        · rw [if_neg hq]
          have : onMap ds idOf q i = false := by unfold onMap; rw [hj]; simp [hq]
          unfold grow; rw [entR_off this]
      · rcases List.mem_cons.1 hb with rfl | hb
        · exact ⟨j, d, ka, ks, p, k, x, hd, hx, hj, hslot, hcv, g3, g4, fun es' c' hg' => by rw [g2] at hg'; cases hg'; exact g5, ⟨es, cc, g2⟩, hancA, ⟨c, hc, hcg, hcx⟩, hg, hdst, hw⟩
        · obtain ⟨j', d', ka', ks', p', k', x', a1, a2, a3, a4, a5, a6, a7, a8, a9, a10, a11, a12, a13, a14⟩ := e4 b hb hbm
          refine ⟨j', d', ka', ks', p', k', x', a1, a2, a3, a4, a5, a6, a7, fun es' c' hg' => ?_, ?_, a10, a11, a12, a13, a14⟩
          · by_cases hq : idOf j = idOf j'
            · have := a8 (es ++ [(k.cv ds tm0 tmF i, x.cv ds tm0 tmF i)]) (cc + 1) (by rw [hget, if_pos hq])
              rw [← hq, g2] at hg'; cases hg'
              exact fun e he => this e (List.mem_append_left _ he)
            · exact a8 es' c' (by rw [hget, if_neg hq]; exact hg')
          · by_cases hq : idOf j = idOf j'
            · rw [← hq]; exact ⟨es, cc, g2⟩
            · obtain ⟨es', c', hg'⟩ := a9
              rw [hget, if_neg hq] at hg'; exact ⟨es', c', hg'⟩
      · have hbm : kindAt ds b = .m := by
          rcases hk b (by simp [hb]) with hp | ⟨hm, _⟩
          · rw [mapOf_p hp] at hb2; cases hb2
          · exact hm
        obtain ⟨j', d', ka', ks', p', k', x', a1, a2, a3, a4, a5, a6, a7, a8, _⟩ := e4 b hb hbm
        rw [hj] at ha; cases ha
        rw [a3] at hb2; cases hb2
        rw [hent] at hea; cases hea
        rw [entOf_eq a1 a2] at heb; cases heb
        have := a8 (es ++ [(k.cv ds tm0 tmF i, x.cv ds tm0 tmF i)]) (cc + 1) (by rw [hget, if_pos hid])
        exact this _ (by simp)

/-! ## Lists -/
theorem filter_add {l : List Nat} (hn : l.Nodup) {i : Nat} (hi : i ∈ l) {p q : Nat → Bool} (hp : p i = false) (hq : q i = true) (ho : ∀ k, k ≠ i → q k = p k) : (l.filter q).Perm (l.filter p ++ [i]) := by
  induction l with
  | nil => cases hi
  | cons x l ih =>
    rw [List.nodup_cons] at hn
    rcases List.mem_cons.1 hi with rfl | hi
    · have : l.filter q = l.filter p := List.filter_congr fun k hk => ho k fun e => hn.1 (e ▸ hk)
      rw [List.filter_cons, List.filter_cons, hq, hp, this]
      simp only [if_true, Bool.false_eq_true, if_false]
      exact (List.perm_append_singleton _ _).symm
    · have hx : x ≠ i := fun e => hn.1 (e ▸ hi)
      rw [List.filter_cons, List.filter_cons, ho x hx]
      split
      · exact (ih hn.2 hi).cons x
      · exact ih hn.2 hi

theorem runOk_nodup {fit : Nat → Bool} : ∀ {l : List Nat} {D D' : Nat}, runOk ds fit l D = some D' → l.Nodup
  | [], _, _, _ => List.nodup_nil
  | i :: r, D, D', h => by
    obtain ⟨h1, h2, h3, h4, h5⟩ := runOk_cons h
    rw [List.nodup_cons]
    refine ⟨fun hi => ?_, runOk_nodup h5⟩
    have := ((runOk_bits h5).2 i hi).1
    rw [bit_add] at this; simp at this

end Go.AM

/-
  A region that draws its order: what stands while it is run in any order. Conditions stand at each law.
-/
namespace Go.AM

section
variable (ds : List DOp) (tm0 tmF : Tm) (idOf : Nat → Id) (msL : List Nat)
/-- The entries, of those that are laid, of the map with a number. -/
noncomputable def entE (E : Nat → Bool) (r : Id) : List (AV × AV) := (msL.filter fun k => onMap ds idOf r k && E k).filterMap (entOf ds tm0 tmF)
/-- What a block that waits holds. -/
def PB (E : Nat → Bool) (i : Nat) (B : Blk) : Prop :=
  if isMkm ds i then ∃ es, B = .mp es es.length ∧ es.Perm (entE ds tm0 tmF idOf msL E (idOf i))
  else ∃ f, ∀ tm, Agr ds tm0 tmF i tm → ∀ d o, ds[i]? = some d → d.x = .a o → ∀ k, o.mkK tm k = k B f
end

/-- Is it done? -/
def In (l : Array Bool) (i : Nat) : Bool := l.getD i false

section
variable {P : Program} (nt : Nat) (ops : Array Oper) (ds : List DOp) (tm0 tmF : Tm) (cl : Cl) (yl : Yl) (idOf : Nat → Id) (dsF : List Df) (hF : Hp) (LA : Nat) (msL : List Nat) (ρ0 : Emb) (h0 : Hp) (w0 : World)

/-- What is so all the while. -/
structure Frm (P : Program) : Prop where
  small : nt ≤ 512
  len : ds.length = ops.size
  spec : ∀ (k : Nat) (o : Oper) (d : DOp), ops[k]? = some o → ds[k]? = some d → DSpec P nt ops (ancAt ds) k o d
  slots : slotsOk ds = true
  als : alsOk ds = true
  sf : ∀ i, i < ds.length → ∃ dl h dl1 h1, StepFact ds tm0 tmF cl yl idOf i dl h dl1 h1
  inj : ∀ i j, kindAt ds i = .a → kindAt ds j = .a → i < ds.length → j < ds.length → idOf i = idOf j → i = j
  lo : ∀ i, kindAt ds i = .a → i < ds.length → h0.next.val ≤ (idOf i).val
  LA : ∀ i, i < ds.length → (bit LA i = true ↔ kindAt ds i = .a)
  laid : ∃ hh, ∀ i ∈ msL, kindAt ds i = .m → ∃ j d ka ks p k x, Laid ds tm0 tmF idOf hh i j d ka ks p k x
  away : msL.Pairwise (Away ds tm0 tmF idOf)
  nodup : msL.Nodup
  msAll : ∀ i, i < ds.length → kindAt ds i = .m → i ∈ msL

structure Sim (P : Program) (lvs : List Lv) (D A L R : Nat) (dl : List Df) (h : Hp) (listed : Array Bool) (tm : Tm) (ρ : Emb) (a : Act) (w : World) : Prop where
  lsz : listed.size = ops.size
  ok : lvsOk ds LA lvs D A L R = true
  facts : LvFacts ds tm0 tmF cl yl idOf dsF hF lvs dl h
  size : a.tmps.size = nt
  slots : RelT ρ tm a.tmps
  vals : ∀ p, tm.get p = match wr ds p with | some j => if In listed j then tmF.get p else tm0.get p | none => tm0.get p
  defs : RelDs ρ dl a.defers
  heap : RelH P ρ h w
  step : Step ρ0 h0 w0 ρ h w
  shut : ∀ i j, In listed i = true → bit (ancAt ds i) j = true → In listed j = true
  acts : ∀ i, i < ds.length → kindAt ds i = .e → (In listed i = bit A i ∧ bit D i = bit A i)
  made : ∀ i, i < ds.length → kindAt ds i = .a → bit D i = bit L i ∧ (bit L i = true → In listed i = true)
  read : ∀ i, i < ds.length → kindAt ds i = .r → bit D i = bit R i
  again : ∀ i, bit R i = true → In listed i = false → ChkFact ds tm0 tmF i h
  wait : ∀ i, i < ds.length → kindAt ds i = .a → In listed i = true → bit L i = false → W ds tm0 tmF i = true → ∃ b B, Waits P ρ h w0 w (idOf i) b B ∧ PB ds tm0 tmF idOf msL (In listed) i B
  far : ∀ i k b o o', i < ds.length → k < ds.length → kindAt ds i = .a → kindAt ds k = .a → i ≠ k → bit L i = false → bit L k = false → ρ (idOf i) = some (b, o) → ρ (idOf k) = some (b, o') → False
  free : ∀ i, i < ds.length → kindAt ds i = .a → (In listed i = false ∨ W ds tm0 tmF i = false) → ρ (idOf i) = none
  gone : ∀ i, i < ds.length → kindAt ds i = .a → bit L i = false → h.get (idOf i) = none
  below : ∀ i, i < ds.length → kindAt ds i = .a → (idOf i).val < h.next.val
  last : lvs.flatMap Lv.ms = msL
  mno : ∀ i, kindAt ds i = .m → bit D i = false
end

section
variable {P : Program} {nt : Nat} {ops : Array Oper} {ds : List DOp} {tm0 tmF : Tm} {cl : Cl} {yl : Yl} {idOf : Nat → Id} {dsF : List Df} {hF : Hp} {LA : Nat} {msL : List Nat} {ρ0 : Emb} {h0 : Hp} {w0 : World}
  {lvs : List Lv} {D A L R : Nat} {dl : List Df} {h : Hp} {listed : Array Bool} {tm : Tm} {ρ : Emb} {a : Act} {w : World}

theorem In_set (l : Array Bool) (i j : Nat) (hi : i < l.size) : In (l.setIfInBounds i true) j = (In l j || decide (i = j)) := by
  unfold In
  simp only [Array.getD_eq_getD_getElem?, Array.getElem?_setIfInBounds]
  by_cases e : i = j
  · subst e; simp [hi]
  · simp [e]

/-- An operation that may come up: what lies ahead of it is done. -/
structure Ready (nt : Nat) (ops : Array Oper) (ds : List DOp) (listed : Array Bool) (P : Program) (i : Nat) (o : Oper) (d : DOp) : Prop where
  lt : i < ds.length
  ho : ops[i]? = some o
  hd : ds[i]? = some d
  new : In listed i = false
  anc : ∀ j, bit (ancAt ds i) j = true → In listed j = true
  sp : DSpec P nt ops (ancAt ds) i o d

theorem ready_of (F : Frm nt ops ds tm0 tmF cl yl idOf LA msL h0 P) (S : Sim nt ops ds tm0 tmF cl yl idOf dsF hF LA msL ρ0 h0 w0 P lvs D A L R dl h listed tm ρ a w) {i : Nat} (hi : i ∈ Region.ready .any ops listed) : ∃ o d, Ready nt ops ds listed P i o d := by
  obtain ⟨hun, o, ho, hall⟩ := mem_ready.1 hi
  have hlt : i < ops.size := (Array.getElem?_eq_some_iff.1 ho).1
  have hd : ds[i]? = some (ds[i]'(by rw [F.len]; exact hlt)) := List.getElem?_eq_getElem _
  have hsp := F.spec i o _ ho hd
  refine ⟨o, _, by rw [F.len]; exact hlt, ho, hd, ?_, fun j hj => ?_, hsp⟩
  · have := hun
    unfold In
    simp only [Array.getD_eq_getD_getElem?] at this ⊢
    have hl : i < listed.size := by rw [S.lsz]; exact hlt
    rw [Array.getElem?_eq_getElem hl] at this ⊢
    exact this
  · have hanc : ancAt ds i = (ds[i]'(by rw [F.len]; exact hlt)).anc := by unfold ancAt; rw [hd]; rfl
    rw [hanc] at hj
    obtain ⟨e, he, hb, h2⟩ := hsp.anc j hj
    have hin : In listed e.on = true := by
      have := hall e (by simpa using he) hb
      exact this
    rcases h2 with rfl | h2
    · exact hin
    · exact S.shut _ _ hin h2

theorem Sim.agr (F : Frm nt ops ds tm0 tmF cl yl idOf LA msL h0 P) (S : Sim nt ops ds tm0 tmF cl yl idOf dsF hF LA msL ρ0 h0 w0 P lvs D A L R dl h listed tm ρ a w) {i : Nat} {o : Oper} {d : DOp} (r : Ready nt ops ds listed P i o d) : Agr ds tm0 tmF i tm := fun p hp => by
  rw [S.vals p]
  unfold cval
  cases hw : wr ds p with
  | none => rfl
  | some j =>
    simp only
    by_cases ha : bit (ancAt ds i) j = true
    · rw [if_pos ha, if_pos (r.anc j ha)]
    · rw [if_neg ha]
      rcases slotsOk_at F.slots r.lt hp hw with h1 | ⟨h1, _⟩
      · exact absurd h1 ha
      · have : ¬ In listed j = true := fun hj => by
          have := S.shut j i hj h1
          rw [r.new] at this; cases this
        rw [if_neg this]

theorem wanted_iff (F : Frm nt ops ds tm0 tmF cl yl idOf LA msL h0 P) (S : Sim nt ops ds tm0 tmF cl yl idOf dsF hF LA msL ρ0 h0 w0 P lvs D A L R dl h listed tm ρ a w) {i : Nat} {o : Oper} {d : DOp} (r : Ready nt ops ds listed P i o d) :
    Region.wanted o (yielded ops a.tmps) = W ds tm0 tmF i := by
  have hg := r.sp.guard
  cases hgd : d.guard with
  | none => rw [hgd] at hg; rw [guard_none hg, W_none r.hd hgd]
  | some cw =>
    obtain ⟨c, wt⟩ := cw
    rw [hgd] at hg
    rw [guard_iff hg S.slots, (S.agr F r).guard r.hd hgd]

/-- The slots behind an operation. -/
theorem vals_next (F : Frm nt ops ds tm0 tmF cl yl idOf LA msL h0 P) (S : Sim nt ops ds tm0 tmF cl yl idOf dsF hF LA msL ρ0 h0 w0 P lvs D A L R dl h listed tm ρ a w) {i : Nat} {o : Oper} {d : DOp} (r : Ready nt ops ds listed P i o d) :
    (∀ p, d.dst = some p → ∀ q, (tm.set p (tmF.get p)).get q = match wr ds q with | some j => if In (listed.setIfInBounds i true) j then tmF.get q else tm0.get q | none => tm0.get q) ∧
    (d.dst = none → ∀ q, tm.get q = match wr ds q with | some j => if In (listed.setIfInBounds i true) j then tmF.get q else tm0.get q | none => tm0.get q) := by
  have hi : i < listed.size := by rw [S.lsz, ← F.len]; exact r.lt
  have hother : ∀ q, d.dst ≠ some q → tm.get q = match wr ds q with | some j => if In (listed.setIfInBounds i true) j then tmF.get q else tm0.get q | none => tm0.get q := fun q hq => by
    rw [S.vals q]
    cases hw : wr ds q with
    | none => rfl
    | some j =>
      simp only [In_set _ _ _ hi]
      have hne : i ≠ j := fun e => by
        obtain ⟨d', h1, h2⟩ := wr_some hw
        rw [← e, r.hd] at h1; cases h1; exact hq h2
      simp [hne]
  refine ⟨fun p hp q => ?_, fun hp q => hother q (by rw [hp]; simp)⟩
  rw [T8.get_set]
  by_cases e : p = q
  · subst e
    rw [if_pos rfl, wr_of (slotsOk_distinct F.slots) r.hd hp]
    simp only [In_set _ _ _ hi]; simp
  · rw [if_neg e]; exact hother q (by rw [hp]; simpa using e)

theorem shut_next (F : Frm nt ops ds tm0 tmF cl yl idOf LA msL h0 P) (S : Sim nt ops ds tm0 tmF cl yl idOf dsF hF LA msL ρ0 h0 w0 P lvs D A L R dl h listed tm ρ a w) {i : Nat} {o : Oper} {d : DOp} (r : Ready nt ops ds listed P i o d) (k j : Nat)
    (hk : In (listed.setIfInBounds i true) k = true) (hj : bit (ancAt ds k) j = true) : In (listed.setIfInBounds i true) j = true := by
  have hi : i < listed.size := by rw [S.lsz, ← F.len]; exact r.lt
  rw [In_set _ _ _ hi, Bool.or_eq_true] at hk ⊢
  rcases hk with hk | hk
  · exact .inl (S.shut k j hk hj)
  · have : i = k := by simpa using hk
    subst this; exact .inl (r.anc j hj)

/-- Where an operation that is not done stands among the levels. -/
theorem row_of (hok : lvsOk ds LA lvs D A L R = true) {i : Nat} (hi : i < ds.length) (hD : bit D i = false) : ∃ lv rest, lvs = lv :: rest ∧ (i ∈ lv.pre ∨ i ∈ lv.als ∨ i ∈ lv.ms ∨ (∃ cs, lv.act = some (i, cs)) ∨
    ∃ e cs, lv.act = some (e, cs) ∧ ∃ D2, lvsOk ds LA rest (Nat.lor D2 (Nat.shiftLeft 1 e)) (Nat.lor A (Nat.shiftLeft 1 e)) (newL ds lv L) (newR ds lv R) = true ∧ bit (Nat.lor D2 (Nat.shiftLeft 1 e)) i = false) := by
  cases lvs with
  | nil => cases hok
  | cons lv rest =>
    obtain ⟨D1, D2, ⟨h1, h2⟩, h3⟩ := lvsOk_cons hok
    refine ⟨lv, rest, rfl, ?_⟩
    by_cases hp : i ∈ lv.pre
    · exact .inl hp
    by_cases ha : i ∈ lv.als
    · exact .inr (.inl ha)
    have hD1 : bit D1 i = false := by rw [(runOk_bits h1).1, hD]; simp [hp]
    have hD2 : bit D2 i = false := by rw [(runOk_bits h2).1, hD1]; simp [ha]
    rcases h3 with ⟨_, D3, h4, _, h5⟩ | ⟨e, cs, hact, _, h4⟩
    · have := h5 i hi
      rw [(runOk_bits h4).1, hD2, Bool.false_or] at this
      exact .inr (.inr (.inl (by simpa using this)))
    · by_cases he : e = i
      · subst he; exact .inr (.inr (.inr (.inl ⟨cs, hact⟩)))
      · exact .inr (.inr (.inr (.inr ⟨e, cs, hact, D2, h4, by rw [bit_add, hD2]; simp [he]⟩)))

/-- An operation of a later level: the acts that stand ahead of that level lie ahead of it, if it reads or acts. -/
theorem later_acts : ∀ {lvs : List Lv} {D A L R : Nat}, lvsOk ds LA lvs D A L R = true → ∀ {i : Nat}, i < ds.length → bit D i = false → (kindAt ds i = .r ∨ kindAt ds i = .e) → ∀ j, bit A j = true → bit (ancAt ds i) j = true
  | [], _, _, _, _, h, _, _, _, _, _, _ => by cases h
  | lv :: rest, D, A, L, R, hok, i, hi, hD, hk, j, hj => by
    obtain ⟨D1, D2, ⟨h1, h2⟩, h3⟩ := lvsOk_cons hok
    by_cases hp : i ∈ lv.pre
    · have := ((runOk_bits h1).2 i hp).2.2
      simp only [Bool.or_eq_true, Bool.and_eq_true, beq_iff_eq] at this
      rcases this with h | ⟨⟨_, h⟩, _⟩
      · rcases hk with hk | hk <;> rw [hk] at h <;> cases h
      · exact sub_bit h hj
    by_cases ha : i ∈ lv.als
    · have := ((runOk_bits h2).2 i ha).2.2
      simp only [Bool.or_eq_true, beq_iff_eq] at this
      rcases hk with hk | hk <;> rw [hk] at this <;> rcases this with h | h <;> cases h
    have hD1 : bit D1 i = false := by rw [(runOk_bits h1).1, hD]; simp [hp]
    have hD2 : bit D2 i = false := by rw [(runOk_bits h2).1, hD1]; simp [ha]
    rcases h3 with ⟨_, D3, h4, _, h5⟩ | ⟨e, cs, hact, hok2, h4⟩
    · have := h5 i hi
      rw [(runOk_bits h4).1, hD2, Bool.false_or] at this
      have hm : i ∈ lv.ms := by simpa using this
      have := ((runOk_bits h4).2 i hm).2.2
      simp only [Bool.or_eq_true, Bool.and_eq_true, beq_iff_eq] at this
      rcases hk with hk | hk <;> rw [hk] at this <;> rcases this with h | ⟨h, _⟩ <;> cases h
    · by_cases he : e = i
      · subst he; exact hok2.acts j hj
      · exact later_acts h4 hi (by rw [bit_add, hD2]; simp [he]) hk j (by rw [bit_add, hj]; rfl)

end
end Go.AM

/-
  A region that draws its order: what waits is taken; what an operation that reckons or reads leads to. Conditions stand at each law.
-/
namespace Go.AM

section
variable {P : Program} {nt : Nat} {ops : Array Oper} {ds : List DOp} {tm0 tmF : Tm} {cl : Cl} {yl : Yl} {idOf : Nat → Id} {dsF : List Df} {hF : Hp} {LA : Nat} {msL : List Nat} {ρ0 : Emb} {h0 : Hp} {w0 : World}
  {lvs : List Lv} {D A L R : Nat} {dl : List Df} {h : Hp} {listed : Array Bool} {tm : Tm} {ρ : Emb} {a : Act} {w : World}

def SimE (nt : Nat) (ops : Array Oper) (ds : List DOp) (tm0 tmF : Tm) (cl : Cl) (yl : Yl) (idOf : Nat → Id) (dsF : List Df) (hF : Hp) (LA : Nat) (msL : List Nat) (ρ0 : Emb) (h0 : Hp) (w0 : World) (P : Program) (listed : Array Bool) (a : Act) (w : World) : Prop :=
  ∃ lvs D A L R dl h tm ρ, Sim nt ops ds tm0 tmF cl yl idOf dsF hF LA msL ρ0 h0 w0 P lvs D A L R dl h listed tm ρ a w

theorem onMap_kind {r : Id} {k : Nat} (h : onMap ds idOf r k = true) : kindAt ds k = .m := by
  unfold onMap at h
  split at h
  · rename_i j hj
    unfold mapOf at hj
    split at hj
    · rename_i hx
      unfold kindAt; rw [hx]; rfl
    · cases hj
  · cases h

theorem PB.congr {E E' : Nat → Bool} {i : Nat} {B : Blk} (h : PB ds tm0 tmF idOf msL E i B) (he : ∀ k ∈ msL, onMap ds idOf (idOf i) k = true → E k = E' k) : PB ds tm0 tmF idOf msL E' i B := by
  unfold PB at h ⊢
  split
  · rename_i hm
    rw [if_pos hm] at h
    obtain ⟨es, h1, h2⟩ := h
    refine ⟨es, h1, ?_⟩
    have : entE ds tm0 tmF idOf msL E' (idOf i) = entE ds tm0 tmF idOf msL E (idOf i) := by
      unfold entE
      congr 1
      apply List.filter_congr
      intro k hk
      cases ho : onMap ds idOf (idOf i) k with
      | false => rfl
      | true => rw [he k hk ho]
    rw [this]; exact h2
  · rename_i hm
    rw [if_neg hm] at h; exact h

theorem Ready.sz (F : Frm nt ops ds tm0 tmF cl yl idOf LA msL h0 P) (S : Sim nt ops ds tm0 tmF cl yl idOf dsF hF LA msL ρ0 h0 w0 P lvs D A L R dl h listed tm ρ a w) {i : Nat} {o : Oper} {d : DOp} (r : Ready nt ops ds listed P i o d) : i < listed.size := by
  rw [S.lsz, ← F.len]; exact r.lt

/-- What is seen of an entry's order when another operation is done. -/
theorem PB.next (F : Frm nt ops ds tm0 tmF cl yl idOf LA msL h0 P) (S : Sim nt ops ds tm0 tmF cl yl idOf dsF hF LA msL ρ0 h0 w0 P lvs D A L R dl h listed tm ρ a w) {i : Nat} {o : Oper} {d : DOp} (r : Ready nt ops ds listed P i o d) (hk : kindAt ds i ≠ .m)
    {k : Nat} {B : Blk} (h : PB ds tm0 tmF idOf msL (In listed) k B) : PB ds tm0 tmF idOf msL (In (listed.setIfInBounds i true)) k B :=
  h.congr fun q _ ho => by
    rw [In_set _ _ _ (r.sz F S)]
    have : i ≠ q := fun e => by rw [← e] at ho; exact hk (onMap_kind ho)
    simp [this]

/-- The frame behind an operation. -/
theorem put_next (F : Frm nt ops ds tm0 tmF cl yl idOf LA msL h0 P) (S : Sim nt ops ds tm0 tmF cl yl idOf dsF hF LA msL ρ0 h0 w0 P lvs D A L R dl h listed tm ρ a w) {i : Nat} {o : Oper} {d : DOp} (r : Ready nt ops ds listed P i o d)
    {ρ' : Emb} (hle : ρ.le ρ') {v' : Value} {a1 : Act} (ha : a1.tmps = a.tmps) (hv : ∀ p, d.dst = some p → RelV ρ' (tmF.get p) v') :
    ∃ tm', (a1.put o.dst v').tmps.size = nt ∧ RelT ρ' tm' (a1.put o.dst v').tmps ∧ (a1.put o.dst v').defers = a1.defers ∧
      ∀ q, tm'.get q = match wr ds q with | some j => if In (listed.setIfInBounds i true) j then tmF.get q else tm0.get q | none => tm0.get q := by
  have hs : a1.tmps.size = nt := by rw [ha]; exact S.size
  have ht : RelT ρ' tm a1.tmps := by rw [ha]; exact S.slots.mono hle
  have hd := r.sp.dst
  cases e : d.dst with
  | none =>
    rw [e] at hd
    rw [dst_none hd]
    exact ⟨tm, hs, ht, rfl, (vals_next F S r).2 e⟩
  | some p =>
    rw [e] at hd
    obtain ⟨t, h1, h2, h3, _⟩ := dst_some hd F.small
    rw [h1]
    refine ⟨tm.set p (tmF.get p), by simp [Act.put, hs], ?_, rfl, (vals_next F S r).1 p e⟩
    show RelT ρ' (tm.set p (tmF.get p)) (a1.tmps.setIfInBounds t v')
    subst h3
    exact ht.set (by rw [hs]; exact h2) (hv p e)

theorem Sim.old (S : Sim nt ops ds tm0 tmF cl yl idOf dsF hF LA msL ρ0 h0 w0 P lvs D A L R dl h listed tm ρ a w) {ρ' : Emb} {hc h' : Hp} {w' : World} (hn : hc.next.val = h.next.val) (s : Step ρ hc w ρ' h' w') {i : Nat} (hi : i < ds.length) (hk : kindAt ds i = .a) {x : Nat × Nat}
    (hx : ρ' (idOf i) = some x) : ρ (idOf i) = some x := by
  rcases s.fresh _ _ hx with h1 | h1
  · exact h1
  · have := S.below i hi hk; omega

theorem Sim.old_none (S : Sim nt ops ds tm0 tmF cl yl idOf dsF hF LA msL ρ0 h0 w0 P lvs D A L R dl h listed tm ρ a w) {ρ' : Emb} {hc h' : Hp} {w' : World} (hn : hc.next.val = h.next.val) (s : Step ρ hc w ρ' h' w') {i : Nat} (hi : i < ds.length) (hk : kindAt ds i = .a)
    (hx : ρ (idOf i) = none) : ρ' (idOf i) = none := by
  cases e : ρ' (idOf i) with
  | none => rfl
  | some x => rw [S.old hn s hi hk e] at hx; cases hx

/-- Behind an operation that turns no memory. -/
theorem sim_still (F : Frm nt ops ds tm0 tmF cl yl idOf LA msL h0 P) (S : Sim nt ops ds tm0 tmF cl yl idOf dsF hF LA msL ρ0 h0 w0 P lvs D A L R dl h listed tm ρ a w) {i : Nat} {o : Oper} {d : DOp} (r : Ready nt ops ds listed P i o d)
    (hk : kindAt ds i = .p ∨ kindAt ds i = .r ∨ (kindAt ds i = .a ∧ W ds tm0 tmF i = false)) {v' : Value} {w' : World} {ρ' : Emb} (hv : ∀ p, d.dst = some p → RelV ρ' (tmF.get p) v') (hH : RelH P ρ' h w') (hS : Step ρ h w ρ' h w') :
    SimE nt ops ds tm0 tmF cl yl idOf dsF hF LA msL ρ0 h0 w0 P (listed.setIfInBounds i true) (a.put o.dst v') w' := by
  obtain ⟨tm', s1, s2, s3, s4⟩ := put_next F S r hS.le (a1 := a) rfl hv
  have hin := fun k => In_set listed i k (r.sz F S)
  have hne : kindAt ds i ≠ .e ∧ kindAt ds i ≠ .m := by
    rcases hk with h | h | ⟨h, _⟩ <;> rw [h] <;> exact ⟨(fun e => by cases e), (fun e => by cases e)⟩
  have hup : ∀ k, In listed k = true → In (listed.setIfInBounds i true) k = true := fun k hk => by rw [hin, hk]; rfl
  have hdn : ∀ k, In (listed.setIfInBounds i true) k = false → In listed k = false := fun k hk => by rw [hin, Bool.or_eq_false_iff] at hk; exact hk.1
  refine ⟨lvs, D, A, L, R, dl, h, tm', ρ', ?_⟩
  exact {
    lsz := by simp [S.lsz]
    ok := S.ok
    facts := S.facts
    size := s1
    slots := s2
    vals := s4
    defs := by rw [s3]; exact S.defs.mono hS.le
    heap := hH
    step := S.step.trans hS
    shut := shut_next F S r
    acts := fun k h1 h2 => by
      have : i ≠ k := fun e => hne.1 (by rw [e]; exact h2)
      rw [hin]; simp only [this, decide_false, Bool.or_false]; exact S.acts k h1 h2
    made := fun k h1 h2 => ⟨(S.made k h1 h2).1, fun h3 => hup k ((S.made k h1 h2).2 h3)⟩
    read := S.read
    again := fun k h1 h2 => S.again k h1 (hdn k h2)
    wait := fun k h1 h2 h3 h4 h5 => by
      have h3' : In listed k = true := by
        rw [hin, Bool.or_eq_true] at h3
        rcases h3 with h3 | h3
        · exact h3
        · have e : i = k := by simpa using h3
          subst e
          rcases hk with h | h | ⟨_, h⟩
          · rw [h] at h2; cases h2
          · rw [h] at h2; cases h2
          · rw [h] at h5; cases h5
      obtain ⟨b, B, e1, e2⟩ := S.wait k h1 h2 h3' h4 h5
      exact ⟨b, B, e1.after hS, e2.next F S r hne.2⟩
    far := fun j k b q q' h1 h2 h3 h4 h5 h6 h7 h8 h9 => S.far j k b q q' h1 h2 h3 h4 h5 h6 h7 (S.old rfl hS h1 h3 h8) (S.old rfl hS h2 h4 h9)
    free := fun k h1 h2 h3 => S.old_none rfl hS h1 h2 (S.free k h1 h2 (h3.imp (hdn k) id))
    gone := S.gone
    below := S.below
    last := S.last
    mno := S.mno }

/-- An operation of such a region, and the machine's. -/
theorem draw_cop {o : Oper} {d : DOp} (hx : d.x = drawOp P o) : d.x = .bad ∨ cOp P o = some d.x ∨ ∃ ka ks m k x, d.x = .e (.mnew ka ks m k x) ∧ cOp P o = some (.e (.mup ka ks m k x)) := by
  unfold drawOp at hx
  split at hx
  · split at hx
    · rename_i ka ks m k x h
      rcases opAt_or (P := P) o with h1 | h1
      · rw [h] at h1; exact .inr (.inr ⟨ka, ks, m, k, x, hx, h1⟩)
      · rw [h] at h1; cases h1
    · exact .inl hx
  · rcases opAt_or (P := P) o with h1 | h1
    · rw [← hx] at h1; exact .inr (.inl h1)
    · rw [← hx] at h1; exact .inl h1

theorem cop_of {o : Oper} {d : DOp} (hx : d.x = drawOp P o) (h1 : d.x ≠ .bad) (h2 : clOf d.x ≠ .m) : cOp P o = some d.x := by
  rcases draw_cop hx with h | h | ⟨ka, ks, m, k, x, h, _⟩
  · exact absurd h h1
  · exact h
  · rw [h] at h2; exact absurd rfl h2

theorem case_skip {ro : Option Nat} {Q : Exit → Act → World → Prop} {K : Act → World → Prop} (F : Frm nt ops ds tm0 tmF cl yl idOf LA msL h0 P) (S : Sim nt ops ds tm0 tmF cl yl idOf dsF hF LA msL ρ0 h0 w0 P lvs D A L R dl h listed tm ρ a w) {i : Nat} {o : Oper} {d : DOp} (r : Ready nt ops ds listed P i o d)
    (hk : kindAt ds i = .p ∨ kindAt ds i = .r ∨ kindAt ds i = .a) (hW : W ds tm0 tmF i = false)
    (hK : ∀ a' w', SimE nt ops ds tm0 tmF cl yl idOf dsF hF LA msL ρ0 h0 w0 P (listed.setIfInBounds i true) a' w' → K a' w') : wpOpIn (FW ro) 0 P ops Q i K a w := by
  unfold wpOpIn
  simp only [r.ho]
  rw [wanted_iff F S r, hW]
  simp only [Bool.false_eq_true, if_false]
  refine ⟨about_fw, hK _ _ (sim_still F S r ?_ (fun p hp => ?_) S.heap (Step.refl _ _ _))⟩
  · rcases hk with h | h | h
    · exact .inl h
    · exact .inr (.inl h)
    · exact .inr (.inr ⟨h, hW⟩)
  · obtain ⟨_, _, _, _, d', h1, h2, _⟩ := F.sf i r.lt
    rw [r.hd] at h1; cases h1
    rw [(h2 hW).2.2 p hp]; exact RelV.undef _

theorem case_p {ro : Option Nat} {Q : Exit → Act → World → Prop} {K : Act → World → Prop} (hcl : CallOk P cl) (hyl : YieldOk P yl) (F : Frm nt ops ds tm0 tmF cl yl idOf LA msL h0 P) (S : Sim nt ops ds tm0 tmF cl yl idOf dsF hF LA msL ρ0 h0 w0 P lvs D A L R dl h listed tm ρ a w) {i : Nat} {o : Oper} {d : DOp} (r : Ready nt ops ds listed P i o d)
    (hk : kindAt ds i = .p) (hW : W ds tm0 tmF i = true)
    (hK : ∀ a' w', SimE nt ops ds tm0 tmF cl yl idOf dsF hF LA msL ρ0 h0 w0 P (listed.setIfInBounds i true) a' w' → K a' w') : wpOpIn (FW ro) 0 P ops Q i K a w := by
  unfold wpOpIn
  simp only [r.ho]
  rw [wanted_iff F S r, hW, if_pos rfl]
  have hkd := hk
  rw [kind_a r.hd] at hkd
  cases hx : d.x with
  | bad => rw [hx] at hkd; cases hkd
  | a o => rw [hx] at hkd; cases hkd
  | e o => rw [hx] at hkd; cases o <;> cases hkd
  | r o => rw [hx] at hkd; cases hkd
  | p po =>
    have hc := cop_of r.sp.x (by rw [hx]; intro e; cases e) (by rw [hx]; intro e; cases e)
    rw [hx] at hc
    obtain ⟨_, hh, _, hh1, d', h1, _, h2⟩ := F.sf i r.lt
    rw [r.hd] at h1; cases h1
    have h2 := h2 hW
    rw [hx] at h2
    have hrun : ∃ v, po.run tm = some v ∧ ∀ p, d.dst = some p → tmF.get p = v := by
      rcases h2 with ⟨v, e1, e2, e3⟩ | ⟨e, e1, _, _⟩
      · have e1 := e1 tm (S.agr F r)
        have e1 : toRV (po.run tm) hh = .ok v hh1 := e1
        cases hp : po.run tm <;> rw [hp] at e1 <;> cases e1
        exact ⟨v, rfl, e3⟩
      · have e1 := e1 tm (S.agr F r)
        have e1 : toRV (po.run tm) hh = .dfr e hh1 := e1
        cases hp : po.run tm <;> rw [hp] at e1 <;> cases e1
    obtain ⟨v, e1, e2⟩ := hrun
    refine op_sound (h' := h) (v := v) hcl hyl hc S.slots S.heap (by show toRV (po.run tm) h = _; rw [e1]; rfl) fun v' w' ρ' r1 r2 r3 => hK _ _ (sim_still F S r (.inl hk) (fun p hp => ?_) r2 r3)
    rw [e2 p hp]; exact r1

/-- What a read gives now. -/
theorem read_now (F : Frm nt ops ds tm0 tmF cl yl idOf LA msL h0 P) (S : Sim nt ops ds tm0 tmF cl yl idOf dsF hF LA msL ρ0 h0 w0 P lvs D A L R dl h listed tm ρ a w) {i : Nat} {o : Oper} {d : DOp} (r : Ready nt ops ds listed P i o d)
    (hk : kindAt ds i = .r) (hW : W ds tm0 tmF i = true) : ∃ q p, d.x = .r q ∧ d.dst = some p ∧ q.run tm h = some (tmF.get p) := by
  have hA := S.agr F r
  have ha := S.acts
  have hfin : StepFact ds tm0 tmF cl yl idOf i dl h dl h → ∃ q p, d.x = .r q ∧ d.dst = some p ∧ q.run tm h = some (tmF.get p) := fun s => by
    obtain ⟨d', h1, _, h2⟩ := s
    rw [r.hd] at h1; cases h1
    have h2 := h2 hW
    have hkd := hk
    rw [kind_a r.hd] at hkd
    cases hx : d.x with
    | bad => rw [hx] at hkd; cases hkd
    | a o => rw [hx] at hkd; cases hkd
    | e o => rw [hx] at hkd; cases o <;> cases hkd
    | p o => rw [hx] at hkd; cases hkd
    | r q =>
      rw [hx] at h2
      have hdst : ∃ p, d.dst = some p := by
        have := F.als
        unfold alsOk at this
        rw [List.all_eq_true] at this
        have := this d (List.mem_of_getElem? r.hd)
        rw [hx] at this
        cases hp : d.dst with
        | none => rw [hp] at this; simp [clOf] at this
        | some p => exact ⟨p, rfl⟩
      obtain ⟨p, hp⟩ := hdst
      rcases h2 with ⟨v, e1, e2, e3⟩ | ⟨e, e1, _, _⟩
      · have e1 := e1 tm hA
        have e1 : toRV (q.run tm h) h = .ok v h := e1
        cases hq : q.run tm h <;> rw [hq] at e1 <;> cases e1
        exact ⟨q, p, rfl, hp, by rw [e3 p hp]; exact hq⟩
      · have e1 := e1 tm hA
        have e1 : toRV (q.run tm h) h = .dfr e h := e1
        cases hq : q.run tm h <;> rw [hq] at e1 <;> cases e1
  cases hR : bit R i with
  | true =>
    obtain ⟨d', h1, h2⟩ := S.again i hR r.new
    rw [r.hd] at h1; cases h1
    obtain ⟨q, p, e1, e2, e3⟩ := h2 hW
    exact ⟨q, p, e1, e2, e3 tm hA⟩
  | false =>
    have hD : bit D i = false := by rw [S.read i r.lt hk]; exact hR
    have hok := S.ok
    have hf := S.facts
    cases lvs with
    | nil => cases hok
    | cons lv rest =>
      obtain ⟨D1, D2, ⟨h1, h2⟩, h3⟩ := lvsOk_cons hok
      obtain ⟨dl1, hh1, f1, _⟩ := hf
      by_cases hp : i ∈ lv.pre
      · refine hfin ((f1.still fun j hj => ?_).2.2 i hp)
        have := ((runOk_bits h1).2 j hj).2.2
        simp only [Bool.or_eq_true, Bool.and_eq_true, beq_iff_eq] at this
        exact this.imp id fun h => h.1.1
      exfalso
      have hD1 : bit D1 i = false := by rw [(runOk_bits h1).1, hD]; simp [hp]
      by_cases hal : i ∈ lv.als
      · have := ((runOk_bits h2).2 i hal).2.2
        simp only [Bool.or_eq_true, beq_iff_eq] at this
        rw [hk] at this; rcases this with h | h <;> cases h
      have hD2 : bit D2 i = false := by rw [(runOk_bits h2).1, hD1]; simp [hal]
      rcases h3 with ⟨_, D3, h4, _, h5⟩ | ⟨e, cs, hact, hok2, h4⟩
      · have := h5 i r.lt
        rw [(runOk_bits h4).1, hD2, Bool.false_or] at this
        have hm : i ∈ lv.ms := by simpa using this
        have := ((runOk_bits h4).2 i hm).2.2
        simp only [Bool.or_eq_true, Bool.and_eq_true, beq_iff_eq] at this
        rw [hk] at this; rcases this with h | ⟨h, _⟩ <;> cases h
      · have hne : e ≠ i := fun x => by
          have := hok2.kind
          rw [x, hk] at this; cases this
        have hbit : bit (ancAt ds i) e = true := later_acts h4 r.lt (by rw [bit_add, hD2]; simp [hne]) (.inl hk) e (by rw [bit_add]; simp)
        have h6 := r.anc e hbit
        obtain ⟨h7, h8⟩ := ha e hok2.lt hok2.kind
        rw [h7, ← h8] at h6
        have := hok2.new
        rw [(runOk_bits h2).1, (runOk_bits h1).1, h6] at this
        cases this

theorem case_r {ro : Option Nat} {Q : Exit → Act → World → Prop} {K : Act → World → Prop} (hcl : CallOk P cl) (hyl : YieldOk P yl) (F : Frm nt ops ds tm0 tmF cl yl idOf LA msL h0 P) (S : Sim nt ops ds tm0 tmF cl yl idOf dsF hF LA msL ρ0 h0 w0 P lvs D A L R dl h listed tm ρ a w) {i : Nat} {o : Oper} {d : DOp} (r : Ready nt ops ds listed P i o d)
    (hk : kindAt ds i = .r) (hW : W ds tm0 tmF i = true)
    (hK : ∀ a' w', SimE nt ops ds tm0 tmF cl yl idOf dsF hF LA msL ρ0 h0 w0 P (listed.setIfInBounds i true) a' w' → K a' w') : wpOpIn (FW ro) 0 P ops Q i K a w := by
  unfold wpOpIn
  simp only [r.ho]
  rw [wanted_iff F S r, hW, if_pos rfl]
  obtain ⟨q, p, hx, hp, e1⟩ := read_now F S r hk hW
  have hc := cop_of r.sp.x (by rw [hx]; intro e; cases e) (by rw [hx]; intro e; cases e)
  rw [hx] at hc
  refine op_sound (h' := h) (v := tmF.get p) hcl hyl hc S.slots S.heap (by show toRV (q.run tm h) h = _; rw [e1]; rfl) fun v' w' ρ' r1 r2 r3 => hK _ _ (sim_still F S r (.inr (.inl hk)) (fun p' hp' => ?_) r2 r3)
  rw [hp] at hp'; cases hp'; exact r1

end
end Go.AM

/-
  A region that draws its order: what makes a block, what lays an entry. Conditions stand at each law.
-/
namespace Go.AM

section
variable {P : Program} {nt : Nat} {ops : Array Oper} {ds : List DOp} {tm0 tmF : Tm} {cl : Cl} {yl : Yl} {idOf : Nat → Id} {dsF : List Df} {hF : Hp} {LA : Nat} {msL : List Nat} {ρ0 : Emb} {h0 : Hp} {w0 : World}
  {lvs : List Lv} {D A L R : Nat} {dl : List Df} {h : Hp} {listed : Array Bool} {tm : Tm} {ρ : Emb} {a : Act} {w : World}

theorem mk_same {m1 m2 : MK → RV} {B B' : Blk} {f f' : Id → AV} (h1 : ∀ k, m1 k = k B f) (h2 : ∀ k, m2 k = k B' f') (he : ∀ k, m1 k = m2 k) : B = B' ∧ ∀ r, f r = f' r := by
  have hk : ∀ k : MK, k B f = k B' f' := fun k => (h1 k).symm.trans ((he k).trans (h2 k))
  refine ⟨?_, fun r => ?_⟩
  · have this := hk fun B _ => .ok (.t []) ⟨.z, .n (some B) .e .e .e .e⟩
    have this : RV.ok (.t []) ⟨.z, .n (some B) .e .e .e .e⟩ = RV.ok (.t []) ⟨.z, .n (some B') .e .e .e .e⟩ := this
    injection this with _ this
    injection this with _ this
    injection this with this
    injection this
  · have this := hk fun _ f => .ok (f r) ⟨.z, .e⟩
    have this : RV.ok (f r) ⟨.z, .e⟩ = RV.ok (f' r) ⟨.z, .e⟩ := this
    injection this

theorem isMkm_iff {i : Nat} {d : DOp} (hd : ds[i]? = some d) : isMkm ds i = true ↔ d.x = .a .mkm := by
  unfold isMkm
  rw [hd]
  simp only [Option.map_some]
  split
  · rename_i h; exact ⟨fun _ => by simpa using h, fun _ => rfl⟩
  · rename_i h; exact ⟨(fun x => by cases x), fun x => by rw [x] at h; exact absurd rfl h⟩

/-- The map of an entry is made behind all that was made ahead of the last level. -/
theorem ms_last : ∀ {lvs : List Lv} {D A L R : Nat}, lvsOk ds LA lvs D A L R = true → ∀ {i j : Nat}, i ∈ lvs.flatMap Lv.ms → mapOf ds i = some j → bit L j = false ∧ ∀ lv rest e, lvs = lv :: rest → lv.act = some e → kindAt ds j = .a → j ∉ lv.als
  | [], _, _, _, _, h, _, _, _, _ => by cases h
  | lv :: rest, D, A, L, R, hok, i, j, hi, hj => by
    obtain ⟨D1, D2, ⟨h1, h2⟩, h3⟩ := lvsOk_cons hok
    rcases h3 with ⟨hna, D3, h4, rfl, h5⟩ | ⟨e, cs, hact, hok2, h4⟩
    · simp only [List.flatMap_cons, List.flatMap_nil, List.append_nil] at hi
      have := ((runOk_bits h4).2 i hi).2.2
      simp only [Bool.or_eq_true, Bool.and_eq_true, beq_iff_eq] at this
      rcases this with h | ⟨_, h⟩
      · rw [mapOf_p h] at hj; cases hj
      · obtain ⟨d, j', ka, ks, p, k, x, _, hj', _, _, _, _, hL, _⟩ := mapOk_spec h
        rw [hj] at hj'; cases hj'
        exact ⟨hL, fun lv' rest' e he ha => by cases he; rw [hna] at ha; cases ha⟩
    · simp only [List.flatMap_cons] at hi
      rw [hok2.ms, List.nil_append] at hi
      have ih := (ms_last h4 hi hj).1
      unfold newL at ih
      rw [bit_lor, bit_mask, Bool.or_eq_false_iff] at ih
      refine ⟨ih.1, fun lv' rest' e' he _ hk hm => ?_⟩
      cases he
      have : j ∈ lv.als.filter fun i => kindAt ds i == .a := by rw [List.mem_filter]; exact ⟨hm, by rw [hk]; rfl⟩
      have h6 := ih.2
      simp [this] at h6

theorem case_a {ro : Option Nat} {Q : Exit → Act → World → Prop} {K : Act → World → Prop} (F : Frm nt ops ds tm0 tmF cl yl idOf LA msL h0 P) (S : Sim nt ops ds tm0 tmF cl yl idOf dsF hF LA msL ρ0 h0 w0 P lvs D A L R dl h listed tm ρ a w) {i : Nat} {o : Oper} {d : DOp} (r : Ready nt ops ds listed P i o d)
    (hk : kindAt ds i = .a) (hW : W ds tm0 tmF i = true)
    (hK : ∀ a' w', SimE nt ops ds tm0 tmF cl yl idOf dsF hF LA msL ρ0 h0 w0 P (listed.setIfInBounds i true) a' w' → K a' w') : wpOpIn (FW ro) 0 P ops Q i K a w := by
  unfold wpOpIn
  simp only [r.ho]
  rw [wanted_iff F S r, hW, if_pos rfl]
  obtain ⟨hda, ao, p, hx, hp⟩ := isA_of F.als r.hd hk
  have hc := cop_of r.sp.x (by rw [hx]; intro e; cases e) (by rw [hx]; intro e; cases e)
  rw [hx] at hc
  obtain ⟨_, _, _, _, d', h1, _, h2⟩ := F.sf i r.lt
  rw [r.hd] at h1; cases h1
  have h2 := h2 hW
  rw [hx] at h2
  obtain ⟨p', B, f, e1, e2, e3, _, _⟩ := h2
  rw [hp] at e1; cases e1
  have hA := S.agr F r
  rcases aop_sound w hc S.slots with hno | ⟨B', f', s, m1, m2, m3⟩
  · exfalso
    have := e2 tm hA fun _ _ => .ok (.t []) h
    rw [hno] at this; cases this
  · obtain ⟨rfl, hf⟩ := mk_same (e2 tm hA) m1 fun _ => rfl
    have hLf : bit L i = false := by
      cases hL : bit L i with
      | false => rfl
      | true => have := (S.made i r.lt hk).2 hL; rw [r.new] at this; cases this
    have hnd := run_noDefer (cl := cl) (yl := yl) (h := h) (h' := h.new B) (v := f' h.next) hc (by show ao.mkK tm _ = _; rw [m1, Hp.newK_eq])
    obtain ⟨v', w', ρ', g1, g2, g3, g4, g5, g6, g7, g8⟩ := m3.wait S.heap S.step (S.free i r.lt hk (.inl r.new)) (S.below i r.lt hk) (F.lo i hk r.lt) (S.gone i r.lt hk hLf)
    refine ⟨about_fw, ?_⟩
    rw [Oper.semAt_eq _ _ _ hnd, m2]
    have hrun : (do pure (Next.value (← s)) : Sem Next).run P w = .ok (.value v') w' := by simp [g1]
    rw [hrun]
    refine hK _ _ ?_
    have hv : ∀ q, d.dst = some q → RelV ρ' (tmF.get q) v' := fun q hq => by
      rw [hp] at hq; cases hq
      rw [e3, hf]; exact g2
    obtain ⟨tm', s1, s2, s3, s4⟩ := put_next F S r g5 (a1 := a) rfl hv
    have hin := fun k => In_set listed i k (r.sz F S)
    have hup : ∀ k, In listed k = true → In (listed.setIfInBounds i true) k = true := fun k hk => by rw [hin, hk]; rfl
    have hdn : ∀ k, In (listed.setIfInBounds i true) k = false → In listed k = false ∧ i ≠ k := fun k hk => by
      rw [hin, Bool.or_eq_false_iff] at hk; exact ⟨hk.1, fun e => by rw [e] at hk; simp at hk⟩
    have hne : kindAt ds i ≠ .m := by rw [hk]; intro e; cases e
    have hsame : ∀ k, k < ds.length → kindAt ds k = .a → k ≠ i → ρ' (idOf k) = ρ (idOf k) := fun k h1 h2 h3 => g7 _ fun e => h3 (F.inj k i h2 hk h1 r.lt e)
    have hnew : ∀ k b q, k < ds.length → kindAt ds k = .a → k ≠ i → bit L k = false → ρ (idOf k) = some (b, q) → b < w.heap.size := fun k b q h1 h2 h3 h4 h5 => by
      cases hl : In listed k with
      | false => rw [S.free k h1 h2 (.inl hl)] at h5; cases h5
      | true =>
        cases hw : W ds tm0 tmF k with
        | false => rw [S.free k h1 h2 (.inr hw)] at h5; cases h5
        | true =>
          obtain ⟨b', B', e1, _⟩ := S.wait k h1 h2 hl h4 hw
          have := e1.at_
          rw [h5] at this; cases this; exact e1.hi
    refine ⟨lvs, D, A, L, R, dl, h, tm', ρ', ?_⟩
    exact {
      lsz := by simp [S.lsz]
      ok := S.ok
      facts := S.facts
      size := s1
      slots := s2
      vals := s4
      defs := by rw [s3]; exact S.defs.mono g5
      heap := g3
      step := g4
      shut := shut_next F S r
      acts := fun k h1 h2 => by
        have : i ≠ k := fun e => by rw [e, h2] at hk; cases hk
        rw [hin]; simp only [this, decide_false, Bool.or_false]; exact S.acts k h1 h2
      made := fun k h1 h2 => ⟨(S.made k h1 h2).1, fun h3 => hup k ((S.made k h1 h2).2 h3)⟩
      read := S.read
      again := fun k h1 h2 => S.again k h1 (hdn k h2).1
      wait := fun k h1 h2 h3 h4 h5 => by
        by_cases hki : k = i
        · subst hki
          refine ⟨w.heap.size, B, g6, ?_⟩
          unfold PB
          split
          · rename_i hm
            have hmk := (isMkm_iff r.hd).1 hm
            rw [hx] at hmk; cases hmk
            have hB : B = .mp [] 0 := (mk_same (fun k => rfl) (e2 tm hA) (m1 := fun k => AOp.mkm.mkK tm k) fun _ => rfl).1.symm
            refine ⟨[], hB, ?_⟩
            have : entE ds tm0 tmF idOf msL (In (listed.setIfInBounds k true)) (idOf k) = [] := by
              unfold entE
              have : msL.filter (fun q => onMap ds idOf (idOf k) q && In (listed.setIfInBounds k true) q) = [] := by
                rw [List.filter_eq_nil_iff]
                intro q hq hqq
                rw [Bool.and_eq_true] at hqq
                obtain ⟨hh, hlaid⟩ := F.laid
                obtain ⟨j, d2, ka, ks, p2, k2, x2, hl⟩ := hlaid q hq (onMap_kind hqq.1)
                have hon := hqq.1
                unfold onMap at hon
                rw [hl.map] at hon
                have hid : idOf j = idOf k := by simpa using hon
                have hqi : In (listed.setIfInBounds k true) q = true := hqq.2
                rw [hin] at hqi
                have hkq : k ≠ q := fun e => by rw [e] at hk; rw [onMap_kind hqq.1] at hk; cases hk
                have hqi : In listed q = true := by simpa [hkq] using hqi
                obtain ⟨c, hc1, _, hc3⟩ := hl.mkm
                have hjk : j = k := F.inj j k (by rw [kind_a hc1, hc3]; rfl) hk (List.getElem?_eq_some_iff.1 hc1).1 r.lt hid
                have := S.shut q j hqi hl.anc
                rw [hjk, r.new] at this; cases this
              rw [this]; rfl
            rw [this]
          · rename_i hm
            exact ⟨f, fun tm'' hA'' d2 o2 hd2 hx2 k2 => by
              rw [r.hd] at hd2; cases hd2
              rw [hx] at hx2; cases hx2
              exact e2 tm'' hA'' k2⟩
        · have h3' : In listed k = true := by
            rw [hin] at h3; simpa [Ne.symm hki] using h3
          obtain ⟨b, B', e1, e2⟩ := S.wait k h1 h2 h3' h4 h5
          exact ⟨b, B', g8 _ _ _ (fun e => hki (F.inj k i h2 hk h1 r.lt e)) e1, e2.next F S r hne⟩
      far := fun j k b q q' j1 j2 h3 h4 h5 h6 h7 h8 h9 => by
        by_cases hji : j = i
        · subst hji
          rw [g6.at_] at h8; cases h8
          rw [hsame k j2 h4 (Ne.symm h5)] at h9
          have := hnew k _ _ j2 h4 (Ne.symm h5) h7 h9
          omega
        · by_cases hki : k = i
          · subst hki
            rw [g6.at_] at h9; cases h9
            rw [hsame j j1 h3 hji] at h8
            have := hnew j _ _ j1 h3 hji h6 h8
            omega
          · rw [hsame j j1 h3 hji] at h8
            rw [hsame k j2 h4 hki] at h9
            exact S.far j k b q q' j1 j2 h3 h4 h5 h6 h7 h8 h9
      free := fun k h1 h2 h3 => by
        have hki : k ≠ i := fun e => by
          subst e
          rcases h3 with h3 | h3
          · exact (hdn k h3).2 rfl
          · rw [hW] at h3; cases h3
        rw [hsame k h1 h2 hki]
        exact S.free k h1 h2 (h3.imp (fun h => (hdn k h).1) id)
      gone := S.gone
      below := S.below
      last := S.last
      mno := S.mno }

end
end Go.AM

/-
  A region that draws its order: the acts. Conditions stand at each law.
-/
namespace Go.AM

section
variable {P : Program} {nt : Nat} {ops : Array Oper} {ds : List DOp} {tm0 tmF : Tm} {cl : Cl} {yl : Yl} {idOf : Nat → Id} {dsF : List Df} {hF : Hp} {LA : Nat} {msL : List Nat} {ρ0 : Emb} {h0 : Hp} {w0 : World}
  {lvs : List Lv} {D A L R : Nat} {dl : List Df} {h : Hp} {listed : Array Bool} {tm : Tm} {ρ : Emb} {a : Act} {w : World}

/-- A level's blocks, as they stand and as they are told. -/
structure HSim (ds : List DOp) (tm0 tmF : Tm) (idOf : Nat → Id) (msL : List Nat) (E : Nat → Bool) (M : List Nat) (hc ha : Hp) : Prop where
  next : hc.next = ha.next
  map : ∀ i, i ∈ M → kindAt ds i = .a → isMkm ds i = true → W ds tm0 tmF i = true → ∃ es, hc.get (idOf i) = some (.mp es es.length) ∧ ha.get (idOf i) = some (.mp [] 0) ∧ es.Perm (entE ds tm0 tmF idOf msL E (idOf i))
  oth : ∀ r, (∀ i, i ∈ M → kindAt ds i = .a → isMkm ds i = true → W ds tm0 tmF i = true → r ≠ idOf i) → hc.get r = ha.get r

theorem take_all (F : Frm nt ops ds tm0 tmF cl yl idOf LA msL h0 P) {E : Nat → Bool} : ∀ (l pre : List Nat) {hc ha h2 : Hp} {dl dl2 : List Df}, (∀ i ∈ l, i < ds.length ∧ (kindAt ds i = .p ∨ kindAt ds i = .a)) → l.Nodup → (∀ i ∈ l, i ∉ pre) → (∀ i ∈ pre, i < ds.length) →
    RunFacts ds tm0 tmF cl yl idOf l dl ha dl2 h2 → RelH P ρ hc w → Step ρ0 h0 w0 ρ hc w → HSim ds tm0 tmF idOf msL E pre hc ha →
    (∀ i ∈ l, kindAt ds i = .a → W ds tm0 tmF i = true → ∃ b B, Waits P ρ hc w0 w (idOf i) b B ∧ PB ds tm0 tmF idOf msL E i B) → (∀ i ∈ l, kindAt ds i = .a → hc.get (idOf i) = none) →
    (∀ i k b o o', i ∈ l → k ∈ l → kindAt ds i = .a → kindAt ds k = .a → i ≠ k → ρ (idOf i) = some (b, o) → ρ (idOf k) = some (b, o') → False) →
    ∃ hc2, RelH P ρ hc2 w ∧ Step ρ0 h0 w0 ρ hc2 w ∧ HSim ds tm0 tmF idOf msL E (pre ++ l) hc2 h2 ∧ dl2 = dl ∧ hc2.next = hc.next ∧ (∀ r, (∀ i ∈ l, kindAt ds i = .a → r ≠ idOf i) → hc2.get r = hc.get r) ∧
      ∀ b', Dom ρ hc2 b' → Dom ρ hc b' ∨ ∃ i ∈ l, kindAt ds i = .a ∧ ρ (idOf i) = some (b', 0)
  | [], pre, hc, ha, h2, dl, dl2, _, _, _, _, hr, H, S, hs, _, _, _ => by
    obtain ⟨rfl, rfl⟩ := hr
    exact ⟨hc, H, S, by rw [List.append_nil]; exact hs, rfl, rfl, fun _ _ => rfl, fun _ hd => .inl hd⟩
  | i :: r, pre, hc, ha, h2, dl, dl2, hk, hn, hnp, hpl, hr, H, S, hs, hw, hg, hf => by
    obtain ⟨dl1, h1, s, hr⟩ := hr
    rw [List.nodup_cons] at hn
    have happ : pre ++ i :: r = (pre ++ [i]) ++ r := by simp
    have hk' : ∀ j ∈ r, j < ds.length ∧ (kindAt ds j = .p ∨ kindAt ds j = .a) := fun j hj => hk j (by simp [hj])
    have hnp' : ∀ j ∈ r, j ∉ pre ++ [i] := fun j hj hm => by
      rcases List.mem_append.1 hm with hm | hm
      · exact hnp j (by simp [hj]) hm
      · simp at hm; exact hn.1 (hm ▸ hj)
    have hpl' : ∀ j ∈ pre ++ [i], j < ds.length := fun j hj => by
      rcases List.mem_append.1 hj with hj | hj
      · exact hpl j hj
      · simp at hj; rw [hj]; exact (hk i (by simp)).1
    have hil := (hk i (by simp)).1
    -- nothing is made
    have quiet : (kindAt ds i = .a → W ds tm0 tmF i = false) → dl1 = dl → h1 = ha → ∃ hc2, RelH P ρ hc2 w ∧ Step ρ0 h0 w0 ρ hc2 w ∧ HSim ds tm0 tmF idOf msL E (pre ++ i :: r) hc2 h2 ∧ dl2 = dl ∧ hc2.next = hc.next ∧ (∀ q, (∀ j ∈ i :: r, kindAt ds j = .a → q ≠ idOf j) → hc2.get q = hc.get q) ∧
      ∀ b', Dom ρ hc2 b' → Dom ρ hc b' ∨ ∃ j ∈ i :: r, kindAt ds j = .a ∧ ρ (idOf j) = some (b', 0) := fun hq e1 e2 => by
      subst e1 e2
      have hs' : HSim ds tm0 tmF idOf msL E (pre ++ [i]) hc h1 := by
        refine ⟨hs.next, fun j hj h3 h4 h5 => ?_, fun q hq' => hs.oth q fun j hj => hq' j (by simp [hj])⟩
        rcases List.mem_append.1 hj with hj | hj
        · exact hs.map j hj h3 h4 h5
        · simp at hj
          rw [hj] at h3 h5; rw [hq h3] at h5; cases h5
      obtain ⟨hc2, c1, c2, c3, c4, c5, c6, c7⟩ := take_all F r (pre ++ [i]) hk' hn.2 hnp' hpl' hr H S hs' (fun j hj => hw j (by simp [hj])) (fun j hj => hg j (by simp [hj])) fun j k b o o' hj hk => hf j k b o o' (by simp [hj]) (by simp [hk])
      exact ⟨hc2, c1, c2, by rw [happ]; exact c3, c4, c5, fun q hq => c6 q fun j hj => hq j (by simp [hj]), fun b' hb => (c7 b' hb).imp id fun ⟨j, h3, h4⟩ => ⟨j, by simp [h3], h4⟩⟩
    rcases (hk i (by simp)).2 with hp | ha'
    · obtain ⟨e1, e2⟩ := s.still (.inl hp)
      exact quiet (fun h => by rw [hp] at h; cases h) e1 e2
    · obtain ⟨d, hd, s0, s1⟩ := s
      cases hW : W ds tm0 tmF i with
      | false => exact quiet (fun _ => hW) (s0 hW).1 (s0 hW).2.1
      | true =>
        have s1 := s1 hW
        obtain ⟨_, ao, p, hx, hdst⟩ := isA_of F.als hd ha'
        rw [hx] at s1
        obtain ⟨q, B, f, f1, f2, f3, f4, f5⟩ := s1
        obtain ⟨b, B', w1, w2⟩ := hw i (by simp) ha' hW
        have hgi := hg i (by simp) ha'
        obtain ⟨t1, t2, t3⟩ := w1.take H S hgi
        have hne : ∀ j, j ∈ r → kindAt ds j = .a → idOf i ≠ idOf j := fun j hj hja e => hn.1 (by rw [F.inj i j ha' hja hil (hk' j hj).1 e]; exact hj)
        have hs' : HSim ds tm0 tmF idOf msL E (pre ++ [i]) (hc.set (idOf i) (some B')) h1 := by
          refine ⟨by rw [f5]; exact hs.next, fun j hj h3 h4 h5 => ?_, fun q hq => ?_⟩
          · rcases List.mem_append.1 hj with hj | hj
            · have hji : idOf i ≠ idOf j := fun e => by
                have := F.inj i j ha' h3 hil (hpl j hj) e
                exact hnp i (by simp) (this ▸ hj)
              rw [Hp.get_set, if_neg hji, f5, Hp.get_set, if_neg hji]
              exact hs.map j hj h3 h4 h5
            · simp at hj; subst hj
              unfold PB at w2
              rw [if_pos h4] at w2
              obtain ⟨es, g1, g2⟩ := w2
              have hB : Blk.mp [] 0 = B := by
                have hmk := (isMkm_iff hd).1 h4
                rw [hx] at hmk; cases hmk
                exact (mk_same (m1 := fun k => AOp.mkm.mkK (tmC ds tm0 tmF j) k) (fun k => rfl) (f2 _ (tmC_agr j)) fun _ => rfl).1
              refine ⟨es, by rw [Hp.get_set, if_pos rfl, g1], by rw [f5, Hp.get_set, if_pos rfl, hB], g2⟩
          · by_cases e : idOf i = q
            · subst e
              rw [Hp.get_set, if_pos rfl, f5, Hp.get_set, if_pos rfl]
              have hnm : isMkm ds i ≠ true := fun hm => hq i (by simp) ha' hm hW rfl
              unfold PB at w2
              rw [if_neg hnm] at w2
              obtain ⟨f', w2⟩ := w2
              rw [(mk_same (w2 _ (tmC_agr i) d ao hd hx) (f2 _ (tmC_agr i)) fun _ => rfl).1]
            · rw [Hp.get_set, if_neg e, f5, Hp.get_set, if_neg e]
              exact hs.oth q fun j hj => hq j (by simp [hj])
        obtain ⟨hc2, c1, c2, c3, c4, c5, c6, c7⟩ := take_all F r (pre ++ [i]) hk' hn.2 hnp' hpl' hr t1 t2 hs' (fun j hj hja hjW => by
            obtain ⟨bj, Bj, v1, v2⟩ := hw j (by simp [hj]) hja hjW
            refine ⟨bj, Bj, ⟨v1.at_, v1.lo, v1.hi, fun hd => ?_, v1.wr, v1.rel⟩, v2⟩
            rcases t3 _ hd with e | hd
            · subst e
              exact hf i j _ _ _ (by simp) (by simp [hj]) ha' hja (fun e => hn.1 (e ▸ hj)) w1.at_ v1.at_
            · exact v1.out hd) (fun j hj hja => by rw [Hp.get_set, if_neg (hne j hj hja)]; exact hg j (by simp [hj]) hja) fun j k b o o' hj hk => hf j k b o o' (by simp [hj]) (by simp [hk])
        refine ⟨hc2, c1, c2, by rw [happ]; exact c3, c4.trans f4, c5, fun q hq => ?_, fun b' hb => ?_⟩
        · rw [c6 q fun j hj => hq j (by simp [hj]), Hp.get_set, if_neg fun e => hq i (by simp) ha' e.symm]
        · rcases c7 b' hb with hb | ⟨j, h3, h4⟩
          · rcases t3 _ hb with rfl | hb
            · exact .inr ⟨i, by simp, ha', w1.at_⟩
            · exact .inl hb
          · exact .inr ⟨j, by simp [h3], h4⟩

theorem entE_nil {E : Nat → Bool} {r : Id} (h : ∀ k ∈ msL, onMap ds idOf r k = true → E k = false) : entE ds tm0 tmF idOf msL E r = [] := by
  unfold entE
  have : msL.filter (fun q => onMap ds idOf r q && E q) = [] := by
    rw [List.filter_eq_nil_iff]
    intro q hq hqq
    rw [Bool.and_eq_true] at hqq
    rw [h q hq hqq.1] at hqq; cases hqq.2
  rw [this]; rfl

/-- What is taken ahead of an act. -/
theorem Sim.taken (F : Frm nt ops ds tm0 tmF cl yl idOf LA msL h0 P) (S : Sim nt ops ds tm0 tmF cl yl idOf dsF hF LA msL ρ0 h0 w0 P lvs D A L R dl h listed tm ρ a w) {lv : Lv} {rest : List Lv} (hl : lvs = lv :: rest) {D1 D2 : Nat} (hlv : LvOk ds LA lv D A L R D1 D2)
    (hin : ∀ i ∈ lv.als, kindAt ds i = .a → In listed i = true) {dl2 : List Df} {h2 : Hp} (hr : RunFacts ds tm0 tmF cl yl idOf lv.als dl h dl2 h2) :
    ∃ hc2, RelH P ρ hc2 w ∧ Step ρ0 h0 w0 ρ hc2 w ∧ HSim ds tm0 tmF idOf msL (In listed) lv.als hc2 h2 ∧ dl2 = dl ∧ hc2.next = h.next ∧ (∀ r, (∀ i ∈ lv.als, kindAt ds i = .a → r ≠ idOf i) → hc2.get r = h.get r) ∧
      (∀ b', Dom ρ hc2 b' → Dom ρ h b' ∨ ∃ i ∈ lv.als, kindAt ds i = .a ∧ ρ (idOf i) = some (b', 0)) ∧ ∀ i ∈ lv.als, i < ds.length ∧ (kindAt ds i = .a → bit L i = false) := by
  have hb := runOk_bits hlv.als
  have hal : ∀ i ∈ lv.als, i < ds.length ∧ (kindAt ds i = .p ∨ kindAt ds i = .a) := fun i hi => by
    have := hb.2 i hi
    refine ⟨this.2.1, ?_⟩
    have := this.2.2
    simpa only [Bool.or_eq_true, beq_iff_eq] using this
  have hL : ∀ i ∈ lv.als, kindAt ds i = .a → bit L i = false := fun i hi hk => by
    have h1 := (hb.2 i hi).1
    rw [(runOk_bits hlv.pre).1, Bool.or_eq_false_iff] at h1
    rw [← (S.made i (hal i hi).1 hk).1]; exact h1.1
  obtain ⟨hc2, c1, c2, c3, c4, c5, c6, c7⟩ := take_all (E := In listed) (ρ0 := ρ0) (w0 := w0) (w := w) (ρ := ρ) F lv.als [] (hc := h) hal (runOk_nodup hlv.als) (fun i _ h => by cases h) (fun i h => by cases h) hr S.heap S.step
    ⟨rfl, (fun i hi => by cases hi), fun _ _ => rfl⟩ (fun i hi hk hW => S.wait i (hal i hi).1 hk (hin i hi hk) (hL i hi hk) hW) (fun i hi hk => S.gone i (hal i hi).1 hk (hL i hi hk))
    fun i k b o o' hi hk h3 h4 h5 => S.far i k b o o' (hal i hi).1 (hal k hk).1 h3 h4 h5 (hL i hi h3) (hL k hk h4)
  exact ⟨hc2, c1, c2, by simpa using c3, c4, c5, c6, c7, fun i hi => ⟨(hal i hi).1, hL i hi⟩⟩

theorem case_e {ro : Option Nat} {Q : Exit → Act → World → Prop} {K : Act → World → Prop} (hcl : CallOk P cl) (hyl : YieldOk P yl) (F : Frm nt ops ds tm0 tmF cl yl idOf LA msL h0 P) (hro : ro.isSome = true → dsF = []) (S : Sim nt ops ds tm0 tmF cl yl idOf dsF hF LA msL ρ0 h0 w0 P lvs D A L R dl h listed tm ρ a w) {i : Nat} {o : Oper} {d : DOp} (r : Ready nt ops ds listed P i o d)
    (hk : kindAt ds i = .e)
    (hK : ∀ a' w', SimE nt ops ds tm0 tmF cl yl idOf dsF hF LA msL ρ0 h0 w0 P (listed.setIfInBounds i true) a' w' → K a' w') : wpOpIn (FW ro) 0 P ops Q i K a w := by
  have hin := fun k => In_set listed i k (r.sz F S)
  have hDi : bit D i = false := by rw [(S.acts i r.lt hk).2, ← (S.acts i r.lt hk).1]; exact r.new
  have hok := S.ok
  have hf := S.facts
  have hlast := S.last
  cases hlv : lvs with
  | nil => rw [hlv] at hok; cases hok
  | cons lv rest =>
  rw [hlv] at hok hf
  obtain ⟨D1, D2, hl, h3⟩ := lvsOk_cons hok
  have b1 := runOk_bits hl.pre
  have b2 := runOk_bits hl.als
  have hkp : ∀ k ∈ lv.pre, kindAt ds k = .p ∨ kindAt ds k = .r := fun k hk => by
    have := (b1.2 k hk).2.2
    simp only [Bool.or_eq_true, Bool.and_eq_true, beq_iff_eq] at this
    exact this.imp id fun h => h.1.1
  have hka : ∀ k ∈ lv.als, kindAt ds k = .p ∨ kindAt ds k = .a := fun k hk => by
    have := (b2.2 k hk).2.2
    simpa only [Bool.or_eq_true, beq_iff_eq] using this
  have nip : i ∉ lv.pre := fun hm => by rcases hkp i hm with h | h <;> rw [hk] at h <;> cases h
  have nia : i ∉ lv.als := fun hm => by rcases hka i hm with h | h <;> rw [hk] at h <;> cases h
  have hD2i : bit D2 i = false := by rw [b2.1, b1.1, hDi]; simp [nip, nia]
  rcases h3 with ⟨_, D3, h4, _, h5⟩ | ⟨e, cs, hact, hok2, h4⟩
  · exfalso
    have := h5 i r.lt
    rw [(runOk_bits h4).1, hD2i, Bool.false_or] at this
    have hm : i ∈ lv.ms := by simpa using this
    have := ((runOk_bits h4).2 i hm).2.2
    simp only [Bool.or_eq_true, Bool.and_eq_true, beq_iff_eq] at this
    rw [hk] at this; rcases this with h | ⟨h, _⟩ <;> cases h
  · have hei : e = i := by
      by_cases hne : e = i
      · exact hne
      exfalso
      have hbit : bit (ancAt ds i) e = true := later_acts h4 r.lt (by rw [bit_add, hD2i]; simp [hne]) (.inr hk) e (by rw [bit_add]; simp)
      have h6 := r.anc e hbit
      obtain ⟨h7, h8⟩ := S.acts e hok2.lt hok2.kind
      rw [h7, ← h8] at h6
      have := hok2.new
      rw [b2.1, b1.1, h6] at this
      cases this
    subst hei
    obtain ⟨dl1, h1, f1, dl2, h2, f2, dl3, h3, f3, f4⟩ := hf
    obtain ⟨q1, q2, _⟩ := f1.still hkp
    rw [q1, q2] at f2; clear q1 q2
    rw [hok2.ms] at f3
    obtain ⟨rfl, rfl⟩ := f3
    rw [hact] at f4
    obtain ⟨dl4, h4', fs, fc, fr⟩ := f4
    have hmade : ∀ k ∈ lv.als, kindAt ds k = .a → In listed k = true := fun k hk2 hka2 => r.anc k (hok2.made k (by
      unfold newL; rw [bit_lor, bit_mask]
      have : k ∈ lv.als.filter fun i => kindAt ds i == .a := by rw [List.mem_filter]; exact ⟨hk2, by rw [hka2]; rfl⟩
      simp [this, hk2, hka2]))
    obtain ⟨hc2, c1, c2, c3, rfl, c5, c6, c7, c8⟩ := S.taken F hlv hl hmade f2
    have hgets : ∀ q, h3.get q = hc2.get q := fun q => by
      by_cases hq : ∃ k, k ∈ lv.als ∧ kindAt ds k = .a ∧ isMkm ds k = true ∧ W ds tm0 tmF k = true ∧ q = idOf k
      · obtain ⟨k, k1, k2, k3, k4, rfl⟩ := hq
        obtain ⟨es, e1, e2, e3⟩ := c3.map k k1 k2 k3 k4
        have : entE ds tm0 tmF idOf msL (In listed) (idOf k) = [] := entE_nil fun m hm hom => by
          exfalso
          obtain ⟨hh, hlaid⟩ := F.laid
          obtain ⟨j, d2, ka, ks, p2, k2', x2, hL⟩ := hlaid m hm (onMap_kind hom)
          unfold onMap at hom
          rw [hL.map] at hom
          have hid : idOf j = idOf k := by simpa using hom
          obtain ⟨c, hc1, _, hc3⟩ := hL.mkm
          have hja : kindAt ds j = .a := by rw [kind_a hc1, hc3]; rfl
          have hjk : j = k := F.inj j k hja k2 (List.getElem?_eq_some_iff.1 hc1).1 (c8 k k1).1 hid
          have hm' : m ∈ (lv :: rest).flatMap Lv.ms := by rw [← hlv, hlast]; exact hm
          exact (ms_last hok hm' hL.map).2 lv rest _ rfl hact hja (hjk ▸ k1)
        rw [this] at e3
        have : es = [] := List.perm_nil.1 e3
        subst this
        rw [e1, e2]; rfl
      · exact (c3.oth q fun k k1 k2 k3 k4 k5 => hq ⟨k, k1, k2, k3, k4, k5⟩).symm
    have hnx : h3.next = h.next := c3.next.symm.trans c5
    have H2 : RelH P ρ h3 w := c1.congr (by rw [hnx, c5]) hgets
    have S2 : Step ρ0 h0 w0 ρ h3 w := c2.congr (by rw [hnx, c5]) hgets
    have D2' : ∀ b', Dom ρ h3 b' → Dom ρ h b' ∨ ∃ i ∈ lv.als, kindAt ds i = .a ∧ ρ (idOf i) = some (b', 0) := fun b' hb => c7 b' (Dom.congr hgets hb)
    have hnewL : ∀ k, kindAt ds k = .a → bit (newL ds lv L) k = (bit L k || lv.als.contains k) := fun k hka2 => by
      unfold newL; rw [bit_lor, bit_mask]
      congr 1
      rw [Bool.eq_iff_iff]
      simp [List.mem_filter, hka2]
    have wait2 : ∀ k, k < ds.length → kindAt ds k = .a → In listed k = true → bit (newL ds lv L) k = false → W ds tm0 tmF k = true → ∃ b B, Waits P ρ h3 w0 w (idOf k) b B ∧ PB ds tm0 tmF idOf msL (In listed) k B := fun k k1 k2 k3 k4 k5 => by
      rw [hnewL k k2, Bool.or_eq_false_iff] at k4
      obtain ⟨b, B, e1, e2⟩ := S.wait k k1 k2 k3 k4.1 k5
      refine ⟨b, B, ⟨e1.at_, e1.lo, e1.hi, fun hd => ?_, e1.wr, e1.rel⟩, e2⟩
      rcases D2' b hd with hd | ⟨j, j1, j2, j3⟩
      · exact e1.out hd
      · refine S.far j k b _ _ (c8 j j1).1 k1 j2 k2 (fun e => ?_) ((c8 j j1).2 j2) k4.1 j3 e1.at_
        subst e
        have := k4.2
        simp at this; exact this j1
    -- what stands behind the act
    have fin : ∀ (ρ' : Emb) (w' : World) (a1 : Act) (v' : Value), a1.tmps = a.tmps → RelDs ρ' dl4 a1.defers → RelH P ρ' h4' w' → Step ρ h3 w ρ' h4' w' → (∀ p, d.dst = some p → RelV ρ' (tmF.get p) v') →
        SimE nt ops ds tm0 tmF cl yl idOf dsF hF LA msL ρ0 h0 w0 P (listed.setIfInBounds e true) (a1.put o.dst v') w' := fun ρ' w' a1 v' ha1 hds hH hS hv => by
      obtain ⟨tm', s1, s2, s3, s4⟩ := put_next F S r hS.le ha1 hv
      have hup : ∀ k, In listed k = true → In (listed.setIfInBounds e true) k = true := fun k hk => by rw [hin, hk]; rfl
      have hdn : ∀ k, In (listed.setIfInBounds e true) k = false → In listed k = false ∧ e ≠ k := fun k hk => by
        rw [hin, Bool.or_eq_false_iff] at hk; exact ⟨hk.1, fun e' => by rw [e'] at hk; simp at hk⟩
      have hnm : kindAt ds e ≠ .m := by rw [hk]; intro x; cases x
      have hnoa : ∀ k, kindAt ds k = .a → e ≠ k := fun k h1 h2 => by rw [h2, h1] at hk; cases hk
      have hnor : ∀ k, kindAt ds k = .r → e ≠ k := fun k h1 h2 => by rw [h2, h1] at hk; cases hk
      have hnom : ∀ k, kindAt ds k = .m → e ≠ k := fun k h1 h2 => by rw [h2, h1] at hk; cases hk
      have hold : ∀ {k x}, k < ds.length → kindAt ds k = .a → ρ' (idOf k) = some x → ρ (idOf k) = some x := fun h1 h2 h3 => S.old (congrArg Id.val hnx) hS h1 h2 h3
      refine ⟨rest, Nat.lor D2 (Nat.shiftLeft 1 e), Nat.lor A (Nat.shiftLeft 1 e), newL ds lv L, newR ds lv R, dl4, h4', tm', ρ', ?_⟩
      exact {
        lsz := by simp [S.lsz]
        ok := h4
        facts := fr
        size := s1
        slots := s2
        vals := s4
        defs := by rw [s3]; exact hds
        heap := hH
        step := S2.trans hS
        shut := shut_next F S r
        acts := fun k k1 k2 => by
          obtain ⟨a1, a2⟩ := S.acts k k1 k2
          have np : k ∉ lv.pre := fun hm => by rcases hkp k hm with h | h <;> rw [k2] at h <;> cases h
          have na : k ∉ lv.als := fun hm => by rcases hka k hm with h | h <;> rw [k2] at h <;> cases h
          rw [hin, bit_add, bit_add, a1]
          refine ⟨rfl, ?_⟩
          rw [b2.1, b1.1, a2]; simp [np, na]
        made := fun k k1 k2 => by
          obtain ⟨a1, a2⟩ := S.made k k1 k2
          have np : k ∉ lv.pre := fun hm => by rcases hkp k hm with h | h <;> rw [k2] at h <;> cases h
          refine ⟨?_, fun hb => hup k (r.anc k (hok2.made k hb))⟩
          rw [bit_add, b2.1, b1.1, a1, hnewL k k2]; simp [np, hnoa k k2]
        read := fun k k1 k2 => by
          have a1 := S.read k k1 k2
          have na : k ∉ lv.als := fun hm => by rcases hka k hm with h | h <;> rw [k2] at h <;> cases h
          rw [bit_add, b2.1, b1.1, a1]
          unfold newR
          rw [bit_lor, bit_mask]
          simp only [na, hnor k k2, decide_false, Bool.or_false]
          rw [Bool.eq_iff_iff]
          simp [List.mem_filter, k2, na]
        again := fun k k1 k2 => by
          obtain ⟨e1, e2⟩ := hdn k k2
          rcases hok2.read k k1 with e3 | e3
          · rw [r.anc k e3] at e1; cases e1
          · exact fc k e3
        wait := fun k k1 k2 k3 k4 k5 => by
          have k3' : In listed k = true := by
            rw [hin] at k3; simpa [hnoa k k2] using k3
          obtain ⟨b, B, e1, e2⟩ := wait2 k k1 k2 k3' k4 k5
          exact ⟨b, B, e1.after hS, e2.next F S r hnm⟩
        far := fun j k b q q' k1 k2 k3 k4 k5 k6 k7 k8 k9 => by
          rw [hnewL j k3, Bool.or_eq_false_iff] at k6
          rw [hnewL k k4, Bool.or_eq_false_iff] at k7
          exact S.far j k b q q' k1 k2 k3 k4 k5 k6.1 k7.1 (hold k1 k3 k8) (hold k2 k4 k9)
        free := fun k k1 k2 k3 => S.old_none (congrArg Id.val hnx) hS k1 k2 (S.free k k1 k2 (k3.imp (fun h => (hdn k h).1) id))
        gone := fun k k1 k2 k3 => by
          cases hg : h4'.get (idOf k) with
          | none => rfl
          | some C =>
            exfalso
            obtain ⟨b, q, g1, g2, _⟩ := hH.blk _ _ hg
            have g3 := hold k1 k2 g1
            have k3' := k3
            rw [hnewL k k2, Bool.or_eq_false_iff] at k3'
            cases hl : In listed k with
            | false => rw [S.free k k1 k2 (.inl hl)] at g3; cases g3
            | true =>
              cases hw : W ds tm0 tmF k with
              | false => rw [S.free k k1 k2 (.inr hw)] at g3; cases g3
              | true =>
                obtain ⟨b', B', e1, _⟩ := wait2 k k1 k2 hl k3 hw
                have := e1.at_
                rw [g3] at this; cases this
                rcases hS.dom b ⟨_, _, _, hg, g1⟩ with hd | hd
                · exact e1.out hd
                · have := e1.hi; omega
        below := fun k k1 k2 => by
          have e1 := S.below k k1 k2
          have e2 := hS.next
          rw [hnx] at e2; omega
        last := by
          rw [← hlast, hlv, List.flatMap_cons, hok2.ms]; rfl
        mno := fun k k2 => by
          have np : k ∉ lv.pre := fun hm => by rcases hkp k hm with h | h <;> rw [k2] at h <;> cases h
          have na : k ∉ lv.als := fun hm => by rcases hka k hm with h | h <;> rw [k2] at h <;> cases h
          rw [bit_add, b2.1, b1.1, S.mno k k2]; simp [np, na, hnom k k2] }
    obtain ⟨d', hd', fs0, fs1⟩ := fs
    rw [r.hd] at hd'; cases hd'
    have hA := S.agr F r
    unfold wpOpIn
    simp only [r.ho]
    rw [wanted_iff F S r]
    cases hW : W ds tm0 tmF e with
    | false =>
      simp only [Bool.false_eq_true, if_false]
      obtain ⟨rfl, rfl, g3⟩ := fs0 hW
      exact ⟨about_fw, hK _ _ (fin ρ w a undef rfl S.defs H2 (Step.refl _ _ _) fun p hp => by rw [g3 p hp]; exact RelV.undef _)⟩
    | true =>
      rw [if_pos rfl]
      have fs1 := fs1 hW
      have hkd := hk
      rw [kind_a r.hd] at hkd
      have hxne : d.x ≠ .bad := fun hb => by
        rw [hb] at fs1
        rcases fs1 with ⟨v, e1, _, _⟩ | ⟨v, e1, _, _⟩
        · have := e1 tm hA; cases this
        · have := e1 tm hA; cases this
      have hc := cop_of r.sp.x hxne (by rw [hkd]; intro x; cases x)
      have fs2 : (∃ v, (∀ tm, Agr ds tm0 tmF e tm → d.x.run cl yl tm h3 = .ok v h4') ∧ dl4 = dl3 ∧ ∀ p, d.dst = some p → tmF.get p = v) ∨
          ∃ x, (∀ tm, Agr ds tm0 tmF e tm → d.x.run cl yl tm h3 = .dfr x h4') ∧ dl4 = x :: dl3 ∧ ∀ p, d.dst = some p → tmF.get p = .t [] := by
        cases hx : d.x with
        | a o => rw [hx] at hkd; cases hkd
        | bad => exact absurd hx hxne
        | p o => rw [hx] at hkd; cases hkd
        | r o => rw [hx] at hkd; cases hkd
        | e o => rw [hx] at fs1; exact fs1
      rcases fs2 with ⟨v, e1, rfl, e3⟩ | ⟨x, e1, rfl, e3⟩
      · exact op_sound hcl hyl hc S.slots H2 (e1 tm hA) fun v' w' ρ' r1 r2 r3 => hK _ _ (fin ρ' w' a v' rfl (S.defs.mono r3.le) r2 r3 fun p hp => by rw [e3 p hp]; exact r1)
      · cases ro with
        | some l =>
          exfalso
          have := hro rfl
          obtain ⟨y, hy⟩ := fr.grows
          rw [this] at hy
          cases y <;> cases hy
        | none =>
          obtain ⟨e4, d', r1, r2⟩ := op_defer (a := a) (w := w) (next := K) (Q := Q) hcl hyl hc S.slots (e1 tm hA)
          refine r2 (hK _ _ (fin ρ w { a with defers := d' :: a.defers } undef rfl (.cons r1 S.defs) (by rw [e4]; exact H2) (by rw [e4]; exact Step.refl _ _ _) fun p hp => by rw [e3 p hp]; exact RelV.undef _))

end
end Go.AM

/-
  A region that draws its order: entries of maps, the end, the start, the whole. Conditions stand at each law.
-/
namespace Go.AM

section
variable {P : Program} {nt : Nat} {ops : Array Oper} {ds : List DOp} {tm0 tmF : Tm} {cl : Cl} {yl : Yl} {idOf : Nat → Id} {dsF : List Df} {hF : Hp} {LA : Nat} {msL : List Nat} {ρ0 : Emb} {h0 : Hp} {w0 : World}
  {lvs : List Lv} {D A L R : Nat} {dl : List Df} {h : Hp} {listed : Array Bool} {tm : Tm} {ρ : Emb} {a : Act} {w : World}

theorem eMnew_new {ka : Bool} {ks : List (Nat × CK)} {k x : AV} {h : Hp} {r : Id} {es : List (AV × AV)} {c : Nat} (hg : h.get r = some (.mp es c)) (h1 : keyOk ka ks k = true) (h2 : isOne x = true) (h3 : Off k es) :
    eMnew ka ks (.c (.m r)) k x h = .ok (.t []) (h.set r (some (.mp (es ++ [(k, x)]) (c + 1)))) := by
  have hf : find k es = none := by
    cases e : find k es with
    | none => rfl
    | some u =>
      obtain ⟨i, hi⟩ := find_some h3.all e
      exact absurd rfl (keyEq_false (h3 _ (List.mem_of_getElem? hi)))
  unfold eMnew
  simp only [hg, hf]
  exact eMup_new hg h1 h2 h3

theorem filterMap_perm_add {α β : Type} (f : α → Option β) {l m : List α} {i : α} {e : β} (h : l.Perm (m ++ [i])) (he : f i = some e) : (l.filterMap f).Perm (m.filterMap f ++ [e]) := by
  have := h.filterMap f
  rw [List.filterMap_append] at this
  simpa [he] using this

theorem case_m {ro : Option Nat} {Q : Exit → Act → World → Prop} {K : Act → World → Prop} (hcl : CallOk P cl) (hyl : YieldOk P yl) (F : Frm nt ops ds tm0 tmF cl yl idOf LA msL h0 P) (S : Sim nt ops ds tm0 tmF cl yl idOf dsF hF LA msL ρ0 h0 w0 P lvs D A L R dl h listed tm ρ a w) {i : Nat} {o : Oper} {d : DOp} (r : Ready nt ops ds listed P i o d)
    (hk : kindAt ds i = .m)
    (hK : ∀ a' w', SimE nt ops ds tm0 tmF cl yl idOf dsF hF LA msL ρ0 h0 w0 P (listed.setIfInBounds i true) a' w' → K a' w') : wpOpIn (FW ro) 0 P ops Q i K a w := by
  have hin := fun k => In_set listed i k (r.sz F S)
  have him := F.msAll i r.lt hk
  obtain ⟨hh, hlaid⟩ := F.laid
  obtain ⟨j, d', ka, ks, p, k, x, hl⟩ := hlaid i him hk
  have hdd := hl.hd
  rw [r.hd] at hdd; cases hdd
  have hW : W ds tm0 tmF i = true := W_none r.hd hl.guard
  have hA := S.agr F r
  obtain ⟨c, hc1, hc2, hc3⟩ := hl.mkm
  have hja : kindAt ds j = .a := by rw [kind_a hc1, hc3]; rfl
  have hjl : j < ds.length := (List.getElem?_eq_some_iff.1 hc1).1
  have hjin : In listed j = true := r.anc j hl.anc
  have hLj : bit L j = false := (ms_last S.ok (by rw [S.last]; exact him) hl.map).1
  obtain ⟨b, B, wt, pb⟩ := S.wait j hjl hja hjin hLj (W_none hc1 hc2)
  unfold PB at pb
  rw [if_pos ((isMkm_iff hc1).2 hc3)] at pb
  obtain ⟨es, rfl, hperm⟩ := pb
  have hon : onMap ds idOf (idOf j) i = true := by unfold onMap; rw [hl.map]; simp
  have hent := entOf_eq (tm0 := tm0) (tmF := tmF) hl.hd hl.hx
  have hoff : Off (k.cv ds tm0 tmF i) es := Off.perm hperm.symm fun e he => by
    unfold entE at he
    obtain ⟨q, hq, hqe⟩ := List.mem_filterMap.1 he
    rw [List.mem_filter, Bool.and_eq_true] at hq
    have hqi : q ≠ i := fun e => by rw [e, r.new] at hq; cases hq.2.2
    have hqm := onMap_kind hq.2.1
    obtain ⟨j', d2, ka2, ks2, p2, k2, x2, hl2⟩ := hlaid q hq.1 hqm
    have hid : idOf j' = idOf j := by
      have := hq.2.1
      unfold onMap at this
      rw [hl2.map] at this; simpa using this
    rcases pairwise_or F.away hq.1 him hqi with h1 | h1
    · exact h1 j' j hl2.map hl.map hid e _ hqe hent
    · exact keyEq_symm (h1 j j' hl.map hl2.map hid.symm _ e hent hqe)
  obtain ⟨t1, t2, t3⟩ := wt.take S.heap S.step (S.gone j hjl hja hLj)
  have hgj : (h.set (idOf j) (some (.mp es es.length))).get (idOf j) = some (.mp es es.length) := by rw [Hp.get_set, if_pos rfl]
  have hpv : (Opd.t p).get tm = .c (.m (idOf j)) := by
    show tm.get p = _
    rw [hA p (by unfold slAt; rw [hl.hd]; show p ∈ d.sl; unfold DOp.sl; rw [hl.hx]; simp [XOp.sl, EOp.sl, Opd.sl]), hl.slot, hl.at_]
  have hsame : Same d.x.sl tm (tmC ds tm0 tmF i) := hA.same (tmC_agr i) hl.hd
  rw [hl.hx] at hsame
  have hsame : Same ((Opd.t p).sl ++ k.sl ++ x.sl) tm (tmC ds tm0 tmF i) := hsame
  have hkv : k.get tm = k.cv ds tm0 tmF i := by rw [← tmC_opd]; exact Opd.get_same hsame.app.1.app.2
  have hxv : x.get tm = x.cv ds tm0 tmF i := by rw [← tmC_opd]; exact Opd.get_same hsame.app.2
  generalize hB' : (Blk.mp (es ++ [(k.cv ds tm0 tmF i, x.cv ds tm0 tmF i)]) (es.length + 1)) = B'
  have hwr' : B'.wr = true := by rw [← hB']; rfl
  have hcop : ∃ x', cOp P o = some x' ∧ x'.run cl yl tm (h.set (idOf j) (some (.mp es es.length))) = .ok (.t []) ((h.set (idOf j) (some (.mp es es.length))).set (idOf j) (some B')) := by
    rcases draw_cop r.sp.x with h1 | h1 | ⟨ka', ks', m', k', x', h1, h2⟩
    · rw [hl.hx] at h1; cases h1
    · refine ⟨_, h1, ?_⟩
      rw [hl.hx]
      show eMnew ka ks ((Opd.t p).get tm) (k.get tm) (x.get tm) _ = _
      rw [hpv, hkv, hxv, eMnew_new hgj hl.key hl.one hoff, ← hB']
    · rw [hl.hx] at h1; cases h1
      refine ⟨_, h2, ?_⟩
      show eMup ka ks ((Opd.t p).get tm) (k.get tm) (x.get tm) _ = _
      rw [hpv, hkv, hxv, eMup_new hgj hl.key hl.one hoff, ← hB']
  obtain ⟨x', hc, hrun⟩ := hcop
  unfold wpOpIn
  simp only [r.ho]
  rw [wanted_iff F S r, hW, if_pos rfl]
  refine op_sound hcl hyl hc S.slots t1 hrun fun v' w' ρ' r1 r2 r3 => hK _ _ ?_
  obtain ⟨tm', s1, s2, s3, s4⟩ := put_next F S r r3.le (a1 := a) (v' := v') rfl fun q hq => by rw [hl.dst] at hq; cases hq
  obtain ⟨k1, k2⟩ := r2.kill (idOf j)
  have hget : ∀ q, h.get q = ((((h.set (idOf j) (some (.mp es es.length))).set (idOf j) (some B')).set (idOf j) none)).get q := fun q => by
    rw [Hp.get_set, Hp.get_set, Hp.get_set]
    by_cases e : idOf j = q
    · rw [if_pos e, ← e]; exact S.gone j hjl hja hLj
    · rw [if_neg e, if_neg e, if_neg e]
  have H' : RelH P ρ' h w' := k1.congr rfl hget
  have S' : Step ρ0 h0 w0 ρ' h w' := ((t2.trans r3).trans k2).congr rfl hget
  have hgot : ∀ q C, h.get q = some C → q ≠ idOf j ∧ ((h.set (idOf j) (some (.mp es es.length))).set (idOf j) (some B')).get q = some C := fun q C hq => by
    have hne : q ≠ idOf j := fun e => by rw [e, S.gone j hjl hja hLj] at hq; cases hq
    refine ⟨hne, ?_⟩
    rw [Hp.get_set, if_neg (Ne.symm hne), Hp.get_set, if_neg (Ne.symm hne)]; exact hq
  have hB2 : ((h.set (idOf j) (some (.mp es es.length))).set (idOf j) (some B')).get (idOf j) = some B' := by rw [Hp.get_set, if_pos rfl]
  obtain ⟨hat, hate⟩ := r3.le _ _ wt.at_
  have hW' : Waits P ρ' h w0 w' (idOf j) b B' := by
    obtain ⟨b2, o2, e1, e2, e3⟩ := r2.blk _ _ hB2
    rw [hat] at e1; cases e1
    refine ⟨hat, wt.lo, e2, fun hd => ?_, hwr', e3⟩
    obtain ⟨q, C, o2, h1, h2⟩ := hd
    obtain ⟨h3, h4⟩ := hgot q C h1
    have := (r2.apart (idOf j) q B' C b 0 o2 (Ne.symm h3) hB2 h4 hat h2).1
    rw [hwr'] at this; cases this
  have hnx : (h.set (idOf j) (some (.mp es es.length))).next.val = h.next.val := rfl
  have hup : ∀ k, In listed k = true → In (listed.setIfInBounds i true) k = true := fun k hk => by rw [hin, hk]; rfl
  have hdn : ∀ k, In (listed.setIfInBounds i true) k = false → In listed k = false := fun k hk => by rw [hin, Bool.or_eq_false_iff] at hk; exact hk.1
  have hold : ∀ {k y}, k < ds.length → kindAt ds k = .a → ρ' (idOf k) = some y → ρ (idOf k) = some y := fun h1 h2 h3 => S.old hnx r3 h1 h2 h3
  refine ⟨lvs, D, A, L, R, dl, h, tm', ρ', ?_⟩
  exact {
    lsz := by simp [S.lsz]
    ok := S.ok
    facts := S.facts
    size := s1
    slots := s2
    vals := s4
    defs := by rw [s3]; exact S.defs.mono r3.le
    heap := H'
    step := S'
    shut := shut_next F S r
    acts := fun k h1 h2 => by
      have : i ≠ k := fun e => by rw [e, h2] at hk; cases hk
      rw [hin]; simp only [this, decide_false, Bool.or_false]; exact S.acts k h1 h2
    made := fun k h1 h2 => ⟨(S.made k h1 h2).1, fun h3 => hup k ((S.made k h1 h2).2 h3)⟩
    read := S.read
    again := fun k h1 h2 => S.again k h1 (hdn k h2)
    wait := fun q h1 h2 h3 h4 h5 => by
      have hqi : i ≠ q := fun e => by rw [e, h2] at hk; cases hk
      have h3' : In listed q = true := by rw [hin] at h3; simpa [hqi] using h3
      by_cases hqj : q = j
      · subst hqj
        refine ⟨b, B', hW', ?_⟩
        unfold PB
        rw [if_pos ((isMkm_iff hc1).2 hc3)]
        refine ⟨es ++ [(k.cv ds tm0 tmF i, x.cv ds tm0 tmF i)], by rw [← hB']; simp, ?_⟩
        have hfa : (msL.filter fun k => onMap ds idOf (idOf q) k && In (listed.setIfInBounds i true) k).Perm ((msL.filter fun k => onMap ds idOf (idOf q) k && In listed k) ++ [i]) :=
          filter_add F.nodup him (by rw [r.new]; simp) (by rw [hon, hin]; simp) fun m hm => by rw [hin]; simp [Ne.symm hm]
        exact (hperm.append_right _).trans (filterMap_perm_add _ hfa hent).symm
      · obtain ⟨bq, Bq, e1, e2⟩ := S.wait q h1 h2 h3' h4 h5
        have e3 : Waits P ρ (h.set (idOf j) (some (.mp es es.length))) w0 w (idOf q) bq Bq := by
          refine ⟨e1.at_, e1.lo, e1.hi, fun hd => ?_, e1.wr, e1.rel⟩
          rcases t3 _ hd with e | hd
          · subst e
            exact S.far j q _ _ _ hjl h1 hja h2 (Ne.symm hqj) hLj h4 wt.at_ e1.at_
          · exact e1.out hd
        have e4 := e3.after r3
        refine ⟨bq, Bq, ⟨e4.at_, e4.lo, e4.hi, fun hd => ?_, e4.wr, e4.rel⟩, e2.congr fun m hm ho => ?_⟩
        · obtain ⟨y, C, o2, h6, h7⟩ := hd
          exact e4.out ⟨y, C, o2, (hgot y C h6).2, h7⟩
        · rw [hin]
          have : i ≠ m := fun e => by
            subst e
            unfold onMap at ho
            rw [hl.map] at ho
            have : idOf j = idOf q := by simpa using ho
            exact hqj (F.inj j q hja h2 hjl h1 this).symm
          simp [this]
    far := fun u v b q q' h1 h2 h3 h4 h5 h6 h7 h8 h9 => S.far u v b q q' h1 h2 h3 h4 h5 h6 h7 (hold h1 h3 h8) (hold h2 h4 h9)
    free := fun k h1 h2 h3 => S.old_none hnx r3 h1 h2 (S.free k h1 h2 (h3.imp (hdn k) id))
    gone := S.gone
    below := S.below
    last := S.last
    mno := S.mno }

theorem case_all {ro : Option Nat} {Q : Exit → Act → World → Prop} {K : Act → World → Prop} (hcl : CallOk P cl) (hyl : YieldOk P yl) (F : Frm nt ops ds tm0 tmF cl yl idOf LA msL h0 P) (hro : ro.isSome = true → dsF = []) {i : Nat} (hi : i ∈ Region.ready .any ops listed)
    (S : SimE nt ops ds tm0 tmF cl yl idOf dsF hF LA msL ρ0 h0 w0 P listed a w)
    (hK : ∀ a' w', SimE nt ops ds tm0 tmF cl yl idOf dsF hF LA msL ρ0 h0 w0 P (listed.setIfInBounds i true) a' w' → K a' w') : wpOpIn (FW ro) 0 P ops Q i K a w := by
  obtain ⟨lvs, D, A, L, R, dl, h, tm, ρ, S⟩ := S
  obtain ⟨o, d, r⟩ := ready_of F S hi
  cases hk : kindAt ds i with
  | e => exact case_e hcl hyl F hro S r hk hK
  | m => exact case_m hcl hyl F S r hk hK
  | p =>
    cases hW : W ds tm0 tmF i with
    | false => exact case_skip F S r (.inl hk) hW hK
    | true => exact case_p hcl hyl F S r hk hW hK
  | r =>
    cases hW : W ds tm0 tmF i with
    | false => exact case_skip F S r (.inr (.inl hk)) hW hK
    | true => exact case_r hcl hyl F S r hk hW hK
  | a =>
    cases hW : W ds tm0 tmF i with
    | false => exact case_skip F S r (.inr (.inr hk)) hW hK
    | true => exact case_a F S r hk hW hK

/-! ## The end -/
theorem ready_nil (F : Frm nt ops ds tm0 tmF cl yl idOf LA msL h0 P) (hsz : listed.size = ops.size) (hn : Region.ready .any ops listed = []) : ∀ i, i < ds.length → In listed i = true := by
  intro i
  induction i using Nat.strongRecOn with
  | _ i ih =>
    intro hi
    cases hl : In listed i with
    | true => rfl
    | false =>
      exfalso
      have hio : i < ops.size := by rw [← F.len]; exact hi
      have ho : ops[i]? = some ops[i] := Array.getElem?_eq_getElem hio
      have hd : ds[i]? = some ds[i] := List.getElem?_eq_getElem hi
      have sp := F.spec i _ _ ho hd
      have : i ∈ Region.ready .any ops listed := mem_ready.2 ⟨by
        unfold In at hl
        rw [Array.getD_eq_getD_getElem?] at hl ⊢
        have : i < listed.size := by rw [hsz]; exact hio
        rw [Array.getElem?_eq_getElem this] at hl ⊢
        exact hl, _, ho, fun e he hb => by
          have h1 := sp.back e (by simpa using he) hb
          exact ih e.on h1 (by omega)⟩
      rw [hn] at this; cases this

theorem RelH.mapPerm {h h' : Hp} (H : RelH P ρ h w) (hn : h'.next.val = h.next.val) (hg : ∀ r, h'.get r = h.get r ∨ ∃ es es' n, h.get r = some (.mp es n) ∧ h'.get r = some (.mp es' n) ∧ es.Perm es') : RelH P ρ h' w ∧ ∀ {ρ0 : Emb} {h0 : Hp} {w0 : World}, Step ρ0 h0 w0 ρ h w → Step ρ0 h0 w0 ρ h' w := by
  have hback : ∀ {r B}, h'.get r = some B → ∃ C, h.get r = some C ∧ C.wr = B.wr := fun {r B} hr => by
    rcases hg r with e | ⟨es, es', n, e1, e2, _⟩
    · exact ⟨B, by rw [← e]; exact hr, rfl⟩
    · rw [e2] at hr; cases hr; exact ⟨_, e1, rfl⟩
  refine ⟨⟨fun r B hr => ?_, fun r x hx => by rw [hn]; exact H.dom r x hx, fun r q B C b o o' hne hr hq h1 h2 => ?_⟩, fun S => ⟨S.le, S.size, S.keep, fun b hb => ?_, fun b hb => ?_, by rw [hn]; exact S.next, S.fresh, S.tape, S.os, S.out⟩⟩
  · rcases hg r with e | ⟨es, es', n, e1, e2, e3⟩
    · exact H.blk r B (by rw [← e]; exact hr)
    · rw [e2] at hr; cases hr
      obtain ⟨b, o, h1, h2, rfl, ms, fs, h4, h5, h6, h7, h8⟩ := H.blk r _ e1
      exact ⟨b, 0, h1, h2, rfl, ms, fs, h4, h5.trans e3, h6, (e3.pairwise_iff fun h e => h e.symm).1 h7, h8⟩
  · obtain ⟨B', e1, e2⟩ := hback hr
    obtain ⟨C', e3, e4⟩ := hback hq
    rw [← e2, ← e4]
    exact H.apart r q B' C' b o o' hne e1 e3 h1 h2
  · obtain ⟨r, B, o, h1, h2, h3⟩ := hb
    obtain ⟨C, e1, e2⟩ := hback h1
    exact S.img b ⟨r, C, o, e1, by rw [e2]; exact h2, h3⟩
  · obtain ⟨r, B, o, h1, h3⟩ := hb
    obtain ⟨C, e1, e2⟩ := hback h1
    exact S.dom b ⟨r, C, o, e1, h3⟩

theorem entE_all {E : Nat → Bool} {r : Id} (h : ∀ k ∈ msL, E k = true) : entE ds tm0 tmF idOf msL E r = entR ds tm0 tmF idOf msL r := by
  unfold entE entR
  congr 1
  apply List.filter_congr
  intro k hk
  rw [h k hk, Bool.and_true]

theorem sim_end (F : Frm nt ops ds tm0 tmF cl yl idOf LA msL h0 P) (hold : ∀ p, wr ds p = none → tmF.get p = tm0.get p) (S : Sim nt ops ds tm0 tmF cl yl idOf dsF hF LA msL ρ0 h0 w0 P lvs D A L R dl h listed tm ρ a w) (hall : ∀ i, i < ds.length → In listed i = true) :
    Stands P ρ0 h0 w0 nt tmF dsF hF a w := by
  have hok := S.ok
  have hf := S.facts
  have hlast := S.last
  cases hlv : lvs with
  | nil => rw [hlv] at hok; cases hok
  | cons lv rest =>
  rw [hlv] at hok hf
  obtain ⟨D1, D2, hl, h3⟩ := lvsOk_cons hok
  have b1 := runOk_bits hl.pre
  have b2 := runOk_bits hl.als
  have hkp : ∀ k ∈ lv.pre, kindAt ds k = .p ∨ kindAt ds k = .r := fun k hk => by
    have := (b1.2 k hk).2.2
    simp only [Bool.or_eq_true, Bool.and_eq_true, beq_iff_eq] at this
    exact this.imp id fun h => h.1.1
  rcases h3 with ⟨hact, D3, h4, hrest, h5⟩ | ⟨e, cs, hact, hok2, h4⟩
  · obtain ⟨dl1, h1, f1, dl2, h2, f2, dl3, h3, f3, f4⟩ := hf
    obtain ⟨q1, q2, _⟩ := f1.still hkp
    rw [q1, q2] at f2; clear q1 q2
    rw [hact] at f4
    obtain ⟨rfl, rfl⟩ := f4
    have hmsL : lv.ms = msL := by rw [← hlast, hlv, hrest]; simp
    obtain ⟨hc2, c1, c2, c3, rfl, c5, c6, c7, c8⟩ := S.taken F hlv hl (fun i hi hk => hall i (runOk_bits hl.als |>.2 i hi).2.1) f2
    have hmk : ∀ i ∈ lv.ms, kindAt ds i = .p ∨ (kindAt ds i = .m ∧ mapOk ds i L = true) := fun i hi => by
      have := ((runOk_bits h4).2 i hi).2.2
      simpa only [Bool.or_eq_true, Bool.and_eq_true, beq_iff_eq] using this
    obtain ⟨rfl, ⟨g1, g2⟩, _, _⟩ := ms_run F.slots F.sf f3 hmk
    -- the maps that get entries are those that are made here
    have hals : ∀ q ∈ lv.ms, ∀ r, onMap ds idOf r q = true → ∃ j ∈ lv.als, kindAt ds j = .a ∧ isMkm ds j = true ∧ W ds tm0 tmF j = true ∧ r = idOf j := fun q hq r ho => by
      rcases hmk q hq with hp | ⟨hm, hmo⟩
      · rw [onMap_kind ho] at hp; cases hp
      · obtain ⟨d, j, ka, ks, p, k, x, hd, hj, _, _, _, _, hL, hanc, c, hc, hcg, hcx⟩ := mapOk_spec hmo
        have hja : kindAt ds j = .a := by rw [kind_a hc, hcx]; rfl
        have hjl : j < ds.length := (List.getElem?_eq_some_iff.1 hc).1
        refine ⟨j, ?_, hja, (isMkm_iff hc).2 hcx, W_none hc hcg, ?_⟩
        · have := h5 j hjl
          rw [(runOk_bits h4).1, b2.1, b1.1, (S.made j hjl hja).1, hL] at this
          have np : j ∉ lv.pre := fun hm => by rcases hkp j hm with h | h <;> rw [hja] at h <;> cases h
          have nm : j ∉ lv.ms := fun hm => by rcases hmk j hm with h | ⟨h, _⟩ <;> rw [hja] at h <;> cases h
          simpa [np, nm] using this
        · unfold onMap at ho
          rw [hj] at ho
          exact (by simpa using ho : idOf j = r).symm
    obtain ⟨e1, e2⟩ := RelH.mapPerm (h' := h3) c1 (by rw [g1, ← c3.next]) fun r => by
      by_cases hr : ∃ i, i ∈ lv.als ∧ kindAt ds i = .a ∧ isMkm ds i = true ∧ W ds tm0 tmF i = true ∧ r = idOf i
      · obtain ⟨i, i1, i2, i3, i4, rfl⟩ := hr
        obtain ⟨es, m1, m2, m3⟩ := c3.map i i1 i2 i3 i4
        right
        refine ⟨es, entR ds tm0 tmF idOf lv.ms (idOf i), es.length, m1, ?_, ?_⟩
        · rw [g2, m2]
          unfold grow
          rw [entE_all fun k hk => ?_, ← hmsL] at m3
          · rw [m3.length_eq]; simp
          · rw [← hmsL] at hk
            exact hall k (runOk_bits h4 |>.2 k hk).2.1
        · rw [hmsL]
          rw [entE_all fun k hk => ?_] at m3
          · exact m3
          · rw [← hmsL] at hk
            exact hall k (runOk_bits h4 |>.2 k hk).2.1
      · left
        rw [g2, c3.oth r fun i i1 i2 i3 i4 i5 => hr ⟨i, i1, i2, i3, i4, i5⟩]
        have : entR ds tm0 tmF idOf lv.ms r = [] := by
          unfold entR
          have : lv.ms.filter (onMap ds idOf r) = [] := by
            rw [List.filter_eq_nil_iff]
            intro q hq ho
            obtain ⟨j, j1, j2, j3, j4, j5⟩ := hals q hq r ho
            exact hr ⟨j, j1, j2, j3, j4, j5⟩
          rw [this]; rfl
        unfold grow
        split
        · rename_i es n hg; rw [this, hg]; simp
        · rfl
    refine ⟨ρ, S.size, ⟨fun p => ?_⟩, S.defs, e1, e2 c2⟩
    have : tmF.get p = tm.get p := by
      rw [S.vals p]
      cases hw : wr ds p with
      | none => exact hold p hw
      | some j =>
        obtain ⟨d, hd, _⟩ := wr_some hw
        simp only [hall j (List.getElem?_eq_some_iff.1 hd).1, if_true]
    rw [this]; exact S.slots.at_ p
  · exfalso
    have h6 := hall e hok2.lt
    obtain ⟨h7, h8⟩ := S.acts e hok2.lt hok2.kind
    rw [h7, ← h8] at h6
    have := hok2.new
    rw [b2.1, b1.1, h6] at this
    cases this

end
end Go.AM

/-
  A region that draws its order, whole. Conditions stand at each law.
-/
namespace Go.AM

section
variable {P : Program} {nt : Nat} {ops : Array Oper} {ds : List DOp} {tm0 tmF : Tm} {cl : Cl} {yl : Yl} {idOf : Nat → Id} {dsF : List Df} {hF : Hp} {LA : Nat} {msL : List Nat} {ρ0 : Emb} {h0 : Hp} {w0 : World}
  {lvs : List Lv} {D A L R : Nat} {dl : List Df} {h : Hp} {listed : Array Bool} {tm : Tm} {ρ : Emb} {a : Act} {w : World}

theorem any_sound {ro : Option Nat} {Q : Exit → Act → World → Prop} (hcl : CallOk P cl) (hyl : YieldOk P yl) (F : Frm nt ops ds tm0 tmF cl yl idOf LA msL h0 P) (hro : ro.isSome = true → dsF = []) (hold : ∀ p, wr ds p = none → tmF.get p = tm0.get p)
    (hQ : ∀ a w, Stands P ρ0 h0 w0 nt tmF dsF hF a w → Q .normal a w) : ∀ (fuel : Nat) (s : List Nat) (listed : Array Bool) (a : Act) (w : World), s.length ≤ fuel → (∀ i, i < ds.length → In listed i = false → i ∈ s) →
    SimE nt ops ds tm0 tmF cl yl idOf dsF hF LA msL ρ0 h0 w0 P listed a w → wpAnyIn (FW ro) 0 P .any ops Q fuel listed a w := by
  intro fuel
  have hend : ∀ (listed : Array Bool) (a : Act) (w : World), SimE nt ops ds tm0 tmF cl yl idOf dsF hF LA msL ρ0 h0 w0 P listed a w → (∀ i, i < ds.length → In listed i = true) → Q .normal a w := fun listed a w ⟨lvs, D, A, L, R, dl, h, tm, ρ, S⟩ hall => hQ a w (sim_end F hold S hall)
  have hnone : ∀ (listed : Array Bool), (∀ i, i < ds.length → In listed i = true) → Region.ready .any ops listed = [] := fun listed hall => by
    rw [List.eq_nil_iff_forall_not_mem]
    intro i hi
    obtain ⟨h1, o, ho, _⟩ := mem_ready.1 hi
    have h2 := hall i (by rw [F.len]; exact (Array.getElem?_eq_some_iff.1 ho).1)
    unfold In at h2
    rw [Array.getD_eq_getD_getElem?] at h1 h2
    cases e : listed[i]? with
    | none => rw [e] at h2; cases h2
    | some b => rw [e] at h1 h2; rw [Option.getD_some] at h1 h2; rw [h1] at h2; cases h2
  induction fuel with
  | zero =>
    intro s listed a w hs hm S
    have hall : ∀ i, i < ds.length → In listed i = true := fun i hi => by
      cases hl : In listed i with
      | true => rfl
      | false =>
        have := hm i hi hl
        have : s = [] := List.length_eq_zero_iff.1 (by omega)
        subst this; cases ‹_ ∈ []›
    exact ⟨hnone listed hall, hend _ _ _ S hall⟩
  | succ fuel ih =>
    intro s listed a w hs hm S
    have hsz : listed.size = ops.size := by obtain ⟨lvs, D, A, L, R, dl, h, tm, ρ, S⟩ := S; exact S.lsz
    refine ⟨fun hn => hend _ _ _ S (ready_nil F hsz hn), fun i hi => case_all hcl hyl F hro hi S fun a' w' S' => ?_⟩
    obtain ⟨h1, o, ho, _⟩ := mem_ready.1 hi
    have hio : i < ops.size := (Array.getElem?_eq_some_iff.1 ho).1
    have hin : In listed i = false := by
      unfold In
      have : i < listed.size := by rw [hsz]; exact hio
      rw [Array.getD_eq_getD_getElem?] at h1 ⊢
      rw [Array.getElem?_eq_getElem this] at h1 ⊢
      exact h1
    have his := hm i (by rw [F.len]; exact hio) hin
    refine ih (s.erase i) _ a' w' (by rw [List.length_erase_of_mem his]; omega) (fun j hj hjl => ?_) S'
    rw [In_set _ _ _ (by rw [hsz]; exact hio), Bool.or_eq_false_iff] at hjl
    have hne : i ≠ j := by simpa using hjl.2
    exact (List.mem_erase_of_ne (Ne.symm hne)).2 (hm j hj hjl.1)

theorem Step.drawn {ρ : Emb} {h : Hp} {w w' : World} (h1 : w'.heap = w.heap) (h2 : w'.tape = w.tape) (h3 : w'.os = w.os) (h4 : w'.output = w.output) : Step ρ h w ρ h w' :=
  ⟨ρ.le_refl, by rw [h1]; exact Nat.le_refl _, fun b _ _ => by rw [h1], fun _ hb => .inl hb, fun _ hb => .inl hb, Nat.le_refl _, fun _ _ h => .inl h, h2, h3, h4⟩

theorem RelH.skipped {h : Hp} {w : World} (H : RelH P ρ h w) (n : Nat) : RelH P ρ ⟨nextN h.next n, h.t⟩ w ∧ Step ρ h w ρ ⟨nextN h.next n, h.t⟩ w :=
  ⟨⟨H.blk, fun r x hx => by have := H.dom r x hx; show r.val < (nextN h.next n).val; rw [nextN_val]; omega, H.apart⟩,
   ⟨ρ.le_refl, Nat.le_refl _, fun _ _ _ => rfl, fun _ hb => .inl hb, fun _ hb => .inl hb, by show h.next.val ≤ (nextN h.next n).val; rw [nextN_val]; omega, fun _ _ h => .inl h, rfl, rfl, rfl⟩⟩

theorem ms_static {L0 : Nat} (hsl : slotsOk ds = true) (hsf : ∀ j, j < ds.length → ∃ a b c d, StepFact ds tm0 tmF cl yl idOf j a b c d) : ∀ {lvs : List Lv} {D A L R : Nat} {dl : List Df} {h : Hp}, lvsOk ds LA lvs D A L R = true → LvFacts ds tm0 tmF cl yl idOf dsF hF lvs dl h → (∀ i, kindAt ds i = .m → bit D i = false) →
    (∃ hh, ∀ i ∈ lvs.flatMap Lv.ms, kindAt ds i = .m → ∃ j d ka ks p k x, Laid ds tm0 tmF idOf hh i j d ka ks p k x) ∧ (lvs.flatMap Lv.ms).Pairwise (Away ds tm0 tmF idOf) ∧ (lvs.flatMap Lv.ms).Nodup ∧ ∀ i, i < ds.length → kindAt ds i = .m → i ∈ lvs.flatMap Lv.ms
  | [], _, _, _, _, _, _, hok, _, _ => by cases hok
  | lv :: rest, D, A, L, R, dl, h, hok, hr, hD => by
    obtain ⟨dl1, h1, r1, dl2, h2, r2, dl3, h3, r3, hr⟩ := hr
    obtain ⟨D1, D2, ⟨k1, k2⟩, k3⟩ := lvsOk_cons hok
    have hpre : ∀ i, kindAt ds i = .m → i ∉ lv.pre := fun i hk hm => by
      have := ((runOk_bits k1).2 i hm).2.2
      simp only [Bool.or_eq_true, Bool.and_eq_true, beq_iff_eq] at this
      rw [hk] at this; rcases this with h | ⟨⟨h, _⟩, _⟩ <;> cases h
    have hals : ∀ i, kindAt ds i = .m → i ∉ lv.als := fun i hk hm => by
      have := ((runOk_bits k2).2 i hm).2.2
      simp only [Bool.or_eq_true, beq_iff_eq] at this
      rw [hk] at this; rcases this with h | h <;> cases h
    have hD2 : ∀ i, kindAt ds i = .m → bit D2 i = false := fun i hk => by
      rw [(runOk_bits k2).1, (runOk_bits k1).1, hD i hk]; simp [hpre i hk, hals i hk]
    rcases k3 with ⟨_, D3, k4, rfl, k5⟩ | ⟨e, cs, hact, hok2, k4⟩
    · have hfl : [lv].flatMap Lv.ms = lv.ms := by simp
      rw [hfl]
      obtain ⟨_, _, m1, m2⟩ := ms_run (L := L) hsl hsf r3 fun i hi => by
        have := ((runOk_bits k4).2 i hi).2.2
        simpa only [Bool.or_eq_true, Bool.and_eq_true, beq_iff_eq] using this
      refine ⟨⟨_, m1⟩, m2, runOk_nodup k4, fun i hi hk => ?_⟩
      have := k5 i hi
      rw [(runOk_bits k4).1, hD2 i hk, Bool.false_or] at this
      simpa using this
    · rw [hact] at hr
      obtain ⟨dl4, h4, s, _, hr⟩ := hr
      rw [List.flatMap_cons, hok2.ms, List.nil_append]
      exact ms_static (L0 := L0) hsl hsf k4 hr fun i hk => by
        rw [bit_add, hD2 i hk]
        have : e ≠ i := fun x => by have := hok2.kind; rw [x, hk] at this; cases this
        simp [this]

theorem draw_sound {ro : Option Nat} {Q : Exit → Act → World → Prop} {id : Nat} (hcl : CallOk P cl) (hyl : YieldOk P yl) (hmix : P.follows .mixedOrders = true) (hnt : nt ≤ 512) (hd : dops P nt ops = some ds) {its : List It} (hi : drawIts ds = some its)
    (hro : ro.isSome = true → dsF = []) (hr : evIs cl yl its tm dl h = .ok tmF dsF hF) (S : Stands P ρ0 h0 w0 nt tm dl h a w) (hQ : ∀ a w, Stands P ρ0 h0 w0 nt tmF dsF hF a w → Q .normal a w) : (Code.region id ops true).wpIn (FW ro) 0 P Q a w := by
  obtain ⟨hlen, hspec⟩ := dops_spec hd
  unfold drawIts at hi
  simp only at hi
  split at hi
  · rename_i hc
    rw [Bool.and_eq_true, Bool.and_eq_true] at hc
    obtain ⟨⟨hsl, hal⟩, hok⟩ := hc
    cases hi
    generalize hLA : mask ((List.range ds.length).filter fun i => kindAt ds i == .a) = LA at hok
    generalize mkLvs ds = lvs at hok hr
    obtain ⟨ρ, s1, s2, s3, s4, s5⟩ := S
    rw [resv_run] at hr
    have hfacts := lv_facts (idOf := idAt ds h.next) hsl hal hok (fun j hj => by rw [bit_zero] at hj; cases hj) (cinv_start hsl hal tm h.next) hr
    have hsf : ∀ i, i < ds.length → ∃ a b c d, StepFact ds tm tmF cl yl (idAt ds h.next) i a b c d := fun i hi => all_facts hok hfacts i hi (bit_zero i)
    obtain ⟨m1, m2, m3, m4⟩ := ms_static (L0 := 0) hsl hsf hok hfacts fun i _ => bit_zero i
    have hat : ∀ i (hi : i < ds.length), ds[i]? = some (ds[i]'hi) := fun i hi => List.getElem?_eq_getElem hi
    have F : Frm nt ops ds tm tmF cl yl (idAt ds h.next) LA (lvs.flatMap Lv.ms) h P := {
      small := hnt
      len := hlen
      spec := hspec
      slots := hsl
      als := hal
      sf := hsf
      inj := fun i j h1 h2 h3 h4 h5 => idAt_inj hal (hat i h3) (hat j h4) h1 h2 h5
      lo := fun i h1 h2 => (idAt_range hal (hat i h2) h1).1
      LA := fun i hi => by
        rw [← hLA, bit_mask]
        simp [List.mem_filter, hi]
      laid := m1
      away := m2
      nodup := m3
      msAll := m4 }
    have hold : ∀ p, wr ds p = none → tmF.get p = tm.get p := fun p hp => by
      have h1 : tmF.get p = (tmR ds tm h.next).get p := keep_all hr fun it hit e => by
        obtain ⟨lv, _, hit⟩ := List.mem_flatMap.1 hit
        have hdi : ∀ i, itDst (dAt ds dIt i) = some p → False := fun i hd => by
          unfold dAt at hd
          split at hd
          · rename_i d hdd
            rw [dIt_dst _ (.inr trivial)] at hd
            rw [wr_of (slotsOk_distinct hsl) hdd hd] at hp; cases hp
          · cases hd
        have hdc : ∀ i, itDst (dAt ds dChk i) = some p → False := fun i hd => by
          unfold dAt at hd
          split at hd
          · rw [dChk_dst] at hd; cases hd
          · cases hd
        unfold lvIts at hit
        rcases List.mem_append.1 hit with hit | hit
        · obtain ⟨i, _, rfl⟩ := List.mem_map.1 hit; exact hdi i e
        rcases List.mem_append.1 hit with hit | hit
        · obtain ⟨i, _, rfl⟩ := List.mem_map.1 hit; exact hdi i e
        rcases List.mem_append.1 hit with hit | hit
        · obtain ⟨i, _, rfl⟩ := List.mem_map.1 hit; exact hdi i e
        split at hit
        · cases hit
        · rcases List.mem_cons.1 hit with rfl | hit
          · exact hdi _ e
          · obtain ⟨i, _, rfl⟩ := List.mem_map.1 hit; exact hdc i e
      rw [h1]
      exact (cinv_start hsl hal tm h.next).old p hp
    refine wpIn_region_any hmix ?_
    obtain ⟨H1, S1⟩ := (s4.stay (w' := { w with drawn := w.drawn + 1 }) (Nat.le_refl _) fun _ _ => rfl).skipped (cntA ds)
    have S0 : Step ρ h w ρ h { w with drawn := w.drawn + 1 } := Step.drawn rfl rfl rfl rfl
    refine any_sound (hF := hF) (ρ0 := ρ) (h0 := h) (w0 := { w with drawn := w.drawn + 1 }) hcl hyl F hro hold (fun a' w' S' => hQ a' w' ?_) ops.size (List.range ds.length) _ a _ (by simp [hlen]) (fun i hi _ => by simpa using hi) ?_
    · obtain ⟨σ, e1, e2, e3, e4, e5⟩ := S'
      exact ⟨σ, e1, e2, e3, e4, (s5.trans S0).trans e5⟩
    · have hin : ∀ i, In (Array.replicate ops.size false) i = false := fun i => by
        unfold In
        rw [Array.getD_eq_getD_getElem?, Array.getElem?_replicate]
        split <;> rfl
      have hfree : ∀ i, i < ds.length → kindAt ds i = .a → ρ (idAt ds h.next i) = none := fun i h1 h2 => by
        cases e : ρ (idAt ds h.next i) with
        | none => rfl
        | some x =>
          have e1 := s4.dom _ _ e
          have e2 := (idAt_range (i := h.next) hal (hat i h1) h2).1
          omega
      refine ⟨lvs, 0, 0, 0, 0, dl, ⟨nextN h.next (cntA ds), h.t⟩, tm, ρ, ?_⟩
      exact {
        lsz := by simp
        ok := hok
        facts := hfacts
        size := s1
        slots := s2
        vals := fun p => by
          cases wr ds p with
          | none => rfl
          | some j => simp only [hin]; rfl
        defs := s3
        heap := H1
        step := S1
        shut := fun i j h1 => by rw [hin] at h1; cases h1
        acts := fun i _ _ => ⟨by rw [hin, bit_zero], rfl⟩
        made := fun i _ _ => ⟨rfl, fun h1 => by rw [bit_zero] at h1; cases h1⟩
        read := fun i _ _ => rfl
        again := fun i h1 => by rw [bit_zero] at h1; cases h1
        wait := fun i _ _ h1 => by rw [hin] at h1; cases h1
        far := fun i k b o o' h1 h2 h3 h4 _ _ _ h5 => by rw [hfree i h1 h3] at h5; cases h5
        free := fun i h1 h2 _ => hfree i h1 h2
        gone := fun i h1 h2 _ => by
          cases e : Hp.get ⟨nextN h.next (cntA ds), h.t⟩ (idAt ds h.next i) with
          | none => rfl
          | some B =>
            obtain ⟨b, o, e1, _⟩ := H1.blk _ _ e
            rw [hfree i h1 h2] at e1; cases e1
        below := fun i h1 h2 => (idAt_range hal (hat i h1) h2).2
        last := rfl
        mno := fun i _ => bit_zero i }
  · cases hi

end
end Go.AM

/-
  Statements, as the machine runs them. Conditions stand at each law.
-/
namespace Go.AM

def Ex.out : Ex → Exit
  | .nor => .normal
  | .exit id => .exit id
  | .ret => .ret

/-! ## A scope -/
section
variable {F : Fence} {n : Nat} {P : Program} {b : Frame} {a : Act} {k : List Item} {cs : List Frame} {w : World} {Q : Exit → Act → World → Prop}
theorem stepR_scope {c : Code} : step P (lone (b.atR a (.code (.scope c) :: k)) cs w) = .next (lone (b.atR a (.code c :: .inScope c :: k)) cs w) :=
  step_lone_go (by simp [stepG, stepG.exec, Frame.atR])
theorem stepR_inScope {c : Code} : step P (lone (b.atR a (.inScope c :: k)) cs w) = .next (lone (b.atR a k) cs w) :=
  step_lone_go (by simp [stepG, stepG.exec, Frame.atR])

/-- As 'Exit.noGoto' (Derived/Scope.lean). -/
def plainExit (Q : Exit → Act → World → Prop) : Exit → Act → World → Prop
  | .goto _, _, _ => False
  | e, a, w => Q e a w

theorem wpIn_scope {c : Code} (h : c.wpIn F n P (plainExit Q) a w) : (Code.scope c).wpIn F n P Q a w := by
  intro b k cs hro hb hr
  have h0 : (lone (b.atR a (.code (.scope c) :: k)) cs w).fenced P F := fenced_calm hb hr rfl
  obtain ⟨e, a₁, w₁, hq, harr⟩ := h b (.inScope c :: k) cs hro hb hr
  cases e with
  | normal => exact ⟨.normal, a₁, w₁, hq, .head h0 stepR_scope (StepsIn.trans harr (.one (fenced_calm hb hr rfl) stepR_inScope))⟩
  | exit id =>
    have hx : exitTo id (.inScope c :: k) = exitTo id k := by simp [exitTo]
    exact ⟨.exit id, a₁, w₁, hq, fun k' hk => .head h0 stepR_scope (harr.1 k' (by rw [hx]; exact hk)),
      fun hr' hk => let ⟨k₁, h1, h2⟩ := harr.2 hr' (by rw [hx]; exact hk); ⟨k₁, h1, .head h0 stepR_scope h2⟩⟩
  | goto l => exact hq.elim
  | ret => exact ⟨_, a₁, w₁, hq, .of_steps (.one h0 stepR_scope) harr⟩
  | panic ch => exact ⟨_, a₁, w₁, hq, .of_steps (.one h0 stepR_scope) harr⟩
  | outgrown => exact ⟨_, a₁, w₁, hq, .of_steps (.one h0 stepR_scope) harr⟩
end

section
variable {P : Program} {FT : FT}

/-- What a statement's run leads to. -/
structure EvOk (P : Program) (ev : Ev) : Prop where
  go : ∀ {rd : Bool} {s : St} {tm tmF : Tm} {ds dsF : List Df} {h hF : Hp} {e : Ex}, ev rd s tm ds h = .ok e tmF dsF hF → (rd = true → ds = []) → (rd = true → dsF = []) ∧
  ∀ {ro : Option Nat} {nt : Nat} {c : Code} {a : Act} {w : World} {ρ0 : Emb} {h0 : Hp} {w0 : World} {Q : Exit → Act → World → Prop}, ro.isSome = rd → nt ≤ 512 → cCode P nt c = s → Stands P ρ0 h0 w0 nt tm ds h a w →
    (∀ a w, Stands P ρ0 h0 w0 nt tmF dsF hF a w → Q e.out a w) → c.wpIn (FW ro) 0 P Q a w

theorem Stands.opd {ρ0 : Emb} {h0 : Hp} {w0 : World} {nt : Nat} {tm : Tm} {ds : List Df} {h : Hp} {a : Act} {w : World} (S : Stands P ρ0 h0 w0 nt tm ds h a w) {x : Operand} {d : Opd} (hx : opdOf x = some d) {b : Bool} (hv : d.get tm = .c (.b b)) : a.eval x = .bool b := by
  obtain ⟨ρ, s1, s2, s3, s4, s5⟩ := S
  have := opd_sound (ρ := ρ) s2 hx
  rw [hv] at this; exact this

theorem cReg_cases {nt : Nat} {ops : Array Oper} {d : Bool} {l : List It} (h : cReg P nt ops d = .reg l) :
    (d = true ∧ ∃ ds, dops P nt ops = some ds ∧ drawIts ds = some l) ∨ (d = false ∧ ops.toList.mapM (fun o => itOf nt ops o (opAt P o)) = some l) := by
  unfold cReg at h
  cases d with
  | true =>
    simp only [if_true] at h
    split at h
    · rename_i l' hl
      cases h
      rw [Option.bind_eq_some_iff] at hl
      obtain ⟨ds, h1, h2⟩ := hl
      exact .inl ⟨rfl, ds, h1, h2⟩
    · cases h
  | false =>
    simp only [Bool.false_eq_true, if_false] at h
    split at h
    · rename_i l' hl; cases h; exact .inr ⟨rfl, hl⟩
    · cases h

/-- A range over a function. -/
theorem rf_ok {cl : Cl} (hcl : CallOk P cl) {f : AV} {g : Operand} {d : Opd} {ps : Array Tmp} {x y : Code} {tm tmF : Tm} {ds dsF : List Df} {h hF : Hp} {e : Ex} {nt : Nat} {a : Act} {w : World} {ρ0 : Emb} {h0 : Hp} {w0 : World} {Q : Exit → Act → World → Prop}
    (hg : opdOf g = some d) (hf : d.get tm = f) (hps : ∀ p ∈ ps.toList, p < nt) (hnt : nt ≤ 512) (hr : evRf cl false f (ps.toList.map .of) (cCode P nt x) (cCode P nt y) tm ds h = .ok e tmF dsF hF) (S : Stands P ρ0 h0 w0 nt tm ds h a w)
    (hQ : ∀ a w, Stands P ρ0 h0 w0 nt tmF dsF hF a w → Q e.out a w) : (Code.rangeFunc g ps x y).wpIn (FW none) 0 P Q a w := by
  obtain ⟨ρ, s1, s2, s3, s4, s5⟩ := S
  unfold evRf at hr
  split at hr
  · rename_i p fs cs
    simp only [cond_false, Hp.newK_eq] at hr
    have hfv := opd_sound (ρ := ρ) s2 hg
    rw [hf] at hfv
    obtain ⟨first, caps, e1, e2, e3⟩ := hfv
    -- the two blocks
    obtain ⟨H1, S1⟩ := s4.new (e := 0) (more_alloc w (.deferred (some []))) (B := .dfr true) ⟨rfl, more_new (more_alloc w _)⟩
    have hpp : ps.toList = (ps.toList.map P3.of).map P3.n := by
      rw [List.map_map]
      conv => lhs; rw [← List.map_id ps.toList]
      exact List.map_congr_left fun q hq => (P3.n_of (Nat.lt_of_lt_of_le (hps q hq) hnt)).symm
    have hpn : ∀ q ∈ ps.toList.map P3.of, q.n < a.tmps.size := fun q hq => by
      obtain ⟨t, ht, rfl⟩ := List.mem_map.1 hq
      rw [P3.n_of (Nat.lt_of_lt_of_le (hps t ht) hnt), s1]; exact hps t ht
    refine wpIn_rangeFunc fun fn _ => ?_
    obtain ⟨H2, S2⟩ := H1.new (e := 0) (more_alloc (w.alloc (.deferred (some []))) (.loop { state := .ready, pending := none, fn, tmps := a.tmps, params := ps, assign := x, body := y, defers := w.heap.size })) (B := .lp .ready none tm (ps.toList.map .of) (cCode P nt x) (cCode P nt y))
      ⟨rfl, _, more_new (more_alloc _ _), rfl, rfl, s2.mono (Emb.le_trans S1.le (Emb.le_put H1.none_next)), hpp, hpn, by rw [s1], by rw [s1], by rw [s1]; exact hnt⟩
    have hsz : (w.alloc (.deferred (some []))).heap.size = w.heap.size + 1 := by simp
    have hl : ((ρ.put h.next (w.heap.size, 0) 0).put (h.new (.dfr true)).next ((w.alloc (.deferred (some []))).heap.size, 0) 0) (h.new (.dfr true)).next = some (w.heap.size + 1, 0) := by
      rw [Emb.put_same, hsz]
    have hr0 : ((ρ.put h.next (w.heap.size, 0) 0).put (h.new (.dfr true)).next ((w.alloc (.deferred (some []))).heap.size, 0) 0) h.next = some (w.heap.size, 0) :=
      (S2.le _ _ (Emb.put_same _ _ _ _)).1
    generalize hρ2 : (ρ.put h.next (w.heap.size, 0) 0).put (h.new (.dfr true)).next ((w.alloc (.deferred (some []))).heap.size, 0) 0 = ρ2 at H2 S2 hl hr0
    generalize hlid : (h.new (.dfr true)).next = l at hr hl S2 H2
    cases hc : cl p (ptrAVs fs ++ (.c (.y l) :: ptrAVs cs)) ((h.new (.dfr true)).new (.lp .ready none tm (ps.toList.map .of) (cCode P nt x) (cCode P nt y))) with
    | no => rw [hc] at hr; cases hr
    | dfr d' h' => exact absurd hc hcl.nodfr
    | ok v h3 =>
      rw [hc] at hr
      simp only at hr
      obtain ⟨fn', f1, f2, f3, f4⟩ := hcl.ret hc
      have hle2 : ρ.le ρ2 := Emb.le_trans S1.le S2.le
      have hc4 := f4 ρ2 _ (first ++ #[.func (.yield (w.heap.size + 1)) #[] #[]] ++ caps) H2 (by
        simp only [Array.toList_append, List.append_assoc]
        exact forall₂_append (ptrAVs_rel (e2.mono hle2)) (forall₂_append (.cons ⟨_, hl, rfl⟩ .nil) (ptrAVs_rel (e3.mono hle2))))
      refine ⟨w.heap.size + 1, [{ target := .collected w.heap.size, args := #[] }], ((w.alloc (.deferred (some []))).alloc (.loop { state := .ready, pending := none, fn := fn, tmps := a.tmps, params := ps, assign := x, body := y, defers := w.heap.size })), { target := .fn (.func p.n) caps, args := first ++ #[.func (.yield (w.heap.size + 1)) #[] #[]] }, ((w.alloc (.deferred (some []))).alloc (.loop { state := .ready, pending := none, fn := fn, tmps := a.tmps, params := ps, assign := x, body := y, defers := w.heap.size })), p.n, _, ((w.alloc (.deferred (some []))).alloc (.loop { state := .ready, pending := none, fn := fn, tmps := a.tmps, params := ps, assign := x, body := y, defers := w.heap.size })), run_enterLoop_outer fn a.tmps ps x y, ?_, fun _ _ => trivial, ?_, fun h => (by cases h), callsIn_fw.2 (hc4.mono ?_)⟩
      · have ec : a.eval (.const (.func (.yield (w.heap.size + 1)) #[] #[])) = .func (.yield (w.heap.size + 1)) #[] #[] := rfl
        simp [resolve, rangeCall, e1, Deferred.ofValue, ec]
      · exact run_callFunc_body f1 f2 f3 _
      · rintro en w3 ⟨v', ρ3, rfl, r1, r2, r3⟩
        split at hr
        · rename_i s pend tm' ps' x' y' hg
          obtain ⟨b, o, g1, g2, g3⟩ := r2.blk _ _ hg
          obtain ⟨hl3, _⟩ := r3.le _ _ hl
          rw [hl3] at g1; cases g1
          obtain ⟨_, rec, q1, q2, q3, q4, q5, q6, q7, q8, q9⟩ := g3
          have hs : s ≠ .busy ∧ Hp.setK h3 l (some (.lp .exhausted pend tm' ps' x' y')) (fun hh => RS.ok (pend.getD .nor) tm (.coll h.next :: ds) hh) = .ok e tmF dsF hF := by
            cases s with
            | busy => cases hr
            | ready => exact ⟨(fun e => by cases e), hr⟩
            | done => exact ⟨(fun e => by cases e), hr⟩
            | exhausted => exact ⟨(fun e => by cases e), hr⟩
          obtain ⟨hs, hr⟩ := hs
          rw [Hp.setK_eq] at hr
          cases hr
          have hbusy : rec.state ≠ .busy := by rw [q2]; cases s <;> first | (exact absurd rfl hs) | (intro e; cases e)
          have hlt : w.heap.size + 1 < w3.heap.size := g2
          obtain ⟨u1, u2⟩ := r2.upd (B' := .lp .exhausted pend tm' ps' x' y') hg hl3 rfl (onlyAt_set (.loop { rec with state := .exhausted })) ⟨rfl, { rec with state := .exhausted }, by simp [hlt], rfl, q3, q4, q5, q6, q7, q8, q9⟩
          refine ⟨rec.pending, _, run_endLoop q1 hbusy, ?_⟩
          have hst : Stands P ρ0 h0 w0 nt tm (.coll h.next :: ds) (h3.set l (some (.lp .exhausted pend tm' ps' x' y'))) { a with defers := [{ target := .collected w.heap.size, args := #[] }] ++ a.defers } (w3.putObj (w.heap.size + 1) (.loop { rec with state := .exhausted })) :=
            ⟨ρ3, s1, s2.mono (Emb.le_trans hle2 r3.le), .cons ⟨_, (r3.le _ _ hr0).1, rfl⟩ (s3.mono (Emb.le_trans hle2 r3.le)), u1, s5.trans (S1.trans (S2.trans (r3.trans u2)))⟩
          have hq := hQ _ _ hst
          generalize World.putObj w3 (w.heap.size + 1) (.loop { rec with state := .exhausted }) = W4 at hq ⊢
          rw [q3]
          cases pend with
          | none => exact hq
          | some e' =>
            cases e' with
            | nor => exact hq
            | exit id => exact wpIn_exit hq
            | ret => exact wpIn_ret hq
        · cases hr
  · cases hr
end
end Go.AM

/-
  Rounds, as the machine runs them; parameters. Conditions stand at each law.
-/
namespace Go.AM
variable {P : Program}

noncomputable def setL : List P3 → List AV → Tm → Tm
  | p :: ps, v :: vs, tm => setL ps vs (tm.set p v)
  | _, _, tm => tm

theorem setAll_eq {β : Type} : ∀ (ps : List P3) (vs : List AV) (tm : Tm) (k : Tm → β) (no : β), setAll ps vs tm k no = if ps.length = vs.length then k (setL ps vs tm) else no
  | [], [], tm, k, no => rfl
  | [], _ :: _, tm, k, no => rfl
  | _ :: _, [], tm, k, no => rfl
  | p :: ps, v :: vs, tm, k, no => by
    show (T8.setK tm p v fun tm => setAll ps vs tm k no) = _
    rw [T8.setK_eq, setAll_eq ps vs]
    simp only [List.length_cons, Nat.add_right_cancel_iff]
    rfl

/-- Values into slots, one by one. -/
theorem RelT.setL {ρ : Emb} : ∀ {ps : List P3} {ts : List Nat} {xs : List AV} {vs : List Value} {tm : Tm} {tmps : Array Value}, RelT ρ tm tmps → ts = ps.map P3.n → (∀ p ∈ ps, p.n < tmps.size) → All2 (RelV ρ) xs vs → ps.length = xs.length →
    RelT ρ (setL ps xs tm) ((ts.zip vs).foldl (fun tmps (t, a) => tmps.setIfInBounds t a) tmps) ∧ ((ts.zip vs).foldl (fun tmps (t, a) => tmps.setIfInBounds t a) tmps).size = tmps.size
  | [], ts, xs, vs, tm, tmps, ht, hts, _, _, _ => by
    subst hts
    exact ⟨ht, rfl⟩
  | p :: ps, ts, xs, vs, tm, tmps, ht, hts, hb, ha, hl => by
    cases ha with
    | nil => cases hl
    | @cons x v xs vs hx ha =>
      subst hts
      have := RelT.setL (ps := ps) (ht.set (hb p (by simp)) hx) rfl (fun q hq => by rw [Array.size_setIfInBounds]; exact hb q (by simp [hq])) ha (by simpa using hl)
      refine ⟨this.1, ?_⟩
      have h2 := this.2
      rw [Array.size_setIfInBounds] at h2
      exact h2

theorem zip_foldl (ps : Array Tmp) (args : Array Value) (tmps : Array Value) : (ps.zip args).foldl (fun tmps (t, a) => tmps.setIfInBounds t a) tmps = (ps.toList.zip args.toList).foldl (fun tmps (t, a) => tmps.setIfInBounds t a) tmps := by
  rw [← Array.foldl_toList, Array.toList_zip]

theorem evRound_nodfr {ev : Ev} {l : Id} {xs : List AV} {h h' : Hp} {d : Df} : evRound ev l xs h ≠ .dfr d h' := by
  intro hr
  unfold evRound at hr
  split at hr
  · rw [setAll_eq] at hr
    split at hr
    · repeat' split at hr
      all_goals first | (cases hr; done) | (rw [Hp.setK_eq] at hr)
      repeat' split at hr
      all_goals first | (cases hr; done) | (rw [Hp.setK_eq] at hr; cases hr)
    · cases hr
  · cases hr

theorem round_ok {ev : Ev} (hev : EvOk P ev) : YieldOk P (evRound ev) where
  nodfr := evRound_nodfr
  ret := by
    intro l xs h v h' hr ρ w args b H hall hb
    unfold evRound at hr
    split at hr
    · rename_i s0 pend0 tm ps x y hg
      obtain ⟨b', o, g1, g2, g3⟩ := H.blk _ _ hg
      rw [hb] at g1; cases g1
      obtain ⟨_, rec, q1, q2, q3, q4, q5, q6, q7, q8, q9⟩ := g3
      rw [setAll_eq] at hr
      split at hr
      · rename_i hlen
        have hsize : args.size = rec.params.size := by
          have h1 := forall₂_length hall
          have h2 : rec.params.toList.length = ps.length := by rw [q5, List.length_map]
          simp only [Array.length_toList] at h1 h2
          omega
        refine ⟨rec, q1, hsize, ?_⟩
        split at hr
        · rename_i tm1 h1 he1
          obtain ⟨_, hx⟩ := hev.go he1 fun _ => rfl
          split at hr
          · rename_i pend1 tm1' ps1 x1 y1 hg1
            rw [Hp.setK_eq] at hr
            split at hr
            · rename_i e tm2 h2 he2
              obtain ⟨_, hy⟩ := hev.go he2 fun _ => rfl
              have hT := RelT.setL (ps := ps) q4 q5 q6 hall hlen
              rw [zip_foldl]
              refine roundIn_of_wpIn trivial ?_
              show rec.assign.wpIn (FW (some b)) 0 P _ _ w
              refine hx (ρ0 := ρ) (h0 := h) (w0 := w) (nt := rec.tmps.size) rfl q9 q7 ⟨ρ, hT.2, hT.1, .nil, H, Step.refl _ _ _⟩ fun a1 w1 S1 => ?_
              obtain ⟨ρ1, s1, s2, s3, s4, s5⟩ := S1
              obtain ⟨hb1, _⟩ := s5.le _ _ hb
              obtain ⟨b1, o1, k1, k2, k3⟩ := s4.blk _ _ hg1
              rw [hb1] at k1; cases k1
              obtain ⟨_, rec1, p1, p2, p3, p4, p5, p6, p7, p8, p9⟩ := k3
              obtain ⟨u1, u2⟩ := s4.upd (B' := .lp .busy pend1 tm1' ps1 x1 y1) hg1 hb1 rfl (onlyAt_set (.loop { rec1 with state := .busy })) ⟨rfl, { rec1 with state := .busy }, by simp [k2], rfl, p3, p4, p5, p6, p7, p8, p9⟩
              refine ⟨_, run_beginRound p1 p2, ?_⟩
              show rec.body.wpIn (FW (some b)) 0 P _ _ _
              refine hy (ρ0 := ρ) (h0 := h) (w0 := w) (nt := rec.tmps.size) rfl q9 q8 ⟨ρ1, s1, s2, s3, u1, s5.trans u2⟩ fun a2 w2 S2 => ?_
              obtain ⟨ρ2, t1, t2, t3, t4, t5⟩ := S2
              obtain ⟨hb2, _⟩ := t5.le _ _ hb
              split at hr
              · rename_i s2' pend2 tm2' ps2 x2 y2 hg2
                obtain ⟨b2, o2, m1, m2, m3⟩ := t4.blk _ _ hg2
                rw [hb2] at m1; cases m1
                obtain ⟨_, rec2, n1, n2, n3, n4, n5, n6, n7, n8, n9⟩ := m3
                have fin : ∀ (e' : Ex) (S' : LS) (pn : Option Ex) (j : Option Code) (bb : Bool), Hp.setK h2 l (some (.lp S' pn tm2' ps2 x2 y2)) (fun hh => RV.ok (.c (.b bb)) hh) = .ok v h' → S'.of = (if j.isNone then .ready else .done) → j = pn.bind Ex.code → bb = j.isNone →
                    ∃ v' w', (Instr.endRound b j).run P w2 = .ok v' w' ∧ RetTo P ρ h w v h' (.returned v') w' := fun e' S' pn j bb hh e1 e2 e3 => by
                  rw [Hp.setK_eq] at hh
                  cases hh
                  obtain ⟨u3, u4⟩ := t4.upd (B' := .lp S' pn tm2' ps2 x2 y2) hg2 hb2 rfl (onlyAt_set (.loop { rec2 with state := if j.isNone then .ready else .done, pending := j })) ⟨rfl, { rec2 with state := if j.isNone then .ready else .done, pending := j }, by simp [m2], e1.symm, e2, n4, n5, n6, n7, n8, n9⟩
                  exact ⟨_, _, run_endRound j n1, _, ρ2, rfl, (by rw [e3]; exact rfl), u3, t5.trans u4⟩
                cases e with
                | nor => exact fin .nor .ready none none true hr rfl rfl rfl
                | exit id => exact fin (.exit id) .done (some (.exit id)) (some (.exit id)) false hr rfl rfl rfl
                | ret => exact fin .ret .done (some .ret) (some .ret) false hr rfl rfl rfl
              · cases hr
            · cases hr
          · cases hr
        · cases hr
      · cases hr
    · cases hr

end Go.AM

/-
  Functions, as the machine runs them: parameters, results, what is put off. Conditions stand at each law.
-/
namespace Go.AM
variable {P : Program}

/-- A function that is told by a summary: what is told is so. -/
def OrcOk (P : Program) (f : P4) (run : List AV → Hp → RV) : Prop :=
  (∀ {xs h v h'}, run xs h = .ok v h' → ∃ fn, P.funcs[f.n]? = some fn ∧ fn.body.isSome = true ∧ (fn.name == "runtime.NumGoroutine") = false ∧
    ∀ (ρ : Emb) (w : World) (args : Array Value), RelH P ρ h w → All2 (RelV ρ) xs args.toList → Calls P f.n args w (RetTo P ρ h w v h')) ∧ ∀ {xs h d h'}, run xs h ≠ .dfr d h'

/-- The table of functions is the program's. -/
structure FTOk (P : Program) (FT : FT) : Prop where
  fn : ∀ {f ps rs body}, F8.get FT f = some (.fn ps rs body) → ∃ fn, P.funcs[f.n]? = some fn ∧ cFn P fn = some (.fn ps rs body)
  orc : ∀ {f run}, F8.get FT f = some (.orc run) → OrcOk P f run

/-! ## Parameters -/
theorem setL_get : ∀ (m i : Nat) (xs : List AV) (tm : Tm) (p : P3), i + m ≤ 512 → xs.length = m → (setL ((List.range' i m).map .of) xs tm).get p = if i ≤ p.n ∧ p.n < i + m then xs.getD (p.n - i) (.t []) else tm.get p
  | 0, i, xs, tm, p, _, _ => by
    have : ¬ (i ≤ p.n ∧ p.n < i + 0) := by omega
    rw [if_neg this]; rfl
  | m + 1, i, [], tm, p, _, h => by cases h
  | m + 1, i, x :: xs, tm, p, hi, h => by
    rw [List.range'_succ, List.map_cons]
    show (setL ((List.range' (i + 1) m).map .of) xs (tm.set (.of i) x)).get p = _
    rw [setL_get m (i + 1) xs _ p (by omega) (by simpa using h), T8.get_set]
    have hn : (P3.of i).n = i := P3.n_of (by omega)
    by_cases h1 : i + 1 ≤ p.n ∧ p.n < i + 1 + m
    · rw [if_pos h1, if_pos (by omega)]
      obtain ⟨j, hj⟩ : ∃ j, p.n - i = j + 1 := ⟨p.n - i - 1, by omega⟩
      rw [hj]
      have : p.n - (i + 1) = j := by omega
      rw [this]; rfl
    · rw [if_neg h1]
      by_cases h2 : P3.of i = p
      · rw [if_pos h2, ← h2, hn, if_pos (by omega)]; simp
      · have h3 : p.n ≠ i := fun e => h2 (P3.n_inj (by rw [hn, e]))
        rw [if_neg h2, if_neg (by omega)]

theorem params_rel {ρ : Emb} {xs : List AV} {args : Array Value} {k n : Nat} (hk : k ≤ n) (hn : n ≤ 512) (hl : k = xs.length) (ha : All2 (RelV ρ) xs args.toList) :
    RelT ρ (setL ((List.range k).map .of) xs (T8.all (.t []))) (args ++ Array.replicate (n - args.size) undef) ∧ (args ++ Array.replicate (n - args.size) undef).size = n := by
  have hsz : args.size = k := by rw [hl, forall₂_length ha, Array.length_toList]
  refine ⟨⟨fun p => ?_⟩, by simp; omega⟩
  rw [List.range_eq_range', setL_get k 0 xs _ p (by omega) hl.symm, T8.get_all]
  have hget : (args ++ Array.replicate (n - args.size) undef).getD p.n undef = if p.n < args.size then args.getD p.n undef else undef := by
    rw [Array.getD_eq_getD_getElem?, Array.getD_eq_getD_getElem?, Array.getElem?_append]
    split
    · rfl
    · rw [Array.getElem?_replicate]; split <;> rfl
  rw [hget]
  by_cases h : p.n < k
  · rw [if_pos ⟨Nat.zero_le _, by omega⟩, if_pos (by omega), Nat.sub_zero]
    have hx : xs[p.n]? = some xs[p.n] := List.getElem?_eq_getElem (by omega)
    obtain ⟨y, hy, hr⟩ := forall₂_get ha p.n _ hx
    rw [List.getD_eq_getElem?_getD, hx, Option.getD_some, Array.getD_eq_getD_getElem?]
    rw [Array.getElem?_toList] at hy
    rw [hy]; exact hr
  · rw [if_neg (by omega), if_neg (by omega)]; exact RelV.undef ρ

/-! ## Results -/
theorem resOf_sound {ρ : Emb} {tm : Tm} {h : Hp} {w : World} {tmps : Array Value} {r : ResultVar} {x : Rs} {v : AV} (ht : RelT ρ tm tmps) (H : RelH P ρ h w) (hx : rsOf P r = some x) (hr : resOf tm h x = some v) :
    ∃ v', (match r with | .tmp t => (pure (tmps.getD t undef) : Sem Value) | .cell a t => do loadVar t (← asAddr (tmps.getD a undef))).run P w = .ok v' w ∧ RelV ρ v v' := by
  cases r with
  | tmp t =>
    simp only [rsOf] at hx
    split at hx
    · rename_i hlt
      cases hx
      simp only [resOf, T8.getK_id] at hr
      cases hr
      have := ht.at_ (.of t)
      rw [P3.n_of hlt] at this
      exact ⟨_, by simp, this⟩
    · cases hx
  | cell a t =>
    simp only [rsOf] at hx
    split at hx
    · rename_i hlt
      have hta := ht.at_ (.of a)
      rw [P3.n_of hlt] at hta
      split at hx
      · rename_i hag
        obtain ⟨n, hn, rfl⟩ := Option.map_eq_some_iff.1 hx
        simp only [resOf, T8.getK_id] at hr
        obtain ⟨v', g1, g2⟩ := rLda_sound (P := P) H hag hn hta hr
        refine ⟨v', ?_, g2⟩
        have hp : ∃ ad, tmps.getD a undef = .pointer (some ad) := by
          unfold rLda at hr
          split at hr
          · rename_i r o he
            rw [he] at hta
            obtain ⟨ad, e, _⟩ := hta
            exact ⟨ad, e⟩
          · cases hr
        obtain ⟨ad, hp⟩ := hp
        rw [hp] at g1
        show (do loadVar t (← asAddr (tmps.getD a undef)) : Sem Value).run P w = _
        rw [hp]
        simpa [Instr.loadAt, Instr.sureAddr, asAddr] using g1
      · rename_i hag
        split at hx
        · rename_i hu
          cases hx
          simp only [resOf, T8.getK_id] at hr
          obtain ⟨ad, v', g1, g2, s, rfl, g3⟩ := rLd_sound (P := P) H hta hr
          obtain ⟨u, hu⟩ := Option.isSome_iff_exists.1 hu
          have := ld_run (P := P) (w := w) hu (by simpa using hag) g2
          refine ⟨v', ?_, g3⟩
          show (do loadVar t (← asAddr (tmps.getD a undef)) : Sem Value).run P w = _
          rw [g1]
          simpa [Instr.loadAt, Instr.sureAddr, asAddr] using this
        · cases hx
    · cases hx

theorem resAll_cons (tm : Tm) (h : Hp) (x : Rs) (l : List Rs) : resAll tm h (x :: l) = match resOf tm h x, resAll tm h l with | some v, some l => some (v :: l) | _, _ => none := rfl

theorem resAll_sound {ρ : Emb} {tm : Tm} {h : Hp} {w : World} {tmps : Array Value} (ht : RelT ρ tm tmps) (H : RelH P ρ h w) : ∀ {l : List ResultVar} {rs : List Rs} {vs : List AV}, l.mapM (rsOf P) = some rs → resAll tm h rs = some vs →
    ∃ vs' : List Value, (l.mapM (m := Sem) fun | .tmp t => pure (tmps.getD t undef) | .cell a t => do loadVar t (← asAddr (tmps.getD a undef))).run P w = .ok vs' w ∧ All2 (RelV ρ) vs vs'
  | [], rs, vs, hl, hr => by
    simp only [List.mapM_nil, pure, Option.some.injEq] at hl
    subst hl
    cases hr
    exact ⟨[], by simp, .nil⟩
  | r :: l, rs, vs, hl, hr => by
    rw [List.mapM_cons] at hl
    simp only [bind, Option.bind_eq_some_iff, pure, Option.some.injEq] at hl
    obtain ⟨x, hx, xs, hxs, rfl⟩ := hl
    rw [resAll_cons] at hr
    split at hr
    · rename_i v vs1 h1 h2
      cases hr
      obtain ⟨v', e1, e2⟩ := resOf_sound ht H hx h1
      obtain ⟨vs', e3, e4⟩ := resAll_sound ht H hxs h2
      refine ⟨v' :: vs', ?_, .cons e2 e4⟩
      rw [List.mapM_cons, Sem.run_bind, e1]
      simp only [Result.andThen_ok, Sem.run_bind, e3, Sem.run_pure]
    · cases hr

theorem ones_all : ∀ {l : List AV}, ones l = true → ∀ v ∈ l, isOne v = true
  | [], _, v, hv => by cases hv
  | x :: l, h, v, hv => by
    have h : (bif isOne x then ones l else false) = true := h
    cases h1 : isOne x with
    | false => rw [h1] at h; cases h
    | true =>
      rw [h1, cond_true] at h
      rcases List.mem_cons.1 hv with rfl | hv
      · exact h1
      · exact ones_all h v hv

theorem all2_one {ρ : Emb} : ∀ {l : List AV} {m : List Value}, All2 (RelV ρ) l m → (∀ v ∈ l, isOne v = true) → All2 (RelV0 ρ) l m
  | [], _, h, _ => by cases h; exact .nil
  | x :: l, _, h, hall => by
    cases h with
    | cons hx h =>
      refine .cons ?_ (all2_one h fun v hv => hall v (by simp [hv]))
      have := hall x (by simp)
      cases x with
      | t l => cases this
      | c s => exact hx
      | g l => exact hx

theorem results_sound {ρ : Emb} {tm : Tm} {h h' : Hp} {w : World} {tmps : Array Value} {fn : Func} {rs : List Rs} {v : AV} (ht : RelT ρ tm tmps) (H : RelH P ρ h w) (hl : fn.results.toList.mapM (rsOf P) = some rs) (hr : results tm h rs = .ok v h') :
    h' = h ∧ ∃ v', (Go.results fn tmps).run P w = .ok v' w ∧ RelV ρ v v' := by
  unfold results at hr
  cases hra : resAll tm h rs with
  | none => rw [hra] at hr; cases hr
  | some vs =>
    obtain ⟨vs', e1, e2⟩ := resAll_sound ht H hl hra
    have hm : (fn.results.mapM (m := Sem) fun | .tmp t => pure (tmps.getD t undef) | .cell a t => do loadVar t (← asAddr (tmps.getD a undef))).run P w = .ok vs'.toArray w := by
      rw [Array.mapM_eq_mapM_toList]
      generalize hg : List.mapM (m := Sem) _ fn.results.toList = s at e1 ⊢
      simp [e1]
    unfold Go.results
    have hgo : ∀ z : Value, (if hz : vs'.toArray.size = 1 then vs'.toArray[0] else .tuple vs'.toArray) = z → (do
        let vs ← fn.results.mapM (m := Sem) fun | .tmp t => pure (tmps.getD t undef) | .cell a t => do loadVar t (← asAddr (tmps.getD a undef))
        pure (if h : vs.size = 1 then vs[0] else .tuple vs) : Sem Value).run P w = .ok z w := fun z hz => by
      rw [Sem.run_bind, hm, Result.andThen_ok, Sem.run_pure, hz]
    rw [hra] at hr
    split at hr
    · rename_i u hu
      cases hu
      cases hr
      cases e2 with
      | cons hx ha =>
        cases ha
        exact ⟨rfl, _, hgo _ (by simp), hx⟩
    · rename_i hne hu
      cases hu
      cases ho : ones vs with
      | false => rw [ho] at hr; cases hr
      | true =>
        rw [ho, cond_true] at hr
        cases hr
        have hlen := forall₂_length e2
        have h1 : vs'.toArray.size ≠ 1 := fun e => by
          rw [List.size_toArray] at e
          rw [e] at hlen
          match vs, hlen with
          | [u], _ => exact hne u rfl
        exact ⟨rfl, .tuple vs'.toArray, hgo _ (by rw [dif_neg h1]), vs'.toArray, rfl, by simpa using all2_one e2 (ones_all ho)⟩
    · rename_i hu; cases hu

theorem results_nodfr {tm : Tm} {h h' : Hp} {rs : List Rs} {d : Df} : results tm h rs ≠ .dfr d h' := by
  intro hr
  unfold results at hr
  split at hr
  · cases hr
  · simp only [Bool.cond_eq_ite] at hr
    split at hr <;> cases hr
  · cases hr

/-! ## A function's body -/
structure FnOf (P : Program) (f : P4) (fn : Func) (c : Code) (ps : List P3) (rs : List Rs) (body : St) : Prop where
  hf : P.funcs[f.n]? = some fn
  hb : fn.body = some c
  nt : fn.ntmps ≤ 512
  name : (fn.name == "runtime.NumGoroutine") = false
  ps : ∃ k, k ≤ fn.ntmps ∧ ps = (List.range k).map .of
  rs : fn.results.toList.mapM (rsOf P) = some rs
  code : cCode P fn.ntmps c = body

theorem fnOf {FT : FT} (hFT : FTOk P FT) {f : P4} {ps : List P3} {rs : List Rs} {body : St} (h : F8.get FT f = some (.fn ps rs body)) : ∃ fn c, FnOf P f fn c ps rs body := by
  obtain ⟨fn, h1, h2⟩ := hFT.fn h
  unfold cFn at h2
  simp only [bind, Option.bind_eq_some_iff] at h2
  obtain ⟨c, hb, h2⟩ := h2
  split at h2
  · cases h2
  · rename_i hn
    simp only [Option.bind_eq_some_iff, pure, Option.some.injEq, AFn.fn.injEq] at h2
    obtain ⟨rs', hrs, rfl, rfl, rfl⟩ := h2
    simp only [Bool.or_eq_true, decide_eq_true_eq, not_or, Nat.not_lt, Bool.not_eq_true] at hn
    exact ⟨fn, c, h1, hb, hn.1.1, hn.2, ⟨_, hn.1.2, rfl⟩, hrs, rfl⟩

theorem evCall_eq (FT : FT) (ev : Ev) (f : P4) (xs : List AV) (h : Hp) : evCall FT ev f xs h = match F8.get FT f with
    | none => .no
    | some (.fn ps rs body) => evFn ev (evCall0 FT ev) ps rs body xs h
    | some (.orc run) => run xs h := by
  unfold evCall
  rw [F8.getK_eq]
  cases F8.get FT f with
  | none => rfl
  | some x => cases x <;> rfl

theorem evCall0_eq (FT : FT) (ev : Ev) (f : P4) (xs : List AV) (h : Hp) : evCall0 FT ev f xs h = match F8.get FT f with
    | some (.fn ps rs body) => if ps.length = xs.length then (match ev false body (setL ps xs (T8.all (.t []))) [] h with
      | .ok (.exit _) _ _ _ => .no
      | .ok _ tm [] h => results tm h rs
      | _ => .no) else .no
    | _ => .no := by
  unfold evCall0
  rw [F8.getK_eq]
  cases F8.get FT f with
  | none => rfl
  | some x =>
    cases x with
    | fn ps rs body => exact setAll_eq _ _ _ _ _
    | orc run => rfl

/-- A function that puts nothing off, entered as a deferred call. -/
theorem call0_ok {FT : FT} {ev : Ev} (hFT : FTOk P FT) (hev : EvOk P ev) {f : P4} {xs : List AV} {h h' : Hp} {v : AV} (hr : evCall0 FT ev f xs h = .ok v h') {ρ : Emb} {w : World} {args : Array Value} (H : RelH P ρ h w) (ha : All2 (RelV ρ) xs args.toList) {u : FrameMode} :
    ∃ fn, P.funcs[f.n]? = some fn ∧ fn.body.isSome = true ∧ (fn.name == "runtime.NumGoroutine") = false ∧ CallsDIn (FW none) 0 P f.n args u w fun e u' w' => u' = u ∧ RetTo P ρ h w v h' e w' := by
  rw [evCall0_eq] at hr
  split at hr
  · rename_i ps rs body hg
    obtain ⟨fn, c, F⟩ := fnOf hFT hg
    refine ⟨fn, F.hf, by rw [F.hb]; rfl, F.name, ?_⟩
    split at hr
    · rename_i hlen
      obtain ⟨k, hk, rfl⟩ := F.ps
      obtain ⟨r1, r2⟩ := params_rel hk F.nt (by simpa using hlen) ha
      refine callsDIn_of_wp F.hf F.hb trivial ?_
      have body_ok : ∀ {e : Ex} {tm : Tm} {h1 : Hp}, ev false body (setL ((List.range k).map .of) xs (T8.all (.t []))) [] h = .ok e tm [] h1 → (∀ id, e ≠ .exit id) → results tm h1 rs = .ok v h' →
          c.wpIn (FW none) 0 P (bodyPost P fn (RetTo P ρ h w v h')) { tmps := args ++ Array.replicate (fn.ntmps - args.size) undef, defers := [] } w := fun {e tm h1} he hne hres => by
        obtain ⟨_, hw⟩ := hev.go he fun e => by cases e
        refine hw (ρ0 := ρ) (h0 := h) (w0 := w) rfl F.nt F.code ⟨ρ, r2, r1, .nil, H, Step.refl _ _ _⟩ fun a1 w1 S => ?_
        obtain ⟨ρ1, s1, s2, s3, s4, s5⟩ := S
        obtain ⟨rfl, v', g1, g2⟩ := results_sound s2 s4 F.rs hres
        have hnil : a1.defers = [] := by generalize a1.defers = l at s3; cases s3; rfl
        have hfin : a1.defers = [] ∧ ∃ v, (Go.results fn a1.tmps).run P w1 = .ok v w1 ∧ RetTo P ρ h w _ _ (.returned v) w1 := ⟨hnil, v', g1, v', ρ1, rfl, g2, s4, s5⟩
        cases e with
        | nor => exact hfin
        | ret => exact hfin
        | exit id => exact absurd rfl (hne id)
      split at hr
      · cases hr
      · rename_i e tm h1 hne he
        exact body_ok he (fun id e => hne id e) hr
      · cases hr
    · cases hr
  · cases hr

/-- What was put off, last first. -/
theorem defers_ok {FT : FT} {ev : Ev} (hFT : FTOk P FT) (hev : EvOk P ev) {fn : Func} {tm : Tm} {tmps : Array Value} {rs : List Rs} {v : AV} {hE : Hp} {ρ0 : Emb} {h0 : Hp} {w0 : World} (hrs : fn.results.toList.mapM (rsOf P) = some rs) : ∀ {ds : List Df} {ds' : List Deferred} {ρ : Emb} {h : Hp} {w : World},
    RelDs ρ ds ds' → RelT ρ tm tmps → RelH P ρ h w → Step ρ0 h0 w0 ρ h w → doDf (evCall0 FT ev) ds h (fun h => results tm h rs) = .ok v hE → LeavesInM (FW none) 0 P fn tmps (RetTo P ρ0 h0 w0 v hE) ds' .returning w
  | [], _, ρ, h, w, hd, ht, H, S, hr => by
    cases hd
    have hr : results tm h rs = .ok v hE := hr
    obtain ⟨rfl, v', g1, g2⟩ := results_sound ht H hrs hr
    exact ⟨v', g1, v', ρ, rfl, g2, H, S⟩
  | d :: ds, _, ρ, h, w, hd, ht, H, S, hr => by
    cases hd with
    | @cons _ d' _ ds' hd1 hd =>
      refine ⟨(by intro e; cases e), ?_⟩
      cases d with
      | coll r =>
        obtain ⟨b, e1, e2⟩ := hd1
        have hr : (match h.get r with | some (.dfr true) => h.setK r (some (.dfr false)) fun h => doDf (evCall0 FT ev) ds h (fun h => results tm h rs) | _ => .no) = .ok v hE := hr
        split at hr
        · rename_i hg
          rw [Hp.setK_eq] at hr
          obtain ⟨b', o, g1, g2, g3⟩ := H.blk _ _ hg
          rw [e1] at g1; cases g1
          obtain ⟨_, g3⟩ := g3
          have g3 : w.heap[b]? = some (.deferred (some [])) := g3
          obtain ⟨u1, u2⟩ := H.upd (B' := .dfr false) hg e1 rfl (onlyAt_set (.deferred none)) ⟨rfl, by simp [g2]⟩
          exact .inl ⟨b, _, e2, run_takeDeferred g3, defers_ok hFT hev hrs hd ht u1 (S.trans u2) hr⟩
        · cases hr
      | call f ys =>
        obtain ⟨caps, e1, e2⟩ := hd1
        have hr : (match evCall0 FT ev f ys h with | .ok _ h => doDf (evCall0 FT ev) ds h (fun h => results tm h rs) | _ => .no) = .ok v hE := hr
        split at hr
        · rename_i v1 h1 hc
          obtain ⟨fn1, f1, f2, f3, f4⟩ := call0_ok hFT hev hc H e2 (u := .returning)
          refine .inr ⟨fun e => (by cases e), _, _, f.n, d'.args ++ caps, e1, ?_, fun _ _ => trivial, ?_⟩
          · rw [e1]; exact run_callFunc_body f1 f2 f3 w
          · refine ⟨f4.1, fun c0 cs hu hroom => ?_⟩
            obtain ⟨e, u', w', fr, ⟨rfl, v', ρ', rfl, q1, q2, q3⟩, rest⟩ := f4.2 c0 cs hu hroom
            exact ⟨_, _, w', fr, defers_ok hFT hev hrs (RelDs.mono q3.le hd) (ht.mono q3.le) q2 (S.trans q3) hr, rest⟩
        · cases hr

theorem doDf_nodfr {cl : Cl} {tm : Tm} {rs : List Rs} {d : Df} {h' : Hp} : ∀ {ds : List Df} {h : Hp}, doDf cl ds h (fun h => results tm h rs) ≠ .dfr d h'
  | [], h, hr => results_nodfr hr
  | x :: ds, h, hr => by
    cases x with
    | coll r =>
      have hr : (match h.get r with | some (.dfr true) => h.setK r (some (.dfr false)) fun h => doDf cl ds h (fun h => results tm h rs) | _ => .no) = .dfr d h' := hr
      split at hr
      · rw [Hp.setK_eq] at hr; exact doDf_nodfr hr
      · cases hr
    | call f ys =>
      have hr : (match cl f ys h with | .ok _ h => doDf cl ds h (fun h => results tm h rs) | _ => .no) = .dfr d h' := hr
      split at hr
      · exact doDf_nodfr hr
      · cases hr

theorem call_ok {FT : FT} {ev : Ev} (hFT : FTOk P FT) (hev : EvOk P ev) : CallOk P (evCall FT ev) where
  nodfr := by
    intro f xs h d h' hr
    rw [evCall_eq] at hr
    split at hr
    · cases hr
    · unfold evFn at hr
      rw [setAll_eq] at hr
      split at hr
      · split at hr
        · cases hr
        · exact doDf_nodfr hr
        · cases hr
      · cases hr
    · rename_i run hg
      exact (hFT.orc hg).2 hr
  ret := by
    intro f xs h v h' hr
    rw [evCall_eq] at hr
    split at hr
    · cases hr
    · rename_i ps rs body hg
      obtain ⟨fn, c, F⟩ := fnOf hFT hg
      refine ⟨fn, F.hf, by rw [F.hb]; rfl, F.name, fun ρ w args H ha => ?_⟩
      unfold evFn at hr
      rw [setAll_eq] at hr
      split at hr
      · rename_i hlen
        obtain ⟨k, hk, rfl⟩ := F.ps
        obtain ⟨r1, r2⟩ := params_rel hk F.nt (by simpa using hlen) ha
        refine (callsIn_fw (ro := none) (n := 0)).1 (callsIn_of_wp_marks F.hf F.hb trivial ?_)
        split at hr
        · cases hr
        · rename_i e tm ds h1 hne he
          obtain ⟨_, hw⟩ := hev.go he fun e => by cases e
          refine hw (ρ0 := ρ) (h0 := h) (w0 := w) rfl F.nt F.code ⟨ρ, r2, r1, .nil, H, Step.refl _ _ _⟩ fun a1 w1 S => ?_
          obtain ⟨ρ1, s1, s2, s3, s4, s5⟩ := S
          have hl := defers_ok hFT hev F.rs s3 s2 s4 s5 hr
          cases e with
          | nor => exact hl
          | ret => exact hl
          | exit id => exact (hne id rfl).elim
        · cases hr
      · cases hr
    · rename_i run hg
      exact (hFT.orc hg).1 hr

end Go.AM

/-
  The machine's run is the model's. Conditions stand at each law.
-/
namespace Go.AM
variable {P : Program} {FT : FT}

theorem loop_ok {N : Nat} (ih : ∀ k, k ≤ N → EvOk P (evS FT k)) {rd : Bool} {x : St} : ∀ {j : Nat}, j ≤ N + 1 → ∀ {tm tmF : Tm} {ds dsF : List Df} {h hF : Hp} {e : Ex}, evS FT j rd (.loop x) tm ds h = .ok e tmF dsF hF → (rd = true → ds = []) → (rd = true → dsF = []) ∧
  ∀ {ro : Option Nat} {nt : Nat} {c : Code} {a : Act} {w : World} {ρ0 : Emb} {h0 : Hp} {w0 : World} {Q : Exit → Act → World → Prop}, ro.isSome = rd → nt ≤ 512 → cCode P nt c = x → Stands P ρ0 h0 w0 nt tm ds h a w →
    (∀ a w, Stands P ρ0 h0 w0 nt tmF dsF hF a w → Q e.out a w) → Code.roundsIn (FW ro) 0 P c Q j a w
  | 0, _, _, _, _, _, _, _, _, hr, _ => by cases hr
  | j + 1, hj, tm, tmF, ds, dsF, h, hF, e, hr, hd => by
    have hr : (match evS FT j rd x tm ds h with
      | .ok .nor tm ds h => evS FT j rd (.loop x) tm ds h
      | r => r) = .ok e tmF dsF hF := hr
    split at hr
    · rename_i tm1 ds1 h1 he
      obtain ⟨d1, w1⟩ := (ih j (by omega)).go he hd
      obtain ⟨d2, w2⟩ := loop_ok ih (by omega) hr d1
      refine ⟨d2, fun {ro nt c a w ρ0 h0 w0 Q} hro hnt hc S hQ => ?_⟩
      rw [roundsIn_succ]
      exact w1 hro hnt hc S fun a' w' S' => w2 hro hnt hc S' hQ
    · rename_i hne
      obtain ⟨d1, w1⟩ := (ih j (by omega)).go hr hd
      refine ⟨d1, fun {ro nt c a w ρ0 h0 w0 Q} hro hnt hc S hQ => ?_⟩
      rw [roundsIn_succ]
      refine w1 hro hnt hc S fun a' w' S' => ?_
      have := hQ a' w' S'
      cases e with
      | nor => exact absurd hr (hne _ _ _)
      | exit id => exact this
      | ret => exact this

theorem cReg_or (nt : Nat) (ops : Array Oper) (d : Bool) : (∃ l, cReg P nt ops d = .reg l) ∨ cReg P nt ops d = .bad := by
  unfold cReg
  split
  · split
    · exact .inl ⟨_, rfl⟩
    · exact .inr rfl
  · split
    · exact .inl ⟨_, rfl⟩
    · exact .inr rfl

theorem code_ok (hmix : P.follows .mixedOrders = true) (hFT : FTOk P FT) {N : Nat} (ih : ∀ k, k ≤ N → EvOk P (evS FT k)) {ro : Option Nat} {nt : Nat} (hnt : nt ≤ 512) : ∀ (c : Code) {tm tmF : Tm} {ds dsF : List Df} {h hF : Hp} {e : Ex} {a : Act} {w : World} {ρ0 : Emb} {h0 : Hp} {w0 : World} {Q : Exit → Act → World → Prop},
    evS FT (N + 1) ro.isSome (cCode P nt c) tm ds h = .ok e tmF dsF hF → (ro.isSome = true → ds = []) → (ro.isSome = true → dsF = []) → Stands P ρ0 h0 w0 nt tm ds h a w → (∀ a w, Stands P ρ0 h0 w0 nt tmF dsF hF a w → Q e.out a w) → c.wpIn (FW ro) 0 P Q a w := by
  have hcl := call_ok hFT (ih N (Nat.le_refl _))
  have hyl := round_ok (ih N (Nat.le_refl _))
  have hN : EvOk P (evS FT N) := ih N (Nat.le_refl _)
  intro c
  induction c with
  | skip =>
    intro tm tmF ds dsF h hF e a w ρ0 h0 w0 Q hr hd hdF S hQ
    cases hr
    exact wpIn_skip (hQ _ _ S)
  | label l =>
    intro tm tmF ds dsF h hF e a w ρ0 h0 w0 Q hr hd hdF S hQ
    cases hr
    exact wpIn_label (hQ _ _ S)
  | region id ops d =>
    intro tm tmF ds dsF h hF e a w ρ0 h0 w0 Q hr hd hdF S hQ
    rcases cReg_or (P := P) nt ops d with ⟨l, hc⟩ | hc
    · skip
      have hr : evS FT (N + 1) ro.isSome (cReg P nt ops d) tm ds h = .ok e tmF dsF hF := hr
      rw [hc] at hr
      have hr : (match evIs (evCall FT (evS FT N)) (evRound (evS FT N)) l tm ds h with
          | .ok tm ds h => bif ro.isSome then (match ds with | [] => .ok .nor tm ds h | _ => .no) else .ok .nor tm ds h
          | .no => .no) = RS.ok e tmF dsF hF := hr
      split at hr
      · rename_i tm1 ds1 h1 he
        have hfin : e = .nor ∧ tm1 = tmF ∧ ds1 = dsF ∧ h1 = hF := by
          cases hrs : ro.isSome with
          | false => rw [hrs, cond_false] at hr; cases hr; exact ⟨rfl, rfl, rfl, rfl⟩
          | true =>
            rw [hrs, cond_true] at hr
            split at hr
            · cases hr; exact ⟨rfl, rfl, rfl, rfl⟩
            · cases hr
        obtain ⟨rfl, rfl, rfl, rfl⟩ := hfin
        rcases cReg_cases hc with ⟨rfl, dso, h2, h3⟩ | ⟨rfl, h2⟩
        · exact draw_sound hcl hyl hmix hnt h2 h3 hdF he S hQ
        · exact reg_sound hcl hyl hnt hdF h2 he S hQ
      · cases hr
    · have hr : evS FT (N + 1) ro.isSome (cReg P nt ops d) tm ds h = .ok e tmF dsF hF := hr
      rw [hc] at hr; cases hr
  | seq x y ihx ihy =>
    intro tm tmF ds dsF h hF e a w ρ0 h0 w0 Q hr hd hdF S hQ
    have hr : (match evS FT N ro.isSome (cCode P nt x) tm ds h with
        | .ok .nor tm ds h => evS FT N ro.isSome (cCode P nt y) tm ds h
        | r => r) = .ok e tmF dsF hF := hr
    refine wpIn_seq ?_
    split at hr
    · rename_i tm1 ds1 h1 he
      obtain ⟨d1, w1⟩ := hN.go he hd
      obtain ⟨d2, w2⟩ := hN.go hr d1
      exact w1 rfl hnt rfl S fun a' w' S' => w2 rfl hnt rfl S' hQ
    · rename_i hne
      obtain ⟨d1, w1⟩ := hN.go hr hd
      refine w1 rfl hnt rfl S fun a' w' S' => ?_
      have := hQ a' w' S'
      cases e with
      | nor => exact absurd hr (hne _ _ _)
      | exit id => exact this
      | ret => exact this
  | cond c x y ihx ihy =>
    intro tm tmF ds dsF h hF e a w ρ0 h0 w0 Q hr hd hdF S hQ
    cases hc : opdOf c with
    | none =>
      have hr : evS FT (N + 1) ro.isSome (match opdOf c with | some c => .cond c (cCode P nt x) (cCode P nt y) | none => .bad) tm ds h = .ok e tmF dsF hF := hr
      rw [hc] at hr; cases hr
    | some d =>
      have hr : evS FT (N + 1) ro.isSome (match opdOf c with | some c => .cond c (cCode P nt x) (cCode P nt y) | none => .bad) tm ds h = .ok e tmF dsF hF := hr
      rw [hc] at hr
      have hr : (match d.get tm with
          | .c (.b true) => evS FT N ro.isSome (cCode P nt x) tm ds h
          | .c (.b false) => evS FT N ro.isSome (cCode P nt y) tm ds h
          | _ => .no) = .ok e tmF dsF hF := hr
      split at hr
      · rename_i hv
        obtain ⟨d1, w1⟩ := hN.go hr hd
        exact wpIn_cond_true (S.opd hc hv) (w1 rfl hnt rfl S hQ)
      · rename_i hv
        obtain ⟨d1, w1⟩ := hN.go hr hd
        exact wpIn_cond_false (S.opd hc hv) (w1 rfl hnt rfl S hQ)
      · cases hr
  | block id x ihx =>
    intro tm tmF ds dsF h hF e a w ρ0 h0 w0 Q hr hd hdF S hQ
    have hr : (match evS FT N ro.isSome (cCode P nt x) tm ds h with
        | .ok (.exit j) tm ds h => bif Nat.beq j id then RS.ok .nor tm ds h else .ok (.exit j) tm ds h
        | r => r) = .ok e tmF dsF hF := hr
    refine wpIn_block ?_
    split at hr
    · rename_i j tm1 ds1 h1 he
      obtain ⟨d1, w1⟩ := hN.go he hd
      cases hj : Nat.beq j id with
      | true =>
        rw [hj, cond_true] at hr; cases hr
        refine w1 rfl hnt rfl S fun a' w' S' => ?_
        show (if j = id then _ else _)
        rw [if_pos (beq_nat_true hj)]; exact hQ a' w' S'
      | false =>
        rw [hj, cond_false] at hr; cases hr
        refine w1 rfl hnt rfl S fun a' w' S' => ?_
        show (if j = id then _ else _)
        rw [if_neg (fun e => by rw [e] at hj; simp at hj)]; exact hQ a' w' S'
    · rename_i hne
      obtain ⟨d1, w1⟩ := hN.go hr hd
      refine w1 rfl hnt rfl S fun a' w' S' => ?_
      have := hQ a' w' S'
      cases e with
      | nor => exact this
      | exit id => exact absurd hr (hne _ _ _ _)
      | ret => exact this
  | loop x ihx =>
    intro tm tmF ds dsF h hF e a w ρ0 h0 w0 Q hr hd hdF S hQ
    exact wpIn_loop_rounds (N + 1) ((loop_ok ih (Nat.le_refl _) hr hd).2 rfl hnt rfl S hQ)
  | rangeFunc f ps x y ihx ihy =>
    intro tm tmF ds dsF h hF e a w ρ0 h0 w0 Q hr hd hdF S hQ
    have hr : evS FT (N + 1) ro.isSome (match opdOf f with
      | some f => if ps.all (· < nt) then .rf f (ps.toList.map .of) (cCode P nt x) (cCode P nt y) else .bad
      | none => .bad) tm ds h = .ok e tmF dsF hF := hr
    cases hf : opdOf f with
    | none => rw [hf] at hr; cases hr
    | some d =>
      rw [hf] at hr
      simp only at hr
      split at hr
      · rename_i hps
        have hr : evRf (evCall FT (evS FT N)) ro.isSome (d.get tm) (ps.toList.map .of) (cCode P nt x) (cCode P nt y) tm ds h = .ok e tmF dsF hF := hr
        cases ro with
        | some l =>
          exfalso
          unfold evRf at hr
          split at hr
          · simp only [Option.isSome_some, cond_true] at hr; cases hr
          · cases hr
        | none =>
          refine rf_ok hcl hf rfl (fun p hp => ?_) hnt hr S hQ
          rw [Array.all_eq_true_iff_forall_mem] at hps
          simpa using hps p (by simpa using hp)
      · cases hr
  | exit id =>
    intro tm tmF ds dsF h hF e a w ρ0 h0 w0 Q hr hd hdF S hQ
    cases hr
    exact wpIn_exit (hQ _ _ S)
  | ret =>
    intro tm tmF ds dsF h hF e a w ρ0 h0 w0 Q hr hd hdF S hQ
    cases hr
    exact wpIn_ret (hQ _ _ S)
  | scope x ihx =>
    intro tm tmF ds dsF h hF e a w ρ0 h0 w0 Q hr hd hdF S hQ
    refine wpIn_scope (ihx hr hd hdF S fun a' w' S' => ?_)
    have := hQ a' w' S'
    cases e <;> exact this
  | _ =>
    intro tm tmF ds dsF h hF e a w ρ0 h0 w0 Q hr
    cases hr

/-- A round's frame puts nothing off. -/
theorem evS_calm (N : Nat) : ∀ {s : St} {tm tmF : Tm} {ds dsF : List Df} {h hF : Hp} {e : Ex}, evS FT N true s tm ds h = .ok e tmF dsF hF → ds = [] → dsF = [] := by
  induction N with
  | zero => intro s tm tmF ds dsF h hF e hr; cases hr
  | succ N ih =>
    intro s tm tmF ds dsF h hF e hr hd
    cases s with
    | skip => cases hr; exact hd
    | reg l =>
      have hr : (match evIs (evCall FT (evS FT N)) (evRound (evS FT N)) l tm ds h with
          | .ok tm ds h => (match ds with | [] => RS.ok .nor tm ds h | _ => .no)
          | .no => .no) = RS.ok e tmF dsF hF := hr
      split at hr
      · split at hr
        · cases hr; rfl
        · cases hr
      · cases hr
    | seq x y =>
      have hr : (match evS FT N true x tm ds h with | .ok .nor tm ds h => evS FT N true y tm ds h | r => r) = .ok e tmF dsF hF := hr
      split at hr
      · rename_i he; exact ih hr (ih he hd)
      · exact ih hr hd
    | cond c x y =>
      have hr : (match c.get tm with | .c (.b true) => evS FT N true x tm ds h | .c (.b false) => evS FT N true y tm ds h | _ => .no) = .ok e tmF dsF hF := hr
      split at hr
      · exact ih hr hd
      · exact ih hr hd
      · cases hr
    | block id x =>
      have hr : (match evS FT N true x tm ds h with | .ok (.exit j) tm ds h => bif Nat.beq j id then RS.ok .nor tm ds h else .ok (.exit j) tm ds h | r => r) = .ok e tmF dsF hF := hr
      split at hr
      · rename_i j tm1 ds1 h1 he
        have := ih he hd
        cases hj : Nat.beq j id <;> rw [hj] at hr <;> cases hr <;> exact this
      · exact ih hr hd
    | loop x =>
      have hr : (match evS FT N true x tm ds h with | .ok .nor tm ds h => evS FT N true (.loop x) tm ds h | r => r) = .ok e tmF dsF hF := hr
      split at hr
      · rename_i he; exact ih hr (ih he hd)
      · exact ih hr hd
    | exit id => cases hr; exact hd
    | ret => cases hr; exact hd
    | rf f ps x y =>
      have hr : evRf (evCall FT (evS FT N)) true (f.get tm) ps x y tm ds h = .ok e tmF dsF hF := hr
      unfold evRf at hr
      split at hr
      · simp only [cond_true] at hr; cases hr
      · cases hr
    | bad => cases hr

theorem evS_ok (hmix : P.follows .mixedOrders = true) (hFT : FTOk P FT) : ∀ N, ∀ k, k ≤ N → EvOk P (evS FT k)
  | 0, k, hk => by
    obtain rfl : k = 0 := by omega
    refine ⟨fun hr => ?_⟩; cases hr
  | N + 1, k, hk => by
    by_cases h : k ≤ N
    · exact evS_ok hmix hFT N k h
    · obtain rfl : k = N + 1 := by omega
      refine ⟨fun {rd s tm tmF ds dsF h hF e} hr hd => ?_⟩
      have hdF : rd = true → dsF = [] := fun e => by subst e; exact evS_calm _ hr (hd rfl)
      refine ⟨hdF, fun {ro nt c a w ρ0 h0 w0 Q} hro hnt hc S hQ => ?_⟩
      subst hc hro
      exact code_ok hmix hFT (evS_ok hmix hFT N) hnt c hr hd hdF S hQ

/-- **What the machine's run of a call comes to, the model's does.** -/
theorem run_sound (hmix : P.follows .mixedOrders = true) (hFT : FTOk P FT) (N : Nat) : CallOk P (evCall FT (evS FT N)) := call_ok hFT (evS_ok hmix hFT N N (Nat.le_refl _))

end Go.AM

/-
  From the machine's run to a law's row. Conditions stand at each law.
-/
namespace Go.AM
open Go.RowKit Go.ChangeShapes
variable {P : Program}

/-- Nothing that was there can be written. -/
def Still (h : Hp) : Prop := ∀ r B, h.get r = some B → B.wr = false

theorem Step.below {ρ ρ' : Emb} {h h' : Hp} {W W' : World} (hs : Still h) (s : Step ρ h W ρ' h' W') : Below W.heap.size W W' :=
  ⟨s.os, s.tape, s.out, s.size, fun b hb => s.keep b hb fun ⟨r, B, o, h1, h2, _⟩ => by rw [hs r B h1] at h2; cases h2⟩

/-- What the machine answers, as a contract. -/
theorem calls_of_run {cl : Cl} (hcl : CallOk P cl) {f : P4} {xs : List AV} {h h' : Hp} {v : Bool} (hr : cl f xs h = .ok (.c (.b v)) h') {ρ : Emb} {W : World} {args : Array Value} (hs : Still h) (H : RelH P ρ h W) (ha : All2 (RelV ρ) xs args.toList) :
    Calls P f.n args W fun e W' => e = .returned (.bool v) ∧ Below W.heap.size W W' := by
  obtain ⟨fn, _, _, _, h4⟩ := hcl.ret hr
  refine (h4 ρ W args H ha).mono fun e W' ⟨v', ρ', he, r1, r2, r3⟩ => ?_
  have r1 : v' = .bool v := r1
  subst he r1
  exact ⟨rfl, r3.below hs⟩

theorem trodAll_stays {H : Type} {enc : TypeId × Value → H} {W W' : World} {sp : Nat → Bool} (hl : laidOutB P = true) : ∀ {ts : List TypeId} {vs : List Value} {ds : List (DataW H)} {ps : List MemPlace}, DataW.TrodAll enc P W 0 (fun _ => true) true ts vs ds ps →
    (∀ t ∈ ts, P.readableRec t = true ∧ t < P.types.size) → (∀ p ∈ ps, W.sameAt W' p) → (∀ p ∈ ps, sp p.block = true) → DataW.TrodAll enc P W' 0 sp true ts vs ds ps
  | [], vs, ds, ps, h, _, _, _ => by
    obtain ⟨rfl, rfl, rfl⟩ := trodAll_nil h
    exact trodAll_mk0
  | t :: ts, vs, ds, ps, h, ht, hs, hp => by
    obtain ⟨v0, vs0, d0, ds0, p0, q0, rfl, rfl, rfl, h0, r0⟩ := trodAll_cons h
    exact trodAll_cons_mk (WideElems.Trod_stays hl (ht t (by simp)).1 (ht t (by simp)).2 h0 (fun x hx => hs x (by simp [hx])) fun x hx => hp x (by simp [hx]))
      (trodAll_stays hl r0 (fun u hu => ht u (by simp [hu])) (fun x hx => hs x (by simp [hx])) fun x hx => hp x (by simp [hx]))

/-- A law that answers true, and leaves all that was there: its row's post. -/
theorem law_post {H : Type} {enc : TypeId × Value → H} {fn : Func} {s : ChangeSpec} {tb : TypeId} {W W' : World} {args : Array Value} {ds gs : List (DataW H)} {before : List MemPlace} (hl : laidOutB P = true) (hts : ∀ t ∈ fn.params.toList, P.readableRec t = true ∧ t < P.types.size)
    (hvars : s.vars = []) (hspec : s.fn H ds = { results := [.lit (.bool true)], args := ds }) (hres : fn.resultTypes = #[tb]) (hb : P.underlying tb = some .bool)
    (hW : DataW.Whole enc P fn.params.toList s.vars false W args.toList ds gs before) (hB : Below W.heap.size W W') : s.post enc P fn false true false false W args (.bool true) W' := by
  have hW' := hW
  obtain ⟨p, q, hA, hV, hbe, hz, hn⟩ := hW
  rw [hvars] at hV
  obtain ⟨rfl, rfl⟩ := trodVars_none hV
  have hlt : ∀ x ∈ before, x.block < W.heap.size := fun x hx => hW'.lt x hx
  have hbp : before = p := by rw [hbe]; simp
  subst hbp
  have hargs : ∀ sp : Nat → Bool, (∀ x ∈ before, sp x.block = true) → DataW.TrodAll enc P W' 0 sp true fn.params.toList args.toList (s.fn H (ds ++ [])).args before := fun sp hsp => by
    rw [List.append_nil, hspec]
    exact trodAll_stays hl hA hts (fun x hx => hB.same (hlt x hx)) hsp
  have hold : ∀ x ∈ before, (fun b => decide (b < W.heap.size)) x.block = true := fun x hx => by simpa using hlt x hx
  have hresT : ∀ (b : Nat) (sp : Nat → Bool) (hd : Bool), DataW.TrodAll enc P W' b sp hd fn.resultTypes.toList ((Value.bool true).resultList fn.resultTypes.size) (s.fn H (ds ++ [])).results [] := fun b sp hd => by
    rw [List.append_nil, hspec, hres]
    exact trodAll_mk1 (shut_bool hb true)
  have hvarsT : ∀ sp : Nat → Bool, DataW.TrodVars enc P W' sp s.vars (s.fn H (ds ++ [])).vars [] := fun sp => by
    rw [hvars, List.append_nil, hspec]; rfl
  refine ⟨ds, [], before, [], before, [], hW', hresT _ _ _, hargs _ hold, hvarsT _, World.keptBut_mono (fun x hx => ⟨hx, ?_⟩) (hB.frame (· ∈ before)), fun _ => ?_⟩
  · exact Or.inr (by simpa using hx)
  · refine ⟨ok_one hres rfl (okWide_bool_mk hb _), _, _, ([] ++ before) ++ [], ⟨[] ++ before, [], trodAll_append (hargs _ (fun _ _ => rfl)) (hresT _ _ _), hvarsT _, rfl, ?_, ?_⟩, ?_⟩
    · intro b off hp
      have hp' : MemPlace.cell b off ∈ before := by simpa using hp
      rw [hB.frozen (hlt _ hp')]
      exact hz b off (by simpa using hp')
    · intro ha
      have := hn ha
      simpa using this
    · intro x hx _
      simpa using hx

/-! ## What comes in -/
/-- A row that is read alone. -/
theorem RelH.view {ρ : Emb} {h : Hp} {W : World} (H : RelH P ρ h W) (hs : Still h) {b o : Nat} {R : Rope Sc} {vs : List Value} (hb : b < W.heap.size) (hok : R.ok) (hv : W.rangeAt b o vs) (hl : RelL ρ R.toList vs) :
    RelH P (ρ.put h.next (b, o) 0) (h.new (.cells false R)) W ∧ Still (h.new (.cells false R)) ∧ ρ.le (ρ.put h.next (b, o) 0) := by
  have hle := Emb.le_put (e := 0) (x := (b, o)) H.none_next
  have hst : Still (h.new (.cells false R)) := fun r B hr => by
    rw [Hp.get_new] at hr
    split at hr
    · cases hr; rfl
    · exact hs r B hr
  refine ⟨⟨fun r B hr => ?_, fun r x hx => ?_, fun r q B C b o o' _ hr hq _ _ => ⟨hst r B hr, hst q C hq⟩⟩, hst, hle⟩
  · rw [Hp.get_new] at hr
    by_cases e : h.next = r
    · rw [if_pos e] at hr; cases hr; subst e
      exact ⟨b, o, Emb.put_same _ _ _ _, hb, hok, vs, hv, hl.mono hle, fun e => by cases e⟩
    · rw [if_neg e] at hr
      obtain ⟨b', o', h1, h2, h3⟩ := H.blk r B hr
      obtain ⟨h4, h5⟩ := hle _ _ h1
      exact ⟨b', o', h4, h2, by rw [h5]; exact RelB.mono hle rfl h3⟩
  · show r.val < h.next.succ.val
    rw [Id.val_succ]
    rcases Emb.put_get hx with rfl | hx
    · omega
    · have := H.dom r x hx; omega

noncomputable def Hp.none : Hp := ⟨.z, .e⟩
def Emb.none : Emb := ⟨fun _ => Option.none, fun _ => 0⟩
theorem relH_none (W : World) : RelH P Emb.none Hp.none W ∧ Still Hp.none :=
  ⟨⟨(fun r B h => by unfold Hp.none Hp.get at h; rw [HT.get_e] at h; cases h), (fun r x h => by cases h), (fun r q B C b o o' _ h => by unfold Hp.none Hp.get at h; rw [HT.get_e] at h; cases h)⟩,
   fun r B h => by unfold Hp.none Hp.get at h; rw [HT.get_e] at h; cases h⟩

/-- A number for a row that is not looked at. -/
theorem RelH.name {ρ : Emb} {h : Hp} {W : World} (H : RelH P ρ h W) (hs : Still h) (b o : Nat) :
    RelH P (ρ.put h.next (b, o) 0) ⟨h.next.succ, h.t⟩ W ∧ Still ⟨h.next.succ, h.t⟩ ∧ ρ.le (ρ.put h.next (b, o) 0) := by
  have hle := Emb.le_put (e := 0) (x := (b, o)) H.none_next
  refine ⟨⟨fun r B hr => ?_, fun r x hx => ?_, fun r q B C b o o' _ hr hq _ _ => ⟨hs r B hr, hs q C hq⟩⟩, hs, hle⟩
  · obtain ⟨b', o', h1, h2, h3⟩ := H.blk r B hr
    obtain ⟨h4, h5⟩ := hle _ _ h1
    exact ⟨b', o', h4, h2, by rw [h5]; exact RelB.mono hle rfl h3⟩
  · show r.val < h.next.succ.val
    rw [Id.val_succ]
    rcases Emb.put_get hx with rfl | hx
    · omega
    · have := H.dom r x hx; omega

end Go.AM

/-
  A range over a map: whatever its order, each entry comes once. Conditions stand at each law.
-/
namespace Go.AM
open Go.ChangeMaps (setBlock)
variable {P : Program}

/-- A frame that ranges over a map: the map's block and the iterator's are spoken of by nobody. -/
structure Idle (P : Program) (ρ0 : Emb) (h0 : Hp) (w0 : World) (nt bm r : Nat) (fs : List (AV × AV)) (ms : Array MapEntry) (ck : Nat) (seen : Array Nat) (tm : Tm) (h : Hp) (a : Act) (w : World) (ρ : Emb) : Prop where
  size : a.tmps.size = nt
  slots : RelT ρ tm a.tmps
  defs : a.defers = []
  heap : RelH P ρ h w
  step : Step ρ0 h0 w0 ρ h w
  map : w.heap[bm]? = some (.map ms ck)
  mapOut : ¬ Dom ρ h bm
  iter : w.heap[r]? = some (.mapIter (some bm) ck seen ck)
  iterOut : ¬ Dom ρ h r
  new : w0.heap.size ≤ r
  apart : bm ≠ r
  ents : All2 (RelE ρ) fs ms.toList

section
variable {ρ0 ρ : Emb} {h0 h : Hp} {w0 w : World} {nt bm r : Nat} {fs : List (AV × AV)} {ms : Array MapEntry} {ck : Nat} {seen : Array Nat} {tm : Tm} {a : Act}

theorem Dom.out_lt {b : Nat} {o : Obj} (h1 : w.heap[b]? = some o) : b < w.heap.size := (Array.getElem?_eq_some_iff.1 h1).1

/-- Behind what the machine runs, it stands so still. -/
theorem Idle.after (I : Idle P ρ0 h0 w0 nt bm r fs ms ck seen tm h a w ρ) {tm' : Tm} {h' : Hp} {a' : Act} {w' : World} (S : Stands P ρ h w nt tm' [] h' a' w') : ∃ ρ', Idle P ρ0 h0 w0 nt bm r fs ms ck seen tm' h' a' w' ρ' := by
  obtain ⟨ρ', s1, s2, s3, s4, s5⟩ := S
  have hd : a'.defers = [] := by generalize a'.defers = l at s3; cases s3; rfl
  have hb := Dom.out_lt I.map
  have hr := Dom.out_lt I.iter
  refine ⟨ρ', s1, s2, hd, s4, I.step.trans s5, (s5.keep bm hb fun hi => I.mapOut hi.dom).trans I.map, fun hd => ?_, (s5.keep r hr fun hi => I.iterOut hi.dom).trans I.iter, fun hd => ?_, I.new, I.apart, forall₂_imp (fun a b hab => ⟨hab.1.mono s5.le, hab.2.mono s5.le⟩) I.ents⟩
  · rcases s5.dom _ hd with h | h
    · exact I.mapOut h
    · omega
  · rcases s5.dom _ hd with h | h
    · exact I.iterOut h
    · omega

theorem Idle.stands (I : Idle P ρ0 h0 w0 nt bm r fs ms ck seen tm h a w ρ) : Stands P ρ h w nt tm [] h a w :=
  ⟨ρ, I.size, I.slots, by rw [I.defs]; exact .nil, I.heap, Step.refl _ _ _⟩

/-- A slot is laid. -/
theorem Idle.put (I : Idle P ρ0 h0 w0 nt bm r fs ms ck seen tm h a w ρ) {t : Nat} {p : P3} {x : AV} {v : Value} (ht : t < nt) (hp : p.n = t) (hv : RelV ρ x v) : Idle P ρ0 h0 w0 nt bm r fs ms ck seen (tm.set p x) h (a.put (some t) v) w ρ :=
  { I with
    size := by simp [Act.put, I.size]
    slots := by
      show RelT ρ (tm.set p x) (a.tmps.setIfInBounds t v)
      subst hp
      exact I.slots.set (by rw [I.size]; exact ht) hv
    defs := I.defs }

/-- The iterator has moved on. -/
theorem Idle.move (I : Idle P ρ0 h0 w0 nt bm r fs ms ck seen tm h a w ρ) {w1 : World} (hw : w1 = w ∨ w1 = w.drew) (seen' : Array Nat) : Idle P ρ0 h0 w0 nt bm r fs ms ck seen' tm h a (setBlock w1 r (.mapIter (some bm) ck seen' ck)) ρ := by
  have hh : w1.heap = w.heap := by rcases hw with rfl | rfl <;> rfl
  have hr := Dom.out_lt I.iter
  have hoth : ∀ k, k ≠ r → (setBlock w1 r (.mapIter (some bm) ck seen' ck)).heap[k]? = w.heap[k]? := fun k hk => by
    show (w1.heap.setIfInBounds r _)[k]? = _
    rw [Array.getElem?_setIfInBounds, if_neg (fun e => hk e.symm), hh]
  have hsz : (setBlock w1 r (.mapIter (some bm) ck seen' ck)).heap.size = w.heap.size := by show (w1.heap.setIfInBounds r _).size = _; simp [hh]
  have hne : ∀ {q b o B}, h.get q = some B → ρ q = some (b, o) → b ≠ r := fun h1 h2 e => I.iterOut ⟨_, _, _, h1, e ▸ h2⟩
  refine { I with heap := ⟨fun q B hq => ?_, I.heap.dom, I.heap.apart⟩, step := ⟨I.step.le, by rw [hsz]; exact I.step.size, fun b hb hn => ?_, I.step.img, I.step.dom, I.step.next, I.step.fresh, ?_, ?_, ?_⟩, map := (hoth bm I.apart).trans I.map, iter := ?_ }
  · obtain ⟨b, o, h1, h2, h3⟩ := I.heap.blk q B hq
    exact ⟨b, o, h1, by rw [hsz]; exact h2, RelB.mono ρ.le_refl (hoth b (hne hq h1)) h3⟩
  · exact (hoth b (by have := I.new; omega)).trans (I.step.keep b hb hn)
  · rcases hw with rfl | rfl <;> exact I.step.tape
  · rcases hw with rfl | rfl <;> exact I.step.os
  · rcases hw with rfl | rfl <;> exact I.step.out
  · show (w1.heap.setIfInBounds r _)[r]? = _
    rw [Array.getElem?_setIfInBounds, if_pos rfl, hh, if_pos hr]

theorem about_next {o : Oper} {it : Operand} (hop : o.op = .next it false) (w : World) (a : Act) : ∀ f, o.about P w a.eval = some f → (FW none).fn f := fun _ _ => trivial

theorem next_wp {o : Oper} {it : Operand} {next : Act → World → Prop} {Q : Exit → Act → World → Prop} (hop : o.op = .next it false) (I : Idle P ρ0 h0 w0 nt bm r fs ms ck seen tm h a w ρ) (hit : a.eval it = .pointer (some ⟨r, 0, none⟩)) (hold : ∀ x ∈ ms.toList, x.born < ck)
    (h1 : (leftOf ms seen).size = 0 → next (a.put o.dst (.tuple #[.bool false])) w)
    (h2 : ∀ e ∈ (leftOf ms seen).toList, ∀ w1, (w1 = w ∨ w1 = w.drew) → next (a.put o.dst (.tuple #[.bool true, e.key, e.val])) (setBlock w1 r (.mapIter (some bm) ck (seen.push e.born) ck))) : o.wpIn (FW none) 0 P a w next Q := by
  refine ⟨about_fw, ?_⟩
  have he : Oper.semAt (FW none).round a.eval o = (do pure (Next.value (← Instr.next (.pointer (some ⟨r, 0, none⟩)) false o.type))) := by
    show execOp a.eval o = _
    unfold execOp
    simp only [hop, hit]
  rw [he]
  rcases run_next_at (P := P) w o.type r bm ck ck seen ms ck I.iter I.map hold (Nat.le_refl _) with ⟨h0, hr⟩ | ⟨e, hem, w1, hw1, hr⟩
  · have : (do pure (Next.value (← Instr.next (.pointer (some ⟨r, 0, none⟩)) false o.type)) : Sem Next).run P w = .ok (.value (.tuple #[.bool false])) w := by simp [hr]
    rw [this]; exact h1 h0
  · have : (do pure (Next.value (← Instr.next (.pointer (some ⟨r, 0, none⟩)) false o.type)) : Sem Next).run P w = .ok (.value (.tuple #[.bool true, e.key, e.val])) (setBlock w1 r (.mapIter (some bm) ck (seen.push e.born) ck)) := by simp [hr]
    rw [this]; exact h2 e hem w1 hw1

theorem entry_wp {o : Oper} {it : Operand} {next : Act → World → Prop} {Q : Exit → Act → World → Prop} {e : MapEntry} (hop : o.op = .entry it) (I : Idle P ρ0 h0 w0 nt bm r fs ms ck (seen.push e.born) tm h a w ρ) (hit : a.eval it = .pointer (some ⟨r, 0, none⟩)) (he : e ∈ ms.toList) (hn : (ms.toList.map (·.born)).Nodup)
    (h1 : next (a.put o.dst (.tuple #[e.key, e.val])) w) : o.wpIn (FW none) 0 P a w next Q := by
  refine ⟨about_fw, ?_⟩
  have hx : Oper.semAt (FW none).round a.eval o = (do pure (Next.value (← Instr.entry (.pointer (some ⟨r, 0, none⟩))))) := by
    show execOp a.eval o = _
    unfold execOp
    simp only [hop, hit]
  rw [hx]
  have hr := run_entry_at (P := P) w r bm ck seen ms ck e I.iter I.map he hn
  have : (do pure (Next.value (← Instr.entry (.pointer (some ⟨r, 0, none⟩)))) : Sem Next).run P w = .ok (.value (.tuple #[e.key, e.val])) w := by simp [hr]
  rw [this]; exact h1

/-- An operation without a guard, at its place in a region. -/
theorem wpOp_free {F : Fence} {n : Nat} {ops : Array Oper} {i : Nat} {o : Oper} {a : Act} {w : World} {K : Act → World → Prop} {Q : Exit → Act → World → Prop} (ho : ops[i]? = some o) (hg : o.guard = none) (h : o.wpIn F n P a w K Q) : wpOpIn F n P ops Q i K a w := by
  unfold wpOpIn
  simp only [ho]
  have : Region.wanted o (yielded ops a.tmps) = true := by unfold Region.wanted; rw [hg]
  rw [this, if_pos rfl]; exact h

/-- Which entries have come: their places, in order. -/
structure Came (fs : List (AV × AV)) (ms : Array MapEntry) (is : List Nat) (seen : Array Nat) : Prop where
  nodup : is.Nodup
  lt : ∀ i ∈ is, i < ms.size
  seen : seen.toList = is.filterMap fun i => (ms[i]?).map (·.born)

def came (fs : List (AV × AV)) (is : List Nat) : List (AV × AV) := is.filterMap fun i => fs[i]?

theorem filterMap_range {α : Type} (l : List α) : (List.range l.length).filterMap (fun i => l[i]?) = l := by
  apply List.ext_getElem?
  intro i
  have : ∀ (l : List α), (List.range l.length).filterMap (fun i => l[i]?) = l := fun l => by
    induction l with
    | nil => rfl
    | cons x l ih =>
      rw [List.length_cons, List.range_succ_eq_map, List.filterMap_cons]
      simp only [List.getElem?_cons_zero, List.filterMap_map]
      congr 1
  rw [this]

theorem Came.all {is : List Nat} (C : Came fs ms is seen) (hl : fs.length = ms.size) (hborn : (ms.toList.map (·.born)).Nodup) (h0 : (leftOf ms seen).size = 0) : (came fs is).Perm fs := by
  have hall : ∀ i, i < ms.size → i ∈ is := fun i hi => by
    have hem : leftOf ms seen = #[] := Array.eq_empty_of_size_eq_zero h0
    unfold leftOf at hem
    rw [Array.filter_eq_empty_iff] at hem
    have := hem ms[i] (by simp)
    have hs : seen.contains ms[i].born = true := by simpa using this
    have hs : ms[i].born ∈ seen.toList := by
      rw [Array.mem_toList_iff, ← Array.contains_iff_mem]; exact hs
    rw [C.seen, List.mem_filterMap] at hs
    obtain ⟨j, hj, he⟩ := hs
    have hjl := C.lt j hj
    rw [Array.getElem?_eq_getElem hjl, Option.map_some, Option.some.injEq] at he
    have hij : j = i := by
      have hnd := List.nodup_iff_pairwise_ne.1 hborn
      have e1 : (ms.toList.map (·.born))[j]? = some ms[j].born := by simp [hjl]
      have e2 : (ms.toList.map (·.born))[i]? = some ms[i].born := by simp [hi]
      exact (List.getElem?_inj (by simpa using hjl) hborn).1 (e1.trans (by rw [he, ← e2]))
    rw [← hij]; exact hj
  have hp : is.Perm (List.range fs.length) := by
    rw [List.perm_ext_iff_of_nodup C.nodup List.nodup_range]
    intro i
    rw [List.mem_range, hl]
    exact ⟨fun h => C.lt i h, hall i⟩
  have := hp.filterMap fun i => fs[i]?
  rw [filterMap_range] at this
  exact this

theorem leftOf_mem {e : MapEntry} (he : e ∈ (leftOf ms seen).toList) : ∃ i, ∃ h : i < ms.size, ms[i] = e ∧ e.born ∉ seen.toList := by
  unfold leftOf at he
  rw [Array.mem_toList_iff, Array.mem_filter] at he
  obtain ⟨h1, h2⟩ := he
  obtain ⟨i, hi, rfl⟩ := Array.mem_iff_getElem.1 h1
  refine ⟨i, hi, rfl, fun hm => ?_⟩
  rw [Array.mem_toList_iff, ← Array.contains_iff_mem] at hm
  rw [hm] at h2; cases h2

theorem Came.add {is : List Nat} (C : Came fs ms is seen) {i : Nat} (hi : i < ms.size) (hn : ms[i].born ∉ seen.toList) : i ∉ is ∧ Came fs ms (is ++ [i]) (seen.push ms[i].born) := by
  have hni : i ∉ is := fun hm => hn (by
    rw [C.seen, List.mem_filterMap]
    exact ⟨i, hm, by rw [Array.getElem?_eq_getElem hi]; rfl⟩)
  refine ⟨hni, ⟨?_, fun j hj => ?_, ?_⟩⟩
  · rw [List.nodup_append]
    exact ⟨C.nodup, by simp, fun x hx y hy => by simp at hy; subst hy; exact fun e => hni (e ▸ hx)⟩
  · rcases List.mem_append.1 hj with hj | hj
    · exact C.lt j hj
    · simp at hj; rw [hj]; exact hi
  · rw [Array.toList_push, C.seen, List.filterMap_append]
    simp [hi]

theorem nodup_len : ∀ (n : Nat) {is : List Nat}, is.Nodup → (∀ i ∈ is, i < n) → is.length ≤ n
  | 0, is, _, hl => by
    cases is with
    | nil => exact Nat.le_refl _
    | cons x r => have := hl x (by simp); omega
  | n + 1, is, hn, hl => by
    have ih := nodup_len n (is := is.erase n) (hn.erase n) fun i hi => by
      have h1 := hl i (List.mem_of_mem_erase hi)
      have h2 : i ≠ n := fun e => by rw [e] at hi; exact (List.Nodup.not_mem_erase hn) hi
      omega
    have := List.length_erase (a := n) (l := is)
    split at this <;> omega

end

/-- **A range over a map**, in the translator's make: 'next', its test, the body; whatever the order. -/
theorem range_rule {ρ0 : Emb} {h0 : Hp} {w0 : World} {nt bm r : Nat} {fs : List (AV × AV)} {ms : Array MapEntry} {ck : Nat} {ops1 : Array Oper} {oN oX : Oper} {id1 b t7 t8 t9 : Nat} {B : Code} {J : List (AV × AV) → Tm → Hp → Prop} {Q : Exit → Act → World → Prop}
    (hnt : nt ≤ 512) (h7 : t7 < nt) (h8 : t8 < nt) (h9 : t9 < nt) (hops : ops1 = #[oN, oX]) (hN : oN.op = .next (.tmp t7) false) (hNd : oN.dst = some t8) (hNg : oN.guard = none) (hX : oX.op = .extract (.tmp t8) 0) (hXd : oX.dst = some t9) (hXg : oX.guard = none)
    (h78 : t7 ≠ t8) (h79 : t7 ≠ t9) (hold : ∀ x ∈ ms.toList, x.born < ck) (hborn : (ms.toList.map (·.born)).Nodup) (hlen : fs.length = ms.size)
    (hJ : ∀ (pre : List (AV × AV)) (tm : Tm) (h : Hp) (x y : AV), J pre tm h → J pre ((tm.set (.of t8) x).set (.of t9) y) h)
    (hbody : ∀ (pre : List (AV × AV)) (e : AV × AV) (m : MapEntry) (seen : Array Nat) (tm : Tm) (h : Hp) (a : Act) (w : World) (ρ : Emb), e ∈ fs → m ∈ ms.toList → RelE ρ e m → J pre tm h → a.eval (.tmp t7) = .pointer (some ⟨r, 0, none⟩) → Idle P ρ0 h0 w0 nt bm r fs ms ck (seen.push m.born) tm h a w ρ →
      B.wpIn (FW none) 0 P (Exit.then (fun a' w' => ∃ tm' h' ρ', J (pre ++ [e]) tm' h' ∧ a'.eval (.tmp t7) = .pointer (some ⟨r, 0, none⟩) ∧ Idle P ρ0 h0 w0 nt bm r fs ms ck (seen.push m.born) tm' h' a' w' ρ') (fun _ _ _ => False)) a w)
    (hend : ∀ (pre : List (AV × AV)) (tm : Tm) (h : Hp) (a : Act) (w : World) (ρ : Emb) (seen : Array Nat), pre.Perm fs → J pre tm h → Idle P ρ0 h0 w0 nt bm r fs ms ck seen tm h a w ρ → Q (.exit b) a w) :
    ∀ tm h a w ρ, J [] tm h → a.eval (.tmp t7) = .pointer (some ⟨r, 0, none⟩) → Idle P ρ0 h0 w0 nt bm r fs ms ck #[] tm h a w ρ →
      (Code.loop (.seq (.region id1 ops1 false) (.seq (.cond (.tmp t9) .skip (.exit b)) B))).wpIn (FW none) 0 P Q a w := by
  subst hops
  intro tm h a w ρ hJ0 hit I
  have n8 : (P3.of t8).n = t8 := P3.n_of (by omega)
  have n9 : (P3.of t9).n = t9 := P3.n_of (by omega)
  have hev : ∀ (a : Act) (t : Nat) (v : Value) (d : Nat), d ≠ t → (a.put (some d) v).eval (.tmp t) = a.eval (.tmp t) := fun a t v d hd => by
    show (a.tmps.setIfInBounds d v).getD t undef = a.tmps.getD t undef
    rw [Array.getD_eq_getD_getElem?, Array.getD_eq_getD_getElem?, Array.getElem?_setIfInBounds, if_neg hd]
  have hset : ∀ (a : Act) (t : Nat) (v : Value), t < a.tmps.size → (a.put (some t) v).eval (.tmp t) = v := fun a t v ht => by
    show (a.tmps.setIfInBounds t v).getD t undef = v
    rw [Array.getD_eq_getD_getElem?, Array.getElem?_setIfInBounds, if_pos rfl, if_pos ht]; rfl
  have key : ∀ (m : Nat) (is : List Nat) (seen : Array Nat) (tm : Tm) (h : Hp) (a : Act) (w : World) (ρ : Emb), ms.size - is.length + 1 ≤ m → Came fs ms is seen → J (came fs is) tm h → a.eval (.tmp t7) = .pointer (some ⟨r, 0, none⟩) → Idle P ρ0 h0 w0 nt bm r fs ms ck seen tm h a w ρ →
      Code.roundsIn (FW none) 0 P (.seq (.region id1 #[oN, oX] false) (.seq (.cond (.tmp t9) .skip (.exit b)) B)) Q m a w := by
    intro m
    induction m with
    | zero => intro is seen tm h a w ρ hm; omega
    | succ m ih =>
      intro is seen tm h a w ρ hm C hJ1 hit I
      rw [roundsIn_succ]
      refine wpIn_seq (wpIn_region ?_)
      show wpOpsIn (FW none) 0 P #[oN, oX] _ [0, 1] a w
      rw [wpOpsIn_cons]
      refine wpOp_free (by rfl) hNg ?_
      -- what 'extract' gives
      have ext : ∀ (v : Value) (vs : Array Value) (a : Act) (w : World) (K : Act → World → Prop), a.eval (.tmp t8) = .tuple vs → vs[0]? = some v → K (a.put (some t9) v) w → oX.wpIn (FW none) 0 P a w K (Exit.then (Code.wpIn (FW none) 0 P (.seq (.cond (.tmp t9) .skip (.exit b)) B) (Exit.then (Code.roundsIn (FW none) 0 P (.seq (.region id1 #[oN, oX] false) (.seq (.cond (.tmp t9) .skip (.exit b)) B)) Q m) Q)) (Exit.then (Code.roundsIn (FW none) 0 P (.seq (.region id1 #[oN, oX] false) (.seq (.cond (.tmp t9) .skip (.exit b)) B)) Q m) Q)) := fun v vs a w K hv h0 hK => by
        refine ⟨about_fw, ?_⟩
        have hx : Oper.semAt (FW none).round a.eval oX = (do pure (Next.value (← Instr.extract (.tuple vs) 0))) := by
          show execOp a.eval oX = _
          unfold execOp
          simp only [hX, hv]
        rw [hx]
        have : (do pure (Next.value (← Instr.extract (.tuple vs) 0)) : Sem Next).run P w = .ok (.value v) w := by simp [Instr.extract, h0]
        rw [this, ← hXd] at *
        exact hK
      refine next_wp hN I hit hold (fun hz => ?_) fun e he w1 hw1 => ?_
      · -- nothing is left
        rw [wpOpsIn_cons]
        refine wpOp_free (by rfl) hXg ?_
        rw [hNd]
        refine ext (.bool false) #[.bool false] _ _ _ (hset _ _ _ (by rw [I.size]; exact h8)) rfl ?_
        have I1 := (I.put (p := .of t8) (x := .t [.c (.b false)]) h8 n8 ⟨#[.bool false], rfl, .cons rfl .nil⟩).put (p := .of t9) (x := .c (.b false)) h9 n9 (v := .bool false) rfl
        refine wpIn_seq (wpIn_cond_false (hset _ _ _ (by simp [Act.put, I.size]; exact h9)) (wpIn_exit ?_))
        exact hend _ _ _ _ _ _ _ (C.all hlen hborn hz) (hJ _ _ _ _ _ hJ1) I1
      · obtain ⟨i, hi, hie, hnb⟩ := leftOf_mem he
        subst hie
        obtain ⟨hni, C'⟩ := C.add (fs := fs) hi hnb
        have hfi : i < fs.length := by rw [hlen]; exact hi
        have hfe : fs[i]? = some fs[i] := List.getElem?_eq_getElem hfi
        have hcame : came fs (is ++ [i]) = came fs is ++ [fs[i]] := by
          unfold came; rw [List.filterMap_append]; simp [hfe]
        rw [wpOpsIn_cons]
        refine wpOp_free (by rfl) hXg ?_
        rw [hNd]
        refine ext (.bool true) #[.bool true, ms[i].key, ms[i].val] _ _ _ (hset _ _ _ (by rw [I.size]; exact h8)) rfl ?_
        have hrel : RelE ρ fs[i] ms[i] := by
          obtain ⟨y, h1, h2⟩ := forall₂_get I.ents i _ hfe
          have : y = ms[i] := by
            rw [Array.getElem?_toList, Array.getElem?_eq_getElem hi] at h1; cases h1; rfl
          rw [← this]; exact h2
        have I0 := I.move hw1 (seen.push ms[i].born)
        have I1 := (I0.put (p := .of t8) (x := .t [.c (.b true), fs[i].1, fs[i].2]) (v := .tuple #[.bool true, ms[i].key, ms[i].val]) h8 n8 ⟨#[.bool true, ms[i].key, ms[i].val], rfl, .cons rfl (.cons hrel.1 (.cons hrel.2 .nil))⟩).put (p := .of t9) (x := .c (.b true)) h9 n9 (v := .bool true) rfl
        refine wpIn_seq (wpIn_cond_true (hset _ _ _ (by simp [Act.put, I.size]; exact h9)) (wpIn_skip ?_))
        have hlt : is.length < ms.size := by
          have := nodup_len _ C'.nodup C'.lt
          simp at this; omega
        refine wpIn_mono (hbody (came fs is) fs[i] ms[i] seen _ _ _ _ ρ (List.mem_of_getElem? hfe) (by simp) hrel (hJ _ _ _ _ _ hJ1) (by rw [hev _ _ _ _ (Ne.symm h79), hev _ _ _ _ (Ne.symm h78)]; exact hit) I1) ?_
        intro ex a' w' hq
        cases ex with
        | normal =>
          obtain ⟨tm', h', ρ', q1, q2, q3⟩ := hq
          exact ih (is ++ [i]) _ tm' h' a' w' ρ' (by simp; omega) C' (by rw [hcame]; exact q1) q2 q3
        | _ => exact hq.elim
  exact wpIn_loop_rounds _ (key (ms.size + 1) [] #[] tm h a w ρ (by simp) ⟨List.nodup_nil, (fun i hi => by cases hi), rfl⟩ hJ0 hit I)

end Go.AM

/-
  'maps.Copy' of maps of plain rows by numbers, as a summary. Conditions stand at each law.
-/
namespace Go.AM
open Classical
variable {P : Program}

/-! ## Runs of items, one by one -/
section
variable {cl : Cl} {yl : Yl}
theorem ev_p {p : P3} {op : POp} {tm : Tm} {ds : List Df} {h : Hp} {l : List It} {v : AV} (hv : op.run tm = some v) : evIs cl yl (.o p (.p op) :: l) tm ds h = evIs cl yl l (tm.set p v) ds h := by
  rw [evIs_cons]
  show doOp cl yl p (.p op) tm ds h _ = _
  unfold doOp
  have : (XOp.p op).run cl yl tm h = .ok v h := by show toRV (op.run tm) h = _; rw [hv]; rfl
  rw [this]; simp only [T8.setK_eq]
theorem ev_r {p : P3} {op : ROp} {tm : Tm} {ds : List Df} {h : Hp} {l : List It} {v : AV} (hv : op.run tm h = some v) : evIs cl yl (.o p (.r op) :: l) tm ds h = evIs cl yl l (tm.set p v) ds h := by
  rw [evIs_cons]
  show doOp cl yl p (.r op) tm ds h _ = _
  unfold doOp
  have : (XOp.r op).run cl yl tm h = .ok v h := by show toRV (op.run tm h) h = _; rw [hv]; rfl
  rw [this]; simp only [T8.setK_eq]
theorem ev_new {p : P3} {z : List (Nat × Sc)} {tm : Tm} {ds : List Df} {h : Hp} {l : List It} : evIs cl yl (.o p (.a (.new z)) :: l) tm ds h = evIs cl yl l (tm.set p (.c (.p h.next 0))) ds (h.new (.cells true (ropeOf (runs z)))) := by
  rw [evIs_cons]
  show doOp cl yl p (.a (.new z)) tm ds h _ = _
  unfold doOp
  have : (XOp.a (.new z)).run cl yl tm h = .ok (.c (.p h.next 0)) (h.new (.cells true (ropeOf (runs z)))) := by
    show AOp.new' z tm (fun B f => h.newK B fun r h => RV.ok (f r) h) = _
    unfold AOp.new'
    rw [forceL_eq]
    show (h.newK _ fun r h => RV.ok (AV.c (.p r 0)) h) = _
    rw [Hp.newK_eq]
  rw [this]; simp only [T8.setK_eq]
theorem ev_e {op : EOp} {tm : Tm} {ds : List Df} {h h' : Hp} {l : List It} {v : AV} (hv : op.run cl yl tm h = .ok v h') : evIs cl yl (.o' (.e op) :: l) tm ds h = evIs cl yl l tm ds h' := by
  rw [evIs_cons]
  show doOp' cl yl (.e op) tm ds h _ = _
  unfold doOp'
  have : (XOp.e op).run cl yl tm h = .ok v h' := hv
  rw [this]
end

theorem noCall : CallOk P (fun _ _ _ => .no) := ⟨fun h => (by cases h), fun h => (by cases h)⟩
theorem noYield : YieldOk P (fun _ _ _ => .no) := ⟨fun h => (by cases h), fun h => (by cases h)⟩

/-! ## Plain entries -/
def isI : Sc → Bool
  | .i _ _ => true
  | _ => false
def plainE (n : Nat) (e : AV × AV) : Bool :=
  match e with
  | (.c (.i .i64 _), .g l) => Nat.beq l.length n && l.all isI
  | _ => false

theorem plainE_cases {n : Nat} {e : AV × AV} (h : plainE n e = true) : ∃ k l, e = (.c (.i .i64 k), .g l) ∧ l.length = n ∧ ∀ x ∈ l, ∃ q m, x = .i q m := by
  unfold plainE at h
  split at h
  · rename_i k l
    rw [Bool.and_eq_true, Nat.beq_eq, List.all_eq_true] at h
    refine ⟨k, l, rfl, h.1, fun x hx => ?_⟩
    have := h.2 x hx
    cases x <;> first | (cases this; done) | exact ⟨_, _, rfl⟩
  · cases h

/-- Numbers stand for the same whatever the embedding. -/
theorem plainE_any {ρ σ : Emb} {n : Nat} {e : AV × AV} {m : MapEntry} (h : plainE n e = true) (hr : RelE ρ e m) : RelE σ e m := by
  obtain ⟨k, l, rfl, _, h2⟩ := plainE_cases h
  obtain ⟨h3, cs, h4, h5⟩ := hr
  refine ⟨h3, cs, h4, ?_⟩
  have : ∀ {l : List Sc} {vs : List Value}, (∀ x ∈ l, ∃ q m, x = .i q m) → RelL ρ l vs → RelL σ l vs := fun {l vs} hl hr => by
    induction hr with
    | nil => exact .nil
    | @cons a b l' m' ha _ ih =>
      obtain ⟨q, m, rfl⟩ := hl a (by simp)
      exact .cons ha (ih fun x hx => hl x (by simp [hx]))
  exact this h2 h5

theorem plain_key {n : Nat} {k : Int} {es : List (AV × AV)} (h : ∀ e ∈ es, plainE n e = true) : cmpAll (.c (.i .i64 k)) es = true := by
  rw [cmpAll_iff]
  intro e he
  obtain ⟨j, l, rfl, _⟩ := plainE_cases (h e he)
  exact ⟨intEq k j, rfl⟩

/-- A map's entries, laid over another's. -/
def putOne (es : List (AV × AV)) (c : Nat) (k v : AV) : List (AV × AV) × Nat := match put k v es with
  | some es => (es, c)
  | none => (es ++ [(k, v)], c + 1)
def putL : List (AV × AV) → List (AV × AV) → Nat → List (AV × AV) × Nat
  | [], d, c => (d, c)
  | (k, v) :: r, d, c => putL r (putOne d c k v).1 (putOne d c k v).2

theorem put_mem {k v : AV} : ∀ {es es' : List (AV × AV)}, put k v es = some es' → ∀ e ∈ es', e = (k, v) ∨ e ∈ es
  | [], _, h => by cases h
  | (q, u) :: r, es', h => by
    unfold put at h
    cases hk : isKey k q with
    | true =>
      rw [hk, cond_true] at h; cases h
      intro e he
      rcases List.mem_cons.1 he with rfl | he
      · exact .inl rfl
      · exact .inr (by simp [he])
    | false =>
      rw [hk, cond_false] at h
      split at h
      · rename_i r' hr'
        cases h
        intro e he
        rcases List.mem_cons.1 he with rfl | he
        · exact .inr (by simp)
        · exact (put_mem hr' e he).imp id fun h => by simp [h]
      · cases h

theorem putOne_plain {n c : Nat} {es : List (AV × AV)} {e : AV × AV} (he : plainE n e = true) (h : ∀ x ∈ es, plainE n x = true) : ∀ x ∈ (putOne es c e.1 e.2).1, plainE n x = true := by
  unfold putOne
  split
  · rename_i es' hp
    intro x hx
    rcases put_mem hp x hx with rfl | hx
    · exact he
    · exact h x hx
  · intro x hx
    rcases List.mem_append.1 hx with hx | hx
    · exact h x hx
    · simp at hx; rw [hx]; exact he

theorem putL_app : ∀ (l m d : List (AV × AV)) (c : Nat), putL (l ++ m) d c = putL m (putL l d c).1 (putL l d c).2
  | [], m, d, c => rfl
  | (k, v) :: l, m, d, c => putL_app l m _ _

theorem putL_plain {n : Nat} : ∀ {l d : List (AV × AV)} {c : Nat}, (∀ x ∈ l, plainE n x = true) → (∀ x ∈ d, plainE n x = true) → ∀ x ∈ (putL l d c).1, plainE n x = true
  | [], d, c, _, hd => hd
  | (k, v) :: l, d, c, hl, hd => by
    intro x hx
    exact putL_plain (l := l) (d := (putOne d c k v).1) (c := (putOne d c k v).2) (fun x hx => hl x (by simp [hx])) (putOne_plain (e := (k, v)) (hl _ (by simp)) hd) x hx

theorem putAll_L {n : Nat} : ∀ {l d : List (AV × AV)} {c : Nat}, (∀ x ∈ l, plainE n x = true) → (∀ x ∈ d, plainE n x = true) → putAll l d c = some (putL l d c)
  | [], d, c, _, _ => rfl
  | (k, v) :: l, d, c, hl, hd => by
    obtain ⟨j, cs, he, _⟩ := plainE_cases (hl (k, v) (by simp))
    have hk : k = .c (.i .i64 j) := congrArg Prod.fst he
    have hc : cmpAll k d = true := by rw [hk]; exact plain_key hd
    have hp := putOne_plain (c := c) (e := (k, v)) (hl (k, v) (by simp)) hd
    have ih := putAll_L (l := l) (d := (putOne d c k v).1) (c := (putOne d c k v).2) (fun x hx => hl x (by simp [hx])) hp
    show (bif cmpAll k d then (match put k v d with
      | some d => putAll l d c
      | none => putAll l (d ++ [(k, v)]) (Nat.succ c)) else none) = some (putL l (putOne d c k v).1 (putOne d c k v).2)
    rw [hc, cond_true, ← ih]
    unfold putOne
    cases hq : put k v d with
    | none => rfl
    | some d' => rfl

/-! ## Whatever the order -/
def keysOf (es : List (AV × AV)) : List AV := es.map Prod.fst

theorem put_split {n : Nat} {k v : AV} : ∀ {es : List (AV × AV)}, (∀ x ∈ es, plainE n x = true) → (∃ j, k = .c (.i .i64 j)) → (keysOf es).Nodup → match put k v es with
    | some es' => k ∈ keysOf es ∧ keysOf es' = keysOf es ∧ ∀ e, e ∈ es' ↔ e = (k, v) ∨ (e ∈ es ∧ e.1 ≠ k)
    | none => k ∉ keysOf es
  | [], _, _, _ => by simp [put, keysOf]
  | (q, u) :: r, he, hk, hn => by
    obtain ⟨j, rfl⟩ := hk
    obtain ⟨i, l, hq, _⟩ := plainE_cases (he (q, u) (by simp))
    have hqq : q = .c (.i .i64 i) := congrArg Prod.fst hq
    have hkey : isKey (.c (.i .i64 j)) q = true ↔ (.c (.i .i64 j)) = q := isKey_iff (t := intEq j i) (by rw [hqq]; rfl)
    have hn' : q ∉ keysOf r ∧ (keysOf r).Nodup := by simpa [keysOf] using hn
    unfold put
    cases hb : isKey (.c (.i .i64 j)) q with
    | true =>
      rw [cond_true]
      have hjq := hkey.1 hb
      refine ⟨by simp [keysOf, hjq], by simp [keysOf, hjq], fun e => ?_⟩
      constructor
      · intro h
        rcases List.mem_cons.1 h with rfl | h
        · exact .inl rfl
        · exact .inr ⟨by simp [h], fun e1 => hn'.1 (by rw [← hjq, ← e1]; exact List.mem_map_of_mem h)⟩
      · rintro (rfl | ⟨h, h2⟩)
        · simp
        · rcases List.mem_cons.1 h with rfl | h
          · exact absurd hjq.symm h2
          · simp [h]
    | false =>
      rw [cond_false]
      have hne : (.c (.i .i64 j)) ≠ q := fun e => by rw [hkey.2 e] at hb; cases hb
      have ih := put_split (k := .c (.i .i64 j)) (v := v) (es := r) (fun x hx => he x (by simp [hx])) ⟨j, rfl⟩ hn'.2
      cases hp : put (.c (.i .i64 j)) v r with
      | none =>
        rw [hp] at ih
        simp only
        simp only [keysOf, List.map_cons, List.mem_cons, not_or]
        exact ⟨hne, ih⟩
      | some r' =>
        rw [hp] at ih
        obtain ⟨h1, h2, h3⟩ := ih
        simp only
        refine ⟨by simp only [keysOf, List.map_cons, List.mem_cons]; exact .inr h1, by simp only [keysOf, List.map_cons] at h2 ⊢; rw [h2], fun e => ?_⟩
        rw [List.mem_cons, h3, List.mem_cons]
        constructor
        · rintro (rfl | rfl | ⟨h, h'⟩)
          · exact .inr ⟨.inl rfl, fun e => hne e.symm⟩
          · exact .inl rfl
          · exact .inr ⟨.inr h, h'⟩
        · rintro (rfl | ⟨rfl | h, h'⟩)
          · exact .inr (.inl rfl)
          · exact .inl rfl
          · exact .inr (.inr ⟨h, h'⟩)

theorem putOne_spec {n c : Nat} {es : List (AV × AV)} {k v : AV} (he : ∀ x ∈ es, plainE n x = true) (hk : plainE n (k, v) = true) (hn : (keysOf es).Nodup) :
    (keysOf (putOne es c k v).1).Nodup ∧ (∀ e, e ∈ (putOne es c k v).1 ↔ e = (k, v) ∨ (e ∈ es ∧ e.1 ≠ k)) ∧ (∀ q, q ∈ keysOf (putOne es c k v).1 ↔ q = k ∨ q ∈ keysOf es) ∧ (putOne es c k v).2 = (if k ∈ keysOf es then c else c + 1) := by
  obtain ⟨j, l, hkk, _⟩ := plainE_cases hk
  have hkj : k = .c (.i .i64 j) := congrArg Prod.fst hkk
  have hs := put_split (v := v) he ⟨j, hkj⟩ hn
  unfold putOne
  cases hp : put k v es with
  | some es' =>
    rw [hp] at hs
    obtain ⟨h1, h2, h3⟩ := hs
    refine ⟨by simp only; rw [h2]; exact hn, h3, fun q => ?_, by rw [if_pos h1]⟩
    simp only
    rw [h2]
    exact ⟨.inr, fun h => h.elim (fun e => e ▸ h1) id⟩
  | none =>
    rw [hp] at hs
    have hs : k ∉ keysOf es := hs
    refine ⟨?_, fun e => ?_, fun q => ?_, by rw [if_neg hs]⟩
    · simp only [keysOf, List.map_append, List.map_cons, List.map_nil]
      rw [List.nodup_append]
      exact ⟨hn, by simp, fun a ha b hb => by simp at hb; subst hb; exact fun e => hs (e ▸ ha)⟩
    · simp only [List.mem_append, List.mem_singleton]
      constructor
      · rintro (h | rfl)
        · exact .inr ⟨h, fun e' => hs (e' ▸ List.mem_map_of_mem h)⟩
        · exact .inl rfl
      · rintro (rfl | ⟨h, _⟩)
        · exact .inr rfl
        · exact .inl h
    · simp only [keysOf, List.map_append, List.map_cons, List.map_nil, List.mem_append, List.mem_singleton]
      exact ⟨fun h => h.symm, fun h => h.symm⟩

theorem putL_spec {n : Nat} : ∀ {l d : List (AV × AV)} {c : Nat}, (∀ x ∈ l, plainE n x = true) → (∀ x ∈ d, plainE n x = true) → (keysOf d).Nodup → (keysOf l).Nodup →
    (keysOf (putL l d c).1).Nodup ∧ (∀ e, e ∈ (putL l d c).1 ↔ e ∈ l ∨ (e ∈ d ∧ e.1 ∉ keysOf l)) ∧ (putL l d c).2 = c + (l.filter fun e => decide (e.1 ∉ keysOf d)).length
  | [], d, c, _, _, hd, _ => ⟨hd, fun e => by simp [putL, keysOf], rfl⟩
  | (k, v) :: l, d, c, hl, hp, hd, hn => by
    have hn' : k ∉ keysOf l ∧ (keysOf l).Nodup := by simpa [keysOf] using hn
    obtain ⟨s1, s2, s3, s4⟩ := putOne_spec (c := c) hp (hl (k, v) (by simp)) hd
    obtain ⟨i1, i2, i3⟩ := putL_spec (l := l) (d := (putOne d c k v).1) (c := (putOne d c k v).2) (fun x hx => hl x (by simp [hx])) (putOne_plain (e := (k, v)) (hl _ (by simp)) hp) s1 hn'.2
    refine ⟨i1, fun e => ?_, ?_⟩
    · show e ∈ (putL l (putOne d c k v).1 (putOne d c k v).2).1 ↔ _
      rw [i2, s2]
      simp only [keysOf, List.map_cons, List.mem_cons, not_or]
      constructor
      · rintro (h | ⟨rfl | ⟨h, h'⟩, h2⟩)
        · exact .inl (.inr h)
        · exact .inl (.inl rfl)
        · exact .inr ⟨h, h', h2⟩
      · rintro ((rfl | h) | ⟨h, h', h2⟩)
        · exact .inr ⟨.inl rfl, hn'.1⟩
        · exact .inl h
        · exact .inr ⟨.inr ⟨h, h'⟩, h2⟩
    · show (putL l (putOne d c k v).1 (putOne d c k v).2).2 = _
      rw [i3, s4, List.filter_cons]
      have : (l.filter fun e => decide (e.1 ∉ keysOf (putOne d c k v).1)) = l.filter fun e => decide (e.1 ∉ keysOf d) := by
        apply List.filter_congr
        intro e he
        have hne : e.1 ≠ k := fun e' => hn'.1 (by rw [← e']; exact List.mem_map_of_mem he)
        have h3 := s3 e.1
        exact decide_eq_decide.2 (not_congr ⟨fun h => (h3.1 h).elim (fun e => absurd e hne) id, fun h => h3.2 (.inr h)⟩)
      rw [this]
      by_cases hk : k ∈ keysOf d
      · simp [hk]
      · simp [hk]; omega

theorem putL_perm {n : Nat} {l m d : List (AV × AV)} {c : Nat} (hp : l.Perm m) (hl : ∀ x ∈ l, plainE n x = true) (hd : ∀ x ∈ d, plainE n x = true) (hnd : (keysOf d).Nodup) (hnl : (keysOf l).Nodup) :
    (putL l d c).1.Perm (putL m d c).1 ∧ (putL l d c).2 = (putL m d c).2 := by
  have hm : ∀ x ∈ m, plainE n x = true := fun x hx => hl x (hp.mem_iff.2 hx)
  have hkp : (keysOf l).Perm (keysOf m) := hp.map _
  obtain ⟨a1, a2, a3⟩ := putL_spec (c := c) hl hd hnd hnl
  obtain ⟨b1, b2, b3⟩ := putL_spec (c := c) hm hd hnd (hkp.nodup_iff.1 hnl)
  have nd : ∀ {es : List (AV × AV)}, (keysOf es).Nodup → es.Nodup := fun h => List.nodup_iff_pairwise_ne.2 (List.Pairwise.of_map Prod.fst (fun a b h e => h (e ▸ rfl)) (List.nodup_iff_pairwise_ne.1 h))
  refine ⟨?_, ?_⟩
  · rw [List.perm_ext_iff_of_nodup (nd a1) (nd b1)]
    intro e
    rw [a2, b2, hp.mem_iff, hkp.mem_iff]
  · rw [a3, b3, (hp.filter _).length_eq]

end Go.AM

/-
  'maps.Copy': its summary is so. Conditions stand at each law.
-/
namespace Go.AM
variable {P : Program}

/-- 'maps.Copy(d, s)', of maps of plain rows by numbers, not nil, not one. -/
noncomputable def oCopyP (n : Nat) (xs : List AV) (h : Hp) : RV :=
  match xs with
  | [.c (.m a), .c (.m b)] => bif a.same b then .no else (match h.get a, h.get b with
    | some (.mp d c), some (.mp s _) => bif d.all (plainE n) then bif s.all (plainE n) then
        forceL (putL s d c).1 fun d' => forceN (putL s d c).2 fun c' => h.setK a (some (.mp d' c')) fun h => .ok (.t []) h else .no else .no
    | _, _ => .no)
  | _ => .no

theorem RelH.name' {ρ : Emb} {h : Hp} {w : World} (H : RelH P ρ h w) (b o : Nat) (hb : ¬ Dom ρ h b) : RelH P (ρ.put h.next (b, o) 0) ⟨h.next.succ, h.t⟩ w ∧ ρ.le (ρ.put h.next (b, o) 0) ∧ (∀ k, Dom (ρ.put h.next (b, o) 0) ⟨h.next.succ, h.t⟩ k → Dom ρ h k) ∧
    ∀ {ρ0 : Emb} {h0 : Hp} {w0 : World}, Step ρ0 h0 w0 ρ h w → Step ρ0 h0 w0 (ρ.put h.next (b, o) 0) ⟨h.next.succ, h.t⟩ w := by
  have hle := Emb.le_put (e := 0) (x := (b, o)) H.none_next
  have hold : ∀ {q B x}, Hp.get ⟨h.next.succ, h.t⟩ q = some B → (ρ.put h.next (b, o) 0) q = some x → ρ q = some x := fun {q B x} h1 h2 => by
    obtain ⟨b', o', e1, _⟩ := H.blk q B h1
    rw [(hle _ _ e1).1] at h2; rw [e1, h2]
  refine ⟨⟨fun q B hr => ?_, fun q x hx => ?_, fun q r B C b o o' hne hr hq h1 h2 => H.apart q r B C b o o' hne hr hq (hold hr h1) (hold hq h2)⟩, hle, fun k ⟨q, B, o2, h1, h2⟩ => ⟨q, B, o2, h1, hold h1 h2⟩, fun {ρ0 h0 w0} S => ⟨Emb.le_trans S.le hle, S.size, S.keep, fun k ⟨q, B, o2, h1, h3, h2⟩ => S.img k ⟨q, B, o2, h1, h3, hold h1 h2⟩, fun k ⟨q, B, o2, h1, h2⟩ => S.dom k ⟨q, B, o2, h1, hold h1 h2⟩, ?_, fun q x hx => ?_, S.tape, S.os, S.out⟩⟩
  · obtain ⟨b', o', h1, h2, h3⟩ := H.blk q B hr
    obtain ⟨h4, h5⟩ := hle _ _ h1
    exact ⟨b', o', h4, h2, by rw [h5]; exact RelB.mono hle rfl h3⟩
  · show q.val < h.next.succ.val
    rw [Id.val_succ]
    rcases Emb.put_get hx with rfl | hx
    · omega
    · have := H.dom q x hx; omega
  · show h0.next.val ≤ h.next.succ.val
    rw [Id.val_succ]
    have := S.next; omega
  · rcases Emb.put_get hx with rfl | hx
    · exact .inr S.next
    · exact S.fresh q x hx

theorem run_ext (i : Nat) (x : Opd) (tm : Tm) : (POp.ext i x).run tm = pExt i (x.get tm) := rfl
theorem run_st (cl : Cl) (yl : Yl) (n : Nat) (x v : Opd) (tm : Tm) (h : Hp) : (EOp.st n x v).run cl yl tm h = eSt n (x.get tm) (v.get tm) h := rfl
theorem run_mup (cl : Cl) (yl : Yl) (ka : Bool) (ks : List (Nat × CK)) (m k x : Opd) (tm : Tm) (h : Hp) : (EOp.mup ka ks m k x).run cl yl tm h = eMup ka ks (m.get tm) (k.get tm) (x.get tm) h := rfl

theorem over_all {α : Type} (l ys : List α) (h : l.length = ys.length) : over l 0 ys = ys := by
  apply List.ext_getElem?
  intro i
  rw [over_get]
  by_cases hi : i < ys.length
  · rw [if_pos ⟨Nat.zero_le _, by omega, by omega⟩, Nat.sub_zero]
  · rw [if_neg (by omega), List.getElem?_eq_none (by omega), List.getElem?_eq_none (by omega)]

theorem store_all {h : Hp} {r : Id} {R : Rope Sc} {n : Nat} {l : List Sc} (hg : h.get r = some (.cells true R)) (hok : R.ok) (hR : R.toList.length = n) (hl : l.length = n) (hn : n ≠ 0) :
    store h r 0 n l = some (h.set r (some (.cells true (R.write 0 n l)))) ∧ (R.write 0 n l).ok ∧ (R.write 0 n l).toList = l := by
  obtain ⟨h1, h2⟩ := R.write_spec hok 0 n l hl
  refine ⟨?_, h1, by rw [h2]; exact over_all _ _ (by rw [hR, hl])⟩
  unfold store
  have hb : Nat.beq n 0 = false := by cases n with | zero => exact absurd rfl hn | succ n => rfl
  rw [hb, cond_false]
  simp only [hg]
  have hlast : R.get (Nat.pred (Nat.add 0 n)) = some (R.toList[n - 1]'(by omega)) := by
    rw [R.get_eq hok]
    have : Nat.pred (Nat.add 0 n) = n - 1 := by show (0 + n) - 1 = n - 1; omega
    rw [this]; exact List.getElem?_eq_getElem (by omega)
  rw [hlast]
  simp only
  rw [R.writeK_eq, Hp.setK_eq]

theorem lda_all {h : Hp} {r : Id} {R : Rope Sc} {n : Nat} {b : Bool} (hg : h.get r = some (.cells b R)) (hok : R.ok) (hR : R.toList.length = n) : rLda n (.c (.p r 0)) h = some (.g R.toList) := by
  unfold rLda readN
  simp only [hg, forceL_eq]
  rw [R.read_eq hok, List.drop_zero, ← hR, List.take_length]
  have : Nat.beq R.toList.length R.toList.length = true := by simp
  rw [this]; rfl

theorem eMup_put {h : Hp} {r : Id} {es : List (AV × AV)} {c : Nat} {k : Int} {n : Nat} {x : AV} (hg : h.get r = some (.mp es c)) (hp : ∀ e ∈ es, plainE n e = true) (hx : isOne x = true) :
    eMup false [(1, .i)] (.c (.m r)) (.c (.i .i64 k)) x h = .ok (.t []) (h.set r (some (.mp (putOne es c (.c (.i .i64 k)) x).1 (putOne es c (.c (.i .i64 k)) x).2))) := by
  unfold eMup
  have h1 : keyOk false [(1, CK.i)] (.c (.i .i64 k)) = true := rfl
  rw [h1, hx, cond_true, cond_true]
  simp only [hg]
  rw [plain_key hp, cond_true]
  unfold putOne
  split
  · rename_i hq; rw [hq]; simp only [forceL_eq, Hp.setK_eq]
  · rename_i hq; rw [hq]; simp only [forceL_eq, forceN_eq, Hp.setK_eq]

theorem range_wp {o : Oper} {x : Operand} {t k e bm ck : Nat} {ms : Array MapEntry} {a : Act} {w : World} {next : Act → World → Prop} {Q : Exit → Act → World → Prop} (hop : o.op = .range t x) (hx : a.eval x = .map (some bm)) (ht : P.underlying t = some (.map k e)) (hb : w.heap[bm]? = some (.map ms ck))
    (h : next (a.put o.dst (.pointer (some ⟨w.heap.size, 0, none⟩))) (w.alloc (.mapIter (some bm) ck #[] ck))) : o.wpIn (FW none) 0 P a w next Q := by
  refine ⟨about_fw, ?_⟩
  have he : Oper.semAt (FW none).round a.eval o = (do pure (Next.value (← Instr.range t (.map (some bm))))) := by
    show execOp a.eval o = _
    unfold execOp
    simp only [hop, hx]
  rw [he]
  have : (do pure (Next.value (← Instr.range t (.map (some bm)))) : Sem Next).run P w = .ok (.value (.pointer (some ⟨w.heap.size, 0, none⟩))) (w.alloc (.mapIter (some bm) ck #[] ck)) := by
    simp [run_range_map w t k e bm ms ck ht hb]
  rw [this]; exact h

theorem copy_ok {f : P4} {fn : Func} {n mt kt et b0 b1 i0 i1 i2 i3 : Nat} {z : List (Nat × Sc)} {ops0 ops1 ops2 ops3 : Array Oper} {oA oR oN oX oE : Oper} {os2 : List Oper}
    (hf : P.funcs[f.n]? = some fn) (hnm : (fn.name == "runtime.NumGoroutine") = false) (hres : fn.results = #[]) (hntm : fn.ntmps = 16)
    (hb : fn.body = some (.seq (.region i0 ops0 false) (.block b0 (.loop (.seq (.region i1 ops1 false) (.seq (.cond (.tmp 9) .skip (.exit b0)) (.block b1 (.seq (.region i2 ops2 false) (.region i3 ops3 false)))))))))
    (h0 : ops0 = #[oA, oR]) (hA : itOf 16 ops0 oA (opAt P oA) = some (.o (.of 6) (.p (.mv (.t (.of 1)))))) (hR : oR.op = .range mt (.tmp 6)) (hRd : oR.dst = some 7) (hRg : oR.guard = none)
    (h1 : ops1 = #[oN, oX]) (hN : oN.op = .next (.tmp 7) false) (hNd : oN.dst = some 8) (hNg : oN.guard = none) (hX : oX.op = .extract (.tmp 8) 0) (hXd : oX.dst = some 9) (hXg : oX.guard = none)
    (h2 : ops2.toList = oE :: os2) (hE : oE.op = .entry (.tmp 7)) (hEd : oE.dst = some 10) (hEg : oE.guard = none)
    (hi2 : os2.mapM (fun o => itOf 16 ops2 o (opAt P o)) = some [.o (.of 11) (.p (.ext 0 (.t (.of 10)))), .o (.of 12) (.p (.ext 1 (.t (.of 10)))), .o (.of 5) (.a (.new z)), .o (.of 4) (.p (.mv (.t (.of 11)))), .o' (.e (.st n (.t (.of 5)) (.t (.of 12))))])
    (hi3 : ops3.toList.mapM (fun o => itOf 16 ops3 o (opAt P o)) = some [.o (.of 13) (.p (.mv (.t (.of 0)))), .o (.of 14) (.p (.mv (.t (.of 4)))), .o (.of 15) (.r (.lda n (.t (.of 5)))), .o' (.e (.mup false [(1, .i)] (.t (.of 13)) (.t (.of 14)) (.t (.of 15))))])
    (hz : (runs z).length = n) (hn : n ≠ 0) (hmt : P.underlying mt = some (.map kt et)) : OrcOk P f (oCopyP n) := by
  refine ⟨fun {xs h v h'} hr => ⟨fn, hf, by rw [hb]; rfl, hnm, fun ρ w args H hargs => ?_⟩, fun {xs h d h'} hr => ?_⟩
  · unfold oCopyP at hr
    split at hr
    · rename_i a b
      cases hab : a.same b with
      | true => rw [hab] at hr; cases hr
      | false =>
        rw [hab, cond_false] at hr
        have hne : a ≠ b := fun e => by rw [(Id.same_iff a b).2 e] at hab; cases hab
        split at hr
        · rename_i d c s cs hga hgb
          cases hd : d.all (plainE n) with
          | false => rw [hd] at hr; cases hr
          | true =>
            cases hs : s.all (plainE n) with
            | false => rw [hd, hs] at hr; cases hr
            | true =>
              rw [hd, hs, cond_true, cond_true] at hr
              simp only [forceL_eq, forceN_eq, Hp.setK_eq] at hr
              cases hr
              rw [List.all_eq_true] at hd hs
              -- the two maps in the world
              obtain ⟨ba, msd, fsd, a1, a2, a3, a4, a5, a6, a7⟩ := H.mp hga
              obtain ⟨bb, ms, fs, c1, c2, c3, c4, c5, c6, c7⟩ := H.mp hgb
              have hbb : ba ≠ bb := fun e => by
                subst e
                have := (H.apart a b _ _ ba 0 0 hne hga hgb a1 c1).1
                cases this
              have hfs : ∀ e ∈ fs, plainE n e = true := fun e he => hs e (c3.mem_iff.1 he)
              have hks : (keysOf s).Nodup := by
                unfold keysOf; rw [List.nodup_iff_pairwise_ne, List.pairwise_map]; exact c5
              have hkd : (keysOf d).Nodup := by
                unfold keysOf; rw [List.nodup_iff_pairwise_ne, List.pairwise_map]; exact a5
              -- the machine speaks of the first alone
              generalize hhs : (⟨h.next, .e⟩ : Hp).set a (some (.mp d c)) = hs'
              have hget : ∀ q, hs'.get q = if a = q then some (.mp d c) else none := fun q => by
                rw [← hhs, Hp.get_set]
                split
                · rfl
                · exact HT.get_e q
              have hnx : hs'.next = h.next := by rw [← hhs]; rfl
              have Hs : RelH P ρ hs' w := by
                refine ⟨fun q B hq => ?_, fun q x hx => ?_, fun q r B C b o o' hqr hq hr => ?_⟩
                · rw [hget] at hq
                  split at hq
                  · rename_i e; subst e; cases hq; exact H.blk a _ hga
                  · cases hq
                · rw [hnx]; exact H.dom q x hx
                · rw [hget] at hq hr
                  split at hq
                  · rename_i e1
                    split at hr
                    · rename_i e2; exact absurd (e1.symm.trans e2) hqr
                    · cases hr
                  · cases hq
              have hout : ¬ Dom ρ hs' bb := fun ⟨q, B, o, h1, h2⟩ => by
                rw [hget] at h1
                split at h1
                · rename_i e; subst e; rw [a1] at h2; cases h2; exact hbb rfl
                · cases h1
              -- the frame
              obtain ⟨r1, r2⟩ := params_rel (ρ := ρ) (k := 2) (n := 16) (by omega) (by omega) (by rfl) hargs
              refine (callsIn_fw (ro := none) (n := 0)).1 (callsIn_of_wp hf hb trivial ?_)
              rw [hntm]
              generalize htm : setL ((List.range 2).map .of) [AV.c (.m a), .c (.m b)] (T8.all (.t [])) = tm at r1
              have hg0 : tm.get (.of 0) = .c (.m a) := by rw [← htm]; rfl
              have hg1 : tm.get (.of 1) = .c (.m b) := by rw [← htm]; rfl
              refine wpIn_seq (wpIn_region ?_)
              rw [h0]
              show wpOpsIn (FW none) 0 P #[oA, oR] _ [0, 1] _ w
              rw [wpOpsIn_cons]
              have S0 : Stands P ρ hs' w 16 tm [] hs' { tmps := args ++ Array.replicate (16 - args.size) undef, defers := [] } w := ⟨ρ, r2, r1, .nil, Hs, Step.refl _ _ _⟩
              refine it_sound (cl := fun _ _ _ => .no) (yl := fun _ _ _ => .no) noCall noYield (ro := none) (k := fun tm ds h => .ok tm ds h) (by omega) (opAt_or oA) (by rfl) (by rw [h0] at hA; exact hA) S0 (tmF := tm.set (.of 6) (.c (.m b))) (dsF := []) (hF := hs') ?_ (fun e => by cases e) fun tm' ds' h' act w' hk S1 => ?_
              · show doOp (fun _ _ _ => .no) (fun _ _ _ => .no) (.of 6) (.p (.mv (.t (.of 1)))) tm [] hs' _ = _
                unfold doOp
                have : (XOp.p (.mv (.t (.of 1)))).run (fun _ _ _ => .no) (fun _ _ _ => .no) tm hs' = .ok (.c (.m b)) hs' := by
                  show toRV (some ((Opd.t (.of 1)).get tm)) hs' = _
                  have : (Opd.t (.of 1)).get tm = tm.get (.of 1) := rfl
                  rw [this, hg1]; rfl
                rw [this]; simp only [T8.setK_eq]
              cases hk
              obtain ⟨ρ1, s1, s2, s3, s4, s5⟩ := S1
              have hev6 : act.eval (.tmp 6) = .map (some bb) := by
                have := s2.at_ (.of 6)
                rw [T8.get_set, if_pos rfl] at this
                obtain ⟨b', e1, e2⟩ := this
                rw [(s5.le _ _ c1).1] at e1; cases e1
                exact e2
              have hbl : bb < w.heap.size := (Array.getElem?_eq_some_iff.1 c2).1
              have hheap : w'.heap[bb]? = some (.map ms cs) := (s5.keep bb hbl fun hi => hout hi.dom).trans c2
              rw [wpOpsIn_cons]
              refine wpOp_free (by rfl) hRg (range_wp hR hev6 hmt hheap ?_)
              rw [hRd]
              show (Code.block b0 _).wpIn (FW none) 0 P _ _ _
              refine wpIn_block ?_
              -- the iterator's number
              have hout1 : ¬ Dom ρ1 hs' w'.heap.size := fun ⟨q, B, o, h1, h2⟩ => by
                obtain ⟨b', o', e1, e2, _⟩ := s4.blk q B h1
                rw [h2] at e1; cases e1; omega
              obtain ⟨H2, hle3, hdom3, hstep3⟩ := s4.name' w'.heap.size 0 hout1
              have S2 := hstep3 s5
              have hid : (ρ1.put hs'.next (w'.heap.size, 0) 0) hs'.next = some (w'.heap.size, 0) := Emb.put_same _ _ _ _
              generalize ρ1.put hs'.next (w'.heap.size, 0) 0 = ρ3 at H2 hle3 hdom3 S2 hid
              have H3 : RelH P ρ3 ⟨hs'.next.succ, hs'.t⟩ (w'.alloc (.mapIter (some bb) cs #[] cs)) := H2.stay (by simp) fun k hk => RowKit.Below.heap_alloc w' _ k hk
              have S3 : Step ρ3 ⟨hs'.next.succ, hs'.t⟩ w' ρ3 ⟨hs'.next.succ, hs'.t⟩ (w'.alloc (.mapIter (some bb) cs #[] cs)) := ⟨ρ3.le_refl, by simp, fun k hk _ => RowKit.Below.heap_alloc w' _ k hk, fun _ h => .inl h, fun _ h => .inl h, Nat.le_refl _, fun _ _ h => .inl h, rfl, rfl, rfl⟩
              have hdef : act.defers = [] := by generalize act.defers = l at s3; cases s3; rfl
              have I0 : Idle P ρ3 ⟨hs'.next.succ, hs'.t⟩ w' 16 bb w'.heap.size fs ms cs #[] (((tm.set (.of 6) (.c (.m b))).set (.of 7) (.c (.p hs'.next 0)))) ⟨hs'.next.succ, hs'.t⟩ (act.put (some 7) (.pointer (some ⟨w'.heap.size, 0, none⟩))) (w'.alloc (.mapIter (some bb) cs #[] cs)) ρ3 := {
                size := by simp [Act.put, s1]
                slots := by
                  show RelT ρ3 _ (act.tmps.setIfInBounds 7 _)
                  exact (s2.mono hle3).set (p := .of 7) (by rw [s1]; decide) ⟨_, rfl, _, _, hid, rfl⟩
                defs := hdef
                heap := H3
                step := S3
                map := (RowKit.Below.heap_alloc w' _ bb (Nat.lt_of_lt_of_le hbl s5.size)).trans hheap
                mapOut := fun hd => (s5.dom _ (hdom3 _ hd)).elim hout fun h => by omega
                iter := heap_alloc_new w' _
                iterOut := fun hd => hout1 (hdom3 _ hd)
                new := Nat.le_refl _
                apart := by have := s5.size; omega
                ents := forall₂_imp (fun x y hxy => ⟨hxy.1.mono S2.le, hxy.2.mono S2.le⟩) c4 }
              have hborn : (ms.toList.map (·.born)).Nodup := by
                rw [List.nodup_iff_pairwise_ne, List.pairwise_map]; exact c7
              have hsets : ∀ (tm : Tm) (x y : AV) (p : P3), P3.of 9 ≠ p → P3.of 8 ≠ p → ((tm.set (.of 8) x).set (.of 9) y).get p = tm.get p := fun tm x y p h1 h2 => by
                rw [T8.get_set, if_neg h1, T8.get_set, if_neg h2]
              refine range_rule (J := fun pre tm h => tm.get (.of 0) = .c (.m a) ∧ tm.get (.of 7) = .c (.p hs'.next 0) ∧ h.get a = some (.mp (putL pre d c).1 (putL pre d c).2) ∧ (∀ e ∈ pre, plainE n e = true)) (by omega) (by omega) (by omega) (by omega) h1 hN hNd hNg hX hXd hXg (by omega) (by omega) (fun x hx => c6 x (by simpa using hx)) hborn
                (by have := forall₂_length c4; simpa using this) (fun pre tm h x y ⟨j1, j7, j2, j3⟩ => ⟨by rw [hsets _ _ _ _ (by decide) (by decide)]; exact j1, by rw [hsets _ _ _ _ (by decide) (by decide)]; exact j7, j2, j3⟩) ?_ ?_ _ _ _ _ _ ⟨?_, ?_, ?_, fun e he => by cases he⟩ ?_ I0
              · -- an entry
                rintro pre e m seen tmB hB aB wB ρB hef hem hrel ⟨j1, j7, j2, j3⟩ hit I
                obtain ⟨kk, l, he, hll, _⟩ := plainE_cases (hfs e hef)
                have hpe := hfs e hef
                subst he
                refine wpIn_block ?_
                refine wpIn_seq (wpIn_region ?_)
                have hsz : ops2.size = os2.length + 1 := by rw [← Array.length_toList, h2]; rfl
                rw [hsz, List.range_eq_range', List.range'_succ, wpOpsIn_cons]
                have hE0 : ops2[0]? = some oE := by rw [← Array.getElem?_toList, h2]; rfl
                refine wpOp_free hE0 hEg (entry_wp hE I hit hem hborn ?_)
                rw [hEd]
                have I1 := I.put (t := 10) (p := .of 10) (x := .t [.c (.i .i64 kk), .g l]) (v := .tuple #[m.key, m.val]) (by omega) rfl ⟨#[m.key, m.val], rfl, .cons hrel.1 (.cons hrel.2 .nil)⟩
                -- the second region
                have hidne : a ≠ hB.next := fun e => by
                  obtain ⟨b', o', e1, _⟩ := I.heap.blk a _ j2
                  have := I.heap.dom a _ e1
                  rw [e] at this; omega
                obtain ⟨st1, st2, st3⟩ := store_all (h := hB.new (.cells true (ropeOf (runs z)))) (r := hB.next) (R := ropeOf (runs z)) (n := n) (l := l) (by rw [Hp.get_new, if_pos rfl]) (ropeOf_ok _) (by rw [ropeOf_toList]; exact hz) hll hn
                generalize hh5 : (hB.new (.cells true (ropeOf (runs z)))).set hB.next (some (.cells true ((ropeOf (runs z)).write 0 n l))) = h5 at st1
                have e2 : evIs (fun _ _ _ => .no) (fun _ _ _ => .no) [.o (.of 11) (.p (.ext 0 (.t (.of 10)))), .o (.of 12) (.p (.ext 1 (.t (.of 10)))), .o (.of 5) (.a (.new z)), .o (.of 4) (.p (.mv (.t (.of 11)))), .o' (.e (.st n (.t (.of 5)) (.t (.of 12))))] (tmB.set (.of 10) (.t [.c (.i .i64 kk), .g l])) [] hB =
                    .ok (((((tmB.set (.of 10) (.t [.c (.i .i64 kk), .g l])).set (.of 11) (.c (.i .i64 kk))).set (.of 12) (.g l)).set (.of 5) (.c (.p hB.next 0))).set (.of 4) (.c (.i .i64 kk))) [] h5 := by
                  rw [ev_p (v := .c (.i .i64 kk)) (by rw [run_ext, Opd.get_t, T8.get_set, if_pos rfl]; rfl)]
                  rw [ev_p (v := .g l) (by rw [run_ext, Opd.get_t, T8.get_set, if_neg (by decide), T8.get_set, if_pos rfl]; rfl)]
                  rw [ev_new]
                  rw [ev_p (v := .c (.i .i64 kk)) (by show some (T8.get _ _) = _; rw [T8.get_set, if_neg (by decide), T8.get_set, if_neg (by decide), T8.get_set, if_pos rfl])]
                  refine (ev_e (v := .t []) (h' := h5) ?_).trans rfl
                  rw [run_st, Opd.get_t, Opd.get_t]
                  have g5 : T8.get (((((tmB.set (.of 10) (.t [.c (.i .i64 kk), .g l])).set (.of 11) (.c (.i .i64 kk))).set (.of 12) (.g l)).set (.of 5) (.c (.p hB.next 0))).set (.of 4) (.c (.i .i64 kk))) (.of 5) = .c (.p hB.next 0) := by
                    rw [T8.get_set, if_neg (by decide), T8.get_set, if_pos rfl]
                  have g12 : T8.get (((((tmB.set (.of 10) (.t [.c (.i .i64 kk), .g l])).set (.of 11) (.c (.i .i64 kk))).set (.of 12) (.g l)).set (.of 5) (.c (.p hB.next 0))).set (.of 4) (.c (.i .i64 kk))) (.of 12) = .g l := by
                    rw [T8.get_set, if_neg (by decide), T8.get_set, if_neg (by decide), T8.get_set, if_pos rfl]
                  rw [g5, g12]
                  unfold eSt
                  have hbq : Nat.beq (AV.g l).cells.length n = true := by show Nat.beq l.length n = true; rw [hll]; simp
                  simp only [hbq, cond_true]
                  show (match store (hB.new (.cells true (ropeOf (runs z)))) hB.next 0 n l with | some h => RV.ok (.t []) h | none => .no) = _
                  rw [st1]
                refine ops_sound noCall noYield (ro := none) (ρ0 := ρB) (h0 := hB) (w0 := wB) (nt := 16) (by omega) (fun e => by cases e) (fun a2 w2 S => ?_) os2 1 _ _ _ _ _ _ (by rw [h2]; rfl) hi2 e2 I1.stands
                obtain ⟨ρ2, I2⟩ := I1.after S
                show (Code.region i3 ops3 false).wpIn (FW none) 0 P _ a2 w2
                have hg5 : h5.get hB.next = some (.cells true ((ropeOf (runs z)).write 0 n l)) := by rw [← hh5, Hp.get_set, if_pos rfl]
                have hg5a : h5.get a = some (.mp (putL pre d c).1 (putL pre d c).2) := by
                  rw [← hh5, Hp.get_set, if_neg (fun e => hidne e.symm), Hp.get_new, if_neg (fun e => hidne e.symm)]; exact j2
                have hpl : ∀ e ∈ (putL pre d c).1, plainE n e = true := putL_plain j3 hd
                generalize htm4 : ((((tmB.set (.of 10) (.t [.c (.i .i64 kk), .g l])).set (.of 11) (.c (.i .i64 kk))).set (.of 12) (.g l)).set (.of 5) (.c (.p hB.next 0))).set (.of 4) (.c (.i .i64 kk)) = tm4 at I2
                have t0 : tm4.get (.of 0) = .c (.m a) := by
                  rw [← htm4, T8.get_set, if_neg (by decide), T8.get_set, if_neg (by decide), T8.get_set, if_neg (by decide), T8.get_set, if_neg (by decide), T8.get_set, if_neg (by decide)]; exact j1
                have t7 : tm4.get (.of 7) = .c (.p hs'.next 0) := by
                  rw [← htm4, T8.get_set, if_neg (by decide), T8.get_set, if_neg (by decide), T8.get_set, if_neg (by decide), T8.get_set, if_neg (by decide), T8.get_set, if_neg (by decide)]; exact j7
                have t4 : tm4.get (.of 4) = .c (.i .i64 kk) := by rw [← htm4, T8.get_set, if_pos rfl]
                have t5 : tm4.get (.of 5) = .c (.p hB.next 0) := by rw [← htm4, T8.get_set, if_neg (by decide), T8.get_set, if_pos rfl]
                have e3 : evIs (fun _ _ _ => .no) (fun _ _ _ => .no) [.o (.of 13) (.p (.mv (.t (.of 0)))), .o (.of 14) (.p (.mv (.t (.of 4)))), .o (.of 15) (.r (.lda n (.t (.of 5)))), .o' (.e (.mup false [(1, .i)] (.t (.of 13)) (.t (.of 14)) (.t (.of 15))))] tm4 [] h5 =
                    .ok (((tm4.set (.of 13) (.c (.m a))).set (.of 14) (.c (.i .i64 kk))).set (.of 15) (.g l)) [] (h5.set a (some (.mp (putOne (putL pre d c).1 (putL pre d c).2 (.c (.i .i64 kk)) (.g l)).1 (putOne (putL pre d c).1 (putL pre d c).2 (.c (.i .i64 kk)) (.g l)).2))) := by
                  rw [ev_p (v := .c (.m a)) (by show some (T8.get _ _) = _; rw [t0])]
                  rw [ev_p (v := .c (.i .i64 kk)) (by show some (T8.get _ _) = _; rw [T8.get_set, if_neg (by decide), t4])]
                  rw [ev_r (v := .g l) (by
                    show rLda n (T8.get _ _) h5 = _
                    rw [T8.get_set, if_neg (by decide), T8.get_set, if_neg (by decide), t5, lda_all hg5 st2 (by rw [st3]; exact hll), st3])]
                  refine (ev_e (v := .t []) ?_).trans rfl
                  rw [run_mup, Opd.get_t, Opd.get_t, Opd.get_t]
                  have g13 : T8.get (((tm4.set (.of 13) (.c (.m a))).set (.of 14) (.c (.i .i64 kk))).set (.of 15) (.g l)) (.of 13) = .c (.m a) := by rw [T8.get_set, if_neg (by decide), T8.get_set, if_neg (by decide), T8.get_set, if_pos rfl]
                  have g14 : T8.get (((tm4.set (.of 13) (.c (.m a))).set (.of 14) (.c (.i .i64 kk))).set (.of 15) (.g l)) (.of 14) = .c (.i .i64 kk) := by rw [T8.get_set, if_neg (by decide), T8.get_set, if_pos rfl]
                  have g15 : T8.get (((tm4.set (.of 13) (.c (.m a))).set (.of 14) (.c (.i .i64 kk))).set (.of 15) (.g l)) (.of 15) = .g l := by rw [T8.get_set, if_pos rfl]
                  rw [g13, g14, g15]
                  exact eMup_put hg5a hpl rfl
                refine reg_sound noCall noYield (ro := none) (ρ0 := ρ2) (h0 := h5) (w0 := w2) (nt := 16) (by omega) (fun e => by cases e) hi3 e3 I2.stands fun a3 w3 S3 => ?_
                obtain ⟨ρ4, I4⟩ := I2.after S3
                have t7' : ∀ (x y z : AV), (((tm4.set (.of 13) x).set (.of 14) y).set (.of 15) z).get (.of 7) = .c (.p hs'.next 0) := fun x y z => by
                  rw [T8.get_set, if_neg (by decide), T8.get_set, if_neg (by decide), T8.get_set, if_neg (by decide)]; exact t7
                refine ⟨_, _, ρ4, ⟨?_, t7' _ _ _, ?_, ?_⟩, ?_, I4⟩
                · rw [T8.get_set, if_neg (by decide), T8.get_set, if_neg (by decide), T8.get_set, if_neg (by decide)]; exact t0
                · rw [Hp.get_set, if_pos rfl, putL_app]; rfl
                · intro x hx
                  rcases List.mem_append.1 hx with hx | hx
                  · exact j3 x hx
                  · simp at hx; rw [hx]; exact hpe
                · -- the iterator's slot
                  have := I4.slots.at_ (.of 7)
                  rw [t7'] at this
                  obtain ⟨v, hv, b', o', e1, e2⟩ := this
                  rw [(I4.step.le _ _ hid).1] at e1; cases e1
                  rw [e2] at hv
                  exact hv
              · -- the end
                rintro pre tmE hE aE wE ρE seen hperm ⟨j1, j7, j2, j3⟩ I
                have T := S2.trans I.step
                obtain ⟨bE, msE, fsE, g1, g2, g3, g4, g5, g6, g7⟩ := I.heap.mp j2
                have hbE : bE = ba := by
                  have := (T.le _ _ a1).1
                  rw [g1] at this; cases this; rfl
                subst hbE
                obtain ⟨p1, p2⟩ := putL_perm (c := c) (hperm.trans c3) (fun x hx => j3 x hx) hd hkd (by
                  have : (keysOf pre).Perm (keysOf s) := (hperm.trans c3).map _
                  exact this.nodup_iff.2 hks)
                have hpl : ∀ e ∈ (putL pre d c).1, plainE n e = true := putL_plain j3 hd
                have himg : ∀ k, Img ρ hs' k → k = bE := fun k ⟨q, B, o, h1, _, h2⟩ => by
                  rw [hget] at h1
                  split at h1
                  · rename_i e; subst e; rw [a1] at h2; cases h2; rfl
                  · cases h1
                have hset : ∀ q B, (h.set a (some (.mp (putL s d c).1 (putL s d c).2))).get q = some B → (q = a ∧ B = .mp (putL s d c).1 (putL s d c).2) ∨ (q ≠ a ∧ h.get q = some B) := fun q B hq => by
                  rw [Hp.get_set] at hq
                  split at hq
                  · rename_i e; cases hq; exact .inl ⟨e.symm, rfl⟩
                  · rename_i e; exact .inr ⟨fun e' => e e'.symm, hq⟩
                have hold : ∀ q B, (h.set a (some (.mp (putL s d c).1 (putL s d c).2))).get q = some B → ∃ B', h.get q = some B' ∧ B'.wr = B.wr := fun q B hq => by
                  rcases hset q B hq with ⟨rfl, rfl⟩ | ⟨_, h1⟩
                  · exact ⟨_, hga, rfl⟩
                  · exact ⟨_, h1, rfl⟩
                have hapart : ∀ q B o, q ≠ a → h.get q = some B → ρ q = some (bE, o) → False := fun q B o hne h1 h2 => by
                  have := (H.apart a q _ _ bE 0 o (fun e => hne e.symm) hga h1 a1 h2).1
                  cases this
                have HF : RelH P ρ (h.set a (some (.mp (putL s d c).1 (putL s d c).2))) wE := by
                  refine ⟨fun q B hq => ?_, fun q x hx => H.dom q x hx, fun q r B C b o o' hqr hq hr h1 h2 => ?_⟩
                  · rcases hset q B hq with ⟨rfl, rfl⟩ | ⟨hne', h1⟩
                    · refine ⟨bE, 0, a1, (Array.getElem?_eq_some_iff.1 g2).1, rfl, msE, fsE, ?_, g3.trans p1, ?_, ?_, ?_, g7⟩
                      · rw [g2, p2]
                      · have : ∀ {l : List (AV × AV)} {m : List MapEntry}, (∀ x ∈ l, plainE n x = true) → All2 (RelE ρE) l m → All2 (RelE ρ) l m := fun {l m} hl h => by
                          induction h with
                          | nil => exact .nil
                          | @cons x y l' m' hx _ ih => exact .cons (plainE_any (hl x (by simp)) hx) (ih fun x hx => hl x (by simp [hx]))
                        exact this (fun x hx => hpl x (g3.mem_iff.1 hx)) g4
                      · have h1 := (putL_spec (c := c) hs hd hkd hks).1
                        unfold keysOf at h1
                        rw [List.nodup_iff_pairwise_ne, List.pairwise_map] at h1; exact h1
                      · rw [← p2]; exact g6
                    · obtain ⟨b', o', e1, e2, e3⟩ := H.blk q B h1
                      have hb' : b' ≠ bE := fun e => hapart q B o' hne' h1 (e ▸ e1)
                      exact ⟨b', o', e1, Nat.lt_of_lt_of_le e2 T.size, RelB.mono ρ.le_refl (T.keep b' e2 fun hi => hb' (himg _ hi)) e3⟩
                  · obtain ⟨B', q1, q2⟩ := hold q B hq
                    obtain ⟨C', r1, r2⟩ := hold r C hr
                    rw [← q2, ← r2]
                    exact H.apart q r B' C' b o o' hqr q1 r1 h1 h2
                have SF : Step ρ h w ρ (h.set a (some (.mp (putL s d c).1 (putL s d c).2))) wE := by
                  refine ⟨ρ.le_refl, T.size, fun b hb hn => T.keep b hb fun hi => hn ?_, fun b ⟨q, B, o, h1, h3, h2⟩ => ?_, fun b ⟨q, B, o, h1, h2⟩ => ?_, Nat.le_refl _, fun _ _ h => .inl h, T.tape, T.os, T.out⟩
                  · rw [himg _ hi]; exact ⟨a, _, 0, hga, rfl, a1⟩
                  · obtain ⟨B', q1, q2⟩ := hold q B h1
                    exact .inl ⟨q, B', o, q1, q2.trans h3, h2⟩
                  · obtain ⟨B', q1, q2⟩ := hold q B h1
                    exact .inl ⟨q, B', o, q1, h2⟩
                show if b0 = b0 then bodyPost P fn _ .normal aE wE else _
                rw [if_pos rfl]
                refine ⟨I.defs, .tuple #[], ?_, .tuple #[], ρ, rfl, ⟨#[], rfl, .nil⟩, HF, SF⟩
                unfold Go.results
                rw [hres]
                simp
              · rw [T8.get_set, if_neg (by decide), T8.get_set, if_neg (by decide)]; exact hg0
              · rw [T8.get_set, if_pos rfl]
              · show hs'.get a = _
                rw [hget, if_pos rfl]; rfl
              · show (act.tmps.setIfInBounds 7 _).getD 7 undef = _
                rw [Array.getD_eq_getD_getElem?, Array.getElem?_setIfInBounds, if_pos rfl, if_pos (by rw [s1]; decide)]; rfl
        · cases hr
    · cases hr
  · unfold oCopyP at hr
    split at hr
    · rename_i a b
      cases hab : a.same b with
      | true => rw [hab] at hr; cases hr
      | false =>
        rw [hab, cond_false] at hr
        split at hr
        · simp only [forceL_eq, forceN_eq, Hp.setK_eq, Bool.cond_eq_ite] at hr
          repeat' split at hr
          all_goals cases hr
        · cases hr
    · cases hr

end Go.AM

/-
  The keys of a map, sorted: a summary, by the library's contracts. Conditions stand at each law.
-/
namespace Go.AM
open Go.WideElems (rd rg)
variable {P : Program}

def smallI (n : Int) : Bool := match n with
  | .ofNat n => Nat.ble n 1000000000
  | _ => false

/-- The sorted keys of the map that lies in a struct's second cell. -/
noncomputable def oKeys (xs : List AV) (h : Hp) : RV :=
  match xs with
  | [.c (.p r o)] => match rLd (.c (.p r (Nat.succ o))) h with
    | some (.c (.m q)) => match h.get q with
      | some (.mp es _) => match intKeys es with
        | some l => bif l.all smallI then bif Nat.ble l.length 100000 then (match sortI l with
          | [] => .ok (.c .s0) h
          | x :: l => forceL ((x :: l).map fun n => Sc.i .i64 n) fun cs => h.newK (.cells true (ropeOf cs)) fun r h => .ok (.c (.sl r 0 cs.length (.u 1))) h) else .no else .no
        | none => .no
      | _ => .no
    | _ => .no
  | _ => .no

/-! ## Sorting -/
theorem insI_perm (x : Int) : ∀ l : List Int, (insI x l).Perm (x :: l)
  | [] => .refl _
  | y :: r => by
    unfold insI
    cases intLe x y with
    | true => exact .refl _
    | false => exact ((insI_perm x r).cons y).trans (.swap x y r)
theorem sortI_perm : ∀ l : List Int, (sortI l).Perm l
  | [] => .refl _
  | x :: r => (insI_perm x _).trans ((sortI_perm r).cons x)
theorem insI_sorted (x : Int) : ∀ {l : List Int}, l.Pairwise (· ≤ ·) → (insI x l).Pairwise (· ≤ ·)
  | [], _ => by simp [insI]
  | y :: r, h => by
    rw [List.pairwise_cons] at h
    unfold insI
    cases hb : intLe x y with
    | true =>
      have hxy : x ≤ y := by rw [intLe_iff] at hb; exact of_decide_eq_true hb
      rw [cond_true, List.pairwise_cons, List.pairwise_cons]
      exact ⟨fun z hz => by
        rcases List.mem_cons.1 hz with rfl | hz
        · exact hxy
        · exact Int.le_trans hxy (h.1 z hz), h.1, h.2⟩
    | false =>
      have hyx : y ≤ x := by
        have : ¬ x ≤ y := fun hle => by rw [intLe_iff, decide_eq_true hle] at hb; cases hb
        omega
      rw [cond_false, List.pairwise_cons]
      exact ⟨fun z hz => by
        rcases List.mem_cons.1 ((insI_perm x r).mem_iff.1 hz) with rfl | hz
        · exact hyx
        · exact h.1 z hz, insI_sorted x h.2⟩
theorem sortI_sorted : ∀ l : List Int, (sortI l).Pairwise (· ≤ ·)
  | [] => .nil
  | x :: r => insI_sorted x (sortI_sorted r)
theorem sortI_merge {l ss : List Int} (h : ss.Perm l) : ss.mergeSort (fun x y => decide (x ≤ y)) = sortI l := by
  have h1 : ss.mergeSort leI = (sortI l).mergeSort leI := mergeSort_of_perm_i (h.trans (sortI_perm l).symm)
  refine h1.trans (List.mergeSort_of_pairwise ((sortI_sorted l).imp fun h => ?_))
  exact decide_eq_true h

theorem intKeys_spec : ∀ {es : List (AV × AV)} {l : List Int}, intKeys es = some l → es.map Prod.fst = l.map fun n => AV.c (.i .i64 n)
  | [], l, h => by cases h; rfl
  | (k, v) :: r, l, h => by
    unfold intKeys at h
    split at h
    · rename_i e; cases e
    · rename_i n u r' e
      cases e
      cases hr : intKeys r with
      | none => rw [hr] at h; cases h
      | some l' =>
        rw [hr] at h; cases h
        simp only [List.map_cons]
        rw [intKeys_spec hr]
    · cases h

/-! ## A block that came from elsewhere gets a number -/
theorem RelH.adopt {ρ : Emb} {h : Hp} {w : World} (H : RelH P ρ h w) {g e : Nat} {B : Blk} (hg : g < w.heap.size) (hout : ¬ Dom ρ h g) (hB : RelB P (ρ.put h.next (g, 0) e) w g 0 e B) :
    RelH P (ρ.put h.next (g, 0) e) (h.new B) w ∧ ρ.le (ρ.put h.next (g, 0) e) ∧ ∀ {ρ0 : Emb} {h0 : Hp} {w0 : World}, Step ρ0 h0 w0 ρ h w → w0.heap.size ≤ g → Step ρ0 h0 w0 (ρ.put h.next (g, 0) e) (h.new B) w := by
  have hle := Emb.le_put (e := e) (x := (g, 0)) H.none_next
  have hold : ∀ {r C}, (h.new B).get r = some C → h.next ≠ r → h.get r = some C := fun {r C} hr hn => by rw [Hp.get_new, if_neg hn] at hr; exact hr
  have hemb : ∀ {r C b o}, h.get r = some C → (ρ.put h.next (g, 0) e) r = some (b, o) → ρ r = some (b, o) := fun {r C b o} hr h1 => by
    obtain ⟨b', o2, h3, _⟩ := H.blk r C hr
    rw [(hle _ _ h3).1] at h1; rw [h3, h1]
  refine ⟨⟨fun r C hr => ?_, fun r x hx => ?_, fun r q C D b o o' hrq hr hq h1 h2 => ?_⟩, hle, fun {ρ0 h0 w0} S hw => ⟨Emb.le_trans S.le hle, S.size, S.keep, fun b hb => ?_, fun b hb => ?_, ?_, fun r x hx => ?_, S.tape, S.os, S.out⟩⟩
  · by_cases en : h.next = r
    · rw [Hp.get_new, if_pos en] at hr; cases hr; subst en
      exact ⟨_, _, Emb.put_same _ _ _ _, hg, by rw [Emb.put_e]; exact hB⟩
    · obtain ⟨b, o, h1, h2, h3⟩ := H.blk r C (hold hr en)
      exact ⟨b, o, (hle _ _ h1).1, h2, by rw [(hle _ _ h1).2]; exact RelB.mono hle rfl h3⟩
  · show r.val < h.next.succ.val
    rw [Id.val_succ]
    rcases Emb.put_get hx with rfl | hx
    · omega
    · have := H.dom r x hx; omega
  · by_cases er : h.next = r
    · have eq : h.next ≠ q := fun e => hrq (er.symm.trans e)
      have h4 := hemb (hold hq eq) h2
      rw [← er, Emb.put_same] at h1; cases h1
      exact absurd ⟨q, D, o', hold hq eq, h4⟩ hout
    · have h3 := hemb (hold hr er) h1
      by_cases eq : h.next = q
      · rw [← eq, Emb.put_same] at h2; cases h2
        exact absurd ⟨r, C, o, hold hr er, h3⟩ hout
      · exact H.apart r q C D _ _ _ hrq (hold hr er) (hold hq eq) h3 (hemb (hold hq eq) h2)
  · obtain ⟨r, C, o, hr, hwr, hρ⟩ := hb
    by_cases er : h.next = r
    · subst er; rw [Emb.put_same] at hρ; cases hρ; exact .inr hw
    · exact S.img b ⟨r, C, o, hold hr er, hwr, hemb (hold hr er) hρ⟩
  · obtain ⟨r, C, o, hr, hρ⟩ := hb
    by_cases er : h.next = r
    · subst er; rw [Emb.put_same] at hρ; cases hρ; exact .inr hw
    · exact S.dom b ⟨r, C, o, hold hr er, hemb (hold hr er) hρ⟩
  · show h0.next.val ≤ h.next.succ.val
    rw [Id.val_succ]
    have := S.next; omega
  · rcases Emb.put_get hx with rfl | hx
    · exact .inr S.next
    · exact S.fresh r x hx

/-! ## What the library's contracts speak of -/
def heldAll (v : Value) : Option (DataW Value × List MemPlace) := some (.held v, [])

theorem insert_perm {H : Type} (x : Lit × DataW H) : ∀ l : List (Lit × DataW H), (DataW.insert x l).Perm (x :: l)
  | [] => .refl _
  | y :: r => by
    unfold DataW.insert
    split
    · exact .refl _
    · exact ((insert_perm x r).cons y).trans (.swap x y r)
theorem inserts_perm {H : Type} : ∀ l : List (Lit × DataW H), (l.foldr DataW.insert []).Perm l
  | [] => .refl _
  | x :: r => (insert_perm x _).trans ((inserts_perm r).cons x)

theorem smallI_wf {n : Int} (h : smallI n = true) : (Lit.int .i64 n).wf = true := by
  unfold smallI at h
  split at h
  · rename_i m
    rw [Nat.ble_eq] at h
    have h1 : IntKind.i64.min = -9223372036854775808 := by decide
    have h2 : IntKind.i64.max = 9223372036854775807 := by decide
    unfold Lit.wf
    simp only [h1, h2, Bool.and_eq_true, decide_eq_true_eq]
    constructor
    · have : (0 : Int) ≤ Int.ofNat m := Int.natCast_nonneg m
      omega
    · have : Int.ofNat m = (m : Int) := rfl
      rw [this]; omega
  · cases h

/-- A map of the machine's by small numbers, as the library's contracts see it. -/
theorem owns_of {kt : TypeId} {ρ : Emb} {w : World} {b ck : Nat} {es fs : List (AV × AV)} {ms : Array MapEntry} {l : List Int} (hk : P.underlying kt = some (.int .i64)) (hm : w.heap[b]? = some (.map ms ck)) (hp : fs.Perm es) (hf : All2 (RelE ρ) fs ms.toList)
    (hn : es.Pairwise (fun x y => x.1 ≠ y.1)) (hborn : ∀ m ∈ ms, m.born < ck) (hbd : ms.toList.Pairwise (fun x y => x.born ≠ y.born)) (hl : intKeys es = some l) (hs : ∀ n ∈ l, smallI n = true) (hlen : l.length ≤ 100000) :
    ∃ D : DataW Value, w.ownsMap P kt heldAll b ms.size D ∧ (_root_.Go.intKeys D).Perm l ∧ Maps.size D = l.length := by
  have hkeys := intKeys_spec hl
  -- the keys, in the world's order
  have hfk : (fs.map Prod.fst).Perm (l.map fun n => AV.c (.i .i64 n)) := by rw [← hkeys]; exact hp.map _
  have key : ∀ {fs : List (AV × AV)} {ms : List MapEntry}, All2 (RelE ρ) fs ms → (∀ k ∈ fs.map Prod.fst, ∃ n, k = .c (.i .i64 n) ∧ smallI n = true) →
      ∃ ns : List Int, fs.map Prod.fst = ns.map (fun n => AV.c (.i .i64 n)) ∧ ms.map (·.key) = ns.map (Value.int .i64) ∧ (∀ x ∈ ms, ∃ y, rd P kt heldAll x = some y) ∧ (ms.map (rg P kt heldAll)).map (fun p => intOf p.1) = ns := fun {fs ms} h => by
    induction h with
    | nil => exact fun _ => ⟨[], rfl, rfl, (fun x hx => by cases hx), rfl⟩
    | @cons a b fs' ms' hab _ ih =>
      intro hkk
      obtain ⟨ns, i1, i2, i3, i4⟩ := ih fun k hk => hkk k (by simp only [List.map_cons, List.mem_cons]; exact .inr hk)
      obtain ⟨n, e1, e2⟩ := hkk a.1 (by simp)
      have hv : b.key = .int .i64 n := by
        have := hab.1
        rw [e1] at this; exact this
      have hko : keyOf P kt b.key = some (.int .i64 n) := by
        rw [hv]
        unfold keyOf
        simp only [hk]
        unfold mapKey
        simp only [hk]
        rw [if_pos ⟨trivial, smallI_wf e2⟩]
      have hrd : rd P kt heldAll b = some (.int .i64 n, .held b.val) := by
        unfold rd
        rw [hko]; rfl
      refine ⟨n :: ns, by rw [List.map_cons, List.map_cons, e1, i1], by rw [List.map_cons, List.map_cons, hv, i2], fun x hx => ?_, ?_⟩
      · rcases List.mem_cons.1 hx with rfl | hx
        · exact ⟨_, hrd⟩
        · exact i3 x hx
      · rw [List.map_cons, List.map_cons, i4]
        unfold rg
        rw [hrd]; rfl
  have hall : ∀ k ∈ fs.map Prod.fst, ∃ n, k = .c (.i .i64 n) ∧ smallI n = true := fun k hk => by
    have := hfk.mem_iff.1 hk
    obtain ⟨n, h1, h2⟩ := List.mem_map.1 this
    exact ⟨n, h2.symm, hs n h1⟩
  obtain ⟨ns, i1, i2, i3, i4⟩ := key hf hall
  have hinj : ∀ {x y : List Int}, (x.map fun n => AV.c (.i .i64 n)).Perm (y.map fun n => AV.c (.i .i64 n)) → x.Perm y := fun {x y} h => by
    have h2 := h.map fun k : AV => match k with | .c (.i _ n) => n | _ => 0
    rw [List.map_map, List.map_map] at h2
    have : ∀ z : List Int, z.map ((fun k : AV => match k with | .c (.i _ n) => n | _ => 0) ∘ fun n => AV.c (.i .i64 n)) = z := fun z => by
      induction z with
      | nil => rfl
      | cons a z ih => rw [List.map_cons, ih]; rfl
    rw [this, this] at h2; exact h2
  have hns : ns.Perm l := hinj (by rw [← i1]; exact hfk)
  have hnd : ns.Nodup := by
    have h1 : (fs.map Prod.fst).Nodup := (hp.map Prod.fst).nodup_iff.2 (by rw [List.nodup_iff_pairwise_ne, List.pairwise_map]; exact hn)
    rw [i1] at h1
    exact List.nodup_iff_pairwise_ne.2 (List.Pairwise.of_map (fun n => AV.c (.i .i64 n)) (fun a b h e => h (e ▸ rfl)) (List.nodup_iff_pairwise_ne.1 h1))
  have hsz : ms.size = l.length := by
    have h1 := congrArg List.length i2
    simp only [List.length_map, Array.length_toList] at h1
    rw [h1, hns.length_eq]
  have hmax : (100000 : Nat) ≤ maxLen := by decide
  refine ⟨.map ((ms.toList.map (rg P kt heldAll)).foldr DataW.insert []), ⟨ms, ck, hm, ⟨by omega, ⟨fun x hx => hborn x (by simpa using hx), ?_, ?_⟩, i3⟩, Nat.le_refl _, rfl⟩, ?_, ?_⟩
  · rw [List.nodup_iff_pairwise_ne, List.pairwise_map]; exact hbd
  · rw [i2]
    rw [List.nodup_iff_pairwise_ne, List.pairwise_map]
    exact (List.nodup_iff_pairwise_ne.1 hnd).imp fun h e => h (by cases e; rfl)
  · show (((ms.toList.map (rg P kt heldAll)).foldr DataW.insert []).map fun p => intOf p.1).Perm l
    refine ((inserts_perm _).map _).trans ?_
    rw [i4]; exact hns
  · show ((ms.toList.map (rg P kt heldAll)).foldr DataW.insert []).length = l.length
    rw [(inserts_perm _).length_eq, List.length_map, Array.length_toList, hsz]

theorem keys_ok {f : P4} {fn : Func} {kt et : TypeId} (hf : P.funcs[f.n]? = some fn) (hb : fn.body.isSome = true) (hnm : (fn.name == "runtime.NumGoroutine") = false) (hk : P.underlying kt = some (.int .i64))
    (hC : ∀ (pb po b nn : Nat) (D0 : DataW Value) (R : Value → Option (DataW Value × List MemPlace)) (w : World), w.cell? ⟨pb, po + 1, none⟩ = some (.map (some b)) → w.ownsMap P kt R b nn D0 → Maps.size D0 ≤ maxLen → Maps.size D0 * 8 ≤ 140737488355328 →
      Calls P f.n #[.pointer (some ⟨pb, po, none⟩)] w fun e w' => ∃ (v : Value) (ss : List Int), e = .returned v ∧ ss.Perm (_root_.Go.intKeys D0) ∧
        w'.ownsRow w.heap.size et 1 v ss.length ((ss.mergeSort (fun x y => decide (x ≤ y))).map encZ) ∧ (v = .slice none 0 0 ↔ ss = []) ∧ RowKit.Below w.heap.size w w') : OrcOk P f oKeys := by
  refine ⟨fun {xs h v h'} hr => ⟨fn, hf, hb, hnm, fun ρ w args H hargs => ?_⟩, fun {xs h d h'} hr => ?_⟩
  · unfold oKeys at hr
    split at hr
    · rename_i r o
      split at hr
      · rename_i q hq
        split at hr
        · rename_i es ck hgq
          split at hr
          · rename_i l hl
            simp only [Bool.cond_eq_ite] at hr
            split at hr
            · rename_i hsm
              split at hr
              · rename_i hlen
                rw [List.all_eq_true] at hsm
                rw [Nat.ble_eq] at hlen
                -- the argument
                obtain ⟨av⟩ := args
                have hargs : All2 (RelV ρ) [AV.c (.p r o)] av := hargs
                cases hargs with
                | @cons _ v0 _ rest hv0 hrest =>
                cases hrest
                obtain ⟨a0, rfl, b0, o0, hr0, rfl⟩ := hv0
                obtain ⟨a2, v2, e1, hcell, s, e2, hs2⟩ := rLd_sound H (x := .c (.p r (Nat.succ o))) (x' := .pointer (some ⟨b0, o0 + (o + 1), none⟩)) ⟨_, rfl, b0, o0, hr0, rfl⟩ hq
                cases e1; cases e2
                obtain ⟨mb, hρq, rfl⟩ := hs2
                obtain ⟨mb', ms, fs, c1, c2, c3, c4, c5, c6, c7⟩ := H.mp hgq
                rw [hρq] at c1; cases c1
                obtain ⟨D, hown, hD, hDs⟩ := owns_of (kt := kt) hk c2 c3 c4 c5 c6 c7 hl hsm hlen
                have hmax : (100000 : Nat) ≤ maxLen := by decide
                refine (hC b0 (o0 + o) mb ms.size D heldAll w hcell hown (by omega) (by omega)).mono fun e w' ⟨v', ss, he, hperm, hrow, hnil, hB⟩ => ?_
                subst he
                have hsort := sortI_merge (hperm.trans hD)
                rw [hsort] at hrow
                have hlen2 : ss.length = (sortI l).length := by rw [(hperm.trans hD).length_eq, (sortI_perm l).length_eq]
                have H' : RelH P ρ h w' := H.stay hB.size hB.block
                have S' : Step ρ h w ρ h w' := ⟨ρ.le_refl, hB.size, fun b hb _ => hB.block b hb, fun _ h => .inl h, fun _ h => .inl h, Nat.le_refl _, fun _ _ h => .inl h, hB.tape, hB.os, hB.output⟩
                split at hr
                · rename_i hse
                  cases hr
                  rw [hse] at hlen2
                  exact ⟨v', ρ, rfl, hnil.2 (List.eq_nil_of_length_eq_zero hlen2), H', S'⟩
                · rename_i x l' hse
                  simp only [forceL_eq, Hp.newK_eq] at hr
                  cases hr
                  rw [hse] at hlen2
                  rcases hrow.2 with ⟨rfl, hz⟩ | ⟨g, cap, cur, rfl, hg, hgb, r1, r2, r3, r4⟩
                  · rw [hlen2] at hz; cases hz
                  · have hgl : g < w'.heap.size := (Array.getElem?_eq_some_iff.1 hgb).1
                    have hout : ¬ Dom ρ h g := fun ⟨q', B, o', h1, h2⟩ => by
                      obtain ⟨b', o2, h3, h4, _⟩ := H.blk q' B h1
                      rw [h3] at h2; cases h2; omega
                    rw [Nat.mul_one] at r3 r4
                    rw [hse] at r4
                    have hRl : ((x :: l').map fun n => Sc.i .i64 n).length = ss.length := by rw [List.length_map, hlen2]
                    have hB2 : RelB P (ρ.put h.next (g, 0) cur.size) w' g 0 cur.size (.cells true (ropeOf ((x :: l').map fun n => Sc.i .i64 n))) := by
                      refine relB_row hgb (.inl (Nat.le_refl _)) (ropeOf_ok _) true ?_
                      rw [ropeOf_toList, hRl, r4]
                      have : ∀ {σ : Emb} (l : List Int), RelL σ (l.map fun n => Sc.i .i64 n) (l.map encZ) := fun {σ} l => by
                        induction l with
                        | nil => exact .nil
                        | cons a l ih => exact .cons rfl ih
                      exact this _
                    obtain ⟨q1, q2, q3⟩ := H'.adopt hgl hout hB2
                    refine ⟨_, _, rfl, ?_, q1, q3 S' hg⟩
                    refine ⟨⟨g, 0, none⟩, cap, ?_, ?_, (fun m e => by cases e), fun _ => ⟨⟨g, 0, Emb.put_same _ _ _ _, rfl⟩, fun z b q hz hb => ?_⟩⟩
                    · rw [hRl]
                    · rw [hRl]; exact r1
                    · cases hz
                      rw [Emb.put_same] at hb; cases hb
                      rw [Emb.put_e, r3]; omega
              · cases hr
            · cases hr
          · cases hr
        · cases hr
      · cases hr
    · cases hr
  · unfold oKeys at hr
    repeat' split at hr
    all_goals first | (cases hr; done) | (simp only [Bool.cond_eq_ite, forceL_eq, Hp.newK_eq] at hr; repeat' split at hr) <;> cases hr

end Go.AM

/-
  A table of functions, place by place. Conditions stand at each law.
-/
namespace Go.AM
variable {P : Program}

def OkAt (P : Program) (f : P4) (x : Option AFn) : Prop :=
  match x with
  | none => True
  | some (.fn ps rs b) => ∃ fn, P.funcs[f.n]? = some fn ∧ cFn P fn = some (.fn ps rs b)
  | some (.orc run) => OrcOk P f run
def Ok1 (P : Program) (w x y : D) (t : N8 (Option AFn)) : Prop := ∀ z, OkAt P (.mk w (.mk x y z)) (N8.get t z)
def Ok2 (P : Program) (w x : D) (t : N8 (N8 (Option AFn))) : Prop := ∀ y, Ok1 P w x y (N8.get t y)
def Ok3 (P : Program) (w : D) (t : N8 (N8 (N8 (Option AFn)))) : Prop := ∀ x, Ok2 P w x (N8.get t x)

/-- A function's code is as told. -/
theorem OkAt.fn {f : P4} {n : Nat} {fn : Func} {x : AFn} (hn : f.n = n) (hf : P.funcs[n]? = some fn) (hc : cFn P fn = some x) : OkAt P f (some x) := by
  subst hn
  cases x with
  | fn ps rs b => exact ⟨fn, hf, hc⟩
  | orc run =>
    unfold cFn at hc
    simp only [Option.bind_eq_bind, Option.bind_eq_some_iff, Option.pure_def] at hc
    obtain ⟨b, _, h⟩ := hc
    split at h
    · cases h
    · cases hr : fn.results.toList.mapM (rsOf P) with
      | none => rw [hr] at h; cases h
      | some rs => rw [hr] at h; cases h

theorem FTOk.of {FT : FT} (h : ∀ w, Ok3 P w (N8.get FT w)) : FTOk P FT := by
  have key : ∀ f, OkAt P f (F8.get FT f) := fun f => by
    cases f with | mk w p => cases p with | mk x y z =>
    have : F8.get FT (.mk w (.mk x y z)) = N8.get (N8.get (N8.get (N8.get FT w) x) y) z := by
      unfold F8.get F8.getK
      simp only [N8.getK_eq, T8.getK_eq, T8.get_eq, id]
    rw [this]
    exact h w x y z
  constructor
  · intro f ps rs body hg
    have := key f
    rw [hg] at this; exact this
  · intro f run hg
    have := key f
    rw [hg] at this; exact this

end Go.AM

/-
  What comes in, as the machine sees it. Conditions stand at each law.
-/
namespace Go.AM
open Go.ChangeShapes Go.WideShapes Go.ChangeAt Go.RowKit
variable {P : Program} {H : Type} {enc : TypeId × Value → H} {w : World} {base : Nat} {held : Bool}

theorem cell_plain {w : World} {a : Addr} {v : Value} (h : w.cell? a = some v) : a = ⟨a.block, a.off, none⟩ := by
  obtain ⟨b, o, s⟩ := a
  cases s with
  | none => rfl
  | some s =>
    unfold World.cell? at h
    simp only [Option.isSome_some, if_true] at h
    split at h <;> cases h

/-- A slice of which nothing is read: only its name. -/
theorem slice_name {t e : TypeId} {fuel : Nat} {cs : List Value} {x : DataW H × List MemPlace} (ht : P.underlying t = some (.slice e)) (hc : P.cellsOf e ≠ 0) (h : DataW.trod enc P w base (fun _ => true) held fuel t cs = some x) :
    ∃ (v : Value) (X : Id → Sc) (b o : Nat), cs = [v] ∧ (∃ n c, ∀ r, X r = .s0 ∨ X r = .sl r 0 n (.k c)) ∧ ∀ (ρ : Emb) (r : Id), ρ r = some (b, o) → RelS ρ (X r) v := by
  rcases Deep.open_slice ht h with ⟨rfl, _⟩ | ⟨a, len, cap, m, n, D, Pl, rfl, _, hl, _, hm, _, hx⟩
  · exact ⟨_, fun _ => .s0, 0, 0, rfl, ⟨0, 0, fun _ => .inl rfl⟩, fun ρ r _ => rfl⟩
  · refine ⟨_, fun r => .sl r 0 len (.k cap), a.block, a.off, rfl, ⟨len, cap, fun _ => .inr rfl⟩, fun ρ r hr => ⟨a, cap, rfl, hl, (fun m e => by cases e; rfl), fun hcap => ⟨⟨a.block, a.off, hr, ?_⟩, fun z b q hz => (by cases hz)⟩⟩⟩
    have hm' : m = cap := by simpa using hm
    obtain ⟨cs', h1, _⟩ := hx 0 (by omega)
    unfold World.cells? at h1
    split at h1
    · cases hk : P.cellsOf e with
      | zero => exact absurd hk hc
      | succ k =>
        rw [hk, List.range_succ_eq_map, List.mapM_cons] at h1
        cases hv : w.cell? ((a.add (0 * (k + 1))).add 0) with
        | none => rw [hv] at h1; cases h1
        | some v =>
          have := cell_plain hv
          rw [Nat.zero_mul] at this
          have e0 : (a.add 0).add 0 = a := by
            obtain ⟨b, o, s⟩ := a
            unfold Addr.add
            cases s <;> simp
          rw [e0] at this
          exact this
    · cases h1

end Go.AM

